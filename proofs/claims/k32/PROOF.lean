import PyProof.Rows.All
import Wide.All
import OpenK.AllK
import Wide.FinOn
import HandS.ForMost
import HandS.TupAny
import HandS.TupMul
import HandS.IsInst
import HandS.Style
import KE.GoesEnum
import HandS.Deep
import HandS.WordsDict
import HandS.Text
import HandS.SetFor
import HandS.Zip
import KE.SortData
import KE.DataMinMax
import HandS.SortOrd
import KE.KDictSum
import HandS.More
import HandS.DictTup
import HandS.DictComp
import HandS.SetKeys
import HandS.Set
import KE.KDictZip
import HandS.Conv
import HandS.Flow
import HandS.TupLen
import HandS.ReplaceLit
import HandS.ReplaceList
import PyProof.StrLawsTight
import PyProof.StrLawsChain
import PyProof.Rows.StrItems
import HandS.Codes
import HandS.Star
import PyProof.InstNe
import PySem.Challenge.RW_boldtoggle_k32_worked_scripts_on_long_li
set_option Elab.async false
set_option linter.all false
set_option maxRecDepth 100000
set_option maxHeartbeats 4000000
/-! Layer Y: values as plain data over the hand layer. -/
namespace Y
open PySem PySem.Spec PyProof.Rows L2

/-! ### descriptors -/
mutual
/-- no dict within -/
def noD : PyData → Bool
  | .none | .bool _ | .int _ | .str _ => true
  | .list xs => noDAll xs
  | .tuple xs => noDAll xs
  | .dict _ => false
def noDAll : List PyData → Bool
  | [] => true
  | x :: xs => noD x && noDAll xs
end
/-- e: values of this kind may be compared -/
structure Rp (α : Type) where
  toD : α → PyData
  e : Bool
  n : Nat
  hn : e = true → ∀ a, (toD a).depth ≤ n
  inj : e = true → ∀ a b, PyData.eqv (toD a) (toD b) = true ↔ a = b
  nd : e = true → ∀ a, noD (toD a) = true

def rI : Rp Int := ⟨.int, true, 1, fun _ _ => by simp [PyData.depth], fun _ a b => by simp [PyData.eqv], fun _ a => by simp [noD]⟩
def rB : Rp Bool := ⟨.bool, true, 1, fun _ _ => by simp [PyData.depth], fun _ a b => by simp [PyData.eqv], fun _ a => by simp [noD]⟩
def rN : Rp Unit := ⟨fun _ => .none, true, 1, fun _ _ => by simp [PyData.depth], fun _ a b => by simp [PyData.eqv], fun _ a => by simp [noD]⟩
def rS : Rp (List Nat) := ⟨fun x => .str ⟨x.toArray⟩, true, 1, fun _ _ => by simp [PyData.depth], fun _ a b => by
  simp [PyData.eqv], fun _ a => by simp [noD]⟩
theorem eqvAll_map {α : Type} (R : Rp α) (he : R.e = true) : ∀ (a b : List α), PyData.eqvAll (a.map R.toD) (b.map R.toD) = true ↔ a = b
  | [], [] => by simp [PyData.eqvAll]
  | [], _ :: _ => by simp [PyData.eqvAll]
  | _ :: _, [] => by simp [PyData.eqvAll]
  | x :: xs, y :: ys => by
    simp only [List.map_cons, PyData.eqvAll, Bool.and_eq_true, R.inj he, eqvAll_map R he xs ys, List.cons.injEq]
theorem depthAll_map {α : Type} (R : Rp α) (he : R.e = true) : ∀ (a : List α), PyData.depthAll (a.map R.toD) ≤ R.n
  | [] => by simp [PyData.depthAll]
  | x :: xs => by
    have h1 := R.hn he x
    have h2 := depthAll_map R he xs
    simp only [List.map_cons, PyData.depthAll]
    omega
theorem noDAll_map {α : Type} (R : Rp α) (he : R.e = true) : ∀ (a : List α), noDAll (a.map R.toD) = true
  | [] => by simp [noDAll]
  | x :: xs => by
    simp only [List.map_cons, noDAll, R.nd he x, noDAll_map R he xs]
    rfl
def rL {α : Type} (R : Rp α) : Rp (List α) := ⟨fun xs => .list (xs.map R.toD), R.e, R.n + 1, fun he a => by
  have := depthAll_map R he a
  simp only [PyData.depth]; omega, fun he a b => by simp only [PyData.eqv]; exact eqvAll_map R he a b, fun he a => by simp only [noD]; exact noDAll_map R he a⟩
def rT {α : Type} (R : Rp α) : Rp (List α) := ⟨fun xs => .tuple (xs.map R.toD), R.e, R.n + 1, fun he a => by
  have := depthAll_map R he a
  simp only [PyData.depth]; omega, fun he a b => by simp only [PyData.eqv]; exact eqvAll_map R he a b, fun he a => by simp only [noD]; exact noDAll_map R he a⟩
theorem and2 {a b : Bool} (h : (a && b) = true) : a = true ∧ b = true := by simpa using h
def rP {α β : Type} (R : Rp α) (S : Rp β) : Rp (α × β) := ⟨fun p => .tuple [R.toD p.1, S.toD p.2], R.e && S.e, max R.n S.n + 1, fun he p => by
  have h1 := R.hn (and2 he).1 p.1
  have h2 := S.hn (and2 he).2 p.2
  simp only [PyData.depth, PyData.depthAll]; omega, fun he a b => by
  obtain ⟨a1, a2⟩ := a
  obtain ⟨b1, b2⟩ := b
  simp [PyData.eqv, PyData.eqvAll, R.inj (and2 he).1, S.inj (and2 he).2], fun he p => by simp [noD, noDAll, R.nd (and2 he).1, S.nd (and2 he).2]⟩
def r3 {α β γ : Type} (R : Rp α) (S : Rp β) (T : Rp γ) : Rp (α × β × γ) := ⟨fun p => .tuple [R.toD p.1, S.toD p.2.1, T.toD p.2.2], R.e && (S.e && T.e), max R.n (max S.n T.n) + 1, fun he p => by
  have h1 := R.hn (and2 he).1 p.1
  have h2 := S.hn (and2 (and2 he).2).1 p.2.1
  have h3 := T.hn (and2 (and2 he).2).2 p.2.2
  simp only [PyData.depth, PyData.depthAll]; omega, fun he a b => by
  obtain ⟨a1, a2, a3⟩ := a
  obtain ⟨b1, b2, b3⟩ := b
  simp [PyData.eqv, PyData.eqvAll, R.inj (and2 he).1, S.inj (and2 (and2 he).2).1, T.inj (and2 (and2 he).2).2], fun he p => by simp [noD, noDAll, R.nd (and2 he).1, S.nd (and2 (and2 he).2).1, T.nd (and2 (and2 he).2).2]⟩
def r4 {α β γ δ : Type} (R : Rp α) (S : Rp β) (T : Rp γ) (U : Rp δ) : Rp (α × β × γ × δ) := ⟨fun p => .tuple [R.toD p.1, S.toD p.2.1, T.toD p.2.2.1, U.toD p.2.2.2], (R.e && S.e) && (T.e && U.e), max (max R.n U.n) (max S.n T.n) + 1, fun he p => by
  have h1 := R.hn (and2 (and2 he).1).1 p.1
  have h2 := S.hn (and2 (and2 he).1).2 p.2.1
  have h3 := T.hn (and2 (and2 he).2).1 p.2.2.1
  have h4 := U.hn (and2 (and2 he).2).2 p.2.2.2
  simp only [PyData.depth, PyData.depthAll]; omega, fun he a b => by
  obtain ⟨a1, a2, a3, a4⟩ := a
  obtain ⟨b1, b2, b3, b4⟩ := b
  simp [PyData.eqv, PyData.eqvAll, R.inj (and2 (and2 he).1).1, S.inj (and2 (and2 he).1).2, T.inj (and2 (and2 he).2).1, U.inj (and2 (and2 he).2).2], fun he p => by simp [noD, noDAll, R.nd (and2 (and2 he).1).1, S.nd (and2 (and2 he).1).2, T.nd (and2 (and2 he).2).1, U.nd (and2 (and2 he).2).2]⟩
/-- None or a value that is not None -/
def rO {α : Type} (R : Rp α) (h : ∀ a, PyData.eqv .none (R.toD a) = false ∧ PyData.eqv (R.toD a) .none = false := by exact fun _ => ⟨rfl, rfl⟩) : Rp (Option α) :=
  ⟨fun o => match o with | none => .none | some a => R.toD a, R.e, max R.n 1, fun he o => by
    cases o with
    | none => simp only [PyData.depth]; omega
    | some a => have := R.hn he a; simp only; omega, fun he a b => by
    cases a with
    | none => cases b with
      | none => simp [PyData.eqv]
      | some b => simp [(h b).1]
    | some a => cases b with
      | none => simp [(h a).2]
      | some b => simp [R.inj he], fun he o => by
    cases o with
    | none => simp [noD]
    | some a => exact R.nd he a⟩
/-- a dict, its keys of one kind -/
def rD {κ α : Type} (Q : Rp κ) (R : Rp α) : Rp (List (κ × α)) := ⟨fun kvs => .dict (kvs.map fun p => (Q.toD p.1, R.toD p.2)), false, 1, nofun, nofun, nofun⟩
/-- a dict whose keys are tuples -/
def rE {κ α : Type} (Q : Rp κ) (R : Rp α) : Rp (List (κ × α)) := ⟨fun kvs => .dict [(.none, .dict (kvs.map fun p => (Q.toD p.1, R.toD p.2)))], false, 1, nofun, nofun, nofun⟩
/-- a set, of which just the size is known -/
def rQ : Rp Nat := ⟨fun n => .dict [(.none, .int n)], false, 1, nofun, nofun, nofun⟩

theorem Rp.eq {α : Type} [DecidableEq α] (R : Rp α) (he : R.e = true) (a b : α) : PyData.eqv (R.toD a) (R.toD b) = decide (a = b) := by
  by_cases h : a = b
  · rw [decide_eq_true h, (R.inj he a b).mpr h]
  · rw [decide_eq_false h]
    cases q : PyData.eqv (R.toD a) (R.toD b) with
    | false => rfl
    | true => exact absurd ((R.inj he a b).mp q) h

/-! ### heaps -/
theorem Same.upd {H : Hp} {p : Addr} {o : HO} (h : H p = none) : Same H (upd H p o) := fun b x e => by
  rw [upd_ne (ne_of_none e h)]
  exact e
theorem SameT {K : PySem.W.Frag} {H H' : Hp} {a : Addr} {xs : List V} (e : Same H H') (h : SqT K H a xs) : SqT K H' a xs := by
  rcases h with (h | ⟨o, h⟩) | h
  · exact .inl (.inl (e _ _ h))
  · exact .inl (.inr ⟨o, e _ _ h⟩)
  · exact .inr h
def keyD : L2.Key → PyData
  | .inl i => .int i
  | .inr x => .str x
/-- a set of n things -/
def SetN (a : Addr) (n : Nat) : HO := .ext fun h => ∃ o es ep t, h.get? a = some o ∧ o.ExactSet ∧ o.data = .set es ep t ∧ t.fits es.size = true ∧ es.size = n ∧ n ≤ sizeLine
/-! data as they lie in the heap (lists: tracked or frozen) -/
mutual
inductive Dq (K : PySem.W.Frag) (H : Hp) : V → PyData → Prop
  | non : Dq K H .non .none
  | bl (b : Bool) : Dq K H (.bl b) (.bool b)
  | int (i : Int) : Dq K H (.int i) (.int i)
  | str (x : Str) : Dq K H (.str x) (.str x)
  | lst {a : Addr} {xs : List V} {ds : List PyData} : Rd H a (.lst xs) → DqAll K H xs ds → Dq K H (.ref a) (.list ds)
  | tup {a : Addr} {xs : List V} {ds : List PyData} : H a = some (.tup xs) → DqAll K H xs ds → Dq K H (.ref a) (.tuple ds)
  | dct {a : Addr} {o : Obj} {kvs : List (L2.Key × V)} {ds : List (PyData × PyData)} : H a = some (.frz o (.dK kvs)) → ds.map (·.1) = kvs.map (fun p => keyD p.1) → DqAll K H (kvs.map (·.2)) (ds.map (·.2)) → Dq K H (.ref a) (.dict ds)
  | dcT {a : Addr} {o : Obj} {kvs : List (List L2.Key × V)} {ds : List (PyData × PyData)} : H a = some (.frz o (.dT kvs)) → ds.map (·.1) = kvs.map (fun p => .tuple (p.1.map keyD)) → DqAll K H (kvs.map (·.2)) (ds.map (·.2)) → Dq K H (.ref a) (.dict [(.none, .dict ds)])
  | stn {a : Addr} {n : Nat} : H a = some (SetN a n) → Dq K H (.ref a) (.dict [(.none, .int n)])
  | obj {a C dx : Addr} {fs : List (Str × V)} {ds : List (PyData × PyData)} : H a = some (.ins C dx fs) → H dx = some (.own a) → ds.map (·.1) = fs.map (fun p => .str p.1) → DqAll K H (fs.map (·.2)) (ds.map (·.2)) → Dq K H (.ref a) (.dict [(.none, .list [.int C, .dict ds])])
inductive DqAll (K : PySem.W.Frag) (H : Hp) : List V → List PyData → Prop
  | nil : DqAll K H [] []
  | cons {v : V} {vs : List V} {d : PyData} {ds : List PyData} : Dq K H v d → DqAll K H vs ds → DqAll K H (v :: vs) (d :: ds)
end
theorem Rd.mono {H H' : Hp} {a : Addr} {u : HO} (e : Same H H') (h : Rd H a u) : Rd H' a u := h.imp (e _ _) fun ⟨o, q⟩ => ⟨o, e _ _ q⟩
mutual
theorem Dq.dp {K : PySem.W.Frag} {H : Hp} : ∀ (d : PyData) (v : V), Dq K H v d → noD d = true → Dp K H v d
  | _, _, .non, _ => .non
  | _, _, .bl b, _ => .bl b
  | _, _, .int b, _ => .int b
  | _, _, .str b, _ => .str b
  | _, _, .lst hs ha, n => .lst (.inl hs) (DqAll.dp _ _ ha (by simpa [noD] using n))
  | _, _, .tup hs ha, n => .tup (.inl (.inl hs)) (DqAll.dp _ _ ha (by simpa [noD] using n))
  | _, _, .dct _ _ _, n => by simp [noD] at n
  | _, _, .dcT _ _ _, n => by simp [noD] at n
  | _, _, .stn _, n => by simp [noD] at n
  | _, _, .obj _ _ _ _, n => by simp [noD] at n
theorem DqAll.dp {K : PySem.W.Frag} {H : Hp} : ∀ (ds : List PyData) (vs : List V), DqAll K H vs ds → noDAll ds = true → DpAll K H vs ds
  | _, _, .nil, _ => .nil
  | _, _, .cons h1 h2, n => .cons (Dq.dp _ _ h1 (by simp only [noDAll] at n; exact (and2 n).1)) (DqAll.dp _ _ h2 (by simp only [noDAll] at n; exact (and2 n).2))
end
mutual
theorem Dq.mono {K : PySem.W.Frag} {H H' : Hp} (e : Same H H') : ∀ (d : PyData) (v : V), Dq K H v d → Dq K H' v d
  | _, _, .non => .non
  | _, _, .bl b => .bl b
  | _, _, .int b => .int b
  | _, _, .str b => .str b
  | _, _, .lst hs ha => .lst (Rd.mono e hs) (DqAll.mono e _ _ ha)
  | _, _, .tup hs ha => .tup (e _ _ hs) (DqAll.mono e _ _ ha)
  | _, _, .dct h1 h2 h3 => .dct (e _ _ h1) h2 (DqAll.mono e _ _ h3)
  | _, _, .dcT h1 h2 h3 => .dcT (e _ _ h1) h2 (DqAll.mono e _ _ h3)
  | _, _, .stn h => .stn (e _ _ h)
  | _, _, .obj h1 h2 h3 h4 => .obj (e _ _ h1) (e _ _ h2) h3 (DqAll.mono e _ _ h4)
theorem DqAll.mono {K : PySem.W.Frag} {H H' : Hp} (e : Same H H') : ∀ (ds : List PyData) (vs : List V), DqAll K H vs ds → DqAll K H' vs ds
  | _, _, .nil => .nil
  | _, _, .cons h1 h2 => .cons (Dq.mono e _ _ h1) (DqAll.mono e _ _ h2)
end
theorem DqAll.len {K : PySem.W.Frag} {H : Hp} : ∀ {vs : List V} {ds : List PyData}, DqAll K H vs ds → vs.length = ds.length
  | _, _, .nil => rfl
  | _, _, .cons _ h => by simp [DqAll.len h]
theorem DqAll.get {K : PySem.W.Frag} {H : Hp} : ∀ {vs : List V} {ds : List PyData} {i : Nat} {d : PyData}, DqAll K H vs ds → ds[i]? = some d → ∃ v, vs[i]? = some v ∧ Dq K H v d
  | _, _, _, _, .nil, e => by simp at e
  | _, _, 0, _, .cons h _, e => by simp at e; subst e; exact ⟨_, rfl, h⟩
  | _, _, i + 1, _, .cons _ h, e => by
    obtain ⟨v, a, b⟩ := DqAll.get (i := i) h (by simpa using e)
    exact ⟨v, by simpa using a, b⟩
theorem DqAll.app {K : PySem.W.Frag} {H : Hp} : ∀ {vs us : List V} {ds es : List PyData}, DqAll K H vs ds → DqAll K H us es → DqAll K H (vs ++ us) (ds ++ es)
  | _, _, _, _, .nil, h => h
  | _, _, _, _, .cons a b, h => .cons a (DqAll.app b h)
theorem DqAll.take {K : PySem.W.Frag} {H : Hp} : ∀ {vs : List V} {ds : List PyData} (n : Nat), DqAll K H vs ds → DqAll K H (vs.take n) (ds.take n)
  | _, _, 0, _ => by simpa using DqAll.nil
  | _, _, n + 1, .nil => by simpa using DqAll.nil
  | _, _, n + 1, .cons a b => .cons a (DqAll.take n b)
theorem DqAll.drop {K : PySem.W.Frag} {H : Hp} : ∀ {vs : List V} {ds : List PyData} (n : Nat), DqAll K H vs ds → DqAll K H (vs.drop n) (ds.drop n)
  | _, _, 0, h => h
  | _, _, n + 1, .nil => by simpa using DqAll.nil
  | _, _, n + 1, .cons a b => DqAll.drop n b
theorem DqAll.set {K : PySem.W.Frag} {H : Hp} {v : V} {d : PyData} (h : Dq K H v d) : ∀ {vs : List V} {ds : List PyData} (n : Nat), DqAll K H vs ds → DqAll K H (vs.set n v) (ds.set n d)
  | _, _, _, .nil => .nil
  | _, _, 0, .cons _ b => .cons h b
  | _, _, n + 1, .cons a b => .cons a (DqAll.set h n b)
theorem DqAll.rev {K : PySem.W.Frag} {H : Hp} : ∀ {vs : List V} {ds : List PyData}, DqAll K H vs ds → DqAll K H vs.reverse ds.reverse
  | _, _, .nil => .nil
  | _, _, .cons a b => by
    rw [List.reverse_cons, List.reverse_cons]
    exact DqAll.app (DqAll.rev b) (.cons a .nil)
mutual
/-- texts of known signs; lengths within the line -/
def okD : PyData → Bool
  | .none | .bool _ | .int _ => true
  | .str x => PyData.strOk x && decide (x.length ≤ 16777216)
  | .list xs => okAll xs && decide (xs.length ≤ 16777216)
  | .tuple xs => okAll xs && decide (xs.length ≤ 16777216)
  | .dict kvs => okKv kvs && decide (kvs.length ≤ 16777216)
def okAll : List PyData → Bool
  | [] => true
  | x :: xs => okD x && okAll xs
def okKv : List (PyData × PyData) → Bool
  | [] => true
  | (k, x) :: xs => okD k && okD x && okKv xs
end
theorem okAll_iff {ds : List PyData} : okAll ds = true ↔ ∀ d ∈ ds, okD d = true := by
  induction ds with
  | nil => simp [okAll]
  | cons d ds ih => simp [okAll, ih]
theorem okKv_iff {ds : List (PyData × PyData)} : okKv ds = true ↔ ∀ d ∈ ds, okD d.1 = true ∧ okD d.2 = true := by
  induction ds with
  | nil => simp [okKv]
  | cons d ds ih => obtain ⟨k, x⟩ := d; simp [okKv, ih, and_assoc]
mutual
theorem can_of : ∀ d : PyData, okD d = true → noD d = true → d.canLay0 = true
  | .none, _, _ => by simp [PyData.canLay0]
  | .bool b, _, _ => by simp [PyData.canLay0]
  | .int b, _, _ => by simp [PyData.canLay0]
  | .str b, h, _ => by simp only [okD, Bool.and_eq_true] at h; simpa [PyData.canLay0] using h.1
  | .list xs, h, n => by simp only [okD, Bool.and_eq_true] at h; simp only [noD] at n; simpa [PyData.canLay0] using can_ofAll xs h.1 n
  | .tuple xs, h, n => by simp only [okD, Bool.and_eq_true] at h; simp only [noD] at n; simpa [PyData.canLay0] using can_ofAll xs h.1 n
  | .dict _, _, n => by simp [noD] at n
theorem can_ofAll : ∀ ds : List PyData, okAll ds = true → noDAll ds = true → PyData.canLayAll0 ds = true
  | [], _, _ => by simp [PyData.canLayAll0]
  | x :: xs, h, n => by
    simp only [okAll, Bool.and_eq_true] at h
    simp only [noDAll, Bool.and_eq_true] at n
    simp only [PyData.canLayAll0, Bool.and_eq_true]
    exact ⟨can_of x h.1 n.1, can_ofAll xs h.2 n.2⟩
end
theorem okL {ds : List PyData} : okD (.list ds) = true ↔ (∀ d ∈ ds, okD d = true) ∧ ds.length ≤ 16777216 := by
  simp [okD, okAll_iff]
theorem okT {ds : List PyData} : okD (.tuple ds) = true ↔ (∀ d ∈ ds, okD d = true) ∧ ds.length ≤ 16777216 := by
  simp [okD, okAll_iff]

/-! ### representation -/
def Rep {α : Type} (K : PySem.W.Frag) (F : Hp) (v : V) (R : Rp α) (a : α) : Prop := Dq K F v (R.toD a) ∧ okD (R.toD a) = true
def Vw {α : Type} (K : PySem.W.Frag) (F H : Hp) (v : V) (R : Rp α) (a : α) : Prop :=
  Rep K F v R a ∨ ∃ p vs ds, v = .ref p ∧ H p = some (.lst vs) ∧ R.toD a = .list ds ∧ DqAll K F vs ds ∧ okD (R.toD a) = true
def New {α : Type} (K : PySem.W.Frag) (H F' H' : Hp) (v : V) (R : Rp α) (a : α) : Prop :=
  ∃ p vs ds, v = .ref p ∧ H p = none ∧ F' p = none ∧ H' p = some (.lst vs) ∧ R.toD a = .list ds ∧ DqAll K F' vs ds ∧ okD (R.toD a) = true
/-- a new dict -/
def NewM {α : Type} (K : PySem.W.Frag) (H F' H' : Hp) (v : V) (R : Rp α) (a : α) : Prop :=
  ∃ p kv ds, v = .ref p ∧ H p = none ∧ F' p = none ∧ H' p = some (.dK kv) ∧ R.toD a = .dict ds ∧ ds.map (·.1) = kv.map (fun p => keyD p.1) ∧ DqAll K F' (kv.map (·.2)) (ds.map (·.2)) ∧ okD (R.toD a) = true
theorem Rep.mono {α : Type} {K : PySem.W.Frag} {F F' : Hp} {v : V} {R : Rp α} {a : α} (h : Rep K F v R a) (e : Same F F') : Rep K F' v R a := ⟨Dq.mono e _ _ h.1, h.2⟩

structure Step (F H F' H' : Hp) : Prop where
  ff : Same F F'
  hh : Same H H'
  fh : Same F' H'
  ow : ∀ b o, H b = some o → F b = none → Mut (some o) → F' b = none
theorem Step.refl {F H : Hp} (h : Same F H) : Step F H F H := ⟨Same.refl _, Same.refl _, h, fun _ _ _ n _ => n⟩
theorem Step.trans {F H F1 H1 F2 H2 : Hp} (a : Step F H F1 H1) (b : Step F1 H1 F2 H2) : Step F H F2 H2 :=
  ⟨a.ff.trans b.ff, a.hh.trans b.hh, b.fh, fun c o e n m => b.ow c o (a.hh c o e) (a.ow c o e n m) m⟩
theorem Vw.mono {α : Type} {K : PySem.W.Frag} {F H F' H' : Hp} {v : V} {R : Rp α} {a : α} (h : Vw K F H v R a) (s : Step F H F' H') : Vw K F' H' v R a := by
  rcases h with h | ⟨p, vs, ds, e, h1, h2, h3, h4⟩
  · exact .inl (h.mono s.ff)
  · exact .inr ⟨p, vs, ds, e, s.hh _ _ h1, h2, DqAll.mono s.ff _ _ h3, h4⟩
/-- a new cell laid, frozen -/
theorem Step.lay {F H : Hp} {p : Addr} {o : HO} (fh : Same F H) (n : H p = none) : Step F H (upd F p o) (upd H p o) := by
  have nF : F p = none := fh.free n
  refine ⟨Same.upd nF, Same.upd n, fun b x e => ?_, fun b x e nb _ => ?_⟩
  · by_cases hb : b = p
    · subst hb; rw [upd_same] at e ⊢; exact e
    · rw [upd_ne hb] at e ⊢; exact fh b x e
  · rw [upd_ne (ne_of_none e n)]; exact nb
/-- a new cell laid, not frozen -/
theorem Step.layO {F H : Hp} {p : Addr} {o : HO} (fh : Same F H) (n : H p = none) : Step F H F (upd H p o) :=
  ⟨Same.refl _, Same.upd n, fh.trans (Same.upd n), fun _ _ _ nb _ => nb⟩
/-- freeze a new list -/
theorem New.rep {α : Type} {K : PySem.W.Frag} {F H F' H' : Hp} {v : V} {R : Rp α} {a : α} (s : Step F H F' H') (h : New K H F' H' v R a) : ∃ F'', Step F H F'' H' ∧ Rep K F'' v R a := by
  obtain ⟨p, vs, ds, rfl, n, nF, e, hd, ha, hc⟩ := h
  have e1 : Same F' (upd F' p (.lst vs)) := Same.upd nF
  refine ⟨upd F' p (.lst vs), ⟨s.ff.trans e1, s.hh, fun b x q => ?_, fun b x q nb m => ?_⟩, ?_, hc⟩
  · by_cases hb : b = p
    · subst hb; rw [upd_same] at q; rw [← q]; exact e
    · rw [upd_ne hb] at q; exact s.fh b x q
  · rw [upd_ne (ne_of_none q n)]; exact s.ow b x q nb m
  · rw [hd]
    exact .lst (.inl upd_same) (DqAll.mono e1 _ _ ha)
theorem Rep.vw {α : Type} {K : PySem.W.Frag} {F H : Hp} {v : V} {R : Rp α} {a : α} (h : Rep K F v R a) : Vw K F H v R a := .inl h
/-- a list, as it is read -/
theorem Vw.list {α : Type} {K : PySem.W.Frag} {F H : Hp} {v : V} {R : Rp α} {xs : List α} (fh : Same F H) (h : Vw K F H v (rL R) xs) :
    ∃ p vs, v = .ref p ∧ Rd H p (.lst vs) ∧ DqAll K F vs (xs.map R.toD) ∧ (∀ x ∈ xs, okD (R.toD x) = true) ∧ xs.length ≤ 16777216 := by
  rcases h with ⟨h, hc⟩ | ⟨p, vs, ds, e, h1, h2, h3, h4⟩
  · cases h with
    | lst hs ha => 
      have c := okL.mp hc
      exact ⟨_, _, rfl, Rd.mono fh hs, ha, fun x hx => c.1 _ (List.mem_map_of_mem hx), by simpa using c.2⟩
  · injection h2 with h2
    subst h2
    have c := okL.mp h4
    exact ⟨p, vs, e, .inl h1, h3, fun x hx => c.1 _ (List.mem_map_of_mem hx), by simpa using c.2⟩
theorem Rep.tup {α : Type} {K : PySem.W.Frag} {F : Hp} {v : V} {R : Rp α} {xs : List α} (h : Rep K F v (rT R) xs) :
    ∃ p vs, v = .ref p ∧ SqT K F p vs ∧ DqAll K F vs (xs.map R.toD) ∧ (∀ x ∈ xs, okD (R.toD x) = true) ∧ xs.length ≤ 16777216 := by
  obtain ⟨h, hc⟩ := h
  cases h with
  | tup hs ha =>
    have c := okT.mp hc
    exact ⟨_, _, rfl, .inl (.inl hs), ha, fun x hx => c.1 _ (List.mem_map_of_mem hx), by simpa using c.2⟩
theorem Rep.lst {α : Type} {K : PySem.W.Frag} {F : Hp} {v : V} {R : Rp α} {xs : List α} (h : Rep K F v (rL R) xs) :
    ∃ p vs, v = .ref p ∧ Rd F p (.lst vs) ∧ DqAll K F vs (xs.map R.toD) ∧ (∀ x ∈ xs, okD (R.toD x) = true) ∧ xs.length ≤ 16777216 := by
  obtain ⟨h, hc⟩ := h
  cases h with
  | lst hs ha =>
    have c := okL.mp hc
    exact ⟨_, _, rfl, hs, ha, fun x hx => c.1 _ (List.mem_map_of_mem hx), by simpa using c.2⟩
theorem Rep.pair {α β : Type} {K : PySem.W.Frag} {F : Hp} {v : V} {R : Rp α} {S : Rp β} {x : α × β} (h : Rep K F v (rP R S) x) :
    ∃ p v1 v2, v = .ref p ∧ SqT K F p [v1, v2] ∧ Rep K F v1 R x.1 ∧ Rep K F v2 S x.2 := by
  obtain ⟨h, hc⟩ := h
  cases h with
  | tup hs ha =>
    cases ha with
    | cons h1 ha =>
      cases ha with
      | cons h2 ha =>
        cases ha
        have c := (okT.mp hc).1
        exact ⟨_, _, _, rfl, .inl (.inl hs), ⟨h1, c _ (by simp)⟩, ⟨h2, c _ (by simp)⟩⟩
theorem Rep.trip {α β γ : Type} {K : PySem.W.Frag} {F : Hp} {v : V} {R : Rp α} {S : Rp β} {T : Rp γ} {x : α × β × γ} (h : Rep K F v (r3 R S T) x) :
    ∃ p v1 v2 v3, v = .ref p ∧ SqT K F p [v1, v2, v3] ∧ Rep K F v1 R x.1 ∧ Rep K F v2 S x.2.1 ∧ Rep K F v3 T x.2.2 := by
  obtain ⟨h, hc⟩ := h
  cases h with
  | tup hs ha =>
    cases ha with
    | cons h1 ha =>
      cases ha with
      | cons h2 ha =>
        cases ha with
        | cons h3 ha =>
          cases ha
          have c := (okT.mp hc).1
          exact ⟨_, _, _, _, rfl, .inl (.inl hs), ⟨h1, c _ (by simp)⟩, ⟨h2, c _ (by simp)⟩, ⟨h3, c _ (by simp)⟩⟩
theorem Rep.quad {α β γ δ : Type} {K : PySem.W.Frag} {F : Hp} {v : V} {R : Rp α} {S : Rp β} {T : Rp γ} {U : Rp δ} {x : α × β × γ × δ} (h : Rep K F v (r4 R S T U) x) :
    ∃ p v1 v2 v3 v4, v = .ref p ∧ SqT K F p [v1, v2, v3, v4] ∧ Rep K F v1 R x.1 ∧ Rep K F v2 S x.2.1 ∧ Rep K F v3 T x.2.2.1 ∧ Rep K F v4 U x.2.2.2 := by
  obtain ⟨h, hc⟩ := h
  cases h with
  | tup hs ha =>
    cases ha with
    | cons h1 ha =>
      cases ha with
      | cons h2 ha =>
        cases ha with
        | cons h3 ha =>
          cases ha with
          | cons h4 ha =>
            cases ha
            have c := (okT.mp hc).1
            exact ⟨_, _, _, _, _, rfl, .inl (.inl hs), ⟨h1, c _ (by simp)⟩, ⟨h2, c _ (by simp)⟩, ⟨h3, c _ (by simp)⟩, ⟨h4, c _ (by simp)⟩⟩
theorem rep_int {K : PySem.W.Frag} {F : Hp} {v : V} {i : Int} : Rep K F v rI i ↔ v = .int i :=
  ⟨fun ⟨h, _⟩ => by cases h; rfl, fun h => by subst h; exact ⟨.int i, by simp [rI, okD]⟩⟩
theorem rep_bool {K : PySem.W.Frag} {F : Hp} {v : V} {i : Bool} : Rep K F v rB i ↔ v = .bl i :=
  ⟨fun ⟨h, _⟩ => by cases h; rfl, fun h => by subst h; exact ⟨.bl i, by simp [rB, okD]⟩⟩
theorem rep_none {K : PySem.W.Frag} {F : Hp} {v : V} {i : Unit} : Rep K F v rN i ↔ v = .non :=
  ⟨fun ⟨h, _⟩ => by cases h; rfl, fun h => by subst h; exact ⟨.non, by simp [rN, okD]⟩⟩
theorem Rep.str {K : PySem.W.Frag} {F : Hp} {v : V} {x : List Nat} (h : Rep K F v rS x) : v = .str ⟨x.toArray⟩ ∧ (∀ c ∈ x, c < 1114112) ∧ x.length ≤ 16777216 := by
  obtain ⟨h, hc⟩ := h
  cases h
  simp [rS, okD, PyData.strOk, Str.length] at hc
  exact ⟨rfl, by simpa using hc.1, by simpa using hc.2⟩
theorem rep_str {K : PySem.W.Frag} {F : Hp} {x : List Nat} (h1 : ∀ c ∈ x, c < 1114112) (h2 : x.length ≤ 16777216) : Rep K F (.str ⟨x.toArray⟩) rS x :=
  ⟨.str _, by simp [rS, okD, PyData.strOk, Str.length]; exact ⟨by simpa using h1, h2⟩⟩
end Y

namespace Y
open PySem PySem.Spec PyProof.Rows L2

/-! ### slots -/
/-- what is known of a slot: nothing; a frozen value; a list of our own -/
inductive Sl : Type 1 where
  | j
  | f {α : Type} (R : Rp α) (x : α)
  | o {α : Type} (R : Rp α) (xs : List α)
  | s (ns : List Int)
  | d {κ α : Type} (Q : Rp κ) (R : Rp α) (kvs : List (κ × α))
  | e {κ α : Type} (Q : Rp κ) (R : Rp α) (kvs : List (κ × α))
/-- a raw dict and what it means -/
structure Dct {κ α Kk : Type} (K : PySem.W.Frag) (F : Hp) (kd : Kk → PyData) (Q : Rp κ) (R : Rp α) (kv : List (Kk × V)) (kvs : List (κ × α)) : Prop where
  ks : kvs.map (fun p => Q.toD p.1) = kv.map (fun p => kd p.1)
  vs : DqAll K F (kv.map (·.2)) (kvs.map fun p => R.toD p.2)
  ok : ∀ p ∈ kvs, okD (Q.toD p.1) = true ∧ okD (R.toD p.2) = true
  len : kvs.length ≤ 16777216
abbrev tupD (k : List L2.Key) : PyData := .tuple (k.map keyD)
theorem Dct.mono {κ α Kk : Type} {K : PySem.W.Frag} {F F' : Hp} {kd : Kk → PyData} {Q : Rp κ} {R : Rp α} {kv : List (Kk × V)} {kvs : List (κ × α)} (h : Dct K F kd Q R kv kvs) (e : Same F F') : Dct K F' kd Q R kv kvs := ⟨h.ks, DqAll.mono e _ _ h.vs, h.ok, h.len⟩
def gt : List Sl → Nat → Sl
  | [], _ => .j
  | g :: _, 0 => g
  | _ :: l, n + 1 => gt l n
def st : List Sl → Nat → Sl → List Sl
  | [], _, _ => []
  | _ :: l, 0, g => g :: l
  | x :: l, n + 1, g => x :: st l n g
def SlOk (K : PySem.W.Frag) (H0 F H : Hp) : Option V → Sl → Prop
  | _, .j => True
  | s, .f R x => ∃ v, s = some v ∧ Rep K F v R x
  | s, .o R xs => ∃ p vs, s = some (.ref p) ∧ H0 p = none ∧ F p = none ∧ H p = some (.lst vs) ∧ DqAll K F vs (xs.map R.toD) ∧ (∀ x ∈ xs, okD (R.toD x) = true) ∧ xs.length ≤ 16777216
  | s, .s ns => ∃ a, s = some (.ref a) ∧ SqL K F a (ns.map V.int)
  | s, .d Q R kvs => ∃ p kv, s = some (.ref p) ∧ H0 p = none ∧ F p = none ∧ H p = some (.dK kv) ∧ Dct K F keyD Q R kv kvs
  | s, .e Q R kvs => ∃ p kv, s = some (.ref p) ∧ H0 p = none ∧ F p = none ∧ H p = some (.dT kv) ∧ Dct K F tupD Q R kv kvs
def SlAll (K : PySem.W.Frag) (H0 F H : Hp) : List (Option V) → List Sl → Prop
  | [], [] => True
  | s :: σ, g :: Γ => SlOk K H0 F H s g ∧ SlAll K H0 F H σ Γ
  | _, _ => False
def own : Option V → Sl → List Addr
  | some (.ref p), .o _ _ => [p]
  | some (.ref p), .d _ _ _ => [p]
  | some (.ref p), .e _ _ _ => [p]
  | _, _ => []
def owns : List (Option V) → List Sl → List Addr
  | s :: σ, g :: Γ => own s g ++ owns σ Γ
  | _, _ => []
structure SR (K : PySem.W.Frag) (F0 H0 F H : Hp) (σ : List (Option V)) (Γ : List Sl) : Prop where
  st : Step F0 H0 F H
  sl : SlAll K H0 F H σ Γ
  nd : (owns σ Γ).Nodup
section
variable {K : PySem.W.Frag} {F0 H0 F H F' H' : Hp} {σ : List (Option V)} {Γ : List Sl}
theorem SlOk.mono {s : Option V} {g : Sl} (h : SlOk K H0 F H s g) (e : Step F H F' H') : SlOk K H0 F' H' s g := by
  cases g with
  | j => trivial
  | f R x =>
    obtain ⟨v, h1, h2⟩ := h
    exact ⟨v, h1, h2.mono e.ff⟩
  | o R xs =>
    obtain ⟨p, vs, h1, h2, h3, h4, h5, h6⟩ := h
    exact ⟨p, vs, h1, h2, e.ow _ _ h4 h3 trivial, e.hh _ _ h4, DqAll.mono e.ff _ _ h5, h6⟩
  | s ns =>
    obtain ⟨a, h1, h2⟩ := h
    exact ⟨a, h1, e.ff.seq h2⟩
  | d Q R kvs =>
    obtain ⟨p, kv, h1, h2, h3, h4, h5⟩ := h
    exact ⟨p, kv, h1, h2, e.ow _ _ h4 h3 trivial, e.hh _ _ h4, h5.mono e.ff⟩
  | e Q R kvs =>
    obtain ⟨p, kv, h1, h2, h3, h4, h5⟩ := h
    exact ⟨p, kv, h1, h2, e.ow _ _ h4 h3 trivial, e.hh _ _ h4, h5.mono e.ff⟩
theorem SlAll.mono (e : Step F H F' H') : ∀ {σ : List (Option V)} {Γ : List Sl}, SlAll K H0 F H σ Γ → SlAll K H0 F' H' σ Γ
  | [], [], _ => trivial
  | s :: σ, g :: Γ, h => ⟨h.1.mono e, SlAll.mono e h.2⟩
  | [], _ :: _, h => h.elim
  | _ :: _, [], h => h.elim
theorem SR.mono (h : SR K F0 H0 F H σ Γ) (e : Step F H F' H') : SR K F0 H0 F' H' σ Γ := ⟨h.st.trans e, h.sl.mono e, h.nd⟩
theorem SlAll.get : ∀ {σ : List (Option V)} {Γ : List Sl} {i : Nat}, SlAll K H0 F H σ Γ → gt Γ i ≠ .j → ∃ s, σ[i]? = some s ∧ SlOk K H0 F H s (gt Γ i)
  | [], [], _, _, n => (n rfl).elim
  | s :: σ, g :: Γ, 0, h, _ => ⟨s, rfl, h.1⟩
  | s :: σ, g :: Γ, i + 1, h, n => by
    obtain ⟨x, a, b⟩ := SlAll.get (i := i) h.2 n
    exact ⟨x, by simpa using a, b⟩
  | [], _ :: _, _, h, _ => h.elim
  | _ :: _, [], _, h, _ => h.elim
theorem SlAll.put {s : Option V} {g : Sl} (hs : SlOk K H0 F H s g) : ∀ {σ : List (Option V)} {Γ : List Sl} (i : Nat), SlAll K H0 F H σ Γ → SlAll K H0 F H (σ.set i s) (Y.st Γ i g)
  | [], [], _, _ => trivial
  | _ :: σ, _ :: Γ, 0, h => ⟨hs, h.2⟩
  | _ :: σ, _ :: Γ, i + 1, h => ⟨h.1, SlAll.put hs i h.2⟩
  | [], _ :: _, _, h => h.elim
  | _ :: _, [], _, h => h.elim
theorem owns_put {s : Option V} {g : Sl} : ∀ {σ : List (Option V)} {Γ : List Sl} (i : Nat) (b : Addr), b ∈ owns (σ.set i s) (Y.st Γ i g) → b ∈ owns σ Γ ∨ b ∈ own s g
  | [], _, _, _, h => by simp [owns] at h
  | _ :: _, [], i, _, h => by cases i <;> simp [owns, Y.st] at h
  | s' :: σ, g' :: Γ, 0, b, h => by
    simp only [List.set_cons_zero, Y.st, owns, List.mem_append] at h ⊢
    rcases h with h | h
    · exact .inr h
    · exact .inl (.inr h)
  | s' :: σ, g' :: Γ, i + 1, b, h => by
    simp only [List.set_cons_succ, Y.st, owns, List.mem_append] at h ⊢
    rcases h with h | h
    · exact .inl (.inl h)
    · rcases owns_put i b h with h | h
      · exact .inl (.inr h)
      · exact .inr h
theorem own_nd (s : Option V) (g : Sl) : (own s g).Nodup := by
  unfold own; split <;> simp
theorem owns_nd {s : Option V} {g : Sl} : ∀ {σ : List (Option V)} {Γ : List Sl} (i : Nat), (owns σ Γ).Nodup → (∀ b ∈ own s g, b ∉ owns σ Γ) → (owns (σ.set i s) (Y.st Γ i g)).Nodup
  | [], _, _, _, _ => by simp [owns]
  | _ :: _, [], i, _, _ => by cases i <;> simp [owns, Y.st]
  | s' :: σ, g' :: Γ, 0, h, n => by
    simp only [List.set_cons_zero, Y.st, owns] at h n ⊢
    rw [List.nodup_append] at h ⊢
    refine ⟨own_nd _ _, h.2.1, fun a ha b hb e => ?_⟩
    subst e
    exact n a ha (List.mem_append_right _ hb)
  | s' :: σ, g' :: Γ, i + 1, h, n => by
    simp only [List.set_cons_succ, Y.st, owns] at h n ⊢
    rw [List.nodup_append] at h ⊢
    refine ⟨h.1, owns_nd i h.2.1 fun b hb q => n b hb (List.mem_append_right _ q), fun a ha b hb e => ?_⟩
    subst e
    rcases owns_put i a hb with q | q
    · exact h.2.2 a ha a q rfl
    · exact n a q (List.mem_append_left _ ha)
theorem own_in {s : Option V} {g : Sl} {b : Addr} (h : SlOk K H0 F H s g) (q : b ∈ own s g) : s = some (.ref b) ∧ H0 b = none ∧ F b = none ∧ ∃ u, H b = some u ∧ Mut (some u) := by
  unfold own at q
  split at q
  · obtain ⟨p, vs, e, h0, hF, hH, _⟩ := h
    cases e
    simp only [List.mem_singleton] at q
    subst q
    exact ⟨rfl, h0, hF, _, hH, trivial⟩
  · obtain ⟨p, vs, e, h0, hF, hH, _⟩ := h
    cases e
    simp only [List.mem_singleton] at q
    subst q
    exact ⟨rfl, h0, hF, _, hH, trivial⟩
  · obtain ⟨p, vs, e, h0, hF, hH, _⟩ := h
    cases e
    simp only [List.mem_singleton] at q
    subst q
    exact ⟨rfl, h0, hF, _, hH, trivial⟩
  · simp at q
theorem owns_in : ∀ {σ : List (Option V)} {Γ : List Sl} {b : Addr}, SlAll K H0 F H σ Γ → b ∈ owns σ Γ → H0 b = none ∧ F b = none ∧ ∃ u, H b = some u
  | [], _, _, _, h => by simp [owns] at h
  | _ :: _, [], _, h, _ => h.elim
  | s :: σ, g :: Γ, b, h, q => by
    simp only [owns, List.mem_append] at q
    rcases q with q | q
    · obtain ⟨_, a, c, u, d, _⟩ := own_in h.1 q
      exact ⟨a, c, u, d⟩
    · exact owns_in h.2 q
theorem own_f {α : Type} {R : Rp α} {x : α} : ∀ s : Option V, own s (.f R x) = []
  | none => rfl
  | some v => by cases v <;> rfl
theorem own_j : ∀ s : Option V, own s .j = []
  | none => rfl
  | some v => by cases v <;> rfl
theorem SR.putF {α : Type} {R : Rp α} {x : α} {v : V} (h : SR K F0 H0 F H σ Γ) (i : Nat) (r : Rep K F v R x) : SR K F0 H0 F H (σ.set i (some v)) (Y.st Γ i (.f R x)) :=
  ⟨h.st, SlAll.put (g := .f R x) ⟨v, rfl, r⟩ i h.sl, owns_nd i h.nd fun b hb => by
    rw [own_f] at hb
    cases hb⟩
theorem SR.putJ (h : SR K F0 H0 F H σ Γ) (i : Nat) (s : Option V) : SR K F0 H0 F H (σ.set i s) (Y.st Γ i .j) :=
  ⟨h.st, SlAll.put (g := .j) trivial i h.sl, owns_nd i h.nd fun b hb => by
    rw [own_j] at hb
    cases hb⟩
/-- a new own thing is put into a slot -/
theorem SR.putN {p : Addr} {g : Sl} (h : SR K F0 H0 F H σ Γ) (i : Nat) (hs : SlOk K H0 F H (some (.ref p)) g) (ho : own (some (.ref p)) g = [p]) (hn : p ∉ owns σ Γ) : SR K F0 H0 F H (σ.set i (some (.ref p))) (Y.st Γ i g) :=
  ⟨h.st, SlAll.put hs i h.sl, owns_nd i h.nd fun b hb => by
    rw [ho, List.mem_singleton] at hb
    subst hb
    exact hn⟩
theorem SR.putO {α : Type} {R : Rp α} {xs : List α} {p : Addr} {vs : List V} (h : SR K F0 H0 F H σ Γ) (i : Nat) (h1 : H0 p = none) (h2 : F p = none) (h3 : H p = some (.lst vs)) (h4 : DqAll K F vs (xs.map R.toD))
    (h5 : ∀ x ∈ xs, okD (R.toD x) = true) (h6 : xs.length ≤ 16777216) (hn : p ∉ owns σ Γ) : SR K F0 H0 F H (σ.set i (some (.ref p))) (Y.st Γ i (.o R xs)) :=
  h.putN i (g := .o R xs) ⟨p, vs, rfl, h1, h2, h3, h4, h5, h6⟩ rfl hn
theorem mem_ownsG {p : Addr} : ∀ {σ : List (Option V)} {Γ : List Sl} {i : Nat}, own (some (.ref p)) (gt Γ i) = [p] → σ[i]? = some (some (.ref p)) → p ∈ owns σ Γ
  | [], _, _, _, e => by simp at e
  | _ :: _, [], _, e, _ => by simp [gt, own] at e
  | s :: σ, g :: Γ, 0, e1, e2 => by
    have z1 : s = some (.ref p) := by simpa using e2
    have z2 : own (some (.ref p)) g = [p] := e1
    subst z1
    simp only [owns, z2]
    exact List.mem_append_left _ (List.mem_singleton.mpr rfl)
  | s :: σ, g :: Γ, i + 1, e1, e2 => by
    simp only [owns, List.mem_append]
    exact .inr (mem_ownsG (σ := σ) (Γ := Γ) (i := i) e1 (by simpa using e2))
theorem mem_owns {p : Addr} {α : Type} {R : Rp α} {xs : List α} {σ : List (Option V)} {Γ : List Sl} {i : Nat} (e1 : gt Γ i = .o R xs) (e2 : σ[i]? = some (some (.ref p))) : p ∈ owns σ Γ :=
  mem_ownsG (by rw [e1]; rfl) e2
/-- what stands at p is written; p is no slot's own -/
theorem SlAll.write {p : Addr} {u : HO} (hp : F p = none) : ∀ {σ : List (Option V)} {Γ : List Sl}, SlAll K H0 F H σ Γ → p ∉ owns σ Γ → SlAll K H0 F (upd H p u) σ Γ
  | [], [], _, _ => trivial
  | [], _ :: _, h, _ => h.elim
  | _ :: _, [], h, _ => h.elim
  | s :: σ, g :: Γ, h, n => by
    simp only [owns, List.mem_append, not_or] at n
    refine ⟨?_, SlAll.write hp h.2 n.2⟩
    have h1 := h.1
    cases g with
    | j => trivial
    | f R x => exact h1
    | o R xs =>
      obtain ⟨q, us, e, h2, h3, h4, h5⟩ := h1
      subst e
      have ne : q ≠ p := fun z => n.1 (by subst z; simp [own])
      exact ⟨q, us, rfl, h2, h3, by rw [upd_ne ne]; exact h4, h5⟩
    | s ns => exact h1
    | d Q R kvs =>
      obtain ⟨q, us, e, h2, h3, h4, h5⟩ := h1
      subst e
      have ne : q ≠ p := fun z => n.1 (by subst z; simp [own])
      exact ⟨q, us, rfl, h2, h3, by rw [upd_ne ne]; exact h4, h5⟩
    | e Q R kvs =>
      obtain ⟨q, us, e, h2, h3, h4, h5⟩ := h1
      subst e
      have ne : q ≠ p := fun z => n.1 (by subst z; simp [own])
      exact ⟨q, us, rfl, h2, h3, by rw [upd_ne ne]; exact h4, h5⟩
theorem SlAll.writeAt {p : Addr} {u : HO} {g' : Sl} (hp : F p = none) (hg : SlOk K H0 F (upd H p u) (some (.ref p)) g') (ho : own (some (.ref p)) g' = [p]) :
    ∀ {σ : List (Option V)} {Γ : List Sl} {i : Nat}, SlAll K H0 F H σ Γ → (owns σ Γ).Nodup → own (some (.ref p)) (gt Γ i) = [p] → σ[i]? = some (some (.ref p)) → SlAll K H0 F (upd H p u) σ (Y.st Γ i g') ∧ owns σ (Y.st Γ i g') = owns σ Γ
  | [], _, _, _, _, _, e => by simp at e
  | _ :: _, [], _, h, _, _, _ => h.elim
  | s :: σ, g :: Γ, 0, h, n, e1, e2 => by
    have e2 : s = some (.ref p) := by simpa using e2
    have e1 : own (some (.ref p)) g = [p] := e1
    subst e2
    have n' : p ∉ owns σ Γ := by
      have := List.nodup_append.mp n
      exact fun z => this.2.2 p (by rw [e1]; simp) p z rfl
    exact ⟨⟨hg, SlAll.write hp h.2 n'⟩, by simp only [Y.st, owns, e1, ho]⟩
  | s :: σ, g :: Γ, i + 1, h, n, e1, e2 => by
    have nn := List.nodup_append.mp n
    have e2' : σ[i]? = some (some (.ref p)) := by simpa using e2
    obtain ⟨a, b⟩ := SlAll.writeAt hp hg ho (σ := σ) (Γ := Γ) (i := i) h.2 nn.2.1 e1 e2'
    have hin : p ∈ owns σ Γ := mem_ownsG e1 e2'
    refine ⟨⟨?_, a⟩, by simp only [Y.st, owns, b]⟩
    have hs : p ∉ owns [s] [g] := fun z => by
      have z' : p ∈ own s g := by simpa [owns] using z
      exact nn.2.2 p z' p hin rfl
    have := SlAll.write (u := u) hp (σ := [s]) (Γ := [g]) (K := K) (H0 := H0) (H := H) ⟨h.1, trivial⟩ hs
    exact this.1
/-- what stands at a slot's own place is written -/
theorem SR.writeG {i : Nat} {p : Addr} {u : HO} {g' : Sl} (h : SR K F0 H0 F H σ Γ) (e1 : own (some (.ref p)) (gt Γ i) = [p]) (e2 : σ[i]? = some (some (.ref p))) (h0 : H0 p = none) (hF : F p = none)
    (hg : SlOk K H0 F (upd H p u) (some (.ref p)) g') (ho : own (some (.ref p)) g' = [p]) : SR K F0 H0 F (upd H p u) σ (Y.st Γ i g') := by
  obtain ⟨a, b⟩ := SlAll.writeAt hF hg ho h.sl h.nd e1 e2
  refine ⟨⟨h.st.ff, fun c x z => ?_, fun c x z => ?_, h.st.ow⟩, a, by rw [b]; exact h.nd⟩
  · rw [upd_ne (fun y => by subst y; rw [h0] at z; cases z)]; exact h.st.hh c x z
  · rw [upd_ne (fun y => by subst y; rw [hF] at z; cases z)]; exact h.st.fh c x z
theorem SR.write {i : Nat} {p : Addr} {vs' : List V} {α : Type} {R : Rp α} {xs xs' : List α} (h : SR K F0 H0 F H σ Γ) (e1 : gt Γ i = .o R xs) (e2 : σ[i]? = some (some (.ref p)))
    (h4 : DqAll K F vs' (xs'.map R.toD)) (h5 : ∀ x ∈ xs', okD (R.toD x) = true) (h6 : xs'.length ≤ 16777216) : SR K F0 H0 F (upd H p (.lst vs')) σ (Y.st Γ i (.o R xs')) := by
  obtain ⟨s, q1, q2⟩ := h.sl.get (i := i) (by rw [e1]; exact fun z => nomatch z)
  rw [e1] at q2
  rw [e2] at q1
  cases q1
  obtain ⟨q, us, e, h0, h3, h4', h5'⟩ := q2
  cases e
  exact h.writeG (by rw [e1]; rfl) e2 h0 h3 (g' := .o R xs') ⟨p, vs', rfl, h0, h3, upd_same, h4, h5, h6⟩ rfl
/-- a place of our own is given up to what never changes -/
theorem SlAll.freeze {p : Addr} {o : HO} (hp : F p = none) : ∀ {σ : List (Option V)} {Γ : List Sl}, SlAll K H0 F H σ Γ → p ∉ owns σ Γ → SlAll K H0 (upd F p o) (upd H p o) σ Γ
  | [], [], _, _ => trivial
  | [], _ :: _, h, _ => h.elim
  | _ :: _, [], h, _ => h.elim
  | s :: σ, g :: Γ, h, n => by
    simp only [owns, List.mem_append, not_or] at n
    refine ⟨?_, SlAll.freeze hp h.2 n.2⟩
    have h1 := h.1
    have sm : Same F (upd F p o) := Same.upd hp
    cases g with
    | j => trivial
    | f R x =>
      obtain ⟨v, a, b⟩ := h1
      exact ⟨v, a, b.mono sm⟩
    | o R xs =>
      obtain ⟨q, us, e, h2, h3, h4, h5, h6⟩ := h1
      subst e
      have ne : q ≠ p := fun z => n.1 (by subst z; simp [own])
      exact ⟨q, us, rfl, h2, by rw [upd_ne ne]; exact h3, by rw [upd_ne ne]; exact h4, DqAll.mono sm _ _ h5, h6⟩
    | s ns =>
      obtain ⟨a, h1, h2⟩ := h1
      exact ⟨a, h1, sm.seq h2⟩
    | d Q R kvs =>
      obtain ⟨q, us, e, h2, h3, h4, h5⟩ := h1
      subst e
      have ne : q ≠ p := fun z => n.1 (by subst z; simp [own])
      exact ⟨q, us, rfl, h2, by rw [upd_ne ne]; exact h3, by rw [upd_ne ne]; exact h4, h5.mono sm⟩
    | e Q R kvs =>
      obtain ⟨q, us, e, h2, h3, h4, h5⟩ := h1
      subst e
      have ne : q ≠ p := fun z => n.1 (by subst z; simp [own])
      exact ⟨q, us, rfl, h2, by rw [upd_ne ne]; exact h3, by rw [upd_ne ne]; exact h4, h5.mono sm⟩
theorem SlAll.freezeAt {p : Addr} {o : HO} {g' : Sl} (hp : F p = none) (hg : SlOk K H0 (upd F p o) (upd H p o) (some (.ref p)) g') (ho : own (some (.ref p)) g' = []) :
    ∀ {σ : List (Option V)} {Γ : List Sl} {i : Nat}, SlAll K H0 F H σ Γ → (owns σ Γ).Nodup → own (some (.ref p)) (gt Γ i) = [p] → σ[i]? = some (some (.ref p)) → SlAll K H0 (upd F p o) (upd H p o) σ (Y.st Γ i g') ∧ (owns σ (Y.st Γ i g')).Sublist (owns σ Γ)
  | [], _, _, _, _, _, e => by simp at e
  | _ :: _, [], _, h, _, _, _ => h.elim
  | s :: σ, g :: Γ, 0, h, n, e1, e2 => by
    have e2 : s = some (.ref p) := by simpa using e2
    have e1 : own (some (.ref p)) g = [p] := e1
    subst e2
    have n' : p ∉ owns σ Γ := by
      have := List.nodup_append.mp n
      exact fun z => this.2.2 p (by rw [e1]; simp) p z rfl
    refine ⟨⟨hg, SlAll.freeze hp h.2 n'⟩, ?_⟩
    simp only [Y.st, owns, ho, List.nil_append]
    exact List.sublist_append_right _ _
  | s :: σ, g :: Γ, i + 1, h, n, e1, e2 => by
    have nn := List.nodup_append.mp n
    have e2' : σ[i]? = some (some (.ref p)) := by simpa using e2
    obtain ⟨a, b⟩ := SlAll.freezeAt hp hg ho (σ := σ) (Γ := Γ) (i := i) h.2 nn.2.1 e1 e2'
    have hin : p ∈ owns σ Γ := mem_ownsG e1 e2'
    refine ⟨⟨?_, a⟩, ?_⟩
    · have hs : p ∉ owns [s] [g] := fun z => by
        have z' : p ∈ own s g := by simpa [owns] using z
        exact nn.2.2 p z' p hin rfl
      have := SlAll.freeze (o := o) hp (σ := [s]) (Γ := [g]) (K := K) (H0 := H0) (H := H) ⟨h.1, trivial⟩ hs
      exact this.1
    · simp only [Y.st, owns]
      exact List.Sublist.append (List.Sublist.refl _) b
theorem SR.freezeG {i : Nat} {p : Addr} {o : HO} {g' : Sl} (h : SR K F0 H0 F H σ Γ) (e1 : own (some (.ref p)) (gt Γ i) = [p]) (e2 : σ[i]? = some (some (.ref p))) (h0 : H0 p = none) (hF : F p = none)
    (hg : SlOk K H0 (upd F p o) (upd H p o) (some (.ref p)) g') (ho : own (some (.ref p)) g' = []) : SR K F0 H0 (upd F p o) (upd H p o) σ (Y.st Γ i g') := by
  obtain ⟨a, b⟩ := SlAll.freezeAt hF hg ho h.sl h.nd e1 e2
  refine ⟨⟨h.st.ff.trans (Same.upd hF), fun c x z => ?_, fun c x z => ?_, fun c x z n m => ?_⟩, a, h.nd.sublist b⟩
  · rw [upd_ne (fun y => by subst y; rw [h0] at z; cases z)]; exact h.st.hh c x z
  · by_cases hc : c = p
    · subst hc; rw [upd_same] at z ⊢; exact z
    · rw [upd_ne hc] at z ⊢; exact h.st.fh c x z
  · rw [upd_ne (fun y => by subst y; rw [h0] at z; cases z)]; exact h.st.ow c x z n m
theorem upd_self {H : Hp} {p : Addr} {o : HO} (h : H p = some o) : upd H p o = H := by
  funext b
  by_cases hb : b = p
  · subst hb; rw [upd_same, h]
  · rw [upd_ne hb]
theorem SR.freeze {i : Nat} {α : Type} {R : Rp α} {xs : List α} (h : SR K F0 H0 F H σ Γ) (e1 : gt Γ i = .o R xs) : ∃ F', Same F F' ∧ SR K F0 H0 F' H σ (Y.st Γ i (.f (rL R) xs)) := by
  obtain ⟨s, q1, q2⟩ := h.sl.get (i := i) (by rw [e1]; exact fun z => nomatch z)
  rw [e1] at q2
  obtain ⟨p, vs, e, h0, h3, h4, h5, h6, h7⟩ := q2
  subst e
  have r := h.freezeG (o := .lst vs) (g' := .f (rL R) xs) (by rw [e1]; rfl) q1 h0 h3 ⟨.ref p, rfl, .lst (.inl upd_same) (DqAll.mono (Same.upd h3) _ _ h5), okL.mpr ⟨fun d hd => by
    obtain ⟨x, hx, rfl⟩ := List.mem_map.mp hd
    exact h6 x hx, by simpa using h7⟩⟩ rfl
  rw [upd_self h4] at r
  exact ⟨_, Same.upd h3, r⟩
/-- Γ says at least what Γ' says -/
inductive Le : List Sl → List Sl → Prop
  | nil : Le [] []
  | eq {g : Sl} {Γ Γ' : List Sl} : Le Γ Γ' → Le (g :: Γ) (g :: Γ')
  | j {g : Sl} {Γ Γ' : List Sl} : Le Γ Γ' → Le (g :: Γ) (.j :: Γ')
theorem Le.sl : ∀ {Γ Γ' : List Sl} {σ : List (Option V)}, Le Γ Γ' → SlAll K H0 F H σ Γ → SlAll K H0 F H σ Γ'
  | _, _, [], .nil, h => h
  | _, _, _ :: _, .nil, h => h.elim
  | _, _, [], .eq _, h => h.elim
  | _, _, [], .j _, h => h.elim
  | _, _, s :: σ, .eq l, h => ⟨h.1, l.sl h.2⟩
  | _, _, s :: σ, .j l, h => ⟨trivial, l.sl h.2⟩
theorem Le.ow : ∀ {Γ Γ' : List Sl} {σ : List (Option V)}, Le Γ Γ' → (owns σ Γ').Sublist (owns σ Γ)
  | _, _, [], _ => by simp [owns]
  | _, _, _ :: _, .nil => by simp [owns]
  | _, _, s :: σ, .eq l => by simp only [owns]; exact List.Sublist.append (List.Sublist.refl _) l.ow
  | _, _, s :: σ, .j l => by
    simp only [owns, own_j, List.nil_append]
    exact l.ow.trans (List.sublist_append_right _ _)
theorem SR.le {Γ' : List Sl} (h : SR K F0 H0 F H σ Γ) (l : Le Γ Γ') : SR K F0 H0 F H σ Γ' := ⟨h.st, l.sl h.sl, h.nd.sublist l.ow⟩
theorem Le.refl : ∀ {Γ : List Sl}, Le Γ Γ
  | [] => .nil
  | _ :: _ => .eq Le.refl
end
end Y

namespace Y
open PySem PySem.Spec PyProof.Rows L2

/-! ### judgements -/
/-- how a value is given out: r frozen, v as it is read, n a new list, m a new dict -/
inductive Kd where
  | r | v | n | m
def Ot {α : Type} (K : PySem.W.Frag) (k : Kd) (R : Rp α) (H F' H' : Hp) (v : V) (a : α) : Prop :=
  match k with
  | .r => Rep K F' v R a
  | .v => Vw K F' H' v R a
  | .n => New K H F' H' v R a
  | .m => NewM K H F' H' v R a
theorem Ot.back {α : Type} {K : PySem.W.Frag} {k : Kd} {R : Rp α} {F H F1 H1 F' H' : Hp} {v : V} {a : α} (s : Step F H F1 H1) (h : Ot K k R H1 F' H' v a) : Ot K k R H F' H' v a := by
  cases k with
  | r => exact h
  | v => exact h
  | n =>
    obtain ⟨p, vs, ds, e, n, r⟩ := h
    exact ⟨p, vs, ds, e, s.hh.free n, r⟩
  | m =>
    obtain ⟨p, vs, ds, e, n, r⟩ := h
    exact ⟨p, vs, ds, e, s.hh.free n, r⟩
def Ev {α : Type} (K : PySem.W.Frag) (F0 H0 : Hp) (t : TE) (Γ : List Sl) (k : Kd) (R : Rp α) (m : Option α) : Prop :=
  ∀ σ F H, SR K F0 H0 F H σ Γ → ∀ a, m = some a → ∀ Q : VK, (∀ v F' H', Step F H F' H' → Ot K k R H F' H' v a → Q v H') → t σ H Q
def EvT (K : PySem.W.Frag) (F0 H0 : Hp) (t : TT) (Γ : List Sl) (m : Option Bool) : Prop :=
  ∀ σ F H, SR K F0 H0 F H σ Γ → ∀ b, m = some b → ∀ Q : Bool → Hp → Prop, (∀ F' H', Step F H F' H' → Q b H') → t σ H Q
/-- arguments of one kind, n of them -/
def EvAs {α : Type} (K : PySem.W.Frag) (F0 H0 : Hp) (n : Nat) (t : TA) (Γ : List Sl) (R : Rp α) (m : Option (List α)) : Prop :=
  ∀ σ F H, SR K F0 H0 F H σ Γ → ∀ xs, m = some xs → xs.length = n ∧ ∀ Q : List V → Hp → Prop, (∀ vs F' H', Step F H F' H' → DqAll K F' vs (xs.map R.toD) → (∀ x ∈ xs, okD (R.toD x) = true) → Q vs H') → t σ H Q
/-- a def's arguments -/
structure AP (γ : Type) where
  ok : PySem.W.Frag → Hp → List V → γ → Prop
  mono : ∀ K F F' vs g, Same F F' → ok K F vs g → ok K F' vs g
  len : Nat
  hlen : ∀ K F vs g, ok K F vs g → vs.length = len
  sl : γ → List Sl
  hsl : ∀ K H0 F H vs g, ok K F vs g → SlAll K H0 F H (vs.map some) (sl g) ∧ owns (vs.map some) (sl g) = []
def aN : AP Unit := ⟨fun _ _ vs _ => vs = [], fun _ _ _ _ _ _ h => h, 0, fun _ _ _ _ h => by rw [h]; rfl, fun _ => [], fun _ _ _ _ _ _ h => by subst h; exact ⟨trivial, rfl⟩⟩
def aC {α γ : Type} (R : Rp α) (A : AP γ) : AP (α × γ) :=
  ⟨fun K F vs g => ∃ v r, vs = v :: r ∧ Rep K F v R g.1 ∧ A.ok K F r g.2, fun K F F' vs g e ⟨v, r, h1, h2, h3⟩ => ⟨v, r, h1, h2.mono e, A.mono K F F' r g.2 e h3⟩, A.len + 1, fun K F vs g ⟨v, r, h1, _, h3⟩ => by
    rw [h1, List.length_cons, A.hlen K F r g.2 h3], fun g => .f R g.1 :: A.sl g.2, fun K H0 F H vs g ⟨v, r, h1, h2, h3⟩ => by
    subst h1
    obtain ⟨a, b⟩ := A.hsl K H0 F H r g.2 h3
    refine ⟨⟨⟨v, rfl, h2⟩, a⟩, ?_⟩
    have e : own (some v) (.f R g.1) = [] := by unfold own; split <;> first | rfl | (rename_i e; exact nomatch e)
    simp only [List.map_cons, owns, e, b, List.append_nil]⟩
/-- the script -/
def aS {γ : Type} (A : AP γ) : AP (List Int × γ) :=
  ⟨fun K F vs g => ∃ a r, vs = .ref a :: r ∧ SqL K F a (g.1.map V.int) ∧ A.ok K F r g.2, fun K F F' vs g e ⟨v, r, h1, h2, h3⟩ => ⟨v, r, h1, e.seq h2, A.mono K F F' r g.2 e h3⟩, A.len + 1, fun K F vs g ⟨v, r, h1, _, h3⟩ => by
    rw [h1, List.length_cons, A.hlen K F r g.2 h3], fun g => .s g.1 :: A.sl g.2, fun K H0 F H vs g ⟨v, r, h1, h2, h3⟩ => by
    subst h1
    obtain ⟨a, b⟩ := A.hsl K H0 F H r g.2 h3
    refine ⟨⟨⟨v, rfl, h2⟩, a⟩, ?_⟩
    simp only [List.map_cons, owns, own, b, List.append_nil]⟩
def EvA {γ : Type} (K : PySem.W.Frag) (F0 H0 : Hp) (t : TA) (Γ : List Sl) (A : AP γ) (m : Option γ) : Prop :=
  ∀ σ F H, SR K F0 H0 F H σ Γ → ∀ g, m = some g → ∀ Q : List V → Hp → Prop, (∀ vs F' H', Step F H F' H' → A.ok K F' vs g → Q vs H') → t σ H Q
/-- a part of a slice -/
def EvP (K : PySem.W.Frag) (F0 H0 : Hp) (t : TO) (Γ : List Sl) (m : Option (Option Int)) : Prop :=
  ∀ σ F H, SR K F0 H0 F H σ Γ → ∀ b, m = some b → ∀ Q : Option Int → Hp → Prop, (∀ F' H', Step F H F' H' → Q b H') → t σ H Q

def Op2 {α β γ : Type} (K : PySem.W.Frag) (r : R2) (R : Rp α) (S : Rp β) (k : Kd) (T : Rp γ) (f : α → β → Option γ) : Prop :=
  ∀ F H x y a b c, Same F H → Vw K F H x R a → Vw K F H y S b → f a b = some c → ∀ Q : VK, (∀ v F' H', Step F H F' H' → Ot K k T H F' H' v c → Q v H') → r x y H Q
def Op1 {α γ : Type} (K : PySem.W.Frag) (r : V → Hp → VK → Prop) (R : Rp α) (k : Kd) (T : Rp γ) (f : α → Option γ) : Prop :=
  ∀ F H x a c, Same F H → Vw K F H x R a → f a = some c → ∀ Q : VK, (∀ v F' H', Step F H F' H' → Ot K k T H F' H' v c → Q v H') → r x H Q
/-- a built-in of one argument -/
def Cb1 {α γ : Type} (K : PySem.W.Frag) (r : List V → Hp → VK → Prop) (R : Rp α) (k : Kd) (T : Rp γ) (f : α → Option γ) : Prop :=
  ∀ F H x a c, Same F H → Vw K F H x R a → f a = some c → ∀ Q : VK, (∀ v F' H', Step F H F' H' → Ot K k T H F' H' v c → Q v H') → r [x] H Q
def Sl3 {α γ : Type} (K : PySem.W.Frag) (r : V → Option Int → Option Int → Hp → VK → Prop) (R : Rp α) (k : Kd) (T : Rp γ) (f : α → Option Int → Option Int → Option γ) : Prop :=
  ∀ F H x a lo hi c, Same F H → Vw K F H x R a → f a lo hi = some c → ∀ Q : VK, (∀ v F' H', Step F H F' H' → Ot K k T H F' H' v c → Q v H') → r x lo hi H Q

section
variable {K : PySem.W.Frag} {F0 H0 : Hp} {Γ : List Sl} {α β γ δ : Type} {R : Rp α} {S : Rp β} {T : Rp γ} {U : Rp δ} {t ta tb tc : TE} {k : Kd}

theorem Ev.nr {m : Option α} (h : Ev K F0 H0 t Γ .n R m) : Ev K F0 H0 t Γ .r R m := by
  intro σ F H s a e Q q
  refine h σ F H s a e Q fun v F' H' s' o => ?_
  obtain ⟨F'', s'', r⟩ := New.rep s' o
  exact q v F'' H' s'' r
theorem Ev.rv {m : Option α} (h : Ev K F0 H0 t Γ .r R m) : Ev K F0 H0 t Γ .v R m := by
  intro σ F H s a e Q q
  exact h σ F H s a e Q fun v F' H' s' o => q v F' H' s' (Rep.vw o)
theorem Ev.nv {m : Option α} (h : Ev K F0 H0 t Γ .n R m) : Ev K F0 H0 t Γ .v R m := h.nr.rv
theorem Ev.mkO {h : ∀ a, PyData.eqv .none (R.toD a) = false ∧ PyData.eqv (R.toD a) .none = false} {m : Option α} (e : Ev K F0 H0 t Γ .r R m) : Ev K F0 H0 t Γ .r (rO R h) (m.bind fun a => some (some a)) := by
  intro σ F H s a ea Q q
  cases m with
  | none => cases ea
  | some b =>
    cases ea
    exact e σ F H s b rfl Q fun v F' H' s' o => q v F' H' s' o

theorem ev_var {i : Nat} {x : α} (h : gt Γ i = .f R x) : Ev K F0 H0 (tVar i) Γ .r R (some x) := by
  intro σ F H s a e Q q
  cases e
  obtain ⟨z, h1, h2⟩ := s.sl.get (i := i) (by rw [h]; exact fun z => nomatch z)
  rw [h] at h2
  obtain ⟨v, rfl, r⟩ := h2
  exact ⟨v, h1, q v F H (Step.refl s.st.fh) r⟩
theorem ev_varO {i : Nat} {xs : List α} (h : gt Γ i = .o R xs) : Ev K F0 H0 (tVar i) Γ .v (rL R) (some xs) := by
  intro σ F H s a e Q q
  cases e
  obtain ⟨z, h1, h2⟩ := s.sl.get (i := i) (by rw [h]; exact fun z => nomatch z)
  rw [h] at h2
  obtain ⟨p, vs, rfl, h0, hF, hH, hd, ho, hl⟩ := h2
  refine ⟨.ref p, h1, q _ F H (Step.refl s.st.fh) (.inr ⟨p, vs, _, rfl, hH, rfl, hd, okL.mpr ⟨fun d hd => ?_, by simpa using hl⟩⟩)⟩
  obtain ⟨x, hx, rfl⟩ := List.mem_map.mp hd
  exact ho x hx
theorem ev_int {i : Int} : Ev K F0 H0 (tC (.int i)) Γ .r rI (some i) := by
  intro σ F H s a e Q q
  cases e
  exact q _ F H (Step.refl s.st.fh) (rep_int.mpr rfl)
theorem ev_bl {i : Bool} : Ev K F0 H0 (tC (.bl i)) Γ .r rB (some i) := by
  intro σ F H s a e Q q
  cases e
  exact q _ F H (Step.refl s.st.fh) (rep_bool.mpr rfl)
theorem ev_non : Ev K F0 H0 (tC .non) Γ .r rN (some ()) := by
  intro σ F H s a e Q q
  cases e
  exact q _ F H (Step.refl s.st.fh) (rep_none.mpr rfl)
theorem ev_nonO {h : ∀ a, PyData.eqv .none (R.toD a) = false ∧ PyData.eqv (R.toD a) .none = false} : Ev K F0 H0 (tC .non) Γ .r (rO R h) (some none) := by
  intro σ F H s a e Q q
  cases e
  exact q _ F H (Step.refl s.st.fh) ⟨.non, rfl⟩
theorem ev_str {x : Str} (l : List Nat) (h : x = ⟨l.toArray⟩) (h1 : (l.all fun c => decide (c < 1114112)) = true) (h2 : l.length ≤ 16777216) : Ev K F0 H0 (tC (.str x)) Γ .r rS (some l) := by
  intro σ F H s a e Q q
  cases e
  subst h
  exact q _ F H (Step.refl s.st.fh) (rep_str (by simpa using h1) h2)
theorem ev_op {r : R2} {f : α → β → Option γ} {ma : Option α} {mb : Option β} (h : Op2 K r R S k T f) (ha : Ev K F0 H0 ta Γ .v R ma) (hb : Ev K F0 H0 tb Γ .v S mb) :
    Ev K F0 H0 (tOp r ta tb) Γ k T (ma.bind fun a => mb.bind fun b => f a b) := by
  intro σ F H s c e Q q
  cases ma with
  | none => cases e
  | some a =>
    cases mb with
    | none => cases e
    | some b =>
      refine ha σ F H s a rfl _ fun x F1 H1 s1 o1 => ?_
      refine hb σ F1 H1 (s.mono s1) b rfl _ fun y F2 H2 s2 o2 => ?_
      exact h F2 H2 x y a b c s2.fh (Vw.mono o1 s2) o2 e Q fun v F' H' s' o => q v F' H' (s1.trans (s2.trans s')) (Ot.back (s1.trans s2) o)
theorem ev_un {r : V → Hp → VK → Prop} {f : α → Option γ} {ma : Option α} (h : Op1 K r R k T f) (ha : Ev K F0 H0 ta Γ .v R ma) :
    Ev K F0 H0 (tUn r ta) Γ k T (ma.bind f) := by
  intro σ F H s c e Q q
  cases ma with
  | none => cases e
  | some a =>
    refine ha σ F H s a rfl _ fun x F1 H1 s1 o1 => ?_
    exact h F1 H1 x a c s1.fh o1 e Q fun v F' H' s' o => q v F' H' (s1.trans s') (Ot.back s1 o)
theorem ev_cb1 {r : List V → Hp → VK → Prop} {f : α → Option γ} {ma : Option α} (h : Cb1 K r R k T f) (ha : Ev K F0 H0 ta Γ .v R ma) :
    Ev K F0 H0 (tCB r (tCons ta tNil)) Γ k T (ma.bind f) := by
  intro σ F H s c e Q q
  cases ma with
  | none => cases e
  | some a =>
    refine ha σ F H s a rfl _ fun x F1 H1 s1 o1 => ?_
    exact h F1 H1 x a c s1.fh o1 e Q fun v F' H' s' o => q v F' H' (s1.trans s') (Ot.back s1 o)
theorem ev_slice {r : V → Option Int → Option Int → Hp → VK → Prop} {f : α → Option Int → Option Int → Option γ} {ma : Option α} {tl th : TO} {ml mh : Option (Option Int)} (h : Sl3 K r R k T f)
    (ha : Ev K F0 H0 ta Γ .v R ma) (hl : EvP K F0 H0 tl Γ ml) (hh : EvP K F0 H0 th Γ mh) : Ev K F0 H0 (tSl r ta tl th) Γ k T (ma.bind fun a => ml.bind fun lo => mh.bind fun hi => f a lo hi) := by
  intro σ F H s c e Q q
  cases ma with
  | none => cases e
  | some a =>
    cases ml with
    | none => cases e
    | some lo =>
      cases mh with
      | none => cases e
      | some hi =>
        refine ha σ F H s a rfl _ fun x F1 H1 s1 o1 => ?_
        refine hl σ F1 H1 (s.mono s1) lo rfl _ fun F2 H2 s2 => ?_
        refine hh σ F2 H2 ((s.mono s1).mono s2) hi rfl _ fun F3 H3 s3 => ?_
        exact h F3 H3 x a lo hi c s3.fh (Vw.mono o1 (s2.trans s3)) e Q fun v F' H' s' o => q v F' H' (s1.trans (s2.trans (s3.trans s'))) (Ot.back (s1.trans (s2.trans s3)) o)
theorem evp_none : EvP K F0 H0 tNoPart Γ (some none) := by
  intro σ F H s b e Q q
  cases e
  exact q F H (Step.refl s.st.fh)
theorem evp_some {m : Option Int} (h : Ev K F0 H0 t Γ .r rI m) : EvP K F0 H0 (tPart t) Γ (m.bind fun i => some (some i)) := by
  intro σ F H s b e Q q
  cases m with
  | none => cases e
  | some i =>
    cases e
    refine h σ F H s i rfl _ fun v F' H' s' o => ?_
    exact ⟨i, rep_int.mp o, q F' H' s'⟩

/-! ### tests -/
theorem evt_test {m : Option Bool} (h : Ev K F0 H0 t Γ .r rB m) : EvT K F0 H0 (tTest t) Γ m := by
  intro σ F H s b e Q q
  refine h σ F H s b e _ fun v F' H' s' o => ?_
  exact ⟨b, rep_bool.mp o, q F' H' s'⟩
theorem evt_b {m : Option Bool} (h : Ev K F0 H0 t Γ .r rB m) : EvT K F0 H0 (tB t) Γ m := evt_test h
theorem evt_and {t u : TT} {m n : Option Bool} (h : EvT K F0 H0 t Γ m) (h' : EvT K F0 H0 u Γ n) : EvT K F0 H0 (tAnd t u) Γ (m.bind fun b => if b = true then n else some false) := by
  intro σ F H s b e Q q
  cases m with
  | none => cases e
  | some c =>
    refine h σ F H s c rfl _ fun F1 H1 s1 => ?_
    cases c with
    | true =>
      rw [if_pos rfl]
      exact h' σ F1 H1 (s.mono s1) b e Q fun F2 H2 s2 => q F2 H2 (s1.trans s2)
    | false =>
      cases e
      rw [if_neg Bool.false_ne_true]
      exact q F1 H1 s1
theorem evt_or {t u : TT} {m n : Option Bool} (h : EvT K F0 H0 t Γ m) (h' : EvT K F0 H0 u Γ n) : EvT K F0 H0 (tOr t u) Γ (m.bind fun b => if b = true then some true else n) := by
  intro σ F H s b e Q q
  cases m with
  | none => cases e
  | some c =>
    refine h σ F H s c rfl _ fun F1 H1 s1 => ?_
    cases c with
    | true =>
      cases e
      rw [if_pos rfl]
      exact q F1 H1 s1
    | false =>
      rw [if_neg Bool.false_ne_true]
      exact h' σ F1 H1 (s.mono s1) b e Q fun F2 H2 s2 => q F2 H2 (s1.trans s2)
theorem evt_not {t : TT} {m : Option Bool} (h : EvT K F0 H0 t Γ m) : EvT K F0 H0 (tNot t) Γ (m.bind fun b => some (!b)) := by
  intro σ F H s b e Q q
  cases m with
  | none => cases e
  | some c =>
    cases e
    exact h σ F H s c rfl _ fun F1 H1 s1 => q F1 H1 s1
theorem evt_yes : EvT K F0 H0 tYes Γ (some true) := by
  intro σ F H s b e Q q
  cases e
  exact q F H (Step.refl s.st.fh)
theorem ev_andV {m n : Option Bool} (h : Ev K F0 H0 ta Γ .r rB m) (h' : Ev K F0 H0 tb Γ .r rB n) : Ev K F0 H0 (tAndV ta tb) Γ .r rB (m.bind fun b => if b = true then n else some false) := by
  intro σ F H s b e Q q
  cases m with
  | none => cases e
  | some c =>
    refine h σ F H s c rfl _ fun v F1 H1 s1 o => ⟨c, rep_bool.mp o, ?_⟩
    cases c with
    | true =>
      rw [if_pos rfl]
      exact h' σ F1 H1 (s.mono s1) b e Q fun v F2 H2 s2 o2 => q v F2 H2 (s1.trans s2) o2
    | false =>
      cases e
      rw [if_neg Bool.false_ne_true]
      exact q _ F1 H1 s1 (rep_bool.mpr rfl)
theorem ev_orV {m n : Option Bool} (h : Ev K F0 H0 ta Γ .r rB m) (h' : Ev K F0 H0 tb Γ .r rB n) : Ev K F0 H0 (tOrV ta tb) Γ .r rB (m.bind fun b => if b = true then some true else n) := by
  intro σ F H s b e Q q
  cases m with
  | none => cases e
  | some c =>
    refine h σ F H s c rfl _ fun v F1 H1 s1 o => ⟨c, rep_bool.mp o, ?_⟩
    cases c with
    | true =>
      cases e
      rw [if_pos rfl]
      exact q _ F1 H1 s1 (rep_bool.mpr rfl)
    | false =>
      rw [if_neg Bool.false_ne_true]
      exact h' σ F1 H1 (s.mono s1) b e Q fun v F2 H2 s2 o2 => q v F2 H2 (s1.trans s2) o2
theorem ev_notV {m : Option Bool} (h : Ev K F0 H0 ta Γ .r rB m) : Ev K F0 H0 (tNotV ta) Γ .r rB (m.bind fun b => some (!b)) := by
  intro σ F H s b e Q q
  cases m with
  | none => cases e
  | some c =>
    cases e
    exact h σ F H s c rfl _ fun v F1 H1 s1 o => ⟨c, rep_bool.mp o, q _ F1 H1 s1 (rep_bool.mpr rfl)⟩
theorem ev_if {c : TT} {mc : Option Bool} {m n : Option α} (hc : EvT K F0 H0 c Γ mc) (h : Ev K F0 H0 ta Γ k R m) (h' : Ev K F0 H0 tb Γ k R n) : Ev K F0 H0 (tIf c ta tb) Γ k R (mc.bind fun b => if b = true then m else n) := by
  intro σ F H s a e Q q
  cases mc with
  | none => cases e
  | some b =>
    refine hc σ F H s b rfl _ fun F1 H1 s1 => ?_
    cases b with
    | true =>
      rw [if_pos rfl]
      exact h σ F1 H1 (s.mono s1) a e Q fun v F2 H2 s2 o2 => q v F2 H2 (s1.trans s2) (Ot.back s1 o2)
    | false =>
      rw [if_neg Bool.false_ne_true]
      exact h' σ F1 H1 (s.mono s1) a e Q fun v F2 H2 s2 o2 => q v F2 H2 (s1.trans s2) (Ot.back s1 o2)

/-! ### displays -/
theorem evas_nil : EvAs K F0 H0 0 tNil Γ R (some []) := by
  intro σ F H s xs e
  cases e
  exact ⟨rfl, fun Q q => q [] F H (Step.refl s.st.fh) .nil (fun _ h => nomatch h)⟩
theorem evas_cons {n : Nat} {tr : TA} {m : Option α} {mr : Option (List α)} (h : Ev K F0 H0 t Γ .r R m) (hr : EvAs K F0 H0 n tr Γ R mr) : EvAs K F0 H0 (n + 1) (tCons t tr) Γ R (m.bind fun x => mr.bind fun r => some (x :: r)) := by
  intro σ F H s xs e
  cases m with
  | none => cases e
  | some x =>
    cases mr with
    | none => cases e
    | some r =>
      cases e
      refine ⟨by rw [List.length_cons, (hr σ F H s r rfl).1], fun Q q => ?_⟩
      refine h σ F H s x rfl _ fun v F1 H1 s1 o1 => ?_
      refine (hr σ F1 H1 (s.mono s1) r rfl).2 _ fun vs F2 H2 s2 d2 k2 => ?_
      refine q (v :: vs) F2 H2 (s1.trans s2) (.cons (o1.mono s2.ff).1 d2) fun y hy => ?_
      rcases List.mem_cons.mp hy with rfl | hy
      · exact o1.2
      · exact k2 y hy
theorem dvlen {K : PySem.W.Frag} {F : Hp} {vs : List V} {xs : List α} (h : DqAll K F vs (xs.map R.toD)) : vs.length = xs.length := by
  rw [DqAll.len h, List.length_map]
theorem ev_lst {n : Nat} {t : TA} {m : Option (List α)} (h : EvAs K F0 H0 n t Γ R m) (hn : n ≤ 16777216 := by decide) : Ev K F0 H0 (tLst t) Γ .n (rL R) m := by
  intro σ F H s xs e Q q
  obtain ⟨l, h⟩ := h σ F H s xs e
  refine h _ fun vs F1 H1 s1 d1 k1 => ⟨?_, fun p np => ?_⟩
  · rw [dvlen d1, l, sizeLine_eq]; exact hn
  · refine q (.ref p) F1 (upd H1 p (.lst vs)) (s1.trans (Step.layO s1.fh np)) ⟨p, vs, _, rfl, s1.hh.free np, s1.fh.free np, upd_same, rfl, d1, okL.mpr ⟨fun d hd => ?_, by simpa [l] using hn⟩⟩
    obtain ⟨x, hx, rfl⟩ := List.mem_map.mp hd
    exact k1 x hx
theorem ev_tupL {n : Nat} {t : TA} {m : Option (List α)} (h : EvAs K F0 H0 n t Γ R m) (hn : n ≤ 16777216 := by decide) : Ev K F0 H0 (tTup t) Γ .r (rT R) m := by
  intro σ F H s xs e Q q
  obtain ⟨l, h⟩ := h σ F H s xs e
  refine h _ fun vs F1 H1 s1 d1 k1 => ⟨?_, fun p np => ?_⟩
  · rw [dvlen d1, l, sizeLine_eq]; exact hn
  · refine q (.ref p) _ (upd H1 p (.tup vs)) (s1.trans (Step.lay s1.fh np)) ⟨.tup upd_same (DqAll.mono (Same.upd (s1.fh.free np)) _ _ d1), okT.mpr ⟨fun d hd => ?_, by simpa [l] using hn⟩⟩
    obtain ⟨x, hx, rfl⟩ := List.mem_map.mp hd
    exact k1 x hx
theorem ev_pair {m : Option α} {n : Option β} (ha : Ev K F0 H0 ta Γ .r R m) (hb : Ev K F0 H0 tb Γ .r S n) : Ev K F0 H0 (tTup (tCons ta (tCons tb tNil))) Γ .r (rP R S) (m.bind fun a => n.bind fun b => some (a, b)) := by
  intro σ F H s c e Q q
  cases m with
  | none => cases e
  | some a =>
    cases n with
    | none => cases e
    | some b =>
      cases e
      refine ha σ F H s a rfl _ fun x F1 H1 s1 o1 => ?_
      refine hb σ F1 H1 (s.mono s1) b rfl _ fun y F2 H2 s2 o2 => ⟨by show 2 ≤ sizeLine; decide, fun p np => ?_⟩
      have e2 := Same.upd (o := HO.tup [x, y]) (s2.fh.free np)
      refine q (.ref p) _ (upd H2 p (.tup [x, y])) (s1.trans (s2.trans (Step.lay s2.fh np))) ⟨.tup upd_same (.cons (o1.mono (s2.ff.trans e2)).1 (.cons (o2.mono e2).1 .nil)), okT.mpr ⟨fun d hd => ?_, by simp⟩⟩
      rcases List.mem_cons.mp hd with rfl | hd
      · exact o1.2
      · rcases List.mem_cons.mp hd with rfl | hd
        · exact o2.2
        · cases hd
theorem ev_trip {m : Option α} {n : Option β} {o : Option γ} (ha : Ev K F0 H0 ta Γ .r R m) (hb : Ev K F0 H0 tb Γ .r S n) (hc : Ev K F0 H0 tc Γ .r T o) :
    Ev K F0 H0 (tTup (tCons ta (tCons tb (tCons tc tNil)))) Γ .r (r3 R S T) (m.bind fun a => n.bind fun b => o.bind fun c => some (a, b, c)) := by
  intro σ F H s c e Q q
  cases m with
  | none => cases e
  | some a =>
    cases n with
    | none => cases e
    | some b =>
      cases o with
      | none => cases e
      | some c' =>
        cases e
        refine ha σ F H s a rfl _ fun x F1 H1 s1 o1 => ?_
        refine hb σ F1 H1 (s.mono s1) b rfl _ fun y F2 H2 s2 o2 => ?_
        refine hc σ F2 H2 ((s.mono s1).mono s2) c' rfl _ fun z F3 H3 s3 o3 => ⟨by show 3 ≤ sizeLine; decide, fun p np => ?_⟩
        have e2 := Same.upd (o := HO.tup [x, y, z]) (s3.fh.free np)
        refine q (.ref p) _ (upd H3 p (.tup [x, y, z])) (s1.trans (s2.trans (s3.trans (Step.lay s3.fh np)))) ⟨.tup upd_same (.cons (o1.mono (s2.ff.trans (s3.ff.trans e2))).1 (.cons (o2.mono (s3.ff.trans e2)).1 (.cons (o3.mono e2).1 .nil))), okT.mpr ⟨fun d hd => ?_, by simp⟩⟩
        rcases List.mem_cons.mp hd with rfl | hd
        · exact o1.2
        · rcases List.mem_cons.mp hd with rfl | hd
          · exact o2.2
          · rcases List.mem_cons.mp hd with rfl | hd
            · exact o3.2
            · cases hd

/-! ### places of fixed tuples -/
theorem ev_fst {m : Option (α × β)} (h : Ev K F0 H0 ta Γ .r (rP R S) m) : Ev K F0 H0 (tOp (rIxT K) ta (tC (.int 0))) Γ .r R (m.bind fun p => some p.1) := by
  intro σ F H s c e Q q
  cases m with
  | none => cases e
  | some a =>
    cases e
    refine h σ F H s a rfl _ fun x F1 H1 s1 o1 => ?_
    obtain ⟨p, v1, v2, rfl, hq, h1, h2⟩ := Rep.pair o1
    exact ⟨p, _, 0, v1, rfl, rfl, SameT s1.fh hq, rfl, q v1 F1 H1 s1 h1⟩
theorem ev_snd {m : Option (α × β)} (h : Ev K F0 H0 ta Γ .r (rP R S) m) : Ev K F0 H0 (tOp (rIxT K) ta (tC (.int 1))) Γ .r S (m.bind fun p => some p.2) := by
  intro σ F H s c e Q q
  cases m with
  | none => cases e
  | some a =>
    cases e
    refine h σ F H s a rfl _ fun x F1 H1 s1 o1 => ?_
    obtain ⟨p, v1, v2, rfl, hq, h1, h2⟩ := Rep.pair o1
    exact ⟨p, _, 1, v2, rfl, rfl, SameT s1.fh hq, rfl, q v2 F1 H1 s1 h2⟩
theorem ev_q0 {m : Option (α × β × γ × δ)} (h : Ev K F0 H0 ta Γ .r (r4 R S T U) m) : Ev K F0 H0 (tOp (rIxT K) ta (tC (.int 0))) Γ .r R (m.bind fun p => some p.1) := by
  intro σ F H s c e Q q
  cases m with
  | none => cases e
  | some a =>
    cases e
    refine h σ F H s a rfl _ fun x F1 H1 s1 o1 => ?_
    obtain ⟨p, v1, v2, v3, v4, rfl, hq, h1, h2, h3, h4⟩ := Rep.quad o1
    exact ⟨p, _, 0, v1, rfl, rfl, SameT s1.fh hq, rfl, q v1 F1 H1 s1 h1⟩
theorem ev_q1 {m : Option (α × β × γ × δ)} (h : Ev K F0 H0 ta Γ .r (r4 R S T U) m) : Ev K F0 H0 (tOp (rIxT K) ta (tC (.int 1))) Γ .r S (m.bind fun p => some p.2.1) := by
  intro σ F H s c e Q q
  cases m with
  | none => cases e
  | some a =>
    cases e
    refine h σ F H s a rfl _ fun x F1 H1 s1 o1 => ?_
    obtain ⟨p, v1, v2, v3, v4, rfl, hq, h1, h2, h3, h4⟩ := Rep.quad o1
    exact ⟨p, _, 1, v2, rfl, rfl, SameT s1.fh hq, rfl, q v2 F1 H1 s1 h2⟩
theorem ev_q2 {m : Option (α × β × γ × δ)} (h : Ev K F0 H0 ta Γ .r (r4 R S T U) m) : Ev K F0 H0 (tOp (rIxT K) ta (tC (.int 2))) Γ .r T (m.bind fun p => some p.2.2.1) := by
  intro σ F H s c e Q q
  cases m with
  | none => cases e
  | some a =>
    cases e
    refine h σ F H s a rfl _ fun x F1 H1 s1 o1 => ?_
    obtain ⟨p, v1, v2, v3, v4, rfl, hq, h1, h2, h3, h4⟩ := Rep.quad o1
    exact ⟨p, _, 2, v3, rfl, rfl, SameT s1.fh hq, rfl, q v3 F1 H1 s1 h3⟩
theorem ev_q3 {m : Option (α × β × γ × δ)} (h : Ev K F0 H0 ta Γ .r (r4 R S T U) m) : Ev K F0 H0 (tOp (rIxT K) ta (tC (.int 3))) Γ .r U (m.bind fun p => some p.2.2.2) := by
  intro σ F H s c e Q q
  cases m with
  | none => cases e
  | some a =>
    cases e
    refine h σ F H s a rfl _ fun x F1 H1 s1 o1 => ?_
    obtain ⟨p, v1, v2, v3, v4, rfl, hq, h1, h2, h3, h4⟩ := Rep.quad o1
    exact ⟨p, _, 3, v4, rfl, rfl, SameT s1.fh hq, rfl, q v4 F1 H1 s1 h4⟩

/-! ### calls of defs -/
theorem eva_nil : EvA K F0 H0 tNil Γ aN (some ()) := by
  intro σ F H s xs e Q q
  exact q [] F H (Step.refl s.st.fh) rfl
theorem eva_cons {A : AP γ} {tr : TA} {m : Option α} {mr : Option γ} (h : Ev K F0 H0 t Γ .r R m) (hr : EvA K F0 H0 tr Γ A mr) : EvA K F0 H0 (tCons t tr) Γ (aC R A) (m.bind fun x => mr.bind fun r => some (x, r)) := by
  intro σ F H s xs e Q q
  cases m with
  | none => cases e
  | some x =>
    cases mr with
    | none => cases e
    | some r =>
      cases e
      refine h σ F H s x rfl _ fun v F1 H1 s1 o1 => ?_
      refine hr σ F1 H1 (s.mono s1) r rfl _ fun vs F2 H2 s2 d2 => ?_
      exact q (v :: vs) F2 H2 (s1.trans s2) ⟨v, vs, rfl, o1.mono s2.ff, d2⟩
theorem eva_consS {A : AP γ} {tr : TA} {i : Nat} {ns : List Int} {mr : Option γ} (h : gt Γ i = .s ns) (hr : EvA K F0 H0 tr Γ A mr) : EvA K F0 H0 (tCons (tVar i) tr) Γ (aS A) (mr.bind fun r => some (ns, r)) := by
  intro σ F H s xs e Q q
  cases mr with
  | none => cases e
  | some r =>
    cases e
    obtain ⟨z, h1, h2⟩ := s.sl.get (i := i) (by rw [h]; exact fun z => nomatch z)
    rw [h] at h2
    obtain ⟨a, rfl, hq⟩ := h2
    refine ⟨.ref a, h1, ?_⟩
    refine hr σ F H s r rfl _ fun vs F2 H2 s2 d2 => ?_
    exact q (.ref a :: vs) F2 H2 s2 ⟨a, vs, rfl, s2.ff.seq hq, d2⟩
theorem ev_scrAt {i : Nat} {ns : List Int} {mb : Option Int} (h : gt Γ i = .s ns) (hb : Ev K F0 H0 tb Γ .r rI mb) : Ev K F0 H0 (tOp (rIxL K) (tVar i) tb) Γ .r rI (mb.bind fun b => atI ns b) := by
  intro σ F H s c e Q q
  cases mb with
  | none => cases e
  | some b =>
    obtain ⟨z, h1, h2⟩ := s.sl.get (i := i) (by rw [h]; exact fun z => nomatch z)
    rw [h] at h2
    obtain ⟨a, rfl, hq⟩ := h2
    refine ⟨.ref a, h1, ?_⟩
    refine hb σ F H s b rfl _ fun v F2 H2 s2 o2 => ?_
    have e : atI ns b = some c := e
    unfold atI at e
    obtain ⟨j, hj, e⟩ := Option.bind_eq_some_iff.mp e
    refine ⟨a, _, b, .int c, rfl, rep_int.mp o2, s2.fh.seq (s2.ff.seq hq), ?_, q _ F2 H2 s2 (rep_int.mpr rfl)⟩
    unfold atI
    rw [List.length_map, hj]
    simp [e]
theorem ev_scrLen {i : Nat} {ns : List Int} (h : gt Γ i = .s ns) : Ev K F0 H0 (tCB (fun xs H Q => ∃ p ys, xs = [.ref p] ∧ (SqL K H p ys ∨ SqT K H p ys) ∧ Q (.int ys.length) H) (tCons (tVar i) tNil)) Γ .r rI (some (ns.length : Int)) := by
  intro σ F H s c e Q q
  cases e
  obtain ⟨z, h1, h2⟩ := s.sl.get (i := i) (by rw [h]; exact fun z => nomatch z)
  rw [h] at h2
  obtain ⟨a, rfl, hq⟩ := h2
  exact ⟨.ref a, h1, a, _, rfl, .inl (s.st.fh.seq hq), q _ F H (Step.refl s.st.fh) (rep_int.mpr (by rw [List.length_map]))⟩
/-- a def's promise: it gives what f gives -/
def spD (K : PySem.W.Frag) (A : AP γ) (f : γ → Option α) (k : Kd) (R : Rp α) : Sp := fun vs H Q _ =>
  ∃ F g a, Same F H ∧ A.ok K F vs g ∧ f g = some a ∧ ∀ v F' H', Step F H F' H' → Ot K k R H F' H' v a → Q v H'
theorem ev_call {A : AP γ} {f : γ → Option α} {t : TA} {m : Option γ} (h : EvA K F0 H0 t Γ A m) : Ev K F0 H0 (tCall (spD K A f k R) [] E0 t) Γ k R (m.bind f) := by
  intro σ F H s a e Q q
  cases m with
  | none => cases e
  | some g =>
    refine h σ F H s g rfl _ fun vs F1 H1 s1 o1 => ?_
    rw [List.append_nil]
    exact ⟨F1, g, a, s1.fh, o1, e, fun v F' H' s' o => q v F' H' (s1.trans s') (Ot.back s1 o)⟩
end
end Y

namespace Y
open PySem PySem.Spec PyProof.Rows L2

/-! ### statements -/
inductive Fl (ρ β : Type) where
  | ret (r : ρ)
  | nx (b : β)
def Bd {ρ β : Type} (K : PySem.W.Frag) (F0 H0 : Hp) (u : TS) (Γ : List Sl) (k : Kd) (R : Rp ρ) (out : β → List Sl) (m : Option (Fl ρ β)) : Prop :=
  ∀ σ F H, SR K F0 H0 F H σ Γ → ∀ r, m = some r → ∀ D : Ends,
    (∀ x, r = .ret x → ∀ v F' H', Step F0 H0 F' H' → Ot K k R H0 F' H' v x → D.rt v H') →
    (∀ b, r = .nx b → ∀ σ' F' H', Same F F' → SR K F0 H0 F' H' σ' (out b) → D.nx σ' H') → u D σ H
/-- then, if it did not return -/
def thenF {ρ β β' : Type} (m : Option (Fl ρ β)) (f : β → Option (Fl ρ β')) : Option (Fl ρ β') :=
  m.bind fun r => match r with
    | .ret x => some (.ret x)
    | .nx b => f b
/-- a loop over a list of data -/
def forL {α ρ β : Type} : List α → β → (α → β → Option (Fl ρ β)) → Option (Fl ρ β)
  | [], s, _ => some (.nx s)
  | x :: xs, s, f => thenF (f x s) fun s' => forL xs s' f
def whileN {ρ β : Type} (c : β → Option Bool) (f : β → Option (Fl ρ β)) : Nat → β → Option (Fl ρ β)
  | 0, _ => none
  | n + 1, s => (c s).bind fun b => if b = true then thenF (f s) fun s' => whileN c f n s' else some (.nx s)
def runF {ρ : Type} (m : Option (Fl ρ Unit)) : Option ρ := m.bind fun r => match r with
  | .ret x => some x
  | .nx _ => none
def mapO {α β : Type} (f : α → Option β) : List α → Option (List β)
  | [] => some []
  | x :: xs => (f x).bind fun y => (mapO f xs).bind fun ys => some (y :: ys)
def filO {α β : Type} (c : α → Option Bool) (f : α → Option β) : List α → Option (List β)
  | [] => some []
  | x :: xs => (c x).bind fun b => if b = true then (f x).bind fun y => (filO c f xs).bind fun ys => some (y :: ys) else filO c f xs

/-- a target: the slots that it stores into -/
def Tg {α : Type} (K : PySem.W.Frag) (F0 H0 : Hp) (g : TG) (R : Rp α) (L : List Nat) (put : α → List Sl → List Sl) : Prop :=
  ∀ σ F H v a Γ, SR K F0 H0 F H σ Γ → Rep K F v R a → ∀ Q : L2.St → Hp → Prop, (∀ σ', SR K F0 H0 F H σ' (put a Γ) → wipe σ' L = wipe σ L → (∀ b ∈ owns σ' (put a Γ), b ∈ owns σ Γ) → Q σ' H) → g v σ H Q
/-- what is walked -/
structure Its {α : Type} (K : PySem.W.Frag) (F1 : Hp) (J : It) (S : Rp α) (xs : List α) : Prop where
  item : ∀ F' H', Same F1 F' → Same F' H' → ∀ (i : Nat) a, xs[i]? = some a → J.go i H' ∧ ∀ x H'', J.yld i H' x H'' → ∃ F'', Step F' H' F'' H'' ∧ Rep K F'' x S a
  stop : ∀ F' H', Same F1 F' → Same F' H' → J.stop xs.length H'
  len : xs.length ≤ 16777216
def Ei {α : Type} (K : PySem.W.Frag) (F0 H0 : Hp) (wi : TI) (Γ : List Sl) (S : Rp α) (m : Option (List α)) : Prop :=
  ∀ σ F H, SR K F0 H0 F H σ Γ → ∀ xs, m = some xs → ∀ Q : It → Hp → Prop, (∀ J F' H', Step F H F' H' → Its K F' J S xs → Q J H') → wi σ H Q

section
variable {K : PySem.W.Frag} {F0 H0 : Hp} {Γ : List Sl} {α β γ δ ρ : Type} {R : Rp ρ} {S : Rp α} {T : Rp γ} {U : Rp δ} {te : TE} {u t : TS} {k : Kd} {out : β → List Sl}

theorem bd_next {b : β} (h : Le Γ (out b)) : Bd K F0 H0 tNext Γ k R out (some (.nx b)) := by
  intro σ F H s r e D q1 q2
  cases e
  exact q2 b rfl σ F H (Same.refl _) (s.le h)
theorem bd_never {m : Option (Fl ρ β)} (h : m = none) : Bd K F0 H0 t Γ k R out m := by
  intro σ F H s r e D q1 q2
  rw [h] at e; cases e
theorem bd_set {i : Nat} {m : Option α} {kk : α → Option (Fl ρ β)} (h : Ev K F0 H0 te Γ .r S m) (hk : ∀ x, Bd K F0 H0 u (st Γ i (.f S x)) k R out (kk x)) :
    Bd K F0 H0 (tSeq (tAsg te (gName i)) u) Γ k R out (m.bind kk) := by
  intro σ F H s r e D q1 q2
  cases m with
  | none => cases e
  | some a =>
    refine h σ F H s a rfl _ fun v F1 H1 s1 o1 => ?_
    exact hk a _ F1 H1 ((s.mono s1).putF i o1) r e D q1 fun b eb σ' F' H' sm => q2 b eb σ' F' H' (s1.ff.trans sm)
theorem bd_setO {i : Nat} {m : Option (List α)} {kk : List α → Option (Fl ρ β)} (h : Ev K F0 H0 te Γ .n (rL S) m) (hk : ∀ x, Bd K F0 H0 u (st Γ i (.o S x)) k R out (kk x)) :
    Bd K F0 H0 (tSeq (tAsg te (gName i)) u) Γ k R out (m.bind kk) := by
  intro σ F H s r e D q1 q2
  cases m with
  | none => cases e
  | some a =>
    refine h σ F H s a rfl _ fun v F1 H1 s1 o1 => ?_
    obtain ⟨p, vs, ds, rfl, nH, nF, hH, hd, ha, ho⟩ := o1
    injection hd with hd
    subst hd
    have ho := okL.mp ho
    have n0 : H0 p = none := s.st.hh.free nH
    refine hk a _ F1 H1 ((s.mono s1).putO i n0 nF hH ha (fun x hx => ho.1 _ (List.mem_map_of_mem hx)) (by simpa using ho.2) fun z => ?_) r e D q1 fun b eb σ' F' H' sm => q2 b eb σ' F' H' (s1.ff.trans sm)
    obtain ⟨_, _, ws, hw⟩ := owns_in s.sl z
    rw [nH] at hw; cases hw
theorem bd_ret {m : Option ρ} (h : Ev K F0 H0 te Γ k R m) : Bd K F0 H0 (tSeq (tRet te) u) Γ k R out (m.bind fun x => some (.ret x)) := by
  intro σ F H s r e D q1 q2
  cases m with
  | none => cases e
  | some a =>
    cases e
    refine h σ F H s a rfl _ fun v F1 H1 s1 o1 => ?_
    exact q1 a rfl v F1 H1 (s.st.trans s1) (Ot.back s.st o1)
theorem bd_retO {i : Nat} {S : Rp α} {xs : List α} {out : β → List Sl} (h : gt Γ i = .o S xs) : Bd K F0 H0 (tSeq (tRet (tVar i)) u) Γ .n (rL S) out (some (.ret xs)) := by
  intro σ F H s r e D q1 q2
  cases e
  obtain ⟨z, h1, h2⟩ := s.sl.get (i := i) (by rw [h]; exact fun z => nomatch z)
  rw [h] at h2
  obtain ⟨p, vs, rfl, h0, hF, hH, hd, ho, hl⟩ := h2
  refine ⟨.ref p, h1, q1 xs rfl _ F H s.st ⟨p, vs, _, rfl, h0, hF, hH, rfl, hd, okL.mpr ⟨fun d hd => ?_, by simpa using hl⟩⟩⟩
  obtain ⟨x, hx, rfl⟩ := List.mem_map.mp hd
  exact ho x hx
/-- a list of our own is frozen from here on -/
theorem bd_frz {i : Nat} {S : Rp α} {xs : List α} {m : Option (Fl ρ β)} (e1 : gt Γ i = .o S xs) (h : Bd K F0 H0 u (st Γ i (.f (rL S) xs)) k R out m) : Bd K F0 H0 u Γ k R out m := by
  intro σ F H s r e D q1 q2
  obtain ⟨F', ff, s'⟩ := s.freeze e1
  exact h σ F' H s' r e D q1 fun b eb σ' F2 H' sm => q2 b eb σ' F2 H' (ff.trans sm)
theorem bd_le {Γ' : List Sl} {m : Option (Fl ρ β)} (l : Le Γ Γ') (h : Bd K F0 H0 u Γ' k R out m) : Bd K F0 H0 u Γ k R out m := by
  intro σ F H s r e D q1 q2
  exact h σ F H (s.le l) r e D q1 q2
theorem bd_if {c : TT} {mc : Option Bool} {m n : Option (Fl ρ β)} (hc : EvT K F0 H0 c Γ mc) (h : Bd K F0 H0 t Γ k R out m) (h' : Bd K F0 H0 u Γ k R out n) :
    Bd K F0 H0 (tIfS c t u) Γ k R out (mc.bind fun b => if b = true then m else n) := by
  intro σ F H s r e D q1 q2
  cases mc with
  | none => cases e
  | some b =>
    refine hc σ F H s b rfl _ fun F1 H1 s1 => ?_
    cases b with
    | true =>
      rw [if_pos rfl]
      exact h σ F1 H1 (s.mono s1) r e D q1 fun b eb σ' F' H' sm => q2 b eb σ' F' H' (s1.ff.trans sm)
    | false =>
      rw [if_neg Bool.false_ne_true]
      exact h' σ F1 H1 (s.mono s1) r e D q1 fun b eb σ' F' H' sm => q2 b eb σ' F' H' (s1.ff.trans sm)
/-- a compound statement, then the rest -/
theorem bd_seq {β' : Type} {out1 : β' → List Sl} {m : Option (Fl ρ β')} {kk : β' → Option (Fl ρ β)} (h : Bd K F0 H0 t Γ k R out1 m) (h' : ∀ b, Bd K F0 H0 u (out1 b) k R out (kk b)) :
    Bd K F0 H0 (tSeq t u) Γ k R out (thenF m kk) := by
  intro σ F H s r e D q1 q2
  cases m with
  | none => cases e
  | some r1 =>
    refine h σ F H s r1 rfl { D with nx := u D } (fun x ex v F' H' s' o => ?_) fun b eb σ' F' H' sm s' => ?_
    · subst ex
      cases e
      exact q1 x rfl v F' H' s' o
    · subst eb
      exact h' b σ' F' H' s' r e D q1 fun b eb σ2 F2 H2 sm2 => q2 b eb σ2 F2 H2 (sm.trans sm2)
theorem bd_asg {g : TG} {L : List Nat} {put : α → List Sl → List Sl} {m : Option α} {kk : α → Option (Fl ρ β)} (h : Ev K F0 H0 te Γ .r S m) (hg : Tg K F0 H0 g S L put) (hk : ∀ x, Bd K F0 H0 u (put x Γ) k R out (kk x)) :
    Bd K F0 H0 (tSeq (tAsg te g) u) Γ k R out (m.bind kk) := by
  intro σ F H s r e D q1 q2
  cases m with
  | none => cases e
  | some a =>
    refine h σ F H s a rfl _ fun v F1 H1 s1 o1 => ?_
    refine hg _ F1 H1 v a Γ (s.mono s1) o1 _ fun σ' s' _ _ => ?_
    exact hk a σ' F1 H1 s' r e D q1 fun b eb σ2 F2 H2 sm => q2 b eb σ2 F2 H2 (s1.ff.trans sm)
theorem dp_one {K : PySem.W.Frag} {F : Hp} {v : V} {x : α} {vs : List V} {xs : List α} (h : DqAll K F vs (xs.map S.toD)) (r : Rep K F v S x) : DqAll K F (vs ++ [v]) ((xs ++ [x]).map S.toD) := by
  rw [List.map_append]
  exact DqAll.app h (.cons r.1 .nil)
theorem bd_append {i : Nat} {xs : List α} {m : Option α} {kk : α → Option (Fl ρ β)} (h1 : gt Γ i = .o S xs) (h : Ev K F0 H0 te Γ .r S m) (hk : ∀ x, Bd K F0 H0 u (st Γ i (.o S (xs ++ [x]))) k R out (kk x)) :
    Bd K F0 H0 (tSeq (tDrop (tBM K "list" rAppend (tVar i) (tCons te tNil))) u) Γ k R out (m.bind fun x => if xs.length < 16777216 then kk x else none) := by
  intro σ F H s r e D q1 q2
  cases m with
  | none => cases e
  | some x =>
    have e : (if xs.length < 16777216 then kk x else none) = some r := e
    split at e
    · rename_i hl
      obtain ⟨z, hz, h2⟩ := s.sl.get (i := i) (by rw [h1]; exact fun z => nomatch z)
      rw [h1] at h2
      obtain ⟨p, vs, rfl, h0, hF, hH, hd, ho, hl'⟩ := h2
      refine ⟨.ref p, hz, .inl ⟨rfl, vs, .inl (.inl hH)⟩, ?_⟩
      refine h σ F H s x rfl _ fun v F1 H1 s1 o1 => ?_
      have sm := s.mono s1
      have hd1 := DqAll.mono s1.ff _ _ hd
      refine ⟨p, vs, v, rfl, rfl, s1.hh _ _ hH, by rw [dvlen hd, sizeLine_eq]; exact hl, ?_⟩
      exact hk x _ F1 _ (sm.write h1 hz (dp_one hd1 o1) (fun y hy => by
        rcases List.mem_append.mp hy with hy | hy
        · exact ho y hy
        · rw [List.mem_singleton.mp hy]; exact o1.2) (by rw [List.length_append, List.length_singleton]; omega)) r e D q1 fun b eb σ2 F2 H2 sm => q2 b eb σ2 F2 H2 (s1.ff.trans sm)
    · cases e
theorem bd_extend {i : Nat} {xs : List α} {m : Option (List α)} {kk : List α → Option (Fl ρ β)} (h1 : gt Γ i = .o S xs) (h : Ev K F0 H0 te Γ .n (rL S) m) (hk : ∀ ys, Bd K F0 H0 u (st Γ i (.o S (xs ++ ys))) k R out (kk ys)) :
    Bd K F0 H0 (tSeq (tDrop (tBM K "list" rExtend (tVar i) (tCons te tNil))) u) Γ k R out (m.bind fun ys => if xs.length + ys.length ≤ 16777216 then kk ys else none) := by
  intro σ F H s r e D q1 q2
  cases m with
  | none => cases e
  | some ys =>
    have e : (if xs.length + ys.length ≤ 16777216 then kk ys else none) = some r := e
    split at e
    · rename_i hl
      obtain ⟨z, hz, h2⟩ := s.sl.get (i := i) (by rw [h1]; exact fun z => nomatch z)
      rw [h1] at h2
      obtain ⟨p, vs, rfl, h0, hF, hH, hd, ho, hl'⟩ := h2
      refine ⟨.ref p, hz, .inl ⟨rfl, vs, .inl (.inl hH)⟩, ?_⟩
      refine h σ F H s ys rfl _ fun v F1 H1 s1 o1 => ?_
      have sm := s.mono s1
      have hd1 := DqAll.mono s1.ff _ _ hd
      obtain ⟨p2, vs2, ds2, rfl, n2, nF2, hH2, e2, d2, k2⟩ := o1
      injection e2 with e2
      subst e2
      have k2 := okL.mp k2
      refine ⟨p, p2, vs, vs2, rfl, rfl, s1.hh _ _ hH, hH2, by rw [dvlen hd, dvlen d2, sizeLine_eq]; exact hl, ?_⟩
      exact hk ys _ F1 _ (sm.write h1 hz (by rw [List.map_append]; exact DqAll.app hd1 d2) (fun y hy => by
        rcases List.mem_append.mp hy with hy | hy
        · exact ho y hy
        · exact k2.1 _ (List.mem_map_of_mem hy)) (by rw [List.length_append]; omega)) r e D q1 fun b eb σ2 F2 H2 sm => q2 b eb σ2 F2 H2 (s1.ff.trans sm)
    · cases e
theorem ixN_lt {n j : Nat} {k : Int} (h : ixN n k = some j) : j < n := by
  unfold ixN at h
  split at h <;> split at h <;> simp at h <;> omega
theorem bd_setitem {i : Nat} {xs : List α} {ti : TE} {m : Option α} {mi : Option Int} {kk : Nat → α → Option (Fl ρ β)} (h1 : gt Γ i = .o S xs) (h : Ev K F0 H0 te Γ .r S m) (hi : Ev K F0 H0 ti Γ .r rI mi)
    (hk : ∀ j x, Bd K F0 H0 u (st Γ i (.o S (xs.set j x))) k R out (kk j x)) :
    Bd K F0 H0 (tSeq (tAsg te (gSub (tVar i) ti rSetL)) u) Γ k R out (m.bind fun x => mi.bind fun n => (ixN xs.length n).bind fun j => kk j x) := by
  intro σ F H s r e D q1 q2
  cases m with
  | none => cases e
  | some x =>
    cases mi with
    | none => cases e
    | some n =>
      have e : ((ixN xs.length n).bind fun j => kk j x) = some r := e
      cases ej : ixN xs.length n with
      | none => rw [ej] at e; cases e
      | some j =>
        rw [ej] at e
        obtain ⟨z, hz, h2⟩ := s.sl.get (i := i) (by rw [h1]; exact fun z => nomatch z)
        rw [h1] at h2
        obtain ⟨p, vs, rfl, h0, hF, hH, hd, ho, hl'⟩ := h2
        refine h σ F H s x rfl _ fun v F1 H1 s1 o1 => ?_
        refine ⟨.ref p, hz, ?_⟩
        refine hi σ F1 H1 (s.mono s1) n rfl _ fun v2 F2 H2 s2 o2 => ?_
        have sm := (s.mono s1).mono s2
        have hd1 := DqAll.mono (s1.ff.trans s2.ff) _ _ hd
        refine ⟨p, vs, n, j, rfl, rep_int.mp o2, s2.hh _ _ (s1.hh _ _ hH), by rw [dvlen hd]; exact ej, ?_⟩
        refine hk j x _ F2 _ (sm.write h1 hz ?_ (fun y hy => ?_) (by rw [List.length_set]; exact hl')) r e D q1 fun b eb σ2 F3 H3 sm2 => q2 b eb σ2 F3 H3 ((s1.ff.trans s2.ff).trans sm2)
        · rw [List.map_set]
          exact DqAll.set (o1.mono s2.ff).1 j hd1
        · rcases List.mem_or_eq_of_mem_set hy with hy | rfl
          · exact ho y hy
          · exact o1.2
/-! ### targets -/
theorem owns_putF {s : Option V} {x : α} {σ : List (Option V)} {Γ : List Sl} (i : Nat) (b : Addr) (h : b ∈ owns (σ.set i s) (st Γ i (.f S x))) : b ∈ owns σ Γ := by
  rcases owns_put i b h with h | h
  · exact h
  · have e : own s (.f S x) = [] := by cases s with
      | none => rfl
      | some v => cases v <;> rfl
    rw [e] at h
    cases h
theorem tg_name (i : Nat) : Tg K F0 H0 (gName i) S [i] (fun a Γ => st Γ i (.f S a)) := by
  intro σ F H v a Γ s r Q q
  refine q _ (s.putF i r) ?_ (fun b hb => owns_putF i b hb)
  unfold wipe wipe
  rw [List.set_set]
theorem tg_pair {S' : Rp γ} (i j : Nat) : Tg K F0 H0 (gTup K 2 (gCons (gName i) (gCons (gName j) gNil))) (rP S S') [i, j] (fun a Γ => st (st Γ i (.f S a.1)) j (.f S' a.2)) := by
  intro σ F H v a Γ s r Q q
  obtain ⟨p, v1, v2, rfl, hq, h1, h2⟩ := r.pair
  refine ⟨p, _, rfl, SameT s.st.fh hq, rfl, v1, _, rfl, v2, _, rfl, rfl, ?_⟩
  refine q _ ((s.putF i h1).putF j h2) ?_ (fun b hb => owns_putF i b (owns_putF j b hb))
  show ((((σ.set i (some v1)).set j (some v2)).set j none).set i none) = ((σ.set j none).set i none)
  by_cases hij : i = j
  · subst hij
    simp only [List.set_set]
  · rw [List.set_set, List.set_comm _ _ hij, List.set_set]
theorem tg_quad {S1 : Rp α} {S2 : Rp γ} {S3 : Rp δ} {ε : Type} {S4 : Rp ε} (i j l n : Nat) : Tg K F0 H0 (gTup K 4 (gCons (gName i) (gCons (gName j) (gCons (gName l) (gCons (gName n) gNil))))) (r4 S1 S2 S3 S4) [n, l, j, i]
    (fun a Γ => st (st (st (st Γ i (.f S1 a.1)) j (.f S2 a.2.1)) l (.f S3 a.2.2.1)) n (.f S4 a.2.2.2)) := by
  intro σ F H v a Γ s r Q q
  obtain ⟨p, v1, v2, v3, v4, rfl, hq, h1, h2, h3, h4⟩ := r.quad
  refine ⟨p, _, rfl, SameT s.st.fh hq, rfl, v1, _, rfl, v2, _, rfl, v3, _, rfl, v4, _, rfl, rfl, ?_⟩
  refine q _ ((((s.putF i h1).putF j h2).putF l h3).putF n h4) ?_ (fun b hb => owns_putF i b (owns_putF j b (owns_putF l b (owns_putF n b hb))))
  have key : ∀ (i : Nat) (x : Option V) (L : List Nat) (σ : L2.St), i ∈ L → wipe (σ.set i x) L = wipe σ L := by
    intro i x L
    induction L with
    | nil => intro σ h; cases h
    | cons m L ih =>
      intro σ h
      unfold wipe
      by_cases hm : i ∈ L
      · rw [ih σ hm]
      · have e : i = m := by
          rcases List.mem_cons.mp h with e | h
          · exact e
          · exact absurd h hm
        subst e
        have : ∀ (L : List Nat) (σ : L2.St), i ∉ L → wipe (σ.set i x) L = (wipe σ L).set i x := by
          intro L
          induction L with
          | nil => intro σ _; rfl
          | cons m L ih2 =>
            intro σ h
            unfold wipe
            rw [ih2 σ (fun z => h (List.mem_cons_of_mem _ z)), List.set_comm]
            exact fun z => h (by rw [z]; exact List.mem_cons_self)
        rw [this L σ hm, List.set_set]
  rw [key n _ _ _ (by simp), key l _ _ _ (by simp), key j _ _ _ (by simp), key i _ _ _ (by simp)]

/-! ### loops -/
theorem forL_drop {xs : List α} {s : β} {f : α → β → Option (Fl ρ β)} {i : Nat} {x : α} (h : xs[i]? = some x) : forL (xs.drop i) s f = thenF (f x s) fun s' => forL (xs.drop (i + 1)) s' f := by
  obtain ⟨hi, e⟩ := List.getElem?_eq_some_iff.mp h
  rw [List.drop_eq_getElem_cons hi, e]
  rfl
theorem bd_for {ι : Type} {wi : TI} {g : TG} {L : List Nat} {put : α → List Sl → List Sl} {tb : TS} {ml : Option (List α)} {Γl : ι → List Sl} {body : α → ι → Option (Fl ρ ι)} {kk : ι → Option (Fl ρ β)} (s0 : ι)
    (hi : Ei K F0 H0 wi Γ S ml) (hg : Tg K F0 H0 g S L put) (h0 : Le Γ (Γl s0)) (hb : ∀ x s, Bd K F0 H0 tb (put x (Γl s)) k R Γl (body x s)) (hk : ∀ s, Bd K F0 H0 u (Γl s) k R out (kk s)) :
    Bd K F0 H0 (tSeq (tFor wi g tb) u) Γ k R out (ml.bind fun xs => thenF (forL xs s0 body) kk) := by
  intro σ F H s r e D q1 q2
  cases ml with
  | none => cases e
  | some xs =>
    have e : thenF (forL xs s0 body) kk = some r := e
    refine hi σ F H s xs rfl _ fun J F1 H1 s1 its => ?_
    refine ⟨fun i m σ H => i ≤ xs.length ∧ m = xs.length - i ∧ ∃ F s, SR K F0 H0 F H σ (Γl s) ∧ Same F1 F ∧ thenF (forL (xs.drop i) s body) kk = some r,
      ⟨_, Nat.zero_le _, rfl, F1, s0, (s.mono s1).le h0, Same.refl _, by simpa using e⟩, ?_⟩
    rintro i m σ H ⟨hl, rfl, F, s, hs, sm, e⟩
    by_cases hlt : i < xs.length
    · have hx : xs[i]? = some xs[i] := List.getElem?_eq_getElem hlt
      obtain ⟨go, yl⟩ := its.item F H sm hs.st.fh i _ hx
      refine .inr ⟨go, fun σ' H' => ∃ F' s', SR K F0 H0 F' H' σ' (Γl s') ∧ Same F1 F' ∧ thenF (forL (xs.drop (i + 1)) s' body) kk = some r, fun σ' H' ⟨F', s', a, b, c⟩ => ⟨_, by omega, hlt, rfl, F', s', a, b, c⟩, fun x H' hy => ?_⟩
      obtain ⟨F', st', rx⟩ := yl x H' hy
      refine hg σ F' H' x _ (Γl s) (hs.mono st') rx _ fun σ' s' _ _ => ?_
      rw [forL_drop hx] at e
      cases eb : body xs[i] s with
      | none => rw [eb] at e; cases e
      | some rb =>
        rw [eb] at e
        refine hb xs[i] s σ' F' H' s' rb eb _ (fun x ex v F2 H2 s2 o2 => ?_) fun b eb' σ2 F2 H2 sm2 s2 => ?_
        · subst ex
          cases e
          exact q1 x rfl v F2 H2 s2 o2
        · subst eb'
          exact ⟨F2, b, s2, (sm.trans st'.ff).trans sm2, e⟩
    · have ei : i = xs.length := by omega
      subst ei
      refine .inl ⟨its.stop F H sm hs.st.fh, ?_⟩
      rw [List.drop_length] at e
      exact hk s σ F H hs r e D q1 fun b eb σ2 F2 H2 sm2 => q2 b eb σ2 F2 H2 (s1.ff.trans (sm.trans sm2))
end
end Y

namespace Y
open PySem PySem.Spec PyProof.Rows L2

/-- lo, lo + 1, .. below hi -/
def rngL (lo hi : Int) : List Int := (List.range (hi - lo).toNat).map fun (i : Nat) => lo + (i : Int)
def rng (lo hi : Int) : Option (List Int) :=
  if (-4611686018427387904 ≤ lo ∧ lo < 4611686018427387904) ∧ (-4611686018427387904 ≤ hi ∧ hi < 4611686018427387904) ∧ hi - lo ≤ 16777216 then some (rngL lo hi) else none
def chars (x : List Nat) : List (List Nat) := x.map fun c => [c]
def enumL {α : Type} (xs : List α) : List (Int × α) := xs.zipIdx.map fun p => ((p.2 : Int), p.1)

section
variable {K : PySem.W.Frag} {F0 H0 : Hp} {Γ : List Sl} {α β γ δ ρ : Type} {R : Rp ρ} {S : Rp α} {T : Rp γ} {U : Rp δ} {te tb tl : TE} {u t : TS} {k : Kd} {out : β → List Sl}

theorem Rep.at {F : Hp} {vs : List V} {xs : List α} {i : Nat} {a : α} (hd : DqAll K F vs (xs.map S.toD)) (ho : ∀ x ∈ xs, okD (S.toD x) = true) (e : xs[i]? = some a) : ∃ v, vs[i]? = some v ∧ Rep K F v S a := by
  obtain ⟨v, h1, h2⟩ := DqAll.get (i := i) (d := S.toD a) hd (by rw [List.getElem?_map, e]; rfl)
  exact ⟨v, h1, h2, ho a (List.mem_of_getElem? e)⟩
theorem ei_list {m : Option (List α)} (h : Ev K F0 H0 tl Γ .r (rL S) m) : Ei K F0 H0 (iList K tl) Γ S m := by
  intro σ F H s xs e Q q
  refine h σ F H s xs e _ fun v F1 H1 s1 o1 => ?_
  obtain ⟨p, vs, rfl, hq, hd, ho, hl⟩ := Rep.lst o1
  have hq : SqL K F1 p vs := .inl hq
  refine ⟨p, rfl, ⟨vs, s1.fh.seq hq⟩, q _ F1 H1 s1 ⟨fun F' H' ff fh i a ea => ?_, fun F' H' ff fh => ?_, hl⟩⟩
  · obtain ⟨x, hx, r⟩ := Rep.at hd ho ea
    have hq' := fh.seq (ff.seq hq)
    refine ⟨⟨vs, x, hq', hx⟩, fun y H'' hy => ?_⟩
    obtain ⟨rfl, hy⟩ := hy
    have := hy vs hq'
    rw [hx] at this
    cases this
    exact ⟨F', Step.refl fh, r.mono ff⟩
  · exact ⟨vs, fh.seq (ff.seq hq), Nat.le_of_eq (dvlen hd)⟩
theorem ei_tup {m : Option (List α)} (h : Ev K F0 H0 tl Γ .r (rT S) m) : Ei K F0 H0 (iTup K tl) Γ S m := by
  intro σ F H s xs e Q q
  refine h σ F H s xs e _ fun v F1 H1 s1 o1 => ?_
  obtain ⟨p, vs, rfl, hq, hd, ho, hl⟩ := Rep.tup o1
  refine ⟨p, rfl, ⟨vs, SameT s1.fh hq⟩, q _ F1 H1 s1 ⟨fun F' H' ff fh i a ea => ?_, fun F' H' ff fh => ?_, hl⟩⟩
  · obtain ⟨x, hx, r⟩ := Rep.at hd ho ea
    have hq' := SameT fh (SameT ff hq)
    refine ⟨⟨vs, x, hq', hx⟩, fun y H'' hy => ?_⟩
    obtain ⟨rfl, hy⟩ := hy
    have := hy vs hq'
    rw [hx] at this
    cases this
    exact ⟨F', Step.refl fh, r.mono ff⟩
  · exact ⟨vs, SameT fh (SameT ff hq), Nat.le_of_eq (dvlen hd)⟩
theorem ei_str {m : Option (List Nat)} (h : Ev K F0 H0 tl Γ .r rS m) : Ei K F0 H0 (iStr tl) Γ rS (m.bind fun x => some (chars x)) := by
  intro σ F H s xs e Q q
  cases m with
  | none => cases e
  | some x =>
    cases e
    refine h σ F H s x rfl _ fun v F1 H1 s1 o1 => ?_
    obtain ⟨rfl, hc, hl⟩ := Rep.str o1
    refine ⟨⟨x.toArray⟩, rfl, q _ F1 H1 s1 ⟨fun F' H' ff fh i a ea => ?_, fun F' H' ff fh => ?_, by simpa [chars] using hl⟩⟩
    · unfold chars at ea
      rw [List.getElem?_map] at ea
      obtain ⟨c, hc1, rfl⟩ := Option.map_eq_some_iff.mp ea
      have hi := (List.getElem?_eq_some_iff.mp hc1).1
      refine ⟨by show i < x.toArray.size; simpa using hi, fun y H'' hy => ?_⟩
      obtain ⟨rfl, c', hc2, rfl⟩ := hy
      have e2 : c' = c := by
        have h2 : x[i]? = some c' := by simpa using hc2
        rw [hc1] at h2
        exact (Option.some.inj h2).symm
      subst e2
      exact ⟨F', Step.refl fh, rep_str (x := [c']) (fun z hz => by rw [List.mem_singleton.mp hz]; exact hc _ (List.mem_of_getElem? hc1)) (by simp)⟩
    · show x.toArray.size ≤ (chars x).length
      simp [chars]
theorem rngL_len {lo hi : Int} : (rngL lo hi).length = (hi - lo).toNat := by simp [rngL]
theorem its_rng {F1 : Hp} {lo hi : Int} {n : Nat} (hn : n = (hi - lo).toNat) (hl : hi - lo ≤ 16777216) : Its K F1 (Itr lo n) rI (rngL lo hi) := by
  subst hn
  refine ⟨fun F' H' ff fh i a ea => ?_, fun F' H' ff fh => ?_, by rw [rngL_len]; omega⟩
  · unfold rngL at ea
    rw [List.getElem?_map] at ea
    obtain ⟨j, hj, rfl⟩ := Option.map_eq_some_iff.mp ea
    obtain ⟨hi, e⟩ := List.getElem?_eq_some_iff.mp hj
    rw [List.length_range] at hi
    rw [List.getElem_range] at e
    subst e
    refine ⟨hi, fun y H'' hy => ?_⟩
    obtain ⟨rfl, rfl⟩ := hy
    exact ⟨F', Step.refl fh, rep_int.mpr rfl⟩
  · show (hi - lo).toNat ≤ (rngL lo hi).length
    rw [rngL_len]
    exact Nat.le_refl _
theorem ei_rng1 {m : Option Int} (h : Ev K F0 H0 tl Γ .r rI m) : Ei K F0 H0 (iRng1 (tCons tl tNil)) Γ rI (m.bind fun n => rng 0 n) := by
  intro σ F H s xs e Q q
  cases m with
  | none => cases e
  | some n =>
    have e : (if _ then some (rngL 0 n) else none) = some xs := e
    split at e
    · rename_i hc
      cases e
      refine h σ F H s n rfl _ fun v F1 H1 s1 o1 => ?_
      refine ⟨n, by rw [rep_int.mp o1], by omega, by omega, q _ F1 H1 s1 (its_rng (by simp) (by omega))⟩
    · cases e
theorem ei_rng2 {m n : Option Int} (h : Ev K F0 H0 tl Γ .r rI m) (h' : Ev K F0 H0 tb Γ .r rI n) : Ei K F0 H0 (iRng2 (tCons tl (tCons tb tNil))) Γ rI (m.bind fun lo => n.bind fun hi => rng lo hi) := by
  intro σ F H s xs e Q q
  cases m with
  | none => cases e
  | some lo =>
    cases n with
    | none => cases e
    | some hi =>
      have e : (if _ then some (rngL lo hi) else none) = some xs := e
      split at e
      · rename_i hc
        cases e
        refine h σ F H s lo rfl _ fun v F1 H1 s1 o1 => ?_
        refine h' σ F1 H1 (s.mono s1) hi rfl _ fun v2 F2 H2 s2 o2 => ?_
        refine ⟨lo, hi, by rw [rep_int.mp o1, rep_int.mp o2], by omega, q _ F2 H2 (s1.trans s2) (its_rng rfl (by omega))⟩
      · cases e
/-- a new pair -/
theorem new_pair {F' H' : Hp} {T0 : Addr} {x y : V} {a : α} {c : γ} (fh : Same F' H') (n : H' T0 = none) (r1 : Rep K F' x S a) (r2 : Rep K F' y T c) :
    ∃ F'', Step F' H' F'' (upd H' T0 (.tup [x, y])) ∧ Rep K F'' (.ref T0) (rP S T) (a, c) := by
  have e2 := Same.upd (o := HO.tup [x, y]) (fh.free n)
  refine ⟨_, Step.lay fh n, .tup upd_same (.cons (r1.mono e2).1 (.cons (r2.mono e2).1 .nil)), okT.mpr ⟨fun d hd => ?_, by simp⟩⟩
  rcases List.mem_cons.mp hd with rfl | hd
  · exact r1.2
  · rcases List.mem_cons.mp hd with rfl | hd
    · exact r2.2
    · cases hd
theorem enumL_get {xs : List α} {i : Nat} {p : Int × α} (h : (enumL xs)[i]? = some p) : p.1 = i ∧ xs[i]? = some p.2 := by
  unfold enumL at h
  rw [List.getElem?_map, List.getElem?_zipIdx] at h
  obtain ⟨q, hq, rfl⟩ := Option.map_eq_some_iff.mp h
  obtain ⟨y, hy, rfl⟩ := Option.map_eq_some_iff.mp hq
  exact ⟨by simp, hy⟩
theorem ei_enum {m : Option (List α)} (h : Ev K F0 H0 tl Γ .r (rL S) m) : Ei K F0 H0 (iEnum K (tCons tl tNil)) Γ (rP rI S) (m.bind fun xs => some (enumL xs)) := by
  intro σ F H s ys e Q q
  cases m with
  | none => cases e
  | some xs =>
    cases e
    refine h σ F H s xs rfl _ fun v F1 H1 s1 o1 => ?_
    obtain ⟨p, vs, rfl, hq, hd, ho, hl⟩ := Rep.lst o1
    have hq : SqL K F1 p vs := .inl hq
    refine ⟨p, vs, rfl, s1.fh.seq hq, q _ F1 H1 s1 ⟨fun F' H' ff fh i a ea => ?_, fun F' H' ff fh => ?_, by simpa [enumL] using hl⟩⟩
    · obtain ⟨e1, e2⟩ := enumL_get ea
      obtain ⟨x, hx, r⟩ := Rep.at hd ho e2
      have hq' := fh.seq (ff.seq hq)
      refine ⟨⟨vs, x, hq', hx⟩, fun y H'' hy => ?_⟩
      obtain ⟨T0, x', rfl, n, rfl, hy⟩ := hy
      have := hy vs hq'
      rw [hx] at this
      cases this
      obtain ⟨a1, a2⟩ := a
      simp only at e1 e2 r
      subst e1
      exact new_pair fh n (rep_int.mpr rfl) (r.mono ff)
    · exact ⟨vs, fh.seq (ff.seq hq), by rw [dvlen hd]; simp [enumL]⟩
theorem ei_zip {m : Option (List α)} {n : Option (List γ)} (h : Ev K F0 H0 tl Γ .r (rL S) m) (h' : Ev K F0 H0 tb Γ .r (rL T) n) :
    Ei K F0 H0 (iZip K (tCons tl (tCons tb tNil))) Γ (rP S T) (m.bind fun xs => n.bind fun ys => some (xs.zip ys)) := by
  intro σ F H s zs e Q q
  cases m with
  | none => cases e
  | some xs =>
    cases n with
    | none => cases e
    | some ys =>
      cases e
      refine h σ F H s xs rfl _ fun v F1 H1 s1 o1 => ?_
      refine h' σ F1 H1 (s.mono s1) ys rfl _ fun v2 F2 H2 s2 o2 => ?_
      obtain ⟨p, vs, rfl, hq, hd, ho, hl⟩ := Rep.lst (o1.mono s2.ff)
      obtain ⟨p2, vs2, rfl, hq2, hd2, ho2, hl2⟩ := Rep.lst o2
      have hq : SqL K F2 p vs := .inl hq
      have hq2 : SqL K F2 p2 vs2 := .inl hq2
      refine ⟨p, p2, vs, vs2, rfl, s2.fh.seq hq, s2.fh.seq hq2, q _ F2 H2 (s1.trans s2) ⟨fun F' H' ff fh i a ea => ?_, fun F' H' ff fh => ?_, by rw [List.length_zip]; omega⟩⟩
      · obtain ⟨a1, a2⟩ := a
        have ea := List.getElem?_zip_eq_some.mp ea
        obtain ⟨x, hx, r⟩ := Rep.at hd ho ea.1
        obtain ⟨y, hy, r2⟩ := Rep.at hd2 ho2 ea.2
        have hq' := fh.seq (ff.seq hq)
        have hq2' := fh.seq (ff.seq hq2)
        refine ⟨⟨vs, vs2, x, y, hq', hq2', hx, hy⟩, fun w H'' hw => ?_⟩
        obtain ⟨T0, x', y', rfl, n, rfl, h1, h2⟩ := hw
        have z1 := h1 vs hq'
        have z2 := h2 vs2 hq2'
        rw [hx] at z1
        rw [hy] at z2
        cases z1
        cases z2
        exact new_pair fh n (r.mono ff) (r2.mono ff)
      · refine ⟨vs, vs2, fh.seq (ff.seq hq), fh.seq (ff.seq hq2), ?_⟩
        rw [dvlen hd, dvlen hd2]
        rw [List.length_zip]
        omega
theorem bd_while {ι : Type} {c : TT} {tb : TS} {Γl : ι → List Sl} {mc : ι → Option Bool} {body : ι → Option (Fl ρ ι)} {kk : ι → Option (Fl ρ β)} (n : Nat) (s0 : ι) (h0 : Le Γ (Γl s0))
    (hc : ∀ s, EvT K F0 H0 c (Γl s) (mc s)) (hb : ∀ s, Bd K F0 H0 tb (Γl s) k R Γl (body s)) (hk : ∀ s, Bd K F0 H0 u (Γl s) k R out (kk s)) :
    Bd K F0 H0 (tSeq (tWhile c tb) u) Γ k R out (thenF (whileN mc body n s0) kk) := by
  intro σ F H s r e D q1 q2
  refine ⟨fun m σ H => ∃ F1 s, SR K F0 H0 F1 H σ (Γl s) ∧ Same F F1 ∧ thenF (whileN mc body m s) kk = some r, ⟨n, F, s0, s.le h0, Same.refl _, e⟩, ?_⟩
  rintro m σ H ⟨F1, s, hs, sm, e⟩
  cases m with
  | zero => cases e
  | succ m =>
    unfold whileN at e
    cases ec : mc s with
    | none => rw [ec] at e; cases e
    | some b =>
      rw [ec] at e
      refine hc s σ F1 H hs b ec _ fun F2 H2 s2 => ?_
      cases b with
      | true =>
        rw [if_pos rfl]
        refine ⟨fun σ' H' => ∃ F' s', SR K F0 H0 F' H' σ' (Γl s') ∧ Same F F' ∧ thenF (whileN mc body m s') kk = some r, fun σ' H' h => ⟨m, Nat.lt_succ_self m, h⟩, ?_⟩
        cases eb : body s with
        | none => simp [thenF, eb] at e
        | some rb =>
          simp only [thenF, eb, Option.bind_some, if_true] at e
          refine hb s σ F2 H2 (hs.mono s2) rb eb _ (fun x ex v F3 H3 s3 o3 => ?_) fun b eb' σ3 F3 H3 sm3 s3 => ?_
          · subst ex
            cases e
            exact q1 x rfl v F3 H3 s3 o3
          · subst eb'
            exact ⟨F3, b, s3, (sm.trans s2.ff).trans sm3, e⟩
      | false =>
        rw [if_neg Bool.false_ne_true]
        have e : thenF (some (.nx s)) kk = some r := e
        exact hk s σ F2 H2 (hs.mono s2) r e D q1 fun b eb σ3 F3 H3 sm3 => q2 b eb σ3 F3 H3 ((sm.trans s2.ff).trans sm3)

/-! ### comprehensions -/
def wp : List Sl → List Nat → List Sl
  | Γ, [] => Γ
  | Γ, v :: vs => st (wp Γ vs) v .j
theorem SR.wipe {F H : Hp} {σ : L2.St} (h : SR K F0 H0 F H σ Γ) : ∀ vs : List Nat, SR K F0 H0 F H (wipe σ vs) (wp Γ vs)
  | [] => h
  | v :: vs => (SR.wipe h vs).putJ v none
theorem wipe_set_in {x : Option V} : ∀ {L : List Nat} {i : Nat} {σ : L2.St}, i ∈ L → L2.wipe (σ.set i x) L = L2.wipe σ L := by
  intro L
  induction L with
  | nil => intro i σ h; cases h
  | cons m L ih =>
    intro i σ h
    unfold L2.wipe
    by_cases hm : i ∈ L
    · rw [ih hm]
    · have e : i = m := by
        rcases List.mem_cons.mp h with e | h
        · exact e
        · exact absurd h hm
      subst e
      have : ∀ (L : List Nat) (σ : L2.St), i ∉ L → L2.wipe (σ.set i x) L = (L2.wipe σ L).set i x := by
        intro L
        induction L with
        | nil => intro σ _; rfl
        | cons m L ih2 =>
          intro σ h
          unfold L2.wipe
          rw [ih2 σ (fun z => h (List.mem_cons_of_mem _ z)), List.set_comm]
          exact fun z => h (by rw [z]; exact List.mem_cons_self)
      rw [this L σ hm, List.set_set]
theorem wipe_wipe {σ : L2.St} : ∀ {M L : List Nat}, (∀ i ∈ M, i ∈ L) → L2.wipe (L2.wipe σ M) L = L2.wipe σ L
  | [], _, _ => rfl
  | m :: M, L, h => by
    show L2.wipe ((L2.wipe σ M).set m none) L = _
    rw [wipe_set_in (h m List.mem_cons_self), wipe_wipe fun i hi => h i (List.mem_cons_of_mem _ hi)]
theorem SR.fresh {F H : Hp} {σ : L2.St} {D : Addr} {o : HO} (h : SR K F0 H0 F H σ Γ) (n : H D = none) : SR K F0 H0 F (upd H D o) σ Γ := h.mono (Step.layO h.st.fh n)
theorem SR.writeN {F H : Hp} {σ : L2.St} {D : Addr} {vs : List V} (h : SR K F0 H0 F H σ Γ) (n0 : H0 D = none) (nF : F D = none) (no : D ∉ owns σ Γ) : SR K F0 H0 F (upd H D (.lst vs)) σ Γ := by
  refine ⟨⟨h.st.ff, fun c x z => ?_, fun c x z => ?_, h.st.ow⟩, SlAll.write nF h.sl no, h.nd⟩
  · rw [upd_ne (fun y => by subst y; rw [n0] at z; cases z)]; exact h.st.hh c x z
  · rw [upd_ne (fun y => by subst y; rw [nF] at z; cases z)]; exact h.st.fh c x z
theorem Step.writeN {F1 H1 F H : Hp} {D : Addr} {o : HO} (h : Step F1 H1 F H) (n1 : H1 D = none) (nF : F D = none) : Step F1 H1 F (upd H D o) :=
  ⟨h.ff, fun c x z => by rw [upd_ne (fun y => by subst y; rw [n1] at z; cases z)]; exact h.hh c x z, fun c x z => by rw [upd_ne (fun y => by subst y; rw [nF] at z; cases z)]; exact h.fh c x z, h.ow⟩

theorem filO_len {c : α → Option Bool} {f : α → Option γ} : ∀ {xs : List α} {ys : List γ}, filO c f xs = some ys → ys.length ≤ xs.length
  | [], ys, e => by cases e; exact Nat.le_refl _
  | x :: xs, ys, e => by
    unfold filO at e
    cases ec : c x with
    | none => rw [ec] at e; cases e
    | some b =>
      rw [ec] at e
      cases b with
      | true =>
        cases ef : f x with
        | none => rw [ef] at e; cases e
        | some y =>
          rw [ef] at e
          cases er : filO c f xs with
          | none => rw [er] at e; cases e
          | some zs =>
            rw [er] at e
            cases e
            have := filO_len er
            simp only [List.length_cons]
            omega
      | false =>
        have := filO_len (xs := xs) (ys := ys) e
        simp only [List.length_cons]
        omega
/-- a list comprehension -/
theorem ev_lcF {wi : TI} {g : TG} {tt : TT} {L vs : List Nat} {put : α → List Sl → List Sl} {ml : Option (List α)} {c : α → Option Bool} {f : α → Option γ} (hi : Ei K F0 H0 wi Γ S ml) (hg : Tg K F0 H0 g S L put)
    (ht : ∀ x, EvT K F0 H0 tt (put x (wp Γ vs)) (c x)) (he : ∀ x, Ev K F0 H0 te (put x (wp Γ vs)) .r T (f x)) (hL : ∀ i ∈ L, i ∈ vs := by decide) (hL2 : ∀ i ∈ vs, i ∈ L := by decide) :
    Ev K F0 H0 (tLc wi g tt te vs) Γ .n (rL T) (ml.bind fun xs => filO c f xs) := by
  intro σ F H s ys e Q q
  cases ml with
  | none => cases e
  | some xs =>
    have e : filO c f xs = some ys := e
    refine hi σ F H s xs rfl _ fun J F1 H1 s1 its D nD => ?_
    have sr1 := s.mono s1
    have nF : F1 D = none := s1.fh.free nD
    have n0 : H0 D = none := sr1.st.hh.free nD
    have no : D ∉ owns σ Γ := fun z => by
      obtain ⟨_, _, ws, hw⟩ := owns_in sr1.sl z
      rw [nD] at hw; cases hw
    refine ⟨fun i m H' => i ≤ xs.length ∧ m = xs.length - i ∧ ∃ F' acc zs rest, SR K F0 H0 F' H' σ Γ ∧ Step F1 H1 F' H' ∧ F' D = none ∧ H' D = some (.lst acc) ∧ DqAll K F' acc (zs.map T.toD) ∧ (∀ x ∈ zs, okD (T.toD x) = true) ∧
        filO c f (xs.drop i) = some rest ∧ ys = zs ++ rest, ⟨_, Nat.zero_le _, rfl, F1, [], [], ys, sr1.fresh nD, Step.layO s1.fh nD, nF, upd_same, .nil, (fun _ h => nomatch h), by simpa using e, rfl⟩, ?_⟩
    rintro i m H' ⟨hil, rfl, F', acc, zs, rest, sr, stp, nF', hD, hd, ho, er, ey⟩
    by_cases hlt : i < xs.length
    · have hx : xs[i]? = some xs[i] := List.getElem?_eq_getElem hlt
      obtain ⟨go, yl⟩ := its.item F' H' stp.ff sr.st.fh i _ hx
      refine .inr ⟨go, fun H'' => ∃ F' acc zs rest, SR K F0 H0 F' H'' σ Γ ∧ Step F1 H1 F' H'' ∧ F' D = none ∧ H'' D = some (.lst acc) ∧ DqAll K F' acc (zs.map T.toD) ∧ (∀ x ∈ zs, okD (T.toD x) = true) ∧
        filO c f (xs.drop (i + 1)) = some rest ∧ ys = zs ++ rest, fun H'' h => ⟨_, by omega, hlt, rfl, h⟩, fun x H'' hy => ?_⟩
      obtain ⟨F2, st2, rx⟩ := yl x H'' hy
      have sr2 := sr.mono st2
      refine hg (L2.wipe σ vs) F2 H'' x _ (wp Γ vs) (sr2.wipe vs) rx _ fun σ2 s2 ew _ => ⟨?_, ?_⟩
      · have a1 : L2.wipe (L2.wipe σ2 L) vs = L2.wipe (L2.wipe (L2.wipe σ vs) L) vs := by rw [ew]
        rw [wipe_wipe hL, wipe_wipe hL, wipe_wipe (fun _ h => h)] at a1
        exact a1
      · rw [List.drop_eq_getElem_cons hlt] at er
        unfold filO at er
        cases ec : c xs[i] with
        | none => rw [ec] at er; cases er
        | some b =>
          rw [ec] at er
          refine ht xs[i] σ2 F2 H'' s2 b ec _ fun F3 H3 st3 => ?_
          have sr3 := sr2.mono st3
          have hD3 := st3.hh _ _ (st2.hh _ _ hD)
          have nF3 := st3.ow _ _ (st2.hh _ _ hD) (st2.ow _ _ hD nF' trivial) trivial
          have stp3 := stp.trans (st2.trans st3)
          cases b with
          | true =>
            rw [if_pos rfl]
            cases ef : f xs[i] with
            | none => rw [ef] at er; cases er
            | some y =>
              rw [ef] at er
              cases er2 : filO c f (xs.drop (i + 1)) with
              | none => rw [er2] at er; cases er
              | some rest2 =>
                rw [er2] at er
                cases er
                refine he xs[i] σ2 F3 H3 (s2.mono st3) y ef _ fun w F4 H4 st4 o4 => ?_
                have sr4 := sr3.mono st4
                have hD4 := st4.hh _ _ hD3
                have nF4 := st4.ow _ _ hD3 nF3 trivial
                refine ⟨acc, hD4, ?_, F4, acc ++ [w], zs ++ [y], rest2, sr4.writeN n0 nF4 no, (stp3.trans st4).writeN nD nF4, nF4, upd_same, dp_one (DqAll.mono (st2.ff.trans (st3.ff.trans st4.ff)) _ _ hd) o4, fun z hz => ?_, rfl, by rw [ey]; simp⟩
                · have hz := filO_len e
                  have := its.len
                  rw [dvlen hd, sizeLine_eq]
                  rw [ey] at hz
                  simp only [List.length_append, List.length_cons] at hz
                  omega
                · rcases List.mem_append.mp hz with hz | hz
                  · exact ho z hz
                  · rw [List.mem_singleton.mp hz]; exact o4.2
          | false =>
            rw [if_neg Bool.false_ne_true]
            exact ⟨F3, acc, zs, rest, sr3, stp3, nF3, hD3, DqAll.mono (st2.ff.trans st3.ff) _ _ hd, ho, er, ey⟩
    · have ei : i = xs.length := by omega
      subst ei
      refine .inl ⟨its.stop F' H' stp.ff sr.st.fh, ?_⟩
      rw [List.drop_length] at er
      cases er
      rw [List.append_nil] at ey
      subst ey
      refine q (.ref D) F' H' (s1.trans stp) ⟨D, acc, _, rfl, s1.hh.free nD, nF', hD, rfl, hd, okL.mpr ⟨fun d hd => ?_, ?_⟩⟩
      · obtain ⟨x, hx, rfl⟩ := List.mem_map.mp hd
        exact ho x hx
      · have := filO_len e
        have := its.len
        rw [List.length_map]
        omega
theorem filO_all {f : α → Option γ} : ∀ {xs : List α}, filO (fun _ => some true) f xs = mapO f xs
  | [] => rfl
  | x :: xs => by
    unfold filO mapO
    simp only [Option.bind_some, if_true, filO_all]
theorem ev_lc {wi : TI} {g : TG} {L vs : List Nat} {put : α → List Sl → List Sl} {ml : Option (List α)} {f : α → Option γ} (hi : Ei K F0 H0 wi Γ S ml) (hg : Tg K F0 H0 g S L put)
    (he : ∀ x, Ev K F0 H0 te (put x (wp Γ vs)) .r T (f x)) (hL : ∀ i ∈ L, i ∈ vs := by decide) (hL2 : ∀ i ∈ vs, i ∈ L := by decide) :
    Ev K F0 H0 (tLc wi g tYes te vs) Γ .n (rL T) (ml.bind fun xs => mapO f xs) := by
  have h := ev_lcF (c := fun _ => some true) hi hg (fun x => evt_yes) he hL hL2
  simp only [filO_all] at h
  exact h

/-! ### two clauses -/
def lc2O {ε : Type} (f : α → Option (List γ)) (g : α → γ → Option ε) : List α → Option (List ε)
  | [] => some []
  | x :: xs => (f x).bind fun ys => (mapO (g x) ys).bind fun zs => (lc2O f g xs).bind fun r => some (zs ++ r)
def lenOk {ε : Type} (xs : List ε) : Option (List ε) := if xs.length ≤ 16777216 then some xs else none
theorem owns_wipe {σ : L2.St} {Γ : List Sl} : ∀ (vs : List Nat) (b : Addr), b ∈ owns (L2.wipe σ vs) (wp Γ vs) → b ∈ owns σ Γ
  | [], _, h => h
  | v :: vs, b, h => by
    rcases owns_put v b h with h | h
    · exact owns_wipe vs b h
    · have e : own (none : Option V) Sl.j = [] := rfl
      rw [e] at h
      cases h
theorem tyes {σ : L2.St} {H : Hp} {Q : Bool → Hp → Prop} (h : Q true H) : tYes σ H Q := h
theorem ev_lc2 {ε : Type} {U : Rp ε} {wi wi1 : TI} {g g1 : TG} {L L1 vs vs1 : List Nat} {put : α → List Sl → List Sl} {put1 : γ → List Sl → List Sl} {ml : Option (List α)} {m1 : α → Option (List γ)} {f : α → γ → Option ε}
    (hi : Ei K F0 H0 wi Γ S ml) (hg : Tg K F0 H0 g S L put) (hi1 : ∀ x, Ei K F0 H0 wi1 (put x (wp Γ vs)) T (m1 x)) (hg1 : Tg K F0 H0 g1 T L1 put1)
    (he : ∀ x y, Ev K F0 H0 te (put1 y (wp (put x (wp Γ vs)) vs1)) .r U (f x y)) (hL : ∀ i ∈ L, i ∈ vs := by decide) (hL1 : ∀ i ∈ L1, i ∈ vs1 := by decide) :
    Ev K F0 H0 (tLc2 wi g tYes wi1 g1 tYes te vs vs1) Γ .n (rL U) (ml.bind fun xs => (lc2O m1 f xs).bind fun r => lenOk r) := by
  intro σ F H s ys e Q q
  cases ml with
  | none => cases e
  | some xs =>
    have e : (lc2O m1 f xs).bind (fun r => lenOk r) = some ys := e
    obtain ⟨ys', e, el⟩ := Option.bind_eq_some_iff.mp e
    unfold lenOk at el
    split at el
    · rename_i hlen
      cases el
      refine hi σ F H s xs rfl _ fun J F1 H1 s1 its D nD => ?_
      have sr1 := s.mono s1
      have nF : F1 D = none := s1.fh.free nD
      have n0 : H0 D = none := sr1.st.hh.free nD
      have no : D ∉ owns σ Γ := fun z => by
        obtain ⟨_, _, ws, hw⟩ := owns_in sr1.sl z
        rw [nD] at hw; cases hw
      refine ⟨fun i m H' => i ≤ xs.length ∧ m = xs.length - i ∧ ∃ F' acc zs rest, SR K F0 H0 F' H' σ Γ ∧ Step F1 H1 F' H' ∧ F' D = none ∧ H' D = some (.lst acc) ∧ DqAll K F' acc (zs.map U.toD) ∧ (∀ x ∈ zs, okD (U.toD x) = true) ∧
          lc2O m1 f (xs.drop i) = some rest ∧ ys = zs ++ rest, ⟨_, Nat.zero_le _, rfl, F1, [], [], ys, sr1.fresh nD, Step.layO s1.fh nD, nF, upd_same, .nil, (fun _ h => nomatch h), by simpa using e, rfl⟩, ?_⟩
      rintro i m H' ⟨hil, rfl, F', acc, zs, rest, sr, stp, nF', hD, hd, ho, er, ey⟩
      by_cases hlt : i < xs.length
      · have hx : xs[i]? = some xs[i] := List.getElem?_eq_getElem hlt
        obtain ⟨go, yl⟩ := its.item F' H' stp.ff sr.st.fh i _ hx
        refine .inr ⟨go, fun H'' => ∃ F' acc zs rest, SR K F0 H0 F' H'' σ Γ ∧ Step F1 H1 F' H'' ∧ F' D = none ∧ H'' D = some (.lst acc) ∧ DqAll K F' acc (zs.map U.toD) ∧ (∀ x ∈ zs, okD (U.toD x) = true) ∧
          lc2O m1 f (xs.drop (i + 1)) = some rest ∧ ys = zs ++ rest, fun H'' h => ⟨_, by omega, hlt, rfl, h⟩, fun x H'' hy => ?_⟩
        obtain ⟨F2, st2, rx⟩ := yl x H'' hy
        have sr2 := sr.mono st2
        refine hg (L2.wipe σ vs) F2 H'' x _ (wp Γ vs) (sr2.wipe vs) rx _ fun σ2 s2 ew ow2 => ⟨?_, ?_⟩
        · have a1 : L2.wipe (L2.wipe σ2 L) vs = L2.wipe (L2.wipe (L2.wipe σ vs) L) vs := by rw [ew]
          rw [wipe_wipe hL, wipe_wipe hL, wipe_wipe (fun _ h => h)] at a1
          exact a1
        · refine tyes ?_
          rw [if_pos rfl]
          rw [List.drop_eq_getElem_cons hlt] at er
          unfold lc2O at er
          obtain ⟨ws, ew1, er⟩ := Option.bind_eq_some_iff.mp er
          obtain ⟨zi, ez, er⟩ := Option.bind_eq_some_iff.mp er
          obtain ⟨rest2, er2, er⟩ := Option.bind_eq_some_iff.mp er
          cases er
          have no2 : D ∉ owns σ2 (put xs[i] (wp Γ vs)) := fun z => no (owns_wipe vs D (ow2 D z))
          refine hi1 xs[i] σ2 F2 H'' s2 ws ew1 _ fun J1 F3 H3 s3 its1 => ?_
          have hD3 := s3.hh _ _ (st2.hh _ _ hD)
          have nF3 := s3.ow _ _ (st2.hh _ _ hD) (st2.ow _ _ hD nF' trivial) trivial
          refine ⟨fun j k H4 => j ≤ ws.length ∧ k = ws.length - j ∧ ∃ F4 acc zs' rest1, SR K F0 H0 F4 H4 σ Γ ∧ SR K F0 H0 F4 H4 σ2 (put xs[i] (wp Γ vs)) ∧ Step F1 H1 F4 H4 ∧ Same F3 F4 ∧ F4 D = none ∧ H4 D = some (.lst acc) ∧ DqAll K F4 acc (zs'.map U.toD) ∧ (∀ x ∈ zs', okD (U.toD x) = true) ∧
              mapO (f xs[i]) (ws.drop j) = some rest1 ∧ ys = zs' ++ rest1 ++ rest2, ⟨_, Nat.zero_le _, rfl, F3, acc, zs, zi, sr2.mono s3, s2.mono s3, stp.trans (st2.trans s3), Same.refl _, nF3, hD3, DqAll.mono (st2.ff.trans s3.ff) _ _ hd, ho, by simpa using ez, by rw [ey]; simp⟩, ?_⟩
          rintro j k H4 ⟨hjl, rfl, F4, acc, zs', rest1, srA, srB, stp4, sm4, nF4, hD4, hd4, ho4, em, ey4⟩
          by_cases hjt : j < ws.length
          · have hw : ws[j]? = some ws[j] := List.getElem?_eq_getElem hjt
            obtain ⟨go1, yl1⟩ := its1.item F4 H4 sm4 srA.st.fh j _ hw
            refine .inr ⟨go1, fun H5 => ∃ F4 acc zs' rest1, SR K F0 H0 F4 H5 σ Γ ∧ SR K F0 H0 F4 H5 σ2 (put xs[i] (wp Γ vs)) ∧ Step F1 H1 F4 H5 ∧ Same F3 F4 ∧ F4 D = none ∧ H5 D = some (.lst acc) ∧ DqAll K F4 acc (zs'.map U.toD) ∧ (∀ x ∈ zs', okD (U.toD x) = true) ∧
              mapO (f xs[i]) (ws.drop (j + 1)) = some rest1 ∧ ys = zs' ++ rest1 ++ rest2, fun H5 h => ⟨_, by omega, hjt, rfl, h⟩, fun y H5 hy5 => ?_⟩
            obtain ⟨F5, st5, ry⟩ := yl1 y H5 hy5
            refine hg1 (L2.wipe σ2 vs1) F5 H5 y _ (wp (put xs[i] (wp Γ vs)) vs1) ((srB.mono st5).wipe vs1) ry _ fun σ3 s6 ew3 _ => ⟨?_, ?_⟩
            · have a1 : L2.wipe (L2.wipe σ3 L1) vs1 = L2.wipe (L2.wipe (L2.wipe σ2 vs1) L1) vs1 := by rw [ew3]
              rw [wipe_wipe hL1, wipe_wipe hL1, wipe_wipe (fun _ h => h)] at a1
              exact a1
            · refine tyes ?_
              rw [if_pos rfl]
              rw [List.drop_eq_getElem_cons hjt] at em
              unfold mapO at em
              obtain ⟨z, ezz, em⟩ := Option.bind_eq_some_iff.mp em
              obtain ⟨rest3, em3, em⟩ := Option.bind_eq_some_iff.mp em
              cases em
              refine he xs[i] ws[j] σ3 F5 H5 s6 z ezz _ fun w F6 H6 st6 o6 => ?_
              have hD6 := st6.hh _ _ (st5.hh _ _ hD4)
              have nF6 := st6.ow _ _ (st5.hh _ _ hD4) (st5.ow _ _ hD4 nF4 trivial) trivial
              refine ⟨acc, hD6, ?_, F6, acc ++ [w], zs' ++ [z], rest3, ((srA.mono st5).mono st6).writeN n0 nF6 no, ((srB.mono st5).mono st6).writeN n0 nF6 no2, (stp4.trans (st5.trans st6)).writeN nD nF6, sm4.trans (st5.ff.trans st6.ff), nF6, upd_same,
                dp_one (DqAll.mono (st5.ff.trans st6.ff) _ _ hd4) o6, fun x hx => ?_, em3, by rw [ey4]; simp⟩
              · rw [dvlen hd4, sizeLine_eq]
                rw [ey4] at hlen
                simp only [List.length_append, List.length_cons] at hlen
                omega
              · rcases List.mem_append.mp hx with hx | hx
                · exact ho4 x hx
                · rw [List.mem_singleton.mp hx]; exact o6.2
          · have ej : j = ws.length := by omega
            subst ej
            refine .inl ⟨its1.stop F4 H4 sm4 srA.st.fh, ?_⟩
            rw [List.drop_length] at em
            cases em
            rw [List.append_nil] at ey4
            exact ⟨F4, acc, zs', rest2, srA, stp4, nF4, hD4, hd4, ho4, er2, ey4⟩
      · have ei : i = xs.length := by omega
        subst ei
        refine .inl ⟨its.stop F' H' stp.ff sr.st.fh, ?_⟩
        rw [List.drop_length] at er
        cases er
        rw [List.append_nil] at ey
        subst ey
        refine q (.ref D) F' H' (s1.trans stp) ⟨D, acc, _, rfl, s1.hh.free nD, nF', hD, rfl, hd, okL.mpr ⟨fun d hd => ?_, ?_⟩⟩
        · obtain ⟨x, hx, rfl⟩ := List.mem_map.mp hd
          exact ho x hx
        · rw [List.length_map]
          exact hlen
    · cases el
end
end Y

namespace Y
open PySem PySem.Spec PyProof.Rows L2

/-! ### what the operators do on data -/
def modP (i j : Int) : Option Int := if 0 < j then some (i % j) else none
def divP (i j : Int) : Option Int := if 0 < j ∧ j < 1073741824 then some (i / j) else none
def mulP (i j : Int) : Option Int := if (-18446744073709551616 < i ∧ i < 18446744073709551616) ∨ (-18446744073709551616 < j ∧ j < 18446744073709551616) then some (i * j) else none
def powP (i j : Int) : Option Int := if (0 ≤ j ∧ j ≤ 1000000) ∧ i.natAbs < 18446744073709551616 then some (i ^ j.toNat) else none
def addI (i j : Int) : Option Int := some (i + j)
def subI (i j : Int) : Option Int := some (i - j)
def negI (i : Int) : Option Int := some (-i)
def ltI (i j : Int) : Option Bool := some (decide (i < j))
def leI (i j : Int) : Option Bool := some (decide (i ≤ j))
def gtI (i j : Int) : Option Bool := some (decide (j < i))
def geI (i j : Int) : Option Bool := some (decide (j ≤ i))
def eqD {α : Type} [DecidableEq α] (a b : α) : Option Bool := some (decide (a = b))
def neD {α : Type} [DecidableEq α] (a b : α) : Option Bool := some (!decide (a = b))
def cutL {α : Type} (xs : List α) (lo hi : Option Int) : List α := (xs.drop (HT.sIx xs.length 0 lo)).take (HT.sIx xs.length xs.length hi - HT.sIx xs.length 0 lo)
def cutO {α : Type} (xs : List α) (lo hi : Option Int) : Option (List α) := some (cutL xs lo hi)
def catP {α : Type} (xs ys : List α) : Option (List α) := if xs.length + ys.length ≤ 16777216 then some (xs ++ ys) else none
def repL {α : Type} (xs : List α) (n : Int) : List α := (List.replicate n.toNat xs).flatten
def repP {α : Type} (xs : List α) (n : Int) : Option (List α) := if (-9223372036854775808 ≤ n ∧ n < 9223372036854775808) ∧ xs.length * n.toNat ≤ 16777216 then some (repL xs n) else none
def atS (x : List Nat) (i : Int) : Option (List Nat) := (atI x i).bind fun c => some [c]
def inS (c x : List Nat) : Option Bool := match c with
  | [c] => some (decide (c ∈ x))
  | _ => none
def notInS (c x : List Nat) : Option Bool := match c with
  | [c] => some (!decide (c ∈ x))
  | _ => none
def lenL {α : Type} (xs : List α) : Option Int := some (xs.length : Int)
def sumI (xs : List Int) : Option Int := some xs.sum
def anyB (xs : List Bool) : Option Bool := some (xs.any id)
def allB (xs : List Bool) : Option Bool := some (xs.all id)
def b2I (b : Bool) : Option Int := some (if b then 1 else 0)
def sameL {α : Type} (xs : List α) : Option (List α) := some xs
def countS (x c : List Nat) : Option Int := match c with
  | [c] => some (x.count c : Int)
  | _ => none

section
variable {K : PySem.W.Frag} {F0 H0 : Hp} {Γ : List Sl} {α β γ δ ρ : Type} {R : Rp ρ} {S : Rp α} {T : Rp γ} {U : Rp δ} {te ta tb tl : TE} {u t : TS} {k : Kd} {out : β → List Sl}

theorem Vw.int {F H : Hp} {v : V} {i : Int} (h : Vw K F H v rI i) : v = .int i := by
  rcases h with h | ⟨p, vs, ds, _, _, e, _⟩
  · exact rep_int.mp h
  · cases e
theorem Vw.bool {F H : Hp} {v : V} {i : Bool} (h : Vw K F H v rB i) : v = .bl i := by
  rcases h with h | ⟨p, vs, ds, _, _, e, _⟩
  · exact rep_bool.mp h
  · cases e
theorem Vw.str {F H : Hp} {v : V} {i : List Nat} (h : Vw K F H v rS i) : Rep K F v rS i := by
  rcases h with h | ⟨p, vs, ds, _, _, e, _⟩
  · exact h
  · cases e
theorem Vw.tup {F H : Hp} {v : V} {i : List α} (h : Vw K F H v (rT S) i) : Rep K F v (rT S) i := by
  rcases h with h | ⟨p, vs, ds, _, _, e, _⟩
  · exact h
  · cases e
theorem Vw.dp {F H : Hp} {v : V} {S : Rp α} {a : α} (fh : Same F H) (h : Vw K F H v S a) (he : S.e = true) : Dp K H v (S.toD a) ∧ okD (S.toD a) = true := by
  rcases h with h | ⟨p, vs, ds, rfl, h1, h2, h3, h4⟩
  · exact ⟨Dq.dp _ _ (Dq.mono fh _ _ h.1) (S.nd he a), h.2⟩
  · have nd := S.nd he a
    rw [h2] at nd ⊢
    exact ⟨.lst (.inl (.inl h1)) (DqAll.dp _ _ (DqAll.mono fh _ _ h3) (by simpa [noD] using nd)), by rw [← h2]; exact h4⟩

theorem op2_I0 {g : Int → Int → Int} {f : Int → Int → Option Int} (hf : f = fun i j => some (g i j)) : Op2 K (rI0 fun i j => .int (g i j)) rI rI .r rI f := by
  intro F H x y a b c fh hx hy e Q q
  subst hf
  cases e
  exact ⟨a, b, hx.int, hy.int, q _ F H (Step.refl fh) (rep_int.mpr rfl)⟩
theorem op2_B0 {g : Int → Int → Bool} {f : Int → Int → Option Bool} (hf : f = fun i j => some (g i j)) : Op2 K (rI0 fun i j => .bl (g i j)) rI rI .r rB f := by
  intro F H x y a b c fh hx hy e Q q
  subst hf
  cases e
  exact ⟨a, b, hx.int, hy.int, q _ F H (Step.refl fh) (rep_bool.mpr rfl)⟩
theorem o_add : Op2 K (rI0 fun i j => .int (i + j)) rI rI .r rI addI := op2_I0 rfl
theorem o_sub : Op2 K (rI0 fun i j => .int (i - j)) rI rI .r rI subI := op2_I0 rfl
theorem o_lt : Op2 K (rI0 fun i j => .bl (decide (i < j))) rI rI .r rB ltI := op2_B0 rfl
theorem o_le : Op2 K (rI0 fun i j => .bl (decide (i ≤ j))) rI rI .r rB leI := op2_B0 rfl
theorem o_gt : Op2 K (rI0 fun i j => .bl (decide (j < i))) rI rI .r rB gtI := op2_B0 rfl
theorem o_ge : Op2 K (rI0 fun i j => .bl (decide (j ≤ i))) rI rI .r rB geI := op2_B0 rfl
theorem o_mod : Op2 K (L2.rI (fun _ j => 0 < j) fun i j => .int (i % j)) rI rI .r rI modP := by
  intro F H x y a b c fh hx hy e Q q
  unfold modP at e
  split at e
  · rename_i h
    cases e
    exact ⟨a, b, hx.int, hy.int, h, q _ F H (Step.refl fh) (rep_int.mpr rfl)⟩
  · cases e
theorem o_fdiv : Op2 K (L2.rI CDiv fun i j => .int (i / j)) rI rI .r rI divP := by
  intro F H x y a b c fh hx hy e Q q
  unfold divP at e
  split at e
  · rename_i h
    cases e
    exact ⟨a, b, hx.int, hy.int, h, q _ F H (Step.refl fh) (rep_int.mpr rfl)⟩
  · cases e
theorem o_mul : Op2 K (L2.rI CMul fun i j => .int (i * j)) rI rI .r rI mulP := by
  intro F H x y a b c fh hx hy e Q q
  unfold mulP at e
  split at e
  · rename_i h
    cases e
    exact ⟨a, b, hx.int, hy.int, h, q _ F H (Step.refl fh) (rep_int.mpr rfl)⟩
  · cases e
theorem o_pow : Op2 K (L2.rI CPow fun i j => .int (i ^ j.toNat)) rI rI .r rI powP := by
  intro F H x y a b c fh hx hy e Q q
  unfold powP at e
  split at e
  · rename_i h
    cases e
    exact ⟨a, b, hx.int, hy.int, ⟨h.1.1, h.1.2, h.2⟩, q _ F H (Step.refl fh) (rep_int.mpr rfl)⟩
  · cases e
theorem o_neg : Op1 K (rU fun i => .int (-i)) rI .r rI negI := by
  intro F H x a c fh hx e Q q
  cases e
  exact ⟨a, hx.int, q _ F H (Step.refl fh) (rep_int.mpr rfl)⟩
theorem shaped_of {d : PyData} (h : okD d = true) (n : noD d = true) (hd : d.depth ≤ 64) : SeqAt.shaped d = true := by
  unfold SeqAt.shaped
  rw [can_of d h n, decide_eq_true hd]
  rfl
theorem o_eq [DecidableEq α] (he : S.e = true := by rfl) (hn : S.n ≤ 64 := by decide) : Op2 K (rEqD K) S S .r rB (eqD (α := α)) := by
  intro F H x y a b c fh hx hy e Q q
  cases e
  obtain ⟨x1, x2⟩ := hx.dp fh he
  obtain ⟨y1, y2⟩ := hy.dp fh he
  refine ⟨_, _, x1, y1, shaped_of x2 (S.nd he a) (Nat.le_trans (S.hn he a) hn), shaped_of y2 (S.nd he b) (Nat.le_trans (S.hn he b) hn), ?_⟩
  rw [S.eq he]
  exact q _ F H (Step.refl fh) (rep_bool.mpr rfl)
theorem o_ne [DecidableEq α] (he : S.e = true := by rfl) (hn : S.n ≤ 64 := by decide) : Op2 K (rNeD K) S S .r rB (neD (α := α)) := by
  intro F H x y a b c fh hx hy e Q q
  cases e
  obtain ⟨x1, x2⟩ := hx.dp fh he
  obtain ⟨y1, y2⟩ := hy.dp fh he
  refine ⟨_, _, x1, y1, shaped_of x2 (S.nd he a) (Nat.le_trans (S.hn he a) hn), shaped_of y2 (S.nd he b) (Nat.le_trans (S.hn he b) hn), ?_⟩
  rw [S.eq he]
  exact q _ F H (Step.refl fh) (rep_bool.mpr rfl)

/-! ### texts -/
theorem o_addS : Op2 K (fun x y H Q => ∃ i j, x = .str i ∧ y = .str j ∧ i.length + j.length ≤ sizeLine ∧ Q (.str (i ++ j)) H) rS rS .r rS catP := by
  intro F H x y a b c fh hx hy e Q q
  unfold catP at e
  split at e
  · rename_i hl
    cases e
    obtain ⟨rfl, a1, a2⟩ := hx.str.str
    obtain ⟨rfl, b1, b2⟩ := hy.str.str
    refine ⟨_, _, rfl, rfl, by simpa [Str.length, sizeLine_eq] using hl, ?_⟩
    have e1 : (⟨a.toArray⟩ ++ ⟨b.toArray⟩ : Str) = ⟨(a ++ b).toArray⟩ := by
      show (⟨a.toArray ++ b.toArray⟩ : Str) = _
      simp
    rw [e1]
    exact q _ F H (Step.refl fh) (rep_str (fun c hc => (List.mem_append.mp hc).elim (a1 c) (b1 c)) (by rw [List.length_append]; exact hl))
  · cases e
theorem mem_cutL {xs : List α} {lo hi : Option Int} {x : α} (h : x ∈ cutL xs lo hi) : x ∈ xs := List.mem_of_mem_drop (List.mem_of_mem_take h)
theorem cutL_len {xs : List α} {lo hi : Option Int} : (cutL xs lo hi).length ≤ xs.length := by
  unfold cutL
  rw [List.length_take, List.length_drop]
  omega
theorem o_cutS : Sl3 K rSlS rS .r rS cutO := by
  intro F H x a lo hi c fh hx e Q q
  cases e
  obtain ⟨rfl, a1, a2⟩ := hx.str.str
  refine ⟨_, rfl, by simpa [Str.length, sizeLine_eq] using a2, ?_⟩
  have e1 : cutS ⟨a.toArray⟩ lo hi = ⟨(cutL a lo hi).toArray⟩ := by
    unfold cutS cutL
    simp [Str.length]
  rw [e1]
  exact q _ F H (Step.refl fh) (rep_str (fun c hc => a1 c (mem_cutL hc)) (Nat.le_trans cutL_len a2))
theorem atI_mem {xs : List α} {i : Int} {x : α} (h : atI xs i = some x) : x ∈ xs := by
  unfold atI at h
  obtain ⟨j, _, h⟩ := Option.bind_eq_some_iff.mp h
  exact List.mem_of_getElem? h
theorem o_atS : Op2 K rIxS rS rI .r rS atS := by
  intro F H x y a b c fh hx hy e Q q
  unfold atS at e
  obtain ⟨s, hs, e⟩ := Option.bind_eq_some_iff.mp e
  cases e
  obtain ⟨rfl, a1, a2⟩ := hx.str.str
  refine ⟨_, b, s, rfl, hy.int, by simpa [Str.length, sizeLine_eq] using a2, by simpa using hs, ?_⟩
  exact q _ F H (Step.refl fh) (rep_str (x := [s]) (fun c hc => by rw [List.mem_singleton.mp hc]; exact a1 _ (atI_mem hs)) (by simp))
theorem o_inS : Op2 K (fun x y H Q => ∃ (c : Nat) (z : Str), x = .str ⟨#[c]⟩ ∧ y = .str z ∧ Q (.bl (decide (c ∈ z.cps.toList))) H) rS rS .r rB inS := by
  intro F H x y a b c fh hx hy e Q q
  unfold inS at e
  split at e
  · rename_i z
    cases e
    obtain ⟨rfl, a1, a2⟩ := hx.str.str
    obtain ⟨rfl, b1, b2⟩ := hy.str.str
    exact ⟨z, _, rfl, rfl, q _ F H (Step.refl fh) (rep_bool.mpr (by simp))⟩
  · cases e
theorem o_notInS : Op2 K (fun x y H Q => ∃ (c : Nat) (z : Str), x = .str ⟨#[c]⟩ ∧ y = .str z ∧ Q (.bl (!decide (c ∈ z.cps.toList))) H) rS rS .r rB notInS := by
  intro F H x y a b c fh hx hy e Q q
  unfold notInS at e
  split at e
  · rename_i z
    cases e
    obtain ⟨rfl, a1, a2⟩ := hx.str.str
    obtain ⟨rfl, b1, b2⟩ := hy.str.str
    exact ⟨z, _, rfl, rfl, q _ F H (Step.refl fh) (rep_bool.mpr (by simp))⟩
  · cases e
/-- a text times an int -/
def rMulS : R2 := fun x y H Q => ∃ (z : List Nat) (n : Int), x = .str ⟨z.toArray⟩ ∧ y = .int n ∧ (-9223372036854775808 ≤ n ∧ n < 9223372036854775808) ∧ z.length * n.toNat ≤ 16777216 ∧ Q (.str ⟨(repL z n).toArray⟩) H
theorem foldl_rep (z : Array Nat) : ∀ (m : Nat) (acc : Array Nat), List.foldl (fun x1 x2 => x1 ++ x2) acc (List.replicate m z) = acc ++ (List.replicate m z.toList).flatten.toArray
  | 0, acc => by simp
  | m + 1, acc => by
    rw [List.replicate_succ, List.foldl_cons, foldl_rep z m, List.replicate_succ, List.flatten_cons, Array.append_assoc]
    apply Array.toList_inj.mp
    simp
theorem txt_mul (z : List Nat) (n : Int) : Txt.mul ⟨z.toArray⟩ n = ⟨(repL z n).toArray⟩ := by
  unfold Txt.mul repL
  by_cases h1 : n < 1
  · rw [if_pos h1]
    have : n.toNat = 0 := by omega
    rw [this]
    rfl
  · rw [if_neg h1]
    by_cases h2 : (n == 1 || (⟨z.toArray⟩ : Str).length == 0) = true
    · rw [if_pos h2]
      rw [Bool.or_eq_true] at h2
      rcases h2 with h2 | h2
      · have : n = 1 := by simpa using h2
        subst this
        simp
      · have : z = [] := by
          have : z.length = 0 := by simpa [Str.length] using h2
          exact List.length_eq_zero_iff.mp this
        subst this
        simp
    · rw [if_neg h2, foldl_rep]
      simp
theorem op_mulS {X : Cx} : OpR X (binaryOp .Mult) rMulS := by
  intro pins s σ H x y v u Q I rx ry h
  obtain ⟨z, n, rfl, rfl, hn, hl, q⟩ := h
  obtain ⟨t, rfl⟩ := rx
  obtain ⟨t', rfl⟩ := ry
  have hzl : (⟨z.toArray⟩ : Str).length = z.length := by simp [Str.length]
  refine SB.mul ⟨?_, fun h1 h2 => ?_, fun h1 h2 => ?_⟩ fun t2 k2 => ⟨.str _, H, I.tok _, ⟨_, rfl⟩, by rw [txt_mul]; exact q⟩
  · rw [decide_eq_false (by omega), decide_eq_false (by omega)]; rfl
  · rw [hzl]
    have hm : (z.length : Int) * n ≤ 16777216 := by
      have : ((z.length * n.toNat : Nat) : Int) ≤ ((16777216 : Nat) : Int) := Int.ofNat_le.mpr hl
      rw [Int.natCast_mul] at this
      have e : (n.toNat : Int) = n := Int.toNat_of_nonneg (by omega)
      rw [e] at this
      exact this
    intro hc
    have hpos : 0 < n := by omega
    have := Int.lt_mul_of_ediv_lt hpos hc
    omega
  · rw [hzl]
    refine decide_eq_false ?_
    rw [sizeLine_eq]
    omega
theorem o_mulS : Op2 K rMulS rS rI .r rS repP := by
  intro F H x y a b c fh hx hy e Q q
  unfold repP at e
  split at e
  · rename_i h
    cases e
    obtain ⟨rfl, a1, a2⟩ := hx.str.str
    refine ⟨a, b, rfl, hy.int, h.1, h.2, q _ F H (Step.refl fh) (rep_str (fun c hc => ?_) ?_)⟩
    · unfold repL at hc
      obtain ⟨l, hl, hc⟩ := List.mem_flatten.mp hc
      rw [(List.mem_replicate.mp hl).2] at hc
      exact a1 c hc
    · unfold repL
      rw [List.length_flatten, List.map_replicate, show ∀ (n m : Nat), (List.replicate n m).sum = n * m from fun n m => by simp]
      rw [Nat.mul_comm]
      exact h.2
  · cases e

/-! ### lists and tuples -/
theorem o_atL : Op2 K (rIxL K) (rL S) rI .r S (fun xs i => atI xs i) := by
  intro F H x y a b c fh hx hy e Q q
  obtain ⟨p, vs, rfl, hq, hd, ho, hl⟩ := hx.list fh
  unfold atI at e
  obtain ⟨j, hj, e⟩ := Option.bind_eq_some_iff.mp e
  obtain ⟨v, hv, r⟩ := Rep.at hd ho e
  refine ⟨p, vs, b, v, rfl, hy.int, .inl hq, ?_, q v F H (Step.refl fh) r⟩
  unfold atI
  rw [dvlen hd, hj]
  exact hv
theorem o_atT : Op2 K (rIxT K) (rT S) rI .r S (fun xs i => atI xs i) := by
  intro F H x y a b c fh hx hy e Q q
  obtain ⟨p, vs, rfl, hq, hd, ho, hl⟩ := hx.tup.tup
  unfold atI at e
  obtain ⟨j, hj, e⟩ := Option.bind_eq_some_iff.mp e
  obtain ⟨v, hv, r⟩ := Rep.at hd ho e
  refine ⟨p, vs, b, v, rfl, hy.int, SameT fh hq, ?_, q v F H (Step.refl fh) r⟩
  unfold atI
  rw [dvlen hd, hj]
  exact hv
theorem cut_map {vs : List V} {xs : List α} {F : Hp} {lo hi : Option Int} (hd : DqAll K F vs (xs.map S.toD)) : DqAll K F (cutV vs lo hi) ((cutL xs lo hi).map S.toD) := by
  unfold cutV cutL
  rw [dvlen hd, List.map_take, List.map_drop]
  exact DqAll.take _ (DqAll.drop _ hd)
theorem newL {F H : Hp} {p : Addr} {vs : List V} {xs : List α} (fh : Same F H) (n : H p = none) (hd : DqAll K F vs (xs.map S.toD)) (ho : ∀ x ∈ xs, okD (S.toD x) = true) (hl : xs.length ≤ 16777216) :
    Ot K .n (rL S) H F (upd H p (.lst vs)) (.ref p) xs :=
  ⟨p, vs, _, rfl, n, fh.free n, upd_same, rfl, hd, okL.mpr ⟨fun d hd => by
    obtain ⟨x, hx, rfl⟩ := List.mem_map.mp hd
    exact ho x hx, by simpa using hl⟩⟩
theorem newT {F H : Hp} {p : Addr} {vs : List V} {xs : List α} (fh : Same F H) (n : H p = none) (hd : DqAll K F vs (xs.map S.toD)) (ho : ∀ x ∈ xs, okD (S.toD x) = true) (hl : xs.length ≤ 16777216) :
    Rep K (upd F p (.tup vs)) (.ref p) (rT S) xs :=
  ⟨.tup upd_same (DqAll.mono (Same.upd (fh.free n)) _ _ hd), okT.mpr ⟨fun d hd => by
    obtain ⟨x, hx, rfl⟩ := List.mem_map.mp hd
    exact ho x hx, by simpa using hl⟩⟩
theorem o_cutL : Sl3 K (rSlL K) (rL S) .n (rL S) cutO := by
  intro F H x a lo hi c fh hx e Q q
  cases e
  obtain ⟨p, vs, rfl, hq, hd, ho, hl⟩ := hx.list fh
  exact ⟨p, vs, rfl, .inl hq, fun l nl => q _ F _ (Step.layO fh nl) (newL fh nl (cut_map hd) (fun x hx => ho x (mem_cutL hx)) (Nat.le_trans cutL_len hl))⟩
theorem o_cutT : Sl3 K (rSlA K) (rT S) .r (rT S) cutO := by
  intro F H x a lo hi c fh hx e Q q
  cases e
  have r := hx.tup
  obtain ⟨p, vs, rfl, hq, hd, ho, hl⟩ := hx.tup.tup
  refine ⟨p, vs, rfl, SameT fh hq, fun hw => ?_, fun _ l nl => ?_⟩
  · refine q _ F H (Step.refl fh) ?_
    have e1 : cutL a lo hi = a := by
      rw [dvlen hd] at hw
      unfold cutL
      rw [hw.1, hw.2]
      simp
    show Rep K F _ _ _
    rw [e1]
    exact r
  · exact q _ _ _ (Step.lay fh nl) (newT fh nl (cut_map hd) (fun x hx => ho x (mem_cutL hx)) (Nat.le_trans cutL_len hl))
theorem o_catT : Op2 K (rCatA K) (rT S) (rT S) .r (rT S) catP := by
  intro F H x y a b c fh hx hy e Q q
  unfold catP at e
  split at e
  · rename_i hl
    cases e
    have r1 := hx.tup
    have r2 := hy.tup
    obtain ⟨p, vs, rfl, hq, hd, ho, hl1⟩ := hx.tup.tup
    obtain ⟨p2, vs2, rfl, hq2, hd2, ho2, hl2⟩ := hy.tup.tup
    refine ⟨p, p2, vs, vs2, rfl, rfl, SameT fh hq, SameT fh hq2, by rw [dvlen hd, dvlen hd2, sizeLine_eq]; exact hl, fun h0 => ?_, fun _ h0 => ?_, fun _ _ l nl => ?_⟩
    · have : a = [] := by
        have := dvlen hd
        rw [h0] at this
        exact List.length_eq_zero_iff.mp this.symm
      subst this
      exact q _ F H (Step.refl fh) r2
    · have : b = [] := by
        have := dvlen hd2
        rw [h0] at this
        exact List.length_eq_zero_iff.mp this.symm
      subst this
      refine q _ F H (Step.refl fh) ?_
      show Rep K F _ _ _
      rw [List.append_nil]
      exact r1
    · refine q _ _ _ (Step.lay fh nl) (newT fh nl (by rw [List.map_append]; exact DqAll.app hd hd2) (fun x hx => (List.mem_append.mp hx).elim (ho x) (ho2 x)) (by rw [List.length_append]; exact hl))
  · cases e
/-- list + list, as they are read -/
def rCatL (K : PySem.W.Frag) : R2 := fun x y H Q => ∃ l b xs zs, x = .ref l ∧ y = .ref b ∧ Rd H l (.lst xs) ∧ Rd H b (.lst zs) ∧ xs.length + zs.length ≤ sizeLine ∧ ∀ p, H p = none → Q (.ref p) (upd H p (.lst (xs ++ zs)))
theorem op_catL {X : Cx} : OpR X (binaryOp .Add) (rCatL X.K) := by
  intro pins s σ H x y v u Q I rx ry h
  obtain ⟨l, b, xs, zs, rfl, rfl, hH, hB, hz, q⟩ := h
  cases rx
  cases ry
  obtain ⟨hl, its, n, r, e⟩ := Rd.ok hH I.hok
  obtain ⟨hl2, its2, n2, r2, e2⟩ := Rd.ok hB I.hok
  have h1 := r.length
  have h2 := r2.length
  refine PySem.P.add_list e e2 ?_ (by rw [List.size_toArray, List.size_toArray]; omega)
  have ea : its.toArray ++ its2.toArray = (its ++ its2).toArray := by simp
  rw [ea]
  exact ⟨.ref _, _, I.lnew (t' := s.toks) (r.append r2) (by rw [List.length_append]; omega), rfl, q _ I.fresh⟩
theorem o_catL : Op2 K (rCatL K) (rL S) (rL S) .n (rL S) catP := by
  intro F H x y a b c fh hx hy e Q q
  unfold catP at e
  split at e
  · rename_i hl
    cases e
    obtain ⟨p, vs, rfl, hq, hd, ho, hl1⟩ := hx.list fh
    obtain ⟨p2, vs2, rfl, hq2, hd2, ho2, hl2⟩ := hy.list fh
    exact ⟨p, p2, vs, vs2, rfl, rfl, hq, hq2, by rw [dvlen hd, dvlen hd2, sizeLine_eq]; exact hl, fun l nl => q _ F _ (Step.layO fh nl) (newL fh nl (by rw [List.map_append]; exact DqAll.app hd hd2) (fun x hx => (List.mem_append.mp hx).elim (ho x) (ho2 x)) (by rw [List.length_append]; exact hl))⟩
  · cases e
theorem o_lenS : Cb1 K (fun xs H Q => ∃ z, xs = [.str z] ∧ z.length ≤ sizeLine ∧ Q (.int z.length) H) rS .r rI (lenL (α := Nat)) := by
  intro F H x a c fh hx e Q q
  cases e
  obtain ⟨rfl, a1, a2⟩ := hx.str.str
  refine ⟨_, rfl, by simpa [Str.length, sizeLine_eq] using a2, q _ F H (Step.refl fh) (rep_int.mpr ?_)⟩
  simp [Str.length]
theorem o_lenL : Cb1 K (fun xs H Q => ∃ p ys, xs = [.ref p] ∧ (SqL K H p ys ∨ SqT K H p ys) ∧ Q (.int ys.length) H) (rL S) .r rI (lenL (α := α)) := by
  intro F H x a c fh hx e Q q
  cases e
  obtain ⟨p, vs, rfl, hq, hd, ho, hl⟩ := hx.list fh
  exact ⟨p, vs, rfl, .inl (.inl hq), q _ F H (Step.refl fh) (rep_int.mpr (by rw [dvlen hd]))⟩
theorem o_lenT : Cb1 K (fun xs H Q => ∃ p ys, xs = [.ref p] ∧ (SqL K H p ys ∨ SqT K H p ys) ∧ Q (.int ys.length) H) (rT S) .r rI (lenL (α := α)) := by
  intro F H x a c fh hx e Q q
  cases e
  obtain ⟨p, vs, rfl, hq, hd, ho, hl⟩ := hx.tup.tup
  exact ⟨p, vs, rfl, .inr (SameT fh hq), q _ F H (Step.refl fh) (rep_int.mpr (by rw [dvlen hd]))⟩
theorem dp_ints {F : Hp} : ∀ {vs : List V} {xs : List Int}, DqAll K F vs (xs.map rI.toD) → vs = xs.map V.int
  | [], [], _ => rfl
  | _, [], h => by cases h; rfl
  | _, x :: xs, h => by
    cases h with
    | cons h1 h2 =>
      cases h1
      rw [dp_ints h2]
      rfl
theorem dp_bools {F : Hp} : ∀ {vs : List V} {xs : List Bool}, DqAll K F vs (xs.map rB.toD) → vs = xs.map V.bl
  | [], [], _ => rfl
  | _, [], h => by cases h; rfl
  | _, x :: xs, h => by
    cases h with
    | cons h1 h2 =>
      cases h1
      rw [dp_bools h2]
      rfl
theorem dp_strs {F : Hp} : ∀ {vs : List V} {xs : List (List Nat)}, DqAll K F vs (xs.map rS.toD) → vs = (xs.map fun x => (⟨x.toArray⟩ : Str)).map V.str
  | [], [], _ => rfl
  | _, [], h => by cases h; rfl
  | _, x :: xs, h => by
    cases h with
    | cons h1 h2 =>
      cases h1
      rw [dp_strs h2]
      rfl
theorem o_sum : Cb1 K (rSum K) (rL rI) .r rI sumI := by
  intro F H x a c fh hx e Q q
  cases e
  obtain ⟨p, vs, rfl, hq, hd, ho, hl⟩ := hx.list fh
  rw [dp_ints hd] at hq
  exact ⟨p, a, rfl, .inl hq, q _ F H (Step.refl fh) (rep_int.mpr rfl)⟩
theorem o_any : Cb1 K (rAny K) (rL rB) .r rB anyB := by
  intro F H x a c fh hx e Q q
  cases e
  obtain ⟨p, vs, rfl, hq, hd, ho, hl⟩ := hx.list fh
  rw [dp_bools hd] at hq
  exact ⟨p, a, rfl, .inl hq, q _ F H (Step.refl fh) (rep_bool.mpr rfl)⟩
theorem o_all : Cb1 K (rAll K) (rL rB) .r rB allB := by
  intro F H x a c fh hx e Q q
  cases e
  obtain ⟨p, vs, rfl, hq, hd, ho, hl⟩ := hx.list fh
  rw [dp_bools hd] at hq
  exact ⟨p, a, rfl, .inl hq, q _ F H (Step.refl fh) (rep_bool.mpr rfl)⟩
theorem o_intB : Cb1 K (fun xs H Q => (∃ i, xs = [.int i] ∧ Q (.int i) H) ∨ ∃ k, xs = [.bl k] ∧ Q (.int (if k then 1 else 0)) H) rB .r rI b2I := by
  intro F H x a c fh hx e Q q
  cases e
  exact .inr ⟨a, by rw [hx.bool], q _ F H (Step.refl fh) (rep_int.mpr rfl)⟩
theorem o_tupleL : Cb1 K (fun xs H Q => ∃ p ys, xs = [.ref p] ∧ ((SqL K H p ys ∧ ∀ l, H l = none → Q (.ref l) (upd H l (.tup ys))) ∨ (SqT K H p ys ∧ Q (.ref p) H))) (rL S) .r (rT S) (sameL (α := α)) := by
  intro F H x a c fh hx e Q q
  cases e
  obtain ⟨p, vs, rfl, hq, hd, ho, hl⟩ := hx.list fh
  exact ⟨p, vs, rfl, .inl ⟨.inl hq, fun l nl => q _ _ _ (Step.lay fh nl) (newT fh nl hd ho hl)⟩⟩
theorem o_listL : Cb1 K (fun xs H Q => ∃ p ys, xs = [.ref p] ∧ (SqL K H p ys ∨ SqT K H p ys) ∧ ∀ l, H l = none → Q (.ref l) (upd H l (.lst ys))) (rL S) .n (rL S) (sameL (α := α)) := by
  intro F H x a c fh hx e Q q
  cases e
  obtain ⟨p, vs, rfl, hq, hd, ho, hl⟩ := hx.list fh
  exact ⟨p, vs, rfl, .inl (.inl hq), fun l nl => q _ F _ (Step.layO fh nl) (newL fh nl hd ho hl)⟩
theorem o_listT : Cb1 K (fun xs H Q => ∃ p ys, xs = [.ref p] ∧ (SqL K H p ys ∨ SqT K H p ys) ∧ ∀ l, H l = none → Q (.ref l) (upd H l (.lst ys))) (rT S) .n (rL S) (sameL (α := α)) := by
  intro F H x a c fh hx e Q q
  cases e
  obtain ⟨p, vs, rfl, hq, hd, ho, hl⟩ := hx.tup.tup
  exact ⟨p, vs, rfl, .inr (SameT fh hq), fun l nl => q _ F _ (Step.layO fh nl) (newL fh nl hd ho hl)⟩

/-! ### methods of built-in types -/
/-- x.m(y), x a text -/
theorem ev_bmS {r : V → List V → Hp → VK → Prop} {f : List Nat → γ → Option δ} {ma : Option (List Nat)} {mb : Option γ}
    (h : ∀ F H x y a b c, Same F H → Vw K F H x rS a → Vw K F H y T b → f a b = some c → ∀ Q : VK, (∀ v F' H', Step F H F' H' → Ot K k U H F' H' v c → Q v H') → r x [y] H Q)
    (ha : Ev K F0 H0 ta Γ .r rS ma) (hb : Ev K F0 H0 tb Γ .v T mb) : Ev K F0 H0 (tBM K "str" r ta (tCons tb tNil)) Γ k U (ma.bind fun a => mb.bind fun b => f a b) := by
  intro σ F H s c e Q q
  cases ma with
  | none => cases e
  | some a =>
    cases mb with
    | none => cases e
    | some b =>
      refine ha σ F H s a rfl _ fun x F1 H1 s1 o1 => ?_
      obtain ⟨ex, _, _⟩ := Rep.str o1
      refine ⟨by rw [ex]; rfl, ?_⟩
      refine hb σ F1 H1 (s.mono s1) b rfl _ fun y F2 H2 s2 o2 => ?_
      exact h F2 H2 x y a b c s2.fh (Rep.vw (Rep.mono o1 s2.ff)) o2 e Q fun v F' H' s' o => q v F' H' (s1.trans (s2.trans s')) (Ot.back (s1.trans s2) o)
open PySem.StrLaws PySem.Builtin PySem.Builtin.Str in
theorem count_loop (x : List Nat) (c : Nat) : ∀ (n a : Nat) (st : Array Nat × Nat), a + n = x.length + 1 → st.2 ≤ a → st.1.size ≤ a →
    (forIn (List.range' a n) st (occBody ⟨x.toArray⟩ ⟨#[c]⟩ x.length (x.length + 1))).run.1.size = st.1.size + (x.drop a).count c
  | 0, a, st, h, h1, h2 => by
    rw [List.drop_eq_nil_of_le (by omega)]
    simp
  | n + 1, a, st, h, h1, h2 => by
    rw [List.range'_succ, List.forIn_cons]
    unfold occBody
    have hs : (⟨#[c]⟩ : Str).length = 1 := rfl
    by_cases hc : a < x.length ∧ x[a]? = some c
    · have hsub : subAt ⟨x.toArray⟩ ⟨#[c]⟩ a = true := ((subAt_one ⟨x.toArray⟩ c a).mpr (by simpa using hc.2)).2
      rw [if_pos ⟨⟨⟨by omega, h1⟩, by rw [hs]; omega⟩, hsub⟩]
      have ih := count_loop x c n (a + 1) (st.1.push a, a + 1) (by omega) (by simp) (by simp; omega)
      refine Eq.trans ih ?_
      rw [List.drop_eq_getElem_cons hc.1]
      have ec : x[a] = c := by
        have := hc.2
        rw [List.getElem?_eq_getElem hc.1] at this
        exact Option.some.inj this
      rw [ec, List.count_cons_self, Array.size_push]
      omega
    · have hn : ¬ (((st.1.size < x.length + 1 ∧ st.2 ≤ a) ∧ a + (⟨#[c]⟩ : Str).length ≤ x.length) ∧ subAt ⟨x.toArray⟩ ⟨#[c]⟩ a = true) := fun h => by
        have hlt : a < x.length := by
          have := h.1.2
          rw [hs] at this
          omega
        have := (subAt_one ⟨x.toArray⟩ c a).mp ⟨by rw [hs]; simp [Str.length]; omega, h.2⟩
        exact hc ⟨hlt, by simpa using this⟩
      rw [if_neg hn]
      have ih := count_loop x c n (a + 1) (st.1, st.2) (by omega) (by simp; omega) (by simp; omega)
      refine Eq.trans ih ?_
      by_cases hlt : a < x.length
      · rw [List.drop_eq_getElem_cons hlt, List.count_cons]
        have : (x[a] == c) = false := by
          rw [beq_eq_false_iff_ne]
          intro e
          exact hc ⟨hlt, by rw [List.getElem?_eq_getElem hlt, e]⟩
        rw [this]
        simp
      · rw [List.drop_eq_nil_of_le (by omega), List.drop_eq_nil_of_le (by omega)]
theorem txt_count (x : List Nat) (c : Nat) : Txt.count ⟨x.toArray⟩ ⟨#[c]⟩ = (x.count c : Int) := by
  unfold Txt.count
  have e : (⟨x.toArray⟩ : Str).length = x.length := by simp [Str.length]
  rw [e, StrLaws.occ_eq, Array.length_toList]
  have := count_loop x c (x.length + 1) 0 (#[], 0) (by omega) (Nat.le_refl _) (by simp)
  simp only [Nat.sub_zero]
  rw [this]
  simp
theorem o_countS : ∀ F H x y a b c, Same F H → Vw K F H x rS a → Vw K F H y rS b → countS a b = some c → ∀ Q : VK, (∀ v F' H', Step F H F' H' → Ot K .r rI H F' H' v c → Q v H') →
    (fun x xs H Q => ∃ a b, x = V.str a ∧ xs = [V.str b] ∧ Q (.int (Txt.count a b)) H : V → List V → Hp → VK → Prop) x [y] H Q := by
  intro F H x y a b c fh hx hy e Q q
  unfold countS at e
  split at e
  · rename_i z
    cases e
    obtain ⟨rfl, a1, a2⟩ := hx.str.str
    obtain ⟨rfl, b1, b2⟩ := hy.str.str
    exact ⟨_, _, rfl, rfl, q _ F H (Step.refl fh) (rep_int.mpr (by rw [txt_count]))⟩
  · cases e
end
end Y

namespace Y
open PySem PySem.Spec PyProof.Rows L2

/-! ### defs -/
theorem spD_len {γ α : Type} {K : PySem.W.Frag} {A : AP γ} {f : γ → Option α} {k : Kd} {R : Rp α} {n : Nat} (hn : A.len = n) : ∀ vs H Q E, spD K A f k R vs H Q E → vs.length = n := by
  intro vs H Q E h
  obtain ⟨F, g, a, _, h, _⟩ := h
  rw [A.hlen K F vs g h, hn]
/-- a def as its callers know it -/
structure Df (P : Program) (w : World) (K : PySem.W.Frag) (mg : Str → Option Value) (base : Heap) (x : Str) (k : Nat) (ps : List Str) (sp : Sp) : Prop where
  ex : ∃ f fd, mg x = some (.ref f) ∧ PySem.W.keepIn K (.ref f) = true ∧ Binds K fd ps [] ∧ FnOk P w K mg base CX0 k f fd ps sp
section
variable {X : Cx} {k : Nat} {x : Str} {ps : List Str} {sp : Sp} {e : Expr} {es : List Expr} {t : TA} {p pos : Pos}
theorem pe_callD (D : Df X.prog X.w X.K X.mg X.base x k ps sp) (hr : Room k X.A) (hg : Gl X x) (ha : PA X (e :: es) t) (hdb : (x == ("__debug__" : Str)) = false := by decide)
    (he : starEach (e :: es) X.env = (false, eval e X.env) :: starEach es X.env := by rfl) (hpl : (backTo pos (starEach es X.env)).any (·.1) = false := by rfl) : PE X (.Call (.Name x p) (e :: es) [] pos) (tCall sp [] E0 t) := by
  obtain ⟨f, fd, hm, hk, hb, F⟩ := D.ex
  exact pe_call F hr hg hm hk hb .nil pass0 ha hdb he hpl
end
theorem start_all {K : PySem.W.Frag} {H0 F H : Hp} {N : List Str} {vs : List V} {Γ : List Sl} {n : Nat} (h : SlAll K H0 F H (vs.map some) Γ) (hn : n = N.length - vs.length) :
    SlAll K H0 F H (L2.start N vs) (Γ ++ List.replicate n .j) ∧ (owns (vs.map some) Γ = [] → owns (L2.start N vs) (Γ ++ List.replicate n .j) = []) := by
  subst hn
  unfold L2.start
  have rep : ∀ m, SlAll K H0 F H (List.replicate m (none : Option V)) (List.replicate m .j) ∧ owns (List.replicate m (none : Option V)) (List.replicate m .j) = [] := by
    intro m
    induction m with
    | zero => exact ⟨trivial, rfl⟩
    | succ m ih => exact ⟨⟨trivial, ih.1⟩, by simp only [List.replicate_succ, owns, ih.2]; rfl⟩
  generalize N.length - vs.length = m
  have app : ∀ (σ : List (Option V)) (Γ : List Sl), SlAll K H0 F H σ Γ → SlAll K H0 F H (σ ++ List.replicate m none) (Γ ++ List.replicate m .j) ∧ (owns σ Γ = [] → owns (σ ++ List.replicate m none) (Γ ++ List.replicate m .j) = []) := by
    intro σ
    induction σ with
    | nil =>
      intro Γ h
      cases Γ with
      | nil => exact ⟨(rep m).1, fun _ => (rep m).2⟩
      | cons _ _ => exact h.elim
    | cons s σ ih =>
      intro Γ h
      cases Γ with
      | nil => exact h.elim
      | cons g Γ =>
        obtain ⟨a, b⟩ := ih Γ h.2
        refine ⟨⟨h.1, a⟩, fun e => ?_⟩
        simp only [owns, List.append_eq_nil_iff] at e
        simp only [List.cons_append, owns, e.1, b e.2, List.append_nil]
  exact app _ Γ h
/-- a body that gives what f gives -/
theorem run_body {γ ρ : Type} {K : PySem.W.Frag} {A : AP γ} {m : γ → Option (Fl ρ Unit)} {k : Kd} {R : Rp ρ} {N : List Str} {u : TS} {out : Unit → List Sl} {vs : List V} {H : Hp} {Q : VK} {E : XK}
    (h : spD K A (fun g => runF (m g)) k R vs H Q E) (n : Nat) (hn : n = N.length - A.len) (hb : ∀ F0 H0 g, Bd K F0 H0 u (A.sl g ++ List.replicate n .j) k R out (m g)) : u { nx := fun _ H' => Q .non H', rt := Q } (L2.start N vs) H := by
  obtain ⟨F, g, a, fh, ok, e, q⟩ := h
  obtain ⟨s1, s2⟩ := A.hsl K H F H vs g ok
  have hl := A.hlen K F vs g ok
  obtain ⟨t1, t2⟩ := start_all (N := N) (n := n) s1 (by rw [hl]; exact hn)
  have sr : SR K F H F H (L2.start N vs) (A.sl g ++ List.replicate n .j) := ⟨Step.refl fh, t1, by rw [t2 s2]; exact List.nodup_nil⟩
  have e : runF (m g) = some a := e
  unfold runF at e
  cases em : m g with
  | none => rw [em] at e; cases e
  | some r =>
    rw [em] at e
    refine hb F H g _ F H sr r em _ (fun x ex v F' H' st o => ?_) fun b eb σ' F' H' sm s' => ?_
    · subst ex
      cases e
      exact q v F' H' st o
    · subst eb
      cases e
/-- the law's own promise -/
def spLaw (K : PySem.W.Frag) : Sp := fun vs H Q _ => ∃ (a : Addr) (ns : List Int), vs = [.ref a] ∧ SqL K H a (ns.map V.int) ∧ ns.length ≤ 63 ∧ ∀ H', Q (.bl true) H'
theorem law_of {P : Program} {w : World} {K : PySem.W.Frag} {mg : Str → Option Value} {base : Heap} {k : Nat} {f : Addr} {fd : FuncData} {x : Str} {m : List Int → Option Bool}
    (h : FnOk P w K mg base CX0 k f fd [x] (spD K (aS aN) (fun g => m g.1) .r rB)) (hm : ∀ ns : List Int, ns.length ≤ 63 → m ns = some true) : FnOk P w K mg base CX0 k f fd [x] (spLaw K) := by
  refine h.imp fun vs H Q E hs => ?_
  obtain ⟨a, ns, rfl, hS, hl, q⟩ := hs
  refine ⟨H, (ns, ()), true, Same.refl _, ⟨a, [], rfl, hS, rfl⟩, hm ns hl, fun v F' H' st o => ?_⟩
  rw [rep_bool.mp o]
  exact q H'
end Y

namespace Y
open PySem PySem.Spec PyProof.Rows L2

/-! ### more operators -/
theorem tuple_mul1 (l : Addr) (items : Array Value) (n : Nat) (dd : Option Addr) (sl : Array (Option Value)) (u : Tok) :
    Meets (Builtin.«tuple.__mul__» ⟨[.ref l, .int 1 u], []⟩) (fun _ R s => s.heap.get? l = some { cls := .type "tuple", dict := dd, data := .seq items n, slots := sl } ∧
      R (.ok (.ret (Value.ref l))) s) :=
  .of_wp fun prog w A R s h => by
    obtain ⟨hp, g, d, tk, os⟩ := s
    obtain ⟨hl, h⟩ := h
    have f1 := AutoSeq1.idx_int
    have c0 : (decide ((1 : Int) < -(2 ^ 63)) || decide ((1 : Int) ≥ 2 ^ 63)) = false := by decide
    have c1 : (items.isEmpty || (1 : Int) == 1) = true := by simp
    have sub := AutoSeq1.sub_tuple_tuple
    wp_walk using wpAny_loadPart' hl
    exact ⟨_, rfl, h⟩
/-- a tuple some times, at least once -/
def rRepT2 (K : PySem.W.Frag) : R2 := fun x y H Q => ∃ l k xs, x = .ref l ∧ y = .int k ∧ SqT K H l xs ∧ ((k = 1 ∧ Q (.ref l) H) ∨ (xs ≠ [] ∧ 2 ≤ k ∧ k ≤ 1000 ∧ xs.length ≤ 1000 ∧ ∀ p, H p = none → Q (.ref p) (upd H p (.tup (List.replicate k.toNat xs).flatten))))
theorem op_repT2 {X : Cx} : OpR X (binaryOp .Mult) (rRepT2 X.K) := by
  intro pins s σ H x y v u Q I rx ry h
  obtain ⟨l, k, xs, rfl, rfl, hT, h⟩ := h
  rcases h with ⟨rfl, q⟩ | h
  · cases rx
    obtain ⟨t, rfl⟩ := ry
    obtain ⟨its, r, ⟨⟨cls, dd, data, sl⟩, ho, hc, n, hd⟩, hs⟩ := I.tuple hT
    simp only at hc hd
    subst hc hd
    exact wpAny_binaryOp_repeat_ref (T := "tuple") (U := "int") (by decide) ⟨_, ho, rfl⟩ (fun s' => typeIs_int s' 1 t) noFill_tuple_mul F.fills_int_mul F.slot_int_rmul repeat_tuple F.slot_int_index.lookup
      (call_meets F.slot_int_rmul (typeIs_int s 1 t) F.entry_int_rmul (F.args_int_rmul_2 _ _) (int_rmul_tuple 1 t l its.toArray n dd sl)
        ⟨ho, rfl, ⟨_, ho, rfl⟩, call_meets F.slot_tuple_mul ⟨_, ho, rfl⟩ F.entry_tuple_mul (F.args_tuple_mul_2 _ _) (tuple_mul1 l its.toArray n dd sl t) ⟨ho, ⟨.ref l, H, I, rfl, q⟩⟩⟩)
  · exact op_repT pins s σ H _ _ v u Q I rx ry ⟨l, k, xs, rfl, rfl, hT, h⟩
def repT {α : Type} (xs : List α) (n : Int) : Option (List α) := if n = 1 ∨ (0 < xs.length ∧ 2 ≤ n ∧ n ≤ 1000 ∧ xs.length ≤ 1000) then some (repL xs n) else none
def isN {α : Type} (o : Option α) : Option Bool := some o.isNone
def notN {α : Type} (o : Option α) : Option Bool := some o.isSome
def inL {α : Type} [DecidableEq α] (x : α) (xs : List α) : Option Bool := some (decide (x ∈ xs))
def notInL {α : Type} [DecidableEq α] (x : α) (xs : List α) : Option Bool := some (!decide (x ∈ xs))

section
variable {K : PySem.W.Frag} {F0 H0 : Hp} {Γ : List Sl} {α β γ δ ρ : Type} {R : Rp ρ} {S : Rp α} {T : Rp γ} {U : Rp δ} {te ta tb tc tl : TE} {u t : TS} {k : Kd} {out : β → List Sl}

theorem dq_rep {F : Hp} {vs : List V} {xs : List α} (h : DqAll K F vs (xs.map S.toD)) : ∀ n : Nat, DqAll K F (List.replicate n vs).flatten ((List.replicate n xs).flatten.map S.toD)
  | 0 => .nil
  | n + 1 => by
    rw [List.replicate_succ, List.replicate_succ, List.flatten_cons, List.flatten_cons, List.map_append]
    exact DqAll.app h (dq_rep h n)
theorem mem_rep {xs : List α} {n : Nat} {x : α} (h : x ∈ (List.replicate n xs).flatten) : x ∈ xs := by
  obtain ⟨l, hl, hx⟩ := List.mem_flatten.mp h
  rw [(List.mem_replicate.mp hl).2] at hx
  exact hx
theorem len_rep {xs : List α} {n : Nat} : (List.replicate n xs).flatten.length = n * xs.length := by
  rw [List.length_flatten, List.map_replicate]
  simp
theorem o_repT : Op2 K (rRepT2 K) (rT S) rI .r (rT S) repT := by
  intro F H x y a b c fh hx hy e Q q
  unfold repT at e
  split at e
  · rename_i h
    cases e
    have r := hx.tup
    obtain ⟨p, vs, rfl, hq, hd, ho, hl⟩ := hx.tup.tup
    refine ⟨p, b, vs, rfl, hy.int, SameT fh hq, ?_⟩
    by_cases h1 : b = 1
    · refine .inl ⟨h1, q _ F H (Step.refl fh) ?_⟩
      subst h1
      have : repL a 1 = a := by simp [repL]
      show Rep K F _ _ _
      rw [this]
      exact r
    · obtain ⟨n0, n1, n2, n3⟩ := h.resolve_left h1
      refine .inr ⟨fun z => ?_, n1, n2, by rw [dvlen hd]; exact n3, fun l nl => ?_⟩
      · have := dvlen hd
        rw [z] at this
        simp at this
        omega
      · have hb : b.toNat * a.length ≤ 1000 * 1000 := Nat.mul_le_mul (by omega) n3
        exact q _ _ _ (Step.lay fh nl) (newT fh nl (dq_rep hd _) (fun x hx => ho x (mem_rep hx)) (by unfold repL; rw [len_rep]; omega))
  · cases e
theorem Ev.unO {h : ∀ a, PyData.eqv .none (S.toD a) = false ∧ PyData.eqv (S.toD a) .none = false} {m : Option (Option α)} (e : Ev K F0 H0 te Γ .r (rO S h) m) : Ev K F0 H0 te Γ .r S (m.bind fun o => o) := by
  intro σ F H s a ea Q q
  cases m with
  | none => cases ea
  | some o =>
    have ea : o = some a := ea
    subst ea
    exact e σ F H s (some a) rfl Q fun v F' H' s' o => q v F' H' s' o
theorem isnon {F : Hp} {h : ∀ a, PyData.eqv .none (S.toD a) = false ∧ PyData.eqv (S.toD a) .none = false} {o : Option α} {v : V} (r : Rep K F v (rO S h) o) : decide (v = .non) = o.isNone := by
  cases o with
  | none =>
    obtain ⟨r, _⟩ := r
    cases r
    rfl
  | some a =>
    have r := r.1
    have hn : v ≠ .non := fun e => by
      subst e
      have h1 := (h a).1
      have hd : (rO S h).toD (some a) = S.toD a := rfl
      rw [hd] at r
      generalize S.toD a = d at r h1
      cases r
      simp [PyData.eqv] at h1
    rw [decide_eq_false hn]
    rfl
theorem ev_isN {h : ∀ a, PyData.eqv .none (S.toD a) = false ∧ PyData.eqv (S.toD a) .none = false} {m : Option (Option α)} (e : Ev K F0 H0 te Γ .r (rO S h) m) : Ev K F0 H0 (tIsN te) Γ .r rB (m.bind fun o => isN o) := by
  intro σ F H s a ea Q q
  cases m with
  | none => cases ea
  | some o =>
    cases ea
    refine e σ F H s o rfl _ fun v F' H' s' r => ?_
    exact q _ F' H' s' (rep_bool.mpr (by rw [isnon r]))
theorem ev_notN {h : ∀ a, PyData.eqv .none (S.toD a) = false ∧ PyData.eqv (S.toD a) .none = false} {m : Option (Option α)} (e : Ev K F0 H0 te Γ .r (rO S h) m) : Ev K F0 H0 (tNotN te) Γ .r rB (m.bind fun o => notN o) := by
  intro σ F H s a ea Q q
  cases m with
  | none => cases ea
  | some o =>
    cases ea
    refine e σ F H s o rfl _ fun v F' H' s' r => ?_
    exact q _ F' H' s' (rep_bool.mpr (by rw [isnon r]; cases o <;> rfl))
theorem ev_chain {r r' : R2} {f : α → γ → Option Bool} {f' : γ → δ → Option Bool} {ma : Option α} {mb : Option γ} {mc : Option δ} (h : Op2 K r S T .r rB f) (h' : Op2 K r' T U .r rB f')
    (ha : Ev K F0 H0 ta Γ .v S ma) (hb : Ev K F0 H0 tb Γ .v T mb) (hc : Ev K F0 H0 tc Γ .v U mc) :
    Ev K F0 H0 (tChain r r' ta tb tc) Γ .r rB (ma.bind fun a => mb.bind fun b => (f a b).bind fun k => if k = true then mc.bind fun c => f' b c else some false) := by
  intro σ F H s z e Q q
  cases ma with
  | none => cases e
  | some a =>
    cases mb with
    | none => cases e
    | some b =>
      have e : ((f a b).bind fun k => if k = true then mc.bind fun c => f' b c else some false) = some z := e
      cases ef : f a b with
      | none => rw [ef] at e; cases e
      | some k =>
        rw [ef] at e
        refine ha σ F H s a rfl _ fun x F1 H1 s1 o1 => ?_
        refine hb σ F1 H1 (s.mono s1) b rfl _ fun y F2 H2 s2 o2 => ?_
        refine h F2 H2 x y a b k s2.fh (Vw.mono o1 s2) o2 ef _ fun v F3 H3 s3 o3 => ?_
        refine ⟨k, rep_bool.mp o3, ?_⟩
        cases k with
        | true =>
          rw [if_pos rfl]
          have e : (mc.bind fun c => f' b c) = some z := e
          cases mc with
          | none => cases e
          | some c =>
            refine hc σ F3 H3 (((s.mono s1).mono s2).mono s3) c rfl _ fun w F4 H4 s4 o4 => ?_
            exact h' F4 H4 y w b c z s4.fh (Vw.mono o2 (s3.trans s4)) o4 e Q fun v F' H' s' o => q v F' H' (s1.trans (s2.trans (s3.trans (s4.trans s')))) o
        | false =>
          cases e
          rw [if_neg Bool.false_ne_true]
          exact q _ F3 H3 (s1.trans (s2.trans s3)) (rep_bool.mpr rfl)
/-- values without an address -/
def Flat (S : Rp α) : Prop := ∀ (K : PySem.W.Frag) F v w a b, Rep K F v S a → Rep K F w S b → flatV v = true ∧ (eqV v w = true ↔ a = b)
theorem fl_I : Flat rI := fun K F v w a b h1 h2 => by
  rw [rep_int.mp h1, rep_int.mp h2]
  simp [flatV, eqV]
theorem fl_B : Flat rB := fun K F v w a b h1 h2 => by
  rw [rep_bool.mp h1, rep_bool.mp h2]
  simp [flatV, eqV]
theorem fl_S : Flat rS := fun K F v w a b h1 h2 => by
  rw [h1.str.1, h2.str.1]
  simp [flatV, eqV]
theorem in_flat [DecidableEq α] (fl : Flat S) {F : Hp} {v : V} {a : α} (r : Rep K F v S a) : ∀ {vs : List V} {xs : List α}, DqAll K F vs (xs.map S.toD) → (∀ x ∈ xs, okD (S.toD x) = true) → inV v vs = decide (a ∈ xs) ∧ vs.all flatV = true
  | [], [], _, _ => by simp [inV]
  | _, x :: xs, h, o => by
    cases h with
    | @cons u vs _ _ h1 h2 =>
      obtain ⟨i1, i2⟩ := in_flat fl r h2 fun y hy => o y (List.mem_cons_of_mem _ hy)
      have ru : Rep K F u S x := ⟨h1, o x List.mem_cons_self⟩
      obtain ⟨f1, f2⟩ := fl K F u v x a ru r
      refine ⟨?_, by rw [List.all_cons, f1, i2]; rfl⟩
      unfold inV at i1 ⊢
      rw [List.any_cons, i1, Bool.eq_iff_iff, Bool.or_eq_true, f2, decide_eq_true_eq, decide_eq_true_eq, List.mem_cons]
      exact ⟨fun h => h.imp Eq.symm id, fun h => h.imp Eq.symm id⟩
theorem Vw.flat (fl : Flat S) {F H : Hp} {v : V} {a : α} (h : Vw K F H v S a) : Rep K F v S a ∨ ∃ p vs ds, v = .ref p ∧ S.toD a = .list ds ∧ DqAll K F vs ds ∧ H p = some (.lst vs) := by
  rcases h with h | ⟨p, vs, ds, e, h1, h2, h3, h4⟩
  · exact .inl h
  · exact .inr ⟨p, vs, ds, e, h2, h3, h1⟩
theorem o_inLst [DecidableEq α] {neg : Bool} (fl : Flat S) (hv : ∀ {F H : Hp} {v : V} {a : α}, Vw K F H v S a → Rep K F v S a) {f : α → List α → Option Bool} (hf : f = fun x xs => some (if neg then !decide (x ∈ xs) else decide (x ∈ xs))) :
    Op2 K (rIn K neg) S (rL S) .r rB f := by
  intro F H x y a b c fh hx hy e Q q
  subst hf
  cases e
  have rx := hv hx
  obtain ⟨p, vs, rfl, hq, hd, ho, hl⟩ := hy.list fh
  obtain ⟨i1, i2⟩ := in_flat fl rx hd ho
  refine ⟨p, vs, rfl, .inl (.inl hq), (fl K F x x a a rx rx).1, i2, ?_⟩
  rw [i1]
  exact q _ F H (Step.refl fh) (rep_bool.mpr rfl)
theorem o_inTup [DecidableEq α] {neg : Bool} (fl : Flat S) (hv : ∀ {F H : Hp} {v : V} {a : α}, Vw K F H v S a → Rep K F v S a) {f : α → List α → Option Bool} (hf : f = fun x xs => some (if neg then !decide (x ∈ xs) else decide (x ∈ xs))) :
    Op2 K (rIn K neg) S (rT S) .r rB f := by
  intro F H x y a b c fh hx hy e Q q
  subst hf
  cases e
  have rx := hv hx
  obtain ⟨p, vs, rfl, hq, hd, ho, hl⟩ := hy.tup.tup
  obtain ⟨i1, i2⟩ := in_flat fl rx hd ho
  refine ⟨p, vs, rfl, .inr (SameT fh hq), (fl K F x x a a rx rx).1, i2, ?_⟩
  rw [i1]
  exact q _ F H (Step.refl fh) (rep_bool.mpr rfl)
theorem o_isB : Op2 K rIsB rB rB .r rB eqD := by
  intro F H x y a b c fh hx hy e Q q
  cases e
  exact ⟨a, b, hx.bool, hy.bool, q _ F H (Step.refl fh) (rep_bool.mpr rfl)⟩
theorem o_isnotB : Op2 K rNotB rB rB .r rB neD := by
  intro F H x y a b c fh hx hy e Q q
  cases e
  exact ⟨a, b, hx.bool, hy.bool, q _ F H (Step.refl fh) (rep_bool.mpr rfl)⟩
theorem vI {F H : Hp} {v : V} {a : Int} (h : Vw K F H v rI a) : Rep K F v rI a := rep_int.mpr h.int
theorem vB {F H : Hp} {v : V} {a : Bool} (h : Vw K F H v rB a) : Rep K F v rB a := rep_bool.mpr h.bool
theorem vS {F H : Hp} {v : V} {a : List Nat} (h : Vw K F H v rS a) : Rep K F v rS a := h.str
theorem o_inIL : Op2 K (rIn K false) rI (rL rI) .r rB inL := o_inLst fl_I vI rfl
theorem o_inSL : Op2 K (rIn K false) rS (rL rS) .r rB inL := o_inLst fl_S vS rfl
theorem o_inIT : Op2 K (rIn K false) rI (rT rI) .r rB inL := o_inTup fl_I vI rfl
theorem o_inST : Op2 K (rIn K false) rS (rT rS) .r rB inL := o_inTup fl_S vS rfl
theorem o_notInIL : Op2 K (rIn K true) rI (rL rI) .r rB notInL := o_inLst fl_I vI rfl
theorem o_notInSL : Op2 K (rIn K true) rS (rL rS) .r rB notInL := o_inLst fl_S vS rfl
theorem o_notInIT : Op2 K (rIn K true) rI (rT rI) .r rB notInL := o_inTup fl_I vI rfl
theorem o_notInST : Op2 K (rIn K true) rS (rT rS) .r rB notInL := o_inTup fl_S vS rfl

/-! ### another reading of the same data -/
theorem Ev.tag {m : Option α} {f : α → γ} (hf : ∀ a, S.toD a = T.toD (f a)) (e : Ev K F0 H0 te Γ k S m) : Ev K F0 H0 te Γ k T (m.bind fun a => some (f a)) := by
  intro σ F H s c ec Q q
  cases m with
  | none => cases ec
  | some a =>
    cases ec
    refine e σ F H s a rfl Q fun v F' H' s' o => q v F' H' s' ?_
    cases k with
    | r => exact ⟨by rw [← hf]; exact o.1, by rw [← hf]; exact o.2⟩
    | v =>
      rcases o with o | ⟨p, vs, ds, h1, h2, h3, h4, h5⟩
      · exact .inl ⟨by rw [← hf]; exact o.1, by rw [← hf]; exact o.2⟩
      · exact .inr ⟨p, vs, ds, h1, h2, by rw [← hf]; exact h3, h4, by rw [← hf]; exact h5⟩
    | n =>
      obtain ⟨p, vs, ds, h1, h2, h3, h4, h5, h6, h7⟩ := o
      exact ⟨p, vs, ds, h1, h2, h3, h4, by rw [← hf]; exact h5, h6, by rw [← hf]; exact h7⟩
    | m =>
      obtain ⟨p, vs, ds, h1, h2, h3, h4, h5, h6, h7, h8⟩ := o
      exact ⟨p, vs, ds, h1, h2, h3, h4, by rw [← hf]; exact h5, h6, h7, by rw [← hf]; exact h8⟩
theorem tag_LO {h : ∀ a, PyData.eqv .none (S.toD a) = false ∧ PyData.eqv (S.toD a) .none = false} (xs : List α) : (rL S).toD xs = (rL (rO S h)).toD (xs.map some) := by
  show PyData.list _ = PyData.list _
  rw [List.map_map]
  rfl
/-! ### built-ins of two arguments -/
def maxI2 (i j : Int) : Option Int := some (if j > i then j else i)
def minI2 (i j : Int) : Option Int := some (if j < i then j else i)
def Cb2 (K : PySem.W.Frag) (r : List V → Hp → VK → Prop) (S : Rp α) (T : Rp γ) (k : Kd) (U : Rp δ) (f : α → γ → Option δ) : Prop :=
  ∀ F H x y a b c, Same F H → Vw K F H x S a → Vw K F H y T b → f a b = some c → ∀ Q : VK, (∀ v F' H', Step F H F' H' → Ot K k U H F' H' v c → Q v H') → r [x, y] H Q
theorem ev_cb2 {r : List V → Hp → VK → Prop} {f : α → γ → Option δ} {ma : Option α} {mb : Option γ} (h : Cb2 K r S T k U f) (ha : Ev K F0 H0 ta Γ .v S ma) (hb : Ev K F0 H0 tb Γ .v T mb) :
    Ev K F0 H0 (tCB r (tCons ta (tCons tb tNil))) Γ k U (ma.bind fun a => mb.bind fun b => f a b) := by
  intro σ F H s c e Q q
  cases ma with
  | none => cases e
  | some a =>
    cases mb with
    | none => cases e
    | some b =>
      refine ha σ F H s a rfl _ fun x F1 H1 s1 o1 => ?_
      refine hb σ F1 H1 (s.mono s1) b rfl _ fun y F2 H2 s2 o2 => ?_
      exact h F2 H2 x y a b c s2.fh (Vw.mono o1 s2) o2 e Q fun v F' H' s' o => q v F' H' (s1.trans (s2.trans s')) (Ot.back (s1.trans s2) o)
theorem o_max2 : Cb2 K (fun xs H Q => ∃ i j, xs = [.int i, .int j] ∧ Q (.int (if j > i then j else i)) H) rI rI .r rI maxI2 := by
  intro F H x y a b c fh hx hy e Q q
  cases e
  exact ⟨a, b, by rw [hx.int, hy.int], q _ F H (Step.refl fh) (rep_int.mpr rfl)⟩
theorem o_min2 : Cb2 K (fun xs H Q => ∃ i j, xs = [.int i, .int j] ∧ Q (.int (if j < i then j else i)) H) rI rI .r rI minI2 := by
  intro F H x y a b c fh hx hy e Q q
  cases e
  exact ⟨a, b, by rw [hx.int, hy.int], q _ F H (Step.refl fh) (rep_int.mpr rfl)⟩

/-! ### isinstance of values whose class is known -/
def HasTy (K : PySem.W.Frag) (S : Rp α) (T : String) : Prop := ∀ F H v a, Same F H → Vw K F H v S a → TyX K H v (.type T)
theorem ty_int : HasTy K rI "int" := fun F H v a _ h => by rw [h.int]; exact .base (.int a)
theorem ty_bool : HasTy K rB "bool" := fun F H v a _ h => by rw [h.bool]; exact .base (.bl a)
theorem ty_str : HasTy K rS "str" := fun F H v a _ h => by rw [h.str.str.1]; exact .base (.str _)
theorem ty_list : HasTy K (rL S) "list" := fun F H v a fh h => by
  obtain ⟨p, vs, rfl, hq, _⟩ := h.list fh
  rcases hq with hq | ⟨o, hq⟩
  · exact .base (.lst hq)
  · exact .base (.frz hq)
theorem tup_ty {H : Hp} {p : Addr} {vs : List V} (h : SqT K H p vs) : TyX K H (.ref p) (.type "tuple") := by
  rcases h with (h | ⟨o, h⟩) | ⟨o, _, _, h, hc, _⟩
  · exact .base (.tup h)
  · exact .fTuple h
  · exact .kTuple h hc
theorem ty_tup : HasTy K (rT S) "tuple" := fun F H v a fh h => by
  obtain ⟨p, vs, rfl, hq, _⟩ := h.tup.tup
  exact tup_ty (SameT fh hq)
theorem ev_isi {m : Option α} {T T' : String} (b : Bool) (hT : HasTy K S T) (hk : kitB T T' = some b) (h : Ev K F0 H0 te Γ .v S m) :
    Ev K F0 H0 (tCB (rIsi K) (tCons te (tCons (tC (.ty T')) tNil))) Γ .r rB (m.bind fun _ => some b) := by
  intro σ F H s a ea Q q
  cases m with
  | none => cases ea
  | some o =>
    cases ea
    refine h σ F H s o rfl _ fun v F' H' s' r => ?_
    exact ⟨v, .ty T', _, _, b, rfl, .ty T', hT F' H' v o s'.fh r, kit_ty hk, q _ F' H' s' (rep_bool.mpr rfl)⟩

/-! ### the list is given up behind an append of anything -/
theorem owns_del {F H : Hp} {p : Addr} {xs : List α} : ∀ {σ : List (Option V)} {Γ : List Sl} {i : Nat}, (owns σ Γ).Nodup → gt Γ i = .o S xs → σ[i]? = some (some (.ref p)) → p ∉ owns σ (st Γ i .j) ∧ (owns σ (st Γ i .j)).Sublist (owns σ Γ)
  | [], _, _, _, _, e => by simp at e
  | _ :: _, [], _, _, e, _ => nomatch e
  | s :: σ, g :: Γ, 0, nd, e1, e2 => by
    have z1 : s = some (.ref p) := by simpa using e2
    have z2 : g = .o S xs := e1
    subst z1 z2
    have nn := List.nodup_append.mp nd
    have e : own (some (.ref p)) .j = [] := rfl
    simp only [st, owns, e, List.nil_append]
    exact ⟨fun z => nn.2.2 p (by simp [own]) p z rfl, List.sublist_append_right _ _⟩
  | s :: σ, g :: Γ, i + 1, nd, e1, e2 => by
    have nn := List.nodup_append.mp nd
    have e2 : σ[i]? = some (some (.ref p)) := by simpa using e2
    obtain ⟨a, b⟩ := owns_del (F := F) (H := H) (σ := σ) (Γ := Γ) (i := i) nn.2.1 e1 e2
    simp only [st, owns, List.mem_append, not_or]
    refine ⟨⟨fun z => nn.2.2 p z p (mem_owns e1 e2) rfl, a⟩, List.Sublist.append (List.Sublist.refl _) b⟩
theorem SlAll.junk {F H : Hp} : ∀ {σ : List (Option V)} {Γ : List Sl} (i : Nat), SlAll K H0 F H σ Γ → SlAll K H0 F H σ (st Γ i .j)
  | [], [], _, _ => trivial
  | [], _ :: _, _, h => h.elim
  | _ :: _, [], _, h => h.elim
  | _ :: _, _ :: _, 0, h => ⟨trivial, h.2⟩
  | _ :: σ, _ :: Γ, i + 1, h => ⟨h.1, SlAll.junk i h.2⟩
theorem bd_appendX {i : Nat} {xs : List α} {m : Option γ} {kk : Option (Fl ρ β)} (h1 : gt Γ i = .o S xs) (h : Ev K F0 H0 te Γ .r T m) (hk : Bd K F0 H0 u (st Γ i .j) k R out kk) :
    Bd K F0 H0 (tSeq (tDrop (tBM K "list" rAppend (tVar i) (tCons te tNil))) u) Γ k R out (m.bind fun _ => if xs.length < 16777216 then kk else none) := by
  intro σ F H s r e D q1 q2
  cases m with
  | none => cases e
  | some x =>
    have e : (if xs.length < 16777216 then kk else none) = some r := e
    split at e
    · rename_i hl
      obtain ⟨z, hz, h2⟩ := s.sl.get (i := i) (by rw [h1]; exact fun z => nomatch z)
      rw [h1] at h2
      obtain ⟨p, vs, rfl, h0, hF, hH, hd, ho, hl'⟩ := h2
      refine ⟨.ref p, hz, .inl ⟨rfl, vs, .inl (.inl hH)⟩, ?_⟩
      refine h σ F H s x rfl _ fun v F1 H1 s1 o1 => ?_
      have sm := s.mono s1
      refine ⟨p, vs, v, rfl, rfl, s1.hh _ _ hH, by rw [dvlen hd, sizeLine_eq]; exact hl, ?_⟩
      obtain ⟨a, b⟩ := owns_del (F := F1) (H := H1) sm.nd h1 hz
      have sj : SR K F0 H0 F1 H1 σ (st Γ i .j) := ⟨sm.st, SlAll.junk i sm.sl, sm.nd.sublist b⟩
      exact hk _ F1 _ (sj.writeN h0 (s1.ow _ _ hH hF trivial) a) r e D q1 fun b eb σ2 F2 H2 sm => q2 b eb σ2 F2 H2 (s1.ff.trans sm)
    · cases e

/-! ### several targets at once -/
theorem bd_parFF {i j : Nat} {m : Option α} {n : Option γ} {kk : α → γ → Option (Fl ρ β)} (ha : Ev K F0 H0 ta Γ .r S m) (hb : Ev K F0 H0 tb Γ .r T n) (hk : ∀ x y, Bd K F0 H0 u (st (st Γ i (.f S x)) j (.f T y)) k R out (kk x y)) :
    Bd K F0 H0 (tSeq (tPar i j (tCons ta (tCons tb tNil))) u) Γ k R out (m.bind fun x => n.bind fun y => kk x y) := by
  intro σ F H s r e D q1 q2
  cases m with
  | none => cases e
  | some a =>
    cases n with
    | none => cases e
    | some b =>
      refine ha σ F H s a rfl _ fun v F1 H1 s1 o1 => ?_
      refine hb σ F1 H1 (s.mono s1) b rfl _ fun w F2 H2 s2 o2 => ?_
      refine ⟨v, w, rfl, ?_⟩
      exact hk a b _ F2 H2 ((((s.mono s1).mono s2).putF i (o1.mono s2.ff)).putF j o2) r e D q1 fun b eb σ' F' H' sm => q2 b eb σ' F' H' ((s1.ff.trans s2.ff).trans sm)
theorem bd_parFO {i j : Nat} {m : Option α} {n : Option (List γ)} {kk : α → List γ → Option (Fl ρ β)} (ha : Ev K F0 H0 ta Γ .r S m) (hb : Ev K F0 H0 tb Γ .n (rL T) n) (hk : ∀ x y, Bd K F0 H0 u (st (st Γ i (.f S x)) j (.o T y)) k R out (kk x y)) :
    Bd K F0 H0 (tSeq (tPar i j (tCons ta (tCons tb tNil))) u) Γ k R out (m.bind fun x => n.bind fun y => kk x y) := by
  intro σ F H s r e D q1 q2
  cases m with
  | none => cases e
  | some a =>
    cases n with
    | none => cases e
    | some b =>
      refine ha σ F H s a rfl _ fun v F1 H1 s1 o1 => ?_
      refine hb σ F1 H1 (s.mono s1) b rfl _ fun w F2 H2 s2 o2 => ?_
      refine ⟨v, w, rfl, ?_⟩
      obtain ⟨p, vs, ds, rfl, nH, nF, hH, hd, ha, ho⟩ := o2
      injection hd with hd
      subst hd
      have ho := okL.mp ho
      have sr := ((s.mono s1).mono s2).putF i (o1.mono s2.ff)
      have n0 : H0 p = none := (s.mono s1).st.hh.free nH
      refine hk a b _ F2 H2 (sr.putO j n0 nF hH ha (fun x hx => ho.1 _ (List.mem_map_of_mem hx)) (by simpa using ho.2) fun z => ?_) r e D q1 fun b eb σ' F' H' sm => q2 b eb σ' F' H' ((s1.ff.trans s2.ff).trans sm)
      have s1' := (s.mono s1).putF i o1
      obtain ⟨_, _, ws, hw⟩ := owns_in s1'.sl z
      rw [nH] at hw; cases hw
theorem bd_parOF {i j : Nat} {m : Option (List α)} {n : Option γ} {kk : List α → γ → Option (Fl ρ β)} (ha : Ev K F0 H0 ta Γ .n (rL S) m) (hb : Ev K F0 H0 tb Γ .r T n) (hk : ∀ x y, Bd K F0 H0 u (st (st Γ i (.o S x)) j (.f T y)) k R out (kk x y)) :
    Bd K F0 H0 (tSeq (tPar i j (tCons ta (tCons tb tNil))) u) Γ k R out (m.bind fun x => n.bind fun y => kk x y) := by
  intro σ F H s r e D q1 q2
  cases m with
  | none => cases e
  | some a =>
    cases n with
    | none => cases e
    | some b =>
      refine ha σ F H s a rfl _ fun v F1 H1 s1 o1 => ?_
      refine hb σ F1 H1 (s.mono s1) b rfl _ fun w F2 H2 s2 o2 => ?_
      refine ⟨v, w, rfl, ?_⟩
      obtain ⟨p, vs, ds, rfl, nH, nF, hH, hd, ha, ho⟩ := o1
      injection hd with hd
      subst hd
      have ho := okL.mp ho
      have n0 : H0 p = none := s.st.hh.free nH
      have sr := ((s.mono s1).mono s2).putO i n0 (s2.ow _ _ hH nF trivial) (s2.hh _ _ hH) (DqAll.mono s2.ff _ _ ha) (fun x hx => ho.1 _ (List.mem_map_of_mem hx)) (by simpa using ho.2) (fun z => by
        obtain ⟨_, _, ws, hw⟩ := owns_in s.sl z
        rw [nH] at hw; cases hw)
      exact hk a b _ F2 H2 (sr.putF j o2) r e D q1 fun b eb σ' F' H' sm => q2 b eb σ' F' H' ((s1.ff.trans s2.ff).trans sm)
end
end Y

/-! what loops walk: zip of two and three, enumerate, over lists, tuples, texts -/
namespace Y
open PySem PySem.Spec PyProof.Rows L2

inductive Src where
  | l (a : Addr) (xs : List V)
  | t (a : Addr) (xs : List V)
  | s (x : Str)
def Src.v : Src → V
  | .l a _ => .ref a
  | .t a _ => .ref a
  | .s x => .str x
def Src.ok (K : PySem.W.Frag) (H : Hp) : Src → Prop
  | .l a xs => SqL K H a xs
  | .t a xs => SqT K H a xs
  | .s _ => True
def Src.its : Src → List V
  | .l _ xs => xs
  | .t _ xs => xs
  | .s x => x.cps.toList.map fun c => .str ⟨#[c]⟩
def Src.fp : Src → List Addr
  | .l a _ => [a]
  | .t a _ => [a]
  | .s _ => []
def Src.ist (S : Src) (it : Addr) (tk : Tok) (i : Nat) (h : Heap) : Prop :=
  match S with
  | .l a _ => h.IsListIter it a i
  | .t a _ => h.IsTupleIter it a i
  | .s x => h.IsStrIter it (strIterType x) x tk i
theorem back_at {xs : List V} {us : List Value} (rv : Vals xs us) {i : Nat} {u : Value} (h : us.toArray[i]? = some u) : ∃ x, xs[i]? = some x ∧ RelV x u := by
  have h' : us[i]? = some u := by simpa using h
  have hi := (List.getElem?_eq_some_iff.mp h').1
  rw [← rv.length] at hi
  obtain ⟨u', hu, ru⟩ := rv.get (List.getElem?_eq_getElem hi)
  rw [h'] at hu
  cases hu
  exact ⟨_, List.getElem?_eq_getElem hi, ru⟩
section
variable {X : Cx} {pins : List (Addr × Obj)} {σ : L2.St} {H : Hp} {s : Shared} {S : Src}
theorem Src.draws (I : Inv X pins σ H s) (ok : S.ok X.K H) {it : Addr} (hne : ∀ a ∈ S.fp, a ≠ it) (tk : Tok) : ∃ (P : Nat → Value → Prop) (St : Nat → Heap → Prop),
    (∀ A : Around, A.handled = none → Draws X.prog X.w A it (it :: S.fp) S.its.length P St) ∧ (∀ i, S.ist it tk i s.heap → St i s.heap) ∧ (∀ i h, St i h → S.ist it tk i h) ∧ ∀ i u, P i u → ∃ x, S.its[i]? = some x ∧ RelV x u := by
  cases S with
  | l a xs =>
    obtain ⟨its, rv, p, hz⟩ := I.list ok
    refine ⟨fun i v => its.toArray[i]? = some v, fun i h => h.IsListIter it a i ∧ h.IsList a its.toArray, fun A hh => ?_, fun i h => ⟨h, p.isList⟩, fun i h st => st.1, fun i u hu => back_at rv hu⟩
    have := Draws.list (prog := X.prog) (w := X.w) hh it a (hne a (by simp [Src.fp])) its.toArray
    have e : its.toArray.size = xs.length := by rw [List.size_toArray, rv.length]
    rw [e] at this
    exact this
  | t a xs =>
    obtain ⟨its, rv, p, hz⟩ := I.tuple ok
    refine ⟨fun i v => its.toArray[i]? = some v, fun i h => h.IsTupleIter it a i ∧ h.IsTuple a its.toArray, fun A hh => ?_, fun i h => ⟨h, p⟩, fun i h st => st.1, fun i u hu => back_at rv hu⟩
    have := Draws.tuple (prog := X.prog) (w := X.w) hh it a (hne a (by simp [Src.fp])) its.toArray
    have e : its.toArray.size = xs.length := by rw [List.size_toArray, rv.length]
    rw [e] at this
    exact this
  | s x =>
    refine ⟨fun i v => ∃ c u, x.cps[i]? = some c ∧ v = .str ⟨#[c]⟩ u, fun i h => h.IsStrIter it (strIterType x) x tk i, fun A hh => ?_, fun i h => h, fun i h st => st, fun i u hu => ?_⟩
    · have := Draws.text (prog := X.prog) (w := X.w) hh it x tk
      have e : x.cps.size = (Src.s x).its.length := by simp [Src.its]
      rw [e] at this
      exact this
    · obtain ⟨c, u', hc, rfl⟩ := hu
      exact ⟨.str ⟨#[c]⟩, by simp [Src.its, hc], ⟨_, rfl⟩⟩
theorem Src.begins (I : Inv X pins σ H s) (ok : S.ok X.K H) {u : Value} (r : RelV S.v u) : ∃ (o : Obj) (HP : Heap → Prop) (tk : Tok), Begins u o HP ∧ HP s.heap ∧ (∀ it h, h.get? it = some o → S.ist it tk 0 h) ∧ ∀ a ∈ S.fp, a < s.heap.objs.size := by
  cases S with
  | l a xs =>
    obtain ⟨its, rv, p, hz⟩ := I.list ok
    cases r
    exact ⟨_, _, 0, begins_list a its.toArray, p.isList, fun it h e => ⟨_, e, rfl, rfl⟩, fun b hb => by rw [List.mem_singleton.mp hb]; obtain ⟨o, e, _⟩ := p.isList; exact Heap.lt_size e⟩
  | t a xs =>
    obtain ⟨its, rv, p, hz⟩ := I.tuple ok
    cases r
    exact ⟨_, _, 0, begins_tuple a its.toArray, p, fun it h e => ⟨_, e, rfl, rfl⟩, fun b hb => by rw [List.mem_singleton.mp hb]; obtain ⟨o, e, _⟩ := p; exact Heap.lt_size e⟩
  | s x =>
    obtain ⟨t, rfl⟩ := r
    exact ⟨_, _, t, begins_text x t, trivial, fun it h e => ⟨_, e, rfl, rfl⟩, fun b hb => nomatch hb⟩
end
theorem Src.ist.obj {S : Src} {it : Addr} {tk : Tok} {i : Nat} {h : Heap} (w : S.ist it tk i h) : ∃ o, h.get? it = some o ∧ ∀ v, o.data ≠ .cell v := by
  cases S with
  | l a xs => obtain ⟨o, e, _, d⟩ := w; exact ⟨o, e, fun v q => by rw [d] at q; cases q⟩
  | t a xs => obtain ⟨o, e, _, d⟩ := w; exact ⟨o, e, fun v q => by rw [d] at q; cases q⟩
  | s x => obtain ⟨o, e, _, d⟩ := w; exact ⟨o, e, fun v q => by rw [d] at q; cases q⟩
theorem Src.ist.at {S : Src} {it : Addr} {tk : Tok} {i : Nat} {h h' : Heap} (w : S.ist it tk i h) (k : ∀ o, h.get? it = some o → h'.get? it = some o) : S.ist it tk i h' := by
  cases S with
  | l a xs => obtain ⟨o, e, r⟩ := w; exact ⟨o, k _ e, r⟩
  | t a xs => obtain ⟨o, e, r⟩ := w; exact ⟨o, k _ e, r⟩
  | s x => obtain ⟨o, e, r⟩ := w; exact ⟨o, k _ e, r⟩
theorem vals2' {x y : V} {us : List Value} (r : Vals [x, y] us) : ∃ u v, us = [u, v] ∧ RelV x u ∧ RelV y v := by
  cases r with
  | cons a r => cases r with
    | cons b r => cases r; exact ⟨_, _, rfl, a, b⟩
theorem vals3' {x y z : V} {us : List Value} (r : Vals [x, y, z] us) : ∃ u v t, us = [u, v, t] ∧ RelV x u ∧ RelV y v ∧ RelV z t := by
  cases r with
  | cons a r => cases r with
    | cons b r => cases r with
      | cons c r => cases r; exact ⟨_, _, _, rfl, a, b, c⟩
def Itz2 (K : PySem.W.Frag) (S1 S2 : Src) : It :=
  ⟨fun i H => (S1.ok K H ∧ S2.ok K H) ∧ i < min S1.its.length S2.its.length,
    fun i H v H' => ∃ T x1 x2, v = .ref T ∧ H T = none ∧ H' = upd H T (.tup [x1, x2]) ∧ S1.its[i]? = some x1 ∧ S2.its[i]? = some x2,
    fun i H => (S1.ok K H ∧ S2.ok K H) ∧ i = min S1.its.length S2.its.length⟩
def zst2 (z TI TO i1 i2 : Addr) (t1 t2 : Tok) (S1 S2 : Src) (i : Nat) (h : Heap) : Prop :=
  IsZip h z TI TO .none ∧ IsTupOf2 h TI (.ref i1) (.ref i2) ∧ (∃ a1 a2, IsTupOf2 h TO a1 a2) ∧ S1.ist i1 t1 i h ∧ S2.ist i2 t2 i h
theorem turn_zip2 {P : Program} {w : World} {K : PySem.W.Frag} {elts : List Expr} {kk : Nat} {tpos : Pos} {S1 S2 : Src} {z TI TO i1 i2 : Addr} {t1 t2 : Tok} (D : ZipSep2 z TI TO i1 i2 (i1 :: S1.fp) (i2 :: S2.fp))(N1 : ∀ a ∈ S1.fp, a ≠ i1) (N2 : ∀ a ∈ S2.fp, a ≠ i2) :
    Turn P w K (.Tuple elts kk tpos) (Itz2 K S1 S2) [z, TI, TO, i1, i2] z (zst2 z TI TO i1 i2 t1 t2 S1 S2) where
  mem := by simp
  obj := fun i h st c hc => by
    obtain ⟨hz, hTI, ⟨a1, a2, hTO⟩, w1, w2⟩ := st
    have e' : c = z ∨ c = TI ∨ c = TO ∨ c = i1 ∨ c = i2 := by simpa using hc
    rcases e' with q | q | q | q | q
    · rw [q]; exact ⟨_, hz, fun v q => nomatch q⟩
    · rw [q]; exact ⟨_, hTI, fun v q => nomatch q⟩
    · rw [q]; exact ⟨_, hTO, fun v q => nomatch q⟩
    · rw [q]; exact w1.obj
    · rw [q]; exact w2.obj
  keep := fun i h h' st k => by
    obtain ⟨hz, hTI, ⟨a1, a2, hTO⟩, w1, w2⟩ := st
    exact ⟨k z (by simp) _ hz, k TI (by simp) _ hTI, ⟨a1, a2, k TO (by simp) _ hTO⟩, w1.at fun o q => k i1 (by simp) o q, w2.at fun o q => k i2 (by simp) o q⟩
  item := by
    intro X hP hw hK hc i pins s σ H E I hf st hg
    subst hP hw hK
    obtain ⟨hz, hTI, ⟨a1, a2, hTO⟩, w1, w2⟩ := st
    obtain ⟨⟨o1, o2⟩, hi⟩ := hg
    obtain ⟨P1, St1, D1, b1, c1, p1⟩ := Src.draws I o1 (it := i1) N1 t1
    obtain ⟨P2, St2, D2, b2, c2, p2⟩ := Src.draws I o2 (it := i2) N2 t2
    have hh : X.A.in1.handled = none := I.ok.hd hc
    have hzl : z < s.heap.objs.size := Heap.lt_size hz
    refine wpAny_pyNext_zipD2_item D (D1 _ hh) (D2 _ hh) hz hTI hTO (b1 i w1) (b2 i w2) (by omega) (by omega) fun u1 u2 h' tk q1 q2 z' TO' n1 n2 hT hsz hk => ?_
    refine ⟨_, rfl, wpAny_letOwnedTupleGo_zip (s := { s with heap := h', toks := tk }) z' fun h'' z'' sb => ?_⟩
    obtain ⟨x1, hx1, r1⟩ := p1 i u1 q1
    obtain ⟨x2, hx2, r2⟩ := p2 i u2 q2
    have hT2 : h''.get? s.heap.objs.size = some { cls := .type "tuple", data := .seq #[u1, u2] } := (sb.2 _ (Nat.ne_of_gt hzl)).trans hT
    have new : ObjOk X.prog X.w (upd H s.heap.objs.size (.tup [x1, x2])) h'' s.heap.objs.size (.tup [x1, x2]) :=
      ⟨by show 2 ≤ sizeLine; decide, [u1, u2], (.cons r1 (.cons r2 .nil)), ⟨_, hT2, rfl, _, rfl⟩⟩
    have I1 : Inv X pins σ (upd H s.heap.objs.size (.tup [x1, x2])) { s with heap := h'', toks := tk } :=
      I.turnedNew (t' := tk) (ch := [z, TI, TO, i1, i2]) (fun c o hb q => (sb.2 c (fun q' => hb (by simp [q']))).trans (hk c o (fun q' => hb (by simp [q'])) (fun q' => hb (by simp [q'])) (fun q' => hb (by simp [q'])) (fun q' => hb (by simp [q'])) q)) hf (Nat.le_refl _) new
    refine ⟨.ref s.heap.objs.size, _, I1, rfl, ⟨_, x1, x2, rfl, I.hok.fresh (Nat.le_refl _), rfl, hx1, hx2⟩, ⟨z'', ?_, ⟨u1, u2, ?_⟩, ?_, ?_⟩, fun c hcm => ?_⟩
    · exact (sb.2 _ D.TIz).trans (hk _ _ D.TIz D.TITO D.TIi1 D.TIi2 hTI)
    · exact (sb.2 _ D.TOz).trans TO'
    · exact (c1 _ _ n1).at fun o q => (sb.2 _ (Ne.symm D.zi1)).trans q
    · exact (c2 _ _ n2).at fun o q => (sb.2 _ (Ne.symm D.zi2)).trans q
    · have hlt : c < s.heap.objs.size := by
        have e' : c = z ∨ c = TI ∨ c = TO ∨ c = i1 ∨ c = i2 := by simpa using hcm
        rcases e' with q | q | q | q | q
        · rw [q]; exact hzl
        · rw [q]; exact Heap.lt_size hTI
        · rw [q]; exact Heap.lt_size hTO
        · rw [q]; obtain ⟨_, e1, _⟩ := w1.obj; exact Heap.lt_size e1
        · rw [q]; obtain ⟨_, e1, _⟩ := w2.obj; exact Heap.lt_size e1
      rw [upd_ne (Nat.ne_of_lt hlt)]
      exact (hf c hcm).1
  done := by
    intro X hP hw hK hc i pins s σ H E I hf st hg
    subst hP hw hK
    obtain ⟨hz, hTI, ⟨a1, a2, hTO⟩, w1, w2⟩ := st
    obtain ⟨⟨o1, o2⟩, hi⟩ := hg
    obtain ⟨P1, St1, D1, b1, c1, p1⟩ := Src.draws I o1 (it := i1) N1 t1
    obtain ⟨P2, St2, D2, b2, c2, p2⟩ := Src.draws I o2 (it := i2) N2 t2
    have hh : X.A.in1.handled = none := I.ok.hd hc
    exact wpAny_pyNext_zipD2_end D (D1 _ hh) (D2 _ hh) hz hTI hTO (b1 i w1) (b2 i w2) (by omega) (by omega) (by omega) fun h' tk hk => ⟨rfl, I.turnedL (t' := tk) (ch := [z, TI, TO, i1, i2]) (fun c o hb q =>
      hk c o (fun q' => hb (by simp [q'])) (fun q' => hb (by simp [q'])) (fun q' => hb (by simp [q'])) (fun q' => hb (by simp [q'])) q) hf⟩
  self := fun A i s Q E st h => wpAny_pyIter_zip st.1 h
def iZip2 (K : PySem.W.Frag) (ta : TA) : TI := fun σ H R => ta σ H fun vs H1 => ∃ S1 S2, vs = [Src.v S1, Src.v S2] ∧ (S1.ok K H1 ∧ S2.ok K H1) ∧ R (Itz2 K S1 S2) H1
theorem pi_zip2S {X : Cx} {e e2 : Expr} {ta : TA} {p pos tpos : Pos} {elts : List Expr} {kk : Nat} (hg : Gl X "zip") (hm : X.mg "zip" = none) (ha : PA X [e, e2] ta)
    (hs : starEach [e, e2] X.env = (false, eval e X.env) :: starEach [e2] X.env := by rfl) (hpl : (backTo pos (starEach [e2] X.env)).any (·.1) = false := by rfl) :
    PI X (.Tuple elts kk tpos) (.Call (.Name "zip" p) [e, e2] [] pos) (iZip2 X.K ta) := by
  refine ⟨fun pins s σ H R I h => ?_⟩
  refine Call_ (ld_blt I hg hm PyProof.Rows.boot_zip (PyProof.Rows.callWith_type1 (thn (ha.run pos pins s σ H _ I h) fun us s1 ⟨vs, H1, I1, r1, q1⟩ => ?_) hs hpl))
  obtain ⟨S1, S2, ex, ⟨o1, o2⟩, q⟩ := q1
  subst ex
  obtain ⟨u1, u2, rfl, r1, r2⟩ := vals2' r1
  obtain ⟨ob1, HP1, t1, B1, y1, st1, fp1⟩ := Src.begins I1 o1 r1
  obtain ⟨ob2, HP2, t2, B2, y2, st2, fp2⟩ := Src.begins I1 o2 r2
  refine zip_begins2 B1 B2 y1 y2 fun h' hz hTI hTO g1 g2 hsz hk => wpAny_pyIter_zip hz ?_
  have I2 : Inv X pins σ H1 { s1 with heap := h' } := I1.kept (t' := s1.toks) hk
  refine ⟨s1.heap.objs.size + 4, [s1.heap.objs.size + 4, s1.heap.objs.size + 2, s1.heap.objs.size + 3, s1.heap.objs.size, s1.heap.objs.size + 1], _, _, H1, rfl, I2, turn_zip2 (t1 := t1) (t2 := t2) (zip_sep2 fp1 fp2) (fun a ha => Nat.ne_of_lt (fp1 a ha)) (fun a ha => Nat.ne_of_lt (Nat.lt_of_lt_of_le (fp2 a ha) (Nat.le_add_right _ _))), ⟨hz, hTI, ⟨_, _, hTO⟩, st1 _ _ g1, st2 _ _ g2⟩, fun c hcm => ?_, q⟩
  have e' : c = s1.heap.objs.size + 4 ∨ c = s1.heap.objs.size + 2 ∨ c = s1.heap.objs.size + 3 ∨ c = s1.heap.objs.size ∨ c = s1.heap.objs.size + 1 := by simpa using hcm
  have hle : s1.heap.objs.size ≤ c := by
    rcases e' with z | z | z | z | z
    · rw [z]; exact Nat.le_add_right _ _
    · rw [z]; exact Nat.le_add_right _ _
    · rw [z]; exact Nat.le_add_right _ _
    · rw [z]; exact Nat.le_refl _
    · rw [z]; exact Nat.le_add_right _ _
  exact I1.fpOk hle (I1.hok.fresh hle)
def Itz3 (K : PySem.W.Frag) (S1 S2 S3 : Src) : It :=
  ⟨fun i H => (S1.ok K H ∧ S2.ok K H ∧ S3.ok K H) ∧ i < min (min S1.its.length S2.its.length) S3.its.length,
    fun i H v H' => ∃ T x1 x2 x3, v = .ref T ∧ H T = none ∧ H' = upd H T (.tup [x1, x2, x3]) ∧ S1.its[i]? = some x1 ∧ S2.its[i]? = some x2 ∧ S3.its[i]? = some x3,
    fun i H => (S1.ok K H ∧ S2.ok K H ∧ S3.ok K H) ∧ i = min (min S1.its.length S2.its.length) S3.its.length⟩
def zst3 (z TI TO i1 i2 i3 : Addr) (t1 t2 t3 : Tok) (S1 S2 S3 : Src) (i : Nat) (h : Heap) : Prop :=
  IsZip h z TI TO .none ∧ IsTupOf3 h TI (.ref i1) (.ref i2) (.ref i3) ∧ (∃ a1 a2 a3, IsTupOf3 h TO a1 a2 a3) ∧ S1.ist i1 t1 i h ∧ S2.ist i2 t2 i h ∧ S3.ist i3 t3 i h
theorem turn_zip3 {P : Program} {w : World} {K : PySem.W.Frag} {elts : List Expr} {kk : Nat} {tpos : Pos} {S1 S2 S3 : Src} {z TI TO i1 i2 i3 : Addr} {t1 t2 t3 : Tok} (D : ZipSep3 z TI TO i1 i2 i3 (i1 :: S1.fp) (i2 :: S2.fp) (i3 :: S3.fp))(N1 : ∀ a ∈ S1.fp, a ≠ i1) (N2 : ∀ a ∈ S2.fp, a ≠ i2) (N3 : ∀ a ∈ S3.fp, a ≠ i3) :
    Turn P w K (.Tuple elts kk tpos) (Itz3 K S1 S2 S3) [z, TI, TO, i1, i2, i3] z (zst3 z TI TO i1 i2 i3 t1 t2 t3 S1 S2 S3) where
  mem := by simp
  obj := fun i h st c hc => by
    obtain ⟨hz, hTI, ⟨a1, a2, a3, hTO⟩, w1, w2, w3⟩ := st
    have e' : c = z ∨ c = TI ∨ c = TO ∨ c = i1 ∨ c = i2 ∨ c = i3 := by simpa using hc
    rcases e' with q | q | q | q | q | q
    · rw [q]; exact ⟨_, hz, fun v q => nomatch q⟩
    · rw [q]; exact ⟨_, hTI, fun v q => nomatch q⟩
    · rw [q]; exact ⟨_, hTO, fun v q => nomatch q⟩
    · rw [q]; exact w1.obj
    · rw [q]; exact w2.obj
    · rw [q]; exact w3.obj
  keep := fun i h h' st k => by
    obtain ⟨hz, hTI, ⟨a1, a2, a3, hTO⟩, w1, w2, w3⟩ := st
    exact ⟨k z (by simp) _ hz, k TI (by simp) _ hTI, ⟨a1, a2, a3, k TO (by simp) _ hTO⟩, w1.at fun o q => k i1 (by simp) o q, w2.at fun o q => k i2 (by simp) o q, w3.at fun o q => k i3 (by simp) o q⟩
  item := by
    intro X hP hw hK hc i pins s σ H E I hf st hg
    subst hP hw hK
    obtain ⟨hz, hTI, ⟨a1, a2, a3, hTO⟩, w1, w2, w3⟩ := st
    obtain ⟨⟨o1, o2, o3⟩, hi⟩ := hg
    obtain ⟨P1, St1, D1, b1, c1, p1⟩ := Src.draws I o1 (it := i1) N1 t1
    obtain ⟨P2, St2, D2, b2, c2, p2⟩ := Src.draws I o2 (it := i2) N2 t2
    obtain ⟨P3, St3, D3, b3, c3, p3⟩ := Src.draws I o3 (it := i3) N3 t3
    have hh : X.A.in1.handled = none := I.ok.hd hc
    have hzl : z < s.heap.objs.size := Heap.lt_size hz
    refine wpAny_pyNext_zipD3_item D (D1 _ hh) (D2 _ hh) (D3 _ hh) hz hTI hTO (b1 i w1) (b2 i w2) (b3 i w3) (by omega) (by omega) (by omega) fun u1 u2 u3 h' tk q1 q2 q3 z' TO' n1 n2 n3 hT hsz hk => ?_
    refine ⟨_, rfl, wpAny_letOwnedTupleGo_zip (s := { s with heap := h', toks := tk }) z' fun h'' z'' sb => ?_⟩
    obtain ⟨x1, hx1, r1⟩ := p1 i u1 q1
    obtain ⟨x2, hx2, r2⟩ := p2 i u2 q2
    obtain ⟨x3, hx3, r3⟩ := p3 i u3 q3
    have hT2 : h''.get? s.heap.objs.size = some { cls := .type "tuple", data := .seq #[u1, u2, u3] } := (sb.2 _ (Nat.ne_of_gt hzl)).trans hT
    have new : ObjOk X.prog X.w (upd H s.heap.objs.size (.tup [x1, x2, x3])) h'' s.heap.objs.size (.tup [x1, x2, x3]) :=
      ⟨by show 3 ≤ sizeLine; decide, [u1, u2, u3], (.cons r1 (.cons r2 (.cons r3 .nil))), ⟨_, hT2, rfl, _, rfl⟩⟩
    have I1 : Inv X pins σ (upd H s.heap.objs.size (.tup [x1, x2, x3])) { s with heap := h'', toks := tk } :=
      I.turnedNew (t' := tk) (ch := [z, TI, TO, i1, i2, i3]) (fun c o hb q => (sb.2 c (fun q' => hb (by simp [q']))).trans (hk c o (fun q' => hb (by simp [q'])) (fun q' => hb (by simp [q'])) (fun q' => hb (by simp [q'])) (fun q' => hb (by simp [q'])) (fun q' => hb (by simp [q'])) q)) hf (Nat.le_refl _) new
    refine ⟨.ref s.heap.objs.size, _, I1, rfl, ⟨_, x1, x2, x3, rfl, I.hok.fresh (Nat.le_refl _), rfl, hx1, hx2, hx3⟩, ⟨z'', ?_, ⟨u1, u2, u3, ?_⟩, ?_, ?_, ?_⟩, fun c hcm => ?_⟩
    · exact (sb.2 _ D.TIz).trans (hk _ _ D.TIz D.TITO D.TIi1 D.TIi2 D.TIi3 hTI)
    · exact (sb.2 _ D.TOz).trans TO'
    · exact (c1 _ _ n1).at fun o q => (sb.2 _ (Ne.symm D.zi1)).trans q
    · exact (c2 _ _ n2).at fun o q => (sb.2 _ (Ne.symm D.zi2)).trans q
    · exact (c3 _ _ n3).at fun o q => (sb.2 _ (Ne.symm D.zi3)).trans q
    · have hlt : c < s.heap.objs.size := by
        have e' : c = z ∨ c = TI ∨ c = TO ∨ c = i1 ∨ c = i2 ∨ c = i3 := by simpa using hcm
        rcases e' with q | q | q | q | q | q
        · rw [q]; exact hzl
        · rw [q]; exact Heap.lt_size hTI
        · rw [q]; exact Heap.lt_size hTO
        · rw [q]; obtain ⟨_, e1, _⟩ := w1.obj; exact Heap.lt_size e1
        · rw [q]; obtain ⟨_, e1, _⟩ := w2.obj; exact Heap.lt_size e1
        · rw [q]; obtain ⟨_, e1, _⟩ := w3.obj; exact Heap.lt_size e1
      rw [upd_ne (Nat.ne_of_lt hlt)]
      exact (hf c hcm).1
  done := by
    intro X hP hw hK hc i pins s σ H E I hf st hg
    subst hP hw hK
    obtain ⟨hz, hTI, ⟨a1, a2, a3, hTO⟩, w1, w2, w3⟩ := st
    obtain ⟨⟨o1, o2, o3⟩, hi⟩ := hg
    obtain ⟨P1, St1, D1, b1, c1, p1⟩ := Src.draws I o1 (it := i1) N1 t1
    obtain ⟨P2, St2, D2, b2, c2, p2⟩ := Src.draws I o2 (it := i2) N2 t2
    obtain ⟨P3, St3, D3, b3, c3, p3⟩ := Src.draws I o3 (it := i3) N3 t3
    have hh : X.A.in1.handled = none := I.ok.hd hc
    exact wpAny_pyNext_zipD3_end D (D1 _ hh) (D2 _ hh) (D3 _ hh) hz hTI hTO (b1 i w1) (b2 i w2) (b3 i w3) (by omega) (by omega) (by omega) (by omega) fun h' tk hk => ⟨rfl, I.turnedL (t' := tk) (ch := [z, TI, TO, i1, i2, i3]) (fun c o hb q =>
      hk c o (fun q' => hb (by simp [q'])) (fun q' => hb (by simp [q'])) (fun q' => hb (by simp [q'])) (fun q' => hb (by simp [q'])) (fun q' => hb (by simp [q'])) q) hf⟩
  self := fun A i s Q E st h => wpAny_pyIter_zip st.1 h
def iZip3 (K : PySem.W.Frag) (ta : TA) : TI := fun σ H R => ta σ H fun vs H1 => ∃ S1 S2 S3, vs = [Src.v S1, Src.v S2, Src.v S3] ∧ (S1.ok K H1 ∧ S2.ok K H1 ∧ S3.ok K H1) ∧ R (Itz3 K S1 S2 S3) H1
theorem pi_zip3S {X : Cx} {e e2 e3 : Expr} {ta : TA} {p pos tpos : Pos} {elts : List Expr} {kk : Nat} (hg : Gl X "zip") (hm : X.mg "zip" = none) (ha : PA X [e, e2, e3] ta)
    (hs : starEach [e, e2, e3] X.env = (false, eval e X.env) :: starEach [e2, e3] X.env := by rfl) (hpl : (backTo pos (starEach [e2, e3] X.env)).any (·.1) = false := by rfl) :
    PI X (.Tuple elts kk tpos) (.Call (.Name "zip" p) [e, e2, e3] [] pos) (iZip3 X.K ta) := by
  refine ⟨fun pins s σ H R I h => ?_⟩
  refine Call_ (ld_blt I hg hm PyProof.Rows.boot_zip (PyProof.Rows.callWith_type1 (thn (ha.run pos pins s σ H _ I h) fun us s1 ⟨vs, H1, I1, r1, q1⟩ => ?_) hs hpl))
  obtain ⟨S1, S2, S3, ex, ⟨o1, o2, o3⟩, q⟩ := q1
  subst ex
  obtain ⟨u1, u2, u3, rfl, r1, r2, r3⟩ := vals3' r1
  obtain ⟨ob1, HP1, t1, B1, y1, st1, fp1⟩ := Src.begins I1 o1 r1
  obtain ⟨ob2, HP2, t2, B2, y2, st2, fp2⟩ := Src.begins I1 o2 r2
  obtain ⟨ob3, HP3, t3, B3, y3, st3, fp3⟩ := Src.begins I1 o3 r3
  refine zip_begins3 B1 B2 B3 y1 y2 y3 fun h' hz hTI hTO g1 g2 g3 hsz hk => wpAny_pyIter_zip hz ?_
  have I2 : Inv X pins σ H1 { s1 with heap := h' } := I1.kept (t' := s1.toks) hk
  refine ⟨s1.heap.objs.size + 5, [s1.heap.objs.size + 5, s1.heap.objs.size + 3, s1.heap.objs.size + 4, s1.heap.objs.size, s1.heap.objs.size + 1, s1.heap.objs.size + 2], _, _, H1, rfl, I2, turn_zip3 (t1 := t1) (t2 := t2) (t3 := t3) (zip_sep3 fp1 fp2 fp3) (fun a ha => Nat.ne_of_lt (fp1 a ha)) (fun a ha => Nat.ne_of_lt (Nat.lt_of_lt_of_le (fp2 a ha) (Nat.le_add_right _ _))) (fun a ha => Nat.ne_of_lt (Nat.lt_of_lt_of_le (fp3 a ha) (Nat.le_add_right _ _))), ⟨hz, hTI, ⟨_, _, _, hTO⟩, st1 _ _ g1, st2 _ _ g2, st3 _ _ g3⟩, fun c hcm => ?_, q⟩
  have e' : c = s1.heap.objs.size + 5 ∨ c = s1.heap.objs.size + 3 ∨ c = s1.heap.objs.size + 4 ∨ c = s1.heap.objs.size ∨ c = s1.heap.objs.size + 1 ∨ c = s1.heap.objs.size + 2 := by simpa using hcm
  have hle : s1.heap.objs.size ≤ c := by
    rcases e' with z | z | z | z | z | z
    · rw [z]; exact Nat.le_add_right _ _
    · rw [z]; exact Nat.le_add_right _ _
    · rw [z]; exact Nat.le_add_right _ _
    · rw [z]; exact Nat.le_refl _
    · rw [z]; exact Nat.le_add_right _ _
    · rw [z]; exact Nat.le_add_right _ _
  exact I1.fpOk hle (I1.hok.fresh hle)
/-! ### enumerate(list, tuple, text) -/
theorem meets_enum1 {v : Value} {o : Obj} {H : Heap → Prop} (B : Begins v o H) :
    Meets (Builtin.«enumerate.__new__» ⟨[.type "enumerate", v], []⟩) (fun _ R s => H s.heap ∧
      R (.ok (.ret (.ref (s.heap.push o).objs.size))) { s with heap := (s.heap.push o).push { cls := .type "enumerate", data := .fields #[.none, .bool false, .ref s.heap.objs.size, rawInt 0, .none, .none] } }) :=
  .of_wp fun prog w A R s h => by
    obtain ⟨hp, g, d, tk, os⟩ := s
    obtain ⟨h1, h⟩ := h
    have hsub := sub_enumerate
    have q1 : ∀ {A' : Around} {E : Value → Shared → Prop} {Q : Value → Shared → Prop}, Q (.ref hp.objs.size) ⟨hp.push o, g, d, tk, os⟩ → wpAny (model prog w) A' (pyIter v) Q E ⟨hp, g, d, tk, os⟩ :=
      fun q => B.iter prog w _ _ ⟨hp, g, d, tk, os⟩ _ h1 q
    wp_walk using q1
    refine wpAny_stack_any fun st => wpAny_pure ?_
    split
    · rename_i c _ _ _ _ _
      cases (c == Value.type "enumerate")
      · wp_walk using q1
        exact ⟨_, rfl, h⟩
      · wp_walk using q1
        exact ⟨_, rfl, h⟩
    · wp_walk using q1
      exact ⟨_, rfl, h⟩
section
variable {prog : Program} {w : World} {A : Around} {E : Value → Shared → Prop} {s : Shared}
theorem enum1_begins {v : Value} {o : Obj} {H : Heap → Prop} {Q : Value → Shared → Prop} (B : Begins v o H) (h1 : H s.heap)
    (h : ∀ h', IsEnum h' (s.heap.objs.size + 1) s.heap.objs.size 0 .none → h'.get? s.heap.objs.size = some o → h'.objs.size = s.heap.objs.size + 2 →
      (∀ b o, s.heap.get? b = some o → h'.get? b = some o) → Q (.ref (s.heap.objs.size + 1)) { s with heap := h' }) :
    wpAny (model prog w) A (call (.type "enumerate") [v]) Q E s := by
  refine callType_new F.called_enumerate (by decide) (F.typeCall_enumerate_1 _) (F.newCall_enumerate_1 _) (fun obj => F.args_object_init_2 obj _) F.entry_enumerate_new
    (meets_enum1 B) ⟨h1, ?_⟩
  have hz : (s.heap.push o).objs.size = s.heap.objs.size + 1 := Heap.size_push ..
  show _ ∧ _
  rw [hz]
  have he : IsEnum ((s.heap.push o).push { cls := .type "enumerate", data := .fields #[.none, .bool false, .ref s.heap.objs.size, rawInt 0, .none, .none] }) (s.heap.objs.size + 1) s.heap.objs.size 0 .none := by
    have := Heap.get?_push_size (s.heap.push o) (o := { cls := .type "enumerate", data := .fields #[.none, .bool false, .ref s.heap.objs.size, rawInt 0, .none, .none] }) rfl
    rw [hz] at this; exact this
  refine ⟨⟨_, he, rfl⟩, h _ he (Heap.get?_push_of_some _ (Heap.get?_push_size _ B.free)) (by rw [Heap.size_push, hz]) fun b o x => Heap.get?_push_of_some _ (Heap.get?_push_of_some _ x)⟩
end
def ItE (K : PySem.W.Frag) (S : Src) : It :=
  ⟨fun i H => S.ok K H ∧ i < S.its.length, fun i H v H' => ∃ T x, v = .ref T ∧ H T = none ∧ H' = upd H T (.tup [.int (i : Nat), x]) ∧ S.its[i]? = some x, fun i H => S.ok K H ∧ i = S.its.length⟩
theorem turn_enumS {P : Program} {w : World} {K : PySem.W.Frag} {elts : List Expr} {kk : Nat} {tpos : Pos} {S : Src} {e it : Addr} {tk : Tok} (hne : e ≠ it) (N1 : ∀ a ∈ S.fp, a ≠ it) (N2 : e ∉ it :: S.fp) :
    Turn P w K (.Tuple elts kk tpos) (ItE K S) [e, it] e (fun i h => (∃ old, IsEnum h e it (i : Int) old) ∧ S.ist it tk i h) where
  mem := by simp
  obj := fun i h st b hb => by
    obtain ⟨⟨old, he⟩, hw⟩ := st
    have e' : b = e ∨ b = it := by simpa using hb
    rcases e' with z | z
    · rw [z]; exact ⟨_, he, fun v q => nomatch q⟩
    · rw [z]; exact hw.obj
  keep := fun i h h' st k => let ⟨⟨old, he⟩, hw⟩ := st; ⟨⟨old, k e (by simp) _ he⟩, hw.at fun o q => k it (by simp) o q⟩
  item := by
    intro X hP hw hK hc i pins s σ H E I hf st hg
    subst hP hw hK
    obtain ⟨⟨old, he⟩, hw⟩ := st
    obtain ⟨ok, hi⟩ := hg
    obtain ⟨P1, St1, D1, b1, c1, p1⟩ := Src.draws I ok (it := it) N1 tk
    have hh : X.A.in1.handled = none := I.ok.hd hc
    have hel : e < s.heap.objs.size := Heap.lt_size he
    refine wpAny_pyNext_enum_itemC (D1 _ hh) he (b1 i hw) hi hne N2 fun u h' tk' hP ho hs' hT hsz hk => ?_
    obtain ⟨x, hx, rx⟩ := p1 i u hP
    refine ⟨_, rfl, wpAny_letOwnedTupleGo_enum (s := { s with heap := h', toks := tk' + 1 }) ho fun h'' he' sb => ?_⟩
    have hT2 : h''.get? s.heap.objs.size = some { cls := .type "tuple", data := .seq #[.int i tk', u] } := (sb.2 _ (Nat.ne_of_gt hel)).trans hT
    have new : ObjOk X.prog X.w (upd H s.heap.objs.size (.tup [.int (i : Nat), x])) h'' s.heap.objs.size (.tup [.int (i : Nat), x]) :=
      ⟨by show 2 ≤ sizeLine; decide, [.int i tk', u], .cons ⟨_, rfl⟩ (.cons rx .nil), ⟨_, hT2, rfl, _, rfl⟩⟩
    have I1 : Inv X pins σ (upd H s.heap.objs.size (.tup [.int (i : Nat), x])) { s with heap := h'', toks := tk' + 1 } :=
      I.turnedNew (t' := tk' + 1) (ch := [e, it]) (fun b ob hb q => (sb.2 b (fun z => hb (by simp [z]))).trans (hk b ob (fun z => hb (by simp [z])) (fun z => hb (by simp [z])) q)) hf (Nat.le_refl _) new
    refine ⟨.ref s.heap.objs.size, _, I1, rfl, ⟨_, x, rfl, I.hok.fresh (Nat.le_refl _), rfl, hx⟩, ⟨⟨u, ?_⟩, (c1 _ _ hs').at fun o q => (sb.2 it (Ne.symm hne)).trans q⟩, fun b hb => ?_⟩
    · have e1 : ((i + 1 : Nat) : Int) = (i : Int) + 1 := by omega
      rw [e1]; exact he'
    · have hb' : b < s.heap.objs.size := by
        have e' : b = e ∨ b = it := by simpa using hb
        rcases e' with z | z
        · rw [z]; exact hel
        · rw [z]; obtain ⟨_, q, _⟩ := hw.obj; exact Heap.lt_size q
      rw [upd_ne (Nat.ne_of_lt hb')]
      exact (hf b hb).1
  done := by
    intro X hP hw hK hc i pins s σ H E I hf st hg
    subst hP hw hK
    obtain ⟨⟨old, he⟩, hw⟩ := st
    obtain ⟨ok, hi⟩ := hg
    subst hi
    obtain ⟨P1, St1, D1, b1, c1, p1⟩ := Src.draws I ok (it := it) N1 tk
    have hh : X.A.in1.handled = none := I.ok.hd hc
    exact wpAny_pyNext_enum_endD (D1 _ hh) he (b1 _ hw) fun h' hk => ⟨rfl, I.turnedL (t' := s.toks) (ch := [e, it]) (fun c o hb q => hk c o (fun q' => hb (by simp [q'])) q) hf⟩
  self := fun A i s Q E st h => let ⟨⟨_, he⟩, _⟩ := st; wpAny_pyIter_enum he h
def iEnumS (K : PySem.W.Frag) (ta : TA) : TI := fun σ H R => ta σ H fun vs H1 => ∃ S, vs = [Src.v S] ∧ S.ok K H1 ∧ R (ItE K S) H1
theorem pi_enumS {X : Cx} {e : Expr} {ta : TA} {p pos tpos : Pos} {elts : List Expr} {kk : Nat} (hg : Gl X "enumerate") (hm : X.mg "enumerate" = none) (ha : PA X [e] ta) (hs : starEach [e] X.env = [(false, eval e X.env)] := by rfl) :
    PI X (.Tuple elts kk tpos) (.Call (.Name "enumerate" p) [e] [] pos) (iEnumS X.K ta) := by
  refine ⟨fun pins s σ H R I h => ?_⟩
  refine Call_ (ld_blt I hg hm boot_enumerate (PyProof.Rows.callWith_type1 (thn (ha.run pos pins s σ H _ I h) fun us s1 ⟨vs, H1, I1, r1, q1⟩ => ?_) hs rfl))
  obtain ⟨S, ex, ok, q⟩ := q1
  subst ex
  obtain ⟨u, rfl, r⟩ := vals1 r1
  obtain ⟨ob, HP, tk, B, y, st, fp⟩ := Src.begins I1 ok r
  refine enum1_begins B y fun h' he hit hsz hk => wpAny_pyIter_enum he ?_
  have I2 : Inv X pins σ H1 { s1 with heap := h' } := I1.kept (t' := s1.toks) hk
  refine ⟨s1.heap.objs.size + 1, [s1.heap.objs.size + 1, s1.heap.objs.size], _, _, H1, rfl, I2, turn_enumS (tk := tk) (Nat.succ_ne_self _) (fun a ha => Nat.ne_of_lt (fp a ha)) (fun hm => ?_), ⟨⟨.none, he⟩, st _ _ hit⟩, fun b hb => ?_, q⟩
  · rcases List.mem_cons.mp hm with z | z
    · exact Nat.succ_ne_self _ z
    · exact absurd (fp _ z) (Nat.not_lt.mpr (Nat.le_succ _))
  · have e' : b = s1.heap.objs.size + 1 ∨ b = s1.heap.objs.size := by simpa using hb
    have hle : s1.heap.objs.size ≤ b := by
      rcases e' with z | z
      · rw [z]; exact Nat.le_add_right _ _
      · rw [z]; exact Nat.le_refl _
    exact I1.fpOk hle (I1.hok.fresh hle)

/-! ### as plain data -/
def Wk {γ : Type} (K : PySem.W.Frag) (F : Hp) (S : Src) (T : Rp γ) (xs : List γ) : Prop :=
  (∀ H, Same F H → S.ok K H) ∧ DqAll K F S.its (xs.map T.toD) ∧ (∀ x ∈ xs, okD (T.toD x) = true) ∧ xs.length ≤ 16777216
/-- values of this kind can be walked -/
def Wa {α γ : Type} (R : Rp α) (T : Rp γ) (f : α → List γ) : Prop := ∀ K F v a, Rep K F v R a → ∃ S : Src, v = S.v ∧ Wk K F S T (f a)
section
variable {K : PySem.W.Frag} {F0 H0 : Hp} {Γ : List Sl} {α β γ δ ε ζ ρ : Type} {R : Rp ρ} {S : Rp α} {S' : Rp β} {S'' : Rp ε} {T : Rp γ} {U : Rp δ} {Z : Rp ζ} {te tb tl tc : TE} {u t : TS} {k : Kd}
theorem wa_list : Wa (rL T) T fun xs => xs := fun K F v xs r => by
  obtain ⟨p, vs, rfl, hq, hd, ho, hl⟩ := Rep.lst r
  exact ⟨.l p vs, rfl, fun H fh => fh.seq (.inl hq), hd, ho, hl⟩
theorem wa_tup : Wa (rT T) T fun xs => xs := fun K F v xs r => by
  obtain ⟨p, vs, rfl, hq, hd, ho, hl⟩ := Rep.tup r
  exact ⟨.t p vs, rfl, fun H fh => SameT fh hq, hd, ho, hl⟩
theorem dq_chars {F : Hp} : ∀ {x : List Nat}, DqAll K F (x.map fun c => V.str ⟨#[c]⟩) ((chars x).map rS.toD)
  | [] => .nil
  | c :: x => .cons (.str ⟨#[c]⟩) dq_chars
theorem wa_str : Wa rS rS chars := fun K F v x r => by
  obtain ⟨rfl, hc, hl⟩ := Rep.str r
  refine ⟨.s ⟨x.toArray⟩, rfl, fun _ _ => trivial, ?_, fun y hy => ?_, by simpa [chars] using hl⟩
  · have e : Src.its (.s ⟨x.toArray⟩) = x.map fun c => V.str ⟨#[c]⟩ := by simp [Src.its]
    rw [e]
    exact dq_chars
  · obtain ⟨c, hx, rfl⟩ := List.mem_map.mp hy
    exact (rep_str (K := K) (F := F) (x := [c]) (fun z hz => by rw [List.mem_singleton.mp hz]; exact hc _ hx) (by simp)).2
theorem new_trip {F' H' : Hp} {T0 : Addr} {x y z : V} {a : α} {b : β} {c : ε} (fh : Same F' H') (n : H' T0 = none) (r1 : Rep K F' x S a) (r2 : Rep K F' y S' b) (r3' : Rep K F' z S'' c) :
    ∃ F'', Step F' H' F'' (upd H' T0 (.tup [x, y, z])) ∧ Rep K F'' (.ref T0) (r3 S S' S'') (a, b, c) := by
  have e2 := Same.upd (o := HO.tup [x, y, z]) (fh.free n)
  refine ⟨_, Step.lay fh n, .tup upd_same (.cons (r1.mono e2).1 (.cons (r2.mono e2).1 (.cons (r3'.mono e2).1 .nil))), okT.mpr ⟨fun d hd => ?_, by simp⟩⟩
  rcases List.mem_cons.mp hd with rfl | hd
  · exact r1.2
  · rcases List.mem_cons.mp hd with rfl | hd
    · exact r2.2
    · rcases List.mem_cons.mp hd with rfl | hd
      · exact r3'.2
      · cases hd
theorem Rep.at' {F : Hp} {vs : List V} {xs : List α} {i : Nat} {a : α} {v : V} (hd : DqAll K F vs (xs.map S.toD)) (ho : ∀ x ∈ xs, okD (S.toD x) = true) (e : xs[i]? = some a) (hv : vs[i]? = some v) : Rep K F v S a := by
  obtain ⟨v', h1, h2⟩ := Rep.at hd ho e
  rw [hv] at h1
  cases h1
  exact h2
theorem ei_zip2 {f : α → List γ} {g : β → List δ} {m : Option α} {n : Option β} (w1 : Wa S T f) (w2 : Wa S' U g) (h : Ev K F0 H0 tl Γ .r S m) (h' : Ev K F0 H0 tb Γ .r S' n) :
    Ei K F0 H0 (iZip2 K (tCons tl (tCons tb tNil))) Γ (rP T U) (m.bind fun a => n.bind fun b => some (List.zip (f a) (g b))) := by
  intro σ F H s zs e Q q
  cases m with
  | none => cases e
  | some a =>
    cases n with
    | none => cases e
    | some b =>
      cases e
      refine h σ F H s a rfl _ fun v F1 H1 s1 o1 => ?_
      refine h' σ F1 H1 (s.mono s1) b rfl _ fun v2 F2 H2 s2 o2 => ?_
      obtain ⟨S1, rfl, k1, d1, y1, l1⟩ := w1 _ _ _ _ (o1.mono s2.ff)
      obtain ⟨S2, rfl, k2, d2, y2, l2⟩ := w2 _ _ _ _ o2
      have e1 := dvlen d1
      have e2 := dvlen d2
      refine ⟨S1, S2, rfl, ⟨k1 _ s2.fh, k2 _ s2.fh⟩, q _ F2 H2 (s1.trans s2) ⟨fun F' H' ff fh i p ea => ?_, fun F' H' ff fh => ?_, by rw [List.length_zip]; omega⟩⟩
      · obtain ⟨a1, a2⟩ := p
        have ea := List.getElem?_zip_eq_some.mp ea
        have b1 := (List.getElem?_eq_some_iff.mp ea.1).1
        have b2 := (List.getElem?_eq_some_iff.mp ea.2).1
        refine ⟨⟨⟨k1 _ (ff.trans fh), k2 _ (ff.trans fh)⟩, by omega⟩, fun w H'' hw => ?_⟩
        obtain ⟨T0, x', y', rfl, nn, rfl, h1, h2⟩ := hw
        exact new_pair fh nn ((Rep.at' d1 y1 ea.1 h1).mono ff) ((Rep.at' d2 y2 ea.2 h2).mono ff)
      · exact ⟨⟨k1 _ (ff.trans fh), k2 _ (ff.trans fh)⟩, by rw [List.length_zip, e1, e2]⟩
theorem ei_zip3 {f : α → List γ} {g : β → List δ} {g' : ε → List ζ} {m : Option α} {n : Option β} {o : Option ε} (w1 : Wa S T f) (w2 : Wa S' U g) (w3 : Wa S'' Z g') (h : Ev K F0 H0 tl Γ .r S m) (h' : Ev K F0 H0 tb Γ .r S' n) (h'' : Ev K F0 H0 tc Γ .r S'' o) :
    Ei K F0 H0 (iZip3 K (tCons tl (tCons tb (tCons tc tNil)))) Γ (r3 T U Z) (m.bind fun a => n.bind fun b => o.bind fun c => some (List.zip (f a) (List.zip (g b) (g' c)))) := by
  intro σ F H s zs e Q q
  cases m with
  | none => cases e
  | some a =>
    cases n with
    | none => cases e
    | some b =>
      cases o with
      | none => cases e
      | some c =>
        cases e
        refine h σ F H s a rfl _ fun v F1 H1 s1 o1 => ?_
        refine h' σ F1 H1 (s.mono s1) b rfl _ fun v2 F2 H2 s2 o2 => ?_
        refine h'' σ F2 H2 ((s.mono s1).mono s2) c rfl _ fun v3 F3 H3 s3 o3 => ?_
        obtain ⟨S1, rfl, k1, d1, y1, l1⟩ := w1 _ _ _ _ (o1.mono (s2.ff.trans s3.ff))
        obtain ⟨S2, rfl, k2, d2, y2, l2⟩ := w2 _ _ _ _ (o2.mono s3.ff)
        obtain ⟨S3, rfl, k3, d3, y3, l3⟩ := w3 _ _ _ _ o3
        have e1 := dvlen d1
        have e2 := dvlen d2
        have e3 := dvlen d3
        refine ⟨S1, S2, S3, rfl, ⟨k1 _ s3.fh, k2 _ s3.fh, k3 _ s3.fh⟩, q _ F3 H3 (s1.trans (s2.trans s3)) ⟨fun F' H' ff fh i p ea => ?_, fun F' H' ff fh => ?_, by rw [List.length_zip]; omega⟩⟩
        · obtain ⟨a1, a2, a3⟩ := p
          have ea := List.getElem?_zip_eq_some.mp ea
          have ea2 := List.getElem?_zip_eq_some.mp ea.2
          have b1 := (List.getElem?_eq_some_iff.mp ea.1).1
          have b2 := (List.getElem?_eq_some_iff.mp ea2.1).1
          have b3 := (List.getElem?_eq_some_iff.mp ea2.2).1
          have fk := ff.trans fh
          refine ⟨⟨⟨k1 _ fk, k2 _ fk, k3 _ fk⟩, by omega⟩, fun w H'' hw => ?_⟩
          obtain ⟨T0, x', y', z', rfl, nn, rfl, h1, h2, h3⟩ := hw
          exact new_trip fh nn ((Rep.at' d1 y1 ea.1 h1).mono ff) ((Rep.at' d2 y2 ea2.1 h2).mono ff) ((Rep.at' d3 y3 ea2.2 h3).mono ff)
        · have fk := ff.trans fh
          exact ⟨⟨k1 _ fk, k2 _ fk, k3 _ fk⟩, by rw [List.length_zip, List.length_zip, e1, e2, e3]; omega⟩
theorem ei_enumS {f : α → List γ} {m : Option α} (w1 : Wa S T f) (h : Ev K F0 H0 tl Γ .r S m) : Ei K F0 H0 (iEnumS K (tCons tl tNil)) Γ (rP rI T) (m.bind fun a => some (enumL (f a))) := by
  intro σ F H s zs e Q q
  cases m with
  | none => cases e
  | some a =>
    cases e
    refine h σ F H s a rfl _ fun v F1 H1 s1 o1 => ?_
    obtain ⟨S1, rfl, k1, d1, y1, l1⟩ := w1 _ _ _ _ o1
    have e1 := dvlen d1
    refine ⟨S1, rfl, k1 _ s1.fh, q _ F1 H1 s1 ⟨fun F' H' ff fh i p ea => ?_, fun F' H' ff fh => ?_, by simpa [enumL] using l1⟩⟩
    · obtain ⟨a1, a2⟩ := p
      obtain ⟨z1, z2⟩ := enumL_get ea
      have b1 := (List.getElem?_eq_some_iff.mp z2).1
      refine ⟨⟨k1 _ (ff.trans fh), by omega⟩, fun w H'' hw => ?_⟩
      obtain ⟨T0, x', rfl, nn, rfl, h1⟩ := hw
      simp only at z1
      subst z1
      exact new_pair fh nn (rep_int.mpr rfl) ((Rep.at' d1 y1 z2 h1).mono ff)
    · exact ⟨k1 _ (ff.trans fh), by rw [e1]; simp [enumL]⟩
end
end Y

/-! dicts as plain data: lists of pairs -/
namespace Y
open PySem PySem.Spec PyProof.Rows L2

/-! ### in plain words -/
def atD {κ α : Type} [DecidableEq κ] (kvs : List (κ × α)) (k : κ) : Option α := (kvs.find? fun p => decide (p.1 = k)).map (·.2)
def putD {κ α : Type} [DecidableEq κ] (kvs : List (κ × α)) (k : κ) (v : α) : List (κ × α) :=
  if (kvs.any fun p => decide (p.1 = k)) = true then kvs.map (fun p => if p.1 = k then (p.1, v) else p) else kvs ++ [(k, v)]
def getOr {κ α : Type} [DecidableEq κ] (kvs : List (κ × α)) (k : κ) (x : α) : Option α := some ((atD kvs k).getD x)
def inD {κ α : Type} [DecidableEq κ] (k : κ) (kvs : List (κ × α)) : Option Bool := some (atD kvs k).isSome
def notInD {κ α : Type} [DecidableEq κ] (k : κ) (kvs : List (κ × α)) : Option Bool := some (!(atD kvs k).isSome)
def keysD {κ α : Type} (kvs : List (κ × α)) : Option (List κ) := some (kvs.map (·.1))

/-! ### keys -/
theorem keyD_inj {a b : L2.Key} (h : keyD a = keyD b) : a = b := by
  cases a <;> cases b <;> simp [keyD] at h <;> rw [h]
theorem keyDs_inj : ∀ {a b : List L2.Key}, a.map keyD = b.map keyD → a = b
  | [], [], _ => rfl
  | [], _ :: _, h => by simp at h
  | _ :: _, [], h => by simp at h
  | x :: xs, y :: ys, h => by
    rw [List.map_cons, List.map_cons] at h
    injection h with h1 h2
    rw [keyD_inj h1, keyDs_inj h2]
theorem tupD_inj {a b : List L2.Key} (h : tupD a = tupD b) : a = b := by
  injection h with h
  exact keyDs_inj h
theorem Rp.dinj {α : Type} (R : Rp α) (he : R.e = true) {a b : α} (h : R.toD a = R.toD b) : a = b := by
  have h1 := (R.inj he a a).mpr rfl
  exact (R.inj he a b).mp (by rw [← h]; exact h1)
/-- keys that are ints or texts -/
def KyK {κ : Type} (Q : Rp κ) : Prop := ∀ a, ∃ key, Q.toD a = keyD key
/-- keys that are tuples of these -/
def KyT {κ : Type} (Q : Rp κ) : Prop := ∀ a, ∃ key, Q.toD a = tupD key
theorem ky_I : KyK rI := fun a => ⟨.inl a, rfl⟩
theorem ky_S : KyK rS := fun a => ⟨.inr _, rfl⟩
theorem ky_T {κ : Type} {Q : Rp κ} (h : KyK Q) : KyT (rT Q) := fun a => by
  have : ∃ key : List L2.Key, a.map Q.toD = key.map keyD := by
    induction a with
    | nil => exact ⟨[], rfl⟩
    | cons x xs ih =>
      obtain ⟨k1, h1⟩ := h x
      obtain ⟨ks, h2⟩ := ih
      exact ⟨k1 :: ks, by rw [List.map_cons, List.map_cons, h1, h2]⟩
  obtain ⟨key, e⟩ := this
  exact ⟨key, by show PyData.tuple _ = _; rw [e]⟩
section
variable {K : PySem.W.Frag} {F : Hp} {κ α Kk : Type} {Q : Rp κ} {R : Rp α}
theorem dq_key {v : V} {key : L2.Key} (h : Dq K F v (keyD key)) : v = kV key := by
  cases key with
  | inl i => cases h; rfl
  | inr x => cases h; rfl
theorem key_dq (key : L2.Key) : Dq K F (kV key) (keyD key) := by
  cases key with
  | inl i => exact .int i
  | inr x => exact .str x
theorem dq_keys : ∀ {vs : List V} {ks : List L2.Key}, DqAll K F vs (ks.map keyD) → vs = ks.map kV
  | [], [], _ => rfl
  | _, [], h => by cases h; rfl
  | _, k :: ks, h => by
    cases h with
    | cons h1 h2 =>
      rw [dq_key h1, dq_keys h2]
      rfl
theorem keys_dq : ∀ ks : List L2.Key, DqAll K F (ks.map kV) (ks.map keyD)
  | [] => .nil
  | k :: ks => .cons (key_dq k) (keys_dq ks)
theorem dq_tup {v : V} {key : List L2.Key} (h : Dq K F v (tupD key)) : ∃ b, v = .ref b ∧ F b = some (.tup (key.map kV)) := by
  cases h with
  | tup h1 h2 =>
    have := dq_keys h2
    subst this
    exact ⟨_, rfl, h1⟩

/-! ### the raw table and the plain one -/
variable {kd : Kk → PyData}
theorem Dct.tail {p : Kk × V} {kv : List (Kk × V)} {q : κ × α} {kvs : List (κ × α)} (D : Dct K F kd Q R (p :: kv) (q :: kvs)) : Q.toD q.1 = kd p.1 ∧ Rep K F p.2 R q.2 ∧ Dct K F kd Q R kv kvs := by
  obtain ⟨h1, h2, h3, h4⟩ := D
  rw [List.map_cons, List.map_cons] at h1 h2
  injection h1 with a b
  cases h2 with
  | cons c d =>
    exact ⟨a, ⟨c, (h3 q List.mem_cons_self).2⟩, b, d, fun x hx => h3 x (List.mem_cons_of_mem _ hx), by rw [List.length_cons] at h4; omega⟩
theorem Dct.length {kv : List (Kk × V)} {kvs : List (κ × α)} (D : Dct K F kd Q R kv kvs) : kv.length = kvs.length := by
  have := congrArg List.length D.ks
  simpa using this.symm
theorem Dct.cons {p : Kk × V} {kv : List (Kk × V)} {q : κ × α} {kvs : List (κ × α)} (e : Q.toD q.1 = kd p.1) (ok : okD (Q.toD q.1) = true) (r : Rep K F p.2 R q.2) (D : Dct K F kd Q R kv kvs) (hl : kvs.length < 16777216) : Dct K F kd Q R (p :: kv) (q :: kvs) :=
  ⟨by rw [List.map_cons, List.map_cons, e, D.ks], by rw [List.map_cons, List.map_cons]; exact .cons r.1 D.vs, fun x hx => by
    rcases List.mem_cons.mp hx with rfl | hx
    · exact ⟨ok, r.2⟩
    · exact D.ok x hx, by rw [List.length_cons]; omega⟩
theorem Dct.nil : Dct K F kd Q R [] [] := ⟨rfl, .nil, (fun _ h => nomatch h), Nat.zero_le _⟩
section
variable [DecidableEq κ] [DecidableEq Kk]
theorem Dct.get (hQ : Q.e = true) (hk : ∀ x y, kd x = kd y → x = y) {k : κ} {key : Kk} (e : Q.toD k = kd key) : ∀ {kv : List (Kk × V)} {kvs : List (κ × α)}, Dct K F kd Q R kv kvs →
    (atD kvs k = none ∧ valV kv key = none) ∨ ∃ a v, atD kvs k = some a ∧ valV kv key = some v ∧ Rep K F v R a
  | [], [], _ => .inl ⟨rfl, rfl⟩
  | [], _ :: _, D => by have := D.length; simp at this
  | _ :: _, [], D => by have := D.length; simp at this
  | p :: kv, q :: kvs, D => by
    obtain ⟨h1, h2, h3⟩ := D.tail
    by_cases c : q.1 = k
    · have c' : p.1 = key := hk _ _ (by rw [← h1, c, e])
      refine .inr ⟨q.2, p.2, ?_, valV_pos c', h2⟩
      simp [atD, c]
    · have c' : ¬ p.1 = key := fun z => c (Q.dinj hQ (by rw [h1, z, e]))
      have e1 : atD (q :: kvs) k = atD kvs k := by simp [atD, c]
      rw [e1, valV_neg c']
      exact Dct.get hQ hk e h3
theorem Dct.any (hQ : Q.e = true) (hk : ∀ x y, kd x = kd y → x = y) {k : κ} {key : Kk} (e : Q.toD k = kd key) : ∀ {kv : List (Kk × V)} {kvs : List (κ × α)}, Dct K F kd Q R kv kvs →
    (kvs.any fun p => decide (p.1 = k)) = kv.any fun p => decide (p.1 = key)
  | [], [], _ => rfl
  | [], _ :: _, D => by have := D.length; simp at this
  | _ :: _, [], D => by have := D.length; simp at this
  | p :: kv, q :: kvs, D => by
    obtain ⟨h1, h2, h3⟩ := D.tail
    rw [List.any_cons, List.any_cons, Dct.any hQ hk e h3]
    have : decide (q.1 = k) = decide (p.1 = key) := by
      by_cases c : q.1 = k
      · rw [decide_eq_true c, decide_eq_true (hk _ _ (by rw [← h1, c, e]))]
      · rw [decide_eq_false c, decide_eq_false (fun z => c (Q.dinj hQ (by rw [h1, z, e])))]
    rw [this]
theorem Dct.repl (hQ : Q.e = true) (hk : ∀ x y, kd x = kd y → x = y) {k : κ} {key : Kk} (e : Q.toD k = kd key) {v : V} {a : α} (r : Rep K F v R a) : ∀ {kv : List (Kk × V)} {kvs : List (κ × α)}, Dct K F kd Q R kv kvs →
    Dct K F kd Q R (kv.map fun p => if p.1 = key then (p.1, v) else p) (kvs.map fun p => if p.1 = k then (p.1, a) else p)
  | [], [], D => D
  | [], _ :: _, D => by have := D.length; simp at this
  | _ :: _, [], D => by have := D.length; simp at this
  | p :: kv, q :: kvs, D => by
    obtain ⟨h1, h2, h3⟩ := D.tail
    have ih := Dct.repl hQ hk e r h3
    have ok := (D.ok q List.mem_cons_self).1
    have hl := D.len
    rw [List.length_cons] at hl
    rw [List.map_cons, List.map_cons]
    by_cases c : q.1 = k
    · have c' : p.1 = key := hk _ _ (by rw [← h1, c, e])
      rw [if_pos c, if_pos c']
      exact Dct.cons h1 ok r ih (by rw [List.length_map]; omega)
    · have c' : ¬ p.1 = key := fun z => c (Q.dinj hQ (by rw [h1, z, e]))
      rw [if_neg c, if_neg c']
      exact Dct.cons h1 ok h2 ih (by rw [List.length_map]; omega)
theorem Dct.put (hQ : Q.e = true) (hk : ∀ x y, kd x = kd y → x = y) {k : κ} {key : Kk} (e : Q.toD k = kd key) (ok : okD (Q.toD k) = true) {v : V} {a : α} (r : Rep K F v R a) {kv : List (Kk × V)} {kvs : List (κ × α)} (D : Dct K F kd Q R kv kvs)
    (hl : kvs.length < 16777216) : Dct K F kd Q R (putK kv key v) (putD kvs k a) := by
  unfold putK putD
  rw [D.any hQ hk e]
  split
  · exact D.repl hQ hk e r
  · refine ⟨?_, ?_, ?_, ?_⟩
    · rw [List.map_append, List.map_append, D.ks]
      simp [e]
    · rw [List.map_append, List.map_append]
      exact DqAll.app D.vs (.cons r.1 .nil)
    · intro x hx
      rcases List.mem_append.mp hx with hx | hx
      · exact D.ok x hx
      · rw [List.mem_singleton.mp hx]
        exact ⟨ok, r.2⟩
    · rw [List.length_append, List.length_singleton]
      omega
end
/-- as one value -/
theorem Dct.okD {kd : Kk → PyData} {kv : List (Kk × V)} {kvs : List (κ × α)} (D : Dct K F kd Q R kv kvs) : Y.okD ((rD Q R).toD kvs) = true := by
  show (okKv _ && decide _) = true
  rw [Bool.and_eq_true]
  refine ⟨okKv_iff.mpr fun d hd => ?_, by rw [decide_eq_true_eq, List.length_map]; have := D.len; omega⟩
  obtain ⟨p, hp, rfl⟩ := List.mem_map.mp hd
  exact D.ok p hp
theorem okE {kd : Kk → PyData} {kv : List (Kk × V)} {kvs : List (κ × α)} (D : Dct K F kd Q R kv kvs) : Y.okD ((rE Q R).toD kvs) = true := by
  have h : Y.okD ((rD Q R).toD kvs) = true := D.okD
  have e : (rE Q R).toD kvs = .dict [(.none, (rD Q R).toD kvs)] := rfl
  rw [e]
  simp only [Y.okD, okKv, h]
  rfl
theorem dct_of {kd : Kk → PyData} {kv : List (Kk × V)} {kvs : List (κ × α)} (h1 : (kvs.map fun p => (Q.toD p.1, R.toD p.2)).map (·.1) = kv.map (fun p => kd p.1)) (h2 : DqAll K F (kv.map (·.2)) ((kvs.map fun p => (Q.toD p.1, R.toD p.2)).map (·.2)))
    (h3 : okKv (kvs.map fun p => (Q.toD p.1, R.toD p.2)) = true) (hl : kvs.length ≤ 16777216) : Dct K F kd Q R kv kvs := by
  rw [List.map_map] at h1 h2
  exact ⟨h1, h2, fun p hp => okKv_iff.mp h3 _ (List.mem_map_of_mem hp), hl⟩
/-- what a frozen dict is -/
theorem Rep.dct (hQ : KyK Q) {v : V} {kvs : List (κ × α)} (h : Rep K F v (rD Q R) kvs) : ∃ p o kv, v = .ref p ∧ F p = some (.frz o (.dK kv)) ∧ Dct K F keyD Q R kv kvs := by
  obtain ⟨h, hc⟩ := h
  have hok : okKv (kvs.map fun p => (Q.toD p.1, R.toD p.2)) = true := (and2 hc).1
  have hl : kvs.length ≤ 16777216 := by have := (and2 hc).2; simpa using this
  have hd : (rD Q R).toD kvs = .dict (kvs.map fun p => (Q.toD p.1, R.toD p.2)) := rfl
  rw [hd] at h
  have nn : ∀ (x : κ × α), Q.toD x.1 ≠ .none := fun x z => by
    obtain ⟨key, e⟩ := hQ x.1
    rw [z] at e
    cases key <;> cases e
  generalize e : (kvs.map fun p => (Q.toD p.1, R.toD p.2)) = ds at h
  cases h with
  | dct h1 h2 h3 =>
    subst e
    exact ⟨_, _, _, rfl, h1, dct_of h2 h3 hok hl⟩
  | dcT =>
    cases kvs with
    | nil => cases e
    | cons x xs => rw [List.map_cons] at e; injection e with e1 _; injection e1 with e1 _; exact absurd e1 (nn x)
  | stn =>
    cases kvs with
    | nil => cases e
    | cons x xs => rw [List.map_cons] at e; injection e with e1 _; injection e1 with e1 _; exact absurd e1 (nn x)
  | obj =>
    cases kvs with
    | nil => cases e
    | cons x xs => rw [List.map_cons] at e; injection e with e1 _; injection e1 with e1 _; exact absurd e1 (nn x)
theorem Rep.dcE {v : V} {kvs : List (κ × α)} (h : Rep K F v (rE Q R) kvs) : ∃ p o kv, v = .ref p ∧ F p = some (.frz o (.dT kv)) ∧ Dct K F tupD Q R kv kvs := by
  obtain ⟨h, hc⟩ := h
  have hd : (rE Q R).toD kvs = .dict [(.none, .dict (kvs.map fun p => (Q.toD p.1, R.toD p.2)))] := rfl
  rw [hd] at h hc
  have hc : okD (.dict (kvs.map fun p => (Q.toD p.1, R.toD p.2))) = true := by simpa [okD, okKv] using hc
  have hok : okKv (kvs.map fun p => (Q.toD p.1, R.toD p.2)) = true := (and2 hc).1
  have hl : kvs.length ≤ 16777216 := by have := (and2 hc).2; simpa using this
  cases h with
  | @dct _ _ kv _ h1 h2 h3 =>
    cases kv with
    | nil => cases h2
    | cons x xs =>
      rw [List.map_cons] at h2
      injection h2 with e1 _
      obtain ⟨k, v⟩ := x
      cases k <;> cases e1
  | dcT h1 h2 h3 => exact ⟨_, _, _, rfl, h1, dct_of h2 h3 hok hl⟩
end
end Y

/-! rules for dicts -/
namespace Y
open PySem PySem.Spec PyProof.Rows L2

/-- a dict, as it is read -/
def EvD {κ α : Type} (K : PySem.W.Frag) (F0 H0 : Hp) (t : TE) (Γ : List Sl) (Q : Rp κ) (R : Rp α) (m : Option (List (κ × α))) : Prop :=
  ∀ σ F H, SR K F0 H0 F H σ Γ → ∀ kvs, m = some kvs → ∀ P : VK, (∀ p kv F' H', Step F H F' H' → Rd H' p (.dK kv) → Dct K F' keyD Q R kv kvs → P (.ref p) H') → t σ H P
def EvE {κ α : Type} (K : PySem.W.Frag) (F0 H0 : Hp) (t : TE) (Γ : List Sl) (Q : Rp κ) (R : Rp α) (m : Option (List (κ × α))) : Prop :=
  ∀ σ F H, SR K F0 H0 F H σ Γ → ∀ kvs, m = some kvs → ∀ P : VK, (∀ p kv F' H', Step F H F' H' → Rd H' p (.dT kv) → Dct K F' tupD Q R kv kvs → P (.ref p) H') → t σ H P
/-- it stays locked from here on -/
def tFrz (t : TS) : TS := fun D σ H => ∃ d u, H d = some u ∧ Mut (some u) ∧ ∀ od, t D σ (upd H d (.frz od u))
theorem ps_frz {X : Cx} {s : Stmt} {t : TS} (h : PS X s t) : PS X s (tFrz t) := by
  refine ⟨fun pins s σ H D I hw => ?_⟩
  obtain ⟨d, u, hd, mu, hw⟩ := hw
  obtain ⟨od, I1⟩ := I.lock hd mu
  exact h.run pins s σ _ D I1 (hw od)
theorem call_lenDR {X : Cx} : CallR X (.builtin "len") (fun xs H Q => ∃ a kvs, xs = [V.ref a] ∧ Rd H a (.dK kvs) ∧ Q (.int kvs.length) H) := by
  intro pins s σ H xs us Q I r h
  obtain ⟨a, kvs, rfl, ha, q⟩ := h
  obtain ⟨u, rfl, ru⟩ := vals1 r
  cases ru
  exact d_len I ha fun t s' I' => ⟨.int kvs.length, H, I', ⟨t, rfl⟩, q⟩

section
variable {K : PySem.W.Frag} {F0 H0 : Hp} {Γ : List Sl} {κ α β γ δ ρ : Type} {P : Rp ρ} {Q : Rp κ} {R : Rp α} {S : Rp β} {te td ti tx : TE} {u t : TS} {k : Kd} {out : β → List Sl}
theorem evd_var {i : Nat} {kvs : List (κ × α)} (h : gt Γ i = .d Q R kvs) : EvD K F0 H0 (tVar i) Γ Q R (some kvs) := by
  intro σ F H s a e P q
  cases e
  obtain ⟨z, h1, h2⟩ := s.sl.get (i := i) (by rw [h]; exact fun z => nomatch z)
  rw [h] at h2
  obtain ⟨p, kv, rfl, h0, hF, hH, D⟩ := h2
  exact ⟨.ref p, h1, q p kv F H (Step.refl s.st.fh) (.inl hH) D⟩
theorem eve_var {i : Nat} {kvs : List (κ × α)} (h : gt Γ i = .e Q R kvs) : EvE K F0 H0 (tVar i) Γ Q R (some kvs) := by
  intro σ F H s a e P q
  cases e
  obtain ⟨z, h1, h2⟩ := s.sl.get (i := i) (by rw [h]; exact fun z => nomatch z)
  rw [h] at h2
  obtain ⟨p, kv, rfl, h0, hF, hH, D⟩ := h2
  exact ⟨.ref p, h1, q p kv F H (Step.refl s.st.fh) (.inl hH) D⟩
theorem evd_fr {m : Option (List (κ × α))} (hQ : KyK Q) (h : Ev K F0 H0 td Γ .r (rD Q R) m) : EvD K F0 H0 td Γ Q R m := by
  intro σ F H s a e P q
  refine h σ F H s a e _ fun v F' H' s' o => ?_
  obtain ⟨p, ob, kv, rfl, hF, D⟩ := Rep.dct hQ o
  exact q p kv F' H' s' (.inr ⟨ob, s'.fh _ _ hF⟩) D
theorem eve_fr {m : Option (List (κ × α))} (h : Ev K F0 H0 td Γ .r (rE Q R) m) : EvE K F0 H0 td Γ Q R m := by
  intro σ F H s a e P q
  refine h σ F H s a e _ fun v F' H' s' o => ?_
  obtain ⟨p, ob, kv, rfl, hF, D⟩ := Rep.dcE o
  exact q p kv F' H' s' (.inr ⟨ob, s'.fh _ _ hF⟩) D
theorem newM_dct {H F' H' : Hp} {v : V} {kvs : List (κ × α)} (hQ : KyK Q) (h : NewM K H F' H' v (rD Q R) kvs) : ∃ p kv, v = .ref p ∧ H p = none ∧ F' p = none ∧ H' p = some (.dK kv) ∧ Dct K F' keyD Q R kv kvs := by
  obtain ⟨p, kv, ds, rfl, n, nF, hH, hd, h1, h2, hc⟩ := h
  have hd' : (rD Q R).toD kvs = .dict (kvs.map fun p => (Q.toD p.1, R.toD p.2)) := rfl
  rw [hd'] at hd hc
  injection hd with hd
  subst hd
  have hl : kvs.length ≤ 16777216 := by have := (and2 hc).2; simpa using this
  exact ⟨p, kv, rfl, n, nF, hH, dct_of h1 h2 (and2 hc).1 hl⟩
theorem newM_of {H F' H' : Hp} {p : Addr} {kv : List (Key × V)} {kvs : List (κ × α)} (n : H p = none) (nF : F' p = none) (hH : H' p = some (.dK kv)) (D : Dct K F' keyD Q R kv kvs) : NewM K H F' H' (.ref p) (rD Q R) kvs :=
  ⟨p, kv, _, rfl, n, nF, hH, rfl, by rw [List.map_map]; exact D.ks, by rw [List.map_map]; exact D.vs, D.okD⟩
theorem evd_new {m : Option (List (κ × α))} (hQ : KyK Q) (h : Ev K F0 H0 td Γ .m (rD Q R) m) : EvD K F0 H0 td Γ Q R m := by
  intro σ F H s a e P q
  refine h σ F H s a e _ fun v F' H' s' o => ?_
  obtain ⟨p, kv, rfl, n, nF, hH, D⟩ := newM_dct hQ o
  exact q p kv F' H' s' (.inl hH) D
/-- {} -/
theorem ev_dnew : Ev K F0 H0 tDNewK Γ .m (rD Q R) (some []) := by
  intro σ F H s a e P q p np
  cases e
  exact q (.ref p) F _ (Step.layO s.st.fh np) (newM_of np (s.st.fh.free np) upd_same Dct.nil)
/-- {k: v} -/
theorem ev_disp1 {tk tv : TE} [DecidableEq κ] {mk : Option κ} {mv : Option α} (hQ : KyK Q) (hk : Ev K F0 H0 tk Γ .r Q mk) (hv : Ev K F0 H0 tv Γ .r R mv) : Ev K F0 H0 (tDisp [(tk, tv)]) Γ .m (rD Q R) (mk.bind fun k => mv.bind fun v => some [(k, v)]) := by
  intro σ F H s a e P q p np
  cases mk with
  | none => cases e
  | some k =>
    cases mv with
    | none => cases e
    | some v =>
      cases e
      have s0 := Step.layO (o := .dK []) s.st.fh np
      refine hk σ F _ (s.mono s0) k rfl _ fun x F1 H1 s1 o1 => ?_
      refine hv σ F1 H1 ((s.mono s0).mono s1) v rfl _ fun y F2 H2 s2 o2 => ?_
      have nF : F2 p = none := s2.ow _ _ (s1.hh _ _ upd_same) (s1.ow _ _ upd_same (s.st.fh.free np) trivial) trivial
      have hH : H2 p = some (.dK []) := s2.hh _ _ (s1.hh _ _ upd_same)
      obtain ⟨key, ek⟩ := hQ k
      have o1' := o1.mono s2.ff
      have ex : x = kV key := dq_key (by rw [← ek]; exact o1'.1)
      subst ex
      refine ⟨hH, [(key, y)], rfl, by simp, ?_⟩
      have em : mergeK [] [(key, y)] = [(key, y)] := rfl
      rw [em]
      refine q (.ref p) F2 _ ?_ (newM_of np nF upd_same (Dct.cons ek o1'.2 o2 Dct.nil (Nat.zero_lt_succ _)))
      have st := s0.trans (s1.trans s2)
      exact ⟨st.ff, fun c z hz => by rw [upd_ne (fun y => by subst y; rw [np] at hz; cases hz)]; exact st.hh c z hz, fun c z hz => by rw [upd_ne (fun y => by subst y; rw [nF] at hz; cases hz)]; exact st.fh c z hz, st.ow⟩
theorem bd_setD {i : Nat} {m : Option (List (κ × α))} {kk : List (κ × α) → Option (Fl ρ β)} {out : β → List Sl} (hQ : KyK Q) (h : Ev K F0 H0 te Γ .m (rD Q R) m) (hk : ∀ x, Bd K F0 H0 u (st Γ i (.d Q R x)) k P out (kk x)) :
    Bd K F0 H0 (tSeq (tAsg te (gName i)) u) Γ k P out (m.bind kk) := by
  intro σ F H s r e D q1 q2
  cases m with
  | none => cases e
  | some a =>
    refine h σ F H s a rfl _ fun v F1 H1 s1 o1 => ?_
    obtain ⟨p, kv, rfl, nH, nF, hH, Dc⟩ := newM_dct hQ o1
    have n0 : H0 p = none := s.st.hh.free nH
    refine hk a _ F1 H1 ((s.mono s1).putN i (g := .d Q R a) ⟨p, kv, rfl, n0, nF, hH, Dc⟩ rfl fun z => ?_) r e D q1 fun b eb σ' F' H' sm => q2 b eb σ' F' H' (s1.ff.trans sm)
    obtain ⟨_, _, ws, hw⟩ := owns_in s.sl z
    rw [nH] at hw; cases hw
theorem bd_setE {i : Nat} {kk : Option (Fl ρ β)} {out : β → List Sl} (hk : Bd K F0 H0 u (st Γ i (.e Q R [])) k P out kk) : Bd K F0 H0 (tSeq (tAsg tDNewT (gName i)) u) Γ k P out kk := by
  intro σ F H s r e D q1 q2 p np
  have s1 := Step.layO (o := .dT []) s.st.fh np
  refine hk _ F _ ((s.mono s1).putN i (g := .e Q R []) ⟨p, [], rfl, s.st.hh.free np, s.st.fh.free np, upd_same, Dct.nil⟩ rfl fun z => ?_) r e D q1 q2
  obtain ⟨_, _, ws, hw⟩ := owns_in s.sl z
  rw [np] at hw; cases hw
theorem bd_retD {i : Nat} {kvs : List (κ × α)} {out : β → List Sl} (h : gt Γ i = .d Q R kvs) : Bd K F0 H0 (tSeq (tRet (tVar i)) u) Γ .m (rD Q R) out (some (.ret kvs)) := by
  intro σ F H s r e D q1 q2
  cases e
  obtain ⟨z, h1, h2⟩ := s.sl.get (i := i) (by rw [h]; exact fun z => nomatch z)
  rw [h] at h2
  obtain ⟨p, kv, rfl, h0, hF, hH, Dc⟩ := h2
  exact ⟨.ref p, h1, q1 kvs rfl _ F H s.st (newM_of h0 hF hH Dc)⟩
/-- the dict in slot i is frozen and locked from here on -/
theorem bd_frzD {i : Nat} {kvs : List (κ × α)} {m : Option (Fl ρ β)} {out : β → List Sl} (e1 : gt Γ i = .d Q R kvs) (h : Bd K F0 H0 (tSeq t u) (st Γ i (.f (rD Q R) kvs)) k P out m) : Bd K F0 H0 (tSeq (tFrz t) u) Γ k P out m := by
  intro σ F H s r e D q1 q2
  obtain ⟨z, z1, z2⟩ := s.sl.get (i := i) (by rw [e1]; exact fun z => nomatch z)
  rw [e1] at z2
  obtain ⟨p, kv, rfl, h0, hF, hH, Dc⟩ := z2
  refine ⟨p, _, hH, trivial, fun od => ?_⟩
  have sm : Same F (upd F p (.frz od (.dK kv))) := Same.upd hF
  have s' := s.freezeG (o := .frz od (.dK kv)) (g' := .f (rD Q R) kvs) (by rw [e1]; rfl) z1 h0 hF ⟨.ref p, rfl, .dct upd_same (by rw [List.map_map]; exact Dc.ks) (by rw [List.map_map]; exact DqAll.mono sm _ _ Dc.vs), Dc.okD⟩ rfl
  exact h σ _ _ s' r e D q1 fun b eb σ' F2 H' sm2 => q2 b eb σ' F2 H' (sm.trans sm2)
theorem bd_frzE {i : Nat} {kvs : List (κ × α)} {m : Option (Fl ρ β)} {out : β → List Sl} (e1 : gt Γ i = .e Q R kvs) (h : Bd K F0 H0 (tSeq t u) (st Γ i (.f (rE Q R) kvs)) k P out m) : Bd K F0 H0 (tSeq (tFrz t) u) Γ k P out m := by
  intro σ F H s r e D q1 q2
  obtain ⟨z, z1, z2⟩ := s.sl.get (i := i) (by rw [e1]; exact fun z => nomatch z)
  rw [e1] at z2
  obtain ⟨p, kv, rfl, h0, hF, hH, Dc⟩ := z2
  refine ⟨p, _, hH, trivial, fun od => ?_⟩
  have sm : Same F (upd F p (.frz od (.dT kv))) := Same.upd hF
  have s' := s.freezeG (o := .frz od (.dT kv)) (g' := .f (rE Q R) kvs) (by rw [e1]; rfl) z1 h0 hF ⟨.ref p, rfl, .dcT upd_same (by rw [List.map_map]; exact Dc.ks) (by rw [List.map_map]; exact DqAll.mono sm _ _ Dc.vs), okE Dc⟩ rfl
  exact h σ _ _ s' r e D q1 fun b eb σ' F2 H' sm2 => q2 b eb σ' F2 H' (sm.trans sm2)
/-- d[k] = v -/
theorem bd_dput [DecidableEq κ] {i : Nat} {kvs : List (κ × α)} {m : Option α} {mk : Option κ} {kk : κ → α → Option (Fl ρ β)} {out : β → List Sl} (hQ : KyK Q) (he : Q.e = true) (h1 : gt Γ i = .d Q R kvs) (h : Ev K F0 H0 te Γ .r R m) (hi : Ev K F0 H0 ti Γ .r Q mk)
    (hk : ∀ a x, Bd K F0 H0 u (st Γ i (.d Q R (putD kvs a x))) k P out (kk a x)) : Bd K F0 H0 (tSeq (sDPut (tVar i) ti te) u) Γ k P out (m.bind fun x => mk.bind fun a => if kvs.length < 16777216 then kk a x else none) := by
  intro σ F H s r e D q1 q2
  cases m with
  | none => cases e
  | some x =>
    cases mk with
    | none => cases e
    | some a =>
      have e : (if kvs.length < 16777216 then kk a x else none) = some r := e
      split at e
      · rename_i hl
        obtain ⟨z, hz, h2⟩ := s.sl.get (i := i) (by rw [h1]; exact fun z => nomatch z)
        rw [h1] at h2
        obtain ⟨p, kv, rfl, h0, hF, hH, Dc⟩ := h2
        refine h σ F H s x rfl _ fun v F1 H1 s1 o1 => ?_
        refine ⟨.ref p, hz, ?_⟩
        refine hi σ F1 H1 (s.mono s1) a rfl _ fun y F2 H2 s2 o2 => ?_
        obtain ⟨key, ek⟩ := hQ a
        have ey : y = kV key := dq_key (by rw [← ek]; exact o2.1)
        subst ey
        have hH2 := s2.hh _ _ (s1.hh _ _ hH)
        have hF2 := s2.ow _ _ (s1.hh _ _ hH) (s1.ow _ _ hH hF trivial) trivial
        have Dc2 := Dc.mono (s1.ff.trans s2.ff)
        refine ⟨p, _, rfl, DPut.k hH2 (by rw [Dc.length, sizeLine_eq]; exact hl), ?_⟩
        exact hk a x _ F2 _ (((s.mono s1).mono s2).writeG (g' := .d Q R (putD kvs a x)) (by rw [h1]; rfl) hz h0 hF2 ⟨p, _, rfl, h0, hF2, upd_same, Dc2.put he (fun _ _ => keyD_inj) ek o2.2 (o1.mono s2.ff) hl⟩ rfl) r e D q1
          fun b eb σ2 F3 H3 sm2 => q2 b eb σ2 F3 H3 ((s1.ff.trans s2.ff).trans sm2)
      · cases e
theorem bd_eput [DecidableEq κ] {i : Nat} {kvs : List (κ × α)} {m : Option α} {mk : Option κ} {kk : κ → α → Option (Fl ρ β)} {out : β → List Sl} (hQ : KyT Q) (he : Q.e = true) (h1 : gt Γ i = .e Q R kvs) (h : Ev K F0 H0 te Γ .r R m) (hi : Ev K F0 H0 ti Γ .r Q mk)
    (hk : ∀ a x, Bd K F0 H0 u (st Γ i (.e Q R (putD kvs a x))) k P out (kk a x)) : Bd K F0 H0 (tSeq (sDPut (tVar i) ti te) u) Γ k P out (m.bind fun x => mk.bind fun a => if kvs.length < 16777216 then kk a x else none) := by
  intro σ F H s r e D q1 q2
  cases m with
  | none => cases e
  | some x =>
    cases mk with
    | none => cases e
    | some a =>
      have e : (if kvs.length < 16777216 then kk a x else none) = some r := e
      split at e
      · rename_i hl
        obtain ⟨z, hz, h2⟩ := s.sl.get (i := i) (by rw [h1]; exact fun z => nomatch z)
        rw [h1] at h2
        obtain ⟨p, kv, rfl, h0, hF, hH, Dc⟩ := h2
        refine h σ F H s x rfl _ fun v F1 H1 s1 o1 => ?_
        refine ⟨.ref p, hz, ?_⟩
        refine hi σ F1 H1 (s.mono s1) a rfl _ fun y F2 H2 s2 o2 => ?_
        obtain ⟨key, ek⟩ := hQ a
        obtain ⟨b, rfl, hb⟩ := dq_tup (key := key) (by rw [← ek]; exact o2.1)
        have hH2 := s2.hh _ _ (s1.hh _ _ hH)
        have hF2 := s2.ow _ _ (s1.hh _ _ hH) (s1.ow _ _ hH hF trivial) trivial
        have Dc2 := Dc.mono (s1.ff.trans s2.ff)
        refine ⟨p, _, rfl, DPut.t hH2 (s2.fh _ _ hb) (by rw [Dc.length, sizeLine_eq]; exact hl), ?_⟩
        exact hk a x _ F2 _ (((s.mono s1).mono s2).writeG (g' := .e Q R (putD kvs a x)) (by rw [h1]; rfl) hz h0 hF2 ⟨p, _, rfl, h0, hF2, upd_same, Dc2.put he (fun _ _ => tupD_inj) ek o2.2 (o1.mono s2.ff) hl⟩ rfl) r e D q1
          fun b eb σ2 F3 H3 sm2 => q2 b eb σ2 F3 H3 ((s1.ff.trans s2.ff).trans sm2)
      · cases e
/-- what stands at a key -/
theorem dget_at [DecidableEq κ] {H F : Hp} {p : Addr} {kv : List (Key × V)} {kvs : List (κ × α)} {a : κ} {y : V} (hQ : KyK Q) (he : Q.e = true) (hR : Rd H p (.dK kv)) (Dc : Dct K F keyD Q R kv kvs) (o : Rep K F y Q a) :
    (atD kvs a = none ∧ DGet H p y none) ∨ ∃ x v, atD kvs a = some x ∧ DGet H p y (some v) ∧ Rep K F v R x := by
  obtain ⟨key, ek⟩ := hQ a
  have ey : y = kV key := dq_key (by rw [← ek]; exact o.1)
  subst ey
  rcases Dc.get he (fun _ _ => keyD_inj) ek with ⟨h1, h2⟩ | ⟨x, v, h1, h2, h3⟩
  · exact .inl ⟨h1, .inl ⟨kv, key, hR, rfl, h2.symm⟩⟩
  · exact .inr ⟨x, v, h1, .inl ⟨kv, key, hR, rfl, h2.symm⟩, h3⟩
theorem eget_at [DecidableEq κ] {H F : Hp} {p : Addr} {kv : List (List Key × V)} {kvs : List (κ × α)} {a : κ} {y : V} (fh : Same F H) (hQ : KyT Q) (he : Q.e = true) (hR : Rd H p (.dT kv)) (Dc : Dct K F tupD Q R kv kvs) (o : Rep K F y Q a) :
    (atD kvs a = none ∧ DGet H p y none) ∨ ∃ x v, atD kvs a = some x ∧ DGet H p y (some v) ∧ Rep K F v R x := by
  obtain ⟨key, ek⟩ := hQ a
  obtain ⟨b, rfl, hb⟩ := dq_tup (key := key) (by rw [← ek]; exact o.1)
  rcases Dc.get he (fun _ _ => tupD_inj) ek with ⟨h1, h2⟩ | ⟨x, v, h1, h2, h3⟩
  · exact .inl ⟨h1, .inr ⟨kv, key, b, hR, rfl, fh _ _ hb, h2.symm⟩⟩
  · exact .inr ⟨x, v, h1, .inr ⟨kv, key, b, hR, rfl, fh _ _ hb, h2.symm⟩, h3⟩
theorem Rd.step {F H F' H' : Hp} {p : Addr} {o : HO} (s : Step F H F' H') (h : Rd H p o) : Rd H' p o := Rd.mono s.hh h
/-- d[k] -/
theorem ev_dget [DecidableEq κ] {m : Option (List (κ × α))} {mk : Option κ} (hQ : KyK Q) (he : Q.e = true) (h : EvD K F0 H0 td Γ Q R m) (hi : Ev K F0 H0 ti Γ .r Q mk) : Ev K F0 H0 (tDGet td ti) Γ .r R (m.bind fun d => mk.bind fun a => atD d a) := by
  intro σ F H s c e P q
  cases m with
  | none => cases e
  | some kvs =>
    cases mk with
    | none => cases e
    | some a =>
      have e : atD kvs a = some c := e
      refine h σ F H s kvs rfl _ fun p kv F1 H1 s1 r1 D1 => ?_
      refine hi σ F1 H1 (s.mono s1) a rfl _ fun y F2 H2 s2 o2 => ?_
      rcases dget_at hQ he (Rd.step s2 r1) (D1.mono s2.ff) o2 with ⟨h1, _⟩ | ⟨x, v, h1, h2, h3⟩
      · rw [e] at h1; cases h1
      · rw [e] at h1
        cases h1
        exact ⟨p, v, rfl, h2, q v F2 H2 (s1.trans s2) h3⟩
theorem ev_eget [DecidableEq κ] {m : Option (List (κ × α))} {mk : Option κ} (hQ : KyT Q) (he : Q.e = true) (h : EvE K F0 H0 td Γ Q R m) (hi : Ev K F0 H0 ti Γ .r Q mk) : Ev K F0 H0 (tDGet td ti) Γ .r R (m.bind fun d => mk.bind fun a => atD d a) := by
  intro σ F H s c e P q
  cases m with
  | none => cases e
  | some kvs =>
    cases mk with
    | none => cases e
    | some a =>
      have e : atD kvs a = some c := e
      refine h σ F H s kvs rfl _ fun p kv F1 H1 s1 r1 D1 => ?_
      refine hi σ F1 H1 (s.mono s1) a rfl _ fun y F2 H2 s2 o2 => ?_
      rcases eget_at s2.fh hQ he (Rd.step s2 r1) (D1.mono s2.ff) o2 with ⟨h1, _⟩ | ⟨x, v, h1, h2, h3⟩
      · rw [e] at h1; cases h1
      · rw [e] at h1
        cases h1
        exact ⟨p, v, rfl, h2, q v F2 H2 (s1.trans s2) h3⟩
/-- d.get(k, x) -/
theorem ev_dget2 [DecidableEq κ] {m : Option (List (κ × α))} {mk : Option κ} {mx : Option α} (hQ : KyK Q) (he : Q.e = true) (h : EvD K F0 H0 td Γ Q R m) (hi : Ev K F0 H0 ti Γ .r Q mk) (hx : Ev K F0 H0 tx Γ .r R mx) :
    Ev K F0 H0 (tDGet2 td ti tx) Γ .r R (m.bind fun d => mk.bind fun a => mx.bind fun x => getOr d a x) := by
  intro σ F H s c e P q
  cases m with
  | none => cases e
  | some kvs =>
    cases mk with
    | none => cases e
    | some a =>
      cases mx with
      | none => cases e
      | some x =>
        have e : some ((atD kvs a).getD x) = some c := e
        refine h σ F H s kvs rfl _ fun p kv F1 H1 s1 r1 D1 => ⟨p, rfl, .inl ⟨kv, r1⟩, ?_⟩
        refine hi σ F1 H1 (s.mono s1) a rfl _ fun y F2 H2 s2 o2 => ?_
        refine hx σ F2 H2 ((s.mono s1).mono s2) x rfl _ fun z F3 H3 s3 o3 => ?_
        rcases dget_at hQ he (Rd.step s3 (Rd.step s2 r1)) (D1.mono (s2.ff.trans s3.ff)) (o2.mono s3.ff) with ⟨h1, h2⟩ | ⟨x', v, h1, h2, h3⟩
        · rw [h1] at e
          cases e
          exact ⟨none, h2, q z F3 H3 (s1.trans (s2.trans s3)) o3⟩
        · rw [h1] at e
          cases e
          exact ⟨some v, h2, q v F3 H3 (s1.trans (s2.trans s3)) h3⟩
theorem ev_eget2 [DecidableEq κ] {m : Option (List (κ × α))} {mk : Option κ} {mx : Option α} (hQ : KyT Q) (he : Q.e = true) (h : EvE K F0 H0 td Γ Q R m) (hi : Ev K F0 H0 ti Γ .r Q mk) (hx : Ev K F0 H0 tx Γ .r R mx) :
    Ev K F0 H0 (tDGet2 td ti tx) Γ .r R (m.bind fun d => mk.bind fun a => mx.bind fun x => getOr d a x) := by
  intro σ F H s c e P q
  cases m with
  | none => cases e
  | some kvs =>
    cases mk with
    | none => cases e
    | some a =>
      cases mx with
      | none => cases e
      | some x =>
        have e : some ((atD kvs a).getD x) = some c := e
        refine h σ F H s kvs rfl _ fun p kv F1 H1 s1 r1 D1 => ⟨p, rfl, .inr ⟨kv, r1⟩, ?_⟩
        refine hi σ F1 H1 (s.mono s1) a rfl _ fun y F2 H2 s2 o2 => ?_
        refine hx σ F2 H2 ((s.mono s1).mono s2) x rfl _ fun z F3 H3 s3 o3 => ?_
        rcases eget_at s3.fh hQ he (Rd.step s3 (Rd.step s2 r1)) (D1.mono (s2.ff.trans s3.ff)) (o2.mono s3.ff) with ⟨h1, h2⟩ | ⟨x', v, h1, h2, h3⟩
        · rw [h1] at e
          cases e
          exact ⟨none, h2, q z F3 H3 (s1.trans (s2.trans s3)) o3⟩
        · rw [h1] at e
          cases e
          exact ⟨some v, h2, q v F3 H3 (s1.trans (s2.trans s3)) h3⟩
/-- k in d -/
theorem ev_din [DecidableEq κ] {m : Option (List (κ × α))} {mk : Option κ} (hQ : KyK Q) (he : Q.e = true) (hi : Ev K F0 H0 ti Γ .r Q mk) (h : EvD K F0 H0 td Γ Q R m) : Ev K F0 H0 (tDIn ti td) Γ .r rB (mk.bind fun a => m.bind fun d => inD a d) := by
  intro σ F H s c e P q
  cases mk with
  | none => cases e
  | some a =>
    cases m with
    | none => cases e
    | some kvs =>
      have e : some (atD kvs a).isSome = some c := e
      refine hi σ F H s a rfl _ fun y F1 H1 s1 o1 => ?_
      refine h σ F1 H1 (s.mono s1) kvs rfl _ fun p kv F2 H2 s2 r2 D2 => ?_
      rcases dget_at hQ he r2 D2 (o1.mono s2.ff) with ⟨h1, h2⟩ | ⟨x', v, h1, h2, h3⟩
      · rw [h1] at e
        cases e
        exact ⟨p, _, rfl, h2, q _ F2 H2 (s1.trans s2) (rep_bool.mpr rfl)⟩
      · rw [h1] at e
        cases e
        exact ⟨p, _, rfl, h2, q _ F2 H2 (s1.trans s2) (rep_bool.mpr rfl)⟩
theorem ev_dnotin [DecidableEq κ] {m : Option (List (κ × α))} {mk : Option κ} (hQ : KyK Q) (he : Q.e = true) (hi : Ev K F0 H0 ti Γ .r Q mk) (h : EvD K F0 H0 td Γ Q R m) : Ev K F0 H0 (tDNotIn ti td) Γ .r rB (mk.bind fun a => m.bind fun d => notInD a d) := by
  intro σ F H s c e P q
  cases mk with
  | none => cases e
  | some a =>
    cases m with
    | none => cases e
    | some kvs =>
      have e : some (!(atD kvs a).isSome) = some c := e
      refine hi σ F H s a rfl _ fun y F1 H1 s1 o1 => ?_
      refine h σ F1 H1 (s.mono s1) kvs rfl _ fun p kv F2 H2 s2 r2 D2 => ?_
      rcases dget_at hQ he r2 D2 (o1.mono s2.ff) with ⟨h1, h2⟩ | ⟨x', v, h1, h2, h3⟩
      · rw [h1] at e
        cases e
        exact ⟨p, _, rfl, h2, q _ F2 H2 (s1.trans s2) (rep_bool.mpr rfl)⟩
      · rw [h1] at e
        cases e
        exact ⟨p, _, rfl, h2, q _ F2 H2 (s1.trans s2) (rep_bool.mpr rfl)⟩
/-- len(d) -/
theorem ev_lenD {m : Option (List (κ × α))} (h : EvD K F0 H0 td Γ Q R m) : Ev K F0 H0 (tCB (fun xs H Q => ∃ a kvs, xs = [V.ref a] ∧ Rd H a (.dK kvs) ∧ Q (.int kvs.length) H) (tCons td tNil)) Γ .r rI (m.bind fun d => lenL d) := by
  intro σ F H s c e P q
  cases m with
  | none => cases e
  | some kvs =>
    cases e
    refine h σ F H s kvs rfl _ fun p kv F1 H1 s1 r1 D1 => ?_
    exact ⟨p, kv, rfl, r1, q _ F1 H1 s1 (rep_int.mpr (by rw [D1.length]))⟩
/-- for k in d -/
theorem key_rep {F : Hp} {key : Key} {a : κ} (e : Q.toD a = keyD key) (ok : okD (Q.toD a) = true) : Rep K F (kV key) Q a := ⟨by rw [e]; exact key_dq key, ok⟩
theorem Dct.at {F : Hp} {Kk : Type} {kd : Kk → PyData} {kv : List (Kk × V)} {kvs : List (κ × α)} (D : Dct K F kd Q R kv kvs) {i : Nat} {q : κ × α} {p : Kk × V} (h1 : kvs[i]? = some q) (h2 : kv[i]? = some p) : Q.toD q.1 = kd p.1 ∧ Y.okD (Q.toD q.1) = true ∧ Rep K F p.2 R q.2 := by
  have a := congrArg (fun l => l[i]?) D.ks
  simp only [List.getElem?_map, h1, h2, Option.map_some, Option.some.injEq] at a
  obtain ⟨v, hv, r⟩ := DqAll.get (i := i) D.vs (d := R.toD q.2) (by rw [List.getElem?_map, h1]; rfl)
  rw [List.getElem?_map, h2] at hv
  cases hv
  have ok := D.ok q (List.mem_of_getElem? h1)
  exact ⟨a, ok.1, r, ok.2⟩
theorem ei_keys {m : Option (List (κ × α))} (hQ : KyK Q) (h : Ev K F0 H0 td Γ .r (rD Q R) m) : Ei K F0 H0 (iKeys td) Γ Q (m.bind fun d => keysD d) := by
  intro σ F H s xs e P q
  cases m with
  | none => cases e
  | some kvs =>
    cases e
    refine h σ F H s kvs rfl _ fun v F1 H1 s1 o1 => ?_
    obtain ⟨p, ob, kv, rfl, hF, D⟩ := Rep.dct hQ o1
    refine ⟨p, ob, rfl, .inl ⟨kv, s1.fh _ _ hF, q _ F1 H1 s1 ⟨fun F' H' ff fh i a ea => ?_, fun F' H' ff fh => ?_, by rw [List.length_map]; exact D.len⟩⟩⟩
    · rw [List.getElem?_map] at ea
      obtain ⟨x, hx, rfl⟩ := Option.map_eq_some_iff.mp ea
      have hi := (List.getElem?_eq_some_iff.mp hx).1
      refine ⟨⟨fh _ _ (ff _ _ hF), by rw [D.length]; exact hi⟩, fun y H'' hy => ?_⟩
      obtain ⟨rfl, key, v, hkv, rfl⟩ := hy
      obtain ⟨a1, a2, _⟩ := D.at hx hkv
      exact ⟨F', Step.refl fh, key_rep a1 a2⟩
    · exact ⟨fh _ _ (ff _ _ hF), by rw [D.length, List.length_map]; exact Nat.le_refl _⟩
theorem ei_items {m : Option (List (κ × α))} (hQ : KyK Q) (h : Ev K F0 H0 td Γ .r (rD Q R) m) : Ei K F0 H0 (iItems td) Γ (rP Q R) m := by
  intro σ F H s xs e P q
  refine h σ F H s xs e _ fun v F1 H1 s1 o1 => ?_
  obtain ⟨p, ob, kv, rfl, hF, D⟩ := Rep.dct hQ o1
  refine ⟨p, ob, kv, rfl, s1.fh _ _ hF, q _ F1 H1 s1 ⟨fun F' H' ff fh i x hx => ?_, fun F' H' ff fh => ?_, D.len⟩⟩
  · have hi := (List.getElem?_eq_some_iff.mp hx).1
    refine ⟨⟨fh _ _ (ff _ _ hF), by rw [D.length]; exact hi⟩, fun y H'' hy => ?_⟩
    obtain ⟨T0, key, v, hkv, rfl, nn, rfl⟩ := hy
    obtain ⟨a1, a2, a3⟩ := D.at hx hkv
    exact new_pair fh nn (key_rep a1 a2) (a3.mono ff)
  · exact ⟨fh _ _ (ff _ _ hF), by rw [D.length]; exact Nat.le_refl _⟩
theorem ei_keysT {m : Option (List (κ × α))} (hQ : KyT Q) (h : Ev K F0 H0 td Γ .r (rE Q R) m) : Ei K F0 H0 (iKeys td) Γ Q (m.bind fun d => keysD d) := by
  intro σ F H s xs e P q
  cases m with
  | none => cases e
  | some kvs =>
    cases e
    refine h σ F H s kvs rfl _ fun v F1 H1 s1 o1 => ?_
    obtain ⟨p, ob, kv, rfl, hF, D⟩ := Rep.dcE o1
    refine ⟨p, ob, rfl, .inr ⟨kv, s1.fh _ _ hF, q _ F1 H1 s1 ⟨fun F' H' ff fh i a ea => ?_, fun F' H' ff fh => ?_, by rw [List.length_map]; exact D.len⟩⟩⟩
    · rw [List.getElem?_map] at ea
      obtain ⟨x, hx, rfl⟩ := Option.map_eq_some_iff.mp ea
      have hi := (List.getElem?_eq_some_iff.mp hx).1
      refine ⟨⟨fh _ _ (ff _ _ hF), by rw [D.length]; exact hi⟩, fun y H'' hy => ?_⟩
      obtain ⟨rfl, key, v, b, hkv, rfl, hb⟩ := hy
      obtain ⟨a1, a2, _⟩ := D.at hx hkv
      -- the tuple is frozen now, if it was not
      have rep : ∀ F'', F'' b = some (.tup (key.map kV)) → Rep K F'' (.ref b) Q x.1 := fun F'' z => ⟨by rw [a1]; exact .tup z (keys_dq key), a2⟩
      cases eb : F' b with
      | some o =>
        have := fh _ _ eb
        rw [hb] at this
        cases this
        exact ⟨F', Step.refl fh, rep F' eb⟩
      | none =>
        refine ⟨upd F' b (.tup (key.map kV)), ⟨Same.upd eb, Same.refl _, fun c z hz => ?_, fun c z hz nz mz => ?_⟩, rep _ upd_same⟩
        · by_cases hc : c = b
          · subst hc; rw [upd_same] at hz; rw [← hz]; exact hb
          · rw [upd_ne hc] at hz; exact fh c z hz
        · have hc : c ≠ b := fun y => by subst y; rw [hb] at hz; cases hz; exact mz
          rw [upd_ne hc]; exact nz
    · exact ⟨fh _ _ (ff _ _ hF), by rw [D.length, List.length_map]; exact Nat.le_refl _⟩
end
end Y

/-! mirrored sequences; in, count, index of any data; join; least and greatest; several targets -/
namespace Y
open PySem PySem.Spec PyProof.Rows L2

/-! ### t[::-1], s[::-1] -/
section
variable {prog : Program} {w : World} {A : Around} {E : Value → Shared → Prop} {s : Shared}
theorem adjust_rev (n : Nat) : Builtin.Slice.sliceAdjust none none (-1) (n : Int) = ((n : Int) - 1, -1) := by
  unfold Builtin.Slice.sliceAdjust
  simp
theorem places_rev (n : Nat) : Builtin.Slice.slicePlaces ((n : Int) - 1) (-1) (-1) = n := by
  unfold Builtin.Slice.slicePlaces
  have h1 : ¬ ((-1 : Int) > 0) := by decide
  simp only [h1, if_false]
  split <;> simp <;> omega
theorem sliceApplied_rev {sl : Addr} {vs : Value} {n : Nat} {Q : Int × Int × Nat → Shared → Prop} (hs : s.heap.IsSliceOf sl .none .none vs) (ps : IsPart vs (some (-1))) (h : Q ((n : Int) - 1, -1, n) s) : wpAny (model prog w) A (Builtin.Slice.sliceApplied (.ref sl) (pure (n : Int))) Q E s := by
  obtain ⟨os, hos, hcs, hds⟩ := id hs
  unfold Builtin.Slice.sliceApplied Builtin.Slice.sliceFields
  refine wpAny_bind (wpAny_bind (wpAny_field hos hds (x := .none) rfl (wpAny_bind (wpAny_field hos hds (x := .none) rfl (wpAny_bind (wpAny_field hos hds (x := vs) rfl (wpAny_pure ?_)))))))
  refine wpAny_bind (HT.slicePart_ ps ?_)
  show wpAny _ _ (if ((-1 : Int) == 0) = true then _ else _) _ _ s
  rw [if_neg (by decide)]
  refine wpAny_bind (HT.slicePart_ .none (wpAny_bind (HT.slicePart_ .none (wpAny_bind (wpAny_pure ?_)))))
  show wpAny _ _ (match Builtin.Slice.sliceAdjust none none (-1) (n : Int) with | (lo, hi) => pure (lo, (-1 : Int), Builtin.Slice.slicePlaces lo hi (-1))) _ _ s
  rw [adjust_rev]
  show wpAny _ _ (pure ((n : Int) - 1, (-1 : Int), Builtin.Slice.slicePlaces ((n : Int) - 1) (-1) (-1))) _ _ s
  rw [places_rev]
  exact wpAny_pure h
theorem pick_rev (xs : Array Value) : ((List.range xs.size).filterMap fun (m : Nat) => xs[(((xs.size : Int) - 1) + (m : Int) * (-1)).toNat]?).toArray = xs.toList.reverse.toArray := by
  congr 1
  have e : ∀ m ∈ List.range xs.size, xs[(((xs.size : Int) - 1) + (m : Int) * (-1)).toNat]? = (fun m => xs[m]?) (xs.size - 1 - m) := fun m hm => by
    have := List.mem_range.mp hm
    have e2 : (((xs.size : Int) - 1) + (m : Int) * (-1)).toNat = xs.size - 1 - m := by omega
    rw [e2]
  have fm : ∀ (l : List Nat) (f g : Nat → Option Value), (∀ m ∈ l, f m = g m) → l.filterMap f = l.filterMap g := by
    intro l f g
    induction l with
    | nil => intro _; rfl
    | cons a l ih =>
      intro h
      rw [List.filterMap_cons, List.filterMap_cons, h a List.mem_cons_self, ih fun m hm => h m (List.mem_cons_of_mem _ hm)]
  rw [fm _ _ _ e]
  have e3 : (List.range xs.size).filterMap (fun m => (fun m => xs[m]?) (xs.size - 1 - m)) = ((List.range xs.size).map fun k => xs.size - 1 - k).filterMap fun m => xs[m]? := by
    rw [List.filterMap_map]
    rfl
  rw [e3, PySem.W.krv_range, List.filterMap_reverse, PySem.W.krv_all]
theorem getItem_tuple_rev {t sl : Addr} {items : Array Value} {vs : Value} {Q : Value → Shared → Prop} (ht : IsTup s.heap t items) (hs : s.heap.IsSliceOf sl .none .none vs) (ps : IsPart vs (some (-1)))
    (h : Q (.ref s.heap.objs.size) { s with heap := s.heap.push { cls := .type "tuple", data := .seq items.toList.reverse.toArray } })
    (hsz : items.size ≤ sizeLine) : wpAny (model prog w) A (getItem (.ref t) (.ref sl)) Q E s := by
  have htake : sizeOk (.seq items.toList.reverse.toArray) := by
    show items.toList.reverse.toArray.size ≤ sizeLine
    rw [List.size_toArray, List.length_reverse, Array.length_toList]
    exact hsz
  obtain ⟨os, hos, hcs, hds⟩ := id hs
  have hTs : s.TypeIs (.ref sl) "slice" := ⟨os, hos, hcs⟩
  unfold getItem
  try with_reducible refine wpAny_holding ?_
  first | refine wpAny_bind (wpAny_pure ?_) | skip
  refine wpAny_bind (wpAny_sequenceKey ht.typeIs (by decide) ?_)
  refine wpAny_bind (wpAny_callSpecial?_slot (name := Str.ofString "__getitem__") ht.typeIs PyProof.Rows.slot_tuple_getitem
    (wpAny_call_entry PyProof.Rows.slot_tuple_getitem ht.typeIs entry_tuple_getitem ?_ (args_tuple_getitem _ _)))
  show wpAny _ _ (Builtin.Tuple.tupleItemsOf (.ref t) >>= _) _ _ s
  refine wpAny_bind (tupleItemsOf_ ht ?_)
  refine wpAny_bind (wpAny_typeOf hTs ?_)
  rw [if_pos (by decide)]
  refine wpAny_bind (sliceApplied_rev hs ps ?_)
  have hno : ¬ ((((items.size : Int) - 1) == 0 && (-1 : Int) == 1 && items.size == items.size) = true) := by
    intro q
    rw [Bool.and_eq_true, Bool.and_eq_true] at q
    have q1 : (-1 : Int) = 1 := eq_of_beq q.1.2
    omega
  show wpAny _ _ (if (((items.size : Int) - 1) == 0 && (-1 : Int) == 1 && items.size == items.size) = true then _ else _) _ _ s
  rw [if_neg hno, pick_rev]
  first
    | exact wpAny_bind (m := Builtin.Tuple.tupleExact _) (wpAny_newObj_type (wpAny_pure ⟨_, rfl, wpAny_pure h⟩) htake)
    | exact wpAny_bind (m := Builtin.Tuple.tupleExact _) (wpAny_newObj_type (wpAny_bind (wpAny_pure (wpAny_pure ⟨_, rfl, wpAny_pure h⟩))) htake)
    | exact wpAny_bind (wpAny_bind (m := Builtin.Tuple.tupleExact _) (wpAny_newObj_type (wpAny_pure (wpAny_pure ⟨_, rfl, wpAny_pure h⟩)) htake))
    | exact wpAny_bind (wpAny_bind (m := Builtin.Tuple.tupleExact _) (wpAny_newObj_type (wpAny_pure ⟨_, rfl, wpAny_pure h⟩) htake))
end
section
variable {X : Cx}
def tRevT (K : PySem.W.Frag) (te : TE) : TE := fun σ H Q => te σ H fun x H1 => ∃ a xs, x = .ref a ∧ SqT K H1 a xs ∧ ∀ p, H1 p = none → Q (.ref p) (upd H1 p (.tup xs.reverse))
theorem pe_revT {e : Expr} {te : TE} {k : Nat} {p1 p2 p3 pos : Pos} (he : PE X e te) : PE X (.Subscript e (.Slice none none (some (.UnaryOp .USub (.Constant (.int 1) k p1) p2)) p3) pos) (tRevT X.K te) := by
  refine ⟨fun pins s σ H Q I h => ?_⟩
  refine Subscript_ (thn (he.run pins s σ H _ I h) fun v s1 ⟨x, H1, I1, r1, q1⟩ => ?_)
  obtain ⟨a, xs, ex, hx, q⟩ := q1
  subst ex
  cases r1
  have hst : PO X (some (.UnaryOp .USub (.Constant (.int 1) k p1) p2)) (tPart (tUn (rU fun i => .int (-i)) (tC (.int 1)))) := po_some (pe_un un_neg pe_int)
  refine wpAny_Slice (thn (po_none.run pins s1 σ H1 (fun o H2 => o = none ∧ H2 = H1) I1 ⟨rfl, rfl⟩) fun vl s2 ⟨l, H2, I2, pl, el, e2⟩ => ?_)
  subst el e2
  refine thn (po_none.run pins s2 σ H2 (fun o H3 => o = none ∧ H3 = H2) I2 ⟨rfl, rfl⟩) fun vu s3 ⟨u, H3, I3, pu, eu, e3⟩ => ?_
  subst eu e3
  refine thn (hst.run pins s3 σ H3 (fun o H4 => o = some (-1) ∧ H4 = H3) I3 ⟨1, rfl, -1, rfl, rfl, rfl⟩) fun vs s4 ⟨o, H4, I4, ps, eo, e4⟩ => ?_
  subst eo e4
  have I5 : Inv X pins σ H4 { s4 with heap := s4.heap.push { cls := .type "slice", data := .fields #[vl, vu, vs] } } := I4.kept (t' := s4.toks) fun b ob q => Heap.get?_push_of_some _ q
  obtain ⟨its, r, ht, hz⟩ := I5.tuple hx
  have hlen := r.length
  cases pl
  cases pu
  show wpAny (model X.prog X.w) X.A (subscriptTail e (.Slice none none (some (.UnaryOp .USub (.Constant (.int 1) k p1) p2)) p3) (.ref a) (.ref s4.heap.objs.size)) (EP X pins σ Q) X.xe { s4 with heap := s4.heap.push { cls := .type "slice", data := .fields #[.none, .none, vs] } }
  refine tail_any (ops := [.ref a, .ref s4.heap.objs.size]) ht.typeIs (PyProof.Rows.slot_tuple_getitem.lookup) ?_ (by with_unfolding_all rfl)
  refine getItem_tuple_rev ht (Heap.IsSliceOf.new _ .none .none vs) ps ?_ (by rw [List.size_toArray]; omega)
  refine ⟨.ref _, _, I5.laid (t' := s4.toks) (o := .tup xs.reverse) (fun b ob q => Heap.get?_push_of_some _ q) (Nat.le_refl _) ?_, rfl, q _ (I5.hok.fresh (Nat.le_refl _))⟩
  exact ⟨by rw [List.length_reverse]; exact hz, _, r.reverse, IsTup.new _ _⟩
def revStr (x : Str) : Str := ⟨x.cps.toList.reverse.toArray⟩
def tRevS (te : TE) : TE := fun σ H Q => te σ H fun x H1 => ∃ z, x = .str z ∧ z.length ≤ sizeLine ∧ Q (.str (revStr z)) H1
theorem pe_revS {e : Expr} {te : TE} {k : Nat} {p1 p2 p3 pos : Pos} (he : PE X e te) : PE X (.Subscript e (.Slice none none (some (.UnaryOp .USub (.Constant (.int 1) k p1) p2)) p3) pos) (tRevS te) := by
  refine ⟨fun pins s σ H Q I h => ?_⟩
  refine Subscript_ (thn (he.run pins s σ H _ I h) fun v s1 ⟨x, H1, I1, r1, q1⟩ => ?_)
  obtain ⟨z, ex, hz, q⟩ := q1
  subst ex
  obtain ⟨t, rfl⟩ := r1
  have hst : PO X (some (.UnaryOp .USub (.Constant (.int 1) k p1) p2)) (tPart (tUn (rU fun i => .int (-i)) (tC (.int 1)))) := po_some (pe_un un_neg pe_int)
  refine wpAny_Slice (thn (po_none.run pins s1 σ H1 (fun o H2 => o = none ∧ H2 = H1) I1 ⟨rfl, rfl⟩) fun vl s2 ⟨l, H2, I2, pl, el, e2⟩ => ?_)
  subst el e2
  refine thn (po_none.run pins s2 σ H2 (fun o H3 => o = none ∧ H3 = H2) I2 ⟨rfl, rfl⟩) fun vu s3 ⟨u, H3, I3, pu, eu, e3⟩ => ?_
  subst eu e3
  refine thn (hst.run pins s3 σ H3 (fun o H4 => o = some (-1) ∧ H4 = H3) I3 ⟨1, rfl, -1, rfl, rfl, rfl⟩) fun vs s4 ⟨o, H4, I4, ps, eo, e4⟩ => ?_
  subst eo e4
  have I5 : Inv X pins σ H4 { s4 with heap := s4.heap.push { cls := .type "slice", data := .fields #[vl, vu, vs] } } := I4.kept (t' := s4.toks) fun b ob q => Heap.get?_push_of_some _ q
  cases pl
  cases pu
  cases ps with
  | int i tk =>
    show wpAny (model X.prog X.w) X.A (subscriptTail e (.Slice none none (some (.UnaryOp .USub (.Constant (.int 1) k p1) p2)) p3) (.str z t) (.ref s4.heap.objs.size)) (EP X pins σ Q) X.xe { s4 with heap := s4.heap.push { cls := .type "slice", data := .fields #[.none, .none, .int (-1) tk] } }
    refine tail_any (ops := [.str z t, .ref s4.heap.objs.size]) (typeIs_str _ z t) (PySem.F.slot_str_getitem.lookup) ?_ (by with_unfolding_all rfl)
    refine wpAny_getItem_str_slice (l := none) (u := none) (st := some (-1, tk)) ⟨_, Heap.get?_push_size _ rfl, rfl, rfl⟩ rfl ?_
    have e1 : sliceMade z t none none (some (-1, tk)) = .str (revStr z) := by
      have e2 : slicePicked z none none (some (-1, tk)) = (List.range z.length).reverse := by
        show Builtin.Str.strSliceIndices none none (-1) z.length = _
        unfold Builtin.Str.strSliceIndices
        exact (PySem.W.krv_sliceRange z.length).trans (PySem.W.krv_range z.length)
      unfold sliceMade
      rw [if_neg (by rw [Bool.and_eq_true]; exact fun h => absurd (show (-1 : Int) = 1 from eq_of_beq h.1) (by decide)), e2, List.filterMap_reverse]
      show Made.str ⟨((List.range z.cps.size).filterMap fun x => z.cps[x]?).reverse.toArray⟩ = _
      rw [PySem.W.krv_all]
      rfl
    rw [e1]
    exact ⟨by simpa [revStr, Str.length] using hz, .str _, H4, I5.tok _, ⟨_, rfl⟩, q⟩
end

/-- l.count(x) of any data -/
def rCountD (K : PySem.W.Frag) : V → List V → Hp → VK → Prop := fun x xs H Q => ∃ (a : Addr) (y : V) (d : PyData) (ds : List PyData), x = V.ref a ∧ xs = [y] ∧ Dp K H (V.ref a) (.list ds) ∧ Dp K H y d ∧
  SeqAt.shaped (.list ds) = true ∧ SeqAt.shaped d = true ∧ Q (.int (ds.countP fun z => PyData.eqv z d : Nat)) H
theorem mt_countD {X : Cx} (hu : X.A.units + 65 < cLine) : MtR X "list.count" (rCountD X.K) := by
  intro pins s σ H x xs v us Q I rx rxs h
  obtain ⟨a, y, d, ds, rfl, rfl, hl, hy, sl, sd, q⟩ := h
  cases rx
  cases rxs with
  | cons ry rt =>
    rename_i uy ut
    cases rt
    obtain ⟨bs, r1⟩ := Dp.reads I d y uy hy ry
    have hxs : PyData.canLayAll0 ds = true := SeqAt.canLay_of_shaped sl
    have hroom : X.A.units + 1 + min (PyData.depthAll ds) d.depth < cLine := room_in_shaped sd hu
    cases hl with
    | lst hs ha =>
      obtain ⟨its, rv, ⟨⟨cls, dd, data, sls⟩, n, ho, hc, hdn, hdt⟩, hlen⟩ := I.list hs
      simp only at hc hdt
      subst hc hdt
      obtain ⟨as, h4⟩ := Dp.readsAll I ds _ its ha rv
      have hmap : its.map (SeqAt.readOf s.heap) = ds := SeqAt.readsAll_map ds its as hxs h4
      refine call_meets PySem.F.slot_list_count ⟨_, ho, rfl⟩ PySem.F.entry_list_count (PySem.F.args_list_count_2 _ _)
        (SeqAt.list_countAt a its.toArray n dd sls uy (fun u => PyData.eqv (SeqAt.readOf s.heap u) d)) ⟨ho, SeqAt.items_eqAt (vs := its.toArray) (show ReadsAll s.heap its.toArray.toList ds as from h4) r1 hxs (SeqAt.canLay_of_shaped sd) hroom, ?_⟩
      have ec : its.toArray.toList.countP (fun u => PyData.eqv (SeqAt.readOf s.heap u) d) = ds.countP fun z => PyData.eqv z d := by
        rw [← hmap, List.countP_map]
        rfl
      refine ⟨.int (ds.countP fun z => PyData.eqv z d : Nat), H, I.tok _, ⟨s.toks, ?_⟩, q⟩
      show Value.int ((its.toArray.toList.countP (fun u => PyData.eqv (SeqAt.readOf s.heap u) d) : Nat) : Int) s.toks = _
      rw [ec]

/-! ### as plain data -/
def revO {α : Type} (xs : List α) : Option (List α) := some xs.reverse
def countL {α : Type} [DecidableEq α] (xs : List α) (x : α) : Option Int := some ((xs.countP fun y => decide (y = x) : Nat) : Int)
def indexL {α : Type} [DecidableEq α] (xs : List α) (x : α) : Option Int := (xs.findIdx? fun y => decide (y = x)).map fun (i : Nat) => (i : Int)
def joinE (sep : List Nat) (xs : List (List Nat)) : Option (List Nat) := if sep = [] ∧ (xs.map List.length).sum ≤ 16777216 then some xs.flatten else none
def maxI : List Int → Option Int
  | [] => none
  | x :: xs => some (xs.foldl max x)
def minI : List Int → Option Int
  | [] => none
  | x :: xs => some (xs.foldl min x)
theorem maxI_is : ∀ {xs : List Int} {m : Int}, maxI xs = some m → m ∈ xs ∧ ∀ y ∈ xs, y ≤ m := by
  have key : ∀ (xs : List Int) (x : Int), xs.foldl max x ∈ x :: xs ∧ ∀ y ∈ x :: xs, y ≤ xs.foldl max x := by
    intro xs
    induction xs with
    | nil => intro x; simp
    | cons z xs ih =>
      intro x
      obtain ⟨h1, h2⟩ := ih (max x z)
      refine ⟨?_, fun y hy => ?_⟩
      · rw [List.foldl_cons]
        rcases List.mem_cons.mp h1 with h | h
        · rw [h]
          by_cases c : x ≤ z
          · rw [Int.max_eq_right c]; simp
          · rw [Int.max_eq_left (by omega)]; simp
        · exact List.mem_cons_of_mem _ (List.mem_cons_of_mem _ h)
      · rw [List.foldl_cons]
        have h3 := h2 (max x z) List.mem_cons_self
        rcases List.mem_cons.mp hy with rfl | hy
        · omega
        · rcases List.mem_cons.mp hy with rfl | hy
          · omega
          · exact h2 y (List.mem_cons_of_mem _ hy)
  intro xs m h
  cases xs with
  | nil => cases h
  | cons x xs => cases h; exact key xs x
theorem minI_is : ∀ {xs : List Int} {m : Int}, minI xs = some m → m ∈ xs ∧ ∀ y ∈ xs, m ≤ y := by
  have key : ∀ (xs : List Int) (x : Int), xs.foldl min x ∈ x :: xs ∧ ∀ y ∈ x :: xs, xs.foldl min x ≤ y := by
    intro xs
    induction xs with
    | nil => intro x; simp
    | cons z xs ih =>
      intro x
      obtain ⟨h1, h2⟩ := ih (min x z)
      refine ⟨?_, fun y hy => ?_⟩
      · rw [List.foldl_cons]
        rcases List.mem_cons.mp h1 with h | h
        · rw [h]
          by_cases c : x ≤ z
          · rw [Int.min_eq_left c]; simp
          · rw [Int.min_eq_right (by omega)]; simp
        · exact List.mem_cons_of_mem _ (List.mem_cons_of_mem _ h)
      · rw [List.foldl_cons]
        have h3 := h2 (min x z) List.mem_cons_self
        rcases List.mem_cons.mp hy with rfl | hy
        · omega
        · rcases List.mem_cons.mp hy with rfl | hy
          · omega
          · exact h2 y (List.mem_cons_of_mem _ hy)
  intro xs m h
  cases xs with
  | nil => cases h
  | cons x xs => cases h; exact key xs x
section
variable {K : PySem.W.Frag} {F0 H0 : Hp} {Γ : List Sl} {α β γ δ ε ρ : Type} {R : Rp ρ} {S : Rp α} {T : Rp γ} {U : Rp δ} {te ta tb tc tl : TE} {u t : TS} {k : Kd} {out : β → List Sl}
theorem ev_revL {m : Option (List α)} (h : Ev K F0 H0 te Γ .v (rL S) m) : Ev K F0 H0 (tRevL K te) Γ .n (rL S) (m.bind fun xs => revO xs) := by
  intro σ F H s c e Q q
  cases m with
  | none => cases e
  | some xs =>
    cases e
    refine h σ F H s xs rfl _ fun v F1 H1 s1 o1 => ?_
    obtain ⟨p, vs, rfl, hq, hd, ho, hl⟩ := Vw.list s1.fh o1
    refine ⟨p, vs, rfl, .inl hq, fun l nl => q _ F1 _ (s1.trans (Step.layO s1.fh nl)) (Ot.back s1 (newL s1.fh nl ?_ (fun x hx => ho x (List.mem_reverse.mp hx)) (by rw [List.length_reverse]; exact hl)))⟩
    rw [List.map_reverse]
    exact DqAll.rev hd
theorem ev_revT {m : Option (List α)} (h : Ev K F0 H0 te Γ .v (rT S) m) : Ev K F0 H0 (tRevT K te) Γ .r (rT S) (m.bind fun xs => revO xs) := by
  intro σ F H s c e Q q
  cases m with
  | none => cases e
  | some xs =>
    cases e
    refine h σ F H s xs rfl _ fun v F1 H1 s1 o1 => ?_
    obtain ⟨p, vs, rfl, hq, hd, ho, hl⟩ := o1.tup.tup
    refine ⟨p, vs, rfl, SameT s1.fh hq, fun l nl => q _ _ _ (s1.trans (Step.lay s1.fh nl)) (newT s1.fh nl ?_ (fun x hx => ho x (List.mem_reverse.mp hx)) (by rw [List.length_reverse]; exact hl))⟩
    rw [List.map_reverse]
    exact DqAll.rev hd
theorem ev_revS {m : Option (List Nat)} (h : Ev K F0 H0 te Γ .v rS m) : Ev K F0 H0 (tRevS te) Γ .r rS (m.bind fun xs => revO xs) := by
  intro σ F H s c e Q q
  cases m with
  | none => cases e
  | some xs =>
    cases e
    refine h σ F H s xs rfl _ fun v F1 H1 s1 o1 => ?_
    obtain ⟨rfl, h1, h2⟩ := o1.str.str
    refine ⟨_, rfl, by simpa [Str.length, sizeLine_eq] using h2, q _ F1 H1 s1 ?_⟩
    have := rep_str (K := K) (F := F1) (x := xs.reverse) (fun c hc => h1 c (List.mem_reverse.mp hc)) (by rw [List.length_reverse]; exact h2)
    have e : revStr ⟨xs.toArray⟩ = ⟨xs.reverse.toArray⟩ := by simp [revStr]
    rw [e]
    exact this
/-- lists of anything comparable: in -/
theorem any_eq [DecidableEq α] (he : S.e = true) (x : α) (xs : List α) : ((xs.map S.toD).any fun z => PyData.eqv z (S.toD x)) = decide (x ∈ xs) := by
  induction xs with
  | nil => simp
  | cons y ys ih =>
    rw [List.map_cons, List.any_cons, ih, S.eq he, Bool.eq_iff_iff, Bool.or_eq_true, decide_eq_true_eq, decide_eq_true_eq, decide_eq_true_eq, List.mem_cons]
    exact ⟨fun h => h.imp Eq.symm id, fun h => h.imp Eq.symm id⟩
theorem o_inD [DecidableEq α] (he : S.e = true := by rfl) (hn : S.n + 1 ≤ 64 := by decide) : Op2 K (rInD K) S (rL S) .r rB inL := by
  intro F H x y a b c fh hx hy e Q q
  cases e
  obtain ⟨x1, x2⟩ := hx.dp fh he
  obtain ⟨y1, y2⟩ := hy.dp (S := rL S) fh he
  refine ⟨_, _, x1, y1, shaped_of x2 (S.nd he a) (Nat.le_trans (S.hn he a) (by omega)), shaped_of y2 ((rL S).nd he b) (Nat.le_trans ((rL S).hn he b) hn), ?_⟩
  rw [any_eq he]
  exact q _ F H (Step.refl fh) (rep_bool.mpr rfl)
theorem o_notInD [DecidableEq α] (he : S.e = true := by rfl) (hn : S.n + 1 ≤ 64 := by decide) : Op2 K (rNotInD K) S (rL S) .r rB notInL := by
  intro F H x y a b c fh hx hy e Q q
  cases e
  obtain ⟨x1, x2⟩ := hx.dp fh he
  obtain ⟨y1, y2⟩ := hy.dp (S := rL S) fh he
  refine ⟨_, _, x1, y1, shaped_of x2 (S.nd he a) (Nat.le_trans (S.hn he a) (by omega)), shaped_of y2 ((rL S).nd he b) (Nat.le_trans ((rL S).hn he b) hn), ?_⟩
  rw [any_eq he]
  exact q _ F H (Step.refl fh) (rep_bool.mpr rfl)
/-- x.m(y), x a list -/
theorem ev_bmL {r : V → List V → Hp → VK → Prop} {f : List α → γ → Option δ} {ma : Option (List α)} {mb : Option γ}
    (h : ∀ F H x y a b c, Same F H → Vw K F H x (rL S) a → Vw K F H y T b → f a b = some c → ∀ Q : VK, (∀ v F' H', Step F H F' H' → Ot K k U H F' H' v c → Q v H') → r x [y] H Q)
    (ha : Ev K F0 H0 ta Γ .v (rL S) ma) (hb : Ev K F0 H0 tb Γ .v T mb) : Ev K F0 H0 (tBM K "list" r ta (tCons tb tNil)) Γ k U (ma.bind fun a => mb.bind fun b => f a b) := by
  intro σ F H s c e Q q
  cases ma with
  | none => cases e
  | some a =>
    cases mb with
    | none => cases e
    | some b =>
      refine ha σ F H s a rfl _ fun x F1 H1 s1 o1 => ?_
      obtain ⟨p, vs, ex, hq, _⟩ := Vw.list s1.fh o1
      refine ⟨by rw [ex]; exact .inl ⟨rfl, vs, .inl hq⟩, ?_⟩
      refine hb σ F1 H1 (s.mono s1) b rfl _ fun y F2 H2 s2 o2 => ?_
      exact h F2 H2 x y a b c s2.fh (Vw.mono o1 s2) o2 e Q fun v F' H' s' o => q v F' H' (s1.trans (s2.trans s')) (Ot.back (s1.trans s2) o)
theorem o_countD [DecidableEq α] (he : S.e = true := by rfl) (hn : S.n + 1 ≤ 64 := by decide) : ∀ F H x y a b c, Same F H → Vw K F H x (rL S) a → Vw K F H y S b → countL a b = some c → ∀ Q : VK, (∀ v F' H', Step F H F' H' → Ot K .r rI H F' H' v c → Q v H') → rCountD K x [y] H Q := by
  intro F H x y a b c fh hx hy e Q q
  cases e
  obtain ⟨p, vs, rfl, _⟩ := hx.list fh
  obtain ⟨x1, x2⟩ := hx.dp (S := rL S) fh he
  obtain ⟨y1, y2⟩ := hy.dp fh he
  refine ⟨p, y, _, _, rfl, rfl, x1, y1, shaped_of x2 ((rL S).nd he a) (Nat.le_trans ((rL S).hn he a) hn), shaped_of y2 (S.nd he b) (Nat.le_trans (S.hn he b) (by omega)), ?_⟩
  refine q _ F H (Step.refl fh) (rep_int.mpr ?_)
  rw [List.countP_map]
  have : ((fun z => PyData.eqv z (S.toD b)) ∘ S.toD) = fun y => decide (y = b) := funext fun y => S.eq he y b
  rw [this]
theorem o_indexD [DecidableEq α] (he : S.e = true := by rfl) (hn : S.n + 1 ≤ 64 := by decide) : ∀ F H x y a b c, Same F H → Vw K F H x (rL S) a → Vw K F H y S b → indexL a b = some c → ∀ Q : VK, (∀ v F' H', Step F H F' H' → Ot K .r rI H F' H' v c → Q v H') → rIndexD K x [y] H Q := by
  intro F H x y a b c fh hx hy e Q q
  unfold indexL at e
  obtain ⟨j, hj, rfl⟩ := Option.map_eq_some_iff.mp e
  obtain ⟨hjl, hj1, hj2⟩ := List.findIdx?_eq_some_iff_getElem.mp hj
  obtain ⟨p, vs, rfl, _⟩ := hx.list fh
  obtain ⟨x1, x2⟩ := hx.dp (S := rL S) fh he
  obtain ⟨y1, y2⟩ := hy.dp fh he
  refine ⟨p, y, _, _, j, S.toD a[j], rfl, rfl, x1, y1, shaped_of x2 ((rL S).nd he a) (Nat.le_trans ((rL S).hn he a) hn), shaped_of y2 (S.nd he b) (Nat.le_trans (S.hn he b) (by omega)), ?_, ?_, ?_, q _ F H (Step.refl fh) (rep_int.mpr rfl)⟩
  · rw [List.getElem?_map, List.getElem?_eq_getElem hjl]
    rfl
  · rw [S.eq he]
    exact hj1
  · intro m z' hm hz
    rw [List.getElem?_map] at hz
    obtain ⟨w, hw, rfl⟩ := Option.map_eq_some_iff.mp hz
    obtain ⟨hml, rfl⟩ := List.getElem?_eq_some_iff.mp hw
    rw [S.eq he]
    have := hj2 m hm
    simpa using this
theorem o_maxI : Cb1 K (rMax K) (rL rI) .r rI maxI := by
  intro F H x a c fh hx e Q q
  obtain ⟨p, vs, rfl, hq, hd, ho, hl⟩ := hx.list fh
  rw [dp_ints hd] at hq
  obtain ⟨m1, m2⟩ := maxI_is e
  refine ⟨p, a, rfl, .inl hq, List.length_pos_of_mem m1, fun m h1 h2 => ?_⟩
  have : m = c := by
    have a1 := m2 m h1
    have a2 := h2 c m1
    omega
  subst this
  exact q _ F H (Step.refl fh) (rep_int.mpr rfl)
theorem o_minI : Cb1 K (rMin K) (rL rI) .r rI minI := by
  intro F H x a c fh hx e Q q
  obtain ⟨p, vs, rfl, hq, hd, ho, hl⟩ := hx.list fh
  rw [dp_ints hd] at hq
  obtain ⟨m1, m2⟩ := minI_is e
  refine ⟨p, a, rfl, .inl hq, List.length_pos_of_mem m1, fun m h1 h2 => ?_⟩
  have : m = c := by
    have a1 := m2 m h1
    have a2 := h2 c m1
    omega
  subst this
  exact q _ F H (Step.refl fh) (rep_int.mpr rfl)
/-- [x, ..] * n, the list just made -/
theorem ev_repL {ma : Option (List α)} {mb : Option Int} (ha : Ev K F0 H0 ta Γ .n (rL S) ma) (hb : Ev K F0 H0 tb Γ .v rI mb) : Ev K F0 H0 (tOp rRep ta tb) Γ .n (rL S) (ma.bind fun a => mb.bind fun b => repP a b) := by
  intro σ F H s c e Q q
  cases ma with
  | none => cases e
  | some a =>
    cases mb with
    | none => cases e
    | some b =>
      have e : repP a b = some c := e
      unfold repP at e
      split at e
      · rename_i h
        cases e
        refine ha σ F H s a rfl _ fun x F1 H1 s1 o1 => ?_
        obtain ⟨p, vs, ds, rfl, n, nF, hH, hd, hda, hc⟩ := o1
        injection hd with hd
        subst hd
        have hc := okL.mp hc
        refine hb σ F1 H1 (s.mono s1) b rfl _ fun y F2 H2 s2 o2 => ?_
        have hd2 := DqAll.mono s2.ff _ _ hda
        refine ⟨p, b, vs, rfl, o2.int, s2.hh _ _ hH, h.1.1, h.1.2, by rw [dvlen hd2, sizeLine_eq]; exact h.2, fun l nl => ?_⟩
        refine q _ F2 _ (s1.trans (s2.trans (Step.layO s2.fh nl))) (Ot.back (s1.trans s2) (newL s2.fh nl (dq_rep hd2 _) (fun x hx => hc.1 _ (List.mem_map_of_mem (mem_rep hx))) ?_))
        unfold repL
        rw [len_rep, Nat.mul_comm]
        exact h.2
      · cases e
theorem dq_strs {F : Hp} : ∀ {vs : List V} {xs : List (List Nat)}, DqAll K F vs (xs.map rS.toD) → vs = (xs.map fun x => (⟨x.toArray⟩ : Str)).map V.str := dp_strs
theorem sjoin_nil : ∀ xs : List (List Nat), Str.join ⟨#[]⟩ (xs.map fun x => (⟨x.toArray⟩ : Str)) = ⟨xs.flatten.toArray⟩
  | [] => rfl
  | [x] => by
    show (⟨x.toArray⟩ : Str) = _
    simp
  | x :: y :: xs => by
    have ih := sjoin_nil (y :: xs)
    have e : Str.join ⟨#[]⟩ ((x :: y :: xs).map fun x => (⟨x.toArray⟩ : Str)) = (⟨x.toArray⟩ : Str) ++ ⟨#[]⟩ ++ Str.join ⟨#[]⟩ ((y :: xs).map fun x => (⟨x.toArray⟩ : Str)) := rfl
    rw [e, ih]
    show (⟨x.toArray ++ #[] ++ (y :: xs).flatten.toArray⟩ : Str) = _
    simp
theorem join_nil (xs : List (List Nat)) : Txt.join ⟨#[]⟩ (xs.map fun x => (⟨x.toArray⟩ : Str)) = ⟨xs.flatten.toArray⟩ := by
  have h := eq_of_beq (PyProof.Rows.join_plain_closes ⟨#[]⟩ (xs.map fun x => (⟨x.toArray⟩ : Str)))
  rw [h, sjoin_nil]
/-- "".join(xs) -/
theorem ev_join {ma : Option (List Nat)} {mb : Option (List (List Nat))} (ha : Ev K F0 H0 ta Γ .r rS ma) (hb : Ev K F0 H0 tb Γ .v (rL rS) mb) :
    Ev K F0 H0 (tBM K "str" (fun x xs H Q => ∃ a p, ∃ ys : List Str, x = .str a ∧ xs = [.ref p] ∧ (SqL K H p (ys.map V.str) ∨ SqT K H p (ys.map V.str)) ∧
    (ys.map (·.length)).sum + ys.length * a.length ≤ 16777216 ∧ Q (.str (Txt.join a ys)) H) ta (tCons tb tNil)) Γ .r rS (ma.bind fun a => mb.bind fun b => joinE a b) := by
  refine ev_bmS (fun F H x y a b c fh hx hy e Q q => ?_) ha hb
  unfold joinE at e
  split at e
  · rename_i h
    cases e
    obtain ⟨h1, h2⟩ := h
    subst h1
    obtain ⟨rfl, _, _⟩ := hx.str.str
    obtain ⟨p, vs, rfl, hq, hd, ho, hl⟩ := hy.list fh
    rw [dp_strs hd] at hq
    refine ⟨_, p, _, rfl, rfl, .inl (.inl hq), ?_, ?_⟩
    · rw [List.map_map]
      have e1 : ((fun x : Str => x.length) ∘ fun x : List Nat => (⟨x.toArray⟩ : Str)) = List.length := by
        funext x
        simp [Str.length]
      rw [e1]
      have e2 : (⟨([] : List Nat).toArray⟩ : Str).length = 0 := rfl
      rw [e2, Nat.mul_zero, Nat.add_zero]
      exact h2
    · have := join_nil b
      rw [show (⟨([] : List Nat).toArray⟩ : Str) = ⟨#[]⟩ from rfl, this]
      refine q _ F H (Step.refl fh) (rep_str (fun c hc => ?_) (by rw [List.length_flatten]; exact h2))
      obtain ⟨l, hl, hc⟩ := List.mem_flatten.mp hc
      have := ho l hl
      simp [rS, okD, PyData.strOk, Str.length] at this
      exact this.1 c hc
  · cases e

/-! ### several targets at once, more of them -/
theorem bd_par3FFF {i j l : Nat} {m : Option α} {n : Option γ} {o : Option δ} {kk : α → γ → δ → Option (Fl ρ β)} (ha : Ev K F0 H0 ta Γ .r S m) (hb : Ev K F0 H0 tb Γ .r T n) (hc : Ev K F0 H0 tc Γ .r U o)
    (hk : ∀ x y z, Bd K F0 H0 u (st (st (st Γ i (.f S x)) j (.f T y)) l (.f U z)) k R out (kk x y z)) :
    Bd K F0 H0 (tSeq (tPar3 i j l (tCons ta (tCons tb (tCons tc tNil)))) u) Γ k R out (m.bind fun x => n.bind fun y => o.bind fun z => kk x y z) := by
  intro σ F H s r e D q1 q2
  cases m with
  | none => cases e
  | some a =>
    cases n with
    | none => cases e
    | some b =>
      cases o with
      | none => cases e
      | some c =>
        refine ha σ F H s a rfl _ fun v F1 H1 s1 o1 => ?_
        refine hb σ F1 H1 (s.mono s1) b rfl _ fun w F2 H2 s2 o2 => ?_
        refine hc σ F2 H2 ((s.mono s1).mono s2) c rfl _ fun x F3 H3 s3 o3 => ?_
        refine ⟨v, w, x, rfl, ?_⟩
        exact hk a b c _ F3 H3 ((((((s.mono s1).mono s2).mono s3).putF i (o1.mono (s2.ff.trans s3.ff))).putF j (o2.mono s3.ff)).putF l o3) r e D q1 fun b eb σ' F' H' sm => q2 b eb σ' F' H' ((s1.ff.trans (s2.ff.trans s3.ff)).trans sm)
theorem tg_trip {S1 : Rp α} {S2 : Rp γ} {S3 : Rp δ} (i j l : Nat) : Tg K F0 H0 (gTup K 3 (gCons (gName i) (gCons (gName j) (gCons (gName l) gNil)))) (r3 S1 S2 S3) [l, j, i]
    (fun a Γ => st (st (st Γ i (.f S1 a.1)) j (.f S2 a.2.1)) l (.f S3 a.2.2)) := by
  intro σ F H v a Γ s r Q q
  obtain ⟨p, v1, v2, v3, rfl, hq, h1, h2, h3⟩ := r.trip
  refine ⟨p, _, rfl, SameT s.st.fh hq, rfl, v1, _, rfl, v2, _, rfl, v3, _, rfl, rfl, ?_⟩
  refine q _ (((s.putF i h1).putF j h2).putF l h3) ?_ (fun b hb => owns_putF i b (owns_putF j b (owns_putF l b hb)))
  rw [wipe_set_in (by simp), wipe_set_in (by simp), wipe_set_in (by simp)]
end
end Y

/-! nested targets; several targets with dicts -/
namespace Y
open PySem PySem.Spec PyProof.Rows L2

/-- lo, lo - 1, .. above hi -/
def downL (lo hi : Int) : List Int := (List.range (lo - hi).toNat).map fun (i : Nat) => lo - (i : Int)
def rngDown (lo hi k : Int) : Option (List Int) :=
  if (-4611686018427387904 ≤ lo ∧ lo < 4611686018427387904) ∧ (-4611686018427387904 ≤ hi ∧ hi < 4611686018427387904) ∧ lo - hi ≤ 16777216 ∧ k = -1 then some (downL lo hi) else none
theorem room65 {A : Around} {k : Nat} (hr : Room k A) : A.units + 65 < cLine := by have := hr.un; omega
theorem wipe_app {σ : L2.St} : ∀ {A B : List Nat}, L2.wipe σ (A ++ B) = L2.wipe (L2.wipe σ B) A
  | [], _ => rfl
  | a :: A, B => by
    show (L2.wipe σ (A ++ B)).set a none = (L2.wipe (L2.wipe σ B) A).set a none
    rw [wipe_app]
theorem wipe_comm1 {σ : L2.St} {a : Nat} : ∀ {B : List Nat}, L2.wipe (σ.set a none) B = (L2.wipe σ B).set a none
  | [] => rfl
  | b :: B => by
    show (L2.wipe (σ.set a none) B).set b none = ((L2.wipe σ B).set b none).set a none
    rw [wipe_comm1]
    by_cases h : a = b
    · subst h; rw [List.set_set]
    · rw [List.set_comm _ _ h]
theorem wipe_comm {σ : L2.St} : ∀ {A B : List Nat}, L2.wipe (L2.wipe σ A) B = L2.wipe (L2.wipe σ B) A
  | [], _ => rfl
  | a :: A, B => by
    show L2.wipe ((L2.wipe σ A).set a none) B = (L2.wipe (L2.wipe σ B) A).set a none
    rw [wipe_comm1, wipe_comm]
section
variable {K : PySem.W.Frag} {F0 H0 : Hp} {Γ : List Sl} {α β γ δ κ ρ : Type} {P : Rp ρ} {Q : Rp κ} {R : Rp α} {S : Rp γ} {T : Rp δ} {ta tb tc : TE} {u t : TS} {k : Kd} {out : β → List Sl} {g1 g2 g3 : TG}
theorem tg_pairG {M1 M2 : List Nat} {put1 : α → List Sl → List Sl} {put2 : γ → List Sl → List Sl} (h1 : Tg K F0 H0 g1 R M1 put1) (h2 : Tg K F0 H0 g2 S M2 put2) :
    Tg K F0 H0 (gTup K 2 (gCons g1 (gCons g2 gNil))) (rP R S) (M1 ++ M2) (fun a Γ => put2 a.2 (put1 a.1 Γ)) := by
  intro σ F H v a Γ s r Q q
  obtain ⟨p, v1, v2, rfl, hq, r1, r2⟩ := r.pair
  refine ⟨p, _, rfl, SameT s.st.fh hq, rfl, v1, _, rfl, ?_⟩
  refine h1 σ F H v1 a.1 Γ s r1 _ fun σ1 s1 w1 o1 => ?_
  refine ⟨v2, _, rfl, ?_⟩
  refine h2 σ1 F H v2 a.2 _ s1 r2 _ fun σ2 s2 w2 o2 => ⟨rfl, ?_⟩
  refine q σ2 s2 ?_ fun b hb => o1 b (o2 b hb)
  rw [wipe_app, w2, ← wipe_app, wipe_app, wipe_comm, w1, wipe_comm, ← wipe_app]
theorem tg_tripG {M1 M2 M3 : List Nat} {put1 : α → List Sl → List Sl} {put2 : γ → List Sl → List Sl} {put3 : δ → List Sl → List Sl} (h1 : Tg K F0 H0 g1 R M1 put1) (h2 : Tg K F0 H0 g2 S M2 put2) (h3 : Tg K F0 H0 g3 T M3 put3) :
    Tg K F0 H0 (gTup K 3 (gCons g1 (gCons g2 (gCons g3 gNil)))) (r3 R S T) (M1 ++ (M2 ++ M3)) (fun a Γ => put3 a.2.2 (put2 a.2.1 (put1 a.1 Γ))) := by
  intro σ F H v a Γ s r Q q
  obtain ⟨p, v1, v2, v3, rfl, hq, r1, r2, r3⟩ := r.trip
  refine ⟨p, _, rfl, SameT s.st.fh hq, rfl, v1, _, rfl, ?_⟩
  refine h1 σ F H v1 a.1 Γ s r1 _ fun σ1 s1 w1 o1 => ?_
  refine ⟨v2, _, rfl, ?_⟩
  refine h2 σ1 F H v2 a.2.1 _ s1 r2 _ fun σ2 s2 w2 o2 => ?_
  refine ⟨v3, _, rfl, ?_⟩
  refine h3 σ2 F H v3 a.2.2 _ s2 r3 _ fun σ3 s3 w3 o3 => ⟨rfl, ?_⟩
  refine q σ3 s3 ?_ fun b hb => o1 b (o2 b (o3 b hb))
  have key : ∀ {M : List Nat} {x y : L2.St} {N : List Nat}, L2.wipe x M = L2.wipe y M → L2.wipe x (N ++ M) = L2.wipe y (N ++ M) := fun e => by rw [wipe_app, e, ← wipe_app]
  have key2 : ∀ {M : List Nat} {x y : L2.St} {N : List Nat}, L2.wipe x M = L2.wipe y M → L2.wipe x (M ++ N) = L2.wipe y (M ++ N) := fun e => by rw [wipe_app, wipe_comm, e, wipe_comm, ← wipe_app]
  exact (key (key w3)).trans ((key (key2 w2)).trans (key2 w1))
/-- a new dict beside a frozen value -/
theorem bd_parFD {i j : Nat} {m : Option α} {n : Option (List (κ × γ))} {kk : α → List (κ × γ) → Option (Fl ρ β)} (hQ : KyK Q) (ha : Ev K F0 H0 ta Γ .r R m) (hb : Ev K F0 H0 tb Γ .m (rD Q S) n) (hk : ∀ x y, Bd K F0 H0 u (st (st Γ i (.f R x)) j (.d Q S y)) k P out (kk x y)) :
    Bd K F0 H0 (tSeq (tPar i j (tCons ta (tCons tb tNil))) u) Γ k P out (m.bind fun x => n.bind fun y => kk x y) := by
  intro σ F H s r e D q1 q2
  cases m with
  | none => cases e
  | some a =>
    cases n with
    | none => cases e
    | some b =>
      refine ha σ F H s a rfl _ fun v F1 H1 s1 o1 => ?_
      refine hb σ F1 H1 (s.mono s1) b rfl _ fun w F2 H2 s2 o2 => ?_
      refine ⟨v, w, rfl, ?_⟩
      obtain ⟨p, kv, rfl, nH, nF, hH, Dc⟩ := newM_dct hQ o2
      have sr := ((s.mono s1).mono s2).putF i (o1.mono s2.ff)
      have n0 : H0 p = none := (s.mono s1).st.hh.free nH
      refine hk a b _ F2 H2 (sr.putN j (g := .d Q S b) ⟨p, kv, rfl, n0, nF, hH, Dc⟩ rfl fun z => ?_) r e D q1 fun b eb σ' F' H' sm => q2 b eb σ' F' H' ((s1.ff.trans s2.ff).trans sm)
      have s1' := (s.mono s1).putF i o1
      obtain ⟨_, _, ws, hw⟩ := owns_in s1'.sl z
      rw [nH] at hw; cases hw
theorem bd_parDF {i j : Nat} {m : Option (List (κ × γ))} {n : Option α} {kk : List (κ × γ) → α → Option (Fl ρ β)} (hQ : KyK Q) (ha : Ev K F0 H0 ta Γ .m (rD Q S) m) (hb : Ev K F0 H0 tb Γ .r R n) (hk : ∀ x y, Bd K F0 H0 u (st (st Γ i (.d Q S x)) j (.f R y)) k P out (kk x y)) :
    Bd K F0 H0 (tSeq (tPar i j (tCons ta (tCons tb tNil))) u) Γ k P out (m.bind fun x => n.bind fun y => kk x y) := by
  intro σ F H s r e D q1 q2
  cases m with
  | none => cases e
  | some a =>
    cases n with
    | none => cases e
    | some b =>
      refine ha σ F H s a rfl _ fun v F1 H1 s1 o1 => ?_
      refine hb σ F1 H1 (s.mono s1) b rfl _ fun w F2 H2 s2 o2 => ?_
      refine ⟨v, w, rfl, ?_⟩
      obtain ⟨p, kv, rfl, nH, nF, hH, Dc⟩ := newM_dct hQ o1
      have n0 : H0 p = none := s.st.hh.free nH
      have sr := ((s.mono s1).mono s2).putN i (g := .d Q S a) ⟨p, kv, rfl, n0, s2.ow _ _ hH nF trivial, s2.hh _ _ hH, Dc.mono s2.ff⟩ rfl (fun z => by
        obtain ⟨_, _, ws, hw⟩ := owns_in s.sl z
        rw [nH] at hw; cases hw)
      exact hk a b _ F2 H2 (sr.putF j o2) r e D q1 fun b eb σ' F' H' sm => q2 b eb σ' F' H' ((s1.ff.trans s2.ff).trans sm)
/-! ### counting down -/
theorem downL_len {lo hi : Int} : (downL lo hi).length = (lo - hi).toNat := by simp [downL]
theorem ei_rng3 {m n c : Option Int} (h : Ev K F0 H0 ta Γ .r rI m) (h' : Ev K F0 H0 tb Γ .r rI n) (h'' : Ev K F0 H0 tc Γ .r rI c) : Ei K F0 H0 (iRng3 (tCons ta (tCons tb (tCons tc tNil)))) Γ rI (m.bind fun lo => n.bind fun hi => c.bind fun k => rngDown lo hi k) := by
  intro σ F H s xs e Q q
  cases m with
  | none => cases e
  | some lo =>
    cases n with
    | none => cases e
    | some hi =>
      cases c with
      | none => cases e
      | some k =>
        have e : (if _ then some (downL lo hi) else none) = some xs := e
        split at e
        · rename_i hc
          cases e
          refine h σ F H s lo rfl _ fun v F1 H1 s1 o1 => ?_
          refine h' σ F1 H1 (s.mono s1) hi rfl _ fun v2 F2 H2 s2 o2 => ?_
          refine h'' σ F2 H2 ((s.mono s1).mono s2) k rfl _ fun v3 F3 H3 s3 o3 => ?_
          refine ⟨lo, hi, k, (lo - hi).toNat, by rw [rep_int.mp o1, rep_int.mp o2, rep_int.mp o3], by rw [hc.2.2.2]; exact RgC.neg (by omega) (by omega) (by omega) (by omega), q _ F3 H3 (s1.trans (s2.trans s3)) ⟨fun F' H' ff fh i a ea => ?_, fun F' H' ff fh => ?_, by rw [downL_len]; omega⟩⟩
          · unfold downL at ea
            rw [List.getElem?_map] at ea
            obtain ⟨j, hj, rfl⟩ := Option.map_eq_some_iff.mp ea
            obtain ⟨hi', e⟩ := List.getElem?_eq_some_iff.mp hj
            rw [List.length_range] at hi'
            rw [List.getElem_range] at e
            subst e
            refine ⟨hi', fun y H'' hy => ?_⟩
            obtain ⟨rfl, rfl⟩ := hy
            refine ⟨F', Step.refl fh, rep_int.mpr ?_⟩
            rw [hc.2.2.2]
            congr 1
            omega
          · show (lo - hi).toNat ≤ (downL lo hi).length
            rw [downL_len]
            exact Nat.le_refl _
        · cases e
/-! ### pairs as tuples -/
theorem Vw.pair {F H : Hp} {v : V} {i : α × γ} (h : Vw K F H v (rP R S) i) : Rep K F v (rP R S) i := by
  rcases h with h | ⟨p, vs, ds, _, _, e, _⟩
  · exact h
  · cases e
def twoL {α : Type} (_ : α) : Option Int := some 2
theorem o_lenP : Cb1 K (fun xs H Q => ∃ p ys, xs = [.ref p] ∧ (SqL K H p ys ∨ SqT K H p ys) ∧ Q (.int ys.length) H) (rP R S) .r rI (twoL (α := α × γ)) := by
  intro F H x a c fh hx e Q q
  cases e
  obtain ⟨p, v1, v2, rfl, hq, _⟩ := hx.pair.pair
  exact ⟨p, _, rfl, .inr (SameT fh hq), q _ F H (Step.refl fh) (rep_int.mpr rfl)⟩
theorem ty_pair : HasTy K (rP R S) "tuple" := fun F H v a fh h => by
  obtain ⟨p, v1, v2, rfl, hq, _⟩ := h.pair.pair
  exact tup_ty (SameT fh hq)
end
end Y

/-! Layer Y: sorted of any data, least texts, texts compared, split. -/
namespace Y
open PySem PySem.Spec PyProof.Rows L2

def leD (x y : PyData) : Bool := !PySem.W.dataLt y x
def rSortD (K : PySem.W.Frag) : List V → Hp → VK → Prop := fun vs H Q => ∃ (a : Addr) (xs : List V) (ds : List PyData), vs = [V.ref a] ∧ SqL K H a xs ∧ DpAll K H xs ds ∧ xs.length = ds.length ∧ PySem.W.AllAlike ds ∧
  (PySem.W.Sortable ds ∨ ds.length < 2) ∧ (∀ d ∈ ds, d.depth ≤ 60) ∧
  ∀ (bs : List (V × PyData)) p, bs = (List.zip xs ds).mergeSort (fun x y => leD x.2 y.2) → H p = none → Q (.ref p) (upd H p (.lst (bs.map (·.1))))
theorem each_zip : ∀ {xs : List V} {us : List Value} {ds : List PyData}, Vals xs us → xs.length = ds.length → PySem.W.EachIs (fun u (b : V × PyData) => RelV b.1 u) us (List.zip xs ds)
  | [], _, [], .nil, _ => .nil
  | x :: xs, _, d :: ds, .cons r t, h => .cons r (each_zip t (by simpa using h))
theorem each_vals : ∀ {us : List Value} {bs : List (V × PyData)}, PySem.W.EachIs (fun u (b : V × PyData) => RelV b.1 u) us bs → Vals (bs.map (·.1)) us
  | _, _, .nil => .nil
  | _, _, .cons r t => .cons r (each_vals t)
theorem zip_snd {α β : Type} : ∀ {xs : List α} {ys : List β}, xs.length = ys.length → (List.zip xs ys).map (·.2) = ys
  | [], [], _ => rfl
  | x :: xs, y :: ys, h => by rw [List.zip_cons_cons, List.map_cons, zip_snd (by simpa using h)]
theorem zip_fst {α β : Type} : ∀ {xs : List α} {ys : List β}, xs.length = ys.length → (List.zip xs ys).map (·.1) = xs
  | [], [], _ => rfl
  | x :: xs, y :: ys, h => by rw [List.zip_cons_cons, List.map_cons, zip_fst (by simpa using h)]
theorem short_perm {α : Type} {l m : List α} (h : l.Perm m) (h2 : m.length < 2) : l = m := by
  match m, h2 with
  | [], _ => exact List.perm_nil.mp h
  | [x], _ => exact List.perm_singleton.mp h
theorem short_sort {α : Type} {le : α → α → Bool} {l : List α} (h : l.length < 2) : l.mergeSort le = l := by
  match l, h with
  | [], _ => exact List.mergeSort_nil
  | [x], _ => exact List.mergeSort_singleton _
theorem cr_sortedD {X : Cx} (hu : X.A.units + 65 < cLine) : CallR X (.builtin "sorted") (rSortD X.K) := by
  intro pins s σ H vs us Q I r h
  obtain ⟨a, xs, ds, rfl, hs, hd, hlen, hal, hk, hdep, q⟩ := h
  obtain ⟨its, rv, hl, hz⟩ := I.list hs
  rw [Vals.ref1 r]
  obtain ⟨as, hra⟩ := Dp.readsAll I ds xs its hd rv
  have el : its.length = xs.length := rv.length.symm
  have fin : ∀ out : List Value, PySem.W.EachIs (fun u (b : V × PyData) => RelV b.1 u) out ((List.zip xs ds).mergeSort (fun x y => leD x.2 y.2)) →
      EP X pins σ Q (.ref (s.heap.objs.size + 1)) { s with heap := sortedAll s.heap its out.toArray } := fun out h2 => by
    obtain ⟨ep, he'⟩ := PyProof.Rows.sortedAll_at s.heap its out.toArray
    have hlen2 : (((List.zip xs ds).mergeSort (fun x y => leD x.2 y.2)).map (·.1)).length ≤ sizeLine := by
      rw [List.length_map, List.length_mergeSort, List.length_zip, hlen, Nat.min_self, ← hlen]
      exact hz
    exact ⟨.ref _, upd H (s.heap.objs.size + 1) (.lst (((List.zip xs ds).mergeSort (fun x y => leD x.2 y.2)).map (·.1))), I.laid (t' := s.toks) (fun _ _ => PyProof.Rows.sortedAll_old) (Nat.le_succ _) ⟨hlen2, out, ep, each_vals h2, he'⟩, rfl, q _ _ rfl (I.hok.fresh (Nat.le_succ _))⟩
  rcases hk with hk | hk
  · have e2 : (List.zip xs ds).map (fun b : V × PyData => b.2) = ds := zip_snd hlen
    refine PySem.W.sorted_data (enc := fun b : V × PyData => b.2) (R := fun u (b : V × PyData) => RelV b.1 u) (bs := List.zip xs ds) (vs := its) hl.isList (each_zip rv hlen) (PySem.W.readsAll_each (fun b : V × PyData => b.2) (by rw [e2]; exact hra)) (by rw [e2]; exact hal) (by rw [e2]; exact hk)
      (by rw [List.length_zip, ← hlen, Nat.min_self]; exact hz) (fun b hb => ?_) fun out _ h2 => fin out h2
    have hm : b.2 ∈ ds := by
      rw [← e2]
      exact List.mem_map_of_mem hb
    have := hdep b.2 hm
    omega
  · have hk' : its.length < 2 := by omega
    refine SrtO.sorted_ord (ltv := fun _ _ => false) ⟨fun _ _ _ => rfl, fun _ _ _ _ _ => rfl⟩ hl.isList (by rw [el]; exact hz) (fun h2 => absurd h2 (by omega)) fun out _ h2 => fin out ?_
    rw [short_perm h2.perm hk', short_sort (by rw [List.length_zip]; omega)]
    exact each_zip rv hlen

section
variable {K : PySem.W.Frag} {F0 H0 : Hp} {Γ : List Sl} {α β γ δ : Type} {R : Rp α} {S : Rp β} {T : Rp γ} {ta tb : TE} {k : Kd}
theorem DqAll.ofMem {F : Hp} : ∀ {bs : List (V × PyData)}, (∀ b ∈ bs, Dq K F b.1 b.2) → DqAll K F (bs.map (·.1)) (bs.map (·.2))
  | [], _ => .nil
  | b :: bs, h => .cons (h b List.mem_cons_self) (DqAll.ofMem fun x hx => h x (List.mem_cons_of_mem _ hx))
theorem DqAll.memZip {F : Hp} : ∀ {vs : List V} {ds : List PyData}, DqAll K F vs ds → ∀ b ∈ List.zip vs ds, Dq K F b.1 b.2
  | _, _, .nil, b, hb => nomatch hb
  | _, _, .cons h1 h2, b, hb => by
    rcases List.mem_cons.mp hb with rfl | hb
    · exact h1
    · exact DqAll.memZip h2 b hb
/-- the order of the data that R makes -/
def leR (R : Rp α) (a b : α) : Bool := leD (R.toD a) (R.toD b)
theorem o_sortG {f : List α → Option (List α)} (he : R.e = true) (hn : R.n ≤ 60) (hf : ∀ xs ys, f xs = some ys → ys = xs.mergeSort (leR R) ∧ PySem.W.AllAlike (xs.map R.toD) ∧ (PySem.W.Sortable (xs.map R.toD) ∨ xs.length < 2)) :
    Cb1 K (rSortD K) (rL R) .n (rL R) f := by
  intro F H x a c fh hx e Q q
  obtain ⟨rfl, h1, h2⟩ := hf a c e
  obtain ⟨p, vs, rfl, hq, hd, ho, hl⟩ := hx.list fh
  have hlen : vs.length = (a.map R.toD).length := hd.len
  refine ⟨p, vs, a.map R.toD, rfl, .inl hq, DqAll.dp _ _ (DqAll.mono fh _ _ hd) (noDAll_map R he a), hlen, h1, by rw [List.length_map]; exact h2, fun d hdm => ?_, fun bs l hbs nl => ?_⟩
  · obtain ⟨x, _, rfl⟩ := List.mem_map.mp hdm
    have := R.hn he x
    omega
  · have e2 : bs.map (·.2) = (a.mergeSort (leR R)).map R.toD := by
      rw [hbs, List.map_mergeSort (s := leD) (fun _ _ _ _ => rfl), zip_snd hlen]
      exact (List.map_mergeSort (f := R.toD) (r := leR R) (s := leD) (fun _ _ _ _ => rfl)).symm
    have hd2 : DqAll K F (bs.map (·.1)) ((a.mergeSort (leR R)).map R.toD) := by
      rw [← e2]
      refine DqAll.ofMem fun b hb => hd.memZip b ?_
      rw [hbs] at hb
      exact List.mem_mergeSort.mp hb
    exact q _ F _ (Step.layO fh nl) (newL fh nl hd2 (fun x hx => ho x (List.mem_mergeSort.mp hx)) (by rw [List.length_mergeSort]; exact hl))
/-- what can be put in order -/
structure Ord (R : Rp α) : Prop where
  e : R.e = true
  al : ∀ a b, PySem.W.alike (R.toD a) (R.toD b) = true
  nn : ∀ a, R.toD a ≠ .none
  st : (∀ a, ∃ x r, R.toD a = .tuple (x :: r)) ∨ ∀ a xs, R.toD a ≠ .tuple xs
theorem ord_I : Ord rI := ⟨rfl, fun _ _ => rfl, fun _ h => PyData.noConfusion h, .inr fun _ _ h => PyData.noConfusion h⟩
theorem ord_S : Ord rS := ⟨rfl, fun _ _ => rfl, fun _ h => PyData.noConfusion h, .inr fun _ _ h => PyData.noConfusion h⟩
theorem ord_P (h : Ord R) (h' : Ord S) : Ord (rP R S) := ⟨by show (R.e && S.e) = true; rw [h.e, h'.e]; rfl, fun a b => by
  show PySem.W.alike (.tuple [R.toD a.1, S.toD a.2]) (.tuple [R.toD b.1, S.toD b.2]) = true
  simp [PySem.W.alike, PySem.W.alikeAll, h.al, h'.al], fun _ h => PyData.noConfusion h, .inl fun a => ⟨_, _, rfl⟩⟩
theorem alikeAll_map (h : Ord R) : ∀ a b : List α, PySem.W.alikeAll (a.map R.toD) (b.map R.toD) = true
  | [], [] => rfl
  | [], _ :: _ => rfl
  | _ :: _, [] => rfl
  | x :: a, y :: b => by
    simp only [List.map_cons, PySem.W.alikeAll, h.al, alikeAll_map h a b]
    rfl
/-- sorted of these -/
def srtR (R : Rp α) (xs : List α) : Option (List α) := some (xs.mergeSort (leR R))
theorem o_sorted (h : Ord R) (hn : R.n ≤ 60 := by decide) : Cb1 K (rSortD K) (rL R) .n (rL R) (srtR R) := o_sortG h.e hn fun xs ys e => by
  cases e
  refine ⟨rfl, fun d hd d' hd' => ?_, .inl ?_⟩
  · obtain ⟨x, _, rfl⟩ := List.mem_map.mp hd
    obtain ⟨y, _, rfl⟩ := List.mem_map.mp hd'
    exact h.al x y
  · rcases h.st with h' | h'
    · refine .inl fun d hd => ?_
      obtain ⟨x, _, rfl⟩ := List.mem_map.mp hd
      exact h' x
    · refine .inr fun d hd => ?_
      obtain ⟨x, _, rfl⟩ := List.mem_map.mp hd
      exact ⟨h.nn x, h' x⟩
/-- sorted of tuples of these: none is empty, or there is but one -/
def srtT (R : Rp α) (xs : List (List α)) : Option (List (List α)) := if (∀ x ∈ xs, x ≠ []) ∨ xs.length < 2 then some (xs.mergeSort (leR (rT R))) else none
theorem o_sortedT (h : Ord R) (hn : R.n ≤ 59 := by decide) : Cb1 K (rSortD K) (rL (rT R)) .n (rL (rT R)) (srtT R) := o_sortG h.e (by show R.n + 1 ≤ 60; omega) fun xs ys e => by
  unfold srtT at e
  split at e
  next c =>
    cases e
    refine ⟨rfl, fun d hd d' hd' => ?_, ?_⟩
    · obtain ⟨x, _, rfl⟩ := List.mem_map.mp hd
      obtain ⟨y, _, rfl⟩ := List.mem_map.mp hd'
      show PySem.W.alike (.tuple _) (.tuple _) = true
      simp only [PySem.W.alike]
      exact alikeAll_map h x y
    · rcases c with c | c
      · refine .inl (.inl fun d hd => ?_)
        obtain ⟨x, hx, rfl⟩ := List.mem_map.mp hd
        match x, c x hx with
        | y :: r, _ => exact ⟨_, _, rfl⟩
      · exact .inr c
  next => cases e

/-! ### texts compared; the least text -/
def ltS (x y : List Nat) : Option Bool := some (decide (x < y))
def gtS (x y : List Nat) : Option Bool := some (decide (y < x))
theorem o_ltS : Op2 K (fun x y H Q => ∃ i j, x = .str i ∧ y = .str j ∧ Q (.bl (decide (i.cps.toList < j.cps.toList))) H) rS rS .r rB ltS := by
  intro F H x y a b c fh hx hy e Q q
  cases e
  exact ⟨_, _, hx.str.str.1, hy.str.str.1, q _ F H (Step.refl fh) (rep_bool.mpr rfl)⟩
theorem o_gtS : Op2 K (fun x y H Q => ∃ i j, x = .str i ∧ y = .str j ∧ Q (.bl (decide (j.cps.toList < i.cps.toList))) H) rS rS .r rB gtS := by
  intro F H x y a b c fh hx hy e Q q
  cases e
  exact ⟨_, _, hx.str.str.1, hy.str.str.1, q _ F H (Step.refl fh) (rep_bool.mpr rfl)⟩
def minS : List (List Nat) → Option (List Nat)
  | [] => none
  | x :: xs => some (xs.foldl (fun a y => if y < a then y else a) x)
def rMinS (K : PySem.W.Frag) : List V → Hp → VK → Prop := fun vs H Q => ∃ (a : Addr) (x : List Nat) (xs : List (List Nat)), vs = [V.ref a] ∧ SqL K H a ((x :: xs).map fun z => V.str ⟨z.toArray⟩) ∧ Q (.str ⟨(xs.foldl (fun a y => if y < a then y else a) x).toArray⟩) H
theorem lt_toks (x y : List Nat) : PySem.W.dataLt (.str ⟨x.toArray⟩) (.str ⟨y.toArray⟩) = decide (x < y) := by
  have h := congrFun (congrFun (PySem.W.dataLe_str (β := List Nat) fun z => ⟨z.toArray⟩) y) x
  rw [PySem.W.dataLe_eq] at h
  simp only [cond] at h
  have h2 : (!PySem.W.dataLt (.str ⟨x.toArray⟩) (.str ⟨y.toArray⟩)) = decide (y ≤ x) := h
  have h3 : decide (x < y) = !decide (y ≤ x) := by
    rw [Bool.eq_iff_iff]
    simp
  rw [h3, ← h2, Bool.not_not]
theorem min_toks (x : List Nat) : ∀ xs : List (List Nat), PySem.W.minD (.str ⟨x.toArray⟩) (xs.map fun z => PyData.str ⟨z.toArray⟩) = .str ⟨(xs.foldl (fun a y => if y < a then y else a) x).toArray⟩ := by
  intro xs
  unfold PySem.W.minD
  induction xs generalizing x with
  | nil => rfl
  | cons y ys ih =>
    rw [List.map_cons, List.foldl_cons, List.foldl_cons, lt_toks]
    by_cases c : y < x
    · rw [if_pos (decide_eq_true c), if_pos c]; exact ih y
    · rw [if_neg (by simpa using c), if_neg c]; exact ih x
theorem reads_strs {h : Heap} : ∀ {xs : List (List Nat)} {us : List Value}, Vals (xs.map fun z => V.str ⟨z.toArray⟩) us → ∃ as, ReadsAll h us (xs.map fun z => PyData.str ⟨z.toArray⟩) as
  | [], _, .nil => ⟨_, .nil⟩
  | x :: xs, _, .cons r t => by
    obtain ⟨k, rfl⟩ := r
    obtain ⟨as, h2⟩ := reads_strs (h := h) t
    exact ⟨_, .cons (.str _ k) h2⟩
theorem cr_minS {X : Cx} (hc : X.calm = true) (hu : X.A.units + 65 < cLine) : CallR X (.builtin "min") (rMinS X.K) := by
  intro pins s σ H vs us Q I r h
  obtain ⟨a, x, xs, rfl, hs, q⟩ := h
  obtain ⟨its, rv, hl, hz⟩ := I.list hs
  rw [Vals.ref1 r]
  obtain ⟨as, hra⟩ := reads_strs (h := s.heap) rv
  have hdep : PyData.depthAll ((x :: xs).map fun z => PyData.str ⟨z.toArray⟩) = 0 ∨ PyData.depthAll ((x :: xs).map fun z => PyData.str ⟨z.toArray⟩) ≤ 1 := by
    right
    generalize x :: xs = l
    induction l with
    | nil => exact Nat.zero_le _
    | cons y ys ih =>
      simp only [List.map_cons, PyData.depthAll, PyData.depth]
      omega
  have hra' : ReadsAll s.heap its.toArray.toList (PyData.str ⟨x.toArray⟩ :: xs.map fun (z : List Nat) => PyData.str ⟨z.toArray⟩) as := hra
  refine PySem.W.min_list_data (I.ok.hd hc) hl.isList hra' ⟨fun d hd d' hd' => ?_, fun d hd => ?_⟩ ?_ fun i v h' tk bs hv hr hk => ?_
  · have e1 : ∃ z : List Nat, d = .str ⟨z.toArray⟩ := by
      rcases List.mem_cons.mp hd with rfl | hd
      · exact ⟨_, rfl⟩
      · obtain ⟨z, _, rfl⟩ := List.mem_map.mp hd
        exact ⟨_, rfl⟩
    have e2 : ∃ z : List Nat, d' = .str ⟨z.toArray⟩ := by
      rcases List.mem_cons.mp hd' with rfl | hd'
      · exact ⟨_, rfl⟩
      · obtain ⟨z, _, rfl⟩ := List.mem_map.mp hd'
        exact ⟨_, rfl⟩
    obtain ⟨z, rfl⟩ := e1
    obtain ⟨z', rfl⟩ := e2
    rfl
  · rcases List.mem_cons.mp hd with rfl | hd
    · exact fun h => PyData.noConfusion h
    · obtain ⟨z, _, rfl⟩ := List.mem_map.mp hd
      exact fun h => PyData.noConfusion h
  · have : PyData.depthAll (.str ⟨x.toArray⟩ :: xs.map fun z => PyData.str ⟨z.toArray⟩) = PyData.depthAll ((x :: xs).map fun z => PyData.str ⟨z.toArray⟩) := rfl
    rw [this]
    omega
  · rw [min_toks] at hr
    have hv' : ∃ t, v = .str ⟨(xs.foldl (fun a y => if y < a then y else a) x).toArray⟩ t := by
      cases hr
      exact ⟨_, rfl⟩
    obtain ⟨t, rfl⟩ := hv'
    exact ⟨.str _, H, I.kept hk, ⟨_, rfl⟩, q⟩
theorem min_mem (y : List Nat) (ys : List (List Nat)) : ys.foldl (fun a y => if y < a then y else a) y ∈ y :: ys := by
  induction ys generalizing y with
  | nil => exact List.mem_cons_self
  | cons z zs ih =>
    rw [List.foldl_cons]
    split
    · rcases List.mem_cons.mp (ih z) with h | h
      · rw [h]; exact List.mem_cons_of_mem _ List.mem_cons_self
      · exact List.mem_cons_of_mem _ (List.mem_cons_of_mem _ h)
    · rcases List.mem_cons.mp (ih y) with h | h
      · rw [h]; exact List.mem_cons_self
      · exact List.mem_cons_of_mem _ (List.mem_cons_of_mem _ h)
theorem o_minS : Cb1 K (rMinS K) (rL rS) .r rS minS := by
  intro F H x a c fh hx e Q q
  obtain ⟨p, vs, rfl, hq, hd, ho, hl⟩ := hx.list fh
  match a, e with
  | y :: ys, e =>
    cases e
    have e1 := dp_strs hd
    rw [List.map_map] at e1
    refine ⟨p, y, ys, rfl, .inl (by rw [e1] at hq; exact hq), q _ F H (Step.refl fh) ?_⟩
    have hm := min_mem y ys
    exact ⟨.str _, ho _ hm⟩
end
end Y

/-! Layer Y: sorted(d) and sorted(d.items()). -/
namespace Y
open PySem PySem.Spec PyProof.Rows L2

mutual
theorem reads_there {h : Heap} : ∀ {v : Value} {d : PyData} {as : List Addr}, Reads h v d as → ∀ a ∈ as, ∃ o, h.get? a = some o
  | _, _, _, .none, a, ha => nomatch ha
  | _, _, _, .bool _, a, ha => nomatch ha
  | _, _, _, .int _ _, a, ha => nomatch ha
  | _, _, _, .str _ _, a, ha => nomatch ha
  | _, _, _, .list e _ _ r, a, ha => by
    rcases List.mem_cons.mp ha with rfl | ha
    · exact ⟨_, e⟩
    · exact readsAll_there r a ha
  | _, _, _, .tuple _ _ _ r, a, ha => readsAll_there r a ha
  | _, _, _, .dict e _ _ r1 r2, a, ha => by
    rcases List.mem_cons.mp ha with rfl | ha
    · exact ⟨_, e⟩
    · rcases List.mem_append.mp ha with ha | ha
      · exact readsAll_there r1 a ha
      · exact readsAll_there r2 a ha
theorem readsAll_there {h : Heap} : ∀ {vs : List Value} {ds : List PyData} {as : List Addr}, ReadsAll h vs ds as → ∀ a ∈ as, ∃ o, h.get? a = some o
  | _, _, _, .nil, a, ha => nomatch ha
  | _, _, _, .cons r1 r2, a, ha => by
    rcases List.mem_append.mp ha with ha | ha
    · exact reads_there r1 a ha
    · exact readsAll_there r2 a ha
end
theorem reads_key {h : Heap} {k : Key} {u : Value} (r : RelV (kV k) u) : Reads h u (keyD k) [] := by
  rcases k with i | x
  · obtain ⟨t, rfl⟩ := r
    exact .int i t
  · obtain ⟨t, rfl⟩ := r
    exact .str x t

/-! ### sorted(d) -/
def rSortKD : List V → Hp → VK → Prop := fun xs H Q => ∃ (a : Addr) (kvs : List (Key × V)), xs = [V.ref a] ∧ Rd H a (.dK kvs) ∧ PySem.W.AllAlike (kvs.map fun p => keyD p.1) ∧
  ∀ (ks : List Key) p, ks = (kvs.map (·.1)).mergeSort (fun x y => leD (keyD x) (keyD y)) → H p = none → Q (.ref p) (upd H p (.lst (ks.map kV)))
theorem each_keys {h : Heap} {L : Addr} : ∀ {ks : List Key} {us : List Value}, Vals (ks.map kV) us → PySem.W.EachIs (fun v k => ∃ as, Reads h v (keyD k) as ∧ L ∉ as) us ks
  | [], _, .nil => .nil
  | k :: ks, _, .cons r t => .cons ⟨[], reads_key r, nofun⟩ (each_keys t)
theorem each_rel : ∀ {ks : List Key} {us : List Value}, Vals (ks.map kV) us → PySem.W.EachIs (fun v k => RelV (kV k) v) us ks
  | [], _, .nil => .nil
  | k :: ks, _, .cons r t => .cons r (each_rel t)
theorem rel_vals : ∀ {us : List Value} {ks : List Key}, PySem.W.EachIs (fun v k => RelV (kV k) v) us ks → Vals (ks.map kV) us
  | _, _, .nil => .nil
  | _, _, .cons r t => .cons r (rel_vals t)
theorem keyD_sortable (ks : List Key) : PySem.W.Sortable (ks.map keyD) := .inr fun d hd => by
  obtain ⟨k, _, rfl⟩ := List.mem_map.mp hd
  rcases k with i | x
  · exact ⟨fun h => PyData.noConfusion h, fun _ h => PyData.noConfusion h⟩
  · exact ⟨fun h => PyData.noConfusion h, fun _ h => PyData.noConfusion h⟩
theorem keyD_depth (k : Key) : (keyD k).depth ≤ 1 := by
  rcases k with i | x <;> simp [keyD, PyData.depth]
theorem call_sortedKD {X : Cx} (hcalm : X.calm = true) (hu : X.A.units + 65 < cLine) : CallR X (.builtin "sorted") rSortKD := by
  intro pins s σ H vs us Q I r h
  obtain ⟨a, kvs, rfl, hd, hal, q⟩ := h
  rw [Vals.ref1 r]
  obtain ⟨hz, hlo, es, rel, dd⟩ := dk_rd I.hok hd
  obtain ⟨ep, hat⟩ := dd.dictAt
  have hkeys : es.map (·.1) = kvs.map (·.1) := rel.keys.symm
  have hlen : es.length = kvs.length := by
    have := congrArg List.length hkeys
    simpa using this
  refine Calls.call_function_entry
    PyProof.Rows.kind_sorted PyProof.Rows.plain_sorted
    PyProof.Rows.entry_sorted (PyProof.Rows.args_sorted1 _) ?_
  unfold Builtin.«sorted»
  refine wpAny_bind
    (m := checkCount "sorted" 1 1 _) (wpAny_pure ?_)
  refine wpAny_bind (PySem.W.kdu_collect (A := X.A.in1)
    (PySem.W.kdl_dict (knd := mixKind X.prog X.w) (kvs := es) (ep := ep) hlo) (I.ok.hd hcalm) hat
    (by rw [hlen]; exact hz) fun h' tk acc hk hacc => ?_)
  have rv : Vals ((kvs.map (·.1)).map kV) acc.toList := by
    have h := keys_at (us := acc.toList) (vs := es) (by rw [Array.length_toList, hacc.1]) fun j v e => by
      obtain ⟨k, x, e1, e2⟩ := hacc.2 j v (by rw [← Array.getElem?_toList]; exact e)
      exact ⟨k, x, e1, e2⟩
    rw [← hkeys, List.map_map]
    exact h
  have hl2 : acc.toList.length = (kvs.map (·.1)).length := by rw [← rv.length, List.length_map]
  have I1 : Inv X pins σ H { s with heap := h', toks := tk } := I.kept hk
  have hL : (kvs.map (·.1)).length ≤ sizeLine := by rw [List.length_map]; exact hz
  refine wpAny_bind (wpAny_newList ?_ (by rw [hl2]; exact hL))
  have hoL : (h'.push (seqObj "list" acc.toList.toArray 0)).get? h'.objs.size = some (seqObj "list" acc.toList.toArray 0) :=
    Heap.get?_push_size _ rfl
  show wpAny _ _ _ _ _ { s with heap := h'.push (seqObj "list" acc.toList.toArray 0), toks := tk }
  have hsort := PySem.W.list_sort_data (prog := X.prog) (w := X.w) (A := X.A.in1) (E := X.xe) (s := { s with heap := h'.push (seqObj "list" acc.toList.toArray 0), toks := tk }) (R := fun v k => RelV (kV k) v) (enc := keyD)
    (Q := fun _ s' => EP X pins σ Q (.ref h'.objs.size) s') hoL (each_rel rv) (each_keys rv) (by rw [List.map_map]; exact hal) (keyD_sortable _) hL
    (fun b _ => by have := keyD_depth b; show X.A.units + 1 + 1 + _ < _; omega) fun out _ h2 => by
      obtain ⟨e', he'⟩ := PyProof.Rows.sortedHeap_at (vs := acc.toList) (out := out.toArray) hoL
      have hlen3 : (((kvs.map (·.1)).mergeSort (fun x y => leD (keyD x) (keyD y))).map kV).length ≤ sizeLine := by
        rw [List.length_map, List.length_mergeSort]
        exact hL
      refine ⟨.ref h'.objs.size, upd H h'.objs.size (.lst (((kvs.map (·.1)).mergeSort (fun x y => leD (keyD x) (keyD y))).map kV)), I1.laid (t' := tk) (fun b u e => ?_) (Nat.le_refl _) ⟨hlen3, out, e', rel_vals h2, he'⟩, rfl, q _ _ rfl (I1.hok.fresh (Nat.le_refl _))⟩
      have hb : b < h'.objs.size := Heap.lt_size e
      rw [PyProof.Rows.sortedHeap_old (Nat.ne_of_lt hb) (by rw [size_push']; exact Nat.lt_succ_of_lt hb)]
      exact Heap.get?_push_of_some _ e
  refine wpAny_bind (wpAny_holding (wpAny_mono hsort (fun _ s' x => ?_) fun _ _ e => e))
  exact wpAny_pure ⟨_, rfl, x⟩

section
variable {K : PySem.W.Frag} {F0 H0 : Hp} {Γ : List Sl} {κ α : Type} {Q : Rp κ} {R : Rp α} {td : TE}
theorem kv_keys {F : Hp} {kv : List (Key × V)} {kvs : List (κ × α)} (D : Dct K F keyD Q R kv kvs) : kv.map (fun p => keyD p.1) = (kvs.map (·.1)).map Q.toD := by
  rw [List.map_map]
  exact D.ks.symm
theorem dq_kvs {F : Hp} : ∀ {ks : List Key}, DqAll K F (ks.map kV) (ks.map keyD)
  | [] => .nil
  | k :: ks => .cons (key_dq k) dq_kvs
/-- sorted(d) -/
theorem ev_sortK (hO : Ord Q) {m : Option (List (κ × α))} (h : EvD K F0 H0 td Γ Q R m) : Ev K F0 H0 (tCB rSortKD (tCons td tNil)) Γ .n (rL Q) (m.bind fun d => srtR Q (d.map (·.1))) := by
  intro σ F H s c e P q
  cases m with
  | none => cases e
  | some kvs =>
    cases e
    refine h σ F H s kvs rfl _ fun p kv F1 H1 s1 r1 D1 => ?_
    have hk := kv_keys D1
    refine ⟨p, kv, rfl, r1, ?_, fun ks l hks nl => ?_⟩
    · rw [hk]
      intro d hd d' hd'
      obtain ⟨x, _, rfl⟩ := List.mem_map.mp hd
      obtain ⟨y, _, rfl⟩ := List.mem_map.mp hd'
      exact hO.al x y
    · have e2 : ks.map keyD = ((kvs.map (·.1)).mergeSort (leR Q)).map Q.toD := by
        rw [hks, List.map_mergeSort (s := leD) (fun _ _ _ _ => rfl), List.map_map]
        show (kv.map fun p => keyD p.1).mergeSort leD = _
        rw [hk]
        exact (List.map_mergeSort (f := Q.toD) (r := leR Q) (s := leD) (fun _ _ _ _ => rfl)).symm
      have hd2 : DqAll K F1 (ks.map kV) (((kvs.map (·.1)).mergeSort (leR Q)).map Q.toD) := by
        rw [← e2]
        exact dq_kvs
      refine q _ F1 _ (s1.trans (Step.layO s1.fh nl)) ((newL s1.fh nl hd2 (fun x hx => ?_) (by rw [List.length_mergeSort, List.length_map]; exact D1.len)).back s1)
      obtain ⟨y, hy, rfl⟩ := List.mem_map.mp (List.mem_mergeSort.mp hx)
      exact (D1.ok y hy).1
end
end Y

/-! Layer Y: sorted(d.items()). -/
namespace Y
open PySem PySem.Spec PyProof.Rows L2

def tItemsV (td : TE) : TE := fun σ H Q => td σ H fun x H1 => ∃ a kvs, x = V.ref a ∧ Rd H1 a (.dK kvs) ∧ ∀ p, H1 p = none → Q (.ref p) (upd H1 p (L2.DX.itemsO p a))
theorem pe_itemsV {X : Cx} {o : Expr} {td : TE} {apos cpos : Pos} (hd : PE X o td) (hbase : attributeBase o "items" X.env (eval o X.env) = eval o X.env := by rfl)
    (hline : (apos.endLine == cpos.line) = true := by rfl) : PE X (.Call (.Attribute o "items" apos) [] [] cpos) (tItemsV td) := by
  refine ⟨fun pins s σ H Q I h => wpAny_Call_method0_late hbase hline (thn (hd.run pins s σ H _ I h) fun v s1 ⟨x, H1, I1, r1, a, kvs, ex, ha, q⟩ => ?_)⟩
  subst ex
  cases r1
  obtain ⟨hz, hlo, es, rel, ob, dEs, ep, ho, hex, hdat, hko, hpr, hnd⟩ := dk_rd I1.hok ha
  refine ⟨"dict", "dict.items", PySem.F.plainAttrs_dict, PySem.F.slot_dict_items, PySem.F.type_dict_items, ⟨ob, ho, hex.1⟩, fun b e => ?_,
    Calls.callWith_builtin rfl (PySem.evalArgs_none (DT.callItems (es := dEs) (ep := ep) hlo ⟨ob, ho, hex, hdat⟩ ?_))⟩
  · cases e
    exact ⟨ob, ho, hex.2.1⟩
  · exact ⟨.ref s1.heap.objs.size, upd H1 s1.heap.objs.size (L2.DX.itemsO s1.heap.objs.size a), I1.laid (t' := s1.toks) (fun b u e => Heap.get?_push_of_some _ e) (Nat.le_refl _) (L2.DX.itemsO_ok (Heap.get?_push_size _ rfl)), rfl, q _ (I1.hok.fresh (Nat.le_refl _))⟩

theorem each_index {α β : Type} {R : α → β → Prop} : ∀ {as : List α} {bs : List β}, as.length = bs.length → (∀ (i : Nat) a b, as[i]? = some a → bs[i]? = some b → R a b) → PySem.W.EachIs R as bs
  | [], [], _, _ => .nil
  | a :: as, b :: bs, hl, h => .cons (h 0 a b rfl rfl) (each_index (by simpa using hl) fun i x y hx hy => h (i + 1) x y (by simpa using hx) (by simpa using hy))
theorem each_refs {γ : Type} : ∀ {us : List Value} {bs : List (Addr × γ)}, PySem.W.EachIs (fun u b => u = Value.ref b.1) us bs → us = bs.map fun b => Value.ref b.1
  | _, _, .nil => rfl
  | _, _, .cons r t => by rw [r, each_refs t]; rfl
theorem vals_refs {γ : Type} : ∀ {bs : List (Addr × γ)}, Vals (bs.map fun b => V.ref b.1) (bs.map fun b => Value.ref b.1)
  | [] => .nil
  | b :: bs => .cons rfl vals_refs
def itD (x : (Key × V) × PyData) : PyData := .tuple [keyD x.1.1, x.2]
def rSortItD (K : PySem.W.Frag) : List V → Hp → VK → Prop := fun xs H Q => ∃ (p a : Addr) (kvs : List (Key × V)) (ds : List PyData), xs = [V.ref p] ∧ H p = some (L2.DX.itemsO p a) ∧ Rd H a (.dK kvs) ∧ DpAll K H (kvs.map (·.2)) ds ∧ kvs.length = ds.length ∧
  PySem.W.AllAlike ((List.zip kvs ds).map itD) ∧ (∀ d ∈ ds, d.depth ≤ 58) ∧
  ∀ (H' : Hp) (l : Addr) (ps : List (Addr × (Key × V) × PyData)), Same H H' → H l = none → (∀ z ∈ ps, z.1 ≠ l ∧ H z.1 = none ∧ H' z.1 = some (.tup [kV z.2.1.1, z.2.1.2])) → H' l = some (.lst (ps.map fun z => V.ref z.1)) →
    ps.map (·.2) = (List.zip kvs ds).mergeSort (fun x y => leD (itD x) (itD y)) → Q (.ref l) H'
theorem kv_at {P : Program} {w : World} {kvs : List (Key × V)} {es : List (Key × Value)} (rel : KV kvs es) {j : Nat} {e : Key × Value} (h : es[j]? = some e) : ∃ x, kvs[j]? = some x ∧ x.1 = e.1 ∧ RelV x.2 e.2 := by
  induction rel generalizing j with
  | nil => simp at h
  | cons r _ ih =>
    cases j with
    | zero =>
      rw [List.getElem?_cons_zero] at h
      cases h
      exact ⟨_, rfl, r⟩
    | succ j =>
      rw [List.getElem?_cons_succ] at h
      obtain ⟨x, h1, h2⟩ := ih h
      exact ⟨x, by rw [List.getElem?_cons_succ]; exact h1, h2⟩
theorem dpAll_get {K : PySem.W.Frag} {H : Hp} : ∀ {vs : List V} {ds : List PyData} {i : Nat} {v : V} {d : PyData}, DpAll K H vs ds → vs[i]? = some v → ds[i]? = some d → Dp K H v d
  | _, _, _, _, _, .nil, h, _ => by simp at h
  | _, _, 0, _, _, .cons h _, h1, h2 => by
    cases h1
    cases h2
    exact h
  | _, _, i + 1, _, _, .cons _ h, h1, h2 => dpAll_get (i := i) h (by simpa using h1) (by simpa using h2)
theorem call_sortedItD {X : Cx} (hcalm : X.calm = true) (hu : X.A.units + 65 < cLine) : CallR X (.builtin "sorted") (rSortItD X.K) := by
  intro pins s σ H vs us Q I r h
  obtain ⟨p, a, kvs, ds, rfl, hp, ha, hds, hlen, hal, hdep, q⟩ := h
  rw [Vals.ref1 r]
  have view : s.heap.IsItemsView p a := (show ObjOk X.prog X.w H s.heap p (L2.DX.itemsO p a) from I.hok p _ hp).1
  obtain ⟨hz, hlo, es, rel, ob, dEs, ep, ho, hex, hdat, hko, hpr, hnd⟩ := dk_rd I.hok ha
  have hle : es.length = kvs.length := by
    have := congrArg List.length rel.keys
    simp only [List.length_map] at this
    exact this.symm
  have hes : dEs.size = es.length := by rw [← hpr.length, Array.length_toList]
  refine DT.sortedI (es := dEs) (ep := ep) (I.ok.hd hcalm) view ⟨ob, ho, hex, hdat⟩ (by rw [hes, hle]; exact hz) fun h' tk as hk hlt hl hG => ?_
  have hal2 : as.length = kvs.length := by rw [hl, hes, hle]
  have nd : as.Nodup := List.Pairwise.imp (fun h => Nat.ne_of_lt h) hG.rise
  have pr : ∀ (j : Nat) (t : Addr), as[j]? = some t → ∃ (x : Key × V) (d : PyData) (u1 u2 : Value) (ad : List Addr), kvs[j]? = some x ∧ ds[j]? = some d ∧ RelV (kV x.1) u1 ∧ RelV x.2 u2 ∧ Reads s.heap u2 d ad ∧ h'.get? t = some { cls := .type "tuple", data := .seq #[u1, u2] } := by
    intro j t hj
    obtain ⟨e, he, hg⟩ := hG.pairs j t hj
    have hjl : j < es.length := by
      have := (List.getElem?_eq_some_iff.mp hj).1
      omega
    obtain ⟨y, hy⟩ : ∃ y, es[j]? = some y := ⟨_, List.getElem?_eq_getElem hjl⟩
    obtain ⟨k1, k2⟩ := hpr.get? (i := j) (e := e) (by rw [Array.getElem?_toList]; exact he) hy
    obtain ⟨x, x1, x2, x3⟩ := kv_at (P := X.prog) (w := X.w) rel hy
    have hjd : j < ds.length := by omega
    have rk : RelV (kV x.1) e.key := by
      rw [x2]
      rcases keyIs_shape k1 with ⟨i, t, ek, ev⟩ | ⟨z, t, ek, ev⟩
      · rw [ek]; exact ⟨t, ev⟩
      · rw [ek]; exact ⟨t, ev⟩
    rw [← k2] at x3
    have hx2 : (kvs.map (·.2))[j]? = some x.2 := by rw [List.getElem?_map, x1]; rfl
    obtain ⟨dp, hdp⟩ : ∃ d, ds[j]? = some d := ⟨_, List.getElem?_eq_getElem hjd⟩
    have hD := dpAll_get hds hx2 hdp
    obtain ⟨ad, hr⟩ := Dp.reads I dp x.2 e.val hD x3
    exact ⟨x, dp, e.key, e.val, ad, x1, hdp, rk, x3, hr, hg⟩
  have hoL : (h'.push { cls := .type "list", data := .seq (as.map Value.ref).toArray }).get? h'.objs.size = some (seqObj "list" (as.map Value.ref).toArray 0) := Heap.get?_push_size _ rfl
  have kb : ∀ b o, h'.get? b = some o → (h'.push { cls := .type "list", data := .seq (as.map Value.ref).toArray }).get? b = some o := fun b o e => Heap.get?_push_of_some _ e
  have hzl : (List.zip kvs ds).length = kvs.length := by rw [List.length_zip, hlen, Nat.min_self]
  have hbl : (List.zip as (List.zip kvs ds)).length = as.length := by rw [List.length_zip, hzl, hal2, Nat.min_self]
  have em : (List.zip as (List.zip kvs ds)).map (fun b => itD b.2) = (List.zip kvs ds).map itD := by
    have : (List.zip as (List.zip kvs ds)).map (·.2) = List.zip kvs ds := zip_snd (by rw [hzl, hal2])
    have e2 := congrArg (List.map itD) this
    rw [List.map_map] at e2
    exact e2
  have at_ : ∀ (i : Nat) (b : Addr × (Key × V) × PyData), (List.zip as (List.zip kvs ds))[i]? = some b → as[i]? = some b.1 ∧ kvs[i]? = some b.2.1 ∧ ds[i]? = some b.2.2 := fun i b hb => by
    obtain ⟨h1, h2⟩ := List.getElem?_zip_eq_some.mp hb
    obtain ⟨h3, h4⟩ := List.getElem?_zip_eq_some.mp h2
    exact ⟨h1, h3, h4⟩
  refine PySem.W.list_sort_data (R := fun u (b : Addr × (Key × V) × PyData) => u = Value.ref b.1) (enc := fun b => itD b.2) (bs := List.zip as (List.zip kvs ds)) hoL (each_index (by rw [List.length_map, hbl]) fun i u b hu hb => ?_) (each_index (by rw [List.length_map, hbl]) fun i u b hu hb => ?_)
    (by rw [em]; exact hal) (.inl fun d hd => ?_) (by rw [hbl, hal2]; exact hz) (fun b hb => ?_) fun out _ h2 => ?_
  · rw [List.getElem?_map, (at_ i b hb).1] at hu
    cases hu
    rfl
  · rw [List.getElem?_map, (at_ i b hb).1] at hu
    cases hu
    obtain ⟨x, d, u1, u2, ad, x1, x2, x3, x4, x5, x6⟩ := pr i b.1 (at_ i b hb).1
    have ex : x = b.2.1 := Option.some.inj (x1.symm.trans (at_ i b hb).2.1)
    have ed : d = b.2.2 := Option.some.inj (x2.symm.trans (at_ i b hb).2.2)
    subst ed
    rw [ex] at x3
    refine ⟨[] ++ (ad ++ []), .tuple (kb _ _ x6) rfl rfl (.cons (reads_key x3) (.cons (PyProof.Rows.Reads.keeps (fun c o e => kb c o (hk c o e)) x5) .nil)), fun hm => ?_⟩
    rw [List.nil_append, List.append_nil] at hm
    obtain ⟨o, eo⟩ := reads_there x5 _ hm
    exact absurd (Nat.lt_trans hlt (Heap.lt_size eo)) (Nat.lt_irrefl _)
  · obtain ⟨b, _, rfl⟩ := List.mem_map.mp hd
    exact ⟨_, _, rfl⟩
  · obtain ⟨i, hi⟩ := List.mem_iff_getElem?.mp hb
    have := hdep b.2.2 (List.mem_of_getElem? (at_ i b hi).2.2)
    have hkd := keyD_depth b.2.1.1
    have : (itD b.2).depth ≤ 60 := by
      simp only [itD, PyData.depth, PyData.depthAll]
      omega
    show X.A.units + 1 + 1 + (itD b.2).depth < cLine
    omega
  · have hout := each_refs h2
    subst hout
    generalize hbs : (List.zip as (List.zip kvs ds)).mergeSort (PySem.W.dataLe false fun b => itD b.2) = bs
    rw [hbs] at h2
    have hmem : ∀ z ∈ bs, ∃ i : Nat, as[i]? = some z.1 ∧ kvs[i]? = some z.2.1 ∧ ds[i]? = some z.2.2 := fun z hz => by
      rw [← hbs] at hz
      obtain ⟨i, hi⟩ := List.mem_iff_getElem?.mp (List.mem_mergeSort.mp hz)
      exact ⟨i, at_ i z hi⟩
    have hbn : bs.length = kvs.length := by rw [← hbs, List.length_mergeSort, hbl, hal2]
    generalize hh2 : h'.push { cls := .type "list", data := .seq (as.map Value.ref).toArray } = g2 at hoL kb ⊢
    have kF : ∀ b o, h'.get? b = some o → (sortedHeap g2 h'.objs.size (as.map Value.ref) (bs.map fun b => Value.ref b.1).toArray).get? b = some o := fun b o e =>
      (PyProof.Rows.sortedHeap_old (Nat.ne_of_lt (Heap.lt_size e)) (Heap.lt_size (kb b o e))).trans (kb b o e)
    obtain ⟨eF, heF⟩ := PyProof.Rows.sortedHeap_at (vs := as.map Value.ref) (out := (bs.map fun b => Value.ref b.1).toArray) hoL
    generalize sortedHeap g2 h'.objs.size (as.map Value.ref) (bs.map fun b => Value.ref b.1).toArray = hF at kF heF ⊢
    have hn0 : H h'.objs.size = none := I.hok.fresh (Nat.le_of_lt hlt)
    have I1 : Inv X pins σ H { s with heap := hF, toks := tk } := I.kept fun b o e => kF b o (hk b o e)
    have I2 : Inv X pins σ (upd H h'.objs.size (.lst (bs.map fun z => V.ref z.1))) { s with heap := hF, toks := tk } :=
      I1.take (h' := hF) (t' := tk) (fun b ob _ e => e) (I.fpOk (Nat.le_of_lt hlt) hn0) ⟨by rw [List.length_map, hbn]; exact hz, _, eF, vals_refs, heF⟩
    obtain ⟨H2, I3, g, qt⟩ := L2.DX.takeT (P := fun b vs => ∃ (j : Nat) (x : Key × V), as[j]? = some b ∧ kvs[j]? = some x ∧ vs = [kV x.1, x.2]) I as _ I2 nd fun b hb => by
      obtain ⟨j, hj⟩ := List.mem_iff_getElem?.mp hb
      obtain ⟨x, d, u1, u2, ad, x1, x2, x3, x4, x5, x6⟩ := pr j b hj
      have hbl : s.heap.objs.size ≤ b := Nat.le_of_lt (hG.above b hb)
      refine ⟨hbl, ?_, [kV x.1, x.2], ⟨j, x, hj, x1, rfl⟩, fun H3 => ⟨by rw [sizeLine_eq]; show 2 ≤ 16777216; omega, [u1, u2], .cons x3 (.cons x4 .nil), _, kF _ _ x6, rfl, 0, rfl⟩⟩
      rw [upd_ne (Nat.ne_of_lt (Heap.lt_size x6))]
      exact I.hok.fresh hbl
    have gr : Same H H2 := fun b o e => g b o (by rw [upd_ne (ne_of_none e hn0)]; exact e)
    refine ⟨.ref h'.objs.size, H2, I3, rfl, q H2 h'.objs.size bs gr hn0 (fun z hz => ?_) (g _ _ upd_same) ?_⟩
    · obtain ⟨i, i1, i2, _⟩ := hmem z hz
      obtain ⟨vs, ⟨j, x, j1, j2, rfl⟩, hH⟩ := qt z.1 (List.mem_of_getElem? i1)
      have eij : i = j := (List.getElem?_inj (List.getElem?_eq_some_iff.mp i1).1 nd).mp (i1.trans j1.symm)
      subst eij
      have ex : x = z.2.1 := Option.some.inj (j2.symm.trans i2)
      rw [ex] at hH
      obtain ⟨_, _, _, _, _, _, _, _, _, _, x6⟩ := pr i z.1 i1
      refine ⟨Nat.ne_of_lt (Heap.lt_size x6), I.hok.fresh (Nat.le_of_lt (hG.above z.1 (List.mem_of_getElem? i1))), hH⟩
    · rw [← hbs]
      have e3 : (List.zip as (List.zip kvs ds)).map (·.2) = List.zip kvs ds := zip_snd (by rw [hzl, hal2])
      have e4 := List.map_mergeSort (f := fun b : Addr × (Key × V) × PyData => b.2) (r := PySem.W.dataLe false fun b => itD b.2) (s := fun x y => leD (itD x) (itD y)) (l := List.zip as (List.zip kvs ds)) (fun _ _ _ _ => rfl)
      rw [e4, e3]
section
variable {K : PySem.W.Frag} {F0 H0 : Hp} {Γ : List Sl} {κ α : Type} {Q : Rp κ} {R : Rp α} {td : TE}
/-- sorted(d.items()) -/
theorem ev_sortIt (hO : Ord Q) (hR : Ord R) (hn : R.n ≤ 58 := by decide) {m : Option (List (κ × α))} (h : EvD K F0 H0 td Γ Q R m) : Ev K F0 H0 (tCB (rSortItD K) (tCons (tItemsV td) tNil)) Γ .n (rL (rP Q R)) (m.bind fun d => srtR (rP Q R) d) := by
  intro σ F H s c e P q
  cases m with
  | none => cases e
  | some kvs =>
    cases e
    refine h σ F H s kvs rfl _ fun p kv F1 H1 s1 r1 D1 => ?_
    refine ⟨p, kv, rfl, r1, fun v nv => ?_⟩
    have hk := kv_keys D1
    have hlen : kv.length = (kvs.map fun p => R.toD p.2).length := by
      have := D1.vs.len
      rw [List.length_map] at this
      exact this
    have s2 : Step F1 H1 F1 (upd H1 v (L2.DX.itemsO v p)) := Step.layO s1.fh nv
    have hz : (List.zip kv (kvs.map fun p => R.toD p.2)).map itD = kvs.map (rP Q R).toD := by
      have hks := D1.ks
      have hkl : kv.length = kvs.length := by rw [hlen, List.length_map]
      apply List.ext_getElem?
      intro i
      rw [List.getElem?_map, List.getElem?_map]
      by_cases hi : i < kvs.length
      · have e1 : (List.zip kv (kvs.map fun p => R.toD p.2))[i]? = some (kv[i]'(by omega), R.toD (kvs[i]'hi).2) := by
          rw [List.getElem?_zip_eq_some]
          exact ⟨List.getElem?_eq_getElem (by omega), by rw [List.getElem?_map, List.getElem?_eq_getElem hi]; rfl⟩
        have e2 : keyD (kv[i]'(by omega)).1 = Q.toD (kvs[i]'hi).1 := by
          have := congrArg (fun l => l[i]?) hks
          simp only [List.getElem?_map, List.getElem?_eq_getElem hi, List.getElem?_eq_getElem (show i < kv.length by omega), Option.map_some, Option.some.injEq] at this
          exact this.symm
        rw [e1, List.getElem?_eq_getElem hi]
        show some (PyData.tuple [keyD (kv[i]'(by omega)).1, R.toD (kvs[i]'hi).2]) = some (PyData.tuple [Q.toD (kvs[i]'hi).1, R.toD (kvs[i]'hi).2])
        rw [e2]
      · rw [List.getElem?_eq_none (by rw [List.length_zip, List.length_map]; omega), List.getElem?_eq_none (by omega)]
        rfl
    refine ⟨v, p, kv, kvs.map fun p => R.toD p.2, rfl, upd_same, Rd.mono (Same.upd nv) r1, ?_, hlen, ?_, fun d hd => ?_, fun H' l ps hs nl hps hl hsort => ?_⟩
    · refine DqAll.dp _ _ (DqAll.mono (s1.fh.trans (Same.upd nv)) _ _ D1.vs) ?_
      have := noDAll_map R hR.e (kvs.map (·.2))
      rw [List.map_map] at this
      exact this
    · rw [hz]
      intro d hd d' hd'
      obtain ⟨x, _, rfl⟩ := List.mem_map.mp hd
      obtain ⟨y, _, rfl⟩ := List.mem_map.mp hd'
      exact (ord_P hO hR).al x y
    · obtain ⟨x, _, rfl⟩ := List.mem_map.mp hd
      have := R.hn hR.e x.2
      omega
    · have nv' : H1 l = none := by
        cases e1 : H1 l with
        | none => rfl
        | some o =>
          have := Same.upd nv (o := L2.DX.itemsO v p) l o e1
          rw [this] at nl
          cases nl
      have nz : ∀ z ∈ ps, H1 z.1 = none := fun z hz => by
        cases e1 : H1 z.1 with
        | none => rfl
        | some o =>
          have := Same.upd nv (o := L2.DX.itemsO v p) z.1 o e1
          exact absurd ((hps z hz).2.1.symm.trans this) nofun
      let F' : Hp := fun b => if b ∈ ps.map (·.1) then H' b else F1 b
      have F'in : ∀ z ∈ ps, F' z.1 = some (.tup [kV z.2.1.1, z.2.1.2]) := fun z hz => by
        show (if z.1 ∈ ps.map (·.1) then H' z.1 else F1 z.1) = _
        rw [if_pos (List.mem_map_of_mem hz)]
        exact (hps z hz).2.2
      have F'out : ∀ b, H1 b ≠ none → F' b = F1 b := fun b hb => by
        show (if b ∈ ps.map (·.1) then H' b else F1 b) = _
        rw [if_neg fun hm => by
          obtain ⟨z, hz, rfl⟩ := List.mem_map.mp hm
          exact hb (nz z hz)]
      have H1H' : Same H1 H' := (Same.upd nv).trans hs
      have st : Step F1 H1 F' H' := by
        refine ⟨fun b o e => ?_, H1H', fun b o e => ?_, fun b o e ne _ => ?_⟩
        · rw [F'out b (by rw [s1.fh b o e]; exact nofun)]
          exact e
        · have e : (if b ∈ ps.map (·.1) then H' b else F1 b) = some o := e
          split at e
          · exact e
          · exact H1H' b o (s1.fh b o e)
        · rw [F'out b (by rw [e]; exact nofun)]
          exact ne
      have hF'l : F' l = none := by
        show (if l ∈ ps.map (·.1) then H' l else F1 l) = none
        rw [if_neg fun hm => by
          obtain ⟨z, hz, e⟩ := List.mem_map.mp hm
          exact (hps z hz).1 e]
        exact s1.fh.free nv'
      have hd : DqAll K F' (ps.map fun z => V.ref z.1) ((kvs.mergeSort (leR (rP Q R))).map (rP Q R).toD) := by
        have e1 : (kvs.mergeSort (leR (rP Q R))).map (rP Q R).toD = (ps.map (·.2)).map itD := by
          rw [hsort, List.map_mergeSort (f := (rP Q R).toD) (r := leR (rP Q R)) (s := leD) (fun _ _ _ _ => rfl), ← hz]
          exact (List.map_mergeSort (f := itD) (r := fun x y => leD (itD x) (itD y)) (s := leD) (fun _ _ _ _ => rfl)).symm
        rw [e1, List.map_map]
        have hval : ∀ z ∈ ps, Dq K F1 z.2.1.2 z.2.2 := fun z hz => by
          have hm : z.2 ∈ List.zip kv (kvs.map fun p => R.toD p.2) := by
            have : z.2 ∈ ps.map (·.2) := List.mem_map_of_mem hz
            rw [hsort] at this
            exact List.mem_mergeSort.mp this
          have hm2 : (z.2.1.2, z.2.2) ∈ List.zip (kv.map (·.2)) (kvs.map fun p => R.toD p.2) := by
            obtain ⟨i, hi⟩ := List.mem_iff_getElem?.mp hm
            obtain ⟨h1, h2⟩ := List.getElem?_zip_eq_some.mp hi
            exact List.mem_iff_getElem?.mpr ⟨i, List.getElem?_zip_eq_some.mpr ⟨by rw [List.getElem?_map, h1]; rfl, h2⟩⟩
          exact D1.vs.memZip _ hm2
        clear hsort hl hps e1
        have go : ∀ l : List (Addr × (Key × V) × PyData), (∀ z ∈ l, F' z.1 = some (.tup [kV z.2.1.1, z.2.1.2]) ∧ Dq K F1 z.2.1.2 z.2.2) → DqAll K F' (l.map fun z => V.ref z.1) (l.map (itD ∘ fun z => z.2)) := by
          intro l
          induction l with
          | nil => exact fun _ => .nil
          | cons z l ih => exact fun h => .cons (.tup (h z List.mem_cons_self).1 (.cons (key_dq _) (.cons (Dq.mono st.ff _ _ (h z List.mem_cons_self).2) .nil))) (ih fun x hx => h x (List.mem_cons_of_mem _ hx))
        exact go ps fun z hz => ⟨F'in z hz, hval z hz⟩
      refine q _ F' H' (s1.trans st) (Ot.back s1 ⟨l, _, _, rfl, nv', hF'l, hl, rfl, hd, okL.mpr ⟨fun d hd => ?_, by rw [List.length_map, List.length_mergeSort]; exact D1.len⟩⟩)
      obtain ⟨x, hx, rfl⟩ := List.mem_map.mp hd
      have := D1.ok x (List.mem_mergeSort.mp hx)
      simp [rP, okD, okAll, this.1, this.2]
end
end Y

/-! Layer Y: three targets at once, new dicts among them. -/
namespace Y
open PySem PySem.Spec PyProof.Rows L2
theorem pe_k {X : Cx} {K : PySem.W.Frag} {e : Expr} {f : PySem.W.Frag → TE} (h : PE X e (f X.K)) (hK : X.K = K := by rfl) : PE X e (f K) := hK ▸ h
/-- d != {} -/
def rNeDE : R2 := fun x y H Q => ∃ a b ks, x = .ref a ∧ y = .ref b ∧ Rd H a (.dK ks) ∧ Rd H b (.dK []) ∧ Q (.bl (!ks.isEmpty)) H
theorem op_neDE {X : Cx} (hu : X.A.units < cLine) : OpR X (compareOp .NotEq) rNeDE := by
  intro pins s σ H x y v u Q I rx ry h
  obtain ⟨a, b, ks, rfl, rfl, ea, eb, q⟩ := h
  cases rx
  cases ry
  obtain ⟨_, ya, va, ra, da⟩ := dk_rd I.hok ea
  obtain ⟨_, yb, vb, rb, db⟩ := dk_rd I.hok eb
  have la := ra.length
  have lb := rb.length
  refine PySem.W.keq_ne (knd := mixKind X.prog X.w) (r := true) ya yb da db hu (fun hl => hits_all rb ra fun p hp => ?_) (fin_bl I q ?_)
  · rw [← la, ← lb] at hl
    rw [List.length_eq_zero_iff.mp hl] at hp
    cases hp
  · rw [← la, ← lb]
    cases ks <;> rfl
def neE {α : Type} (xs : List α) : Option Bool := some (!xs.isEmpty)
section
variable {K : PySem.W.Frag} {F0 H0 : Hp} {Γ : List Sl} {α γ δ κ κ' ρ β : Type} {R : Rp α} {S : Rp γ} {T : Rp δ} {Q : Rp κ} {Q' : Rp κ'} {P : Rp ρ} {ta tb tc : TE} {k : Kd} {u : TS} {out : β → List Sl}
theorem bd_par3DFF {i j l : Nat} {m : Option (List (κ × γ))} {n : Option α} {o : Option δ} {kk : List (κ × γ) → α → δ → Option (Fl ρ β)} (hQ : KyK Q) (ha : Ev K F0 H0 ta Γ .m (rD Q S) m) (hb : Ev K F0 H0 tb Γ .r R n) (hc : Ev K F0 H0 tc Γ .r T o)
    (hk : ∀ x y z, Bd K F0 H0 u (st (st (st Γ i (.d Q S x)) j (.f R y)) l (.f T z)) k P out (kk x y z)) :
    Bd K F0 H0 (tSeq (tPar3 i j l (tCons ta (tCons tb (tCons tc tNil)))) u) Γ k P out (m.bind fun x => n.bind fun y => o.bind fun z => kk x y z) := by
  intro σ F H s r e D q1 q2
  cases m with
  | none => cases e
  | some a =>
    cases n with
    | none => cases e
    | some b =>
      cases o with
      | none => cases e
      | some c =>
        refine ha σ F H s a rfl _ fun v F1 H1 s1 o1 => ?_
        refine hb σ F1 H1 (s.mono s1) b rfl _ fun w F2 H2 s2 o2 => ?_
        refine hc σ F2 H2 ((s.mono s1).mono s2) c rfl _ fun x F3 H3 s3 o3 => ?_
        refine ⟨v, w, x, rfl, ?_⟩
        have s23 := s2.trans s3
        obtain ⟨p, kv, rfl, nH, nF, hH, Dc⟩ := newM_dct hQ o1
        have n0 : H0 p = none := s.st.hh.free nH
        have sr := ((s.mono s1).mono s23).putN i (g := .d Q S a) ⟨p, kv, rfl, n0, s23.ow _ _ hH nF trivial, s23.hh _ _ hH, Dc.mono s23.ff⟩ rfl (fun z => by
          obtain ⟨_, _, ws, hw⟩ := owns_in s.sl z
          rw [nH] at hw; cases hw)
        exact hk a b c _ F3 H3 ((sr.putF j (o2.mono s3.ff)).putF l o3) r e D q1 fun b eb σ' F' H' sm => q2 b eb σ' F' H' ((s1.ff.trans s23.ff).trans sm)
theorem bd_par3DDF {i j l : Nat} {m : Option (List (κ × γ))} {n : Option (List (κ' × α))} {o : Option δ} {kk : List (κ × γ) → List (κ' × α) → δ → Option (Fl ρ β)} (hQ : KyK Q) (hQ' : KyK Q') (ha : Ev K F0 H0 ta Γ .m (rD Q S) m) (hb : Ev K F0 H0 tb Γ .m (rD Q' R) n) (hc : Ev K F0 H0 tc Γ .r T o)
    (hk : ∀ x y z, Bd K F0 H0 u (st (st (st Γ i (.d Q S x)) j (.d Q' R y)) l (.f T z)) k P out (kk x y z)) :
    Bd K F0 H0 (tSeq (tPar3 i j l (tCons ta (tCons tb (tCons tc tNil)))) u) Γ k P out (m.bind fun x => n.bind fun y => o.bind fun z => kk x y z) := by
  intro σ F H s r e D q1 q2
  cases m with
  | none => cases e
  | some a =>
    cases n with
    | none => cases e
    | some b =>
      cases o with
      | none => cases e
      | some c =>
        refine ha σ F H s a rfl _ fun v F1 H1 s1 o1 => ?_
        refine hb σ F1 H1 (s.mono s1) b rfl _ fun w F2 H2 s2 o2 => ?_
        refine hc σ F2 H2 ((s.mono s1).mono s2) c rfl _ fun x F3 H3 s3 o3 => ?_
        refine ⟨v, w, x, rfl, ?_⟩
        have s23 := s2.trans s3
        obtain ⟨p, kv, rfl, nH, nF, hH, Dc⟩ := newM_dct hQ o1
        obtain ⟨p', kv', rfl, nH', nF', hH', Dc'⟩ := newM_dct hQ' o2
        have n0 : H0 p = none := s.st.hh.free nH
        have n0' : H0 p' = none := (s.mono s1).st.hh.free nH'
        have no : p ∉ owns σ Γ := fun z => by
          obtain ⟨_, _, ws, hw⟩ := owns_in s.sl z
          rw [nH] at hw; cases hw
        have sr := ((s.mono s1).mono s23).putN i (g := .d Q S a) ⟨p, kv, rfl, n0, s23.ow _ _ hH nF trivial, s23.hh _ _ hH, Dc.mono s23.ff⟩ rfl no
        have sr1 := (s.mono s1).putN i (g := .d Q S a) ⟨p, kv, rfl, n0, nF, hH, Dc⟩ rfl no
        have sr2 := sr.putN j (g := .d Q' R b) ⟨p', kv', rfl, n0', s3.ow _ _ hH' nF' trivial, s3.hh _ _ hH', Dc'.mono s3.ff⟩ rfl (fun z => by
          obtain ⟨_, _, ws, hw⟩ := owns_in sr1.sl z
          rw [nH'] at hw; cases hw)
        exact hk a b c _ F3 H3 (sr2.putF l o3) r e D q1 fun b eb σ' F' H' sm => q2 b eb σ' F' H' ((s1.ff.trans s23.ff).trans sm)
theorem ev_neDE {td : TE} {m : Option (List (κ × α))} (h : EvD K F0 H0 td Γ Q R m) : Ev K F0 H0 (tOp rNeDE td tDNewK) Γ .r rB (m.bind fun d => neE d) := by
  intro σ F H s c e P q
  cases m with
  | none => cases e
  | some kvs =>
    cases e
    refine h σ F H s kvs rfl _ fun p kv F1 H1 s1 r1 D1 => ?_
    intro p2 n2
    refine ⟨p, p2, kv, rfl, rfl, Rd.mono (Same.upd n2) r1, .inl upd_same, q _ F1 _ (s1.trans (Step.layO s1.fh n2)) (rep_bool.mpr ?_)⟩
    have := D1.length
    cases kv <;> cases kvs <;> simp_all
end
end Y

/-! Layer Y: set(xs) of whole numbers and texts, however many they are; how many there are; sorted(set(xs)). -/
namespace Y
open PySem PySem.Spec PyProof.Rows L2

/-- what set(..) makes first -/
abbrev setO (w : World) : Obj := { cls := .type "set", dict := none, data := .set #[] 0 (.fresh 0 0 (!w.params.followText "set-order")) }

section
variable {prog : Program} {w : World}
/-- the loop that puts the items in: J i is what is known of the heap once i of them are in -/
theorem set_fill {A : Around} {R : Result → Shared → Prop} {I : Addr} {fp wr : List Addr} {G : Array GenState → Array GenState → Prop} {n : Nat} {Pv : Nat → Value → Prop} {St : Nat → Shared → Prop}
    (W : WalksS prog w A.in1 I fp wr G n Pv St) (S : Addr) (offS : S ∉ fp) (J : Nat → Heap → Prop)
    (keep : ∀ i h h', J i h → (∀ b o, b ∉ wr → h.get? b = some o → h'.get? b = some o) → J i h')
    (add : ∀ i v (s' : Shared) (Q' : Bool → Shared → Prop) (E' : Value → Shared → Prop), i < n → Pv i v → J i s'.heap →
      (∀ b h' tk, Heap.SameBut S s'.heap h' → s'.toks ≤ tk → J (i + 1) h' → Q' b { s' with heap := h', toks := tk }) → wpAny (model prog w) A.in1 (setAdd S v) Q' E' s') :
    ∀ (left i : Nat) (s : Shared), n - i = left → i ≤ n → St i s → J i s.heap → (∀ s', Moved (S :: wr) G s s' → J n s'.heap → R (.ok (.ret .none)) s') →
      codeAny (model prog w) A (.builtin "set.update.loop" ⟨[.ref S, .ref I], []⟩) R s := by
  have up : ∀ b, b ∈ wr → b ∈ S :: wr := fun b h => List.mem_cons_of_mem _ h
  intro left
  induction left with
  | zero =>
    intro i s hl hi hst hJ fin
    obtain rfl : i = n := by omega
    refine codeAny_builtin PyProof.Rows.F.entry_set_update_loop ?_
    rw [Around.under_plainId PyProof.Rows.F.plain_set_update_loop _]
    show wpAny _ A.in1 (pyNext (.ref I) >>= _) _ _ s
    refine wpAny_bind (W.done s _ _ hst fun t mv => ?_)
    show wpAny _ A.in1 (ret Value.none) _ _ t
    exact wpAny_pure (fin t (mv.mono up) (keep _ _ _ hJ fun b o hb e => mv.heap b o hb e))
  | succ left ih =>
    intro i s hl hi hst hJ fin
    have il : i < n := by omega
    refine codeAny_builtin PyProof.Rows.F.entry_set_update_loop ?_
    rw [Around.under_plainId PyProof.Rows.F.plain_set_update_loop _]
    show wpAny _ A.in1 (pyNext (.ref I) >>= _) _ _ s
    refine wpAny_bind (W.item i s _ _ il hst fun v t hv ht mv => ?_)
    have hJ1 : J i t.heap := keep _ _ _ hJ fun b o hb e => mv.heap b o hb e
    show wpAny _ A.in1 (holding [v] (setAdd S v) >>= _) _ _ t
    refine wpAny_bind (wpAny_holding (add i v t _ _ il hv hJ1 fun b g tk sb tle hJ2 => ?_))
    refine wpAny_pure ⟨plainId_quiet PyProof.Rows.F.plain_set_update_loop _, ih (i + 1) _ (by omega) il
      (W.frame _ t _ _ ht tle fun c hc o e => (sb.2 c fun z => offS (z ▸ hc)).trans e) hJ2 fun t2 mv2 hJ3 => ?_⟩
    exact fin t2 (Moved.trans W.gtrans ((mv.mono up).then_heap tle fun c o hc e => (sb.2 c fun z => hc (z ▸ List.mem_cons_self)).trans e) mv2) hJ3
set_option maxRecDepth 100000 in
set_option maxHeartbeats 3200000 in
theorem set_lst {A : Around} {E : Value → Shared → Prop} {s : Shared} {l : Addr} {items : Array Value} {Q : Value → Shared → Prop} (hh : A.handled = none) (hl : s.heap.IsList l items) (J : Nat → Heap → Prop)
    (fresh : ∀ h', (∀ b o, (s.heap.push (setO w)).get? b = some o → h'.get? b = some o) → J 0 h')
    (keep : ∀ i h h', J i h → (∀ b o, b ≠ s.heap.objs.size + 1 → h.get? b = some o → h'.get? b = some o) → J i h')
    (add : ∀ i v (s' : Shared) (Q' : Bool → Shared → Prop) (E' : Value → Shared → Prop), i < items.size → items[i]? = some v → J i s'.heap →
      (∀ b h' tk, Heap.SameBut s.heap.objs.size s'.heap h' → s'.toks ≤ tk → J (i + 1) h' → Q' b { s' with heap := h', toks := tk }) → wpAny (model prog w) A.in1.in1.in1 (setAdd s.heap.objs.size v) Q' E' s')
    (fin : ∀ (h' : Heap) (tk : Nat), J items.size h' → (∀ b o, s.heap.get? b = some o → h'.get? b = some o) → Q (.ref s.heap.objs.size) { s with heap := h', toks := tk }) :
    wpAny (model prog w) A (call (.type "set") [.ref l]) Q E s := by
  obtain ⟨cc, tl, hmro⟩ := PySem.F.called_set.mro
  have made := PySem.F.called_set.made
  have subs := PySem.F.called_set.sub
  refine wpAny_call (codeAny_of_tree ?_)
  show wpAny _ _ (callAny (.type "set") _) _ _ _
  refine wpAny_pure ⟨Code.quiet_builtin _ (by decide +kernel),
    codeAny_builtin PySem.F.entry_type_call ?_⟩
  rw [Around.under_plain
    (weight_type_call_type "set" [.ref l] []) rfl]
  have g1 := PySem.F.called_set.notType
  have g2 := PySem.F.called_set.canCreate
  have g3 := PySem.F.typeCall_set_1 (.ref l)
  repeat (any_goals (first | assumption | wp_step))
  refine codeAny_mono (code_set_led1 (.ref l) (E := E) (Q₁ := fun x t => x = .ref s.heap.objs.size ∧ t = { s with heap := s.heap.push (setO w) }) ⟨rfl, rfl⟩) fun r1 t1 q1 => ?_
  cases r1 with
  | error _ => exact q1
  | ok f1 =>
    cases f1 with
    | ret x =>
      obtain ⟨rfl, rfl⟩ := q1
      have at0 : (s.heap.push (setO w)).get? s.heap.objs.size = some (setO w) := Heap.get?_push_size _ rfl
      have ty0 : Shared.TypeIs { s with heap := s.heap.push (setO w) } (.ref s.heap.objs.size) "set" := ⟨_, at0, rfl⟩
      have i1 := PySem.F.called_set.init.lookup
      have i2 := PySem.F.called_set.init.bind (.ref s.heap.objs.size)
      repeat (any_goals (first | assumption | wp_step))
      refine codeAny_mono (codeAny_call_builtin (R := wants (fun x t => x = .none ∧ ∃ h' tk, t = { s with heap := h', toks := tk } ∧ J items.size h' ∧ (∀ b o, s.heap.get? b = some o → h'.get? b = some o)) E)
        PySem.F.called_set.init.plain PySem.F.entry_set_init (check_set_init_1 ty0 ?_)) fun r2 t2 q2 => ?_
      · obtain ⟨ol, hol, hcl, nl, hdl⟩ := hl
        obtain ⟨oc, od, odt, osl⟩ := ol
        simp only at hcl hdl
        subst hcl
        subst hdl
        have at1 : (s.heap.push (setO w)).get? l = some { cls := .type "list", dict := od, data := .seq items nl, slots := osl } := Heap.get?_push_of_some _ hol
        have s1 := PySem.F.sub_list_set
        have s2 := PySem.F.sub_list_frozenset
        have s3 : (Value.type "list" == Value.type "dict") = false := by decide
        have il1 : (s.heap.push (setO w)).IsList l items := ⟨_, at1, rfl, nl, rfl⟩
        unfold Builtin.«set.__init__» noKeywords Builtin.Frozenset.updateFrom
        generalize hPI : pyIter = PI
        wp_walk
        subst hPI
        refine wpAny_pyIter_list il1 (wpAny_bind (wpAny_runValue ?_))
        have ll : l < s.heap.objs.size := Heap.lt_size hol
        have sz : (s.heap.push (setO w)).objs.size = s.heap.objs.size + 1 := Heap.size_push ..
        have hh3 : A.in1.in1.in1.handled = none := by simp [hh]
        have ne1 : l ≠ (s.heap.push (setO w)).objs.size := by
          rw [sz]
          exact Nat.ne_of_lt (Nat.lt_succ_of_lt ll)
        refine set_fill ((Walks.list hh3 _ l ne1 items).toS) s.heap.objs.size (by
          rw [sz]
          simp only [List.mem_cons, List.not_mem_nil, or_false, not_or]
          exact ⟨Nat.ne_of_lt (Nat.lt_succ_self _), Nat.ne_of_gt ll⟩) J (fun i h h' hJ hk => keep i h h' hJ fun b o hb e => hk b o (by
            rw [List.mem_singleton, sz]
            exact hb) e) (fun i v s' Q' E' hi hv hJ hq => add i v s' Q' E' hi hv hJ hq) (items.size - 0) 0 _ (by omega) (Nat.zero_le _)
          ⟨⟨_, Heap.get?_push_size _ rfl, rfl, rfl⟩, (il1.push _)⟩ (fresh _ fun b o e => Heap.get?_push_of_some _ e) fun t mv hJ => ?_
        obtain ⟨hp, gs, dr, tk, os⟩ := t
        obtain rfl : gs = s.gens := mv.gens
        obtain rfl : dr = s.drawn := mv.drawn
        obtain rfl : os = s.os := mv.os
        show wpAny _ _ _ _ _ _
        refine wpAny_pure ?_
        show wpAny _ _ (ret Value.none) _ _ _
        refine wpAny_pure ⟨rfl, hp, tk, rfl, hJ, fun b o e => ?_⟩
        have hb := Heap.lt_size e
        exact mv.heap b o (by
          rw [sz]
          simp only [List.mem_cons, List.not_mem_nil, or_false, not_or]
          exact ⟨Nat.ne_of_lt hb, Nat.ne_of_lt (Nat.lt_succ_of_lt hb)⟩) (Heap.get?_push_of_some _ (Heap.get?_push_of_some _ e))
      · cases r2 with
        | error _ => exact q2
        | ok f2 =>
          cases f2 with
          | ret _ =>
            obtain ⟨rfl, hp, tk, rfl, hJ, hk⟩ := q2
            repeat (any_goals (first | assumption | wp_step))
            exact fin _ _ hJ hk
          | _ => exact q2.elim
    | _ => exact q1.elim
end

/-! ### the keys of a set -/
def keyV : Value → Key
  | .int k _ => .inl k
  | .str x _ => .inr x
  | _ => .inl 0
def GoodK (w : World) (e : Int × Value) : Prop := keyIs (keyV e.2) e.2 = true ∧ e.1 = keyH w (keyV e.2)
def SetQ (w : World) (h : Heap) (a : Addr) (L : List Key) : Prop :=
  ∃ o es ep t, h.get? a = some o ∧ o.ExactSet ∧ o.data = .set es ep t ∧ (∀ e ∈ es.toList, GoodK w e) ∧ (es.toList.map fun e => keyV e.2).Perm L ∧ L.Nodup ∧
    es.size < scanBound ∧ t.fits es.size = true ∧ Ris t.place.toList ∧ (w.params.followText "set-order" = true ∨ t.led = true)
def insK {α : Type} [DecidableEq α] (L : List α) (k : α) : List α := if k ∈ L then L else L ++ [k]
theorem keyV_of {k : Key} {u : Value} (h : keyIs k u = true) : keyV u = k := by
  rcases keyIs_shape h with ⟨i, t, rfl, rfl⟩ | ⟨x, t, rfl, rfl⟩ <;> rfl
theorem key_scan' {k : Key} {u : Value} (h : keyIs k u = true) : u.scannable = true := by
  rcases keyIs_shape h with ⟨i, t, rfl, rfl⟩ | ⟨x, t, rfl, rfl⟩ <;> rfl
section
variable {P : Program} {w : World} {A : Around} {E : Value → Shared → Prop} {s : Shared} {a : Addr} {L : List Key}
theorem goodk_elems {l : List (Int × Value)} (g : ∀ e ∈ l, GoodK w e) : ElemsOf (mixKind P w) l := fun e he => ⟨⟨keyV e.2, (g e he).1, (g e he).2⟩, key_scan' (g e he).1⟩
theorem goodk_mem {l : List (Int × Value)} (g : ∀ e ∈ l, GoodK w e) (k : Key) : k ∈ l.map (fun e => keyV e.2) ↔ ∃ e ∈ l, (mixKind P w).is k e.2 = true := by
  rw [List.mem_map]
  constructor
  · rintro ⟨e, he, rfl⟩
    exact ⟨e, he, (g e he).1⟩
  · rintro ⟨e, he, q⟩
    exact ⟨e, he, keyV_of q⟩
theorem setq_store {tell : Bool → Sem Unit} (ht : ∀ (b : Bool) (s₁ : Shared) (Q' : Unit → Shared → Prop), Q' () s₁ → wpAny (model P w) A (tell b) Q' E s₁)
    {o : Obj} {es : Array (Int × Value)} {ep : Nat} {t : SetTable} (go : s.heap.get? a = some o) (ge : o.ExactSet) (gd : o.data = .set es ep t)
    {es1 : Array (Int × Value)} {t2 : SetTable} {L' : List Key} (g1 : ∀ e ∈ es1.toList, GoodK w e) (p1 : (es1.toList.map fun e => keyV e.2).Perm L') (nd1 : L'.Nodup)
    (b1 : es1.size < scanBound) (f2 : t2.fits es1.size = true) (ri : Ris t2.place.toList) (ld : w.params.followText "set-order" = true ∨ t2.led = true) {wd : Bool} {R : Option Bool → Shared → Prop}
    (fin : ∀ h', Heap.SameBut a s.heap h' → SetQ w h' a L' → R (some true) { s with heap := h' }) :
    wpAny (model P w) A (do
        storeSet a es1 t2
        if (!wd && t2.tooFull) = true then do
            tell (relayAll t2 es1 (SetTable.grown es1.size)).2.2
            storeSet a (relayAll t2 es1 (SetTable.grown es1.size)).1 (relayAll t2 es1 (SetTable.grown es1.size)).2.1
            pure (some true)
          else pure (some true)) R E s := by
  refine wpAny_bind (wpAny_storeSet_of go gd ?_ (fits_of_scanBound b1))
  have go1 := store_at (es' := es1) (t' := t2) go gd
  have sb1 := Heap.SameBut.update s.heap a (Obj.putSet es1 t2)
  split
  · have pe := relayAll_perm t2 es1 (SetTable.grown es1.size)
    have f3 := relayAll_fits t2 es1 (SetTable.grown es1.size)
    have r3 := relayAll_ris t2 es1 (SetTable.grown es1.size)
    have l3 := relayAll_led t2 es1 (SetTable.grown es1.size)
    generalize relayAll t2 es1 (SetTable.grown es1.size) = z at pe f3 r3 l3 ⊢
    obtain ⟨es2, t3, gv⟩ := z
    dsimp only at pe f3 r3 l3 ⊢
    have sz : es2.size = es1.size := by rw [← Array.length_toList, pe.length_eq, Array.length_toList]
    have b2 : es2.size < scanBound := sz ▸ b1
    refine wpAny_bind (ht _ _ _ (wpAny_bind (wpAny_storeSet_of go1 rfl ?_ (fits_of_scanBound b2))))
    have go2 := store_at (es' := es2) (t' := t3) go1 rfl
    exact wpAny_pure (fin _ (sb1.trans (Heap.SameBut.update _ a _)) ⟨_, es2, _, t3, go2, ge, rfl, fun e he => g1 e (pe.mem_iff.mp he), (pe.map _).trans p1, nd1, b2, by rw [sz]; exact (sz ▸ f3), r3, ld.imp id fun z => by rw [l3]; exact z⟩)
  · exact wpAny_pure (fin _ sb1 ⟨_, es1, _, t2, go1, ge, rfl, g1, p1, nd1, b1, f2, ri, ld⟩)
theorem setq_hashed {k : Key} {u : Value} {Q : Bool → Shared → Prop} (hu : keyIs k u = true) (R : SetQ w s.heap a L) (room : L.length + 1 < scanBound)
    (hQ : ∀ b h', Heap.SameBut a s.heap h' → SetQ w h' a (insK L k) → Q b { s with heap := h' }) :
    wpAny (model P w) A (setAddHashed a u ((mixKind P w).hash k)) Q E s := by
  obtain ⟨o, es, ep, t, go, ge, gd, gg, pm, nd, hb, hf, ri, ld⟩ := R
  have isk : (mixKind P w).is k u = true := hu
  have sc : u.scannable = true := key_scan' hu
  have el : ElemsOf (mixKind P w) es.toList := goodk_elems gg
  unfold setAddHashed setAddHashedIn
  refine wpAny_holding
    (wpAny_bind (wpAny_setState_of go gd hf ?_))
  dsimp only
  rw [byScan_of sc hb el]
  simp only [↓reduceIte]
  unfold setAddByScan
  refine wpAny_bind (wpAny_bind (wpAny_rule
    (wpAny_bind (wpAny_setScan_of isk go gd hf el ?_))))
  cases hfi : List.findIdx? (fun e => (mixKind P w).is k e.2) es.toList with
  | some j =>
    dsimp only
    obtain ⟨hj, pj, _⟩ := List.findIdx?_eq_some_iff_getElem.mp hfi
    have hk : k ∈ L := pm.mem_iff.mp ((goodk_mem (P := P) gg k).2 ⟨es.toList[j], List.getElem_mem hj, pj⟩)
    refine wpAny_pure (wpAny_pure (hQ _ s.heap (Heap.SameBut.refl a s.heap) ?_))
    unfold insK
    rw [if_pos hk]
    exact ⟨o, es, ep, t, go, ge, gd, gg, pm, nd, hb, hf, ri, ld⟩
  | none =>
    dsimp only
    have nk : k ∉ L := fun z => by
      obtain ⟨e, he, q⟩ := (goodk_mem (P := P) gg k).1 (pm.mem_iff.mpr z)
      have c := List.findIdx?_eq_none_iff.mp hfi e he
      rw [q] at c
      cases c
    have ins : insK L k = L ++ [k] := if_neg nk
    have told : ∀ (b : Bool) {s₁ : Shared} {Q' : Unit → Shared → Prop}, Q' () s₁ → wpAny (model P w) A (match b with | true => rule "set.scan.the-table-gave-way" | false => pure ()) Q' E s₁ := fun b _ _ q => by
      cases b
      · exact wpAny_pure q
      · exact wpAny_rule q
    have pl := layNew_perm t es ((mixKind P w).hash k) u
    have f1 := layNew_fits t es ((mixKind P w).hash k) u
    have r1 := layNew_ris t es ((mixKind P w).hash k) u ri
    have l1 := layNew_led t es ((mixKind P w).hash k) u
    generalize layNew t es ((mixKind P w).hash k) u = z at pl f1 r1 l1 ⊢
    obtain ⟨es1, t1, wd, gv⟩ := z
    dsimp only at pl f1 r1 l1 ⊢
    rw [Array.toList_push] at pl
    have g1 : ∀ e ∈ es1.toList, GoodK w e := fun e he => by
      rcases List.mem_append.mp (pl.mem_iff.mp he) with z | z
      · exact gg e z
      · rw [List.mem_singleton.mp z]
        exact ⟨by rw [keyV_of hu]; exact hu, by rw [keyV_of hu]; rfl⟩
    have p1 : (es1.toList.map fun e => keyV e.2).Perm (insK L k) := by
      rw [ins]
      have := pl.map fun e : Int × Value => keyV e.2
      rw [List.map_append] at this
      refine this.trans ?_
      show (_ ++ [keyV u]).Perm _
      rw [keyV_of hu]
      exact pm.append_right _
    have nd1 : (insK L k).Nodup := by
      rw [ins]
      exact List.nodup_append.mpr ⟨nd, List.nodup_cons.mpr ⟨List.not_mem_nil, List.nodup_nil⟩, fun x hx y hy => by
        rw [List.mem_singleton.mp hy]
        rintro rfl
        exact nk hx⟩
    have sz : es1.size = L.length + 1 := by
      have := p1.length_eq
      rw [List.length_map, Array.length_toList, ins, List.length_append] at this
      exact this
    have b1 : es1.size < scanBound := sz ▸ room
    have ld1 : w.params.followText "set-order" = true ∨ t1.led = true := ld.imp id fun z => by rw [l1]; exact z
    refine wpAny_bind (told _ ?_)
    split
    · refine wpAny_bind ?_
      rw [hashByValue_scannable 8 sc]
      refine wpAny_pure (setq_store ?_ go ge gd g1 p1 nd1 b1 ?_ ?_ ?_ fun h' sb r => ?_)
      · intro b s₁ Q' q
        cases b
        · exact wpAny_pure q
        · exact wpAny_rule q
      · first | (split <;> first | exact f1 | exact SetTable.fits_plain_off f1) | exact f1
      · first | (split <;> exact r1) | exact r1
      · first | (split <;> exact ld1) | exact ld1
      · dsimp only
        exact wpAny_pure (hQ _ h' sb r)
    · refine wpAny_bind (wpAny_pure ?_)
      simp only [↓reduceIte]
      refine setq_store ?_ go ge gd g1 p1 nd1 b1 f1 r1 ld1 fun h' sb r => ?_
      · intro b s₁ Q' q
        cases b
        · exact wpAny_pure q
        · exact wpAny_rule q
      · dsimp only
        exact wpAny_pure (hQ _ h' sb r)
theorem SetQ.at {h h' : Heap} (R : SetQ w h a L) (k : ∀ o, h.get? a = some o → h'.get? a = some o) : SetQ w h' a L := by
  obtain ⟨o, es, ep, t, go, r⟩ := R
  exact ⟨o, es, ep, t, k o go, r⟩
/-- what is met, each once -/
def dd {α : Type} [DecidableEq α] (l : List α) : List α := l.foldl insK []
theorem dd_take {α : Type} [DecidableEq α] {l : List α} {i : Nat} {x : α} (h : l[i]? = some x) : dd (l.take (i + 1)) = insK (dd (l.take i)) x := by
  unfold dd
  rw [List.take_add_one, h, List.foldl_append]
  rfl
theorem dd_len {α : Type} [DecidableEq α] : ∀ (l m : List α), (l.foldl insK m).length ≤ m.length + l.length
  | [], m => Nat.le_refl _
  | x :: l, m => by
    rw [List.foldl_cons, List.length_cons]
    have := dd_len l (insK m x)
    have h2 : (insK m x).length ≤ m.length + 1 := by
      unfold insK
      split
      · omega
      · rw [List.length_append]; exact Nat.le_refl _
    omega
/-- set(xs), ints and texts -/
theorem set_keys {l : Addr} {items : Array Value} {ks : List Key} {Q : Value → Shared → Prop} (hh : A.handled = none) (hl : s.heap.IsList l items) (hv : Vals (ks.map kV) items.toList) (room : ks.length + 1 < scanBound)
    (fin : ∀ (h' : Heap) (tk : Nat), SetQ w h' s.heap.objs.size (dd ks) → (∀ b o, s.heap.get? b = some o → h'.get? b = some o) → Q (.ref s.heap.objs.size) { s with heap := h', toks := tk }) :
    wpAny (model P w) A (call (.type "set") [.ref l]) Q E s := by
  have hlen : items.size = ks.length := by
    have := hv.length
    rw [List.length_map, Array.length_toList] at this
    exact this.symm
  have hat : ∀ (i : Nat) (v : Value), items[i]? = some v → ∃ k, ks[i]? = some k ∧ keyIs k v = true := fun i v e => by
    have e' : items.toList[i]? = some v := by rw [Array.getElem?_toList]; exact e
    obtain ⟨x, hx, r⟩ := back_at hv (by simpa using e')
    rw [List.getElem?_map] at hx
    obtain ⟨k, hk, rfl⟩ := Option.map_eq_some_iff.mp hx
    refine ⟨k, hk, ?_⟩
    rcases k with i | z
    · obtain ⟨t, rfl⟩ := r
      exact keyIs_int i t
    · obtain ⟨t, rfl⟩ := r
      exact keyIs_str z t
  refine set_lst hh hl (fun i h => SetQ w h s.heap.objs.size (dd (ks.take i))) (fun h' hk => ?_) (fun i h h' hJ hk => hJ.at fun o e => hk _ o (Nat.ne_of_lt (Nat.lt_succ_self _)) e) (fun i v s' Q' E' hi hv' hJ hq => ?_) fun h' tk hJ hk => ?_
  · refine ⟨_, #[], 0, _, hk _ _ (Heap.get?_push_size _ rfl), ⟨rfl, rfl, rfl⟩, rfl, fun e he => by simp at he, List.Perm.refl _, List.nodup_nil, by decide, rfl, List.Pairwise.nil, ?_⟩
    show _ ∨ (!w.params.followText "set-order") = true
    cases w.params.followText "set-order"
    · exact .inr rfl
    · exact .inl rfl
  · obtain ⟨k, hk, isk⟩ := hat i v hv'
    unfold setAdd
    refine wpAny_holding (wpAny_bind ((mixKind P w).pyHash (k := k) isk ?_))
    have hl := dd_len (ks.take i) []
    refine setq_hashed (s := { s' with toks := s'.toks + 1 }) isk hJ (by
      unfold dd
      rw [List.length_nil, List.length_take] at hl
      omega) fun b h' sb r => ?_
    exact hq b h' _ sb (Nat.le_succ _) (by rw [dd_take hk]; exact r)
  · rw [hlen, List.take_of_length_le (Nat.le_refl _)] at hJ
    exact fin h' tk hJ hk
end
end Y

/-! Layer Y: sets as plain data: their sizes; sorted(set(xs)). -/
namespace Y
open PySem PySem.Spec PyProof.Rows L2

def SetKO (w : World) (a : Addr) (L : List Key) : HO := .ext fun h => SetQ w h a L
theorem setKO_ok {P : Program} {w : World} {H : Hp} {h : Heap} {a : Addr} {L : List Key} (R : SetQ w h a L) : ObjOk P w H h a (SetKO w a L) :=
  ⟨R, (let ⟨o, _, _, _, ho, _⟩ := R; ⟨o, ho⟩), fun _ _ x k => x.at k⟩
theorem setN_ok {P : Program} {w : World} {H : Hp} {h : Heap} {a : Addr} {L : List Key} (R : SetQ w h a L) : ObjOk P w H h a (SetN a L.length) := by
  obtain ⟨o, es, ep, t, go, ge, gd, gg, pm, nd, hb, hf, ri, ld⟩ := R
  have e : es.size = L.length := by
    have := pm.length_eq
    rw [List.length_map, Array.length_toList] at this
    exact this
  exact ⟨⟨o, es, ep, t, go, ge, gd, hf, e, by rw [← e, sizeLine_eq]; unfold scanBound at hb; omega⟩, ⟨o, go⟩, fun _ _ ⟨o, es, ep, t, g, r⟩ k => ⟨o, es, ep, t, k o g, r⟩⟩
def rSetK (K : PySem.W.Frag) (w : World) : List V → Hp → VK → Prop := fun xs H Q => ∃ (l : Addr) (ks : List Key), xs = [V.ref l] ∧ SqL K H l (ks.map kV) ∧ ks.length + 1 < 4096 ∧ ∀ p, H p = none → Q (.ref p) (upd H p (SetKO w p (dd ks)))
def rSetN (K : PySem.W.Frag) : List V → Hp → VK → Prop := fun xs H Q => ∃ (l : Addr) (ks : List Key), xs = [V.ref l] ∧ SqL K H l (ks.map kV) ∧ ks.length + 1 < 4096 ∧ ∀ p, H p = none → Q (.ref p) (upd H p (SetN p (dd ks).length))
theorem cr_setK {X : Cx} (hc : X.calm = true) : CallR X (.type "set") (rSetK X.K X.w) := by
  intro pins s σ H vs us Q I r h
  obtain ⟨l, ks, rfl, hs, hl, q⟩ := h
  obtain ⟨its, rv, pl, hz⟩ := I.list hs
  rw [Vals.ref1 r]
  exact set_keys (P := X.prog) (w := X.w) (I.ok.hd hc) pl.isList (by simpa using rv) hl fun h' tk hS hk => ⟨.ref _, upd H _ (SetKO X.w _ (dd ks)), I.laid (t' := tk) hk (Nat.le_refl _) (setKO_ok hS), rfl, q _ (I.hok.fresh (Nat.le_refl _))⟩
theorem cr_setN {X : Cx} (hc : X.calm = true) : CallR X (.type "set") (rSetN X.K) := by
  intro pins s σ H vs us Q I r h
  obtain ⟨l, ks, rfl, hs, hl, q⟩ := h
  obtain ⟨its, rv, pl, hz⟩ := I.list hs
  rw [Vals.ref1 r]
  exact set_keys (P := X.prog) (w := X.w) (I.ok.hd hc) pl.isList (by simpa using rv) hl fun h' tk hS hk => ⟨.ref _, upd H _ (SetN _ (dd ks).length), I.laid (t' := tk) hk (Nat.le_refl _) (setN_ok hS), rfl, q _ (I.hok.fresh (Nat.le_refl _))⟩
def rLenN : List V → Hp → VK → Prop := fun xs H Q => ∃ (a : Addr) (n : Nat), xs = [V.ref a] ∧ H a = some (SetN a n) ∧ Q (.int n) H
theorem cr_lenN {X : Cx} : CallR X (.builtin "len") rLenN := by
  intro pins s σ H vs us Q I r h
  obtain ⟨a, n, rfl, ha, q⟩ := h
  rw [Vals.ref1 r]
  obtain ⟨o, es, ep, t, go, ge, gd, gf, gn, gz⟩ := (show ObjOk X.prog X.w H s.heap a (SetN a n) from I.hok a _ ha).1
  rw [sizeLine_eq] at gz
  exact call_len_set go ge gd gf (by rw [gn]; omega) ⟨.int n, H, I.tok _, ⟨_, by rw [gn]⟩, q⟩
def rSortSK (w : World) : List V → Hp → VK → Prop := fun vs H Q => ∃ (a : Addr) (L : List Key), vs = [V.ref a] ∧ H a = some (SetKO w a L) ∧ PySem.W.AllAlike (L.map keyD) ∧
  ∀ (L' : List Key) (p : Addr), L'.Perm L → H p = none → Q (.ref p) (upd H p (.lst ((L'.mergeSort fun x y => leD (keyD x) (keyD y)).map kV)))
theorem cr_sortedSK {X : Cx} (hc : X.calm = true) (hu : X.A.units + 65 < cLine) : CallR X (.builtin "sorted") (rSortSK X.w) := by
  intro pins s σ H vs us Q I r h
  obtain ⟨a, L, rfl, ha, hal, q⟩ := h
  rw [Vals.ref1 r]
  obtain ⟨o, es, ep, t, go, ge, gd, gg, pm, nd, hb, hf, ri, ld⟩ := (show ObjOk X.prog X.w H s.heap a (SetKO X.w a L) from I.hok a _ ha).1
  refine Calls.call_function_entry
    PyProof.Rows.kind_sorted PyProof.Rows.plain_sorted
    PyProof.Rows.entry_sorted (PyProof.Rows.args_sorted1 _) ?_
  unfold Builtin.«sorted»
  refine wpAny_bind
    (m := checkCount "sorted" 1 1 _) (wpAny_pure ?_)
  refine wpAny_bind (collect_set (A := X.A.in1) (I.ok.hd hc) ⟨o, go, ge.1, gd⟩ hf hb ri ld fun t1 vs k1 z1 e1 o1 p1 => ?_)
  have rv : Vals ((vs.map keyV).map kV) vs := by
    have : ∀ u ∈ vs, keyIs (keyV u) u = true := fun u hu => by
      obtain ⟨e, he, rfl⟩ := List.mem_map.mp (p1.mem_iff.mp hu)
      exact (gg e he).1
    clear p1
    induction vs with
    | nil => exact .nil
    | cons u us ih =>
      refine .cons ?_ (ih fun x hx => this x (List.mem_cons_of_mem _ hx))
      rcases keyIs_shape (this u List.mem_cons_self) with ⟨i, t, ek, ev⟩ | ⟨z, t, ek, ev⟩
      · rw [ek]; exact ⟨t, ev⟩
      · rw [ek]; exact ⟨t, ev⟩
  have pL : (vs.map keyV).Perm L := by
    have := p1.map keyV
    rw [List.map_map] at this
    exact this.trans pm
  have hlen : vs.length = L.length := by
    have := pL.length_eq
    rw [List.length_map] at this
    exact this
  have hLz : L.length ≤ sizeLine := by
    have := pm.length_eq
    rw [List.length_map, Array.length_toList] at this
    unfold scanBound at hb
    rw [sizeLine_eq]
    omega
  refine wpAny_bind (wpAny_newList ?_ (by rw [hlen]; exact hLz))
  have hoL : (t1.heap.push (seqObj "list" vs.toArray 0)).get? t1.heap.objs.size = some (seqObj "list" vs.toArray 0) :=
    Heap.get?_push_size _ rfl
  have hsort := PySem.W.list_sort_data (prog := X.prog) (w := X.w) (A := X.A.in1) (E := X.xe) (s := { t1 with heap := t1.heap.push (seqObj "list" vs.toArray 0) }) (R := fun v k => RelV (kV k) v) (enc := keyD)
    (Q := fun _ s' => EP X pins σ Q (.ref t1.heap.objs.size) s') hoL (each_rel rv) (each_keys rv) (fun d hd d' hd' => hal d ((pL.map keyD).mem_iff.mp hd) d' ((pL.map keyD).mem_iff.mp hd')) (keyD_sortable _) (by rw [List.length_map, hlen]; exact hLz)
    (fun b _ => by have := keyD_depth b; show X.A.units + 1 + 1 + (keyD b).depth < cLine; omega) fun out _ h2 => by
      obtain ⟨e', he'⟩ := PyProof.Rows.sortedHeap_at (vs := vs) (out := out.toArray) hoL
      have hlen3 : (((vs.map keyV).mergeSort (fun x y => leD (keyD x) (keyD y))).map kV).length ≤ sizeLine := by
        rw [List.length_map, List.length_mergeSort, List.length_map, hlen]
        exact hLz
      have hn : H t1.heap.objs.size = none := I.hok.fresh z1
      have kk : ∀ b u, s.heap.get? b = some u → (sortedHeap (t1.heap.push (seqObj "list" vs.toArray 0)) t1.heap.objs.size vs out.toArray).get? b = some u := fun b u e => by
        have q1 := k1 b u e
        have hb := Heap.lt_size q1
        rw [PyProof.Rows.sortedHeap_old (Nat.ne_of_lt hb) (by rw [size_push']; exact Nat.lt_succ_of_lt hb)]
        exact Heap.get?_push_of_some _ q1
      have J : Inv X pins σ (upd H t1.heap.objs.size (.lst (((vs.map keyV).mergeSort (fun x y => leD (keyD x) (keyD y))).map kV))) { s with heap := sortedHeap (t1.heap.push (seqObj "list" vs.toArray 0)) t1.heap.objs.size vs out.toArray, gens := t1.gens, drawn := t1.drawn, toks := t1.toks } :=
        I.call (ch := []) (Un.laid kk z1 hn) (I.hok.laid kk z1 ⟨hlen3, out, e', rel_vals h2, he'⟩) (by rw [e1]; exact I.bare) nofun
      have es : ({ t1 with heap := sortedHeap (t1.heap.push (seqObj "list" vs.toArray 0)) t1.heap.objs.size vs out.toArray } : Shared) = { s with heap := sortedHeap (t1.heap.push (seqObj "list" vs.toArray 0)) t1.heap.objs.size vs out.toArray, gens := t1.gens, drawn := t1.drawn, toks := t1.toks } := by
        clear h2 J he' hoL kk
        cases t1
        cases s
        cases o1
        rfl
      show EP X pins σ Q _ ({ t1 with heap := sortedHeap (t1.heap.push (seqObj "list" vs.toArray 0)) t1.heap.objs.size vs out.toArray } : Shared)
      rw [es]
      exact ⟨.ref t1.heap.objs.size, _, J, rfl, q _ _ pL hn⟩
  refine wpAny_bind (wpAny_holding (wpAny_mono hsort (fun _ s' x => ?_) fun _ _ e => e))
  exact wpAny_pure ⟨_, rfl, x⟩

section
variable {K : PySem.W.Frag} {w : World} {F0 H0 : Hp} {Γ : List Sl} {α : Type} {R : Rp α} {ta : TE}
/-- data that are keys -/
structure KyF (R : Rp α) where
  f : α → Key
  e : R.e = true
  h : ∀ a, R.toD a = keyD (f a)
  g : Key → α
  gf : ∀ a, g (f a) = a
def kf_I : KyF rI := ⟨.inl, rfl, fun _ => rfl, fun k => match k with | .inl i => i | .inr _ => 0, fun _ => rfl⟩
def kf_S : KyF rS := ⟨fun x => .inr ⟨x.toArray⟩, rfl, fun _ => rfl, fun k => match k with | .inl _ => [] | .inr z => z.cps.toList, fun _ => rfl⟩
theorem KyF.inj (k : KyF R) {a b : α} (h : k.f a = k.f b) : a = b := R.dinj k.e (by rw [k.h, k.h, h])
theorem dd_map [DecidableEq α] (k : KyF R) : ∀ (l m : List α), (l.map k.f).foldl insK (m.map k.f) = (l.foldl insK m).map k.f
  | [], _ => rfl
  | x :: l, m => by
    have e : insK (m.map k.f) (k.f x) = (insK m x).map k.f := by
      unfold insK
      by_cases c : x ∈ m
      · rw [if_pos c, if_pos (List.mem_map_of_mem c)]
      · rw [if_neg c, if_neg (fun h => by
          obtain ⟨y, hy, e⟩ := List.mem_map.mp h
          exact c (k.inj e ▸ hy)), List.map_append]
        rfl
    rw [List.map_cons, List.foldl_cons, e, List.foldl_cons]
    exact dd_map k l (insK m x)
theorem keys_of (k : KyF R) {F : Hp} {vs : List V} {xs : List α} (hd : DqAll K F vs (xs.map R.toD)) : vs = (xs.map k.f).map kV := by
  refine dq_keys (K := K) (F := F) ?_
  rw [List.map_map]
  have : xs.map R.toD = xs.map (keyD ∘ k.f) := List.map_congr_left fun a _ => k.h a
  rw [← this]
  exact hd
def setN [DecidableEq α] (xs : List α) : Option Nat := if xs.length + 1 < 4096 then some (dd xs).length else none
def lenQ (n : Nat) : Option Int := some (n : Int)
theorem rep_setN {F : Hp} {p : Addr} {n : Nat} (h : F p = some (SetN p n)) : Rep K F (.ref p) rQ n := ⟨.stn h, by simp [rQ, okD, okKv]⟩
theorem o_setN [DecidableEq α] (k : KyF R) : Cb1 K (rSetN K) (rL R) .r rQ setN := by
  intro F H x a c fh hx e Q q
  unfold setN at e
  split at e
  next hl =>
    cases e
    obtain ⟨p, vs, rfl, hq, hd, ho, hz⟩ := hx.list fh
    have hv := keys_of k hd
    have hdd : dd (a.map k.f) = (dd a).map k.f := dd_map k a []
    refine ⟨p, a.map k.f, rfl, .inl (by rw [← hv]; exact hq), by rw [List.length_map]; exact hl, fun l nl => ?_⟩
    rw [hdd, List.length_map]
    exact q _ _ _ (Step.lay fh nl) (rep_setN upd_same)
  next => cases e
theorem Rep.setN {F : Hp} {v : V} {n : Nat} (h : Rep K F v rQ n) : ∃ p, v = .ref p ∧ F p = some (SetN p n) := by
  obtain ⟨h, _⟩ := h
  generalize hd : rQ.toD n = d at h
  cases h with
  | stn e =>
    have : (PyData.dict [(.none, .int (n : Int))]) = .dict [(.none, .int _)] := hd
    simp only [PyData.dict.injEq, List.cons.injEq, Prod.mk.injEq, PyData.int.injEq, true_and, and_true] at this
    have := Int.ofNat.inj this
    subst this
    exact ⟨_, rfl, e⟩
  | non => exact nomatch (show PyData.dict [(.none, .int (n : Int))] = _ from hd)
  | bl _ => exact nomatch (show PyData.dict [(.none, .int (n : Int))] = _ from hd)
  | int _ => exact nomatch (show PyData.dict [(.none, .int (n : Int))] = _ from hd)
  | str _ => exact nomatch (show PyData.dict [(.none, .int (n : Int))] = _ from hd)
  | lst _ _ => exact nomatch (show PyData.dict [(.none, .int (n : Int))] = _ from hd)
  | tup _ _ => exact nomatch (show PyData.dict [(.none, .int (n : Int))] = _ from hd)
  | dct e h1 h2 =>
    rename_i ds
    have : (PyData.dict [(.none, .int (n : Int))]) = .dict ds := hd
    cases this
    have h3 := congrArg (fun l => l[0]?) h1
    rename_i kvs
    cases kvs with
    | nil => simp at h1
    | cons p kvs =>
      rcases p with ⟨i | z, v⟩ <;> simp [keyD] at h1
  | dcT e h1 h2 => 
    have : (PyData.dict [(.none, .int (n : Int))]) = _ := hd
    simp at this
  | obj e h1 h2 h3 =>
    have : (PyData.dict [(.none, .int (n : Int))]) = _ := hd
    simp at this
theorem Vw.setN {F H : Hp} {v : V} {n : Nat} (h : Vw K F H v rQ n) : ∃ p, v = .ref p ∧ F p = some (SetN p n) := by
  rcases h with h | ⟨p, vs, ds, _, _, h2, _⟩
  · exact h.setN
  · cases h2
theorem o_lenN : Cb1 K rLenN rQ .r rI lenQ := by
  intro F H x a c fh hx e Q q
  cases e
  obtain ⟨p, rfl, hp⟩ := hx.setN
  exact ⟨p, a, rfl, fh _ _ hp, q _ F H (Step.refl fh) (rep_int.mpr rfl)⟩
/-- the order of R's data is one of all of them -/
structure OrdT (R : Rp α) : Prop where
  o : Ord R
  tr : ∀ a b c, leR R a b = true → leR R b c = true → leR R a c = true
  tot : ∀ a b, (leR R a b || leR R b a) = true
  anti : ∀ a b, leR R a b = true → leR R b a = true → a = b
theorem leR_I (a b : Int) : leR rI a b = decide (a ≤ b) := by
  have := congrFun (congrFun (PySem.W.dataLe_int (β := Int) id) a) b
  rw [PySem.W.dataLe_eq] at this
  exact this
theorem leR_S (a b : List Nat) : leR rS a b = decide (a ≤ b) := by
  have := congrFun (congrFun (PySem.W.dataLe_str (β := List Nat) fun z => ⟨z.toArray⟩) a) b
  rw [PySem.W.dataLe_eq] at this
  exact this
theorem ordT_I : OrdT rI := ⟨ord_I, fun a b c h1 h2 => by
  rw [leR_I, decide_eq_true_iff] at *
  omega, fun a b => by
  rw [leR_I, leR_I, Bool.or_eq_true, decide_eq_true_iff, decide_eq_true_iff]
  omega, fun a b h1 h2 => by
  rw [leR_I, decide_eq_true_iff] at *
  omega⟩
theorem ordT_S : OrdT rS := ⟨ord_S, fun a b c h1 h2 => by
  rw [leR_S, decide_eq_true_iff] at *
  exact List.le_trans h1 h2, fun a b => by
  rw [leR_S, leR_S, Bool.or_eq_true, decide_eq_true_iff, decide_eq_true_iff]
  exact List.le_total a b, fun a b h1 h2 => by
  rw [leR_S, decide_eq_true_iff] at *
  exact List.le_antisymm h1 h2⟩
theorem sort_perm (O : OrdT R) {l m : List α} (h : l.Perm m) : l.mergeSort (leR R) = m.mergeSort (leR R) := by
  have p : (l.mergeSort (leR R)).Perm (m.mergeSort (leR R)) := (List.mergeSort_perm l _).trans (h.trans (List.mergeSort_perm m _).symm)
  have s1 := List.pairwise_mergeSort (le := leR R) O.tr O.tot l
  have s2 := List.pairwise_mergeSort (le := leR R) O.tr O.tot m
  exact p.eq_of_pairwise (fun a b _ _ h1 h2 => O.anti a b h1 h2) s1 s2
def srtSet [DecidableEq α] (R : Rp α) (xs : List α) : Option (List α) := if xs.length + 1 < 4096 then some ((dd xs).mergeSort (leR R)) else none
theorem mem_dd [DecidableEq α] {x : α} : ∀ {l m : List α}, x ∈ l.foldl insK m ↔ x ∈ l ∨ x ∈ m
  | [], m => by simp
  | y :: l, m => by
    rw [List.foldl_cons, mem_dd (l := l)]
    unfold insK
    split
    next h =>
      constructor
      · rintro (h | h)
        · exact .inl (List.mem_cons_of_mem _ h)
        · exact .inr h
      · rintro (h' | h')
        · rcases List.mem_cons.mp h' with rfl | h'
          · exact .inr h
          · exact .inl h'
        · exact .inr h'
    · rw [List.mem_append, List.mem_singleton, List.mem_cons]
      constructor
      · rintro (h | h | h)
        · exact .inl (.inr h)
        · exact .inr h
        · exact .inl (.inl h)
      · rintro ((h | h) | h)
        · exact .inr (.inr h)
        · exact .inl h
        · exact .inr (.inl h)
/-- sorted(set(xs)) -/
theorem ev_sortSet [DecidableEq α] (k : KyF R) (O : OrdT R) {m : Option (List α)} (h : Ev K F0 H0 ta Γ .v (rL R) m) : Ev K F0 H0 (tCB (rSortSK w) (tCons (tCB (rSetK K w) (tCons ta tNil)) tNil)) Γ .n (rL R) (m.bind fun xs => srtSet R xs) := by
  intro σ F H s c e P q
  cases m with
  | none => cases e
  | some xs =>
    have e : srtSet R xs = some c := e
    unfold srtSet at e
    split at e
    next hl =>
      cases e
      refine h σ F H s xs rfl _ fun v F1 H1 s1 o1 => ?_
      obtain ⟨p, vs, rfl, hq, hd, ho, hz⟩ := Vw.list s1.fh o1
      have hv := keys_of k hd
      have hdd : dd (xs.map k.f) = (dd xs).map k.f := dd_map k xs []
      refine ⟨p, xs.map k.f, rfl, .inl (by rw [← hv]; exact hq), by rw [List.length_map]; exact hl, fun a na => ?_⟩
      have eD : ∀ l : List α, (l.map k.f).map keyD = l.map R.toD := fun l => by
        rw [List.map_map]
        exact List.map_congr_left fun a _ => (k.h a).symm
      refine ⟨a, dd (xs.map k.f), rfl, upd_same, ?_, fun L' l pm nl => ?_⟩
      · rw [hdd, eD]
        intro d hd d' hd'
        obtain ⟨x, _, rfl⟩ := List.mem_map.mp hd
        obtain ⟨y, _, rfl⟩ := List.mem_map.mp hd'
        exact O.o.al x y
      · rw [hdd] at pm
        obtain ⟨l', p1, p2⟩ : ∃ l' : List α, l'.Perm (dd xs) ∧ L' = l'.map k.f := by
          have hm : ∀ y ∈ L', ∃ x, y = k.f x := fun y hy => by
            obtain ⟨x, _, rfl⟩ := List.mem_map.mp (pm.mem_iff.mp hy)
            exact ⟨x, rfl⟩
          have e1 : (L'.map k.g).map k.f = L' := by
            rw [List.map_map]
            refine (List.map_congr_left fun y hy => ?_).trans (List.map_id _)
            obtain ⟨x, rfl⟩ := hm y hy
            show k.f (k.g (k.f x)) = k.f x
            rw [k.gf]
          have e2 := pm.map k.g
          rw [List.map_map] at e2
          have e3 : (dd xs).map (k.g ∘ k.f) = dd xs := (List.map_congr_left fun y _ => k.gf y).trans (List.map_id _)
          rw [e3] at e2
          exact ⟨_, e2, e1.symm⟩
        subst p2
        have s2 : Step F1 H1 F1 (upd H1 a (SetKO w a (dd (xs.map k.f)))) := Step.layO s1.fh na
        have e3 : ((l'.map k.f).mergeSort fun x y => leD (keyD x) (keyD y)) = ((dd xs).mergeSort (leR R)).map k.f := by
          rw [← sort_perm O p1]
          exact (List.map_mergeSort (f := k.f) (r := leR R) (s := fun x y => leD (keyD x) (keyD y)) (fun a _ b _ => by unfold leR; rw [k.h, k.h])).symm
        rw [e3]
        have hd2 : DqAll K F1 ((((dd xs).mergeSort (leR R)).map k.f).map kV) (((dd xs).mergeSort (leR R)).map R.toD) := by
          rw [← eD]
          exact dq_kvs
        have s3 := s1.trans s2
        refine q _ F1 _ (s3.trans (Step.layO s2.fh nl)) (Ot.back s3 (newL s2.fh nl hd2 (fun x hx => ?_) ?_))
        · have := List.mem_mergeSort.mp hx
          unfold dd at this
          rcases mem_dd.mp this with h | h
          · exact ho x h
          · cases h
        · rw [List.length_mergeSort]
          have := dd_len xs []
          unfold dd
          rw [List.length_nil] at this
          omega
    next => cases e
end
end Y

/-! Layer Y: list(zip(xs, ys)): the pairs handed out stay alive, so that the zip makes a new one at every turn. -/
namespace Y
open PySem PySem.Spec PyProof.Rows L2

/-- the zip ahead of a turn: nothing is out yet, or a pair that is out still lives -/
def ZGo (z TI TO i1 i2 S : Addr) (h : Heap) : Prop :=
  (IsZip h z TI TO .none ∧ ∃ a1 a2, IsTupOf2 h TO a1 a2) ∨ ∃ (T : Addr) (f : Bool) (oT : Obj), IsZipHeld h z TI TO T f ∧ h.get? T = some oT ∧ T ≠ z ∧ T ≠ TO ∧ T ≠ i1 ∧ T ≠ i2 ∧ T ≠ S
section
variable {prog : Program} {w : World} {A : Around} {E : Value → Shared → Prop} {s : Shared} {z TI TO i1 i2 : Addr} {fp1 fp2 : List Addr} {n1 n2 i : Nat} {P1 P2 : Nat → Value → Prop} {St1 St2 : Nat → Heap → Prop}
theorem held_next {T : Addr} {f : Bool} {oT : Obj} {Q : Value → Shared → Prop} (D : ZipSep2 z TI TO i1 i2 fp1 fp2) (D1 : Draws prog w A i1 fp1 n1 P1 St1) (D2 : Draws prog w A i2 fp2 n2 P2 St2)
    (hz : IsZipHeld s.heap z TI TO T f) (hT : s.heap.get? T = some oT) (hTI : IsTupOf2 s.heap TI (.ref i1) (.ref i2)) (st1 : St1 i s.heap) (st2 : St2 i s.heap) (l1 : i < n1) (l2 : i < n2)
    (hQ : ∀ x1 x2 h' tk, P1 i x1 → P2 i x2 → IsZipHeld h' z TI TO T true → St1 (i + 1) h' → St2 (i + 1) h' → IsTupOf2 h' s.heap.objs.size x1 x2 → h'.objs.size = s.heap.objs.size + 1 →
      (∀ c o, c ≠ z → c ≠ TO → c ≠ i1 → c ≠ i2 → s.heap.get? c = some o → h'.get? c = some o) → Q (.ref s.heap.objs.size) { s with heap := h', toks := tk }) :
    wpAny (model prog w) A (Builtin.«zip.__next__» ⟨[.ref z], []⟩) (fun fin s' => ∃ v, fin = .done (.ret v) ∧ Q v s') E s := by
  obtain ⟨hp, g, d, tk0, os⟩ := s
  show wpAny _ _ (field (.ref z) 2 >>= _) _ _ _
  refine wpAny_bind (wpAny_field hz rfl (x := .bool false) rfl ?_)
  show wpAny _ _ (field (.ref z) 3 >>= _) _ _ _
  refine wpAny_bind (wpAny_field hz rfl (x := .ref TI) rfl ?_)
  refine wpAny_bind (wpAny_seqItems hTI rfl ?_)
  show wpAny _ _ (Builtin.SmallTypes.ownedTupleIsFree (.ref z) >>= _) _ _ _
  refine wpAny_bind (wpAny_tupleHeld_zip hz hT fun g1 z1 s1 => ?_)
  simp only [Bool.false_eq_true, if_false]
  refine wpAny_bind ?_
  rw [← Array.forIn_toList]
  simp only [List.forIn_cons, List.forIn_nil]
  refine wpAny_bind (wpAny_bind (wpAny_holding ?_))
  show wpAny _ _ (Builtin.SmallTypes.nextOf (.ref i1) >>= _) _ _ ⟨g1, g, d, tk0, os⟩
  refine wpAny_bind (D1.item i _ _ _ l1 (D1.over st1 s1 D.zf1) fun x1 g2 tk1 h1 n1' s2 => wpAny_pure ?_)
  replace s2 : Heap.SameBut i1 g1 g2 := s2
  refine wpAny_pure ?_
  refine wpAny_bind (wpAny_bind (wpAny_holding ?_))
  show wpAny _ _ (Builtin.SmallTypes.nextOf (.ref i2) >>= _) _ _ ⟨g2, g, d, tk1, os⟩
  refine wpAny_bind (D2.item i _ _ _ l2 (D2.over (D2.over st2 s1 D.zf2) s2 D.sep1_2) fun x2 g3 tk2 h2 n2' s3 => wpAny_pure ?_)
  replace s3 : Heap.SameBut i2 g2 g3 := s3
  refine wpAny_pure (wpAny_pure ?_)
  show wpAny _ _ (newTuple [x1, x2] >>= _) _ _ _
  refine wpAny_bind (wpAny_newTuple ?_)
  have hsz : g3.objs.size = hp.objs.size := by rw [s3.1, s2.1, s1.1]
  have z3 : IsZipHeld g3 z TI TO T true := s3.extBut _ _ D.zi2 (s2.extBut _ _ D.zi1 z1)
  have hk : ∀ c o, c ≠ z → c ≠ TO → c ≠ i1 → c ≠ i2 → hp.get? c = some o → g3.get? c = some o := fun c o c1 _ c2 c3 e => s3.extBut _ _ c3 (s2.extBut _ _ c2 (s1.extBut _ _ c1 e))
  have m1 : St1 (i + 1) g3 := D1.over n1' s3 D.sep2_1
  refine wpAny_pure ⟨_, rfl, ?_⟩
  show Q (.ref g3.objs.size) ⟨_, g, d, tk2, os⟩
  have hp2 : IsTupOf2 (g3.push { cls := .type "tuple", data := .seq #[x1, x2] }) g3.objs.size x1 x2 := Heap.get?_push_size _ rfl
  have hz4 : (g3.push { cls := .type "tuple", data := .seq #[x1, x2] }).objs.size = g3.objs.size + 1 := Heap.size_push ..
  rw [hsz] at hp2 hz4 ⊢
  exact hQ x1 x2 _ tk2 h1 h2 (Heap.get?_push_of_some _ z3) (D1.frame _ _ _ m1 fun b _ o e => Heap.get?_push_of_some _ e) (D2.frame _ _ _ n2' fun b _ o e => Heap.get?_push_of_some _ e) hp2 hz4
    fun c o c1 c0 c2 c3 e => Heap.get?_push_of_some _ (hk c o c1 c0 c2 c3 e)
theorem held_end {T : Addr} {f : Bool} {oT : Obj} {Q : Fin → Shared → Prop} (D : ZipSep2 z TI TO i1 i2 fp1 fp2) (D1 : Draws prog w A i1 fp1 n1 P1 St1) (D2 : Draws prog w A i2 fp2 n2 P2 St2)
    (hz : IsZipHeld s.heap z TI TO T f) (hT : s.heap.get? T = some oT) (hTI : IsTupOf2 s.heap TI (.ref i1) (.ref i2)) (st1 : St1 i s.heap) (st2 : St2 i s.heap) (l1 : i ≤ n1) (l2 : i ≤ n2) (hend : i = n1 ∨ i = n2)
    (hE : ∀ h' tk e, (∀ c o, c ≠ z → c ≠ TO → c ≠ i1 → c ≠ i2 → s.heap.get? c = some o → h'.get? c = some o) → (∃ o, h'.get? e = some o ∧ o.cls = .type "StopIteration") → E (.ref e) { s with heap := h', toks := tk }) :
    wpAny (model prog w) A (Builtin.«zip.__next__» ⟨[.ref z], []⟩) Q E s := by
  obtain ⟨hp, g, d, tk0, os⟩ := s
  show wpAny _ _ (field (.ref z) 2 >>= _) _ _ _
  refine wpAny_bind (wpAny_field hz rfl (x := .bool false) rfl ?_)
  show wpAny _ _ (field (.ref z) 3 >>= _) _ _ _
  refine wpAny_bind (wpAny_field hz rfl (x := .ref TI) rfl ?_)
  refine wpAny_bind (wpAny_seqItems hTI rfl ?_)
  show wpAny _ _ (Builtin.SmallTypes.ownedTupleIsFree (.ref z) >>= _) _ _ _
  refine wpAny_bind (wpAny_tupleHeld_zip hz hT fun g1 z1 s1 => ?_)
  simp only [Bool.false_eq_true, if_false]
  refine wpAny_bind ?_
  rw [← Array.forIn_toList]
  simp only [List.forIn_cons, List.forIn_nil]
  refine wpAny_bind (wpAny_bind (wpAny_holding ?_))
  show wpAny _ _ (Builtin.SmallTypes.nextOf (.ref i1) >>= _) _ _ ⟨g1, g, d, tk0, os⟩
  by_cases c1 : i < n1
  · refine wpAny_bind (D1.item i _ _ _ c1 (D1.over st1 s1 D.zf1) fun x1 g2 tk1 h1 n1' s2 => wpAny_pure ?_)
    replace s2 : Heap.SameBut i1 g1 g2 := s2
    refine wpAny_pure ?_
    have hi : i = n2 := by omega
    refine wpAny_bind (wpAny_bind (wpAny_holding ?_))
    show wpAny _ _ (Builtin.SmallTypes.nextOf (.ref i2) >>= _) _ _ ⟨g2, g, d, tk1, os⟩
    refine wpAny_bind (D2.done ⟨g2, g, d, tk1, os⟩ _ _ (by rw [← hi]; exact D2.over (D2.over st2 s1 D.zf2) s2 D.sep1_2) fun q e hq he => ?_)
    replace hq : Heap.ExtBut i2 g2 q := hq
    exact hE q tk1 e (fun c o a _ b d' x => hq _ _ d' (s2.extBut _ _ b (s1.extBut _ _ a x))) he
  · have hi : i = n1 := by omega
    refine wpAny_bind (D1.done ⟨g1, g, d, tk0, os⟩ _ _ (by rw [← hi]; exact D1.over st1 s1 D.zf1) fun q e hq he => ?_)
    replace hq : Heap.ExtBut i1 g1 q := hq
    exact hE q tk0 e (fun c o a _ b _ x => hq _ _ b (s1.extBut _ _ a x)) he
theorem zgo_item {S : Addr} {Q : Option Value → Shared → Prop} (D : ZipSep2 z TI TO i1 i2 fp1 fp2) (D1 : Draws prog w A.in1 i1 fp1 n1 P1 St1) (D2 : Draws prog w A.in1 i2 fp2 n2 P2 St2)
    (hz : ZGo z TI TO i1 i2 S s.heap) (hS : S < s.heap.objs.size) (hTO : TO < s.heap.objs.size) (h1 : i1 < s.heap.objs.size) (h2 : i2 < s.heap.objs.size) (hTI : IsTupOf2 s.heap TI (.ref i1) (.ref i2)) (st1 : St1 i s.heap) (st2 : St2 i s.heap) (l1 : i < n1) (l2 : i < n2)
    (hQ : ∀ x1 x2 h' tk, P1 i x1 → P2 i x2 → ZGo z TI TO i1 i2 S h' → St1 (i + 1) h' → St2 (i + 1) h' → IsTupOf2 h' s.heap.objs.size x1 x2 → h'.objs.size = s.heap.objs.size + 1 →
      (∀ c o, c ≠ z → c ≠ TO → c ≠ i1 → c ≠ i2 → s.heap.get? c = some o → h'.get? c = some o) → Q (some (.ref s.heap.objs.size)) { s with heap := h', toks := tk }) :
    wpAny (model prog w) A (pyNext (.ref z)) Q E s := by
  rcases hz with ⟨hz, a1, a2, ho⟩ | ⟨T, f, oT, hz, hT, n0, n1', n2', n3, n4⟩
  · have hzl : z < s.heap.objs.size := Heap.lt_size hz
    exact wpAny_pyNext_zipD2_item D D1 D2 hz hTI ho st1 st2 l1 l2 fun x1 x2 h' tk p1 p2 z' _ m1 m2 hT hsz hk =>
      hQ x1 x2 h' tk p1 p2 (.inr ⟨_, false, _, z', hT, Nat.ne_of_gt hzl, Nat.ne_of_gt hTO, Nat.ne_of_gt h1, Nat.ne_of_gt h2, Nat.ne_of_gt hS⟩) m1 m2 hT hsz hk
  · have hTy : s.TypeIs (.ref z) "zip" := ⟨_, hz, rfl⟩
    unfold pyNext
    exact wpAny_bind (wpAny_attempt (wpAny_callSpecial?_slot (name := Str.ofString "__next__") hTy F.slot_zip_next
      (wpAny_call_entry F.slot_zip_next hTy F.entry_zip_next
        (held_next D D1 D2 hz hT hTI st1 st2 l1 l2 fun x1 x2 h' tk p1 p2 z' m1 m2 hT' hsz hk => wpAny_pure (hQ x1 x2 h' tk p1 p2 (.inr ⟨T, true, oT, z', hk _ _ n0 n1' n2' n3 hT, n0, n1', n2', n3, n4⟩) m1 m2 hT' hsz hk)) (F.args_zip_next_1 _))))
theorem zgo_end {S : Addr} {Q : Option Value → Shared → Prop} (D : ZipSep2 z TI TO i1 i2 fp1 fp2) (D1 : Draws prog w A.in1 i1 fp1 n1 P1 St1) (D2 : Draws prog w A.in1 i2 fp2 n2 P2 St2)
    (hz : ZGo z TI TO i1 i2 S s.heap) (hTI : IsTupOf2 s.heap TI (.ref i1) (.ref i2)) (st1 : St1 i s.heap) (st2 : St2 i s.heap) (l1 : i ≤ n1) (l2 : i ≤ n2) (hend : i = n1 ∨ i = n2)
    (hQ : ∀ h' tk, (∀ c o, c ≠ z → c ≠ TO → c ≠ i1 → c ≠ i2 → s.heap.get? c = some o → h'.get? c = some o) → Q none { s with heap := h', toks := tk }) :
    wpAny (model prog w) A (pyNext (.ref z)) Q E s := by
  rcases hz with ⟨hz, a1, a2, ho⟩ | ⟨T, f, oT, hz, hT, _⟩
  · exact wpAny_pyNext_zipD2_end D D1 D2 hz hTI ho st1 st2 l1 l2 hend hQ
  · have hTy : s.TypeIs (.ref z) "zip" := ⟨_, hz, rfl⟩
    unfold pyNext
    refine wpAny_bind (wpAny_attempt (wpAny_callSpecial?_slot (name := Str.ofString "__next__") hTy F.slot_zip_next
      (wpAny_call_entry F.slot_zip_next hTy F.entry_zip_next (held_end D D1 D2 hz hT hTI st1 st2 l1 l2 hend fun h' tk e hk he => ?_) (F.args_zip_next_1 _))))
    obtain ⟨o, ho, hc⟩ := he
    refine wpAny_bind (wpAny_isInstance (T := "StopIteration") (b := true) ⟨o, ho, hc⟩ isSubtype_stop ?_)
    exact wpAny_pure (hQ _ _ hk)
end
/-- G is H0 and the pairs ps in new tuples, at vs -/
inductive Made (H0 : Hp) : List (V × V) → Hp → List V → Prop
  | nil : Made H0 [] H0 []
  | snoc {ps : List (V × V)} {G : Hp} {vs : List V} {T : Addr} {x y : V} : Made H0 ps G vs → G T = none → Made H0 (ps ++ [(x, y)]) (upd G T (.tup [x, y])) (vs ++ [.ref T])
theorem Made.len {H0 : Hp} {ps : List (V × V)} {G : Hp} {vs : List V} (m : Made H0 ps G vs) : vs.length = ps.length := by
  induction m with
  | nil => rfl
  | snoc _ _ ih => rw [List.length_append, List.length_append, ih]; rfl
theorem upd3 {G : Hp} {S T : Addr} {a b c : HO} (h : T ≠ S) : upd (upd (upd G S a) T b) S c = upd (upd G T b) S c := by
  funext x
  by_cases e : x = S
  · subst e
    rw [upd_same, upd_same]
  · rw [upd_ne e, upd_ne e]
    by_cases e2 : x = T
    · subst e2
      rw [upd_same, upd_same]
    · rw [upd_ne e2, upd_ne e2, upd_ne e]
section
variable {X : Cx} {pins : List (Addr × Obj)} {σ : L2.St} {z TI TO i1 i2 S : Addr} {fp1 fp2 : List Addr} {xs ys : List V} {P1 P2 : Nat → Value → Prop} {St1 St2 : Nat → Heap → Prop}
theorem zloop {A : Around} {R : Result → Shared → Prop} {H0 : Hp} {res : Value} (D : ZipSep2 z TI TO i1 i2 fp1 fp2)
    (D1 : Draws X.prog X.w A.in1.in1 i1 fp1 xs.length P1 St1) (D2 : Draws X.prog X.w A.in1.in1 i2 fp2 ys.length P2 St2) (p1 : ∀ i u, P1 i u → ∃ x, xs[i]? = some x ∧ RelV x u) (p2 : ∀ i u, P2 i u → ∃ x, ys[i]? = some x ∧ RelV x u)
    (s1 : S ∉ fp1) (s2 : S ∉ fp2) (sz : S ≠ z) (sT : S ≠ TI) (sO : S ≠ TO) (hn : (List.zip xs ys).length ≤ sizeLine) (hR : ∀ s' G vs, Inv X pins σ (upd G S (.lst vs)) s' → G S = none → Made H0 (List.zip xs ys) G vs → R (.ok (.ret res)) s') :
    ∀ (k i : Nat) (s : Shared) (G : Hp) (vs : List V) (c : Nat) (its : List Value), (List.zip xs ys).length - i = k → i ≤ (List.zip xs ys).length → Inv X pins σ (upd G S (.lst vs)) s → (∀ b ∈ [z, TO, i1, i2], FpOk X pins (upd G S (.lst vs)) b) → G S = none →
      ZGo z TI TO i1 i2 S s.heap → TO < s.heap.objs.size → i1 < s.heap.objs.size → i2 < s.heap.objs.size → IsTupOf2 s.heap TI (.ref i1) (.ref i2) → St1 i s.heap → St2 i s.heap → s.heap.get? S = some { cls := .type "list", data := .seq its.toArray c } → Vals vs its →
      Made H0 ((List.zip xs ys).take i) G vs → codeAny (model X.prog X.w) A (.builtin "list.extend.loop" ⟨[.ref S, .ref z, res], []⟩) R s := by
  have hl : (List.zip xs ys).length = min xs.length ys.length := List.length_zip
  intro k
  induction k with
  | zero =>
    intro i s G vs c its hk hi I hf nS zg _ _ _ hTI st1 st2 hS rv md
    have hin : i = (List.zip xs ys).length := by omega
    refine codeAny_builtin F.entry_extend_loop ?_
    rw [Around.under_plainId F.plain_extend_loop _]
    show wpAny _ A.in1 (pyNext (.ref z) >>= _) _ _ s
    refine wpAny_bind (zgo_end D D1 D2 zg hTI st1 st2 (by omega) (by omega) (by omega) fun h' tk hk => ?_)
    have I1 : Inv X pins σ (upd G S (.lst vs)) { s with heap := h', toks := tk } := I.turnedL (ch := [z, TO, i1, i2]) (fun b o hb e => hk b o (fun q => hb (by simp [q])) (fun q => hb (by simp [q])) (fun q => hb (by simp [q])) (fun q => hb (by simp [q])) e) hf
    rw [hin, List.take_length] at md
    exact wpAny_pure (hR _ G vs I1 nS md)
  | succ k ih =>
    intro i s G vs c its hk hi I hf nS zg lO l1 l2 hTI st1 st2 hS rv md
    have hlt : i < (List.zip xs ys).length := by omega
    refine codeAny_builtin F.entry_extend_loop ?_
    rw [Around.under_plainId F.plain_extend_loop _]
    show wpAny _ A.in1 (pyNext (.ref z) >>= _) _ _ s
    have hSl : S < s.heap.objs.size := Heap.lt_size hS
    have si1 : S ≠ i1 := fun e => s1 (e ▸ D.mem1)
    have si2 : S ≠ i2 := fun e => s2 (e ▸ D.mem2)
    refine wpAny_bind (zgo_item (S := S) D D1 D2 zg hSl lO l1 l2 hTI st1 st2 (by omega) (by omega) fun u1 u2 h' tk q1 q2 zg' m1 m2 hT hsz hk' => ?_)
    obtain ⟨x1, hx1, r1⟩ := p1 i u1 q1
    obtain ⟨x2, hx2, r2⟩ := p2 i u2 q2
    have hS' : h'.get? S = some { cls := .type "list", data := .seq its.toArray c } := hk' _ _ sz sO si1 si2 hS
    have hTn : s.heap.objs.size ≠ S := Nat.ne_of_gt hSl
    have new : ObjOk X.prog X.w (upd (upd G S (.lst vs)) s.heap.objs.size (.tup [x1, x2])) h' s.heap.objs.size (.tup [x1, x2]) :=
      ⟨by show 2 ≤ sizeLine; decide, [u1, u2], (.cons r1 (.cons r2 .nil)), ⟨_, hT, rfl, _, rfl⟩⟩
    have hGn : upd G S (.lst vs) s.heap.objs.size = none := I.hok.fresh (Nat.le_refl _)
    have hGT : G s.heap.objs.size = none := by rw [upd_ne hTn] at hGn; exact hGn
    have I1 : Inv X pins σ (upd (upd G S (.lst vs)) s.heap.objs.size (.tup [x1, x2])) { s with heap := h', toks := tk } :=
      I.turnedNew (t' := tk) (ch := [z, TO, i1, i2]) (fun b o hb e => hk' b o (fun q => hb (by simp [q])) (fun q => hb (by simp [q])) (fun q => hb (by simp [q])) (fun q => hb (by simp [q])) e) hf (Nat.le_refl _) new
    have hvl : vs.length = i := by rw [md.len, List.length_take]; omega
    have hil : its.length = i := by rw [← rv.length, hvl]
    have I2 : Inv X pins σ (upd (upd G s.heap.objs.size (.tup [x1, x2])) S (.lst (vs ++ [.ref s.heap.objs.size]))) { s with heap := h'.update S (Obj.mapSeq (·.push (.ref s.heap.objs.size))), toks := tk } := by
      have := I1.lset (t' := tk) (l := S) (xs := vs) (f := (·.push (.ref s.heap.objs.size))) (its' := its ++ [.ref s.heap.objs.size]) (ys := vs ++ [.ref s.heap.objs.size]) (by rw [upd_ne (Ne.symm hTn)]; exact upd_same) hS' (by simp) (rv.append (.cons (show RelV (V.ref s.heap.objs.size) (Value.ref s.heap.objs.size) from rfl) .nil)) (by rw [List.length_append, List.length_singleton]; omega)
      rw [upd3 hTn] at this
      exact this
    have oth : ∀ b o, b ≠ S → h'.get? b = some o → (h'.update S (Obj.mapSeq (·.push (.ref s.heap.objs.size)))).get? b = some o := fun b o hb e => (Heap.get?_update_other _ _ (Ne.symm hb)).trans e
    have uz : (h'.update S (Obj.mapSeq (·.push (.ref s.heap.objs.size)))).objs.size = h'.objs.size := (Heap.SameBut.update (h := h') (a := S) (f := Obj.mapSeq (·.push (.ref s.heap.objs.size)))).1
    obtain ⟨c', hS2⟩ : ∃ c', (h'.update S (Obj.mapSeq (·.push (.ref s.heap.objs.size)))).get? S = some { cls := .type "list", data := .seq (its ++ [Value.ref s.heap.objs.size]).toArray c' } := ⟨_, by
      have := PySem.IsL.update hS' (·.push (.ref s.heap.objs.size))
      rw [show its.toArray.push (.ref s.heap.objs.size) = (its ++ [Value.ref s.heap.objs.size]).toArray by simp] at this
      exact this⟩
    show wpAny _ A.in1 (updateSeq S (·.push _) >>= _) _ _ _
    refine wpAny_bind (wpAny_updateSeq hS' rfl (wpAny_pure ⟨plainId_quiet F.plain_extend_loop _, ih (i + 1) _ (upd G s.heap.objs.size (.tup [x1, x2])) (vs ++ [.ref s.heap.objs.size]) c' (its ++ [.ref s.heap.objs.size]) (by omega) hlt I2 (fun b hb => ?_) ?_ ?_ ?_ ?_ ?_ ?_ ?_ ?_ ?_ (rv.append (.cons (show RelV (V.ref s.heap.objs.size) (Value.ref s.heap.objs.size) from rfl) .nil)) ?_⟩) (by rw [List.size_toArray]; omega) (by show (its.toArray.push _).size ≤ sizeLine + 1; rw [Array.size_push, List.size_toArray]; omega))
    · obtain ⟨f0, f1⟩ := hf b hb
      refine ⟨?_, f1⟩
      have hb' : b < s.heap.objs.size := by
        have e' : b = z ∨ b = TO ∨ b = i1 ∨ b = i2 := by simpa using hb
        rcases e' with q | q | q | q
        · rw [q]
          rcases zg with ⟨zz, _⟩ | ⟨_, _, _, zz, _⟩ <;> exact Heap.lt_size zz
        · rw [q]; exact lO
        · rw [q]; exact l1
        · rw [q]; exact l2
      have bS : b ≠ S := fun e => by rw [e, upd_same] at f0; cases f0
      rw [upd_ne bS] at f0 ⊢
      rw [upd_ne (Nat.ne_of_lt hb')]
      exact f0
    · rw [upd_ne (Ne.symm hTn)]; exact nS
    · rcases zg' with ⟨a, b1, b2, b3⟩ | ⟨T, f, oT, a, b, n0, n1, n2, n3, n4⟩
      · exact .inl ⟨oth _ _ (Ne.symm sz) a, b1, b2, oth _ _ (Ne.symm sO) b3⟩
      · exact .inr ⟨T, f, oT, oth _ _ (Ne.symm sz) a, oth _ _ n4 b, n0, n1, n2, n3, n4⟩
    · exact Nat.lt_of_lt_of_le lO (Nat.le_trans (Nat.le_of_lt (Nat.lt_of_lt_of_eq (Nat.lt_succ_self _) hsz.symm)) (Nat.le_of_eq uz.symm))
    · exact Nat.lt_of_lt_of_le l1 (Nat.le_trans (Nat.le_of_lt (Nat.lt_of_lt_of_eq (Nat.lt_succ_self _) hsz.symm)) (Nat.le_of_eq uz.symm))
    · exact Nat.lt_of_lt_of_le l2 (Nat.le_trans (Nat.le_of_lt (Nat.lt_of_lt_of_eq (Nat.lt_succ_self _) hsz.symm)) (Nat.le_of_eq uz.symm))
    · exact oth _ _ (Ne.symm sT) (hk' _ _ D.TIz D.TITO D.TIi1 D.TIi2 hTI)
    · exact D1.frame _ _ _ m1 fun b hb o e => oth b o (fun q => s1 (q ▸ hb)) e
    · exact D2.frame _ _ _ m2 fun b hb o e => oth b o (fun q => s2 (q ▸ hb)) e
    · exact hS2
    · have e : (List.zip xs ys).take (i + 1) = (List.zip xs ys).take i ++ [(x1, x2)] := by
        rw [List.take_add_one]
        have : (List.zip xs ys)[i]? = some (x1, x2) := by rw [List.getElem?_zip_eq_some]; exact ⟨hx1, hx2⟩
        rw [this]
        rfl
      rw [e]
      exact .snoc md hGT
theorem zip_len0 : typeLookup (.type "zip") "__len__" = pure none := am_miss_of_fast (by decide +kernel)
theorem zip_hint0 : typeLookup (.type "zip") "__length_hint__" = pure none := am_miss_of_fast (by decide +kernel)
/-- list(z) of a zip that has not begun -/
theorem call_list_zip {s : Shared} {G0 : Hp} {E : Value → Shared → Prop} {Q : Value → Shared → Prop} (D : ZipSep2 z TI TO i1 i2 fp1 fp2)
    (D1 : Draws X.prog X.w X.A.in1.in1.in1 i1 fp1 xs.length P1 St1) (D2 : Draws X.prog X.w X.A.in1.in1.in1 i2 fp2 ys.length P2 St2) (p1 : ∀ i u, P1 i u → ∃ x, xs[i]? = some x ∧ RelV x u) (p2 : ∀ i u, P2 i u → ∃ x, ys[i]? = some x ∧ RelV x u)
    (l1 : ∀ a ∈ fp1, a < s.heap.objs.size) (l2 : ∀ a ∈ fp2, a < s.heap.objs.size) (hn : (List.zip xs ys).length ≤ sizeLine) (I : Inv X pins σ G0 s) (hf : ∀ b ∈ [z, TO, i1, i2], FpOk X pins G0 b)
    (hz : IsZip s.heap z TI TO .none) (hTI : IsTupOf2 s.heap TI (.ref i1) (.ref i2)) (hTO : ∃ a1 a2, IsTupOf2 s.heap TO a1 a2) (st1 : St1 0 s.heap) (st2 : St2 0 s.heap)
    (hQ : ∀ s' S G vs, Inv X pins σ (upd G S (.lst vs)) s' → G S = none → Made G0 (List.zip xs ys) G vs → Q (.ref S) s') : wpAny (model X.prog X.w) X.A (call (.type "list") [.ref z]) Q E s := by
  obtain ⟨a1, a2, hTO⟩ := hTO
  have lz : z < s.heap.objs.size := Heap.lt_size hz
  have lT : TI < s.heap.objs.size := Heap.lt_size hTI
  have lO : TO < s.heap.objs.size := Heap.lt_size hTO
  have k1 := l1 _ D.mem1
  have k2 := l2 _ D.mem2
  have n1 : s.heap.objs.size ∉ fp1 := fun h => Nat.lt_irrefl _ (l1 _ h)
  have n2 : s.heap.objs.size ∉ fp2 := fun h => Nat.lt_irrefl _ (l2 _ h)
  refine callType_codes (Q₁ := fun v t => v = .ref s.heap.objs.size ∧ t = { s with heap := s.heap.push { cls := .type "list", data := .seq #[] } }) PySem.F.called_list (PySem.F.typeCall_list_1 _) PySem.F.entry_list_init (code_list_new _ ⟨rfl, rfl⟩) fun v t ht => ?_
  obtain ⟨rfl, rfl⟩ := ht
  have hS0 : (s.heap.push { cls := .type "list", data := .seq #[] }).get? s.heap.objs.size = some { cls := .type "list", data := .seq #[] } := Heap.get?_push_size _ rfl
  have up0 : ∀ b o, s.heap.get? b = some o → (s.heap.push { cls := .type "list", data := .seq #[] }).get? b = some o := fun b o e => Heap.get?_push_of_some _ e
  refine ⟨⟨_, hS0, rfl⟩, PySem.F.args_list_init_2 _ _, ?_⟩
  show wpAny _ X.A.in1.in1 (Builtin.List.listItems (.ref s.heap.objs.size) >>= fun old => Builtin.List.listUpdate (.ref s.heap.objs.size) (fun _ => #[]) >>= fun _ => letGo old.toList.reverse >>= fun _ => Builtin.List.listExtendWith (.ref s.heap.objs.size) (.ref z) .none) _ _ _
  refine wpAny_bind ?_
  unfold Builtin.List.listItems
  refine wpAny_bind (wpAny_seqItems hS0 rfl (wpAny_pure ?_))
  show wpAny _ X.A.in1.in1 (updateSeq s.heap.objs.size (fun _ => #[]) >>= fun _ => letGo _ >>= fun _ => Builtin.List.listExtendWith (.ref s.heap.objs.size) (.ref z) .none) _ _ _
  refine wpAny_bind (wpAny_updateSeq hS0 rfl ?_)
  have hS1 := Heap.get?_update_self (Obj.mapSeq (fun _ => (#[] : Array Value))) hS0 rfl
  have up1 : ∀ b o, b ≠ s.heap.objs.size → s.heap.get? b = some o → ((s.heap.push { cls := .type "list", data := .seq #[] }).update s.heap.objs.size (Obj.mapSeq (fun _ => (#[] : Array Value)))).get? b = some o :=
    fun b o hb e => (Heap.get?_update_other _ _ (Ne.symm hb)).trans (up0 b o e)
  refine wpAny_bind (wpAny_letGo ?_)
  have hzn : z ≠ s.heap.objs.size := Nat.ne_of_lt lz
  have T1 : ({ s with heap := (s.heap.push { cls := .type "list", data := .seq #[] }).update s.heap.objs.size (Obj.mapSeq (fun _ => (#[] : Array Value))) } : Shared).TypeIs (.ref z) "zip" := ⟨_, up1 _ _ hzn hz, rfl⟩
  unfold Builtin.List.listExtendWith
  refine wpAny_bind (wpAny_typeOf T1 ?_)
  have c1 : Builtin.List.listSameRef (.ref s.heap.objs.size) (.ref z) = false := by simp [Builtin.List.listSameRef, Ne.symm hzn]
  have c2 : (Value.type "zip" == Value.type "list") = false := by decide
  have c3 : (Value.type "zip" == Value.type "tuple") = false := by decide
  simp only [c1, c2, c3, Bool.or_false, Bool.false_eq_true, if_false]
  refine wpAny_bind (wpAny_pyIter_zip (up1 _ _ hzn hz) ?_)
  refine wpAny_bind (wpAny_holding ?_)
  unfold Builtin.List.listLengthHint
  refine wpAny_bind (wpAny_specialOf T1 zip_len0 ?_)
  show wpAny _ X.A.in1.in1 (specialOf (Value.ref z) (Str.ofString "__length_hint__") >>= _) _ _ _
  refine wpAny_bind (wpAny_specialOf T1 zip_hint0 ?_)
  refine wpAny_pure ?_
  show wpAny _ X.A.in1.in1 (rule "list.extend.makes-room" >>= fun _ => Builtin.List.listTouch (.ref s.heap.objs.size) >>= fun _ => again (.builtin "list.extend.loop" ⟨[.ref s.heap.objs.size, .ref z, .none], []⟩)) _ _ _
  refine wpAny_bind (wpAny_rule ?_)
  refine wpAny_bind ?_
  show wpAny _ X.A.in1.in1 (updateSeq s.heap.objs.size (·.push .none) >>= fun _ => updateSeq s.heap.objs.size (·.pop)) _ _ _
  refine wpAny_bind (wpAny_updateSeq hS1 rfl ?_)
  have hS2 := Heap.get?_update_self (Obj.mapSeq (·.push Value.none)) hS1 rfl
  refine wpAny_updateSeq (hz := by seq_fits) hS2 rfl ?_
  have hS3 := Heap.get?_update_self (Obj.mapSeq (·.pop)) hS2 rfl
  refine wpAny_pure ⟨plainId_quiet F.plain_extend_loop _, ?_⟩
  generalize hg : (((s.heap.push { cls := .type "list", data := .seq #[] }).update s.heap.objs.size (Obj.mapSeq (fun _ => (#[] : Array Value)))).update s.heap.objs.size (Obj.mapSeq (·.push Value.none))).update s.heap.objs.size (Obj.mapSeq (·.pop)) = g at hS3 ⊢
  have up : ∀ b o, s.heap.get? b = some o → g.get? b = some o := fun b o e => by
    have hb : b ≠ s.heap.objs.size := Nat.ne_of_lt (Heap.lt_size e)
    rw [← hg]
    exact (Heap.get?_update_other _ _ (Ne.symm hb)).trans ((Heap.get?_update_other _ _ (Ne.symm hb)).trans (up1 b o hb e))
  have gsz : s.heap.objs.size ≤ g.objs.size := Nat.le_of_lt (Heap.lt_size hS3)
  obtain ⟨c, hS4⟩ : ∃ c, g.get? s.heap.objs.size = some { cls := .type "list", data := .seq ([] : List Value).toArray c } := ⟨_, hS3⟩
  have I1 : Inv X pins σ (upd G0 s.heap.objs.size (.lst [])) { s with heap := g } := I.laid (t' := s.toks) up (Nat.le_refl _) (show ObjOk X.prog X.w _ g _ (.lst []) from ⟨Nat.zero_le _, [], c, .nil, hS4⟩)
  refine zloop (X := X) (xs := xs) (ys := ys) (H0 := G0) (S := s.heap.objs.size) D D1 D2 p1 p2 n1 n2 (Ne.symm hzn) (Nat.ne_of_gt lT) (Nat.ne_of_gt lO) hn (fun s' G vs I2 nS md => ⟨rfl, hQ s' _ G vs I2 nS md⟩)
    _ 0 { s with heap := g } G0 [] c [] rfl (Nat.zero_le _) I1 (fun b hb => ?_) (I.hok.fresh (Nat.le_refl _)) (.inl ⟨up _ _ hz, a1, a2, up _ _ hTO⟩) (Nat.lt_of_lt_of_le lO gsz) (Nat.lt_of_lt_of_le k1 gsz) (Nat.lt_of_lt_of_le k2 gsz) (up _ _ hTI) (D1.frame _ _ _ st1 fun b _ o e => up b o e) (D2.frame _ _ _ st2 fun b _ o e => up b o e) hS4 .nil .nil
  obtain ⟨f0, f1⟩ := hf b hb
  refine ⟨?_, f1⟩
  have hb' : b < s.heap.objs.size := by
    have e' : b = z ∨ b = TO ∨ b = i1 ∨ b = i2 := by simpa using hb
    rcases e' with q | q | q | q
    · rw [q]; exact lz
    · rw [q]; exact lO
    · rw [q]; exact k1
    · rw [q]; exact k2
  rw [upd_ne (Nat.ne_of_lt hb')]
  exact f0
end
def tListZip (K : PySem.W.Frag) (ta : TA) : TE := fun σ H Q => ta σ H fun vs H1 => ∃ S1 S2 : Src, vs = [S1.v, S2.v] ∧ (S1.ok K H1 ∧ S2.ok K H1) ∧ (List.zip S1.its S2.its).length ≤ sizeLine ∧
  ∀ (S : Addr) (G : Hp) (ws : List V), G S = none → Made H1 (List.zip S1.its S2.its) G ws → Q (.ref S) (upd G S (.lst ws))
theorem pe_listZip {X : Cx} {e e2 : Expr} {ta : TA} {p pos p2 pos2 : Pos} (hc : X.calm = true) (hg : Gl X "list") (hm : X.mg "list" = none) (hg2 : Gl X "zip") (hm2 : X.mg "zip" = none) (ha : PA X [e, e2] ta)
    (hs : starEach [e, e2] X.env = (false, eval e X.env) :: starEach [e2] X.env := by rfl) (hpl : (backTo pos2 (starEach [e2] X.env)).any (·.1) = false := by rfl)
    (na : starEach [.Call (.Name "zip" p2) [e, e2] [] pos2] X.env = (false, eval (.Call (.Name "zip" p2) [e, e2] [] pos2) X.env) :: starEach [] X.env := by rfl) :
    PE X (.Call (.Name "list" p) [.Call (.Name "zip" p2) [e, e2] [] pos2] [] pos) (tListZip X.K ta) := by
  refine ⟨fun pins s σ H Q I h => ?_⟩
  refine Call_ (ld_blt I hg hm boot_list (PyProof.Rows.callWith_type1 (args_cons ?_ na)))
  refine Call_ (ld_blt I hg2 hm2 PyProof.Rows.boot_zip (PyProof.Rows.callWith_type1 (thn (ha.run pos2 pins s σ H _ I h) fun us s1 ⟨vs, H1, I1, r1, q1⟩ => ?_) hs hpl))
  obtain ⟨S1, S2, ex, ⟨o1, o2⟩, hn, q⟩ := q1
  subst ex
  obtain ⟨u1, u2, rfl, r1, r2⟩ := vals2' r1
  obtain ⟨ob1, HP1, t1, B1, y1, st1, fp1⟩ := Src.begins I1 o1 r1
  obtain ⟨ob2, HP2, t2, B2, y2, st2, fp2⟩ := Src.begins I1 o2 r2
  have N1 : ∀ a ∈ S1.fp, a ≠ s1.heap.objs.size := fun a ha => Nat.ne_of_lt (fp1 a ha)
  have N2 : ∀ a ∈ S2.fp, a ≠ s1.heap.objs.size + 1 := fun a ha => Nat.ne_of_lt (Nat.lt_of_lt_of_le (fp2 a ha) (Nat.le_add_right _ _))
  refine zip_begins2 B1 B2 y1 y2 fun h' hz hTI hTO g1 g2 hsz hk => args_nil ?_
  have I2 : Inv X pins σ H1 { s1 with heap := h' } := I1.kept (t' := s1.toks) hk
  obtain ⟨P1, St1, D1, b1, _, p1⟩ := Src.draws I2 o1 (it := s1.heap.objs.size) N1 t1
  obtain ⟨P2, St2, D2, b2, _, p2⟩ := Src.draws I2 o2 (it := s1.heap.objs.size + 1) N2 t2
  have hh : X.A.in1.in1.in1.handled = none := I1.ok.hd hc
  refine call_list_zip (X := X) (zip_sep2 fp1 fp2) (D1 _ hh) (D2 _ hh) p1 p2 (fun a ha => ?_) (fun a ha => ?_) hn I2 (fun b hb => ?_) hz hTI ⟨_, _, hTO⟩ (b1 0 (st1 _ _ g1)) (b2 0 (st2 _ _ g2)) fun s' S G ws I3 nS md => ⟨.ref S, _, I3, rfl, q S G ws nS md⟩
  · rcases List.mem_cons.mp ha with rfl | ha
    · exact Heap.lt_size g1
    · exact Nat.lt_of_lt_of_le (fp1 a ha) (Nat.le_of_lt (Heap.lt_size g1))
  · rcases List.mem_cons.mp ha with rfl | ha
    · exact Heap.lt_size g2
    · exact Nat.lt_of_lt_of_le (fp2 a ha) (Nat.le_of_lt (Heap.lt_size g1))
  · have e' : b = s1.heap.objs.size + 4 ∨ b = s1.heap.objs.size + 3 ∨ b = s1.heap.objs.size ∨ b = s1.heap.objs.size + 1 := by simpa using hb
    have hle : s1.heap.objs.size ≤ b := by
      rcases e' with q | q | q | q
      · rw [q]; exact Nat.le_add_right _ _
      · rw [q]; exact Nat.le_add_right _ _
      · rw [q]; exact Nat.le_refl _
      · rw [q]; exact Nat.le_add_right _ _
    exact I1.fpOk hle (I1.hok.fresh hle)
section
variable {K : PySem.W.Frag} {F0 H0 : Hp} {Γ : List Sl} {α β γ δ : Type} {S : Rp α} {S' : Rp β} {T : Rp γ} {U : Rp δ} {tl tb : TE}
theorem made_rep {H0 : Hp} {ps : List (V × V)} {G : Hp} {ws : List V} (md : Made H0 ps G ws) {F : Hp} (fh : Same F H0) : ∀ {zs : List (γ × δ)}, ps.length = zs.length → (∀ (i : Nat) p z, ps[i]? = some p → zs[i]? = some z → Rep K F p.1 T z.1 ∧ Rep K F p.2 U z.2) →
    ∃ F', Step F H0 F' G ∧ DqAll K F' ws (zs.map (rP T U).toD) ∧ ∀ z ∈ zs, okD ((rP T U).toD z) = true := by
  induction md with
  | nil =>
    intro zs hl h
    cases zs with
    | nil => exact ⟨F, Step.refl fh, .nil, fun z hz => by cases hz⟩
    | cons => cases hl
  | @snoc ps G ws A x y md nn ih =>
    intro zs hl h
    rcases List.eq_nil_or_concat zs with rfl | ⟨zs, z, rfl⟩
    · rw [List.length_append] at hl
      cases hl
    · rw [List.concat_eq_append] at hl h ⊢
      rw [List.length_append, List.length_append] at hl
      have hl' : ps.length = zs.length := by simpa using hl
      obtain ⟨F1, s1, d1, o1⟩ := ih (zs := zs) hl' fun i p z' hp hz => h i p z' (by rw [List.getElem?_append_left (List.getElem?_eq_some_iff.mp hp).1]; exact hp) (by rw [List.getElem?_append_left (List.getElem?_eq_some_iff.mp hz).1]; exact hz)
      obtain ⟨ra, rb⟩ := h ps.length (x, y) z (by rw [List.getElem?_append_right (Nat.le_refl _), Nat.sub_self]; rfl) (by rw [hl', List.getElem?_append_right (Nat.le_refl _), Nat.sub_self]; rfl)
      obtain ⟨F2, s2, r2⟩ := new_pair (T0 := A) s1.fh nn (ra.mono s1.ff) (rb.mono s1.ff)
      refine ⟨F2, s1.trans s2, ?_, fun z' hz => ?_⟩
      · rw [List.map_append]
        exact DqAll.app (DqAll.mono s2.ff _ _ d1) (.cons r2.1 .nil)
      · rcases List.mem_append.mp hz with hz | hz
        · exact o1 _ hz
        · rw [List.mem_singleton.mp hz]
          exact r2.2
theorem ev_listZip {f : α → List γ} {g : β → List δ} {m : Option α} {n : Option β} (w1 : Wa S T f) (w2 : Wa S' U g) (h : Ev K F0 H0 tl Γ .r S m) (h' : Ev K F0 H0 tb Γ .r S' n) :
    Ev K F0 H0 (tListZip K (tCons tl (tCons tb tNil))) Γ .n (rL (rP T U)) (m.bind fun a => n.bind fun b => some (List.zip (f a) (g b))) := by
  intro σ F H s zs e Q q
  cases m with
  | none => cases e
  | some a =>
    cases n with
    | none => cases e
    | some b =>
      cases e
      refine h σ F H s a rfl _ fun v F1 H1 s1 o1 => ?_
      refine h' σ F1 H1 (s.mono s1) b rfl _ fun v2 F2 H2 s2 o2 => ?_
      obtain ⟨S1, rfl, k1, d1, y1, l1⟩ := w1 _ _ _ _ (o1.mono s2.ff)
      obtain ⟨S2, rfl, k2, d2, y2, l2⟩ := w2 _ _ _ _ o2
      have e1 := dvlen d1
      have e2 := dvlen d2
      have e3 : (List.zip S1.its S2.its).length = (List.zip (f a) (g b)).length := by rw [List.length_zip, List.length_zip, e1, e2]
      refine ⟨S1, S2, rfl, ⟨k1 _ s2.fh, k2 _ s2.fh⟩, by rw [e3, List.length_zip, sizeLine_eq]; omega, fun A G ws nA md => ?_⟩
      obtain ⟨F3, s3, d3, o3⟩ := made_rep md s2.fh (zs := List.zip (f a) (g b)) (T := T) (U := U) (K := K) e3 fun i p z hp hz => by
        have hp := List.getElem?_zip_eq_some.mp hp
        have hz := List.getElem?_zip_eq_some.mp hz
        exact ⟨Rep.at' d1 y1 hz.1 hp.1, Rep.at' d2 y2 hz.2 hp.2⟩
      have s4 := (s1.trans s2).trans s3
      exact q _ F3 _ (s4.trans (Step.layO s3.fh nA)) (Ot.back s4 (newL s3.fh nA d3 o3 (by rw [List.length_zip]; omega)))
end
end Y

/-! Layer Y: tuple(range(n)). -/
namespace Y
open PySem PySem.Spec PyProof.Rows L2
theorem pe_callD0 {X : Cx} {k : Nat} {x : Str} {sp : Sp} {p pos : Pos} (D : Df X.prog X.w X.K X.mg X.base x k [] sp) (hr : Room k X.A) (hg : Gl X x) (hdb : (x == ("__debug__" : Str)) = false := by decide) : PE X (.Call (.Name x p) [] [] pos) (tCall sp [] E0 tNil) := by
  obtain ⟨f, fd, hm, hk, hb, F⟩ := D.ex
  exact pe_call0 F hr hg hm hk hb .nil pass0 hdb
theorem look_again {env : Env} : ∀ {l : List (Str × NameKind)} {x : Str}, (l.lookup x = some .cell ∨ l.lookup x = some .free) →
    (l.map fun (n, k) => if (k == NameKind.free && env.scope.kind == .function && env.kindOf n == some .cell) then (n, NameKind.cell) else (n, k)).lookup x = some .cell ∨
      (l.map fun (n, k) => if (k == NameKind.free && env.scope.kind == .function && env.kindOf n == some .cell) then (n, NameKind.cell) else (n, k)).lookup x = some .free
  | [], _, h => by simp at h
  | (n, k) :: r, x, h => by
    have ih := @look_again env r x
    show List.lookup x ((if (k == NameKind.free && env.scope.kind == .function && env.kindOf n == some .cell) = true then (n, NameKind.cell) else (n, k)) :: _) = _ ∨ List.lookup x ((if (k == NameKind.free && env.scope.kind == .function && env.kindOf n == some .cell) = true then (n, NameKind.cell) else (n, k)) :: _) = _
    cases hx : x == n with
    | true =>
      simp only [List.lookup_cons, hx] at h
      split
      · left
        simp [List.lookup_cons, hx]
      · simp only [List.lookup_cons, hx]
        exact h
    | false =>
      simp only [List.lookup_cons, hx] at h
      split
      · simp only [List.lookup_cons, hx]
        exact ih h
      · simp only [List.lookup_cons, hx]
        exact ih h
/-- the block of a comprehension within a comprehension -/
theorem blkOk_nest {N : List Str} {sc scope : Scope} {cl : List (Str × Addr)} {C : Addr} {env : Env} {own : List (Str × Nat)} (h : blkC N sc scope own = true) : BlkOk N (compEnvC sc cl C env).scope scope own := by
  have o := blkOk_by h
  exact ⟨o.kind, o.uniq, o.ix, fun y hy e => look_again (o.free y hy e), o.own⟩
def rLenSq (K : PySem.W.Frag) : List V → Hp → VK → Prop := fun xs H Q => ∃ p ys, xs = [.ref p] ∧ (SqL K H p ys ∨ SqT K H p ys) ∧ Q (.int ys.length) H
theorem cr_lenSq {X : Cx} : CallR X (.builtin "len") (rLenSq X.K) := call_len_seq
theorem pi_tupK {X : Cx} {K : PySem.W.Frag} {tg l : Expr} {tl : TE} (hl : PE X l tl) (hK : X.K = K := by rfl) : PI X tg l (iTup K tl) := hK ▸ pi_tup hl
theorem pi_listK {X : Cx} {K : PySem.W.Frag} {tg l : Expr} {tl : TE} (hl : PE X l tl) (hK : X.K = K := by rfl) : PI X tg l (iList K tl) := hK ▸ pi_list hl
theorem pi_k {X : Cx} {K : PySem.W.Frag} {tg l : Expr} {f : PySem.W.Frag → TI} (h : PI X tg l (f X.K)) (hK : X.K = K := by rfl) : PI X tg l (f K) := hK ▸ h
def rTupOf (K : PySem.W.Frag) : List V → Hp → VK → Prop := fun xs H Q => ∃ p ys, xs = [.ref p] ∧ ((SqL K H p ys ∧ ∀ l, H l = none → Q (.ref l) (upd H l (.tup ys))) ∨ (SqT K H p ys ∧ Q (.ref p) H))
theorem cr_tupOf {X : Cx} : CallR X (.type "tuple") (rTupOf X.K) := call_tuple_of
def rLstOf (K : PySem.W.Frag) : List V → Hp → VK → Prop := fun xs H Q => ∃ p ys, xs = [.ref p] ∧ (SqL K H p ys ∨ SqT K H p ys) ∧ ∀ l, H l = none → Q (.ref l) (upd H l (.lst ys))
theorem cr_lstOf {X : Cx} : CallR X (.type "list") (rLstOf X.K) := call_list_of
section
variable {K : PySem.W.Frag} {F0 H0 : Hp} {Γ : List Sl} {α β γ δ : Type} {R : Rp α} {S : Rp β} {T : Rp γ} {U : Rp δ} {ta tb tc td : TE}
theorem ev_quad {m : Option α} {n : Option β} {o : Option γ} {o' : Option δ} (ha : Ev K F0 H0 ta Γ .r R m) (hb : Ev K F0 H0 tb Γ .r S n) (hc : Ev K F0 H0 tc Γ .r T o) (hd : Ev K F0 H0 td Γ .r U o') :
    Ev K F0 H0 (tTup (tCons ta (tCons tb (tCons tc (tCons td tNil))))) Γ .r (r4 R S T U) (m.bind fun a => n.bind fun b => o.bind fun c => o'.bind fun d => some (a, b, c, d)) := by
  intro σ F H s c e Q q
  cases m with
  | none => cases e
  | some a => cases n with
    | none => cases e
    | some b => cases o with
      | none => cases e
      | some c' => cases o' with
        | none => cases e
        | some d' =>
          cases e
          refine ha σ F H s a rfl _ fun x F1 H1 s1 o1 => ?_
          refine hb σ F1 H1 (s.mono s1) b rfl _ fun y F2 H2 s2 o2 => ?_
          refine hc σ F2 H2 ((s.mono s1).mono s2) c' rfl _ fun z F3 H3 s3 o3 => ?_
          refine hd σ F3 H3 (((s.mono s1).mono s2).mono s3) d' rfl _ fun u F4 H4 s4 o4 => ⟨by show 4 ≤ sizeLine; decide, fun p np => ?_⟩
          have e2 := Same.upd (o := HO.tup [x, y, z, u]) (s4.fh.free np)
          refine q (.ref p) _ (upd H4 p (.tup [x, y, z, u])) (s1.trans (s2.trans (s3.trans (s4.trans (Step.lay s4.fh np))))) ⟨.tup upd_same (.cons (o1.mono (s2.ff.trans (s3.ff.trans (s4.ff.trans e2)))).1 (.cons (o2.mono (s3.ff.trans (s4.ff.trans e2))).1 (.cons (o3.mono (s4.ff.trans e2)).1 (.cons (o4.mono e2).1 .nil)))), okT.mpr ⟨fun d hd => ?_, by simp⟩⟩
          simp only [List.mem_cons, List.not_mem_nil, or_false] at hd
          rcases hd with rfl | rfl | rfl | rfl
          · exact o1.2
          · exact o2.2
          · exact o3.2
          · exact o4.2
def tupR (n : Int) : Option (List Int) := if 0 ≤ n ∧ n ≤ 16777216 then some ((List.range n.toNat).map fun (i : Nat) => (i : Int)) else none
theorem ev_tupRg {m : Option Int} (h : Ev K F0 H0 ta Γ .r rI m) : Ev K F0 H0 (tTupRg (tRg1 ta)) Γ .r (rT rI) (m.bind fun n => tupR n) := by
  intro σ F H s c e P q
  cases m with
  | none => cases e
  | some n =>
    have e : tupR n = some c := e
    unfold tupR at e
    split at e
    next hn =>
      cases e
      refine h σ F H s n rfl _ fun v F1 H1 s1 o1 => ?_
      have o1 : Rep K F1 v rI n := o1
      rw [rep_int] at o1
      subst o1
      have ev : rgV 0 n = (((List.range n.toNat).map fun (i : Nat) => (i : Int)).map fun i => (Sum.inl i : Key)).map kV := by
        unfold rgV
        rw [Int.sub_zero, List.map_map, List.map_map]
        refine List.map_congr_left fun i _ => ?_
        show V.int (0 + (i : Nat)) = V.int i
        rw [Int.zero_add]
      refine ⟨n, rfl, ⟨by omega, by omega, by omega, by omega, by rw [Int.sub_zero]; show n.toNat ≤ 16777216; omega⟩, fun p np => ?_⟩
      have nF := s1.fh.free np
      refine q _ (upd F1 p (.tup (rgV 0 n))) _ (s1.trans (Step.lay s1.fh np)) (newT s1.fh np ?_ (fun x _ => rfl) (by rw [List.length_map, List.length_range]; omega))
      rw [ev]
      have := dq_kvs (K := K) (F := F1) (ks := ((List.range n.toNat).map fun (i : Nat) => (i : Int)).map fun i => (Sum.inl i : Key))
      rw [List.map_map (f := fun i => (Sum.inl i : Key)) (g := keyD)] at this
      exact this
    next => cases e
end
end Y

/-! Layer Y: several targets of which one is captured, a new dict among the values. -/
namespace Y
open PySem PySem.Spec PyProof.Rows L2
section
variable {K : PySem.W.Frag} {F0 H0 : Hp} {Γ : List Sl} {α β γ κ ρ : Type} [DecidableEq κ] {R : Rp α} {S : Rp γ} {Q : Rp κ} {P : Rp ρ} {k : Kd} {out : β → List Sl} {ta tb : TE} {u : TS}
theorem bd_parGDF {i0 i1 : Nat} {m : Option (List (κ × γ))} {n : Option α} {kk : List (κ × γ) → α → Option (Fl ρ β)} (hQ : KyK Q) (ha : Ev K F0 H0 ta Γ .m (rD Q S) m) (hb : Ev K F0 H0 tb Γ .r R n)
    (hk : ∀ x y, Bd K F0 H0 u (st (st Γ i0 (.d Q S x)) i1 (.f R y)) k P out (kk x y)) :
    Bd K F0 H0 (tSeq (tAsg (tTup (tCons ta (tCons tb tNil))) (gTup K 2 (gCons (gName i0) (gCons (gName i1) gNil)))) u) Γ k P out (m.bind fun x => n.bind fun y => kk x y) := by
  intro σ F H s r e D q1 q2
  cases m with
  | none => cases e
  | some a =>
    cases n with
    | none => cases e
    | some b =>
      refine ha σ F H s a rfl _ fun v F1 H1 s1 o1 => ?_
      refine hb σ F1 H1 (s.mono s1) b rfl _ fun w F2 H2 s2 o2 => ⟨by show 2 ≤ sizeLine; decide, fun T nT => ?_⟩
      have s3 : Step F2 H2 F2 (upd H2 T (.tup [v, w])) := Step.layO s2.fh nT
      obtain ⟨p, kv, rfl, nH, nF, hH, Dc⟩ := newM_dct hQ o1
      have n0 : H0 p = none := s.st.hh.free nH
      have sr := (((s.mono s1).mono s2).mono s3).putN i0 (g := .d Q S a) ⟨p, kv, rfl, n0, s2.ow _ _ hH nF trivial, s3.hh _ _ (s2.hh _ _ hH), Dc.mono s2.ff⟩ rfl (fun z => by
        obtain ⟨_, _, ws, hw⟩ := owns_in s.sl z
        rw [nH] at hw; cases hw)
      refine ⟨T, _, rfl, .inl (.inl upd_same), rfl, _, _, rfl, _, _, rfl, rfl, ?_⟩
      exact hk a b _ F2 _ (sr.putF i1 o2) r e D q1 fun b eb σ' F' H' sm => q2 b eb σ' F' H' ((s1.ff.trans s2.ff).trans sm)
end
/-! ### () * n -/
theorem tuple_mul0 (l : Addr) (n : Nat) (dd : Option Addr) (sl : Array (Option Value)) (x : Int) (u : Tok) (c0 : (decide (x < -(2 ^ 63)) || decide (x ≥ 2 ^ 63)) = false) :
    Meets (Builtin.«tuple.__mul__» ⟨[.ref l, .int x u], []⟩) (fun _ R s => s.heap.get? l = some { cls := .type "tuple", dict := dd, data := .seq #[] n, slots := sl } ∧
      R (.ok (.ret (Value.ref l))) s) :=
  .of_wp fun prog w A R s h => by
    obtain ⟨hp, g, d, tk, os⟩ := s
    obtain ⟨hl, h⟩ := h
    have f1 := AutoSeq1.idx_int
    have c1 : ((#[] : Array Value).isEmpty || x == 1) = true := by simp
    have sub := AutoSeq1.sub_tuple_tuple
    wp_walk using wpAny_loadPart' hl
    refine wpAny_ite_false (decide_eq_false (by rw [c0]; exact Bool.false_ne_true)) ?_
    wp_walk using wpAny_loadPart' hl
    exact ⟨_, rfl, h⟩
def rRepT3 (K : PySem.W.Frag) : R2 := fun x y H Q => (∃ l k, x = .ref l ∧ y = .int k ∧ SqT K H l [] ∧ -1000000 ≤ k ∧ k ≤ 1000000 ∧ Q (.ref l) H) ∨ rRepT2 K x y H Q
theorem op_repT3 {X : Cx} : OpR X (binaryOp .Mult) (rRepT3 X.K) := by
  intro pins s σ H x y v u Q I rx ry h
  rcases h with ⟨l, k, rfl, rfl, hT, k1, k2, q⟩ | h
  · cases rx
    obtain ⟨t, rfl⟩ := ry
    obtain ⟨its, r, ⟨⟨cls, dd, data, sl⟩, ho, hc, n, hd⟩, hs⟩ := I.tuple hT
    cases r
    simp only at hc hd
    subst hc hd
    have c0 : (decide (k < -(2 ^ 63)) || decide (k ≥ 2 ^ 63)) = false := by
      rw [decide_eq_false (by omega), decide_eq_false (by omega)]
      rfl
    exact wpAny_binaryOp_repeat_ref (T := "tuple") (U := "int") (by decide) ⟨_, ho, rfl⟩ (fun s' => typeIs_int s' k t) noFill_tuple_mul F.fills_int_mul F.slot_int_rmul repeat_tuple F.slot_int_index.lookup
      (call_meets F.slot_int_rmul (typeIs_int s k t) F.entry_int_rmul (F.args_int_rmul_2 _ _) (int_rmul_tuple k t l #[] n dd sl)
        ⟨ho, rfl, ⟨_, ho, rfl⟩, call_meets F.slot_tuple_mul ⟨_, ho, rfl⟩ F.entry_tuple_mul (F.args_tuple_mul_2 _ _) (tuple_mul0 l n dd sl k t c0) ⟨ho, ⟨.ref l, H, I, rfl, q⟩⟩⟩)
  · exact op_repT2 pins s σ H _ _ v u Q I rx ry h
def repT3 {α : Type} (xs : List α) (n : Int) : Option (List α) := if xs.length = 0 then (if -1000000 ≤ n ∧ n ≤ 1000000 then some xs else none) else repT xs n
theorem o_repT3 {α : Type} {K : PySem.W.Frag} {S : Rp α} : Op2 K (rRepT3 K) (rT S) rI .r (rT S) repT3 := by
  intro F H x y a b c fh hx hy e Q q
  unfold repT3 at e
  split at e
  next h0 =>
    split at e
    next hb =>
      cases e
      have : a = [] := List.length_eq_zero_iff.mp h0
      subst this
      have r := hx.tup
      obtain ⟨p, vs, rfl, hq, hd, ho, hl⟩ := hx.tup.tup
      cases vs with
      | nil => exact .inl ⟨p, b, rfl, hy.int, SameT fh hq, hb.1, hb.2, q _ F H (Step.refl fh) r⟩
      | cons => cases hd
    next => cases e
  next => exact .inr (o_repT F H x y a b c fh hx hy e Q q)
end Y

/-! Layer Y: x or "" of an optional text; a pair read as a tuple. -/
namespace Y
open PySem PySem.Spec PyProof.Rows L2
section
variable {K : PySem.W.Frag} {F0 H0 : Hp} {Γ : List Sl} {ta tb : TE}
/-- x or y, x an optional text -/
def orS (o : Option (List Nat)) (n : Option (List Nat)) : Option (List Nat) := match o with
  | some (c :: r) => some (c :: r)
  | _ => n
theorem ev_orS {m : Option (Option (List Nat))} {n : Option (List Nat)} {h : ∀ a, PyData.eqv .none (rS.toD a) = false ∧ PyData.eqv (rS.toD a) .none = false} (ha : Ev K F0 H0 ta Γ .r (rO rS h) m) (hb : Ev K F0 H0 tb Γ .r rS n) :
    Ev K F0 H0 (tOrT K ta tb) Γ .r rS (m.bind fun o => orS o n) := by
  intro σ F H s c e Q q
  cases m with
  | none => cases e
  | some o =>
    have e : orS o n = some c := e
    refine ha σ F H s o rfl _ fun v F1 H1 s1 o1 => ?_
    cases o with
    | none =>
      have o1 : Rep K F1 v rN () := o1
      have := rep_none.mp o1
      subst this
      exact ⟨false, rfl, hb σ F1 H1 (s.mono s1) c e Q fun v F2 H2 s2 o2 => q v F2 H2 (s1.trans s2) o2⟩
    | some x =>
      have o1 : Rep K F1 v rS x := o1
      obtain ⟨rfl, h1, h2⟩ := o1.str
      have hl : (⟨x.toArray⟩ : Str).length = x.length := by simp [Str.length]
      have hz : x.length ≤ sizeLine := Nat.le_trans h2 (by rw [sizeLine_eq]; decide)
      cases x with
      | nil =>
        refine ⟨false, ⟨by rw [hl]; exact hz, by rw [hl]; rfl⟩, hb σ F1 H1 (s.mono s1) c e Q fun v F2 H2 s2 o2 => q v F2 H2 (s1.trans s2) o2⟩
      | cons a r =>
        cases e
        refine ⟨true, ⟨by rw [hl]; exact hz, ?_⟩, q _ F1 H1 s1 o1⟩
        rw [hl, List.length_cons]
        symm
        rw [bne_iff_ne]
        omega
theorem tag_PT {α : Type} {R : Rp α} (p : α × α) : (rP R R).toD p = (rT R).toD [p.1, p.2] := rfl
end
end Y

/-! Layer Y: a new dict with tuple keys beside another value; its length. -/
namespace Y
open PySem PySem.Spec PyProof.Rows L2
section
variable {K : PySem.W.Frag} {F0 H0 : Hp} {Γ : List Sl} {α β γ κ ρ : Type} {R : Rp α} {S : Rp γ} {Q : Rp κ} {P : Rp ρ} {k : Kd} {out : β → List Sl} {ta tb : TE} {u : TS}
theorem bd_parFE {i j : Nat} {m : Option α} {kk : α → Option (Fl ρ β)} (ha : Ev K F0 H0 ta Γ .r R m) (hk : ∀ x, Bd K F0 H0 u (st (st Γ i (.f R x)) j (.e Q S [])) k P out (kk x)) :
    Bd K F0 H0 (tSeq (tPar i j (tCons ta (tCons tDNewT tNil))) u) Γ k P out (m.bind fun x => kk x) := by
  intro σ F H s r e D q1 q2
  cases m with
  | none => cases e
  | some a =>
    refine ha σ F H s a rfl _ fun v F1 H1 s1 o1 => ?_
    intro p np
    refine ⟨v, .ref p, rfl, ?_⟩
    have sa := s.mono s1
    have s2 := Step.layO (o := .dT []) sa.st.fh np
    have sr := (sa.mono s2).putF i o1
    have nF1 : F1 p = none := sa.st.fh.free np
    refine hk a _ F1 _ (sr.putN j (g := .e Q S []) ⟨p, [], rfl, sa.st.hh.free np, nF1, upd_same, Dct.nil⟩ rfl fun z => ?_) r e D q1 fun b eb σ' F' H' sm => q2 b eb σ' F' H' (s1.ff.trans sm)
    have s1' := sa.putF i o1
    obtain ⟨_, _, ws, hw⟩ := owns_in s1'.sl z
    rw [np] at hw; cases hw
theorem ev_lenE {i : Nat} {kvs : List (κ × γ)} (h : gt Γ i = .e Q S kvs) : Ev K F0 H0 (tCB rLenT (tCons (tVar i) tNil)) Γ .r rI (some (kvs.length : Int)) := by
  intro σ F H s a e P q
  cases e
  obtain ⟨z, h1, h2⟩ := s.sl.get (i := i) (by rw [h]; exact fun z => nomatch z)
  rw [h] at h2
  obtain ⟨p, kv, rfl, h0, hF, hH, D⟩ := h2
  exact ⟨.ref p, h1, p, kv, rfl, hH, q _ F H (Step.refl s.st.fh) (rep_int.mpr (by rw [D.length]))⟩
end
end Y

/-! Layer Y: text.replace(sign, sign), behind a statement that gives out a token. -/
namespace Y
open PySem PySem.Spec PyProof.Rows L2 PySem.StrLaws
/-- an expression behind which a token is out -/
def PEK (X : Cx) (e : Expr) (t : TE) : Prop :=
  ∀ (pins : List (Addr × Obj)) (s : Shared) (σ : L2.St) (H : Hp) (Q : VK), Inv X pins σ H s → t σ H Q → wpAny (model X.prog X.w) X.A (eval e X.env) (fun v s' => 1 ≤ s'.toks ∧ EP X pins σ Q v s') X.xe s
section
variable {X : Cx} {o e : Expr} {te : TE} {to : TE} {name : Str} {apos cpos p : Pos} {T id : String} {r : V → List V → Hp → VK → Prop} {rest : List Stmt} {u : TS}
theorem pek_bm1 {c : Str} {j : Nat} (pa : PlainAttrs T) (slot : Slot T name id) (hty : typeOf (.builtin id) = pure (.type "method_descriptor")) (hm : MtR X id r) (ho : PE X o to)
    (hbase : attributeBase o name X.env (eval o X.env) = eval o X.env := by rfl)
    (hfew : ((backTo cpos (starEach [.Constant (.str c) j p] X.env)).all (fun x => !x.1) && (backToKw cpos (keywordEach [] X.env)).all (fun x => x.1.isSome)
      && decide ([Expr.Constant (.str c) j p].length + ([] : List Keyword).length + (if ([] : List Keyword).isEmpty then 0 else 1) < 30)) = true := by rfl)
    (hline : (apos.endLine == cpos.line) = true := by rfl) (hst : starEach [.Constant (.str c) j p] X.env = [(false, eval (.Constant (.str c) j p) X.env)] := by rfl) :
    PEK X (.Call (.Attribute o name apos) [.Constant (.str c) j p] [] cpos) (tBM X.K T r to (tCons (tC (.str c)) tNil)) := by
  intro pins s σ H Q I h
  refine wpAny_Call_method_late hbase hfew hline rfl (thn (ho.run pins s σ H _ I h) fun v s1 ⟨x, H1, I1, r1, ty, q1⟩ => ?_)
  obtain ⟨h1, h2⟩ := tyV_is I1 r1 ty
  refine ⟨T, id, pa, slot, hty, h1, h2, ?_⟩
  rw [hst]
  refine Calls.callWith_builtin rfl (Calls.evalArgs_plain (Calls.spliced_cons ?_))
  refine Calls.Constant_str (k := j) (pos := p) (Calls.spliced_nil ?_)
  have := hm pins { s1 with toks := s1.toks + 1 } σ H1 x [.str c] v [.str c s1.toks] Q (I1.tok _) r1 (.cons ⟨_, rfl⟩ .nil) q1
  exact wpAny_mono (PySem.wpAny_toks_of (n := 1) (by show 1 ≤ s1.toks + 1; omega) this) (fun _ _ z => z) (fun _ _ z => z.2)
theorem pss_setk {i : Nat} {x : Str} {pos' pos : Pos} (hN : X.N.Nodup) (hi : X.N[i]? = some x) (hx : Loc X.env.scope x) (he : PEK X e te) (h2 : PSsT X rest u)
    (hs : swapsWith e (some (.Name x pos')) pos.line X.env = pure false := by rfl) (hf : X.fn x = true ∨ X.env.scope.names.lookup x = some .local := by first | exact .inl rfl | exact .inr rfl | assumption) :
    PSs X (.Assign [.Name x pos'] e pos :: rest) (tSeq (tAsg te (gName i)) u) := by
  refine ⟨fun pins s σ H D I h => ?_⟩
  refine wpAny_execs_cons (wpAny_Assign_Name (thn (he pins s σ H (fun y H1 => u D (σ.set i (some y)) H1) I h) fun v s1 ⟨hk, y, H1, I1, r1, q1⟩ => ?_) hs)
  refine wpAny_mono (PySem.wpAny_toks_of hk (store_ok (Q := fun _ s2 => Inv X pins (σ.set i (some y)) H1 s2) I1 hN hi hx r1 (fun s2 I2 => I2) hf)) (fun _ s2 q => ?_) fun _ _ z => z.2
  exact h2 pins s2 _ H1 D q.1 q.2 q1
theorem pst_set {i : Nat} {x : Str} {pos' pos : Pos} (hN : X.N.Nodup) (hi : X.N[i]? = some x) (hx : Loc X.env.scope x) (he : PET X e te)
    (hs : swapsWith e (some (.Name x pos')) pos.line X.env = pure false := by rfl) (hf : X.fn x = true ∨ X.env.scope.names.lookup x = some .local := by first | exact .inl rfl | exact .inr rfl | assumption) :
    PST X (.Assign [.Name x pos'] e pos) (tAsg te (gName i)) := by
  intro pins s σ H D h0 I h
  refine wpAny_Assign_Name (thn (he pins s σ H (fun y H1 => D.nx (σ.set i (some y)) H1) h0 I h) fun v s1 ⟨y, H1, I1, r1, q1⟩ => ?_) hs
  exact store_ok I1 hN hi hx r1 (fun s2 I2 => ⟨_, H1, I2, q1⟩) hf
end
/-- x with the sign a replaced by b -/
def rep1 (a b : Nat) (x : List Nat) : Option (List Nat) := if x.length ≤ 1000000 then some (x.map fun c => if c = a then b else c) else none
theorem replL_one {a b : Nat} : ∀ l : List Nat, replL [a] [b] l = l.map fun c => if c = a then b else c
  | [] => replL_nil
  | c :: r => by
    by_cases h : c = a
    · rw [replL_hit (by simp) (by simp [h])]
      show [b] ++ replL [a] [b] r = _
      rw [replL_one r, List.map_cons, if_pos h]
      rfl
    · rw [replL_miss (by simpa using h), replL_one r, List.map_cons, if_neg h]
section
variable {K : PySem.W.Frag} {F0 H0 : Hp} {Γ : List Sl} {to : TE}
theorem ev_rep1 {m : Option (List Nat)} (a b : Nat) {y z : Str} (ey : y = ⟨#[a]⟩) (ez : z = ⟨#[b]⟩) (hb : b < 1114112) (h : Ev K F0 H0 to Γ .r rS m) : Ev K F0 H0 (CwR.tReplC to y z) Γ .r rS (m.bind fun x => rep1 a b x) := by
  intro σ F H s c e Q q
  cases m with
  | none => cases e
  | some x =>
    have e : rep1 a b x = some c := e
    unfold rep1 at e
    split at e
    next hl =>
      cases e
      refine h σ F H s x rfl _ fun v F1 H1 s1 o1 => ?_
      obtain ⟨rfl, h1, h2⟩ := Rep.str o1
      subst ey
      subst ez
      have e1 : ((⟨#[a]⟩ : Str)).length = 1 := rfl
      have e2 : ((⟨#[b]⟩ : Str)).length = 1 := rfl
      have e3 : ((⟨x.toArray⟩ : Str)).length = x.length := by simp [Str.length]
      have key : (Txt.replace ⟨x.toArray⟩ ⟨#[a]⟩ ⟨#[b]⟩).cps.toList = x.map fun c => if c = a then b else c := by
        rw [replace_list (by rw [e1]; exact Nat.le_refl _)]
        show replL [a] [b] x.toArray.toList = _
        rw [List.toList_toArray, replL_one]
      have hs : Txt.replace ⟨x.toArray⟩ ⟨#[a]⟩ ⟨#[b]⟩ = ⟨(x.map fun c => if c = a then b else c).toArray⟩ := by
        rw [← key]
      refine ⟨_, rfl, by rw [e2, e3]; omega, ?_⟩
      rw [hs]
      refine q _ F1 H1 s1 (rep_str (fun c hc => ?_) (by rw [List.length_map]; exact h2))
      obtain ⟨d, hd, rfl⟩ := List.mem_map.mp hc
      split
      · exact hb
      · exact h1 d hd
    next => cases e
end
end Y

/-! Layer Y: text.replace(a if x == '..' else b, c); text.split(sign). -/
namespace Y
open PySem PySem.Spec PyProof.Rows L2 PySem.StrLaws
def tReplI (to ts : TE) (q y1 y2 z : Str) : TE := fun σ H Q => to σ H fun v H1 => ∃ x, v = .str x ∧ ts σ H1 fun u H2 => ∃ k, u = .str k ∧ x.length + (x.length + 1) * z.length ≤ 16777216 ∧ Q (.str (Txt.replace x (if k = q then y1 else y2) z)) H2
section
variable {X : Cx} {o sg : Expr} {to ts : TE} {q y1 y2 z : Str} {j0 j1 j2 j3 : Nat} {c0 c1 c2 c3 cp ip apos pos : Pos}
theorem pe_replI (ho : PE X o to) (hsg : PE X sg ts) (h1 : (y1 == z) = false := by decide) (h2 : (y2 == z) = false := by decide)
    (hst : starEach [.IfExp (.Compare sg [.Eq] [.Constant (.str q) j0 c0] cp) (.Constant (.str y1) j1 c1) (.Constant (.str y2) j2 c2) ip, .Constant (.str z) j3 c3] X.env = [(false, eval (.IfExp (.Compare sg [.Eq] [.Constant (.str q) j0 c0] cp) (.Constant (.str y1) j1 c1) (.Constant (.str y2) j2 c2) ip) X.env), (false, eval (.Constant (.str z) j3 c3) X.env)] := by rfl)
    (hbase : attributeBase o "replace" X.env (eval o X.env) = eval o X.env := by rfl) (hline : (apos.endLine == pos.line) = true := by rfl) (hm : behindInMarks .Eq (.Constant (.str q) j0 c0) = false := by with_unfolding_all rfl) :
    PE X (.Call (.Attribute o "replace" apos) [.IfExp (.Compare sg [.Eq] [.Constant (.str q) j0 c0] cp) (.Constant (.str y1) j1 c1) (.Constant (.str y2) j2 c2) ip, .Constant (.str z) j3 c3] [] pos) (tReplI to ts q y1 y2 z) := by
  refine ⟨fun pins s σ H Q I h => ?_⟩
  refine PySem.Call_method2 hbase hst hline (thn (ho.run pins s σ H _ I h) fun v s1 ⟨v', H1, I1, r1, x, e1, g1⟩ => ?_)
  subst e1
  obtain ⟨tx, e3⟩ := r1
  subst e3
  refine ⟨"str", _, PySem.F.plainAttrs_str, PySem.F.slot_str_replace, PySem.F.type_str_replace, typeIs_str _ _ _, (fun _ e => nomatch e), Calls.callWith_builtin rfl (Calls.evalArgs_plain (Calls.spliced_cons ?_))⟩
  · refine wpAny_IfExp (wpAny_isTrue_Compare1 (thn (hsg.run pins s1 σ H1 _ I1 g1) fun u s2 ⟨u', H2, I2, r2, k, e2, hb, g2⟩ => ?_) hm)
    subst e2
    obtain ⟨tk, e4⟩ := r2
    subst e4
    refine Calls.Constant_str (k := j0) (pos := c0) ?_
    have cmp := op_eq (X := X) pins { s2 with toks := s2.toks + 1 } σ H2 (.str k) (.str q) (.str k tk) (.str q s2.toks) (fun r H' => r = .bl (decide (V.str k = V.str q)) ∧ H' = H2) (I2.tok _) ⟨tk, rfl⟩ ⟨_, rfl⟩ ⟨rfl, rfl, rfl⟩
    refine wpAny_mono (PySem.wpAny_toks_of (n := 1) (by show 1 ≤ s2.toks + 1; omega) cmp) (fun d s3 qq => ?_) fun _ _ z => z.2
    obtain ⟨hk, d', H3, I3, r3, ed, eH⟩ := qq
    subst ed
    subst eH
    cases r3
    refine wpAny_truthy_bool ?_
    by_cases e : k = q
    · rw [decide_eq_true (show V.str k = V.str q by rw [e])]
      rw [if_pos e] at g2
      refine Calls.Constant_str (k := j1) (pos := c1) (Calls.spliced_cons ?_)
      refine Calls.Constant_str (k := j3) (pos := c3) (Calls.spliced_nil ?_)
      exact PySem.SC.replace (by show s3.toks ≠ 0; omega) (by show s3.toks + 1 ≠ 0; omega) (by show s3.toks ≠ s3.toks + 1; omega) h1 hb fun t' k' => ⟨.str _, H3, I3.tok k', ⟨t', rfl⟩, g2⟩
    · rw [decide_eq_false (show ¬ V.str k = V.str q from fun g => e (by injection g))]
      rw [if_neg e] at g2
      refine Calls.Constant_str (k := j2) (pos := c2) (Calls.spliced_cons ?_)
      refine Calls.Constant_str (k := j3) (pos := c3) (Calls.spliced_nil ?_)
      exact PySem.SC.replace (by show s3.toks ≠ 0; omega) (by show s3.toks + 1 ≠ 0; omega) (by show s3.toks ≠ s3.toks + 1; omega) h2 hb fun t' k' => ⟨.str _, H3, I3.tok k', ⟨t', rfl⟩, g2⟩
end
/-! ### split at a sign -/
def splitL (c : Nat) : List Nat → List (List Nat)
  | [] => [[]]
  | d :: r => if d = c then [] :: splitL c r else match splitL c r with
    | [] => [[d]]
    | p :: ps => (d :: p) :: ps
def interL (c : Nat) : List (List Nat) → List Nat
  | [] => []
  | [p] => p
  | p :: ps => p ++ c :: interL c ps
theorem splitL_ne {c : Nat} : ∀ l, splitL c l ≠ []
  | [] => by simp [splitL]
  | d :: r => by
    unfold splitL
    split
    · simp
    · split <;> simp
theorem splitL_cons {c d : Nat} {r : List Nat} (h : d ≠ c) : splitL c (d :: r) = match splitL c r with
    | [] => [[d]]
    | p :: ps => (d :: p) :: ps := by
  show (if d = c then [] :: splitL c r else _) = _
  rw [if_neg h]
theorem splitL_app {c : Nat} : ∀ (p l : List Nat), c ∉ p → splitL c (p ++ l) = match splitL c l with
    | [] => [p]
    | q :: qs => (p ++ q) :: qs
  | [], l, _ => by
    have := splitL_ne (c := c) l
    cases e : splitL c l with
    | nil => exact absurd e this
    | cons q qs => rw [List.nil_append, e]; rfl
  | d :: p, l, h => by
    have ih := splitL_app p l fun g => h (List.mem_cons_of_mem _ g)
    have hd : d ≠ c := fun e => h (by rw [e]; exact List.mem_cons_self)
    rw [List.cons_append, splitL_cons hd, ih]
    cases e : splitL c l with
    | nil => exact absurd e (splitL_ne l)
    | cons q qs => rfl
theorem splitL_inter {c : Nat} : ∀ {ps : List (List Nat)}, ps ≠ [] → (∀ p ∈ ps, c ∉ p) → splitL c (interL c ps) = ps
  | [], h, _ => absurd rfl h
  | [p], _, h => by
    have := splitL_app p [] (h p List.mem_cons_self)
    rw [List.append_nil] at this
    show splitL c p = _
    rw [this]
    show [p ++ []] = _
    rw [List.append_nil]
  | p :: q :: ps, _, h => by
    have ih := splitL_inter (ps := q :: ps) (by simp) fun x hx => h x (List.mem_cons_of_mem _ hx)
    show splitL c (p ++ c :: interL c (q :: ps)) = _
    rw [splitL_app p _ (h p List.mem_cons_self)]
    have e : splitL c (c :: interL c (q :: ps)) = [] :: q :: ps := by
      conv => lhs; unfold splitL
      rw [if_pos rfl, ih]
    rw [e]
    show (p ++ []) :: q :: ps = _
    rw [List.append_nil]
theorem join_inter {c : Nat} : ∀ ps : List Str, (Str.join ⟨#[c]⟩ ps).cps.toList = interL c (ps.map fun p => p.cps.toList)
  | [] => rfl
  | [_] => rfl
  | p :: q :: ps => by
    have ih := join_inter (c := c) (q :: ps)
    show ((p ++ ⟨#[c]⟩ ++ Str.join ⟨#[c]⟩ (q :: ps) : Str)).cps.toList = p.cps.toList ++ c :: interL c ((q :: ps).map fun p => p.cps.toList)
    rw [← ih]
    show (p.cps ++ #[c] ++ (Str.join ⟨#[c]⟩ (q :: ps)).cps).toList = _
    simp
theorem split_is (x : Str) (c : Nat) : (Txt.split x ⟨#[c]⟩).map (fun p => p.cps.toList) = splitL c x.cps.toList := by
  have h1 := congrArg (fun s : Str => s.cps.toList) (join_split x ⟨#[c]⟩)
  have h1 : (Str.join ⟨#[c]⟩ (Txt.split x ⟨#[c]⟩)).cps.toList = x.cps.toList := h1
  rw [join_inter] at h1
  rw [← h1, splitL_inter]
  · intro e
    have := split_pos x ⟨#[c]⟩
    rw [List.map_eq_nil_iff.mp e] at this
    exact absurd this (by decide)
  · intro p hp
    obtain ⟨q, hq, rfl⟩ := List.mem_map.mp hp
    exact split_free x c q hq
theorem splitL_mem {c : Nat} : ∀ {l : List Nat} {p : List Nat}, p ∈ splitL c l → p.length ≤ l.length ∧ ∀ d ∈ p, d ∈ l
  | [], p, h => by
    rw [List.mem_singleton.mp h]
    exact ⟨Nat.le_refl _, fun d hd => hd⟩
  | d :: r, p, h => by
    unfold splitL at h
    split at h
    · rcases List.mem_cons.mp h with rfl | h
      · exact ⟨Nat.zero_le _, fun d hd => nomatch hd⟩
      · obtain ⟨a, b⟩ := splitL_mem h
        exact ⟨by rw [List.length_cons]; omega, fun d hd => List.mem_cons_of_mem _ (b d hd)⟩
    · split at h
      next e => exact absurd e (splitL_ne r)
      next q qs e =>
        rcases List.mem_cons.mp h with rfl | h
        · obtain ⟨a, b⟩ := splitL_mem (l := r) (p := q) (by rw [e]; exact List.mem_cons_self)
          refine ⟨by rw [List.length_cons, List.length_cons]; omega, fun d' hd => ?_⟩
          rcases List.mem_cons.mp hd with rfl | hd
          · exact List.mem_cons_self
          · exact List.mem_cons_of_mem _ (b d' hd)
        · obtain ⟨a, b⟩ := splitL_mem (l := r) (p := p) (by rw [e]; exact List.mem_cons_of_mem _ h)
          exact ⟨by rw [List.length_cons]; omega, fun d' hd => List.mem_cons_of_mem _ (b d' hd)⟩
theorem splitL_len {c : Nat} : ∀ l : List Nat, (splitL c l).length ≤ l.length + 1
  | [] => Nat.le_refl _
  | d :: r => by
    have ih := splitL_len (c := c) r
    unfold splitL
    split
    · rw [List.length_cons, List.length_cons]; omega
    · split
      next e => rw [List.length_cons]; show 1 ≤ _; omega
      next q qs e =>
        rw [e] at ih
        rw [List.length_cons, List.length_cons]
        rw [List.length_cons] at ih
        omega
def splS (x c : List Nat) : Option (List (List Nat)) := match c with
  | [d] => if x.length ≤ 1000000 then some (splitL d x) else none
  | _ => none
/-- x.replace(y1 if k == q else y2, z) of signs -/
def repI (q y1 y2 z : Nat) (x k : List Nat) : Option (List Nat) := rep1 (if k = [q] then y1 else y2) z x
section
variable {K : PySem.W.Frag} {F0 H0 : Hp} {Γ : List Sl} {to ts te : TE}
theorem ev_repI {m n : Option (List Nat)} (q y1 y2 z : Nat) {sq s1 s2 sz : Str} (eq : sq = ⟨#[q]⟩) (e1 : s1 = ⟨#[y1]⟩) (e2 : s2 = ⟨#[y2]⟩) (ez : sz = ⟨#[z]⟩) (hz : z < 1114112) (h : Ev K F0 H0 to Γ .r rS m) (hs : Ev K F0 H0 ts Γ .r rS n) :
    Ev K F0 H0 (tReplI to ts sq s1 s2 sz) Γ .r rS (m.bind fun x => n.bind fun k => repI q y1 y2 z x k) := by
  intro σ F H s c e Q qq
  cases m with
  | none => cases e
  | some x =>
    cases n with
    | none => cases e
    | some k =>
      have e : rep1 (if k = [q] then y1 else y2) z x = some c := e
      unfold rep1 at e
      split at e
      next hl =>
        cases e
        refine h σ F H s x rfl _ fun v F1 H1 w1 o1 => ?_
        obtain ⟨rfl, x1, x2⟩ := Rep.str o1
        refine ⟨_, rfl, hs σ F1 H1 (s.mono w1) k rfl _ fun u F2 H2 w2 o2 => ?_⟩
        obtain ⟨rfl, k1, k2⟩ := Rep.str o2
        subst eq e1 e2 ez
        have l1 : ((⟨#[z]⟩ : Str)).length = 1 := rfl
        have l3 : ((⟨x.toArray⟩ : Str)).length = x.length := by simp [Str.length]
        have hk : (if (⟨k.toArray⟩ : Str) = ⟨#[q]⟩ then (⟨#[y1]⟩ : Str) else ⟨#[y2]⟩) = ⟨#[if k = [q] then y1 else y2]⟩ := by
          by_cases c : k = [q]
          · rw [if_pos c, if_pos (by rw [c])]
          · rw [if_neg c, if_neg fun g => c (by
              have := congrArg (fun s : Str => s.cps.toList) g
              simpa using this)]
        generalize (if k = [q] then y1 else y2) = a at *
        have key : (Txt.replace ⟨x.toArray⟩ ⟨#[a]⟩ ⟨#[z]⟩).cps.toList = x.map fun c => if c = a then z else c := by
          rw [replace_list (by rw [show ((⟨#[a]⟩ : Str)).length = 1 from rfl]; exact Nat.le_refl _)]
          show replL [a] [z] x.toArray.toList = _
          rw [List.toList_toArray, replL_one]
        have hs' : Txt.replace ⟨x.toArray⟩ ⟨#[a]⟩ ⟨#[z]⟩ = ⟨(x.map fun c => if c = a then z else c).toArray⟩ := by
          rw [← key]
        refine ⟨_, rfl, by rw [l1, l3]; omega, ?_⟩
        rw [hk, hs']
        refine qq _ F2 H2 (w1.trans w2) (rep_str (fun c hc => ?_) (by rw [List.length_map]; exact x2))
        obtain ⟨d, hd, rfl⟩ := List.mem_map.mp hc
        split
        · exact hz
        · exact x1 d hd
      next => cases e
theorem ev_split {m n : Option (List Nat)} (h : Ev K F0 H0 to Γ .r rS m) (hc : Ev K F0 H0 te Γ .r rS n) :
    Ev K F0 H0 (tM1 (fun x xs H Q => ∃ a b, x = .str a ∧ xs = [.str b] ∧ (b.length == 0) = false ∧ a.length + 2 ≤ sizeLine ∧ rNewStrs (Txt.split a b) H Q) to te) Γ .n (rL rS) (m.bind fun x => n.bind fun c => splS x c) := by
  intro σ F H s c e Q q
  cases m with
  | none => cases e
  | some x =>
    cases n with
    | none => cases e
    | some d =>
      have e : splS x d = some c := e
      cases d with
      | nil => cases e
      | cons d r =>
       cases r with
       | cons => cases e
       | nil =>
        have e2 : (if x.length ≤ 1000000 then some (splitL d x) else none) = some c := e
        clear e
        split at e2
        next hl =>
          cases e2
          refine h σ F H s x rfl _ fun v F1 H1 w1 o1 => ?_
          obtain ⟨rfl, x1, x2⟩ := Rep.str o1
          refine ⟨⟨_, rfl⟩, hc σ F1 H1 (s.mono w1) [d] rfl _ fun u F2 H2 w2 o2 => ?_⟩
          obtain ⟨rfl, k1, k2⟩ := Rep.str o2
          have l3 : ((⟨x.toArray⟩ : Str)).length = x.length := by simp [Str.length]
          refine ⟨_, _, rfl, rfl, rfl, by rw [l3, sizeLine_eq]; omega, fun p np => ?_⟩
          have hsp : (Txt.split ⟨x.toArray⟩ ⟨#[d]⟩).map V.str = (splitL d x).map fun z => V.str ⟨z.toArray⟩ := by
            have := split_is ⟨x.toArray⟩ d
            have e : (⟨x.toArray⟩ : Str).cps.toList = x := List.toList_toArray ..
            rw [e] at this
            rw [← this, List.map_map]
            refine List.map_congr_left fun y _ => ?_
            show V.str y = V.str ⟨y.cps.toList.toArray⟩
            rw [Array.toArray_toList]
          have he : ([d] : List Nat).toArray = #[d] := rfl
          rw [he, hsp]
          have st := (s.mono w1).mono w2
          refine q (.ref p) F2 _ ((w1.trans w2).trans (Step.layO st.st.fh np)) ?_
          refine newL (S := rS) st.st.fh np ?_ (fun y hy => ?_) (Nat.le_trans (splitL_len x) (by omega)) |>.back (w1.trans w2)
          · clear hsp
            induction splitL d x with
            | nil => exact .nil
            | cons y ys ih => exact .cons (.str _) ih
          · obtain ⟨a, b⟩ := splitL_mem hy
            exact (rep_str (K := K) (F := F2) (fun c hc => x1 c (b c hc)) (by omega)).2
        next => cases e2
end
end Y

/-! Layer Y: instances of a class of the text with the fields length and script; == by its own def. -/
namespace Y
open PySem PySem.Spec PyProof.Rows L2
/-- an instance with a whole number and a script -/
def rM (C : Addr) : Rp (Int × List (Int × Int)) := ⟨fun x => .dict [(.none, .list [.int (C : Int), .dict [(.str "length", .int x.1), (.str "script", (rT (rP rI rI)).toD x.2)]])], false, 1, nofun, nofun, nofun⟩
def mfl (v w : V) : List (Str × V) := [("length", v), ("script", w)]
theorem ne_ls : ¬ (("length" : Str) = "script") := by decide +kernel
theorem put1 (v : V) : putF "length" v [] = ([("length", v)] : List (Str × V)) := rfl
theorem put2 (v w : V) : putF "script" w ([("length", v)] : List (Str × V)) = mfl v w := by
  show (if ("length" : Str) = "script" then _ else (("length" : Str), v) :: putF "script" w []) = _
  rw [if_neg ne_ls]
  rfl
theorem mfl_length (v w : V) : (mfl v w).lookup ("length" : Str) = some v := by
  rw [← put2, ← put1, lookup_putF, if_neg ne_ls, lookup_putF, if_pos rfl]
theorem mfl_script (v w : V) : (mfl v w).lookup ("script" : Str) = some w := by
  rw [← put2, ← put1, lookup_putF, if_pos rfl]
section
variable {K : PySem.W.Frag} {F : Hp} {C : Addr}
theorem rep_M {p dx : Addr} {v w : V} {a : Int} {b : List (Int × Int)} (h1 : F p = some (.ins C dx (mfl v w))) (h2 : F dx = some (.own p)) (ha : Rep K F v rI a) (hb : Rep K F w (rT (rP rI rI)) b) : Rep K F (.ref p) (rM C) (a, b) := by
  refine ⟨.obj h1 h2 rfl (.cons ha.1 (.cons hb.1 .nil)), ?_⟩
  have e := hb.2
  show okD (.dict [(.none, .list [.int (C : Int), .dict [(.str "length", .int a), (.str "script", (rT (rP rI rI)).toD b)]])]) = true
  have e1 : PyData.strOk "length" = true := by decide +kernel
  have e2 : PyData.strOk "script" = true := by decide +kernel
  have e3 : ("length" : Str).length ≤ 16777216 := by decide +kernel
  have e4 : ("script" : Str).length ≤ 16777216 := by decide +kernel
  simp only [okD, okKv, okAll, e, e1, e2, Bool.and_true, Bool.true_and, List.length_cons, List.length_nil]
  rw [decide_eq_true e3, decide_eq_true e4]
  rfl
theorem Rep.mac {v : V} {x : Int × List (Int × Int)} (h : Rep K F v (rM C) x) : ∃ p dx v1 v2, v = .ref p ∧ F p = some (.ins C dx (mfl v1 v2)) ∧ F dx = some (.own p) ∧ Rep K F v1 rI x.1 ∧ Rep K F v2 (rT (rP rI rI)) x.2 := by
  obtain ⟨h, hc⟩ := h
  have hok : okD ((rT (rP rI rI)).toD x.2) = true := by
    have hc : okD (.dict [(.none, .list [.int (C : Int), .dict [(.str "length", .int x.1), (.str "script", (rT (rP rI rI)).toD x.2)]])]) = true := hc
    simp only [okD, okKv, okAll, Bool.and_eq_true] at hc
    exact hc.1.1.2.1.2.1.1.2.1.2
  generalize hd : (rM C).toD x = d at h
  cases h with
  | obj h1 h2 h3 h4 =>
    rename_i a C' dx fs ds
    have hd : PyData.dict [(.none, .list [.int (C : Int), .dict [(.str "length", .int x.1), (.str "script", (rT (rP rI rI)).toD x.2)]])] = .dict [(.none, .list [.int (C' : Int), .dict ds])] := hd
    simp only [PyData.dict.injEq, List.cons.injEq, Prod.mk.injEq, PyData.list.injEq, PyData.int.injEq, true_and, and_true] at hd
    obtain ⟨e1, e2⟩ := hd
    have e1 : C = C' := Int.ofNat.inj e1
    subst e1
    subst e2
    match fs, h3, h4 with
    | [(n1, v1), (n2, v2)], h3, h4 =>
      simp only [List.map_cons, List.map_nil, List.cons.injEq, PyData.str.injEq, and_true] at h3
      obtain ⟨rfl, rfl⟩ := h3
      cases h4 with
      | cons q1 h4 =>
        cases h4 with
        | cons q2 _ => exact ⟨a, dx, v1, v2, rfl, h1, h2, ⟨q1, rfl⟩, ⟨q2, hok⟩⟩
    | [], h3, _ => simp at h3
    | [_], h3, _ => simp at h3
    | _ :: _ :: _ :: _, h3, _ => simp at h3
  | non => exact nomatch hd
  | bl _ => exact nomatch hd
  | int _ => exact nomatch hd
  | str _ => exact nomatch hd
  | lst _ _ => exact nomatch hd
  | tup _ _ => exact nomatch hd
  | dct e h1 h2 =>
    rename_i a o kvs ds
    have hd : (PyData.dict [(.none, .list [.int (C : Int), .dict [(.str "length", .int x.1), (.str "script", (rT (rP rI rI)).toD x.2)]])]) = .dict ds := hd
    simp only [PyData.dict.injEq] at hd
    subst hd
    cases kvs with
    | nil => simp at h1
    | cons p kvs => rcases p with ⟨i | z, v⟩ <;> simp [keyD] at h1
  | dcT e h1 h2 =>
    have hd : (PyData.dict [(.none, .list [.int (C : Int), .dict [(.str "length", .int x.1), (.str "script", (rT (rP rI rI)).toD x.2)]])]) = _ := hd
    simp at hd
  | stn e =>
    have hd : (PyData.dict [(.none, .list [.int (C : Int), .dict [(.str "length", .int x.1), (.str "script", (rT (rP rI rI)).toD x.2)]])]) = _ := hd
    simp at hd
end
/-- what the class's __init__ promises -/
def spInit (C : Addr) : Sp := fun vs H Q _ => ∃ p dx v1 v2, vs = [.ref p, v1, v2] ∧ H p = some (.ins C dx []) ∧ Q .non (upd (upd H p (.ins C dx (putF "length" v1 []))) p (.ins C dx (putF "script" v2 (putF "length" v1 []))))
structure MacT (K : PySem.W.Frag) (mg : Str → Option Value) (C : Addr) : Prop where
  cl : Cls K C
  nL : NoAttr K C "length"
  nS : NoAttr K C "script"
  mgC : mg "Macro" = some (.ref C)
  isc : C8.InsC K C
  sf : PySem.W.selfFirst K C = true
  ne : PySem.W.findIn K (.ref C) "__ne__" = some (some (.builtin "object.__ne__"))
theorem init_walk {X : Cx} {C : Addr} {σ : L2.St} {H : Hp} {p dx : Addr} {v1 v2 : V} {D : Ends} (T : MacT X.K X.mg C) (h0 : σ[0]? = some (some (.ref p))) (h1 : σ[1]? = some (some v1)) (h2 : σ[2]? = some (some v2)) (hp : H p = some (.ins C dx []))
    (k : D.nx σ (upd (upd H p (.ins C dx (putF "length" v1 []))) p (.ins C dx (putF "script" v2 (putF "length" v1 []))))) :
    tSeq (sFld X.K (tVar 0) (tVar 1) "length") (tSeq (sFld X.K (tVar 0) (tVar 2) "script") tNext) D σ H :=
  ⟨v1, h1, .ref p, h0, p, C, dx, [], rfl, hp, T.cl, T.nL, by decide, v2, h2, .ref p, h0, p, C, dx, _, rfl, upd_same, T.cl, T.nS, by rw [put1]; show 1 < 1000; decide, k⟩
/-- the class: how it makes -/
structure MacD (P : Program) (w : World) (K : PySem.W.Frag) (mg : Str → Option Value) (base : Heap) (C : Addr) : Prop where
  t : MacT K mg C
  make : ∃ f fd, Mk K C f ∧ Binds K fd ["self", "length", "script"] [] ∧ FnOk P w K mg base CX0 1 f fd ["self", "length", "script"] (spInit C)
/-- a method of the class -/
def OpD (P : Program) (w : World) (K : PySem.W.Frag) (mg : Str → Option Value) (base : Heap) (C : Addr) (nm : Str) (k : Nat) (ps : List Str) (sp : Sp) : Prop :=
  ∃ f fd, PySem.W.findIn K (.ref C) nm = some (some (.ref f)) ∧ PySem.W.isFn K (.ref f) = true ∧ PySem.W.fnIn K f = true ∧ Binds K fd ps [] ∧ FnOk P w K mg base CX0 k f fd ps sp
def rEqM (C : Addr) (sp : Sp) : R2 := fun x y H Q => ∃ a b dx dy fs gs, x = .ref a ∧ y = .ref b ∧ H a = some (.ins C dx fs) ∧ H b = some (.ins C dy gs) ∧ sp [x, y] H (fun v H' => (∃ k, v = .bl k) ∧ Q v H') E0
section
variable {X : Cx} {C : Addr} {k : Nat} {sp : Sp} {e : Expr} {es : List Expr} {t : TA} {te : TE} {p pos : Pos}
theorem pe_makeM (D : MacD X.prog X.w X.K X.mg X.base C) (hr : Room 2 X.A) (hg : Gl X "Macro") (ha : PA X (e :: es) t)
    (he : starEach (e :: es) X.env = (false, eval e X.env) :: starEach es X.env := by rfl) (hpl : (backTo pos (starEach es X.env)).any (·.1) = false := by rfl) : PE X (.Call (.Name "Macro" p) (e :: es) [] pos) (tMake C (spInit C) [] E0 t) := by
  obtain ⟨f, fd, M, b, F⟩ := D.make
  exact pe_make M F hr hg D.t.mgC b .nil pass0 ha (by decide) he hpl
theorem op_eqM {ps : List Str} (D : OpD X.prog X.w X.K X.mg X.base C "__eq__" k ps sp) (hr : Room k X.A) : OpR X (compareOp .Eq) (rEqM C sp) := by
  obtain ⟨f, fd, hs, hf, _, hb, F⟩ := D
  intro pins s σ H x y v u Q I rx ry h
  obtain ⟨a, b, dx, dy, fs, gs, rfl, rfl, ha, hb', hq⟩ := h
  cases rx
  cases ry
  obtain ⟨mA, J, _⟩ := ins_get I.hok ha
  obtain ⟨mB, J', _⟩ := ins_get I.hok hb'
  obtain ⟨od, J, _⟩ := J.look
  obtain ⟨od', J', _⟩ := J'.look
  obtain ⟨m, hF⟩ := I.fr
  show wpAny (model X.prog X.w) X.A (richCompare .Eq (.ref a) (.ref b)) (EP X pins σ Q) X.xe s
  refine PySem.W.cmp_K (op := .Eq) (tb := .ref C) hr.units0 hF I.ok.mod.kin J J'.type (by simp [PySem.W.notFirst]) hs hf ?_
  have r2 : Vals [V.ref a, V.ref b] [Value.ref a, Value.ref b] := .cons rfl (.cons rfl .nil)
  refine wpAny_mono (run_fn F hr hb .nil pass0 I r2 hq) (fun z s' q => ?_) fun _ _ x => x
  obtain ⟨x', H', I', rz, ⟨k', rfl⟩, qq⟩ := q
  cases rz
  exact ⟨.bl k', H', I', rfl, qq⟩
end
section
variable {K : PySem.W.Frag} {F0 H0 : Hp} {Γ : List Sl} {mg : Str → Option Value} {C : Addr} {ta tb : TE}
theorem ev_mkM {m : Option Int} {n : Option (List (Int × Int))} (ha : Ev K F0 H0 ta Γ .r rI m) (hb : Ev K F0 H0 tb Γ .r (rT (rP rI rI)) n) :
    Ev K F0 H0 (tMake C (spInit C) [] E0 (tCons ta (tCons tb tNil))) Γ .r (rM C) (m.bind fun a => n.bind fun b => some (a, b)) := by
  intro σ F H s c e Q q
  cases m with
  | none => cases e
  | some a =>
    cases n with
    | none => cases e
    | some b =>
      cases e
      refine ha σ F H s a rfl _ fun v F1 H1 s1 o1 => ?_
      refine hb σ F1 H1 (s.mono s1) b rfl _ fun w F2 H2 s2 o2 => ?_
      intro x dx nx ndx nex
      have fh := ((s.mono s1).mono s2).st.fh
      have fx := fh.free nx
      have fdx := fh.free ndx
      refine ⟨x, dx, v, w, rfl, upd_same, rfl, ?_⟩
      rw [put1, put2]
      have S1 : Same F2 (upd (upd F2 dx (.own x)) x (.ins C dx (mfl v w))) := fun c o e => by
        rw [upd_ne (ne_of_none e fx), upd_ne (ne_of_none e fdx)]
        exact e
      have st : Step F2 H2 (upd (upd F2 dx (.own x)) x (.ins C dx (mfl v w))) (upd (upd (upd (upd H2 dx (.own x)) x (.ins C dx [])) x (.ins C dx ([("length", v)] : List (Str × V)))) x (.ins C dx (mfl v w))) := by
        refine ⟨S1, fun c o e => ?_, fun c o e => ?_, fun c o e nb _ => ?_⟩
        · have hcx := ne_of_none e nx
          rw [upd_ne hcx, upd_ne hcx, upd_ne hcx, upd_ne (ne_of_none e ndx)]
          exact e
        · by_cases hc : c = x
          · subst hc
            rw [upd_same] at e ⊢
            exact e
          · rw [upd_ne hc] at e
            rw [upd_ne hc, upd_ne hc, upd_ne hc]
            by_cases hd : c = dx
            · subst hd
              rw [upd_same] at e ⊢
              exact e
            · rw [upd_ne hd] at e ⊢
              exact fh c o e
        · rw [upd_ne (ne_of_none e nx), upd_ne (ne_of_none e ndx)]
          exact nb
      refine q (.ref x) _ _ (s1.trans (s2.trans st)) (rep_M (p := x) (dx := dx) upd_same ?_ ((o1.mono s2.ff).mono S1) (o2.mono S1))
      rw [upd_ne nex, upd_same]
theorem ev_fldL (T : MacT K mg C) {m : Option (Int × List (Int × Int))} (h : Ev K F0 H0 ta Γ .r (rM C) m) : Ev K F0 H0 (tFld K ta "length") Γ .r rI (m.bind fun x => some x.1) := by
  intro σ F H s c e Q q
  cases m with
  | none => cases e
  | some x =>
    cases e
    refine h σ F H s x rfl _ fun v F1 H1 s1 o1 => ?_
    obtain ⟨p, dx, v1, v2, rfl, h1, h2, r1, r2⟩ := Rep.mac o1
    exact ⟨p, C, dx, _, v1, rfl, s1.fh _ _ h1, T.cl, T.nL, mfl_length _ _, q v1 F1 H1 s1 r1⟩
theorem ev_fldS (T : MacT K mg C) {m : Option (Int × List (Int × Int))} (h : Ev K F0 H0 ta Γ .r (rM C) m) : Ev K F0 H0 (tFld K ta "script") Γ .r (rT (rP rI rI)) (m.bind fun x => some x.2) := by
  intro σ F H s c e Q q
  cases m with
  | none => cases e
  | some x =>
    cases e
    refine h σ F H s x rfl _ fun v F1 H1 s1 o1 => ?_
    obtain ⟨p, dx, v1, v2, rfl, h1, h2, r1, r2⟩ := Rep.mac o1
    exact ⟨p, C, dx, _, v2, rfl, s1.fh _ _ h1, T.cl, T.nS, mfl_script _ _, q v2 F1 H1 s1 r2⟩
theorem ev_isM {m : Option (Int × List (Int × Int))} (h : Ev K F0 H0 ta Γ .r (rM C) m) :
    Ev K F0 H0 (tCB (fun xs H Q => ∃ a dx fs, xs = [V.ref a, V.ref C] ∧ H a = some (.ins C dx fs) ∧ Q (.bl true) H) (tCons ta (tCons (tC (.ref C)) tNil))) Γ .r rB (m.bind fun _ => some true) := by
  intro σ F H s c e Q q
  cases m with
  | none => cases e
  | some x =>
    cases e
    refine h σ F H s x rfl _ fun v F1 H1 s1 o1 => ?_
    obtain ⟨p, dx, v1, v2, rfl, h1, h2, r1, r2⟩ := Rep.mac o1
    exact ⟨p, dx, _, rfl, s1.fh _ _ h1, q _ F1 H1 s1 (rep_bool.mpr rfl)⟩
theorem ev_eqM {m n : Option (Int × List (Int × Int))} {f : (Int × List (Int × Int)) × (Int × List (Int × Int)) × Unit → Option Bool} (ha : Ev K F0 H0 ta Γ .r (rM C) m) (hb : Ev K F0 H0 tb Γ .r (rM C) n) :
    Ev K F0 H0 (tOp (rEqM C (spD K (aC (rM C) (aC (rM C) aN)) f .r rB)) ta tb) Γ .r rB (m.bind fun a => n.bind fun b => f (a, b, ())) := by
  intro σ F H s c e Q q
  cases m with
  | none => cases e
  | some a =>
    cases n with
    | none => cases e
    | some b =>
      have e : f (a, b, ()) = some c := e
      refine ha σ F H s a rfl _ fun v F1 H1 s1 o1 => ?_
      refine hb σ F1 H1 (s.mono s1) b rfl _ fun w F2 H2 s2 o2 => ?_
      have o1 := o1.mono s2.ff
      obtain ⟨p, dx, _, _, rfl, h1, _⟩ := Rep.mac o1
      obtain ⟨p', dx', _, _, rfl, h2, _⟩ := Rep.mac o2
      refine ⟨p, p', dx, dx', _, _, rfl, rfl, s2.fh _ _ h1, s2.fh _ _ h2, F2, (a, b, ()), c, s2.fh, ⟨_, _, rfl, o1, _, _, rfl, o2, rfl⟩, e, fun z F' H' s' o => ⟨⟨c, rep_bool.mp o⟩, q z F' H' ((s1.trans s2).trans s') o⟩⟩
end
end Y

/-! Layer Y: instances of a class of the text: +, calls, != (told by its own ==). -/
namespace Y
open PySem PySem.Spec PyProof.Rows L2
def rAddM (C : Addr) (sp : Sp) : R2 := fun x y H Q => ∃ a b dx dy fs gs, x = .ref a ∧ y = .ref b ∧ H a = some (.ins C dx fs) ∧ H b = some (.ins C dy gs) ∧ sp [x, y] H (fun v H' => (∃ c, v = .ref c) ∧ Q v H') E0
def rNeM (C : Addr) (sp : Sp) : R2 := fun x y H Q => ∃ a b dx dy fs gs, x = .ref a ∧ y = .ref b ∧ H a = some (.ins C dx fs) ∧ H b = some (.ins C dy gs) ∧ sp [x, y] H (fun v H' => ∃ k, v = .bl k ∧ Q (.bl (!k)) H') E0
section
variable {X : Cx} {C : Addr} {k : Nat} {sp : Sp} {e fe : Expr} {es : List Expr} {t : TA} {tf te : TE} {p pos : Pos} {ps : List Str}
theorem op_addM (D : OpD X.prog X.w X.K X.mg X.base C "__add__" k ps sp) (hsf : PySem.W.selfFirst X.K C = true) (hr : Room k X.A) : OpR X (binaryOp .Add) (rAddM C sp) := by
  obtain ⟨f, fd, hs, hf, _, hb, F⟩ := D
  intro pins s σ H x y v u Q I rx ry h
  obtain ⟨a, b, dx, dy, fs, gs, rfl, rfl, ha, hb', hq⟩ := h
  cases rx
  cases ry
  obtain ⟨mA, J, _⟩ := ins_get I.hok ha
  obtain ⟨mB, J', _⟩ := ins_get I.hok hb'
  obtain ⟨od, J, _⟩ := J.look
  obtain ⟨od', J', _⟩ := J'.look
  obtain ⟨m, hF⟩ := I.fr
  refine PySem.W.binop_K (op := .Add) hF I.ok.mod.kin J J'.type hsf hs hf ?_
  have r2 : Vals [V.ref a, V.ref b] [Value.ref a, Value.ref b] := .cons rfl (.cons rfl .nil)
  refine wpAny_mono (run_fn F hr hb .nil pass0 I r2 hq) (fun z s' q => ?_) fun _ _ x => x
  obtain ⟨x', H', I', rz, ⟨c, rfl⟩, qq⟩ := q
  cases rz
  exact ⟨.ref c, H', I', rfl, qq⟩
/-- the callee runs deeper by one -/
theorem run_fn1 {pins : List (Addr × Obj)} {σ : L2.St} {H : Hp} {s : Shared} {Q : VK} {us : List Value} {vs : List V} {f : Addr} {fd : FuncData} {A : Around} {Ex : Value → Shared → Prop} (F : FnOk X.prog X.w X.K X.mg X.base CX0 k f fd ps sp) (hr : Room k A) (he : Env0 X.prog X.w X.K X.mg X.base A X.stack s H) (hb : Binds X.K fd ps [])
    (I : Inv X pins σ H s) (r : Vals vs us) (h : sp vs H Q E0) : wpAny (model X.prog X.w) A (call (.ref f) us) (EP X pins σ Q) Ex s := by
  have h : sp (vs ++ []) H Q E0 := by rw [List.append_nil]; exact h
  have r2 : Vals (vs ++ []) (us ++ []) := r.append .nil
  have hl : (us ++ []).length = ps.length := by rw [← r2.length]; exact F.len _ _ _ _ h
  refine wpAny_call (codeAny_mono (F.run A X.stack s H ⟨us, []⟩ (us ++ []) (vs ++ []) Q E0 hr he (hb s us I.kIn hl) r2 h) fun r s' hq => ?_)
  cases r with
  | error e => exact (hq : False).elim
  | ok fl =>
    cases fl with
    | ret u => exact I.after hq
    | next => exact False.elim hq
    | brk => exact False.elim hq
    | cont => exact False.elim hq
theorem op_neM (D : OpD X.prog X.w X.K X.mg X.base C "__eq__" k ps sp) (hn : PySem.W.findIn X.K (.ref C) "__ne__" = some (some (.builtin "object.__ne__"))) (hm : PySem.W.mroIn X.K C (.type "object") = some true) (hr : Room (k + 1) X.A) : OpR X (compareOp .NotEq) (rNeM C sp) := by
  obtain ⟨f, fd, hs, hf, _, hb, F⟩ := D
  intro pins s σ H x y v u Q I rx ry h
  obtain ⟨a, b, dx, dy, fs, gs, rfl, rfl, ha, hb', hq⟩ := h
  cases rx
  cases ry
  obtain ⟨mA, J, _⟩ := ins_get I.hok ha
  obtain ⟨mB, J', _⟩ := ins_get I.hok hb'
  obtain ⟨od, J, _⟩ := J.look
  obtain ⟨od', J', _⟩ := J'.look
  have KX := I.kIn
  have hu : X.A.units < cLine := hr.units0
  have hu1 : X.A.in1.units < cLine := hr.in1.units0
  have r2 : Vals [V.ref a, V.ref b] [Value.ref a, Value.ref b] := .cons rfl (.cons rfl .nil)
  have hI : PySem.W.Looks (model X.prog X.w) s.heap (isInstance (.ref a) (.type "object")) true := J.type.andThen (PySem.W.looks_subIn KX (t := .ref C) (base := .type "object") hm)
  have FB := PySem.F.cmp_object
  have entry : ∀ {R : Fin → Shared → Prop} {Ex : Value → Shared → Prop}, (∀ (b' : Bool) (s' : Shared), EP X pins σ Q (.bool (!b')) s' → R (.done (.ret (.bool (!b')))) s') →
      wpAny (model X.prog X.w) X.A.in1 (Builtin.«object.__ne__» ⟨[.ref a, .ref b], []⟩) R Ex s := by
    intro R Ex hR
    have call1 : wpAny (model X.prog X.w) X.A.in1 (call (.ref f) [.ref a, .ref b]) (fun v s' => ∃ c, v = .bool c ∧ R (.done (.ret (.bool (!c)))) s') Ex s :=
      wpAny_mono (run_fn1 F hr.in1 I.env0.in1 hb I r2 hq) (fun z s' q => by
        obtain ⟨x', H', I', rz, ⟨c, rfl, qq⟩⟩ := q
        cases rz
        exact ⟨c, rfl, hR c s' ⟨.bl (!c), H', I', rfl, qq⟩⟩) fun _ _ x => x
    unfold Builtin.«object.__ne__»
    repeat (first
      | with_reducible refine wpAny_cRoomFor hu1 ?_
      | (refine wpAny_bind (m := callSpecialIfBound? (.ref a) (Str.ofString "__eq__") [.ref b])
          (PySem.W.ifBound_K KX J hs hf (wpAny_mono call1 (fun r s' hr => by
            obtain ⟨b, rfl, hq⟩ := hr
            repeat (first | exact hq | exact wpAny_pure hq | exact wpAny_truthy_bool hq | (refine wpAny_bind (m := truthy (.bool _)) (wpAny_truthy_bool ?_)) | wp_step)) fun _ _ e => e)))
      | wp_step)
  have ne1 : wpAny (model X.prog X.w) X.A (tryCompare (.ref a) "__ne__" (.ref b)) (fun r s' => ∃ v, r = some v ∧ EP X pins σ Q v s') X.xe s := by
    unfold tryCompare
    refine wpAny_bind ?_
    simp only [callSpecialIfBound?, bindSpecialIfBound?]
    refine wpAny_holding (wpAny_bind (wpAny_bind (wpAny_bind (J.type.here ((PySem.W.looks_findIn KX hn).here ?_)))))
    have cl : wpAny (model X.prog X.w) X.A (call (.builtin "object.__ne__") [.ref a, .ref b]) (fun v s' => ∃ c, v = .bool (!c) ∧ EP X pins σ Q (.bool (!c)) s') X.xe s :=
      wpAny_call (codeAny_call_builtin FB.ne.plain PySem.F.cmpEntry_ne (PySem.W.check_slot PySem.F.cmpKind_ne PySem.F.cmpSplit_ne hI (PySem.F.cmpArgs_ne _ _) (entry fun c s' e => ⟨c, rfl, e⟩)))
    have fin : wpAny (model X.prog X.w) X.A (call (.builtin "object.__ne__") ([.ref a] ++ [.ref b]) >>= fun v => pure (some v)) (fun r s' => wpAny (model X.prog X.w) X.A (match r with | some .notImplemented | none => pure none | some v => pure (some v)) (fun r s' => ∃ v, r = some v ∧ EP X pins σ Q v s') X.xe s') X.xe s :=
      wpAny_bind (wpAny_mono cl (fun v s' h' => by obtain ⟨c, rfl, e⟩ := h'; exact wpAny_pure (wpAny_pure ⟨_, rfl, e⟩)) fun _ _ h' => h')
    simp only [FB.ne.bind]
    refine wpAny_bind (wpAny_askSetting (wpAny_ite ?_))
    split
    · exact wpAny_bind (wpAny_pure (wpAny_pure fin))
    · exact wpAny_tryCatch (wpAny_bind (wpAny_pure (wpAny_pure fin)))
  show wpAny (model X.prog X.w) X.A (richCompare .NotEq (.ref a) (.ref b)) (EP X pins σ Q) X.xe s
  unfold richCompare
  simp only [oneThing_ref]
  refine wpAny_holding (wpAny_bind (wpAny_cRoomFor hu ?_))
  rw [cmpInfo_NotEq]
  dsimp only
  refine wpAny_bind (J.type.here (wpAny_bind (J'.type.here ?_)))
  rw [show (Value.ref C != Value.ref C) = false from by simp]
  simp only [Bool.false_eq_true, if_false]
  refine wpAny_bind (wpAny_pure ?_)
  simp only [Bool.false_eq_true, if_false]
  refine wpAny_bind (wpAny_mono ne1 (fun r s' z => ?_) fun _ _ e => e)
  obtain ⟨v, rfl, hq⟩ := z
  exact wpAny_pure hq
end
section
variable {K : PySem.W.Frag} {F0 H0 : Hp} {Γ : List Sl} {mg : Str → Option Value} {C : Addr} {ta tb : TE}
theorem ev_addM {m n : Option (Int × List (Int × Int))} {f : (Int × List (Int × Int)) × (Int × List (Int × Int)) × Unit → Option (Int × List (Int × Int))} (ha : Ev K F0 H0 ta Γ .r (rM C) m) (hb : Ev K F0 H0 tb Γ .r (rM C) n) :
    Ev K F0 H0 (tOp (rAddM C (spD K (aC (rM C) (aC (rM C) aN)) f .r (rM C))) ta tb) Γ .r (rM C) (m.bind fun a => n.bind fun b => f (a, b, ())) := by
  intro σ F H s c e Q q
  cases m with
  | none => cases e
  | some a =>
    cases n with
    | none => cases e
    | some b =>
      have e : f (a, b, ()) = some c := e
      refine ha σ F H s a rfl _ fun v F1 H1 s1 o1 => ?_
      refine hb σ F1 H1 (s.mono s1) b rfl _ fun w F2 H2 s2 o2 => ?_
      have o1 := o1.mono s2.ff
      obtain ⟨p, dx, _, _, rfl, h1, _⟩ := Rep.mac o1
      obtain ⟨p', dx', _, _, rfl, h2, _⟩ := Rep.mac o2
      refine ⟨p, p', dx, dx', _, _, rfl, rfl, s2.fh _ _ h1, s2.fh _ _ h2, F2, (a, b, ()), c, s2.fh, ⟨_, _, rfl, o1, _, _, rfl, o2, rfl⟩, e, fun z F' H' s' o => ⟨?_, q z F' H' ((s1.trans s2).trans s') o⟩⟩
      obtain ⟨pz, dz, _, _, rfl, _⟩ := Rep.mac o
      exact ⟨pz, rfl⟩
theorem ev_neM {m n : Option (Int × List (Int × Int))} {f : (Int × List (Int × Int)) × (Int × List (Int × Int)) × Unit → Option Bool} (ha : Ev K F0 H0 ta Γ .r (rM C) m) (hb : Ev K F0 H0 tb Γ .r (rM C) n) :
    Ev K F0 H0 (tOp (rNeM C (spD K (aC (rM C) (aC (rM C) aN)) f .r rB)) ta tb) Γ .r rB (m.bind fun a => n.bind fun b => (f (a, b, ())).bind fun c => some (!c)) := by
  intro σ F H s c e Q q
  cases m with
  | none => cases e
  | some a =>
    cases n with
    | none => cases e
    | some b =>
      have e : ((f (a, b, ())).bind fun c => some (!c)) = some c := e
      obtain ⟨d, ed, e2⟩ := Option.bind_eq_some_iff.mp e
      cases e2
      refine ha σ F H s a rfl _ fun v F1 H1 s1 o1 => ?_
      refine hb σ F1 H1 (s.mono s1) b rfl _ fun w F2 H2 s2 o2 => ?_
      have o1 := o1.mono s2.ff
      obtain ⟨p, dx, _, _, rfl, h1, _⟩ := Rep.mac o1
      obtain ⟨p', dx', _, _, rfl, h2, _⟩ := Rep.mac o2
      refine ⟨p, p', dx, dx', _, _, rfl, rfl, s2.fh _ _ h1, s2.fh _ _ h2, F2, (a, b, ()), d, s2.fh, ⟨_, _, rfl, o1, _, _, rfl, o2, rfl⟩, ed, fun z F' H' s' o => ⟨d, rep_bool.mp o, q _ F' H' ((s1.trans s2).trans s') (rep_bool.mpr rfl)⟩⟩
theorem ev_callM {X : Cx} {α β : Type} {R : Rp α} {S : Rp β} {m : Option (Int × List (Int × Int))} {n : Option α} {f : (Int × List (Int × Int)) × α × Unit → Option β} (ha : Ev K F0 H0 ta Γ .r (rM C) m) (hb : Ev K F0 H0 tb Γ .r R n) :
    Ev K F0 H0 (StX.tCallO X C (fun vs H Q E => spD K (aC (rM C) (aC R aN)) f .r S (vs ++ []) H Q E) E0 ta (tCons tb tNil)) Γ .r S (m.bind fun a => n.bind fun b => f (a, b, ())) := by
  intro σ F H s c e Q q
  cases m with
  | none => cases e
  | some a =>
    cases n with
    | none => cases e
    | some b =>
      have e : f (a, b, ()) = some c := e
      refine ha σ F H s a rfl _ fun v F1 H1 s1 o1 => ?_
      obtain ⟨p, dx, _, _, rfl, h1, _⟩ := Rep.mac o1
      refine ⟨p, rfl, ?_⟩
      refine hb σ F1 H1 (s.mono s1) b rfl _ fun w F2 H2 s2 o2 => ?_
      have o1 := o1.mono s2.ff
      obtain ⟨p, dx, _, _, e1, h1, _⟩ := Rep.mac o1
      cases e1
      refine ⟨.inr ⟨dx, _, s2.fh _ _ h1⟩, ?_⟩
      show spD K (aC (rM C) (aC R aN)) f .r S [V.ref p, w] H2 Q E0
      exact ⟨F2, (a, b, ()), c, s2.fh, ⟨_, _, rfl, o1, _, _, rfl, o2, rfl⟩, e, fun z F' H' s' o => q z F' H' ((s1.trans s2).trans s') o⟩
end
section
variable {X : Cx} {C : Addr} {k : Nat} {sp : Sp} {e fe : Expr} {es : List Expr} {t : TA} {tf te : TE} {p pos : Pos} {ps : List Str}
theorem pe_callM (D : OpD X.prog X.w X.K X.mg X.base C "__call__" k ps sp) (hr : Room k X.A) (hf : PE X fe tf) (ha : PA X (e :: es) t)
    (ht : eval (.Call fe (e :: es) [] pos) X.env = (do callWith pos (← eval fe X.env) [] (backTo pos (starEach (e :: es) X.env)) (backToKw pos (keywordEach [] X.env))) := by rfl)
    (he : starEach (e :: es) X.env = (false, eval e X.env) :: starEach es X.env := by rfl) (hpl : (backTo pos (starEach es X.env)).any (·.1) = false := by rfl) :
    PE X (.Call fe (e :: es) [] pos) (StX.tCallO X C (fun vs H Q E => sp (vs ++ []) H Q E) E0 tf t) := by
  obtain ⟨f, fd, hs, hfn, hk, hb, F⟩ := D
  exact StX.pe_callO hf ⟨hs, hfn, hk⟩ (F.raw hb .nil) hr pass0 ha ht he hpl
end
theorem o_inBL {K : PySem.W.Frag} : Op2 K (rIn K false) rB (rL rB) .r rB inL := o_inLst fl_B vB rfl
theorem o_inBT {K : PySem.W.Frag} : Op2 K (rIn K false) rB (rT rB) .r rB inL := o_inTup fl_B vB rfl
end Y

namespace Y
open L2 (atI ixN)
def m_effect (pattern_1 : (List Nat)) (one_1 : (Int × Int)) : Option (List Nat) :=
  runF ((((some ([48] : List Nat)).bind fun a_2 => ((some pattern_1).bind fun a_1 => (((some one_1).bind fun p_1 => some p_1.1).bind fun i_1 => some (some i_1)).bind fun lo_1 => (((some one_1).bind fun p_2 => some p_2.2).bind fun i_2 => some (some i_2)).bind fun hi_1 => cutO a_1 lo_1 hi_1).bind fun b_1 => inS a_2 b_1).bind fun c_1 => if c_1 = true then some ([115, 101, 116] : List Nat) else some ([99, 108, 101, 97, 114] : List Nat)).bind fun y_1 => some (Fl.ret y_1))
def m_after (pattern_1 : (List Nat)) (one_1 : (Int × Int)) : Option (List Nat) :=
  runF ((((((some pattern_1).bind fun x_2 => ((some one_1).bind fun x_1 => ((some ())).bind fun r_1 => some (x_1, r_1)).bind fun r_2 => some (x_2, r_2)).bind fun g_1 => m_effect g_1.1 g_1.2.1).bind fun a_1 => (some ([115, 101, 116] : List Nat)).bind fun b_1 => eqD a_1 b_1).bind fun c_1 => if c_1 = true then some ([49] : List Nat) else some ([48] : List Nat)).bind fun sign_1 => ((((some pattern_1).bind fun a_2 => (some none).bind fun lo_1 => (((some one_1).bind fun p_1 => some p_1.1).bind fun i_1 => some (some i_1)).bind fun hi_1 => cutO a_2 lo_1 hi_1).bind fun a_5 => ((some sign_1).bind fun a_4 => (((some one_1).bind fun p_2 => some p_2.2).bind fun a_3 => ((some one_1).bind fun p_3 => some p_3.1).bind fun b_2 => subI a_3 b_2).bind fun b_3 => repP a_4 b_3).bind fun b_4 => catP a_5 b_4).bind fun a_7 => ((some pattern_1).bind fun a_6 => (((some one_1).bind fun p_4 => some p_4.2).bind fun i_2 => some (some i_2)).bind fun lo_2 => (some none).bind fun hi_2 => cutO a_6 lo_2 hi_2).bind fun b_5 => catP a_7 b_5).bind fun y_1 => some (Fl.ret y_1))
def m_apply (pattern_1 : (List Nat)) (script_1 : (List (Int × Int))) : Option (List Nat) :=
  runF ((some script_1).bind fun xs_1 => thenF (forL xs_1 pattern_1 (fun x_1 (s_1 : (List Nat)) => (((some s_1).bind fun x_3 => ((some x_1).bind fun x_2 => ((some ())).bind fun r_1 => some (x_2, r_1)).bind fun r_2 => some (x_3, r_2)).bind fun g_1 => m_after g_1.1 g_1.2.1).bind fun pattern_2 => some (Fl.nx pattern_2))) fun (s_1 : (List Nat)) => (some s_1).bind fun y_1 => some (Fl.ret y_1))
def m_effects (pattern_1 : (List Nat)) (script_1 : (List (Int × Int))) : Option (List (List Nat)) :=
  runF (((some ([] : List (List Nat)))).bind fun result_1 => (some script_1).bind fun xs_1 => thenF (forL xs_1 (pattern_1, result_1) (fun x_1 (s_1 : ((List Nat) × (List (List Nat)))) => (((some s_1.1).bind fun x_3 => ((some x_1).bind fun x_2 => ((some ())).bind fun r_1 => some (x_2, r_1)).bind fun r_2 => some (x_3, r_2)).bind fun g_1 => m_effect g_1.1 g_1.2.1).bind fun x_4 => if s_1.2.length < 16777216 then (((some s_1.1).bind fun x_6 => ((some x_1).bind fun x_5 => ((some ())).bind fun r_3 => some (x_5, r_3)).bind fun r_4 => some (x_6, r_4)).bind fun g_2 => m_after g_2.1 g_2.2.1).bind fun pattern_2 => some (Fl.nx (pattern_2, (s_1.2 ++ [x_4]))) else none)) fun (s_1 : ((List Nat) × (List (List Nat)))) => some (Fl.ret s_1.2))
def m__law_cell (script_1 : (List Int)) (index_1 : Int) : Option Int :=
  runF (thenF (((some index_1).bind fun a_1 => ((some (script_1.length : Int))).bind fun b_1 => ltI a_1 b_1).bind fun c_2 => if c_2 = true then ((some index_1).bind fun b_2 => atI script_1 b_2).bind fun y_1 => some (Fl.ret y_1) else some (Fl.nx ())) fun (s_1 : Unit) => thenF ((((some (script_1.length : Int))).bind fun a_2 => (some (0 : Int)).bind fun b_3 => eqD a_2 b_3).bind fun c_1 => if c_1 = true then (((some (7919 : Int)).bind fun a_3 => (some index_1).bind fun b_4 => mulP a_3 b_4).bind fun a_4 => (some (101 : Int)).bind fun b_5 => addI a_4 b_5).bind fun y_2 => some (Fl.ret y_2) else some (Fl.nx ())) fun (s_2 : Unit) => (((((some index_1).bind fun a_5 => ((some (script_1.length : Int))).bind fun b_6 => modP a_5 b_6).bind fun b_7 => atI script_1 b_7).bind fun a_6 => (some (1000003 : Int)).bind fun b_8 => modP a_6 b_8).bind fun a_8 => ((some (7919 : Int)).bind fun a_7 => (some index_1).bind fun b_9 => mulP a_7 b_9).bind fun b_10 => addI a_8 b_10).bind fun y_3 => some (Fl.ret y_3))
def m__law_digits (script_1 : (List Int)) (index_1 : Int) (count_1 : Int) (base_1 : Int) : Option (List Int) :=
  runF (((some (2147483647 : Int)).bind fun x_8 => ((some (2147483629 : Int)).bind fun x_7 => ((some (2147483587 : Int)).bind fun x_6 => ((some (2147483579 : Int)).bind fun x_5 => ((some (2147483563 : Int)).bind fun x_4 => ((some (2147483549 : Int)).bind fun x_3 => ((some (2147483543 : Int)).bind fun x_2 => ((some (2147483497 : Int)).bind fun x_1 => ((some [])).bind fun r_1 => some (x_1 :: r_1)).bind fun r_2 => some (x_2 :: r_2)).bind fun r_3 => some (x_3 :: r_3)).bind fun r_4 => some (x_4 :: r_4)).bind fun r_5 => some (x_5 :: r_5)).bind fun r_6 => some (x_6 :: r_6)).bind fun r_7 => some (x_7 :: r_7)).bind fun r_8 => some (x_8 :: r_8)).bind fun primes_1 => ((((some index_1).bind fun x_9 => ((some ())).bind fun r_9 => some (x_9, r_9)).bind fun r_10 => some (script_1, r_10)).bind fun g_1 => m__law_cell g_1.1 g_1.2.1).bind fun cell_1 => (((some cell_1).bind fun a_2 => ((some (10 : Int)).bind fun a_1 => (some (18 : Int)).bind fun b_1 => powP a_1 b_1).bind fun b_2 => geI a_2 b_2).bind fun c_1 => if c_1 = true then some cell_1 else some (0 : Int)).bind fun rest_1 => ((some ([] : List Int))).bind fun digits_1 => ((some count_1).bind fun n_1 => rng 0 n_1).bind fun xs_1 => thenF (forL xs_1 (rest_1, digits_1) (fun x_10 (s_1 : (Int × (List Int))) => (((some cell_1).bind fun a_5 => ((some primes_1).bind fun a_4 => ((some x_10).bind fun a_3 => (some (8 : Int)).bind fun b_3 => modP a_3 b_3).bind fun b_4 => atI a_4 b_4).bind fun b_5 => modP a_5 b_5).bind fun a_9 => ((some (48271 : Int)).bind fun a_8 => (((some (2 : Int)).bind fun a_6 => (some x_10).bind fun b_6 => mulP a_6 b_6).bind fun a_7 => (some x_10).bind fun b_7 => mulP a_7 b_7).bind fun b_8 => addI a_8 b_8).bind fun b_9 => mulP a_9 b_9).bind fun mixed_1 => (((some mixed_1).bind fun a_14 => (((some (7919 : Int)).bind fun a_11 => ((some x_10).bind fun a_10 => (some (1 : Int)).bind fun b_10 => addI a_10 b_10).bind fun b_11 => mulP a_11 b_11).bind fun a_13 => ((some x_10).bind fun a_12 => (some (1 : Int)).bind fun b_12 => addI a_12 b_12).bind fun b_13 => mulP a_13 b_13).bind fun b_14 => addI a_14 b_14).bind fun a_16 => ((some (104729 : Int)).bind fun a_15 => (some index_1).bind fun b_15 => mulP a_15 b_15).bind fun b_16 => addI a_16 b_16).bind fun mixed_2 => ((some mixed_2).bind fun a_21 => ((some primes_1).bind fun a_20 => ((((some (3 : Int)).bind fun a_17 => (some x_10).bind fun b_17 => mulP a_17 b_17).bind fun a_18 => (some index_1).bind fun b_18 => addI a_18 b_18).bind fun a_19 => (some (8 : Int)).bind fun b_19 => modP a_19 b_19).bind fun b_20 => atI a_20 b_20).bind fun b_21 => modP a_21 b_21).bind fun mixed_3 => ((((some mixed_3).bind fun a_22 => (some mixed_3).bind fun b_22 => mulP a_22 b_22).bind fun a_23 => (some mixed_3).bind fun b_23 => mulP a_23 b_23).bind fun a_27 => ((some primes_1).bind fun a_26 => (((some x_10).bind fun a_24 => (some (5 : Int)).bind fun b_24 => addI a_24 b_24).bind fun a_25 => (some (8 : Int)).bind fun b_25 => modP a_25 b_25).bind fun b_26 => atI a_26 b_26).bind fun b_27 => modP a_27 b_27).bind fun mixed_4 => thenF (((some s_1.1).bind fun a_28 => (some (0 : Int)).bind fun b_28 => gtI a_28 b_28).bind fun c_2 => if c_2 = true then (some s_1.1).bind fun mixed_5 => some (Fl.nx mixed_5) else some (Fl.nx mixed_4)) fun (s_2 : Int) => ((some s_2).bind fun a_29 => (some base_1).bind fun b_29 => modP a_29 b_29).bind fun x_11 => if s_1.2.length < 16777216 then ((some s_1.1).bind fun a_30 => (some base_1).bind fun b_30 => divP a_30 b_30).bind fun rest_2 => some (Fl.nx (rest_2, (s_1.2 ++ [x_11]))) else none)) fun (s_1 : (Int × (List Int))) => some (Fl.ret s_1.2))
def m__law_pattern (digits_1 : (List Int)) (size_1 : Int) : Option (List Nat) :=
  runF ((some ([] : List Nat)).bind fun pattern_1 => ((some digits_1).bind fun a_5 => ((some (2 : Int)).bind fun i_1 => some (some i_1)).bind fun lo_1 => ((((some (2 : Int)).bind fun a_1 => (some (1 : Int)).bind fun b_1 => addI a_1 b_1).bind fun a_4 => (((some digits_1).bind fun a_2 => (some (0 : Int)).bind fun b_2 => atI a_2 b_2).bind fun a_3 => (some size_1).bind fun b_3 => modP a_3 b_3).bind fun b_4 => addI a_4 b_4).bind fun i_2 => some (some i_2)).bind fun hi_1 => cutO a_5 lo_1 hi_1).bind fun xs_1 => thenF (forL xs_1 pattern_1 (fun x_1 (s_1 : (List Nat)) => (((some s_1).bind fun a_6 => (some ([] : List Nat)).bind fun b_5 => neD a_6 b_5).bind fun a_13 => if a_13 = true then (((some x_1).bind fun a_7 => (some (2 : Int)).bind fun b_6 => divP a_7 b_6).bind fun a_11 => (((some (2 : Int)).bind fun x_4 => ((some (3 : Int)).bind fun x_3 => ((some (5 : Int)).bind fun x_2 => ((some [])).bind fun r_1 => some (x_2 :: r_1)).bind fun r_2 => some (x_3 :: r_2)).bind fun r_3 => some (x_4 :: r_3)).bind fun a_10 => (((some digits_1).bind fun a_8 => (some (1 : Int)).bind fun b_7 => atI a_8 b_7).bind fun a_9 => (some (3 : Int)).bind fun b_8 => modP a_9 b_8).bind fun b_9 => atI a_10 b_9).bind fun b_10 => modP a_11 b_10).bind fun a_12 => (some (0 : Int)).bind fun b_11 => gtI a_12 b_11 else some false).bind fun keep_1 => ((some s_1).bind fun a_18 => ((some keep_1).bind fun c_1 => if c_1 = true then (some s_1).bind fun a_15 => ((some (1 : Int)).bind fun a_14 => negI a_14).bind fun b_12 => atS a_15 b_12 else (some ([48, 49] : List Nat)).bind fun a_17 => ((some x_1).bind fun a_16 => (some (2 : Int)).bind fun b_13 => modP a_16 b_13).bind fun b_14 => atS a_17 b_14).bind fun b_15 => catP a_18 b_15).bind fun pattern_2 => some (Fl.nx pattern_2))) fun (s_1 : (List Nat)) => (some s_1).bind fun y_1 => some (Fl.ret y_1))
def m__law_toggle (digits_1 : (List Int)) (length_1 : Int) : Option (Int × Int) :=
  runF ((((some digits_1).bind fun a_1 => (some (0 : Int)).bind fun b_1 => atI a_1 b_1).bind fun a_2 => (some length_1).bind fun b_2 => modP a_2 b_2).bind fun start_1 => ((some start_1).bind fun p_1 => (((some start_1).bind fun a_3 => (some (1 : Int)).bind fun b_3 => addI a_3 b_3).bind fun a_7 => (((some digits_1).bind fun a_4 => (some (1 : Int)).bind fun b_4 => atI a_4 b_4).bind fun a_6 => ((some length_1).bind fun a_5 => (some start_1).bind fun b_5 => subI a_5 b_5).bind fun b_6 => modP a_6 b_6).bind fun b_7 => addI a_7 b_7).bind fun p_2 => some (p_1, p_2)).bind fun y_1 => some (Fl.ret y_1))
def m__law_script (digits_1 : (List Int)) (length_1 : Int) (size_1 : Int) : Option (List (Int × Int)) :=
  runF (((some ([] : List (Int × Int)))).bind fun script_1 => ((((some digits_1).bind fun a_1 => (some (0 : Int)).bind fun b_1 => atI a_1 b_1).bind fun a_3 => ((some size_1).bind fun a_2 => (some (1 : Int)).bind fun b_2 => addI a_2 b_2).bind fun b_3 => modP a_3 b_3).bind fun n_1 => rng 0 n_1).bind fun xs_1 => thenF (forL xs_1 script_1 (fun x_1 (s_1 : (List (Int × Int))) => ((((some digits_1).bind fun a_8 => (((some (1 : Int)).bind fun a_5 => ((some (2 : Int)).bind fun a_4 => (some x_1).bind fun b_4 => mulP a_4 b_4).bind fun b_5 => addI a_5 b_5).bind fun i_1 => some (some i_1)).bind fun lo_1 => (((some (3 : Int)).bind fun a_7 => ((some (2 : Int)).bind fun a_6 => (some x_1).bind fun b_6 => mulP a_6 b_6).bind fun b_7 => addI a_7 b_7).bind fun i_2 => some (some i_2)).bind fun hi_1 => cutO a_8 lo_1 hi_1).bind fun x_3 => ((some length_1).bind fun x_2 => ((some ())).bind fun r_1 => some (x_2, r_1)).bind fun r_2 => some (x_3, r_2)).bind fun g_1 => m__law_toggle g_1.1 g_1.2.1).bind fun one_1 => ((((some s_1).bind fun a_9 => ((some ([] : List (Int × Int)))).bind fun b_8 => neD a_9 b_8).bind fun a_16 => if a_16 = true then ((((some digits_1).bind fun a_12 => ((some (1 : Int)).bind fun a_11 => ((some (2 : Int)).bind fun a_10 => (some x_1).bind fun b_9 => mulP a_10 b_9).bind fun b_10 => addI a_11 b_10).bind fun b_11 => atI a_12 b_11).bind fun a_13 => (some (50 : Int)).bind fun b_12 => divP a_13 b_12).bind fun a_14 => (some (3 : Int)).bind fun b_13 => modP a_14 b_13).bind fun a_15 => (some (0 : Int)).bind fun b_14 => eqD a_15 b_14 else some false).bind fun c_1 => if c_1 = true then (some s_1).bind fun a_18 => ((some (1 : Int)).bind fun a_17 => negI a_17).bind fun b_15 => atI a_18 b_15 else some one_1).bind fun x_4 => if s_1.length < 16777216 then some (Fl.nx (s_1 ++ [x_4])) else none)) fun (s_1 : (List (Int × Int))) => ((some s_1).bind fun a_19 => sameL a_19).bind fun y_1 => some (Fl.ret y_1))
def m__law_toggled (pattern_1 : (List Nat)) (one_1 : (Int × Int)) : Option (List Nat) :=
  runF ((some one_1).bind fun p_1 => (((((some pattern_1).bind fun a_1 => ((some p_1.1).bind fun i_1 => some (some i_1)).bind fun lo_1 => ((some p_1.2).bind fun i_2 => some (some i_2)).bind fun hi_1 => cutO a_1 lo_1 hi_1).bind fun a_3 => (some ([49] : List Nat)).bind fun b_2 => countS a_3 b_2).bind fun a_5 => ((some p_1.2).bind fun a_4 => (some p_1.1).bind fun b_3 => subI a_4 b_3).bind fun b_4 => eqD a_5 b_4).bind fun c_1 => if c_1 = true then some ([48] : List Nat) else some ([49] : List Nat)).bind fun sign_1 => ((((some pattern_1).bind fun a_6 => (some none).bind fun lo_2 => ((some p_1.1).bind fun i_3 => some (some i_3)).bind fun hi_2 => cutO a_6 lo_2 hi_2).bind fun a_9 => ((some sign_1).bind fun a_8 => ((some p_1.2).bind fun a_7 => (some p_1.1).bind fun b_5 => subI a_7 b_5).bind fun b_6 => repP a_8 b_6).bind fun b_7 => catP a_9 b_7).bind fun a_11 => ((some pattern_1).bind fun a_10 => ((some p_1.2).bind fun i_4 => some (some i_4)).bind fun lo_3 => (some none).bind fun hi_3 => cutO a_10 lo_3 hi_3).bind fun b_8 => catP a_11 b_8).bind fun y_1 => some (Fl.ret y_1))
def m_all_patterns (length_1 : Int) : Option (List (List Nat)) :=
  runF (((some ([] : List Nat)).bind fun x_1 => ((some [])).bind fun r_1 => some (x_1 :: r_1)).bind fun patterns_1 => ((some length_1).bind fun n_1 => rng 0 n_1).bind fun xs_2 => thenF (forL xs_2 patterns_1 (fun x_2 (s_1 : (List (List Nat))) => ((some s_1).bind fun xs_1 => (lc2O (fun x_3 => (some ([48, 49] : List Nat)).bind fun a_1 => some (chars a_1)) (fun x_3 y_1 => (some x_3).bind fun a_2 => (some y_1).bind fun b_1 => catP a_2 b_1) xs_1).bind fun r_2 => lenOk r_2).bind fun patterns_2 => some (Fl.nx patterns_2))) fun (s_1 : (List (List Nat))) => (some s_1).bind fun y_2 => some (Fl.ret y_2))
def m_first_difference (length_1 : Int) (first_1 : (List (Int × Int))) (second_1 : (List (Int × Int))) : Option (Option (List Nat)) :=
  runF ((((some length_1).bind fun x_1 => ((some ())).bind fun r_1 => some (x_1, r_1)).bind fun g_1 => m_all_patterns g_1.1).bind fun xs_1 => thenF (forL xs_1 () (fun x_2 (s_1 : Unit) => thenF (((((some x_2).bind fun x_4 => ((some first_1).bind fun x_3 => ((some ())).bind fun r_2 => some (x_3, r_2)).bind fun r_3 => some (x_4, r_3)).bind fun g_2 => m_apply g_2.1 g_2.2.1).bind fun a_1 => (((some x_2).bind fun x_6 => ((some second_1).bind fun x_5 => ((some ())).bind fun r_4 => some (x_5, r_4)).bind fun r_5 => some (x_6, r_5)).bind fun g_3 => m_apply g_3.1 g_3.2.1).bind fun b_1 => neD a_1 b_1).bind fun c_1 => if c_1 = true then ((some x_2).bind fun o_1 => some (some o_1)).bind fun y_1 => some (Fl.ret y_1) else some (Fl.nx ())) fun (s_2 : Unit) => some (Fl.nx ()))) fun (s_1 : Unit) => ((some none)).bind fun y_2 => some (Fl.ret y_2))
def m_equal (length_1 : Int) (first_1 : (List (Int × Int))) (second_1 : (List (Int × Int))) : Option Bool :=
  runF (((((some length_1).bind fun x_3 => ((some first_1).bind fun x_2 => ((some second_1).bind fun x_1 => ((some ())).bind fun r_1 => some (x_1, r_1)).bind fun r_2 => some (x_2, r_2)).bind fun r_3 => some (x_3, r_3)).bind fun g_1 => m_first_difference g_1.1 g_1.2.1 g_1.2.2.1).bind fun a_1 => isN a_1).bind fun y_1 => some (Fl.ret y_1))
def m__law_same_bool (result_1 : Bool) (expected_1 : Bool) : Option Bool :=
  runF ((((some result_1).bind fun _ => some true).bind fun a_3 => if a_3 = true then (some result_1).bind fun a_2 => (some expected_1).bind fun b_1 => eqD a_2 b_1 else some false).bind fun y_1 => some (Fl.ret y_1))
def m__law_after (pattern_1 : (List Nat)) (script_1 : (List (Int × Int))) : Option (List Nat) :=
  runF ((some script_1).bind fun xs_1 => thenF (forL xs_1 pattern_1 (fun x_1 (s_1 : (List Nat)) => (((some s_1).bind fun x_3 => ((some x_1).bind fun x_2 => ((some ())).bind fun r_1 => some (x_2, r_1)).bind fun r_2 => some (x_3, r_2)).bind fun g_1 => m__law_toggled g_1.1 g_1.2.1).bind fun pattern_2 => some (Fl.nx pattern_2))) fun (s_1 : (List Nat)) => (some s_1).bind fun y_1 => some (Fl.ret y_1))
def m__law_patterns (length_1 : Int) : Option (List (List Nat)) :=
  runF (((some ([] : List Nat)).bind fun x_1 => ((some [])).bind fun r_1 => some (x_1 :: r_1)).bind fun patterns_1 => ((some length_1).bind fun n_1 => rng 0 n_1).bind fun xs_2 => thenF (forL xs_2 patterns_1 (fun x_2 (s_1 : (List (List Nat))) => ((some ([] : List (List Nat)))).bind fun longer_1 => (some s_1).bind fun xs_1 => thenF (forL xs_1 longer_1 (fun x_3 (s_2 : (List (List Nat))) => ((some s_2).bind fun a_3 => (((some x_3).bind fun a_1 => (some ([48] : List Nat)).bind fun b_1 => catP a_1 b_1).bind fun x_5 => (((some x_3).bind fun a_2 => (some ([49] : List Nat)).bind fun b_2 => catP a_2 b_2).bind fun x_4 => ((some [])).bind fun r_2 => some (x_4 :: r_2)).bind fun r_3 => some (x_5 :: r_3)).bind fun b_3 => catP a_3 b_3).bind fun longer_2 => some (Fl.nx longer_2))) fun (s_2 : (List (List Nat))) => (some s_2).bind fun patterns_2 => some (Fl.nx patterns_2))) fun (s_1 : (List (List Nat))) => (some s_1).bind fun y_1 => some (Fl.ret y_1))
def m_redundant_steps (length_1 : Int) (script_1 : (List (Int × Int))) : Option (List Int) :=
  runF (((some ([] : List Int))).bind fun result_1 => (((some script_1).bind fun a_1 => lenL a_1).bind fun n_1 => rng 0 n_1).bind fun xs_1 => thenF (forL xs_1 result_1 (fun x_1 (s_1 : (List Int)) => thenF ((((some length_1).bind fun x_4 => ((some script_1).bind fun x_3 => ((((some script_1).bind fun a_2 => (some none).bind fun lo_1 => ((some x_1).bind fun i_1 => some (some i_1)).bind fun hi_1 => cutO a_2 lo_1 hi_1).bind fun a_5 => ((some script_1).bind fun a_4 => (((some x_1).bind fun a_3 => (some (1 : Int)).bind fun b_1 => addI a_3 b_1).bind fun i_2 => some (some i_2)).bind fun lo_2 => (some none).bind fun hi_2 => cutO a_4 lo_2 hi_2).bind fun b_2 => catP a_5 b_2).bind fun x_2 => ((some ())).bind fun r_1 => some (x_2, r_1)).bind fun r_2 => some (x_3, r_2)).bind fun r_3 => some (x_4, r_3)).bind fun g_1 => m_equal g_1.1 g_1.2.1 g_1.2.2.1).bind fun c_1 => if c_1 = true then (some x_1).bind fun x_5 => if s_1.length < 16777216 then some (Fl.nx (s_1 ++ [x_5])) else none else some (Fl.nx s_1)) fun (s_2 : (List Int)) => some (Fl.nx s_2))) fun (s_1 : (List Int)) => some (Fl.ret s_1))
def m__law_results (length_1 : Int) (steps_1 : (List (Int × Int))) : Option (List (List Nat)) :=
  runF (((((some length_1).bind fun x_1 => ((some ())).bind fun r_1 => some (x_1, r_1)).bind fun g_1 => m__law_patterns g_1.1).bind fun xs_1 => mapO (fun x_2 => ((some x_2).bind fun x_4 => ((some steps_1).bind fun x_3 => ((some ())).bind fun r_2 => some (x_3, r_2)).bind fun r_3 => some (x_4, r_3)).bind fun g_2 => m__law_after g_2.1 g_2.2.1) xs_1).bind fun y_1 => some (Fl.ret y_1))
def m_cuts (length_1 : Int) (toggles_1 : (List (Int × Int))) : Option (List Int) :=
  runF (((some (0 : Int)).bind fun x_2 => ((some length_1).bind fun x_1 => ((some [])).bind fun r_1 => some (x_1 :: r_1)).bind fun r_2 => some (x_2 :: r_2)).bind fun found_1 => (some toggles_1).bind fun xs_1 => thenF (forL xs_1 found_1 (fun x_3 (s_1 : (List Int)) => ((some s_1).bind fun a_1 => ((some x_3.1).bind fun x_5 => ((some x_3.2).bind fun x_4 => ((some [])).bind fun r_3 => some (x_4 :: r_3)).bind fun r_4 => some (x_5 :: r_4)).bind fun b_1 => catP a_1 b_1).bind fun found_2 => some (Fl.nx found_2))) fun (s_1 : (List Int)) => ((some s_1).bind fun a_2 => srtSet rI a_2).bind fun y_1 => some (Fl.ret y_1))
def m_blocks (length_1 : Int) (script_1 : (List (Int × Int))) : Option (List (Int × Int)) :=
  runF ((((some length_1).bind fun x_2 => ((some script_1).bind fun x_1 => ((some ())).bind fun r_1 => some (x_1, r_1)).bind fun r_2 => some (x_2, r_2)).bind fun g_1 => m_cuts g_1.1 g_1.2.1).bind fun borders_1 => ((some borders_1).bind fun a_2 => ((some borders_1).bind fun a_1 => ((some (1 : Int)).bind fun i_1 => some (some i_1)).bind fun lo_1 => (some none).bind fun hi_1 => cutO a_1 lo_1 hi_1).bind fun a_3 => some (List.zip a_2 a_3)).bind fun y_1 => some (Fl.ret y_1))
def m_within (parts_1 : (List (Int × Int))) (toggle_1 : (Int × Int)) : Option (List Int) :=
  runF ((((some parts_1).bind fun a_1 => some (enumL a_1)).bind fun xs_1 => filO (fun x_1 => (((some toggle_1).bind fun p_1 => some p_1.1).bind fun a_2 => ((some x_1.2).bind fun p_2 => some p_2.1).bind fun b_1 => leI a_2 b_1).bind fun a_4 => if a_4 = true then ((some x_1.2).bind fun p_3 => some p_3.2).bind fun a_3 => ((some toggle_1).bind fun p_4 => some p_4.2).bind fun b_2 => leI a_3 b_2 else some false) (fun x_1 => some x_1.1) xs_1).bind fun y_1 => some (Fl.ret y_1))
def m_painted (values_1 : (List (Option (List Nat)))) (chosen_1 : (List Int)) (sign_1 : (List Nat)) : Option (List (Option (List Nat))) :=
  runF (((((some values_1).bind fun a_1 => some (enumL a_1)).bind fun xs_1 => mapO (fun x_1 => ((some x_1.1).bind fun a_2 => (some chosen_1).bind fun b_1 => inL a_2 b_1).bind fun c_1 => if c_1 = true then (some sign_1).bind fun o_1 => some (some o_1) else some x_1.2) xs_1).bind fun a_3 => sameL a_3).bind fun y_1 => some (Fl.ret y_1))
def m_stepped (parts_1 : (List (Int × Int))) (path_1 : ((List (List Nat)) × (List (Option (List Nat))) × (List Int) × (List (List Int)))) (toggle_1 : (Int × Int)) : Option (List ((List (List Nat)) × (List (Option (List Nat))) × (List Int) × (List (List Int)))) :=
  runF ((some path_1).bind fun p_1 => (((some parts_1).bind fun x_2 => ((some toggle_1).bind fun x_1 => ((some ())).bind fun r_1 => some (x_1, r_1)).bind fun r_2 => some (x_2, r_2)).bind fun g_1 => m_within g_1.1 g_1.2.1).bind fun chosen_1 => ((some chosen_1).bind fun xs_1 => filO (fun x_3 => (((some p_1.2.1).bind fun a_1 => (some x_3).bind fun b_1 => atI a_1 b_1).bind fun a_2 => isN a_2).bind fun a_4 => if a_4 = true then (some x_3).bind fun a_3 => (some p_1.2.2.1).bind fun b_2 => notInL a_3 b_2 else some false) (fun x_3 => some x_3) xs_1).bind fun here_1 => thenF ((((some chosen_1).bind fun xs_2 => mapO (fun x_4 => ((some p_1.2.1).bind fun a_5 => (some x_4).bind fun b_3 => atI a_5 b_3).bind fun a_6 => ((some ([48] : List Nat)).bind fun o_1 => some (some o_1)).bind fun b_4 => eqD a_6 b_4) xs_2).bind fun a_7 => anyB a_7).bind fun c_3 => if c_3 = true then ((((some p_1.1).bind fun a_8 => ((some ([115, 101, 116] : List Nat)).bind fun x_5 => ((some [])).bind fun r_3 => some (x_5 :: r_3)).bind fun b_5 => catP a_8 b_5).bind fun p_2 => (((some p_1.2.1).bind fun x_8 => ((some chosen_1).bind fun x_7 => ((some ([49] : List Nat)).bind fun x_6 => ((some ())).bind fun r_4 => some (x_6, r_4)).bind fun r_5 => some (x_7, r_5)).bind fun r_6 => some (x_8, r_6)).bind fun g_2 => m_painted g_2.1 g_2.2.1 g_2.2.2.1).bind fun p_3 => (some p_1.2.2.1).bind fun p_4 => (some p_1.2.2.2).bind fun p_5 => some (p_2, p_3, p_4, p_5)).bind fun x_9 => ((some [])).bind fun r_7 => some (x_9 :: r_7)).bind fun y_1 => some (Fl.ret y_1) else some (Fl.nx ())) fun (s_1 : Unit) => ((some ([] : List ((List (List Nat)) × (List (Option (List Nat))) × (List Int) × (List (List Int)))))).bind fun found_1 => ((some p_1.2.2.1).bind fun a_10 => ((some here_1).bind fun a_9 => sameL a_9).bind fun b_6 => catP a_10 b_6).bind fun more_1 => thenF ((((some p_1.2.2.2).bind fun xs_4 => mapO (fun x_10 => ((some x_10).bind fun xs_3 => mapO (fun x_11 => (some x_11).bind fun a_11 => (some more_1).bind fun b_7 => notInL a_11 b_7) xs_3).bind fun a_12 => anyB a_12) xs_4).bind fun a_13 => allB a_13).bind fun c_2 => if c_2 = true then (((some p_1.1).bind fun a_14 => ((some ([99, 108, 101, 97, 114] : List Nat)).bind fun x_12 => ((some [])).bind fun r_8 => some (x_12 :: r_8)).bind fun b_8 => catP a_14 b_8).bind fun p_6 => (((some p_1.2.1).bind fun x_15 => ((some chosen_1).bind fun x_14 => ((some ([48] : List Nat)).bind fun x_13 => ((some ())).bind fun r_9 => some (x_13, r_9)).bind fun r_10 => some (x_14, r_10)).bind fun r_11 => some (x_15, r_11)).bind fun g_3 => m_painted g_3.1 g_3.2.1 g_3.2.2.1).bind fun p_7 => (some more_1).bind fun p_8 => (some p_1.2.2.2).bind fun p_9 => some (p_6, p_7, p_8, p_9)).bind fun x_16 => if found_1.length < 16777216 then some (Fl.nx (found_1 ++ [x_16])) else none else some (Fl.nx found_1)) fun (s_2 : (List ((List (List Nat)) × (List (Option (List Nat))) × (List Int) × (List (List Int))))) => thenF (((some here_1).bind fun a_15 => ((some ([] : List Int))).bind fun b_9 => neD a_15 b_9).bind fun c_1 => if c_1 = true then (((some p_1.1).bind fun a_16 => ((some ([115, 101, 116] : List Nat)).bind fun x_17 => ((some [])).bind fun r_12 => some (x_17 :: r_12)).bind fun b_10 => catP a_16 b_10).bind fun p_10 => (((some p_1.2.1).bind fun x_20 => ((some chosen_1).bind fun x_19 => ((some ([49] : List Nat)).bind fun x_18 => ((some ())).bind fun r_13 => some (x_18, r_13)).bind fun r_14 => some (x_19, r_14)).bind fun r_15 => some (x_20, r_15)).bind fun g_4 => m_painted g_4.1 g_4.2.1 g_4.2.2.1).bind fun p_11 => (some p_1.2.2.1).bind fun p_12 => ((some p_1.2.2.2).bind fun a_18 => (((some here_1).bind fun a_17 => sameL a_17).bind fun x_21 => ((some [])).bind fun r_16 => some (x_21 :: r_16)).bind fun b_11 => catP a_18 b_11).bind fun p_13 => some (p_10, p_11, p_12, p_13)).bind fun x_22 => if s_2.length < 16777216 then some (Fl.nx (s_2 ++ [x_22])) else none else some (Fl.nx s_2)) fun (s_3 : (List ((List (List Nat)) × (List (Option (List Nat))) × (List Int) × (List (List Int))))) => some (Fl.ret s_3))
def m_paths_from (parts_1 : (List (Int × Int))) (paths_1 : (List ((List (List Nat)) × (List (Option (List Nat))) × (List Int) × (List (List Int))))) (script_1 : (List (Int × Int))) : Option (List ((List (List Nat)) × (List (Option (List Nat))) × (List Int) × (List (List Int)))) :=
  runF ((some script_1).bind fun xs_2 => thenF (forL xs_2 paths_1 (fun x_1 (s_1 : (List ((List (List Nat)) × (List (Option (List Nat))) × (List Int) × (List (List Int))))) => ((some ([] : List ((List (List Nat)) × (List (Option (List Nat))) × (List Int) × (List (List Int)))))).bind fun later_1 => (some s_1).bind fun xs_1 => thenF (forL xs_1 later_1 (fun x_2 (s_2 : (List ((List (List Nat)) × (List (Option (List Nat))) × (List Int) × (List (List Int))))) => ((some s_2).bind fun a_1 => (((some parts_1).bind fun x_5 => ((some x_2).bind fun x_4 => ((some x_1).bind fun x_3 => ((some ())).bind fun r_1 => some (x_3, r_1)).bind fun r_2 => some (x_4, r_2)).bind fun r_3 => some (x_5, r_3)).bind fun g_1 => m_stepped g_1.1 g_1.2.1 g_1.2.2.1).bind fun b_1 => catP a_1 b_1).bind fun later_2 => some (Fl.nx later_2))) fun (s_2 : (List ((List (List Nat)) × (List (Option (List Nat))) × (List Int) × (List (List Int))))) => (some s_2).bind fun paths_2 => some (Fl.nx paths_2))) fun (s_1 : (List ((List (List Nat)) × (List (Option (List Nat))) × (List Int) × (List (List Int))))) => (some s_1).bind fun y_1 => some (Fl.ret y_1))
def m_all_paths (parts_1 : (List (Int × Int))) (script_1 : (List (Int × Int))) : Option (List ((List (List Nat)) × (List (Option (List Nat))) × (List Int) × (List (List Int)))) :=
  runF ((((some parts_1).bind fun x_5 => (((((some ([] : List (List Nat)))).bind fun p_1 => ((((some none)).bind fun x_2 => ((some [])).bind fun r_2 => some (x_2 :: r_2)).bind fun a_2 => ((some parts_1).bind fun a_1 => lenL a_1).bind fun b_1 => repT a_2 b_1).bind fun p_2 => ((some ([] : List Int))).bind fun p_3 => ((some ([] : List (List Int)))).bind fun p_4 => some (p_1, p_2, p_3, p_4)).bind fun x_3 => ((some [])).bind fun r_3 => some (x_3 :: r_3)).bind fun x_4 => ((some script_1).bind fun x_1 => ((some ())).bind fun r_1 => some (x_1, r_1)).bind fun r_4 => some (x_4, r_4)).bind fun r_5 => some (x_5, r_5)).bind fun g_1 => m_paths_from g_1.1 g_1.2.1 g_1.2.2.1).bind fun y_1 => some (Fl.ret y_1))
def m_effect_rows (length_1 : Int) (script_1 : (List (Int × Int))) : Option (List (List (List Nat))) :=
  runF ((((((((some length_1).bind fun x_3 => ((some script_1).bind fun x_2 => ((some ())).bind fun r_2 => some (x_2, r_2)).bind fun r_3 => some (x_3, r_3)).bind fun g_1 => m_blocks g_1.1 g_1.2.1).bind fun x_4 => ((some script_1).bind fun x_1 => ((some ())).bind fun r_1 => some (x_1, r_1)).bind fun r_4 => some (x_4, r_4)).bind fun g_2 => m_all_paths g_2.1 g_2.2.1).bind fun xs_1 => mapO (fun x_5 => (some x_5).bind fun p_1 => some p_1.1) xs_1).bind fun a_2 => srtT rS a_2).bind fun y_1 => some (Fl.ret y_1))
def m_least_pattern (parts_1 : (List (Int × Int))) (bold_1 : (List Int)) : Option (List Nat) :=
  runF (((some ([] : List Nat)).bind fun a_5 => (((some parts_1).bind fun a_1 => some (enumL a_1)).bind fun xs_1 => mapO (fun x_1 => (((some x_1.1).bind fun a_2 => (some bold_1).bind fun b_1 => inL a_2 b_1).bind fun c_1 => if c_1 = true then some ([49] : List Nat) else some ([48] : List Nat)).bind fun a_4 => (((some x_1.2).bind fun p_1 => some p_1.2).bind fun a_3 => ((some x_1.2).bind fun p_2 => some p_2.1).bind fun b_2 => subI a_3 b_2).bind fun b_3 => repP a_4 b_3) xs_1).bind fun b_4 => joinE a_5 b_4).bind fun y_1 => some (Fl.ret y_1))
def m_first_with (length_1 : Int) (script_1 : (List (Int × Int))) (row_1 : (List (List Nat))) : Option (Option (List Nat)) :=
  runF ((((some length_1).bind fun x_2 => ((some script_1).bind fun x_1 => ((some ())).bind fun r_1 => some (x_1, r_1)).bind fun r_2 => some (x_2, r_2)).bind fun g_1 => m_blocks g_1.1 g_1.2.1).bind fun parts_1 => (((some parts_1).bind fun x_4 => ((some script_1).bind fun x_3 => ((some ())).bind fun r_3 => some (x_3, r_3)).bind fun r_4 => some (x_4, r_4)).bind fun g_2 => m_all_paths g_2.1 g_2.2.1).bind fun xs_1 => thenF (forL xs_1 () (fun x_5 (s_1 : Unit) => thenF ((((some x_5).bind fun p_1 => some p_1.1).bind fun a_1 => (some row_1).bind fun b_1 => eqD a_1 b_1).bind fun c_1 => if c_1 = true then ((((some parts_1).bind fun x_7 => (((some x_5).bind fun p_2 => some p_2.2.2.1).bind fun x_6 => ((some ())).bind fun r_5 => some (x_6, r_5)).bind fun r_6 => some (x_7, r_6)).bind fun g_3 => m_least_pattern g_3.1 g_3.2.1).bind fun o_1 => some (some o_1)).bind fun y_1 => some (Fl.ret y_1) else some (Fl.nx ())) fun (s_2 : Unit) => some (Fl.nx ()))) fun (s_1 : Unit) => ((some none)).bind fun y_2 => some (Fl.ret y_2))
def m_doubled (times_1 : Int) : Option Int :=
  runF ((some (1 : Int)).bind fun found_1 => ((some times_1).bind fun n_1 => rng 0 n_1).bind fun xs_1 => thenF (forL xs_1 found_1 (fun x_1 (s_1 : Int) => ((some s_1).bind fun a_1 => (some (2 : Int)).bind fun b_1 => mulP a_1 b_1).bind fun found_2 => some (Fl.nx found_2))) fun (s_1 : Int) => (some s_1).bind fun y_1 => some (Fl.ret y_1))
def m_count_of (parts_1 : (List (Int × Int))) (path_1 : ((List (List Nat)) × (List (Option (List Nat))) × (List Int) × (List (List Int)))) : Option Int :=
  runF ((some path_1).bind fun p_1 => (((some (1 : Int)).bind fun p_2 => ((some ([] : List Int))).bind fun p_3 => some (p_2, p_3)).bind fun x_1 => ((some [])).bind fun r_1 => some (x_1 :: r_1)).bind fun unions_1 => (some p_1.2.2.2).bind fun xs_4 => thenF (forL xs_4 unions_1 (fun x_2 (s_1 : (List (Int × (List Int)))) => ((some s_1).bind fun a_3 => ((some s_1).bind fun xs_1 => mapO (fun x_3 => ((some (0 : Int)).bind fun a_1 => (some x_3.1).bind fun b_1 => subI a_1 b_1).bind fun p_4 => ((some x_3.2).bind fun a_2 => (some x_2).bind fun b_2 => catP a_2 b_2).bind fun p_5 => some (p_4, p_5)) xs_1).bind fun b_3 => catP a_3 b_3).bind fun unions_2 => some (Fl.nx unions_2))) fun (s_1 : (List (Int × (List Int)))) => (some (0 : Int)).bind fun total_1 => (some s_1).bind fun xs_3 => thenF (forL xs_3 total_1 (fun x_4 (s_2 : Int) => (some (0 : Int)).bind fun free_1 => ((some parts_1).bind fun a_4 => some (enumL a_4)).bind fun xs_2 => thenF (forL xs_2 free_1 (fun x_5 (s_3 : Int) => thenF ((((some x_5.1).bind fun a_5 => (some p_1.2.2.1).bind fun b_4 => notInL a_5 b_4).bind fun a_7 => if a_7 = true then (some x_5.1).bind fun a_6 => (some x_4.2).bind fun b_5 => notInL a_6 b_5 else some false).bind fun c_1 => if c_1 = true then (((some s_3).bind fun a_8 => ((some x_5.2).bind fun p_6 => some p_6.2).bind fun b_6 => addI a_8 b_6).bind fun a_9 => ((some x_5.2).bind fun p_7 => some p_7.1).bind fun b_7 => subI a_9 b_7).bind fun free_2 => some (Fl.nx free_2) else some (Fl.nx s_3)) fun (s_4 : Int) => some (Fl.nx s_4))) fun (s_3 : Int) => ((some s_2).bind fun a_11 => ((some x_4.1).bind fun a_10 => (((some s_3).bind fun x_6 => ((some ())).bind fun r_2 => some (x_6, r_2)).bind fun g_1 => m_doubled g_1.1).bind fun b_8 => mulP a_10 b_8).bind fun b_9 => addI a_11 b_9).bind fun total_2 => some (Fl.nx total_2))) fun (s_2 : Int) => (some s_2).bind fun y_1 => some (Fl.ret y_1))
def m_count_with (length_1 : Int) (script_1 : (List (Int × Int))) (row_1 : (List (List Nat))) : Option Int :=
  runF ((((some length_1).bind fun x_2 => ((some script_1).bind fun x_1 => ((some ())).bind fun r_1 => some (x_1, r_1)).bind fun r_2 => some (x_2, r_2)).bind fun g_1 => m_blocks g_1.1 g_1.2.1).bind fun parts_1 => (((((some parts_1).bind fun x_4 => ((some script_1).bind fun x_3 => ((some ())).bind fun r_3 => some (x_3, r_3)).bind fun r_4 => some (x_4, r_4)).bind fun g_2 => m_all_paths g_2.1 g_2.2.1).bind fun xs_1 => filO (fun x_5 => ((some x_5).bind fun p_1 => some p_1.1).bind fun a_1 => (some row_1).bind fun b_1 => eqD a_1 b_1) (fun x_5 => ((some parts_1).bind fun x_7 => ((some x_5).bind fun x_6 => ((some ())).bind fun r_5 => some (x_6, r_5)).bind fun r_6 => some (x_7, r_6)).bind fun g_3 => m_count_of g_3.1 g_3.2.1) xs_1).bind fun a_2 => sumI a_2).bind fun y_1 => some (Fl.ret y_1))
def m_kinds_of_effects (length_1 : Int) (script_1 : (List (Int × Int))) : Option (List (List Nat)) :=
  runF ((((some length_1).bind fun x_2 => ((some script_1).bind fun x_1 => ((some ())).bind fun r_1 => some (x_1, r_1)).bind fun r_2 => some (x_2, r_2)).bind fun g_1 => m_effect_rows g_1.1 g_1.2.1).bind fun rows_1 => ((some ([] : List (List Nat)))).bind fun found_1 => (((some script_1).bind fun a_1 => lenL a_1).bind fun n_1 => rng 0 n_1).bind fun xs_2 => thenF (forL xs_2 found_1 (fun x_3 (s_1 : (List (List Nat))) => (((some rows_1).bind fun xs_1 => mapO (fun x_4 => (some x_4).bind fun a_2 => (some x_3).bind fun b_1 => atI a_2 b_1) xs_1).bind fun a_3 => srtSet rS a_3).bind fun kinds_1 => ((((some kinds_1).bind fun a_4 => lenL a_4).bind fun a_5 => (some (1 : Int)).bind fun b_2 => eqD a_5 b_2).bind fun c_1 => if c_1 = true then (some kinds_1).bind fun a_6 => (some (0 : Int)).bind fun b_3 => atI a_6 b_3 else some ([98, 111, 116, 104] : List Nat)).bind fun x_5 => if s_1.length < 16777216 then some (Fl.nx (s_1 ++ [x_5])) else none)) fun (s_1 : (List (List Nat))) => some (Fl.ret s_1))
def m_outcome_of (parts_1 : (List (Int × Int))) (values_1 : (List (Option (List Nat)))) : Option (List Nat) :=
  runF ((some ([] : List Nat)).bind fun found_1 => ((some parts_1).bind fun a_1 => (some values_1).bind fun a_2 => some (List.zip a_1 a_2)).bind fun xs_1 => thenF (forL xs_1 found_1 (fun x_1 (s_1 : (List Nat)) => ((some s_1).bind fun a_6 => ((((some x_1.2).bind fun a_3 => isN a_3).bind fun c_1 => if c_1 = true then some ([63] : List Nat) else (some x_1.2).bind fun o_1 => o_1).bind fun a_5 => (((some x_1.1).bind fun p_1 => some p_1.2).bind fun a_4 => ((some x_1.1).bind fun p_2 => some p_2.1).bind fun b_1 => subI a_4 b_1).bind fun b_2 => repP a_5 b_2).bind fun b_3 => catP a_6 b_3).bind fun found_2 => some (Fl.nx found_2))) fun (s_1 : (List Nat)) => (some s_1).bind fun y_1 => some (Fl.ret y_1))
def m_outcomes (length_1 : Int) (script_1 : (List (Int × Int))) : Option (List (List Nat)) :=
  runF ((((some length_1).bind fun x_2 => ((some script_1).bind fun x_1 => ((some ())).bind fun r_1 => some (x_1, r_1)).bind fun r_2 => some (x_2, r_2)).bind fun g_1 => m_blocks g_1.1 g_1.2.1).bind fun parts_1 => (((((some parts_1).bind fun x_4 => ((some script_1).bind fun x_3 => ((some ())).bind fun r_3 => some (x_3, r_3)).bind fun r_4 => some (x_4, r_4)).bind fun g_2 => m_all_paths g_2.1 g_2.2.1).bind fun xs_1 => mapO (fun x_5 => ((some parts_1).bind fun x_7 => (((some x_5).bind fun p_1 => some p_1.2.1).bind fun x_6 => ((some ())).bind fun r_5 => some (x_6, r_5)).bind fun r_6 => some (x_7, r_6)).bind fun g_3 => m_outcome_of g_3.1 g_3.2.1) xs_1).bind fun a_1 => srtSet rS a_1).bind fun y_1 => some (Fl.ret y_1))
def m_count_results (length_1 : Int) (script_1 : (List (Int × Int))) : Option Int :=
  runF ((((some length_1).bind fun x_2 => ((some script_1).bind fun x_1 => ((some ())).bind fun r_1 => some (x_1, r_1)).bind fun r_2 => some (x_2, r_2)).bind fun g_1 => m_outcomes g_1.1 g_1.2.1).bind fun every_1 => (((some every_1).bind fun a_1 => lenL a_1).bind fun a_5 => (((((some every_1).bind fun a_2 => (some (0 : Int)).bind fun b_1 => atI a_2 b_1).bind fun a_4 => (some ([63] : List Nat)).bind fun b_3 => countS a_4 b_3).bind fun x_3 => ((some ())).bind fun r_3 => some (x_3, r_3)).bind fun g_2 => m_doubled g_2.1).bind fun b_4 => mulP a_5 b_4).bind fun y_1 => some (Fl.ret y_1))
def m_count_sources (length_1 : Int) (script_1 : (List (Int × Int))) (outcome_1 : (List Nat)) : Option Int :=
  runF ((((some length_1).bind fun x_2 => ((some script_1).bind fun x_1 => ((some ())).bind fun r_1 => some (x_1, r_1)).bind fun r_2 => some (x_2, r_2)).bind fun g_1 => m_blocks g_1.1 g_1.2.1).bind fun parts_1 => (some (0 : Int)).bind fun total_1 => (((some parts_1).bind fun x_4 => ((some script_1).bind fun x_3 => ((some ())).bind fun r_3 => some (x_3, r_3)).bind fun r_4 => some (x_4, r_4)).bind fun g_2 => m_all_paths g_2.1 g_2.2.1).bind fun xs_1 => thenF (forL xs_1 total_1 (fun x_5 (s_1 : Int) => thenF (((((some parts_1).bind fun x_7 => (((some x_5).bind fun p_1 => some p_1.2.1).bind fun x_6 => ((some ())).bind fun r_5 => some (x_6, r_5)).bind fun r_6 => some (x_7, r_6)).bind fun g_3 => m_outcome_of g_3.1 g_3.2.1).bind fun a_1 => (some outcome_1).bind fun b_1 => eqD a_1 b_1).bind fun c_1 => if c_1 = true then ((some s_1).bind fun a_2 => (((some parts_1).bind fun x_9 => ((some x_5).bind fun x_8 => ((some ())).bind fun r_7 => some (x_8, r_7)).bind fun r_8 => some (x_9, r_8)).bind fun g_4 => m_count_of g_4.1 g_4.2.1).bind fun b_2 => addI a_2 b_2).bind fun total_2 => some (Fl.nx total_2) else some (Fl.nx s_1)) fun (s_2 : Int) => some (Fl.nx s_2))) fun (s_1 : Int) => (some s_1).bind fun y_1 => some (Fl.ret y_1))
def m__law_power (number_1 : Int) : Option Int :=
  runF ((some (1 : Int)).bind fun found_1 => ((some number_1).bind fun n_1 => rng 0 n_1).bind fun xs_1 => thenF (forL xs_1 found_1 (fun x_1 (s_1 : Int) => ((some s_1).bind fun a_1 => (some (2 : Int)).bind fun b_1 => mulP a_1 b_1).bind fun found_2 => some (Fl.nx found_2))) fun (s_1 : Int) => (some s_1).bind fun y_1 => some (Fl.ret y_1))
def m_with_bold (parts_1 : (List (Int × Int))) (pattern_1 : (List Nat)) (index_1 : Int) (many_1 : Int) : Option (List Nat) :=
  runF ((((some parts_1).bind fun a_1 => (some index_1).bind fun b_1 => atI a_1 b_1).bind fun p_1 => some p_1.2).bind fun end_1 => ((((some pattern_1).bind fun a_3 => (some none).bind fun lo_1 => (((some end_1).bind fun a_2 => (some many_1).bind fun b_2 => subI a_2 b_2).bind fun i_1 => some (some i_1)).bind fun hi_1 => cutO a_3 lo_1 hi_1).bind fun a_5 => ((some ([49] : List Nat)).bind fun a_4 => (some many_1).bind fun b_3 => repP a_4 b_3).bind fun b_4 => catP a_5 b_4).bind fun a_7 => ((some pattern_1).bind fun a_6 => ((some end_1).bind fun i_2 => some (some i_2)).bind fun lo_2 => (some none).bind fun hi_2 => cutO a_6 lo_2 hi_2).bind fun b_5 => catP a_7 b_5).bind fun y_1 => some (Fl.ret y_1))
def m_parting_of (parts_1 : (List (Int × Int))) (one_1 : (List (Option (List Nat)))) (other_1 : (List (Option (List Nat)))) (path_1 : ((List (List Nat)) × (List (Option (List Nat))) × (List Int) × (List (List Int)))) : Option (Option (List Nat)) :=
  runF ((some path_1).bind fun p_1 => (((some parts_1).bind fun x_2 => ((some p_1.2.2.1).bind fun x_1 => ((some ())).bind fun r_1 => some (x_1, r_1)).bind fun r_2 => some (x_2, r_2)).bind fun g_1 => m_least_pattern g_1.1 g_1.2.1).bind fun base_1 => ((some ([] : List (List Nat)))).bind fun found_1 => ((some parts_1).bind fun a_1 => some (enumL a_1)).bind fun xs_3 => thenF (forL xs_3 found_1 (fun x_3 (s_1 : (List (List Nat))) => thenF ((((some one_1).bind fun a_2 => (some x_3.1).bind fun b_1 => atI a_2 b_1).bind fun a_4 => ((some other_1).bind fun a_3 => (some x_3.1).bind fun b_2 => atI a_3 b_2).bind fun b_3 => neD a_4 b_3).bind fun c_8 => if c_8 = true then thenF (((((some one_1).bind fun a_5 => (some x_3.1).bind fun b_4 => atI a_5 b_4).bind fun a_6 => notN a_6).bind fun a_9 => if a_9 = true then ((some other_1).bind fun a_7 => (some x_3.1).bind fun b_5 => atI a_7 b_5).bind fun a_8 => notN a_8 else some false).bind fun c_7 => if c_7 = true then ((some base_1).bind fun o_1 => some (some o_1)).bind fun y_1 => some (Fl.ret y_1) else some (Fl.nx ())) fun (s_3 : Unit) => ((((some one_1).bind fun a_10 => (some x_3.1).bind fun b_6 => atI a_10 b_6).bind fun a_11 => isN a_11).bind fun c_1 => if c_1 = true then ((some other_1).bind fun a_12 => (some x_3.1).bind fun b_7 => atI a_12 b_7).bind fun o_2 => o_2 else ((some one_1).bind fun a_13 => (some x_3.1).bind fun b_8 => atI a_13 b_8).bind fun o_3 => o_3).bind fun sign_1 => thenF (((some sign_1).bind fun a_15 => (((some x_3.1).bind fun a_14 => (some p_1.2.2.1).bind fun b_9 => inL a_14 b_9).bind fun c_2 => if c_2 = true then some ([49] : List Nat) else some ([48] : List Nat)).bind fun b_10 => neD a_15 b_10).bind fun c_6 => if c_6 = true then ((some base_1).bind fun o_4 => some (some o_4)).bind fun y_2 => some (Fl.ret y_2) else some (Fl.nx ())) fun (s_4 : Unit) => thenF ((((some x_3.1).bind fun a_16 => (some p_1.2.2.1).bind fun b_11 => notInL a_16 b_11).bind fun a_19 => if a_19 = true then (((some x_3.2).bind fun p_2 => some p_2.2).bind fun a_17 => ((some x_3.2).bind fun p_3 => some p_3.1).bind fun b_12 => subI a_17 b_12).bind fun a_18 => (some (1 : Int)).bind fun b_13 => gtI a_18 b_13 else some false).bind fun c_5 => if c_5 = true then (((some parts_1).bind fun x_7 => ((some base_1).bind fun x_6 => ((some x_3.1).bind fun x_5 => ((some (1 : Int)).bind fun x_4 => ((some ())).bind fun r_3 => some (x_4, r_3)).bind fun r_4 => some (x_5, r_4)).bind fun r_5 => some (x_6, r_5)).bind fun r_6 => some (x_7, r_6)).bind fun g_2 => m_with_bold g_2.1 g_2.2.1 g_2.2.2.1 g_2.2.2.2.1).bind fun x_8 => if s_1.length < 16777216 then some (Fl.nx (s_1 ++ [x_8])) else none else thenF (((some x_3.1).bind fun a_20 => (some p_1.2.2.1).bind fun b_14 => notInL a_20 b_14).bind fun c_4 => if c_4 = true then thenF ((((some p_1.2.2.2).bind fun xs_2 => mapO (fun x_9 => ((some x_9).bind fun xs_1 => mapO (fun x_10 => ((some x_10).bind fun a_21 => (some p_1.2.2.1).bind fun b_15 => notInL a_21 b_15).bind fun a_23 => if a_23 = true then (some x_10).bind fun a_22 => (some x_3.1).bind fun b_16 => neD a_22 b_16 else some false) xs_1).bind fun a_24 => anyB a_24) xs_2).bind fun a_25 => allB a_25).bind fun c_3 => if c_3 = true then (((some parts_1).bind fun x_14 => ((some base_1).bind fun x_13 => ((some x_3.1).bind fun x_12 => ((some (1 : Int)).bind fun x_11 => ((some ())).bind fun r_7 => some (x_11, r_7)).bind fun r_8 => some (x_12, r_8)).bind fun r_9 => some (x_13, r_9)).bind fun r_10 => some (x_14, r_10)).bind fun g_3 => m_with_bold g_3.1 g_3.2.1 g_3.2.2.1 g_3.2.2.2.1).bind fun x_15 => if s_1.length < 16777216 then some (Fl.nx (s_1 ++ [x_15])) else none else some (Fl.nx s_1)) fun (s_7 : (List (List Nat))) => some (Fl.nx s_7) else some (Fl.nx s_1)) fun (s_6 : (List (List Nat))) => some (Fl.nx s_6)) fun (s_5 : (List (List Nat))) => some (Fl.nx s_5) else some (Fl.nx s_1)) fun (s_2 : (List (List Nat))) => some (Fl.nx s_2))) fun (s_1 : (List (List Nat))) => (((some s_1).bind fun a_26 => ((some ([] : List (List Nat)))).bind fun b_17 => neD a_26 b_17).bind fun c_9 => if c_9 = true then ((some s_1).bind fun a_27 => minS a_27).bind fun o_5 => some (some o_5) else (some none)).bind fun y_3 => some (Fl.ret y_3))
def m_first_parting (length_1 : Int) (first_1 : (List (Int × Int))) (second_1 : (List (Int × Int))) : Option (Option (List Nat)) :=
  runF ((((some length_1).bind fun x_2 => (((some first_1).bind fun a_1 => (some second_1).bind fun b_1 => catP a_1 b_1).bind fun x_1 => ((some ())).bind fun r_1 => some (x_1, r_1)).bind fun r_2 => some (x_2, r_2)).bind fun g_1 => m_blocks g_1.1 g_1.2.1).bind fun parts_1 => ((some ([] : List (List Nat)))).bind fun found_1 => (((some parts_1).bind fun x_4 => ((some first_1).bind fun x_3 => ((some ())).bind fun r_3 => some (x_3, r_3)).bind fun r_4 => some (x_4, r_4)).bind fun g_2 => m_all_paths g_2.1 g_2.2.1).bind fun xs_2 => thenF (forL xs_2 found_1 (fun x_5 (s_1 : (List (List Nat))) => (((some ([] : List (List Nat)))).bind fun p_3 => ((((some none)).bind fun x_6 => ((some [])).bind fun r_5 => some (x_6 :: r_5)).bind fun a_3 => ((some parts_1).bind fun a_2 => lenL a_2).bind fun b_2 => repT a_3 b_2).bind fun p_4 => ((some x_5).bind fun p_1 => some p_1.2.2.1).bind fun p_5 => ((some x_5).bind fun p_2 => some p_2.2.2.2).bind fun p_6 => some (p_3, p_4, p_5, p_6)).bind fun begun_1 => (((some parts_1).bind fun x_10 => (((some begun_1).bind fun x_8 => ((some [])).bind fun r_7 => some (x_8 :: r_7)).bind fun x_9 => ((some second_1).bind fun x_7 => ((some ())).bind fun r_6 => some (x_7, r_6)).bind fun r_8 => some (x_9, r_8)).bind fun r_9 => some (x_10, r_9)).bind fun g_3 => m_paths_from g_3.1 g_3.2.1 g_3.2.2.1).bind fun xs_1 => thenF (forL xs_1 s_1 (fun x_11 (s_2 : (List (List Nat))) => (((some parts_1).bind fun x_15 => (((some x_5).bind fun p_8 => some p_8.2.1).bind fun x_14 => (((some x_11).bind fun p_7 => some p_7.2.1).bind fun x_13 => ((some x_11).bind fun x_12 => ((some ())).bind fun r_10 => some (x_12, r_10)).bind fun r_11 => some (x_13, r_11)).bind fun r_12 => some (x_14, r_12)).bind fun r_13 => some (x_15, r_13)).bind fun g_4 => m_parting_of g_4.1 g_4.2.1 g_4.2.2.1 g_4.2.2.2.1).bind fun pattern_1 => thenF (((some pattern_1).bind fun a_4 => notN a_4).bind fun c_1 => if c_1 = true then ((some pattern_1).bind fun o_1 => o_1).bind fun x_16 => if s_2.length < 16777216 then some (Fl.nx (s_2 ++ [x_16])) else none else some (Fl.nx s_2)) fun (s_3 : (List (List Nat))) => some (Fl.nx s_3))) fun (s_2 : (List (List Nat))) => some (Fl.nx s_2))) fun (s_1 : (List (List Nat))) => (((some s_1).bind fun a_5 => ((some ([] : List (List Nat)))).bind fun b_3 => neD a_5 b_3).bind fun c_2 => if c_2 = true then ((some s_1).bind fun a_6 => minS a_6).bind fun o_2 => some (some o_2) else (some none)).bind fun y_1 => some (Fl.ret y_1))
def m_needless (length_1 : Int) (script_1 : (List (Int × Int))) : Option (List Int) :=
  runF (((some ([] : List Int))).bind fun found_1 => (((some script_1).bind fun a_1 => lenL a_1).bind fun n_1 => rng 0 n_1).bind fun xs_1 => thenF (forL xs_1 found_1 (fun x_1 (s_1 : (List Int)) => thenF (((((some length_1).bind fun x_4 => ((some script_1).bind fun x_3 => ((((some script_1).bind fun a_2 => (some none).bind fun lo_1 => ((some x_1).bind fun i_1 => some (some i_1)).bind fun hi_1 => cutO a_2 lo_1 hi_1).bind fun a_5 => ((some script_1).bind fun a_4 => (((some x_1).bind fun a_3 => (some (1 : Int)).bind fun b_1 => addI a_3 b_1).bind fun i_2 => some (some i_2)).bind fun lo_2 => (some none).bind fun hi_2 => cutO a_4 lo_2 hi_2).bind fun b_2 => catP a_5 b_2).bind fun x_2 => ((some ())).bind fun r_1 => some (x_2, r_1)).bind fun r_2 => some (x_3, r_2)).bind fun r_3 => some (x_4, r_3)).bind fun g_1 => m_first_parting g_1.1 g_1.2.1 g_1.2.2.1).bind fun a_6 => isN a_6).bind fun c_1 => if c_1 = true then (some x_1).bind fun x_5 => if s_1.length < 16777216 then some (Fl.nx (s_1 ++ [x_5])) else none else some (Fl.nx s_1)) fun (s_2 : (List Int)) => some (Fl.nx s_2))) fun (s_1 : (List Int)) => some (Fl.ret s_1))
def m_Macro__eq__ (self_1 : (Int × List (Int × Int))) (other_1 : (Int × List (Int × Int))) : Option Bool :=
  runF (thenF (((((some other_1).bind fun _ => some true).bind fun a_1 => some (!a_1)).bind fun a_3 => if a_3 = true then some true else ((some self_1).bind fun x_1 => some x_1.1).bind fun a_2 => ((some other_1).bind fun x_2 => some x_2.1).bind fun b_1 => neD a_2 b_1).bind fun c_1 => if c_1 = true then (some false).bind fun y_1 => some (Fl.ret y_1) else some (Fl.nx ())) fun (s_1 : Unit) => (((((some self_1).bind fun x_7 => some x_7.1).bind fun x_8 => (((some self_1).bind fun x_5 => some x_5.2).bind fun x_6 => (((some other_1).bind fun x_3 => some x_3.2).bind fun x_4 => ((some ())).bind fun r_1 => some (x_4, r_1)).bind fun r_2 => some (x_6, r_2)).bind fun r_3 => some (x_8, r_3)).bind fun g_1 => m_first_parting g_1.1 g_1.2.1 g_1.2.2.1).bind fun a_4 => isN a_4).bind fun y_2 => some (Fl.ret y_2))
def m_Macro__add__ (self_1 : (Int × List (Int × Int))) (other_1 : (Int × List (Int × Int))) : Option (Int × List (Int × Int)) :=
  runF ((((some self_1).bind fun x_1 => some x_1.1).bind fun a_2 => (((some self_1).bind fun x_2 => some x_2.2).bind fun a_1 => ((some other_1).bind fun x_3 => some x_3.2).bind fun b_1 => catP a_1 b_1).bind fun b_2 => some (a_2, b_2)).bind fun y_1 => some (Fl.ret y_1))
def m_Macro__call__ (self_1 : (Int × List (Int × Int))) (pattern_1 : (List Nat)) : Option (List Nat) :=
  runF ((((some pattern_1).bind fun x_3 => (((some self_1).bind fun x_1 => some x_1.2).bind fun x_2 => ((some ())).bind fun r_1 => some (x_2, r_1)).bind fun r_2 => some (x_3, r_2)).bind fun g_1 => m_apply g_1.1 g_1.2.1).bind fun y_1 => some (Fl.ret y_1))
def m__law_two_right (m_1 : Int) : Option (List Bool) :=
  runF (((some (4 : Int)).bind fun a_1 => (some m_1).bind fun b_1 => mulP a_1 b_1).bind fun length_1 => (((some (0 : Int)).bind fun p_1 => ((some (2 : Int)).bind fun a_2 => (some m_1).bind fun b_2 => mulP a_2 b_2).bind fun p_2 => some (p_1, p_2)).bind fun x_2 => (((some m_1).bind fun p_3 => ((some (3 : Int)).bind fun a_3 => (some m_1).bind fun b_3 => mulP a_3 b_3).bind fun p_4 => some (p_3, p_4)).bind fun x_1 => ((some [])).bind fun r_1 => some (x_1 :: r_1)).bind fun r_2 => some (x_2 :: r_2)).bind fun steps_1 => (((((some length_1).bind fun x_4 => ((some steps_1).bind fun x_3 => ((some ())).bind fun r_3 => some (x_3, r_3)).bind fun r_4 => some (x_4, r_4)).bind fun g_1 => m_blocks g_1.1 g_1.2.1).bind fun a_9 => (((some (0 : Int)).bind fun p_5 => (some m_1).bind fun p_6 => some (p_5, p_6)).bind fun x_8 => (((some m_1).bind fun p_7 => ((some (2 : Int)).bind fun a_4 => (some m_1).bind fun b_4 => mulP a_4 b_4).bind fun p_8 => some (p_7, p_8)).bind fun x_7 => ((((some (2 : Int)).bind fun a_5 => (some m_1).bind fun b_5 => mulP a_5 b_5).bind fun p_9 => ((some (3 : Int)).bind fun a_6 => (some m_1).bind fun b_6 => mulP a_6 b_6).bind fun p_10 => some (p_9, p_10)).bind fun x_6 => ((((some (3 : Int)).bind fun a_7 => (some m_1).bind fun b_7 => mulP a_7 b_7).bind fun p_11 => ((some (4 : Int)).bind fun a_8 => (some m_1).bind fun b_8 => mulP a_8 b_8).bind fun p_12 => some (p_11, p_12)).bind fun x_5 => ((some [])).bind fun r_5 => some (x_5 :: r_5)).bind fun r_6 => some (x_6 :: r_6)).bind fun r_7 => some (x_7 :: r_7)).bind fun r_8 => some (x_8 :: r_8)).bind fun b_9 => eqD a_9 b_9).bind fun x_9 => ((some [])).bind fun r_9 => some (x_9 :: r_9)).bind fun found_1 => ((((some length_1).bind fun x_11 => ((some steps_1).bind fun x_10 => ((some ())).bind fun r_10 => some (x_10, r_10)).bind fun r_11 => some (x_11, r_11)).bind fun g_2 => m_effect_rows g_2.1 g_2.2.1).bind fun a_10 => (((some ([99, 108, 101, 97, 114] : List Nat)).bind fun x_13 => ((some ([115, 101, 116] : List Nat)).bind fun x_12 => ((some [])).bind fun r_12 => some (x_12 :: r_12)).bind fun r_13 => some (x_13 :: r_13)).bind fun x_20 => (((some ([115, 101, 116] : List Nat)).bind fun x_15 => ((some ([99, 108, 101, 97, 114] : List Nat)).bind fun x_14 => ((some [])).bind fun r_14 => some (x_14 :: r_14)).bind fun r_15 => some (x_15 :: r_15)).bind fun x_19 => (((some ([115, 101, 116] : List Nat)).bind fun x_17 => ((some ([115, 101, 116] : List Nat)).bind fun x_16 => ((some [])).bind fun r_16 => some (x_16 :: r_16)).bind fun r_17 => some (x_17 :: r_17)).bind fun x_18 => ((some [])).bind fun r_18 => some (x_18 :: r_18)).bind fun r_19 => some (x_19 :: r_19)).bind fun r_20 => some (x_20 :: r_20)).bind fun b_10 => eqD a_10 b_10).bind fun x_21 => if found_1.length < 16777216 then (((((some ([48] : List Nat)).bind fun a_11 => (some m_1).bind fun b_11 => repP a_11 b_11).bind fun a_14 => (((some ([49] : List Nat)).bind fun a_12 => (some (2 : Int)).bind fun b_12 => repP a_12 b_12).bind fun a_13 => (some m_1).bind fun b_13 => repP a_13 b_13).bind fun b_14 => catP a_14 b_14).bind fun a_16 => ((some ([63] : List Nat)).bind fun a_15 => (some m_1).bind fun b_15 => repP a_15 b_15).bind fun b_16 => catP a_16 b_16).bind fun x_24 => (((((some ([49] : List Nat)).bind fun a_17 => (some m_1).bind fun b_17 => repP a_17 b_17).bind fun a_20 => (((some ([48] : List Nat)).bind fun a_18 => (some (2 : Int)).bind fun b_18 => repP a_18 b_18).bind fun a_19 => (some m_1).bind fun b_19 => repP a_19 b_19).bind fun b_20 => catP a_20 b_20).bind fun a_22 => ((some ([63] : List Nat)).bind fun a_21 => (some m_1).bind fun b_21 => repP a_21 b_21).bind fun b_22 => catP a_22 b_22).bind fun x_23 => (((((some ([49] : List Nat)).bind fun a_23 => (some (3 : Int)).bind fun b_23 => repP a_23 b_23).bind fun a_24 => (some m_1).bind fun b_24 => repP a_24 b_24).bind fun a_26 => ((some ([63] : List Nat)).bind fun a_25 => (some m_1).bind fun b_25 => repP a_25 b_25).bind fun b_26 => catP a_26 b_26).bind fun x_22 => ((some [])).bind fun r_21 => some (x_22 :: r_21)).bind fun r_22 => some (x_23 :: r_22)).bind fun r_23 => some (x_24 :: r_23)).bind fun due_1 => ((((some length_1).bind fun x_26 => ((some steps_1).bind fun x_25 => ((some ())).bind fun r_24 => some (x_25, r_24)).bind fun r_25 => some (x_26, r_25)).bind fun g_3 => m_outcomes g_3.1 g_3.2.1).bind fun a_27 => (some due_1).bind fun b_27 => eqD a_27 b_27).bind fun x_27 => if (found_1 ++ [x_21]).length < 16777216 then ((((some length_1).bind fun x_29 => ((some steps_1).bind fun x_28 => ((some ())).bind fun r_26 => some (x_28, r_26)).bind fun r_27 => some (x_29, r_27)).bind fun g_4 => m_count_results g_4.1 g_4.2.1).bind fun a_29 => ((some (3 : Int)).bind fun a_28 => (((some m_1).bind fun x_30 => ((some ())).bind fun r_28 => some (x_30, r_28)).bind fun g_5 => m__law_power g_5.1).bind fun b_28 => mulP a_28 b_28).bind fun b_29 => eqD a_29 b_29).bind fun x_31 => if ((found_1 ++ [x_21]) ++ [x_27]).length < 16777216 then ((((some length_1).bind fun x_34 => ((some steps_1).bind fun x_33 => (((some due_1).bind fun a_30 => (some (1 : Int)).bind fun b_30 => atI a_30 b_30).bind fun x_32 => ((some ())).bind fun r_29 => some (x_32, r_29)).bind fun r_30 => some (x_33, r_30)).bind fun r_31 => some (x_34, r_31)).bind fun g_6 => m_count_sources g_6.1 g_6.2.1 g_6.2.2.1).bind fun a_34 => ((((((some (2 : Int)).bind fun a_31 => (some m_1).bind fun b_31 => mulP a_31 b_31).bind fun x_35 => ((some ())).bind fun r_32 => some (x_35, r_32)).bind fun g_7 => m__law_power g_7.1).bind fun a_32 => (some (1 : Int)).bind fun b_32 => subI a_32 b_32).bind fun a_33 => (((some m_1).bind fun x_36 => ((some ())).bind fun r_33 => some (x_36, r_33)).bind fun g_8 => m__law_power g_8.1).bind fun b_33 => mulP a_33 b_33).bind fun b_34 => eqD a_34 b_34).bind fun x_37 => if (((found_1 ++ [x_21]) ++ [x_27]) ++ [x_31]).length < 16777216 then ((((some length_1).bind fun x_42 => ((some steps_1).bind fun x_41 => (((some ([99, 108, 101, 97, 114] : List Nat)).bind fun x_39 => ((some ([115, 101, 116] : List Nat)).bind fun x_38 => ((some [])).bind fun r_34 => some (x_38 :: r_34)).bind fun r_35 => some (x_39 :: r_35)).bind fun x_40 => ((some ())).bind fun r_36 => some (x_40, r_36)).bind fun r_37 => some (x_41, r_37)).bind fun r_38 => some (x_42, r_38)).bind fun g_9 => m_count_with g_9.1 g_9.2.1 g_9.2.2.1).bind fun a_36 => ((((some (2 : Int)).bind fun a_35 => (some m_1).bind fun b_35 => mulP a_35 b_35).bind fun x_43 => ((some ())).bind fun r_39 => some (x_43, r_39)).bind fun g_10 => m__law_power g_10.1).bind fun b_36 => eqD a_36 b_36).bind fun x_44 => if ((((found_1 ++ [x_21]) ++ [x_27]) ++ [x_31]) ++ [x_37]).length < 16777216 then ((((some length_1).bind fun x_49 => ((some steps_1).bind fun x_48 => (((some ([99, 108, 101, 97, 114] : List Nat)).bind fun x_46 => ((some ([115, 101, 116] : List Nat)).bind fun x_45 => ((some [])).bind fun r_40 => some (x_45 :: r_40)).bind fun r_41 => some (x_46 :: r_41)).bind fun x_47 => ((some ())).bind fun r_42 => some (x_47, r_42)).bind fun r_43 => some (x_48, r_43)).bind fun r_44 => some (x_49, r_44)).bind fun g_11 => m_first_with g_11.1 g_11.2.1 g_11.2.2.1).bind fun a_42 => (((((some ([49] : List Nat)).bind fun a_37 => (some (2 : Int)).bind fun b_37 => repP a_37 b_37).bind fun a_38 => (some m_1).bind fun b_38 => repP a_38 b_38).bind fun a_41 => (((some ([48] : List Nat)).bind fun a_39 => (some (2 : Int)).bind fun b_39 => repP a_39 b_39).bind fun a_40 => (some m_1).bind fun b_40 => repP a_40 b_40).bind fun b_41 => catP a_41 b_41).bind fun o_1 => some (some o_1)).bind fun b_42 => eqD a_42 b_42).bind fun x_50 => if (((((found_1 ++ [x_21]) ++ [x_27]) ++ [x_31]) ++ [x_37]) ++ [x_44]).length < 16777216 then ((some length_1).bind fun a_44 => ((some steps_1).bind fun a_43 => (some none).bind fun lo_1 => ((some (1 : Int)).bind fun i_1 => some (some i_1)).bind fun hi_1 => cutO a_43 lo_1 hi_1).bind fun b_43 => some (a_44, b_43)).bind fun one_1 => ((some length_1).bind fun a_46 => ((some steps_1).bind fun a_45 => ((some (1 : Int)).bind fun i_2 => some (some i_2)).bind fun lo_2 => (some none).bind fun hi_2 => cutO a_45 lo_2 hi_2).bind fun b_44 => some (a_46, b_44)).bind fun other_1 => (((some one_1).bind fun a_47 => (some other_1).bind fun b_45 => m_Macro__add__ a_47 b_45).bind fun a_53 => ((((some ([49] : List Nat)).bind fun a_48 => (some (2 : Int)).bind fun b_46 => repP a_48 b_46).bind fun a_49 => (some m_1).bind fun b_47 => repP a_49 b_47).bind fun a_52 => (((some ([48] : List Nat)).bind fun a_50 => (some (2 : Int)).bind fun b_48 => repP a_50 b_48).bind fun a_51 => (some m_1).bind fun b_49 => repP a_51 b_49).bind fun b_50 => catP a_52 b_50).bind fun b_51 => m_Macro__call__ a_53 b_51).bind fun result_1 => ((some result_1).bind fun a_60 => ((((some ([48] : List Nat)).bind fun a_54 => (some m_1).bind fun b_52 => repP a_54 b_52).bind fun a_57 => (((some ([49] : List Nat)).bind fun a_55 => (some (2 : Int)).bind fun b_53 => repP a_55 b_53).bind fun a_56 => (some m_1).bind fun b_54 => repP a_56 b_54).bind fun b_55 => catP a_57 b_55).bind fun a_59 => ((some ([48] : List Nat)).bind fun a_58 => (some m_1).bind fun b_56 => repP a_58 b_56).bind fun b_57 => catP a_59 b_57).bind fun b_58 => eqD a_60 b_58).bind fun x_51 => if ((((((found_1 ++ [x_21]) ++ [x_27]) ++ [x_31]) ++ [x_37]) ++ [x_44]) ++ [x_50]).length < 16777216 then ((((some one_1).bind fun a_61 => (some other_1).bind fun b_59 => m_Macro__add__ a_61 b_59).bind fun a_63 => ((some other_1).bind fun a_62 => (some one_1).bind fun b_60 => m_Macro__add__ a_62 b_60).bind fun b_61 => (m_Macro__eq__ a_63 b_61).bind fun a_63c => some (!a_63c)).bind fun a_67 => if a_67 = true then (((some one_1).bind fun a_64 => (some one_1).bind fun b_62 => m_Macro__add__ a_64 b_62).bind fun a_65 => (some one_1).bind fun b_63 => m_Macro__add__ a_65 b_63).bind fun a_66 => (some one_1).bind fun b_64 => m_Macro__eq__ a_66 b_64 else some false).bind fun x_52 => if (((((((found_1 ++ [x_21]) ++ [x_27]) ++ [x_31]) ++ [x_37]) ++ [x_44]) ++ [x_50]) ++ [x_51]).length < 16777216 then ((some ((((((((found_1 ++ [x_21]) ++ [x_27]) ++ [x_31]) ++ [x_37]) ++ [x_44]) ++ [x_50]) ++ [x_51]) ++ [x_52])).bind fun a_69 => (((((some length_1).bind fun x_54 => ((some steps_1).bind fun x_53 => ((some ())).bind fun r_45 => some (x_53, r_45)).bind fun r_46 => some (x_54, r_46)).bind fun g_12 => m_kinds_of_effects g_12.1 g_12.2.1).bind fun a_68 => ((some ([98, 111, 116, 104] : List Nat)).bind fun x_56 => ((some ([98, 111, 116, 104] : List Nat)).bind fun x_55 => ((some [])).bind fun r_47 => some (x_55 :: r_47)).bind fun r_48 => some (x_56 :: r_48)).bind fun b_65 => eqD a_68 b_65).bind fun x_57 => ((some [])).bind fun r_49 => some (x_57 :: r_49)).bind fun b_66 => catP a_69 b_66).bind fun y_1 => some (Fl.ret y_1) else none else none else none else none else none else none else none else none)
def m__law_more_right (m_1 : Int) : Option (List Bool) :=
  runF (((some (3 : Int)).bind fun a_1 => (some m_1).bind fun b_1 => mulP a_1 b_1).bind fun length_1 => (((some (0 : Int)).bind fun p_1 => ((some (2 : Int)).bind fun a_2 => (some m_1).bind fun b_2 => mulP a_2 b_2).bind fun p_2 => some (p_1, p_2)).bind fun x_2 => (((some (0 : Int)).bind fun p_3 => ((some (2 : Int)).bind fun a_3 => (some m_1).bind fun b_3 => mulP a_3 b_3).bind fun p_4 => some (p_3, p_4)).bind fun x_1 => ((some [])).bind fun r_1 => some (x_1 :: r_1)).bind fun r_2 => some (x_2 :: r_2)).bind fun twice_1 => (((((some length_1).bind fun x_4 => ((some twice_1).bind fun x_3 => ((some ())).bind fun r_3 => some (x_3, r_3)).bind fun r_4 => some (x_4, r_4)).bind fun g_1 => m_effect_rows g_1.1 g_1.2.1).bind fun a_4 => (((some ([99, 108, 101, 97, 114] : List Nat)).bind fun x_6 => ((some ([115, 101, 116] : List Nat)).bind fun x_5 => ((some [])).bind fun r_5 => some (x_5 :: r_5)).bind fun r_6 => some (x_6 :: r_6)).bind fun x_10 => (((some ([115, 101, 116] : List Nat)).bind fun x_8 => ((some ([99, 108, 101, 97, 114] : List Nat)).bind fun x_7 => ((some [])).bind fun r_7 => some (x_7 :: r_7)).bind fun r_8 => some (x_8 :: r_8)).bind fun x_9 => ((some [])).bind fun r_9 => some (x_9 :: r_9)).bind fun r_10 => some (x_10 :: r_10)).bind fun b_4 => eqD a_4 b_4).bind fun x_11 => ((some [])).bind fun r_11 => some (x_11 :: r_11)).bind fun found_1 => ((((some length_1).bind fun x_14 => ((some twice_1).bind fun x_13 => (((some ([] : List (Int × Int)))).bind fun x_12 => ((some ())).bind fun r_12 => some (x_12, r_12)).bind fun r_13 => some (x_13, r_13)).bind fun r_14 => some (x_14, r_14)).bind fun g_2 => m_first_parting g_2.1 g_2.2.1 g_2.2.2.1).bind fun a_11 => (((((some ([48] : List Nat)).bind fun a_7 => (((some (2 : Int)).bind fun a_5 => (some m_1).bind fun b_5 => mulP a_5 b_5).bind fun a_6 => (some (1 : Int)).bind fun b_6 => subI a_6 b_6).bind fun b_7 => repP a_7 b_7).bind fun a_8 => (some ([49] : List Nat)).bind fun b_8 => catP a_8 b_8).bind fun a_10 => ((some ([48] : List Nat)).bind fun a_9 => (some m_1).bind fun b_9 => repP a_9 b_9).bind fun b_10 => catP a_10 b_10).bind fun o_1 => some (some o_1)).bind fun b_11 => eqD a_11 b_11).bind fun x_15 => if found_1.length < 16777216 then ((((some length_1).bind fun x_18 => (((some twice_1).bind fun a_14 => (some none).bind fun lo_2 => ((some (1 : Int)).bind fun i_2 => some (some i_2)).bind fun hi_2 => cutO a_14 lo_2 hi_2).bind fun x_17 => (((some twice_1).bind fun a_13 => ((some twice_1).bind fun a_12 => (some none).bind fun lo_1 => ((some (1 : Int)).bind fun i_1 => some (some i_1)).bind fun hi_1 => cutO a_12 lo_1 hi_1).bind fun b_12 => catP a_13 b_12).bind fun x_16 => ((some ())).bind fun r_15 => some (x_16, r_15)).bind fun r_16 => some (x_17, r_16)).bind fun r_17 => some (x_18, r_17)).bind fun g_3 => m_first_parting g_3.1 g_3.2.1 g_3.2.2.1).bind fun a_15 => isN a_15).bind fun x_19 => if (found_1 ++ [x_15]).length < 16777216 then ((((some length_1).bind fun x_23 => (((some twice_1).bind fun a_16 => (some none).bind fun lo_3 => ((some (1 : Int)).bind fun i_3 => some (some i_3)).bind fun hi_3 => cutO a_16 lo_3 hi_3).bind fun x_22 => ((((some (0 : Int)).bind fun p_5 => (some length_1).bind fun p_6 => some (p_5, p_6)).bind fun x_20 => ((some [])).bind fun r_18 => some (x_20 :: r_18)).bind fun x_21 => ((some ())).bind fun r_19 => some (x_21, r_19)).bind fun r_20 => some (x_22, r_20)).bind fun r_21 => some (x_23, r_21)).bind fun g_4 => m_first_parting g_4.1 g_4.2.1 g_4.2.2.1).bind fun a_18 => (((some ([48] : List Nat)).bind fun a_17 => (some length_1).bind fun b_13 => repP a_17 b_13).bind fun o_2 => some (some o_2)).bind fun b_14 => eqD a_18 b_14).bind fun x_24 => if ((found_1 ++ [x_15]) ++ [x_19]).length < 16777216 then (((some m_1).bind fun p_7 => ((some (2 : Int)).bind fun a_19 => (some m_1).bind fun b_15 => mulP a_19 b_15).bind fun p_8 => some (p_7, p_8)).bind fun x_28 => (((some (0 : Int)).bind fun p_9 => (some length_1).bind fun p_10 => some (p_9, p_10)).bind fun x_27 => (((some (0 : Int)).bind fun p_11 => (some m_1).bind fun p_12 => some (p_11, p_12)).bind fun x_26 => (((some (0 : Int)).bind fun p_13 => (some length_1).bind fun p_14 => some (p_13, p_14)).bind fun x_25 => ((some [])).bind fun r_22 => some (x_25 :: r_22)).bind fun r_23 => some (x_26 :: r_23)).bind fun r_24 => some (x_27 :: r_24)).bind fun r_25 => some (x_28 :: r_25)).bind fun steps_1 => ((some (((found_1 ++ [x_15]) ++ [x_19]) ++ [x_24])).bind fun a_24 => ((((((some length_1).bind fun x_30 => ((some steps_1).bind fun x_29 => ((some ())).bind fun r_26 => some (x_29, r_26)).bind fun r_27 => some (x_30, r_27)).bind fun g_5 => m_needless g_5.1 g_5.2.1).bind fun a_20 => ((some (0 : Int)).bind fun x_31 => ((some [])).bind fun r_28 => some (x_31 :: r_28)).bind fun b_16 => eqD a_20 b_16).bind fun a_23 => if a_23 = true then ((((some length_1).bind fun x_33 => ((some steps_1).bind fun x_32 => ((some ())).bind fun r_29 => some (x_32, r_29)).bind fun r_30 => some (x_33, r_30)).bind fun g_6 => m_outcomes g_6.1 g_6.2.1).bind fun a_21 => lenL a_21).bind fun a_22 => (some (1 : Int)).bind fun b_17 => eqD a_22 b_17 else some false).bind fun x_34 => ((some [])).bind fun r_31 => some (x_34 :: r_31)).bind fun b_18 => catP a_24 b_18).bind fun y_1 => some (Fl.ret y_1) else none else none else none)
end Y

/-! Mathematics of the laws' helpers and of the toggles: no program in sight. -/
namespace Y
open L2 (atI ixN)

/-! ### loops -/
theorem obs {α β : Type} (a : α) (f : α → Option β) : (some a).bind f = f a := Eq.trans (Option.bind_some a f) (Eq.symm (Eq.symm rfl))
theorem thenF_nx {ρ β β' : Type} {b : β} {f : β → Option (Fl ρ β')} : thenF (some (.nx b)) f = f b := rfl
theorem thenF_ret {ρ β β' : Type} {r : ρ} {f : β → Option (Fl ρ β')} : thenF (some (.ret r)) f = some (.ret r) := rfl
theorem thenF_if {ρ β β' : Type} {c : Prop} [Decidable c] {r : ρ} {b : β} {f : β → Option (Fl ρ β')} : thenF (if c then some (.ret r) else some (.nx b)) f = if c then some (.ret r) else f b := by
  split <;> rfl
theorem runF_ret {ρ : Type} {r : ρ} : runF (some (.ret r)) = some r := rfl
theorem forL_inv {α ρ β : Type} {f : α → β → Option (Fl ρ β)} (I : Nat → β → Prop) : ∀ {xs : List α} {s : β} (n : Nat), I n s → (∀ i x s, xs[i]? = some x → I (n + i) s → ∃ s', f x s = some (.nx s') ∧ I (n + i + 1) s') →
    ∃ s', forL xs s f = some (.nx s') ∧ I (n + xs.length) s'
  | [], s, n, h0, _ => ⟨s, rfl, h0⟩
  | x :: xs, s, n, h0, hs => by
    obtain ⟨s1, e1, h1⟩ := hs 0 x s rfl h0
    obtain ⟨s2, e2, h2⟩ := forL_inv I (xs := xs) (s := s1) (n + 1) h1 fun i y s hy hi => by
      obtain ⟨s', a, b⟩ := hs (i + 1) y s (by simpa using hy) (by rw [show n + (i + 1) = n + 1 + i by omega]; exact hi)
      exact ⟨s', a, by rw [show n + 1 + i + 1 = n + (i + 1) + 1 by omega]; exact b⟩
    refine ⟨s2, ?_, by rw [List.length_cons, show n + (xs.length + 1) = n + 1 + xs.length by omega]; exact h2⟩
    show thenF (f x s) _ = _
    rw [e1, thenF_nx, e2]
/-- a loop that only looks -/
theorem forL_unit {α ρ : Type} {f : α → Unit → Option (Fl ρ Unit)} : ∀ {xs : List α}, (∀ x ∈ xs, f x () = some (.nx ())) → forL xs () f = some (.nx ())
  | [], _ => rfl
  | x :: xs, h => by
    show thenF (f x ()) _ = _
    rw [h x List.mem_cons_self, thenF_nx]
    exact forL_unit fun y hy => h y (List.mem_cons_of_mem _ hy)
/-- a loop that is a fold -/
theorem forL_fold {α ρ β : Type} {f : α → β → Option (Fl ρ β)} (g : β → α → β) (I : β → Prop) : ∀ {xs : List α} {s : β}, I s → (∀ x ∈ xs, ∀ s, I s → f x s = some (.nx (g s x)) ∧ I (g s x)) → forL xs s f = some (.nx (xs.foldl g s)) ∧ I (xs.foldl g s)
  | [], s, h0, _ => ⟨rfl, h0⟩
  | x :: xs, s, h0, hs => by
    obtain ⟨e, h1⟩ := hs x List.mem_cons_self s h0
    obtain ⟨e2, h2⟩ := forL_fold g I (xs := xs) h1 fun y hy => hs y (List.mem_cons_of_mem _ hy)
    exact ⟨by
      show thenF (f x s) _ = _
      rw [e, thenF_nx]; exact e2, h2⟩
theorem loop {α ρ β β' : Type} {f : α → β → Option (Fl ρ β)} {k : β → Option (Fl ρ β')} {xs : List α} {s : β} (P : Option (Fl ρ β') → Prop) (I : Nat → β → Prop) (h0 : I 0 s)
    (hs : ∀ i x s, xs[i]? = some x → I i s → ∃ s', f x s = some (.nx s') ∧ I (i + 1) s') (post : ∀ s', I xs.length s' → P (k s')) : P (thenF (forL xs s f) k) := by
  obtain ⟨s', e, h⟩ := forL_inv I (xs := xs) (s := s) 0 h0 fun i x s hx hi => by
    rw [Nat.zero_add] at hi ⊢
    exact hs i x s hx hi
  rw [Nat.zero_add] at h
  rw [e, thenF_nx]
  exact post s' h
theorem loopF {α ρ β β' : Type} {f : α → β → Option (Fl ρ β)} {k : β → Option (Fl ρ β')} {xs : List α} {s : β} (P : Option (Fl ρ β') → Prop) (g : β → α → β) (I : β → Prop) (h0 : I s)
    (hs : ∀ x ∈ xs, ∀ s, I s → f x s = some (.nx (g s x)) ∧ I (g s x)) (post : I (xs.foldl g s) → P (k (xs.foldl g s))) : P (thenF (forL xs s f) k) := by
  obtain ⟨e, h⟩ := forL_fold g I h0 hs
  rw [e, thenF_nx]
  exact post h
theorem rng_eq {lo hi : Int} (h1 : -1000000 ≤ lo) (h2 : lo ≤ 1000000) (h3 : -1000000 ≤ hi) (h4 : hi ≤ 1000000) : rng lo hi = some (rngL lo hi) := by
  unfold rng
  rw [if_pos (by omega)]
theorem rngL_get {lo hi : Int} {i : Nat} {x : Int} (h : (rngL lo hi)[i]? = some x) : x = lo + i ∧ x < hi := by
  unfold rngL at h
  rw [List.getElem?_map] at h
  obtain ⟨j, hj, rfl⟩ := Option.map_eq_some_iff.mp h
  obtain ⟨hi', e⟩ := List.getElem?_eq_some_iff.mp hj
  rw [List.length_range] at hi'
  rw [List.getElem_range] at e
  omega
theorem mem_rngL {lo hi x : Int} : x ∈ rngL lo hi ↔ lo ≤ x ∧ x < hi := by
  unfold rngL
  rw [List.mem_map]
  constructor
  · rintro ⟨i, hi, rfl⟩
    rw [List.mem_range] at hi
    omega
  · rintro ⟨h1, h2⟩
    exact ⟨(x - lo).toNat, List.mem_range.mpr (by omega), by omega⟩

/-! ### equal or not -/
theorem eqD_self {α : Type} [DecidableEq α] (a : α) : eqD a a = some true := by unfold eqD; rw [decide_eq_true rfl]
theorem neD_self {α : Type} [DecidableEq α] (a : α) : neD a a = some false := by unfold neD; rw [decide_eq_true rfl]; rfl
theorem eqD_ne {α : Type} [DecidableEq α] {a b : α} (h : a ≠ b) : eqD a b = some false := by unfold eqD; rw [decide_eq_false h]
theorem neD_ne {α : Type} [DecidableEq α] {a b : α} (h : a ≠ b) : neD a b = some true := by unfold neD; rw [decide_eq_false h]; rfl
theorem inL_mem {α : Type} [DecidableEq α] {a : α} {l : List α} (h : a ∈ l) : inL a l = some true := by unfold inL; rw [decide_eq_true h]
theorem notInL_mem {α : Type} [DecidableEq α] {a : α} {l : List α} (h : a ∈ l) : notInL a l = some false := by unfold notInL; rw [decide_eq_true h]; rfl
theorem inL_not {α : Type} [DecidableEq α] {a : α} {l : List α} (h : a ∉ l) : inL a l = some false := by unfold inL; rw [decide_eq_false h]
theorem notInL_not {α : Type} [DecidableEq α] {a : α} {l : List α} (h : a ∉ l) : notInL a l = some true := by unfold notInL; rw [decide_eq_false h]; rfl
theorem ifT {α : Type} {x y : α} : (if true = true then x else y) = x := if_pos rfl
theorem ifF {α : Type} {x y : α} : (if false = true then x else y) = y := if_neg Bool.false_ne_true

/-! ### places -/
theorem atI_nat {α : Type} {xs : List α} {i : Int} (h0 : 0 ≤ i) (h1 : i < xs.length) : atI xs i = some (xs[i.toNat]'(by omega)) := by
  unfold atI ixN
  rw [if_pos h0, if_pos h1]
  show xs[i.toNat]? = _
  rw [List.getElem?_eq_getElem]
theorem atI_some {α : Type} {xs : List α} {i : Int} (h0 : 0 ≤ i) (h1 : i < xs.length) : ∃ x, atI xs i = some x ∧ x ∈ xs := ⟨_, atI_nat h0 h1, List.getElem_mem _⟩
theorem atI_last {α : Type} {xs : List α} (h : xs ≠ []) : atI xs (-1) = some (xs.getLast h) := by
  have hl := List.length_pos_iff.mpr h
  unfold atI ixN
  rw [if_neg (by omega), if_pos (by omega)]
  show xs[((-1 : Int) + xs.length).toNat]? = _
  have e : ((-1 : Int) + xs.length).toNat = xs.length - 1 := by omega
  rw [e, List.getElem?_eq_getElem (by omega), List.getLast_eq_getElem]
theorem cutL_ff {α : Type} {xs : List α} {a b : Nat} (h : b ≤ xs.length) : cutL xs (some (a : Int)) (some (b : Int)) = (xs.drop a).take (b - a) := by
  unfold cutL
  rw [HT.sIx_nat, HT.sIx_nat]
  by_cases ha : a ≤ xs.length
  · rw [Nat.min_eq_left ha, Nat.min_eq_left h]
  · rw [Nat.min_eq_right (show xs.length ≤ a by omega), Nat.min_eq_left h, List.drop_eq_nil_of_le (Nat.le_refl _), List.drop_eq_nil_of_le (by omega)]
    simp
theorem cutL_nf {α : Type} {xs : List α} {b : Nat} : cutL xs none (some (b : Int)) = xs.take b := by
  unfold cutL
  rw [HT.sIx_nat, HT.sIx_none]
  simp only [List.drop_zero, Nat.sub_zero]
  by_cases h : b ≤ xs.length
  · rw [Nat.min_eq_left h]
  · rw [Nat.min_eq_right (by omega), List.take_length, List.take_of_length_le (by omega)]
theorem cutL_fn {α : Type} {xs : List α} {a : Nat} : cutL xs (some (a : Int)) none = xs.drop a := by
  unfold cutL
  rw [HT.sIx_nat, HT.sIx_none]
  by_cases h : a ≤ xs.length
  · rw [Nat.min_eq_left h, List.take_of_length_le (by rw [List.length_drop]; omega)]
  · rw [Nat.min_eq_right (by omega), List.drop_eq_nil_of_le (Nat.le_refl _), List.drop_eq_nil_of_le (by omega)]
    simp

/-! ### the law's cells and digits -/
theorem cell_some (ns : List Int) {i : Int} (h0 : 0 ≤ i) (h1 : i ≤ 1000) : ∃ c, m__law_cell ns i = some c := by
  unfold m__law_cell
  simp only [obs, ltI, eqD]
  by_cases h : i < ns.length
  · obtain ⟨x, hx, _⟩ := atI_some h0 h
    rw [if_pos (decide_eq_true h), hx]
    exact ⟨_, rfl⟩
  · rw [if_neg (by simpa using h), thenF_nx]
    by_cases h2 : (ns.length : Int) = 0
    · rw [if_pos (decide_eq_true h2)]
      unfold mulP
      rw [if_pos (.inl (by omega))]
      exact ⟨_, rfl⟩
    · rw [if_neg (by simpa using h2), thenF_nx]
      have hp : (0 : Int) < ns.length := by omega
      obtain ⟨x, hx, _⟩ := atI_some (xs := ns) (Int.emod_nonneg i (by omega)) (Int.emod_lt_of_pos i hp)
      unfold modP mulP
      rw [if_pos hp, obs, hx, obs, if_pos (by omega), if_pos (.inl (by omega))]
      exact ⟨_, rfl⟩
def Dig (n : Nat) (base : Int) (ds : List Int) : Prop := ds.length = n ∧ ∀ d ∈ ds, 0 ≤ d ∧ d < base
theorem digits_some (ns : List Int) {i : Int} {n : Nat} {base : Int} (h0 : 0 ≤ i) (h1 : i ≤ 1000) (hn : n ≤ 1000) (hb : 0 < base) (hb2 : base < 1073741824) : ∃ ds, m__law_digits ns i n base = some ds ∧ Dig n base ds := by
  obtain ⟨c, hc⟩ := cell_some ns h0 h1
  unfold m__law_digits
  simp only [obs, hc]
  generalize hp : [(2147483647 : Int), 2147483629, 2147483587, 2147483579, 2147483563, 2147483549, 2147483543, 2147483497] = primes
  have hpl : primes.length = 8 := by rw [← hp]; rfl
  have hpb : ∀ p ∈ primes, 0 < p ∧ p < 2147483648 := by rw [← hp]; decide
  have pr : ∀ k : Int, ∃ p, (modP k 8).bind (fun b => atI primes b) = some p ∧ 0 < p ∧ p < 2147483648 := fun k => by
    unfold modP
    rw [if_pos (by decide), obs]
    obtain ⟨x, hx, hm⟩ := atI_some (xs := primes) (Int.emod_nonneg k (show (8 : Int) ≠ 0 by decide)) (by rw [hpl]; exact Int.emod_lt_of_pos k (by decide))
    exact ⟨x, hx, hpb x hm⟩
  have hrest : ∃ r : Int, ((powP 10 18).bind fun b => geI c b).bind (fun x => if x = true then some c else some (0 : Int)) = some r := by
    unfold powP geI
    rw [if_pos (by decide)]
    simp only [obs]
    split <;> exact ⟨_, rfl⟩
  obtain ⟨r, hr⟩ := hrest
  rw [hr]
  simp only [obs]
  rw [rng_eq (by omega) (by omega) (by omega) (by omega), obs]
  refine loop (P := fun o => ∃ ds, runF o = some ds ∧ Dig n base ds) (fun j (s : Int × List Int) => s.2.length = j ∧ ∀ d ∈ s.2, 0 ≤ d ∧ d < base) ⟨rfl, fun _ h => nomatch h⟩ (fun j k s hk hs => ?_) fun s' hI => ?_
  · skip
    obtain ⟨hk1, hk2⟩ := rngL_get hk
    obtain ⟨p1, e1, p1a, p1b⟩ := pr k
    obtain ⟨p2, e2, p2a, p2b⟩ := pr (3 * k + i)
    obtain ⟨p3, e3, p3a, p3b⟩ := pr (k + 5)
    have hm1 : modP c p1 = some (c % p1) := if_pos p1a
    have b1 := Int.emod_nonneg c (show p1 ≠ 0 by omega)
    have b2 := Int.emod_lt_of_pos c p1a
    have hA : mulP 2 k = some (2 * k) := if_pos (.inl (by omega))
    have hB : mulP (2 * k) k = some (2 * k * k) := if_pos (.inl (by omega))
    have hC : ∀ z, mulP (c % p1) z = some (c % p1 * z) := fun z => if_pos (.inl (by omega))
    have hD : mulP 7919 (k + 1) = some (7919 * (k + 1)) := if_pos (.inl (by omega))
    have hE : mulP (7919 * (k + 1)) (k + 1) = some (7919 * (k + 1) * (k + 1)) := if_pos (.inl (by omega))
    have hF : mulP 104729 i = some (104729 * i) := if_pos (.inl (by omega))
    have hG : mulP 3 k = some (3 * k) := if_pos (.inl (by omega))
    simp only [addI, obs, e1, hm1, hA, hB, hC, hD, hE, hF, hG, e2, e3]
    generalize c % p1 * (48271 + 2 * k * k) + 7919 * (k + 1) * (k + 1) + 104729 * i = m2
    have hm2 : modP m2 p2 = some (m2 % p2) := if_pos p2a
    have c1 := Int.emod_nonneg m2 (show p2 ≠ 0 by omega)
    have c2 := Int.emod_lt_of_pos m2 p2a
    simp only [hm2, obs]
    generalize m2 % p2 = m3 at *
    have hH : mulP m3 m3 = some (m3 * m3) := if_pos (.inl (by omega))
    have hmm : 0 ≤ m3 * m3 ∧ m3 * m3 ≤ 2147483648 * 2147483648 := ⟨Int.mul_nonneg c1 c1, Int.mul_le_mul (by omega) (by omega) c1 (by decide)⟩
    have hI' : mulP (m3 * m3) m3 = some (m3 * m3 * m3) := if_pos (.inl (by omega))
    have hm3 : ∀ z, modP z p3 = some (z % p3) := fun z => if_pos p3a
    have hmb : ∀ z, modP z base = some (z % base) := fun z => if_pos hb
    have hdb : ∀ z, divP z base = some (z / base) := fun z => if_pos ⟨hb, hb2⟩
    simp only [hH, hI', hm3, obs, gtI]
    have fin : ∀ z : Int, ∃ s' : Int × List Int, (if s.2.length < 16777216 then some (Fl.nx (ρ := List Int) (s.1 / base, s.2 ++ [z % base])) else none) = some (.nx s') ∧ s'.2.length = j + 1 ∧ ∀ d ∈ s'.2, 0 ≤ d ∧ d < base := fun z => by
      rw [if_pos (by omega)]
      refine ⟨_, rfl, by simp [hs.1], fun d hd => ?_⟩
      rcases List.mem_append.mp hd with hd | hd
      · exact hs.2 d hd
      · rw [List.mem_singleton.mp hd]
        exact ⟨Int.emod_nonneg z (by omega), Int.emod_lt_of_pos z hb⟩
    by_cases hg : 0 < s.1
    · rw [if_pos (decide_eq_true hg), thenF_nx]
      simp only [hmb, hdb, obs]
      exact fin _
    · rw [if_neg (by simpa using hg), thenF_nx]
      simp only [hmb, hdb, obs]
      exact fin _
  · refine ⟨s'.2, rfl, ?_, hI.2⟩
    rw [hI.1, rngL_len]
    omega
end Y

namespace Y
open L2 (atI ixN)

/-! ### patterns, toggles, scripts of the laws -/
def Pt (p : List Nat) : Prop := ∀ c ∈ p, c = 48 ∨ c = 49
theorem Pt.app {p q : List Nat} (h : Pt p) (g : Pt q) : Pt (p ++ q) := fun c hc => (List.mem_append.mp hc).elim (h c) (g c)
theorem nat_of {x : Int} (h : 0 ≤ x) : ∃ n : Nat, x = (n : Int) := ⟨x.toNat, by omega⟩
theorem atI_get {α : Type} {xs : List α} {i : Nat} (h : i < xs.length) : atI xs (i : Int) = some xs[i] := by
  have := atI_nat (xs := xs) (i := (i : Int)) (by omega) (by omega)
  simpa using this
theorem pattern_some {m : Nat} {ds : List Int} (hd : Dig m 27720 ds) {size : Nat} (hs : 0 < size) (hm : 2 + size ≤ m) (hs2 : size ≤ 1000) :
    ∃ p, m__law_pattern ds size = some p ∧ Pt p ∧ 0 < p.length ∧ p.length ≤ size := by
  obtain ⟨hl, hb⟩ := hd
  have h0 : (0 : Nat) < ds.length := by omega
  have h1 : (1 : Nat) < ds.length := by omega
  have b1 := Int.emod_nonneg ds[0] (show (size : Int) ≠ 0 by omega)
  have b2 := Int.emod_lt_of_pos ds[0] (show (0 : Int) < size by omega)
  obtain ⟨r, hr⟩ := nat_of b1
  unfold m__law_pattern
  have e0 : atI ds 0 = some ds[0] := atI_get (i := 0) h0
  have e1 : atI ds 1 = some ds[1] := atI_get (i := 1) h1
  have em : modP ds[0] size = some (r : Int) := by
    unfold modP
    rw [if_pos (by omega), hr]
  have ec : cutO ds (some 2) (some (2 + 1 + (r : Int))) = some ((ds.drop 2).take (r + 1)) := by
    unfold cutO
    have := cutL_ff (xs := ds) (a := 2) (b := r + 3) (by omega)
    have e : (((r + 3 : Nat) : Int)) = 2 + 1 + (r : Int) := by omega
    rw [e] at this
    rw [show some 2 = some ((2 : Nat) : Int) from rfl, this, show r + 3 - 2 = r + 1 by omega]
  simp only [obs, e0, e1, em, addI, ec]
  have hlen : ((ds.drop 2).take (r + 1)).length = r + 1 := by
    rw [List.length_take, List.length_drop]
    omega
  have hk : ∃ q : Int, (modP ds[1] 3).bind (fun b => atI [2, 3, 5] b) = some q ∧ 0 < q := by
    have c1 := Int.emod_nonneg ds[1] (show (3 : Int) ≠ 0 by decide)
    have c2 := Int.emod_lt_of_pos ds[1] (show (0 : Int) < 3 by decide)
    have e3 : modP ds[1] 3 = some (ds[1] % 3) := if_pos (by decide)
    rw [e3, obs]
    obtain ⟨x, hx, hmem⟩ := atI_some (xs := [(2 : Int), 3, 5]) c1 c2
    refine ⟨x, hx, ?_⟩
    simp at hmem
    omega
  obtain ⟨q, hq, hq0⟩ := hk
  refine loop (P := fun o => ∃ p, runF o = some p ∧ Pt p ∧ 0 < p.length ∧ p.length ≤ size) (fun j (s : List Nat) => Pt s ∧ s.length = j) ⟨(fun _ h => nomatch h), rfl⟩ (fun j x s hx hs => ?_) fun s' hI => ?_
  · obtain ⟨hp, hj⟩ := hs
    have hjr : j < r + 1 := by
      have := (List.getElem?_eq_some_iff.mp hx).1
      omega
    have e2 : divP x 2 = some (x / 2) := if_pos (by decide)
    have e3 : ∀ z, modP z q = some (z % q) := fun z => if_pos hq0
    simp only [neD, obs, negI, gtI, e2, hq, e3]
    have keep : ∃ b : Bool, (if (!decide (s = [])) = true then some (decide (0 < x / 2 % q)) else some false) = some b ∧ (b = true → s ≠ []) := by
      by_cases he : s = []
      · refine ⟨false, ?_, (fun h => nomatch h)⟩
        rw [if_neg (by simp [he])]
      · rw [if_pos (by simp [he])]
        exact ⟨_, rfl, fun _ => he⟩
    obtain ⟨b, hb1, hb2⟩ := keep
    rw [hb1]
    simp only [obs]
    have sign : ∃ c : Nat, (c = 48 ∨ c = 49) ∧ (if b = true then atS s (-1) else (modP x 2).bind fun b => atS [48, 49] b) = some [c] := by
      cases b with
      | true =>
        have hne := hb2 rfl
        refine ⟨s.getLast hne, hp _ (List.getLast_mem hne), ?_⟩
        rw [if_pos rfl]
        unfold atS
        rw [atI_last hne, obs]
      | false =>
        rw [if_neg Bool.false_ne_true]
        have e3 : modP x 2 = some (x % 2) := if_pos (by decide)
        rw [e3, obs]
        unfold atS
        obtain ⟨y, hy, hmem⟩ := atI_some (xs := [48, 49]) (Int.emod_nonneg x (show (2 : Int) ≠ 0 by decide)) (Int.emod_lt_of_pos x (show (0 : Int) < 2 by decide))
        rw [hy, obs]
        exact ⟨y, by simpa using hmem, rfl⟩
    obtain ⟨c, hc, hsg⟩ := sign
    rw [hsg]
    simp only [obs]
    unfold catP
    rw [if_pos (by simp; omega)]
    refine ⟨_, rfl, hp.app fun z hz => by rw [List.mem_singleton.mp hz]; exact hc, by simp [hj]⟩
  · rw [hlen] at hI
    exact ⟨s', rfl, hI.1, by omega, by omega⟩

theorem Dig.drop {m : Nat} {b : Int} {ds : List Int} (h : Dig m b ds) (k : Nat) : Dig (m - k) b (ds.drop k) := ⟨by rw [List.length_drop, h.1], fun d hd => h.2 d (List.mem_of_mem_drop hd)⟩
theorem cut_drop {α : Type} (xs : List α) (k : Nat) : cutO xs (some (k : Int)) none = some (xs.drop k) := by
  unfold cutO
  rw [cutL_fn]
/-- a toggle of a line of n characters -/
def Tog (n : Nat) (t : Int × Int) : Prop := 0 ≤ t.1 ∧ t.1 < t.2 ∧ t.2 ≤ n
theorem Tog.mono {n m : Nat} {t : Int × Int} (h : Tog n t) (l : n ≤ m) : Tog m t := ⟨h.1, h.2.1, by have := h.2.2; omega⟩
theorem toggle_some {ds : List Int} (h : 2 ≤ ds.length) {n : Nat} (hn : 0 < n) : ∃ t, m__law_toggle ds n = some t ∧ Tog n t := by
  have e0 : atI ds 0 = some ds[0] := atI_get (i := 0) (by omega)
  have e1 : atI ds 1 = some ds[1] := atI_get (i := 1) (by omega)
  have b1 := Int.emod_nonneg ds[0] (show (n : Int) ≠ 0 by omega)
  have b2 := Int.emod_lt_of_pos ds[0] (show (0 : Int) < n by omega)
  have em : modP ds[0] n = some (ds[0] % n) := if_pos (by omega)
  have em2 : modP ds[1] (n - ds[0] % n) = some (ds[1] % (n - ds[0] % n)) := if_pos (by omega)
  have c1 := Int.emod_nonneg ds[1] (show (n : Int) - ds[0] % n ≠ 0 by omega)
  have c2 := Int.emod_lt_of_pos ds[1] (show (0 : Int) < n - ds[0] % n by omega)
  unfold m__law_toggle
  simp only [obs, e0, e1, em, addI, subI, em2]
  exact ⟨_, rfl, b1, by show ds[0] % n < ds[0] % n + 1 + ds[1] % (n - ds[0] % n); omega, by show ds[0] % n + 1 + ds[1] % (n - ds[0] % n) ≤ n; omega⟩
def Scr (n : Nat) (sc : List (Int × Int)) : Prop := ∀ t ∈ sc, Tog n t
theorem script_some {ds : List Int} {size : Nat} (h : 2 * size + 1 ≤ ds.length) (hs : size ≤ 1000) {n : Nat} (hn : 0 < n) : ∃ sc, m__law_script ds n size = some sc ∧ Scr n sc ∧ sc.length ≤ size := by
  have e0 : atI ds 0 = some ds[0] := atI_get (i := 0) (by omega)
  have b1 := Int.emod_nonneg ds[0] (show (size : Int) + 1 ≠ 0 by omega)
  have b2 := Int.emod_lt_of_pos ds[0] (show (0 : Int) < size + 1 by omega)
  have em : modP ds[0] (size + 1) = some (ds[0] % (size + 1)) := if_pos (by omega)
  unfold m__law_script
  simp only [obs, e0, em, addI]
  rw [rng_eq (by omega) (by omega) (by omega) (by omega), obs]
  refine loop (P := fun o => ∃ sc, runF o = some sc ∧ Scr n sc ∧ sc.length ≤ size) (fun j (s : List (Int × Int)) => Scr n s ∧ s.length = j) ⟨(fun _ h => nomatch h), rfl⟩ (fun j k s hk hs => ?_) fun s' hI => ?_
  · obtain ⟨k1, k2⟩ := rngL_get hk
    obtain ⟨hp, hj⟩ := hs
    have hA : mulP 2 k = some (2 * k) := if_pos (.inl (by omega))
    simp only [obs, hA]
    have ec : cutO ds (some (1 + 2 * k)) (some (3 + 2 * k)) = some ((ds.drop (2 * j + 1)).take 2) := by
      unfold cutO
      have := cutL_ff (xs := ds) (a := 2 * j + 1) (b := 2 * j + 3) (by omega)
      have e1 : (((2 * j + 1 : Nat) : Int)) = 1 + 2 * k := by omega
      have e2 : (((2 * j + 3 : Nat) : Int)) = 3 + 2 * k := by omega
      rw [e1, e2] at this
      rw [this]
      congr 2
      omega
    rw [ec]
    simp only [obs]
    obtain ⟨t, ht, hT⟩ := toggle_some (ds := (ds.drop (2 * j + 1)).take 2) (by rw [List.length_take, List.length_drop]; omega) hn
    rw [ht]
    simp only [obs]
    have e1 : atI ds (1 + 2 * k) = some (ds[2 * j + 1]'(by omega)) := by
      have := atI_get (xs := ds) (i := 2 * j + 1) (by omega)
      rw [← this]
      congr 1
      omega
    have e2 : ∀ z : Int, divP z 50 = some (z / 50) := fun z => if_pos (by decide)
    have e3 : ∀ z : Int, modP z 3 = some (z % 3) := fun z => if_pos (by decide)
    simp only [neD, obs, negI, e1, e2, e3, eqD]
    generalize decide (ds[2 * j + 1] / 50 % 3 = 0) = bb
    have cond : ∃ b : Bool, (if (!decide (s = [])) = true then some bb else some false) = some b ∧ (b = true → s ≠ []) := by
      by_cases he : s = []
      · rw [if_neg (by simp [he])]
        exact ⟨false, rfl, (fun h => nomatch h)⟩
      · rw [if_pos (by simp [he])]
        exact ⟨_, rfl, fun _ => he⟩
    obtain ⟨b, hb1, hb2⟩ := cond
    rw [hb1]
    simp only [obs]
    have pick : ∃ t', (if b = true then atI s (-1) else some t) = some t' ∧ Tog n t' := by
      cases b with
      | true =>
        rw [if_pos rfl, atI_last (hb2 rfl)]
        exact ⟨_, rfl, hp _ (List.getLast_mem _)⟩
      | false =>
        rw [if_neg Bool.false_ne_true]
        exact ⟨t, rfl, hT⟩
    obtain ⟨t', ht', hT'⟩ := pick
    rw [ht']
    simp only [obs]
    refine ⟨s ++ [t'], ?_, fun z hz => ?_, by simp [hj]⟩
    · rw [if_pos (by omega)]
    · rcases List.mem_append.mp hz with hz | hz
      · exact hp z hz
      · rw [List.mem_singleton.mp hz]
        exact hT'
  · refine ⟨s', rfl, hI.1, ?_⟩
    rw [hI.2, rngL_len]
    omega
end Y

namespace Y
open L2 (atI ixN)

/-! ### toggles -/
def sel (p : List Nat) (t : Int × Int) : List Nat := (p.drop t.1.toNat).take (t.2.toNat - t.1.toNat)
def aft (p : List Nat) (t : Int × Int) : List Nat := p.take t.1.toNat ++ List.replicate (t.2.toNat - t.1.toNat) (if 48 ∈ sel p t then 49 else 48) ++ p.drop t.2.toNat
def wSet : List Nat := [115, 101, 116]
def wClear : List Nat := [99, 108, 101, 97, 114]
def eff (p : List Nat) (t : Int × Int) : List Nat := if 48 ∈ sel p t then wSet else wClear
def run (p : List Nat) (sc : List (Int × Int)) : List Nat := sc.foldl aft p
def effs : List Nat → List (Int × Int) → List (List Nat)
  | _, [] => []
  | p, t :: r => eff p t :: effs (aft p t) r

theorem sel_cut {p : List Nat} {t : Int × Int} (h : Tog p.length t) : cutL p (some t.1) (some t.2) = sel p t := by
  obtain ⟨a, ha⟩ := nat_of h.1
  obtain ⟨b, hb⟩ := nat_of (show 0 ≤ t.2 by have := h.1; have := h.2.1; omega)
  have := h.2.2
  unfold sel
  rw [ha, hb, cutL_ff (by omega)]
  simp
theorem sel_len {p : List Nat} {t : Int × Int} (h : Tog p.length t) : (sel p t).length = t.2.toNat - t.1.toNat := by
  obtain ⟨h1, h2, h3⟩ := h
  unfold sel
  rw [List.length_take, List.length_drop]
  omega
theorem aft_len {p : List Nat} {t : Int × Int} (h : Tog p.length t) : (aft p t).length = p.length := by
  obtain ⟨h1, h2, h3⟩ := h
  unfold aft
  rw [List.length_append, List.length_append, List.length_take, List.length_replicate, List.length_drop]
  omega
theorem Pt.sel {p : List Nat} (h : Pt p) (t : Int × Int) : Pt (sel p t) := fun c hc => h c (List.mem_of_mem_drop (List.mem_of_mem_take hc))
theorem Pt.aft {p : List Nat} (h : Pt p) (t : Int × Int) : Pt (aft p t) := by
  unfold Y.aft
  refine Pt.app (Pt.app (fun c hc => h c (List.mem_of_mem_take hc)) fun c hc => ?_) fun c hc => h c (List.mem_of_mem_drop hc)
  rw [(List.mem_replicate.mp hc).2]
  split <;> simp
theorem effect_eq {p : List Nat} {t : Int × Int} (h : Tog p.length t) : m_effect p t = some (eff p t) := by
  unfold m_effect
  simp only [obs, cutO, inS, sel_cut h]
  unfold eff
  by_cases h0 : 48 ∈ sel p t
  · rw [if_pos (decide_eq_true h0), if_pos h0]; rfl
  · rw [if_neg (by simpa using h0), if_neg h0]; rfl
theorem repL_one {c : Nat} {n : Int} : repL [c] n = List.replicate n.toNat c := by
  unfold repL
  generalize n.toNat = m
  induction m with
  | zero => rfl
  | succ m ih => rw [List.replicate_succ, List.replicate_succ, List.flatten_cons, ih]; rfl
theorem repP_one {c : Nat} {n : Int} (h0 : -1000000 ≤ n) (h : n ≤ 1000000) : repP [c] n = some (List.replicate n.toNat c) := by
  unfold repP
  rw [if_pos ⟨by omega, by simp; omega⟩, repL_one]
theorem catP_eq {α : Type} {xs ys : List α} (h : xs.length + ys.length ≤ 16777216) : catP xs ys = some (xs ++ ys) := if_pos h
theorem painted_eq {p : List Nat} {t : Int × Int} {c : Nat} (h : Tog p.length t) (hl : p.length ≤ 100000) :
    (((cutO p none (some t.1)).bind fun a => (repP [c] (t.2 - t.1)).bind fun b => catP a b).bind fun a => (cutO p (some t.2) none).bind fun b => catP a b) = some (p.take t.1.toNat ++ List.replicate (t.2.toNat - t.1.toNat) c ++ p.drop t.2.toNat) := by
  obtain ⟨h1, h2, h3⟩ := h
  obtain ⟨a, ha⟩ := nat_of h1
  obtain ⟨b, hb⟩ := nat_of (show 0 ≤ t.2 by omega)
  unfold cutO
  rw [obs, repP_one (by omega) (by omega), obs]
  rw [ha, hb, cutL_nf, cutL_fn]
  have e : ((b : Int) - (a : Int)).toNat = b - a := by omega
  rw [e, catP_eq (by rw [List.length_take, List.length_replicate]; omega), obs, obs, catP_eq (by rw [List.length_append, List.length_take, List.length_replicate, List.length_drop]; omega)]
  simp
theorem after_eq {p : List Nat} {t : Int × Int} (h : Tog p.length t) (hl : p.length ≤ 100000) : m_after p t = some (aft p t) := by
  unfold m_after
  simp only [obs, effect_eq h, subI, eqD]
  have hc : decide (eff p t = [115, 101, 116]) = decide (48 ∈ sel p t) := by
    unfold eff
    by_cases h0 : 48 ∈ sel p t
    · rw [if_pos h0, decide_eq_true h0]; rfl
    · rw [if_neg h0, decide_eq_false h0]; rfl
  rw [hc]
  unfold aft
  by_cases h0 : 48 ∈ sel p t
  · rw [if_pos (decide_eq_true h0), if_pos h0]
    simp only [obs]
    have := painted_eq (c := 49) h hl
    rw [this]
    rfl
  · rw [if_neg (by simpa using h0), if_neg h0]
    simp only [obs]
    have := painted_eq (c := 48) h hl
    rw [this]
    rfl
theorem toggled_eq {p : List Nat} {t : Int × Int} (hp : Pt p) (h : Tog p.length t) (hl : p.length ≤ 100000) : m__law_toggled p t = some (aft p t) := by
  unfold m__law_toggled
  simp only [obs, subI, eqD, cutO, countS, sel_cut h]
  have hsl := sel_len h
  have hc : decide (((sel p t).count 49 : Int) = t.2 - t.1) = !decide (48 ∈ sel p t) := by
    have key : ∀ l : List Nat, Pt l → (l.count 49 = l.length ↔ 48 ∉ l) := by
      intro l hl
      rw [List.count_eq_length]
      constructor
      · intro h h48
        have := h 48 h48
        omega
      · intro h b hb
        rcases hl b hb with e | e
        · subst e; exact absurd hb h
        · exact e.symm
    have hk := key (sel p t) (hp.sel t)
    obtain ⟨h1, h2, h3⟩ := h
    by_cases h0 : 48 ∈ sel p t
    · rw [decide_eq_true h0]
      refine decide_eq_false fun e => ?_
      exact absurd h0 (hk.mp (by omega))
    · rw [decide_eq_false h0]
      refine decide_eq_true ?_
      have := hk.mpr h0
      omega
  rw [hc]
  unfold aft
  by_cases h0 : 48 ∈ sel p t
  · rw [if_neg (by simp [h0]), if_pos h0]
    simp only [obs]
    have := painted_eq (c := 49) h hl
    unfold cutO at this
    simp only [obs] at this
    rw [this]
    rfl
  · rw [if_pos (by simp [h0]), if_neg h0]
    simp only [obs]
    have := painted_eq (c := 48) h hl
    unfold cutO at this
    simp only [obs] at this
    rw [this]
    rfl
theorem Scr.tail {n : Nat} {t : Int × Int} {r : List (Int × Int)} (h : Scr n (t :: r)) : Scr n r := fun x hx => h x (List.mem_cons_of_mem _ hx)
theorem run_len : ∀ {sc : List (Int × Int)} {p : List Nat}, Scr p.length sc → (run p sc).length = p.length
  | [], _, _ => rfl
  | t :: r, p, h => by
    have e := aft_len (h t List.mem_cons_self)
    show (run (aft p t) r).length = _
    rw [run_len (by rw [e]; exact h.tail), e]
theorem Pt.run : ∀ {sc : List (Int × Int)} {p : List Nat}, Pt p → Pt (run p sc)
  | [], _, h => h
  | t :: r, p, h => Pt.run (sc := r) (h.aft t)
theorem apply_eq {p : List Nat} {sc : List (Int × Int)} (h : Scr p.length sc) (hl : p.length ≤ 100000) : m_apply p sc = some (run p sc) := by
  unfold m_apply
  simp only [obs]
  refine loopF (P := fun o => runF o = some (run p sc)) aft (fun q => q.length = p.length) rfl (fun t ht q hq => ?_) fun _ => rfl
  rw [after_eq (by rw [hq]; exact h t ht) (by omega)]
  exact ⟨rfl, by rw [aft_len (by rw [hq]; exact h t ht)]; exact hq⟩
theorem effs_len : ∀ {sc : List (Int × Int)} {p : List Nat}, (effs p sc).length = sc.length
  | [], _ => rfl
  | t :: r, p => by simp [effs, effs_len (sc := r)]
theorem effects_loop {ρ : Type} {f : Int × Int → List Nat × List (List Nat) → Option (Fl ρ (List Nat × List (List Nat)))} (I : List Nat → Prop) (hI : ∀ q t, I q → I (aft q t)) : ∀ {sc : List (Int × Int)} {p : List Nat} {acc : List (List Nat)} {n : Nat}, Scr n sc → p.length = n → I p → acc.length + sc.length < 16777216 →
    (∀ t ∈ sc, ∀ q a, q.length = n → I q → a.length < 16777216 → f t (q, a) = some (.nx (aft q t, a ++ [eff q t]))) → forL sc (p, acc) f = some (.nx (run p sc, acc ++ effs p sc))
  | [], p, acc, n, _, _, _, _, _ => by simp [forL, effs, run]
  | t :: r, p, acc, n, h, hn, hi, hl, hf => by
    have e := aft_len (p := p) (t := t) (by rw [hn]; exact h t List.mem_cons_self)
    show thenF (f t (p, acc)) _ = _
    simp only [List.length_cons] at hl
    rw [hf t List.mem_cons_self p acc hn hi (by omega), thenF_nx, effects_loop I hI h.tail (by rw [e]; exact hn) (hI p t hi) (by simp; omega) fun t' ht' => hf t' (List.mem_cons_of_mem _ ht')]
    simp [effs, run]
theorem effects_eq {p : List Nat} {sc : List (Int × Int)} (h : Scr p.length sc) (hl : p.length ≤ 100000) (hs : sc.length < 16777216) : m_effects p sc = some (effs p sc) := by
  unfold m_effects
  simp only [obs]
  rw [effects_loop (fun _ => True) (fun _ _ _ => trivial) h rfl trivial (by simpa using hs) fun t ht q a hq _ ha => ?_]
  · rfl
  · have hT : Tog q.length t := by rw [hq]; exact h t ht
    simp only [obs, effect_eq hT, after_eq hT (by omega)]
    rw [if_pos ha]
end Y

namespace Y
open L2 (atI ixN)

/-! ### painted stretches -/
def paint (p : List Nat) (t : Int × Int) (c : Nat) : List Nat := p.take t.1.toNat ++ List.replicate (t.2.toNat - t.1.toNat) c ++ p.drop t.2.toNat
theorem aft_paint (p : List Nat) (t : Int × Int) : aft p t = paint p t (if 48 ∈ sel p t then 49 else 48) := rfl
theorem drop_l {α : Type} {l m : List α} {n : Nat} (h : l.length = n) : (l ++ m).drop n = m := by
  subst h
  exact List.drop_left
theorem paint_len {p : List Nat} {t : Int × Int} {c : Nat} (h : Tog p.length t) : (paint p t c).length = p.length := by
  obtain ⟨h1, h2, h3⟩ := h
  unfold paint
  rw [List.length_append, List.length_append, List.length_take, List.length_replicate, List.length_drop]
  omega
theorem paint_take {p : List Nat} {t : Int × Int} {c : Nat} (h : Tog p.length t) : (paint p t c).take t.1.toNat = p.take t.1.toNat := by
  obtain ⟨h1, h2, h3⟩ := h
  unfold paint
  rw [List.append_assoc, List.take_append_of_le_length (by rw [List.length_take]; omega), List.take_take, Nat.min_self]
theorem paint_drop {p : List Nat} {t : Int × Int} {c : Nat} (h : Tog p.length t) : (paint p t c).drop t.2.toNat = p.drop t.2.toNat := by
  obtain ⟨h1, h2, h3⟩ := h
  unfold paint
  have e : (p.take t.1.toNat ++ List.replicate (t.2.toNat - t.1.toNat) c).length = t.2.toNat := by
    rw [List.length_append, List.length_take, List.length_replicate]
    omega
  exact drop_l e
theorem paint_sel {p : List Nat} {t : Int × Int} {c : Nat} (h : Tog p.length t) : sel (paint p t c) t = List.replicate (t.2.toNat - t.1.toNat) c := by
  obtain ⟨h1, h2, h3⟩ := h
  unfold sel paint
  have e : (p.take t.1.toNat).length = t.1.toNat := by
    rw [List.length_take]
    omega
  rw [List.append_assoc]
  rw [drop_l e, List.take_append_of_le_length (by rw [List.length_replicate]; omega), List.take_of_length_le (by rw [List.length_replicate]; omega)]
theorem paint_paint {p : List Nat} {t : Int × Int} {c d : Nat} (h : Tog p.length t) : paint (paint p t c) t d = paint p t d := by
  have h1 := paint_take (c := c) h
  have h2 := paint_drop (c := c) h
  show (paint p t c).take t.1.toNat ++ List.replicate (t.2.toNat - t.1.toNat) d ++ (paint p t c).drop t.2.toNat = _
  rw [h1, h2]
  rfl
theorem mem_repl {n c : Nat} (h : 0 < n) : 48 ∈ List.replicate n c ↔ c = 48 := by
  rw [List.mem_replicate]
  constructor
  · rintro ⟨_, e⟩; exact e.symm
  · rintro rfl; exact ⟨by omega, rfl⟩
theorem tog_pos {n : Nat} {t : Int × Int} (h : Tog n t) : 0 < t.2.toNat - t.1.toNat := by
  obtain ⟨h1, h2, h3⟩ := h
  omega
theorem aft_of_paint {p : List Nat} {t : Int × Int} {c : Nat} (h : Tog p.length t) : aft (paint p t c) t = paint p t (if c = 48 then 49 else 48) := by
  rw [aft_paint, paint_sel h, paint_paint h]
  congr 1
  by_cases hc : c = 48
  · rw [if_pos hc, if_pos ((mem_repl (tog_pos h)).mpr hc)]
  · rw [if_neg hc, if_neg (fun z => hc ((mem_repl (tog_pos h)).mp z))]
theorem aft2 {p : List Nat} {t : Int × Int} (h : Tog p.length t) : aft (aft p t) t = paint p t (if 48 ∈ sel p t then 48 else 49) := by
  rw [aft_paint p t, aft_of_paint h]
  congr 1
  by_cases hc : 48 ∈ sel p t
  · rw [if_pos hc, if_pos hc, if_neg (by decide)]
  · rw [if_neg hc, if_neg hc, if_pos rfl]
/-- three times is once -/
theorem aft3 {p : List Nat} {t : Int × Int} (h : Tog p.length t) : aft (aft (aft p t) t) t = aft p t := by
  rw [aft2 h, aft_of_paint h, aft_paint]
  congr 1
  by_cases hc : 48 ∈ sel p t
  · rw [if_pos hc, if_pos hc, if_pos rfl]
  · rw [if_neg hc, if_neg hc, if_neg (by decide)]
theorem eff2 {p : List Nat} {t : Int × Int} (h : Tog p.length t) : eff (aft p t) t = if 48 ∈ sel p t then wClear else wSet := by
  unfold eff
  rw [aft_paint, paint_sel h]
  by_cases hc : 48 ∈ sel p t
  · rw [if_pos hc, if_pos hc, if_neg (fun z => by have := (mem_repl (tog_pos h)).mp z; omega)]
  · rw [if_neg hc, if_neg hc, if_pos ((mem_repl (tog_pos h)).mpr rfl)]
theorem eff3 {p : List Nat} {t : Int × Int} (h : Tog p.length t) : eff (aft (aft p t) t) t = eff p t := by
  have h' : Tog (aft p t).length t := by rw [aft_len h]; exact h
  rw [eff2 h']
  unfold eff
  rw [aft_paint p t, paint_sel h]
  by_cases hc : 48 ∈ sel p t
  · rw [if_pos hc, if_pos hc, if_neg (fun z => by have := (mem_repl (tog_pos h)).mp z; omega)]
  · rw [if_neg hc, if_neg hc, if_pos ((mem_repl (tog_pos h)).mpr rfl)]

/-! ### sign by sign -/
theorem aft_get {p : List Nat} {t : Int × Int} (h : Tog p.length t) {j : Nat} : (aft p t)[j]? = if t.1.toNat ≤ j ∧ j < t.2.toNat then some (if 48 ∈ sel p t then 49 else 48) else p[j]? := by
  obtain ⟨h1, h2, h3⟩ := h
  unfold aft
  generalize (if 48 ∈ sel p t then 49 else 48) = c
  by_cases hj : j < t.1.toNat
  · rw [if_neg (by omega), List.append_assoc, List.getElem?_append_left (by rw [List.length_take]; omega), List.getElem?_take_of_lt hj]
  · by_cases hj2 : j < t.2.toNat
    · rw [if_pos ⟨by omega, hj2⟩, List.getElem?_append_left (by rw [List.length_append, List.length_take, List.length_replicate]; omega), List.getElem?_append_right (by rw [List.length_take]; omega), List.length_take,
        List.getElem?_replicate, if_pos (by omega)]
    · rw [if_neg (by omega), List.getElem?_append_right (by rw [List.length_append, List.length_take, List.length_replicate]; omega), List.length_append, List.length_take, List.length_replicate, List.getElem?_drop]
      congr 1
      omega
theorem sel_get {p : List Nat} {t : Int × Int} {j : Nat} : (sel p t)[j]? = if j < t.2.toNat - t.1.toNat then p[t.1.toNat + j]? else none := by
  unfold sel
  by_cases h : j < t.2.toNat - t.1.toNat
  · rw [if_pos h, List.getElem?_take_of_lt h, List.getElem?_drop]
  · rw [if_neg h, List.getElem?_take_eq_none (by omega)]
theorem mem_sel {p : List Nat} {t : Int × Int} {c : Nat} : c ∈ sel p t ↔ ∃ j, t.1.toNat ≤ j ∧ j < t.2.toNat ∧ p[j]? = some c := by
  rw [List.mem_iff_getElem?]
  constructor
  · rintro ⟨j, h⟩
    rw [sel_get] at h
    split at h
    · exact ⟨t.1.toNat + j, by omega, by omega, h⟩
    · cases h
  · rintro ⟨j, h1, h2, h3⟩
    refine ⟨j - t.1.toNat, ?_⟩
    rw [sel_get, if_pos (by omega), show t.1.toNat + (j - t.1.toNat) = j by omega, h3]
theorem aft_same_sel {p : List Nat} {t u : Int × Int} (h : Tog p.length t) (d : t.2 ≤ u.1 ∨ u.2 ≤ t.1) : 48 ∈ sel (aft p t) u ↔ 48 ∈ sel p u := by
  have h' := h
  obtain ⟨h1, h2, h3⟩ := h
  rw [mem_sel, mem_sel]
  constructor
  · rintro ⟨j, a, b, c⟩
    rw [aft_get h', if_neg (by omega)] at c
    exact ⟨j, a, b, c⟩
  · rintro ⟨j, a, b, c⟩
    refine ⟨j, a, b, ?_⟩
    rw [aft_get h', if_neg (by omega)]
    exact c
/-- toggles apart can be exchanged -/
theorem aft_comm {p : List Nat} {t u : Int × Int} (ht : Tog p.length t) (hu : Tog p.length u) (d : t.2 ≤ u.1 ∨ u.2 ≤ t.1) : aft (aft p t) u = aft (aft p u) t := by
  have e1 := aft_same_sel (u := u) ht d
  have e2 := aft_same_sel (p := p) (t := u) (u := t) hu d.symm
  refine List.ext_getElem? fun j => ?_
  rw [aft_get (p := aft p t) (by rw [aft_len ht]; exact hu), aft_get (p := aft p u) (by rw [aft_len hu]; exact ht), aft_get ht, aft_get hu]
  simp only [e1, e2]
  obtain ⟨h1, h2, h3⟩ := ht
  obtain ⟨g1, g2, g3⟩ := hu
  by_cases ha : t.1.toNat ≤ j ∧ j < t.2.toNat
  · rw [if_pos ha, if_neg (by omega), if_pos ha]
  · rw [if_neg ha, if_neg ha]
/-- one plain sign in t alone tells the order -/
theorem aft_order {p : List Nat} {t u : Int × Int} (ht : Tog p.length t) (hu : Tog p.length u) {i o : Nat} (hi : t.1.toNat ≤ i ∧ i < t.2.toNat) (hi' : ¬ (u.1.toNat ≤ i ∧ i < u.2.toNat))
    (ho : t.1.toNat ≤ o ∧ o < t.2.toNat) (ho' : u.1.toNat ≤ o ∧ o < u.2.toNat) (h0 : p[i]? = some 48) (h1 : ∀ j, j ≠ i → p[j]? ≠ some 48) : aft (aft p t) u ≠ aft (aft p u) t := by
  intro e
  have e : (aft (aft p t) u)[o]? = (aft (aft p u) t)[o]? := by rw [e]
  rw [aft_get (p := aft p t) (by rw [aft_len ht]; exact hu), aft_get (p := aft p u) (by rw [aft_len hu]; exact ht), if_pos ho', if_pos ho] at e
  have s1 : 48 ∈ sel p t := mem_sel.mpr ⟨i, hi.1, hi.2, h0⟩
  have n1 : ¬ 48 ∈ sel (aft p t) u := fun h => by
    obtain ⟨j, a, b, c⟩ := mem_sel.mp h
    rw [aft_get ht, if_pos s1] at c
    split at c
    · cases c
    · exact h1 j (fun z => hi' (by rw [← z]; exact ⟨a, b⟩)) c
  have s2 : 48 ∈ sel (aft p u) t := mem_sel.mpr ⟨i, hi.1, hi.2, by rw [aft_get hu, if_neg hi']; exact h0⟩
  rw [if_neg n1, if_pos s2] at e
  cases e

/-! ### all patterns -/
def pats : Nat → List (List Nat)
  | 0 => [[]]
  | n + 1 => (pats n).flatMap fun p => [p ++ [48], p ++ [49]]
theorem pats_len : ∀ n, (pats n).length = 2 ^ n
  | 0 => rfl
  | n + 1 => by
    have : ∀ l : List (List Nat), (l.flatMap fun p => [p ++ [48], p ++ [49]]).length = 2 * l.length := by
      intro l
      induction l with
      | nil => rfl
      | cons a l ih => rw [List.flatMap_cons, List.length_append, ih]; simp; omega
    show ((pats n).flatMap _).length = _
    rw [this, pats_len n, Nat.pow_succ]
    omega
theorem mem_pats : ∀ {n : Nat} {p : List Nat}, p ∈ pats n ↔ p.length = n ∧ Pt p
  | 0, p => by
    constructor
    · intro h
      rw [List.mem_singleton.mp h]
      exact ⟨rfl, fun _ h => nomatch h⟩
    · rintro ⟨h, _⟩
      rw [List.length_eq_zero_iff.mp h]
      exact List.mem_singleton.mpr rfl
  | n + 1, p => by
    show p ∈ (pats n).flatMap _ ↔ _
    rw [List.mem_flatMap]
    constructor
    · rintro ⟨q, hq, hp⟩
      obtain ⟨h1, h2⟩ := mem_pats.mp hq
      rcases List.mem_cons.mp hp with rfl | hp
      · exact ⟨by simp [h1], h2.app fun c hc => .inl (List.mem_singleton.mp hc)⟩
      · rw [List.mem_singleton.mp hp]
        exact ⟨by simp [h1], h2.app fun c hc => .inr (List.mem_singleton.mp hc)⟩
    · rintro ⟨h1, h2⟩
      have hne : p ≠ [] := fun e => by rw [e] at h1; cases h1
      refine ⟨p.dropLast, mem_pats.mpr ⟨by rw [List.length_dropLast]; omega, fun c hc => h2 c (List.dropLast_subset p hc)⟩, ?_⟩
      have e := List.dropLast_concat_getLast hne
      rcases h2 _ (List.getLast_mem hne) with hc | hc
      · rw [hc] at e
        rw [e]
        exact List.mem_cons_self
      · rw [hc] at e
        rw [e]
        exact List.mem_cons_of_mem _ List.mem_cons_self
theorem lc2_pats : ∀ (l : List (List Nat)), (∀ p ∈ l, p.length ≤ 1000) → lc2O (fun _ => some (chars [48, 49])) (fun x y => catP x y) l = some (l.flatMap fun p => [p ++ [48], p ++ [49]])
  | [], _ => rfl
  | p :: l, h => by
    have hp := h p List.mem_cons_self
    unfold lc2O
    rw [obs]
    have e : mapO (fun y => catP p y) (chars [48, 49]) = some [p ++ [48], p ++ [49]] := by
      show (catP p [48]).bind _ = _
      rw [catP_eq (by simp; omega), obs]
      show ((catP p [49]).bind _).bind _ = _
      rw [catP_eq (by simp; omega), obs]
      rfl
    rw [e, obs, lc2_pats l fun q hq => h q (List.mem_cons_of_mem _ hq), obs]
    rfl
theorem foldl_pats : ∀ (m k : Nat), (List.range m).foldl (fun (s : List (List Nat)) _ => s.flatMap fun p => [p ++ [48], p ++ [49]]) (pats k) = pats (k + m)
  | 0, k => rfl
  | m + 1, k => by
    rw [List.range_succ, List.foldl_append, foldl_pats m k]
    rfl
theorem all_patterns_eq {n : Nat} (h : n ≤ 20) : m_all_patterns n = some (pats n) := by
  unfold m_all_patterns
  simp only [obs]
  rw [rng_eq (by omega) (by omega) (by omega) (by omega), obs]
  refine loop (P := fun o => runF o = some (pats n)) (fun j (s : List (List Nat)) => s = pats j) rfl (fun j x s hx hs => ?_) fun s' hs => ?_
  · subst hs
    have hj : j < n := by
      have := (List.getElem?_eq_some_iff.mp hx).1
      rw [rngL_len] at this
      omega
    rw [lc2_pats _ fun p hp => by rw [(mem_pats.mp hp).1]; omega, obs]
    have hl : ((pats j).flatMap fun p => [p ++ [48], p ++ [49]]).length ≤ 16777216 := by
      have := pats_len (j + 1)
      have e : ((pats j).flatMap fun p => [p ++ [48], p ++ [49]]) = pats (j + 1) := rfl
      rw [e, this]
      exact Nat.le_trans (Nat.pow_le_pow_right (by decide) (by omega : j + 1 ≤ 20)) (by decide)
    unfold lenOk
    rw [if_pos hl, obs]
    exact ⟨_, rfl, rfl⟩
  · rw [rngL_len] at hs
    have e : ((n : Int) - 0).toNat = n := by omega
    rw [e] at hs
    subst hs
    rfl
theorem law_patterns_eq {n : Nat} (h : n ≤ 20) : m__law_patterns n = some (pats n) := by
  unfold m__law_patterns
  simp only [obs]
  rw [rng_eq (by omega) (by omega) (by omega) (by omega), obs]
  refine loop (P := fun o => runF o = some (pats n)) (fun j (s : List (List Nat)) => s = pats j) rfl (fun j x s hx hs => ?_) fun s' hs => ?_
  · subst hs
    have hj : j < n := by
      have := (List.getElem?_eq_some_iff.mp hx).1
      rw [rngL_len] at this
      omega
    have hpl := pats_len j
    have hpow : 2 ^ j ≤ 2 ^ 20 := Nat.pow_le_pow_right (by decide) (by omega)
    refine loop (P := fun o => ∃ s', o = some (.nx s') ∧ s' = pats (j + 1)) (fun i (s : List (List Nat)) => s = ((pats j).take i).flatMap fun p => [p ++ [48], p ++ [49]]) rfl (fun i p s hp hs => ?_) fun s' hs => ?_
    · have hi := (List.getElem?_eq_some_iff.mp hp).1
      have hpl2 : p.length = j := (mem_pats.mp (List.mem_of_getElem? hp)).1
      rw [catP_eq (xs := p) (by simp; omega), obs, catP_eq (xs := p) (by simp; omega), obs, obs]
      have hsl : s.length = 2 * i := by
        subst hs
        have : ∀ l : List (List Nat), (l.flatMap fun p => [p ++ [48], p ++ [49]]).length = 2 * l.length := by
          intro l
          induction l with
          | nil => rfl
          | cons a l ih => rw [List.flatMap_cons, List.length_append, ih]; simp; omega
        rw [this, List.length_take]
        omega
      rw [obs, catP_eq (by rw [hsl]; simp; omega), obs]
      refine ⟨_, rfl, ?_⟩
      subst hs
      rw [List.take_add_one, hp, List.flatMap_append]
      rfl
    · rw [List.take_length] at hs
      exact ⟨s', rfl, hs⟩
  · rw [rngL_len] at hs
    have e : ((n : Int) - 0).toNat = n := by omega
    rw [e] at hs
    subst hs
    rfl

/-! ### searches -/
theorem forL_search {α ρ : Type} {f : α → Unit → Option (Fl ρ Unit)} (c : α → Bool) (r : α → ρ) : ∀ {xs : List α}, (∀ x ∈ xs, f x () = if c x = true then some (.ret (r x)) else some (.nx ())) →
    forL xs () f = match xs.find? c with | some x => some (.ret (r x)) | none => some (.nx ())
  | [], _ => rfl
  | x :: xs, h => by
    show thenF (f x ()) _ = _
    rw [h x List.mem_cons_self, List.find?_cons]
    by_cases hc : c x = true
    · rw [if_pos hc, hc, thenF_ret]
    · have hc' : c x = false := by simpa using hc
      rw [if_neg hc, hc', thenF_nx]
      exact forL_search c r fun y hy => h y (List.mem_cons_of_mem _ hy)
def differ (a b : List (Int × Int)) (p : List Nat) : Bool := !decide (run p a = run p b)
theorem first_difference_eq {n : Nat} {a b : List (Int × Int)} (hn : n ≤ 20) (ha : Scr n a) (hb : Scr n b) : m_first_difference n a b = some ((pats n).find? (differ a b)) := by
  unfold m_first_difference
  simp only [obs, all_patterns_eq hn]
  rw [forL_search (differ a b) (fun p => some p) fun p hp => ?_]
  · cases (pats n).find? (differ a b) <;> rfl
  · have hl := (mem_pats.mp hp).1
    rw [apply_eq (by rw [hl]; exact ha) (by omega), obs, apply_eq (by rw [hl]; exact hb) (by omega), obs]
    simp only [neD, obs, differ, thenF_if]
    rfl
theorem equal_eq {n : Nat} {a b : List (Int × Int)} (hn : n ≤ 20) (ha : Scr n a) (hb : Scr n b) : m_equal n a b = some (((pats n).find? (differ a b)).isNone) := by
  unfold m_equal
  simp only [obs, first_difference_eq hn ha hb, isN]
  rfl
theorem equal_true {n : Nat} {a b : List (Int × Int)} : ((pats n).find? (differ a b)).isNone = true ↔ ∀ p, p.length = n → Pt p → run p a = run p b := by
  rw [Option.isNone_iff_eq_none, List.find?_eq_none]
  constructor
  · intro h p h1 h2
    have := h p (mem_pats.mpr ⟨h1, h2⟩)
    simpa [differ] using this
  · intro h p hp
    obtain ⟨h1, h2⟩ := mem_pats.mp hp
    simp [differ, h p h1 h2]
theorem run_app (p : List Nat) (a b : List (Int × Int)) : run p (a ++ b) = run (run p a) b := List.foldl_append
theorem Scr.app {n : Nat} {a b : List (Int × Int)} (ha : Scr n a) (hb : Scr n b) : Scr n (a ++ b) := fun t ht => (List.mem_append.mp ht).elim (ha t) (hb t)
theorem Scr.rep {n m : Nat} {t : Int × Int} (h : Tog n t) : Scr n (List.replicate m t) := fun x hx => by rw [(List.mem_replicate.mp hx).2]; exact h
theorem repL_tog {m : Nat} {t : Int × Int} : repL [t] (m : Int) = List.replicate m t := by
  unfold repL
  rw [Int.toNat_natCast]
  induction m with
  | zero => rfl
  | succ m ih => rw [List.replicate_succ, List.replicate_succ, List.flatten_cons, ih]; rfl
theorem repT_tog {m : Nat} {t : Int × Int} (h : 1 ≤ m) (h2 : m ≤ 1000) : repT [t] (m : Int) = some (List.replicate m t) := by
  unfold repT
  rw [if_pos, repL_tog]
  by_cases h1 : m = 1
  · exact .inl (by omega)
  · exact .inr ⟨by simp, by omega, by omega, by simp⟩
/-- a toggle is repeated twice more -/
theorem run_rep2 {p : List Nat} {t : Int × Int} (h : Tog p.length t) : ∀ {m : Nat}, 1 ≤ m → run p (List.replicate (m + 2) t) = run p (List.replicate m t)
  | 1, _ => aft3 h
  | m + 2, _ => by
    rw [List.replicate_succ, List.replicate_succ]
    show run (aft p t) (List.replicate (m + 3) t) = run (aft p t) (List.replicate (m + 1) t)
    exact run_rep2 (p := aft p t) (by rw [aft_len h]; exact h) (m := m + 1) (by omega)
end Y

namespace Y
open L2 (atI ixN)

/-! ### lists -/
theorem mapO_eq {α β : Type} {f : α → Option β} {g : α → β} : ∀ {xs : List α}, (∀ x ∈ xs, f x = some (g x)) → mapO f xs = some (xs.map g)
  | [], _ => rfl
  | x :: xs, h => by
    unfold mapO
    rw [h x List.mem_cons_self, obs, mapO_eq fun y hy => h y (List.mem_cons_of_mem _ hy), obs]
    rfl
theorem filO_eq {α β : Type} {c : α → Option Bool} {f : α → Option β} {d : α → Bool} {g : α → β} : ∀ {xs : List α}, (∀ x ∈ xs, c x = some (d x)) → (∀ x ∈ xs, f x = some (g x)) → filO c f xs = some ((xs.filter d).map g)
  | [], _, _ => rfl
  | x :: xs, h, h' => by
    unfold filO
    rw [h x List.mem_cons_self, obs, filO_eq (fun y hy => h y (List.mem_cons_of_mem _ hy)) fun y hy => h' y (List.mem_cons_of_mem _ hy), h' x List.mem_cons_self, obs, obs]
    by_cases hd : d x = true
    · rw [if_pos hd, List.filter_cons_of_pos hd]
      rfl
    · rw [if_neg hd, List.filter_cons_of_neg hd]
/-- what is picked in a loop -/
theorem forL_pick {α γ ρ : Type} {f : α → List γ → Option (Fl ρ (List γ))} (c : α → Bool) (h : α → γ) : ∀ {xs : List α} {acc : List γ}, acc.length + xs.length < 16777216 →
    (∀ x ∈ xs, ∀ a, a.length < 16777216 → f x a = some (.nx (if c x = true then a ++ [h x] else a))) → forL xs acc f = some (.nx (acc ++ (xs.filter c).map h))
  | [], acc, _, _ => by simp [forL]
  | x :: xs, acc, hl, hf => by
    show thenF (f x acc) _ = _
    simp only [List.length_cons] at hl
    rw [hf x List.mem_cons_self acc (by omega), thenF_nx]
    by_cases hc : c x = true
    · rw [if_pos hc, forL_pick c h (by simp; omega) fun y hy => hf y (List.mem_cons_of_mem _ hy), List.filter_cons_of_pos hc]
      simp
    · rw [if_neg hc, forL_pick c h (by omega) fun y hy => hf y (List.mem_cons_of_mem _ hy), List.filter_cons_of_neg hc]
theorem atI_zero_head {α : Type} (l : List α) (d : Option α) : atI (l.map some ++ [d]) 0 = some (match l.head? with | some x => some x | none => d) := by
  cases l with
  | nil => rfl
  | cons x l =>
    have := atI_get (xs := (x :: l).map some ++ [d]) (i := 0) (by simp)
    exact this
theorem head_none {α : Type} (l : List α) : atI (l.map some ++ [none]) 0 = some l.head? := by
  rw [atI_zero_head]
  cases l.head? <;> rfl
theorem cut_fn {α : Type} {xs : List α} (a : Nat) : cutO xs (some (a : Int)) none = some (xs.drop a) := by
  unfold cutO
  rw [cutL_fn]
theorem cut_nf {α : Type} {xs : List α} (a : Nat) : cutO xs none (some (a : Int)) = some (xs.take a) := by
  unfold cutO
  rw [cutL_nf]
theorem cut_but1 {α : Type} {xs : List α} : cutO xs none (some (-1)) = some xs.dropLast := by
  unfold cutO cutL
  have e : HT.sIx xs.length xs.length (some (-1)) = xs.length - 1 := by
    unfold HT.sIx
    simp
    omega
  rw [HT.sIx_none, e, List.dropLast_eq_take]
  simp
theorem cut_last1 {α : Type} {xs : List α} : cutO xs (some (-1)) none = some (xs.drop (xs.length - 1)) := by
  unfold cutO cutL
  have e : HT.sIx xs.length 0 (some (-1)) = xs.length - 1 := by
    unfold HT.sIx
    simp
    omega
  rw [HT.sIx_none, e]
  rw [List.take_of_length_le (by rw [List.length_drop]; omega)]

/-! ### scripts -/
theorem law_after_eq {p : List Nat} {sc : List (Int × Int)} (hp : Pt p) (h : Scr p.length sc) (hl : p.length ≤ 100000) : m__law_after p sc = some (run p sc) := by
  unfold m__law_after
  simp only [obs]
  refine loopF (P := fun o => runF o = some (run p sc)) aft (fun q => q.length = p.length ∧ Pt q) ⟨rfl, hp⟩ (fun t ht q hq => ?_) fun _ => rfl
  have hT : Tog q.length t := by rw [hq.1]; exact h t ht
  rw [toggled_eq hq.2 hT (by omega)]
  exact ⟨rfl, by rw [aft_len hT]; exact hq.1, hq.2.aft t⟩
/-- the script without its i-th toggle -/
def del {α : Type} (sc : List α) (i : Nat) : List α := sc.take i ++ sc.drop (i + 1)
theorem Scr.take {n : Nat} {sc : List (Int × Int)} (h : Scr n sc) (i : Nat) : Scr n (sc.take i) := fun t ht => h t (List.mem_of_mem_take ht)
theorem Scr.drop {n : Nat} {sc : List (Int × Int)} (h : Scr n sc) (i : Nat) : Scr n (sc.drop i) := fun t ht => h t (List.mem_of_mem_drop ht)
theorem Scr.del {n : Nat} {sc : List (Int × Int)} (h : Scr n sc) (i : Nat) : Scr n (del sc i) := (h.take i).app (h.drop _)
theorem Scr.one {n : Nat} {t : Int × Int} (h : Tog n t) : Scr n [t] := fun x hx => by rw [List.mem_singleton.mp hx]; exact h
theorem Scr.nil {n : Nat} : Scr n [] := fun _ h => nomatch h
theorem Scr.cons {n : Nat} {t : Int × Int} {r : List (Int × Int)} (h : Tog n t) (hr : Scr n r) : Scr n (t :: r) := fun x hx => by
  rcases List.mem_cons.mp hx with rfl | hx
  · exact h
  · exact hr x hx
theorem pats_small {n : Nat} (h : n ≤ 20) : (pats n).length ≤ 1048576 := by
  rw [pats_len]
  exact Nat.pow_le_pow_right (by decide) h
theorem del_eq {α : Type} {sc : List α} {i : Int} (h0 : 0 ≤ i) (hl : sc.length ≤ 1000) : ((cutO sc none (some i)).bind fun a => (cutO sc (some (i + 1)) none).bind fun b => catP a b) = some (del sc i.toNat) := by
  obtain ⟨n, rfl⟩ := nat_of h0
  have e : (n : Int) + 1 = ((n + 1 : Nat) : Int) := by omega
  rw [cut_nf, e, cut_fn, obs, obs, catP_eq (by rw [List.length_take, List.length_drop]; omega)]
  rfl
theorem redundant_eq {n : Nat} {sc : List (Int × Int)} (hn : n ≤ 20) (h : Scr n sc) (hl : sc.length ≤ 1000) : m_redundant_steps n sc = some ((rngL 0 sc.length).filter fun i => ((pats n).find? (differ sc (del sc i.toNat))).isNone) := by
  unfold m_redundant_steps
  simp only [obs, lenL]
  rw [rng_eq (by decide) (by decide) (by omega) (by omega), obs]
  rw [forL_pick (fun i => ((pats n).find? (differ sc (del sc i.toNat))).isNone) (fun i => i) (by rw [rngL_len]; simp; omega) fun i hi a ha => ?body]
  case body =>
    obtain ⟨i0, i1⟩ := mem_rngL.mp hi
    have hd := del_eq (sc := sc) i0 hl
    simp only [obs, addI]
    rw [hd]
    simp only [obs]
    rw [equal_eq hn h (h.del _), obs]
    split
    · first | rfl | (rw [if_pos ha]; rfl)
    · rfl
  · simp [thenF_nx, runF_ret]
theorem law_results_eq {n : Nat} {sc : List (Int × Int)} (hn : n ≤ 20) (h : Scr n sc) : m__law_results n sc = some ((pats n).map fun p => run p sc) := by
  unfold m__law_results
  simp only [obs, law_patterns_eq hn]
  rw [mapO_eq (g := fun p => run p sc) fun p hp => ?_]
  · rfl
  · obtain ⟨h1, h2⟩ := mem_pats.mp hp
    exact law_after_eq h2 (by rw [h1]; exact h) (by omega)
theorem results_iff {n : Nat} {a b : List (Int × Int)} : ((pats n).map fun p => run p a) = ((pats n).map fun p => run p b) ↔ ((pats n).find? (differ a b)).isNone = true := by
  rw [List.map_inj_left, equal_true]
  constructor
  · intro h p h1 h2
    exact h p (mem_pats.mpr ⟨h1, h2⟩)
  · intro h p hp
    obtain ⟨h1, h2⟩ := mem_pats.mp hp
    exact h p h1 h2
theorem same_eq (a b : Bool) : m__law_same_bool a b = some (decide (a = b)) := by
  unfold m__law_same_bool
  simp only [obs, ifT, eqD]
  rfl
theorem zip3_map {α β γ : Type} (xs : List α) (f : α → β) (g : α → γ) : List.zip xs (List.zip (xs.map f) (xs.map g)) = xs.map fun x => (x, f x, g x) := by
  induction xs with
  | nil => rfl
  | cons x xs ih => simp [ih]
end Y

/-! Sorting that the kernel can run. -/
namespace Y
def mgF {α : Type} (le : α → α → Bool) : Nat → List α → List α → List α
  | 0, _, _ => []
  | _ + 1, [], ys => ys
  | _ + 1, x :: xs, [] => x :: xs
  | k + 1, x :: xs, y :: ys => if le x y then x :: mgF le k xs (y :: ys) else y :: mgF le k (x :: xs) ys
theorem mg_eq {α : Type} {le : α → α → Bool} : ∀ {k : Nat} {xs ys : List α}, xs.length + ys.length < k → List.merge xs ys le = mgF le k xs ys
  | 0, _, _, h => absurd h (Nat.not_lt_zero _)
  | _ + 1, [], ys, _ => by rw [List.nil_merge]; rfl
  | _ + 1, x :: xs, [], _ => by rw [List.merge_right]; rfl
  | k + 1, x :: xs, y :: ys, h => by
    rw [List.cons_merge_cons]
    simp only [List.length_cons] at h
    show _ = if le x y then x :: mgF le k xs (y :: ys) else y :: mgF le k (x :: xs) ys
    rw [mg_eq (k := k) (xs := xs) (ys := y :: ys) (by simp only [List.length_cons]; omega), mg_eq (k := k) (xs := x :: xs) (ys := ys) (by simp only [List.length_cons]; omega)]
def msF {α : Type} (le : α → α → Bool) : Nat → List α → List α
  | 0, _ => []
  | _ + 1, [] => []
  | _ + 1, [a] => [a]
  | k + 1, a :: b :: xs => mgF le (xs.length + 3) (msF le k ((a :: b :: xs).take ((xs.length + 3) / 2))) (msF le k ((a :: b :: xs).drop ((xs.length + 3) / 2)))
theorem ms_eq {α : Type} {le : α → α → Bool} : ∀ {k : Nat} {xs : List α}, xs.length < k → xs.mergeSort le = msF le k xs
  | 0, _, h => absurd h (Nat.not_lt_zero _)
  | _ + 1, [], _ => List.mergeSort_nil
  | _ + 1, [a], _ => List.mergeSort_singleton _
  | k + 1, a :: b :: xs, h => by
    simp only [List.length_cons] at h
    rw [List.mergeSort]
    have e1 : (a :: b :: xs).length = xs.length + 2 := rfl
    have e2 : ∀ q, (List.MergeSort.Internal.splitInTwo (⟨a :: b :: xs, q⟩ : { l : List α // l.length = xs.length + 2 })).1.1 = (a :: b :: xs).take ((xs.length + 3) / 2) := fun q => congrArg Subtype.val (List.MergeSort.Internal.splitInTwo_fst _)
    have e3 : ∀ q, (List.MergeSort.Internal.splitInTwo (⟨a :: b :: xs, q⟩ : { l : List α // l.length = xs.length + 2 })).2.1 = (a :: b :: xs).drop ((xs.length + 3) / 2) := fun q => congrArg Subtype.val (List.MergeSort.Internal.splitInTwo_snd _)
    have l1 : ((a :: b :: xs).take ((xs.length + 3) / 2)).length < k := by rw [List.length_take, e1]; omega
    have l2 : ((a :: b :: xs).drop ((xs.length + 3) / 2)).length < k := by rw [List.length_drop, e1]; omega
    show List.merge (List.mergeSort (List.MergeSort.Internal.splitInTwo (⟨a :: b :: xs, rfl⟩ : { l : List α // l.length = xs.length + 2 })).1.1 le) (List.mergeSort (List.MergeSort.Internal.splitInTwo (⟨a :: b :: xs, rfl⟩ : { l : List α // l.length = xs.length + 2 })).2.1 le) le = _
    rw [e2, e3, ms_eq l1, ms_eq l2]
    refine mg_eq ?_
    rw [← ms_eq l1, ← ms_eq l2, List.length_mergeSort, List.length_mergeSort, List.length_take, List.length_drop, e1]
    omega
def srtSetK {α : Type} [DecidableEq α] (R : Rp α) (xs : List α) : Option (List α) := if xs.length + 1 < 4096 then some (msF (leR R) ((dd xs).length + 1) (dd xs)) else none
def srtTK {α : Type} (R : Rp α) (xs : List (List α)) : Option (List (List α)) := if (∀ x ∈ xs, x ≠ []) ∨ xs.length < 2 then some (msF (leR (rT R)) (xs.length + 1) xs) else none
def srtRK {α : Type} (R : Rp α) (xs : List α) : Option (List α) := some (msF (leR R) (xs.length + 1) xs)
theorem e_srtSet : @srtSet = @srtSetK := by
  funext α i R xs
  unfold srtSet srtSetK
  rw [ms_eq (Nat.lt_succ_self _)]
theorem e_srtT : @srtT = @srtTK := by
  funext α R xs
  unfold srtT srtTK
  rw [ms_eq (Nat.lt_succ_self _)]
theorem e_srtR : @srtR = @srtRK := by
  funext α R xs
  unfold srtR srtRK
  rw [ms_eq (Nat.lt_succ_self _)]
example : srtSetK rI [3,1,2,3,0] = some [0,1,2,3] := by decide +kernel
example : srtTK rS [[[3,1],[2]],[[3],[0]]] = some [[[3],[0]], [[3,1],[2]]] := by decide +kernel
end Y

namespace Y
open L2 (atI ixN)
def k_cuts (length_1 : Int) (toggles_1 : (List (Int × Int))) : Option (List Int) :=
  runF (((some (0 : Int)).bind fun x_2 => ((some length_1).bind fun x_1 => ((some [])).bind fun r_1 => some (x_1 :: r_1)).bind fun r_2 => some (x_2 :: r_2)).bind fun found_1 => (some toggles_1).bind fun xs_1 => thenF (forL xs_1 found_1 (fun x_3 (s_1 : (List Int)) => ((some s_1).bind fun a_1 => ((some x_3.1).bind fun x_5 => ((some x_3.2).bind fun x_4 => ((some [])).bind fun r_3 => some (x_4 :: r_3)).bind fun r_4 => some (x_5 :: r_4)).bind fun b_1 => catP a_1 b_1).bind fun found_2 => some (Fl.nx found_2))) fun (s_1 : (List Int)) => ((some s_1).bind fun a_2 => srtSetK rI a_2).bind fun y_1 => some (Fl.ret y_1))
theorem e_cuts : @m_cuts = @k_cuts := by
  unfold m_cuts k_cuts
  rw [e_srtSet]
def k_blocks (length_1 : Int) (script_1 : (List (Int × Int))) : Option (List (Int × Int)) :=
  runF ((((some length_1).bind fun x_2 => ((some script_1).bind fun x_1 => ((some ())).bind fun r_1 => some (x_1, r_1)).bind fun r_2 => some (x_2, r_2)).bind fun g_1 => k_cuts g_1.1 g_1.2.1).bind fun borders_1 => ((some borders_1).bind fun a_2 => ((some borders_1).bind fun a_1 => ((some (1 : Int)).bind fun i_1 => some (some i_1)).bind fun lo_1 => (some none).bind fun hi_1 => cutO a_1 lo_1 hi_1).bind fun a_3 => some (List.zip a_2 a_3)).bind fun y_1 => some (Fl.ret y_1))
theorem e_blocks : @m_blocks = @k_blocks := by
  unfold m_blocks k_blocks
  rw [e_cuts]
def k_effect_rows (length_1 : Int) (script_1 : (List (Int × Int))) : Option (List (List (List Nat))) :=
  runF ((((((((some length_1).bind fun x_3 => ((some script_1).bind fun x_2 => ((some ())).bind fun r_2 => some (x_2, r_2)).bind fun r_3 => some (x_3, r_3)).bind fun g_1 => k_blocks g_1.1 g_1.2.1).bind fun x_4 => ((some script_1).bind fun x_1 => ((some ())).bind fun r_1 => some (x_1, r_1)).bind fun r_4 => some (x_4, r_4)).bind fun g_2 => m_all_paths g_2.1 g_2.2.1).bind fun xs_1 => mapO (fun x_5 => (some x_5).bind fun p_1 => some p_1.1) xs_1).bind fun a_2 => srtTK rS a_2).bind fun y_1 => some (Fl.ret y_1))
theorem e_effect_rows : @m_effect_rows = @k_effect_rows := by
  unfold m_effect_rows k_effect_rows
  rw [e_srtT, e_blocks]
def k_first_with (length_1 : Int) (script_1 : (List (Int × Int))) (row_1 : (List (List Nat))) : Option (Option (List Nat)) :=
  runF ((((some length_1).bind fun x_2 => ((some script_1).bind fun x_1 => ((some ())).bind fun r_1 => some (x_1, r_1)).bind fun r_2 => some (x_2, r_2)).bind fun g_1 => k_blocks g_1.1 g_1.2.1).bind fun parts_1 => (((some parts_1).bind fun x_4 => ((some script_1).bind fun x_3 => ((some ())).bind fun r_3 => some (x_3, r_3)).bind fun r_4 => some (x_4, r_4)).bind fun g_2 => m_all_paths g_2.1 g_2.2.1).bind fun xs_1 => thenF (forL xs_1 () (fun x_5 (s_1 : Unit) => thenF ((((some x_5).bind fun p_1 => some p_1.1).bind fun a_1 => (some row_1).bind fun b_1 => eqD a_1 b_1).bind fun c_1 => if c_1 = true then ((((some parts_1).bind fun x_7 => (((some x_5).bind fun p_2 => some p_2.2.2.1).bind fun x_6 => ((some ())).bind fun r_5 => some (x_6, r_5)).bind fun r_6 => some (x_7, r_6)).bind fun g_3 => m_least_pattern g_3.1 g_3.2.1).bind fun o_1 => some (some o_1)).bind fun y_1 => some (Fl.ret y_1) else some (Fl.nx ())) fun (s_2 : Unit) => some (Fl.nx ()))) fun (s_1 : Unit) => ((some none)).bind fun y_2 => some (Fl.ret y_2))
theorem e_first_with : @m_first_with = @k_first_with := by
  unfold m_first_with k_first_with
  rw [e_blocks]
def k_count_with (length_1 : Int) (script_1 : (List (Int × Int))) (row_1 : (List (List Nat))) : Option Int :=
  runF ((((some length_1).bind fun x_2 => ((some script_1).bind fun x_1 => ((some ())).bind fun r_1 => some (x_1, r_1)).bind fun r_2 => some (x_2, r_2)).bind fun g_1 => k_blocks g_1.1 g_1.2.1).bind fun parts_1 => (((((some parts_1).bind fun x_4 => ((some script_1).bind fun x_3 => ((some ())).bind fun r_3 => some (x_3, r_3)).bind fun r_4 => some (x_4, r_4)).bind fun g_2 => m_all_paths g_2.1 g_2.2.1).bind fun xs_1 => filO (fun x_5 => ((some x_5).bind fun p_1 => some p_1.1).bind fun a_1 => (some row_1).bind fun b_1 => eqD a_1 b_1) (fun x_5 => ((some parts_1).bind fun x_7 => ((some x_5).bind fun x_6 => ((some ())).bind fun r_5 => some (x_6, r_5)).bind fun r_6 => some (x_7, r_6)).bind fun g_3 => m_count_of g_3.1 g_3.2.1) xs_1).bind fun a_2 => sumI a_2).bind fun y_1 => some (Fl.ret y_1))
theorem e_count_with : @m_count_with = @k_count_with := by
  unfold m_count_with k_count_with
  rw [e_blocks]
def k_kinds_of_effects (length_1 : Int) (script_1 : (List (Int × Int))) : Option (List (List Nat)) :=
  runF ((((some length_1).bind fun x_2 => ((some script_1).bind fun x_1 => ((some ())).bind fun r_1 => some (x_1, r_1)).bind fun r_2 => some (x_2, r_2)).bind fun g_1 => k_effect_rows g_1.1 g_1.2.1).bind fun rows_1 => ((some ([] : List (List Nat)))).bind fun found_1 => (((some script_1).bind fun a_1 => lenL a_1).bind fun n_1 => rng 0 n_1).bind fun xs_2 => thenF (forL xs_2 found_1 (fun x_3 (s_1 : (List (List Nat))) => (((some rows_1).bind fun xs_1 => mapO (fun x_4 => (some x_4).bind fun a_2 => (some x_3).bind fun b_1 => atI a_2 b_1) xs_1).bind fun a_3 => srtSetK rS a_3).bind fun kinds_1 => ((((some kinds_1).bind fun a_4 => lenL a_4).bind fun a_5 => (some (1 : Int)).bind fun b_2 => eqD a_5 b_2).bind fun c_1 => if c_1 = true then (some kinds_1).bind fun a_6 => (some (0 : Int)).bind fun b_3 => atI a_6 b_3 else some ([98, 111, 116, 104] : List Nat)).bind fun x_5 => if s_1.length < 16777216 then some (Fl.nx (s_1 ++ [x_5])) else none)) fun (s_1 : (List (List Nat))) => some (Fl.ret s_1))
theorem e_kinds_of_effects : @m_kinds_of_effects = @k_kinds_of_effects := by
  unfold m_kinds_of_effects k_kinds_of_effects
  rw [e_srtSet, e_effect_rows]
def k_outcomes (length_1 : Int) (script_1 : (List (Int × Int))) : Option (List (List Nat)) :=
  runF ((((some length_1).bind fun x_2 => ((some script_1).bind fun x_1 => ((some ())).bind fun r_1 => some (x_1, r_1)).bind fun r_2 => some (x_2, r_2)).bind fun g_1 => k_blocks g_1.1 g_1.2.1).bind fun parts_1 => (((((some parts_1).bind fun x_4 => ((some script_1).bind fun x_3 => ((some ())).bind fun r_3 => some (x_3, r_3)).bind fun r_4 => some (x_4, r_4)).bind fun g_2 => m_all_paths g_2.1 g_2.2.1).bind fun xs_1 => mapO (fun x_5 => ((some parts_1).bind fun x_7 => (((some x_5).bind fun p_1 => some p_1.2.1).bind fun x_6 => ((some ())).bind fun r_5 => some (x_6, r_5)).bind fun r_6 => some (x_7, r_6)).bind fun g_3 => m_outcome_of g_3.1 g_3.2.1) xs_1).bind fun a_1 => srtSetK rS a_1).bind fun y_1 => some (Fl.ret y_1))
theorem e_outcomes : @m_outcomes = @k_outcomes := by
  unfold m_outcomes k_outcomes
  rw [e_srtSet, e_blocks]
def k_count_results (length_1 : Int) (script_1 : (List (Int × Int))) : Option Int :=
  runF ((((some length_1).bind fun x_2 => ((some script_1).bind fun x_1 => ((some ())).bind fun r_1 => some (x_1, r_1)).bind fun r_2 => some (x_2, r_2)).bind fun g_1 => k_outcomes g_1.1 g_1.2.1).bind fun every_1 => (((some every_1).bind fun a_1 => lenL a_1).bind fun a_5 => (((((some every_1).bind fun a_2 => (some (0 : Int)).bind fun b_1 => atI a_2 b_1).bind fun a_4 => (some ([63] : List Nat)).bind fun b_3 => countS a_4 b_3).bind fun x_3 => ((some ())).bind fun r_3 => some (x_3, r_3)).bind fun g_2 => m_doubled g_2.1).bind fun b_4 => mulP a_5 b_4).bind fun y_1 => some (Fl.ret y_1))
theorem e_count_results : @m_count_results = @k_count_results := by
  unfold m_count_results k_count_results
  rw [e_outcomes]
def k_count_sources (length_1 : Int) (script_1 : (List (Int × Int))) (outcome_1 : (List Nat)) : Option Int :=
  runF ((((some length_1).bind fun x_2 => ((some script_1).bind fun x_1 => ((some ())).bind fun r_1 => some (x_1, r_1)).bind fun r_2 => some (x_2, r_2)).bind fun g_1 => k_blocks g_1.1 g_1.2.1).bind fun parts_1 => (some (0 : Int)).bind fun total_1 => (((some parts_1).bind fun x_4 => ((some script_1).bind fun x_3 => ((some ())).bind fun r_3 => some (x_3, r_3)).bind fun r_4 => some (x_4, r_4)).bind fun g_2 => m_all_paths g_2.1 g_2.2.1).bind fun xs_1 => thenF (forL xs_1 total_1 (fun x_5 (s_1 : Int) => thenF (((((some parts_1).bind fun x_7 => (((some x_5).bind fun p_1 => some p_1.2.1).bind fun x_6 => ((some ())).bind fun r_5 => some (x_6, r_5)).bind fun r_6 => some (x_7, r_6)).bind fun g_3 => m_outcome_of g_3.1 g_3.2.1).bind fun a_1 => (some outcome_1).bind fun b_1 => eqD a_1 b_1).bind fun c_1 => if c_1 = true then ((some s_1).bind fun a_2 => (((some parts_1).bind fun x_9 => ((some x_5).bind fun x_8 => ((some ())).bind fun r_7 => some (x_8, r_7)).bind fun r_8 => some (x_9, r_8)).bind fun g_4 => m_count_of g_4.1 g_4.2.1).bind fun b_2 => addI a_2 b_2).bind fun total_2 => some (Fl.nx total_2) else some (Fl.nx s_1)) fun (s_2 : Int) => some (Fl.nx s_2))) fun (s_1 : Int) => (some s_1).bind fun y_1 => some (Fl.ret y_1))
theorem e_count_sources : @m_count_sources = @k_count_sources := by
  unfold m_count_sources k_count_sources
  rw [e_blocks]
def k_first_parting (length_1 : Int) (first_1 : (List (Int × Int))) (second_1 : (List (Int × Int))) : Option (Option (List Nat)) :=
  runF ((((some length_1).bind fun x_2 => (((some first_1).bind fun a_1 => (some second_1).bind fun b_1 => catP a_1 b_1).bind fun x_1 => ((some ())).bind fun r_1 => some (x_1, r_1)).bind fun r_2 => some (x_2, r_2)).bind fun g_1 => k_blocks g_1.1 g_1.2.1).bind fun parts_1 => ((some ([] : List (List Nat)))).bind fun found_1 => (((some parts_1).bind fun x_4 => ((some first_1).bind fun x_3 => ((some ())).bind fun r_3 => some (x_3, r_3)).bind fun r_4 => some (x_4, r_4)).bind fun g_2 => m_all_paths g_2.1 g_2.2.1).bind fun xs_2 => thenF (forL xs_2 found_1 (fun x_5 (s_1 : (List (List Nat))) => (((some ([] : List (List Nat)))).bind fun p_3 => ((((some none)).bind fun x_6 => ((some [])).bind fun r_5 => some (x_6 :: r_5)).bind fun a_3 => ((some parts_1).bind fun a_2 => lenL a_2).bind fun b_2 => repT a_3 b_2).bind fun p_4 => ((some x_5).bind fun p_1 => some p_1.2.2.1).bind fun p_5 => ((some x_5).bind fun p_2 => some p_2.2.2.2).bind fun p_6 => some (p_3, p_4, p_5, p_6)).bind fun begun_1 => (((some parts_1).bind fun x_10 => (((some begun_1).bind fun x_8 => ((some [])).bind fun r_7 => some (x_8 :: r_7)).bind fun x_9 => ((some second_1).bind fun x_7 => ((some ())).bind fun r_6 => some (x_7, r_6)).bind fun r_8 => some (x_9, r_8)).bind fun r_9 => some (x_10, r_9)).bind fun g_3 => m_paths_from g_3.1 g_3.2.1 g_3.2.2.1).bind fun xs_1 => thenF (forL xs_1 s_1 (fun x_11 (s_2 : (List (List Nat))) => (((some parts_1).bind fun x_15 => (((some x_5).bind fun p_8 => some p_8.2.1).bind fun x_14 => (((some x_11).bind fun p_7 => some p_7.2.1).bind fun x_13 => ((some x_11).bind fun x_12 => ((some ())).bind fun r_10 => some (x_12, r_10)).bind fun r_11 => some (x_13, r_11)).bind fun r_12 => some (x_14, r_12)).bind fun r_13 => some (x_15, r_13)).bind fun g_4 => m_parting_of g_4.1 g_4.2.1 g_4.2.2.1 g_4.2.2.2.1).bind fun pattern_1 => thenF (((some pattern_1).bind fun a_4 => notN a_4).bind fun c_1 => if c_1 = true then ((some pattern_1).bind fun o_1 => o_1).bind fun x_16 => if s_2.length < 16777216 then some (Fl.nx (s_2 ++ [x_16])) else none else some (Fl.nx s_2)) fun (s_3 : (List (List Nat))) => some (Fl.nx s_3))) fun (s_2 : (List (List Nat))) => some (Fl.nx s_2))) fun (s_1 : (List (List Nat))) => (((some s_1).bind fun a_5 => ((some ([] : List (List Nat)))).bind fun b_3 => neD a_5 b_3).bind fun c_2 => if c_2 = true then ((some s_1).bind fun a_6 => minS a_6).bind fun o_2 => some (some o_2) else (some none)).bind fun y_1 => some (Fl.ret y_1))
theorem e_first_parting : @m_first_parting = @k_first_parting := by
  unfold m_first_parting k_first_parting
  rw [e_blocks]
def k_needless (length_1 : Int) (script_1 : (List (Int × Int))) : Option (List Int) :=
  runF (((some ([] : List Int))).bind fun found_1 => (((some script_1).bind fun a_1 => lenL a_1).bind fun n_1 => rng 0 n_1).bind fun xs_1 => thenF (forL xs_1 found_1 (fun x_1 (s_1 : (List Int)) => thenF (((((some length_1).bind fun x_4 => ((some script_1).bind fun x_3 => ((((some script_1).bind fun a_2 => (some none).bind fun lo_1 => ((some x_1).bind fun i_1 => some (some i_1)).bind fun hi_1 => cutO a_2 lo_1 hi_1).bind fun a_5 => ((some script_1).bind fun a_4 => (((some x_1).bind fun a_3 => (some (1 : Int)).bind fun b_1 => addI a_3 b_1).bind fun i_2 => some (some i_2)).bind fun lo_2 => (some none).bind fun hi_2 => cutO a_4 lo_2 hi_2).bind fun b_2 => catP a_5 b_2).bind fun x_2 => ((some ())).bind fun r_1 => some (x_2, r_1)).bind fun r_2 => some (x_3, r_2)).bind fun r_3 => some (x_4, r_3)).bind fun g_1 => k_first_parting g_1.1 g_1.2.1 g_1.2.2.1).bind fun a_6 => isN a_6).bind fun c_1 => if c_1 = true then (some x_1).bind fun x_5 => if s_1.length < 16777216 then some (Fl.nx (s_1 ++ [x_5])) else none else some (Fl.nx s_1)) fun (s_2 : (List Int)) => some (Fl.nx s_2))) fun (s_1 : (List Int)) => some (Fl.ret s_1))
theorem e_needless : @m_needless = @k_needless := by
  unfold m_needless k_needless
  rw [e_first_parting]
def k_Macro__eq__ (self_1 : (Int × List (Int × Int))) (other_1 : (Int × List (Int × Int))) : Option Bool :=
  runF (thenF (((((some other_1).bind fun _ => some true).bind fun a_1 => some (!a_1)).bind fun a_3 => if a_3 = true then some true else ((some self_1).bind fun x_1 => some x_1.1).bind fun a_2 => ((some other_1).bind fun x_2 => some x_2.1).bind fun b_1 => neD a_2 b_1).bind fun c_1 => if c_1 = true then (some false).bind fun y_1 => some (Fl.ret y_1) else some (Fl.nx ())) fun (s_1 : Unit) => (((((some self_1).bind fun x_7 => some x_7.1).bind fun x_8 => (((some self_1).bind fun x_5 => some x_5.2).bind fun x_6 => (((some other_1).bind fun x_3 => some x_3.2).bind fun x_4 => ((some ())).bind fun r_1 => some (x_4, r_1)).bind fun r_2 => some (x_6, r_2)).bind fun r_3 => some (x_8, r_3)).bind fun g_1 => k_first_parting g_1.1 g_1.2.1 g_1.2.2.1).bind fun a_4 => isN a_4).bind fun y_2 => some (Fl.ret y_2))
theorem e_Macro__eq__ : @m_Macro__eq__ = @k_Macro__eq__ := by
  unfold m_Macro__eq__ k_Macro__eq__
  rw [e_first_parting]
def k__law_two_right (m_1 : Int) : Option (List Bool) :=
  runF (((some (4 : Int)).bind fun a_1 => (some m_1).bind fun b_1 => mulP a_1 b_1).bind fun length_1 => (((some (0 : Int)).bind fun p_1 => ((some (2 : Int)).bind fun a_2 => (some m_1).bind fun b_2 => mulP a_2 b_2).bind fun p_2 => some (p_1, p_2)).bind fun x_2 => (((some m_1).bind fun p_3 => ((some (3 : Int)).bind fun a_3 => (some m_1).bind fun b_3 => mulP a_3 b_3).bind fun p_4 => some (p_3, p_4)).bind fun x_1 => ((some [])).bind fun r_1 => some (x_1 :: r_1)).bind fun r_2 => some (x_2 :: r_2)).bind fun steps_1 => (((((some length_1).bind fun x_4 => ((some steps_1).bind fun x_3 => ((some ())).bind fun r_3 => some (x_3, r_3)).bind fun r_4 => some (x_4, r_4)).bind fun g_1 => k_blocks g_1.1 g_1.2.1).bind fun a_9 => (((some (0 : Int)).bind fun p_5 => (some m_1).bind fun p_6 => some (p_5, p_6)).bind fun x_8 => (((some m_1).bind fun p_7 => ((some (2 : Int)).bind fun a_4 => (some m_1).bind fun b_4 => mulP a_4 b_4).bind fun p_8 => some (p_7, p_8)).bind fun x_7 => ((((some (2 : Int)).bind fun a_5 => (some m_1).bind fun b_5 => mulP a_5 b_5).bind fun p_9 => ((some (3 : Int)).bind fun a_6 => (some m_1).bind fun b_6 => mulP a_6 b_6).bind fun p_10 => some (p_9, p_10)).bind fun x_6 => ((((some (3 : Int)).bind fun a_7 => (some m_1).bind fun b_7 => mulP a_7 b_7).bind fun p_11 => ((some (4 : Int)).bind fun a_8 => (some m_1).bind fun b_8 => mulP a_8 b_8).bind fun p_12 => some (p_11, p_12)).bind fun x_5 => ((some [])).bind fun r_5 => some (x_5 :: r_5)).bind fun r_6 => some (x_6 :: r_6)).bind fun r_7 => some (x_7 :: r_7)).bind fun r_8 => some (x_8 :: r_8)).bind fun b_9 => eqD a_9 b_9).bind fun x_9 => ((some [])).bind fun r_9 => some (x_9 :: r_9)).bind fun found_1 => ((((some length_1).bind fun x_11 => ((some steps_1).bind fun x_10 => ((some ())).bind fun r_10 => some (x_10, r_10)).bind fun r_11 => some (x_11, r_11)).bind fun g_2 => k_effect_rows g_2.1 g_2.2.1).bind fun a_10 => (((some ([99, 108, 101, 97, 114] : List Nat)).bind fun x_13 => ((some ([115, 101, 116] : List Nat)).bind fun x_12 => ((some [])).bind fun r_12 => some (x_12 :: r_12)).bind fun r_13 => some (x_13 :: r_13)).bind fun x_20 => (((some ([115, 101, 116] : List Nat)).bind fun x_15 => ((some ([99, 108, 101, 97, 114] : List Nat)).bind fun x_14 => ((some [])).bind fun r_14 => some (x_14 :: r_14)).bind fun r_15 => some (x_15 :: r_15)).bind fun x_19 => (((some ([115, 101, 116] : List Nat)).bind fun x_17 => ((some ([115, 101, 116] : List Nat)).bind fun x_16 => ((some [])).bind fun r_16 => some (x_16 :: r_16)).bind fun r_17 => some (x_17 :: r_17)).bind fun x_18 => ((some [])).bind fun r_18 => some (x_18 :: r_18)).bind fun r_19 => some (x_19 :: r_19)).bind fun r_20 => some (x_20 :: r_20)).bind fun b_10 => eqD a_10 b_10).bind fun x_21 => if found_1.length < 16777216 then (((((some ([48] : List Nat)).bind fun a_11 => (some m_1).bind fun b_11 => repP a_11 b_11).bind fun a_14 => (((some ([49] : List Nat)).bind fun a_12 => (some (2 : Int)).bind fun b_12 => repP a_12 b_12).bind fun a_13 => (some m_1).bind fun b_13 => repP a_13 b_13).bind fun b_14 => catP a_14 b_14).bind fun a_16 => ((some ([63] : List Nat)).bind fun a_15 => (some m_1).bind fun b_15 => repP a_15 b_15).bind fun b_16 => catP a_16 b_16).bind fun x_24 => (((((some ([49] : List Nat)).bind fun a_17 => (some m_1).bind fun b_17 => repP a_17 b_17).bind fun a_20 => (((some ([48] : List Nat)).bind fun a_18 => (some (2 : Int)).bind fun b_18 => repP a_18 b_18).bind fun a_19 => (some m_1).bind fun b_19 => repP a_19 b_19).bind fun b_20 => catP a_20 b_20).bind fun a_22 => ((some ([63] : List Nat)).bind fun a_21 => (some m_1).bind fun b_21 => repP a_21 b_21).bind fun b_22 => catP a_22 b_22).bind fun x_23 => (((((some ([49] : List Nat)).bind fun a_23 => (some (3 : Int)).bind fun b_23 => repP a_23 b_23).bind fun a_24 => (some m_1).bind fun b_24 => repP a_24 b_24).bind fun a_26 => ((some ([63] : List Nat)).bind fun a_25 => (some m_1).bind fun b_25 => repP a_25 b_25).bind fun b_26 => catP a_26 b_26).bind fun x_22 => ((some [])).bind fun r_21 => some (x_22 :: r_21)).bind fun r_22 => some (x_23 :: r_22)).bind fun r_23 => some (x_24 :: r_23)).bind fun due_1 => ((((some length_1).bind fun x_26 => ((some steps_1).bind fun x_25 => ((some ())).bind fun r_24 => some (x_25, r_24)).bind fun r_25 => some (x_26, r_25)).bind fun g_3 => k_outcomes g_3.1 g_3.2.1).bind fun a_27 => (some due_1).bind fun b_27 => eqD a_27 b_27).bind fun x_27 => if (found_1 ++ [x_21]).length < 16777216 then ((((some length_1).bind fun x_29 => ((some steps_1).bind fun x_28 => ((some ())).bind fun r_26 => some (x_28, r_26)).bind fun r_27 => some (x_29, r_27)).bind fun g_4 => k_count_results g_4.1 g_4.2.1).bind fun a_29 => ((some (3 : Int)).bind fun a_28 => (((some m_1).bind fun x_30 => ((some ())).bind fun r_28 => some (x_30, r_28)).bind fun g_5 => m__law_power g_5.1).bind fun b_28 => mulP a_28 b_28).bind fun b_29 => eqD a_29 b_29).bind fun x_31 => if ((found_1 ++ [x_21]) ++ [x_27]).length < 16777216 then ((((some length_1).bind fun x_34 => ((some steps_1).bind fun x_33 => (((some due_1).bind fun a_30 => (some (1 : Int)).bind fun b_30 => atI a_30 b_30).bind fun x_32 => ((some ())).bind fun r_29 => some (x_32, r_29)).bind fun r_30 => some (x_33, r_30)).bind fun r_31 => some (x_34, r_31)).bind fun g_6 => k_count_sources g_6.1 g_6.2.1 g_6.2.2.1).bind fun a_34 => ((((((some (2 : Int)).bind fun a_31 => (some m_1).bind fun b_31 => mulP a_31 b_31).bind fun x_35 => ((some ())).bind fun r_32 => some (x_35, r_32)).bind fun g_7 => m__law_power g_7.1).bind fun a_32 => (some (1 : Int)).bind fun b_32 => subI a_32 b_32).bind fun a_33 => (((some m_1).bind fun x_36 => ((some ())).bind fun r_33 => some (x_36, r_33)).bind fun g_8 => m__law_power g_8.1).bind fun b_33 => mulP a_33 b_33).bind fun b_34 => eqD a_34 b_34).bind fun x_37 => if (((found_1 ++ [x_21]) ++ [x_27]) ++ [x_31]).length < 16777216 then ((((some length_1).bind fun x_42 => ((some steps_1).bind fun x_41 => (((some ([99, 108, 101, 97, 114] : List Nat)).bind fun x_39 => ((some ([115, 101, 116] : List Nat)).bind fun x_38 => ((some [])).bind fun r_34 => some (x_38 :: r_34)).bind fun r_35 => some (x_39 :: r_35)).bind fun x_40 => ((some ())).bind fun r_36 => some (x_40, r_36)).bind fun r_37 => some (x_41, r_37)).bind fun r_38 => some (x_42, r_38)).bind fun g_9 => k_count_with g_9.1 g_9.2.1 g_9.2.2.1).bind fun a_36 => ((((some (2 : Int)).bind fun a_35 => (some m_1).bind fun b_35 => mulP a_35 b_35).bind fun x_43 => ((some ())).bind fun r_39 => some (x_43, r_39)).bind fun g_10 => m__law_power g_10.1).bind fun b_36 => eqD a_36 b_36).bind fun x_44 => if ((((found_1 ++ [x_21]) ++ [x_27]) ++ [x_31]) ++ [x_37]).length < 16777216 then ((((some length_1).bind fun x_49 => ((some steps_1).bind fun x_48 => (((some ([99, 108, 101, 97, 114] : List Nat)).bind fun x_46 => ((some ([115, 101, 116] : List Nat)).bind fun x_45 => ((some [])).bind fun r_40 => some (x_45 :: r_40)).bind fun r_41 => some (x_46 :: r_41)).bind fun x_47 => ((some ())).bind fun r_42 => some (x_47, r_42)).bind fun r_43 => some (x_48, r_43)).bind fun r_44 => some (x_49, r_44)).bind fun g_11 => k_first_with g_11.1 g_11.2.1 g_11.2.2.1).bind fun a_42 => (((((some ([49] : List Nat)).bind fun a_37 => (some (2 : Int)).bind fun b_37 => repP a_37 b_37).bind fun a_38 => (some m_1).bind fun b_38 => repP a_38 b_38).bind fun a_41 => (((some ([48] : List Nat)).bind fun a_39 => (some (2 : Int)).bind fun b_39 => repP a_39 b_39).bind fun a_40 => (some m_1).bind fun b_40 => repP a_40 b_40).bind fun b_41 => catP a_41 b_41).bind fun o_1 => some (some o_1)).bind fun b_42 => eqD a_42 b_42).bind fun x_50 => if (((((found_1 ++ [x_21]) ++ [x_27]) ++ [x_31]) ++ [x_37]) ++ [x_44]).length < 16777216 then ((some length_1).bind fun a_44 => ((some steps_1).bind fun a_43 => (some none).bind fun lo_1 => ((some (1 : Int)).bind fun i_1 => some (some i_1)).bind fun hi_1 => cutO a_43 lo_1 hi_1).bind fun b_43 => some (a_44, b_43)).bind fun one_1 => ((some length_1).bind fun a_46 => ((some steps_1).bind fun a_45 => ((some (1 : Int)).bind fun i_2 => some (some i_2)).bind fun lo_2 => (some none).bind fun hi_2 => cutO a_45 lo_2 hi_2).bind fun b_44 => some (a_46, b_44)).bind fun other_1 => (((some one_1).bind fun a_47 => (some other_1).bind fun b_45 => m_Macro__add__ a_47 b_45).bind fun a_53 => ((((some ([49] : List Nat)).bind fun a_48 => (some (2 : Int)).bind fun b_46 => repP a_48 b_46).bind fun a_49 => (some m_1).bind fun b_47 => repP a_49 b_47).bind fun a_52 => (((some ([48] : List Nat)).bind fun a_50 => (some (2 : Int)).bind fun b_48 => repP a_50 b_48).bind fun a_51 => (some m_1).bind fun b_49 => repP a_51 b_49).bind fun b_50 => catP a_52 b_50).bind fun b_51 => m_Macro__call__ a_53 b_51).bind fun result_1 => ((some result_1).bind fun a_60 => ((((some ([48] : List Nat)).bind fun a_54 => (some m_1).bind fun b_52 => repP a_54 b_52).bind fun a_57 => (((some ([49] : List Nat)).bind fun a_55 => (some (2 : Int)).bind fun b_53 => repP a_55 b_53).bind fun a_56 => (some m_1).bind fun b_54 => repP a_56 b_54).bind fun b_55 => catP a_57 b_55).bind fun a_59 => ((some ([48] : List Nat)).bind fun a_58 => (some m_1).bind fun b_56 => repP a_58 b_56).bind fun b_57 => catP a_59 b_57).bind fun b_58 => eqD a_60 b_58).bind fun x_51 => if ((((((found_1 ++ [x_21]) ++ [x_27]) ++ [x_31]) ++ [x_37]) ++ [x_44]) ++ [x_50]).length < 16777216 then ((((some one_1).bind fun a_61 => (some other_1).bind fun b_59 => m_Macro__add__ a_61 b_59).bind fun a_63 => ((some other_1).bind fun a_62 => (some one_1).bind fun b_60 => m_Macro__add__ a_62 b_60).bind fun b_61 => (k_Macro__eq__ a_63 b_61).bind fun a_63c => some (!a_63c)).bind fun a_67 => if a_67 = true then (((some one_1).bind fun a_64 => (some one_1).bind fun b_62 => m_Macro__add__ a_64 b_62).bind fun a_65 => (some one_1).bind fun b_63 => m_Macro__add__ a_65 b_63).bind fun a_66 => (some one_1).bind fun b_64 => k_Macro__eq__ a_66 b_64 else some false).bind fun x_52 => if (((((((found_1 ++ [x_21]) ++ [x_27]) ++ [x_31]) ++ [x_37]) ++ [x_44]) ++ [x_50]) ++ [x_51]).length < 16777216 then ((some ((((((((found_1 ++ [x_21]) ++ [x_27]) ++ [x_31]) ++ [x_37]) ++ [x_44]) ++ [x_50]) ++ [x_51]) ++ [x_52])).bind fun a_69 => (((((some length_1).bind fun x_54 => ((some steps_1).bind fun x_53 => ((some ())).bind fun r_45 => some (x_53, r_45)).bind fun r_46 => some (x_54, r_46)).bind fun g_12 => k_kinds_of_effects g_12.1 g_12.2.1).bind fun a_68 => ((some ([98, 111, 116, 104] : List Nat)).bind fun x_56 => ((some ([98, 111, 116, 104] : List Nat)).bind fun x_55 => ((some [])).bind fun r_47 => some (x_55 :: r_47)).bind fun r_48 => some (x_56 :: r_48)).bind fun b_65 => eqD a_68 b_65).bind fun x_57 => ((some [])).bind fun r_49 => some (x_57 :: r_49)).bind fun b_66 => catP a_69 b_66).bind fun y_1 => some (Fl.ret y_1) else none else none else none else none else none else none else none else none)
theorem e__law_two_right : @m__law_two_right = @k__law_two_right := by
  unfold m__law_two_right k__law_two_right
  rw [e_blocks, e_effect_rows, e_outcomes, e_count_results, e_count_sources, e_count_with, e_first_with, e_Macro__eq__, e_kinds_of_effects]
def k__law_more_right (m_1 : Int) : Option (List Bool) :=
  runF (((some (3 : Int)).bind fun a_1 => (some m_1).bind fun b_1 => mulP a_1 b_1).bind fun length_1 => (((some (0 : Int)).bind fun p_1 => ((some (2 : Int)).bind fun a_2 => (some m_1).bind fun b_2 => mulP a_2 b_2).bind fun p_2 => some (p_1, p_2)).bind fun x_2 => (((some (0 : Int)).bind fun p_3 => ((some (2 : Int)).bind fun a_3 => (some m_1).bind fun b_3 => mulP a_3 b_3).bind fun p_4 => some (p_3, p_4)).bind fun x_1 => ((some [])).bind fun r_1 => some (x_1 :: r_1)).bind fun r_2 => some (x_2 :: r_2)).bind fun twice_1 => (((((some length_1).bind fun x_4 => ((some twice_1).bind fun x_3 => ((some ())).bind fun r_3 => some (x_3, r_3)).bind fun r_4 => some (x_4, r_4)).bind fun g_1 => k_effect_rows g_1.1 g_1.2.1).bind fun a_4 => (((some ([99, 108, 101, 97, 114] : List Nat)).bind fun x_6 => ((some ([115, 101, 116] : List Nat)).bind fun x_5 => ((some [])).bind fun r_5 => some (x_5 :: r_5)).bind fun r_6 => some (x_6 :: r_6)).bind fun x_10 => (((some ([115, 101, 116] : List Nat)).bind fun x_8 => ((some ([99, 108, 101, 97, 114] : List Nat)).bind fun x_7 => ((some [])).bind fun r_7 => some (x_7 :: r_7)).bind fun r_8 => some (x_8 :: r_8)).bind fun x_9 => ((some [])).bind fun r_9 => some (x_9 :: r_9)).bind fun r_10 => some (x_10 :: r_10)).bind fun b_4 => eqD a_4 b_4).bind fun x_11 => ((some [])).bind fun r_11 => some (x_11 :: r_11)).bind fun found_1 => ((((some length_1).bind fun x_14 => ((some twice_1).bind fun x_13 => (((some ([] : List (Int × Int)))).bind fun x_12 => ((some ())).bind fun r_12 => some (x_12, r_12)).bind fun r_13 => some (x_13, r_13)).bind fun r_14 => some (x_14, r_14)).bind fun g_2 => k_first_parting g_2.1 g_2.2.1 g_2.2.2.1).bind fun a_11 => (((((some ([48] : List Nat)).bind fun a_7 => (((some (2 : Int)).bind fun a_5 => (some m_1).bind fun b_5 => mulP a_5 b_5).bind fun a_6 => (some (1 : Int)).bind fun b_6 => subI a_6 b_6).bind fun b_7 => repP a_7 b_7).bind fun a_8 => (some ([49] : List Nat)).bind fun b_8 => catP a_8 b_8).bind fun a_10 => ((some ([48] : List Nat)).bind fun a_9 => (some m_1).bind fun b_9 => repP a_9 b_9).bind fun b_10 => catP a_10 b_10).bind fun o_1 => some (some o_1)).bind fun b_11 => eqD a_11 b_11).bind fun x_15 => if found_1.length < 16777216 then ((((some length_1).bind fun x_18 => (((some twice_1).bind fun a_14 => (some none).bind fun lo_2 => ((some (1 : Int)).bind fun i_2 => some (some i_2)).bind fun hi_2 => cutO a_14 lo_2 hi_2).bind fun x_17 => (((some twice_1).bind fun a_13 => ((some twice_1).bind fun a_12 => (some none).bind fun lo_1 => ((some (1 : Int)).bind fun i_1 => some (some i_1)).bind fun hi_1 => cutO a_12 lo_1 hi_1).bind fun b_12 => catP a_13 b_12).bind fun x_16 => ((some ())).bind fun r_15 => some (x_16, r_15)).bind fun r_16 => some (x_17, r_16)).bind fun r_17 => some (x_18, r_17)).bind fun g_3 => k_first_parting g_3.1 g_3.2.1 g_3.2.2.1).bind fun a_15 => isN a_15).bind fun x_19 => if (found_1 ++ [x_15]).length < 16777216 then ((((some length_1).bind fun x_23 => (((some twice_1).bind fun a_16 => (some none).bind fun lo_3 => ((some (1 : Int)).bind fun i_3 => some (some i_3)).bind fun hi_3 => cutO a_16 lo_3 hi_3).bind fun x_22 => ((((some (0 : Int)).bind fun p_5 => (some length_1).bind fun p_6 => some (p_5, p_6)).bind fun x_20 => ((some [])).bind fun r_18 => some (x_20 :: r_18)).bind fun x_21 => ((some ())).bind fun r_19 => some (x_21, r_19)).bind fun r_20 => some (x_22, r_20)).bind fun r_21 => some (x_23, r_21)).bind fun g_4 => k_first_parting g_4.1 g_4.2.1 g_4.2.2.1).bind fun a_18 => (((some ([48] : List Nat)).bind fun a_17 => (some length_1).bind fun b_13 => repP a_17 b_13).bind fun o_2 => some (some o_2)).bind fun b_14 => eqD a_18 b_14).bind fun x_24 => if ((found_1 ++ [x_15]) ++ [x_19]).length < 16777216 then (((some m_1).bind fun p_7 => ((some (2 : Int)).bind fun a_19 => (some m_1).bind fun b_15 => mulP a_19 b_15).bind fun p_8 => some (p_7, p_8)).bind fun x_28 => (((some (0 : Int)).bind fun p_9 => (some length_1).bind fun p_10 => some (p_9, p_10)).bind fun x_27 => (((some (0 : Int)).bind fun p_11 => (some m_1).bind fun p_12 => some (p_11, p_12)).bind fun x_26 => (((some (0 : Int)).bind fun p_13 => (some length_1).bind fun p_14 => some (p_13, p_14)).bind fun x_25 => ((some [])).bind fun r_22 => some (x_25 :: r_22)).bind fun r_23 => some (x_26 :: r_23)).bind fun r_24 => some (x_27 :: r_24)).bind fun r_25 => some (x_28 :: r_25)).bind fun steps_1 => ((some (((found_1 ++ [x_15]) ++ [x_19]) ++ [x_24])).bind fun a_24 => ((((((some length_1).bind fun x_30 => ((some steps_1).bind fun x_29 => ((some ())).bind fun r_26 => some (x_29, r_26)).bind fun r_27 => some (x_30, r_27)).bind fun g_5 => k_needless g_5.1 g_5.2.1).bind fun a_20 => ((some (0 : Int)).bind fun x_31 => ((some [])).bind fun r_28 => some (x_31 :: r_28)).bind fun b_16 => eqD a_20 b_16).bind fun a_23 => if a_23 = true then ((((some length_1).bind fun x_33 => ((some steps_1).bind fun x_32 => ((some ())).bind fun r_29 => some (x_32, r_29)).bind fun r_30 => some (x_33, r_30)).bind fun g_6 => k_outcomes g_6.1 g_6.2.1).bind fun a_21 => lenL a_21).bind fun a_22 => (some (1 : Int)).bind fun b_17 => eqD a_22 b_17 else some false).bind fun x_34 => ((some [])).bind fun r_31 => some (x_34 :: r_31)).bind fun b_18 => catP a_24 b_18).bind fun y_1 => some (Fl.ret y_1) else none else none else none)
theorem e__law_more_right : @m__law_more_right = @k__law_more_right := by
  unfold m__law_more_right k__law_more_right
  rw [e_effect_rows, e_first_parting, e_needless, e_outcomes]
end Y

namespace Y
open L2 (atI ixN)
def m_law (script_1 : (List Int)) : Option Bool :=
  runF (((((some (0 : Int)).bind fun x_3 => ((some (3 : Int)).bind fun x_2 => ((some (10 : Int)).bind fun x_1 => ((some ())).bind fun r_1 => some (x_1, r_1)).bind fun r_2 => some (x_2, r_2)).bind fun r_3 => some (x_3, r_3)).bind fun r_4 => some (script_1, r_4)).bind fun g_1 => m__law_digits g_1.1 g_1.2.1 g_1.2.2.1 g_1.2.2.2.1).bind fun digits_1 => (((some (1 : Int)).bind fun x_5 => ((some [])).bind fun r_5 => some (x_5 :: r_5)).bind fun a_2 => ((some digits_1).bind fun xs_1 => mapO (fun x_4 => (some (1 : Int)).bind fun a_1 => (some x_4).bind fun b_1 => addI a_1 b_1) xs_1).bind fun b_2 => catP a_2 b_2).bind fun xs_2 => thenF (forL xs_2 () (fun x_6 (s_1 : Unit) => thenF ((((some false).bind fun a_3 => (((some x_6).bind fun x_7 => ((some ())).bind fun r_6 => some (x_7, r_6)).bind fun g_2 => m__law_two_right g_2.1).bind fun b_3 => inL a_3 b_3).bind fun a_5 => if a_5 = true then some true else (some false).bind fun a_4 => (((some x_6).bind fun x_8 => ((some ())).bind fun r_7 => some (x_8, r_7)).bind fun g_3 => m__law_more_right g_3.1).bind fun b_4 => inL a_4 b_4).bind fun c_1 => if c_1 = true then (some false).bind fun y_1 => some (Fl.ret y_1) else some (Fl.nx ())) fun (s_2 : Unit) => some (Fl.nx ()))) fun (s_1 : Unit) => thenF ((((((some (3 : Int)).bind fun x_13 => ((((some (0 : Int)).bind fun p_1 => (some (1 : Int)).bind fun p_2 => some (p_1, p_2)).bind fun x_11 => (((some (1 : Int)).bind fun p_3 => (some (3 : Int)).bind fun p_4 => some (p_3, p_4)).bind fun x_10 => (((some (0 : Int)).bind fun p_5 => (some (3 : Int)).bind fun p_6 => some (p_5, p_6)).bind fun x_9 => ((some [])).bind fun r_8 => some (x_9 :: r_8)).bind fun r_9 => some (x_10 :: r_9)).bind fun r_10 => some (x_11 :: r_10)).bind fun x_12 => ((some ())).bind fun r_11 => some (x_12, r_11)).bind fun r_12 => some (x_13, r_12)).bind fun g_4 => m_effect_rows g_4.1 g_4.2.1).bind fun a_7 => ((some (1 : Int)).bind fun a_6 => negI a_6).bind fun b_5 => atI a_7 b_5).bind fun a_8 => ((some ([115, 101, 116] : List Nat)).bind fun x_16 => ((some ([115, 101, 116] : List Nat)).bind fun x_15 => ((some ([99, 108, 101, 97, 114] : List Nat)).bind fun x_14 => ((some [])).bind fun r_13 => some (x_14 :: r_13)).bind fun r_14 => some (x_15 :: r_14)).bind fun r_15 => some (x_16 :: r_15)).bind fun b_6 => neD a_8 b_6).bind fun c_2 => if c_2 = true then (some false).bind fun y_2 => some (Fl.ret y_2) else some (Fl.nx ())) fun (s_3 : Unit) => ((((some (40 : Int)).bind fun x_21 => ((((some (0 : Int)).bind fun p_7 => (some (40 : Int)).bind fun p_8 => some (p_7, p_8)).bind fun x_19 => ((some [])).bind fun r_18 => some (x_19 :: r_18)).bind fun x_20 => (((some ([115, 101, 116] : List Nat)).bind fun x_17 => ((some [])).bind fun r_16 => some (x_17 :: r_16)).bind fun x_18 => ((some ())).bind fun r_17 => some (x_18, r_17)).bind fun r_19 => some (x_20, r_19)).bind fun r_20 => some (x_21, r_20)).bind fun g_5 => m_count_with g_5.1 g_5.2.1 g_5.2.2.1).bind fun a_9 => (some (1099511627775 : Int)).bind fun b_7 => eqD a_9 b_7).bind fun y_3 => some (Fl.ret y_3))
end Y

namespace Y
open L2 (atI ixN)
theorem far_right {m : Int} (h1 : 1 ≤ m) (h2 : m ≤ 10) : (m__law_two_right m).bind (fun xs => inL false xs) = some false ∧ (m__law_more_right m).bind (fun xs => inL false xs) = some false := by
  rw [e__law_two_right, e__law_more_right]
  have : m = 1 ∨ m = 2 ∨ m = 3 ∨ m = 4 ∨ m = 5 ∨ m = 6 ∨ m = 7 ∨ m = 8 ∨ m = 9 ∨ m = 10 := by omega
  rcases this with rfl | rfl | rfl | rfl | rfl | rfl | rfl | rfl | rfl | rfl <;> exact ⟨by decide +kernel, by decide +kernel⟩
theorem rows_end : ((m_effect_rows 3 [(0, 1), (1, 3), (0, 3)]).bind fun a => atI a (-1)) = some [[115, 101, 116], [115, 101, 116], [99, 108, 101, 97, 114]] := by
  rw [e_effect_rows]
  decide +kernel
theorem count_end : m_count_with 40 [(0, 40)] [[115, 101, 116]] = some 1099511627775 := by
  rw [e_count_with]
  decide +kernel
theorem law_true (ns : List Int) (_ : ns.length ≤ 63) : m_law ns = some true := by
  unfold m_law
  simp only [obs]
  obtain ⟨ds, hds, hD⟩ := digits_some ns (i := 0) (n := 3) (base := 10) (by decide) (by decide) (by decide) (by decide) (by decide)
  have hds : m__law_digits ns 0 3 10 = some ds := hds
  rw [hds, obs]
  have hmap : mapO (fun x_4 : Int => addI 1 x_4) ds = some (ds.map fun x => 1 + x) := mapO_eq fun _ _ => rfl
  rw [hmap, obs, catP_eq (by simp [hD.1]), obs]
  rw [forL_unit fun far hf => ?body]
  case body =>
    have hb : 1 ≤ far ∧ far ≤ 10 := by
      rcases List.mem_append.mp hf with hf | hf
      · have := List.mem_singleton.mp hf
        omega
      · obtain ⟨d, hd, rfl⟩ := List.mem_map.mp hf
        have := hD.2 d hd
        omega
    obtain ⟨r1, r2⟩ := far_right hb.1 hb.2
    rw [r1, obs, ifF, r2, obs, ifF, thenF_nx]
  rw [thenF_nx, show negI 1 = some (-1) from rfl]
  simp only [obs]
  rw [rows_end, obs, neD_self, obs, ifF, thenF_nx, count_end, obs, eqD_self]
  rfl
end Y

namespace Y
open PySem PySem.Spec PyProof.Rows L2
def topS (i : Nat) : Stmt := PySem.Challenge.pw_boldtoggle_k32_worked_scripts_on_long_li.main.body.getD i (.Pass ⟨0, 0, 0, 0⟩)
structure Blt (mg : Str → Option Value) : Prop where
  b_all : mg "all" = none
  b_any : mg "any" = none
  b_enumerate : mg "enumerate" = none
  b_isinstance : mg "isinstance" = none
  b_len : mg "len" = none
  b_list : mg "list" = none
  b_min : mg "min" = none
  b_range : mg "range" = none
  b_set : mg "set" = none
  b_sorted : mg "sorted" = none
  b_sum : mg "sum" = none
  b_tuple : mg "tuple" = none
  b_zip : mg "zip" = none
section
variable {P : Program} {w : World} {K : PySem.W.Frag} {mg : Str → Option Value} {base : Heap}
abbrev st_Macro_init : Stmt := inClass (topS 30) 0
theorem sc_Macro_init : FnScope ["self", "length", "script"] ["self", "length", "script"] (defScope st_Macro_init) := ⟨rfl, rfl, rfl, by decide +kernel, rfl, by decide +kernel, by decide +kernel⟩
theorem ok_Macro_init {f C : Addr} {fd : FuncData} (Fn : Fun K "__init__" "Macro.__init__" st_Macro_init f fd) (T : MacT K mg C) : FnOk P w K mg base CX0 1 f fd ["self", "length", "script"] (spInit C) := by
  refine Fn.ok sc_Macro_init (fun vs H Q E h => ?_) (fun cdv A outer s H vs Q E hr h => ?_)
  · obtain ⟨p, dx, v1, v2, rfl, _⟩ := h
    rfl
  · obtain ⟨p, dx, v1, v2, rfl, hp, k⟩ := h
    exact ⟨_, pss_cons (ps_fld (pv 0) (pv 1) rfl) (pss_cons (ps_fld (pv 0) (pv 2) rfl) pss_nil), init_walk T rfl rfl rfl hp k⟩
abbrev st_cuts : Stmt := topS 2
theorem sc_cuts : FnScope ["length", "toggles", "found", "start", "end"] ["length", "toggles"] (defScope st_cuts) := ⟨rfl, rfl, rfl, by decide +kernel, rfl, by decide +kernel, by decide +kernel⟩
theorem ok_cuts {f : Addr} {fd : FuncData} (B : Blt mg) (Fn : Fun K "cuts" "cuts" st_cuts f fd)  :
    FnOk P w K mg base CX0 1 f fd ["length", "toggles"] (spD K (aC rI (aC (rT (rP rI rI)) aN)) (fun g => m_cuts g.1 g.2.1) .n (rL rI)) := by
  refine Fn.ok sc_cuts (spD_len rfl) (fun cdv A outer s H vs Q E hr h => ?_)
  refine ⟨_, (pss_cons (ps_set (i := 2) sc_cuts.nd rfl (Or.inl rfl) (pe_lst (pa_cons pe_int (pa_cons (pv 0) pa_nil)))) (pss_cons (ps_for PassesOwn.never rfl (pi_tup (pv 1)) (pg_tup rfl (pgs_cons (pg_name (i := 3) sc_cuts.nd rfl (Or.inl rfl)) (pgs_cons (pg_name (i := 4) sc_cuts.nd rfl (Or.inl rfl)) pgs_nil))) (pss_cons (ps_set (i := 2) sc_cuts.nd rfl (Or.inl rfl) (pe_op (r := rCatL K) op_catL (pv 2) (pe_lst (pa_cons (pv 3) (pa_cons (pv 4) pa_nil))))) pss_nil)) (pss_cons (ps_ret (pe_callB (cr_sortedSK rfl (room65 hr)) (by rfl) B.b_sorted (by decide +kernel) (pa_cons (pe_callTy (cr_setK rfl) (by rfl) B.b_set (by decide +kernel) (pa_cons (pv 2) pa_nil)) pa_nil))) pss_nil))), ?_⟩
  exact run_body (N := ["length", "toggles", "found", "start", "end"]) (out := fun _ => [Sl.j, Sl.j, Sl.j, Sl.j, Sl.j]) h 3 rfl fun F0 H0 g =>
    (match g with
    | (length_1, toggles_1, _) => (bd_set (Ev.nr (ev_lst (evas_cons ev_int (evas_cons (ev_var (R := rI) (x := length_1) rfl) (evas_nil (R := rI)))))) fun found_1 => (bd_for (Γl := fun s_1 : (List Int) => [Sl.f rI length_1, Sl.f (rT (rP rI rI)) toggles_1, Sl.f (rL rI) s_1, Sl.j, Sl.j]) found_1 (ei_tup (ev_var (R := (rT (rP rI rI))) (x := toggles_1) rfl)) (tg_pair 3 4) (Le.eq (Le.eq (Le.eq (Le.eq (Le.eq Le.nil))))) (fun x_3 s_1 => (bd_set (Ev.nr (ev_op o_catL (Ev.rv (ev_var (R := (rL rI)) (x := s_1) rfl)) (Ev.nv (ev_lst (evas_cons (ev_var (R := rI) (x := x_3.1) rfl) (evas_cons (ev_var (R := rI) (x := x_3.2) rfl) (evas_nil (R := rI)))))))) fun found_2 => (bd_next (b := found_2) (Le.eq (Le.eq (Le.eq (Le.j (Le.j Le.nil)))))))) (fun s_1 => (bd_ret (ev_sortSet kf_I ordT_I (Ev.rv (ev_var (R := (rL rI)) (x := s_1) rfl))))))))
abbrev st_blocks : Stmt := topS 3
theorem sc_blocks : FnScope ["length", "script", "borders"] ["length", "script"] (defScope st_blocks) := ⟨rfl, rfl, rfl, by decide +kernel, rfl, by decide +kernel, by decide +kernel⟩
theorem ok_blocks {f : Addr} {fd : FuncData} (B : Blt mg) (Fn : Fun K "blocks" "blocks" st_blocks f fd) (D_cuts : Df P w K mg base "cuts" 1 ["length", "toggles"] (spD K (aC rI (aC (rT (rP rI rI)) aN)) (fun g => m_cuts g.1 g.2.1) .n (rL rI))) :
    FnOk P w K mg base CX0 2 f fd ["length", "script"] (spD K (aC rI (aC (rT (rP rI rI)) aN)) (fun g => m_blocks g.1 g.2.1) .n (rL (rP rI rI))) := by
  refine Fn.ok sc_blocks (spD_len rfl) (fun cdv A outer s H vs Q E hr h => ?_)
  refine ⟨_, (pss_cons (ps_set (i := 2) sc_blocks.nd rfl (Or.inl rfl) (pe_callD D_cuts (hr.mono (by decide)) (by rfl) (pa_cons (pv 0) (pa_cons (pv 1) pa_nil)))) (pss_cons (ps_ret (pe_listZip rfl (by rfl) B.b_list (by rfl) B.b_zip (pa_cons (pv 2) (pa_cons (pe_slice (r := rSlL K) sl_list (pv 2) (po_some pe_int) po_none) pa_nil)))) pss_nil)), ?_⟩
  exact run_body (N := ["length", "script", "borders"]) (out := fun _ => [Sl.j, Sl.j, Sl.j]) h 1 rfl fun F0 H0 g =>
    (match g with
    | (length_1, script_1, _) => (bd_set (Ev.nr (ev_call (eva_cons (ev_var (R := rI) (x := length_1) rfl) (eva_cons (ev_var (R := (rT (rP rI rI))) (x := script_1) rfl) eva_nil)))) fun borders_1 => (bd_ret (ev_listZip wa_list wa_list (ev_var (R := (rL rI)) (x := borders_1) rfl) (Ev.nr (ev_slice o_cutL (Ev.rv (ev_var (R := (rL rI)) (x := borders_1) rfl)) (evp_some ev_int) evp_none))))))
abbrev st_within : Stmt := topS 4
theorem sc_within : FnScope ["parts", "toggle", "index", "part"] ["parts", "toggle"] (defScope st_within) := ⟨rfl, rfl, rfl, by decide +kernel, rfl, by decide +kernel, by decide +kernel⟩
theorem ok_within {f : Addr} {fd : FuncData} (B : Blt mg) (Fn : Fun K "within" "within" st_within f fd)  :
    FnOk P w K mg base CX0 1 f fd ["parts", "toggle"] (spD K (aC (rL (rP rI rI)) (aC (rP rI rI) aN)) (fun g => m_within g.1 g.2.1) .n (rL rI)) := by
  refine Fn.ok sc_within (spD_len rfl) (fun cdv A outer s H vs Q E hr h => ?_)
  refine ⟨_, (pss_cons (ps_ret (pe_lc (own := [("index", 2), ("part", 3)]) (g := (gTup K 2 (gCons (gName 2) (gCons (gName 3) gNil)))) rfl sc_within.nd (pi_enumS (by rfl) B.b_enumerate (pa_cons (pv 0) pa_nil)) (blkOk_by (N := ["parts", "toggle", "index", "part"]) (sc := defScope st_within) (by decide +kernel)) (fun _ _ _ _ _ => (pg_tup rfl (pgs_cons (pg_name (i := 2) sc_within.nd rfl (Or.inl rfl)) (pgs_cons (pg_name (i := 3) sc_within.nd rfl (Or.inl rfl)) pgs_nil)))) (fun _ _ _ _ _ => pts_one (PW.pt (pw_and (pt_cmpR op_le (pe_ix (r := rIxT K) ix_tup (pv 1) pe_int (fun _ _ => rfl)) (pe_ix (r := rIxT K) ix_tup (pv 3) pe_int (fun _ _ => rfl)) (nomark _)) (pw_and1 (pt_cmpR op_le (pe_ix (r := rIxT K) ix_tup (pv 3) pe_int (fun _ _ => rfl)) (pe_ix (r := rIxT K) ix_tup (pv 1) pe_int (fun _ _ => rfl)) (nomark _)))))) (fun _ _ _ _ _ => (pv 2)))) pss_nil), ?_⟩
  exact run_body (N := ["parts", "toggle", "index", "part"]) (out := fun _ => [Sl.j, Sl.j, Sl.j, Sl.j]) h 2 rfl fun F0 H0 g =>
    (match g with
    | (parts_1, toggle_1, _) => (bd_ret (ev_lcF (ei_enumS wa_list (ev_var (R := (rL (rP rI rI))) (x := parts_1) rfl)) (tg_pair 2 3) (fun x_1 => (evt_and (evt_test (ev_op o_le (Ev.rv (ev_fst (ev_var (R := (rP rI rI)) (x := toggle_1) rfl))) (Ev.rv (ev_fst (ev_var (R := (rP rI rI)) (x := x_1.2) rfl))))) (evt_test (ev_op o_le (Ev.rv (ev_snd (ev_var (R := (rP rI rI)) (x := x_1.2) rfl))) (Ev.rv (ev_snd (ev_var (R := (rP rI rI)) (x := toggle_1) rfl))))))) (fun x_1 => (ev_var (R := rI) (x := x_1.1) rfl)))))
abbrev st_painted : Stmt := topS 5
theorem sc_painted : FnScope ["values", "chosen", "sign", "index", "value"] ["values", "chosen", "sign"] (defScope st_painted) := ⟨rfl, rfl, rfl, by decide +kernel, rfl, by decide +kernel, by decide +kernel⟩
theorem ok_painted {f : Addr} {fd : FuncData} (B : Blt mg) (Fn : Fun K "painted" "painted" st_painted f fd)  :
    FnOk P w K mg base CX0 1 f fd ["values", "chosen", "sign"] (spD K (aC (rT (rO rS)) (aC (rL rI) (aC rS aN))) (fun g => m_painted g.1 g.2.1 g.2.2.1) .r (rT (rO rS))) := by
  refine Fn.ok sc_painted (spD_len rfl) (fun cdv A outer s H vs Q E hr h => ?_)
  refine ⟨_, (pss_cons (ps_ret (pe_callTy call_tuple_of (by rfl) B.b_tuple (by decide +kernel) (pa_cons (pe_lc (own := [("index", 3), ("value", 4)]) (g := (gTup K 2 (gCons (gName 3) (gCons (gName 4) gNil)))) rfl sc_painted.nd (pi_enumS (by rfl) B.b_enumerate (pa_cons (pv 0) pa_nil)) (blkOk_by (N := ["values", "chosen", "sign", "index", "value"]) (sc := defScope st_painted) (by decide +kernel)) (fun _ _ _ _ _ => (pg_tup rfl (pgs_cons (pg_name (i := 3) sc_painted.nd rfl (Or.inl rfl)) (pgs_cons (pg_name (i := 4) sc_painted.nd rfl (Or.inl rfl)) pgs_nil)))) (fun _ _ _ _ _ => pts_nil) (fun _ _ _ _ _ => (pe_ifExp (pt_cmpR (r := rIn K false) op_in_seq (pv 3) (pv 1) (by with_unfolding_all rfl)) (pv 2) (pv 4)))) pa_nil))) pss_nil), ?_⟩
  exact run_body (N := ["values", "chosen", "sign", "index", "value"]) (out := fun _ => [Sl.j, Sl.j, Sl.j, Sl.j, Sl.j]) h 2 rfl fun F0 H0 g =>
    (match g with
    | (values_1, chosen_1, sign_1, _) => (bd_ret (ev_cb1 o_tupleL (Ev.nv (ev_lc (ei_enumS wa_tup (ev_var (R := (rT (rO rS))) (x := values_1) rfl)) (tg_pair 3 4) (fun x_1 => (ev_if (evt_test (ev_op o_inIL (Ev.rv (ev_var (R := rI) (x := x_1.1) rfl)) (Ev.rv (ev_var (R := (rL rI)) (x := chosen_1) rfl)))) (Ev.mkO (R := rS) (h := fun _ => ⟨rfl, rfl⟩) (ev_var (R := rS) (x := sign_1) rfl)) (ev_var (R := (rO rS)) (x := x_1.2) rfl))))))))
abbrev st_stepped : Stmt := topS 6
theorem sc_stepped : FnScope ["parts", "path", "toggle", "chosen", "here", "found", "more", "row", "values", "bold", "clauses", "index", "clause"] ["parts", "path", "toggle"] (defScope st_stepped) := ⟨rfl, rfl, rfl, by decide +kernel, rfl, by decide +kernel, by decide +kernel⟩
theorem ok_stepped {f : Addr} {fd : FuncData} (B : Blt mg) (Fn : Fun K "stepped" "stepped" st_stepped f fd) (D_within : Df P w K mg base "within" 1 ["parts", "toggle"] (spD K (aC (rL (rP rI rI)) (aC (rP rI rI) aN)) (fun g => m_within g.1 g.2.1) .n (rL rI))) (D_painted : Df P w K mg base "painted" 1 ["values", "chosen", "sign"] (spD K (aC (rT (rO rS)) (aC (rL rI) (aC rS aN))) (fun g => m_painted g.1 g.2.1 g.2.2.1) .r (rT (rO rS)))) :
    FnOk P w K mg base CX0 2 f fd ["parts", "path", "toggle"] (spD K (aC (rL (rP rI rI)) (aC (r4 (rT rS) (rT (rO rS)) (rT rI) (rT (rT rI))) (aC (rP rI rI) aN))) (fun g => m_stepped g.1 g.2.1 g.2.2.1) .n (rL (r4 (rT rS) (rT (rO rS)) (rT rI) (rT (rT rI))))) := by
  refine Fn.ok sc_stepped (spD_len rfl) (fun cdv A outer s H vs Q E hr h => ?_)
  refine ⟨_, (pss_cons (ps_asg (pv 1) (pg_tup rfl (pgs_cons (pg_name (i := 7) sc_stepped.nd rfl (Or.inl rfl)) (pgs_cons (pg_name (i := 8) sc_stepped.nd rfl (Or.inr rfl)) (pgs_cons (pg_name (i := 9) sc_stepped.nd rfl (Or.inr rfl)) (pgs_cons (pg_name (i := 10) sc_stepped.nd rfl (Or.inl rfl)) pgs_nil)))))) (pss_cons (ps_set (i := 3) sc_stepped.nd rfl (Or.inl rfl) (pe_callD D_within (hr.mono (by decide)) (by rfl) (pa_cons (pv 0) (pa_cons (pv 2) pa_nil)))) (pss_cons (ps_setLc (i := 4) (own := [("index", 11)]) (g := (gName 11)) rfl sc_stepped.nd rfl rfl (sw_true rfl rfl rfl (by decide +kernel)) (pi_list (pv 3)) (blkOk_by (N := ["parts", "path", "toggle", "chosen", "here", "found", "more", "row", "values", "bold", "clauses", "index", "clause"]) (sc := defScope st_stepped) (by decide +kernel)) (fun _ _ _ _ _ => (pg_name (i := 11) sc_stepped.nd rfl (Or.inl rfl))) (fun _ _ _ _ _ => pts_one (PW.pt (pw_and (pt_cmp (pc_isN (pe_ix (r := rIxT K) ix_tup (pv 8) (pv 11) (fun _ _ => rfl)))) (pw_and1 (pt_cmpR (r := rIn K true) op_notIn_seq (pv 11) (pv 9) (by with_unfolding_all rfl)))))) (fun _ _ _ _ _ => (pv 11))) (pss_cons (ps_if (pt_val (pe_callB (cr_any rfl) (by rfl) B.b_any (by decide +kernel) (pa_cons (pe_lc (own := [("index", 11)]) (g := (gName 11)) rfl sc_stepped.nd (pi_list (pv 3)) (blkOk_by (N := ["parts", "path", "toggle", "chosen", "here", "found", "more", "row", "values", "bold", "clauses", "index", "clause"]) (sc := defScope st_stepped) (by decide +kernel)) (fun _ _ _ _ _ => (pg_name (i := 11) sc_stepped.nd rfl (Or.inl rfl))) (fun _ _ _ _ _ => pts_nil) (fun _ _ _ _ _ => (pe_cmpR (r := rEqD K) (op_eqD hr.units) (pe_ix (r := rIxT K) ix_tup (pv 8) (pv 11) (fun _ _ => rfl)) pe_str (nomark _)))) pa_nil))) (pss_cons (ps_ret (pe_lst (pa_cons (pe_tup (pa_cons (pe_op (r := rCatA K) op_catA (pv 7) (pe_tup (pa_cons pe_str pa_nil))) (pa_cons (pe_callD D_painted (hr.mono (by decide)) (by rfl) (pa_cons (pv 8) (pa_cons (pv 3) (pa_cons pe_str pa_nil)))) (pa_cons (pv 9) (pa_cons (pv 10) pa_nil))))) pa_nil))) pss_nil) pss_nil) (pss_cons (ps_set (i := 5) sc_stepped.nd rfl (Or.inl rfl) (pe_lst pa_nil)) (pss_cons (ps_set (i := 6) sc_stepped.nd rfl (Or.inr rfl) (pe_op (r := rCatA K) op_catA (pv 9) (pe_callTy call_tuple_of (by rfl) B.b_tuple (by decide +kernel) (pa_cons (pv 4) pa_nil)))) (pss_cons (ps_if (pt_val (pe_callB (cr_all rfl) (by rfl) B.b_all (by decide +kernel) (pa_cons (pe_lc (own := [("clause", 12)]) (g := (gName 12)) rfl sc_stepped.nd (pi_tup (pv 10)) (blkOk_by (N := ["parts", "path", "toggle", "chosen", "here", "found", "more", "row", "values", "bold", "clauses", "index", "clause"]) (sc := defScope st_stepped) (by decide +kernel)) (fun _ _ _ _ _ => (pg_name (i := 12) sc_stepped.nd rfl (Or.inl rfl))) (fun _ _ _ _ _ => pts_nil) (fun _ _ _ _ _ => (pe_callB (r := rAny K) (cr_any rfl) (by rfl) B.b_any (by decide +kernel) (pa_cons (pe_lc (own := [("index", 11)]) (g := (gName 11)) rfl sc_stepped.nd (pi_tupK (K := K) (pv 12)) (blkOk_nest (N := ["parts", "path", "toggle", "chosen", "here", "found", "more", "row", "values", "bold", "clauses", "index", "clause"]) (by decide +kernel)) (fun _ _ _ _ _ => (pg_name (i := 11) sc_stepped.nd rfl (Or.inl rfl))) (fun _ _ _ _ _ => pts_nil) (fun _ _ _ _ _ => (pe_cmpR (r := rIn K true) op_notIn_seq (pv 11) (pv 6) (by with_unfolding_all rfl)))) pa_nil)))) pa_nil))) (pss_cons (ps_expr (pe_bm PySem.F.plainAttrs_list PySem.F.slot_list_append PySem.F.type_list_append mt_append (pv 5) (pa_cons (pe_tup (pa_cons (pe_op (r := rCatA K) op_catA (pv 7) (pe_tup (pa_cons pe_str pa_nil))) (pa_cons (pe_callD D_painted (hr.mono (by decide)) (by rfl) (pa_cons (pv 8) (pa_cons (pv 3) (pa_cons pe_str pa_nil)))) (pa_cons (pv 6) (pa_cons (pv 10) pa_nil))))) pa_nil))) pss_nil) pss_nil) (pss_cons (ps_if (pt_cmpR (r := rNeD K) (op_neD hr.units) (pv 4) (pe_lst pa_nil) (nomark _)) (pss_cons (ps_expr (pe_bm PySem.F.plainAttrs_list PySem.F.slot_list_append PySem.F.type_list_append mt_append (pv 5) (pa_cons (pe_tup (pa_cons (pe_op (r := rCatA K) op_catA (pv 7) (pe_tup (pa_cons pe_str pa_nil))) (pa_cons (pe_callD D_painted (hr.mono (by decide)) (by rfl) (pa_cons (pv 8) (pa_cons (pv 3) (pa_cons pe_str pa_nil)))) (pa_cons (pv 9) (pa_cons (pe_op (r := rCatA K) op_catA (pv 10) (pe_tup (pa_cons (pe_callTy call_tuple_of (by rfl) B.b_tuple (by decide +kernel) (pa_cons (pv 4) pa_nil)) pa_nil))) pa_nil))))) pa_nil))) pss_nil) pss_nil) (pss_cons (ps_ret (pv 5)) pss_nil))))))))), ?_⟩
  exact run_body (N := ["parts", "path", "toggle", "chosen", "here", "found", "more", "row", "values", "bold", "clauses", "index", "clause"]) (out := fun _ => [Sl.j, Sl.j, Sl.j, Sl.j, Sl.j, Sl.j, Sl.j, Sl.j, Sl.j, Sl.j, Sl.j, Sl.j, Sl.j]) h 10 rfl fun F0 H0 g =>
    (match g with
    | (parts_1, path_1, toggle_1, _) => (bd_asg (ev_var (R := (r4 (rT rS) (rT (rO rS)) (rT rI) (rT (rT rI)))) (x := path_1) rfl) (tg_quad 7 8 9 10) fun p_1 => (bd_set (Ev.nr (ev_call (eva_cons (ev_var (R := (rL (rP rI rI))) (x := parts_1) rfl) (eva_cons (ev_var (R := (rP rI rI)) (x := toggle_1) rfl) eva_nil)))) fun chosen_1 => (bd_set (Ev.nr (ev_lcF (ei_list (ev_var (R := (rL rI)) (x := chosen_1) rfl)) (tg_name 11) (fun x_3 => (evt_and (evt_b (ev_isN (ev_op o_atT (Ev.rv (ev_var (R := (rT (rO rS))) (x := p_1.2.1) rfl)) (Ev.rv (ev_var (R := rI) (x := x_3) rfl))))) (evt_test (ev_op o_notInIT (Ev.rv (ev_var (R := rI) (x := x_3) rfl)) (Ev.rv (ev_var (R := (rT rI)) (x := p_1.2.2.1) rfl)))))) (fun x_3 => (ev_var (R := rI) (x := x_3) rfl)))) fun here_1 => (bd_seq (out1 := fun s_1 : Unit => [Sl.f (rL (rP rI rI)) parts_1, Sl.f (r4 (rT rS) (rT (rO rS)) (rT rI) (rT (rT rI))) path_1, Sl.f (rP rI rI) toggle_1, Sl.f (rL rI) chosen_1, Sl.f (rL rI) here_1, Sl.j, Sl.j, Sl.f (rT rS) p_1.1, Sl.f (rT (rO rS)) p_1.2.1, Sl.f (rT rI) p_1.2.2.1, Sl.f (rT (rT rI)) p_1.2.2.2, Sl.j, Sl.j]) (bd_if (evt_b (ev_cb1 o_any (Ev.nv (ev_lc (ei_list (ev_var (R := (rL rI)) (x := chosen_1) rfl)) (tg_name 11) (fun x_4 => (ev_op (o_eq (S := (rO rS))) (Ev.rv (ev_op o_atT (Ev.rv (ev_var (R := (rT (rO rS))) (x := p_1.2.1) rfl)) (Ev.rv (ev_var (R := rI) (x := x_4) rfl)))) (Ev.rv (Ev.mkO (R := rS) (h := fun _ => ⟨rfl, rfl⟩) (ev_str [48] rfl (by decide) (by decide)))))))))) (bd_ret (ev_lst (evas_cons (ev_quad (ev_op o_catT (Ev.rv (ev_var (R := (rT rS)) (x := p_1.1) rfl)) (Ev.rv (ev_tupL (evas_cons (ev_str [115, 101, 116] rfl (by decide) (by decide)) (evas_nil (R := rS)))))) (ev_call (eva_cons (ev_var (R := (rT (rO rS))) (x := p_1.2.1) rfl) (eva_cons (ev_var (R := (rL rI)) (x := chosen_1) rfl) (eva_cons (ev_str [49] rfl (by decide) (by decide)) eva_nil)))) (ev_var (R := (rT rI)) (x := p_1.2.2.1) rfl) (ev_var (R := (rT (rT rI))) (x := p_1.2.2.2) rfl)) (evas_nil (R := (r4 (rT rS) (rT (rO rS)) (rT rI) (rT (rT rI)))))))) (bd_next (b := ()) (Le.eq (Le.eq (Le.eq (Le.eq (Le.eq (Le.eq (Le.eq (Le.eq (Le.eq (Le.eq (Le.eq (Le.eq (Le.eq Le.nil))))))))))))))) fun s_1 => (bd_setO (ev_lst (evas_nil (R := (r4 (rT rS) (rT (rO rS)) (rT rI) (rT (rT rI)))))) fun found_1 => (bd_set (ev_op o_catT (Ev.rv (ev_var (R := (rT rI)) (x := p_1.2.2.1) rfl)) (Ev.rv (ev_cb1 o_tupleL (Ev.rv (ev_var (R := (rL rI)) (x := here_1) rfl))))) fun more_1 => (bd_seq (out1 := fun s_2 : (List ((List (List Nat)) × (List (Option (List Nat))) × (List Int) × (List (List Int)))) => [Sl.f (rL (rP rI rI)) parts_1, Sl.f (r4 (rT rS) (rT (rO rS)) (rT rI) (rT (rT rI))) path_1, Sl.f (rP rI rI) toggle_1, Sl.f (rL rI) chosen_1, Sl.f (rL rI) here_1, Sl.o (r4 (rT rS) (rT (rO rS)) (rT rI) (rT (rT rI))) s_2, Sl.f (rT rI) more_1, Sl.f (rT rS) p_1.1, Sl.f (rT (rO rS)) p_1.2.1, Sl.f (rT rI) p_1.2.2.1, Sl.f (rT (rT rI)) p_1.2.2.2, Sl.j, Sl.j]) (bd_if (evt_b (ev_cb1 o_all (Ev.nv (ev_lc (ei_tup (ev_var (R := (rT (rT rI))) (x := p_1.2.2.2) rfl)) (tg_name 12) (fun x_10 => (ev_cb1 o_any (Ev.nv (ev_lc (ei_tup (ev_var (R := (rT rI)) (x := x_10) rfl)) (tg_name 11) (fun x_11 => (ev_op o_notInIT (Ev.rv (ev_var (R := rI) (x := x_11) rfl)) (Ev.rv (ev_var (R := (rT rI)) (x := more_1) rfl)))))))))))) (bd_append (S := (r4 (rT rS) (rT (rO rS)) (rT rI) (rT (rT rI)))) (xs := found_1) rfl (ev_quad (ev_op o_catT (Ev.rv (ev_var (R := (rT rS)) (x := p_1.1) rfl)) (Ev.rv (ev_tupL (evas_cons (ev_str [99, 108, 101, 97, 114] rfl (by decide) (by decide)) (evas_nil (R := rS)))))) (ev_call (eva_cons (ev_var (R := (rT (rO rS))) (x := p_1.2.1) rfl) (eva_cons (ev_var (R := (rL rI)) (x := chosen_1) rfl) (eva_cons (ev_str [48] rfl (by decide) (by decide)) eva_nil)))) (ev_var (R := (rT rI)) (x := more_1) rfl) (ev_var (R := (rT (rT rI))) (x := p_1.2.2.2) rfl)) fun x_16 => (bd_next (b := (found_1 ++ [x_16])) (Le.eq (Le.eq (Le.eq (Le.eq (Le.eq (Le.eq (Le.eq (Le.eq (Le.eq (Le.eq (Le.eq (Le.eq (Le.eq Le.nil))))))))))))))) (bd_next (b := found_1) (Le.eq (Le.eq (Le.eq (Le.eq (Le.eq (Le.eq (Le.eq (Le.eq (Le.eq (Le.eq (Le.eq (Le.eq (Le.eq Le.nil))))))))))))))) fun s_2 => (bd_seq (out1 := fun s_3 : (List ((List (List Nat)) × (List (Option (List Nat))) × (List Int) × (List (List Int)))) => [Sl.f (rL (rP rI rI)) parts_1, Sl.f (r4 (rT rS) (rT (rO rS)) (rT rI) (rT (rT rI))) path_1, Sl.f (rP rI rI) toggle_1, Sl.f (rL rI) chosen_1, Sl.f (rL rI) here_1, Sl.o (r4 (rT rS) (rT (rO rS)) (rT rI) (rT (rT rI))) s_3, Sl.f (rT rI) more_1, Sl.f (rT rS) p_1.1, Sl.f (rT (rO rS)) p_1.2.1, Sl.f (rT rI) p_1.2.2.1, Sl.f (rT (rT rI)) p_1.2.2.2, Sl.j, Sl.j]) (bd_if (evt_test (ev_op o_ne (Ev.rv (ev_var (R := (rL rI)) (x := here_1) rfl)) (Ev.nv (ev_lst (evas_nil (R := rI)))))) (bd_append (S := (r4 (rT rS) (rT (rO rS)) (rT rI) (rT (rT rI)))) (xs := s_2) rfl (ev_quad (ev_op o_catT (Ev.rv (ev_var (R := (rT rS)) (x := p_1.1) rfl)) (Ev.rv (ev_tupL (evas_cons (ev_str [115, 101, 116] rfl (by decide) (by decide)) (evas_nil (R := rS)))))) (ev_call (eva_cons (ev_var (R := (rT (rO rS))) (x := p_1.2.1) rfl) (eva_cons (ev_var (R := (rL rI)) (x := chosen_1) rfl) (eva_cons (ev_str [49] rfl (by decide) (by decide)) eva_nil)))) (ev_var (R := (rT rI)) (x := p_1.2.2.1) rfl) (ev_op o_catT (Ev.rv (ev_var (R := (rT (rT rI))) (x := p_1.2.2.2) rfl)) (Ev.rv (ev_tupL (evas_cons (ev_cb1 o_tupleL (Ev.rv (ev_var (R := (rL rI)) (x := here_1) rfl))) (evas_nil (R := (rT rI)))))))) fun x_22 => (bd_next (b := (s_2 ++ [x_22])) (Le.eq (Le.eq (Le.eq (Le.eq (Le.eq (Le.eq (Le.eq (Le.eq (Le.eq (Le.eq (Le.eq (Le.eq (Le.eq Le.nil))))))))))))))) (bd_next (b := s_2) (Le.eq (Le.eq (Le.eq (Le.eq (Le.eq (Le.eq (Le.eq (Le.eq (Le.eq (Le.eq (Le.eq (Le.eq (Le.eq Le.nil))))))))))))))) fun s_3 => (bd_retO (S := (r4 (rT rS) (rT (rO rS)) (rT rI) (rT (rT rI)))) (xs := s_3) rfl))))))))))
abbrev st_paths_from : Stmt := topS 7
theorem sc_paths_from : FnScope ["parts", "paths", "script", "toggle", "later", "path"] ["parts", "paths", "script"] (defScope st_paths_from) := ⟨rfl, rfl, rfl, by decide +kernel, rfl, by decide +kernel, by decide +kernel⟩
theorem ok_paths_from {f : Addr} {fd : FuncData} (B : Blt mg) (Fn : Fun K "paths_from" "paths_from" st_paths_from f fd) (D_stepped : Df P w K mg base "stepped" 2 ["parts", "path", "toggle"] (spD K (aC (rL (rP rI rI)) (aC (r4 (rT rS) (rT (rO rS)) (rT rI) (rT (rT rI))) (aC (rP rI rI) aN))) (fun g => m_stepped g.1 g.2.1 g.2.2.1) .n (rL (r4 (rT rS) (rT (rO rS)) (rT rI) (rT (rT rI)))))) :
    FnOk P w K mg base CX0 3 f fd ["parts", "paths", "script"] (spD K (aC (rL (rP rI rI)) (aC (rL (r4 (rT rS) (rT (rO rS)) (rT rI) (rT (rT rI)))) (aC (rT (rP rI rI)) aN))) (fun g => m_paths_from g.1 g.2.1 g.2.2.1) .r (rL (r4 (rT rS) (rT (rO rS)) (rT rI) (rT (rT rI))))) := by
  refine Fn.ok sc_paths_from (spD_len rfl) (fun cdv A outer s H vs Q E hr h => ?_)
  refine ⟨_, (pss_cons (ps_for PassesOwn.never rfl (pi_tup (pv 2)) (pg_name (i := 3) sc_paths_from.nd rfl (Or.inl rfl)) (pss_cons (ps_set (i := 4) sc_paths_from.nd rfl (Or.inl rfl) (pe_lst pa_nil)) (pss_cons (ps_for PassesOwn.never rfl (pi_list (pv 1)) (pg_name (i := 5) sc_paths_from.nd rfl (Or.inl rfl)) (pss_cons (ps_set (i := 4) sc_paths_from.nd rfl (Or.inl rfl) (pe_op (r := rCatL K) op_catL (pv 4) (pe_callD D_stepped (hr.mono (by decide)) (by rfl) (pa_cons (pv 0) (pa_cons (pv 5) (pa_cons (pv 3) pa_nil)))))) pss_nil)) (pss_cons (ps_set (i := 1) sc_paths_from.nd rfl (Or.inl rfl) (pv 4)) pss_nil)))) (pss_cons (ps_ret (pv 1)) pss_nil)), ?_⟩
  exact run_body (N := ["parts", "paths", "script", "toggle", "later", "path"]) (out := fun _ => [Sl.j, Sl.j, Sl.j, Sl.j, Sl.j, Sl.j]) h 3 rfl fun F0 H0 g =>
    (match g with
    | (parts_1, paths_1, script_1, _) => (bd_for (Γl := fun s_1 : (List ((List (List Nat)) × (List (Option (List Nat))) × (List Int) × (List (List Int)))) => [Sl.f (rL (rP rI rI)) parts_1, Sl.f (rL (r4 (rT rS) (rT (rO rS)) (rT rI) (rT (rT rI)))) s_1, Sl.f (rT (rP rI rI)) script_1, Sl.j, Sl.j, Sl.j]) paths_1 (ei_tup (ev_var (R := (rT (rP rI rI))) (x := script_1) rfl)) (tg_name 3) (Le.eq (Le.eq (Le.eq (Le.eq (Le.eq (Le.eq Le.nil)))))) (fun x_1 s_1 => (bd_set (Ev.nr (ev_lst (evas_nil (R := (r4 (rT rS) (rT (rO rS)) (rT rI) (rT (rT rI))))))) fun later_1 => (bd_for (Γl := fun s_2 : (List ((List (List Nat)) × (List (Option (List Nat))) × (List Int) × (List (List Int)))) => [Sl.f (rL (rP rI rI)) parts_1, Sl.f (rL (r4 (rT rS) (rT (rO rS)) (rT rI) (rT (rT rI)))) s_1, Sl.f (rT (rP rI rI)) script_1, Sl.f (rP rI rI) x_1, Sl.f (rL (r4 (rT rS) (rT (rO rS)) (rT rI) (rT (rT rI)))) s_2, Sl.j]) later_1 (ei_list (ev_var (R := (rL (r4 (rT rS) (rT (rO rS)) (rT rI) (rT (rT rI))))) (x := s_1) rfl)) (tg_name 5) (Le.eq (Le.eq (Le.eq (Le.eq (Le.eq (Le.eq Le.nil)))))) (fun x_2 s_2 => (bd_set (Ev.nr (ev_op o_catL (Ev.rv (ev_var (R := (rL (r4 (rT rS) (rT (rO rS)) (rT rI) (rT (rT rI))))) (x := s_2) rfl)) (Ev.nv (ev_call (eva_cons (ev_var (R := (rL (rP rI rI))) (x := parts_1) rfl) (eva_cons (ev_var (R := (r4 (rT rS) (rT (rO rS)) (rT rI) (rT (rT rI)))) (x := x_2) rfl) (eva_cons (ev_var (R := (rP rI rI)) (x := x_1) rfl) eva_nil))))))) fun later_2 => (bd_next (b := later_2) (Le.eq (Le.eq (Le.eq (Le.eq (Le.eq (Le.j Le.nil))))))))) (fun s_2 => (bd_set (ev_var (R := (rL (r4 (rT rS) (rT (rO rS)) (rT rI) (rT (rT rI))))) (x := s_2) rfl) fun paths_2 => (bd_next (b := paths_2) (Le.eq (Le.eq (Le.eq (Le.j (Le.j (Le.eq Le.nil)))))))))))) (fun s_1 => (bd_ret (ev_var (R := (rL (r4 (rT rS) (rT (rO rS)) (rT rI) (rT (rT rI))))) (x := s_1) rfl)))))
abbrev st_all_paths : Stmt := topS 8
theorem sc_all_paths : FnScope ["parts", "script"] ["parts", "script"] (defScope st_all_paths) := ⟨rfl, rfl, rfl, by decide +kernel, rfl, by decide +kernel, by decide +kernel⟩
theorem ok_all_paths {f : Addr} {fd : FuncData} (B : Blt mg) (Fn : Fun K "all_paths" "all_paths" st_all_paths f fd) (D_paths_from : Df P w K mg base "paths_from" 3 ["parts", "paths", "script"] (spD K (aC (rL (rP rI rI)) (aC (rL (r4 (rT rS) (rT (rO rS)) (rT rI) (rT (rT rI)))) (aC (rT (rP rI rI)) aN))) (fun g => m_paths_from g.1 g.2.1 g.2.2.1) .r (rL (r4 (rT rS) (rT (rO rS)) (rT rI) (rT (rT rI)))))) :
    FnOk P w K mg base CX0 4 f fd ["parts", "script"] (spD K (aC (rL (rP rI rI)) (aC (rT (rP rI rI)) aN)) (fun g => m_all_paths g.1 g.2.1) .r (rL (r4 (rT rS) (rT (rO rS)) (rT rI) (rT (rT rI))))) := by
  refine Fn.ok sc_all_paths (spD_len rfl) (fun cdv A outer s H vs Q E hr h => ?_)
  refine ⟨_, (pss_cons (ps_ret (pe_callD D_paths_from (hr.mono (by decide)) (by rfl) (pa_cons (pv 0) (pa_cons (pe_lst (pa_cons (pe_tup (pa_cons (pe_tup pa_nil) (pa_cons (pe_op (r := rRepT2 K) op_repT2 (pe_tup (pa_cons pe_non pa_nil)) (pe_callB call_len_seq (by rfl) B.b_len (by decide +kernel) (pa_cons (pv 0) pa_nil))) (pa_cons (pe_tup pa_nil) (pa_cons (pe_tup pa_nil) pa_nil))))) pa_nil)) (pa_cons (pv 1) pa_nil))))) pss_nil), ?_⟩
  exact run_body (N := ["parts", "script"]) (out := fun _ => [Sl.j, Sl.j]) h 0 rfl fun F0 H0 g =>
    (match g with
    | (parts_1, script_1, _) => (bd_ret (ev_call (eva_cons (ev_var (R := (rL (rP rI rI))) (x := parts_1) rfl) (eva_cons (Ev.nr (ev_lst (evas_cons (ev_quad (ev_tupL (evas_nil (R := rS))) (ev_op o_repT (Ev.rv (ev_tupL (evas_cons (ev_nonO (R := rS) (h := fun _ => ⟨rfl, rfl⟩)) (evas_nil (R := (rO rS)))))) (Ev.rv (ev_cb1 o_lenL (Ev.rv (ev_var (R := (rL (rP rI rI))) (x := parts_1) rfl))))) (ev_tupL (evas_nil (R := rI))) (ev_tupL (evas_nil (R := (rT rI))))) (evas_nil (R := (r4 (rT rS) (rT (rO rS)) (rT rI) (rT (rT rI)))))))) (eva_cons (ev_var (R := (rT (rP rI rI))) (x := script_1) rfl) eva_nil))))))
abbrev st_effect_rows : Stmt := topS 9
theorem sc_effect_rows : FnScope ["length", "script", "path"] ["length", "script"] (defScope st_effect_rows) := ⟨rfl, rfl, rfl, by decide +kernel, rfl, by decide +kernel, by decide +kernel⟩
theorem ok_effect_rows {f : Addr} {fd : FuncData} (B : Blt mg) (Fn : Fun K "effect_rows" "effect_rows" st_effect_rows f fd) (D_all_paths : Df P w K mg base "all_paths" 4 ["parts", "script"] (spD K (aC (rL (rP rI rI)) (aC (rT (rP rI rI)) aN)) (fun g => m_all_paths g.1 g.2.1) .r (rL (r4 (rT rS) (rT (rO rS)) (rT rI) (rT (rT rI)))))) (D_blocks : Df P w K mg base "blocks" 2 ["length", "script"] (spD K (aC rI (aC (rT (rP rI rI)) aN)) (fun g => m_blocks g.1 g.2.1) .n (rL (rP rI rI)))) :
    FnOk P w K mg base CX0 5 f fd ["length", "script"] (spD K (aC rI (aC (rT (rP rI rI)) aN)) (fun g => m_effect_rows g.1 g.2.1) .n (rL (rT rS))) := by
  refine Fn.ok sc_effect_rows (spD_len rfl) (fun cdv A outer s H vs Q E hr h => ?_)
  refine ⟨_, (pss_cons (ps_ret (pe_callB (cr_sortedD (room65 hr)) (by rfl) B.b_sorted (by decide +kernel) (pa_cons (pe_lc (own := [("path", 2)]) (g := (gName 2)) rfl sc_effect_rows.nd (pi_list (pe_callD D_all_paths (hr.mono (by decide)) (by rfl) (pa_cons (pe_callD D_blocks (hr.mono (by decide)) (by rfl) (pa_cons (pv 0) (pa_cons (pv 1) pa_nil))) (pa_cons (pv 1) pa_nil)))) (blkOk_by (N := ["length", "script", "path"]) (sc := defScope st_effect_rows) (by decide +kernel)) (fun _ _ _ _ _ => (pg_name (i := 2) sc_effect_rows.nd rfl (Or.inl rfl))) (fun _ _ _ _ _ => pts_nil) (fun _ _ _ _ _ => (pe_ix (r := rIxT K) ix_tup (pv 2) pe_int (fun _ _ => rfl)))) pa_nil))) pss_nil), ?_⟩
  exact run_body (N := ["length", "script", "path"]) (out := fun _ => [Sl.j, Sl.j, Sl.j]) h 1 rfl fun F0 H0 g =>
    (match g with
    | (length_1, script_1, _) => (bd_ret (ev_cb1 (o_sortedT ord_S) (Ev.nv (ev_lc (ei_list (ev_call (eva_cons (Ev.nr (ev_call (eva_cons (ev_var (R := rI) (x := length_1) rfl) (eva_cons (ev_var (R := (rT (rP rI rI))) (x := script_1) rfl) eva_nil)))) (eva_cons (ev_var (R := (rT (rP rI rI))) (x := script_1) rfl) eva_nil)))) (tg_name 2) (fun x_5 => (ev_q0 (ev_var (R := (r4 (rT rS) (rT (rO rS)) (rT rI) (rT (rT rI)))) (x := x_5) rfl))))))))
abbrev st_least_pattern : Stmt := topS 10
theorem sc_least_pattern : FnScope ["parts", "bold", "index", "part"] ["parts", "bold"] (defScope st_least_pattern) := ⟨rfl, rfl, rfl, by decide +kernel, rfl, by decide +kernel, by decide +kernel⟩
theorem ok_least_pattern {f : Addr} {fd : FuncData} (B : Blt mg) (Fn : Fun K "least_pattern" "least_pattern" st_least_pattern f fd)  :
    FnOk P w K mg base CX0 1 f fd ["parts", "bold"] (spD K (aC (rL (rP rI rI)) (aC (rT rI) aN)) (fun g => m_least_pattern g.1 g.2.1) .r rS) := by
  refine Fn.ok sc_least_pattern (spD_len rfl) (fun cdv A outer s H vs Q E hr h => ?_)
  refine ⟨_, (pss_cons (ps_ret (pe_bm PySem.F.plainAttrs_str PySem.F.slot_str_join PySem.F.type_str_join mt_join pe_str (pa_cons (pe_lc (own := [("index", 2), ("part", 3)]) (g := (gTup K 2 (gCons (gName 2) (gCons (gName 3) gNil)))) rfl sc_least_pattern.nd (pi_enumS (by rfl) B.b_enumerate (pa_cons (pv 0) pa_nil)) (blkOk_by (N := ["parts", "bold", "index", "part"]) (sc := defScope st_least_pattern) (by decide +kernel)) (fun _ _ _ _ _ => (pg_tup rfl (pgs_cons (pg_name (i := 2) sc_least_pattern.nd rfl (Or.inl rfl)) (pgs_cons (pg_name (i := 3) sc_least_pattern.nd rfl (Or.inl rfl)) pgs_nil)))) (fun _ _ _ _ _ => pts_nil) (fun _ _ _ _ _ => (pe_op op_mulS (pe_ifExp (pt_cmpR (r := rIn K false) op_in_seq (pv 2) (pv 1) (by with_unfolding_all rfl)) pe_str pe_str) (pe_op op_sub (pe_ix (r := rIxT K) ix_tup (pv 3) pe_int (fun _ _ => rfl)) (pe_ix (r := rIxT K) ix_tup (pv 3) pe_int (fun _ _ => rfl)))))) pa_nil))) pss_nil), ?_⟩
  exact run_body (N := ["parts", "bold", "index", "part"]) (out := fun _ => [Sl.j, Sl.j, Sl.j, Sl.j]) h 2 rfl fun F0 H0 g =>
    (match g with
    | (parts_1, bold_1, _) => (bd_ret (ev_join (ev_str [] rfl (by decide) (by decide)) (Ev.nv (ev_lc (ei_enumS wa_list (ev_var (R := (rL (rP rI rI))) (x := parts_1) rfl)) (tg_pair 2 3) (fun x_1 => (ev_op o_mulS (Ev.rv (ev_if (evt_test (ev_op o_inIT (Ev.rv (ev_var (R := rI) (x := x_1.1) rfl)) (Ev.rv (ev_var (R := (rT rI)) (x := bold_1) rfl)))) (ev_str [49] rfl (by decide) (by decide)) (ev_str [48] rfl (by decide) (by decide)))) (Ev.rv (ev_op o_sub (Ev.rv (ev_snd (ev_var (R := (rP rI rI)) (x := x_1.2) rfl))) (Ev.rv (ev_fst (ev_var (R := (rP rI rI)) (x := x_1.2) rfl))))))))))))
abbrev st_first_with : Stmt := topS 11
theorem sc_first_with : FnScope ["length", "script", "row", "parts", "path"] ["length", "script", "row"] (defScope st_first_with) := ⟨rfl, rfl, rfl, by decide +kernel, rfl, by decide +kernel, by decide +kernel⟩
theorem ok_first_with {f : Addr} {fd : FuncData} (B : Blt mg) (Fn : Fun K "first_with" "first_with" st_first_with f fd) (D_blocks : Df P w K mg base "blocks" 2 ["length", "script"] (spD K (aC rI (aC (rT (rP rI rI)) aN)) (fun g => m_blocks g.1 g.2.1) .n (rL (rP rI rI)))) (D_all_paths : Df P w K mg base "all_paths" 4 ["parts", "script"] (spD K (aC (rL (rP rI rI)) (aC (rT (rP rI rI)) aN)) (fun g => m_all_paths g.1 g.2.1) .r (rL (r4 (rT rS) (rT (rO rS)) (rT rI) (rT (rT rI)))))) (D_least_pattern : Df P w K mg base "least_pattern" 1 ["parts", "bold"] (spD K (aC (rL (rP rI rI)) (aC (rT rI) aN)) (fun g => m_least_pattern g.1 g.2.1) .r rS)) :
    FnOk P w K mg base CX0 5 f fd ["length", "script", "row"] (spD K (aC rI (aC (rT (rP rI rI)) (aC (rT rS) aN))) (fun g => m_first_with g.1 g.2.1 g.2.2.1) .r (rO rS)) := by
  refine Fn.ok sc_first_with (spD_len rfl) (fun cdv A outer s H vs Q E hr h => ?_)
  refine ⟨_, (pss_cons (ps_set (i := 3) sc_first_with.nd rfl (Or.inl rfl) (pe_callD D_blocks (hr.mono (by decide)) (by rfl) (pa_cons (pv 0) (pa_cons (pv 1) pa_nil)))) (pss_cons (ps_for PassesOwn.never rfl (pi_list (pe_callD D_all_paths (hr.mono (by decide)) (by rfl) (pa_cons (pv 3) (pa_cons (pv 1) pa_nil)))) (pg_name (i := 4) sc_first_with.nd rfl (Or.inl rfl)) (pss_cons (ps_if (pt_cmpR (r := rEqD K) (op_eqD hr.units) (pe_ix (r := rIxT K) ix_tup (pv 4) pe_int (fun _ _ => rfl)) (pv 2) (nomark _)) (pss_cons (ps_ret (pe_callD D_least_pattern (hr.mono (by decide)) (by rfl) (pa_cons (pv 3) (pa_cons (pe_ix (r := rIxT K) ix_tup (pv 4) pe_int (fun _ _ => rfl)) pa_nil)))) pss_nil) pss_nil) pss_nil)) (pss_cons (ps_ret pe_non) pss_nil))), ?_⟩
  exact run_body (N := ["length", "script", "row", "parts", "path"]) (out := fun _ => [Sl.j, Sl.j, Sl.j, Sl.j, Sl.j]) h 2 rfl fun F0 H0 g =>
    (match g with
    | (length_1, script_1, row_1, _) => (bd_set (Ev.nr (ev_call (eva_cons (ev_var (R := rI) (x := length_1) rfl) (eva_cons (ev_var (R := (rT (rP rI rI))) (x := script_1) rfl) eva_nil)))) fun parts_1 => (bd_for (Γl := fun s_1 : Unit => [Sl.f rI length_1, Sl.f (rT (rP rI rI)) script_1, Sl.f (rT rS) row_1, Sl.f (rL (rP rI rI)) parts_1, Sl.j]) () (ei_list (ev_call (eva_cons (ev_var (R := (rL (rP rI rI))) (x := parts_1) rfl) (eva_cons (ev_var (R := (rT (rP rI rI))) (x := script_1) rfl) eva_nil)))) (tg_name 4) (Le.eq (Le.eq (Le.eq (Le.eq (Le.eq Le.nil))))) (fun x_5 s_1 => (bd_seq (out1 := fun s_2 : Unit => [Sl.f rI length_1, Sl.f (rT (rP rI rI)) script_1, Sl.f (rT rS) row_1, Sl.f (rL (rP rI rI)) parts_1, Sl.f (r4 (rT rS) (rT (rO rS)) (rT rI) (rT (rT rI))) x_5]) (bd_if (evt_test (ev_op o_eq (Ev.rv (ev_q0 (ev_var (R := (r4 (rT rS) (rT (rO rS)) (rT rI) (rT (rT rI)))) (x := x_5) rfl))) (Ev.rv (ev_var (R := (rT rS)) (x := row_1) rfl)))) (bd_ret (Ev.mkO (R := rS) (h := fun _ => ⟨rfl, rfl⟩) (ev_call (eva_cons (ev_var (R := (rL (rP rI rI))) (x := parts_1) rfl) (eva_cons (ev_q2 (ev_var (R := (r4 (rT rS) (rT (rO rS)) (rT rI) (rT (rT rI)))) (x := x_5) rfl)) eva_nil))))) (bd_next (b := ()) (Le.eq (Le.eq (Le.eq (Le.eq (Le.eq Le.nil))))))) fun s_2 => (bd_next (b := ()) (Le.eq (Le.eq (Le.eq (Le.eq (Le.j Le.nil)))))))) (fun s_1 => (bd_ret (ev_nonO (R := rS) (h := fun _ => ⟨rfl, rfl⟩)))))))
abbrev st_doubled : Stmt := topS 12
theorem sc_doubled : FnScope ["times", "found", "turn"] ["times"] (defScope st_doubled) := ⟨rfl, rfl, rfl, by decide +kernel, rfl, by decide +kernel, by decide +kernel⟩
theorem ok_doubled {f : Addr} {fd : FuncData} (B : Blt mg) (Fn : Fun K "doubled" "doubled" st_doubled f fd)  :
    FnOk P w K mg base CX0 1 f fd ["times"] (spD K (aC rI aN) (fun g => m_doubled g.1) .r rI) := by
  refine Fn.ok sc_doubled (spD_len rfl) (fun cdv A outer s H vs Q E hr h => ?_)
  refine ⟨_, (pss_cons (ps_set (i := 1) sc_doubled.nd rfl (Or.inl rfl) pe_int) (pss_cons (ps_for PassesOwn.never rfl (pi_range1 (by rfl) B.b_range (pa_cons (pv 0) pa_nil)) (pg_name (i := 2) sc_doubled.nd rfl (Or.inl rfl)) (pss_cons (ps_set (i := 1) sc_doubled.nd rfl (Or.inl rfl) (pe_op op_mul (pv 1) pe_int)) pss_nil)) (pss_cons (ps_ret (pv 1)) pss_nil))), ?_⟩
  exact run_body (N := ["times", "found", "turn"]) (out := fun _ => [Sl.j, Sl.j, Sl.j]) h 2 rfl fun F0 H0 g =>
    (match g with
    | (times_1, _) => (bd_set ev_int fun found_1 => (bd_for (Γl := fun s_1 : Int => [Sl.f rI times_1, Sl.f rI s_1, Sl.j]) found_1 (ei_rng1 (ev_var (R := rI) (x := times_1) rfl)) (tg_name 2) (Le.eq (Le.eq (Le.eq Le.nil))) (fun x_1 s_1 => (bd_set (ev_op o_mul (Ev.rv (ev_var (R := rI) (x := s_1) rfl)) (Ev.rv ev_int)) fun found_2 => (bd_next (b := found_2) (Le.eq (Le.eq (Le.j Le.nil)))))) (fun s_1 => (bd_ret (ev_var (R := rI) (x := s_1) rfl))))))
abbrev st_count_of : Stmt := topS 13
theorem sc_count_of : FnScope ["parts", "path", "unions", "clause", "total", "row", "values", "bold", "clauses", "sign", "some", "free", "index", "part"] ["parts", "path"] (defScope st_count_of) := ⟨rfl, rfl, rfl, by decide +kernel, rfl, by decide +kernel, by decide +kernel⟩
theorem ok_count_of {f : Addr} {fd : FuncData} (B : Blt mg) (Fn : Fun K "count_of" "count_of" st_count_of f fd) (D_doubled : Df P w K mg base "doubled" 1 ["times"] (spD K (aC rI aN) (fun g => m_doubled g.1) .r rI)) :
    FnOk P w K mg base CX0 2 f fd ["parts", "path"] (spD K (aC (rL (rP rI rI)) (aC (r4 (rT rS) (rT (rO rS)) (rT rI) (rT (rT rI))) aN)) (fun g => m_count_of g.1 g.2.1) .r rI) := by
  refine Fn.ok sc_count_of (spD_len rfl) (fun cdv A outer s H vs Q E hr h => ?_)
  refine ⟨_, (pss_cons (ps_asg (pv 1) (pg_tup rfl (pgs_cons (pg_name (i := 5) sc_count_of.nd rfl (Or.inl rfl)) (pgs_cons (pg_name (i := 6) sc_count_of.nd rfl (Or.inl rfl)) (pgs_cons (pg_name (i := 7) sc_count_of.nd rfl (Or.inl rfl)) (pgs_cons (pg_name (i := 8) sc_count_of.nd rfl (Or.inl rfl)) pgs_nil)))))) (pss_cons (ps_set (i := 2) sc_count_of.nd rfl (Or.inl rfl) (pe_lst (pa_cons (pe_tup (pa_cons pe_int (pa_cons (pe_tup pa_nil) pa_nil))) pa_nil))) (pss_cons (ps_for PassesOwn.never rfl (pi_tup (pv 8)) (pg_name (i := 3) sc_count_of.nd rfl (Or.inr rfl)) (pss_cons (ps_set (i := 2) sc_count_of.nd rfl (Or.inl rfl) (pe_op (r := rCatL K) op_catL (pv 2) (pe_lc (own := [("sign", 9), ("some", 10)]) (g := (gTup K 2 (gCons (gName 9) (gCons (gName 10) gNil)))) rfl sc_count_of.nd (pi_list (pv 2)) (blkOk_by (N := ["parts", "path", "unions", "clause", "total", "row", "values", "bold", "clauses", "sign", "some", "free", "index", "part"]) (sc := defScope st_count_of) (by decide +kernel)) (fun _ _ _ _ _ => (pg_tup rfl (pgs_cons (pg_name (i := 9) sc_count_of.nd rfl (Or.inl rfl)) (pgs_cons (pg_name (i := 10) sc_count_of.nd rfl (Or.inl rfl)) pgs_nil)))) (fun _ _ _ _ _ => pts_nil) (fun _ _ _ _ _ => (pe_tup (pa_cons (pe_op op_sub pe_int (pv 9)) (pa_cons (pe_op (r := rCatA K) op_catA (pv 10) (pv 3)) pa_nil))))))) pss_nil)) (pss_cons (ps_set (i := 4) sc_count_of.nd rfl (Or.inl rfl) pe_int) (pss_cons (ps_for PassesOwn.never rfl (pi_list (pv 2)) (pg_tup rfl (pgs_cons (pg_name (i := 9) sc_count_of.nd rfl (Or.inl rfl)) (pgs_cons (pg_name (i := 10) sc_count_of.nd rfl (Or.inl rfl)) pgs_nil))) (pss_cons (ps_set (i := 11) sc_count_of.nd rfl (Or.inl rfl) pe_int) (pss_cons (ps_for PassesOwn.never rfl (pi_enumS (by rfl) B.b_enumerate (pa_cons (pv 0) pa_nil)) (pg_tup rfl (pgs_cons (pg_name (i := 12) sc_count_of.nd rfl (Or.inl rfl)) (pgs_cons (pg_name (i := 13) sc_count_of.nd rfl (Or.inl rfl)) pgs_nil))) (pss_cons (ps_if (PW.pt (pw_and (pt_cmpR (r := rIn K true) op_notIn_seq (pv 12) (pv 7) (by with_unfolding_all rfl)) (pw_and1 (pt_cmpR (r := rIn K true) op_notIn_seq (pv 12) (pv 10) (by with_unfolding_all rfl))))) (pss_cons (ps_set (i := 11) sc_count_of.nd rfl (Or.inl rfl) (pe_op op_sub (pe_op op_add (pv 11) (pe_ix (r := rIxT K) ix_tup (pv 13) pe_int (fun _ _ => rfl))) (pe_ix (r := rIxT K) ix_tup (pv 13) pe_int (fun _ _ => rfl)))) pss_nil) pss_nil) pss_nil)) (pss_cons (ps_set (i := 4) sc_count_of.nd rfl (Or.inl rfl) (pe_op op_add (pv 4) (pe_op op_mul (pv 9) (pe_callD D_doubled (hr.mono (by decide)) (by rfl) (pa_cons (pv 11) pa_nil))))) pss_nil)))) (pss_cons (ps_ret (pv 4)) pss_nil)))))), ?_⟩
  exact run_body (N := ["parts", "path", "unions", "clause", "total", "row", "values", "bold", "clauses", "sign", "some", "free", "index", "part"]) (out := fun _ => [Sl.j, Sl.j, Sl.j, Sl.j, Sl.j, Sl.j, Sl.j, Sl.j, Sl.j, Sl.j, Sl.j, Sl.j, Sl.j, Sl.j]) h 12 rfl fun F0 H0 g =>
    (match g with
    | (parts_1, path_1, _) => (bd_asg (ev_var (R := (r4 (rT rS) (rT (rO rS)) (rT rI) (rT (rT rI)))) (x := path_1) rfl) (tg_quad 5 6 7 8) fun p_1 => (bd_set (Ev.nr (ev_lst (evas_cons (ev_pair ev_int (ev_tupL (evas_nil (R := rI)))) (evas_nil (R := (rP rI (rT rI))))))) fun unions_1 => (bd_for (Γl := fun s_1 : (List (Int × (List Int))) => [Sl.f (rL (rP rI rI)) parts_1, Sl.f (r4 (rT rS) (rT (rO rS)) (rT rI) (rT (rT rI))) path_1, Sl.f (rL (rP rI (rT rI))) s_1, Sl.j, Sl.j, Sl.f (rT rS) p_1.1, Sl.f (rT (rO rS)) p_1.2.1, Sl.f (rT rI) p_1.2.2.1, Sl.f (rT (rT rI)) p_1.2.2.2, Sl.j, Sl.j, Sl.j, Sl.j, Sl.j]) unions_1 (ei_tup (ev_var (R := (rT (rT rI))) (x := p_1.2.2.2) rfl)) (tg_name 3) (Le.eq (Le.eq (Le.eq (Le.eq (Le.eq (Le.eq (Le.eq (Le.eq (Le.eq (Le.eq (Le.eq (Le.eq (Le.eq (Le.eq Le.nil)))))))))))))) (fun x_2 s_1 => (bd_set (Ev.nr (ev_op o_catL (Ev.rv (ev_var (R := (rL (rP rI (rT rI)))) (x := s_1) rfl)) (Ev.nv (ev_lc (ei_list (ev_var (R := (rL (rP rI (rT rI)))) (x := s_1) rfl)) (tg_pair 9 10) (fun x_3 => (ev_pair (ev_op o_sub (Ev.rv ev_int) (Ev.rv (ev_var (R := rI) (x := x_3.1) rfl))) (ev_op o_catT (Ev.rv (ev_var (R := (rT rI)) (x := x_3.2) rfl)) (Ev.rv (ev_var (R := (rT rI)) (x := x_2) rfl))))))))) fun unions_2 => (bd_next (b := unions_2) (Le.eq (Le.eq (Le.eq (Le.j (Le.eq (Le.eq (Le.eq (Le.eq (Le.eq (Le.eq (Le.eq (Le.eq (Le.eq (Le.eq Le.nil))))))))))))))))) (fun s_1 => (bd_set ev_int fun total_1 => (bd_for (Γl := fun s_2 : Int => [Sl.f (rL (rP rI rI)) parts_1, Sl.f (r4 (rT rS) (rT (rO rS)) (rT rI) (rT (rT rI))) path_1, Sl.f (rL (rP rI (rT rI))) s_1, Sl.j, Sl.f rI s_2, Sl.f (rT rS) p_1.1, Sl.f (rT (rO rS)) p_1.2.1, Sl.f (rT rI) p_1.2.2.1, Sl.f (rT (rT rI)) p_1.2.2.2, Sl.j, Sl.j, Sl.j, Sl.j, Sl.j]) total_1 (ei_list (ev_var (R := (rL (rP rI (rT rI)))) (x := s_1) rfl)) (tg_pair 9 10) (Le.eq (Le.eq (Le.eq (Le.eq (Le.eq (Le.eq (Le.eq (Le.eq (Le.eq (Le.eq (Le.eq (Le.eq (Le.eq (Le.eq Le.nil)))))))))))))) (fun x_4 s_2 => (bd_set ev_int fun free_1 => (bd_for (Γl := fun s_3 : Int => [Sl.f (rL (rP rI rI)) parts_1, Sl.f (r4 (rT rS) (rT (rO rS)) (rT rI) (rT (rT rI))) path_1, Sl.f (rL (rP rI (rT rI))) s_1, Sl.j, Sl.f rI s_2, Sl.f (rT rS) p_1.1, Sl.f (rT (rO rS)) p_1.2.1, Sl.f (rT rI) p_1.2.2.1, Sl.f (rT (rT rI)) p_1.2.2.2, Sl.f rI x_4.1, Sl.f (rT rI) x_4.2, Sl.f rI s_3, Sl.j, Sl.j]) free_1 (ei_enumS wa_list (ev_var (R := (rL (rP rI rI))) (x := parts_1) rfl)) (tg_pair 12 13) (Le.eq (Le.eq (Le.eq (Le.eq (Le.eq (Le.eq (Le.eq (Le.eq (Le.eq (Le.eq (Le.eq (Le.eq (Le.eq (Le.eq Le.nil)))))))))))))) (fun x_5 s_3 => (bd_seq (out1 := fun s_4 : Int => [Sl.f (rL (rP rI rI)) parts_1, Sl.f (r4 (rT rS) (rT (rO rS)) (rT rI) (rT (rT rI))) path_1, Sl.f (rL (rP rI (rT rI))) s_1, Sl.j, Sl.f rI s_2, Sl.f (rT rS) p_1.1, Sl.f (rT (rO rS)) p_1.2.1, Sl.f (rT rI) p_1.2.2.1, Sl.f (rT (rT rI)) p_1.2.2.2, Sl.f rI x_4.1, Sl.f (rT rI) x_4.2, Sl.f rI s_4, Sl.f rI x_5.1, Sl.f (rP rI rI) x_5.2]) (bd_if (evt_and (evt_test (ev_op o_notInIT (Ev.rv (ev_var (R := rI) (x := x_5.1) rfl)) (Ev.rv (ev_var (R := (rT rI)) (x := p_1.2.2.1) rfl)))) (evt_test (ev_op o_notInIT (Ev.rv (ev_var (R := rI) (x := x_5.1) rfl)) (Ev.rv (ev_var (R := (rT rI)) (x := x_4.2) rfl))))) (bd_set (ev_op o_sub (Ev.rv (ev_op o_add (Ev.rv (ev_var (R := rI) (x := s_3) rfl)) (Ev.rv (ev_snd (ev_var (R := (rP rI rI)) (x := x_5.2) rfl))))) (Ev.rv (ev_fst (ev_var (R := (rP rI rI)) (x := x_5.2) rfl)))) fun free_2 => (bd_next (b := free_2) (Le.eq (Le.eq (Le.eq (Le.eq (Le.eq (Le.eq (Le.eq (Le.eq (Le.eq (Le.eq (Le.eq (Le.eq (Le.eq (Le.eq Le.nil)))))))))))))))) (bd_next (b := s_3) (Le.eq (Le.eq (Le.eq (Le.eq (Le.eq (Le.eq (Le.eq (Le.eq (Le.eq (Le.eq (Le.eq (Le.eq (Le.eq (Le.eq Le.nil)))))))))))))))) fun s_4 => (bd_next (b := s_4) (Le.eq (Le.eq (Le.eq (Le.eq (Le.eq (Le.eq (Le.eq (Le.eq (Le.eq (Le.eq (Le.eq (Le.eq (Le.j (Le.j Le.nil))))))))))))))))) (fun s_3 => (bd_set (ev_op o_add (Ev.rv (ev_var (R := rI) (x := s_2) rfl)) (Ev.rv (ev_op o_mul (Ev.rv (ev_var (R := rI) (x := x_4.1) rfl)) (Ev.rv (ev_call (eva_cons (ev_var (R := rI) (x := s_3) rfl) eva_nil)))))) fun total_2 => (bd_next (b := total_2) (Le.eq (Le.eq (Le.eq (Le.eq (Le.eq (Le.eq (Le.eq (Le.eq (Le.eq (Le.j (Le.j (Le.j (Le.eq (Le.eq Le.nil)))))))))))))))))))) (fun s_2 => (bd_ret (ev_var (R := rI) (x := s_2) rfl))))))))))
abbrev st_count_with : Stmt := topS 14
theorem sc_count_with : FnScope ["length", "script", "row", "parts", "path"] ["length", "script", "row"] (defScope st_count_with) := ⟨rfl, rfl, rfl, by decide +kernel, rfl, by decide +kernel, by decide +kernel⟩
theorem ok_count_with {f : Addr} {fd : FuncData} (B : Blt mg) (Fn : Fun K "count_with" "count_with" st_count_with f fd) (D_blocks : Df P w K mg base "blocks" 2 ["length", "script"] (spD K (aC rI (aC (rT (rP rI rI)) aN)) (fun g => m_blocks g.1 g.2.1) .n (rL (rP rI rI)))) (D_count_of : Df P w K mg base "count_of" 2 ["parts", "path"] (spD K (aC (rL (rP rI rI)) (aC (r4 (rT rS) (rT (rO rS)) (rT rI) (rT (rT rI))) aN)) (fun g => m_count_of g.1 g.2.1) .r rI)) (D_all_paths : Df P w K mg base "all_paths" 4 ["parts", "script"] (spD K (aC (rL (rP rI rI)) (aC (rT (rP rI rI)) aN)) (fun g => m_all_paths g.1 g.2.1) .r (rL (r4 (rT rS) (rT (rO rS)) (rT rI) (rT (rT rI)))))) :
    FnOk P w K mg base CX0 5 f fd ["length", "script", "row"] (spD K (aC rI (aC (rT (rP rI rI)) (aC (rT rS) aN))) (fun g => m_count_with g.1 g.2.1 g.2.2.1) .r rI) := by
  refine Fn.ok sc_count_with (spD_len rfl) (fun cdv A outer s H vs Q E hr h => ?_)
  refine ⟨_, (pss_cons (ps_set (i := 3) sc_count_with.nd rfl (Or.inr rfl) (pe_callD D_blocks (hr.mono (by decide)) (by rfl) (pa_cons (pv 0) (pa_cons (pv 1) pa_nil)))) (pss_cons (ps_ret (pe_callB (cr_sum rfl) (by rfl) B.b_sum (by decide +kernel) (pa_cons (pe_lc (own := [("path", 4)]) (g := (gName 4)) rfl sc_count_with.nd (pi_list (pe_callD D_all_paths (hr.mono (by decide)) (by rfl) (pa_cons (pv 3) (pa_cons (pv 1) pa_nil)))) (blkOk_by (N := ["length", "script", "row", "parts", "path"]) (sc := defScope st_count_with) (by decide +kernel)) (fun _ _ _ _ _ => (pg_name (i := 4) sc_count_with.nd rfl (Or.inl rfl))) (fun _ _ _ _ _ => pts_one (pt_cmpR (r := rEqD K) (op_eqD hr.units) (pe_ix (r := rIxT K) ix_tup (pv 4) pe_int (fun _ _ => rfl)) (pv 2) (nomark _))) (fun _ _ _ _ _ => (pe_callD D_count_of (hr.mono (by decide)) (by rfl) (pa_cons (pv 3) (pa_cons (pv 4) pa_nil))))) pa_nil))) pss_nil)), ?_⟩
  exact run_body (N := ["length", "script", "row", "parts", "path"]) (out := fun _ => [Sl.j, Sl.j, Sl.j, Sl.j, Sl.j]) h 2 rfl fun F0 H0 g =>
    (match g with
    | (length_1, script_1, row_1, _) => (bd_set (Ev.nr (ev_call (eva_cons (ev_var (R := rI) (x := length_1) rfl) (eva_cons (ev_var (R := (rT (rP rI rI))) (x := script_1) rfl) eva_nil)))) fun parts_1 => (bd_ret (ev_cb1 o_sum (Ev.nv (ev_lcF (ei_list (ev_call (eva_cons (ev_var (R := (rL (rP rI rI))) (x := parts_1) rfl) (eva_cons (ev_var (R := (rT (rP rI rI))) (x := script_1) rfl) eva_nil)))) (tg_name 4) (fun x_5 => (evt_test (ev_op o_eq (Ev.rv (ev_q0 (ev_var (R := (r4 (rT rS) (rT (rO rS)) (rT rI) (rT (rT rI)))) (x := x_5) rfl))) (Ev.rv (ev_var (R := (rT rS)) (x := row_1) rfl))))) (fun x_5 => (ev_call (eva_cons (ev_var (R := (rL (rP rI rI))) (x := parts_1) rfl) (eva_cons (ev_var (R := (r4 (rT rS) (rT (rO rS)) (rT rI) (rT (rT rI)))) (x := x_5) rfl) eva_nil))))))))))
abbrev st_kinds_of_effects : Stmt := topS 15
theorem sc_kinds_of_effects : FnScope ["length", "script", "index", "rows", "found", "kinds", "row"] ["length", "script"] (defScope st_kinds_of_effects) := ⟨rfl, rfl, rfl, by decide +kernel, rfl, by decide +kernel, by decide +kernel⟩
theorem ok_kinds_of_effects {f : Addr} {fd : FuncData} (B : Blt mg) (Fn : Fun K "kinds_of_effects" "kinds_of_effects" st_kinds_of_effects f fd) (D_effect_rows : Df P w K mg base "effect_rows" 5 ["length", "script"] (spD K (aC rI (aC (rT (rP rI rI)) aN)) (fun g => m_effect_rows g.1 g.2.1) .n (rL (rT rS)))) :
    FnOk P w K mg base CX0 6 f fd ["length", "script"] (spD K (aC rI (aC (rT (rP rI rI)) aN)) (fun g => m_kinds_of_effects g.1 g.2.1) .n (rL rS)) := by
  refine Fn.ok sc_kinds_of_effects (spD_len rfl) (fun cdv A outer s H vs Q E hr h => ?_)
  refine ⟨_, (pss_cons (ps_par (i := 3) (j := 4) rfl sc_kinds_of_effects.nd rfl rfl (by decide) rfl rfl (pa_cons (pe_callD D_effect_rows (hr.mono (by decide)) (by rfl) (pa_cons (pv 0) (pa_cons (pv 1) pa_nil))) (pa_cons (pe_lst pa_nil) pa_nil)) rfl) (pss_cons (ps_for PassesOwn.never rfl (pi_range1 (by rfl) B.b_range (pa_cons (pe_callB call_len_seq (by rfl) B.b_len (by decide +kernel) (pa_cons (pv 1) pa_nil)) pa_nil)) (pg_name (i := 2) sc_kinds_of_effects.nd rfl (Or.inr rfl)) (pss_cons (ps_set (i := 5) sc_kinds_of_effects.nd rfl (Or.inl rfl) (pe_callB (cr_sortedSK rfl (room65 hr)) (by rfl) B.b_sorted (by decide +kernel) (pa_cons (pe_callTy (cr_setK rfl) (by rfl) B.b_set (by decide +kernel) (pa_cons (pe_lc (own := [("row", 6)]) (g := (gName 6)) rfl sc_kinds_of_effects.nd (pi_list (pv 3)) (blkOk_by (N := ["length", "script", "index", "rows", "found", "kinds", "row"]) (sc := defScope st_kinds_of_effects) (by decide +kernel)) (fun _ _ _ _ _ => (pg_name (i := 6) sc_kinds_of_effects.nd rfl (Or.inl rfl))) (fun _ _ _ _ _ => pts_nil) (fun _ _ _ _ _ => (pe_ix (r := rIxT K) ix_tup (pv 6) (pv 2) (fun _ _ => rfl)))) pa_nil)) pa_nil))) (pss_cons (ps_expr (pe_bm PySem.F.plainAttrs_list PySem.F.slot_list_append PySem.F.type_list_append mt_append (pv 4) (pa_cons (pe_ifExp (pt_cmpR (r := rEqD K) (op_eqD hr.units) (pe_callB call_len_seq (by rfl) B.b_len (by decide +kernel) (pa_cons (pv 5) pa_nil)) pe_int (nomark _)) (pe_ix (r := rIxL K) ix_list (pv 5) pe_int (fun _ _ => rfl)) pe_str) pa_nil))) pss_nil))) (pss_cons (ps_ret (pv 4)) pss_nil))), ?_⟩
  exact run_body (N := ["length", "script", "index", "rows", "found", "kinds", "row"]) (out := fun _ => [Sl.j, Sl.j, Sl.j, Sl.j, Sl.j, Sl.j, Sl.j]) h 5 rfl fun F0 H0 g =>
    (match g with
    | (length_1, script_1, _) => (bd_parFO (Ev.nr (ev_call (eva_cons (ev_var (R := rI) (x := length_1) rfl) (eva_cons (ev_var (R := (rT (rP rI rI))) (x := script_1) rfl) eva_nil)))) (ev_lst (evas_nil (R := rS))) fun rows_1 found_1 => (bd_for (Γl := fun s_1 : (List (List Nat)) => [Sl.f rI length_1, Sl.f (rT (rP rI rI)) script_1, Sl.j, Sl.f (rL (rT rS)) rows_1, Sl.o rS s_1, Sl.j, Sl.j]) found_1 (ei_rng1 (ev_cb1 o_lenT (Ev.rv (ev_var (R := (rT (rP rI rI))) (x := script_1) rfl)))) (tg_name 2) (Le.eq (Le.eq (Le.eq (Le.eq (Le.eq (Le.eq (Le.eq Le.nil))))))) (fun x_3 s_1 => (bd_set (Ev.nr (ev_sortSet kf_S ordT_S (Ev.nv (ev_lc (ei_list (ev_var (R := (rL (rT rS))) (x := rows_1) rfl)) (tg_name 6) (fun x_4 => (ev_op o_atT (Ev.rv (ev_var (R := (rT rS)) (x := x_4) rfl)) (Ev.rv (ev_var (R := rI) (x := x_3) rfl)))))))) fun kinds_1 => (bd_append (S := rS) (xs := s_1) rfl (ev_if (evt_test (ev_op o_eq (Ev.rv (ev_cb1 o_lenL (Ev.rv (ev_var (R := (rL rS)) (x := kinds_1) rfl)))) (Ev.rv ev_int))) (ev_op o_atL (Ev.rv (ev_var (R := (rL rS)) (x := kinds_1) rfl)) (Ev.rv ev_int)) (ev_str [98, 111, 116, 104] rfl (by decide) (by decide))) fun x_5 => (bd_next (b := (s_1 ++ [x_5])) (Le.eq (Le.eq (Le.j (Le.eq (Le.eq (Le.j (Le.eq Le.nil))))))))))) (fun s_1 => (bd_retO (S := rS) (xs := s_1) rfl)))))
abbrev st_outcome_of : Stmt := topS 17
theorem sc_outcome_of : FnScope ["parts", "values", "found", "part", "value"] ["parts", "values"] (defScope st_outcome_of) := ⟨rfl, rfl, rfl, by decide +kernel, rfl, by decide +kernel, by decide +kernel⟩
theorem ok_outcome_of {f : Addr} {fd : FuncData} (B : Blt mg) (Fn : Fun K "outcome_of" "outcome_of" st_outcome_of f fd)  :
    FnOk P w K mg base CX0 1 f fd ["parts", "values"] (spD K (aC (rL (rP rI rI)) (aC (rT (rO rS)) aN)) (fun g => m_outcome_of g.1 g.2.1) .r rS) := by
  refine Fn.ok sc_outcome_of (spD_len rfl) (fun cdv A outer s H vs Q E hr h => ?_)
  refine ⟨_, (pss_cons (ps_set (i := 2) sc_outcome_of.nd rfl (Or.inl rfl) pe_str) (pss_cons (ps_for PassesOwn.never rfl (pi_zip2S (by rfl) B.b_zip (pa_cons (pv 0) (pa_cons (pv 1) pa_nil))) (pg_tup rfl (pgs_cons (pg_name (i := 3) sc_outcome_of.nd rfl (Or.inl rfl)) (pgs_cons (pg_name (i := 4) sc_outcome_of.nd rfl (Or.inl rfl)) pgs_nil))) (pss_cons (ps_set (i := 2) sc_outcome_of.nd rfl (Or.inl rfl) (pe_op op_add_str (pv 2) (pe_op op_mulS (pe_ifExp (pt_cmp (pc_isN (pv 4))) pe_str (pv 4)) (pe_op op_sub (pe_ix (r := rIxT K) ix_tup (pv 3) pe_int (fun _ _ => rfl)) (pe_ix (r := rIxT K) ix_tup (pv 3) pe_int (fun _ _ => rfl)))))) pss_nil)) (pss_cons (ps_ret (pv 2)) pss_nil))), ?_⟩
  exact run_body (N := ["parts", "values", "found", "part", "value"]) (out := fun _ => [Sl.j, Sl.j, Sl.j, Sl.j, Sl.j]) h 3 rfl fun F0 H0 g =>
    (match g with
    | (parts_1, values_1, _) => (bd_set (ev_str [] rfl (by decide) (by decide)) fun found_1 => (bd_for (Γl := fun s_1 : (List Nat) => [Sl.f (rL (rP rI rI)) parts_1, Sl.f (rT (rO rS)) values_1, Sl.f rS s_1, Sl.j, Sl.j]) found_1 (ei_zip2 wa_list wa_tup (ev_var (R := (rL (rP rI rI))) (x := parts_1) rfl) (ev_var (R := (rT (rO rS))) (x := values_1) rfl)) (tg_pair 3 4) (Le.eq (Le.eq (Le.eq (Le.eq (Le.eq Le.nil))))) (fun x_1 s_1 => (bd_set (ev_op o_addS (Ev.rv (ev_var (R := rS) (x := s_1) rfl)) (Ev.rv (ev_op o_mulS (Ev.rv (ev_if (evt_b (ev_isN (ev_var (R := (rO rS)) (x := x_1.2) rfl))) (ev_str [63] rfl (by decide) (by decide)) (Ev.unO (ev_var (R := (rO rS)) (x := x_1.2) rfl)))) (Ev.rv (ev_op o_sub (Ev.rv (ev_snd (ev_var (R := (rP rI rI)) (x := x_1.1) rfl))) (Ev.rv (ev_fst (ev_var (R := (rP rI rI)) (x := x_1.1) rfl)))))))) fun found_2 => (bd_next (b := found_2) (Le.eq (Le.eq (Le.eq (Le.j (Le.j Le.nil)))))))) (fun s_1 => (bd_ret (ev_var (R := rS) (x := s_1) rfl))))))
abbrev st_outcomes : Stmt := topS 18
theorem sc_outcomes : FnScope ["length", "script", "parts", "path"] ["length", "script"] (defScope st_outcomes) := ⟨rfl, rfl, rfl, by decide +kernel, rfl, by decide +kernel, by decide +kernel⟩
theorem ok_outcomes {f : Addr} {fd : FuncData} (B : Blt mg) (Fn : Fun K "outcomes" "outcomes" st_outcomes f fd) (D_blocks : Df P w K mg base "blocks" 2 ["length", "script"] (spD K (aC rI (aC (rT (rP rI rI)) aN)) (fun g => m_blocks g.1 g.2.1) .n (rL (rP rI rI)))) (D_outcome_of : Df P w K mg base "outcome_of" 1 ["parts", "values"] (spD K (aC (rL (rP rI rI)) (aC (rT (rO rS)) aN)) (fun g => m_outcome_of g.1 g.2.1) .r rS)) (D_all_paths : Df P w K mg base "all_paths" 4 ["parts", "script"] (spD K (aC (rL (rP rI rI)) (aC (rT (rP rI rI)) aN)) (fun g => m_all_paths g.1 g.2.1) .r (rL (r4 (rT rS) (rT (rO rS)) (rT rI) (rT (rT rI)))))) :
    FnOk P w K mg base CX0 5 f fd ["length", "script"] (spD K (aC rI (aC (rT (rP rI rI)) aN)) (fun g => m_outcomes g.1 g.2.1) .n (rL rS)) := by
  refine Fn.ok sc_outcomes (spD_len rfl) (fun cdv A outer s H vs Q E hr h => ?_)
  refine ⟨_, (pss_cons (ps_set (i := 2) sc_outcomes.nd rfl (Or.inr rfl) (pe_callD D_blocks (hr.mono (by decide)) (by rfl) (pa_cons (pv 0) (pa_cons (pv 1) pa_nil)))) (pss_cons (ps_ret (pe_callB (cr_sortedSK rfl (room65 hr)) (by rfl) B.b_sorted (by decide +kernel) (pa_cons (pe_callTy (cr_setK rfl) (by rfl) B.b_set (by decide +kernel) (pa_cons (pe_lc (own := [("path", 3)]) (g := (gName 3)) rfl sc_outcomes.nd (pi_list (pe_callD D_all_paths (hr.mono (by decide)) (by rfl) (pa_cons (pv 2) (pa_cons (pv 1) pa_nil)))) (blkOk_by (N := ["length", "script", "parts", "path"]) (sc := defScope st_outcomes) (by decide +kernel)) (fun _ _ _ _ _ => (pg_name (i := 3) sc_outcomes.nd rfl (Or.inl rfl))) (fun _ _ _ _ _ => pts_nil) (fun _ _ _ _ _ => (pe_callD D_outcome_of (hr.mono (by decide)) (by rfl) (pa_cons (pv 2) (pa_cons (pe_ix (r := rIxT K) ix_tup (pv 3) pe_int (fun _ _ => rfl)) pa_nil))))) pa_nil)) pa_nil))) pss_nil)), ?_⟩
  exact run_body (N := ["length", "script", "parts", "path"]) (out := fun _ => [Sl.j, Sl.j, Sl.j, Sl.j]) h 2 rfl fun F0 H0 g =>
    (match g with
    | (length_1, script_1, _) => (bd_set (Ev.nr (ev_call (eva_cons (ev_var (R := rI) (x := length_1) rfl) (eva_cons (ev_var (R := (rT (rP rI rI))) (x := script_1) rfl) eva_nil)))) fun parts_1 => (bd_ret (ev_sortSet kf_S ordT_S (Ev.nv (ev_lc (ei_list (ev_call (eva_cons (ev_var (R := (rL (rP rI rI))) (x := parts_1) rfl) (eva_cons (ev_var (R := (rT (rP rI rI))) (x := script_1) rfl) eva_nil)))) (tg_name 3) (fun x_5 => (ev_call (eva_cons (ev_var (R := (rL (rP rI rI))) (x := parts_1) rfl) (eva_cons (ev_q1 (ev_var (R := (r4 (rT rS) (rT (rO rS)) (rT rI) (rT (rT rI)))) (x := x_5) rfl)) eva_nil))))))))))
abbrev st_count_results : Stmt := topS 19
theorem sc_count_results : FnScope ["length", "script", "every"] ["length", "script"] (defScope st_count_results) := ⟨rfl, rfl, rfl, by decide +kernel, rfl, by decide +kernel, by decide +kernel⟩
theorem ok_count_results {f : Addr} {fd : FuncData} (B : Blt mg) (Fn : Fun K "count_results" "count_results" st_count_results f fd) (D_outcomes : Df P w K mg base "outcomes" 5 ["length", "script"] (spD K (aC rI (aC (rT (rP rI rI)) aN)) (fun g => m_outcomes g.1 g.2.1) .n (rL rS))) (D_doubled : Df P w K mg base "doubled" 1 ["times"] (spD K (aC rI aN) (fun g => m_doubled g.1) .r rI)) :
    FnOk P w K mg base CX0 6 f fd ["length", "script"] (spD K (aC rI (aC (rT (rP rI rI)) aN)) (fun g => m_count_results g.1 g.2.1) .r rI) := by
  refine Fn.ok sc_count_results (spD_len rfl) (fun cdv A outer s H vs Q E hr h => ?_)
  refine ⟨_, (pss_cons (ps_set (i := 2) sc_count_results.nd rfl (Or.inl rfl) (pe_callD D_outcomes (hr.mono (by decide)) (by rfl) (pa_cons (pv 0) (pa_cons (pv 1) pa_nil)))) (pss_cons (ps_ret (pe_op op_mul (pe_callB call_len_seq (by rfl) B.b_len (by decide +kernel) (pa_cons (pv 2) pa_nil)) (pe_callD D_doubled (hr.mono (by decide)) (by rfl) (pa_cons (pe_bm PySem.F.plainAttrs_str PySem.F.slot_str_count PySem.F.type_str_count mt_count (pe_ix (r := rIxL K) ix_list (pv 2) pe_int (fun _ _ => rfl)) (pa_cons pe_str pa_nil)) pa_nil)))) pss_nil)), ?_⟩
  exact run_body (N := ["length", "script", "every"]) (out := fun _ => [Sl.j, Sl.j, Sl.j]) h 1 rfl fun F0 H0 g =>
    (match g with
    | (length_1, script_1, _) => (bd_set (Ev.nr (ev_call (eva_cons (ev_var (R := rI) (x := length_1) rfl) (eva_cons (ev_var (R := (rT (rP rI rI))) (x := script_1) rfl) eva_nil)))) fun every_1 => (bd_ret (ev_op o_mul (Ev.rv (ev_cb1 o_lenL (Ev.rv (ev_var (R := (rL rS)) (x := every_1) rfl)))) (Ev.rv (ev_call (eva_cons (ev_bmS o_countS (ev_op o_atL (Ev.rv (ev_var (R := (rL rS)) (x := every_1) rfl)) (Ev.rv ev_int)) (Ev.rv (ev_str [63] rfl (by decide) (by decide)))) eva_nil)))))))
abbrev st_count_sources : Stmt := topS 20
theorem sc_count_sources : FnScope ["length", "script", "outcome", "parts", "total", "path"] ["length", "script", "outcome"] (defScope st_count_sources) := ⟨rfl, rfl, rfl, by decide +kernel, rfl, by decide +kernel, by decide +kernel⟩
theorem ok_count_sources {f : Addr} {fd : FuncData} (B : Blt mg) (Fn : Fun K "count_sources" "count_sources" st_count_sources f fd) (D_blocks : Df P w K mg base "blocks" 2 ["length", "script"] (spD K (aC rI (aC (rT (rP rI rI)) aN)) (fun g => m_blocks g.1 g.2.1) .n (rL (rP rI rI)))) (D_all_paths : Df P w K mg base "all_paths" 4 ["parts", "script"] (spD K (aC (rL (rP rI rI)) (aC (rT (rP rI rI)) aN)) (fun g => m_all_paths g.1 g.2.1) .r (rL (r4 (rT rS) (rT (rO rS)) (rT rI) (rT (rT rI)))))) (D_outcome_of : Df P w K mg base "outcome_of" 1 ["parts", "values"] (spD K (aC (rL (rP rI rI)) (aC (rT (rO rS)) aN)) (fun g => m_outcome_of g.1 g.2.1) .r rS)) (D_count_of : Df P w K mg base "count_of" 2 ["parts", "path"] (spD K (aC (rL (rP rI rI)) (aC (r4 (rT rS) (rT (rO rS)) (rT rI) (rT (rT rI))) aN)) (fun g => m_count_of g.1 g.2.1) .r rI)) :
    FnOk P w K mg base CX0 5 f fd ["length", "script", "outcome"] (spD K (aC rI (aC (rT (rP rI rI)) (aC rS aN))) (fun g => m_count_sources g.1 g.2.1 g.2.2.1) .r rI) := by
  refine Fn.ok sc_count_sources (spD_len rfl) (fun cdv A outer s H vs Q E hr h => ?_)
  refine ⟨_, (pss_cons (ps_set (i := 3) sc_count_sources.nd rfl (Or.inl rfl) (pe_callD D_blocks (hr.mono (by decide)) (by rfl) (pa_cons (pv 0) (pa_cons (pv 1) pa_nil)))) (pss_cons (ps_set (i := 4) sc_count_sources.nd rfl (Or.inl rfl) pe_int) (pss_cons (ps_for PassesOwn.never rfl (pi_list (pe_callD D_all_paths (hr.mono (by decide)) (by rfl) (pa_cons (pv 3) (pa_cons (pv 1) pa_nil)))) (pg_name (i := 5) sc_count_sources.nd rfl (Or.inl rfl)) (pss_cons (ps_if (pt_cmpR (r := rEqD K) (op_eqD hr.units) (pe_callD D_outcome_of (hr.mono (by decide)) (by rfl) (pa_cons (pv 3) (pa_cons (pe_ix (r := rIxT K) ix_tup (pv 5) pe_int (fun _ _ => rfl)) pa_nil))) (pv 2) (nomark _)) (pss_cons (ps_set (i := 4) sc_count_sources.nd rfl (Or.inl rfl) (pe_op op_add (pv 4) (pe_callD D_count_of (hr.mono (by decide)) (by rfl) (pa_cons (pv 3) (pa_cons (pv 5) pa_nil))))) pss_nil) pss_nil) pss_nil)) (pss_cons (ps_ret (pv 4)) pss_nil)))), ?_⟩
  exact run_body (N := ["length", "script", "outcome", "parts", "total", "path"]) (out := fun _ => [Sl.j, Sl.j, Sl.j, Sl.j, Sl.j, Sl.j]) h 3 rfl fun F0 H0 g =>
    (match g with
    | (length_1, script_1, outcome_1, _) => (bd_set (Ev.nr (ev_call (eva_cons (ev_var (R := rI) (x := length_1) rfl) (eva_cons (ev_var (R := (rT (rP rI rI))) (x := script_1) rfl) eva_nil)))) fun parts_1 => (bd_set ev_int fun total_1 => (bd_for (Γl := fun s_1 : Int => [Sl.f rI length_1, Sl.f (rT (rP rI rI)) script_1, Sl.f rS outcome_1, Sl.f (rL (rP rI rI)) parts_1, Sl.f rI s_1, Sl.j]) total_1 (ei_list (ev_call (eva_cons (ev_var (R := (rL (rP rI rI))) (x := parts_1) rfl) (eva_cons (ev_var (R := (rT (rP rI rI))) (x := script_1) rfl) eva_nil)))) (tg_name 5) (Le.eq (Le.eq (Le.eq (Le.eq (Le.eq (Le.eq Le.nil)))))) (fun x_5 s_1 => (bd_seq (out1 := fun s_2 : Int => [Sl.f rI length_1, Sl.f (rT (rP rI rI)) script_1, Sl.f rS outcome_1, Sl.f (rL (rP rI rI)) parts_1, Sl.f rI s_2, Sl.f (r4 (rT rS) (rT (rO rS)) (rT rI) (rT (rT rI))) x_5]) (bd_if (evt_test (ev_op o_eq (Ev.rv (ev_call (eva_cons (ev_var (R := (rL (rP rI rI))) (x := parts_1) rfl) (eva_cons (ev_q1 (ev_var (R := (r4 (rT rS) (rT (rO rS)) (rT rI) (rT (rT rI)))) (x := x_5) rfl)) eva_nil)))) (Ev.rv (ev_var (R := rS) (x := outcome_1) rfl)))) (bd_set (ev_op o_add (Ev.rv (ev_var (R := rI) (x := s_1) rfl)) (Ev.rv (ev_call (eva_cons (ev_var (R := (rL (rP rI rI))) (x := parts_1) rfl) (eva_cons (ev_var (R := (r4 (rT rS) (rT (rO rS)) (rT rI) (rT (rT rI)))) (x := x_5) rfl) eva_nil))))) fun total_2 => (bd_next (b := total_2) (Le.eq (Le.eq (Le.eq (Le.eq (Le.eq (Le.eq Le.nil)))))))) (bd_next (b := s_1) (Le.eq (Le.eq (Le.eq (Le.eq (Le.eq (Le.eq Le.nil)))))))) fun s_2 => (bd_next (b := s_2) (Le.eq (Le.eq (Le.eq (Le.eq (Le.eq (Le.j Le.nil))))))))) (fun s_1 => (bd_ret (ev_var (R := rI) (x := s_1) rfl)))))))
abbrev st_with_bold : Stmt := topS 21
theorem sc_with_bold : FnScope ["parts", "pattern", "index", "many", "end"] ["parts", "pattern", "index", "many"] (defScope st_with_bold) := ⟨rfl, rfl, rfl, by decide +kernel, rfl, by decide +kernel, by decide +kernel⟩
theorem ok_with_bold {f : Addr} {fd : FuncData} (B : Blt mg) (Fn : Fun K "with_bold" "with_bold" st_with_bold f fd)  :
    FnOk P w K mg base CX0 1 f fd ["parts", "pattern", "index", "many"] (spD K (aC (rL (rP rI rI)) (aC rS (aC rI (aC rI aN)))) (fun g => m_with_bold g.1 g.2.1 g.2.2.1 g.2.2.2.1) .r rS) := by
  refine Fn.ok sc_with_bold (spD_len rfl) (fun cdv A outer s H vs Q E hr h => ?_)
  refine ⟨_, (pss_cons (ps_set (i := 4) sc_with_bold.nd rfl (Or.inl rfl) (pe_ix (r := rIxT K) ix_tup (pe_ix (r := rIxL K) ix_list (pv 0) (pv 2) (fun _ _ => rfl)) pe_int (fun _ _ => rfl))) (pss_cons (ps_ret (pe_op op_add_str (pe_op op_add_str (pe_slice sl_str (pv 1) po_none (po_some (pe_op op_sub (pv 4) (pv 3)))) (pe_op op_mulS pe_str (pv 3))) (pe_slice sl_str (pv 1) (po_some (pv 4)) po_none))) pss_nil)), ?_⟩
  exact run_body (N := ["parts", "pattern", "index", "many", "end"]) (out := fun _ => [Sl.j, Sl.j, Sl.j, Sl.j, Sl.j]) h 1 rfl fun F0 H0 g =>
    (match g with
    | (parts_1, pattern_1, index_1, many_1, _) => (bd_set (ev_snd (ev_op o_atL (Ev.rv (ev_var (R := (rL (rP rI rI))) (x := parts_1) rfl)) (Ev.rv (ev_var (R := rI) (x := index_1) rfl)))) fun end_1 => (bd_ret (ev_op o_addS (Ev.rv (ev_op o_addS (Ev.rv (ev_slice o_cutS (Ev.rv (ev_var (R := rS) (x := pattern_1) rfl)) evp_none (evp_some (ev_op o_sub (Ev.rv (ev_var (R := rI) (x := end_1) rfl)) (Ev.rv (ev_var (R := rI) (x := many_1) rfl)))))) (Ev.rv (ev_op o_mulS (Ev.rv (ev_str [49] rfl (by decide) (by decide))) (Ev.rv (ev_var (R := rI) (x := many_1) rfl)))))) (Ev.rv (ev_slice o_cutS (Ev.rv (ev_var (R := rS) (x := pattern_1) rfl)) (evp_some (ev_var (R := rI) (x := end_1) rfl)) evp_none))))))
abbrev st_parting_of : Stmt := topS 22
theorem sc_parting_of : FnScope ["parts", "one", "other", "path", "base", "found", "row", "values", "bold", "clauses", "index", "part", "sign", "clause", "k"] ["parts", "one", "other", "path"] (defScope st_parting_of) := ⟨rfl, rfl, rfl, by decide +kernel, rfl, by decide +kernel, by decide +kernel⟩
theorem ok_parting_of {f : Addr} {fd : FuncData} (B : Blt mg) (Fn : Fun K "parting_of" "parting_of" st_parting_of f fd) (D_least_pattern : Df P w K mg base "least_pattern" 1 ["parts", "bold"] (spD K (aC (rL (rP rI rI)) (aC (rT rI) aN)) (fun g => m_least_pattern g.1 g.2.1) .r rS)) (D_with_bold : Df P w K mg base "with_bold" 1 ["parts", "pattern", "index", "many"] (spD K (aC (rL (rP rI rI)) (aC rS (aC rI (aC rI aN)))) (fun g => m_with_bold g.1 g.2.1 g.2.2.1 g.2.2.2.1) .r rS)) :
    FnOk P w K mg base CX0 2 f fd ["parts", "one", "other", "path"] (spD K (aC (rL (rP rI rI)) (aC (rT (rO rS)) (aC (rT (rO rS)) (aC (r4 (rT rS) (rT (rO rS)) (rT rI) (rT (rT rI))) aN)))) (fun g => m_parting_of g.1 g.2.1 g.2.2.1 g.2.2.2.1) .r (rO rS)) := by
  refine Fn.ok sc_parting_of (spD_len rfl) (fun cdv A outer s H vs Q E hr h => ?_)
  refine ⟨_, (pss_cons (ps_asg (pv 3) (pg_tup rfl (pgs_cons (pg_name (i := 6) sc_parting_of.nd rfl (Or.inl rfl)) (pgs_cons (pg_name (i := 7) sc_parting_of.nd rfl (Or.inl rfl)) (pgs_cons (pg_name (i := 8) sc_parting_of.nd rfl (Or.inr rfl)) (pgs_cons (pg_name (i := 9) sc_parting_of.nd rfl (Or.inl rfl)) pgs_nil)))))) (pss_cons (ps_set (i := 4) sc_parting_of.nd rfl (Or.inl rfl) (pe_callD D_least_pattern (hr.mono (by decide)) (by rfl) (pa_cons (pv 0) (pa_cons (pv 8) pa_nil)))) (pss_cons (ps_set (i := 5) sc_parting_of.nd rfl (Or.inl rfl) (pe_lst pa_nil)) (pss_cons (ps_for PassesOwn.never rfl (pi_enumS (by rfl) B.b_enumerate (pa_cons (pv 0) pa_nil)) (pg_tup rfl (pgs_cons (pg_name (i := 10) sc_parting_of.nd rfl (Or.inr rfl)) (pgs_cons (pg_name (i := 11) sc_parting_of.nd rfl (Or.inl rfl)) pgs_nil))) (pss_cons (ps_if (pt_cmpR (r := rNeD K) (op_neD hr.units) (pe_ix (r := rIxT K) ix_tup (pv 1) (pv 10) (fun _ _ => rfl)) (pe_ix (r := rIxT K) ix_tup (pv 2) (pv 10) (fun _ _ => rfl)) (nomark _)) (pss_cons (ps_if (PW.pt (pw_and (pt_cmp (pc_notN (pe_ix (r := rIxT K) ix_tup (pv 1) (pv 10) (fun _ _ => rfl)))) (pw_and1 (pt_cmp (pc_notN (pe_ix (r := rIxT K) ix_tup (pv 2) (pv 10) (fun _ _ => rfl))))))) (pss_cons (ps_ret (pv 4)) pss_nil) pss_nil) (pss_cons (ps_set (i := 12) sc_parting_of.nd rfl (Or.inl rfl) (pe_ifExp (pt_cmp (pc_isN (pe_ix (r := rIxT K) ix_tup (pv 1) (pv 10) (fun _ _ => rfl)))) (pe_ix (r := rIxT K) ix_tup (pv 2) (pv 10) (fun _ _ => rfl)) (pe_ix (r := rIxT K) ix_tup (pv 1) (pv 10) (fun _ _ => rfl)))) (pss_cons (ps_if (pt_cmpR (r := rNeD K) (op_neD hr.units) (pv 12) (pe_ifExp (pt_cmpR (r := rIn K false) op_in_seq (pv 10) (pv 8) (by with_unfolding_all rfl)) pe_str pe_str) (nomark _)) (pss_cons (ps_ret (pv 4)) pss_nil) pss_nil) (pss_cons (ps_if (PW.pt (pw_and (pt_cmpR (r := rIn K true) op_notIn_seq (pv 10) (pv 8) (by with_unfolding_all rfl)) (pw_and1 (pt_cmpR op_gt (pe_op op_sub (pe_ix (r := rIxT K) ix_tup (pv 11) pe_int (fun _ _ => rfl)) (pe_ix (r := rIxT K) ix_tup (pv 11) pe_int (fun _ _ => rfl))) pe_int (nomark _))))) (pss_cons (ps_expr (pe_bm PySem.F.plainAttrs_list PySem.F.slot_list_append PySem.F.type_list_append mt_append (pv 5) (pa_cons (pe_callD D_with_bold (hr.mono (by decide)) (by rfl) (pa_cons (pv 0) (pa_cons (pv 4) (pa_cons (pv 10) (pa_cons pe_int pa_nil))))) pa_nil))) pss_nil) (pss_cons (ps_if (pt_cmpR (r := rIn K true) op_notIn_seq (pv 10) (pv 8) (by with_unfolding_all rfl)) (pss_cons (ps_if (pt_val (pe_callB (cr_all rfl) (by rfl) B.b_all (by decide +kernel) (pa_cons (pe_lc (own := [("clause", 13)]) (g := (gName 13)) rfl sc_parting_of.nd (pi_tup (pv 9)) (blkOk_by (N := ["parts", "one", "other", "path", "base", "found", "row", "values", "bold", "clauses", "index", "part", "sign", "clause", "k"]) (sc := defScope st_parting_of) (by decide +kernel)) (fun _ _ _ _ _ => (pg_name (i := 13) sc_parting_of.nd rfl (Or.inl rfl))) (fun _ _ _ _ _ => pts_nil) (fun _ _ _ _ _ => (pe_callB (r := rAny K) (cr_any rfl) (by rfl) B.b_any (by decide +kernel) (pa_cons (pe_lc (own := [("k", 14)]) (g := (gName 14)) rfl sc_parting_of.nd (pi_tupK (K := K) (pv 13)) (blkOk_nest (N := ["parts", "one", "other", "path", "base", "found", "row", "values", "bold", "clauses", "index", "part", "sign", "clause", "k"]) (by decide +kernel)) (fun _ _ _ _ _ => (pg_name (i := 14) sc_parting_of.nd rfl (Or.inl rfl))) (fun _ _ _ _ _ => pts_nil) (fun _ _ _ _ _ => (pe_and (pe_cmpR (r := rIn K true) op_notIn_seq (pv 14) (pv 8) (by with_unfolding_all rfl)) (pe_one (pe_cmpR (r := rNeD K) (op_neD hr.units) (pv 14) (pv 10) (nomark _)))))) pa_nil)))) pa_nil))) (pss_cons (ps_expr (pe_bm PySem.F.plainAttrs_list PySem.F.slot_list_append PySem.F.type_list_append mt_append (pv 5) (pa_cons (pe_callD D_with_bold (hr.mono (by decide)) (by rfl) (pa_cons (pv 0) (pa_cons (pv 4) (pa_cons (pv 10) (pa_cons pe_int pa_nil))))) pa_nil))) pss_nil) pss_nil) pss_nil) pss_nil) pss_nil)) pss_nil)))) pss_nil) pss_nil)) (pss_cons (ps_ret (pe_ifExp (pt_cmpR (r := rNeD K) (op_neD hr.units) (pv 5) (pe_lst pa_nil) (nomark _)) (pe_callB (cr_minS rfl (room65 hr)) (by rfl) B.b_min (by decide +kernel) (pa_cons (pv 5) pa_nil)) pe_non)) pss_nil))))), ?_⟩
  exact run_body (N := ["parts", "one", "other", "path", "base", "found", "row", "values", "bold", "clauses", "index", "part", "sign", "clause", "k"]) (out := fun _ => [Sl.j, Sl.j, Sl.j, Sl.j, Sl.j, Sl.j, Sl.j, Sl.j, Sl.j, Sl.j, Sl.j, Sl.j, Sl.j, Sl.j, Sl.j]) h 11 rfl fun F0 H0 g =>
    (match g with
    | (parts_1, one_1, other_1, path_1, _) => (bd_asg (ev_var (R := (r4 (rT rS) (rT (rO rS)) (rT rI) (rT (rT rI)))) (x := path_1) rfl) (tg_quad 6 7 8 9) fun p_1 => (bd_set (ev_call (eva_cons (ev_var (R := (rL (rP rI rI))) (x := parts_1) rfl) (eva_cons (ev_var (R := (rT rI)) (x := p_1.2.2.1) rfl) eva_nil))) fun base_1 => (bd_setO (ev_lst (evas_nil (R := rS))) fun found_1 => (bd_for (Γl := fun s_1 : (List (List Nat)) => [Sl.f (rL (rP rI rI)) parts_1, Sl.f (rT (rO rS)) one_1, Sl.f (rT (rO rS)) other_1, Sl.f (r4 (rT rS) (rT (rO rS)) (rT rI) (rT (rT rI))) path_1, Sl.f rS base_1, Sl.o rS s_1, Sl.f (rT rS) p_1.1, Sl.f (rT (rO rS)) p_1.2.1, Sl.f (rT rI) p_1.2.2.1, Sl.f (rT (rT rI)) p_1.2.2.2, Sl.j, Sl.j, Sl.j, Sl.j, Sl.j]) found_1 (ei_enumS wa_list (ev_var (R := (rL (rP rI rI))) (x := parts_1) rfl)) (tg_pair 10 11) (Le.eq (Le.eq (Le.eq (Le.eq (Le.eq (Le.eq (Le.eq (Le.eq (Le.eq (Le.eq (Le.eq (Le.eq (Le.eq (Le.eq (Le.eq Le.nil))))))))))))))) (fun x_3 s_1 => (bd_seq (out1 := fun s_2 : (List (List Nat)) => [Sl.f (rL (rP rI rI)) parts_1, Sl.f (rT (rO rS)) one_1, Sl.f (rT (rO rS)) other_1, Sl.f (r4 (rT rS) (rT (rO rS)) (rT rI) (rT (rT rI))) path_1, Sl.f rS base_1, Sl.o rS s_2, Sl.f (rT rS) p_1.1, Sl.f (rT (rO rS)) p_1.2.1, Sl.f (rT rI) p_1.2.2.1, Sl.f (rT (rT rI)) p_1.2.2.2, Sl.f rI x_3.1, Sl.f (rP rI rI) x_3.2, Sl.j, Sl.j, Sl.j]) (bd_if (evt_test (ev_op (o_ne (S := (rO rS))) (Ev.rv (ev_op o_atT (Ev.rv (ev_var (R := (rT (rO rS))) (x := one_1) rfl)) (Ev.rv (ev_var (R := rI) (x := x_3.1) rfl)))) (Ev.rv (ev_op o_atT (Ev.rv (ev_var (R := (rT (rO rS))) (x := other_1) rfl)) (Ev.rv (ev_var (R := rI) (x := x_3.1) rfl)))))) (bd_seq (out1 := fun s_3 : Unit => [Sl.f (rL (rP rI rI)) parts_1, Sl.f (rT (rO rS)) one_1, Sl.f (rT (rO rS)) other_1, Sl.f (r4 (rT rS) (rT (rO rS)) (rT rI) (rT (rT rI))) path_1, Sl.f rS base_1, Sl.o rS s_1, Sl.f (rT rS) p_1.1, Sl.f (rT (rO rS)) p_1.2.1, Sl.f (rT rI) p_1.2.2.1, Sl.f (rT (rT rI)) p_1.2.2.2, Sl.f rI x_3.1, Sl.f (rP rI rI) x_3.2, Sl.j, Sl.j, Sl.j]) (bd_if (evt_and (evt_b (ev_notN (ev_op o_atT (Ev.rv (ev_var (R := (rT (rO rS))) (x := one_1) rfl)) (Ev.rv (ev_var (R := rI) (x := x_3.1) rfl))))) (evt_b (ev_notN (ev_op o_atT (Ev.rv (ev_var (R := (rT (rO rS))) (x := other_1) rfl)) (Ev.rv (ev_var (R := rI) (x := x_3.1) rfl)))))) (bd_ret (Ev.mkO (R := rS) (h := fun _ => ⟨rfl, rfl⟩) (ev_var (R := rS) (x := base_1) rfl))) (bd_next (b := ()) (Le.eq (Le.eq (Le.eq (Le.eq (Le.eq (Le.eq (Le.eq (Le.eq (Le.eq (Le.eq (Le.eq (Le.eq (Le.eq (Le.eq (Le.eq Le.nil))))))))))))))))) fun s_3 => (bd_set (ev_if (evt_b (ev_isN (ev_op o_atT (Ev.rv (ev_var (R := (rT (rO rS))) (x := one_1) rfl)) (Ev.rv (ev_var (R := rI) (x := x_3.1) rfl))))) (Ev.unO (ev_op o_atT (Ev.rv (ev_var (R := (rT (rO rS))) (x := other_1) rfl)) (Ev.rv (ev_var (R := rI) (x := x_3.1) rfl)))) (Ev.unO (ev_op o_atT (Ev.rv (ev_var (R := (rT (rO rS))) (x := one_1) rfl)) (Ev.rv (ev_var (R := rI) (x := x_3.1) rfl))))) fun sign_1 => (bd_seq (out1 := fun s_4 : Unit => [Sl.f (rL (rP rI rI)) parts_1, Sl.f (rT (rO rS)) one_1, Sl.f (rT (rO rS)) other_1, Sl.f (r4 (rT rS) (rT (rO rS)) (rT rI) (rT (rT rI))) path_1, Sl.f rS base_1, Sl.o rS s_1, Sl.f (rT rS) p_1.1, Sl.f (rT (rO rS)) p_1.2.1, Sl.f (rT rI) p_1.2.2.1, Sl.f (rT (rT rI)) p_1.2.2.2, Sl.f rI x_3.1, Sl.f (rP rI rI) x_3.2, Sl.f rS sign_1, Sl.j, Sl.j]) (bd_if (evt_test (ev_op o_ne (Ev.rv (ev_var (R := rS) (x := sign_1) rfl)) (Ev.rv (ev_if (evt_test (ev_op o_inIT (Ev.rv (ev_var (R := rI) (x := x_3.1) rfl)) (Ev.rv (ev_var (R := (rT rI)) (x := p_1.2.2.1) rfl)))) (ev_str [49] rfl (by decide) (by decide)) (ev_str [48] rfl (by decide) (by decide)))))) (bd_ret (Ev.mkO (R := rS) (h := fun _ => ⟨rfl, rfl⟩) (ev_var (R := rS) (x := base_1) rfl))) (bd_next (b := ()) (Le.eq (Le.eq (Le.eq (Le.eq (Le.eq (Le.eq (Le.eq (Le.eq (Le.eq (Le.eq (Le.eq (Le.eq (Le.eq (Le.eq (Le.eq Le.nil))))))))))))))))) fun s_4 => (bd_seq (out1 := fun s_5 : (List (List Nat)) => [Sl.f (rL (rP rI rI)) parts_1, Sl.f (rT (rO rS)) one_1, Sl.f (rT (rO rS)) other_1, Sl.f (r4 (rT rS) (rT (rO rS)) (rT rI) (rT (rT rI))) path_1, Sl.f rS base_1, Sl.o rS s_5, Sl.f (rT rS) p_1.1, Sl.f (rT (rO rS)) p_1.2.1, Sl.f (rT rI) p_1.2.2.1, Sl.f (rT (rT rI)) p_1.2.2.2, Sl.f rI x_3.1, Sl.f (rP rI rI) x_3.2, Sl.f rS sign_1, Sl.j, Sl.j]) (bd_if (evt_and (evt_test (ev_op o_notInIT (Ev.rv (ev_var (R := rI) (x := x_3.1) rfl)) (Ev.rv (ev_var (R := (rT rI)) (x := p_1.2.2.1) rfl)))) (evt_test (ev_op o_gt (Ev.rv (ev_op o_sub (Ev.rv (ev_snd (ev_var (R := (rP rI rI)) (x := x_3.2) rfl))) (Ev.rv (ev_fst (ev_var (R := (rP rI rI)) (x := x_3.2) rfl))))) (Ev.rv ev_int)))) (bd_append (S := rS) (xs := s_1) rfl (ev_call (eva_cons (ev_var (R := (rL (rP rI rI))) (x := parts_1) rfl) (eva_cons (ev_var (R := rS) (x := base_1) rfl) (eva_cons (ev_var (R := rI) (x := x_3.1) rfl) (eva_cons ev_int eva_nil))))) fun x_8 => (bd_next (b := (s_1 ++ [x_8])) (Le.eq (Le.eq (Le.eq (Le.eq (Le.eq (Le.eq (Le.eq (Le.eq (Le.eq (Le.eq (Le.eq (Le.eq (Le.eq (Le.eq (Le.eq Le.nil))))))))))))))))) (bd_seq (out1 := fun s_6 : (List (List Nat)) => [Sl.f (rL (rP rI rI)) parts_1, Sl.f (rT (rO rS)) one_1, Sl.f (rT (rO rS)) other_1, Sl.f (r4 (rT rS) (rT (rO rS)) (rT rI) (rT (rT rI))) path_1, Sl.f rS base_1, Sl.o rS s_6, Sl.f (rT rS) p_1.1, Sl.f (rT (rO rS)) p_1.2.1, Sl.f (rT rI) p_1.2.2.1, Sl.f (rT (rT rI)) p_1.2.2.2, Sl.f rI x_3.1, Sl.f (rP rI rI) x_3.2, Sl.f rS sign_1, Sl.j, Sl.j]) (bd_if (evt_test (ev_op o_notInIT (Ev.rv (ev_var (R := rI) (x := x_3.1) rfl)) (Ev.rv (ev_var (R := (rT rI)) (x := p_1.2.2.1) rfl)))) (bd_seq (out1 := fun s_7 : (List (List Nat)) => [Sl.f (rL (rP rI rI)) parts_1, Sl.f (rT (rO rS)) one_1, Sl.f (rT (rO rS)) other_1, Sl.f (r4 (rT rS) (rT (rO rS)) (rT rI) (rT (rT rI))) path_1, Sl.f rS base_1, Sl.o rS s_7, Sl.f (rT rS) p_1.1, Sl.f (rT (rO rS)) p_1.2.1, Sl.f (rT rI) p_1.2.2.1, Sl.f (rT (rT rI)) p_1.2.2.2, Sl.f rI x_3.1, Sl.f (rP rI rI) x_3.2, Sl.f rS sign_1, Sl.j, Sl.j]) (bd_if (evt_b (ev_cb1 o_all (Ev.nv (ev_lc (ei_tup (ev_var (R := (rT (rT rI))) (x := p_1.2.2.2) rfl)) (tg_name 13) (fun x_9 => (ev_cb1 o_any (Ev.nv (ev_lc (ei_tup (ev_var (R := (rT rI)) (x := x_9) rfl)) (tg_name 14) (fun x_10 => (ev_andV (ev_op o_notInIT (Ev.rv (ev_var (R := rI) (x := x_10) rfl)) (Ev.rv (ev_var (R := (rT rI)) (x := p_1.2.2.1) rfl))) (ev_op o_ne (Ev.rv (ev_var (R := rI) (x := x_10) rfl)) (Ev.rv (ev_var (R := rI) (x := x_3.1) rfl))))))))))))) (bd_append (S := rS) (xs := s_1) rfl (ev_call (eva_cons (ev_var (R := (rL (rP rI rI))) (x := parts_1) rfl) (eva_cons (ev_var (R := rS) (x := base_1) rfl) (eva_cons (ev_var (R := rI) (x := x_3.1) rfl) (eva_cons ev_int eva_nil))))) fun x_15 => (bd_next (b := (s_1 ++ [x_15])) (Le.eq (Le.eq (Le.eq (Le.eq (Le.eq (Le.eq (Le.eq (Le.eq (Le.eq (Le.eq (Le.eq (Le.eq (Le.eq (Le.eq (Le.eq Le.nil))))))))))))))))) (bd_next (b := s_1) (Le.eq (Le.eq (Le.eq (Le.eq (Le.eq (Le.eq (Le.eq (Le.eq (Le.eq (Le.eq (Le.eq (Le.eq (Le.eq (Le.eq (Le.eq Le.nil))))))))))))))))) fun s_7 => (bd_next (b := s_7) (Le.eq (Le.eq (Le.eq (Le.eq (Le.eq (Le.eq (Le.eq (Le.eq (Le.eq (Le.eq (Le.eq (Le.eq (Le.eq (Le.eq (Le.eq Le.nil))))))))))))))))) (bd_next (b := s_1) (Le.eq (Le.eq (Le.eq (Le.eq (Le.eq (Le.eq (Le.eq (Le.eq (Le.eq (Le.eq (Le.eq (Le.eq (Le.eq (Le.eq (Le.eq Le.nil))))))))))))))))) fun s_6 => (bd_next (b := s_6) (Le.eq (Le.eq (Le.eq (Le.eq (Le.eq (Le.eq (Le.eq (Le.eq (Le.eq (Le.eq (Le.eq (Le.eq (Le.eq (Le.eq (Le.eq Le.nil)))))))))))))))))) fun s_5 => (bd_next (b := s_5) (Le.eq (Le.eq (Le.eq (Le.eq (Le.eq (Le.eq (Le.eq (Le.eq (Le.eq (Le.eq (Le.eq (Le.eq (Le.j (Le.eq (Le.eq Le.nil)))))))))))))))))))) (bd_next (b := s_1) (Le.eq (Le.eq (Le.eq (Le.eq (Le.eq (Le.eq (Le.eq (Le.eq (Le.eq (Le.eq (Le.eq (Le.eq (Le.eq (Le.eq (Le.eq Le.nil))))))))))))))))) fun s_2 => (bd_next (b := s_2) (Le.eq (Le.eq (Le.eq (Le.eq (Le.eq (Le.eq (Le.eq (Le.eq (Le.eq (Le.eq (Le.j (Le.j (Le.eq (Le.eq (Le.eq Le.nil)))))))))))))))))) (fun s_1 => (bd_ret (ev_if (evt_test (ev_op o_ne (ev_varO (R := rS) (xs := s_1) rfl) (Ev.nv (ev_lst (evas_nil (R := rS)))))) (Ev.mkO (R := rS) (h := fun _ => ⟨rfl, rfl⟩) (ev_cb1 o_minS (ev_varO (R := rS) (xs := s_1) rfl))) (ev_nonO (R := rS) (h := fun _ => ⟨rfl, rfl⟩))))))))))
abbrev st_first_parting : Stmt := topS 23
theorem sc_first_parting : FnScope ["length", "first", "second", "parts", "found", "path", "begun", "later", "pattern"] ["length", "first", "second"] (defScope st_first_parting) := ⟨rfl, rfl, rfl, by decide +kernel, rfl, by decide +kernel, by decide +kernel⟩
theorem ok_first_parting {f : Addr} {fd : FuncData} (B : Blt mg) (Fn : Fun K "first_parting" "first_parting" st_first_parting f fd) (D_blocks : Df P w K mg base "blocks" 2 ["length", "script"] (spD K (aC rI (aC (rT (rP rI rI)) aN)) (fun g => m_blocks g.1 g.2.1) .n (rL (rP rI rI)))) (D_all_paths : Df P w K mg base "all_paths" 4 ["parts", "script"] (spD K (aC (rL (rP rI rI)) (aC (rT (rP rI rI)) aN)) (fun g => m_all_paths g.1 g.2.1) .r (rL (r4 (rT rS) (rT (rO rS)) (rT rI) (rT (rT rI)))))) (D_paths_from : Df P w K mg base "paths_from" 3 ["parts", "paths", "script"] (spD K (aC (rL (rP rI rI)) (aC (rL (r4 (rT rS) (rT (rO rS)) (rT rI) (rT (rT rI)))) (aC (rT (rP rI rI)) aN))) (fun g => m_paths_from g.1 g.2.1 g.2.2.1) .r (rL (r4 (rT rS) (rT (rO rS)) (rT rI) (rT (rT rI)))))) (D_parting_of : Df P w K mg base "parting_of" 2 ["parts", "one", "other", "path"] (spD K (aC (rL (rP rI rI)) (aC (rT (rO rS)) (aC (rT (rO rS)) (aC (r4 (rT rS) (rT (rO rS)) (rT rI) (rT (rT rI))) aN)))) (fun g => m_parting_of g.1 g.2.1 g.2.2.1 g.2.2.2.1) .r (rO rS))) :
    FnOk P w K mg base CX0 5 f fd ["length", "first", "second"] (spD K (aC rI (aC (rT (rP rI rI)) (aC (rT (rP rI rI)) aN))) (fun g => m_first_parting g.1 g.2.1 g.2.2.1) .r (rO rS)) := by
  refine Fn.ok sc_first_parting (spD_len rfl) (fun cdv A outer s H vs Q E hr h => ?_)
  refine ⟨_, (pss_cons (ps_set (i := 3) sc_first_parting.nd rfl (Or.inl rfl) (pe_callD D_blocks (hr.mono (by decide)) (by rfl) (pa_cons (pv 0) (pa_cons (pe_op (r := rCatA K) op_catA (pv 1) (pv 2)) pa_nil)))) (pss_cons (ps_set (i := 4) sc_first_parting.nd rfl (Or.inl rfl) (pe_lst pa_nil)) (pss_cons (ps_for PassesOwn.never rfl (pi_list (pe_callD D_all_paths (hr.mono (by decide)) (by rfl) (pa_cons (pv 3) (pa_cons (pv 1) pa_nil)))) (pg_name (i := 5) sc_first_parting.nd rfl (Or.inl rfl)) (pss_cons (ps_set (i := 6) sc_first_parting.nd rfl (Or.inl rfl) (pe_tup (pa_cons (pe_tup pa_nil) (pa_cons (pe_op (r := rRepT2 K) op_repT2 (pe_tup (pa_cons pe_non pa_nil)) (pe_callB call_len_seq (by rfl) B.b_len (by decide +kernel) (pa_cons (pv 3) pa_nil))) (pa_cons (pe_ix (r := rIxT K) ix_tup (pv 5) pe_int (fun _ _ => rfl)) (pa_cons (pe_ix (r := rIxT K) ix_tup (pv 5) pe_int (fun _ _ => rfl)) pa_nil)))))) (pss_cons (ps_for PassesOwn.never rfl (pi_list (pe_callD D_paths_from (hr.mono (by decide)) (by rfl) (pa_cons (pv 3) (pa_cons (pe_lst (pa_cons (pv 6) pa_nil)) (pa_cons (pv 2) pa_nil))))) (pg_name (i := 7) sc_first_parting.nd rfl (Or.inl rfl)) (pss_cons (ps_set (i := 8) sc_first_parting.nd rfl (Or.inl rfl) (pe_callD D_parting_of (hr.mono (by decide)) (by rfl) (pa_cons (pv 3) (pa_cons (pe_ix (r := rIxT K) ix_tup (pv 5) pe_int (fun _ _ => rfl)) (pa_cons (pe_ix (r := rIxT K) ix_tup (pv 7) pe_int (fun _ _ => rfl)) (pa_cons (pv 7) pa_nil)))))) (pss_cons (ps_if (pt_cmp (pc_notN (pv 8))) (pss_cons (ps_expr (pe_bm PySem.F.plainAttrs_list PySem.F.slot_list_append PySem.F.type_list_append mt_append (pv 4) (pa_cons (pv 8) pa_nil))) pss_nil) pss_nil) pss_nil))) pss_nil))) (pss_cons (ps_ret (pe_ifExp (pt_cmpR (r := rNeD K) (op_neD hr.units) (pv 4) (pe_lst pa_nil) (nomark _)) (pe_callB (cr_minS rfl (room65 hr)) (by rfl) B.b_min (by decide +kernel) (pa_cons (pv 4) pa_nil)) pe_non)) pss_nil)))), ?_⟩
  exact run_body (N := ["length", "first", "second", "parts", "found", "path", "begun", "later", "pattern"]) (out := fun _ => [Sl.j, Sl.j, Sl.j, Sl.j, Sl.j, Sl.j, Sl.j, Sl.j, Sl.j]) h 6 rfl fun F0 H0 g =>
    (match g with
    | (length_1, first_1, second_1, _) => (bd_set (Ev.nr (ev_call (eva_cons (ev_var (R := rI) (x := length_1) rfl) (eva_cons (ev_op o_catT (Ev.rv (ev_var (R := (rT (rP rI rI))) (x := first_1) rfl)) (Ev.rv (ev_var (R := (rT (rP rI rI))) (x := second_1) rfl))) eva_nil)))) fun parts_1 => (bd_setO (ev_lst (evas_nil (R := rS))) fun found_1 => (bd_for (Γl := fun s_1 : (List (List Nat)) => [Sl.f rI length_1, Sl.f (rT (rP rI rI)) first_1, Sl.f (rT (rP rI rI)) second_1, Sl.f (rL (rP rI rI)) parts_1, Sl.o rS s_1, Sl.j, Sl.j, Sl.j, Sl.j]) found_1 (ei_list (ev_call (eva_cons (ev_var (R := (rL (rP rI rI))) (x := parts_1) rfl) (eva_cons (ev_var (R := (rT (rP rI rI))) (x := first_1) rfl) eva_nil)))) (tg_name 5) (Le.eq (Le.eq (Le.eq (Le.eq (Le.eq (Le.eq (Le.eq (Le.eq (Le.eq Le.nil))))))))) (fun x_5 s_1 => (bd_set (ev_quad (ev_tupL (evas_nil (R := rS))) (ev_op o_repT (Ev.rv (ev_tupL (evas_cons (ev_nonO (R := rS) (h := fun _ => ⟨rfl, rfl⟩)) (evas_nil (R := (rO rS)))))) (Ev.rv (ev_cb1 o_lenL (Ev.rv (ev_var (R := (rL (rP rI rI))) (x := parts_1) rfl))))) (ev_q2 (ev_var (R := (r4 (rT rS) (rT (rO rS)) (rT rI) (rT (rT rI)))) (x := x_5) rfl)) (ev_q3 (ev_var (R := (r4 (rT rS) (rT (rO rS)) (rT rI) (rT (rT rI)))) (x := x_5) rfl))) fun begun_1 => (bd_for (Γl := fun s_2 : (List (List Nat)) => [Sl.f rI length_1, Sl.f (rT (rP rI rI)) first_1, Sl.f (rT (rP rI rI)) second_1, Sl.f (rL (rP rI rI)) parts_1, Sl.o rS s_2, Sl.f (r4 (rT rS) (rT (rO rS)) (rT rI) (rT (rT rI))) x_5, Sl.f (r4 (rT rS) (rT (rO rS)) (rT rI) (rT (rT rI))) begun_1, Sl.j, Sl.j]) s_1 (ei_list (ev_call (eva_cons (ev_var (R := (rL (rP rI rI))) (x := parts_1) rfl) (eva_cons (Ev.nr (ev_lst (evas_cons (ev_var (R := (r4 (rT rS) (rT (rO rS)) (rT rI) (rT (rT rI)))) (x := begun_1) rfl) (evas_nil (R := (r4 (rT rS) (rT (rO rS)) (rT rI) (rT (rT rI)))))))) (eva_cons (ev_var (R := (rT (rP rI rI))) (x := second_1) rfl) eva_nil))))) (tg_name 7) (Le.eq (Le.eq (Le.eq (Le.eq (Le.eq (Le.eq (Le.eq (Le.eq (Le.eq Le.nil))))))))) (fun x_11 s_2 => (bd_set (ev_call (eva_cons (ev_var (R := (rL (rP rI rI))) (x := parts_1) rfl) (eva_cons (ev_q1 (ev_var (R := (r4 (rT rS) (rT (rO rS)) (rT rI) (rT (rT rI)))) (x := x_5) rfl)) (eva_cons (ev_q1 (ev_var (R := (r4 (rT rS) (rT (rO rS)) (rT rI) (rT (rT rI)))) (x := x_11) rfl)) (eva_cons (ev_var (R := (r4 (rT rS) (rT (rO rS)) (rT rI) (rT (rT rI)))) (x := x_11) rfl) eva_nil))))) fun pattern_1 => (bd_seq (out1 := fun s_3 : (List (List Nat)) => [Sl.f rI length_1, Sl.f (rT (rP rI rI)) first_1, Sl.f (rT (rP rI rI)) second_1, Sl.f (rL (rP rI rI)) parts_1, Sl.o rS s_3, Sl.f (r4 (rT rS) (rT (rO rS)) (rT rI) (rT (rT rI))) x_5, Sl.f (r4 (rT rS) (rT (rO rS)) (rT rI) (rT (rT rI))) begun_1, Sl.f (r4 (rT rS) (rT (rO rS)) (rT rI) (rT (rT rI))) x_11, Sl.f (rO rS) pattern_1]) (bd_if (evt_b (ev_notN (ev_var (R := (rO rS)) (x := pattern_1) rfl))) (bd_append (S := rS) (xs := s_2) rfl (Ev.unO (ev_var (R := (rO rS)) (x := pattern_1) rfl)) fun x_16 => (bd_next (b := (s_2 ++ [x_16])) (Le.eq (Le.eq (Le.eq (Le.eq (Le.eq (Le.eq (Le.eq (Le.eq (Le.eq Le.nil))))))))))) (bd_next (b := s_2) (Le.eq (Le.eq (Le.eq (Le.eq (Le.eq (Le.eq (Le.eq (Le.eq (Le.eq Le.nil))))))))))) fun s_3 => (bd_next (b := s_3) (Le.eq (Le.eq (Le.eq (Le.eq (Le.eq (Le.eq (Le.eq (Le.j (Le.j Le.nil))))))))))))) (fun s_2 => (bd_next (b := s_2) (Le.eq (Le.eq (Le.eq (Le.eq (Le.eq (Le.j (Le.j (Le.eq (Le.eq Le.nil)))))))))))))) (fun s_1 => (bd_ret (ev_if (evt_test (ev_op o_ne (ev_varO (R := rS) (xs := s_1) rfl) (Ev.nv (ev_lst (evas_nil (R := rS)))))) (Ev.mkO (R := rS) (h := fun _ => ⟨rfl, rfl⟩) (ev_cb1 o_minS (ev_varO (R := rS) (xs := s_1) rfl))) (ev_nonO (R := rS) (h := fun _ => ⟨rfl, rfl⟩)))))))))
abbrev st_needless : Stmt := topS 24
theorem sc_needless : FnScope ["length", "script", "found", "index"] ["length", "script"] (defScope st_needless) := ⟨rfl, rfl, rfl, by decide +kernel, rfl, by decide +kernel, by decide +kernel⟩
theorem ok_needless {f : Addr} {fd : FuncData} (B : Blt mg) (Fn : Fun K "needless" "needless" st_needless f fd) (D_first_parting : Df P w K mg base "first_parting" 5 ["length", "first", "second"] (spD K (aC rI (aC (rT (rP rI rI)) (aC (rT (rP rI rI)) aN))) (fun g => m_first_parting g.1 g.2.1 g.2.2.1) .r (rO rS))) :
    FnOk P w K mg base CX0 6 f fd ["length", "script"] (spD K (aC rI (aC (rT (rP rI rI)) aN)) (fun g => m_needless g.1 g.2.1) .n (rL rI)) := by
  refine Fn.ok sc_needless (spD_len rfl) (fun cdv A outer s H vs Q E hr h => ?_)
  refine ⟨_, (pss_cons (ps_set (i := 2) sc_needless.nd rfl (Or.inl rfl) (pe_lst pa_nil)) (pss_cons (ps_for PassesOwn.never rfl (pi_range1 (by rfl) B.b_range (pa_cons (pe_callB call_len_seq (by rfl) B.b_len (by decide +kernel) (pa_cons (pv 1) pa_nil)) pa_nil)) (pg_name (i := 3) sc_needless.nd rfl (Or.inl rfl)) (pss_cons (ps_if (pt_cmp (pc_isN (pe_callD D_first_parting (hr.mono (by decide)) (by rfl) (pa_cons (pv 0) (pa_cons (pv 1) (pa_cons (pe_op (r := rCatA K) op_catA (pe_slice (r := rSlA K) sl_tupA (pv 1) po_none (po_some (pv 3))) (pe_slice (r := rSlA K) sl_tupA (pv 1) (po_some (pe_op op_add (pv 3) pe_int)) po_none)) pa_nil)))))) (pss_cons (ps_expr (pe_bm PySem.F.plainAttrs_list PySem.F.slot_list_append PySem.F.type_list_append mt_append (pv 2) (pa_cons (pv 3) pa_nil))) pss_nil) pss_nil) pss_nil)) (pss_cons (ps_ret (pv 2)) pss_nil))), ?_⟩
  exact run_body (N := ["length", "script", "found", "index"]) (out := fun _ => [Sl.j, Sl.j, Sl.j, Sl.j]) h 2 rfl fun F0 H0 g =>
    (match g with
    | (length_1, script_1, _) => (bd_setO (ev_lst (evas_nil (R := rI))) fun found_1 => (bd_for (Γl := fun s_1 : (List Int) => [Sl.f rI length_1, Sl.f (rT (rP rI rI)) script_1, Sl.o rI s_1, Sl.j]) found_1 (ei_rng1 (ev_cb1 o_lenT (Ev.rv (ev_var (R := (rT (rP rI rI))) (x := script_1) rfl)))) (tg_name 3) (Le.eq (Le.eq (Le.eq (Le.eq Le.nil)))) (fun x_1 s_1 => (bd_seq (out1 := fun s_2 : (List Int) => [Sl.f rI length_1, Sl.f (rT (rP rI rI)) script_1, Sl.o rI s_2, Sl.f rI x_1]) (bd_if (evt_b (ev_isN (ev_call (eva_cons (ev_var (R := rI) (x := length_1) rfl) (eva_cons (ev_var (R := (rT (rP rI rI))) (x := script_1) rfl) (eva_cons (ev_op o_catT (Ev.rv (ev_slice o_cutT (Ev.rv (ev_var (R := (rT (rP rI rI))) (x := script_1) rfl)) evp_none (evp_some (ev_var (R := rI) (x := x_1) rfl)))) (Ev.rv (ev_slice o_cutT (Ev.rv (ev_var (R := (rT (rP rI rI))) (x := script_1) rfl)) (evp_some (ev_op o_add (Ev.rv (ev_var (R := rI) (x := x_1) rfl)) (Ev.rv ev_int))) evp_none))) eva_nil)))))) (bd_append (S := rI) (xs := s_1) rfl (ev_var (R := rI) (x := x_1) rfl) fun x_5 => (bd_next (b := (s_1 ++ [x_5])) (Le.eq (Le.eq (Le.eq (Le.eq Le.nil)))))) (bd_next (b := s_1) (Le.eq (Le.eq (Le.eq (Le.eq Le.nil)))))) fun s_2 => (bd_next (b := s_2) (Le.eq (Le.eq (Le.eq (Le.j Le.nil))))))) (fun s_1 => (bd_retO (S := rI) (xs := s_1) rfl)))))
abbrev st_effect : Stmt := topS 26
theorem sc_effect : FnScope ["pattern", "one"] ["pattern", "one"] (defScope st_effect) := ⟨rfl, rfl, rfl, by decide +kernel, rfl, by decide +kernel, by decide +kernel⟩
theorem ok_effect {f : Addr} {fd : FuncData} (B : Blt mg) (Fn : Fun K "effect" "effect" st_effect f fd)  :
    FnOk P w K mg base CX0 1 f fd ["pattern", "one"] (spD K (aC rS (aC (rP rI rI) aN)) (fun g => m_effect g.1 g.2.1) .r rS) := by
  refine Fn.ok sc_effect (spD_len rfl) (fun cdv A outer s H vs Q E hr h => ?_)
  refine ⟨_, (pss_cons (ps_ret (pe_ifExp (pt_cmpR op_in_sign pe_str (pe_slice sl_str (pv 0) (po_some (pe_ix (r := rIxT K) ix_tup (pv 1) pe_int (fun _ _ => rfl))) (po_some (pe_ix (r := rIxT K) ix_tup (pv 1) pe_int (fun _ _ => rfl)))) (by with_unfolding_all rfl)) pe_str pe_str)) pss_nil), ?_⟩
  exact run_body (N := ["pattern", "one"]) (out := fun _ => [Sl.j, Sl.j]) h 0 rfl fun F0 H0 g =>
    (match g with
    | (pattern_1, one_1, _) => (bd_ret (ev_if (evt_test (ev_op o_inS (Ev.rv (ev_str [48] rfl (by decide) (by decide))) (Ev.rv (ev_slice o_cutS (Ev.rv (ev_var (R := rS) (x := pattern_1) rfl)) (evp_some (ev_fst (ev_var (R := (rP rI rI)) (x := one_1) rfl))) (evp_some (ev_snd (ev_var (R := (rP rI rI)) (x := one_1) rfl))))))) (ev_str [115, 101, 116] rfl (by decide) (by decide)) (ev_str [99, 108, 101, 97, 114] rfl (by decide) (by decide)))))
abbrev st_after : Stmt := topS 27
theorem sc_after : FnScope ["pattern", "one", "sign"] ["pattern", "one"] (defScope st_after) := ⟨rfl, rfl, rfl, by decide +kernel, rfl, by decide +kernel, by decide +kernel⟩
theorem ok_after {f : Addr} {fd : FuncData} (B : Blt mg) (Fn : Fun K "after" "after" st_after f fd) (D_effect : Df P w K mg base "effect" 1 ["pattern", "one"] (spD K (aC rS (aC (rP rI rI) aN)) (fun g => m_effect g.1 g.2.1) .r rS)) :
    FnOk P w K mg base CX0 2 f fd ["pattern", "one"] (spD K (aC rS (aC (rP rI rI) aN)) (fun g => m_after g.1 g.2.1) .r rS) := by
  refine Fn.ok sc_after (spD_len rfl) (fun cdv A outer s H vs Q E hr h => ?_)
  refine ⟨_, (pss_cons (ps_set (i := 2) sc_after.nd rfl (Or.inl rfl) (pe_ifExp (pt_cmpR (r := rEqD K) (op_eqD hr.units) (pe_callD D_effect (hr.mono (by decide)) (by rfl) (pa_cons (pv 0) (pa_cons (pv 1) pa_nil))) pe_str (nomark _)) pe_str pe_str)) (pss_cons (ps_ret (pe_op op_add_str (pe_op op_add_str (pe_slice sl_str (pv 0) po_none (po_some (pe_ix (r := rIxT K) ix_tup (pv 1) pe_int (fun _ _ => rfl)))) (pe_op op_mulS (pv 2) (pe_op op_sub (pe_ix (r := rIxT K) ix_tup (pv 1) pe_int (fun _ _ => rfl)) (pe_ix (r := rIxT K) ix_tup (pv 1) pe_int (fun _ _ => rfl))))) (pe_slice sl_str (pv 0) (po_some (pe_ix (r := rIxT K) ix_tup (pv 1) pe_int (fun _ _ => rfl))) po_none))) pss_nil)), ?_⟩
  exact run_body (N := ["pattern", "one", "sign"]) (out := fun _ => [Sl.j, Sl.j, Sl.j]) h 1 rfl fun F0 H0 g =>
    (match g with
    | (pattern_1, one_1, _) => (bd_set (ev_if (evt_test (ev_op o_eq (Ev.rv (ev_call (eva_cons (ev_var (R := rS) (x := pattern_1) rfl) (eva_cons (ev_var (R := (rP rI rI)) (x := one_1) rfl) eva_nil)))) (Ev.rv (ev_str [115, 101, 116] rfl (by decide) (by decide))))) (ev_str [49] rfl (by decide) (by decide)) (ev_str [48] rfl (by decide) (by decide))) fun sign_1 => (bd_ret (ev_op o_addS (Ev.rv (ev_op o_addS (Ev.rv (ev_slice o_cutS (Ev.rv (ev_var (R := rS) (x := pattern_1) rfl)) evp_none (evp_some (ev_fst (ev_var (R := (rP rI rI)) (x := one_1) rfl))))) (Ev.rv (ev_op o_mulS (Ev.rv (ev_var (R := rS) (x := sign_1) rfl)) (Ev.rv (ev_op o_sub (Ev.rv (ev_snd (ev_var (R := (rP rI rI)) (x := one_1) rfl))) (Ev.rv (ev_fst (ev_var (R := (rP rI rI)) (x := one_1) rfl))))))))) (Ev.rv (ev_slice o_cutS (Ev.rv (ev_var (R := rS) (x := pattern_1) rfl)) (evp_some (ev_snd (ev_var (R := (rP rI rI)) (x := one_1) rfl))) evp_none))))))
abbrev st_apply : Stmt := topS 28
theorem sc_apply : FnScope ["pattern", "script", "one"] ["pattern", "script"] (defScope st_apply) := ⟨rfl, rfl, rfl, by decide +kernel, rfl, by decide +kernel, by decide +kernel⟩
theorem ok_apply {f : Addr} {fd : FuncData} (B : Blt mg) (Fn : Fun K "apply" "apply" st_apply f fd) (D_after : Df P w K mg base "after" 2 ["pattern", "one"] (spD K (aC rS (aC (rP rI rI) aN)) (fun g => m_after g.1 g.2.1) .r rS)) :
    FnOk P w K mg base CX0 3 f fd ["pattern", "script"] (spD K (aC rS (aC (rT (rP rI rI)) aN)) (fun g => m_apply g.1 g.2.1) .r rS) := by
  refine Fn.ok sc_apply (spD_len rfl) (fun cdv A outer s H vs Q E hr h => ?_)
  refine ⟨_, (pss_cons (ps_for PassesOwn.never rfl (pi_tup (pv 1)) (pg_name (i := 2) sc_apply.nd rfl (Or.inl rfl)) (pss_cons (ps_set (i := 0) sc_apply.nd rfl (Or.inl rfl) (pe_callD D_after (hr.mono (by decide)) (by rfl) (pa_cons (pv 0) (pa_cons (pv 2) pa_nil)))) pss_nil)) (pss_cons (ps_ret (pv 0)) pss_nil)), ?_⟩
  exact run_body (N := ["pattern", "script", "one"]) (out := fun _ => [Sl.j, Sl.j, Sl.j]) h 1 rfl fun F0 H0 g =>
    (match g with
    | (pattern_1, script_1, _) => (bd_for (Γl := fun s_1 : (List Nat) => [Sl.f rS s_1, Sl.f (rT (rP rI rI)) script_1, Sl.j]) pattern_1 (ei_tup (ev_var (R := (rT (rP rI rI))) (x := script_1) rfl)) (tg_name 2) (Le.eq (Le.eq (Le.eq Le.nil))) (fun x_1 s_1 => (bd_set (ev_call (eva_cons (ev_var (R := rS) (x := s_1) rfl) (eva_cons (ev_var (R := (rP rI rI)) (x := x_1) rfl) eva_nil))) fun pattern_2 => (bd_next (b := pattern_2) (Le.eq (Le.eq (Le.j Le.nil)))))) (fun s_1 => (bd_ret (ev_var (R := rS) (x := s_1) rfl)))))
abbrev st__law_cell : Stmt := topS 32
theorem sc__law_cell : FnScope ["script", "index"] ["script", "index"] (defScope st__law_cell) := ⟨rfl, rfl, rfl, by decide +kernel, rfl, by decide +kernel, by decide +kernel⟩
theorem ok__law_cell {f : Addr} {fd : FuncData} (B : Blt mg) (Fn : Fun K "_law_cell" "_law_cell" st__law_cell f fd)  :
    FnOk P w K mg base CX0 1 f fd ["script", "index"] (spD K (aS (aC rI aN)) (fun g => m__law_cell g.1 g.2.1) .r rI) := by
  refine Fn.ok sc__law_cell (spD_len rfl) (fun cdv A outer s H vs Q E hr h => ?_)
  refine ⟨_, (pss_cons (ps_if (pt_cmpR op_lt (pv 1) (pe_callB call_len_seq (by rfl) B.b_len (by decide +kernel) (pa_cons (pv 0) pa_nil)) (nomark _)) (pss_cons (ps_ret (pe_ix (r := rIxL K) ix_list (pv 0) (pv 1) (fun _ _ => rfl))) pss_nil) pss_nil) (pss_cons (ps_if (pt_cmpR (r := rEqD K) (op_eqD hr.units) (pe_callB call_len_seq (by rfl) B.b_len (by decide +kernel) (pa_cons (pv 0) pa_nil)) pe_int (nomark _)) (pss_cons (ps_ret (pe_op op_add (pe_op op_mul pe_int (pv 1)) pe_int)) pss_nil) pss_nil) (pss_cons (ps_ret (pe_op op_add (pe_op op_mod (pe_ix (r := rIxL K) ix_list (pv 0) (pe_op op_mod (pv 1) (pe_callB call_len_seq (by rfl) B.b_len (by decide +kernel) (pa_cons (pv 0) pa_nil))) (fun _ _ => rfl)) pe_int) (pe_op op_mul pe_int (pv 1)))) pss_nil))), ?_⟩
  exact run_body (N := ["script", "index"]) (out := fun _ => [Sl.j, Sl.j]) h 0 rfl fun F0 H0 g =>
    (match g with
    | (script_1, index_1, _) => (bd_seq (out1 := fun s_1 : Unit => [Sl.s script_1, Sl.f rI index_1]) (bd_if (evt_test (ev_op o_lt (Ev.rv (ev_var (R := rI) (x := index_1) rfl)) (Ev.rv (ev_scrLen (ns := script_1) rfl)))) (bd_ret (ev_scrAt (ns := script_1) rfl (ev_var (R := rI) (x := index_1) rfl))) (bd_next (b := ()) (Le.eq (Le.eq Le.nil)))) fun s_1 => (bd_seq (out1 := fun s_2 : Unit => [Sl.s script_1, Sl.f rI index_1]) (bd_if (evt_test (ev_op o_eq (Ev.rv (ev_scrLen (ns := script_1) rfl)) (Ev.rv ev_int))) (bd_ret (ev_op o_add (Ev.rv (ev_op o_mul (Ev.rv ev_int) (Ev.rv (ev_var (R := rI) (x := index_1) rfl)))) (Ev.rv ev_int))) (bd_next (b := ()) (Le.eq (Le.eq Le.nil)))) fun s_2 => (bd_ret (ev_op o_add (Ev.rv (ev_op o_mod (Ev.rv (ev_scrAt (ns := script_1) rfl (ev_op o_mod (Ev.rv (ev_var (R := rI) (x := index_1) rfl)) (Ev.rv (ev_scrLen (ns := script_1) rfl))))) (Ev.rv ev_int))) (Ev.rv (ev_op o_mul (Ev.rv ev_int) (Ev.rv (ev_var (R := rI) (x := index_1) rfl)))))))))
abbrev st__law_digits : Stmt := topS 33
theorem sc__law_digits : FnScope ["script", "index", "count", "base", "primes", "cell", "rest", "digits", "k", "mixed"] ["script", "index", "count", "base"] (defScope st__law_digits) := ⟨rfl, rfl, rfl, by decide +kernel, rfl, by decide +kernel, by decide +kernel⟩
theorem ok__law_digits {f : Addr} {fd : FuncData} (B : Blt mg) (Fn : Fun K "_law_digits" "_law_digits" st__law_digits f fd) (D__law_cell : Df P w K mg base "_law_cell" 1 ["script", "index"] (spD K (aS (aC rI aN)) (fun g => m__law_cell g.1 g.2.1) .r rI)) :
    FnOk P w K mg base CX0 2 f fd ["script", "index", "count", "base"] (spD K (aS (aC rI (aC rI (aC rI aN)))) (fun g => m__law_digits g.1 g.2.1 g.2.2.1 g.2.2.2.1) .n (rL rI)) := by
  refine Fn.ok sc__law_digits (spD_len rfl) (fun cdv A outer s H vs Q E hr h => ?_)
  refine ⟨_, (pss_cons (ps_set (i := 4) sc__law_digits.nd rfl (Or.inl rfl) (pe_tup (pa_cons pe_int (pa_cons pe_int (pa_cons pe_int (pa_cons pe_int (pa_cons pe_int (pa_cons pe_int (pa_cons pe_int (pa_cons pe_int pa_nil)))))))))) (pss_cons (ps_set (i := 5) sc__law_digits.nd rfl (Or.inl rfl) (pe_callD D__law_cell (hr.mono (by decide)) (by rfl) (pa_cons (pv 0) (pa_cons (pv 1) pa_nil)))) (pss_cons (ps_set (i := 6) sc__law_digits.nd rfl (Or.inl rfl) (pe_ifExp (pt_cmpR op_ge (pv 5) (pe_op op_pow pe_int pe_int) (nomark _)) (pv 5) pe_int)) (pss_cons (ps_set (i := 7) sc__law_digits.nd rfl (Or.inl rfl) (pe_lst pa_nil)) (pss_cons (ps_for PassesOwn.never rfl (pi_range1 (by rfl) B.b_range (pa_cons (pv 2) pa_nil)) (pg_name (i := 8) sc__law_digits.nd rfl (Or.inl rfl)) (pss_cons (ps_set (i := 9) sc__law_digits.nd rfl (Or.inl rfl) (pe_op op_mul (pe_op op_mod (pv 5) (pe_ix (r := rIxT K) ix_tup (pv 4) (pe_op op_mod (pv 8) pe_int) (fun _ _ => rfl))) (pe_op op_add pe_int (pe_op op_mul (pe_op op_mul pe_int (pv 8)) (pv 8))))) (pss_cons (ps_set (i := 9) sc__law_digits.nd rfl (Or.inl rfl) (pe_op op_add (pe_op op_add (pv 9) (pe_op op_mul (pe_op op_mul pe_int (pe_op op_add (pv 8) pe_int)) (pe_op op_add (pv 8) pe_int))) (pe_op op_mul pe_int (pv 1)))) (pss_cons (ps_set (i := 9) sc__law_digits.nd rfl (Or.inl rfl) (pe_op op_mod (pv 9) (pe_ix (r := rIxT K) ix_tup (pv 4) (pe_op op_mod (pe_op op_add (pe_op op_mul pe_int (pv 8)) (pv 1)) pe_int) (fun _ _ => rfl)))) (pss_cons (ps_set (i := 9) sc__law_digits.nd rfl (Or.inl rfl) (pe_op op_mod (pe_op op_mul (pe_op op_mul (pv 9) (pv 9)) (pv 9)) (pe_ix (r := rIxT K) ix_tup (pv 4) (pe_op op_mod (pe_op op_add (pv 8) pe_int) pe_int) (fun _ _ => rfl)))) (pss_cons (ps_if (pt_cmpR op_gt (pv 6) pe_int (nomark _)) (pss_cons (ps_set (i := 9) sc__law_digits.nd rfl (Or.inl rfl) (pv 6)) pss_nil) pss_nil) (pss_cons (ps_expr (pe_bm PySem.F.plainAttrs_list PySem.F.slot_list_append PySem.F.type_list_append mt_append (pv 7) (pa_cons (pe_op op_mod (pv 9) (pv 3)) pa_nil))) (pss_cons (ps_set (i := 6) sc__law_digits.nd rfl (Or.inl rfl) (pe_op op_fdiv (pv 6) (pv 3))) pss_nil)))))))) (pss_cons (ps_ret (pv 7)) pss_nil)))))), ?_⟩
  exact run_body (N := ["script", "index", "count", "base", "primes", "cell", "rest", "digits", "k", "mixed"]) (out := fun _ => [Sl.j, Sl.j, Sl.j, Sl.j, Sl.j, Sl.j, Sl.j, Sl.j, Sl.j, Sl.j]) h 6 rfl fun F0 H0 g =>
    (match g with
    | (script_1, index_1, count_1, base_1, _) => (bd_set (ev_tupL (evas_cons ev_int (evas_cons ev_int (evas_cons ev_int (evas_cons ev_int (evas_cons ev_int (evas_cons ev_int (evas_cons ev_int (evas_cons ev_int (evas_nil (R := rI))))))))))) fun primes_1 => (bd_set (ev_call (eva_consS (ns := script_1) rfl (eva_cons (ev_var (R := rI) (x := index_1) rfl) eva_nil))) fun cell_1 => (bd_set (ev_if (evt_test (ev_op o_ge (Ev.rv (ev_var (R := rI) (x := cell_1) rfl)) (Ev.rv (ev_op o_pow (Ev.rv ev_int) (Ev.rv ev_int))))) (ev_var (R := rI) (x := cell_1) rfl) ev_int) fun rest_1 => (bd_setO (ev_lst (evas_nil (R := rI))) fun digits_1 => (bd_for (Γl := fun s_1 : (Int × (List Int)) => [Sl.s script_1, Sl.f rI index_1, Sl.f rI count_1, Sl.f rI base_1, Sl.f (rT rI) primes_1, Sl.f rI cell_1, Sl.f rI s_1.1, Sl.o rI s_1.2, Sl.j, Sl.j]) (rest_1, digits_1) (ei_rng1 (ev_var (R := rI) (x := count_1) rfl)) (tg_name 8) (Le.eq (Le.eq (Le.eq (Le.eq (Le.eq (Le.eq (Le.eq (Le.eq (Le.eq (Le.eq Le.nil)))))))))) (fun x_10 s_1 => (bd_set (ev_op o_mul (Ev.rv (ev_op o_mod (Ev.rv (ev_var (R := rI) (x := cell_1) rfl)) (Ev.rv (ev_op o_atT (Ev.rv (ev_var (R := (rT rI)) (x := primes_1) rfl)) (Ev.rv (ev_op o_mod (Ev.rv (ev_var (R := rI) (x := x_10) rfl)) (Ev.rv ev_int))))))) (Ev.rv (ev_op o_add (Ev.rv ev_int) (Ev.rv (ev_op o_mul (Ev.rv (ev_op o_mul (Ev.rv ev_int) (Ev.rv (ev_var (R := rI) (x := x_10) rfl)))) (Ev.rv (ev_var (R := rI) (x := x_10) rfl))))))) fun mixed_1 => (bd_set (ev_op o_add (Ev.rv (ev_op o_add (Ev.rv (ev_var (R := rI) (x := mixed_1) rfl)) (Ev.rv (ev_op o_mul (Ev.rv (ev_op o_mul (Ev.rv ev_int) (Ev.rv (ev_op o_add (Ev.rv (ev_var (R := rI) (x := x_10) rfl)) (Ev.rv ev_int))))) (Ev.rv (ev_op o_add (Ev.rv (ev_var (R := rI) (x := x_10) rfl)) (Ev.rv ev_int))))))) (Ev.rv (ev_op o_mul (Ev.rv ev_int) (Ev.rv (ev_var (R := rI) (x := index_1) rfl))))) fun mixed_2 => (bd_set (ev_op o_mod (Ev.rv (ev_var (R := rI) (x := mixed_2) rfl)) (Ev.rv (ev_op o_atT (Ev.rv (ev_var (R := (rT rI)) (x := primes_1) rfl)) (Ev.rv (ev_op o_mod (Ev.rv (ev_op o_add (Ev.rv (ev_op o_mul (Ev.rv ev_int) (Ev.rv (ev_var (R := rI) (x := x_10) rfl)))) (Ev.rv (ev_var (R := rI) (x := index_1) rfl)))) (Ev.rv ev_int)))))) fun mixed_3 => (bd_set (ev_op o_mod (Ev.rv (ev_op o_mul (Ev.rv (ev_op o_mul (Ev.rv (ev_var (R := rI) (x := mixed_3) rfl)) (Ev.rv (ev_var (R := rI) (x := mixed_3) rfl)))) (Ev.rv (ev_var (R := rI) (x := mixed_3) rfl)))) (Ev.rv (ev_op o_atT (Ev.rv (ev_var (R := (rT rI)) (x := primes_1) rfl)) (Ev.rv (ev_op o_mod (Ev.rv (ev_op o_add (Ev.rv (ev_var (R := rI) (x := x_10) rfl)) (Ev.rv ev_int))) (Ev.rv ev_int)))))) fun mixed_4 => (bd_seq (out1 := fun s_2 : Int => [Sl.s script_1, Sl.f rI index_1, Sl.f rI count_1, Sl.f rI base_1, Sl.f (rT rI) primes_1, Sl.f rI cell_1, Sl.f rI s_1.1, Sl.o rI s_1.2, Sl.f rI x_10, Sl.f rI s_2]) (bd_if (evt_test (ev_op o_gt (Ev.rv (ev_var (R := rI) (x := s_1.1) rfl)) (Ev.rv ev_int))) (bd_set (ev_var (R := rI) (x := s_1.1) rfl) fun mixed_5 => (bd_next (b := mixed_5) (Le.eq (Le.eq (Le.eq (Le.eq (Le.eq (Le.eq (Le.eq (Le.eq (Le.eq (Le.eq Le.nil)))))))))))) (bd_next (b := mixed_4) (Le.eq (Le.eq (Le.eq (Le.eq (Le.eq (Le.eq (Le.eq (Le.eq (Le.eq (Le.eq Le.nil)))))))))))) fun s_2 => (bd_append (S := rI) (xs := s_1.2) rfl (ev_op o_mod (Ev.rv (ev_var (R := rI) (x := s_2) rfl)) (Ev.rv (ev_var (R := rI) (x := base_1) rfl))) fun x_11 => (bd_set (ev_op o_fdiv (Ev.rv (ev_var (R := rI) (x := s_1.1) rfl)) (Ev.rv (ev_var (R := rI) (x := base_1) rfl))) fun rest_2 => (bd_next (b := (rest_2, (s_1.2 ++ [x_11]))) (Le.eq (Le.eq (Le.eq (Le.eq (Le.eq (Le.eq (Le.eq (Le.eq (Le.j (Le.j Le.nil))))))))))))))))))) (fun s_1 => (bd_retO (S := rI) (xs := s_1.2) rfl))))))))
abbrev st__law_power : Stmt := topS 34
theorem sc__law_power : FnScope ["number", "found", "turn"] ["number"] (defScope st__law_power) := ⟨rfl, rfl, rfl, by decide +kernel, rfl, by decide +kernel, by decide +kernel⟩
theorem ok__law_power {f : Addr} {fd : FuncData} (B : Blt mg) (Fn : Fun K "_law_power" "_law_power" st__law_power f fd)  :
    FnOk P w K mg base CX0 1 f fd ["number"] (spD K (aC rI aN) (fun g => m__law_power g.1) .r rI) := by
  refine Fn.ok sc__law_power (spD_len rfl) (fun cdv A outer s H vs Q E hr h => ?_)
  refine ⟨_, (pss_cons (ps_set (i := 1) sc__law_power.nd rfl (Or.inl rfl) pe_int) (pss_cons (ps_for PassesOwn.never rfl (pi_range1 (by rfl) B.b_range (pa_cons (pv 0) pa_nil)) (pg_name (i := 2) sc__law_power.nd rfl (Or.inl rfl)) (pss_cons (ps_set (i := 1) sc__law_power.nd rfl (Or.inl rfl) (pe_op op_mul (pv 1) pe_int)) pss_nil)) (pss_cons (ps_ret (pv 1)) pss_nil))), ?_⟩
  exact run_body (N := ["number", "found", "turn"]) (out := fun _ => [Sl.j, Sl.j, Sl.j]) h 2 rfl fun F0 H0 g =>
    (match g with
    | (number_1, _) => (bd_set ev_int fun found_1 => (bd_for (Γl := fun s_1 : Int => [Sl.f rI number_1, Sl.f rI s_1, Sl.j]) found_1 (ei_rng1 (ev_var (R := rI) (x := number_1) rfl)) (tg_name 2) (Le.eq (Le.eq (Le.eq Le.nil))) (fun x_1 s_1 => (bd_set (ev_op o_mul (Ev.rv (ev_var (R := rI) (x := s_1) rfl)) (Ev.rv ev_int)) fun found_2 => (bd_next (b := found_2) (Le.eq (Le.eq (Le.j Le.nil)))))) (fun s_1 => (bd_ret (ev_var (R := rI) (x := s_1) rfl))))))
abbrev st_Macro__add__ : Stmt := inClass (topS 30) 3
theorem sc_Macro__add__ : FnScope ["self", "other"] ["self", "other"] (defScope st_Macro__add__) := ⟨rfl, rfl, rfl, by decide +kernel, rfl, by decide +kernel, by decide +kernel⟩
theorem ok_Macro__add__ {f : Addr} {fd : FuncData} (B : Blt mg) (Fn : Fun K "__add__" "Macro.__add__" st_Macro__add__ f fd) {C : Addr} (D_Macro : MacD P w K mg base C)  :
    FnOk P w K mg base CX0 3 f fd ["self", "other"] (spD K (aC (rM C) (aC (rM C) aN)) (fun g => m_Macro__add__ g.1 g.2.1) .r (rM C)) := by
  refine Fn.ok sc_Macro__add__ (spD_len rfl) (fun cdv A outer s H vs Q E hr h => ?_)
  refine ⟨_, (pss_cons (ps_ret (pe_makeM D_Macro (hr.mono (by decide)) (by rfl) (pa_cons (pe_fld (pv 0) rfl) (pa_cons (pe_op (r := rCatA K) op_catA (pe_fld (pv 0) rfl) (pe_fld (pv 1) rfl)) pa_nil)))) pss_nil), ?_⟩
  exact run_body (N := ["self", "other"]) (out := fun _ => [Sl.j, Sl.j]) h 0 rfl fun F0 H0 g =>
    (match g with
    | (self_1, other_1, _) => (bd_ret (ev_mkM (ev_fldL D_Macro.t (ev_var (R := (rM C)) (x := self_1) rfl)) (ev_op o_catT (Ev.rv (ev_fldS D_Macro.t (ev_var (R := (rM C)) (x := self_1) rfl))) (Ev.rv (ev_fldS D_Macro.t (ev_var (R := (rM C)) (x := other_1) rfl)))))))
abbrev st_Macro__call__ : Stmt := inClass (topS 30) 2
theorem sc_Macro__call__ : FnScope ["self", "pattern"] ["self", "pattern"] (defScope st_Macro__call__) := ⟨rfl, rfl, rfl, by decide +kernel, rfl, by decide +kernel, by decide +kernel⟩
theorem ok_Macro__call__ {f : Addr} {fd : FuncData} (B : Blt mg) (Fn : Fun K "__call__" "Macro.__call__" st_Macro__call__ f fd) {C : Addr} (D_Macro : MacD P w K mg base C) (D_apply : Df P w K mg base "apply" 3 ["pattern", "script"] (spD K (aC rS (aC (rT (rP rI rI)) aN)) (fun g => m_apply g.1 g.2.1) .r rS)) :
    FnOk P w K mg base CX0 4 f fd ["self", "pattern"] (spD K (aC (rM C) (aC rS aN)) (fun g => m_Macro__call__ g.1 g.2.1) .r rS) := by
  refine Fn.ok sc_Macro__call__ (spD_len rfl) (fun cdv A outer s H vs Q E hr h => ?_)
  refine ⟨_, (pss_cons (ps_ret (pe_callD D_apply (hr.mono (by decide)) (by rfl) (pa_cons (pv 1) (pa_cons (pe_fld (pv 0) rfl) pa_nil)))) pss_nil), ?_⟩
  exact run_body (N := ["self", "pattern"]) (out := fun _ => [Sl.j, Sl.j]) h 0 rfl fun F0 H0 g =>
    (match g with
    | (self_1, pattern_1, _) => (bd_ret (ev_call (eva_cons (ev_var (R := rS) (x := pattern_1) rfl) (eva_cons (ev_fldS D_Macro.t (ev_var (R := (rM C)) (x := self_1) rfl)) eva_nil)))))
abbrev st_Macro__eq__ : Stmt := inClass (topS 30) 4
theorem sc_Macro__eq__ : FnScope ["self", "other"] ["self", "other"] (defScope st_Macro__eq__) := ⟨rfl, rfl, rfl, by decide +kernel, rfl, by decide +kernel, by decide +kernel⟩
theorem ok_Macro__eq__ {f : Addr} {fd : FuncData} (B : Blt mg) (Fn : Fun K "__eq__" "Macro.__eq__" st_Macro__eq__ f fd) {C : Addr} (D_Macro : MacD P w K mg base C) (D_first_parting : Df P w K mg base "first_parting" 5 ["length", "first", "second"] (spD K (aC rI (aC (rT (rP rI rI)) (aC (rT (rP rI rI)) aN))) (fun g => m_first_parting g.1 g.2.1 g.2.2.1) .r (rO rS))) :
    FnOk P w K mg base CX0 6 f fd ["self", "other"] (spD K (aC (rM C) (aC (rM C) aN)) (fun g => m_Macro__eq__ g.1 g.2.1) .r rB) := by
  refine Fn.ok sc_Macro__eq__ (spD_len rfl) (fun cdv A outer s H vs Q E hr h => ?_)
  refine ⟨_, (pss_cons (ps_if (PW.pt (pw_or (pt_not (pt_val (pe_callB (C8.call_isC D_Macro.t.isc) (by rfl) B.b_isinstance (by decide +kernel) (pa_cons (pv 1) (pa_cons (pe_glob (v := .ref C) (by rfl) D_Macro.t.mgC rfl) pa_nil))))) (pw_or1 (pt_cmpR (r := rNeD K) (op_neD hr.units) (pe_fld (pv 0) rfl) (pe_fld (pv 1) rfl) (nomark _))))) (pss_cons (ps_ret pe_bl) pss_nil) pss_nil) (pss_cons (ps_ret (pe_cmp (pc_isN (pe_callD D_first_parting (hr.mono (by decide)) (by rfl) (pa_cons (pe_fld (pv 0) rfl) (pa_cons (pe_fld (pv 0) rfl) (pa_cons (pe_fld (pv 1) rfl) pa_nil))))))) pss_nil)), ?_⟩
  exact run_body (N := ["self", "other"]) (out := fun _ => [Sl.j, Sl.j]) h 0 rfl fun F0 H0 g =>
    (match g with
    | (self_1, other_1, _) => (bd_seq (out1 := fun s_1 : Unit => [Sl.f (rM C) self_1, Sl.f (rM C) other_1]) (bd_if (evt_or (evt_not (evt_b (ev_isM (ev_var (R := (rM C)) (x := other_1) rfl)))) (evt_test (ev_op o_ne (Ev.rv (ev_fldL D_Macro.t (ev_var (R := (rM C)) (x := self_1) rfl))) (Ev.rv (ev_fldL D_Macro.t (ev_var (R := (rM C)) (x := other_1) rfl)))))) (bd_ret ev_bl) (bd_next (b := ()) (Le.eq (Le.eq Le.nil)))) fun s_1 => (bd_ret (ev_isN (ev_call (eva_cons (ev_fldL D_Macro.t (ev_var (R := (rM C)) (x := self_1) rfl)) (eva_cons (ev_fldS D_Macro.t (ev_var (R := (rM C)) (x := self_1) rfl)) (eva_cons (ev_fldS D_Macro.t (ev_var (R := (rM C)) (x := other_1) rfl)) eva_nil))))))))
abbrev st__law_two_right : Stmt := topS 35
theorem sc__law_two_right : FnScope ["m", "found", "due", "result", "length", "steps", "one", "other"] ["m"] (defScope st__law_two_right) := ⟨rfl, rfl, rfl, by decide +kernel, rfl, by decide +kernel, by decide +kernel⟩
theorem ok__law_two_right {f : Addr} {fd : FuncData} (B : Blt mg) (Fn : Fun K "_law_two_right" "_law_two_right" st__law_two_right f fd) {C : Addr} (D_Macro : MacD P w K mg base C) (D_blocks : Df P w K mg base "blocks" 2 ["length", "script"] (spD K (aC rI (aC (rT (rP rI rI)) aN)) (fun g => m_blocks g.1 g.2.1) .n (rL (rP rI rI)))) (D_effect_rows : Df P w K mg base "effect_rows" 5 ["length", "script"] (spD K (aC rI (aC (rT (rP rI rI)) aN)) (fun g => m_effect_rows g.1 g.2.1) .n (rL (rT rS)))) (D_outcomes : Df P w K mg base "outcomes" 5 ["length", "script"] (spD K (aC rI (aC (rT (rP rI rI)) aN)) (fun g => m_outcomes g.1 g.2.1) .n (rL rS))) (D_count_results : Df P w K mg base "count_results" 6 ["length", "script"] (spD K (aC rI (aC (rT (rP rI rI)) aN)) (fun g => m_count_results g.1 g.2.1) .r rI)) (D_count_sources : Df P w K mg base "count_sources" 5 ["length", "script", "outcome"] (spD K (aC rI (aC (rT (rP rI rI)) (aC rS aN))) (fun g => m_count_sources g.1 g.2.1 g.2.2.1) .r rI)) (D_count_with : Df P w K mg base "count_with" 5 ["length", "script", "row"] (spD K (aC rI (aC (rT (rP rI rI)) (aC (rT rS) aN))) (fun g => m_count_with g.1 g.2.1 g.2.2.1) .r rI)) (D__law_power : Df P w K mg base "_law_power" 1 ["number"] (spD K (aC rI aN) (fun g => m__law_power g.1) .r rI)) (D_first_with : Df P w K mg base "first_with" 5 ["length", "script", "row"] (spD K (aC rI (aC (rT (rP rI rI)) (aC (rT rS) aN))) (fun g => m_first_with g.1 g.2.1 g.2.2.1) .r (rO rS))) (D_kinds_of_effects : Df P w K mg base "kinds_of_effects" 6 ["length", "script"] (spD K (aC rI (aC (rT (rP rI rI)) aN)) (fun g => m_kinds_of_effects g.1 g.2.1) .n (rL rS))) (D_Macro__add__ : OpD P w K mg base C "__add__" 3 ["self", "other"] (spD K (aC (rM C) (aC (rM C) aN)) (fun g => m_Macro__add__ g.1 g.2.1) .r (rM C))) (D_Macro__call__ : OpD P w K mg base C "__call__" 4 ["self", "pattern"] (spD K (aC (rM C) (aC rS aN)) (fun g => m_Macro__call__ g.1 g.2.1) .r rS)) (D_Macro__eq__ : OpD P w K mg base C "__eq__" 6 ["self", "other"] (spD K (aC (rM C) (aC (rM C) aN)) (fun g => m_Macro__eq__ g.1 g.2.1) .r rB)) :
    FnOk P w K mg base CX0 8 f fd ["m"] (spD K (aC rI aN) (fun g => m__law_two_right g.1) .n (rL rB)) := by
  refine Fn.ok sc__law_two_right (spD_len rfl) (fun cdv A outer s H vs Q E hr h => ?_)
  refine ⟨_, (pss_cons (ps_par (i := 4) (j := 5) rfl sc__law_two_right.nd rfl rfl (by decide) rfl rfl (pa_cons (pe_op op_mul pe_int (pv 0)) (pa_cons (pe_tup (pa_cons (pe_tup (pa_cons pe_int (pa_cons (pe_op op_mul pe_int (pv 0)) pa_nil))) (pa_cons (pe_tup (pa_cons (pv 0) (pa_cons (pe_op op_mul pe_int (pv 0)) pa_nil))) pa_nil))) pa_nil)) rfl) (pss_cons (ps_set (i := 1) sc__law_two_right.nd rfl (Or.inl rfl) (pe_lst (pa_cons (pe_cmpR (r := rEqD K) (op_eqD hr.units) (pe_callD D_blocks (hr.mono (by decide)) (by rfl) (pa_cons (pv 4) (pa_cons (pv 5) pa_nil))) (pe_lst (pa_cons (pe_tup (pa_cons pe_int (pa_cons (pv 0) pa_nil))) (pa_cons (pe_tup (pa_cons (pv 0) (pa_cons (pe_op op_mul pe_int (pv 0)) pa_nil))) (pa_cons (pe_tup (pa_cons (pe_op op_mul pe_int (pv 0)) (pa_cons (pe_op op_mul pe_int (pv 0)) pa_nil))) (pa_cons (pe_tup (pa_cons (pe_op op_mul pe_int (pv 0)) (pa_cons (pe_op op_mul pe_int (pv 0)) pa_nil))) pa_nil))))) (nomark _)) pa_nil))) (pss_cons (ps_expr (pe_bm PySem.F.plainAttrs_list PySem.F.slot_list_append PySem.F.type_list_append mt_append (pv 1) (pa_cons (pe_cmpR (r := rEqD K) (op_eqD hr.units) (pe_callD D_effect_rows (hr.mono (by decide)) (by rfl) (pa_cons (pv 4) (pa_cons (pv 5) pa_nil))) (pe_lst (pa_cons (pe_tup (pa_cons pe_str (pa_cons pe_str pa_nil))) (pa_cons (pe_tup (pa_cons pe_str (pa_cons pe_str pa_nil))) (pa_cons (pe_tup (pa_cons pe_str (pa_cons pe_str pa_nil))) pa_nil)))) (nomark _)) pa_nil))) (pss_cons (ps_set (i := 2) sc__law_two_right.nd rfl (Or.inl rfl) (pe_lst (pa_cons (pe_op op_add_str (pe_op op_add_str (pe_op op_mulS pe_str (pv 0)) (pe_op op_mulS (pe_op op_mulS pe_str pe_int) (pv 0))) (pe_op op_mulS pe_str (pv 0))) (pa_cons (pe_op op_add_str (pe_op op_add_str (pe_op op_mulS pe_str (pv 0)) (pe_op op_mulS (pe_op op_mulS pe_str pe_int) (pv 0))) (pe_op op_mulS pe_str (pv 0))) (pa_cons (pe_op op_add_str (pe_op op_mulS (pe_op op_mulS pe_str pe_int) (pv 0)) (pe_op op_mulS pe_str (pv 0))) pa_nil))))) (pss_cons (ps_expr (pe_bm PySem.F.plainAttrs_list PySem.F.slot_list_append PySem.F.type_list_append mt_append (pv 1) (pa_cons (pe_cmpR (r := rEqD K) (op_eqD hr.units) (pe_callD D_outcomes (hr.mono (by decide)) (by rfl) (pa_cons (pv 4) (pa_cons (pv 5) pa_nil))) (pv 2) (nomark _)) pa_nil))) (pss_cons (ps_expr (pe_bm PySem.F.plainAttrs_list PySem.F.slot_list_append PySem.F.type_list_append mt_append (pv 1) (pa_cons (pe_cmpR (r := rEqD K) (op_eqD hr.units) (pe_callD D_count_results (hr.mono (by decide)) (by rfl) (pa_cons (pv 4) (pa_cons (pv 5) pa_nil))) (pe_op op_mul pe_int (pe_callD D__law_power (hr.mono (by decide)) (by rfl) (pa_cons (pv 0) pa_nil))) (nomark _)) pa_nil))) (pss_cons (ps_expr (pe_bm PySem.F.plainAttrs_list PySem.F.slot_list_append PySem.F.type_list_append mt_append (pv 1) (pa_cons (pe_cmpR (r := rEqD K) (op_eqD hr.units) (pe_callD D_count_sources (hr.mono (by decide)) (by rfl) (pa_cons (pv 4) (pa_cons (pv 5) (pa_cons (pe_ix (r := rIxL K) ix_list (pv 2) pe_int (fun _ _ => rfl)) pa_nil)))) (pe_op op_mul (pe_op op_sub (pe_callD D__law_power (hr.mono (by decide)) (by rfl) (pa_cons (pe_op op_mul pe_int (pv 0)) pa_nil)) pe_int) (pe_callD D__law_power (hr.mono (by decide)) (by rfl) (pa_cons (pv 0) pa_nil))) (nomark _)) pa_nil))) (pss_cons (ps_expr (pe_bm PySem.F.plainAttrs_list PySem.F.slot_list_append PySem.F.type_list_append mt_append (pv 1) (pa_cons (pe_cmpR (r := rEqD K) (op_eqD hr.units) (pe_callD D_count_with (hr.mono (by decide)) (by rfl) (pa_cons (pv 4) (pa_cons (pv 5) (pa_cons (pe_tup (pa_cons pe_str (pa_cons pe_str pa_nil))) pa_nil)))) (pe_callD D__law_power (hr.mono (by decide)) (by rfl) (pa_cons (pe_op op_mul pe_int (pv 0)) pa_nil)) (nomark _)) pa_nil))) (pss_cons (ps_expr (pe_bm PySem.F.plainAttrs_list PySem.F.slot_list_append PySem.F.type_list_append mt_append (pv 1) (pa_cons (pe_cmpR (r := rEqD K) (op_eqD hr.units) (pe_callD D_first_with (hr.mono (by decide)) (by rfl) (pa_cons (pv 4) (pa_cons (pv 5) (pa_cons (pe_tup (pa_cons pe_str (pa_cons pe_str pa_nil))) pa_nil)))) (pe_op op_add_str (pe_op op_mulS (pe_op op_mulS pe_str pe_int) (pv 0)) (pe_op op_mulS (pe_op op_mulS pe_str pe_int) (pv 0))) (nomark _)) pa_nil))) (pss_cons (ps_par (i := 6) (j := 7) rfl sc__law_two_right.nd rfl rfl (by decide) rfl rfl (pa_cons (pe_makeM D_Macro (hr.mono (by decide)) (by rfl) (pa_cons (pv 4) (pa_cons (pe_slice (r := rSlA K) sl_tupA (pv 5) po_none (po_some pe_int)) pa_nil))) (pa_cons (pe_makeM D_Macro (hr.mono (by decide)) (by rfl) (pa_cons (pv 4) (pa_cons (pe_slice (r := rSlA K) sl_tupA (pv 5) (po_some pe_int) po_none) pa_nil))) pa_nil)) rfl) (pss_cons (ps_set (i := 3) sc__law_two_right.nd rfl (Or.inl rfl) (pe_callM D_Macro__call__ (hr.mono (by decide)) (pe_op (op_addM D_Macro__add__ D_Macro.t.sf (hr.mono (by decide))) (pv 6) (pv 7)) (pa_cons (pe_op op_add_str (pe_op op_mulS (pe_op op_mulS pe_str pe_int) (pv 0)) (pe_op op_mulS (pe_op op_mulS pe_str pe_int) (pv 0))) pa_nil))) (pss_cons (ps_expr (pe_bm PySem.F.plainAttrs_list PySem.F.slot_list_append PySem.F.type_list_append mt_append (pv 1) (pa_cons (pe_cmpR (r := rEqD K) (op_eqD hr.units) (pv 3) (pe_op op_add_str (pe_op op_add_str (pe_op op_mulS pe_str (pv 0)) (pe_op op_mulS (pe_op op_mulS pe_str pe_int) (pv 0))) (pe_op op_mulS pe_str (pv 0))) (nomark _)) pa_nil))) (pss_cons (ps_expr (pe_bm PySem.F.plainAttrs_list PySem.F.slot_list_append PySem.F.type_list_append mt_append (pv 1) (pa_cons (pe_and (pe_cmpR (op_neM D_Macro__eq__ D_Macro.t.ne D_Macro.t.isc.hm (hr.mono (by decide))) (pe_op (op_addM D_Macro__add__ D_Macro.t.sf (hr.mono (by decide))) (pv 6) (pv 7)) (pe_op (op_addM D_Macro__add__ D_Macro.t.sf (hr.mono (by decide))) (pv 7) (pv 6)) (nomark _)) (pe_one (pe_cmpR (op_eqM D_Macro__eq__ (hr.mono (by decide))) (pe_op (op_addM D_Macro__add__ D_Macro.t.sf (hr.mono (by decide))) (pe_op (op_addM D_Macro__add__ D_Macro.t.sf (hr.mono (by decide))) (pv 6) (pv 6)) (pv 6)) (pv 6) (nomark _)))) pa_nil))) (pss_cons (ps_ret (pe_op (r := rCatL K) op_catL (pv 1) (pe_lst (pa_cons (pe_cmpR (r := rEqD K) (op_eqD hr.units) (pe_callD D_kinds_of_effects (hr.mono (by decide)) (by rfl) (pa_cons (pv 4) (pa_cons (pv 5) pa_nil))) (pe_lst (pa_cons pe_str (pa_cons pe_str pa_nil))) (nomark _)) pa_nil)))) pss_nil)))))))))))))), ?_⟩
  exact run_body (N := ["m", "found", "due", "result", "length", "steps", "one", "other"]) (out := fun _ => [Sl.j, Sl.j, Sl.j, Sl.j, Sl.j, Sl.j, Sl.j, Sl.j]) h 7 rfl fun F0 H0 g =>
    (match g with
    | (m_1, _) => (bd_parFF (ev_op o_mul (Ev.rv ev_int) (Ev.rv (ev_var (R := rI) (x := m_1) rfl))) (ev_tupL (evas_cons (ev_pair ev_int (ev_op o_mul (Ev.rv ev_int) (Ev.rv (ev_var (R := rI) (x := m_1) rfl)))) (evas_cons (ev_pair (ev_var (R := rI) (x := m_1) rfl) (ev_op o_mul (Ev.rv ev_int) (Ev.rv (ev_var (R := rI) (x := m_1) rfl)))) (evas_nil (R := (rP rI rI)))))) fun length_1 steps_1 => (bd_setO (ev_lst (evas_cons (ev_op o_eq (Ev.nv (ev_call (eva_cons (ev_var (R := rI) (x := length_1) rfl) (eva_cons (ev_var (R := (rT (rP rI rI))) (x := steps_1) rfl) eva_nil)))) (Ev.nv (ev_lst (evas_cons (ev_pair ev_int (ev_var (R := rI) (x := m_1) rfl)) (evas_cons (ev_pair (ev_var (R := rI) (x := m_1) rfl) (ev_op o_mul (Ev.rv ev_int) (Ev.rv (ev_var (R := rI) (x := m_1) rfl)))) (evas_cons (ev_pair (ev_op o_mul (Ev.rv ev_int) (Ev.rv (ev_var (R := rI) (x := m_1) rfl))) (ev_op o_mul (Ev.rv ev_int) (Ev.rv (ev_var (R := rI) (x := m_1) rfl)))) (evas_cons (ev_pair (ev_op o_mul (Ev.rv ev_int) (Ev.rv (ev_var (R := rI) (x := m_1) rfl))) (ev_op o_mul (Ev.rv ev_int) (Ev.rv (ev_var (R := rI) (x := m_1) rfl)))) (evas_nil (R := (rP rI rI)))))))))) (evas_nil (R := rB)))) fun found_1 => (bd_append (S := rB) (xs := found_1) rfl (ev_op o_eq (Ev.nv (ev_call (eva_cons (ev_var (R := rI) (x := length_1) rfl) (eva_cons (ev_var (R := (rT (rP rI rI))) (x := steps_1) rfl) eva_nil)))) (Ev.nv (ev_lst (evas_cons (ev_tupL (evas_cons (ev_str [99, 108, 101, 97, 114] rfl (by decide) (by decide)) (evas_cons (ev_str [115, 101, 116] rfl (by decide) (by decide)) (evas_nil (R := rS))))) (evas_cons (ev_tupL (evas_cons (ev_str [115, 101, 116] rfl (by decide) (by decide)) (evas_cons (ev_str [99, 108, 101, 97, 114] rfl (by decide) (by decide)) (evas_nil (R := rS))))) (evas_cons (ev_tupL (evas_cons (ev_str [115, 101, 116] rfl (by decide) (by decide)) (evas_cons (ev_str [115, 101, 116] rfl (by decide) (by decide)) (evas_nil (R := rS))))) (evas_nil (R := (rT rS))))))))) fun x_21 => (bd_set (Ev.nr (ev_lst (evas_cons (ev_op o_addS (Ev.rv (ev_op o_addS (Ev.rv (ev_op o_mulS (Ev.rv (ev_str [48] rfl (by decide) (by decide))) (Ev.rv (ev_var (R := rI) (x := m_1) rfl)))) (Ev.rv (ev_op o_mulS (Ev.rv (ev_op o_mulS (Ev.rv (ev_str [49] rfl (by decide) (by decide))) (Ev.rv ev_int))) (Ev.rv (ev_var (R := rI) (x := m_1) rfl)))))) (Ev.rv (ev_op o_mulS (Ev.rv (ev_str [63] rfl (by decide) (by decide))) (Ev.rv (ev_var (R := rI) (x := m_1) rfl))))) (evas_cons (ev_op o_addS (Ev.rv (ev_op o_addS (Ev.rv (ev_op o_mulS (Ev.rv (ev_str [49] rfl (by decide) (by decide))) (Ev.rv (ev_var (R := rI) (x := m_1) rfl)))) (Ev.rv (ev_op o_mulS (Ev.rv (ev_op o_mulS (Ev.rv (ev_str [48] rfl (by decide) (by decide))) (Ev.rv ev_int))) (Ev.rv (ev_var (R := rI) (x := m_1) rfl)))))) (Ev.rv (ev_op o_mulS (Ev.rv (ev_str [63] rfl (by decide) (by decide))) (Ev.rv (ev_var (R := rI) (x := m_1) rfl))))) (evas_cons (ev_op o_addS (Ev.rv (ev_op o_mulS (Ev.rv (ev_op o_mulS (Ev.rv (ev_str [49] rfl (by decide) (by decide))) (Ev.rv ev_int))) (Ev.rv (ev_var (R := rI) (x := m_1) rfl)))) (Ev.rv (ev_op o_mulS (Ev.rv (ev_str [63] rfl (by decide) (by decide))) (Ev.rv (ev_var (R := rI) (x := m_1) rfl))))) (evas_nil (R := rS))))))) fun due_1 => (bd_append (S := rB) (xs := (found_1 ++ [x_21])) rfl (ev_op o_eq (Ev.nv (ev_call (eva_cons (ev_var (R := rI) (x := length_1) rfl) (eva_cons (ev_var (R := (rT (rP rI rI))) (x := steps_1) rfl) eva_nil)))) (Ev.rv (ev_var (R := (rL rS)) (x := due_1) rfl))) fun x_27 => (bd_append (S := rB) (xs := ((found_1 ++ [x_21]) ++ [x_27])) rfl (ev_op o_eq (Ev.rv (ev_call (eva_cons (ev_var (R := rI) (x := length_1) rfl) (eva_cons (ev_var (R := (rT (rP rI rI))) (x := steps_1) rfl) eva_nil)))) (Ev.rv (ev_op o_mul (Ev.rv ev_int) (Ev.rv (ev_call (eva_cons (ev_var (R := rI) (x := m_1) rfl) eva_nil)))))) fun x_31 => (bd_append (S := rB) (xs := (((found_1 ++ [x_21]) ++ [x_27]) ++ [x_31])) rfl (ev_op o_eq (Ev.rv (ev_call (eva_cons (ev_var (R := rI) (x := length_1) rfl) (eva_cons (ev_var (R := (rT (rP rI rI))) (x := steps_1) rfl) (eva_cons (ev_op o_atL (Ev.rv (ev_var (R := (rL rS)) (x := due_1) rfl)) (Ev.rv ev_int)) eva_nil))))) (Ev.rv (ev_op o_mul (Ev.rv (ev_op o_sub (Ev.rv (ev_call (eva_cons (ev_op o_mul (Ev.rv ev_int) (Ev.rv (ev_var (R := rI) (x := m_1) rfl))) eva_nil))) (Ev.rv ev_int))) (Ev.rv (ev_call (eva_cons (ev_var (R := rI) (x := m_1) rfl) eva_nil)))))) fun x_37 => (bd_append (S := rB) (xs := ((((found_1 ++ [x_21]) ++ [x_27]) ++ [x_31]) ++ [x_37])) rfl (ev_op o_eq (Ev.rv (ev_call (eva_cons (ev_var (R := rI) (x := length_1) rfl) (eva_cons (ev_var (R := (rT (rP rI rI))) (x := steps_1) rfl) (eva_cons (ev_tupL (evas_cons (ev_str [99, 108, 101, 97, 114] rfl (by decide) (by decide)) (evas_cons (ev_str [115, 101, 116] rfl (by decide) (by decide)) (evas_nil (R := rS))))) eva_nil))))) (Ev.rv (ev_call (eva_cons (ev_op o_mul (Ev.rv ev_int) (Ev.rv (ev_var (R := rI) (x := m_1) rfl))) eva_nil)))) fun x_44 => (bd_append (S := rB) (xs := (((((found_1 ++ [x_21]) ++ [x_27]) ++ [x_31]) ++ [x_37]) ++ [x_44])) rfl (ev_op (o_eq (S := (rO rS))) (Ev.rv (ev_call (eva_cons (ev_var (R := rI) (x := length_1) rfl) (eva_cons (ev_var (R := (rT (rP rI rI))) (x := steps_1) rfl) (eva_cons (ev_tupL (evas_cons (ev_str [99, 108, 101, 97, 114] rfl (by decide) (by decide)) (evas_cons (ev_str [115, 101, 116] rfl (by decide) (by decide)) (evas_nil (R := rS))))) eva_nil))))) (Ev.rv (Ev.mkO (R := rS) (h := fun _ => ⟨rfl, rfl⟩) (ev_op o_addS (Ev.rv (ev_op o_mulS (Ev.rv (ev_op o_mulS (Ev.rv (ev_str [49] rfl (by decide) (by decide))) (Ev.rv ev_int))) (Ev.rv (ev_var (R := rI) (x := m_1) rfl)))) (Ev.rv (ev_op o_mulS (Ev.rv (ev_op o_mulS (Ev.rv (ev_str [48] rfl (by decide) (by decide))) (Ev.rv ev_int))) (Ev.rv (ev_var (R := rI) (x := m_1) rfl)))))))) fun x_50 => (bd_parFF (ev_mkM (ev_var (R := rI) (x := length_1) rfl) (ev_slice o_cutT (Ev.rv (ev_var (R := (rT (rP rI rI))) (x := steps_1) rfl)) evp_none (evp_some ev_int))) (ev_mkM (ev_var (R := rI) (x := length_1) rfl) (ev_slice o_cutT (Ev.rv (ev_var (R := (rT (rP rI rI))) (x := steps_1) rfl)) (evp_some ev_int) evp_none)) fun one_1 other_1 => (bd_set (ev_callM (ev_addM (ev_var (R := (rM C)) (x := one_1) rfl) (ev_var (R := (rM C)) (x := other_1) rfl)) (ev_op o_addS (Ev.rv (ev_op o_mulS (Ev.rv (ev_op o_mulS (Ev.rv (ev_str [49] rfl (by decide) (by decide))) (Ev.rv ev_int))) (Ev.rv (ev_var (R := rI) (x := m_1) rfl)))) (Ev.rv (ev_op o_mulS (Ev.rv (ev_op o_mulS (Ev.rv (ev_str [48] rfl (by decide) (by decide))) (Ev.rv ev_int))) (Ev.rv (ev_var (R := rI) (x := m_1) rfl)))))) fun result_1 => (bd_append (S := rB) (xs := ((((((found_1 ++ [x_21]) ++ [x_27]) ++ [x_31]) ++ [x_37]) ++ [x_44]) ++ [x_50])) rfl (ev_op o_eq (Ev.rv (ev_var (R := rS) (x := result_1) rfl)) (Ev.rv (ev_op o_addS (Ev.rv (ev_op o_addS (Ev.rv (ev_op o_mulS (Ev.rv (ev_str [48] rfl (by decide) (by decide))) (Ev.rv (ev_var (R := rI) (x := m_1) rfl)))) (Ev.rv (ev_op o_mulS (Ev.rv (ev_op o_mulS (Ev.rv (ev_str [49] rfl (by decide) (by decide))) (Ev.rv ev_int))) (Ev.rv (ev_var (R := rI) (x := m_1) rfl)))))) (Ev.rv (ev_op o_mulS (Ev.rv (ev_str [48] rfl (by decide) (by decide))) (Ev.rv (ev_var (R := rI) (x := m_1) rfl))))))) fun x_51 => (bd_append (S := rB) (xs := (((((((found_1 ++ [x_21]) ++ [x_27]) ++ [x_31]) ++ [x_37]) ++ [x_44]) ++ [x_50]) ++ [x_51])) rfl (ev_andV (ev_neM (ev_addM (ev_var (R := (rM C)) (x := one_1) rfl) (ev_var (R := (rM C)) (x := other_1) rfl)) (ev_addM (ev_var (R := (rM C)) (x := other_1) rfl) (ev_var (R := (rM C)) (x := one_1) rfl))) (ev_eqM (ev_addM (ev_addM (ev_var (R := (rM C)) (x := one_1) rfl) (ev_var (R := (rM C)) (x := one_1) rfl)) (ev_var (R := (rM C)) (x := one_1) rfl)) (ev_var (R := (rM C)) (x := one_1) rfl))) fun x_52 => (bd_ret (ev_op o_catL (ev_varO (R := rB) (xs := ((((((((found_1 ++ [x_21]) ++ [x_27]) ++ [x_31]) ++ [x_37]) ++ [x_44]) ++ [x_50]) ++ [x_51]) ++ [x_52])) rfl) (Ev.nv (ev_lst (evas_cons (ev_op o_eq (Ev.nv (ev_call (eva_cons (ev_var (R := rI) (x := length_1) rfl) (eva_cons (ev_var (R := (rT (rP rI rI))) (x := steps_1) rfl) eva_nil)))) (Ev.nv (ev_lst (evas_cons (ev_str [98, 111, 116, 104] rfl (by decide) (by decide)) (evas_cons (ev_str [98, 111, 116, 104] rfl (by decide) (by decide)) (evas_nil (R := rS))))))) (evas_nil (R := rB)))))))))))))))))))))
abbrev st__law_more_right : Stmt := topS 36
theorem sc__law_more_right : FnScope ["m", "length", "twice", "found", "steps"] ["m"] (defScope st__law_more_right) := ⟨rfl, rfl, rfl, by decide +kernel, rfl, by decide +kernel, by decide +kernel⟩
theorem ok__law_more_right {f : Addr} {fd : FuncData} (B : Blt mg) (Fn : Fun K "_law_more_right" "_law_more_right" st__law_more_right f fd) (D_effect_rows : Df P w K mg base "effect_rows" 5 ["length", "script"] (spD K (aC rI (aC (rT (rP rI rI)) aN)) (fun g => m_effect_rows g.1 g.2.1) .n (rL (rT rS)))) (D_first_parting : Df P w K mg base "first_parting" 5 ["length", "first", "second"] (spD K (aC rI (aC (rT (rP rI rI)) (aC (rT (rP rI rI)) aN))) (fun g => m_first_parting g.1 g.2.1 g.2.2.1) .r (rO rS))) (D_needless : Df P w K mg base "needless" 6 ["length", "script"] (spD K (aC rI (aC (rT (rP rI rI)) aN)) (fun g => m_needless g.1 g.2.1) .n (rL rI))) (D_outcomes : Df P w K mg base "outcomes" 5 ["length", "script"] (spD K (aC rI (aC (rT (rP rI rI)) aN)) (fun g => m_outcomes g.1 g.2.1) .n (rL rS))) :
    FnOk P w K mg base CX0 7 f fd ["m"] (spD K (aC rI aN) (fun g => m__law_more_right g.1) .n (rL rB)) := by
  refine Fn.ok sc__law_more_right (spD_len rfl) (fun cdv A outer s H vs Q E hr h => ?_)
  refine ⟨_, (pss_cons (ps_set (i := 1) sc__law_more_right.nd rfl (Or.inl rfl) (pe_op op_mul pe_int (pv 0))) (pss_cons (ps_set (i := 2) sc__law_more_right.nd rfl (Or.inl rfl) (pe_tup (pa_cons (pe_tup (pa_cons pe_int (pa_cons (pe_op op_mul pe_int (pv 0)) pa_nil))) (pa_cons (pe_tup (pa_cons pe_int (pa_cons (pe_op op_mul pe_int (pv 0)) pa_nil))) pa_nil)))) (pss_cons (ps_set (i := 3) sc__law_more_right.nd rfl (Or.inl rfl) (pe_lst (pa_cons (pe_cmpR (r := rEqD K) (op_eqD hr.units) (pe_callD D_effect_rows (hr.mono (by decide)) (by rfl) (pa_cons (pv 1) (pa_cons (pv 2) pa_nil))) (pe_lst (pa_cons (pe_tup (pa_cons pe_str (pa_cons pe_str pa_nil))) (pa_cons (pe_tup (pa_cons pe_str (pa_cons pe_str pa_nil))) pa_nil))) (nomark _)) pa_nil))) (pss_cons (ps_expr (pe_bm PySem.F.plainAttrs_list PySem.F.slot_list_append PySem.F.type_list_append mt_append (pv 3) (pa_cons (pe_cmpR (r := rEqD K) (op_eqD hr.units) (pe_callD D_first_parting (hr.mono (by decide)) (by rfl) (pa_cons (pv 1) (pa_cons (pv 2) (pa_cons (pe_tup pa_nil) pa_nil)))) (pe_op op_add_str (pe_op op_add_str (pe_op op_mulS pe_str (pe_op op_sub (pe_op op_mul pe_int (pv 0)) pe_int)) pe_str) (pe_op op_mulS pe_str (pv 0))) (nomark _)) pa_nil))) (pss_cons (ps_expr (pe_bm PySem.F.plainAttrs_list PySem.F.slot_list_append PySem.F.type_list_append mt_append (pv 3) (pa_cons (pe_cmp (pc_isN (pe_callD D_first_parting (hr.mono (by decide)) (by rfl) (pa_cons (pv 1) (pa_cons (pe_slice (r := rSlA K) sl_tupA (pv 2) po_none (po_some pe_int)) (pa_cons (pe_op (r := rCatA K) op_catA (pv 2) (pe_slice (r := rSlA K) sl_tupA (pv 2) po_none (po_some pe_int))) pa_nil)))))) pa_nil))) (pss_cons (ps_expr (pe_bm PySem.F.plainAttrs_list PySem.F.slot_list_append PySem.F.type_list_append mt_append (pv 3) (pa_cons (pe_cmpR (r := rEqD K) (op_eqD hr.units) (pe_callD D_first_parting (hr.mono (by decide)) (by rfl) (pa_cons (pv 1) (pa_cons (pe_slice (r := rSlA K) sl_tupA (pv 2) po_none (po_some pe_int)) (pa_cons (pe_tup (pa_cons (pe_tup (pa_cons pe_int (pa_cons (pv 1) pa_nil))) pa_nil)) pa_nil)))) (pe_op op_mulS pe_str (pv 1)) (nomark _)) pa_nil))) (pss_cons (ps_set (i := 4) sc__law_more_right.nd rfl (Or.inl rfl) (pe_tup (pa_cons (pe_tup (pa_cons (pv 0) (pa_cons (pe_op op_mul pe_int (pv 0)) pa_nil))) (pa_cons (pe_tup (pa_cons pe_int (pa_cons (pv 1) pa_nil))) (pa_cons (pe_tup (pa_cons pe_int (pa_cons (pv 0) pa_nil))) (pa_cons (pe_tup (pa_cons pe_int (pa_cons (pv 1) pa_nil))) pa_nil)))))) (pss_cons (ps_ret (pe_op (r := rCatL K) op_catL (pv 3) (pe_lst (pa_cons (pe_and (pe_cmpR (r := rEqD K) (op_eqD hr.units) (pe_callD D_needless (hr.mono (by decide)) (by rfl) (pa_cons (pv 1) (pa_cons (pv 4) pa_nil))) (pe_lst (pa_cons pe_int pa_nil)) (nomark _)) (pe_one (pe_cmpR (r := rEqD K) (op_eqD hr.units) (pe_callB call_len_seq (by rfl) B.b_len (by decide +kernel) (pa_cons (pe_callD D_outcomes (hr.mono (by decide)) (by rfl) (pa_cons (pv 1) (pa_cons (pv 4) pa_nil))) pa_nil)) pe_int (nomark _)))) pa_nil)))) pss_nil)))))))), ?_⟩
  exact run_body (N := ["m", "length", "twice", "found", "steps"]) (out := fun _ => [Sl.j, Sl.j, Sl.j, Sl.j, Sl.j]) h 4 rfl fun F0 H0 g =>
    (match g with
    | (m_1, _) => (bd_set (ev_op o_mul (Ev.rv ev_int) (Ev.rv (ev_var (R := rI) (x := m_1) rfl))) fun length_1 => (bd_set (ev_tupL (evas_cons (ev_pair ev_int (ev_op o_mul (Ev.rv ev_int) (Ev.rv (ev_var (R := rI) (x := m_1) rfl)))) (evas_cons (ev_pair ev_int (ev_op o_mul (Ev.rv ev_int) (Ev.rv (ev_var (R := rI) (x := m_1) rfl)))) (evas_nil (R := (rP rI rI)))))) fun twice_1 => (bd_setO (ev_lst (evas_cons (ev_op o_eq (Ev.nv (ev_call (eva_cons (ev_var (R := rI) (x := length_1) rfl) (eva_cons (ev_var (R := (rT (rP rI rI))) (x := twice_1) rfl) eva_nil)))) (Ev.nv (ev_lst (evas_cons (ev_tupL (evas_cons (ev_str [99, 108, 101, 97, 114] rfl (by decide) (by decide)) (evas_cons (ev_str [115, 101, 116] rfl (by decide) (by decide)) (evas_nil (R := rS))))) (evas_cons (ev_tupL (evas_cons (ev_str [115, 101, 116] rfl (by decide) (by decide)) (evas_cons (ev_str [99, 108, 101, 97, 114] rfl (by decide) (by decide)) (evas_nil (R := rS))))) (evas_nil (R := (rT rS)))))))) (evas_nil (R := rB)))) fun found_1 => (bd_append (S := rB) (xs := found_1) rfl (ev_op (o_eq (S := (rO rS))) (Ev.rv (ev_call (eva_cons (ev_var (R := rI) (x := length_1) rfl) (eva_cons (ev_var (R := (rT (rP rI rI))) (x := twice_1) rfl) (eva_cons (ev_tupL (evas_nil (R := (rP rI rI)))) eva_nil))))) (Ev.rv (Ev.mkO (R := rS) (h := fun _ => ⟨rfl, rfl⟩) (ev_op o_addS (Ev.rv (ev_op o_addS (Ev.rv (ev_op o_mulS (Ev.rv (ev_str [48] rfl (by decide) (by decide))) (Ev.rv (ev_op o_sub (Ev.rv (ev_op o_mul (Ev.rv ev_int) (Ev.rv (ev_var (R := rI) (x := m_1) rfl)))) (Ev.rv ev_int))))) (Ev.rv (ev_str [49] rfl (by decide) (by decide))))) (Ev.rv (ev_op o_mulS (Ev.rv (ev_str [48] rfl (by decide) (by decide))) (Ev.rv (ev_var (R := rI) (x := m_1) rfl)))))))) fun x_15 => (bd_append (S := rB) (xs := (found_1 ++ [x_15])) rfl (ev_isN (ev_call (eva_cons (ev_var (R := rI) (x := length_1) rfl) (eva_cons (ev_slice o_cutT (Ev.rv (ev_var (R := (rT (rP rI rI))) (x := twice_1) rfl)) evp_none (evp_some ev_int)) (eva_cons (ev_op o_catT (Ev.rv (ev_var (R := (rT (rP rI rI))) (x := twice_1) rfl)) (Ev.rv (ev_slice o_cutT (Ev.rv (ev_var (R := (rT (rP rI rI))) (x := twice_1) rfl)) evp_none (evp_some ev_int)))) eva_nil))))) fun x_19 => (bd_append (S := rB) (xs := ((found_1 ++ [x_15]) ++ [x_19])) rfl (ev_op (o_eq (S := (rO rS))) (Ev.rv (ev_call (eva_cons (ev_var (R := rI) (x := length_1) rfl) (eva_cons (ev_slice o_cutT (Ev.rv (ev_var (R := (rT (rP rI rI))) (x := twice_1) rfl)) evp_none (evp_some ev_int)) (eva_cons (ev_tupL (evas_cons (ev_pair ev_int (ev_var (R := rI) (x := length_1) rfl)) (evas_nil (R := (rP rI rI))))) eva_nil))))) (Ev.rv (Ev.mkO (R := rS) (h := fun _ => ⟨rfl, rfl⟩) (ev_op o_mulS (Ev.rv (ev_str [48] rfl (by decide) (by decide))) (Ev.rv (ev_var (R := rI) (x := length_1) rfl)))))) fun x_24 => (bd_set (ev_tupL (evas_cons (ev_pair (ev_var (R := rI) (x := m_1) rfl) (ev_op o_mul (Ev.rv ev_int) (Ev.rv (ev_var (R := rI) (x := m_1) rfl)))) (evas_cons (ev_pair ev_int (ev_var (R := rI) (x := length_1) rfl)) (evas_cons (ev_pair ev_int (ev_var (R := rI) (x := m_1) rfl)) (evas_cons (ev_pair ev_int (ev_var (R := rI) (x := length_1) rfl)) (evas_nil (R := (rP rI rI)))))))) fun steps_1 => (bd_ret (ev_op o_catL (ev_varO (R := rB) (xs := (((found_1 ++ [x_15]) ++ [x_19]) ++ [x_24])) rfl) (Ev.nv (ev_lst (evas_cons (ev_andV (ev_op o_eq (Ev.nv (ev_call (eva_cons (ev_var (R := rI) (x := length_1) rfl) (eva_cons (ev_var (R := (rT (rP rI rI))) (x := steps_1) rfl) eva_nil)))) (Ev.nv (ev_lst (evas_cons ev_int (evas_nil (R := rI)))))) (ev_op o_eq (Ev.rv (ev_cb1 o_lenL (Ev.nv (ev_call (eva_cons (ev_var (R := rI) (x := length_1) rfl) (eva_cons (ev_var (R := (rT (rP rI rI))) (x := steps_1) rfl) eva_nil)))))) (Ev.rv ev_int))) (evas_nil (R := rB)))))))))))))))
abbrev st_law : Stmt := topS 37
theorem sc_law : FnScope ["script", "digits", "far", "digit"] ["script"] (defScope st_law) := ⟨rfl, rfl, rfl, by decide +kernel, rfl, by decide +kernel, by decide +kernel⟩
theorem ok_law {f : Addr} {fd : FuncData} (B : Blt mg) (Fn : Fun K "law" "law" st_law f fd) (D__law_digits : Df P w K mg base "_law_digits" 2 ["script", "index", "count", "base"] (spD K (aS (aC rI (aC rI (aC rI aN)))) (fun g => m__law_digits g.1 g.2.1 g.2.2.1 g.2.2.2.1) .n (rL rI))) (D_count_with : Df P w K mg base "count_with" 5 ["length", "script", "row"] (spD K (aC rI (aC (rT (rP rI rI)) (aC (rT rS) aN))) (fun g => m_count_with g.1 g.2.1 g.2.2.1) .r rI)) (D_effect_rows : Df P w K mg base "effect_rows" 5 ["length", "script"] (spD K (aC rI (aC (rT (rP rI rI)) aN)) (fun g => m_effect_rows g.1 g.2.1) .n (rL (rT rS)))) (D__law_two_right : Df P w K mg base "_law_two_right" 8 ["m"] (spD K (aC rI aN) (fun g => m__law_two_right g.1) .n (rL rB))) (D__law_more_right : Df P w K mg base "_law_more_right" 7 ["m"] (spD K (aC rI aN) (fun g => m__law_more_right g.1) .n (rL rB))) :
    FnOk P w K mg base CX0 9 f fd ["script"] (spD K (aS aN) (fun g => m_law g.1) .r rB) := by
  refine Fn.ok sc_law (spD_len rfl) (fun cdv A outer s H vs Q E hr h => ?_)
  refine ⟨_, (pss_cons (ps_set (i := 1) sc_law.nd rfl (Or.inl rfl) (pe_callD D__law_digits (hr.mono (by decide)) (by rfl) (pa_cons (pv 0) (pa_cons pe_int (pa_cons pe_int (pa_cons pe_int pa_nil)))))) (pss_cons (ps_for PassesOwn.never rfl (pi_list (pe_op (r := rCatL K) op_catL (pe_lst (pa_cons pe_int pa_nil)) (pe_lc (own := [("digit", 3)]) (g := (gName 3)) rfl sc_law.nd (pi_list (pv 1)) (blkOk_by (N := ["script", "digits", "far", "digit"]) (sc := defScope st_law) (by decide +kernel)) (fun _ _ _ _ _ => (pg_name (i := 3) sc_law.nd rfl (Or.inl rfl))) (fun _ _ _ _ _ => pts_nil) (fun _ _ _ _ _ => (pe_op op_add pe_int (pv 3)))))) (pg_name (i := 2) sc_law.nd rfl (Or.inl rfl)) (pss_cons (ps_if (PW.pt (pw_or (pt_cmpR (r := rIn K false) op_in_seq pe_bl (pe_callD D__law_two_right (hr.mono (by decide)) (by rfl) (pa_cons (pv 2) pa_nil)) (by with_unfolding_all rfl)) (pw_or1 (pt_cmpR (r := rIn K false) op_in_seq pe_bl (pe_callD D__law_more_right (hr.mono (by decide)) (by rfl) (pa_cons (pv 2) pa_nil)) (by with_unfolding_all rfl))))) (pss_cons (ps_ret pe_bl) pss_nil) pss_nil) pss_nil)) (pss_cons (ps_if (pt_cmpR (r := rNeD K) (op_neD hr.units) (pe_ix (r := rIxL K) ix_list (pe_callD D_effect_rows (hr.mono (by decide)) (by rfl) (pa_cons pe_int (pa_cons (pe_tup (pa_cons (pe_tup (pa_cons pe_int (pa_cons pe_int pa_nil))) (pa_cons (pe_tup (pa_cons pe_int (pa_cons pe_int pa_nil))) (pa_cons (pe_tup (pa_cons pe_int (pa_cons pe_int pa_nil))) pa_nil)))) pa_nil))) (pe_un un_neg pe_int) (fun _ _ => rfl)) (pe_tup (pa_cons pe_str (pa_cons pe_str (pa_cons pe_str pa_nil)))) (nomark _)) (pss_cons (ps_ret pe_bl) pss_nil) pss_nil) (pss_cons (ps_ret (pe_cmpR (r := rEqD K) (op_eqD hr.units) (pe_callD D_count_with (hr.mono (by decide)) (by rfl) (pa_cons pe_int (pa_cons (pe_tup (pa_cons (pe_tup (pa_cons pe_int (pa_cons pe_int pa_nil))) pa_nil)) (pa_cons (pe_tup (pa_cons pe_str pa_nil)) pa_nil)))) pe_int (nomark _))) pss_nil)))), ?_⟩
  exact run_body (N := ["script", "digits", "far", "digit"]) (out := fun _ => [Sl.j, Sl.j, Sl.j, Sl.j]) h 3 rfl fun F0 H0 g =>
    (match g with
    | (script_1, _) => (bd_set (Ev.nr (ev_call (eva_consS (ns := script_1) rfl (eva_cons ev_int (eva_cons ev_int (eva_cons ev_int eva_nil)))))) fun digits_1 => (bd_for (Γl := fun s_1 : Unit => [Sl.s script_1, Sl.f (rL rI) digits_1, Sl.j, Sl.j]) () (ei_list (Ev.nr (ev_op o_catL (Ev.nv (ev_lst (evas_cons ev_int (evas_nil (R := rI))))) (Ev.nv (ev_lc (ei_list (ev_var (R := (rL rI)) (x := digits_1) rfl)) (tg_name 3) (fun x_4 => (ev_op o_add (Ev.rv ev_int) (Ev.rv (ev_var (R := rI) (x := x_4) rfl))))))))) (tg_name 2) (Le.eq (Le.eq (Le.eq (Le.eq Le.nil)))) (fun x_6 s_1 => (bd_seq (out1 := fun s_2 : Unit => [Sl.s script_1, Sl.f (rL rI) digits_1, Sl.f rI x_6, Sl.j]) (bd_if (evt_or (evt_test (ev_op o_inBL (Ev.rv ev_bl) (Ev.nv (ev_call (eva_cons (ev_var (R := rI) (x := x_6) rfl) eva_nil))))) (evt_test (ev_op o_inBL (Ev.rv ev_bl) (Ev.nv (ev_call (eva_cons (ev_var (R := rI) (x := x_6) rfl) eva_nil)))))) (bd_ret ev_bl) (bd_next (b := ()) (Le.eq (Le.eq (Le.eq (Le.eq Le.nil)))))) fun s_2 => (bd_next (b := ()) (Le.eq (Le.eq (Le.j (Le.eq Le.nil))))))) (fun s_1 => (bd_seq (out1 := fun s_3 : Unit => [Sl.s script_1, Sl.f (rL rI) digits_1, Sl.j, Sl.j]) (bd_if (evt_test (ev_op o_ne (Ev.rv (ev_op o_atL (Ev.nv (ev_call (eva_cons ev_int (eva_cons (ev_tupL (evas_cons (ev_pair ev_int ev_int) (evas_cons (ev_pair ev_int ev_int) (evas_cons (ev_pair ev_int ev_int) (evas_nil (R := (rP rI rI))))))) eva_nil)))) (Ev.rv (ev_un o_neg (Ev.rv ev_int))))) (Ev.rv (ev_tupL (evas_cons (ev_str [115, 101, 116] rfl (by decide) (by decide)) (evas_cons (ev_str [115, 101, 116] rfl (by decide) (by decide)) (evas_cons (ev_str [99, 108, 101, 97, 114] rfl (by decide) (by decide)) (evas_nil (R := rS))))))))) (bd_ret ev_bl) (bd_next (b := ()) (Le.eq (Le.eq (Le.eq (Le.eq Le.nil)))))) fun s_3 => (bd_ret (ev_op o_eq (Ev.rv (ev_call (eva_cons ev_int (eva_cons (ev_tupL (evas_cons (ev_pair ev_int ev_int) (evas_nil (R := (rP rI rI))))) (eva_cons (ev_tupL (evas_cons (ev_str [115, 101, 116] rfl (by decide) (by decide)) (evas_nil (R := rS)))) eva_nil))))) (Ev.rv ev_int))))))))
end
theorem all_mk {l : PySem.W.OpenLaw} {w : World} {K : PySem.W.Frag} {h : Heap} {mg : Str → Option Value} {fa : Addr} (X : K.In h) (G : h.Ns mainGlobals mg) (hfa : mg "law" = some (.ref fa))
    (hm : ∀ ns : List Int, ns.length ≤ 63 → m_law ns = some true)
    {C fI : Addr} {odI anI : Option Addr} {slI : Array (Option Value)} {ocI kVI dcI pmI cdI ctI : Value}
    (hCl : PySem.W.nsIn K mainGlobals "Macro" = some (some (.ref C))) (aI : PySem.W.findIn K (.ref C) "__init__" = some (some (.ref fI))) (iI : PySem.W.isFn K (.ref fI) = true)
    (lI : K.lookup fI = some ⟨ocI, odI, .func (PySem.W.fnOf "__init__" "Macro.__init__" (defArgs st_Macro_init) (defBody st_Macro_init) (defScope st_Macro_init) .none kVI dcI pmI anI cdI ctI), slI⟩) (cI : PySem.W.codeIn K cdI "Macro.__init__" = true) (kI : PySem.W.keepIn K (.ref fI) = true)
    (pg : PySem.W.plainGet K C Str.empty = true) (hd : PySem.W.hasDictIn K C = true) (po : PySem.W.plainOver K C = true) (sa : PySem.W.findIn K (.ref C) "__setattr__" = some (some (.builtin "object.__setattr__"))) (mk : PySem.W.makesIn K C = true) (kc : PySem.W.keepIn K (.ref C) = true)
    (nL : PySem.W.findIn K (.ref C) "length" = some none) (nS : PySem.W.findIn K (.ref C) "script" = some none)
    (ha : PySem.W.findIn K (.ref C) "__class__" = some (some (.builtin "object.__class__"))) (hn : PySem.W.specialIn K (.builtin "object.__class__") "__get__" = some (some (.builtin "getset_descriptor.__get__"))) (ht : PySem.W.takesIn K (.builtin "object.__class__") = some true)
    (hmr : PySem.W.mroIn K C (.type "object") = some true) (hsf : PySem.W.selfFirst K C = true) (hne : PySem.W.findIn K (.ref C) "__ne__" = some (some (.builtin "object.__ne__")))
    {od0 an0 : Option Addr} {sl0 : Array (Option Value)} {oc0 kV0 dc0 pm0 cd0 ct0 : Value} {f0 : Addr}
    (a0 : PySem.W.nsIn K mainGlobals "cuts" = some (some (.ref f0))) (l0 : K.lookup f0 = some ⟨oc0, od0, .func (PySem.W.fnOf "cuts" "cuts" (defArgs st_cuts) (defBody st_cuts) (defScope st_cuts) .none kV0 dc0 pm0 an0 cd0 ct0), sl0⟩) (c0 : PySem.W.codeIn K cd0 "cuts" = true) (k0 : PySem.W.keepIn K (.ref f0) = true)
    {od1 an1 : Option Addr} {sl1 : Array (Option Value)} {oc1 kV1 dc1 pm1 cd1 ct1 : Value} {f1 : Addr}
    (a1 : PySem.W.nsIn K mainGlobals "blocks" = some (some (.ref f1))) (l1 : K.lookup f1 = some ⟨oc1, od1, .func (PySem.W.fnOf "blocks" "blocks" (defArgs st_blocks) (defBody st_blocks) (defScope st_blocks) .none kV1 dc1 pm1 an1 cd1 ct1), sl1⟩) (c1 : PySem.W.codeIn K cd1 "blocks" = true) (k1 : PySem.W.keepIn K (.ref f1) = true)
    {od2 an2 : Option Addr} {sl2 : Array (Option Value)} {oc2 kV2 dc2 pm2 cd2 ct2 : Value} {f2 : Addr}
    (a2 : PySem.W.nsIn K mainGlobals "within" = some (some (.ref f2))) (l2 : K.lookup f2 = some ⟨oc2, od2, .func (PySem.W.fnOf "within" "within" (defArgs st_within) (defBody st_within) (defScope st_within) .none kV2 dc2 pm2 an2 cd2 ct2), sl2⟩) (c2 : PySem.W.codeIn K cd2 "within" = true) (k2 : PySem.W.keepIn K (.ref f2) = true)
    {od3 an3 : Option Addr} {sl3 : Array (Option Value)} {oc3 kV3 dc3 pm3 cd3 ct3 : Value} {f3 : Addr}
    (a3 : PySem.W.nsIn K mainGlobals "painted" = some (some (.ref f3))) (l3 : K.lookup f3 = some ⟨oc3, od3, .func (PySem.W.fnOf "painted" "painted" (defArgs st_painted) (defBody st_painted) (defScope st_painted) .none kV3 dc3 pm3 an3 cd3 ct3), sl3⟩) (c3 : PySem.W.codeIn K cd3 "painted" = true) (k3 : PySem.W.keepIn K (.ref f3) = true)
    {od4 an4 : Option Addr} {sl4 : Array (Option Value)} {oc4 kV4 dc4 pm4 cd4 ct4 : Value} {f4 : Addr}
    (a4 : PySem.W.nsIn K mainGlobals "stepped" = some (some (.ref f4))) (l4 : K.lookup f4 = some ⟨oc4, od4, .func (PySem.W.fnOf "stepped" "stepped" (defArgs st_stepped) (defBody st_stepped) (defScope st_stepped) .none kV4 dc4 pm4 an4 cd4 ct4), sl4⟩) (c4 : PySem.W.codeIn K cd4 "stepped" = true) (k4 : PySem.W.keepIn K (.ref f4) = true)
    {od5 an5 : Option Addr} {sl5 : Array (Option Value)} {oc5 kV5 dc5 pm5 cd5 ct5 : Value} {f5 : Addr}
    (a5 : PySem.W.nsIn K mainGlobals "paths_from" = some (some (.ref f5))) (l5 : K.lookup f5 = some ⟨oc5, od5, .func (PySem.W.fnOf "paths_from" "paths_from" (defArgs st_paths_from) (defBody st_paths_from) (defScope st_paths_from) .none kV5 dc5 pm5 an5 cd5 ct5), sl5⟩) (c5 : PySem.W.codeIn K cd5 "paths_from" = true) (k5 : PySem.W.keepIn K (.ref f5) = true)
    {od6 an6 : Option Addr} {sl6 : Array (Option Value)} {oc6 kV6 dc6 pm6 cd6 ct6 : Value} {f6 : Addr}
    (a6 : PySem.W.nsIn K mainGlobals "all_paths" = some (some (.ref f6))) (l6 : K.lookup f6 = some ⟨oc6, od6, .func (PySem.W.fnOf "all_paths" "all_paths" (defArgs st_all_paths) (defBody st_all_paths) (defScope st_all_paths) .none kV6 dc6 pm6 an6 cd6 ct6), sl6⟩) (c6 : PySem.W.codeIn K cd6 "all_paths" = true) (k6 : PySem.W.keepIn K (.ref f6) = true)
    {od7 an7 : Option Addr} {sl7 : Array (Option Value)} {oc7 kV7 dc7 pm7 cd7 ct7 : Value} {f7 : Addr}
    (a7 : PySem.W.nsIn K mainGlobals "effect_rows" = some (some (.ref f7))) (l7 : K.lookup f7 = some ⟨oc7, od7, .func (PySem.W.fnOf "effect_rows" "effect_rows" (defArgs st_effect_rows) (defBody st_effect_rows) (defScope st_effect_rows) .none kV7 dc7 pm7 an7 cd7 ct7), sl7⟩) (c7 : PySem.W.codeIn K cd7 "effect_rows" = true) (k7 : PySem.W.keepIn K (.ref f7) = true)
    {od8 an8 : Option Addr} {sl8 : Array (Option Value)} {oc8 kV8 dc8 pm8 cd8 ct8 : Value} {f8 : Addr}
    (a8 : PySem.W.nsIn K mainGlobals "least_pattern" = some (some (.ref f8))) (l8 : K.lookup f8 = some ⟨oc8, od8, .func (PySem.W.fnOf "least_pattern" "least_pattern" (defArgs st_least_pattern) (defBody st_least_pattern) (defScope st_least_pattern) .none kV8 dc8 pm8 an8 cd8 ct8), sl8⟩) (c8 : PySem.W.codeIn K cd8 "least_pattern" = true) (k8 : PySem.W.keepIn K (.ref f8) = true)
    {od9 an9 : Option Addr} {sl9 : Array (Option Value)} {oc9 kV9 dc9 pm9 cd9 ct9 : Value} {f9 : Addr}
    (a9 : PySem.W.nsIn K mainGlobals "first_with" = some (some (.ref f9))) (l9 : K.lookup f9 = some ⟨oc9, od9, .func (PySem.W.fnOf "first_with" "first_with" (defArgs st_first_with) (defBody st_first_with) (defScope st_first_with) .none kV9 dc9 pm9 an9 cd9 ct9), sl9⟩) (c9 : PySem.W.codeIn K cd9 "first_with" = true) (k9 : PySem.W.keepIn K (.ref f9) = true)
    {od10 an10 : Option Addr} {sl10 : Array (Option Value)} {oc10 kV10 dc10 pm10 cd10 ct10 : Value} {f10 : Addr}
    (a10 : PySem.W.nsIn K mainGlobals "doubled" = some (some (.ref f10))) (l10 : K.lookup f10 = some ⟨oc10, od10, .func (PySem.W.fnOf "doubled" "doubled" (defArgs st_doubled) (defBody st_doubled) (defScope st_doubled) .none kV10 dc10 pm10 an10 cd10 ct10), sl10⟩) (c10 : PySem.W.codeIn K cd10 "doubled" = true) (k10 : PySem.W.keepIn K (.ref f10) = true)
    {od11 an11 : Option Addr} {sl11 : Array (Option Value)} {oc11 kV11 dc11 pm11 cd11 ct11 : Value} {f11 : Addr}
    (a11 : PySem.W.nsIn K mainGlobals "count_of" = some (some (.ref f11))) (l11 : K.lookup f11 = some ⟨oc11, od11, .func (PySem.W.fnOf "count_of" "count_of" (defArgs st_count_of) (defBody st_count_of) (defScope st_count_of) .none kV11 dc11 pm11 an11 cd11 ct11), sl11⟩) (c11 : PySem.W.codeIn K cd11 "count_of" = true) (k11 : PySem.W.keepIn K (.ref f11) = true)
    {od12 an12 : Option Addr} {sl12 : Array (Option Value)} {oc12 kV12 dc12 pm12 cd12 ct12 : Value} {f12 : Addr}
    (a12 : PySem.W.nsIn K mainGlobals "count_with" = some (some (.ref f12))) (l12 : K.lookup f12 = some ⟨oc12, od12, .func (PySem.W.fnOf "count_with" "count_with" (defArgs st_count_with) (defBody st_count_with) (defScope st_count_with) .none kV12 dc12 pm12 an12 cd12 ct12), sl12⟩) (c12 : PySem.W.codeIn K cd12 "count_with" = true) (k12 : PySem.W.keepIn K (.ref f12) = true)
    {od13 an13 : Option Addr} {sl13 : Array (Option Value)} {oc13 kV13 dc13 pm13 cd13 ct13 : Value} {f13 : Addr}
    (a13 : PySem.W.nsIn K mainGlobals "kinds_of_effects" = some (some (.ref f13))) (l13 : K.lookup f13 = some ⟨oc13, od13, .func (PySem.W.fnOf "kinds_of_effects" "kinds_of_effects" (defArgs st_kinds_of_effects) (defBody st_kinds_of_effects) (defScope st_kinds_of_effects) .none kV13 dc13 pm13 an13 cd13 ct13), sl13⟩) (c13 : PySem.W.codeIn K cd13 "kinds_of_effects" = true) (k13 : PySem.W.keepIn K (.ref f13) = true)
    {od14 an14 : Option Addr} {sl14 : Array (Option Value)} {oc14 kV14 dc14 pm14 cd14 ct14 : Value} {f14 : Addr}
    (a14 : PySem.W.nsIn K mainGlobals "outcome_of" = some (some (.ref f14))) (l14 : K.lookup f14 = some ⟨oc14, od14, .func (PySem.W.fnOf "outcome_of" "outcome_of" (defArgs st_outcome_of) (defBody st_outcome_of) (defScope st_outcome_of) .none kV14 dc14 pm14 an14 cd14 ct14), sl14⟩) (c14 : PySem.W.codeIn K cd14 "outcome_of" = true) (k14 : PySem.W.keepIn K (.ref f14) = true)
    {od15 an15 : Option Addr} {sl15 : Array (Option Value)} {oc15 kV15 dc15 pm15 cd15 ct15 : Value} {f15 : Addr}
    (a15 : PySem.W.nsIn K mainGlobals "outcomes" = some (some (.ref f15))) (l15 : K.lookup f15 = some ⟨oc15, od15, .func (PySem.W.fnOf "outcomes" "outcomes" (defArgs st_outcomes) (defBody st_outcomes) (defScope st_outcomes) .none kV15 dc15 pm15 an15 cd15 ct15), sl15⟩) (c15 : PySem.W.codeIn K cd15 "outcomes" = true) (k15 : PySem.W.keepIn K (.ref f15) = true)
    {od16 an16 : Option Addr} {sl16 : Array (Option Value)} {oc16 kV16 dc16 pm16 cd16 ct16 : Value} {f16 : Addr}
    (a16 : PySem.W.nsIn K mainGlobals "count_results" = some (some (.ref f16))) (l16 : K.lookup f16 = some ⟨oc16, od16, .func (PySem.W.fnOf "count_results" "count_results" (defArgs st_count_results) (defBody st_count_results) (defScope st_count_results) .none kV16 dc16 pm16 an16 cd16 ct16), sl16⟩) (c16 : PySem.W.codeIn K cd16 "count_results" = true) (k16 : PySem.W.keepIn K (.ref f16) = true)
    {od17 an17 : Option Addr} {sl17 : Array (Option Value)} {oc17 kV17 dc17 pm17 cd17 ct17 : Value} {f17 : Addr}
    (a17 : PySem.W.nsIn K mainGlobals "count_sources" = some (some (.ref f17))) (l17 : K.lookup f17 = some ⟨oc17, od17, .func (PySem.W.fnOf "count_sources" "count_sources" (defArgs st_count_sources) (defBody st_count_sources) (defScope st_count_sources) .none kV17 dc17 pm17 an17 cd17 ct17), sl17⟩) (c17 : PySem.W.codeIn K cd17 "count_sources" = true) (k17 : PySem.W.keepIn K (.ref f17) = true)
    {od18 an18 : Option Addr} {sl18 : Array (Option Value)} {oc18 kV18 dc18 pm18 cd18 ct18 : Value} {f18 : Addr}
    (a18 : PySem.W.nsIn K mainGlobals "with_bold" = some (some (.ref f18))) (l18 : K.lookup f18 = some ⟨oc18, od18, .func (PySem.W.fnOf "with_bold" "with_bold" (defArgs st_with_bold) (defBody st_with_bold) (defScope st_with_bold) .none kV18 dc18 pm18 an18 cd18 ct18), sl18⟩) (c18 : PySem.W.codeIn K cd18 "with_bold" = true) (k18 : PySem.W.keepIn K (.ref f18) = true)
    {od19 an19 : Option Addr} {sl19 : Array (Option Value)} {oc19 kV19 dc19 pm19 cd19 ct19 : Value} {f19 : Addr}
    (a19 : PySem.W.nsIn K mainGlobals "parting_of" = some (some (.ref f19))) (l19 : K.lookup f19 = some ⟨oc19, od19, .func (PySem.W.fnOf "parting_of" "parting_of" (defArgs st_parting_of) (defBody st_parting_of) (defScope st_parting_of) .none kV19 dc19 pm19 an19 cd19 ct19), sl19⟩) (c19 : PySem.W.codeIn K cd19 "parting_of" = true) (k19 : PySem.W.keepIn K (.ref f19) = true)
    {od20 an20 : Option Addr} {sl20 : Array (Option Value)} {oc20 kV20 dc20 pm20 cd20 ct20 : Value} {f20 : Addr}
    (a20 : PySem.W.nsIn K mainGlobals "first_parting" = some (some (.ref f20))) (l20 : K.lookup f20 = some ⟨oc20, od20, .func (PySem.W.fnOf "first_parting" "first_parting" (defArgs st_first_parting) (defBody st_first_parting) (defScope st_first_parting) .none kV20 dc20 pm20 an20 cd20 ct20), sl20⟩) (c20 : PySem.W.codeIn K cd20 "first_parting" = true) (k20 : PySem.W.keepIn K (.ref f20) = true)
    {od21 an21 : Option Addr} {sl21 : Array (Option Value)} {oc21 kV21 dc21 pm21 cd21 ct21 : Value} {f21 : Addr}
    (a21 : PySem.W.nsIn K mainGlobals "needless" = some (some (.ref f21))) (l21 : K.lookup f21 = some ⟨oc21, od21, .func (PySem.W.fnOf "needless" "needless" (defArgs st_needless) (defBody st_needless) (defScope st_needless) .none kV21 dc21 pm21 an21 cd21 ct21), sl21⟩) (c21 : PySem.W.codeIn K cd21 "needless" = true) (k21 : PySem.W.keepIn K (.ref f21) = true)
    {od22 an22 : Option Addr} {sl22 : Array (Option Value)} {oc22 kV22 dc22 pm22 cd22 ct22 : Value} {f22 : Addr}
    (a22 : PySem.W.nsIn K mainGlobals "effect" = some (some (.ref f22))) (l22 : K.lookup f22 = some ⟨oc22, od22, .func (PySem.W.fnOf "effect" "effect" (defArgs st_effect) (defBody st_effect) (defScope st_effect) .none kV22 dc22 pm22 an22 cd22 ct22), sl22⟩) (c22 : PySem.W.codeIn K cd22 "effect" = true) (k22 : PySem.W.keepIn K (.ref f22) = true)
    {od23 an23 : Option Addr} {sl23 : Array (Option Value)} {oc23 kV23 dc23 pm23 cd23 ct23 : Value} {f23 : Addr}
    (a23 : PySem.W.nsIn K mainGlobals "after" = some (some (.ref f23))) (l23 : K.lookup f23 = some ⟨oc23, od23, .func (PySem.W.fnOf "after" "after" (defArgs st_after) (defBody st_after) (defScope st_after) .none kV23 dc23 pm23 an23 cd23 ct23), sl23⟩) (c23 : PySem.W.codeIn K cd23 "after" = true) (k23 : PySem.W.keepIn K (.ref f23) = true)
    {od24 an24 : Option Addr} {sl24 : Array (Option Value)} {oc24 kV24 dc24 pm24 cd24 ct24 : Value} {f24 : Addr}
    (a24 : PySem.W.nsIn K mainGlobals "apply" = some (some (.ref f24))) (l24 : K.lookup f24 = some ⟨oc24, od24, .func (PySem.W.fnOf "apply" "apply" (defArgs st_apply) (defBody st_apply) (defScope st_apply) .none kV24 dc24 pm24 an24 cd24 ct24), sl24⟩) (c24 : PySem.W.codeIn K cd24 "apply" = true) (k24 : PySem.W.keepIn K (.ref f24) = true)
    {od25 an25 : Option Addr} {sl25 : Array (Option Value)} {oc25 kV25 dc25 pm25 cd25 ct25 : Value} {f25 : Addr}
    (a25 : PySem.W.nsIn K mainGlobals "_law_cell" = some (some (.ref f25))) (l25 : K.lookup f25 = some ⟨oc25, od25, .func (PySem.W.fnOf "_law_cell" "_law_cell" (defArgs st__law_cell) (defBody st__law_cell) (defScope st__law_cell) .none kV25 dc25 pm25 an25 cd25 ct25), sl25⟩) (c25 : PySem.W.codeIn K cd25 "_law_cell" = true) (k25 : PySem.W.keepIn K (.ref f25) = true)
    {od26 an26 : Option Addr} {sl26 : Array (Option Value)} {oc26 kV26 dc26 pm26 cd26 ct26 : Value} {f26 : Addr}
    (a26 : PySem.W.nsIn K mainGlobals "_law_digits" = some (some (.ref f26))) (l26 : K.lookup f26 = some ⟨oc26, od26, .func (PySem.W.fnOf "_law_digits" "_law_digits" (defArgs st__law_digits) (defBody st__law_digits) (defScope st__law_digits) .none kV26 dc26 pm26 an26 cd26 ct26), sl26⟩) (c26 : PySem.W.codeIn K cd26 "_law_digits" = true) (k26 : PySem.W.keepIn K (.ref f26) = true)
    {od27 an27 : Option Addr} {sl27 : Array (Option Value)} {oc27 kV27 dc27 pm27 cd27 ct27 : Value} {f27 : Addr}
    (a27 : PySem.W.nsIn K mainGlobals "_law_power" = some (some (.ref f27))) (l27 : K.lookup f27 = some ⟨oc27, od27, .func (PySem.W.fnOf "_law_power" "_law_power" (defArgs st__law_power) (defBody st__law_power) (defScope st__law_power) .none kV27 dc27 pm27 an27 cd27 ct27), sl27⟩) (c27 : PySem.W.codeIn K cd27 "_law_power" = true) (k27 : PySem.W.keepIn K (.ref f27) = true)
    {od28 an28 : Option Addr} {sl28 : Array (Option Value)} {oc28 kV28 dc28 pm28 cd28 ct28 : Value} {f28 : Addr}
    (a28 : PySem.W.findIn K (.ref C) "__add__" = some (some (.ref f28))) (i28 : PySem.W.isFn K (.ref f28) = true) (l28 : K.lookup f28 = some ⟨oc28, od28, .func (PySem.W.fnOf "__add__" "Macro.__add__" (defArgs st_Macro__add__) (defBody st_Macro__add__) (defScope st_Macro__add__) .none kV28 dc28 pm28 an28 cd28 ct28), sl28⟩) (c28 : PySem.W.codeIn K cd28 "Macro.__add__" = true) (k28 : PySem.W.keepIn K (.ref f28) = true)
    {od29 an29 : Option Addr} {sl29 : Array (Option Value)} {oc29 kV29 dc29 pm29 cd29 ct29 : Value} {f29 : Addr}
    (a29 : PySem.W.findIn K (.ref C) "__call__" = some (some (.ref f29))) (i29 : PySem.W.isFn K (.ref f29) = true) (l29 : K.lookup f29 = some ⟨oc29, od29, .func (PySem.W.fnOf "__call__" "Macro.__call__" (defArgs st_Macro__call__) (defBody st_Macro__call__) (defScope st_Macro__call__) .none kV29 dc29 pm29 an29 cd29 ct29), sl29⟩) (c29 : PySem.W.codeIn K cd29 "Macro.__call__" = true) (k29 : PySem.W.keepIn K (.ref f29) = true)
    {od30 an30 : Option Addr} {sl30 : Array (Option Value)} {oc30 kV30 dc30 pm30 cd30 ct30 : Value} {f30 : Addr}
    (a30 : PySem.W.findIn K (.ref C) "__eq__" = some (some (.ref f30))) (i30 : PySem.W.isFn K (.ref f30) = true) (l30 : K.lookup f30 = some ⟨oc30, od30, .func (PySem.W.fnOf "__eq__" "Macro.__eq__" (defArgs st_Macro__eq__) (defBody st_Macro__eq__) (defScope st_Macro__eq__) .none kV30 dc30 pm30 an30 cd30 ct30), sl30⟩) (c30 : PySem.W.codeIn K cd30 "Macro.__eq__" = true) (k30 : PySem.W.keepIn K (.ref f30) = true)
    {od31 an31 : Option Addr} {sl31 : Array (Option Value)} {oc31 kV31 dc31 pm31 cd31 ct31 : Value} {f31 : Addr}
    (a31 : PySem.W.nsIn K mainGlobals "_law_two_right" = some (some (.ref f31))) (l31 : K.lookup f31 = some ⟨oc31, od31, .func (PySem.W.fnOf "_law_two_right" "_law_two_right" (defArgs st__law_two_right) (defBody st__law_two_right) (defScope st__law_two_right) .none kV31 dc31 pm31 an31 cd31 ct31), sl31⟩) (c31 : PySem.W.codeIn K cd31 "_law_two_right" = true) (k31 : PySem.W.keepIn K (.ref f31) = true)
    {od32 an32 : Option Addr} {sl32 : Array (Option Value)} {oc32 kV32 dc32 pm32 cd32 ct32 : Value} {f32 : Addr}
    (a32 : PySem.W.nsIn K mainGlobals "_law_more_right" = some (some (.ref f32))) (l32 : K.lookup f32 = some ⟨oc32, od32, .func (PySem.W.fnOf "_law_more_right" "_law_more_right" (defArgs st__law_more_right) (defBody st__law_more_right) (defScope st__law_more_right) .none kV32 dc32 pm32 an32 cd32 ct32), sl32⟩) (c32 : PySem.W.codeIn K cd32 "_law_more_right" = true) (k32 : PySem.W.keepIn K (.ref f32) = true)
    {od33 an33 : Option Addr} {sl33 : Array (Option Value)} {oc33 kV33 dc33 pm33 cd33 ct33 : Value} {f33 : Addr}
    (a33 : PySem.W.nsIn K mainGlobals "law" = some (some (.ref f33))) (l33 : K.lookup f33 = some ⟨oc33, od33, .func (PySem.W.fnOf "law" "law" (defArgs st_law) (defBody st_law) (defScope st_law) .none kV33 dc33 pm33 an33 cd33 ct33), sl33⟩) (c33 : PySem.W.codeIn K cd33 "law" = true) (k33 : PySem.W.keepIn K (.ref f33) = true)
    (z0 : PySem.W.nsIn K mainGlobals "all" = some none)
    (z1 : PySem.W.nsIn K mainGlobals "any" = some none)
    (z2 : PySem.W.nsIn K mainGlobals "enumerate" = some none)
    (z3 : PySem.W.nsIn K mainGlobals "isinstance" = some none)
    (z4 : PySem.W.nsIn K mainGlobals "len" = some none)
    (z5 : PySem.W.nsIn K mainGlobals "list" = some none)
    (z6 : PySem.W.nsIn K mainGlobals "min" = some none)
    (z7 : PySem.W.nsIn K mainGlobals "range" = some none)
    (z8 : PySem.W.nsIn K mainGlobals "set" = some none)
    (z9 : PySem.W.nsIn K mainGlobals "sorted" = some none)
    (z10 : PySem.W.nsIn K mainGlobals "sum" = some none)
    (z11 : PySem.W.nsIn K mainGlobals "tuple" = some none)
    (z12 : PySem.W.nsIn K mainGlobals "zip" = some none) :
    ∃ fd : FuncData, (∀ (s : Shared) (v : Value), BindsTo s fd ⟨[v], []⟩ [("script", v)]) ∧ ∀ base : Heap, K.In base → base.Ns mainGlobals mg → FnOk l.prog w K mg base CX0 9 fa fd ["script"] (spLaw K) := by
  have B : Blt mg := ⟨PySem.W.mg_none_of X G z0, PySem.W.mg_none_of X G z1, PySem.W.mg_none_of X G z2, PySem.W.mg_none_of X G z3, PySem.W.mg_none_of X G z4, PySem.W.mg_none_of X G z5, PySem.W.mg_none_of X G z6, PySem.W.mg_none_of X G z7, PySem.W.mg_none_of X G z8, PySem.W.mg_none_of X G z9, PySem.W.mg_none_of X G z10, PySem.W.mg_none_of X G z11, PySem.W.mg_none_of X G z12⟩
  have F0 := fun_mk (st := st_cuts) l0 c0 k0
  have F1 := fun_mk (st := st_blocks) l1 c1 k1
  have F2 := fun_mk (st := st_within) l2 c2 k2
  have F3 := fun_mk (st := st_painted) l3 c3 k3
  have F4 := fun_mk (st := st_stepped) l4 c4 k4
  have F5 := fun_mk (st := st_paths_from) l5 c5 k5
  have F6 := fun_mk (st := st_all_paths) l6 c6 k6
  have F7 := fun_mk (st := st_effect_rows) l7 c7 k7
  have F8 := fun_mk (st := st_least_pattern) l8 c8 k8
  have F9 := fun_mk (st := st_first_with) l9 c9 k9
  have F10 := fun_mk (st := st_doubled) l10 c10 k10
  have F11 := fun_mk (st := st_count_of) l11 c11 k11
  have F12 := fun_mk (st := st_count_with) l12 c12 k12
  have F13 := fun_mk (st := st_kinds_of_effects) l13 c13 k13
  have F14 := fun_mk (st := st_outcome_of) l14 c14 k14
  have F15 := fun_mk (st := st_outcomes) l15 c15 k15
  have F16 := fun_mk (st := st_count_results) l16 c16 k16
  have F17 := fun_mk (st := st_count_sources) l17 c17 k17
  have F18 := fun_mk (st := st_with_bold) l18 c18 k18
  have F19 := fun_mk (st := st_parting_of) l19 c19 k19
  have F20 := fun_mk (st := st_first_parting) l20 c20 k20
  have F21 := fun_mk (st := st_needless) l21 c21 k21
  have F22 := fun_mk (st := st_effect) l22 c22 k22
  have F23 := fun_mk (st := st_after) l23 c23 k23
  have F24 := fun_mk (st := st_apply) l24 c24 k24
  have F25 := fun_mk (st := st__law_cell) l25 c25 k25
  have F26 := fun_mk (st := st__law_digits) l26 c26 k26
  have F27 := fun_mk (st := st__law_power) l27 c27 k27
  have F28 := fun_mk (st := st_Macro__add__) l28 c28 k28
  have F29 := fun_mk (st := st_Macro__call__) l29 c29 k29
  have F30 := fun_mk (st := st_Macro__eq__) l30 c30 k30
  have F31 := fun_mk (st := st__law_two_right) l31 c31 k31
  have F32 := fun_mk (st := st__law_more_right) l32 c32 k32
  have F33 := fun_mk (st := st_law) l33 c33 k33
  have e := hfa.symm.trans (PySem.W.mg_of X G a33)
  cases e
  refine ⟨PySem.W.fnOf "law" "law" (defArgs st_law) (defBody st_law) (defScope st_law) .none kV33 dc33 pm33 an33 cd33 ct33, fun s v => .of_eq rfl, fun base _ _ => ?_⟩
  have FI := fun_mk (st := st_Macro_init) lI cI kI
  have MT : MacT K mg C := ⟨⟨pg, hd, po, sa⟩, nL, nS, PySem.W.mg_of X G hCl, ⟨⟨pg, hd, po, sa⟩, ha, hn, ht, hmr, if_pos (beq_self_eq_true _)⟩, hsf, hne⟩
  have D_Macro : MacD l.prog w K mg base C := ⟨MT, ⟨_, _, ⟨mk, aI, iI, kc⟩, FI.binds (ps := ["self", "length", "script"]) (fun _ _ _ _ _ _ us hl => match us, hl with | [_, _, _], _ => rfl), ok_Macro_init FI MT⟩⟩
  have D_cuts : Df l.prog w K mg base "cuts" 1 ["length", "toggles"] (spD K (aC rI (aC (rT (rP rI rI)) aN)) (fun g => m_cuts g.1 g.2.1) .n (rL rI)) := ⟨⟨_, _, PySem.W.mg_of X G a0, k0, F0.binds (ps := ["length", "toggles"]) (fun _ _ _ _ _ _ us hl => match us, hl with | [_, _], _ => rfl), ok_cuts B F0 ⟩⟩
  have D_blocks : Df l.prog w K mg base "blocks" 2 ["length", "script"] (spD K (aC rI (aC (rT (rP rI rI)) aN)) (fun g => m_blocks g.1 g.2.1) .n (rL (rP rI rI))) := ⟨⟨_, _, PySem.W.mg_of X G a1, k1, F1.binds (ps := ["length", "script"]) (fun _ _ _ _ _ _ us hl => match us, hl with | [_, _], _ => rfl), ok_blocks B F1 D_cuts⟩⟩
  have D_within : Df l.prog w K mg base "within" 1 ["parts", "toggle"] (spD K (aC (rL (rP rI rI)) (aC (rP rI rI) aN)) (fun g => m_within g.1 g.2.1) .n (rL rI)) := ⟨⟨_, _, PySem.W.mg_of X G a2, k2, F2.binds (ps := ["parts", "toggle"]) (fun _ _ _ _ _ _ us hl => match us, hl with | [_, _], _ => rfl), ok_within B F2 ⟩⟩
  have D_painted : Df l.prog w K mg base "painted" 1 ["values", "chosen", "sign"] (spD K (aC (rT (rO rS)) (aC (rL rI) (aC rS aN))) (fun g => m_painted g.1 g.2.1 g.2.2.1) .r (rT (rO rS))) := ⟨⟨_, _, PySem.W.mg_of X G a3, k3, F3.binds (ps := ["values", "chosen", "sign"]) (fun _ _ _ _ _ _ us hl => match us, hl with | [_, _, _], _ => rfl), ok_painted B F3 ⟩⟩
  have D_stepped : Df l.prog w K mg base "stepped" 2 ["parts", "path", "toggle"] (spD K (aC (rL (rP rI rI)) (aC (r4 (rT rS) (rT (rO rS)) (rT rI) (rT (rT rI))) (aC (rP rI rI) aN))) (fun g => m_stepped g.1 g.2.1 g.2.2.1) .n (rL (r4 (rT rS) (rT (rO rS)) (rT rI) (rT (rT rI))))) := ⟨⟨_, _, PySem.W.mg_of X G a4, k4, F4.binds (ps := ["parts", "path", "toggle"]) (fun _ _ _ _ _ _ us hl => match us, hl with | [_, _, _], _ => rfl), ok_stepped B F4 D_within D_painted⟩⟩
  have D_paths_from : Df l.prog w K mg base "paths_from" 3 ["parts", "paths", "script"] (spD K (aC (rL (rP rI rI)) (aC (rL (r4 (rT rS) (rT (rO rS)) (rT rI) (rT (rT rI)))) (aC (rT (rP rI rI)) aN))) (fun g => m_paths_from g.1 g.2.1 g.2.2.1) .r (rL (r4 (rT rS) (rT (rO rS)) (rT rI) (rT (rT rI))))) := ⟨⟨_, _, PySem.W.mg_of X G a5, k5, F5.binds (ps := ["parts", "paths", "script"]) (fun _ _ _ _ _ _ us hl => match us, hl with | [_, _, _], _ => rfl), ok_paths_from B F5 D_stepped⟩⟩
  have D_all_paths : Df l.prog w K mg base "all_paths" 4 ["parts", "script"] (spD K (aC (rL (rP rI rI)) (aC (rT (rP rI rI)) aN)) (fun g => m_all_paths g.1 g.2.1) .r (rL (r4 (rT rS) (rT (rO rS)) (rT rI) (rT (rT rI))))) := ⟨⟨_, _, PySem.W.mg_of X G a6, k6, F6.binds (ps := ["parts", "script"]) (fun _ _ _ _ _ _ us hl => match us, hl with | [_, _], _ => rfl), ok_all_paths B F6 D_paths_from⟩⟩
  have D_effect_rows : Df l.prog w K mg base "effect_rows" 5 ["length", "script"] (spD K (aC rI (aC (rT (rP rI rI)) aN)) (fun g => m_effect_rows g.1 g.2.1) .n (rL (rT rS))) := ⟨⟨_, _, PySem.W.mg_of X G a7, k7, F7.binds (ps := ["length", "script"]) (fun _ _ _ _ _ _ us hl => match us, hl with | [_, _], _ => rfl), ok_effect_rows B F7 D_all_paths D_blocks⟩⟩
  have D_least_pattern : Df l.prog w K mg base "least_pattern" 1 ["parts", "bold"] (spD K (aC (rL (rP rI rI)) (aC (rT rI) aN)) (fun g => m_least_pattern g.1 g.2.1) .r rS) := ⟨⟨_, _, PySem.W.mg_of X G a8, k8, F8.binds (ps := ["parts", "bold"]) (fun _ _ _ _ _ _ us hl => match us, hl with | [_, _], _ => rfl), ok_least_pattern B F8 ⟩⟩
  have D_first_with : Df l.prog w K mg base "first_with" 5 ["length", "script", "row"] (spD K (aC rI (aC (rT (rP rI rI)) (aC (rT rS) aN))) (fun g => m_first_with g.1 g.2.1 g.2.2.1) .r (rO rS)) := ⟨⟨_, _, PySem.W.mg_of X G a9, k9, F9.binds (ps := ["length", "script", "row"]) (fun _ _ _ _ _ _ us hl => match us, hl with | [_, _, _], _ => rfl), ok_first_with B F9 D_blocks D_all_paths D_least_pattern⟩⟩
  have D_doubled : Df l.prog w K mg base "doubled" 1 ["times"] (spD K (aC rI aN) (fun g => m_doubled g.1) .r rI) := ⟨⟨_, _, PySem.W.mg_of X G a10, k10, F10.binds (ps := ["times"]) (fun _ _ _ _ _ _ us hl => match us, hl with | [_], _ => rfl), ok_doubled B F10 ⟩⟩
  have D_count_of : Df l.prog w K mg base "count_of" 2 ["parts", "path"] (spD K (aC (rL (rP rI rI)) (aC (r4 (rT rS) (rT (rO rS)) (rT rI) (rT (rT rI))) aN)) (fun g => m_count_of g.1 g.2.1) .r rI) := ⟨⟨_, _, PySem.W.mg_of X G a11, k11, F11.binds (ps := ["parts", "path"]) (fun _ _ _ _ _ _ us hl => match us, hl with | [_, _], _ => rfl), ok_count_of B F11 D_doubled⟩⟩
  have D_count_with : Df l.prog w K mg base "count_with" 5 ["length", "script", "row"] (spD K (aC rI (aC (rT (rP rI rI)) (aC (rT rS) aN))) (fun g => m_count_with g.1 g.2.1 g.2.2.1) .r rI) := ⟨⟨_, _, PySem.W.mg_of X G a12, k12, F12.binds (ps := ["length", "script", "row"]) (fun _ _ _ _ _ _ us hl => match us, hl with | [_, _, _], _ => rfl), ok_count_with B F12 D_blocks D_count_of D_all_paths⟩⟩
  have D_kinds_of_effects : Df l.prog w K mg base "kinds_of_effects" 6 ["length", "script"] (spD K (aC rI (aC (rT (rP rI rI)) aN)) (fun g => m_kinds_of_effects g.1 g.2.1) .n (rL rS)) := ⟨⟨_, _, PySem.W.mg_of X G a13, k13, F13.binds (ps := ["length", "script"]) (fun _ _ _ _ _ _ us hl => match us, hl with | [_, _], _ => rfl), ok_kinds_of_effects B F13 D_effect_rows⟩⟩
  have D_outcome_of : Df l.prog w K mg base "outcome_of" 1 ["parts", "values"] (spD K (aC (rL (rP rI rI)) (aC (rT (rO rS)) aN)) (fun g => m_outcome_of g.1 g.2.1) .r rS) := ⟨⟨_, _, PySem.W.mg_of X G a14, k14, F14.binds (ps := ["parts", "values"]) (fun _ _ _ _ _ _ us hl => match us, hl with | [_, _], _ => rfl), ok_outcome_of B F14 ⟩⟩
  have D_outcomes : Df l.prog w K mg base "outcomes" 5 ["length", "script"] (spD K (aC rI (aC (rT (rP rI rI)) aN)) (fun g => m_outcomes g.1 g.2.1) .n (rL rS)) := ⟨⟨_, _, PySem.W.mg_of X G a15, k15, F15.binds (ps := ["length", "script"]) (fun _ _ _ _ _ _ us hl => match us, hl with | [_, _], _ => rfl), ok_outcomes B F15 D_blocks D_outcome_of D_all_paths⟩⟩
  have D_count_results : Df l.prog w K mg base "count_results" 6 ["length", "script"] (spD K (aC rI (aC (rT (rP rI rI)) aN)) (fun g => m_count_results g.1 g.2.1) .r rI) := ⟨⟨_, _, PySem.W.mg_of X G a16, k16, F16.binds (ps := ["length", "script"]) (fun _ _ _ _ _ _ us hl => match us, hl with | [_, _], _ => rfl), ok_count_results B F16 D_outcomes D_doubled⟩⟩
  have D_count_sources : Df l.prog w K mg base "count_sources" 5 ["length", "script", "outcome"] (spD K (aC rI (aC (rT (rP rI rI)) (aC rS aN))) (fun g => m_count_sources g.1 g.2.1 g.2.2.1) .r rI) := ⟨⟨_, _, PySem.W.mg_of X G a17, k17, F17.binds (ps := ["length", "script", "outcome"]) (fun _ _ _ _ _ _ us hl => match us, hl with | [_, _, _], _ => rfl), ok_count_sources B F17 D_blocks D_all_paths D_outcome_of D_count_of⟩⟩
  have D_with_bold : Df l.prog w K mg base "with_bold" 1 ["parts", "pattern", "index", "many"] (spD K (aC (rL (rP rI rI)) (aC rS (aC rI (aC rI aN)))) (fun g => m_with_bold g.1 g.2.1 g.2.2.1 g.2.2.2.1) .r rS) := ⟨⟨_, _, PySem.W.mg_of X G a18, k18, F18.binds (ps := ["parts", "pattern", "index", "many"]) (fun _ _ _ _ _ _ us hl => match us, hl with | [_, _, _, _], _ => rfl), ok_with_bold B F18 ⟩⟩
  have D_parting_of : Df l.prog w K mg base "parting_of" 2 ["parts", "one", "other", "path"] (spD K (aC (rL (rP rI rI)) (aC (rT (rO rS)) (aC (rT (rO rS)) (aC (r4 (rT rS) (rT (rO rS)) (rT rI) (rT (rT rI))) aN)))) (fun g => m_parting_of g.1 g.2.1 g.2.2.1 g.2.2.2.1) .r (rO rS)) := ⟨⟨_, _, PySem.W.mg_of X G a19, k19, F19.binds (ps := ["parts", "one", "other", "path"]) (fun _ _ _ _ _ _ us hl => match us, hl with | [_, _, _, _], _ => rfl), ok_parting_of B F19 D_least_pattern D_with_bold⟩⟩
  have D_first_parting : Df l.prog w K mg base "first_parting" 5 ["length", "first", "second"] (spD K (aC rI (aC (rT (rP rI rI)) (aC (rT (rP rI rI)) aN))) (fun g => m_first_parting g.1 g.2.1 g.2.2.1) .r (rO rS)) := ⟨⟨_, _, PySem.W.mg_of X G a20, k20, F20.binds (ps := ["length", "first", "second"]) (fun _ _ _ _ _ _ us hl => match us, hl with | [_, _, _], _ => rfl), ok_first_parting B F20 D_blocks D_all_paths D_paths_from D_parting_of⟩⟩
  have D_needless : Df l.prog w K mg base "needless" 6 ["length", "script"] (spD K (aC rI (aC (rT (rP rI rI)) aN)) (fun g => m_needless g.1 g.2.1) .n (rL rI)) := ⟨⟨_, _, PySem.W.mg_of X G a21, k21, F21.binds (ps := ["length", "script"]) (fun _ _ _ _ _ _ us hl => match us, hl with | [_, _], _ => rfl), ok_needless B F21 D_first_parting⟩⟩
  have D_effect : Df l.prog w K mg base "effect" 1 ["pattern", "one"] (spD K (aC rS (aC (rP rI rI) aN)) (fun g => m_effect g.1 g.2.1) .r rS) := ⟨⟨_, _, PySem.W.mg_of X G a22, k22, F22.binds (ps := ["pattern", "one"]) (fun _ _ _ _ _ _ us hl => match us, hl with | [_, _], _ => rfl), ok_effect B F22 ⟩⟩
  have D_after : Df l.prog w K mg base "after" 2 ["pattern", "one"] (spD K (aC rS (aC (rP rI rI) aN)) (fun g => m_after g.1 g.2.1) .r rS) := ⟨⟨_, _, PySem.W.mg_of X G a23, k23, F23.binds (ps := ["pattern", "one"]) (fun _ _ _ _ _ _ us hl => match us, hl with | [_, _], _ => rfl), ok_after B F23 D_effect⟩⟩
  have D_apply : Df l.prog w K mg base "apply" 3 ["pattern", "script"] (spD K (aC rS (aC (rT (rP rI rI)) aN)) (fun g => m_apply g.1 g.2.1) .r rS) := ⟨⟨_, _, PySem.W.mg_of X G a24, k24, F24.binds (ps := ["pattern", "script"]) (fun _ _ _ _ _ _ us hl => match us, hl with | [_, _], _ => rfl), ok_apply B F24 D_after⟩⟩
  have D__law_cell : Df l.prog w K mg base "_law_cell" 1 ["script", "index"] (spD K (aS (aC rI aN)) (fun g => m__law_cell g.1 g.2.1) .r rI) := ⟨⟨_, _, PySem.W.mg_of X G a25, k25, F25.binds (ps := ["script", "index"]) (fun _ _ _ _ _ _ us hl => match us, hl with | [_, _], _ => rfl), ok__law_cell B F25 ⟩⟩
  have D__law_digits : Df l.prog w K mg base "_law_digits" 2 ["script", "index", "count", "base"] (spD K (aS (aC rI (aC rI (aC rI aN)))) (fun g => m__law_digits g.1 g.2.1 g.2.2.1 g.2.2.2.1) .n (rL rI)) := ⟨⟨_, _, PySem.W.mg_of X G a26, k26, F26.binds (ps := ["script", "index", "count", "base"]) (fun _ _ _ _ _ _ us hl => match us, hl with | [_, _, _, _], _ => rfl), ok__law_digits B F26 D__law_cell⟩⟩
  have D__law_power : Df l.prog w K mg base "_law_power" 1 ["number"] (spD K (aC rI aN) (fun g => m__law_power g.1) .r rI) := ⟨⟨_, _, PySem.W.mg_of X G a27, k27, F27.binds (ps := ["number"]) (fun _ _ _ _ _ _ us hl => match us, hl with | [_], _ => rfl), ok__law_power B F27 ⟩⟩
  have D_Macro__add__ : OpD l.prog w K mg base C "__add__" 3 ["self", "other"] (spD K (aC (rM C) (aC (rM C) aN)) (fun g => m_Macro__add__ g.1 g.2.1) .r (rM C)) := ⟨_, _, a28, i28, (by unfold PySem.W.fnIn; rw [l28]), F28.binds (ps := ["self", "other"]) (fun _ _ _ _ _ _ us hl => match us, hl with | [_, _], _ => rfl), ok_Macro__add__ B F28 D_Macro⟩
  have D_Macro__call__ : OpD l.prog w K mg base C "__call__" 4 ["self", "pattern"] (spD K (aC (rM C) (aC rS aN)) (fun g => m_Macro__call__ g.1 g.2.1) .r rS) := ⟨_, _, a29, i29, (by unfold PySem.W.fnIn; rw [l29]), F29.binds (ps := ["self", "pattern"]) (fun _ _ _ _ _ _ us hl => match us, hl with | [_, _], _ => rfl), ok_Macro__call__ B F29 D_Macro D_apply⟩
  have D_Macro__eq__ : OpD l.prog w K mg base C "__eq__" 6 ["self", "other"] (spD K (aC (rM C) (aC (rM C) aN)) (fun g => m_Macro__eq__ g.1 g.2.1) .r rB) := ⟨_, _, a30, i30, (by unfold PySem.W.fnIn; rw [l30]), F30.binds (ps := ["self", "other"]) (fun _ _ _ _ _ _ us hl => match us, hl with | [_, _], _ => rfl), ok_Macro__eq__ B F30 D_Macro D_first_parting⟩
  have D__law_two_right : Df l.prog w K mg base "_law_two_right" 8 ["m"] (spD K (aC rI aN) (fun g => m__law_two_right g.1) .n (rL rB)) := ⟨⟨_, _, PySem.W.mg_of X G a31, k31, F31.binds (ps := ["m"]) (fun _ _ _ _ _ _ us hl => match us, hl with | [_], _ => rfl), ok__law_two_right B F31 D_Macro D_blocks D_effect_rows D_outcomes D_count_results D_count_sources D_count_with D__law_power D_first_with D_kinds_of_effects D_Macro__add__ D_Macro__call__ D_Macro__eq__⟩⟩
  have D__law_more_right : Df l.prog w K mg base "_law_more_right" 7 ["m"] (spD K (aC rI aN) (fun g => m__law_more_right g.1) .n (rL rB)) := ⟨⟨_, _, PySem.W.mg_of X G a32, k32, F32.binds (ps := ["m"]) (fun _ _ _ _ _ _ us hl => match us, hl with | [_], _ => rfl), ok__law_more_right B F32 D_effect_rows D_first_parting D_needless D_outcomes⟩⟩
  exact law_of (ok_law B F33 D__law_digits D_count_with D_effect_rows D__law_two_right D__law_more_right) hm
end Y

open PySem PySem.W PyProof.Rows
set_option maxHeartbeats 0 in
theorem PySem.Challenge.cw_boldtoggle_k32_worked_scripts_on_long_li_holds : PySem.Challenge.rw_boldtoggle_k32_worked_scripts_on_long_li.Holds := by
  w_on; o_law; k_head; (case hw => w_witness2)
  k_fill
  refine L2.walk_of (l := PySem.Challenge.rw_boldtoggle_k32_worked_scripts_on_long_li) (n := 63) (k := 9) (x := "script") (CX := fun _ => L2.CX0) (sp := fun w => Y.spLaw _) rfl (by decide) rfl ⟨rfl, by decide, by decide⟩ (fun w h Y => PySem.W.kIn_of Y) ?F (fun _ _ a ns hl _ hS => ⟨a, ns, rfl, hS, hl, fun _ => rfl⟩) (fun _ _ _ _ _ h => h)
  case F =>
    intro w mg fa h KX G hmg
    refine' Y.all_mk KX G hmg Y.law_true ?hCl ?aI ?iI ?lI ?cI ?kI ?pg ?hd ?po ?sa ?mk ?kc ?nL ?nS ?ha ?hn ?ht ?hmr ?hsf ?hne ?a0 ?l0 ?c0 ?k0 ?a1 ?l1 ?c1 ?k1 ?a2 ?l2 ?c2 ?k2 ?a3 ?l3 ?c3 ?k3 ?a4 ?l4 ?c4 ?k4 ?a5 ?l5 ?c5 ?k5 ?a6 ?l6 ?c6 ?k6 ?a7 ?l7 ?c7 ?k7 ?a8 ?l8 ?c8 ?k8 ?a9 ?l9 ?c9 ?k9 ?a10 ?l10 ?c10 ?k10 ?a11 ?l11 ?c11 ?k11 ?a12 ?l12 ?c12 ?k12 ?a13 ?l13 ?c13 ?k13 ?a14 ?l14 ?c14 ?k14 ?a15 ?l15 ?c15 ?k15 ?a16 ?l16 ?c16 ?k16 ?a17 ?l17 ?c17 ?k17 ?a18 ?l18 ?c18 ?k18 ?a19 ?l19 ?c19 ?k19 ?a20 ?l20 ?c20 ?k20 ?a21 ?l21 ?c21 ?k21 ?a22 ?l22 ?c22 ?k22 ?a23 ?l23 ?c23 ?k23 ?a24 ?l24 ?c24 ?k24 ?a25 ?l25 ?c25 ?k25 ?a26 ?l26 ?c26 ?k26 ?a27 ?l27 ?c27 ?k27 ?a28 ?i28 ?l28 ?c28 ?k28 ?a29 ?i29 ?l29 ?c29 ?k29 ?a30 ?i30 ?l30 ?c30 ?k30 ?a31 ?l31 ?c31 ?k31 ?a32 ?l32 ?c32 ?k32 ?a33 ?l33 ?c33 ?k33 ?z0 ?z1 ?z2 ?z3 ?z4 ?z5 ?z6 ?z7 ?z8 ?z9 ?z10 ?z11 ?z12
    (case hCl => k_is)
    (case aI => k_is)
    (case iI => k_is)
    (case lI => k_is)
    (case cI => k_is)
    (case kI => k_is)
    (case pg => k_is)
    (case hd => k_is)
    (case po => k_is)
    (case sa => k_is)
    (case mk => k_is)
    (case kc => k_is)
    (case nL => k_is)
    (case nS => k_is)
    (case ha => k_is)
    (case hn => k_is)
    (case ht => k_is)
    (case hmr => k_is)
    (case hsf => k_is)
    (case hne => k_is)
    (case a0 => k_is)
    (case l0 => k_is)
    (case c0 => k_is)
    (case k0 => k_is)
    (case a1 => k_is)
    (case l1 => k_is)
    (case c1 => k_is)
    (case k1 => k_is)
    (case a2 => k_is)
    (case l2 => k_is)
    (case c2 => k_is)
    (case k2 => k_is)
    (case a3 => k_is)
    (case l3 => k_is)
    (case c3 => k_is)
    (case k3 => k_is)
    (case a4 => k_is)
    (case l4 => k_is)
    (case c4 => k_is)
    (case k4 => k_is)
    (case a5 => k_is)
    (case l5 => k_is)
    (case c5 => k_is)
    (case k5 => k_is)
    (case a6 => k_is)
    (case l6 => k_is)
    (case c6 => k_is)
    (case k6 => k_is)
    (case a7 => k_is)
    (case l7 => k_is)
    (case c7 => k_is)
    (case k7 => k_is)
    (case a8 => k_is)
    (case l8 => k_is)
    (case c8 => k_is)
    (case k8 => k_is)
    (case a9 => k_is)
    (case l9 => k_is)
    (case c9 => k_is)
    (case k9 => k_is)
    (case a10 => k_is)
    (case l10 => k_is)
    (case c10 => k_is)
    (case k10 => k_is)
    (case a11 => k_is)
    (case l11 => k_is)
    (case c11 => k_is)
    (case k11 => k_is)
    (case a12 => k_is)
    (case l12 => k_is)
    (case c12 => k_is)
    (case k12 => k_is)
    (case a13 => k_is)
    (case l13 => k_is)
    (case c13 => k_is)
    (case k13 => k_is)
    (case a14 => k_is)
    (case l14 => k_is)
    (case c14 => k_is)
    (case k14 => k_is)
    (case a15 => k_is)
    (case l15 => k_is)
    (case c15 => k_is)
    (case k15 => k_is)
    (case a16 => k_is)
    (case l16 => k_is)
    (case c16 => k_is)
    (case k16 => k_is)
    (case a17 => k_is)
    (case l17 => k_is)
    (case c17 => k_is)
    (case k17 => k_is)
    (case a18 => k_is)
    (case l18 => k_is)
    (case c18 => k_is)
    (case k18 => k_is)
    (case a19 => k_is)
    (case l19 => k_is)
    (case c19 => k_is)
    (case k19 => k_is)
    (case a20 => k_is)
    (case l20 => k_is)
    (case c20 => k_is)
    (case k20 => k_is)
    (case a21 => k_is)
    (case l21 => k_is)
    (case c21 => k_is)
    (case k21 => k_is)
    (case a22 => k_is)
    (case l22 => k_is)
    (case c22 => k_is)
    (case k22 => k_is)
    (case a23 => k_is)
    (case l23 => k_is)
    (case c23 => k_is)
    (case k23 => k_is)
    (case a24 => k_is)
    (case l24 => k_is)
    (case c24 => k_is)
    (case k24 => k_is)
    (case a25 => k_is)
    (case l25 => k_is)
    (case c25 => k_is)
    (case k25 => k_is)
    (case a26 => k_is)
    (case l26 => k_is)
    (case c26 => k_is)
    (case k26 => k_is)
    (case a27 => k_is)
    (case l27 => k_is)
    (case c27 => k_is)
    (case k27 => k_is)
    (case a28 => k_is)
    (case i28 => k_is)
    (case l28 => k_is)
    (case c28 => k_is)
    (case k28 => k_is)
    (case a29 => k_is)
    (case i29 => k_is)
    (case l29 => k_is)
    (case c29 => k_is)
    (case k29 => k_is)
    (case a30 => k_is)
    (case i30 => k_is)
    (case l30 => k_is)
    (case c30 => k_is)
    (case k30 => k_is)
    (case a31 => k_is)
    (case l31 => k_is)
    (case c31 => k_is)
    (case k31 => k_is)
    (case a32 => k_is)
    (case l32 => k_is)
    (case c32 => k_is)
    (case k32 => k_is)
    (case a33 => k_is)
    (case l33 => k_is)
    (case c33 => k_is)
    (case k33 => k_is)
    (case z0 => k_is)
    (case z1 => k_is)
    (case z2 => k_is)
    (case z3 => k_is)
    (case z4 => k_is)
    (case z5 => k_is)
    (case z6 => k_is)
    (case z7 => k_is)
    (case z8 => k_is)
    (case z9 => k_is)
    (case z10 => k_is)
    (case z11 => k_is)
    (case z12 => k_is)
