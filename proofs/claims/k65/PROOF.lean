import PyProof.Rows.All
import Wide.All
import OpenK.AllK
import Wide.FinOn
import HandS.ForMost
import HandS.Exc
import HandS.ExcOwn
import HandS.Walk
import HandS.Lambda
import HandS.ExcInit
import HandS.ExcIs
import HandS.ExcField
import HandS.Wide
import HandS.IsInst
import HandS.TupAny
import HandS.TupMul
import HandS.StrMore
import HandS.RaiseMore
import HandS.SortInts
import PyProof.ReprReads
import HandS.DictTup
import HandS.SetKeys
import HandS.Finally
import HandS.TupLen
import HandS.RevRange
import HandS.Zip0
import KE.GoesMore
import HandS.ClsMeth
import HandS.DictComp
import HandS.EndTab
import PySem.Challenge.RW_glancelogs_k65_texts_of_logs
set_option Elab.async false
set_option linter.all false
set_option maxRecDepth 100000
/-! D0: data as trees (tuples are values), heaps of lists, dicts, instances; what it is that a reading of the hand layer holds of them. -/
namespace Dd
open PySem PySem.Spec L2
open PyProof.Rows hiding St

/-- a value as a tree: a tuple is a value, not an object -/
inductive D where
  | non | bl (b : Bool) | int (i : Int) | str (x : Str) | tup (xs : List D) | ref (a : Addr) | ty (n : String)
  /-- a tuple of the module's own top, at a -/
  | kt (a : Addr) (xs : List D)

/-- what stands at an address -/
inductive DO where
  | lst (xs : List D)
  | dic (kvs : List (Key × D))
  | dct (kvs : List (List Key × D))
  | ins (C : Addr) (fs : List (Str × D))
  | lck (o : DO)
  | raw (o : HO)
  /-- the dict of an exception; the table of a def's code objects, all of the name q -/
  | xd (fs : List (Str × D))
  | tab (q : Str)
abbrev HD := Addr → Option DO
abbrev DS := List (Option D)

def put (G : HD) (a : Addr) (o : DO) : HD := fun b => if b = a then some o else G b
theorem put_same {G : HD} {a : Addr} {o : DO} : put G a o a = some o := by unfold put; rw [if_pos rfl]
theorem put_ne {G : HD} {a b : Addr} {o : DO} (h : b ≠ a) : put G a o b = G b := by unfold put; rw [if_neg h]
theorem put_put {G : HD} {a : Addr} {o u : DO} : put (put G a o) a u = put G a u := by
  funext b; unfold put; split <;> rfl
theorem put_swap {G : HD} {a b : Addr} {o u : DO} (h : a ≠ b) : put (put G a o) b u = put (put G b u) a o := by
  funext c; unfold put
  by_cases h1 : c = b
  · subst h1; rw [if_pos rfl, if_neg (Ne.symm h), if_pos rfl]
  · rw [if_neg h1]
    by_cases h2 : c = a
    · subst h2; rw [if_pos rfl, if_pos rfl]
    · rw [if_neg h2, if_neg h2, if_neg h1]
theorem ne_new {G : HD} {a b : Addr} {o : DO} (h : G a = some o) (h' : G b = none) : a ≠ b := by
  intro e; subst e; rw [h] at h'; cases h'

/-- a tuple that stands in the heap; one that the text's top has written -/
def TupAt (_ : PySem.W.Frag) (H : Hp) (a : Addr) (vs : List V) : Prop := H a = some (.tup vs)
def TupK (K : PySem.W.Frag) (a : Addr) (vs : List V) : Prop := ∃ (o : Obj) (its : Array Value) (n : Nat), K.lookup a = some o ∧ o.cls = .type "tuple" ∧ o.data = .seq its n ∧ its.size ≤ sizeLine ∧ Vals vs its.toList
theorem TupAt.sq {K : PySem.W.Frag} {H : Hp} {a : Addr} {vs : List V} (h : TupAt K H a vs) : SqT K H a vs := .inl (.inl h)
theorem TupK.sq {K : PySem.W.Frag} {H : Hp} {a : Addr} {vs : List V} (h : TupK K a vs) : SqT K H a vs := .inr h

mutual
/-- v is the tree d in the heap H -/
def Den (K : PySem.W.Frag) (H : Hp) : D → V → Prop
  | .non, v => v = .non
  | .bl b, v => v = .bl b
  | .int i, v => v = .int i
  | .str x, v => v = .str x
  | .ref a, v => v = .ref a
  | .ty n, v => v = .ty n
  | .tup xs, v => ∃ (a : Addr) (vs : List V), v = .ref a ∧ TupAt K H a vs ∧ Dens K H xs vs
  | .kt a xs, v => ∃ (vs : List V), v = .ref a ∧ TupK K a vs ∧ Dens K H xs vs
def Dens (K : PySem.W.Frag) (H : Hp) : List D → List V → Prop
  | [], vs => vs = []
  | d :: ds, vs => ∃ v r, vs = v :: r ∧ Den K H d v ∧ Dens K H ds r
end

/-- what never changes: a tuple, an exception, its dict, a code object -/
def Stb : HO → Prop
  | .tup _ => True
  | .ext _ => True
  | .xd _ => True
  | _ => False
/-- what stood and never changes stands -/
def Ext (H H' : Hp) : Prop := ∀ a o, Stb o → H a = some o → H' a = some o
theorem Ext.refl (H : Hp) : Ext H H := fun _ _ _ h => h
theorem Ext.trans {H H1 H2 : Hp} (x : Ext H H1) (y : Ext H1 H2) : Ext H H2 := fun a o s h => y a o s (x a o s h)
theorem Ext.new {H : Hp} {p : Addr} {o : HO} (h : H p = none) : Ext H (upd H p o) := fun a u _ e => by
  rw [upd_ne (ne_of_none e h)]; exact e
theorem Ext.set {H : Hp} {p : Addr} {o u : HO} (h : H p = some u) (n : ¬ Stb u) : Ext H (upd H p o) := fun a w s e => by
  rw [upd_ne]
  · exact e
  · rintro rfl
    rw [h] at e
    cases e
    exact n s

section
variable {K : PySem.W.Frag} {H H' : Hp}
theorem TupAt.mono {a : Addr} {vs : List V} (x : Ext H H') (h : TupAt K H a vs) : TupAt K H' a vs := x _ _ trivial h
mutual
theorem Den.mono (x : Ext H H') : ∀ (d : D) (v : V), Den K H d v → Den K H' d v
  | .non, v, h => by simpa [Den] using h
  | .bl b, v, h => by simpa [Den] using h
  | .int i, v, h => by simpa [Den] using h
  | .str y, v, h => by simpa [Den] using h
  | .ref a, v, h => by simpa [Den] using h
  | .ty n, v, h => by simpa [Den] using h
  | .tup xs, v, h => by
    unfold Den at h ⊢
    obtain ⟨a, vs, e, t, r⟩ := h
    exact ⟨a, vs, e, t.mono x, Dens.mono x xs vs r⟩
  | .kt a xs, v, h => by
    unfold Den at h ⊢
    obtain ⟨vs, e, t, r⟩ := h
    exact ⟨vs, e, t, Dens.mono x xs vs r⟩
theorem Dens.mono (x : Ext H H') : ∀ (ds : List D) (vs : List V), Dens K H ds vs → Dens K H' ds vs
  | [], vs, h => by simpa [Dens] using h
  | d :: ds, vs, h => by
    unfold Dens at h ⊢
    obtain ⟨v, r, e, h1, h2⟩ := h
    exact ⟨v, r, e, Den.mono x d v h1, Dens.mono x ds r h2⟩
end
theorem dens_nil {vs : List V} : Dens K H [] vs ↔ vs = [] := by unfold Dens; rfl
theorem dens_cons {d : D} {ds : List D} {vs : List V} : Dens K H (d :: ds) vs ↔ ∃ v r, vs = v :: r ∧ Den K H d v ∧ Dens K H ds r := by
  constructor
  · intro h; unfold Dens at h; exact h
  · intro h; unfold Dens; exact h
theorem den_non {v : V} : Den K H .non v ↔ v = .non := by unfold Den; rfl
theorem den_bl {b : Bool} {v : V} : Den K H (.bl b) v ↔ v = .bl b := by unfold Den; rfl
theorem den_int {i : Int} {v : V} : Den K H (.int i) v ↔ v = .int i := by unfold Den; rfl
theorem den_str {x : Str} {v : V} : Den K H (.str x) v ↔ v = .str x := by unfold Den; rfl
theorem den_ref {a : Addr} {v : V} : Den K H (.ref a) v ↔ v = .ref a := by unfold Den; rfl
theorem den_ty {n : String} {v : V} : Den K H (.ty n) v ↔ v = .ty n := by unfold Den; rfl
theorem den_tup {xs : List D} {v : V} : Den K H (.tup xs) v ↔ ∃ (a : Addr) (vs : List V), v = .ref a ∧ TupAt K H a vs ∧ Dens K H xs vs := by
  constructor
  · intro h; unfold Den at h; exact h
  · intro h; unfold Den; exact h
theorem den_kt {a : Addr} {xs : List D} {v : V} : Den K H (.kt a xs) v ↔ ∃ (vs : List V), v = .ref a ∧ TupK K a vs ∧ Dens K H xs vs := by
  constructor
  · intro h; unfold Den at h; exact h
  · intro h; unfold Den; exact h
theorem Dens.len : ∀ {ds : List D} {vs : List V}, Dens K H ds vs → ds.length = vs.length
  | [], vs, h => by rw [dens_nil.mp h]; rfl
  | d :: ds, vs, h => by
    obtain ⟨v, r, rfl, _, h2⟩ := dens_cons.mp h
    simp [Dens.len h2]
theorem Dens.get : ∀ {ds : List D} {vs : List V} {i : Nat} {d : D}, Dens K H ds vs → ds[i]? = some d → ∃ v, vs[i]? = some v ∧ Den K H d v
  | [], _, _, _, _, e => by simp at e
  | d :: ds, vs, 0, d', h, e => by
    obtain ⟨v, r, rfl, h1, _⟩ := dens_cons.mp h
    simp at e; subst e
    exact ⟨v, rfl, h1⟩
  | d :: ds, vs, i + 1, d', h, e => by
    obtain ⟨v, r, rfl, _, h2⟩ := dens_cons.mp h
    obtain ⟨u, h3, h4⟩ := Dens.get (i := i) (d := d') h2 (by simpa using e)
    exact ⟨u, by simpa using h3, h4⟩
theorem Dens.get' : ∀ {ds : List D} {vs : List V} {i : Nat} {v : V}, Dens K H ds vs → vs[i]? = some v → ∃ d, ds[i]? = some d ∧ Den K H d v
  | [], _, _, _, h, e => by rw [dens_nil.mp h] at e; simp at e
  | d :: ds, vs, 0, v, h, e => by
    obtain ⟨v, r, rfl, h1, _⟩ := dens_cons.mp h
    simp at e; subst e
    exact ⟨d, rfl, h1⟩
  | d :: ds, vs, i + 1, v, h, e => by
    obtain ⟨v, r, rfl, _, h2⟩ := dens_cons.mp h
    obtain ⟨u, h3, h4⟩ := Dens.get' (i := i) h2 (by simpa using e)
    exact ⟨u, by simpa using h3, h4⟩
theorem Dens.append : ∀ {ds es : List D} {vs ws : List V}, Dens K H ds vs → Dens K H es ws → Dens K H (ds ++ es) (vs ++ ws)
  | [], _, vs, _, h, k => by rw [dens_nil.mp h]; exact k
  | d :: ds, es, vs, ws, h, k => by
    obtain ⟨v, r, rfl, h1, h2⟩ := dens_cons.mp h
    exact dens_cons.mpr ⟨v, r ++ ws, rfl, h1, Dens.append h2 k⟩
theorem Dens.one {d : D} {v : V} (h : Den K H d v) : Dens K H [d] [v] := dens_cons.mpr ⟨v, [], rfl, h, dens_nil.mpr rfl⟩
theorem Dens.take : ∀ {ds : List D} {vs : List V} (n : Nat), Dens K H ds vs → Dens K H (ds.take n) (vs.take n)
  | _, _, 0, _ => dens_nil.mpr rfl
  | [], vs, n + 1, h => by rw [dens_nil.mp h]; exact dens_nil.mpr rfl
  | d :: ds, vs, n + 1, h => by
    obtain ⟨v, r, rfl, h1, h2⟩ := dens_cons.mp h
    exact dens_cons.mpr ⟨v, r.take n, rfl, h1, Dens.take n h2⟩
theorem Dens.drop : ∀ {ds : List D} {vs : List V} (n : Nat), Dens K H ds vs → Dens K H (ds.drop n) (vs.drop n)
  | _, _, 0, h => h
  | [], vs, n + 1, h => by rw [dens_nil.mp h]; exact dens_nil.mpr rfl
  | d :: ds, vs, n + 1, h => by
    obtain ⟨v, r, rfl, h1, h2⟩ := dens_cons.mp h
    exact Dens.drop n h2
theorem Dens.reverse : ∀ {ds : List D} {vs : List V}, Dens K H ds vs → Dens K H ds.reverse vs.reverse
  | [], vs, h => by rw [dens_nil.mp h]; exact dens_nil.mpr rfl
  | d :: ds, vs, h => by
    obtain ⟨v, r, rfl, h1, h2⟩ := dens_cons.mp h
    rw [List.reverse_cons, List.reverse_cons]
    exact (Dens.reverse h2).append (.one h1)
theorem Dens.set {d : D} {v : V} (hd : Den K H d v) : ∀ {ds : List D} {vs : List V} (i : Nat), Dens K H ds vs → Dens K H (ds.set i d) (vs.set i v)
  | [], vs, _, h => by rw [dens_nil.mp h]; exact dens_nil.mpr rfl
  | e :: ds, vs, 0, h => by
    obtain ⟨w, r, rfl, h1, h2⟩ := dens_cons.mp h
    exact dens_cons.mpr ⟨v, r, rfl, hd, h2⟩
  | e :: ds, vs, i + 1, h => by
    obtain ⟨w, r, rfl, h1, h2⟩ := dens_cons.mp h
    exact dens_cons.mpr ⟨w, r.set i v, rfl, h1, Dens.set hd i h2⟩
theorem Dens.eraseIdx : ∀ {ds : List D} {vs : List V} (i : Nat), Dens K H ds vs → Dens K H (ds.eraseIdx i) (vs.eraseIdx i)
  | [], vs, _, h => by rw [dens_nil.mp h]; exact dens_nil.mpr rfl
  | e :: ds, vs, 0, h => by
    obtain ⟨w, r, rfl, h1, h2⟩ := dens_cons.mp h
    exact h2
  | e :: ds, vs, i + 1, h => by
    obtain ⟨w, r, rfl, h1, h2⟩ := dens_cons.mp h
    exact dens_cons.mpr ⟨w, r.eraseIdx i, rfl, h1, Dens.eraseIdx i h2⟩
/-- scalars -/
theorem Dens.map {α : Type} (f : α → D) (g : α → V) (h : ∀ x, Den K H (f x) (g x)) : ∀ xs : List α, Dens K H (xs.map f) (xs.map g)
  | [] => dens_nil.mpr rfl
  | x :: xs => dens_cons.mpr ⟨g x, xs.map g, rfl, h x, Dens.map f g h xs⟩
theorem Dens.ints : ∀ {ns : List Int} {vs : List V}, Dens K H (ns.map D.int) vs → vs = ns.map V.int
  | [], vs, h => dens_nil.mp h
  | n :: ns, vs, h => by
    obtain ⟨v, r, rfl, h1, h2⟩ := dens_cons.mp (show Dens K H (D.int n :: ns.map D.int) vs from h)
    rw [den_int.mp h1, Dens.ints h2]
    rfl
theorem Dens.strs : ∀ {ns : List Str} {vs : List V}, Dens K H (ns.map D.str) vs → vs = ns.map V.str
  | [], vs, h => dens_nil.mp h
  | n :: ns, vs, h => by
    obtain ⟨v, r, rfl, h1, h2⟩ := dens_cons.mp (show Dens K H (D.str n :: ns.map D.str) vs from h)
    rw [den_str.mp h1, Dens.strs h2]
    rfl
theorem Dens.bls : ∀ {ns : List Bool} {vs : List V}, Dens K H (ns.map D.bl) vs → vs = ns.map V.bl
  | [], vs, h => dens_nil.mp h
  | n :: ns, vs, h => by
    obtain ⟨v, r, rfl, h1, h2⟩ := dens_cons.mp (show Dens K H (D.bl n :: ns.map D.bl) vs from h)
    rw [den_bl.mp h1, Dens.bls h2]
    rfl
end

/-- pairs of one key each -/
def KDen {κ : Type} (K : PySem.W.Frag) (H : Hp) (kvs : List (κ × D)) (kws : List (κ × V)) : Prop := kvs.map (·.1) = kws.map (·.1) ∧ Dens K H (kvs.map (·.2)) (kws.map (·.2))
theorem KDen.mono {κ : Type} {K : PySem.W.Frag} {H H' : Hp} (x : Ext H H') {kvs : List (κ × D)} {kws : List (κ × V)} (h : KDen K H kvs kws) : KDen K H' kvs kws := ⟨h.1, Dens.mono x _ _ h.2⟩

/-- the object o of trees is the object u of the hand layer -/
def RV (K : PySem.W.Frag) (H : Hp) : DO → HO → Prop
  | .lst xs, u => ∃ vs, u = .lst vs ∧ Dens K H xs vs
  | .dic kvs, u => ∃ kws, u = .dK kws ∧ KDen K H kvs kws
  | .dct kvs, u => ∃ kws, u = .dT kws ∧ KDen K H kvs kws
  | .ins C fs, u => ∃ dx ws, u = .ins C dx ws ∧ KDen K H fs ws
  | .lck o, u => ∃ ob w, u = .frz ob w ∧ RV K H o w
  | .raw o, u => u = o ∧ ∀ ps, o ≠ .tbl ps
  | .xd fs, u => ∃ ws, u = .xd ws ∧ KDen K H fs ws
  | .tab q, u => ∃ ps : Array Value, u = .tbl ps ∧ TriplesOk ps.toList ∧ ∀ (pos : Pos) (cv : Value), codeAmong pos ps.toList = some cv → ∃ c, cv = .ref c ∧ H c = some (LamX.CodeO c q)
theorem RV.mono {K : PySem.W.Frag} {H H' : Hp} (x : Ext H H') : ∀ {o : DO} {u : HO}, RV K H o u → RV K H' o u := by
  intro o
  induction o with
  | lst xs => rintro u ⟨vs, e, h⟩; exact ⟨vs, e, Dens.mono x _ _ h⟩
  | dic kvs => rintro u ⟨kws, e, h⟩; exact ⟨kws, e, h.mono x⟩
  | dct kvs => rintro u ⟨kws, e, h⟩; exact ⟨kws, e, h.mono x⟩
  | ins C fs => rintro u ⟨dx, ws, e, h⟩; exact ⟨dx, ws, e, h.mono x⟩
  | lck o ih => rintro u ⟨ob, w, e, h⟩; exact ⟨ob, w, e, ih h⟩
  | raw o => intro u h; exact h
  | xd fs => rintro u ⟨ws, e, h⟩; exact ⟨ws, e, h.mono x⟩
  | tab q => rintro u ⟨ps, e, t, h⟩; exact ⟨ps, e, t, fun pos cv z => let ⟨c, e1, e2⟩ := h pos cv z; ⟨c, e1, x _ _ trivial e2⟩⟩
/-- the heap G of trees is held by the hand layer's heap H -/
def RH (K : PySem.W.Frag) (H : Hp) (G : HD) : Prop := ∀ a o, G a = some o → ∃ u, H a = some u ∧ RV K H o u
/-- the slots -/
def RS (K : PySem.W.Frag) (H : Hp) (S : DS) (σ : St) : Prop := S.length = σ.length ∧ ∀ (i : Nat) (d : D), S[i]? = some (some d) → ∃ v, σ[i]? = some (some v) ∧ Den K H d v
theorem RS.mono {K : PySem.W.Frag} {H H' : Hp} {S : DS} {σ : St} (x : Ext H H') (h : RS K H S σ) : RS K H' S σ := ⟨h.1, fun i d e => let ⟨v, e1, e2⟩ := h.2 i d e; ⟨v, e1, Den.mono x _ _ e2⟩⟩
theorem RS.set {K : PySem.W.Frag} {H : Hp} {S : DS} {σ : St} {d : D} {v : V} (i : Nat) (h : RS K H S σ) (hd : Den K H d v) : RS K H (S.set i (some d)) (σ.set i (some v)) := by
  refine ⟨by simp [h.1], fun j e hj => ?_⟩
  by_cases c : i = j
  · subst c
    by_cases l : i < S.length
    · rw [List.getElem?_set_self l] at hj
      cases hj
      exact ⟨v, List.getElem?_set_self (by rw [← h.1]; exact l), hd⟩
    · rw [List.getElem?_eq_none (by simpa using l)] at hj
      cases hj
  · rw [List.getElem?_set_ne c] at hj
    obtain ⟨w, e1, e2⟩ := h.2 j e hj
    exact ⟨w, by rw [List.getElem?_set_ne c]; exact e1, e2⟩
/-- G' says no more than G -/
def Sub (G' G : HD) : Prop := ∀ a o, G' a = some o → G a = some o
theorem Sub.refl (G : HD) : Sub G G := fun _ _ h => h
theorem RH.sub {K : PySem.W.Frag} {H : Hp} {G G' : HD} (h : RH K H G) (s : Sub G' G) : RH K H G' := fun a o e => h a o (s a o e)
theorem Sub.put {G : HD} {p : Addr} {o : DO} (h : G p = none) : Sub G (put G p o) := fun a u e => by
  rw [put_ne (ne_new e h)]; exact e
theorem Sub.trans {G G1 G2 : HD} (a : Sub G G1) (b : Sub G1 G2) : Sub G G2 := fun x o h => b x o (a x o h)
theorem Sub.same {G G' : HD} {p : Addr} {o : DO} (h : Sub G G') : Sub (Dd.put G p o) (Dd.put G' p o) := fun a u e => by
  by_cases c : a = p
  · subst c; rw [put_same] at e ⊢; exact e
  · rw [put_ne c] at e ⊢; exact h a u e

section
variable {K : PySem.W.Frag} {H : Hp} {G : HD}
theorem RH.free {p : Addr} (h : RH K H G) (e : H p = none) : G p = none := by
  cases q : G p with
  | none => rfl
  | some o =>
    obtain ⟨u, e1, _⟩ := h p o q
    rw [e] at e1; cases e1
/-- a new object of the hand layer that the trees do not see (a tuple) -/
theorem RH.newH {p : Addr} {u : HO} (h : RH K H G) (e : H p = none) : RH K (upd H p u) G := fun a o q => by
  obtain ⟨w, e1, r⟩ := h a o q
  exact ⟨w, by rw [upd_ne (ne_of_none e1 e)]; exact e1, r.mono (Ext.new e)⟩
/-- a new object -/
theorem RH.new {p : Addr} {u : HO} {o : DO} (h : RH K H G) (e : H p = none) (r : RV K H o u) : RH K (upd H p u) (put G p o) := fun a w q => by
  by_cases c : a = p
  · subst c
    rw [put_same] at q
    cases q
    exact ⟨u, upd_same, r.mono (Ext.new e)⟩
  · rw [put_ne c] at q
    exact h.newH e a w q
/-- an object is changed -/
theorem RH.set {p : Addr} {u u0 : HO} {o : DO} (h : RH K H G) (e : H p = some u0) (n : ¬ Stb u0) (r : RV K H o u) : RH K (upd H p u) (put G p o) := fun a w q => by
  by_cases c : a = p
  · subst c
    rw [put_same] at q
    cases q
    exact ⟨u, upd_same, r.mono (Ext.set e n)⟩
  · rw [put_ne c] at q
    obtain ⟨w', e1, r'⟩ := h a w q
    exact ⟨w', by rw [upd_ne c]; exact e1, r'.mono (Ext.set e n)⟩
theorem RH.newLst {p : Addr} {xs : List D} {vs : List V} (h : RH K H G) (e : H p = none) (d : Dens K H xs vs) : RH K (upd H p (.lst vs)) (put G p (.lst xs)) := h.new e ⟨vs, rfl, d⟩
theorem RH.setLst {p : Addr} {xs : List D} {vs ws : List V} (h : RH K H G) (e : H p = some (.lst ws)) (d : Dens K H xs vs) : RH K (upd H p (.lst vs)) (put G p (.lst xs)) := h.set e id ⟨vs, rfl, d⟩
theorem Ext.setLst {p : Addr} {ws : List V} {o : HO} (e : H p = some (.lst ws)) : Ext H (upd H p o) := Ext.set e id
theorem RH.newDic {p : Addr} {kvs : List (Key × D)} {kws : List (Key × V)} (h : RH K H G) (e : H p = none) (d : KDen K H kvs kws) : RH K (upd H p (.dK kws)) (put G p (.dic kvs)) := h.new e ⟨kws, rfl, d⟩
theorem RH.setDic {p : Addr} {kvs : List (Key × D)} {kws ws : List (Key × V)} (h : RH K H G) (e : H p = some (.dK ws)) (d : KDen K H kvs kws) : RH K (upd H p (.dK kws)) (put G p (.dic kvs)) := h.set e id ⟨kws, rfl, d⟩
theorem RH.newDct {p : Addr} {kvs : List (List Key × D)} {kws : List (List Key × V)} (h : RH K H G) (e : H p = none) (d : KDen K H kvs kws) : RH K (upd H p (.dT kws)) (put G p (.dct kvs)) := h.new e ⟨kws, rfl, d⟩
theorem RH.setDct {p : Addr} {kvs : List (List Key × D)} {kws ws : List (List Key × V)} (h : RH K H G) (e : H p = some (.dT ws)) (d : KDen K H kvs kws) : RH K (upd H p (.dT kws)) (put G p (.dct kvs)) := h.set e id ⟨kws, rfl, d⟩
theorem RH.setIns {p C dx : Addr} {fs : List (Str × D)} {ws ws0 : List (Str × V)} (h : RH K H G) (e : H p = some (.ins C dx ws0)) (d : KDen K H fs ws) : RH K (upd H p (.ins C dx ws)) (put G p (.ins C fs)) := h.set e id ⟨dx, ws, rfl, d⟩
theorem RH.lst {p : Addr} {xs : List D} (h : RH K H G) (e : G p = some (.lst xs)) : ∃ vs, H p = some (.lst vs) ∧ Dens K H xs vs := by
  obtain ⟨u, e1, vs, rfl, r⟩ := h p _ e
  exact ⟨vs, e1, r⟩
theorem RH.dic {p : Addr} {kvs : List (Key × D)} (h : RH K H G) (e : G p = some (.dic kvs)) : ∃ kws, H p = some (.dK kws) ∧ KDen K H kvs kws := by
  obtain ⟨u, e1, vs, rfl, r⟩ := h p _ e
  exact ⟨vs, e1, r⟩
theorem RH.dct {p : Addr} {kvs : List (List Key × D)} (h : RH K H G) (e : G p = some (.dct kvs)) : ∃ kws, H p = some (.dT kws) ∧ KDen K H kvs kws := by
  obtain ⟨u, e1, vs, rfl, r⟩ := h p _ e
  exact ⟨vs, e1, r⟩
theorem RH.ins {p C : Addr} {fs : List (Str × D)} (h : RH K H G) (e : G p = some (.ins C fs)) : ∃ dx ws, H p = some (.ins C dx ws) ∧ KDen K H fs ws := by
  obtain ⟨u, e1, dx, ws, rfl, r⟩ := h p _ e
  exact ⟨dx, ws, e1, r⟩
end

/-! ### readings, over a base B: the entry's heap -/
section
variable (K : PySem.W.Frag) (B : Hp)
/-- what is to be shown of a reading te, over trees: slots S, heap G, wish Q -/
def RdE (te : TE) (S : DS) (G : HD) (Q : D → HD → Prop) : Prop :=
  ∀ (σ : St) (H : Hp) (P : VK), Ext B H → RS K H S σ → RH K H G → (∀ v H' d G', Ext H H' → RH K H' G' → Den K H' d v → Q d G' → P v H') → te σ H P
def RdT (tt : TT) (S : DS) (G : HD) (Q : Bool → HD → Prop) : Prop :=
  ∀ (σ : St) (H : Hp) (P : Bool → Hp → Prop), Ext B H → RS K H S σ → RH K H G → (∀ b H' G', Ext H H' → RH K H' G' → Q b G' → P b H') → tt σ H P
def RdA (ta : TA) (S : DS) (G : HD) (Q : List D → HD → Prop) : Prop :=
  ∀ (σ : St) (H : Hp) (P : List V → Hp → Prop), Ext B H → RS K H S σ → RH K H G → (∀ vs H' ds G', Ext H H' → RH K H' G' → Dens K H' ds vs → Q ds G' → P vs H') → ta σ H P
def RdG (tg : TG) (d : D) (S : DS) (G : HD) (Q : DS → HD → Prop) : Prop :=
  ∀ (v : V) (σ : St) (H : Hp) (P : St → Hp → Prop), Ext B H → Den K H d v → RS K H S σ → RH K H G → (∀ σ' H' S' G', Ext H H' → RS K H' S' σ' → RH K H' G' → Q S' G' → P σ' H') → tg v σ H P
def RdGs (tg : TGs) (ds : List D) (S : DS) (G : HD) (Q : DS → HD → Prop) : Prop :=
  ∀ (vs : List V) (σ : St) (H : Hp) (P : St → Hp → Prop), Ext B H → Dens K H ds vs → RS K H S σ → RH K H G → (∀ σ' H' S' G', Ext H H' → RS K H' S' σ' → RH K H' G' → Q S' G' → P σ' H') → tg vs σ H P
structure DEnds where
  nx : DS → HD → Prop
  rt : D → HD → Prop
  bk : DS → HD → Prop := fun _ _ => False
  ct : DS → HD → Prop := fun _ _ => False
/-- a wish over slots and heaps, and one over trees -/
def NxC (H : Hp) (N : DS → HD → Prop) (P : St → Hp → Prop) : Prop := ∀ σ' H' S' G', Ext H H' → RS K H' S' σ' → RH K H' G' → N S' G' → P σ' H'
structure EndsC (H : Hp) (DD : DEnds) (D : Ends) : Prop where
  nx : NxC K H DD.nx D.nx
  rt : ∀ v H' d G', Ext H H' → RH K H' G' → Den K H' d v → DD.rt d G' → D.rt v H'
  bk : NxC K H DD.bk D.bk
  ct : NxC K H DD.ct D.ct
def RdS (ts : TS) (S : DS) (G : HD) (DD : DEnds) : Prop :=
  ∀ (σ : St) (H : Hp) (D : Ends), Ext B H → RS K H S σ → RH K H G → EndsC K H DD D → ts D σ H
/-- an exception's own fields: its class at C, its dict d -/
abbrev XD := Addr → List (Str × D) → HD → Prop
def XF (H : Hp) (G : HD) (d : Option Addr) (fs : List (Str × D)) : Prop := match d with
  | none => fs = []
  | some dx => G dx = none ∧ ∃ ws, H dx = some (.xd ws) ∧ KDen K H fs ws
/-- a wish about exceptions over trees, and one of the hand layer (a def's) -/
def XC (ED : XD) (E : XK) : Prop := ∀ C d H G fs, Ext B H → RH K H G → XF K H G d fs → ED C fs G → E (.ref C) d H
/-- .. a body's, with slots -/
abbrev WD := Addr → List (Str × D) → DS → HD → Prop
def WC (wd : WD) (W : WX) : Prop := ∀ C d σ H S G fs, Ext B H → RS K H S σ → RH K H G → XF K H G d fs → wd C fs S G → W (.ref C) d σ H
end
/-- a weaker heap will do -/
def Wk (Q : D → HD → Prop) : D → HD → Prop := fun d G => ∃ G', Sub G' G ∧ Q d G'
def WkX (E : XD) : XD := fun C fs G => ∃ G', Sub G' G ∧ E C fs G'
section
variable {K : PySem.W.Frag} {B : Hp}
theorem NxC.mono {H H1 : Hp} {N : DS → HD → Prop} {P : St → Hp → Prop} (x : Ext H H1) (h : NxC K H N P) : NxC K H1 N P := fun σ' H' S' G' x' => h σ' H' S' G' (x.trans x')
theorem EndsC.mono {H H1 : Hp} {DD : DEnds} {D : Ends} (x : Ext H H1) (h : EndsC K H DD D) : EndsC K H1 DD D :=
  ⟨h.nx.mono x, fun v H' d G' x' => h.rt v H' d G' (x.trans x'), h.bk.mono x, h.ct.mono x⟩
theorem RdE.imp {te : TE} {S : DS} {G : HD} {Q Q' : D → HD → Prop} (h : RdE K B te S G Q) (k : ∀ d G', Q d G' → Q' d G') : RdE K B te S G Q' :=
  fun σ H P bx rs rh c => h σ H P bx rs rh fun v H' d G' x r e q => c v H' d G' x r e (k d G' q)
/-- less of the heap is enough -/
theorem RdE.weak {te : TE} {S : DS} {G G' : HD} {Q : D → HD → Prop} (s : Sub G' G) (h : RdE K B te S G' Q) : RdE K B te S G Q := fun σ H P bx rs rh c => h σ H P bx rs (rh.sub s) c
theorem RdS.weak {ts : TS} {S : DS} {G G' : HD} {DD : DEnds} (s : Sub G' G) (h : RdS K B ts S G' DD) : RdS K B ts S G DD := fun σ H D bx rs rh c => h σ H D bx rs (rh.sub s) c
theorem XF.sub {H : Hp} {G G' : HD} {d : Option Addr} {fs : List (Str × D)} (s : Sub G' G) (h : XF K H G d fs) : XF K H G' d fs := by
  cases d with
  | none => exact h
  | some dx =>
    obtain ⟨e, r⟩ := h
    refine ⟨?_, r⟩
    cases q : G' dx with
    | none => rfl
    | some o => rw [s dx o q] at e; cases e
theorem WC.of {ED : XD} {E : XK} (h : XC K B ED E) : WC K B (fun C fs _ G => WkX ED C fs G) (fun cls d _ H => E cls d H) := fun C d _ H _ G fs x _ rh xf q =>
  let ⟨G', s, q'⟩ := q
  h C d H G' fs x (rh.sub s) (xf.sub s) q'
end
end Dd
set_option Elab.async false
set_option linter.all false
set_option maxRecDepth 100000
/-! D1: defs and their calls: as the hand layer has them, but with what is under way of guards (repr) told, and promises over trees. -/
namespace Dd
open PySem PySem.Spec L2
open PyProof.Rows hiding St

structure RoomG (k : Nat) (A : Around) : Prop where
  rm : Room k A
  gd : A.guards = some []
theorem RoomG.mono {j k : Nat} {A : Around} (r : RoomG k A) (h : j ≤ k) : RoomG j A := ⟨r.rm.mono h, r.gd⟩
theorem RoomG.deeper {k : Nat} {A : Around} (r : RoomG (k + 1) A) (env : Env) : RoomG k (A.deeper env) := ⟨r.rm.deeper env, r.gd⟩
theorem RoomG.make {k : Nat} {A : Around} (r : RoomG (k + 1) A) (C : Addr) (us : List Value) (kw : List (Str × Value)) : RoomG k (A.under (.builtin "type.__call__" ⟨.ref C :: us, kw⟩)) := by
  refine ⟨r.rm.make C us kw, ?_⟩
  have e := r.gd
  first | exact e | (simp [Around.under, pushGuards, Code.guards, Code.isGuard, guardIds, e])

/-- a def that keeps its promise (L2.FnOk with the guards told) -/
structure FnG (P : Program) (w : World) (K : PySem.W.Frag) (mg : Str → Option Value) (base : Heap) (k : Nat) (f : Addr) (fd : FuncData) (ps : List Str) (sp : Sp) : Prop where
  len : ∀ vs H Q E, sp vs H Q E → vs.length = ps.length
  run : ∀ (A : Around) (outer : List Env) (s : Shared) (H : Hp) (args : Args) (us : List Value) (vs : List V) (Q : VK) (E : XK), RoomG k A → Env0 P w K mg base A outer s H → BindsTo s fd args (ps.zip us) → Vals vs us → sp vs H Q E →
    codeAny (model P w) A (.call (.ref f) args) (CR (L2.CX P w) outer P w H s Q E) s
theorem FnG.mono {P : Program} {w : World} {K : PySem.W.Frag} {mg : Str → Option Value} {base : Heap} {j k : Nat} {f : Addr} {fd : FuncData} {ps : List Str} {sp : Sp} (F : FnG P w K mg base j f fd ps sp) (h : j ≤ k) :
    FnG P w K mg base k f fd ps sp := ⟨F.len, fun A outer s H args us vs Q E hr => F.run A outer s H args us vs Q E (hr.mono h)⟩

section
variable {P : Program} {w : World} {K : PySem.W.Frag} {mg : Str → Option Value} {base : Heap}
theorem fn_ofG {k : Nat} {f : Addr} {name qual : Str} {params : Arguments} {body : List Stmt} {scope : Scope} {dV kV doc pm cdv ct oc : Value} {an od : Option Addr}
    {osl : Array (Option Value)} {N ps : List Str} {sp : Sp} (lk : K.lookup f = some ⟨oc, od, .func (PySem.W.fnOf name qual params body scope dV kV doc pm an cdv ct), osl⟩) (hcd : PySem.W.codeIn K cdv qual = true) (S : FnScope N ps scope)
    (len : ∀ vs H Q E, sp vs H Q E → vs.length = ps.length)
    (hbody : ∀ (A : Around) (outer : List Env) (s : Shared) (H : Hp) (vs : List V) (Q : VK) (E : XK), RoomG k (A.deeper (envOfC qual scope s.heap.objs.size f cdv)) → sp vs H Q E →
      ∃ t, PSs (cxOf (L2.CX P w) P w K mg base N qual scope f cdv A outer s H E) body t ∧ t { nx := fun _ H' => Q .non H', rt := Q } (L2.start N vs) H) :
    FnG P w K mg base (k + 1) f (PySem.W.fnOf name qual params body scope dV kV doc pm an cdv ct) ps sp := by
  refine ⟨len, fun A outer s H args us vs Q E hr e0 hb r hsp => ?_⟩
  have hl := len _ _ _ _ hsp
  have KX : K.In s.heap := e0.mod.kin.keeps fun b o e => (e0.bs b o e).1
  have lim : s.heap.NoLimit := e0.mod.nolimit.keeps fun b o e => (e0.bs b o e).1
  have hkind : ∀ y ∈ ps.zip us, scope.names.lookup y.1 = some .local ∨ (scope.names.lookup y.1 = some .cell ∧ ((cellsFrom (s.heap.objs.size + 1) scope.names []).lookup y.1).isSome = true) := fun ⟨n, v⟩ hy => by
    rcases S.par n (List.of_mem_zip hy).1 with q | q
    · exact .inl q
    · exact .inr ⟨q, PySem.W.cellsFrom_some _ _ _ (.inl q)⟩
  refine codeAny_call_function hr.rm.depth (KX _ _ lk) rfl S.co S.gen rfl (PySem.W.codeRec_of KX hcd) (hb _ _ _ _ ?_)
  refine wpAny_newFunctionEnv_cells S.kind hkind fun env he s1 x => ?_
  subst he
  refine ⟨lim.keeps x.toInCall.keep, codeAny_func ?_⟩
  obtain ⟨t, ht, hq⟩ := hbody A outer s H vs Q E (hr.deeper _) hsp
  have I : Inv (cxOf (L2.CX P w) P w K mg base N qual scope f cdv A outer s H E) [] (L2.start N vs) H s1 := inv_start S hr.rm.hd e0 hl r x
  refine wpAny_mono (ht.run [] s1 (L2.start N vs) H _ I hq) (fun fl s' hs => ?_) fun e s' hs => hs
  have fin : ∀ {σ' : L2.St} {H' : Hp} {v : V} {u : Value}, Inv (cxOf (L2.CX P w) P w K mg base N qual scope f cdv A outer s H E) [] σ' H' s' → RelV v u → Q v H' → CE outer P w H s Q u s' :=
    fun {σ' H' v u} J rv q => ⟨v, H', J.os, J.bare, J.base, J.hok, rv, q⟩
  cases fl with
  | ret u =>
    obtain ⟨v, σ', H', J, rv, q⟩ := hs
    exact fin J rv q
  | next =>
    obtain ⟨σ', H', J, q⟩ := hs
    exact fin (v := V.non) (u := Value.none) J rfl q
  | brk =>
    obtain ⟨_, _, _, q⟩ := hs
    exact False.elim q
  | cont =>
    obtain ⟨_, _, _, q⟩ := hs
    exact False.elim q

/-- a promise over trees: arguments, heap, wish, wish about exceptions -/
abbrev SpD := List D → HD → (D → HD → Prop) → XD → Prop
/-- .. as the hand layer has it -/
def spOf (K : PySem.W.Frag) (sd : SpD) : Sp := fun vs H Q E => ∃ ds G QD ED, Dens K H ds vs ∧ RH K H G ∧ sd ds G QD ED ∧
  (∀ v H' d G', Ext H H' → RH K H' G' → Den K H' d v → QD d G' → Q v H') ∧ XC K H ED E
def startD (N : List Str) (ds : List D) : DS := ds.map some ++ List.replicate (N.length - ds.length) none
theorem rs_start {H : Hp} {N : List Str} {ds : List D} {vs : List V} (h : Dens K H ds vs) : RS K H (startD N ds) (L2.start N vs) := by
  have hl := h.len
  refine ⟨by simp [startD, L2.start, hl], fun i d e => ?_⟩
  unfold startD at e
  by_cases hi : i < ds.length
  · rw [List.getElem?_append_left (by simpa using hi), List.getElem?_map] at e
    cases q : ds[i]? with
    | none => rw [q] at e; cases e
    | some d' =>
      rw [q] at e
      cases e
      obtain ⟨v, e1, e2⟩ := h.get q
      refine ⟨v, ?_, e2⟩
      unfold L2.start
      rw [List.getElem?_append_left (by simp; omega), List.getElem?_map, e1]
      rfl
  · rw [List.getElem?_append_right (by simpa using hi), List.getElem?_replicate] at e
    split at e <;> cases e

/-- THE RULE: the body's term, and its reading over trees -/
theorem okG {x qual : Str} {st : Stmt} {f : Addr} {fd : FuncData} {N ps : List Str} {k : Nat} {sd : SpD} (F : Fun K x qual st f fd) (S : FnScope N ps (defScope st)) (len : ∀ ds G Q E, sd ds G Q E → ds.length = ps.length)
    (hbody : ∀ (cdv : Value) (A : Around) (outer : List Env) (s : Shared) (H : Hp) (E : XK), RoomG k (A.deeper (envOfC qual (defScope st) s.heap.objs.size f cdv)) →
      Takes (cxOf (L2.CX P w) P w K mg base N qual (defScope st) f cdv A outer s H E) (fun cls d _ H => E cls d H) →
      ∃ t, PSs (cxOf (L2.CX P w) P w K mg base N qual (defScope st) f cdv A outer s H E) (defBody st) t ∧
        ∀ ds G QD ED, sd ds G QD ED → WC K H (fun C fs _ G => WkX ED C fs G) (fun cls d _ H => E cls d H) → RdS K H t (startD N ds) G ⟨fun _ G' => Wk QD .non G', Wk QD, fun _ _ => False, fun _ _ => False⟩) :
    FnG P w K mg base (k + 1) f fd ps (spOf K sd) := by
  obtain ⟨oc, od, kV, doc, pm, an, cdv, ct, osl, rfl, lk, hcd⟩ := F.ex
  refine fn_ofG lk hcd S ?_ fun A outer s H vs Q E hr hsp => ?_
  · rintro vs H Q E ⟨ds, G, QD, ED, h1, h2, h3, _⟩
    rw [← h1.len]
    exact len _ _ _ _ h3
  · obtain ⟨ds, G, QD, ED, h1, h2, h3, h4, h5⟩ := hsp
    obtain ⟨t, ht, rd⟩ := hbody cdv A outer s H E hr (takes_of rfl rfl rfl rfl)
    refine ⟨t, ht, rd ds G QD ED h3 (WC.of h5) _ _ _ (Ext.refl _) (rs_start h1) h2 ?_⟩
    refine ⟨fun σ' H' S' G' x rs rh q => ?_, fun v H' d G' x rh e q => ?_, fun _ _ _ _ _ _ _ q => q.elim, fun _ _ _ _ _ _ _ q => q.elim⟩
    · obtain ⟨G2, s2, q⟩ := q
      exact h4 .non H' .non G2 x (rh.sub s2) (den_non.mpr rfl) q
    · obtain ⟨G2, s2, q⟩ := q
      exact h4 v H' d G2 x (rh.sub s2) e q
end

/-! ### calls -/
section
variable {X : Cx} {k : Nat} {f C : Addr} {fd : FuncData} {ps ks : List Str} {sp : Sp} {dvs : List V} {ds : List Value} {W : WX} {x m : Str} {p pos apos kpos : Pos} {e o : Expr} {es : List Expr} {kws : List Keyword} {ta : TE} {t tk : TA}

theorem run_fnG {pins : List (Addr × Obj)} {σ : L2.St} {H : Hp} {s : Shared} {Q : VK} {us : List Value} {vs : List V} (F : FnG X.prog X.w X.K X.mg X.base k f fd ps sp) (hr : RoomG k X.A) (hb : Binds X.K fd ps ds) (hd : Vals dvs ds) (hx : Takes X W)
    (I : Inv X pins σ H s) (r : Vals vs us) (h : sp (vs ++ dvs) H Q (WE W σ)) : wpAny (model X.prog X.w) X.A (call (.ref f) us) (EP X pins σ Q) X.xe s := by
  have r2 : Vals (vs ++ dvs) (us ++ ds) := r.append hd
  have hl : (us ++ ds).length = ps.length := by rw [← r2.length]; exact F.len _ _ _ _ h
  refine wpAny_call (codeAny_mono (F.run X.A X.stack s H ⟨us, []⟩ (us ++ ds) (vs ++ dvs) Q (WE W σ) hr I.env0 (hb s us I.kIn hl) r2 h) fun r s' hq => ?_)
  cases r with
  | error e => exact passAt hx σ pins H s e s' I hq
  | ok fl =>
    cases fl with
    | ret u => exact I.after hq
    | next => exact False.elim hq
    | brk => exact False.elim hq
    | cont => exact False.elim hq
/-- f(..): the written arguments, then the defaults -/
def tCallG (sp : Sp) (dvs : List V) (W : WX) (t : TA) : TE := fun σ H Q => t σ H fun vs H1 => sp (vs ++ dvs) H1 Q (WE W σ)
theorem pe_callG (F : FnG X.prog X.w X.K X.mg X.base k f fd ps sp) (hr : RoomG k X.A) (hg : Gl X x) (hm : X.mg x = some (.ref f)) (hk : PySem.W.keepIn X.K (.ref f) = true) (hb : Binds X.K fd ps ds) (hd : Vals dvs ds) (hx : Takes X W)
    (ha : PA X (e :: es) t) (hdb : (x == ("__debug__" : Str)) = false := by decide) (he : starEach (e :: es) X.env = (false, eval e X.env) :: starEach es X.env := by rfl) (hpl : (backTo pos (starEach es X.env)).any (·.1) = false := by rfl) :
    PE X (.Call (.Name x p) (e :: es) [] pos) (tCallG sp dvs W t) := by
  refine ⟨fun pins s σ H Q I h => ?_⟩
  refine wpAny_Call_Name_kw (ld_glob I hg hm ?_ hdb)
  refine PySem.W.callWith_K (h₀ := X.base) I.ok.mod.kin hk (thn (ha.run pos pins s σ H _ I h) fun us s1 ⟨vs, H1, I1, r, q⟩ => ⟨I1.kIn, ?_⟩) he hpl
  exact run_fnG F hr hb hd hx I1 r q
theorem pe_call0G (F : FnG X.prog X.w X.K X.mg X.base k f fd ps sp) (hr : RoomG k X.A) (hg : Gl X x) (hm : X.mg x = some (.ref f)) (hk : PySem.W.keepIn X.K (.ref f) = true) (hb : Binds X.K fd ps ds) (hd : Vals dvs ds) (hx : Takes X W)
    (hdb : (x == ("__debug__" : Str)) = false := by decide) : PE X (.Call (.Name x p) [] [] pos) (tCallG sp dvs W tNil) := by
  refine ⟨fun pins s σ H Q I h => ?_⟩
  refine wpAny_Call_Name_kw (ld_glob I hg hm ?_ hdb)
  exact PySem.W.callWith_K0 I.kIn hk (run_fnG (us := []) F hr hb hd hx I .nil h)
def tMethG (C : Addr) (m : Str) (sp : Sp) (dvs : List V) (W : WX) (ta : TE) (t : TA) : TE := fun σ H Q => ta σ H fun x H1 => ∃ a dx fs, x = .ref a ∧ H1 a = some (.ins C dx fs) ∧ fs.lookup m = none ∧
  t σ H1 fun vs H2 => sp (x :: (vs ++ dvs)) H2 Q (WE W σ)
theorem pe_methG {pl : Sem Bool} (he : PE X o ta) (c : Cls X.K C) (hm : Meth X.K C m f) (F : FnG X.prog X.w X.K X.mg X.base k f fd ps sp) (hr : RoomG k X.A) (hb : Binds X.K fd ps ds) (hd : Vals dvs ds) (hx : Takes X W) (ha : PA X (e :: es) t)
    (hst : starEach (e :: es) X.env = (false, eval e X.env) :: starEach es X.env := by rfl) (hpl : (backTo pos (starEach es X.env)).any (·.1) = false := by rfl)
    (ht : eval (.Call (.Attribute o m apos) (e :: es) [] pos) X.env = (do
      let ov ← eval o X.env
      standAt apos.atName
      let (f, first) ← holding [ov] (getMethod ov m pl)
      callWith pos f first (backTo pos (starEach (e :: es) X.env)) (backToKw pos (keywordEach [] X.env))) := by rfl) :
    PE X (.Call (.Attribute o m apos) (e :: es) [] pos) (tMethG C m sp dvs W ta t) := by
  refine ⟨fun pins s σ H Q I h => ?_⟩
  refine PySem.W.methodCall_KW (pl := pl) (thn (he.run pins s σ H _ I h) fun u s1 ⟨x, H1, I1, rx, a, dx, fs, ex, ea, l, q⟩ => ?_) ht
  subst ex
  obtain rfl : u = Value.ref a := rx
  refine getmeth_ok I1 ea c hm l ?_
  refine PySem.W.callWith_K (first := [.ref a]) (h₀ := X.base) I.ok.mod.kin hm.kp (thn (ha.run pos pins s1 σ H1 _ I1 q) fun us s2 ⟨vs, H2, I2, r, q2⟩ => ⟨I2.kIn, ?_⟩) hst hpl
  exact run_fnG (us := .ref a :: us) (vs := .ref a :: vs) F hr hb hd hx I2 (.cons rfl r) q2
theorem pe_meth0G {pl : Sem Bool} (he : PE X o ta) (c : Cls X.K C) (hm : Meth X.K C m f) (F : FnG X.prog X.w X.K X.mg X.base k f fd ps sp) (hr : RoomG k X.A) (hb : Binds X.K fd ps ds) (hd : Vals dvs ds) (hx : Takes X W)
    (ht : eval (.Call (.Attribute o m apos) [] [] pos) X.env = (do
      let ov ← eval o X.env
      standAt apos.atName
      let (f, first) ← holding [ov] (getMethod ov m pl)
      callWith pos f first (backTo pos (starEach [] X.env)) (backToKw pos (keywordEach [] X.env))) := by rfl) :
    PE X (.Call (.Attribute o m apos) [] [] pos) (tMethG C m sp dvs W ta tNil) := by
  refine ⟨fun pins s σ H Q I h => ?_⟩
  refine PySem.W.methodCall_KW (pl := pl) (thn (he.run pins s σ H _ I h) fun u s1 ⟨x, H1, I1, rx, a, dx, fs, ex, ea, l, q⟩ => ?_) ht
  subst ex
  obtain rfl : u = Value.ref a := rx
  refine getmeth_ok I1 ea c hm l ?_
  exact PySem.W.callWith_K0 (first := [.ref a]) I1.kIn hm.kp (run_fnG (us := [.ref a]) (vs := [.ref a]) F hr hb hd hx I1 (.cons rfl .nil) q)

theorem run_makeG {pins : List (Addr × Obj)} {σ : L2.St} {H : Hp} {s : Shared} {Q : VK} {us : List Value} {vs : List V} (M : Mk X.K C f) (F : FnG X.prog X.w X.K X.mg X.base k f fd ps sp) (hr : RoomG (k + 1) X.A) (hb : Binds X.K fd ps ds) (hd : Vals dvs ds)
    (hx : Takes X W) (I : Inv X pins σ H s) (r : Vals vs us)
    (h : ∀ x dx, H x = none → H dx = none → dx ≠ x → sp (.ref x :: (vs ++ dvs)) (upd (upd H dx (.own x)) x (.ins C dx [])) (fun v H2 => v = .non ∧ Q (.ref x) H2) (WE W σ)) :
    wpAny (model X.prog X.w) X.A (call (.ref C) us) (EP X pins σ Q) X.xe s := by
  have hq := h (s.heap.objs.size + 1) s.heap.objs.size (I.hok.fresh (Nat.le_succ _)) (I.hok.fresh (Nat.le_refl _)) (Nat.ne_of_lt (Nat.lt_succ_self _))
  have I2 := Inv.made (C := C) I
  have r2 : Vals (V.ref (s.heap.objs.size + 1) :: (vs ++ dvs)) (Value.ref (s.heap.objs.size + 1) :: (us ++ ds)) := .cons rfl (r.append hd)
  have hl : (Value.ref (s.heap.objs.size + 1) :: us ++ ds).length = ps.length := by
    have e := r2.length
    rw [F.len _ _ _ _ hq] at e
    exact e.symm
  refine wpAny_call (make_map (f := f) I.kIn M.makes M.init (beq_iff_eq.mp M.fn) (codeAny_mono (F.run _ X.stack _ _ ⟨Value.ref (s.heap.objs.size + 1) :: us, []⟩ (Value.ref (s.heap.objs.size + 1) :: (us ++ ds)) _ _ (WE W σ) (hr.make C us [])
    (I2.env0.make C us []) (hb _ (Value.ref (s.heap.objs.size + 1) :: us) I2.kIn hl) r2 hq) fun r s' hq' => ?_))
  cases r with
  | error e => exact passAt hx σ pins _ _ e s' I2 hq'
  | ok fl =>
    cases fl with
    | ret u =>
      obtain ⟨v, H', I3, rv, ev, q3⟩ := I2.after hq'
      subst ev
      exact ⟨rv, ⟨V.ref (s.heap.objs.size + 1), H', I3, rfl, q3⟩⟩
    | next => exact False.elim hq'
    | brk => exact False.elim hq'
    | cont => exact False.elim hq'
def tMakeG (C : Addr) (sp : Sp) (dvs : List V) (W : WX) (t : TA) : TE := fun σ H Q => t σ H fun vs H1 => ∀ x dx, H1 x = none → H1 dx = none → dx ≠ x →
  sp (.ref x :: (vs ++ dvs)) (upd (upd H1 dx (.own x)) x (.ins C dx [])) (fun v H2 => v = .non ∧ Q (.ref x) H2) (WE W σ)
theorem pe_makeG (M : Mk X.K C f) (F : FnG X.prog X.w X.K X.mg X.base k f fd ps sp) (hr : RoomG (k + 1) X.A) (hg : Gl X x) (hm : X.mg x = some (.ref C)) (hb : Binds X.K fd ps ds) (hd : Vals dvs ds) (hx : Takes X W)
    (ha : PA X (e :: es) t) (hdb : (x == ("__debug__" : Str)) = false := by decide) (he : starEach (e :: es) X.env = (false, eval e X.env) :: starEach es X.env := by rfl) (hpl : (backTo pos (starEach es X.env)).any (·.1) = false := by rfl) :
    PE X (.Call (.Name x p) (e :: es) [] pos) (tMakeG C sp dvs W t) := by
  refine ⟨fun pins s σ H Q I h => ?_⟩
  refine wpAny_Call_Name_kw (ld_glob I hg hm ?_ hdb)
  refine PySem.W.callWith_K (h₀ := X.base) I.ok.mod.kin M.kp (thn (ha.run pos pins s σ H _ I h) fun us s1 ⟨vs, H1, I1, r, q⟩ => ⟨I1.kIn, ?_⟩) he hpl
  exact run_makeG M F hr hb hd hx I1 r q
theorem pe_make0G (M : Mk X.K C f) (F : FnG X.prog X.w X.K X.mg X.base k f fd ps sp) (hr : RoomG (k + 1) X.A) (hg : Gl X x) (hm : X.mg x = some (.ref C)) (hb : Binds X.K fd ps ds) (hd : Vals dvs ds) (hx : Takes X W)
    (hdb : (x == ("__debug__" : Str)) = false := by decide) : PE X (.Call (.Name x p) [] [] pos) (tMakeG C sp dvs W tNil) := by
  refine ⟨fun pins s σ H Q I h => ?_⟩
  refine wpAny_Call_Name_kw (ld_glob I hg hm ?_ hdb)
  exact PySem.W.callWith_K0 I.kIn M.kp (run_makeG (us := []) M F hr hb hd hx I .nil h)
end
end Dd
set_option Elab.async false
set_option linter.all false
set_option maxRecDepth 100000
/-! D2: readings over trees: names, constants, operators, comparisons, tests, displays, statements, calls. -/
namespace Dd
open PySem PySem.Spec L2
open PyProof.Rows hiding St

section
variable (K : PySem.W.Frag)
def Cont (H : Hp) (Q : D → HD → Prop) (P : VK) : Prop := ∀ v H' d G', Ext H H' → RH K H' G' → Den K H' d v → Q d G' → P v H'
def ContT (H : Hp) (Q : Bool → HD → Prop) (P : Bool → Hp → Prop) : Prop := ∀ b H' G', Ext H H' → RH K H' G' → Q b G' → P b H'
def ContH (H : Hp) (Q : HD → Prop) (P : Hp → Prop) : Prop := ∀ H' G', Ext H H' → RH K H' G' → Q G' → P H'
abbrev R2D := D → D → HD → (D → HD → Prop) → Prop
abbrev R1D := D → HD → (D → HD → Prop) → Prop
abbrev RLD := List D → HD → (D → HD → Prop) → Prop
abbrev RMD := D → List D → HD → (D → HD → Prop) → Prop
/-- an operation over trees, as one of the hand layer's -/
def lf2 (R : R2D) : R2 := fun xv yv H P => ∃ x y G Q, RH K H G ∧ Den K H x xv ∧ Den K H y yv ∧ R x y G Q ∧ Cont K H Q P
def lf1 (R : R1D) : V → Hp → VK → Prop := fun xv H P => ∃ x G Q, RH K H G ∧ Den K H x xv ∧ R x G Q ∧ Cont K H Q P
def lfL (R : RLD) : List V → Hp → VK → Prop := fun xvs H P => ∃ xs G Q, RH K H G ∧ Dens K H xs xvs ∧ R xs G Q ∧ Cont K H Q P
def lfM (R : RMD) : V → List V → Hp → VK → Prop := fun xv xvs H P => ∃ x xs G Q, RH K H G ∧ Den K H x xv ∧ Dens K H xs xvs ∧ R x xs G Q ∧ Cont K H Q P
/-- o[i] = v -/
abbrev RSetD := D → D → D → HD → (HD → Prop) → Prop
def lfSet (R : RSetD) : TSet := fun ov iv vv H P => ∃ o i v G Q, RH K H G ∧ Den K H o ov ∧ Den K H i iv ∧ Den K H v vv ∧ R o i v G Q ∧ ContH K H Q P
end

section
variable {K : PySem.W.Frag} {B : Hp} {S : DS} {G : HD}
theorem Cont.mono {H H1 : Hp} {Q : D → HD → Prop} {P : VK} (x : Ext H H1) (c : Cont K H Q P) : Cont K H1 Q P := fun v H' d G' x' => c v H' d G' (x.trans x')

/-! ### names, constants -/
theorem rd_var {i : Nat} {d : D} {Q : D → HD → Prop} (e : S[i]? = some (some d)) (h : Q d G) : RdE K B (tVar i) S G Q := fun σ H P _ rs rh c => by
  obtain ⟨v, e1, e2⟩ := rs.2 i d e
  exact ⟨v, e1, c v H d G (Ext.refl _) rh e2 h⟩
theorem rd_int {i : Int} {Q : D → HD → Prop} (h : Q (.int i) G) : RdE K B (tC (.int i)) S G Q := fun σ H P _ rs rh c => c _ H _ G (Ext.refl _) rh (den_int.mpr rfl) h
theorem rd_str {x : Str} {Q : D → HD → Prop} (h : Q (.str x) G) : RdE K B (tC (.str x)) S G Q := fun σ H P _ rs rh c => c _ H _ G (Ext.refl _) rh (den_str.mpr rfl) h
theorem rd_bl {b : Bool} {Q : D → HD → Prop} (h : Q (.bl b) G) : RdE K B (tC (.bl b)) S G Q := fun σ H P _ rs rh c => c _ H _ G (Ext.refl _) rh (den_bl.mpr rfl) h
theorem rd_non {Q : D → HD → Prop} (h : Q .non G) : RdE K B (tC .non) S G Q := fun σ H P _ rs rh c => c _ H _ G (Ext.refl _) rh (den_non.mpr rfl) h
theorem rd_ty {n : String} {Q : D → HD → Prop} (h : Q (.ty n) G) : RdE K B (tC (.ty n)) S G Q := fun σ H P _ rs rh c => c _ H _ G (Ext.refl _) rh (den_ty.mpr rfl) h
theorem rd_refc {a : Addr} {Q : D → HD → Prop} (h : Q (.ref a) G) : RdE K B (tC (.ref a)) S G Q := fun σ H P _ rs rh c => c _ H _ G (Ext.refl _) rh (den_ref.mpr rfl) h
/-- a tuple of the module -/
theorem rd_tupc {a : Addr} {xs : List D} {Q : D → HD → Prop} (t : ∀ H, Den K H (.kt a xs) (.ref a)) (h : Q (.kt a xs) G) : RdE K B (tC (.ref a)) S G Q := fun σ H P _ rs rh c => c _ H _ G (Ext.refl _) rh (t H) h

/-! ### operators -/
theorem rd_op {R : R2D} {ta tb : TE} {Q : D → HD → Prop} (h : RdE K B ta S G fun x G1 => RdE K B tb S G1 fun y G2 => R x y G2 Q) : RdE K B (tOp (lf2 K R) ta tb) S G Q := fun σ H P bx rs rh c =>
  h σ H _ bx rs rh fun v H1 x G1 x1 rh1 dx h1 => h1 σ H1 _ (bx.trans x1) (rs.mono x1) rh1 fun u H2 y G2 x2 rh2 dy q => ⟨x, y, G2, Q, rh2, Den.mono x2 _ _ dx, dy, q, Cont.mono (x1.trans x2) c⟩
theorem rd_un {R : R1D} {ta : TE} {Q : D → HD → Prop} (h : RdE K B ta S G fun x G1 => R x G1 Q) : RdE K B (tUn (lf1 K R) ta) S G Q := fun σ H P bx rs rh c =>
  h σ H _ bx rs rh fun v H1 x G1 x1 rh1 dx q => ⟨x, G1, Q, rh1, dx, q, Cont.mono x1 c⟩
theorem rd_nil {Q : List D → HD → Prop} (h : Q [] G) : RdA K B tNil S G Q := fun σ H P bx rs rh c => c [] H [] G (Ext.refl _) rh (dens_nil.mpr rfl) h
theorem rd_cons {te : TE} {ta : TA} {Q : List D → HD → Prop} (h : RdE K B te S G fun x G1 => RdA K B ta S G1 fun xs G2 => Q (x :: xs) G2) : RdA K B (tCons te ta) S G Q := fun σ H P bx rs rh c =>
  h σ H _ bx rs rh fun v H1 x G1 x1 rh1 dx h1 => h1 σ H1 _ (bx.trans x1) (rs.mono x1) rh1 fun vs H2 xs G2 x2 rh2 dxs q => c (v :: vs) H2 (x :: xs) G2 (x1.trans x2) rh2 (dens_cons.mpr ⟨v, vs, rfl, Den.mono x2 _ _ dx, dxs⟩) q
/-- a built-in's call -/
theorem rd_cb {R : RLD} {ta : TA} {Q : D → HD → Prop} (h : RdA K B ta S G fun xs G1 => R xs G1 Q) : RdE K B (tCB (lfL K R) ta) S G Q := fun σ H P bx rs rh c =>
  h σ H _ bx rs rh fun vs H1 xs G1 x1 rh1 dx q => ⟨xs, G1, Q, rh1, dx, q, Cont.mono x1 c⟩
/-- a tuple, a list of written items -/
theorem rd_tup {ta : TA} {Q : D → HD → Prop} (h : RdA K B ta S G fun xs G1 => xs.length ≤ sizeLine ∧ Q (.tup xs) G1) : RdE K B (tTup ta) S G Q := fun σ H P bx rs rh c =>
  h σ H _ bx rs rh fun vs H1 xs G1 x1 rh1 dx ⟨z, q⟩ => ⟨by rw [← dx.len]; exact z, fun p hp =>
    c (.ref p) _ (.tup xs) G1 (x1.trans (Ext.new hp)) (rh1.newH hp) (den_tup.mpr ⟨p, vs, rfl, upd_same, Dens.mono (Ext.new hp) _ _ dx⟩) q⟩
theorem rd_lst {ta : TA} {Q : D → HD → Prop} (h : RdA K B ta S G fun xs G1 => xs.length ≤ sizeLine ∧ ∀ p, G1 p = none → Q (.ref p) (put G1 p (.lst xs))) : RdE K B (tLst ta) S G Q := fun σ H P bx rs rh c =>
  h σ H _ bx rs rh fun vs H1 xs G1 x1 rh1 dx ⟨z, q⟩ => ⟨by rw [← dx.len]; exact z, fun p hp =>
    c (.ref p) _ (.ref p) (put G1 p (.lst xs)) (x1.trans (Ext.new hp)) (rh1.new hp ⟨vs, rfl, dx⟩) (den_ref.mpr rfl) (q p (rh1.free hp))⟩

/-! ### tests -/
theorem rd_test {te : TE} {Q : Bool → HD → Prop} (h : RdE K B te S G fun d G1 => ∃ b, d = .bl b ∧ Q b G1) : RdT K B (tTest te) S G Q := fun σ H P bx rs rh c =>
  h σ H _ bx rs rh fun v H1 d G1 x1 rh1 dx ⟨b, e, q⟩ => by
    subst e
    exact ⟨b, den_bl.mp dx, c b H1 G1 x1 rh1 q⟩
theorem rd_tB {te : TE} {Q : Bool → HD → Prop} (h : RdE K B te S G fun d G1 => ∃ b, d = .bl b ∧ Q b G1) : RdT K B (tB te) S G Q := rd_test h
theorem rd_and {t u : TT} {Q : Bool → HD → Prop} (h : RdT K B t S G fun b G1 => if b = true then RdT K B u S G1 Q else Q false G1) : RdT K B (tAnd t u) S G Q := fun σ H P bx rs rh c =>
  h σ H _ bx rs rh fun b H1 G1 x1 rh1 q => by
    cases b with
    | true => exact q σ H1 P (bx.trans x1) (rs.mono x1) rh1 fun b H' G' x' => c b H' G' (x1.trans x')
    | false => exact c false H1 G1 x1 rh1 q
theorem rd_or {t u : TT} {Q : Bool → HD → Prop} (h : RdT K B t S G fun b G1 => if b = true then Q true G1 else RdT K B u S G1 Q) : RdT K B (tOr t u) S G Q := fun σ H P bx rs rh c =>
  h σ H _ bx rs rh fun b H1 G1 x1 rh1 q => by
    cases b with
    | false => exact q σ H1 P (bx.trans x1) (rs.mono x1) rh1 fun b H' G' x' => c b H' G' (x1.trans x')
    | true => exact c true H1 G1 x1 rh1 q
theorem rd_not {t : TT} {Q : Bool → HD → Prop} (h : RdT K B t S G fun b G1 => Q (!b) G1) : RdT K B (tNot t) S G Q := fun σ H P bx rs rh c =>
  h σ H _ bx rs rh fun b H1 G1 x1 rh1 q => c _ H1 G1 x1 rh1 q
theorem rd_andV {ta tb : TE} {Q : D → HD → Prop} (h : RdE K B ta S G fun x G1 => ∃ b, x = .bl b ∧ if b = true then RdE K B tb S G1 Q else Q (.bl false) G1) : RdE K B (tAndV ta tb) S G Q := fun σ H P bx rs rh c =>
  h σ H _ bx rs rh fun v H1 d G1 x1 rh1 dx ⟨b, e, q⟩ => by
    subst e
    refine ⟨b, den_bl.mp dx, ?_⟩
    cases b with
    | true => exact q σ H1 P (bx.trans x1) (rs.mono x1) rh1 fun v H' d G' x' => c v H' d G' (x1.trans x')
    | false => exact c _ H1 _ G1 x1 rh1 (den_bl.mpr rfl) q
theorem rd_orV {ta tb : TE} {Q : D → HD → Prop} (h : RdE K B ta S G fun x G1 => ∃ b, x = .bl b ∧ if b = true then Q (.bl true) G1 else RdE K B tb S G1 Q) : RdE K B (tOrV ta tb) S G Q := fun σ H P bx rs rh c =>
  h σ H _ bx rs rh fun v H1 d G1 x1 rh1 dx ⟨b, e, q⟩ => by
    subst e
    refine ⟨b, den_bl.mp dx, ?_⟩
    cases b with
    | false => exact q σ H1 P (bx.trans x1) (rs.mono x1) rh1 fun v H' d G' x' => c v H' d G' (x1.trans x')
    | true => exact c _ H1 _ G1 x1 rh1 (den_bl.mpr rfl) q
theorem rd_notV {ta : TE} {Q : D → HD → Prop} (h : RdE K B ta S G fun x G1 => ∃ b, x = .bl b ∧ Q (.bl (!b)) G1) : RdE K B (tNotV ta) S G Q := fun σ H P bx rs rh c =>
  h σ H _ bx rs rh fun v H1 d G1 x1 rh1 dx ⟨b, e, q⟩ => by
    subst e
    exact ⟨b, den_bl.mp dx, c _ H1 _ G1 x1 rh1 (den_bl.mpr rfl) q⟩
theorem rd_if {t : TT} {ta tb : TE} {Q : D → HD → Prop} (h : RdT K B t S G fun b G1 => if b = true then RdE K B ta S G1 Q else RdE K B tb S G1 Q) : RdE K B (tIf t ta tb) S G Q := fun σ H P bx rs rh c =>
  h σ H _ bx rs rh fun b H1 G1 x1 rh1 q => by
    cases b with
    | true => exact q σ H1 P (bx.trans x1) (rs.mono x1) rh1 fun v H' d G' x' => c v H' d G' (x1.trans x')
    | false => exact q σ H1 P (bx.trans x1) (rs.mono x1) rh1 fun v H' d G' x' => c v H' d G' (x1.trans x')
/-- a op1 b op2 c -/
theorem rd_chain {R R' : R2D} {ta tb tc : TE} {Q : D → HD → Prop} (h : RdE K B ta S G fun x G1 => RdE K B tb S G1 fun y G2 => R x y G2 fun z G3 => ∃ b, z = .bl b ∧ if b = true then RdE K B tc S G3 fun w G4 => R' y w G4 Q else Q (.bl false) G3) :
    RdE K B (tChain (lf2 K R) (lf2 K R') ta tb tc) S G Q := fun σ H P bx rs rh c =>
  h σ H _ bx rs rh fun v H1 x G1 x1 rh1 dx h1 => h1 σ H1 _ (bx.trans x1) (rs.mono x1) rh1 fun u H2 y G2 x2 rh2 dy q => ⟨x, y, G2, _, rh2, Den.mono x2 _ _ dx, dy, q, fun z H3 d3 G3 x3 rh3 d3z q3 => by
    obtain ⟨b, e, q3⟩ := q3
    subst e
    refine ⟨b, den_bl.mp d3z, ?_⟩
    have x13 := (x1.trans x2).trans x3
    cases b with
    | true => exact q3 σ H3 _ (bx.trans x13) (rs.mono x13) rh3 fun w' H4 w G4 x4 rh4 dw q4 => ⟨y, w, G4, Q, rh4, Den.mono (x3.trans x4) _ _ dy, dw, q4, Cont.mono (x13.trans x4) c⟩
    | false => exact c _ H3 _ G3 x13 rh3 (den_bl.mpr rfl) q3⟩

/-! ### statements -/
variable {DD : DEnds}
theorem rd_next (h : DD.nx S G) : RdS K B tNext S G DD := fun σ H D _ rs rh e => e.nx σ H S G (Ext.refl _) rs rh h
theorem rd_seq {t u : TS} (h : RdS K B t S G { DD with nx := fun S' G' => RdS K B u S' G' DD }) : RdS K B (tSeq t u) S G DD := fun σ H D bx rs rh e =>
  h σ H { D with nx := u D } bx rs rh ⟨fun σ' H' S' G' x rs' rh' q => q σ' H' D (bx.trans x) rs' rh' (e.mono x), e.rt, e.bk, e.ct⟩
theorem rd_break (h : DD.bk S G) : RdS K B tBreak S G DD := fun σ H D _ rs rh e => e.bk σ H S G (Ext.refl _) rs rh h
theorem rd_cont (h : DD.ct S G) : RdS K B tCont S G DD := fun σ H D _ rs rh e => e.ct σ H S G (Ext.refl _) rs rh h
theorem rd_drop {te : TE} (h : RdE K B te S G fun _ G1 => DD.nx S G1) : RdS K B (tDrop te) S G DD := fun σ H D bx rs rh e =>
  h σ H _ bx rs rh fun v H1 d G1 x1 rh1 dx q => e.nx σ H1 S G1 x1 (rs.mono x1) rh1 q
theorem rd_ret {te : TE} (h : RdE K B te S G DD.rt) : RdS K B (tRet te) S G DD := fun σ H D bx rs rh e =>
  h σ H _ bx rs rh fun v H1 d G1 x1 rh1 dx q => e.rt v H1 d G1 x1 rh1 dx q
theorem rd_retN (h : DD.rt .non G) : RdS K B tRetN S G DD := fun σ H D _ rs rh e => e.rt .non H .non G (Ext.refl _) rh (den_non.mpr rfl) h
theorem rd_ifS {t : TT} {u v : TS} (h : RdT K B t S G fun b G1 => if b = true then RdS K B u S G1 DD else RdS K B v S G1 DD) : RdS K B (tIfS t u v) S G DD := fun σ H D bx rs rh e =>
  h σ H _ bx rs rh fun b H1 G1 x1 rh1 q => by
    cases b with
    | true => exact q σ H1 D (bx.trans x1) (rs.mono x1) rh1 (e.mono x1)
    | false => exact q σ H1 D (bx.trans x1) (rs.mono x1) rh1 (e.mono x1)
theorem rd_asg {te : TE} {g : TG} (h : RdE K B te S G fun d G1 => RdG K B g d S G1 DD.nx) : RdS K B (tAsg te g) S G DD := fun σ H D bx rs rh e =>
  h σ H _ bx rs rh fun v H1 d G1 x1 rh1 dx q => q v σ H1 D.nx (bx.trans x1) dx (rs.mono x1) rh1 (e.nx.mono x1)
theorem rd_gname {i : Nat} {d : D} {Q : DS → HD → Prop} (h : Q (S.set i (some d)) G) : RdG K B (gName i) d S G Q := fun v σ H P bx dx rs rh c => c _ H _ G (Ext.refl _) (rs.set i dx) rh h
/-- x = e -/
theorem rd_set {te : TE} {i : Nat} (h : RdE K B te S G fun d G1 => DD.nx (S.set i (some d)) G1) : RdS K B (tAsg te (gName i)) S G DD := rd_asg (h.imp fun d G' q => rd_gname q)
/-- x, y = a, b -/
theorem rd_par {i j : Nat} {ta : TA} (h : RdA K B ta S G fun ds G1 => ∃ a b, ds = [a, b] ∧ DD.nx ((S.set i (some a)).set j (some b)) G1) : RdS K B (tPar i j ta) S G DD := fun σ H D bx rs rh e =>
  h σ H _ bx rs rh fun vs H1 ds G1 x1 rh1 dx ⟨a, b, eq, q⟩ => by
    subst eq
    obtain ⟨v, r, rfl, d1, d2⟩ := dens_cons.mp dx
    obtain ⟨w, r', rfl, d3, d4⟩ := dens_cons.mp d2
    rw [dens_nil.mp d4]
    exact ⟨v, w, rfl, e.nx _ H1 _ G1 x1 (((rs.mono x1).set i d1).set j d3) rh1 q⟩
/-- unpacking -/
theorem rd_gnil {Q : DS → HD → Prop} (h : Q S G) : RdGs K B gNil [] S G Q := fun vs σ H P bx dx rs rh c => ⟨dens_nil.mp dx, c σ H S G (Ext.refl _) rs rh h⟩
theorem rd_gcons {d : D} {ds : List D} {g : TG} {gs : TGs} {Q : DS → HD → Prop} (h : RdG K B g d S G fun S1 G1 => RdGs K B gs ds S1 G1 Q) : RdGs K B (gCons g gs) (d :: ds) S G Q := fun vs σ H P bx dx rs rh c => by
  obtain ⟨v, r, rfl, d1, d2⟩ := dens_cons.mp dx
  exact ⟨v, r, rfl, h v σ H _ bx d1 rs rh fun σ1 H1 S1 G1 x1 rs1 rh1 q => q r σ1 H1 P (bx.trans x1) (Dens.mono x1 _ _ d2) rs1 rh1 fun σ2 H2 S2 G2 x2 => c σ2 H2 S2 G2 (x1.trans x2)⟩
theorem rd_gtup {ds : List D} {n : Nat} {gs : TGs} {Q : DS → HD → Prop} (hn : ds.length = n) (h : RdGs K B gs ds S G Q) : RdG K B (gTup K n gs) (.tup ds) S G Q := fun v σ H P bx dx rs rh c => by
  obtain ⟨a, vs, rfl, t, d⟩ := den_tup.mp dx
  exact ⟨a, vs, rfl, t.sq, by rw [← d.len]; exact hn, h vs σ H P bx d rs rh c⟩
/-- o[i] = v -/
theorem rd_gsub {to ti : TE} {R : RSetD} {d : D} {Q : DS → HD → Prop} (h : RdE K B to S G fun o G1 => RdE K B ti S G1 fun i G2 => R o i d G2 fun G3 => Q S G3) : RdG K B (gSub to ti (lfSet K R)) d S G Q := fun v σ H P bx dx rs rh c =>
  h σ H _ bx rs rh fun ov H1 o G1 x1 rh1 d1 h1 => h1 σ H1 _ (bx.trans x1) (rs.mono x1) rh1 fun iv H2 i G2 x2 rh2 d2 q =>
    ⟨o, i, d, G2, _, rh2, Den.mono x2 _ _ d1, d2, Den.mono (x1.trans x2) _ _ dx, q, fun H3 G3 x3 rh3 q3 => c σ H3 S G3 ((x1.trans x2).trans x3) (rs.mono ((x1.trans x2).trans x3)) rh3 q3⟩

/-- what two lists of pairs with the same keys have at a key -/
theorem lookup_no {α β : Type} {m : Str} : ∀ {fs : List (Str × α)} {ws : List (Str × β)}, fs.map (·.1) = ws.map (·.1) → fs.lookup m = none → ws.lookup m = none
  | [], [], _, _ => rfl
  | [], _ :: _, e, _ => by cases e
  | _ :: _, [], e, _ => by cases e
  | (p1, p2) :: fs, (q1, q2) :: ws, e, l => by
    simp only [List.map_cons, List.cons.injEq] at e
    obtain ⟨e1, e2⟩ := e
    subst e1
    rw [List.lookup_cons] at l ⊢
    cases hm : (m == p1) with
    | true => rw [hm] at l; cases l
    | false => rw [hm] at l; exact lookup_no e2 l
theorem lookup_den {H : Hp} {m : Str} {d : D} : ∀ {fs : List (Str × D)} {ws : List (Str × V)}, KDen K H fs ws → fs.lookup m = some d → ∃ v, ws.lookup m = some v ∧ Den K H d v
  | [], _, _, l => by cases l
  | _ :: _, [], ⟨e, _⟩, _ => by cases e
  | (p1, p2) :: fs, (q1, q2) :: ws, ⟨e, r⟩, l => by
    simp only [List.map_cons, List.cons.injEq] at e
    obtain ⟨e1, e2⟩ := e
    subst e1
    obtain ⟨v, rr, e3, d1, d2⟩ := dens_cons.mp r
    simp only [List.map_cons, List.cons.injEq] at e3
    obtain ⟨e4, e5⟩ := e3
    rw [List.lookup_cons] at l ⊢
    cases hm : (m == p1) with
    | true =>
      rw [hm] at l
      cases l
      exact ⟨q2, rfl, by rw [e4]; exact d1⟩
    | false =>
      rw [hm] at l
      exact lookup_den ⟨e2, by rw [e5]; exact d2⟩ l
/-! ### calls of defs -/
variable {W : WX} {wd : WD} {sd : SpD}
theorem XC.at {H1 : Hp} {σ : L2.St} (hw : WC K B wd W) (bx : Ext B H1) (rs : RS K H1 S σ) : XC K H1 (fun C fs G => wd C fs S G) (WE W σ) :=
  fun C d H G fs x rh xf q => hw C d σ H S G fs (bx.trans x) (rs.mono x) rh xf q
theorem rd_call {ta : TA} {dvs : List V} {dds : List D} {Q : D → HD → Prop} (hw : WC K B wd W) (hd : ∀ H, Dens K H dds dvs) (h : RdA K B ta S G fun ds G1 => sd (ds ++ dds) G1 Q (fun C fs G2 => wd C fs S G2)) : RdE K B (tCallG (spOf K sd) dvs W ta) S G Q := fun σ H P bx rs rh c =>
  h σ H _ bx rs rh fun vs H1 ds G1 x1 rh1 dx q => ⟨ds ++ dds, G1, Q, _, dx.append (hd H1), rh1, q, fun v H' d G' x' => c v H' d G' (x1.trans x'), XC.at hw (bx.trans x1) (rs.mono x1)⟩
theorem rd_meth {C : Addr} {m : Str} {to : TE} {ta : TA} {dvs : List V} {dds : List D} {Q : D → HD → Prop} (hw : WC K B wd W) (hd : ∀ H, Dens K H dds dvs)
    (h : RdE K B to S G fun o G1 => ∃ a fs, o = .ref a ∧ G1 a = some (.ins C fs) ∧ fs.lookup m = none ∧ RdA K B ta S G1 fun ds G2 => sd (.ref a :: (ds ++ dds)) G2 Q (fun C fs G3 => wd C fs S G3)) : RdE K B (tMethG C m (spOf K sd) dvs W to ta) S G Q := fun σ H P bx rs rh c =>
  h σ H _ bx rs rh fun v H1 o G1 x1 rh1 dx ⟨a, fs, eo, ea, l, q⟩ => by
    subst eo
    obtain ⟨dx', ws, e1, r⟩ := rh1.ins ea
    refine ⟨a, dx', ws, den_ref.mp dx, e1, ?_, ?_⟩
    · exact lookup_no r.1 l
    · exact q σ H1 _ (bx.trans x1) (rs.mono x1) rh1 fun vs H2 ds G2 x2 rh2 dxs q2 => by
        have e := den_ref.mp dx
        subst e
        exact ⟨.ref a :: (ds ++ dds), G2, Q, _, dens_cons.mpr ⟨.ref a, _, rfl, den_ref.mpr rfl, dxs.append (hd H2)⟩, rh2, q2, fun v H' d G' x' => c v H' d G' ((x1.trans x2).trans x'), XC.at hw (bx.trans (x1.trans x2)) (rs.mono (x1.trans x2))⟩
theorem rd_make {C : Addr} {ta : TA} {dvs : List V} {dds : List D} {Q : D → HD → Prop} (hw : WC K B wd W) (hd : ∀ H, Dens K H dds dvs)
    (h : RdA K B ta S G fun ds G1 => ∀ p, G1 p = none → sd (.ref p :: (ds ++ dds)) (put G1 p (.ins C [])) (fun v G2 => v = .non ∧ Q (.ref p) G2) (fun C fs G2 => wd C fs S G2)) : RdE K B (tMakeG C (spOf K sd) dvs W ta) S G Q := fun σ H P bx rs rh c =>
  h σ H _ bx rs rh fun vs H1 ds G1 x1 rh1 dxs q x dx nx ndx ne => by
    have e1 : Ext H1 (upd (upd H1 dx (.own x)) x (.ins C dx [])) := (Ext.new ndx).trans (Ext.new (by rw [upd_ne (Ne.symm ne)]; exact nx))
    have rh2 : RH K (upd (upd H1 dx (.own x)) x (.ins C dx [])) (put G1 x (.ins C [])) := (rh1.newH ndx).new (by rw [upd_ne (Ne.symm ne)]; exact nx) ⟨dx, [], rfl, rfl, dens_nil.mpr rfl⟩
    refine ⟨.ref x :: (ds ++ dds), _, _, _, dens_cons.mpr ⟨.ref x, _, rfl, den_ref.mpr rfl, (Dens.mono e1 _ _ dxs).append (hd _)⟩, rh2, q x (rh1.free nx), fun v H' d G' x' rh' dv q' => ?_, XC.at hw (bx.trans (x1.trans e1)) (rs.mono (x1.trans e1))⟩
    obtain ⟨ev, q'⟩ := q'
    subst ev
    exact ⟨den_non.mp dv, c (.ref x) H' (.ref x) G' ((x1.trans e1).trans x') rh' (den_ref.mpr rfl) q'⟩
end
end Dd
set_option Elab.async false
set_option linter.all false
set_option maxRecDepth 100000
/-! D3: operators, comparisons, items, built-ins over trees. -/
namespace Dd
open PySem PySem.Spec L2
open PyProof.Rows hiding St

section
variable {X : Cx} {K : PySem.W.Frag}
theorem vp {pins : List (Addr × Obj)} {σ : L2.St} {H H' : Hp} {G' : HD} {s' : Shared} {Q : D → HD → Prop} {P : VK} {d : D} {v : V} {u : Value} (c : Cont X.K H Q P) (I : Inv X pins σ H' s') (x : Ext H H') (rh : RH X.K H' G') (dv : Den X.K H' d v) (r : RelV v u) (q : Q d G') : EP X pins σ P u s' :=
  ⟨v, H', I, r, c v H' d G' x rh dv q⟩

/-! ### + -/
def RAdd : R2D := fun x y G Q => match x, y with
  | .int i, .int j => Q (.int (i + j)) G
  | .str a, .str b => a.length + b.length ≤ sizeLine ∧ Q (.str (a ++ b)) G
  | .tup xs, .tup ys => xs.length + ys.length ≤ sizeLine ∧ Q (.tup (xs ++ ys)) G
  | .ref a, .ref b => ∃ xs ys, G a = some (.lst xs) ∧ G b = some (.lst ys) ∧ xs.length + ys.length ≤ sizeLine ∧ ∀ p, G p = none → Q (.ref p) (put G p (.lst (xs ++ ys)))
  | _, _ => False
theorem opd_add : OpR X (binaryOp .Add) (lf2 X.K RAdd) := by
  rintro pins s σ H xv yv v u P I rx ry ⟨x, y, G, Q, rh, dx, dy, h, c⟩
  cases x <;> cases y <;> first | exact h.elim | skip
  · cases den_int.mp dx; cases den_int.mp dy
    exact op_add pins s σ H _ _ v u P I rx ry ⟨_, _, rfl, rfl, c _ H _ G (Ext.refl _) rh (den_int.mpr rfl) h⟩
  · cases den_str.mp dx; cases den_str.mp dy
    exact op_add_str pins s σ H _ _ v u P I rx ry ⟨_, _, rfl, rfl, h.1, c _ H _ G (Ext.refl _) rh (den_str.mpr rfl) h.2⟩
  · obtain ⟨a, xs, rfl, t1, d1⟩ := den_tup.mp dx
    obtain ⟨b, ys, rfl, t2, d2⟩ := den_tup.mp dy
    refine op_catA pins s σ H _ _ v u P I rx ry ⟨a, b, xs, ys, rfl, rfl, t1.sq, t2.sq, by rw [← d1.len, ← d2.len]; exact h.1, fun e => ?_, fun _ e => ?_, fun _ _ p hp => ?_⟩
    · subst e
      cases d : (‹List D› : List D) with
      | nil => exact c _ H _ G (Ext.refl _) rh dy (by
          have e := d1.len
          have h2 := h.2
          have z := List.eq_nil_of_length_eq_zero (by simpa using e)
          rw [z] at h2
          exact h2)
      | cons _ _ => exact c _ H _ G (Ext.refl _) rh dy (by
          have e := d1.len
          have h2 := h.2
          have z := List.eq_nil_of_length_eq_zero (by simpa using e)
          rw [z] at h2
          exact h2)
    · subst e
      exact c _ H _ G (Ext.refl _) rh dx (by
          have e := d2.len
          have h2 := h.2
          have z := List.eq_nil_of_length_eq_zero (by simpa using e)
          rw [z, List.append_nil] at h2
          exact h2)
    · exact c _ _ _ G (Ext.new hp) (rh.newH hp) (den_tup.mpr ⟨p, _, rfl, upd_same, Dens.mono (Ext.new hp) _ _ (d1.append d2)⟩) h.2
  · cases den_ref.mp dx; cases den_ref.mp dy
    obtain ⟨xs, ys, e1, e2, hl, q⟩ := h
    obtain ⟨vs, h1, d1⟩ := rh.lst e1
    obtain ⟨ws, h2, d2⟩ := rh.lst e2
    exact op_cat pins s σ H _ _ v u P I rx ry ⟨_, _, vs, ws, rfl, rfl, h1, h2, by rw [← d1.len, ← d2.len]; exact hl, fun p hp =>
      c _ _ _ _ (Ext.new hp) (rh.newLst hp (d1.append d2)) (den_ref.mpr rfl) (q p (rh.free hp))⟩

/-! ### - * // % ** -/
def RI2 (C : Int → Int → Prop) (f : Int → Int → Int) : R2D := fun x y G Q => match x, y with
  | .int i, .int j => C i j ∧ Q (.int (f i j)) G
  | _, _ => False
theorem opd_int {o : Value → Value → Sem Value} {C : Int → Int → Prop} {f : Int → Int → Int} (ho : OpR X o (rI C fun i j => .int (f i j))) : OpR X o (lf2 X.K (RI2 C f)) := by
  rintro pins s σ H xv yv v u P I rx ry ⟨x, y, G, Q, rh, dx, dy, h, c⟩
  cases x <;> cases y <;> first | exact h.elim | skip
  cases den_int.mp dx; cases den_int.mp dy
  exact ho pins s σ H _ _ v u P I rx ry ⟨_, _, rfl, rfl, h.1, c _ H _ G (Ext.refl _) rh (den_int.mpr rfl) h.2⟩
theorem rI_of {o : Value → Value → Sem Value} {g : Int → Int → V} (ho : OpR X o (rI0 g)) : OpR X o (rI (fun _ _ => True) g) := fun pins s σ H x y v u Q I rx ry ⟨i, j, e1, e2, _, q⟩ => ho pins s σ H x y v u Q I rx ry ⟨i, j, e1, e2, q⟩
def RSub : R2D := RI2 (fun _ _ => True) (· - ·)
theorem opd_sub : OpR X (binaryOp .Sub) (lf2 X.K RSub) := opd_int (rI_of op_sub)
def RFdiv : R2D := RI2 CDiv (· / ·)
theorem opd_fdiv : OpR X (binaryOp .FloorDiv) (lf2 X.K RFdiv) := opd_int op_fdiv
def RMod : R2D := RI2 (fun _ j => 0 < j) (· % ·)
theorem opd_mod : OpR X (binaryOp .Mod) (lf2 X.K RMod) := opd_int op_mod
def RPow : R2D := RI2 CPow fun i j => i ^ j.toNat
theorem opd_pow : OpR X (binaryOp .Pow) (lf2 X.K RPow) := opd_int op_pow
/-- n times a list -/
def rep {α : Type} (k : Int) (xs : List α) : List α := (List.replicate k.toNat xs).flatten
theorem Dens.rep {H : Hp} {xs : List D} {vs : List V} (h : Dens K H xs vs) : ∀ k : Nat, Dens K H (List.replicate k xs).flatten (List.replicate k vs).flatten
  | 0 => dens_nil.mpr rfl
  | k + 1 => by
    rw [List.replicate_succ, List.replicate_succ, List.flatten_cons, List.flatten_cons]
    exact h.append (Dens.rep h k)
def RMul : R2D := fun x y G Q => match x, y with
  | .int i, .int j => CMul i j ∧ Q (.int (i * j)) G
  | .ref a, .int k => ∃ xs, G a = some (.lst xs) ∧ -(2 ^ 63) ≤ k ∧ k < 2 ^ 63 ∧ xs.length * k.toNat ≤ sizeLine ∧ ∀ p, G p = none → Q (.ref p) (put G p (.lst (rep k xs)))
  | .tup xs, .int k => xs ≠ [] ∧ 2 ≤ k ∧ k ≤ 1000 ∧ xs.length ≤ 1000 ∧ Q (.tup (rep k xs)) G
  | _, _ => False
theorem opd_mul : OpR X (binaryOp .Mult) (lf2 X.K RMul) := by
  rintro pins s σ H xv yv v u P I rx ry ⟨x, y, G, Q, rh, dx, dy, h, c⟩
  cases x <;> cases y <;> first | exact h.elim | skip
  · cases den_int.mp dx; cases den_int.mp dy
    exact op_mul pins s σ H _ _ v u P I rx ry ⟨_, _, rfl, rfl, h.1, c _ H _ G (Ext.refl _) rh (den_int.mpr rfl) h.2⟩
  · obtain ⟨a, xs, rfl, t1, d1⟩ := den_tup.mp dx
    cases den_int.mp dy
    obtain ⟨h1, h2, h3, h4, h5⟩ := h
    refine op_repT pins s σ H _ _ v u P I rx ry ⟨a, _, xs, rfl, rfl, t1.sq, fun e => h1 ?_, h2, h3, by rw [← d1.len]; exact h4, fun p hp => ?_⟩
    · subst e
      exact List.eq_nil_of_length_eq_zero (by simpa using d1.len)
    · exact c _ _ _ G (Ext.new hp) (rh.newH hp) (den_tup.mpr ⟨p, _, rfl, upd_same, Dens.mono (Ext.new hp) _ _ (d1.rep _)⟩) h5
  · cases den_ref.mp dx; cases den_int.mp dy
    obtain ⟨xs, e1, h1, h2, h3, q⟩ := h
    obtain ⟨vs, e2, d1⟩ := rh.lst e1
    exact op_rep pins s σ H _ _ v u P I rx ry ⟨_, _, vs, rfl, rfl, e2, h1, h2, by rw [← d1.len]; exact h3, fun p hp =>
      c _ _ _ _ (Ext.new hp) (rh.newLst hp (d1.rep _)) (den_ref.mpr rfl) (q p (rh.free hp))⟩
def RNeg : R1D := fun x G Q => match x with
  | .int i => Q (.int (-i)) G
  | _ => False
theorem und_neg : UnR X (unaryOp .USub) (lf1 X.K RNeg) := by
  rintro pins s σ H xv v P I rx ⟨x, G, Q, rh, dx, h, c⟩
  cases x <;> first | exact h.elim | skip
  cases den_int.mp dx
  exact un_neg pins s σ H _ v P I rx ⟨_, rfl, c _ H _ G (Ext.refl _) rh (den_int.mpr rfl) h⟩

/-! ### data as the library has it: for ==, repr -/
mutual
/-- the tree d, with what stands in G, is the datum p -/
def Rp (G : HD) : PyData → D → Prop
  | .none, d => d = .non
  | .bool b, d => d = .bl b
  | .int i, d => d = .int i
  | .str x, d => d = .str x
  | .tuple ps, d => ∃ xs, d = .tup xs ∧ Rps G ps xs
  | .list ps, d => ∃ a xs, d = .ref a ∧ (G a = some (.lst xs) ∨ G a = some (.lck (.lst xs))) ∧ Rps G ps xs
  | .dict _, _ => False
def Rps (G : HD) : List PyData → List D → Prop
  | [], xs => xs = []
  | p :: ps, xs => ∃ x r, xs = x :: r ∧ Rp G p x ∧ Rps G ps r
end
mutual
theorem Rp.dp {H : Hp} {G : HD} (rh : RH K H G) : ∀ (p : PyData) (d : D) (v : V), Rp G p d → Den K H d v → Dp K H v p
  | .none, d, v, h, e => by unfold Rp at h; subst h; cases den_non.mp e; exact .non
  | .bool b, d, v, h, e => by unfold Rp at h; subst h; cases den_bl.mp e; exact .bl b
  | .int i, d, v, h, e => by unfold Rp at h; subst h; cases den_int.mp e; exact .int i
  | .str x, d, v, h, e => by unfold Rp at h; subst h; cases den_str.mp e; exact .str x
  | .tuple ps, d, v, h, e => by
    unfold Rp at h
    obtain ⟨xs, rfl, hs⟩ := h
    obtain ⟨a, vs, rfl, t, ds⟩ := den_tup.mp e
    exact .tup t.sq (Rps.dp rh ps xs vs hs ds)
  | .list ps, d, v, h, e => by
    unfold Rp at h
    obtain ⟨a, xs, rfl, ha, hs⟩ := h
    cases den_ref.mp e
    rcases ha with ha | ha
    · obtain ⟨vs, e1, ds⟩ := rh.lst ha
      exact .lst (SqL.of e1) (Rps.dp rh ps xs vs hs ds)
    · obtain ⟨u, e1, ob, w, rfl, vs, rfl, ds⟩ := rh a _ ha
      exact .lst (.inl (.inr ⟨ob, e1⟩)) (Rps.dp rh ps xs vs hs ds)
  | .dict _, d, v, h, e => by unfold Rp at h; exact h.elim
theorem Rps.dp {H : Hp} {G : HD} (rh : RH K H G) : ∀ (ps : List PyData) (ds : List D) (vs : List V), Rps G ps ds → Dens K H ds vs → DpAll K H vs ps
  | [], ds, vs, h, e => by unfold Rps at h; subst h; cases dens_nil.mp e; exact .nil
  | p :: ps, ds, vs, h, e => by
    unfold Rps at h
    obtain ⟨x, r, rfl, h1, h2⟩ := h
    obtain ⟨v, w, rfl, d1, d2⟩ := dens_cons.mp e
    exact .cons (Rp.dp rh p x v h1 d1) (Rps.dp rh ps r w h2 d2)
end
/-- scalars that == tells apart at once -/
def scEq : D → D → Option Bool
  | .int i, .int j => some (decide (i = j))
  | .str a, .str b => some (decide (a = b))
  | .bl a, .bl b => some (decide (a = b))
  | .non, .non => some true
  | .non, .int _ => some false | .int _, .non => some false | .non, .str _ => some false | .str _, .non => some false | .non, .bl _ => some false | .bl _, .non => some false
  | .int _, .str _ => some false | .str _, .int _ => some false | .bl _, .str _ => some false | .str _, .bl _ => some false
  | _, _ => none
theorem scEq_v {H : Hp} {x y : D} {xv yv : V} {b : Bool} (h : scEq x y = some b) (dx : Den K H x xv) (dy : Den K H y yv) : scal xv yv = true ∧ decide (xv = yv) = b := by
  cases x <;> cases y <;> first | (simp only [scEq, reduceCtorEq] at h; done) | skip
  all_goals
    first | cases den_int.mp dx | cases den_str.mp dx | cases den_bl.mp dx | cases den_non.mp dx
    first | cases den_int.mp dy | cases den_str.mp dy | cases den_bl.mp dy | cases den_non.mp dy
    simp only [scEq, Option.some.injEq] at h
    subst h
    exact ⟨rfl, by simp⟩
def REqB (neg : Bool) : R2D := fun x y G Q => match scEq x y with
  | some b => Q (.bl (if neg then !b else b)) G
  | none => ∃ p q, Rp G p x ∧ Rp G q y ∧ SeqAt.shaped p = true ∧ SeqAt.shaped q = true ∧ Q (.bl (if neg then !PyData.eqv p q else PyData.eqv p q)) G
def REq : R2D := REqB false
def RNe : R2D := REqB true
theorem opd_eq (hu : X.A.units + 64 < cLine) : OpR X (compareOp .Eq) (lf2 X.K REq) := by
  rintro pins s σ H xv yv v u P I rx ry ⟨x, y, G, Q, rh, dx, dy, h, c⟩
  unfold REq REqB at h
  cases e : scEq x y with
  | some b =>
    rw [e] at h
    obtain ⟨h1, h2⟩ := scEq_v e dx dy
    exact op_eq pins s σ H _ _ v u P I rx ry ⟨h1, by rw [h2]; exact c _ H _ G (Ext.refl _) rh (den_bl.mpr rfl) h⟩
  | none =>
    rw [e] at h
    obtain ⟨p, q, h1, h2, h3, h4, h5⟩ := h
    exact op_eqD hu pins s σ H _ _ v u P I rx ry ⟨p, q, Rp.dp rh p x xv h1 dx, Rp.dp rh q y yv h2 dy, h3, h4, c _ H _ G (Ext.refl _) rh (den_bl.mpr rfl) h5⟩
theorem opd_ne (hu : X.A.units + 64 < cLine) : OpR X (compareOp .NotEq) (lf2 X.K RNe) := by
  rintro pins s σ H xv yv v u P I rx ry ⟨x, y, G, Q, rh, dx, dy, h, c⟩
  unfold RNe REqB at h
  cases e : scEq x y with
  | some b =>
    rw [e] at h
    obtain ⟨h1, h2⟩ := scEq_v e dx dy
    exact op_ne pins s σ H _ _ v u P I rx ry ⟨h1, by rw [h2]; exact c _ H _ G (Ext.refl _) rh (den_bl.mpr rfl) h⟩
  | none =>
    rw [e] at h
    obtain ⟨p, q, h1, h2, h3, h4, h5⟩ := h
    exact op_neD hu pins s σ H _ _ v u P I rx ry ⟨p, q, Rp.dp rh p x xv h1 dx, Rp.dp rh q y yv h2 dy, h3, h4, c _ H _ G (Ext.refl _) rh (den_bl.mpr rfl) h5⟩

/-! ### < <= > >= of ints; is None -/
def RB2 (f : Int → Int → Bool) : R2D := fun x y G Q => match x, y with
  | .int i, .int j => Q (.bl (f i j)) G
  | _, _ => False
theorem opd_ib {o : Value → Value → Sem Value} {f : Int → Int → Bool} (ho : OpR X o (rI0 fun i j => .bl (f i j))) : OpR X o (lf2 X.K (RB2 f)) := by
  rintro pins s σ H xv yv v u P I rx ry ⟨x, y, G, Q, rh, dx, dy, h, c⟩
  cases x <;> cases y <;> first | exact h.elim | skip
  cases den_int.mp dx; cases den_int.mp dy
  exact ho pins s σ H _ _ v u P I rx ry ⟨_, _, rfl, rfl, c _ H _ G (Ext.refl _) rh (den_bl.mpr rfl) h⟩
def RLt : R2D := RB2 fun i j => decide (i < j)
def RLe : R2D := RB2 fun i j => decide (i ≤ j)
def RGt : R2D := RB2 fun i j => decide (j < i)
def RGe : R2D := RB2 fun i j => decide (j ≤ i)
theorem opd_lt : OpR X (compareOp .Lt) (lf2 X.K RLt) := opd_ib op_lt
theorem opd_le : OpR X (compareOp .LtE) (lf2 X.K RLe) := opd_ib op_le
theorem opd_gt : OpR X (compareOp .Gt) (lf2 X.K RGt) := opd_ib op_gt
theorem opd_ge : OpR X (compareOp .GtE) (lf2 X.K RGe) := opd_ib op_ge
def isN : D → Bool
  | .non => true
  | _ => false
theorem isN_v {H : Hp} {x : D} {v : V} (h : Den K H x v) : decide (v = .non) = isN x := by
  cases x with
  | non => cases den_non.mp h; rfl
  | bl b => cases den_bl.mp h; rfl
  | int i => cases den_int.mp h; rfl
  | str y => cases den_str.mp h; rfl
  | tup xs => obtain ⟨a, vs, rfl, _⟩ := den_tup.mp h; rfl
  | ref a => cases den_ref.mp h; rfl
  | ty n => cases den_ty.mp h; rfl
  | kt a xs => obtain ⟨vs, rfl, _⟩ := den_kt.mp h; rfl
def RIs : R2D := fun x y G Q => match y with
  | .non => Q (.bl (isN x)) G
  | _ => False
def RIsNot : R2D := fun x y G Q => match y with
  | .non => Q (.bl (!isN x)) G
  | _ => False
theorem opd_is : OpR X (compareOp .Is) (lf2 X.K RIs) := by
  rintro pins s σ H xv yv v u P I rx ry ⟨x, y, G, Q, rh, dx, dy, h, c⟩
  cases y <;> first | exact h.elim | skip
  cases den_non.mp dy
  exact op_isN pins s σ H _ _ v u P I rx ry ⟨rfl, by rw [isN_v dx]; exact c _ H _ G (Ext.refl _) rh (den_bl.mpr rfl) h⟩
theorem opd_isnot : OpR X (compareOp .IsNot) (lf2 X.K RIsNot) := by
  rintro pins s σ H xv yv v u P I rx ry ⟨x, y, G, Q, rh, dx, dy, h, c⟩
  cases y <;> first | exact h.elim | skip
  cases den_non.mp dy
  exact op_notN pins s σ H _ _ v u P I rx ry ⟨rfl, by rw [isN_v dx]; exact c _ H _ G (Ext.refl _) rh (den_bl.mpr rfl) h⟩

/-! ### in, not in -/
def flatD : D → Bool
  | .non => true | .bl _ => true | .int _ => true | .str _ => true
  | _ => false
/-- == of scalars, as in a list -/
def eqF : D → D → Bool
  | .int i, .int j => decide (i = j)
  | .str a, .str b => decide (a = b)
  | .bl a, .bl b => decide (a = b)
  | .int i, .bl b => decide (i = b2i b)
  | .bl b, .int i => decide (b2i b = i)
  | .non, .non => true
  | _, _ => false
def inD (x : D) (xs : List D) : Bool := xs.any fun y => eqF y x
theorem flat_v {H : Hp} {x : D} {v : V} (f : flatD x = true) (h : Den K H x v) : flatV v = true := by
  cases x with
  | non => cases den_non.mp h; rfl
  | bl b => cases den_bl.mp h; rfl
  | int i => cases den_int.mp h; rfl
  | str y => cases den_str.mp h; rfl
  | tup xs => cases f
  | ref a => cases f
  | ty n => cases f
  | kt a xs => cases f
theorem flats_v {H : Hp} : ∀ {xs : List D} {vs : List V}, xs.all flatD = true → Dens K H xs vs → vs.all flatV = true
  | [], vs, _, h => by cases dens_nil.mp h; rfl
  | x :: xs, vs, f, h => by
    obtain ⟨v, r, rfl, d1, d2⟩ := dens_cons.mp h
    rw [List.all_cons, Bool.and_eq_true] at f ⊢
    exact ⟨flat_v f.1 d1, flats_v f.2 d2⟩
theorem eqF_v {H : Hp} {x y : D} {xv yv : V} (fx : flatD x = true) (fy : flatD y = true) (dx : Den K H x xv) (dy : Den K H y yv) : eqV yv xv = eqF y x := by
  cases x <;> first | (cases fx; done) | skip
  all_goals cases y <;> first | (cases fy; done) | skip
  all_goals
    first | cases den_int.mp dx | cases den_str.mp dx | cases den_bl.mp dx | cases den_non.mp dx
    first | cases den_int.mp dy | cases den_str.mp dy | cases den_bl.mp dy | cases den_non.mp dy
    first
      | rfl
      | (simp only [eqV, eqF]; rw [Bool.eq_iff_iff]; simp)
      | (simp only [eqV, eqF, b2i]; rw [Bool.eq_iff_iff]; simp)
theorem inD_v {H : Hp} {x : D} {xv : V} (fx : flatD x = true) (dx : Den K H x xv) : ∀ {ys : List D} {vs : List V}, ys.all flatD = true → Dens K H ys vs → inV xv vs = inD x ys
  | [], vs, _, h => by cases dens_nil.mp h; rfl
  | y :: ys, vs, f, h => by
    obtain ⟨v, r, rfl, d1, d2⟩ := dens_cons.mp h
    rw [List.all_cons, Bool.and_eq_true] at f
    have ih := inD_v fx dx f.2 d2
    unfold inV at ih ⊢
    unfold inD at ih ⊢
    rw [List.any_cons, List.any_cons, eqF_v fx f.1 dx d1, ih]
end
end Dd
set_option Elab.async false
set_option linter.all false
set_option maxRecDepth 100000
/-! D4: dicts over trees; in, not in; items; slices; len and other built-ins. -/
namespace Dd
open PySem PySem.Spec L2
open PyProof.Rows hiding St

/-! ### pairs by keys -/
section
variable {κ : Type} [DecidableEq κ] {β : Type}
def valG (kvs : List (κ × β)) (k : κ) : Option β := (kvs.find? fun kv => decide (kv.1 = k)).map (·.2)
def putG (kvs : List (κ × β)) (k : κ) (v : β) : List (κ × β) :=
  if kvs.any fun kv => decide (kv.1 = k) then kvs.map fun kv => if kv.1 = k then (kv.1, v) else kv else kvs ++ [(k, v)]
def dropG (kvs : List (κ × β)) (k : κ) : List (κ × β) := kvs.filter fun kv => decide (kv.1 ≠ k)
theorem valG_nil {k : κ} : valG ([] : List (κ × β)) k = none := rfl
theorem valG_pos {a k : κ} {v : β} {r : List (κ × β)} (e : a = k) : valG ((a, v) :: r) k = some v := by simp [valG, List.find?_cons, e]
theorem valG_neg {a k : κ} {v : β} {r : List (κ × β)} (e : ¬ a = k) : valG ((a, v) :: r) k = valG r k := by simp [valG, List.find?_cons, e]
theorem valG_cons {a k : κ} {v : β} {r : List (κ × β)} : valG ((a, v) :: r) k = if a = k then some v else valG r k := by
  by_cases e : a = k
  · rw [valG_pos e, if_pos e]
  · rw [valG_neg e, if_neg e]
theorem valG_any (k : κ) : ∀ kvs : List (κ × β), (kvs.any fun kv => decide (kv.1 = k)) = (valG kvs k).isSome
  | [] => rfl
  | (a, v) :: r => by
    rw [List.any_cons, valG_any k r, valG_cons]
    by_cases e : a = k <;> simp [e]
theorem valG_map (k j : κ) (y : β) : ∀ kvs : List (κ × β), valG (kvs.map fun kv => if kv.1 = k then (kv.1, y) else kv) j = (valG kvs j).map fun x => if j = k then y else x
  | [] => rfl
  | (a, v) :: r => by
    have ih := valG_map k j y r
    rw [List.map_cons]
    by_cases e : a = k
    · rw [if_pos e, valG_cons, valG_cons, ih]
      by_cases e2 : a = j
      · rw [if_pos e2, if_pos e2, Option.map_some, if_pos (e2.symm.trans e)]
      · rw [if_neg e2, if_neg e2]
    · rw [if_neg e, valG_cons, valG_cons, ih]
      by_cases e2 : a = j
      · rw [if_pos e2, if_pos e2, Option.map_some, if_neg (fun z => e (e2.trans z))]
      · rw [if_neg e2, if_neg e2]
theorem valG_append (k : κ) (y : List (κ × β)) : ∀ kvs : List (κ × β), valG (kvs ++ y) k = (valG kvs k).or (valG y k)
  | [] => by simp [valG_nil]
  | (a, v) :: r => by
    rw [List.cons_append, valG_cons, valG_cons, valG_append k y r]
    by_cases e : a = k <;> simp [e]
theorem valG_put (kvs : List (κ × β)) (k j : κ) (y : β) : valG (putG kvs k y) j = if j = k then some y else valG kvs j := by
  unfold putG
  rw [valG_any]
  cases h : valG kvs k with
  | some x =>
    rw [Option.isSome_some, if_pos rfl, valG_map]
    by_cases e : j = k
    · subst e; rw [h, if_pos rfl, Option.map_some, if_pos rfl]
    · simp only [if_neg e]; cases valG kvs j <;> rfl
  | none =>
    rw [Option.isSome_none, if_neg Bool.false_ne_true, valG_append, valG_cons, valG_nil]
    by_cases e : j = k
    · subst e; rw [h]; simp
    · simp [e, Ne.symm e]
theorem putG_new {kvs : List (κ × β)} {k : κ} (v : β) (h : valG kvs k = none) : putG kvs k v = kvs ++ [(k, v)] := by
  unfold putG
  rw [valG_any, h, Option.isSome_none, if_neg Bool.false_ne_true]
theorem length_putG (kvs : List (κ × β)) (k : κ) (v : β) : (putG kvs k v).length ≤ kvs.length + 1 := by
  unfold putG
  split <;> simp
theorem length_putG_old {kvs : List (κ × β)} {k : κ} {v : β} (h : (valG kvs k).isSome = true) : (putG kvs k v).length = kvs.length := by
  unfold putG
  rw [valG_any, h, if_pos rfl, List.length_map]
theorem mem_valG {kvs : List (κ × β)} {k : κ} {v : β} (h : valG kvs k = some v) : (k, v) ∈ kvs := by
  unfold valG at h
  cases e : kvs.find? fun kv => decide (kv.1 = k) with
  | none => rw [e] at h; cases h
  | some p =>
    rw [e] at h
    have h1 := List.find?_some e
    have h2 := List.mem_of_find?_eq_some e
    simp only [decide_eq_true_eq] at h1
    simp only [Option.map_some, Option.some.injEq] at h
    obtain ⟨a, b⟩ := p
    simp only at h1 h
    subst h1; subst h
    exact h2
theorem putG_keys {kvs : List (κ × β)} {k : κ} {v : β} : (putG kvs k v).map (·.1) = if (valG kvs k).isSome = true then kvs.map (·.1) else kvs.map (·.1) ++ [k] := by
  unfold putG
  rw [valG_any]
  split
  · rw [List.map_map]
    apply List.map_congr_left
    intro p _
    show (if p.1 = k then (p.1, v) else p).1 = p.1
    split <;> rfl
  · simp
end

section
variable {κ : Type} [DecidableEq κ] {K : PySem.W.Frag} {H : Hp}
theorem KDen.nil {κ : Type} : KDen K H ([] : List (κ × D)) [] := ⟨rfl, dens_nil.mpr rfl⟩
theorem KDen.cons {κ : Type} {k : κ} {d : D} {v : V} {kvs : List (κ × D)} {kws : List (κ × V)} (h : Den K H d v) (r : KDen K H kvs kws) : KDen K H ((k, d) :: kvs) ((k, v) :: kws) :=
  ⟨by rw [List.map_cons, List.map_cons, r.1], dens_cons.mpr ⟨v, _, rfl, h, r.2⟩⟩
theorem KDen.inv {κ : Type} {k : κ} {d : D} {kvs : List (κ × D)} {kws : List (κ × V)} (h : KDen K H ((k, d) :: kvs) kws) : ∃ v r, kws = (k, v) :: r ∧ Den K H d v ∧ KDen K H kvs r := by
  obtain ⟨e, ds⟩ := h
  cases kws with
  | nil => cases e
  | cons q r =>
    obtain ⟨q1, q2⟩ := q
    simp only [List.map_cons, List.cons.injEq] at e
    obtain ⟨e1, e2⟩ := e
    obtain ⟨v, w, e3, d1, d2⟩ := dens_cons.mp ds
    simp only [List.map_cons, List.cons.injEq] at e3
    obtain ⟨e4, e5⟩ := e3
    subst e1; subst e4; subst e5
    exact ⟨q2, r, rfl, d1, e2, d2⟩
theorem KDen.inv0 {κ : Type} {kws : List (κ × V)} (h : KDen K H ([] : List (κ × D)) kws) : kws = [] := by
  have e := h.1
  cases kws with
  | nil => rfl
  | cons _ _ => cases e
theorem KDen.len {κ : Type} {kvs : List (κ × D)} {kws : List (κ × V)} (h : KDen K H kvs kws) : kvs.length = kws.length := by
  have e := congrArg List.length h.1
  simpa using e
theorem KDen.val : ∀ {kvs : List (κ × D)} {kws : List (κ × V)} (k : κ), KDen K H kvs kws → (∀ d, valG kvs k = some d → ∃ v, valV kws k = some v ∧ Den K H d v) ∧ (valG kvs k = none → valV kws k = none)
  | [], kws, k, h => by
    cases h.inv0
    exact ⟨fun d e => (by cases e), fun _ => rfl⟩
  | (a, d) :: kvs, kws, k, h => by
    obtain ⟨v, r, rfl, d1, h2⟩ := h.inv
    have ih := KDen.val k h2
    rw [valG_cons]
    by_cases e : a = k
    · rw [if_pos e]
      exact ⟨fun d' q => (by cases q; exact ⟨v, valV_pos e, d1⟩), fun q => (by cases q)⟩
    · rw [if_neg e, valV_neg (p := (a, v)) e]
      exact ih
theorem KDen.append {κ : Type} : ∀ {kvs es : List (κ × D)} {kws ws : List (κ × V)}, KDen K H kvs kws → KDen K H es ws → KDen K H (kvs ++ es) (kws ++ ws)
  | [], _, kws, _, h, r => by cases h.inv0; exact r
  | (k, d) :: kvs, es, kws, ws, h, r => by
    obtain ⟨v, w, rfl, d1, h2⟩ := h.inv
    exact .cons d1 (KDen.append h2 r)
theorem KDen.repl {k : κ} {d : D} {v : V} (dv : Den K H d v) : ∀ {kvs : List (κ × D)} {kws : List (κ × V)}, KDen K H kvs kws →
    KDen K H (kvs.map fun kv => if kv.1 = k then (kv.1, d) else kv) (kws.map fun kv => if kv.1 = k then (kv.1, v) else kv)
  | [], kws, h => by cases h.inv0; exact .nil
  | (a, e) :: kvs, kws, h => by
    obtain ⟨w, r, rfl, d1, h2⟩ := h.inv
    rw [List.map_cons, List.map_cons]
    by_cases c : a = k
    · simp only [if_pos c]; exact .cons dv (KDen.repl dv h2)
    · simp only [if_neg c]; exact .cons d1 (KDen.repl dv h2)
theorem KDen.put {k : κ} {d : D} {v : V} {kvs : List (κ × D)} {kws : List (κ × V)} (h : KDen K H kvs kws) (dv : Den K H d v) : KDen K H (putG kvs k d) (putK kws k v) := by
  unfold putG putK
  have e : (kws.any fun kv => decide (kv.1 = k)) = kvs.any fun kv => decide (kv.1 = k) := by
    have h1 : (kws.any fun kv => decide (kv.1 = k)) = (kws.map (·.1)).any fun x => decide (x = k) := by rw [List.any_map]; rfl
    have h2 : (kvs.any fun kv => decide (kv.1 = k)) = (kvs.map (·.1)).any fun x => decide (x = k) := by rw [List.any_map]; rfl
    rw [h1, h2, h.1]
  rw [e]
  split
  · exact h.repl dv
  · exact h.append (.cons dv .nil)
theorem KDen.drop {k : κ} : ∀ {kvs : List (κ × D)} {kws : List (κ × V)}, KDen K H kvs kws → KDen K H (dropG kvs k) (dropK kws k)
  | [], kws, h => by cases h.inv0; exact .nil
  | (a, e) :: kvs, kws, h => by
    obtain ⟨w, r, rfl, d1, h2⟩ := h.inv
    have ih := KDen.drop (k := k) h2
    unfold dropG dropK at ih ⊢
    rw [List.filter_cons, List.filter_cons]
    by_cases c : a = k
    · simp only [c, ne_eq, not_true_eq_false, decide_false, Bool.false_eq_true, if_false]; exact ih
    · simp only [c, ne_eq, not_false_eq_true, decide_true, if_true]; exact .cons d1 ih
end

/-! ### keys -/
def kD : D → Option Key
  | .int i => some (.inl i)
  | .str x => some (.inr x)
  | _ => none
def kDl : List D → Option (List Key)
  | [] => some []
  | d :: ds => match kD d, kDl ds with
    | some k, some r => some (k :: r)
    | _, _ => none
def kDt : D → Option (List Key)
  | .tup xs => kDl xs
  | _ => none
/-- what a dict has at a key -/
def getKV : DO → D → Option (Option D)
  | .dic kvs, k => (kD k).map (valG kvs)
  | .dct kvs, k => (kDt k).map (valG kvs)
  | .lck o, k => getKV o k
  | _, _ => none
def putKV : DO → D → D → Option DO
  | .dic kvs, k, v => (kD k).map fun j => .dic (putG kvs j v)
  | .dct kvs, k, v => (kDt k).map fun j => .dct (putG kvs j v)
  | _, _, _ => none
def sizeKV : DO → Nat
  | .dic kvs => kvs.length
  | .dct kvs => kvs.length
  | .lck o => sizeKV o
  | _ => 0
section
variable {K : PySem.W.Frag} {H : Hp}
theorem kD_v {d : D} {k : Key} {v : V} (e : kD d = some k) (h : Den K H d v) : v = kV k := by
  cases d <;> first | (simp only [kD, reduceCtorEq] at e; done) | skip
  · simp only [kD, Option.some.injEq] at e; subst e; exact den_int.mp h
  · simp only [kD, Option.some.injEq] at e; subst e; exact den_str.mp h
theorem kDl_v : ∀ {ds : List D} {ks : List Key} {vs : List V}, kDl ds = some ks → Dens K H ds vs → vs = ks.map kV
  | [], ks, vs, e, h => by simp only [kDl, Option.some.injEq] at e; subst e; exact dens_nil.mp h
  | d :: ds, ks, vs, e, h => by
    obtain ⟨v, r, rfl, d1, d2⟩ := dens_cons.mp h
    unfold kDl at e
    cases e1 : kD d with
    | none => rw [e1] at e; cases e
    | some k =>
      cases e2 : kDl ds with
      | none => rw [e1, e2] at e; cases e
      | some r' =>
        rw [e1, e2] at e
        cases e
        rw [kD_v e1 d1, kDl_v e2 d2]
        rfl
end
end Dd
set_option Elab.async false
set_option linter.all false
set_option maxRecDepth 100000
/-! D5: dicts and sequences: items, in, stores; fields; slices; methods; built-in functions. -/
namespace Dd
open PySem PySem.Spec L2
open PyProof.Rows hiding St

section
variable {X : Cx} {K : PySem.W.Frag}
/-! ### d[k] -/
theorem dget_of {H : Hp} {G : HD} {p : Addr} {k : D} {kv : V} {r : Option D} (rh : RH K H G) (dk : Den K H k kv) : ∀ {o : DO}, (∃ u, (H p = some u ∨ ∃ ob, H p = some (.frz ob u)) ∧ RV K H o u) → getKV o k = some r → (∀ o', o ≠ .lck o') → ∃ w, DGet H p kv w ∧ (∀ d, r = some d → ∃ v, w = some v ∧ Den K H d v) ∧ (r = none → w = none) := by
  intro o hu e hl
  cases o with
  | dic kvs =>
    obtain ⟨u, hp, kws, rfl, kd⟩ := hu
    cases e1 : kD k with
    | none => simp [getKV, e1] at e
    | some j =>
      simp only [getKV, e1, Option.map_some, Option.some.injEq] at e
      subst e
      obtain ⟨h1, h2⟩ := kd.val j
      refine ⟨valV kws j, .inl ⟨kws, j, hp, kD_v e1 dk, rfl⟩, h1, h2⟩
  | dct kvs =>
    obtain ⟨u, hp, kws, rfl, kd⟩ := hu
    cases k with
    | tup xs =>
      obtain ⟨b, vs, rfl, t, ds⟩ := den_tup.mp dk
      cases e1 : kDl xs with
      | none => simp [getKV, kDt, e1] at e
      | some j =>
        simp only [getKV, kDt, e1, Option.map_some, Option.some.injEq] at e
        subst e
        obtain ⟨h1, h2⟩ := kd.val j
        exact ⟨valV kws j, .inr ⟨kws, j, b, hp, rfl, by rw [← kDl_v e1 ds]; exact t, rfl⟩, h1, h2⟩
    | _ => simp [getKV, kDt] at e
  | lck o' => exact absurd rfl (hl o')
  | lst _ => simp [getKV] at e
  | ins _ _ => simp [getKV] at e
  | raw _ => simp [getKV] at e
  | xd _ => simp [getKV] at e
  | tab _ => simp [getKV] at e
/-- .. also through a lock -/
def unl : DO → DO
  | .lck o => o
  | o => o
def getK1 (o : DO) (k : D) : Option (Option D) := match o with
  | .lck (.lck _) => none
  | o => getKV (unl o) k
theorem dget_at {H : Hp} {G : HD} {p : Addr} {o : DO} {k : D} {kv : V} {r : Option D} (rh : RH K H G) (e : G p = some o) (g : getK1 o k = some r) (dk : Den K H k kv) :
    ∃ w, DGet H p kv w ∧ (∀ d, r = some d → ∃ v, w = some v ∧ Den K H d v) ∧ (r = none → w = none) := by
  obtain ⟨u, e1, rv⟩ := rh p o e
  cases o with
  | lck o' =>
    obtain ⟨ob, w, rfl, rv⟩ := rv
    cases o' with
    | lck o'' => cases g
    | lst _ => exact dget_of rh dk ⟨w, .inr ⟨ob, e1⟩, rv⟩ g fun _ z => nomatch z
    | dic _ => exact dget_of rh dk ⟨w, .inr ⟨ob, e1⟩, rv⟩ g fun _ z => nomatch z
    | dct _ => exact dget_of rh dk ⟨w, .inr ⟨ob, e1⟩, rv⟩ g fun _ z => nomatch z
    | ins _ _ => exact dget_of rh dk ⟨w, .inr ⟨ob, e1⟩, rv⟩ g fun _ z => nomatch z
    | raw _ => exact dget_of rh dk ⟨w, .inr ⟨ob, e1⟩, rv⟩ g fun _ z => nomatch z
    | xd _ => exact dget_of rh dk ⟨w, .inr ⟨ob, e1⟩, rv⟩ g fun _ z => nomatch z
    | tab _ => exact dget_of rh dk ⟨w, .inr ⟨ob, e1⟩, rv⟩ g fun _ z => nomatch z
  | lst _ => exact dget_of rh dk ⟨u, .inl e1, rv⟩ g fun _ z => nomatch z
  | dic _ => exact dget_of rh dk ⟨u, .inl e1, rv⟩ g fun _ z => nomatch z
  | dct _ => exact dget_of rh dk ⟨u, .inl e1, rv⟩ g fun _ z => nomatch z
  | ins _ _ => exact dget_of rh dk ⟨u, .inl e1, rv⟩ g fun _ z => nomatch z
  | raw _ => exact dget_of rh dk ⟨u, .inl e1, rv⟩ g fun _ z => nomatch z
  | xd _ => exact dget_of rh dk ⟨u, .inl e1, rv⟩ g fun _ z => nomatch z
  | tab _ => exact dget_of rh dk ⟨u, .inl e1, rv⟩ g fun _ z => nomatch z
theorem ix_dict (hu : X.A.units + 1 < cLine) : IxR X (fun x y H Q => ∃ a v, x = .ref a ∧ DGet H a y (some v) ∧ Q v H) := by
  rintro value slice pins s σ H x y v u Q I rx ry ⟨a, w, rfl, g, q⟩ hs
  cases rx
  have hT := dict_typeIs I g
  unfold subscriptTail
  refine wpAny_bind ?_
  rw [getitemInPython_of_ne hT.not_modules]
  refine wpAny_bind (wpAny_specialOf hT PySem.F.slot_dict_getitem.lookup ?_)
  have fin : wpAny (model X.prog X.w) X.A (subscripted slice false (.ref a) u) (fun r s₃ => wpAny (model X.prog X.w) X.A (letTemporaryGo value (.ref a) r >>= fun _ => pure r) (EP X pins σ Q) X.xe s₃) X.xe s := by
    rw [hs]
    exact wpAny_operating (d_getItem hu I g ry fun w' s3 I3 rw' => wpAny_bind (wpAny_letTemporaryGo (wpAny_pure ⟨w, H, I3, rw', q⟩)))
  first
    | exact wpAny_pure (wpAny_bind fin)
    | exact wpAny_bind (wpAny_pure (wpAny_bind fin))
    | exact wpAny_bind fin
def RIx : R2D := fun x y G Q => match x with
  | .tup xs => ∃ i d, y = .int i ∧ atI xs i = some d ∧ Q d G
  | .kt _ xs => ∃ i d, y = .int i ∧ atI xs i = some d ∧ Q d G
  | .str z => ∃ i c, y = .int i ∧ z.length ≤ sizeLine ∧ atI z.cps.toList i = some c ∧ Q (.str ⟨#[c]⟩) G
  | .ref p => (∃ xs i d, y = .int i ∧ (G p = some (.lst xs) ∨ G p = some (.lck (.lst xs))) ∧ atI xs i = some d ∧ Q d G) ∨ ∃ o d, G p = some o ∧ getK1 o y = some (some d) ∧ Q d G
  | _ => False
theorem sq_of {H : Hp} {G : HD} {p : Addr} {ys : List D} (rh : RH K H G) (e : G p = some (.lst ys) ∨ G p = some (.lck (.lst ys))) : ∃ vs, SqL K H p vs ∧ Dens K H ys vs := by
  rcases e with e | e
  · obtain ⟨vs, e1, ds⟩ := rh.lst e
    exact ⟨vs, SqL.of e1, ds⟩
  · obtain ⟨u, e1, ob, w, rfl, vs, rfl, ds⟩ := rh p _ e
    exact ⟨vs, .inl (.inr ⟨ob, e1⟩), ds⟩
theorem atI_den {H : Hp} {xs : List D} {vs : List V} {i : Int} {d : D} (ds : Dens K H xs vs) (e : atI xs i = some d) : ∃ v, atI vs i = some v ∧ Den K H d v := by
  unfold atI at e ⊢
  rw [← ds.len]
  cases q : ixN xs.length i with
  | none => rw [q] at e; cases e
  | some j =>
    rw [q] at e
    exact ds.get e
theorem ixd (hu : X.A.units + 1 < cLine) : IxR X (lf2 X.K RIx) := by
  rintro value slice pins s σ H xv yv v u P I rx ry ⟨x, y, G, Q, rh, dx, dy, h, c⟩ hs
  cases x <;> first | exact h.elim | skip
  · cases den_str.mp dx
    obtain ⟨i, ch, rfl, hz, e, q⟩ := h
    cases den_int.mp dy
    exact ix_str value slice pins s σ H _ _ v u P I rx ry ⟨_, _, ch, rfl, rfl, hz, e, c _ H _ G (Ext.refl _) rh (den_str.mpr rfl) q⟩ hs
  · obtain ⟨a, vs, rfl, t, ds⟩ := den_tup.mp dx
    obtain ⟨i, d, rfl, e, q⟩ := h
    cases den_int.mp dy
    obtain ⟨w, e2, dw⟩ := atI_den ds e
    exact ix_tup value slice pins s σ H _ _ v u P I rx ry ⟨_, _, _, w, rfl, rfl, t.sq, e2, c w H d G (Ext.refl _) rh dw q⟩ hs
  · cases den_ref.mp dx
    rcases h with ⟨xs, i, d, rfl, g, e, q⟩ | ⟨o, d, g, e, q⟩
    · cases den_int.mp dy
      obtain ⟨vs, sq, ds⟩ := sq_of rh g
      obtain ⟨w, e2, dw⟩ := atI_den ds e
      exact ix_list value slice pins s σ H _ _ v u P I rx ry ⟨_, _, _, w, rfl, rfl, sq, e2, c w H d G (Ext.refl _) rh dw q⟩ hs
    · obtain ⟨w, g1, h1, _⟩ := dget_at rh g e dy
      obtain ⟨z, rfl, dz⟩ := h1 d rfl
      exact ix_dict hu value slice pins s σ H _ _ v u P I rx ry ⟨_, z, rfl, g1, c z H d G (Ext.refl _) rh dz q⟩ hs
  · obtain ⟨vs, rfl, t, ds⟩ := den_kt.mp dx
    obtain ⟨i, d, rfl, e, q⟩ := h
    cases den_int.mp dy
    obtain ⟨w, e2, dw⟩ := atI_den ds e
    exact ix_tup value slice pins s σ H _ _ v u P I rx ry ⟨_, _, _, w, rfl, rfl, t.sq, e2, c w H d G (Ext.refl _) rh dw q⟩ hs

/-! ### in, not in -/
/-- a text within a text -/
def subStr (a z : Str) : Bool := !(Builtin.Str.occurrences z a 0 z.length 1).isEmpty
def bneg (neg b : Bool) : Bool := if neg then !b else b
def RInB (neg : Bool) : R2D := fun x y G Q => match y with
  | .str z => ∃ a, x = .str a ∧ Q (.bl (bneg neg (subStr a z))) G
  | .tup ys => flatD x = true ∧ ys.all flatD = true ∧ Q (.bl (bneg neg (inD x ys))) G
  | .kt _ ys => flatD x = true ∧ ys.all flatD = true ∧ Q (.bl (bneg neg (inD x ys))) G
  | .ref p => (∃ ys, (G p = some (.lst ys) ∨ G p = some (.lck (.lst ys))) ∧ flatD x = true ∧ ys.all flatD = true ∧ Q (.bl (bneg neg (inD x ys))) G) ∨ ∃ o r, G p = some o ∧ getK1 o x = some r ∧ Q (.bl (bneg neg r.isSome)) G
  | _ => False
def RIn : R2D := RInB false
def RNotIn : R2D := RInB true
theorem some_of_get {H : Hp} {r : Option D} {w : Option V} (h1 : ∀ d, r = some d → ∃ v, w = some v ∧ Den K H d v) (h2 : r = none → w = none) : w.isSome = r.isSome := by
  cases r with
  | none => rw [h2 rfl]; rfl
  | some d => obtain ⟨v, rfl, _⟩ := h1 d rfl; rfl
theorem opd_in (hu : X.A.units + 1 < cLine) : OpR X (compareOp .In) (lf2 X.K RIn) := by
  rintro pins s σ H xv yv v u P I rx ry ⟨x, y, G, Q, rh, dx, dy, h, c⟩
  unfold RIn RInB at h
  cases y <;> first | exact h.elim | skip
  · obtain ⟨a, rfl, h⟩ := h
    cases den_str.mp dx; cases den_str.mp dy
    exact op_in_str pins s σ H _ _ v u P I rx ry ⟨_, _, rfl, rfl, c _ H _ G (Ext.refl _) rh (den_bl.mpr rfl) h⟩
  · obtain ⟨a, vs, rfl, t, ds⟩ := den_tup.mp dy
    exact op_in_seq pins s σ H _ _ v u P I rx ry ⟨a, vs, rfl, .inr t.sq, flat_v h.1 dx, flats_v h.2.1 ds, c _ H _ G (Ext.refl _) rh (den_bl.mpr (by rw [inD_v h.1 dx h.2.1 ds]; rfl)) h.2.2⟩
  · cases den_ref.mp dy
    rcases h with ⟨ys, e, h1, h2, h3⟩ | ⟨o, r, g, e, q⟩
    · obtain ⟨vs, q, ds⟩ := sq_of rh e
      exact op_in_seq pins s σ H _ _ v u P I rx ry ⟨_, vs, rfl, .inl q, flat_v h1 dx, flats_v h2 ds, c _ H _ G (Ext.refl _) rh (den_bl.mpr (by rw [inD_v h1 dx h2 ds]; rfl)) h3⟩
    · obtain ⟨w, g1, h1, h2⟩ := dget_at rh g e dx
      cases ry
      exact d_in hu I g1 rx fun s3 I3 => ⟨.bl w.isSome, H, I3, rfl, c _ H _ G (Ext.refl _) rh (den_bl.mpr (by rw [some_of_get h1 h2]; rfl)) q⟩
  · obtain ⟨vs, rfl, t, ds⟩ := den_kt.mp dy
    exact op_in_seq pins s σ H _ _ v u P I rx ry ⟨_, vs, rfl, .inr t.sq, flat_v h.1 dx, flats_v h.2.1 ds, c _ H _ G (Ext.refl _) rh (den_bl.mpr (by rw [inD_v h.1 dx h.2.1 ds]; rfl)) h.2.2⟩
theorem opd_notin (hu : X.A.units + 1 < cLine) : OpR X (compareOp .NotIn) (lf2 X.K RNotIn) := by
  rintro pins s σ H xv yv v u P I rx ry ⟨x, y, G, Q, rh, dx, dy, h, c⟩
  unfold RNotIn RInB at h
  cases y <;> first | exact h.elim | skip
  · obtain ⟨a, rfl, h⟩ := h
    cases den_str.mp dx; cases den_str.mp dy
    exact L2.op_notin_str pins s σ H _ _ v u P I rx ry ⟨_, _, rfl, rfl, c _ H _ G (Ext.refl _) rh (den_bl.mpr rfl) h⟩
  · obtain ⟨a, vs, rfl, t, ds⟩ := den_tup.mp dy
    exact op_notIn_seq pins s σ H _ _ v u P I rx ry ⟨a, vs, rfl, .inr t.sq, flat_v h.1 dx, flats_v h.2.1 ds, c _ H _ G (Ext.refl _) rh (den_bl.mpr (by rw [inD_v h.1 dx h.2.1 ds]; rfl)) h.2.2⟩
  · cases den_ref.mp dy
    rcases h with ⟨ys, e, h1, h2, h3⟩ | ⟨o, r, g, e, q⟩
    · obtain ⟨vs, q, ds⟩ := sq_of rh e
      exact op_notIn_seq pins s σ H _ _ v u P I rx ry ⟨_, vs, rfl, .inl q, flat_v h1 dx, flats_v h2 ds, c _ H _ G (Ext.refl _) rh (den_bl.mpr (by rw [inD_v h1 dx h2 ds]; rfl)) h3⟩
    · obtain ⟨w, g1, h1, h2⟩ := dget_at rh g e dx
      cases ry
      exact d_notIn hu I g1 rx fun s3 I3 => ⟨.bl (!w.isSome), H, I3, rfl, c _ H _ G (Ext.refl _) rh (den_bl.mpr (by rw [some_of_get h1 h2]; rfl)) q⟩
  · obtain ⟨vs, rfl, t, ds⟩ := den_kt.mp dy
    exact op_notIn_seq pins s σ H _ _ v u P I rx ry ⟨_, vs, rfl, .inr t.sq, flat_v h.1 dx, flats_v h.2.1 ds, c _ H _ G (Ext.refl _) rh (den_bl.mpr (by rw [inD_v h.1 dx h.2.1 ds]; rfl)) h.2.2⟩

/-! ### o[i] = v -/
def RSetI : RSetD := fun o i v G Q => match o with
  | .ref p => (∃ xs k j, i = .int k ∧ G p = some (.lst xs) ∧ ixN xs.length k = some j ∧ Q (put G p (.lst (xs.set j v)))) ∨
      ∃ o o', G p = some o ∧ putKV o i v = some o' ∧ sizeKV o < sizeLine ∧ Q (put G p o')
  | _ => False
theorem psetd (hu : X.A.units + 1 < cLine) : PSet X (lfSet X.K RSetI) := by
  rintro pins s σ H ov iv vv ov' iv' u P I ro ri rv ⟨o, i, v, G, Q, rh, d1, d2, d3, h, c⟩
  cases o <;> first | exact h.elim | skip
  cases den_ref.mp d1
  rcases h with ⟨xs, k, j, rfl, g, e, q⟩ | ⟨o, o', g, e, hl, q⟩
  · cases den_int.mp d2
    obtain ⟨vs, e1, ds⟩ := rh.lst g
    exact set_list pins s σ H _ _ _ _ _ u P I ro ri rv ⟨_, vs, k, j, rfl, rfl, e1, by rw [← ds.len]; exact e, c _ _ (Ext.setLst e1) (rh.setLst e1 (Dens.set d3 j ds)) q⟩
  · cases ro
    cases o with
    | dic kvs =>
      obtain ⟨kws, e1, kd⟩ := rh.dic g
      cases e2 : kD i with
      | none => simp [putKV, e2] at e
      | some j =>
        simp only [putKV, e2, Option.map_some, Option.some.injEq] at e
        subst e
        refine d_setItem hu I (.inl ⟨kws, j, e1, kD_v e2 d2, by rw [← kd.len]; exact hl, rfl⟩) ri rv fun s' I' => ⟨_, I', c _ _ (Ext.set e1 id) (rh.setDic e1 (kd.put d3)) q⟩
    | dct kvs =>
      obtain ⟨kws, e1, kd⟩ := rh.dct g
      cases i with
      | tup xs =>
        obtain ⟨b, vs, rfl, t, ds⟩ := den_tup.mp d2
        cases e2 : kDl xs with
        | none => simp [putKV, kDt, e2] at e
        | some j =>
          simp only [putKV, kDt, e2, Option.map_some, Option.some.injEq] at e
          subst e
          refine d_setItem hu I (.inr ⟨kws, j, b, e1, rfl, by rw [← kDl_v e2 ds]; exact t, by rw [← kd.len]; exact hl, rfl⟩) ri rv fun s' I' => ⟨_, I', c _ _ (Ext.set e1 id) (rh.setDct e1 (kd.put d3)) q⟩
      | _ => simp [putKV, kDt] at e
    | lck _ => simp [putKV] at e
    | lst _ => simp [putKV] at e
    | ins _ _ => simp [putKV] at e
    | raw _ => simp [putKV] at e
    | xd _ => simp [putKV] at e
    | tab _ => simp [putKV] at e
end

/-! ### fields -/
def putFD (f : Str) (y : D) : List (Str × D) → List (Str × D)
  | [] => [(f, y)]
  | (g, z) :: r => if g = f then (g, y) :: r else (g, z) :: putFD f y r
end Dd
set_option Elab.async false
set_option linter.all false
set_option maxRecDepth 100000
/-! D6: fields, slices, methods of lists, texts, dicts; built-in functions. -/
namespace Dd
open PySem PySem.Spec L2
open PyProof.Rows hiding St

section
variable {X : Cx} {K : PySem.W.Frag} {B : Hp} {S : DS} {G : HD}
/-! ### fields -/
theorem KDen.putFd {H : Hp} {f : Str} {y : D} {v : V} (d : Den K H y v) : ∀ {fs : List (Str × D)} {ws : List (Str × V)}, KDen K H fs ws → KDen K H (putFD f y fs) (L2.putF f v ws)
  | [], ws, h => by cases h.inv0; exact .cons d .nil
  | (g, z) :: fs, ws, h => by
    obtain ⟨w, r, rfl, d1, h2⟩ := h.inv
    show KDen K H (if g = f then (g, y) :: fs else (g, z) :: putFD f y fs) (if g = f then (g, v) :: r else (g, w) :: L2.putF f v r)
    by_cases c : g = f
    · rw [if_pos c, if_pos c]; exact .cons d h2
    · rw [if_neg c, if_neg c]; exact .cons d1 (KDen.putFd d h2)
theorem rd_fld {to : TE} {f : Str} {Q : D → HD → Prop} (h : RdE K B to S G fun o G1 => ∃ a C fs d, o = .ref a ∧ G1 a = some (.ins C fs) ∧ Cls K C ∧ NoAttr K C f ∧ fs.lookup f = some d ∧ Q d G1) : RdE K B (tFld K to f) S G Q := fun σ H P bx rs rh c =>
  h σ H _ bx rs rh fun v H1 o G1 x1 rh1 dx ⟨a, C, fs, d, eo, ea, hc, hn, l, q⟩ => by
    subst eo
    obtain ⟨dx', ws, e1, r⟩ := rh1.ins ea
    obtain ⟨w, l2, dw⟩ := lookup_den r l
    exact ⟨a, C, dx', ws, w, den_ref.mp dx, e1, hc, hn, l2, c w H1 d G1 x1 rh1 dw q⟩
theorem rd_sfld {to tv : TE} {f : Str} {DD : DEnds} (h : RdE K B tv S G fun y G1 => RdE K B to S G1 fun o G2 => ∃ a C fs, o = .ref a ∧ G2 a = some (.ins C fs) ∧ Cls K C ∧ NoAttr K C f ∧ fs.length < 1000 ∧ DD.nx S (put G2 a (.ins C (putFD f y fs)))) : RdS K B (sFld K to tv f) S G DD := fun σ H D bx rs rh e =>
  h σ H _ bx rs rh fun v H1 y G1 x1 rh1 dy h1 => h1 σ H1 _ (bx.trans x1) (rs.mono x1) rh1 fun u H2 o G2 x2 rh2 dx ⟨a, C, fs, eo, ea, hc, hn, l, q⟩ => by
    subst eo
    obtain ⟨dx', ws, e1, r⟩ := rh2.ins ea
    have x3 : Ext H2 (upd H2 a (.ins C dx' (L2.putF f v ws))) := Ext.set e1 id
    exact ⟨a, C, dx', ws, den_ref.mp dx, e1, hc, hn, by rw [← r.len]; exact l, e.nx σ _ S _ ((x1.trans x2).trans x3) (rs.mono ((x1.trans x2).trans x3)) (rh2.setIns e1 (r.putFd (Den.mono x2 _ _ dy))) q⟩
/-- o.f = v as a target -/
def lfIp (K : PySem.W.Frag) (R : R2D) : V → V → Hp → VK → Prop := lf2 K R
theorem rd_sfldaug {to tv : TE} {f : Str} {R : R2D} {DD : DEnds} (h : RdE K B to S G fun o G1 => ∃ a C fs d, o = .ref a ∧ G1 a = some (.ins C fs) ∧ Cls K C ∧ NoAttr K C f ∧ fs.lookup f = some d ∧
      RdE K B tv S G1 fun y G2 => R d y G2 fun z G3 => ∃ fs', G3 a = some (.ins C fs') ∧ fs'.length < 1000 ∧ DD.nx S (put G3 a (.ins C (putFD f z fs')))) : RdS K B (sFldAug K to tv (lf2 K R) f) S G DD := fun σ H D bx rs rh e =>
  h σ H _ bx rs rh fun v H1 o G1 x1 rh1 dx ⟨a, C, fs, d, eo, ea, hc, hn, l, h1⟩ => by
    subst eo
    obtain ⟨dx', ws, e1, r⟩ := rh1.ins ea
    obtain ⟨w, l2, dw⟩ := lookup_den r l
    refine ⟨a, C, dx', ws, w, den_ref.mp dx, e1, hc, hn, l2, h1 σ H1 _ (bx.trans x1) (rs.mono x1) rh1 fun u H2 y G2 x2 rh2 dy q => ⟨d, y, G2, _, rh2, Den.mono x2 _ _ dw, dy, q, fun z' H3 z G3 x3 rh3 dz ⟨fs', ea3, l3, q3⟩ => ?_⟩⟩
    obtain ⟨dx3, ws3, e3, r3⟩ := rh3.ins ea3
    have x4 : Ext H3 (upd H3 a (.ins C dx3 (L2.putF f z' ws3))) := Ext.set e3 id
    have xx := ((x1.trans x2).trans x3).trans x4
    exact ⟨dx3, ws3, e3, by rw [← r3.len]; exact l3, e.nx σ _ S _ xx (rs.mono xx) (rh3.setIns e3 (r3.putFd dz)) q3⟩
theorem inop_of {op : Operator} {r : R2} (h : OpR X (inplaceOp op) r) : InOp X op r := h

/-! ### slices -/
def RdO (K : PySem.W.Frag) (B : Hp) (to : TO) (S : DS) (G : HD) (Q : Option Int → HD → Prop) : Prop :=
  ∀ (σ : L2.St) (H : Hp) (P : Option Int → Hp → Prop), Ext B H → RS K H S σ → RH K H G → (∀ o H' G', Ext H H' → RH K H' G' → Q o G' → P o H') → to σ H P
theorem rd_nopart {Q : Option Int → HD → Prop} (h : Q none G) : RdO K B tNoPart S G Q := fun σ H P _ rs rh c => c none H G (Ext.refl _) rh h
theorem rd_part {te : TE} {Q : Option Int → HD → Prop} (h : RdE K B te S G fun x G1 => ∃ i, x = .int i ∧ Q (some i) G1) : RdO K B (tPart te) S G Q := fun σ H P bx rs rh c =>
  h σ H _ bx rs rh fun v H1 x G1 x1 rh1 dx ⟨i, e, q⟩ => by
    subst e
    exact ⟨i, den_int.mp dx, c (some i) H1 G1 x1 rh1 q⟩
abbrev RSlD := D → Option Int → Option Int → HD → (D → HD → Prop) → Prop
def lfSl (K : PySem.W.Frag) (R : RSlD) : V → Option Int → Option Int → Hp → VK → Prop := fun xv lo hi H P => ∃ x G Q, RH K H G ∧ Den K H x xv ∧ R x lo hi G Q ∧ Cont K H Q P
theorem rd_sl {R : RSlD} {te : TE} {tl th : TO} {Q : D → HD → Prop} (h : RdE K B te S G fun x G1 => RdO K B tl S G1 fun l G2 => RdO K B th S G2 fun u G3 => R x l u G3 Q) : RdE K B (tSl (lfSl K R) te tl th) S G Q := fun σ H P bx rs rh c =>
  h σ H _ bx rs rh fun v H1 x G1 x1 rh1 dx h1 => h1 σ H1 _ (bx.trans x1) (rs.mono x1) rh1 fun l H2 G2 x2 rh2 h2 => h2 σ H2 _ (bx.trans (x1.trans x2)) (rs.mono (x1.trans x2)) rh2 fun u H3 G3 x3 rh3 q =>
    ⟨x, G3, Q, rh3, Den.mono (x2.trans x3) _ _ dx, q, Cont.mono ((x1.trans x2).trans x3) c⟩
def cutD {α : Type} (xs : List α) (lo hi : Option Int) : List α := (xs.drop (HT.sIx xs.length 0 lo)).take (HT.sIx xs.length xs.length hi - HT.sIx xs.length 0 lo)
theorem Dens.cut {H : Hp} {xs : List D} {vs : List V} (h : Dens K H xs vs) (lo hi : Option Int) : Dens K H (cutD xs lo hi) (cutV vs lo hi) := by
  unfold cutD cutV
  rw [h.len]
  exact (h.drop _).take _
def RSl : RSlD := fun x lo hi G Q => match x with
  | .str z => z.length ≤ sizeLine ∧ Q (.str (cutS z lo hi)) G
  | .tup xs => Q (.tup (cutD xs lo hi)) G
  | .ref p => ∃ xs, (G p = some (.lst xs) ∨ G p = some (.lck (.lst xs))) ∧ ∀ q, G q = none → Q (.ref q) (put G q (.lst (cutD xs lo hi)))
  | _ => False
theorem sld : SlR X (lfSl X.K RSl) := by
  rintro pins s σ H xv v vl vu lo hi sl P I rx hs pl pu ⟨x, G, Q, rh, dx, h, c⟩
  cases x <;> first | exact h.elim | skip
  · cases den_str.mp dx
    exact sl_str pins s σ H _ v vl vu lo hi sl P I rx hs pl pu ⟨_, rfl, h.1, c _ H _ G (Ext.refl _) rh (den_str.mpr rfl) h.2⟩
  · obtain ⟨a, vs, rfl, t, ds⟩ := den_tup.mp dx
    refine sl_tupA pins s σ H _ v vl vu lo hi sl P I rx hs pl pu ⟨a, vs, rfl, t.sq, fun ⟨e1, e2⟩ => ?_, fun _ p hp => c _ _ _ G (Ext.new hp) (rh.newH hp) (den_tup.mpr ⟨p, _, rfl, upd_same, Dens.mono (Ext.new hp) _ _ (ds.cut lo hi)⟩) h⟩
    refine c _ H _ G (Ext.refl _) rh dx ?_
    have e : cutD (‹List D› : List D) lo hi = ‹List D› := by
      unfold cutD
      rw [ds.len, e1, e2, List.drop_zero, Nat.sub_zero, ← ds.len, List.take_length]
    rw [← e]
    exact h
  · cases den_ref.mp dx
    obtain ⟨xs, g, q⟩ := h
    obtain ⟨vs, sq, ds⟩ := sq_of rh g
    exact sl_list pins s σ H _ v vl vu lo hi sl P I rx hs pl pu ⟨_, vs, rfl, sq, fun p hp => c _ _ _ _ (Ext.new hp) (rh.newLst hp (ds.cut lo hi)) (den_ref.mpr rfl) (q p (rh.free hp))⟩

/-! ### methods of lists, texts, dicts -/
/-- the receiver is a list -/
theorem rd_bml {R : RMD} {to : TE} {ta : TA} {Q : D → HD → Prop} (h : RdE K B to S G fun o G1 => ∃ p xs, o = .ref p ∧ G1 p = some (.lst xs) ∧ RdA K B ta S G1 fun ds G2 => R (.ref p) ds G2 Q) : RdE K B (tBM K "list" (lfM K R) to ta) S G Q := fun σ H P bx rs rh c =>
  h σ H _ bx rs rh fun v H1 o G1 x1 rh1 dx ⟨p, xs, eo, ep, h1⟩ => by
    subst eo
    cases den_ref.mp dx
    obtain ⟨vs, e1, ds⟩ := rh1.lst ep
    exact ⟨.inl ⟨rfl, _, SqL.of e1⟩, h1 σ H1 _ (bx.trans x1) (rs.mono x1) rh1 fun ws H2 ds2 G2 x2 rh2 dds q => ⟨.ref p, ds2, G2, Q, rh2, den_ref.mpr rfl, dds, q, Cont.mono (x1.trans x2) c⟩⟩
theorem rd_bml0 {R : RMD} {to : TE} {Q : D → HD → Prop} (h : RdE K B to S G fun o G1 => ∃ p xs, o = .ref p ∧ G1 p = some (.lst xs) ∧ R (.ref p) [] G1 Q) : RdE K B (tBM0 K "list" (lfM K R) to) S G Q := fun σ H P bx rs rh c =>
  h σ H _ bx rs rh fun v H1 o G1 x1 rh1 dx ⟨p, xs, eo, ep, q⟩ => by
    subst eo
    cases den_ref.mp dx
    obtain ⟨vs, e1, ds⟩ := rh1.lst ep
    exact ⟨.inl ⟨rfl, _, SqL.of e1⟩, .ref p, [], G1, Q, rh1, den_ref.mpr rfl, dens_nil.mpr rfl, q, Cont.mono x1 c⟩
/-- a text -/
theorem rd_bms {R : RMD} {to : TE} {ta : TA} {Q : D → HD → Prop} (h : RdE K B to S G fun o G1 => ∃ z, o = .str z ∧ RdA K B ta S G1 fun ds G2 => R (.str z) ds G2 Q) : RdE K B (tBM K "str" (lfM K R) to ta) S G Q := fun σ H P bx rs rh c =>
  h σ H _ bx rs rh fun v H1 o G1 x1 rh1 dx ⟨z, eo, h1⟩ => by
    subst eo
    cases den_str.mp dx
    exact ⟨rfl, h1 σ H1 _ (bx.trans x1) (rs.mono x1) rh1 fun ws H2 ds2 G2 x2 rh2 dds q => ⟨.str z, ds2, G2, Q, rh2, den_str.mpr rfl, dds, q, Cont.mono (x1.trans x2) c⟩⟩
def RAppend : RMD := fun o ds G Q => ∃ p xs y, o = .ref p ∧ ds = [y] ∧ G p = some (.lst xs) ∧ xs.length < sizeLine ∧ Q .non (put G p (.lst (xs ++ [y])))
theorem mtd_append : MtM X "list.append" (lfM X.K RAppend) := by
  rintro pins s σ H xv vs v us P I rx rv ⟨x, ds, G, Q, rh, dx, dds, ⟨p, xs, y, rfl, rfl, e, hl, q⟩, c⟩
  cases den_ref.mp dx
  obtain ⟨yv, r, rfl, d1, d2⟩ := dens_cons.mp dds
  cases dens_nil.mp d2
  obtain ⟨ws, e1, dd⟩ := rh.lst e
  exact mt_append pins s σ H _ _ v us P I rx rv ⟨p, ws, yv, rfl, rfl, e1, by rw [← dd.len]; exact hl, c _ _ _ _ (Ext.setLst e1) (rh.setLst e1 (dd.append (.one d1))) (den_non.mpr rfl) q⟩
def RExtend : RMD := fun o ds G Q => ∃ p q xs ys, o = .ref p ∧ ds = [.ref q] ∧ G p = some (.lst xs) ∧ G q = some (.lst ys) ∧ xs.length + ys.length ≤ sizeLine ∧ Q .non (put G p (.lst (xs ++ ys)))
theorem mtd_extend : MtM X "list.extend" (lfM X.K RExtend) := by
  rintro pins s σ H xv vs v us P I rx rv ⟨x, ds, G, Q, rh, dx, dds, ⟨p, q', xs, ys, rfl, rfl, e, e2, hl, q⟩, c⟩
  cases den_ref.mp dx
  obtain ⟨yv, r, rfl, d1, d2⟩ := dens_cons.mp dds
  cases dens_nil.mp d2
  cases den_ref.mp d1
  obtain ⟨ws, e1, dd⟩ := rh.lst e
  obtain ⟨ws2, e3, dd2⟩ := rh.lst e2
  exact mt_extend pins s σ H _ _ v us P I rx rv ⟨p, q', ws, ws2, rfl, rfl, e1, e3, by rw [← dd.len, ← dd2.len]; exact hl, c _ _ _ _ (Ext.setLst e1) (rh.setLst e1 (dd.append dd2)) (den_non.mpr rfl) q⟩
def RPop0 : RMD := fun o ds G Q => ∃ p xs y, o = .ref p ∧ ds = [] ∧ G p = some (.lst xs) ∧ xs[xs.length - 1]? = some y ∧ Q y (put G p (.lst xs.dropLast))
theorem Dens.dropLast {H : Hp} {xs : List D} {vs : List V} (h : Dens K H xs vs) : Dens K H xs.dropLast vs.dropLast := by
  rw [List.dropLast_eq_take, List.dropLast_eq_take, h.len]
  exact h.take _
theorem mtd_pop0 : MtM X "list.pop" (lfM X.K RPop0) := by
  rintro pins s σ H xv vs v us P I rx rv ⟨x, ds, G, Q, rh, dx, dds, ⟨p, xs, y, rfl, rfl, e, hy, q⟩, c⟩
  cases den_ref.mp dx
  cases dens_nil.mp dds
  obtain ⟨ws, e1, dd⟩ := rh.lst e
  obtain ⟨yv, h1, d1⟩ := dd.get hy
  exact mt_pop pins s σ H _ _ v us P I rx rv ⟨p, ws, yv, rfl, rfl, e1, by rw [← dd.len]; exact h1, c _ _ _ _ (Ext.setLst e1) (rh.setLst e1 dd.dropLast) (Den.mono (Ext.setLst e1) _ _ d1) q⟩
def RPopAt : RMD := fun o ds G Q => ∃ p xs i k y, o = .ref p ∧ ds = [.int i] ∧ G p = some (.lst xs) ∧ -(2 ^ 63) ≤ i ∧ i < 2 ^ 63 ∧ seqIndex? i xs.length = some k ∧ xs[k]? = some y ∧ Q y (put G p (.lst (xs.eraseIdx k)))
theorem mtd_popAt : MtM X "list.pop" (lfM X.K RPopAt) := by
  rintro pins s σ H xv vs v us P I rx rv ⟨x, ds, G, Q, rh, dx, dds, ⟨p, xs, i, k, y, rfl, rfl, e, h1, h2, h3, h4, q⟩, c⟩
  cases den_ref.mp dx
  obtain ⟨yv, r, rfl, d1, d2⟩ := dens_cons.mp dds
  cases dens_nil.mp d2
  cases den_int.mp d1
  obtain ⟨ws, e1, dd⟩ := rh.lst e
  obtain ⟨yv, h5, d5⟩ := dd.get h4
  exact mt_popAt pins s σ H _ _ v us P I rx rv ⟨p, ws, i, k, yv, rfl, rfl, e1, h1, h2, by rw [← dd.len]; exact h3, h5, c _ _ _ _ (Ext.setLst e1) (rh.setLst e1 (dd.eraseIdx k)) (Den.mono (Ext.setLst e1) _ _ d5) q⟩
/-- sep.join(texts) -/
def RJoin : RMD := fun o ds G Q => ∃ a d ys, o = .str a ∧ ds = [d] ∧ ((∃ p, d = .ref p ∧ (G p = some (.lst (ys.map D.str)) ∨ G p = some (.lck (.lst (ys.map D.str))))) ∨ d = .tup (ys.map D.str)) ∧
  (ys.map (·.length)).sum + ys.length * a.length ≤ 16777216 ∧ Q (.str (Txt.join a ys)) G
theorem mtd_join : MtR X "str.join" (lfM X.K RJoin) := by
  rintro pins s σ H xv vs v us P I rx rv ⟨x, ds, G, Q, rh, dx, dds, ⟨a, d, ys, rfl, rfl, hd, hz, q⟩, c⟩
  cases den_str.mp dx
  obtain ⟨yv, r, rfl, d1, d2⟩ := dens_cons.mp dds
  cases dens_nil.mp d2
  have qq := c _ H _ G (Ext.refl _) rh (den_str.mpr rfl) q
  rcases hd with ⟨p, rfl, g⟩ | rfl
  · cases den_ref.mp d1
    obtain ⟨ws, sq, dd⟩ := sq_of rh g
    exact mt_join pins s σ H _ _ v us P I rx rv ⟨a, p, ys, rfl, rfl, .inl (by rw [← Dens.strs dd]; exact sq), hz, qq⟩
  · obtain ⟨b, ws, rfl, t, dd⟩ := den_tup.mp d1
    exact mt_join pins s σ H _ _ v us P I rx rv ⟨a, b, ys, rfl, rfl, .inr (by rw [← Dens.strs dd]; exact t.sq), hz, qq⟩
def RSplit : RMD := fun o ds G Q => ∃ a b, o = .str a ∧ ds = [.str b] ∧ (b.length == 0) = false ∧ a.length + 2 ≤ sizeLine ∧ ∀ p, G p = none → Q (.ref p) (put G p (.lst ((Txt.split a b).map D.str)))
theorem dens_strs {H : Hp} (ys : List Str) : Dens K H (ys.map D.str) (ys.map V.str) := Dens.map D.str V.str (fun _ => den_str.mpr rfl) ys
theorem dens_ints {H : Hp} (ys : List Int) : Dens K H (ys.map D.int) (ys.map V.int) := Dens.map D.int V.int (fun _ => den_int.mpr rfl) ys
theorem mtd_split : MtR X "str.split" (lfM X.K RSplit) := by
  rintro pins s σ H xv vs v us P I rx rv ⟨x, ds, G, Q, rh, dx, dds, ⟨a, b, rfl, rfl, h1, h2, q⟩, c⟩
  cases den_str.mp dx
  obtain ⟨yv, r, rfl, d1, d2⟩ := dens_cons.mp dds
  cases dens_nil.mp d2
  cases den_str.mp d1
  exact mt_split pins s σ H _ _ v us P I rx rv ⟨a, b, rfl, rfl, h1, h2, fun p hp => c _ _ _ _ (Ext.new hp) (rh.newLst hp (dens_strs _)) (den_ref.mpr rfl) (q p (rh.free hp))⟩

/-! ### built-in functions -/
theorem one_of {H : Hp} {x : D} {vs : List V} (h : Dens K H [x] vs) : ∃ v, vs = [v] ∧ Den K H x v := by
  obtain ⟨v, r, rfl, d1, d2⟩ := dens_cons.mp h
  cases dens_nil.mp d2
  exact ⟨v, rfl, d1⟩
theorem two_of {H : Hp} {x y : D} {vs : List V} (h : Dens K H [x, y] vs) : ∃ v w, vs = [v, w] ∧ Den K H x v ∧ Den K H y w := by
  obtain ⟨v, r, rfl, d1, d2⟩ := dens_cons.mp h
  obtain ⟨w, rfl, d3⟩ := one_of d2
  exact ⟨v, w, rfl, d1, d3⟩
def RLen : RLD := fun ds G Q => ∃ d, ds = [d] ∧ match d with
  | .str z => z.length ≤ sizeLine ∧ Q (.int z.length) G
  | .tup xs => Q (.int xs.length) G
  | .kt _ xs => Q (.int xs.length) G
  | .ref p => (∃ xs, (G p = some (.lst xs) ∨ G p = some (.lck (.lst xs))) ∧ Q (.int xs.length) G) ∨ (∃ kvs, G p = some (.dic kvs) ∧ Q (.int kvs.length) G) ∨ ∃ kvs, G p = some (.dct kvs) ∧ Q (.int kvs.length) G
  | _ => False
theorem crd_len : CallR X (.builtin "len") (lfL X.K RLen) := by
  rintro pins s σ H xvs us P I rv ⟨xs, G, Q, rh, dds, ⟨d, rfl, h⟩, c⟩
  obtain ⟨v, rfl, d1⟩ := one_of dds
  cases d <;> first | exact h.elim | skip
  · cases den_str.mp d1
    exact call_len_str pins s σ H _ us P I rv ⟨_, rfl, h.1, c _ H _ G (Ext.refl _) rh (den_int.mpr rfl) h.2⟩
  · obtain ⟨a, vs, rfl, t, ds⟩ := den_tup.mp d1
    exact call_len_seq pins s σ H _ us P I rv ⟨a, vs, rfl, .inr t.sq, c _ H _ G (Ext.refl _) rh (den_int.mpr (by rw [ds.len])) h⟩
  · cases den_ref.mp d1
    rcases h with ⟨ys, g, q⟩ | ⟨kvs, g, q⟩ | ⟨kvs, g, q⟩
    · obtain ⟨vs, sq, ds⟩ := sq_of rh g
      exact call_len_seq pins s σ H _ us P I rv ⟨_, vs, rfl, .inl sq, c _ H _ G (Ext.refl _) rh (den_int.mpr (by rw [ds.len])) q⟩
    · obtain ⟨kws, e1, kd⟩ := rh.dic g
      exact call_lenD pins s σ H _ us P I rv ⟨_, kws, rfl, e1, c _ H _ G (Ext.refl _) rh (den_int.mpr (by rw [kd.len])) q⟩
    · obtain ⟨kws, e1, kd⟩ := rh.dct g
      exact call_len_dT pins s σ H _ us P I rv ⟨_, kws, rfl, e1, c _ H _ G (Ext.refl _) rh (den_int.mpr (by rw [kd.len])) q⟩
  · obtain ⟨vs, rfl, t, ds⟩ := den_kt.mp d1
    exact call_len_seq pins s σ H _ us P I rv ⟨_, vs, rfl, .inr t.sq, c _ H _ G (Ext.refl _) rh (den_int.mpr (by rw [ds.len])) h⟩
def RInt : RLD := fun ds G Q => ∃ d, ds = [d] ∧ match d with
  | .int i => Q (.int i) G
  | .bl b => Q (.int (if b then 1 else 0)) G
  | .str z => ∃ n, PySem.intText? z = some n ∧ z.length ≤ 640 ∧ Q (.int n) G
  | _ => False
theorem crd_int : CallR X (.type "int") (lfL X.K RInt) := by
  rintro pins s σ H xvs us P I rv ⟨xs, G, Q, rh, dds, ⟨d, rfl, h⟩, c⟩
  obtain ⟨v, rfl, d1⟩ := one_of dds
  cases d <;> first | exact h.elim | skip
  · cases den_bl.mp d1
    exact call_int1 pins s σ H _ us P I rv (.inr ⟨_, rfl, c _ H _ G (Ext.refl _) rh (den_int.mpr rfl) h⟩)
  · cases den_int.mp d1
    exact call_int1 pins s σ H _ us P I rv (.inl ⟨_, rfl, c _ H _ G (Ext.refl _) rh (den_int.mpr rfl) h⟩)
  · cases den_str.mp d1
    obtain ⟨n, h1, h2, h3⟩ := h
    exact call_int_str pins s σ H _ us P I rv ⟨_, n, rfl, h1, h2, c _ H _ G (Ext.refl _) rh (den_int.mpr rfl) h3⟩
def RStr : RLD := fun ds G Q => ∃ d, ds = [d] ∧ match d with
  | .int i => i.natAbs.log2 < 1920 ∧ Q (.str (toString i)) G
  | .str z => Q (.str z) G
  | _ => False
theorem crd_str : CallR X (.type "str") (lfL X.K RStr) := by
  rintro pins s σ H xvs us P I rv ⟨xs, G, Q, rh, dds, ⟨d, rfl, h⟩, c⟩
  obtain ⟨v, rfl, d1⟩ := one_of dds
  cases d <;> first | exact h.elim | skip
  · cases den_int.mp d1
    exact call_str_int pins s σ H _ us P I rv ⟨_, rfl, h.1, c _ H _ G (Ext.refl _) rh (den_str.mpr rfl) h.2⟩
  · cases den_str.mp d1
    exact SkE.call_str_str pins s σ H _ us P I rv ⟨_, rfl, c _ H _ G (Ext.refl _) rh (den_str.mpr rfl) h⟩
def RAbs : RLD := fun ds G Q => ∃ i, ds = [.int i] ∧ Q (.int (if i < 0 then -i else i)) G
theorem crd_abs : CallR X (.builtin "abs") (lfL X.K RAbs) := by
  rintro pins s σ H xvs us P I rv ⟨xs, G, Q, rh, dds, ⟨i, rfl, h⟩, c⟩
  obtain ⟨v, rfl, d1⟩ := one_of dds
  cases den_int.mp d1
  exact call_abs pins s σ H _ us P I rv ⟨_, rfl, c _ H _ G (Ext.refl _) rh (den_int.mpr rfl) h⟩
def RMin2 : RLD := fun ds G Q => ∃ i j, ds = [.int i, .int j] ∧ Q (.int (if j < i then j else i)) G
theorem crd_min2 (hc : X.calm = true) : CallR X (.builtin "min") (lfL X.K RMin2) := by
  rintro pins s σ H xvs us P I rv ⟨xs, G, Q, rh, dds, ⟨i, j, rfl, h⟩, c⟩
  obtain ⟨v, w, rfl, d1, d2⟩ := two_of dds
  cases den_int.mp d1; cases den_int.mp d2
  exact call_min2 hc pins s σ H _ us P I rv ⟨_, _, rfl, c _ H _ G (Ext.refl _) rh (den_int.mpr rfl) h⟩
def RMax2 : RLD := fun ds G Q => ∃ i j, ds = [.int i, .int j] ∧ Q (.int (if j > i then j else i)) G
theorem crd_max2 (hc : X.calm = true) : CallR X (.builtin "max") (lfL X.K RMax2) := by
  rintro pins s σ H xvs us P I rv ⟨xs, G, Q, rh, dds, ⟨i, j, rfl, h⟩, c⟩
  obtain ⟨v, w, rfl, d1, d2⟩ := two_of dds
  cases den_int.mp d1; cases den_int.mp d2
  exact call_max2 hc pins s σ H _ us P I rv ⟨_, _, rfl, c _ H _ G (Ext.refl _) rh (den_int.mpr rfl) h⟩
def RAll : RLD := fun ds G Q => ∃ (p : Addr) (bs : List Bool), ds = [.ref p] ∧ G p = some (.lst (bs.map D.bl)) ∧ Q (.bl (bs.all id)) G
theorem crd_all (hc : X.calm = true) : CallR X (.builtin "all") (lfL X.K RAll) := by
  rintro pins s σ H xvs us P I rv ⟨xs, G, Q, rh, dds, ⟨p, bs, rfl, g, h⟩, c⟩
  obtain ⟨v, rfl, d1⟩ := one_of dds
  cases den_ref.mp d1
  obtain ⟨vs, e1, ds⟩ := rh.lst g
  exact cr_all hc pins s σ H _ us P I rv ⟨p, bs, rfl, SqL.of (by rw [← Dens.bls ds]; exact e1), c _ H _ G (Ext.refl _) rh (den_bl.mpr rfl) h⟩
def RAny : RLD := fun ds G Q => ∃ (p : Addr) (bs : List Bool), ds = [.ref p] ∧ G p = some (.lst (bs.map D.bl)) ∧ Q (.bl (bs.any id)) G
theorem crd_any (hc : X.calm = true) : CallR X (.builtin "any") (lfL X.K RAny) := by
  rintro pins s σ H xvs us P I rv ⟨xs, G, Q, rh, dds, ⟨p, bs, rfl, g, h⟩, c⟩
  obtain ⟨v, rfl, d1⟩ := one_of dds
  cases den_ref.mp d1
  obtain ⟨vs, e1, ds⟩ := rh.lst g
  exact cr_any hc pins s σ H _ us P I rv ⟨p, bs, rfl, SqL.of (by rw [← Dens.bls ds]; exact e1), c _ H _ G (Ext.refl _) rh (den_bl.mpr rfl) h⟩
def RSum : RLD := fun ds G Q => ∃ (p : Addr) (ns : List Int), ds = [.ref p] ∧ G p = some (.lst (ns.map D.int)) ∧ Q (.int ns.sum) G
theorem crd_sum (hc : X.calm = true) : CallR X (.builtin "sum") (lfL X.K RSum) := by
  rintro pins s σ H xvs us P I rv ⟨xs, G, Q, rh, dds, ⟨p, bs, rfl, g, h⟩, c⟩
  obtain ⟨v, rfl, d1⟩ := one_of dds
  cases den_ref.mp d1
  obtain ⟨vs, e1, ds⟩ := rh.lst g
  exact cr_sum hc pins s σ H _ us P I rv ⟨p, bs, rfl, SqL.of (by rw [← Dens.ints ds]; exact e1), c _ H _ G (Ext.refl _) rh (den_int.mpr rfl) h⟩
def RList : RLD := fun ds G Q => ∃ d, ds = [d] ∧ match d with
  | .tup xs => ∀ p, G p = none → Q (.ref p) (put G p (.lst xs))
  | .ref q => ∃ xs, (G q = some (.lst xs) ∨ G q = some (.lck (.lst xs))) ∧ ∀ p, G p = none → Q (.ref p) (put G p (.lst xs))
  | _ => False
theorem crd_list : CallR X (.type "list") (lfL X.K RList) := by
  rintro pins s σ H xvs us P I rv ⟨xs, G, Q, rh, dds, ⟨d, rfl, h⟩, c⟩
  obtain ⟨v, rfl, d1⟩ := one_of dds
  cases d <;> first | exact h.elim | skip
  · obtain ⟨a, vs, rfl, t, ds⟩ := den_tup.mp d1
    exact call_list_of pins s σ H _ us P I rv ⟨a, vs, rfl, .inr t.sq, fun l hl => c _ _ _ _ (Ext.new hl) (rh.newLst hl ds) (den_ref.mpr rfl) (h l (rh.free hl))⟩
  · cases den_ref.mp d1
    obtain ⟨ys, g, q⟩ := h
    obtain ⟨vs, sq, ds⟩ := sq_of rh g
    exact call_list_of pins s σ H _ us P I rv ⟨_, vs, rfl, .inl sq, fun l hl => c _ _ _ _ (Ext.new hl) (rh.newLst hl ds) (den_ref.mpr rfl) (q l (rh.free hl))⟩
def RTuple : RLD := fun ds G Q => ∃ d, ds = [d] ∧ match d with
  | .tup xs => Q (.tup xs) G
  | .ref q => ∃ xs, (G q = some (.lst xs) ∨ G q = some (.lck (.lst xs))) ∧ Q (.tup xs) G
  | _ => False
theorem crd_tuple : CallR X (.type "tuple") (lfL X.K RTuple) := by
  rintro pins s σ H xvs us P I rv ⟨xs, G, Q, rh, dds, ⟨d, rfl, h⟩, c⟩
  obtain ⟨v, rfl, d1⟩ := one_of dds
  cases d <;> first | exact h.elim | skip
  · obtain ⟨a, vs, rfl, t, ds⟩ := den_tup.mp d1
    exact call_tuple_of pins s σ H _ us P I rv ⟨a, vs, rfl, .inr ⟨t.sq, c _ H _ G (Ext.refl _) rh d1 h⟩⟩
  · cases den_ref.mp d1
    obtain ⟨ys, g, q⟩ := h
    obtain ⟨vs, sq, ds⟩ := sq_of rh g
    exact call_tuple_of pins s σ H _ us P I rv ⟨_, vs, rfl, .inl ⟨sq, fun l hl => c _ _ _ G (Ext.new hl) (rh.newH hl) (den_tup.mpr ⟨l, vs, rfl, upd_same, Dens.mono (Ext.new hl) _ _ ds⟩) q⟩⟩
end

/-! ### repr -/
section
variable {X : Cx} {K : PySem.W.Frag}
def RRepr : RLD := fun ds G Q => ∃ d p, ds = [d] ∧ Rp G p d ∧ p.showable = true ∧ p.hasDict = false ∧ p.depth ≤ 60 ∧ p.shown.length ≤ sizeLine ∧ Q (.str p.shown) G
theorem crd_repr (hg : X.A.guards = some []) (hu : X.A.units + 64 < cLine) : CallR X (.builtin "repr") (lfL X.K RRepr) := by
  rintro pins s σ H xvs us P I rv ⟨xs, G, Q, rh, dds, ⟨d, p, rfl, h1, h2, h3, h4, h5, q⟩, c⟩
  obtain ⟨v, rfl, d1⟩ := one_of dds
  obtain ⟨u, rfl, ru⟩ := Vals.one rv
  have dp := Rp.dp rh p d v h1 d1
  obtain ⟨as, rd⟩ := Dp.reads I p v u dp ru
  have fin : ∀ t (s' : Shared), Inv X pins σ H s' → EP X pins σ P (.str p.shown t) s' := fun t s' I' => ⟨.str p.shown, H, I', ⟨t, rfl⟩, c _ H _ G (Ext.refl _) rh (den_str.mpr rfl) q⟩
  have big : ∀ (a : Addr), u = .ref a → wpAny (model X.prog X.w) X.A (call (.builtin "repr") [u]) (EP X pins σ P) X.xe s := by
    intro a ea
    subst ea
    exact repr_of_reads' rd h2 (PyData.noDict_hsm h3) hg (by omega) (fun _ _ e => e) (fun h' t tk hk => fin t _ (I.kept (t' := tk) hk)) h5
  cases rd with
  | list _ _ _ _ => exact big _ rfl
  | tuple _ _ _ _ => exact big _ rfl
  | dict _ _ _ _ _ => exact big _ rfl
  | none => exact PySem.P.repr_of_none (fin _ _ (I.tok _))
  | bool b => exact PySem.P.repr_of_bool (fin _ _ (I.tok _))
  | int i t => exact PySem.P.repr_of_int (by simpa [PyData.showable] using h2) (fin _ _ (I.tok _))
  | str x t => exact PySem.P.repr_of_str (fin _ _ (I.tok _)) h5
end
end Dd
set_option Elab.async false
set_option linter.all false
set_option maxRecDepth 100000
/-! D7: what is walked: lists, tuples, texts, ranges, enumerate; for, while, comprehensions over trees. -/
namespace Dd
open PySem PySem.Spec L2
open PyProof.Rows hiding St

section
variable (K : PySem.W.Frag)
/-- J walks the trees xs, from the heap B on, while G keeps Sd -/
structure WalkD (B : Hp) (J : It) (xs : List D) (Sd : HD → Prop) : Prop where
  goes : ∀ i H G, Ext B H → RH K H G → Sd G → i < xs.length → J.go i H
  stops : ∀ H G, Ext B H → RH K H G → Sd G → J.stop xs.length H
  yields : ∀ i H G x H', Ext B H → RH K H G → Sd G → i < xs.length → J.yld i H x H' → ∃ d, xs[i]? = some d ∧ Ext H H' ∧ RH K H' G ∧ Den K H' d x
def RdI (B : Hp) (wi : TI) (S : DS) (G : HD) (R : List D → (HD → Prop) → HD → Prop) : Prop :=
  ∀ (σ : L2.St) (H : Hp) (P : It → Hp → Prop), Ext B H → RS K H S σ → RH K H G → (∀ J H' G' xs Sd, Ext H H' → RH K H' G' → WalkD K H' J xs Sd → R xs Sd G' → P J H') → wi σ H P
end

section
variable {K : PySem.W.Frag} {B : Hp} {S : DS} {G : HD}
theorem WalkD.mono {B B' : Hp} {J : It} {xs : List D} {Sd : HD → Prop} (w : WalkD K B J xs Sd) (x : Ext B B') : WalkD K B' J xs Sd :=
  ⟨fun i H G x' => w.goes i H G (x.trans x'), fun H G x' => w.stops H G (x.trans x'), fun i H G v H' x' => w.yields i H G v H' (x.trans x')⟩
/-- for -/
theorem rd_for {wi : TI} {g : TG} {tb : TS} {DD : DEnds} (h : RdI K B wi S G fun xs Sd G1 => ∃ Pv : Nat → DS → HD → Prop, Pv 0 S G1 ∧ (∀ i S' G', i ≤ xs.length → Pv i S' G' → Sd G') ∧
      (∀ i d S' G', xs[i]? = some d → Pv i S' G' → RdG K B g d S' G' fun S2 G2 => RdS K B tb S2 G2 { DD with nx := Pv (i + 1), ct := Pv (i + 1), bk := DD.nx }) ∧ (∀ S' G', Pv xs.length S' G' → DD.nx S' G')) :
    RdS K B (tFor wi g tb) S G DD := fun σ H D bx rs rh e =>
  h σ H _ bx rs rh fun J H1 G1 xs Sd x1 rh1 w ⟨Pv, p0, pS, turn, done⟩ => by
    refine ⟨fun i m σ' H' => m = xs.length - i ∧ i ≤ xs.length ∧ Ext H1 H' ∧ ∃ S' G', RS K H' S' σ' ∧ RH K H' G' ∧ Pv i S' G', ⟨xs.length, by simp, Nat.zero_le _, Ext.refl _, S, G1, rs.mono x1, rh1, p0⟩, ?_⟩
    rintro i m σ' H' ⟨rfl, hi, x', S', G', rs', rh', p⟩
    have sd := pS i S' G' hi p
    by_cases hlt : i < xs.length
    · refine .inr ⟨w.goes i H' G' x' rh' sd hlt, fun σ2 H2 => Ext H1 H2 ∧ ∃ S2 G2, RS K H2 S2 σ2 ∧ RH K H2 G2 ∧ Pv (i + 1) S2 G2, fun σ2 H2 ⟨x2, S2, G2, rs2, rh2, p2⟩ => ⟨xs.length - (i + 1), by omega, rfl, hlt, x2, S2, G2, rs2, rh2, p2⟩, fun x H2 y => ?_⟩
      obtain ⟨d, hd, x2, rh2, dd⟩ := w.yields i H' G' x H2 x' rh' sd hlt y
      have b2 : Ext B H2 := (bx.trans x1).trans (x'.trans x2)
      refine turn i d S' G' hd p x σ' H2 _ b2 dd (rs'.mono x2) rh2 fun σ3 H3 S3 G3 x3 rs3 rh3 q => ?_
      have nx : NxC K H3 (Pv (i + 1)) fun σ2 H2 => Ext H1 H2 ∧ ∃ S2 G2, RS K H2 S2 σ2 ∧ RH K H2 G2 ∧ Pv (i + 1) S2 G2 := fun σ4 H4 S4 G4 x4 rs4 rh4 p4 => ⟨(x'.trans x2).trans (x3.trans x4), S4, G4, rs4, rh4, p4⟩
      have xx := x1.trans ((x'.trans x2).trans x3)
      exact q σ3 H3 _ (b2.trans x3) rs3 rh3 ⟨nx, fun v H4 d4 G4 x4 => e.rt v H4 d4 G4 (xx.trans x4), fun σ4 H4 S4 G4 x4 => e.nx σ4 H4 S4 G4 (xx.trans x4), nx⟩
    · have ei : i = xs.length := by omega
      subst ei
      exact .inl ⟨w.stops H' G' x' rh' sd, e.nx σ' H' S' G' (x1.trans x') rs' rh' (done S' G' p)⟩
/-- while: the invariant with its measure -/
theorem rd_while {c : TT} {tb : TS} {DD : DEnds} (Pv : Nat → DS → HD → Prop) (m0 : Nat) (p0 : Pv m0 S G)
    (turn : ∀ m S' G', Pv m S' G' → RdT K B c S' G' fun b G1 => if b = true then RdS K B tb S' G1 { DD with nx := fun S2 G2 => ∃ m', m' < m ∧ Pv m' S2 G2, ct := fun S2 G2 => ∃ m', m' < m ∧ Pv m' S2 G2, bk := DD.nx } else DD.nx S' G1) :
    RdS K B (tWhile c tb) S G DD := fun σ H D bx rs rh e => by
  refine ⟨fun m σ' H' => Ext H H' ∧ ∃ S' G', RS K H' S' σ' ∧ RH K H' G' ∧ Pv m S' G', ⟨m0, Ext.refl _, S, G, rs, rh, p0⟩, ?_⟩
  rintro m σ' H' ⟨x', S', G', rs', rh', p⟩
  refine turn m S' G' p σ' H' _ (bx.trans x') rs' rh' fun b H1 G1 x1 rh1 q => ?_
  cases b with
  | false => exact e.nx σ' H1 S' G1 (x'.trans x1) (rs'.mono x1) rh1 q
  | true =>
    have nx : NxC K H1 (fun S2 G2 => ∃ m', m' < m ∧ Pv m' S2 G2) fun σ2 H2 => ∃ m', m' < m ∧ Ext H H2 ∧ ∃ S2 G2, RS K H2 S2 σ2 ∧ RH K H2 G2 ∧ Pv m' S2 G2 :=
      fun σ4 H4 S4 G4 x4 rs4 rh4 ⟨m', hm, p4⟩ => ⟨m', hm, (x'.trans x1).trans x4, S4, G4, rs4, rh4, p4⟩
    refine ⟨_, fun σ2 H2 z => z, q σ' H1 _ (bx.trans (x'.trans x1)) (rs'.mono x1) rh1 ⟨nx, fun v H4 d4 G4 x4 => e.rt v H4 d4 G4 ((x'.trans x1).trans x4), fun σ4 H4 S4 G4 x4 => e.nx σ4 H4 S4 G4 ((x'.trans x1).trans x4), nx⟩⟩

/-! ### comprehensions -/
def wipeD (S : DS) : List Nat → DS
  | [] => S
  | v :: vs => (wipeD S vs).set v none
theorem RS.unset {H : Hp} {S : DS} {σ : L2.St} (h : RS K H S σ) (v : Nat) : RS K H (S.set v none) (σ.set v none) := by
  refine ⟨by rw [List.length_set, List.length_set]; exact h.1, fun i d e => ?_⟩
  by_cases c : v = i
  · subst c
    by_cases l : v < S.length
    · rw [List.getElem?_set_self l] at e; cases e
    · rw [List.getElem?_eq_none (by simpa using l)] at e; cases e
  · rw [List.getElem?_set_ne c] at e ⊢
    exact h.2 i d e
theorem RS.wipe {H : Hp} {S : DS} {σ : L2.St} (h : RS K H S σ) : ∀ vs : List Nat, RS K H (wipeD S vs) (L2.wipe σ vs)
  | [] => h
  | v :: vs => (RS.wipe h vs).unset v
theorem wipe_set {σ : L2.St} {i : Nat} {x : Option V} : ∀ {vs : List Nat}, i ∈ vs → L2.wipe (σ.set i x) vs = L2.wipe σ vs
  | [], h => by cases h
  | v :: vs, h => by
    show (L2.wipe (σ.set i x) vs).set v none = (L2.wipe σ vs).set v none
    by_cases c : i ∈ vs
    · rw [wipe_set c]
    · have e : i = v := (List.mem_cons.mp h).resolve_right c
      subst e
      have hs : ∀ (ws : List Nat), i ∉ ws → (L2.wipe (σ.set i x) ws).set i none = (L2.wipe σ ws).set i none := by
        intro ws
        induction ws with
        | nil => intro _; show (σ.set i x).set i none = σ.set i none; rw [List.set_set]
        | cons w ws ih =>
          intro hw
          have h1 : i ≠ w := fun e => hw (by rw [e]; exact List.mem_cons_self)
          have h2 : i ∉ ws := fun e => hw (List.mem_cons_of_mem _ e)
          show ((L2.wipe (σ.set i x) ws).set w none).set i none = ((L2.wipe σ ws).set w none).set i none
          rw [List.set_comm _ _ (Ne.symm h1), ih h2, List.set_comm _ _ h1]
      exact hs vs c
theorem wipe_wipe {σ : L2.St} (vs : List Nat) : L2.wipe (L2.wipe σ vs) vs = L2.wipe σ vs := by
  have : ∀ (ws : List Nat), (∀ w ∈ ws, w ∈ vs) → L2.wipe (L2.wipe σ ws) vs = L2.wipe σ vs := by
    intro ws
    induction ws with
    | nil => intro _; rfl
    | cons w ws ih =>
      intro h
      show L2.wipe ((L2.wipe σ ws).set w none) vs = _
      rw [wipe_set (h w List.mem_cons_self)]
      exact ih fun z hz => h z (List.mem_cons_of_mem _ hz)
  exact this vs fun _ h => h
/-- a target that stores the block's own names alone -/
def OwnG (vs : List Nat) (g : TG) : Prop := ∀ v σ H P, g v σ H P → g v σ H fun σ2 H2 => L2.wipe σ2 vs = L2.wipe σ vs ∧ P σ2 H2
def OwnGs (vs : List Nat) (g : TGs) : Prop := ∀ v σ H P, g v σ H P → g v σ H fun σ2 H2 => L2.wipe σ2 vs = L2.wipe σ vs ∧ P σ2 H2
theorem own_name {vs : List Nat} {i : Nat} (h : i ∈ vs) : OwnG vs (gName i) := fun v σ H P q => ⟨wipe_set h, q⟩
theorem own_nil {vs : List Nat} : OwnGs vs gNil := fun v σ H P q => ⟨q.1, rfl, q.2⟩
theorem own_cons {vs : List Nat} {i : Nat} {gs : TGs} (h : i ∈ vs) (hs : OwnGs vs gs) : OwnGs vs (gCons (gName i) gs) := fun v σ H P ⟨x, r, e, q⟩ => by
  refine ⟨x, r, e, ?_⟩
  have z := hs r (σ.set i (some x)) H P q
  rw [wipe_set h] at z
  exact z
theorem own_tup {vs : List Nat} {n : Nat} {gs : TGs} (hs : OwnGs vs gs) : OwnG vs (gTup K n gs) := fun v σ H P ⟨a, xs, e, t, l, q⟩ => ⟨a, xs, e, t, l, hs xs σ H P q⟩
/-- targets are monotone in what is wanted -/
def MonG (g : TG) : Prop := ∀ v σ H P P', (∀ σ H, P σ H → P' σ H) → g v σ H P → g v σ H P'
theorem rd_lc {wi : TI} {g : TG} {tt : TT} {te : TE} {vs : List Nat} {Q : D → HD → Prop} (ho : OwnG vs g)
    (h : RdI K B wi S G fun xs Sd G1 => ∀ L, G1 L = none → ∃ Pv : Nat → HD → Prop, Pv 0 (put G1 L (.lst [])) ∧ (∀ i G', i ≤ xs.length → Pv i G' → Sd G') ∧
      (∀ i d G', xs[i]? = some d → Pv i G' → RdG K B g d (wipeD S vs) G' fun S2 G2 => RdT K B tt S2 G2 fun b G3 => if b = true then RdE K B te S2 G3 fun y G4 => ∃ acc, G4 L = some (.lst acc) ∧ acc.length < sizeLine ∧ Pv (i + 1) (put G4 L (.lst (acc ++ [y]))) else Pv (i + 1) G3) ∧
      (∀ G', Pv xs.length G' → Wk Q (.ref L) G')) : RdE K B (tLc wi g tt te vs) S G Q := fun σ H P bx rs rh c =>
  h σ H _ bx rs rh fun J H1 G1 xs Sd x1 rh1 w hh => by
    intro L hL
    obtain ⟨Pv, p0, pS, turn, done⟩ := hh L (rh1.free hL)
    refine ⟨fun i m H' => m = xs.length - i ∧ i ≤ xs.length ∧ Ext H1 H' ∧ ∃ G', RH K H' G' ∧ Pv i G', ⟨xs.length, by simp, Nat.zero_le _, Ext.new hL, _, rh1.newLst hL (dens_nil.mpr rfl), p0⟩, ?_⟩
    rintro i m H' ⟨rfl, hi, x', G', rh', p⟩
    have sd := pS i G' hi p
    by_cases hlt : i < xs.length
    · refine .inr ⟨w.goes i H' G' x' rh' sd hlt, fun H2 => Ext H1 H2 ∧ ∃ G', RH K H2 G' ∧ Pv (i + 1) G', fun H2 ⟨x2, G2, q⟩ => ⟨xs.length - (i + 1), by omega, rfl, hlt, x2, G2, q⟩, fun x H2 y => ?_⟩
      obtain ⟨d, hd, x2, rh2, dd⟩ := w.yields i H' G' x H2 x' rh' sd hlt y
      have b2 : Ext B H2 := (bx.trans x1).trans (x'.trans x2)
      have rsw : RS K H2 (wipeD S vs) (L2.wipe σ vs) := ((rs.mono (x1.trans (x'.trans x2))).wipe vs)
      have z := ho x (L2.wipe σ vs) H2 _ (turn i d G' hd p x (L2.wipe σ vs) H2 (fun σ3 H3 => tt σ3 H3 fun b H4 => if b = true then te σ3 H4 fun y H5 => ∃ acc, H5 L = some (.lst acc) ∧ acc.length < sizeLine ∧ (Ext H1 (upd H5 L (.lst (acc ++ [y]))) ∧ ∃ G', RH K (upd H5 L (.lst (acc ++ [y]))) G' ∧ Pv (i + 1) G') else (Ext H1 H4 ∧ ∃ G', RH K H4 G' ∧ Pv (i + 1) G')) b2 dd rsw rh2 fun σ3 H3 S3 G3 x3 rs3 rh3 q => ?_)
      · rw [wipe_wipe] at z
        exact z
      · have x13 : Ext H1 H3 := (x'.trans x2).trans x3
        refine q σ3 H3 _ (b2.trans x3) rs3 rh3 fun b H4 G4 x4 rh4 q4 => ?_
        cases b with
        | false => exact ⟨x13.trans x4, G4, rh4, q4⟩
        | true =>
          refine q4 σ3 H4 _ ((b2.trans x3).trans x4) (rs3.mono x4) rh4 fun v H5 y5 G5 x5 rh5 d5 ⟨acc, e5, l5, p5⟩ => ?_
          obtain ⟨ws, e6, da⟩ := rh5.lst e5
          exact ⟨ws, e6, by rw [← da.len]; exact l5, ((x13.trans x4).trans x5).trans (Ext.setLst e6), _, rh5.setLst e6 (da.append (.one d5)), p5⟩
    · have ei : i = xs.length := by omega
      subst ei
      obtain ⟨G2, s2, q2⟩ := done G' p
      exact .inl ⟨w.stops H' G' x' rh' sd, c (.ref L) H' (.ref L) G2 (x1.trans x') (rh'.sub s2) (den_ref.mpr rfl) q2⟩
/-- the simple case: nothing is changed; each item d with keep d gives f d -/
theorem rd_lcm {wi : TI} {g : TG} {tt : TT} {te : TE} {vs : List Nat} {Q : D → HD → Prop} (ho : OwnG vs g)
    (h : RdI K B wi S G fun xs Sd G1 => (∀ G', Sub G1 G' → Sd G') ∧ xs.length ≤ sizeLine ∧ ∃ (keep : D → Bool) (f : D → D),
      (∀ d ∈ xs, ∀ G', Sub G1 G' → RdG K B g d (wipeD S vs) G' fun S2 G2 => RdT K B tt S2 G2 fun b G3 => Sub G' G3 ∧ b = keep d ∧ (keep d = true → RdE K B te S2 G3 fun y G4 => Sub G' G4 ∧ y = f d)) ∧
      ∀ p, G1 p = none → Q (.ref p) (put G1 p (.lst ((xs.filter keep).map f)))) : RdE K B (tLc wi g tt te vs) S G Q :=
  rd_lc ho fun σ H P bx rs rh c => h σ H P bx rs rh fun J H' G1 xs Sd x rh' w ⟨hS, hz, keep, f, turn, done⟩ => c J H' G1 xs Sd x rh' w fun L hL => by
    refine ⟨fun i G' => Sub (put G1 L (.lst (((xs.take i).filter keep).map f))) G', Sub.refl _, fun i G' _ e => hS _ ((Sub.put hL).trans e), fun i d G' hd e => ?_, fun G' e => ?_⟩
    · have hm : d ∈ xs := List.mem_of_getElem? hd
      have tk : xs.take (i + 1) = xs.take i ++ [d] := by
        rw [List.take_add_one, hd]; rfl
      have hlen : (((xs.take i).filter keep).map f).length < sizeLine := by
        have h1 : ((xs.take i).filter keep).length ≤ (xs.take i).length := List.length_filter_le _ _
        have h2 : (xs.take i).length ≤ i := List.length_take_le _ _
        have h3 : i < xs.length := (List.getElem?_eq_some_iff.mp hd).1
        rw [List.length_map]; omega
      have nL : ∀ a o, G1 a = some o → a ≠ L := fun a o q => ne_new q hL
      intro v σ2 H2 P2 bx2 dd rs2 rh2 c2
      refine turn d hm _ ((Sub.put hL).trans e) v σ2 H2 P2 bx2 dd rs2 rh2 fun σ3 H3 S3 G3 x3 rs3 rh3 q => c2 σ3 H3 S3 G3 x3 rs3 rh3 ?_
      intro σ4 H4 P4 bx4 rs4 rh4 c4
      refine q σ4 H4 P4 bx4 rs4 rh4 fun b H5 G5 x5 rh5 ⟨s5, eb, te5⟩ => ?_
      by_cases hk : keep d = true
      · have e5 : b = true := eb.trans hk
        subst e5
        refine c4 true H5 G5 x5 rh5 ?_
        show if true = true then _ else _
        rw [if_pos rfl]
        refine (te5 hk).imp fun y G6 ⟨s6, ey⟩ => ?_
        subst ey
        refine ⟨_, s6 L _ (e L _ put_same), hlen, fun a o q => ?_⟩
        by_cases z : a = L
        · subst z
          rw [put_same] at q ⊢
          rw [tk, List.filter_append, List.map_append] at q
          simpa [hk] using q
        · rw [put_ne z] at q ⊢
          exact s6 a o (e a o (by rw [put_ne z]; exact q))
      · have hk' : keep d = false := by simpa using hk
        have e5 : b = false := eb.trans hk'
        subst e5
        refine c4 false H5 G5 x5 rh5 ?_
        show if false = true then _ else _
        rw [if_neg Bool.false_ne_true]
        intro a o q
        refine s5 a o (e a o ?_)
        rw [tk, List.filter_append, List.map_append] at q
        simpa [hk'] using q
    · have e : Sub (put G1 L (.lst (((xs.take xs.length).filter keep).map f))) G' := e
      rw [List.take_length] at e
      exact ⟨_, e, done L hL⟩

/-! ### what is walked -/
theorem walkd_of {H1 : Hp} {J : It} {n : Nat} {Gv : Hp → Prop} {Y : Nat → Hp → V → Hp → Prop} {xs : List D} {Sd : HD → Prop} (w : L2.Walk J n Gv Y) (hn : n = xs.length) (hG : ∀ H G, Ext H1 H → RH K H G → Sd G → Gv H)
    (hY : ∀ i H G x H', Ext H1 H → RH K H G → Sd G → Y i H x H' → ∃ d, xs[i]? = some d ∧ Ext H H' ∧ RH K H' G ∧ Den K H' d x) : WalkD K H1 J xs Sd := by
  subst hn
  exact ⟨fun i H G x rh sd hi => w.goes i H hi (hG H G x rh sd), fun H G x rh sd => w.stops H (hG H G x rh sd), fun i H G x H' xx rh sd hi y => hY i H G x H' xx rh sd (w.yields i H x H' hi (hG H G xx rh sd) y)⟩
/-- a list, a tuple, a text -/
def iSeq (K : PySem.W.Frag) (te : TE) : TI := fun σ H R => te σ H fun x H1 => (∃ a, x = .ref a ∧ (∃ xs, SqL K H1 a xs) ∧ R (Itl K a) H1) ∨ (∃ a, x = .ref a ∧ (∃ xs, SqT K H1 a xs) ∧ R (Itt K a) H1) ∨ ∃ z, x = .str z ∧ R (Its z) H1
theorem pi_seqd {X : Cx} {tg l : Expr} {tl : TE} (hl : PE X l tl) : PI X tg l (iSeq X.K tl) := by
  refine ⟨fun pins s σ H R I h => ?_⟩
  refine thn (hl.run pins s σ H _ I h) fun v s1 ⟨x, H1, I1, r1, q1⟩ => ?_
  rcases q1 with ⟨a, e, hx, q⟩ | ⟨a, e, hx, q⟩ | ⟨z, e, q⟩
  · subst e
    cases r1
    obtain ⟨xs, hq⟩ := hx
    obtain ⟨its, rv, p, hz⟩ := I1.list hq
    exact wpAny_pyIter_list p.isList (pi_one (tk := s1.toks) I1 _ (turn_list a _) ⟨_, Heap.get?_push_size _ rfl, rfl, rfl⟩ q)
  · subst e
    cases r1
    obtain ⟨xs, hq⟩ := hx
    obtain ⟨its, rv, p, hz⟩ := I1.tuple hq
    exact wpAny_pyIter_tuple (show s1.heap.IsTuple a its.toArray from p) (pi_one (tk := s1.toks) I1 _ (turn_tuple a _) ⟨_, Heap.get?_push_size _ rfl, rfl, rfl⟩ q)
  · subst e
    obtain ⟨t, rfl⟩ := r1
    cases ha : z.cps.all (· < 128)
    · exact wpAny_pyIter_wide ha (pi_one (tk := s1.toks) I1 _ (turn_str _ z t "str_iterator" (.inr rfl)) ⟨_, Heap.get?_push_size _ rfl, rfl, rfl⟩ q)
    · exact wpAny_pyIter_ascii ha (pi_one (tk := s1.toks) I1 _ (turn_str _ z t "str_ascii_iterator" (.inl rfl)) ⟨_, Heap.get?_push_size _ rfl, rfl, rfl⟩ q)
/-- the signs of a text -/
def signs (z : Str) : List D := z.cps.toList.map fun c => .str ⟨#[c]⟩
theorem signs_len {z : Str} : (signs z).length = z.cps.size := by simp [signs]
/-- what a value gives when it is walked, and what must stand meanwhile -/
inductive Walks : D → HD → List D → (HD → Prop) → Prop
  | lst {p G xs} : G p = some (.lst xs) → Walks (.ref p) G xs (fun G' => G' p = some (.lst xs))
  | lck {p G xs} : G p = some (.lck (.lst xs)) → Walks (.ref p) G xs (fun G' => G' p = some (.lck (.lst xs)))
  | tup {ds G} : Walks (.tup ds) G ds (fun _ => True)
  | str {z G} : Walks (.str z) G (signs z) (fun _ => True)
theorem rd_iseq {te : TE} {R : List D → (HD → Prop) → HD → Prop} (h : RdE K B te S G fun d G1 => ∃ xs Sd, Walks d G1 xs Sd ∧ R xs Sd G1) : RdI K B (iSeq K te) S G R := fun σ H P bx rs rh c =>
  h σ H _ bx rs rh fun v H' d G' x rh' dd ⟨xs, Sd, hw, r⟩ => by
    cases hw with
    | lst e =>
      rw [den_ref] at dd
      subst dd
      obtain ⟨vs, e', ds⟩ := sq_of rh' (.inl e)
      refine .inl ⟨_, rfl, ⟨vs, e'⟩, c _ H' G' xs _ x rh' ?_ r⟩
      refine ⟨fun i H2 G2 _ rh2 sd hi => ?_, fun H2 G2 _ rh2 sd => ?_, fun i H2 G2 u H3 _ rh2 sd hi y => ?_⟩
      · obtain ⟨ws, e2, ds2⟩ := sq_of rh2 (.inl sd)
        exact ⟨ws, ws[i]'(by rw [← ds2.len]; exact hi), e2, by simp⟩
      · obtain ⟨ws, e2, ds2⟩ := sq_of rh2 (.inl sd)
        exact ⟨ws, e2, by rw [ds2.len]; exact Nat.le_refl _⟩
      · obtain ⟨ws, e2, ds2⟩ := sq_of rh2 (.inl sd)
        obtain ⟨rfl, hy⟩ := y
        obtain ⟨d, hd, dv⟩ := ds2.get' (hy ws e2)
        exact ⟨d, hd, Ext.refl _, rh2, dv⟩
    | lck e =>
      rw [den_ref] at dd
      subst dd
      obtain ⟨vs, e', ds⟩ := sq_of rh' (.inr e)
      refine .inl ⟨_, rfl, ⟨vs, e'⟩, c _ H' G' xs _ x rh' ?_ r⟩
      refine ⟨fun i H2 G2 _ rh2 sd hi => ?_, fun H2 G2 _ rh2 sd => ?_, fun i H2 G2 u H3 _ rh2 sd hi y => ?_⟩
      · obtain ⟨ws, e2, ds2⟩ := sq_of rh2 (.inr sd)
        exact ⟨ws, ws[i]'(by rw [← ds2.len]; exact hi), e2, by simp⟩
      · obtain ⟨ws, e2, ds2⟩ := sq_of rh2 (.inr sd)
        exact ⟨ws, e2, by rw [ds2.len]; exact Nat.le_refl _⟩
      · obtain ⟨ws, e2, ds2⟩ := sq_of rh2 (.inr sd)
        obtain ⟨rfl, hy⟩ := y
        obtain ⟨d, hd, dv⟩ := ds2.get' (hy ws e2)
        exact ⟨d, hd, Ext.refl _, rh2, dv⟩
    | tup =>
      obtain ⟨a, vs, rfl, e', ds⟩ := den_tup.mp dd
      refine .inr (.inl ⟨a, rfl, ⟨vs, e'.sq⟩, c _ H' G' _ _ x rh' ?_ r⟩)
      refine ⟨fun i H2 G2 x2 rh2 sd hi => ?_, fun H2 G2 x2 rh2 sd => ?_, fun i H2 G2 u H3 x2 rh2 sd hi y => ?_⟩
      · exact ⟨vs, vs[i]'(by rw [← ds.len]; exact hi), (TupAt.mono x2 e').sq, by simp⟩
      · exact ⟨vs, (TupAt.mono x2 e').sq, by rw [ds.len]; exact Nat.le_refl _⟩
      · obtain ⟨rfl, hy⟩ := y
        obtain ⟨d, hd, dv⟩ := (Dens.mono x2 _ _ ds).get' (hy vs (TupAt.mono x2 e').sq)
        exact ⟨d, hd, Ext.refl _, rh2, dv⟩
    | str =>
      rw [den_str] at dd
      subst dd
      refine .inr (.inr ⟨_, rfl, c _ H' G' _ _ x rh' ?_ r⟩)
      refine ⟨fun i H2 G2 _ rh2 sd hi => ?_, fun H2 G2 _ rh2 sd => ?_, fun i H2 G2 u H3 _ rh2 sd hi y => ?_⟩
      · rw [signs_len] at hi; exact hi
      · rw [signs_len]; exact Nat.le_refl _
      · obtain ⟨rfl, c, hc, rfl⟩ := y
        refine ⟨.str ⟨#[c]⟩, ?_, Ext.refl _, rh2, den_str.mpr rfl⟩
        show (List.map _ _)[i]? = _
        rw [List.getElem?_map, Array.getElem?_toList, hc]; rfl
/-! ### ranges -/
def rints (lo : Int) (n : Nat) : List D := (List.range n).map fun i => .int (lo + (i : Nat))
def rintsC (lo c : Int) (n : Nat) : List D := (List.range n).map fun i => .int (lo + (i : Nat) * c)
theorem rints_len {lo n} : (rints lo n).length = n := by simp [rints]
theorem rintsC_len {lo c n} : (rintsC lo c n).length = n := by simp [rintsC]
theorem walkd_rng {lo : Int} {n : Nat} {H : Hp} : WalkD K H (Itr lo n) (rints lo n) (fun _ => True) := by
  refine ⟨fun i H2 G2 _ rh2 sd hi => ?_, fun H2 G2 _ rh2 sd => ?_, fun i H2 G2 u H3 _ rh2 sd hi y => ?_⟩
  · rw [rints_len] at hi; exact hi
  · rw [rints_len]; exact Nat.le_refl _
  · obtain ⟨rfl, rfl⟩ := y
    rw [rints_len] at hi
    exact ⟨.int (lo + (i : Nat)), by simp [rints, hi], Ext.refl _, rh2, den_int.mpr rfl⟩
theorem walkd_rngC {lo c : Int} {n : Nat} {H : Hp} : WalkD K H (Itc lo c n) (rintsC lo c n) (fun _ => True) := by
  refine ⟨fun i H2 G2 _ rh2 sd hi => ?_, fun H2 G2 _ rh2 sd => ?_, fun i H2 G2 u H3 _ rh2 sd hi y => ?_⟩
  · rw [rintsC_len] at hi; exact hi
  · rw [rintsC_len]; exact Nat.le_refl _
  · obtain ⟨rfl, rfl⟩ := y
    rw [rintsC_len] at hi
    exact ⟨.int (lo + (i : Nat) * c), by simp [rintsC, hi], Ext.refl _, rh2, den_int.mpr rfl⟩
theorem one_inv {H : Hp} {d : D} {vs : List V} (h : Dens K H [d] vs) : ∃ v, vs = [v] ∧ Den K H d v := by
  obtain ⟨v, r, e, dv, dr⟩ := dens_cons.mp h
  rw [dens_nil.mp dr] at e
  exact ⟨v, e, dv⟩
theorem two_inv {H : Hp} {d d2 : D} {vs : List V} (h : Dens K H [d, d2] vs) : ∃ v w, vs = [v, w] ∧ Den K H d v ∧ Den K H d2 w := by
  obtain ⟨v, r, e, dv, dr⟩ := dens_cons.mp h
  obtain ⟨w, e2, dw⟩ := one_inv dr
  exact ⟨v, w, by rw [e, e2], dv, dw⟩
theorem three_inv {H : Hp} {d d2 d3 : D} {vs : List V} (h : Dens K H [d, d2, d3] vs) : ∃ u v w, vs = [u, v, w] ∧ Den K H d u ∧ Den K H d2 v ∧ Den K H d3 w := by
  obtain ⟨v, r, e, dv, dr⟩ := dens_cons.mp h
  obtain ⟨w, z, e2, dw, dz⟩ := two_inv dr
  exact ⟨v, w, z, by rw [e, e2], dv, dw, dz⟩
theorem rd_rng1 {ta : TA} {R : List D → (HD → Prop) → HD → Prop} (h : RdA K B ta S G fun ds G1 => ∃ j : Int, ds = [.int j] ∧ -(2 ^ 62) ≤ j ∧ j < 2 ^ 62 ∧ R (rints 0 j.toNat) (fun _ => True) G1) : RdI K B (iRng1 ta) S G R := fun σ H P bx rs rh c =>
  h σ H _ bx rs rh fun vs H' ds G' x rh' dd ⟨j, e, l1, l2, r⟩ => by
    subst e
    obtain ⟨v, rfl, dv⟩ := one_inv dd
    rw [den_int] at dv; subst dv
    exact ⟨j, rfl, l1, l2, c _ H' G' _ _ x rh' walkd_rng r⟩
theorem rd_rng2 {ta : TA} {R : List D → (HD → Prop) → HD → Prop} (h : RdA K B ta S G fun ds G1 => ∃ i j : Int, ds = [.int i, .int j] ∧ (-(2 ^ 62) ≤ i ∧ i < 2 ^ 62 ∧ -(2 ^ 62) ≤ j ∧ j < 2 ^ 62) ∧ R (rints i (j - i).toNat) (fun _ => True) G1) : RdI K B (iRng2 ta) S G R := fun σ H P bx rs rh c =>
  h σ H _ bx rs rh fun vs H' ds G' x rh' dd ⟨i, j, e, l, r⟩ => by
    subst e
    obtain ⟨v, w, rfl, dv, dw⟩ := two_inv dd
    rw [den_int] at dv dw; subst dv dw
    exact ⟨i, j, rfl, l, c _ H' G' _ _ x rh' walkd_rng r⟩
theorem rd_rng3 {ta : TA} {R : List D → (HD → Prop) → HD → Prop} (h : RdA K B ta S G fun ds G1 => ∃ (i j k : Int) (n : Nat), ds = [.int i, .int j, .int k] ∧ RgC i j k n ∧ R (rintsC i k n) (fun _ => True) G1) : RdI K B (iRng3 ta) S G R := fun σ H P bx rs rh c =>
  h σ H _ bx rs rh fun vs H' ds G' x rh' dd ⟨i, j, k, n, e, l, r⟩ => by
    subst e
    obtain ⟨u, v, w, rfl, du, dv, dw⟩ := three_inv dd
    rw [den_int] at du dv dw; subst du dv dw
    exact ⟨i, j, k, n, rfl, l, c _ H' G' _ _ x rh' walkd_rngC r⟩
end
end Dd
set_option Elab.async false
set_option linter.all false
set_option maxRecDepth 100000
/-! D8: enumerate over a list, a tuple or a text. -/
namespace PySem
open Sem (wp)
open AutoSeq1 (wpAny_loadPart')
set_option maxRecDepth 100000
theorem meets_enumerate_newB {v : Value} {o : Obj} {HH : Heap → Prop} (Bg : Begins v o HH) :
    Meets (Builtin.«enumerate.__new__» ⟨[.type "enumerate", v], []⟩) (fun _ R s => HH s.heap ∧
      R (.ok (.ret (.ref (s.heap.push o).objs.size)))
        { s with heap := (s.heap.push o).push { cls := .type "enumerate", data := .fields #[.none, .bool false, .ref s.heap.objs.size, rawInt 0, .none, .none] } }) :=
  .of_wp fun prog w A R s h => by
    obtain ⟨hp, g, d, tk, os⟩ := s; obtain ⟨hl, h⟩ := h
    have hsub := sub_enumerate
    have hit := fun (A : Around) (Q : Value → Shared → Prop) (E : Value → Shared → Prop) (q : Q (.ref hp.objs.size) { heap := hp.push o, gens := g, drawn := d, toks := tk, os := os }) => Bg.iter prog w A E ⟨hp, g, d, tk, os⟩ Q hl q
    wp_walk
    refine wpAny_stack_any fun st => wpAny_pure ?_
    split
    · rename_i c _ _ _ _ _
      cases (c == Value.type "enumerate")
      · wp_walk using hit
        exact ⟨_, rfl, h⟩
      · wp_walk using hit
        exact ⟨_, rfl, h⟩
    · wp_walk using hit
      exact ⟨_, rfl, h⟩
end PySem
namespace PySem
section
variable {prog : Program} {w : World} {A : Around} {E : Value → Shared → Prop} {s : Shared}
theorem call_enumerate_B {v : Value} {o : Obj} {HH : Heap → Prop} {Q : Value → Shared → Prop} (Bg : Begins v o HH) (hv : HH s.heap)
    (h : ∀ h', IsEnum h' (s.heap.objs.size + 1) s.heap.objs.size 0 .none → h'.get? s.heap.objs.size = some o →
      (∀ b o, s.heap.get? b = some o → h'.get? b = some o) → Q (.ref (s.heap.objs.size + 1)) { s with heap := h' }) :
    wpAny (model prog w) A (call (.type "enumerate") [v]) Q E s := by
  refine callType_new F.called_enumerate (by decide) (F.typeCall_enumerate_1 _) (F.newCall_enumerate_1 _) (fun obj => F.args_object_init_2 obj _) F.entry_enumerate_new
    (meets_enumerate_newB Bg) ⟨hv, ?_⟩
  have hz : (s.heap.push o).objs.size = s.heap.objs.size + 1 := Heap.size_push ..
  show _ ∧ _
  rw [hz]
  have he : IsEnum ((s.heap.push o).push
      { cls := .type "enumerate", data := .fields #[.none, .bool false, .ref s.heap.objs.size, rawInt 0, .none, .none] }) (s.heap.objs.size + 1) s.heap.objs.size 0 .none := by
    have := Heap.get?_push_size (s.heap.push o)
      (o := { cls := .type "enumerate", data := .fields #[.none, .bool false, .ref s.heap.objs.size, rawInt 0, .none, .none] }) rfl
    rw [hz] at this; exact this
  exact ⟨⟨_, he, rfl⟩, h _ he (Heap.get?_push_of_some _ (Heap.get?_push_size _ Bg.free)) fun b o x => Heap.get?_push_of_some _ (Heap.get?_push_of_some _ x)⟩
end
end PySem
namespace Dd
open PySem PySem.Spec L2
open PyProof.Rows hiding St
/-- pairs of a place and what P says of it; Gd stands meanwhile -/
def Itp (n : Nat) (P : Nat → V → Prop) (Gd : Hp → Prop) : It :=
  ⟨fun i H => i < n ∧ Gd H, fun i H v H' => ∃ T x, v = .ref T ∧ H T = none ∧ H' = upd H T (.tup [.int (i : Nat), x]) ∧ P i x, fun i H => n ≤ i ∧ Gd H⟩
theorem turn_enumD {P : Program} {w : World} {K : PySem.W.Frag} {elts : List Expr} {kk : Nat} {tpos : Pos} (e it : Addr) (n : Nat) (Pv : Nat → V → Prop) (Gd : Hp → Prop) (stn : Nat → Heap → Prop) (ex : Addr → Heap → Prop)
    (live : ∀ i h, stn i h → ∃ o, h.get? it = some o ∧ ∀ v, o.data ≠ .cell v) (kp : ∀ i h h', stn i h → (∀ o, h.get? it = some o → h'.get? it = some o) → stn i h')
    (src : ∀ X : Cx, X.prog = P → X.w = w → X.K = K → X.calm = true → ∀ pins s σ H, Inv X pins σ H s → Gd H → ∃ (fp : List Addr) (PV : Nat → Value → Prop) (ex : Heap → Prop), Draws P w X.A.in1 it fp n PV (fun i h => stn i h ∧ ex h) ∧ ex s.heap ∧ (H e = none → e ≠ it → e ∉ fp) ∧ ∀ i v, PV i v → ∃ x, Pv i x ∧ RelV x v) :
    Turn P w K (.Tuple elts kk tpos) (Itp n Pv Gd) [e, it] e (fun i h => (∃ old, IsEnum h e it ((i : Nat) : Int) old) ∧ stn i h ∧ e ≠ it ∧ i ≤ n) where
  mem := by simp
  obj := fun i h st b hb => by
    obtain ⟨⟨old, he⟩, hi, _⟩ := st
    have e' : b = e ∨ b = it := by simpa using hb
    rcases e' with z | z
    · rw [z]; exact ⟨_, he, fun v q => nomatch q⟩
    · rw [z]; exact live i h hi
  keep := fun i h h' st k => let ⟨⟨old, he⟩, hi, hne, hn⟩ := st; ⟨⟨old, k e (by simp) _ he⟩, kp i h h' hi fun o q => k it (by simp) o q, hne, hn⟩
  item := by
    intro X hP hw hK hc i pins s σ H E I hf st hg
    obtain ⟨⟨old, he⟩, hit, hne, _⟩ := st
    obtain ⟨fp, PV, ex, D, hx, hef, hpv⟩ := src X hP hw hK hc pins s σ H I hg.2
    subst hP hw hK
    have hel : e < s.heap.objs.size := Heap.lt_size he
    have hil : it < s.heap.objs.size := by obtain ⟨_, q, _⟩ := live _ _ hit; exact Heap.lt_size q
    refine wpAny_pyNext_enum_itemD D he ⟨hit, hx⟩ hg.1 hne (hef (hf e (by simp)).1 hne) fun u h' tk hP ho hit' hT hsz hk => ?_
    obtain ⟨x, px, ru⟩ := hpv _ _ hP
    refine ⟨_, rfl, wpAny_letOwnedTupleGo_enum (s := { s with heap := h', toks := tk + 1 }) ho fun h'' he' sb => ?_⟩
    have hT2 : h''.get? s.heap.objs.size = some { cls := .type "tuple", data := .seq #[.int i tk, u] } := (sb.2 _ (Nat.ne_of_gt hel)).trans hT
    have new : ObjOk X.prog X.w (upd H s.heap.objs.size (.tup [.int (i : Nat), x])) h'' s.heap.objs.size (.tup [.int (i : Nat), x]) :=
      ⟨by show 2 ≤ sizeLine; decide, [.int i tk, u], .cons ⟨_, rfl⟩ (.cons ru .nil), ⟨_, hT2, rfl, _, rfl⟩⟩
    have I1 : Inv X pins σ (upd H s.heap.objs.size (.tup [.int (i : Nat), x])) { s with heap := h'', toks := tk + 1 } :=
      I.turnedNew (ch := [e, it]) (fun b ob hb q => (sb.2 b (fun z => hb (by simp [z]))).trans (hk b ob (fun z => hb (by simp [z])) (fun z => hb (by simp [z])) q)) hf (Nat.le_refl _) new
    refine ⟨.ref s.heap.objs.size, _, I1, rfl, ⟨_, x, rfl, I.hok.fresh (Nat.le_refl _), rfl, px⟩, ⟨⟨u, ?_⟩, kp _ _ _ hit'.1 fun o q => (sb.2 it (Ne.symm hne)).trans q, hne, hg.1⟩, fun b hb => ?_⟩
    · have e1 : ((i + 1 : Nat) : Int) = (i : Int) + 1 := by omega
      rw [e1]; exact he'
    · have hb' : b < s.heap.objs.size := by
        have e' : b = e ∨ b = it := by simpa using hb
        rcases e' with z | z
        · rw [z]; exact hel
        · rw [z]; exact hil
      rw [upd_ne (Nat.ne_of_lt hb')]
      exact (hf b hb).1
  done := by
    intro X hP hw hK hc i pins s σ H E I hf st hg
    obtain ⟨⟨old, he⟩, hit, hne, hn⟩ := st
    obtain ⟨fp, PV, ex, D, hx, hef, hpv⟩ := src X hP hw hK hc pins s σ H I hg.2
    subst hP hw hK
    have ei : i = n := Nat.le_antisymm hn hg.1
    subst ei
    obtain ⟨f0, f1, f2, f3, f4, f5⟩ := hf it (by simp)
    exact wpAny_pyNext_enum_endD D he ⟨hit, hx⟩ fun h' eb => ⟨rfl, I.turned (t' := s.toks) (fun b o hb q => eb b o hb q) f0 f1 f3 f4 f5⟩
  self := fun A i s Q E st h => let ⟨⟨_, he⟩, _⟩ := st; wpAny_pyIter_enum he h
theorem vals_get' {xs : List V} {us : List Value} {i : Nat} {u : Value} (r : Vals xs us) (h : us[i]? = some u) : ∃ x, xs[i]? = some x ∧ RelV x u := by
  have hi : i < us.length := (List.getElem?_eq_some_iff.mp h).1
  have hj : i < xs.length := by rw [r.length]; exact hi
  obtain ⟨u', hu, rr⟩ := r.get (List.getElem?_eq_getElem hj)
  rw [h] at hu
  cases hu
  exact ⟨_, List.getElem?_eq_getElem hj, rr⟩
/-- enumerate of a list, a tuple, a text -/
def iEnumD (K : PySem.W.Frag) (ta : TA) : TI := fun σ H R => ta σ H fun vs H1 => (∃ a xs, vs = [.ref a] ∧ SqL K H1 a xs ∧ R (Ite K a) H1) ∨ (∃ a xs, vs = [.ref a] ∧ SqT K H1 a xs ∧ R (Itp xs.length (fun i x => xs[i]? = some x) (fun H => SqT K H a xs)) H1) ∨
  ∃ z, vs = [.str z] ∧ R (Itp z.cps.size (fun i x => ∃ c, z.cps[i]? = some c ∧ x = .str ⟨#[c]⟩) (fun _ => True)) H1
theorem pi_enumD {X : Cx} {e : Expr} {ta : TA} {p pos tpos : Pos} {elts : List Expr} {kk : Nat} (hg : Gl X "enumerate") (hm : X.mg "enumerate" = none) (ha : PA X [e] ta) (hs : starEach [e] X.env = [(false, eval e X.env)] := by rfl) :
    PI X (.Tuple elts kk tpos) (.Call (.Name "enumerate" p) [e] [] pos) (iEnumD X.K ta) := by
  refine ⟨fun pins s σ H R I h => ?_⟩
  refine Call_ (ld_blt I hg hm boot_enumerate (PyProof.Rows.callWith_type1 (thn (ha.run pos pins s σ H _ I h) fun us s1 ⟨vs, H1, I1, r1, q1⟩ => ?_) hs rfl))
  have fpo : ∀ b ∈ [s1.heap.objs.size + 1, s1.heap.objs.size], FpOk X pins H1 b := fun b hb => by
    have e' : b = s1.heap.objs.size + 1 ∨ b = s1.heap.objs.size := by simpa using hb
    have hle : s1.heap.objs.size ≤ b := by
      rcases e' with z | z
      · rw [z]; exact Nat.le_add_right _ _
      · rw [z]; exact Nat.le_refl _
    exact I1.fpOk hle (I1.hok.fresh hle)
  rcases q1 with ⟨a, xs, ex, hq, q⟩ | ⟨a, xs, ex, hq, q⟩ | ⟨z, ex, q⟩
  · subst ex
    cases r1 with
    | cons r rr =>
      cases rr
      cases r
      obtain ⟨its, rv, p', hz⟩ := I1.list hq
      refine call_enumerate_list p'.isList fun h' he hit hsz hk => wpAny_pyIter_enum he ?_
      have I2 : Inv X pins σ H1 { s1 with heap := h' } := I1.kept (t' := s1.toks) hk
      exact ⟨s1.heap.objs.size + 1, [s1.heap.objs.size + 1, s1.heap.objs.size], _, _, H1, rfl, I2, turn_enum a (s1.heap.objs.size + 1) s1.heap.objs.size, ⟨⟨.none, he⟩, hit, Nat.succ_ne_self _⟩, fpo, q⟩
  · subst ex
    cases r1 with
    | cons r rr =>
      cases rr
      cases r
      obtain ⟨its, rv, p', hz⟩ := I1.tuple hq
      refine call_enumerate_B (begins_tuple a its.toArray) (show s1.heap.IsTuple a its.toArray from p') fun h' he hit hk => wpAny_pyIter_enum he ?_
      have I2 : Inv X pins σ H1 { s1 with heap := h' } := I1.kept (t' := s1.toks) hk
      have fa : ∀ b, H1 b = none → a ≠ b ∨ X.K.lookup a ≠ none := fun b hb => by
        rcases hq with (h | ⟨o, h⟩) | ⟨o, its, n, hk, _⟩
        · exact .inl fun e => by rw [e, hb] at h; cases h
        · exact .inl fun e => by rw [e, hb] at h; cases h
        · exact .inr fun e => by rw [hk] at e; cases e
      refine ⟨s1.heap.objs.size + 1, [s1.heap.objs.size + 1, s1.heap.objs.size], _, _, H1, rfl, I2, turn_enumD (s1.heap.objs.size + 1) s1.heap.objs.size xs.length _ _ (fun i h => h.IsTupleIter s1.heap.objs.size a i ∧ a ≠ s1.heap.objs.size ∧ a ≠ s1.heap.objs.size + 1) (fun _ _ => True) ?_ ?_ ?_, ⟨⟨.none, he⟩, ⟨⟨_, hit, rfl, rfl⟩, ?_, ?_⟩, Nat.succ_ne_self _, Nat.zero_le _⟩, fpo, q⟩
      · rintro i h ⟨⟨o, ho, _, hd⟩, _⟩
        exact ⟨o, ho, fun v q => by rw [hd] at q; cases q⟩
      · rintro i h h' ⟨st, n1⟩ k
        exact ⟨st.at fun o e => k o e, n1⟩
      · intro Y hP hw hK hc pins2 s2 σ2 H2 J hq2
        rw [← hP, ← hw]
        rw [← hK] at hq2
        obtain ⟨its2, rv2, p2, _⟩ := J.tuple hq2
        have hl := rv2.length
        by_cases hne : a ≠ s1.heap.objs.size ∧ a ≠ s1.heap.objs.size + 1
        · refine ⟨[s1.heap.objs.size, a], fun i v => its2.toArray[i]? = some v, fun h => h.IsTuple a its2.toArray, ?_, p2, fun _ hee => ?_, fun i v hv => ?_⟩
          · have Dt := Draws.tuple (prog := Y.prog) (w := Y.w) (A := Y.A.in1) (J.ok.hd hc) s1.heap.objs.size a hne.1 its2.toArray
            have el : its2.toArray.size = xs.length := by simp [hl]
            rw [el] at Dt
            exact ⟨fun i h st => Dt.live i h ⟨st.1.1, st.2⟩, fun i h h' st k => by
              obtain ⟨u1, u2⟩ := Dt.frame i h h' ⟨st.1.1, st.2⟩ k
              exact ⟨⟨u1, st.1.2⟩, u2⟩, fun i s Q E hi st hQ => Dt.item i s Q E hi ⟨st.1.1, st.2⟩ fun v h' tk hv st' sb => hQ v h' tk hv ⟨⟨st'.1, st.1.2⟩, st'.2⟩ sb, fun s Q E st hE => Dt.done s Q E ⟨st.1.1, st.2⟩ hE⟩
          · simp [hee, Ne.symm hne.2]
          · obtain ⟨x, hx, rx⟩ := vals_get' rv2 (by simpa using hv)
            exact ⟨x, hx, rx⟩
        · exact ⟨[], fun _ _ => False, fun _ => True, ⟨fun i h st => absurd st.1.2 hne, fun i h h' st => absurd st.1.2 hne, fun i s Q E hi st => absurd st.1.2 hne, fun s Q E st => absurd st.1.2 hne⟩, trivial, fun _ _ => by simp, fun _ _ h => h.elim⟩
      · exact Nat.ne_of_lt p'.lt
      · exact Nat.ne_of_lt (Nat.lt_succ_of_lt p'.lt)
  · subst ex
    cases r1 with
    | cons r rr =>
      cases rr
      obtain ⟨t, rfl⟩ := r
      refine call_enumerate_B (begins_text z t) trivial fun h' he hit hk => wpAny_pyIter_enum he ?_
      have I2 : Inv X pins σ H1 { s1 with heap := h' } := I1.kept (t' := s1.toks) hk
      refine ⟨s1.heap.objs.size + 1, [s1.heap.objs.size + 1, s1.heap.objs.size], _, _, H1, rfl, I2, turn_enumD (s1.heap.objs.size + 1) s1.heap.objs.size z.cps.size _ _ (fun i h => h.IsStrIter s1.heap.objs.size (strIterType z) z t i) (fun _ _ => True) ?_ ?_ ?_, ⟨⟨.none, he⟩, ⟨_, hit, rfl, rfl⟩, Nat.succ_ne_self _, Nat.zero_le _⟩, fpo, q⟩
      · rintro i h ⟨o, ho, _, hd⟩
        exact ⟨o, ho, fun v q => by rw [hd] at q; cases q⟩
      · rintro i h h' ⟨o, ho, r⟩ k
        exact ⟨o, k o ho, r⟩
      · intro Y hP hw hK hc pins2 s2 σ2 H2 J hq2
        rw [← hP, ← hw]
        refine ⟨[s1.heap.objs.size], fun i v => ∃ c u, z.cps[i]? = some c ∧ v = .str ⟨#[c]⟩ u, fun _ => True, ?_, trivial, fun _ hee => by simp, fun i v hv => ?_⟩
        · have Dt := Draws.text (prog := Y.prog) (w := Y.w) (A := Y.A.in1) (J.ok.hd hc) s1.heap.objs.size z t
          exact ⟨fun i h st => Dt.live i h st.1, fun i h h' st k => ⟨Dt.frame i h h' st.1 k, trivial⟩, fun i s Q E hi st hQ => Dt.item i s Q E hi st.1 fun v h' tk hv st' sb => hQ v h' tk hv ⟨st', trivial⟩ sb, fun s Q E st hE => Dt.done s Q E st.1 hE⟩
        · obtain ⟨c, u, hc, rfl⟩ := hv
          exact ⟨.str ⟨#[c]⟩, ⟨c, hc, rfl⟩, ⟨u, rfl⟩⟩

/-! ### readings -/
section
variable {K : PySem.W.Frag} {B : Hp} {S : DS} {G : HD}
def pairs (xs : List D) : List D := (List.range xs.length).zipWith (fun i d => D.tup [.int (i : Nat), d]) xs
theorem pairs_len {xs : List D} : (pairs xs).length = xs.length := by simp [pairs]
theorem pairs_get {xs : List D} {i : Nat} {d : D} (h : xs[i]? = some d) : (pairs xs)[i]? = some (.tup [.int (i : Nat), d]) := by
  have hi : i < xs.length := (List.getElem?_eq_some_iff.mp h).1
  simp [pairs, List.getElem?_zipWith, hi, List.getElem?_range hi]
  rw [List.getElem?_eq_getElem hi] at h
  simpa using h
theorem pairs_of {xs : List D} {i : Nat} {d : D} (h : (pairs xs)[i]? = some d) : ∃ e, xs[i]? = some e ∧ d = .tup [.int (i : Nat), e] := by
  have hi : i < xs.length := by have := (List.getElem?_eq_some_iff.mp h).1; rwa [pairs_len] at this
  have := pairs_get (List.getElem?_eq_getElem hi)
  rw [h] at this
  cases this
  exact ⟨_, List.getElem?_eq_getElem hi, rfl⟩
/-- a new pair, its parts known -/
theorem pair_new {H2 : Hp} {G2 : HD} {T : Addr} {a : V} {x : V} {da d : D} (rh : RH K H2 G2) (hT : H2 T = none) (h1 : Den K H2 da a) (h2 : Den K H2 d x) :
    Ext H2 (upd H2 T (.tup [a, x])) ∧ RH K (upd H2 T (.tup [a, x])) G2 ∧ Den K (upd H2 T (.tup [a, x])) (.tup [da, d]) (.ref T) := by
  have e : Ext H2 (upd H2 T (.tup [a, x])) := Ext.new hT
  exact ⟨e, rh.newH hT, den_tup.mpr ⟨T, [a, x], rfl, upd_same, dens_cons.mpr ⟨a, [x], rfl, h1.mono e, .one (h2.mono e)⟩⟩⟩
theorem rd_enum {ta : TA} {R : List D → (HD → Prop) → HD → Prop} (h : RdA K B ta S G fun ds G1 => ∃ d xs Sd, ds = [d] ∧ Walks d G1 xs Sd ∧ R (pairs xs) Sd G1) : RdI K B (iEnumD K ta) S G R := fun σ H P bx rs rh c =>
  h σ H _ bx rs rh fun us H' ds G' x rh' dd ⟨d, xs, Sd, e, hw, r⟩ => by
    subst e
    obtain ⟨v, rfl, dv⟩ := one_inv dd
    have int (i : Nat) (H2 : Hp) : Den K H2 (.int (i : Nat)) (.int (i : Nat)) := den_int.mpr rfl
    cases hw with
    | lst e =>
      rw [den_ref] at dv
      subst dv
      obtain ⟨vs, e', ds⟩ := sq_of rh' (.inl e)
      refine .inl ⟨_, vs, rfl, e', c _ H' G' _ _ x rh' ?_ r⟩
      refine ⟨fun i H2 G2 _ rh2 sd hi => ?_, fun H2 G2 _ rh2 sd => ?_, fun i H2 G2 u H3 _ rh2 sd hi y => ?_⟩
      · rw [pairs_len] at hi
        obtain ⟨ws, e2, ds2⟩ := sq_of rh2 (.inl sd)
        exact ⟨ws, ws[i]'(by rw [← ds2.len]; exact hi), e2, by simp⟩
      · obtain ⟨ws, e2, ds2⟩ := sq_of rh2 (.inl sd)
        exact ⟨ws, e2, by rw [pairs_len, ds2.len]; exact Nat.le_refl _⟩
      · obtain ⟨ws, e2, ds2⟩ := sq_of rh2 (.inl sd)
        obtain ⟨T, z, rfl, hT, rfl, hy⟩ := y
        obtain ⟨d, hd, dv⟩ := ds2.get' (hy ws e2)
        exact ⟨_, pairs_get hd, pair_new rh2 hT (int _ _) dv⟩
    | lck e =>
      rw [den_ref] at dv
      subst dv
      obtain ⟨vs, e', ds⟩ := sq_of rh' (.inr e)
      refine .inl ⟨_, vs, rfl, e', c _ H' G' _ _ x rh' ?_ r⟩
      refine ⟨fun i H2 G2 _ rh2 sd hi => ?_, fun H2 G2 _ rh2 sd => ?_, fun i H2 G2 u H3 _ rh2 sd hi y => ?_⟩
      · rw [pairs_len] at hi
        obtain ⟨ws, e2, ds2⟩ := sq_of rh2 (.inr sd)
        exact ⟨ws, ws[i]'(by rw [← ds2.len]; exact hi), e2, by simp⟩
      · obtain ⟨ws, e2, ds2⟩ := sq_of rh2 (.inr sd)
        exact ⟨ws, e2, by rw [pairs_len, ds2.len]; exact Nat.le_refl _⟩
      · obtain ⟨ws, e2, ds2⟩ := sq_of rh2 (.inr sd)
        obtain ⟨T, z, rfl, hT, rfl, hy⟩ := y
        obtain ⟨d, hd, dv⟩ := ds2.get' (hy ws e2)
        exact ⟨_, pairs_get hd, pair_new rh2 hT (int _ _) dv⟩
    | tup =>
      obtain ⟨a, vs, rfl, e', ds⟩ := den_tup.mp dv
      refine .inr (.inl ⟨a, vs, rfl, e'.sq, c _ H' G' _ _ x rh' ?_ r⟩)
      refine ⟨fun i H2 G2 x2 rh2 sd hi => ?_, fun H2 G2 x2 rh2 sd => ?_, fun i H2 G2 u H3 x2 rh2 sd hi y => ?_⟩
      · rw [pairs_len] at hi
        exact ⟨by rw [← ds.len]; exact hi, (TupAt.mono x2 e').sq⟩
      · exact ⟨by rw [pairs_len, ds.len]; exact Nat.le_refl _, (TupAt.mono x2 e').sq⟩
      · obtain ⟨T, z, rfl, hT, rfl, hy⟩ := y
        obtain ⟨d, hd, dv⟩ := (Dens.mono x2 _ _ ds).get' hy
        exact ⟨_, pairs_get hd, pair_new rh2 hT (int _ _) dv⟩
    | str =>
      rw [den_str] at dv
      subst dv
      refine .inr (.inr ⟨_, rfl, c _ H' G' _ _ x rh' ?_ r⟩)
      refine ⟨fun i H2 G2 x2 rh2 sd hi => ?_, fun H2 G2 x2 rh2 sd => ?_, fun i H2 G2 u H3 x2 rh2 sd hi y => ?_⟩
      · rw [pairs_len, signs_len] at hi
        exact ⟨hi, trivial⟩
      · exact ⟨by rw [pairs_len, signs_len]; exact Nat.le_refl _, trivial⟩
      · obtain ⟨T, z, rfl, hT, rfl, ch, hc, rfl⟩ := y
        refine ⟨_, pairs_get (d := .str ⟨#[ch]⟩) ?_, pair_new rh2 hT (int _ _) (den_str.mpr rfl)⟩
        show (List.map _ _)[i]? = _
        rw [List.getElem?_map, Array.getElem?_toList, hc]; rfl
end
end Dd
set_option Elab.async false
set_option linter.all false
set_option maxRecDepth 100000
/-! D9: own exceptions: made (with a field), raised, caught and kept as values; isinstance. -/
namespace PySem.W
open PySem PySem.Spec PySem.Calls PyProof.Rows
section
variable {prog : Program} {w : World} {A : Around} {E : Value → Shared → Prop} {s : Shared} {K : Frag} {x D : Addr} {ox : Obj} {od : Option Obj}
theorem findObj_dataD {C : Addr} {name : Str} {a g : Value} (hc : (clsIn K C).isSome = true) (ha : findIn K (.ref C) name = some (some a)) (hg : specialIn K a "__get__" = some (some g)) (ht : takesIn K a = some true) : findObj K C od name = some (.bind g a) := by
  obtain ⟨cd, hc⟩ := Option.isSome_iff_exists.mp hc
  unfold findObj
  rw [hc, Option.bind_some, ha, Option.bind_some]
  simp [hg, ht]
theorem kin_classD {Q : Option Value → Shared → Prop} (hga : findIn K (.ref D) "__getattribute__" = some (some (.builtin "BaseException.__getattribute__"))) (hgt : findIn K (.ref D) "__getattr__" = some none) (hsub : subIn K (.ref D) (.type "BaseException") = some true)
    (hdct : hasDictIn K D = true) (ha : findIn K (.ref D) "__class__" = some (some (.builtin "object.__class__")))
    (hn : specialIn K (.builtin "object.__class__") "__get__" = some (some (.builtin "getset_descriptor.__get__"))) (htk : takesIn K (.builtin "object.__class__") = some true) (hm : mroIn K D (.type "object") = some true)
    (X : K.In s.heap) (I : InstAt s.heap x ox D od) (h : Q (some (.ref D)) { s with toks := s.toks + 1 }) : wpAny (model prog w) A (getAttr? (.ref x) "__class__") Q E s := by
  have hf : findObj K D od "__class__" = some (.bind (.builtin "getset_descriptor.__get__") (.builtin "object.__class__")) := findObj_dataD (by obtain ⟨cd, hc, _⟩ := any_some hdct; rw [hc]; rfl) ha hn htk
  obtain ⟨hp, g, d, t, os⟩ := s
  have L0 := I.type (M := model prog w)
  have L1 := looks_findIn (M := model prog w) X hga
  have L2 := looks_findIn (M := model prog w) X hgt
  have L3 := looks_find (M := model prog w) X I hf
  have sub : Looks (model prog w) hp (isInstance (.ref x) (.type "BaseException")) true := L0.andThen (looks_subIn X hsub)
  have hx0 : (false && onTheHeap (Value.builtin "BaseException.__getattribute__")) = false := rfl
  have hx2 : (Value.builtin "BaseException.__getattribute__" == Value.builtin "object.__getattribute__") = false := by decide +kernel
  have hx1 : (onTheHeap (Value.ref D) && Value.builtin "BaseException.__getattribute__" == Value.builtin "object.__getattribute__") = false := by rw [hx2]; rfl
  unfold getAttr? getAttrBy? getAttrBy
  refine wpAny_bind (wpAny_mkText (wpAny_bind (wpAny_attempt (wpAny_holding (wpAny_bind (L0.at (wpAny_bind (L1.at ?_))))))))
  show wpAny _ _ (if (onTheHeap (Value.ref D) && Value.builtin "BaseException.__getattribute__" == Value.builtin "object.__getattribute__") = true then _ else _) _ _ _
  rw [hx1, if_neg Bool.false_ne_true]
  unfold getAttrByItsOwn hookBefore
  refine wpAny_bind ?_
  rw [if_pos (show onTheHeap (Value.ref D) = true from rfl)]
  refine L2.at ?_
  refine wpAny_bind (wpAny_attempt (wpAny_holding ?_))
  unfold callGetattribute
  rw [hx0, if_neg Bool.false_ne_true]
  unfold boundAndCalled
  rw [PySem.F.excAttr_ValueError.ga.bind (.ref x)]
  refine wpAny_bind (wpAny_pure ?_)
  show wpAny _ _ (call (.builtin "BaseException.__getattribute__") [.ref x, .str "__class__" t]) _ _ _
  refine wpAny_call (codeAny_call_builtin PySem.F.excAttr_ValueError.ga.plain PySem.F.entry_bexc_ga ?_)
  refine @check_slot (model prog w) _ _ ⟨hp, g, d, t + 1, os⟩ "BaseException.__getattribute__" "BaseException" "__getattribute__" (.ref x) [.str "__class__" t] [] _ (by decide +kernel) (by decide +kernel) sub (PySem.F.args_bexc_ga (.ref x) (.str "__class__" t)) ?_
  unfold Builtin.«object.__getattribute__»
  refine wpAny_bind (wpAny_of_eq (a := ((Value.ref x : Value), [Value.str "__class__" t])) (by first | rfl | (simp only [slotArgs]; rfl)) ?_)
  refine wpAny_bind (wpAny_pure (wpAny_bind (L0.at (wpAny_bind (L3.at ?_)))))
  show wpAny _ _ (holding [Value.builtin "object.__class__"] (call (.builtin "getset_descriptor.__get__") [.builtin "object.__class__", .ref x, .ref D]) >>= ret) _ _ _
  refine wpAny_bind (wpAny_holding (wpAny_call (class_get (s := ⟨hp, g, d, t + 1, os⟩) (ox := ox) (od := od) X I hm ?_)))
  refine wpAny_pure ?_
  show wpAny _ _ (handedOut (.ref D)) _ _ _
  rw [handedOut_of (v := .ref D) rfl]
  first
    | exact wpAny_pure (wpAny_pure h)
    | exact wpAny_pure h
    | exact wpAny_pure (wpAny_bind (wpAny_pure (wpAny_pure h)))
theorem kitx_excD (hga : findIn K (.ref D) "__getattribute__" = some (some (.builtin "BaseException.__getattribute__"))) (hgt : findIn K (.ref D) "__getattr__" = some none) (hsub : subIn K (.ref D) (.type "BaseException") = some true) (hdct : hasDictIn K D = true) (ha : findIn K (.ref D) "__class__" = some (some (.builtin "object.__class__")))
    (hn : specialIn K (.builtin "object.__class__") "__get__" = some (some (.builtin "getset_descriptor.__get__"))) (htk : takesIn K (.builtin "object.__class__") = some true) (hm : mroIn K D (.type "object") = some true) :
    KitX K (.ref x) (.ref D) (fun h => InstAt h x ox D od) where
  ty := fun _ _ _ I => I.type
  it := fun _ _ X _ => by
    obtain ⟨cdD, hcD, _⟩ := any_some hdct
    unfold clsIn at hcD
    split at hcD
    · rename_i c' d' cd' sl' ho
      intro A' Q' E' s' k q
      unfold isType loadHead
      exact wpAny_bind (wpAny_loadPart (k _ _ (X _ _ ho)) (wpAny_pure q))
    · cases hcD
  ne := fun h tp dd its n sl X htp => by
    obtain ⟨cdD, hcD, _⟩ := any_some hdct
    refine Bool.eq_false_iff.mpr fun q => ?_
    have e : D = tp := Value.ref.inj (beq_iff_eq.mp q)
    subst e
    unfold clsIn at hcD
    split at hcD
    · rename_i c' d' cd' sl' ho
      have z := (X _ _ ho).symm.trans htp
      cases z
    · cases hcD
  ca := fun X I k => kin_classD hga hgt hsub hdct ha hn htk hm X I k
end
end PySem.W

namespace Dd
open PySem PySem.Spec L2
open PyProof.Rows hiding St

/-- an exception that is kept as a value: its class at C, its dict d -/
def exk (a C : Addr) (d : Option Addr) : HO := .ext fun h => ∃ (oe : Obj) (vs : Array Value), h.get? a = some oe ∧ Zc (.ref C) d oe ∧ oe.data = .fields vs
theorem exk_ok {P : Program} {w : World} {H : Hp} {h : Heap} {a C : Addr} {d : Option Addr} {oe : Obj} {vs : Array Value} (e : h.get? a = some oe) (z : Zc (.ref C) d oe) (hd : oe.data = .fields vs) : ObjOk P w H h a (exk a C d) :=
  ⟨⟨oe, vs, e, z, hd⟩, ⟨oe, e⟩, fun _ _ ⟨o, v, q, r⟩ k => ⟨o, v, k o q, r⟩⟩
theorem exk_at {P : Program} {w : World} {H : Hp} {h : Heap} {a C : Addr} {d : Option Addr} (hok : HOk P w H h) (e : H a = some (exk a C d)) : ∃ (oe : Obj) (vs : Array Value), h.get? a = some oe ∧ Zc (.ref C) d oe ∧ oe.data = .fields vs := by
  have x : ObjOk P w H h a (.ext fun h => ∃ (oe : Obj) (vs : Array Value), h.get? a = some oe ∧ Zc (.ref C) d oe ∧ oe.data = .fields vs) := hok a _ e
  exact x.1
/-- its dict stands -/
def DictAt (H : Hp) (d : Option Addr) : Prop := ∀ dx, d = some dx → ∃ ws, H dx = some (.xd ws)
theorem exk_inst {P : Program} {w : World} {H : Hp} {h : Heap} {a C : Addr} {d : Option Addr} (hok : HOk P w H h) (e : H a = some (exk a C d)) (hd : DictAt H d) : ∃ oe od, PySem.W.InstAt h a oe C od := by
  obtain ⟨oe, vs, h1, hz, h2⟩ := exk_at hok e
  cases d with
  | none => exact ⟨oe, none, ⟨h1, hz.1, by unfold PySem.W.notCls; rw [h2] <;> rfl, by rw [hz.2]; trivial⟩⟩
  | some dx =>
    obtain ⟨ws, e2⟩ := hd dx rfl
    have hx : ObjOk P w H h dx (.xd ws) := hok dx _ e2
    obtain ⟨mA, hns, hr⟩ := hx
    obtain ⟨od, ho, hl⟩ := lookIn_ns hns
    exact ⟨oe, some od, ⟨h1, hz.1, by unfold PySem.W.notCls; rw [h2] <;> rfl, by rw [hz.2]; exact ho⟩⟩

/-! ### isinstance -/
structure InsC (K : PySem.W.Frag) (C : Addr) : Prop where
  cl : Cls K C
  ha : PySem.W.findIn K (.ref C) "__class__" = some (some (.builtin "object.__class__"))
  hn : PySem.W.specialIn K (.builtin "object.__class__") "__get__" = some (some (.builtin "getset_descriptor.__get__"))
  tk : PySem.W.takesIn K (.builtin "object.__class__") = some true
  hm : PySem.W.mroIn K C (.type "object") = some true
/-- a tree's class -/
inductive TyD (K : PySem.W.Frag) (G : HD) : D → Value → Prop
  | non : TyD K G .non (.type "NoneType")
  | bl (b : Bool) : TyD K G (.bl b) (.type "bool")
  | int (i : Int) : TyD K G (.int i) (.type "int")
  | str (z : Str) : TyD K G (.str z) (.type "str")
  | tup (xs : List D) : TyD K G (.tup xs) (.type "tuple")
  | kt (a : Addr) (xs : List D) : TyD K G (.kt a xs) (.type "tuple")
  | lst {p : Addr} {xs : List D} (e : G p = some (.lst xs)) : TyD K G (.ref p) (.type "list")
  | dic {p : Addr} {kvs : List (Key × D)} (e : G p = some (.dic kvs)) : TyD K G (.ref p) (.type "dict")
  | dct {p : Addr} {kvs : List (List Key × D)} (e : G p = some (.dct kvs)) : TyD K G (.ref p) (.type "dict")
  | ins {p C : Addr} {fs : List (Str × D)} (e : G p = some (.ins C fs)) (c : InsC K C) : TyD K G (.ref p) (.ref C)
  | exc {p C : Addr} {d : Option Addr} (e : G p = some (.raw (exk p C d))) (hd : ∀ dx, d = some dx → ∃ fs, G dx = some (.xd fs)) (c : ExcC K C) : TyD K G (.ref p) (.ref C)
theorem kit_ofD {X : Cx} {pins : List (Addr × Obj)} {σ : L2.St} {H : Hp} {s : Shared} {G : HD} {d : D} {x : V} {u t : Value} (I : Inv X pins σ H s) (rh : RH X.K H G) (dx : Den X.K H d x) (rx : RelV x u) (ty : TyD X.K G d t) :
    ∃ P : Heap → Prop, PySem.W.KitX X.K u t P ∧ P s.heap ∧ u ≠ .builtin "__main__.__loader__#opaque" := by
  cases ty with
  | non => cases den_non.mp dx; exact kit_of I rx (.base .non)
  | bl b => cases den_bl.mp dx; exact kit_of I rx (.base (.bl _))
  | int b => cases den_int.mp dx; exact kit_of I rx (.base (.int _))
  | str b => cases den_str.mp dx; exact kit_of I rx (.base (.str _))
  | tup xs =>
    obtain ⟨a, vs, rfl, e, _⟩ := den_tup.mp dx
    exact kit_of I rx (.base (.tup e))
  | kt a xs =>
    obtain ⟨vs, rfl, ⟨o, its, n, e, c, _⟩, _⟩ := den_kt.mp dx
    exact kit_of I rx (.kTuple e c)
  | lst e =>
    cases den_ref.mp dx
    obtain ⟨vs, e1, _⟩ := rh.lst e
    exact kit_of I rx (.base (.lst e1))
  | dic e =>
    cases den_ref.mp dx
    obtain ⟨vs, e1, _⟩ := rh.dic e
    exact kit_of I rx (.base (.dK e1))
  | dct e =>
    cases den_ref.mp dx
    obtain ⟨vs, e1, _⟩ := rh.dct e
    exact kit_of I rx (.base (.dT e1))
  | ins e c =>
    cases den_ref.mp dx
    obtain ⟨dd, ws, e1, _⟩ := rh.ins e
    exact kit_of I rx (.base (.ins e1 c.cl c.ha c.hn c.tk c.hm))
  | @exc p C d e hd c =>
    cases den_ref.mp dx
    cases (show u = Value.ref p from rx)
    obtain ⟨w, e1, rfl, _⟩ := rh p _ e
    obtain ⟨oe, od, J⟩ := exk_inst I.hok e1 fun dx hh => by
      obtain ⟨fs, e2⟩ := hd dx hh
      obtain ⟨w2, e3, ws, rfl, _⟩ := rh dx _ e2
      exact ⟨ws, e3⟩
    exact ⟨_, PySem.W.kitx_excD c.hg c.hk c.hs c.hd c.ha c.hn c.ht c.hm, J, fun z => nomatch z⟩
/-- a class as a tree -/
inductive ClsD : D → Value → Prop
  | ty (n : String) : ClsD (.ty n) (.type n)
  | own (C : Addr) : ClsD (.ref C) (.ref C)
theorem ClsD.v {K : PySem.W.Frag} {H : Hp} {c : D} {u : Value} {v : V} (h : ClsD c u) (d : Den K H c v) : ClsV v u := by
  cases h with
  | ty n => cases den_ty.mp d; exact .ty n
  | own C => cases den_ref.mp d; exact .own C
theorem clsD_all {K : PySem.W.Frag} {H : Hp} : ∀ {cs : List D} {us : List Value} {vs : List V}, Paired ClsD cs us → Dens K H cs vs → Paired ClsV vs us
  | [], _, _, h, d => by
    cases h
    cases dens_nil.mp d
    exact .nil
  | c :: cs, _, _, h, d => by
    cases h with
    | cons h1 h2 =>
      obtain ⟨v, r, rfl, d1, d2⟩ := dens_cons.mp d
      exact .cons (h1.v d1) (clsD_all h2 d2)
def RIsi (K : PySem.W.Frag) : RLD := fun ds G Q => ∃ d c t b, ds = [d, c] ∧ TyD K G d t ∧ ((∃ u, ClsD c u ∧ PySem.W.kitOne K t u = some b) ∨ ∃ cs us, c = .tup cs ∧ Paired ClsD cs us ∧ PySem.W.kitAny K t us = some b) ∧ Q (.bl b) G
theorem crd_isi {X : Cx} : CallR X (.builtin "isinstance") (lfL X.K (RIsi X.K)) := by
  rintro pins s σ H xvs us P I rv ⟨xs, G, Q, rh, dds, ⟨d, c, t, b, rfl, ty, h, q⟩, cc⟩
  obtain ⟨v, w, rfl, d1, d2⟩ := two_of dds
  have qq : P (.bl b) H := cc _ H _ G (Ext.refl _) rh (den_bl.mpr rfl) q
  obtain ⟨u1, u2, rfl, r1, r2⟩ := vals2 rv
  obtain ⟨PP, Z, p, hx⟩ := kit_ofD I rh d1 r1 ty
  rcases h with ⟨u, k, e⟩ | ⟨cs, ws, rfl, k, e⟩
  · have e2 := (k.v d2).eq r2
    subst e2
    exact PySem.W.kia_one Z I.kIn p e hx fun tk => ⟨.bl b, H, I.tok tk, rfl, qq⟩
  · obtain ⟨tp, vs, rfl, hT, dd⟩ := den_tup.mp d2
    cases (show u2 = Value.ref tp from r2)
    obtain ⟨_, its, rvs, o, h1, h2, n, h3⟩ := (show ObjOk X.prog X.w H s.heap tp (.tup vs) from I.hok tp _ hT)
    have e3 := ClsV.all (clsD_all k dd) rvs
    subst e3
    obtain ⟨oc, od, dt, sl⟩ := o
    simp only at h2 h3
    subst h2 h3
    exact PySem.W.kia_tup Z I.kIn p h1 e hx fun tk => ⟨.bl b, H, I.tok tk, rfl, qq⟩
end Dd
set_option Elab.async false
set_option linter.all false
set_option maxRecDepth 100000
/-! D10: own exceptions: made with a field by an __init__ that calls its base's, raised; try .. except X as e with e kept; e.f. -/
namespace Dd
open PySem PySem.Spec L2 ClX
open PyProof.Rows hiding St

/-! ### Base.__init__(self, ..), Base an own class that has no __init__ -/
section
variable {X : Cx} {CG : Addr} {xg : Str} {e : Expr} {es : List Expr} {ta : TA} {p1 p2 pos : Pos}
theorem pe_ginit {pl : Sem Bool} (hg : Gl X xg) (hm : X.mg xg = some (.ref CG)) (r : CRead X.K CG (.type "type")) (vV : PySem.W.findCls X.K (.ref CG) (.type "type") "__init__" = some (.val (.builtin "ValueError.__init__"))) (ha : PA X (e :: es) ta)
    (hdb : (xg == ("__debug__" : Str)) = false := by decide)
    (hc : eval (.Call (.Attribute (.Name xg p1) "__init__" p2) (e :: es) [] pos) X.env = (do
      let ov ← eval (.Name xg p1) X.env
      standAt p2.atName
      let (f, first) ← holding [ov] (getMethod ov "__init__" pl)
      callWith pos f first (backTo pos (starEach (e :: es) X.env)) (backToKw pos (keywordEach [] X.env))) := by rfl)
    (he : starEach (e :: es) X.env = (false, eval e X.env) :: starEach es X.env := by rfl) (hpl : (backTo pos (starEach es X.env)).any (·.1) = false := by rfl) :
    PE X (.Call (.Attribute (.Name xg p1) "__init__" p2) (e :: es) [] pos) (tVeI X.K ta) := by
  refine ⟨fun pins s σ H Q I h => ?_⟩
  refine PySem.W.methodCall_KW (ld_glob I hg hm ?_ hdb) hc
  refine PySem.W.method_cls I.kIn r.ga (PySem.W.cls_value I.kIn r.rd vV (by decide +kernel) ?_)
  show wpAny _ _ (callWith pos (Value.builtin "ValueError.__init__") [] (backTo pos (starEach (e :: es) X.env)) []) _ _ _
  refine PyProof.Rows.callWith_method1 (thn (ha.run pos pins _ σ H _ (I.tok _) h) fun us s1 ⟨vs, H1, I1, r1, a, C, ws, ev, hl, T, ea, q⟩ => ?_) he hpl
  subst ev
  cases r1 with
  | @cons _ u0 _ ur ra rw' =>
    obtain rfl : u0 = Value.ref a := ra
    have hlen : ur.length ≤ sizeLine := by
      rw [← Paired.length rw', sizeLine_eq]
      omega
    exact oinit_ok T I1 ea hlen fun s' J => ⟨.non, H1, J, rfl, q⟩
end

/-! ### such an __init__ -/
/-- what it promises: the field f is laid -/
def spErr (K : PySem.W.Frag) (C : Addr) (f : Str) : Sp := fun vs H Q _ => ∃ (a : Addr) (v : V), vs = [.ref a, v] ∧ H a = some (exo a C none) ∧ OexC K C ∧ PySem.W.findIn K (.ref C) f = some none ∧
  ∀ dx, H dx = none → dx ≠ a → Q .non (upd (upd H dx (exd dx [(f, v)])) a (exo a C (some dx)))
section
variable {P : Program} {w : World} {K : PySem.W.Frag} {mg : Str → Option Value} {base : Heap} {C CG f : Addr} {fd : FuncData} {qual fld msg : Str} {st : Stmt}
theorem ok_err {p1 p2 p3 p4 p5 p6 p7 p8 p9 p10 : Pos} {j : Nat} (F : Fun K "__init__" qual st f fd) (S : FnScope ["self", fld] ["self", fld] (defScope st))
    (hb : defBody st = [.Expr (.Call (.Attribute (.Name "GlanceError" p1) "__init__" p2) [.Name "self" p3, .Constant (.str msg) j p4] [] p5) p6, .Assign [.Attribute (.Name "self" p7) fld p8] (.Name fld p9) p10])
    (hg : (defScope st).names.lookup ("GlanceError" : Str) = some .globalImplicit) (hs : (defScope st).names.lookup ("self" : Str) = some .local) (hf : (defScope st).names.lookup fld = some .local) (hfd : (fld == ("__debug__" : Str)) = false) (hfc : (fld == ("__classdict__" : Str)) = false) 
    (hcl : ∀ (cdv : Value) (A : Around) (outer : List Env) (s : Shared) (H : Hp) (E : XK), ∃ pl : Sem Bool, eval (.Call (.Attribute (.Name "GlanceError" p1) "__init__" p2) [.Name "self" p3, .Constant (.str msg) j p4] [] p5) (cxOf (L2.CX P w) P w K mg base ["self", fld] qual (defScope st) f cdv A outer s H E).env = (do
      let ov ← eval (.Name "GlanceError" p1) (cxOf (L2.CX P w) P w K mg base ["self", fld] qual (defScope st) f cdv A outer s H E).env
      standAt p2.atName
      let (f', first) ← holding [ov] (getMethod ov "__init__" pl)
      callWith p5 f' first (backTo p5 (starEach [.Name "self" p3, .Constant (.str msg) j p4] (cxOf (L2.CX P w) P w K mg base ["self", fld] qual (defScope st) f cdv A outer s H E).env)) (backToKw p5 (keywordEach [] (cxOf (L2.CX P w) P w K mg base ["self", fld] qual (defScope st) f cdv A outer s H E).env))))
    (hm : mg "GlanceError" = some (.ref CG)) (r : CRead K CG (.type "type")) (vV : PySem.W.findCls K (.ref CG) (.type "type") "__init__" = some (.val (.builtin "ValueError.__init__"))) :
    FnG P w K mg base 1 f fd ["self", fld] (spErr K C fld) := by
  obtain ⟨oc, od, kV, doc, pm, an, cdv, ct, osl, rfl, lk, hcd⟩ := F.ex
  refine fn_ofG lk hcd S ?_ fun A outer s H vs Q E hr hsp => ?_
  · rintro vs H Q E ⟨a, v, rfl, _⟩
    rfl
  · obtain ⟨a, v, rfl, ea, T, hno, hq⟩ := hsp
    rw [hb]
    have e0 : ∀ {p : Pos}, PE (cxOf (L2.CX P w) P w K mg base ["self", fld] qual (defScope st) f cdv A outer s H E) (.Name "self" p) (tVar 0) := fun {p} => pe_var (i := 0) rfl (.inl hs)
    have e1 : ∀ {p : Pos}, PE (cxOf (L2.CX P w) P w K mg base ["self", fld] qual (defScope st) f cdv A outer s H E) (.Name fld p) (tVar 1) := fun {p} => pe_var (i := 1) rfl (.inl hf) hfd hfc
    obtain ⟨pl, hpl⟩ := hcl cdv A outer s H E
    refine ⟨_, pss_cons (ps_expr (pe_ginit (CG := CG) hg hm r vV (pa_cons e0 (pa_cons pe_str pa_nil)) (hc := hpl))) (pss_one (ps_ost e0 e1)), ?_⟩
    refine ⟨_, rfl, a, C, [.str msg], rfl, by show 1 ≤ 1000; decide, T, ea, ?_⟩
    refine ⟨_, rfl, _, rfl, a, C, rfl, T, hno, .inl ⟨ea, fun dx h1 h2 => hq dx h1 h2⟩⟩
end

/-! ### C(e, ..) -/
section
variable {X : Cx} {k : Nat} {C fI : Addr} {fd : FuncData} {fld x : Str} {e : Expr} {ta : TA} {p pos : Pos}
/-- an exception of the class C with the field fld -/
def tErr (C : Addr) (fld : Str) (ta : TA) : L2.St → Hp → XK → Prop := fun σ H Q => ta σ H fun vs H1 => ∃ v, vs = [v] ∧ ∀ d, H1 d = none → Q (.ref C) (some d) (upd H1 d (.xd [(fld, v)]))
structure ErrC (K : PySem.W.Frag) (C fI : Addr) (fld : Str) : Prop where
  T : OexC K C
  iC : PySem.W.findIn K (.ref C) "__init__" = some (some (.ref fI))
  tI : PySem.W.typeIn K (.ref fI) = some (.type "function")
  nf : PySem.W.findIn K (.ref C) fld = some none
theorem exo_ne_exd {a C dx : Addr} {d : Option Addr} {fs : List (Str × V)} {H : Hp} (h : H dx = none) (e : H a = some (exo a C d)) : dx ≠ a := fun z => by rw [z, e] at h; cases h
theorem pmk_err (T : ErrC X.K C fI fld) (F1 : FnG X.prog X.w X.K X.mg X.base k fI fd ["self", fld] (spErr X.K C fld)) (hr : RoomG (k + 1) X.A) (hb : Binds X.K fd ["self", fld] []) (hg : Gl X x) (hm : X.mg x = some (.ref C)) (ha : PA X [e] ta)
    (hdb : (x == ("__debug__" : Str)) = false := by decide) (he : starEach [e] X.env = (false, eval e X.env) :: starEach [] X.env := by rfl) :
    PMk X (.Call (.Name x p) [e] [] pos) (tErr C fld ta) := by
  intro pins s σ H Q I h
  obtain ⟨nm, q, N, bs, bm, sn, sub, ab, col, dd, k0, k1, k2, k3, k5, hC, hbm⟩ := T.T.cls
  refine wpAny_Call_Name_kw (ld_glob I hg hm ?_ hdb)
  refine PySem.W.callWith_K (h₀ := X.base) I.ok.mod.kin T.T.kC (thn (ha.run pos pins s σ H _ I h) fun us s1 ⟨vs, H1, I1, r1, v, ev, q1⟩ => ⟨I1.kIn, ?_⟩) he rfl
  subst ev
  show wpAny _ _ (call (.ref C) us) _ _ _
  obtain ⟨hp, g, dr, tk, os⟩ := s1
  have hsz : hp.objs.size ≤ hp.objs.size + 1 := Nat.le_succ _
  have hn : H1 (hp.objs.size + 1) = none := I1.hok.fresh hsz
  have kk : ∀ b o, hp.get? b = some o → ((hp.push (PySem.W.kdv_tup us)).push (PySem.HandSPX.excO C hp.objs.size)).get? b = some o := fun b o e => Heap.get?_push_of_some _ (Heap.get?_push_of_some _ e)
  have hget : ((hp.push (PySem.W.kdv_tup us)).push (PySem.HandSPX.excO C hp.objs.size)).get? (hp.objs.size + 1) = some (PySem.HandSPX.excO C hp.objs.size) := by heap_get
  have I2 : Inv X pins σ (upd H1 (hp.objs.size + 1) (exo (hp.objs.size + 1) C none)) ⟨(hp.push (PySem.W.kdv_tup us)).push (PySem.HandSPX.excO C hp.objs.size), g, dr, tk, os⟩ :=
    I1.laid (t' := tk) (a := hp.objs.size + 1) (o := exo (hp.objs.size + 1) C none) (h' := (hp.push (PySem.W.kdv_tup us)).push (PySem.HandSPX.excO C hp.objs.size)) kk hsz (exo_ok hget)
  have r2 : Vals (V.ref (hp.objs.size + 1) :: [v]) (Value.ref (hp.objs.size + 1) :: us) := .cons rfl r1
  have r3 : Vals (V.ref (hp.objs.size + 1) :: [v]) (Value.ref (hp.objs.size + 1) :: us ++ []) := by rw [List.append_nil]; exact r2
  have hl : (Value.ref (hp.objs.size + 1) :: us ++ []).length = (["self", fld] : List Str).length := by
    have e := r3.length
    exact e.symm
  have hus : us.length ≤ sizeLine := by
    rw [← Paired.length r1, sizeLine_eq]
    show 1 ≤ _
    omega
  refine wpAny_call (PySem.HandSPX.call_own F.excBase_ValueError (fun Y => PySem.HandSPX.refsVE_contains Y bm hbm) (I1.kIn _ _ hC) (PySem.W.looks_findIn I1.kIn T.iC) (fun self => PySem.W.bind_fn I1.kIn self T.tI) hus
    (codeAny_mono (F1.run _ X.stack _ (upd H1 (hp.objs.size + 1) (exo (hp.objs.size + 1) C none)) ⟨Value.ref (hp.objs.size + 1) :: us, []⟩ (Value.ref (hp.objs.size + 1) :: us ++ []) (V.ref (hp.objs.size + 1) :: [v])
      (fun v' H2 => v' = .non ∧ ∃ (d : Addr) (fs : List (Str × V)), H2 (hp.objs.size + 1) = some (exo (hp.objs.size + 1) C (some d)) ∧ H2 d = some (exd d fs) ∧ H1 d = none ∧ Q (.ref C) (some d) (upd (del H2 (hp.objs.size + 1)) d (.xd fs))) (fun _ _ _ => False)
      (hr.make C us []) (I2.env0.make C us []) (hb _ (Value.ref (hp.objs.size + 1) :: us) I2.kIn hl) r3 ⟨hp.objs.size + 1, v, rfl, upd_same, T.T, T.nf, fun dx h1 h2 => ⟨rfl, dx, [(fld, v)], upd_same, by rw [upd_ne h2, upd_same], by rw [upd_ne h2] at h1; exact h1, ?_⟩⟩) fun r s' hq' => ?_))
  · have hd1 : H1 dx = none := by rw [upd_ne h2] at h1; exact h1
    have e : upd (del (upd (upd (upd H1 (hp.objs.size + 1) (exo (hp.objs.size + 1) C none)) dx (exd dx [(fld, v)])) (hp.objs.size + 1) (exo (hp.objs.size + 1) C (some dx))) (hp.objs.size + 1)) dx (.xd [(fld, v)]) = upd H1 dx (.xd [(fld, v)]) := by
      funext b
      by_cases c1 : b = dx
      · rw [c1, upd_same, upd_same]
      · rw [upd_ne c1, upd_ne c1]
        by_cases c2 : b = hp.objs.size + 1
        · rw [c2, del_same, hn]
        · rw [del_ne c2, upd_ne c2, upd_ne c1, upd_ne c2]
    rw [e]
    exact q1 dx hd1
  · cases r with
    | error er =>
      obtain ⟨_, _, _, _, _, _, _, _, _, _, _, _, z⟩ := hq'
      exact z.elim
    | ok fl =>
      cases fl with
      | ret u =>
        obtain ⟨v, H2, os2, bare2, un2, hok2, rv, ev, d, fs, ea, ed, hd1, q2⟩ := hq'
        subst ev
        obtain ⟨h2, g2, d2, t2, os'⟩ := s'
        exact ⟨rv, mk_end (raises_own T.T.exC T.T.tyC) I1 hsz kk un2 hok2 os2 bare2 ea ed hd1 q2⟩
      | next => exact False.elim hq'
      | brk => exact False.elim hq'
      | cont => exact False.elim hq'
end
section
variable {K : PySem.W.Frag} {B : Hp} {S : DS} {G : HD} {DD : DEnds}
/-- raise C(e) -/
theorem rd_raise {ta : TA} {C : Addr} {fld : Str} {W : WX} {wd : WD} (hw : WC K B wd W) (h : RdA K B ta S G fun ds G1 => ∃ d, ds = [d] ∧ wd C [(fld, d)] S G1) :
    RdS K B (fun _ σ H => tErr C fld ta σ H fun cls d H' => W cls d σ H') S G DD := fun σ H D bx rs rh c =>
  h σ H _ bx rs rh fun vs H1 ds G1 x1 rh1 dd ⟨d, e, q⟩ => by
    subst e
    obtain ⟨v, rfl, dv⟩ := one_inv dd
    refine ⟨v, rfl, fun dx hn => hw C (some dx) σ _ S G1 [(fld, d)] ((bx.trans x1).trans (Ext.new hn)) ((rs.mono x1).mono (Ext.new hn)) (rh1.newH hn) ⟨rh1.free hn, [(fld, v)], upd_same, rfl, .one (Den.mono (Ext.new hn) _ _ dv)⟩ q⟩
/-- raise C('..') of a class without __init__ -/
theorem rd_raise0 {C : Addr} {W : WX} {wd : WD} (hw : WC K B wd W) (h : wd C [] S G) : RdS K B (fun _ σ H => W (.ref C) none σ H) S G DD := fun σ H D bx rs rh c => hw C none σ H S G [] bx rs rh rfl h
end

/-! ### try: .. except X as e: .., e kept -/
section
variable {X : Cx} {pins : List (Addr × Obj)} {σ : L2.St} {H : Hp} {s sI : Shared} {a : Addr}
theorem inv_track (J : Inv X pins σ H sI) (I : Inv X pins σ H s) (hn : sI.heap.get? a = none) (ha : H a = none) {C : Addr} {d : Option Addr} {oe : Obj} {vs : Array Value} (e : s.heap.get? a = some oe) (hz : Zc (.ref C) d oe) (hd : oe.data = .fields vs) (nL : a ≠ X.env.locals)
    (hc : ∀ x c, X.env.cells.lookup x = some c → c ≠ a) (hex : X.ex = []) : Inv X pins σ (upd H a (exk a C d)) s := by
  have n0 : X.s_0.heap.get? a = none := by
    cases q : X.s_0.heap.get? a with
    | none => rfl
    | some o =>
      obtain ⟨o', q'⟩ := J.base.there a o q (by rw [hex]; exact fun z => nomatch z)
      rw [hn] at q'; cases q'
  have ne0 : ∀ b o, X.s_0.heap.get? b = some o → b ≠ a := fun b o e z => by
    rw [z, n0] at e
    cases e
  have neS : ∀ {b : Addr} {u : HO}, H b = some u → b ≠ a := fun {b u} q z => by rw [z, ha] at q; cases q
  refine ⟨I.ok, I.os, I.bare, ⟨I.base.keep, I.base.slot, fun b o e n hx => ?_, I.base.there, fun b xs q => ?_, fun b o u q => ?_, fun b ps q => ?_⟩, I.loc, I.cell, ?_, fun x c q => ?_, fun p hp => ?_, fun b u q => ?_, I.len⟩
  · rw [upd_ne (ne0 b o e)]; exact I.base.free b o e n hx
  · have z := I.base.tups b xs q
    rw [upd_ne (neS z)]; exact z
  · have z := I.base.frzs b o u q
    rw [upd_ne (neS z)]; exact z
  · obtain ⟨m, z⟩ := I.base.tbls b ps q
    exact ⟨m, by rw [upd_ne (neS z)]; exact z⟩
  · rw [upd_ne (Ne.symm nL)]; exact I.free
  · rw [upd_ne (hc x c q)]; exact I.freeC x c q
  · obtain ⟨e1, n, r⟩ := I.pin p hp
    obtain ⟨e2, _⟩ := J.pin p hp
    have np : p.1 ≠ a := fun z => by rw [z, hn] at e2; cases e2
    exact ⟨e1, by rw [upd_ne np]; exact n, r⟩
  · by_cases c : b = a
    · subst c
      rw [upd_same] at q
      cases q
      exact exk_ok e hz hd
    · rw [upd_ne c] at q
      exact (I.hok b u q).stay (fun _ _ _ z => z) (fun c' z => by rw [upd_ne (neS z)]; exact z) fun c' xs z => by rw [upd_ne (neS z)]; exact z
/-- the suite's context, nothing pinned -/
theorem inv_suite0 (I : Inv X pins σ H s) {a : Addr} : Inv (X.suite a (X.pn ++ pins)) [] σ H s :=
  ⟨I.ok.suite _ _, I.os, I.bare, I.base, I.loc, I.cell, I.free, I.freeC, fun p hp => I.pin p (by rw [List.append_nil] at hp; exact hp), I.hok, I.len⟩
theorem inv_unsuite0 {a : Addr} {pn' : List (Addr × Obj)} (I : Inv (X.suite a (X.pn ++ pins)) pn' σ H s) (ok : X.Ok) : Inv X pins σ H s :=
  ⟨ok, I.os, I.bare, I.base, I.loc, I.cell, I.free, I.freeC, fun p hp => I.pin p (List.mem_append_left _ hp), I.hok, I.len⟩
end
/-- what the clause 'except x as n' wishes: the error is a value of its own, in slot i -/
def wKeep (K : PySem.W.Frag) (c : Value) (i : Nat) (ts : TS) (Wout : WX) (D : Ends) : WX := fun cls d σ H =>
  ∃ b C, cls = .ref C ∧ PySem.W.exmOne K cls c = some b ∧ (b = true → ∀ a, H a = none → ts { nx := fun σ' H' => D.nx (σ'.set i none) H', rt := D.rt, bk := fun σ' H' => D.bk (σ'.set i none) H', ct := fun σ' H' => D.ct (σ'.set i none) H' } (σ.set i (some (.ref a))) (upd H a (exk a C d))) ∧
    (b = false → Wout cls d σ H)
section
variable {X : Cx} {x n : Str} {c : Value} {i : Nat} {body suite : List Stmt} {b₀ : Stmt} {np pos pos' : Pos} {tb : WX → TS} {ts : TS} {Wout : WX}
theorem ps_try_keep (hs : X.stack = X.env :: X.outer) (hf : X.env.frame = some X.env.locals) (hN : X.N.Nodup) (hi : X.N[i]? = some n) (hln : X.env.kindOf n = some .local) (hc : Names X x c) (tk : Takes X Wout) (hex : X.ex = [])
    (hb : ∀ (W : WX) (pn : List (Addr × Obj)) (xe : Value → Shared → Prop), Takes (X.tr pn xe) W → PassesOwn (model X.prog X.w) X.A X.env xe → PSs (X.tr pn xe) body (tb W))
    (hsu : ∀ (a : Addr) (pn : List (Addr × Obj)), PSs (X.suite a pn) (b₀ :: suite) ts) :
    PS X (.Try body [.ExceptHandler (some (.Name x np)) (some n) (b₀ :: suite) pos'] [] [] pos) (fun D σ H => tb (wKeep X.K c i ts Wout D) D σ H) := by
  refine ⟨fun pins s σ H D I h => ?_⟩
  have ok := I.ok
  have hfr : X.A.frames = some (X.env :: X.outer) := by rw [ok.frames, hs]
  have hloc : Loc X.env.scope n := .inl hln
  refine wpAny_Try_except ?_
  refine wpAny_mono ((hb (wKeep X.K c i ts Wout D) (X.pn ++ pins) (fun e s₁ => wpAny (model X.prog X.w) X.A (noteFrame e X.env) (fun _ s₂ => wpAny (model X.prog X.w) X.A (setFlight e none) (fun _ s₃ =>
    wpAny (model X.prog X.w) X.A (handleBy e X.env [.ExceptHandler (some (.Name x np)) (some n) (b₀ :: suite) pos']) (SP X pins D) X.xe s₃) X.xe s₂) X.xe s₁) (fun u s' xx => ?_) PassesOwn.looking).run [] s σ H D (I.toTry _) h) (fun f s1 hsp => ?_) (fun e s1 he => he)
  · -- the catch
    obtain ⟨a, B, sI, pins', σ', H', cls, d, rfl, J', nb, up, sky, na, os, ag, b, C, eC, hb1, hyes, hno⟩ := xx
    subst eC
    have J : Inv X pins σ' H' sI := J'.ofTry ok
    have sky' : Sky B (X.env :: X.outer) a (Zc (.ref C) d) X.env.locals s'.heap := by rw [← hs]; exact sky
    show wpAny (model X.prog X.w) X.A (noteFrame (.ref a) X.env) _ _ _
    refine Sky.land Zc.steady hfr hf sky' fun h3 fl3 up3 => ?_
    have J3 : Inv X pins σ' H' { s' with heap := h3 } := J.landed nb fl3.1 (up.trans up3) os ag
    obtain ⟨oe3, vs3, he3, hz3, hd3⟩ := fl3.there
    have notFr : ∀ {h : Heap} {o : Obj} {vs : Array Value}, h.FunFrames B (X.env :: X.outer) → h.get? a = some o → o.data = .fields vs → a ∉ frs (X.env :: X.outer) := fun {h o vs} ff e dd hm => by
      obtain ⟨_, o', e', hnf⟩ := ff.mem hm
      rw [e] at e'; cases e'
      exact hnf _ dd
    have nfr := notFr fl3.2.2.1 he3 hd3
    have nL : a ≠ X.env.locals := fun z => nfr (List.mem_filterMap.mpr ⟨X.env, List.mem_cons_self, by rw [hf, z]⟩)
    have nF : a ∉ X.fs := fun hm => by
      obtain ⟨e, he, q⟩ := List.mem_filterMap.mp hm
      exact nfr (List.mem_filterMap.mpr ⟨e, List.mem_cons_of_mem _ he, q⟩)
    have S3 := J3.suite he3 hd3 na nL nF
    refine wpAny_handleBy_cons (codeAny_handlers_test ?_) (by intro q; cases q)
    have LT : PySem.W.Looks (model X.prog X.w) h3 (typeOf (.ref a)) (.ref C) := fun A Q E s k q => wpAny_typeOf_ref (k _ _ he3) (by rw [hz3.1]; exact q)
    have LM := PySem.W.exm_one (M := model X.prog X.w) (J3.kIn) LT hb1
    have test : ∀ {Q : Value → Shared → Prop} {E : Value → Shared → Prop}, Q c { s' with heap := h3 } → wpAny (model X.prog X.w) (X.A.mark (some (.ref a))) (eval (.Name x np) X.env) Q E { s' with heap := h3 } := fun {Q E} q => by
      obtain ⟨hg, hdbg, hm | ⟨hm, hv, hnn⟩⟩ := hc
      · exact ld_glob (X := X.suite a ((a, oe3) :: (X.pn ++ pins))) S3 hg hm q hdbg
      · exact ld_blt (X := X.suite a ((a, oe3) :: (X.pn ++ pins))) S3 hg hm hv q hnn hdbg
    refine test (LM.here ?_)
    cases b with
    | true =>
      refine codeAny_handlers_suite_as ?_
      refine HandSPX.lands_againZ fl3 fun h4 fl4 up4 => ?_
      have J4 : Inv X pins σ' H' { s' with heap := h4 } := J.landed nb fl4.1 ((up.trans up3).trans up4) os ag
      obtain ⟨oe4, vs4, he4, hz4, hd4⟩ := fl4.there
      -- the exception was not there before it flew
      have na4 : sI.heap.get? a = none := by
        cases q : sI.heap.get? a with
        | none => rfl
        | some o =>
          by_cases hm : a ∈ frs X.stack
          · exact absurd (by rw [hs] at hm; exact hm) nfr
          · have z := nb a o q hm
            have fz := fl4.2.1
            first | (rw [fz] at z; cases z) | exact absurd z (by simpa using fz)
      have K4 : Inv X pins σ' (upd H' a (exk a C d)) { s' with heap := h4 } := inv_track J J4 na4 na he4 hz4 hd4 nL (fun y cc e z => by
        obtain ⟨v, o, ho, hdd⟩ := J.cell y cc e
        rw [z, na4] at ho
        cases ho) hex
      have S4 := inv_suite0 (a := a) K4
      refine store_ok (X := X.suite a (X.pn ++ pins)) (v := .ref a) S4 hN hi hloc rfl (fun s5 S5 => ?_) (.inr hln)
      refine wpAny_mono ((hsu a (X.pn ++ pins)).run [] s5 _ _ _ S5 (hyes rfl a na)) (fun f s6 hsp => ?_) (fun _ _ z => False.elim z)
      have end_ : ∀ {σ6 : L2.St} {H6 : Hp} {Q : Shared → Prop}, Inv (X.suite a (X.pn ++ pins)) [] σ6 H6 s6 → (∀ s7, Inv X pins (σ6.set i none) H6 s7 → Q s7) →
          wpAny (model X.prog X.w) X.A (do bindName X.env n .none; unbindBehindTheSuite X.env n pos') (fun _ s7 => Q s7) X.xe s6 := fun {σ6 H6 Q} S6 hq => gone_ok (inv_unsuite0 S6 ok) hN hi hln hq
      cases f with
      | next =>
        obtain ⟨σ6, H6, S6, q6⟩ := hsp
        exact end_ S6 fun s7 J7 => ⟨_, _, J7, q6⟩
      | brk =>
        obtain ⟨σ6, H6, S6, q6⟩ := hsp
        exact end_ S6 fun s7 J7 => ⟨_, _, J7, q6⟩
      | cont =>
        obtain ⟨σ6, H6, S6, q6⟩ := hsp
        exact end_ S6 fun s7 J7 => ⟨_, _, J7, q6⟩
      | ret u =>
        obtain ⟨v6, σ6, H6, S6, r6, q6⟩ := hsp
        exact end_ S6 fun s7 J7 => ⟨_, _, _, J7, r6, q6⟩
    | false =>
      show wpAny _ X.A (handleBy (.ref a) X.env []) _ _ _
      refine wpAny_handleBy_nil ?_
      obtain ⟨k1, k2, k3, oe, vs, T, oT, ts', he, hz, hd, h1, hr⟩ := id fl3
      unfold PySem.passOn
      refine wpAny_bind (wpAny_field he hd h1 ?_)
      rw [if_neg (show ¬ ((Value.ref T == Value.none) = true) from by simp)]
      have fin : wpAny (model X.prog X.w) X.A (setFlight (.ref a) X.env.frame) (fun _ s4 => wpAny (model X.prog X.w) X.A (throw (.ref a) : Sem Flow) (SP X pins D) X.xe s4) X.xe { s' with heap := h3 } := by
        rw [hf]
        refine HandSPX.setFlight_upZ fl3 fun h4 hh4 up4 => wpAny_throw (tk _ _ ?_)
        exact ⟨a, B, sI, pins, σ', H', .ref C, d, rfl, J, nb, (up.trans up3).trans up4, .inr (.inr (by rw [hs]; exact hh4)), na, os, ag, hno rfl⟩
      first
        | exact wpAny_bind (wpAny_pure (wpAny_bind fin))
        | exact wpAny_bind fin
  · cases f with
    | next =>
      obtain ⟨σ', H', J', q⟩ := hsp
      exact wpAny_execs_nil ⟨σ', H', J'.ofTry ok, q⟩
    | brk =>
      obtain ⟨σ', H', J', q⟩ := hsp
      exact ⟨σ', H', J'.ofTry ok, q⟩
    | cont =>
      obtain ⟨σ', H', J', q⟩ := hsp
      exact ⟨σ', H', J'.ofTry ok, q⟩
    | ret u =>
      obtain ⟨v, σ', H', J', r, q⟩ := hsp
      exact ⟨v, σ', H', J'.ofTry ok, r, q⟩
end
/-- e.f of an exception that is kept -/
def tXk (K : PySem.W.Frag) (f : Str) (te : TE) : TE := fun σ H Q => te σ H fun x H1 => ∃ (a C dd : Addr) (fs : List (Str × V)) (v : V), x = .ref a ∧ XfC K C ∧ PySem.W.findIn K (.ref C) f = some none ∧ H1 a = some (exk a C (some dd)) ∧ H1 dd = some (.xd fs) ∧ fs.lookup f = some v ∧ Q v H1
theorem pe_xk {X : Cx} {e : Expr} {te : TE} {pos : Pos} {n : Str} (he : PE X e te) (hb : attributeBase e n X.env (eval e X.env) = eval e X.env := by rfl) : PE X (.Attribute e n pos) (tXk X.K n te) := by
  refine ⟨fun pins s σ H Q I h => ?_⟩
  refine attr_of hb (thn (he.run pins s σ H _ I h) fun u s1 hh => ?_)
  obtain ⟨x, H1, I1, rx, a, C, dd, fs, v, ex, T, hno, e1, ea, l, q⟩ := hh
  subst ex
  obtain rfl : u = Value.ref a := rx
  obtain ⟨oe, vs, ha, hz, hd⟩ := exk_at I1.hok e1
  have hx : ObjOk X.prog X.w H1 s1.heap dd (.xd fs) := I1.hok dd _ ea
  obtain ⟨mA, hns, hr⟩ := hx
  obtain ⟨od, ho, hl⟩ := lookIn_ns hns
  obtain ⟨u, hu, ru⟩ := RelO.some_of (v := v) (o := mA n) (by rw [← l]; exact hr n)
  have J : PySem.W.InstAt s1.heap a oe C (some od) := ⟨ha, hz.1, by unfold PySem.W.notCls; rw [hd] <;> rfl, by rw [hz.2]; exact ho⟩
  exact HandSPX.exc_get I1.kIn J T.ga T.gg T.exC (PySem.W.findObj_own T.hdC hno rfl (by rw [hl, hu])) (handed_of ru) ⟨v, H1, I1.tok _, ru, q⟩
end Dd
set_option Elab.async false
set_option linter.all false
set_option maxRecDepth 100000
set_option maxHeartbeats 2000000
/-! D11: a lambda without parameters handed to a catcher (the hand layer's rule for it, with the guards told), and its reading over trees. -/
namespace Dd
open PySem PySem.Spec L2 LamX
open PyProof.Rows hiding St
section
variable {X : Cx} {pins : List (Addr × Obj)} {σ : L2.St} {H HZ : Hp} {s s1 : Shared}
/-- x(), in the def that got the lambda: Z is that def's context, entered at s -/
theorem pe_actG {CXg : CXT} {Eg : XK} {Ng : List Str} {qg : Str} {sg : Scope} {g f c' : Addr} {cdg pm ctv : Value} {params : Arguments} {body : Expr} {scope : Scope} {k i : Nat} {a : Str} {pn : List (Addr × Obj)} {xe : Value → Shared → Prop} {W : WX} {tb : XK → TE} {p1 p2 : Pos}
    (I : Inv X pins σ H s) (L : LamS X.env.scope scope) (hf : s.heap.get? f = some (PySem.W.kla_obj "<lambda>" (X.env.qual ++ "<lambda>") params body scope (cloFrom X.env.cells scope.names []) pm c' ctv)) (hfn : H f = none) (hfr : f ∉ frs X.stack)
    (hbind : bindArgs (PySem.W.kla_fn "<lambda>" (X.env.qual ++ "<lambda>") params body scope (cloFrom X.env.cells scope.names []) pm (.ref c') ctv) ⟨[], []⟩ = pure [])
    (tk : Takes ((cxOf CXg X.prog X.w X.K X.mg X.base Ng qg sg g cdg X.A X.stack s H Eg).tr pn xe) W) (hr : RoomG (k + 1) (X.A.deeper (envOfC qg sg s.heap.objs.size g cdg)))
    (hbody : ∀ (A : Around) (outer : List Env) (s : Shared) (H : Hp) (E : XK), RoomG k (A.deeper (lamEnv X scope s.heap.objs.size f c')) → PE (lamCx X A outer s H E scope f c') body (tb E))
    (hN : Ng[i]? = some a) (hv : Vis sg a) (hd : (a == ("__debug__" : Str)) = false := by decide) (hcd : (a == ("__classdict__" : Str)) = false := by decide) :
    PE ((cxOf CXg X.prog X.w X.K X.mg X.base Ng qg sg g cdg X.A X.stack s H Eg).tr pn xe) (.Call (.Name a p1) [] [] p2)
      (fun σZ HZ Q => σZ[i]? = some (some (.ref f)) ∧ HZ c' = some (CodeO c' (X.env.qual ++ "<lambda>")) ∧ tb (WE W σZ) σ HZ Q) := by
  refine ⟨fun pinsZ sZ σZ HZ Q IZ h => ?_⟩
  obtain ⟨hs, hc, ht⟩ := h
  refine wpAny_Call_Name_kw (thn ((pe_var (pos := p1) (i := i) hN hv hd hcd).run pinsZ sZ σZ HZ (fun v H1 => v = .ref f ∧ H1 = HZ) IZ ⟨.ref f, hs, rfl, rfl⟩) fun u s1 ⟨v, H1, I1, r1, q1⟩ => ?_)
  obtain ⟨ev, eH⟩ := q1
  subst ev
  rw [eH] at I1
  obtain rfl : u = Value.ref f := r1
  have of1 : s1.heap.get? f = some (PySem.W.kla_obj "<lambda>" (X.env.qual ++ "<lambda>") params body scope (cloFrom X.env.cells scope.names []) pm c' ctv) := I1.base.keep f _ hf hfn hfr (fun z => nomatch (show f ∈ ([] : List Addr) from z))
  refine PySem.W.callWith_F0 ⟨_, _, _, _, of1⟩ ?_
  have un : Un (frs X.stack) [] H HZ s.heap s1.heap := I1.base
  obtain ⟨⟨oc, vs, t, hoc, hdc, hvc⟩, _, _⟩ := I1.hok c' _ hc
  have rc : codeAny (model X.prog X.w) (X.A.deeper (envOfC qg sg s.heap.objs.size g cdg)) (.call (.ref f) ⟨[], []⟩) (CR (L2.CX X.prog X.w) (envOfC qg sg s.heap.objs.size g cdg :: X.stack) X.prog X.w HZ s1 Q (WE W σZ)) s1 := by
    refine PySem.W.kla_callFunE hr.rm.depth of1 rfl L.co L.gen rfl ⟨c', oc, vs, t, rfl, hoc, hdc, hvc⟩ ?_
    rw [hbind]
    refine wpAny_pure (wpAny_newFunctionEnv (fun y hy => (L.own y hy).2) (fun y hy => absurd hy (by simp)) (fun h₁ hns hsb => ⟨I1.nolimit.fresh _ hsb, ?_⟩) L.kind)
    show codeAny _ _ (.expr body (lamEnv X scope s1.heap.objs.size f c')) _ _
    have kp : ∀ b o, s1.heap.get? b = some o → h₁.get? b = some o := fun b o e => hsb.extBut b o (Nat.ne_of_lt (Heap.lt_size e)) (Heap.get?_push_of_some _ e)
    have J : Inv (lamCx X (X.A.deeper (envOfC qg sg s.heap.objs.size g cdg)) (envOfC qg sg s.heap.objs.size g cdg :: X.stack) s1 HZ (WE W σZ) scope f c') [] σ HZ { s1 with heap := h₁, toks := s1.toks + ([] : List (Str × Value)).length } :=
      lam_start2 I L I1.env0 hr.rm.hd un hns kp
    refine PySem.W.kla_codeExpr (wpAny_mono ((hbody _ _ s1 HZ (WE W σZ) (hr.deeper _)).run [] _ _ HZ Q J ht) (fun v s' hq => ?_) fun e s' hq => hq)
    obtain ⟨w', H', J', rv, q⟩ := hq
    exact ⟨w', H', J'.os, J'.bare, J'.base, J'.hok, rv, q⟩
  refine wpAny_call (codeAny_mono rc fun r s' hq => ?_)
  cases r with
  | error e => exact passAt tk σZ pinsZ HZ s1 e s' I1 hq
  | ok fl =>
    cases fl with
    | ret u => exact I1.after hq
    | next => exact False.elim hq
    | brk => exact False.elim hq
    | cont => exact False.elim hq
end
/-! ### a def called, its promise told of the very state -/
theorem run_ofSG {CX : CXT} {P : Program} {w : World} {K : PySem.W.Frag} {mg : Str → Option Value} {base : Heap} {k : Nat} {f : Addr} {name qual : Str} {params : Arguments} {body : List Stmt} {scope : Scope} {dV kV doc pm cdv ct oc : Value} {an od : Option Addr}
    {osl : Array (Option Value)} {N ps : List Str} (lk : K.lookup f = some ⟨oc, od, .func (PySem.W.fnOf name qual params body scope dV kV doc pm an cdv ct), osl⟩) (hcd : PySem.W.codeIn K cdv qual = true) (S : FnScope N ps scope)
    {A : Around} {outer : List Env} {s : Shared} {H : Hp} {args : Args} {us : List Value} {vs : List V} {Q : VK} {E : XK} (hr : RoomG (k + 1) A) (e0 : Env0 P w K mg base A outer s H) (hb : BindsTo s (PySem.W.fnOf name qual params body scope dV kV doc pm an cdv ct) args (ps.zip us)) (r : Vals vs us) (hl : vs.length = ps.length)
    (hbody : RoomG k (A.deeper (envOfC qual scope s.heap.objs.size f cdv)) → ∃ t, PSs (cxOf CX P w K mg base N qual scope f cdv A outer s H E) body t ∧ t { nx := fun _ H' => Q .non H', rt := Q } (L2.start N vs) H) :
    codeAny (model P w) A (.call (.ref f) args) (CR CX outer P w H s Q E) s := by
  have KX : K.In s.heap := e0.mod.kin.keeps fun b o e => (e0.bs b o e).1
  have lim : s.heap.NoLimit := e0.mod.nolimit.keeps fun b o e => (e0.bs b o e).1
  have hkind : ∀ y ∈ ps.zip us, scope.names.lookup y.1 = some .local ∨ (scope.names.lookup y.1 = some .cell ∧ ((cellsFrom (s.heap.objs.size + 1) scope.names []).lookup y.1).isSome = true) := fun ⟨n, v⟩ hy => by
    rcases S.par n (List.of_mem_zip hy).1 with q | q
    · exact .inl q
    · exact .inr ⟨q, PySem.W.cellsFrom_some _ _ _ (.inl q)⟩
  refine codeAny_call_function hr.rm.depth (KX _ _ lk) rfl S.co S.gen rfl (PySem.W.codeRec_of KX hcd) (hb _ _ _ _ ?_)
  refine wpAny_newFunctionEnv_cells S.kind hkind fun env he s1 x => ?_
  subst he
  refine ⟨lim.keeps x.toInCall.keep, codeAny_func ?_⟩
  obtain ⟨t, ht, hq⟩ := hbody (hr.deeper _)
  have I : Inv (cxOf CX P w K mg base N qual scope f cdv A outer s H E) [] (L2.start N vs) H s1 := inv_start S hr.rm.hd e0 hl r x
  refine wpAny_mono (ht.run [] s1 (L2.start N vs) H _ I hq) (fun fl s' hs => ?_) fun e s' hs => hs
  have fin : ∀ {σ' : L2.St} {H' : Hp} {v : V} {u : Value}, Inv (cxOf CX P w K mg base N qual scope f cdv A outer s H E) [] σ' H' s' → L2.RelV v u → Q v H' → CE outer P w H s Q u s' :=
    fun {σ' H' v u} J rv q => ⟨v, H', J.os, J.bare, J.base, J.hok, rv, q⟩
  cases fl with
  | ret u =>
    obtain ⟨v, σ', H', J, rv, q⟩ := hs
    exact fin J rv q
  | next =>
    obtain ⟨σ', H', J, q⟩ := hs
    exact fin (v := V.non) (u := Value.none) J rfl q
  | brk =>
    obtain ⟨_, _, _, q⟩ := hs
    exact False.elim q
  | cont =>
    obtain ⟨_, _, _, q⟩ := hs
    exact False.elim q
/-- the def that calls what it got: a calls it; TT: what it makes of the lambda's reading -/
def GivesToG (X : Cx) (Ng : List Str) (x : Str) (sg : Scope) (g : Addr) (cdg : Value) (bg : List Stmt) (a : Str) (q : Str) (TT : (XK → Hp → VK → Prop) → Hp → VK → Prop) : Prop :=
  ∀ (f c' : Addr) (s : Shared) (H : Hp) (Q : VK) (tl : XK → Hp → VK → Prop),
    (∀ (W : WX) (pn : List (Addr × Obj)) (xe : Value → Shared → Prop) (p1 p2 : Pos), Takes ((cxOf C8.CX0 X.prog X.w X.K X.mg X.base Ng x sg g cdg X.A X.stack s H C8.E0).tr pn xe) W →
      PE ((cxOf C8.CX0 X.prog X.w X.K X.mg X.base Ng x sg g cdg X.A X.stack s H C8.E0).tr pn xe) (.Call (.Name a p1) [] [] p2) (fun σZ HZ Q => σZ[0]? = some (some (.ref f)) ∧ HZ c' = some (CodeO c' q) ∧ tl (WE W σZ) HZ Q)) →
    H c' = some (CodeO c' q) → TT tl H Q →
    ∃ t, PSs (cxOf C8.CX0 X.prog X.w X.K X.mg X.base Ng x sg g cdg X.A X.stack s H C8.E0).nox bg t ∧ t { nx := fun _ H' => Q .non H', rt := Q } (L2.start Ng [.ref f]) H
def tLam (T : List (Addr × Str)) (TT : (XK → Hp → VK → Prop) → Hp → VK → Prop) (t : XK → TE) : TE := fun σ H Q => Tabs T H ∧ ∀ H1, ExtN H H1 → Tabs T H1 → TT (fun E H' Q' => t E σ H' Q') H1 Q
section
variable {X : Cx}
/-- x(lambda: body) -/
theorem pe_lamcallG {T : List (Addr × Str)} {TT : (XK → Hp → VK → Prop) → Hp → VK → Prop} {x a : Str} {g c P : Addr} {k : Nat} {pg : Arguments} {bg : List Stmt} {sg : Scope} {dV kV doc pm cdv ct oc : Value} {an od : Option Addr} {osl : Array (Option Value)} {Ng : List Str}
    {params : Arguments} {body : Expr} {scope : Scope} {t : XK → TE} {p lpos pos : Pos} (hg : Gl X x) (hm : X.mg x = some (.ref g)) (hk : PySem.W.keepIn X.K (.ref g) = true)
    (lk : X.K.lookup g = some ⟨oc, od, .func (PySem.W.fnOf x x pg bg sg dV kV doc pm an cdv ct), osl⟩) (hcg : PySem.W.codeIn X.K cdv x = true) (hb : L2.Binds X.K (PySem.W.fnOf x x pg bg sg dV kV doc pm an cdv ct) [a] []) (Sg : FnScope Ng [a] sg) (hNg : Ng[0]? = some a) (hva : Vis sg a)
    (hG : GivesToG X Ng x sg g cdv bg a (X.env.qual ++ "<lambda>") TT)
    (TB : TabB X.base X.mg c P) (hcode : X.env.code = .ref c) (hmT : (P, X.env.qual ++ "<lambda>") ∈ T) (hu : ∀ p ∈ T, p.1 = P → p.2 = X.env.qual ++ "<lambda>") (hr : RoomG (k + 2) X.A) (L : LamS X.env.scope scope) (hdef : defaultsOf params X.env = ([], []))
    (hbind : ∀ (q : Str) (cl : List (Str × Addr)) (pm cv ctv : Value), bindArgs (PySem.W.kla_fn "<lambda>" q params body scope cl pm cv ctv) ⟨[], []⟩ = pure [])
    (hbody : ∀ (A : Around) (outer : List Env) (s : Shared) (H : Hp) (E : XK) (f c' : Addr), RoomG k (A.deeper (lamEnv X scope s.heap.objs.size f c')) → PE (lamCx X A outer s H E scope f c') body (t E))
    (hdb : (x == ("__debug__" : Str)) = false := by decide) (hd : (a == ("__debug__" : Str)) = false := by decide) (hcd : (a == ("__classdict__" : Str)) = false := by decide) :
    PE X (.Call (.Name x p) [.Lambda params body scope lpos] [] pos) (tLam T TT t) := by
  refine ⟨fun pins s σ H Q I h => ?_⟩
  obtain ⟨hT, h⟩ := h
  refine wpAny_Call_Name_kw (ld_glob I hg hm ?_ hdb)
  refine PySem.W.callWith_K (h₀ := X.base) I.ok.mod.kin hk ?_ (by rfl) (by rfl)
  show wpAny _ _ (spliced ((false, eval (.Lambda params body scope lpos) X.env) :: backTo pos (starEach [] X.env))) _ _ s
  refine Calls.spliced_cons (lam_make2 I TB hcode hmT hu hT hdef (L.has I.ok) fun f c' pm' ctv H1 s' I1 eN T1 hf hfn hfr hco => ?_)
  refine Calls.spliced_nil ⟨I1.kIn, ?_⟩
  have rc : codeAny (model X.prog X.w) X.A (.call (.ref g) ⟨[.ref f], []⟩) (CR C8.CX0 X.stack X.prog X.w H1 s' Q C8.E0) s' := by
    refine run_ofSG (N := Ng) (ps := [a]) (us := [.ref f]) (vs := [.ref f]) lk hcg Sg hr I1.env0 (hb s' [.ref f] I1.kIn rfl) (.cons rfl .nil) rfl fun hr' => ?_
    obtain ⟨t', ht', hq'⟩ := hG f c' s' H1 Q (fun E H' Q' => t E σ H' Q') (fun W pn xe p1 p2 tk => pe_actG (i := 0) (tb := fun E => t E) I1 L hf hfn hfr (hbind _ _ _ _ _) tk hr' (fun A outer s H E hr2 => hbody A outer s H E f c' hr2) hNg hva hd hcd) hco (h H1 eN T1)
    exact ⟨t', ht'.nox, hq'⟩
  refine wpAny_call (codeAny_mono rc fun r s2 hq => ?_)
  cases r with
  | error e => exact (show False from hq).elim
  | ok fl =>
    cases fl with
    | ret u => exact I1.after hq
    | next => exact False.elim hq
    | brk => exact False.elim hq
    | cont => exact False.elim hq
end
/-! ### the catcher: here = None; try: a() / except X as err: here = err / return here -/
/-- what it makes of the lambda's reading -/
def TTc (K : PySem.W.Frag) (CG : Addr) : (XK → Hp → VK → Prop) → Hp → VK → Prop := fun tl H Q =>
  ∀ (E : XK) (Q' : VK), (∀ C d H', PySem.W.exmOne K (.ref C) (.ref CG) = some true → (∀ a, H' a = none → Q (.ref a) (upd H' a (exk a C d))) → E (.ref C) d H') → (∀ v H', Q .non H' → Q' v H') → tl E H Q'
theorem caught_gives {X : Cx} {x a here err xg q : Str} {sg : Scope} {g CG : Addr} {cdg : Value} {j : Nat} {pA pB pC p1 p2 p3 p4 p5 p6 p7 p8 p9 p10 p11 : Pos} (hN : [a, here, err].Nodup) (hge : sg.names.lookup xg = some .globalImplicit) (hme : X.mg xg = some (.ref CG)) (hde : (xg == ("__debug__" : Str)) = false)
    (hh : sg.names.lookup here = some .local) (he : sg.names.lookup err = some .local) (hd1 : (here == ("__debug__" : Str)) = false) (hc1 : (here == ("__classdict__" : Str)) = false) (hd2 : (err == ("__debug__" : Str)) = false) (hc2 : (err == ("__classdict__" : Str)) = false) :
    GivesToG X [a, here, err] x sg g cdg [.Assign [.Name here pA] (.Constant .none j pB) pC, .Try [.Expr (.Call (.Name a p1) [] [] p2) p3] [.ExceptHandler (some (.Name xg p4)) (some err) [.Assign [.Name here p5] (.Name err p6) p7] p8] [] [] p9, .Return (some (.Name here p10)) p11] a q (TTc X.K CG) := by
  intro f c' s H Q tl act hc h
  have hgl : Gl (cxOf C8.CX0 X.prog X.w X.K X.mg X.base [a, here, err] x sg g cdg X.A X.stack s H C8.E0).nox xg := hge
  refine ⟨_, pss_cons (ps_set (i := 1) hN rfl (.inl hh) pe_non) (pss_cons (ps_try_keep (X := (cxOf C8.CX0 X.prog X.w X.K X.mg X.base [a, here, err] x sg g cdg X.A X.stack s H C8.E0).nox) (c := .ref CG) (i := 2)
      (tb := fun W D σ H => σ[0]? = some (some (.ref f)) ∧ H c' = some (CodeO c' q) ∧ tl (WE W σ) H (fun _ H1 => D.nx σ H1))
      rfl rfl hN rfl he ⟨hgl, hde, .inl hme⟩ takes0 rfl (fun W pn xe tk _ => ?_) (fun a pn => pss_one (ps_set (i := 1) hN rfl (.inl hh) (pe_var (i := 2) rfl (.inl he) hd2 hc2)))) (pss_one (ps_ret (pe_var (i := 1) rfl (.inl hh) hd1 hc1)))), ?_⟩
  · refine ⟨fun pins s' σ H' D I h' => ?_⟩
    have hp := act W pn xe p1 p2 tk
    have hq := pss_one (ps_expr (pos := p3) hp)
    exact hq.run pins s' σ H' D I h'
  · refine ⟨rfl, hc, h _ _ (fun C d H' e k => ?_) (fun v H' q => ?_)⟩
    · exact ⟨true, C, rfl, e, fun _ a0 ha => ⟨_, rfl, _, rfl, k a0 ha⟩, fun z => nomatch z⟩
    · exact ⟨_, rfl, q⟩

/-! ### its reading -/
/-- an exception of the class C with the fields fs is kept at a -/
def ExcAt (G : HD) (a C : Addr) (fs : List (Str × D)) : Prop := ∃ d, G a = some (.raw (exk a C d)) ∧ match d with
  | none => fs = []
  | some dx => G dx = some (.xd fs)
theorem ext_of {H H1 : Hp} (e : ExtN H H1) : Ext H H1 := fun a o s h => e a o h fun ps z => by subst z; exact s
theorem rh_tabs {K : PySem.W.Frag} {H H1 : Hp} {G : HD} {T : List (Addr × Str)} (rh : RH K H G) (e : ExtN H H1) (t : Tabs T H1) (hT : ∀ a q, G a = some (.tab q) → (a, q) ∈ T) : RH K H1 G := fun a o g => by
  obtain ⟨u, e1, rv⟩ := rh a o g
  by_cases c : ∃ ps, u = .tbl ps
  · obtain ⟨ps, rfl⟩ := c
    cases o with
    | tab q =>
      obtain ⟨ps', h1, h2, h3⟩ := t _ (hT a q g)
      exact ⟨_, h1, ps', rfl, h2, h3⟩
    | raw o => exact absurd rv.1.symm (rv.2 ps)
    | lst _ => obtain ⟨_, z, _⟩ := rv; cases z
    | dic _ => obtain ⟨_, z, _⟩ := rv; cases z
    | dct _ => obtain ⟨_, z, _⟩ := rv; cases z
    | ins _ _ => obtain ⟨_, _, z, _⟩ := rv; cases z
    | lck _ => obtain ⟨_, _, z, _⟩ := rv; cases z
    | xd _ => obtain ⟨_, z, _⟩ := rv; cases z
  · exact ⟨u, e a u e1 fun ps z => c ⟨ps, z⟩, rv.mono (ext_of e)⟩
theorem tabs_of {K : PySem.W.Frag} {H : Hp} {G : HD} {T : List (Addr × Str)} (rh : RH K H G) (h : ∀ p ∈ T, G p.1 = some (.tab p.2)) : Tabs T H := fun p hp => by
  obtain ⟨u, e1, ps, rfl, h2, h3⟩ := rh _ _ (h p hp)
  exact ⟨ps, e1, h2, h3⟩
theorem rd_lam {K : PySem.W.Frag} {B : Hp} {S : DS} {G : HD} {CG : Addr} {T : List (Addr × Str)} {t : XK → TE} {Q : D → HD → Prop} (hT : ∀ p ∈ T, G p.1 = some (.tab p.2)) (hT' : ∀ a q, G a = some (.tab q) → (a, q) ∈ T)
    (h : ∀ E B', Ext B B' → XC K B' (fun C fs G' => PySem.W.exmOne K (.ref C) (.ref CG) = some true ∧ ∀ a G'', Sub G' G'' → ExcAt G'' a C fs → Q (.ref a) G'') E → RdE K B' (t E) S G fun _ G' => Q .non G') :
    RdE K B (tLam T (TTc K CG) t) S G Q := fun σ H P bx rs rh c => by
  refine ⟨tabs_of rh hT, fun H1 eN t1 => ?_⟩
  have e1 : Ext H H1 := ext_of eN
  have rh1 : RH K H1 G := rh_tabs rh eN t1 hT'
  intro E Q' hE hQ
  refine h E H1 (bx.trans e1) (fun C d H2 G2 fs x2 rh2 xf ⟨hm, k⟩ => hE C d H2 hm fun a ha => ?_) σ H1 Q' (Ext.refl _) (rs.mono e1) rh1 fun v H2 _ G2 x2 rh2 _ q => hQ v H2 (c .non H2 .non G2 (e1.trans x2) rh2 (den_non.mpr rfl) q)
  have n1 : Ext H2 (upd H2 a (exk a C d)) := Ext.new ha
  have ga : G2 a = none := rh2.free ha
  have rva : RV K H2 (.raw (exk a C d)) (exk a C d) := ⟨rfl, fun ps z => by unfold exk at z; cases z⟩
  cases d with
  | none => exact c (.ref a) _ (.ref a) (put G2 a (.raw (exk a C none))) (e1.trans (x2.trans n1)) (rh2.new ha rva) (den_ref.mpr rfl) (k a _ (Sub.put ga) ⟨none, put_same, xf⟩)
  | some dx =>
    obtain ⟨gd, ws, ed, kd⟩ := xf
    have ne : dx ≠ a := fun z => by rw [z, ha] at ed; cases ed
    have rh3 : RH K H2 (put G2 dx (.xd fs)) := fun b o q => by
      by_cases cb : b = dx
      · subst cb
        rw [put_same] at q
        cases q
        exact ⟨_, ed, ws, rfl, kd⟩
      · rw [put_ne cb] at q
        exact rh2 b o q
    have ga3 : put G2 dx (.xd fs) a = none := by rw [put_ne (Ne.symm ne)]; exact ga
    exact c (.ref a) _ (.ref a) (put (put G2 dx (.xd fs)) a (.raw (exk a C (some dx)))) (e1.trans (x2.trans n1)) (rh3.new ha rva) (den_ref.mpr rfl)
      (k a _ ((Sub.put gd).trans (Sub.put ga3)) ⟨some dx, put_same, by show put _ a _ dx = _; rw [put_ne ne, put_same]⟩)
theorem rd_xk {K : PySem.W.Frag} {B : Hp} {S : DS} {G : HD} {f : Str} {te : TE} {Q : D → HD → Prop} (h : RdE K B te S G fun x G1 => ∃ a C fs d, x = .ref a ∧ XfC K C ∧ PySem.W.findIn K (.ref C) f = some none ∧ ExcAt G1 a C fs ∧ fs.lookup f = some d ∧ Q d G1) :
    RdE K B (tXk K f te) S G Q := fun σ H P bx rs rh c => h σ H _ bx rs rh fun v H' x G1 x1 rh1 dx ⟨a, C, fs, d, e, T, hno, ⟨dd, g1, g2⟩, l, q⟩ => by
  subst e
  cases den_ref.mp dx
  obtain ⟨u, e1, rfl, _⟩ := rh1 _ _ g1
  cases dd with
  | none =>
    have g2 : fs = [] := g2
    subst g2
    cases l
  | some dx =>
    have g2 : G1 dx = some (.xd fs) := g2
    obtain ⟨u, e2, ws, rfl, kd⟩ := rh1 _ _ g2
    obtain ⟨v, lv, dv⟩ := lookup_den kd l
    exact ⟨a, C, dx, ws, v, rfl, T, hno, e1, e2, lv, c v H' d G1 x1 rh1 dv q⟩
theorem ExcAt.ty {K : PySem.W.Frag} {G : HD} {a C : Addr} {fs : List (Str × D)} (h : ExcAt G a C fs) (c : ExcC K C) : TyD K G (.ref a) (.ref C) := by
  obtain ⟨d, e, g⟩ := h
  refine .exc e (fun dx z => ?_) c
  subst z
  exact ⟨fs, g⟩
theorem ExcAt.sub {G G' : HD} {a C : Addr} {fs : List (Str × D)} (s : Sub G G') (h : ExcAt G a C fs) : ExcAt G' a C fs := by
  obtain ⟨d, e, g⟩ := h
  refine ⟨d, s _ _ e, ?_⟩
  cases d with
  | none => exact g
  | some dx => exact s _ _ g
end Dd
set_option Elab.async false
set_option linter.all false
set_option maxRecDepth 100000
/-! D12: attributes as targets within a tuple; dict displays over trees. -/
namespace Dd
open PySem PySem.Spec L2
open PyProof.Rows hiding St
section
variable {X : Cx} {o : Expr} {to : TE} {f : Str} {pos : Pos}
/-- o.f as a target -/
def gFld (K : PySem.W.Frag) (to : TE) (f : Str) : TG := fun v σ H Q => to σ H fun x H1 => ∃ a C dx fs, x = .ref a ∧ H1 a = some (.ins C dx fs) ∧ Cls K C ∧ NoAttr K C f ∧ fs.length < 1000 ∧ Q σ (upd H1 a (.ins C dx (L2.putF f v fs)))
theorem pg_fld (ho : PE X o to) (ha : ∀ v, assign (.Attribute o f pos) X.env v = (do
      let ov ← holding [v] (eval o X.env)
      standAt pos.atName
      holding [v, ov] (setAttr ov f v)
      release [v, ov] []) := by intro _; rfl) : PG X (.Attribute o f pos) (gFld X.K to f) := by
  refine ⟨fun pins s σ H v u Q I r h => ?_⟩
  rw [ha]
  refine wpAny_bind (wpAny_holding (thn (ho.run pins s σ H _ I h) fun ov s1 ⟨x, H1, I1, r1, a, C, dx, fs, ex, ea, c, n, l, q⟩ => ?_))
  subst ex
  obtain rfl : ov = Value.ref a := r1
  refine wpAny_bind (wpAny_standAt (wpAny_bind (wpAny_holding (setattr_ok I1 ea c n l r fun s3 I3 => ?_))))
  exact wpAny_release ⟨σ, _, I3, q⟩
end
section
variable {K : PySem.W.Frag} {B : Hp} {S : DS} {G : HD}
theorem rd_gfld {to : TE} {f : Str} {y : D} {Q : DS → HD → Prop} (h : RdE K B to S G fun o G2 => ∃ a C fs, o = .ref a ∧ G2 a = some (.ins C fs) ∧ Cls K C ∧ NoAttr K C f ∧ fs.length < 1000 ∧ Q S (put G2 a (.ins C (putFD f y fs)))) :
    RdG K B (gFld K to f) y S G Q := fun v σ H P bx dv rs rh c => h σ H _ bx rs rh fun u H2 o G2 x2 rh2 dx ⟨a, C, fs, eo, ea, hc, hn, l, q⟩ => by
  subst eo
  obtain ⟨dx', ws, e1, r⟩ := rh2.ins ea
  have x3 : Ext H2 (upd H2 a (.ins C dx' (L2.putF f v ws))) := Ext.set e1 id
  exact ⟨a, C, dx', ws, den_ref.mp dx, e1, hc, hn, by rw [← r.len]; exact l, c σ _ S _ (x2.trans x3) (rs.mono (x2.trans x3)) (rh2.setIns e1 (r.putFd (Den.mono x2 _ _ dv))) q⟩

/-! ### displays -/
def RdP (K : PySem.W.Frag) (B : Hp) : List (TE × TE) → DS → HD → (List (D × D) → HD → Prop) → Prop
  | [], _, G, Q => Q [] G
  | (tk, tv) :: r, S, G, Q => RdE K B tk S G fun x G1 => RdE K B tv S G1 fun y G2 => RdP K B r S G2 fun ps G3 => Q ((x, y) :: ps) G3
/-- the pairs stand in both -/
def PDen (K : PySem.W.Frag) (H : Hp) : List (D × D) → List (V × V) → Prop
  | [], ps => ps = []
  | (x, y) :: r, ps => ∃ v w t, ps = (v, w) :: t ∧ Den K H x v ∧ Den K H y w ∧ PDen K H r t
theorem PDen.mono {H H' : Hp} (e : Ext H H') : ∀ {ds : List (D × D)} {ps : List (V × V)}, PDen K H ds ps → PDen K H' ds ps
  | [], _, h => h
  | (x, y) :: r, _, ⟨v, w, t, e1, d1, d2, h⟩ => ⟨v, w, t, e1, Den.mono e _ _ d1, Den.mono e _ _ d2, PDen.mono e h⟩
theorem rd_pairs : ∀ {trs : List (TE × TE)} {S : DS} {G : HD} {Q : List (D × D) → HD → Prop}, RdP K B trs S G Q → ∀ (σ : L2.St) (H : Hp) (P : List (V × V) → Hp → Prop), Ext B H → RS K H S σ → RH K H G →
    (∀ ps H' ds G', Ext H H' → RH K H' G' → PDen K H' ds ps → Q ds G' → P ps H') → tPairs trs σ H P
  | [], S, G, Q, h, σ, H, P, bx, rs, rh, c => c [] H [] G (Ext.refl _) rh rfl h
  | (tk, tv) :: r, S, G, Q, h, σ, H, P, bx, rs, rh, c => h σ H _ bx rs rh fun v H1 x G1 x1 rh1 dx h1 => h1 σ H1 _ (bx.trans x1) (rs.mono x1) rh1 fun w H2 y G2 x2 rh2 dy h2 =>
      rd_pairs h2 σ H2 _ ((bx.trans x1).trans x2) ((rs.mono x1).mono x2) rh2 fun ps H3 ds G3 x3 rh3 dd q =>
        c _ H3 ((x, y) :: ds) G3 ((x1.trans x2).trans x3) rh3 ⟨v, w, ps, rfl, Den.mono (x2.trans x3) _ _ dx, Den.mono x3 _ _ dy, dd⟩ q
def mergeD (kvs : List (Key × D)) : List (Key × D) := kvs.foldl (fun acc kv => putG acc kv.1 kv.2) []
def keyed : List (D × D) → Option (List (Key × D))
  | [] => some []
  | (x, y) :: r => (kD x).bind fun k => (keyed r).map fun t => (k, y) :: t
theorem keyed_v {H : Hp} : ∀ {ds : List (D × D)} {kvs : List (Key × D)} {ps : List (V × V)}, keyed ds = some kvs → PDen K H ds ps → ∃ kws : List (Key × V), ps = kws.map (fun kv => (kV kv.1, kv.2)) ∧ KDen K H kvs kws
  | [], kvs, ps, h, d => by
    cases h
    have d : ps = [] := d
    subst d
    exact ⟨[], rfl, KDen.nil⟩
  | (x, y) :: r, kvs, ps, h, ⟨v, w, t, e, d1, d2, d3⟩ => by
    subst e
    cases e1 : kD x with
    | none => simp [keyed, e1] at h
    | some k =>
      cases e2 : keyed r with
      | none => simp [keyed, e1, e2] at h
      | some s =>
        simp only [keyed, e1, e2, Option.bind_some, Option.map_some, Option.some.injEq] at h
        subst h
        obtain ⟨kws, rfl, kd⟩ := keyed_v e2 d3
        exact ⟨(k, w) :: kws, by rw [kD_v e1 d1]; rfl, by simp only [KDen, List.map_cons, kd.1]; exact ⟨trivial, dens_cons.mpr ⟨w, _, rfl, d2, kd.2⟩⟩⟩
theorem kden_merge {H : Hp} : ∀ {more : List (Key × D)} {mws : List (Key × V)} {kvs : List (Key × D)} {kws : List (Key × V)}, KDen K H more mws → KDen K H kvs kws → KDen K H (more.foldl (fun acc kv => putG acc kv.1 kv.2) kvs) (mergeK kws mws)
  | [], mws, kvs, kws, h, h2 => by
    cases mws with
    | nil => exact h2
    | cons _ _ => cases h.1
  | (k, d) :: more, mws, kvs, kws, h, h2 => by
    cases mws with
    | nil => cases h.1
    | cons p mws =>
      obtain ⟨k', w⟩ := p
      obtain ⟨e1, e2⟩ := h
      simp only [List.map_cons, List.cons.injEq] at e1
      obtain ⟨rfl, e1⟩ := e1
      obtain ⟨w', r, e3, d1, d2⟩ := dens_cons.mp e2
      simp only [List.map_cons, List.cons.injEq] at e3
      obtain ⟨rfl, rfl⟩ := e3
      have hm : KDen K H more mws := ⟨e1, d2⟩
      have z := kden_merge hm (h2.put (k := k) d1)
      exact z
theorem rd_disp {trs : List (TE × TE)} {Q : D → HD → Prop} (h : ∀ p, G p = none → RdP K B trs S (put G p (.dic [])) fun ds G2 => G2 p = some (.dic []) ∧ ∃ kvs, keyed ds = some kvs ∧ kvs.length ≤ 15 ∧ Q (.ref p) (put G2 p (.dic (mergeD kvs)))) :
    RdE K B (tDisp trs) S G Q := fun σ H P bx rs rh c p hp => by
  have e : Ext H (upd H p (.dK [])) := Ext.new hp
  refine rd_pairs (h p (rh.free hp)) σ _ _ (bx.trans e) (rs.mono e) (rh.newDic hp KDen.nil) fun ps H2 ds G2 x2 rh2 dd ⟨g2, kvs, hk, hl, q⟩ => ?_
  obtain ⟨kws0, e2, kd0⟩ := rh2.dic g2
  obtain ⟨kws, rfl, kd⟩ := keyed_v hk dd
  have e0 : kws0 = [] := by
    cases kws0 with
    | nil => rfl
    | cons _ _ => cases kd0.1
  subst e0
  refine ⟨e2, kws, rfl, by rw [← kd.len]; exact hl, c _ _ (.ref p) _ ((e.trans x2).trans (Ext.set e2 id)) (rh2.setDic e2 (kden_merge kd KDen.nil)) (den_ref.mpr rfl) q⟩
theorem rd_dnew {Q : D → HD → Prop} (h : ∀ p, G p = none → Q (.ref p) (put G p (.dic []))) : RdE K B tDNewK S G Q := fun σ H P bx rs rh c p hp =>
  c _ _ (.ref p) _ (Ext.new hp) (rh.newDic hp KDen.nil) (den_ref.mpr rfl) (h p (rh.free hp))
theorem rd_dnewT {Q : D → HD → Prop} (h : ∀ p, G p = none → Q (.ref p) (put G p (.dct []))) : RdE K B tDNewT S G Q := fun σ H P bx rs rh c p hp =>
  c _ _ (.ref p) _ (Ext.new hp) (rh.newDct hp KDen.nil) (den_ref.mpr rfl) (h p (rh.free hp))
end
end Dd
set_option Elab.async false
set_option linter.all false
set_option maxRecDepth 100000
/-! D13: defs, methods, classes, own errors as they stand behind the top, each with its promise; their calls in one word. -/
namespace Dd
open PySem PySem.Spec L2
open PyProof.Rows hiding St

/-- the def x, of room k, with its promise -/
structure CalG (P : Program) (w : World) (K : PySem.W.Frag) (mg : Str → Option Value) (base : Heap) (k : Nat) (x : Str) (ps : List Str) (sd : SpD) : Type where
  f : Addr
  fd : FuncData
  F : FnG P w K mg base k f fd ps (spOf K sd)
  g : mg x = some (.ref f)
  kp : PySem.W.keepIn K (.ref f) = true
  b : Binds K fd ps []
/-- the method m of the class at C -/
structure MetG (P : Program) (w : World) (K : PySem.W.Frag) (mg : Str → Option Value) (base : Heap) (k : Nat) (C : Addr) (m : Str) (ps : List Str) (sd : SpD) : Type where
  f : Addr
  fd : FuncData
  F : FnG P w K mg base k f fd ps (spOf K sd)
  cl : Cls K C
  m : Meth K C m f
  b : Binds K fd ps []
/-- the class x at C, its __init__ -/
structure MakG (P : Program) (w : World) (K : PySem.W.Frag) (mg : Str → Option Value) (base : Heap) (k : Nat) (x : Str) (C : Addr) (ps : List Str) (sd : SpD) : Type where
  f : Addr
  fd : FuncData
  F : FnG P w K mg base k f fd ps (spOf K sd)
  M : Mk K C f
  g : mg x = some (.ref C)
  b : Binds K fd ps []
/-- the own error x at C with the field fld -/
structure ErrG (P : Program) (w : World) (K : PySem.W.Frag) (mg : Str → Option Value) (base : Heap) (x : Str) (C : Addr) (fld : Str) : Type where
  f : Addr
  fd : FuncData
  F : FnG P w K mg base 1 f fd ["self", fld] (spErr K C fld)
  e : ErrC K C f fld
  g : mg x = some (.ref C)
  b : Binds K fd ["self", fld] []
section
variable {X : Cx} {k j : Nat} {C : Addr} {ps : List Str} {sd : SpD} {W : WX} {x m fld : Str} {p pos apos : Pos} {e o : Expr} {es : List Expr} {ta : TE} {t : TA}
theorem pe_cG (c : CalG X.prog X.w X.K X.mg X.base k x ps sd) (hr : RoomG j X.A) (hk : k ≤ j) (hg : Gl X x) (hx : Takes X W) (ha : PA X (e :: es) t) (hdb : (x == ("__debug__" : Str)) = false := by decide)
    (he : starEach (e :: es) X.env = (false, eval e X.env) :: starEach es X.env := by rfl) (hpl : (backTo pos (starEach es X.env)).any (·.1) = false := by rfl) :
    PE X (.Call (.Name x p) (e :: es) [] pos) (tCallG (spOf X.K sd) [] W t) := pe_callG c.F (hr.mono hk) hg c.g c.kp c.b .nil hx ha hdb he hpl
theorem pe_c0G (c : CalG X.prog X.w X.K X.mg X.base k x ps sd) (hr : RoomG j X.A) (hk : k ≤ j) (hg : Gl X x) (hx : Takes X W) (hdb : (x == ("__debug__" : Str)) = false := by decide) :
    PE X (.Call (.Name x p) [] [] pos) (tCallG (spOf X.K sd) [] W tNil) := pe_call0G c.F (hr.mono hk) hg c.g c.kp c.b .nil hx hdb
theorem pe_mG {pl : Sem Bool} (c : MetG X.prog X.w X.K X.mg X.base k C m ps sd) (hr : RoomG j X.A) (hk : k ≤ j) (hx : Takes X W) (he : PE X o ta) (ha : PA X (e :: es) t)
    (hst : starEach (e :: es) X.env = (false, eval e X.env) :: starEach es X.env := by rfl) (hpl : (backTo pos (starEach es X.env)).any (·.1) = false := by rfl)
    (ht : eval (.Call (.Attribute o m apos) (e :: es) [] pos) X.env = (do
      let ov ← eval o X.env
      standAt apos.atName
      let (f, first) ← holding [ov] (getMethod ov m pl)
      callWith pos f first (backTo pos (starEach (e :: es) X.env)) (backToKw pos (keywordEach [] X.env))) := by rfl) :
    PE X (.Call (.Attribute o m apos) (e :: es) [] pos) (tMethG C m (spOf X.K sd) [] W ta t) := pe_methG he c.cl c.m c.F (hr.mono hk) c.b .nil hx ha hst hpl ht
theorem pe_m0G {pl : Sem Bool} (c : MetG X.prog X.w X.K X.mg X.base k C m ps sd) (hr : RoomG j X.A) (hk : k ≤ j) (hx : Takes X W) (he : PE X o ta)
    (ht : eval (.Call (.Attribute o m apos) [] [] pos) X.env = (do
      let ov ← eval o X.env
      standAt apos.atName
      let (f, first) ← holding [ov] (getMethod ov m pl)
      callWith pos f first (backTo pos (starEach [] X.env)) (backToKw pos (keywordEach [] X.env))) := by rfl) :
    PE X (.Call (.Attribute o m apos) [] [] pos) (tMethG C m (spOf X.K sd) [] W ta tNil) := pe_meth0G he c.cl c.m c.F (hr.mono hk) c.b .nil hx ht
theorem pe_kG (c : MakG X.prog X.w X.K X.mg X.base k x C ps sd) (hr : RoomG j X.A) (hk : k + 1 ≤ j) (hg : Gl X x) (hx : Takes X W) (ha : PA X (e :: es) t) (hdb : (x == ("__debug__" : Str)) = false := by decide)
    (he : starEach (e :: es) X.env = (false, eval e X.env) :: starEach es X.env := by rfl) (hpl : (backTo pos (starEach es X.env)).any (·.1) = false := by rfl) :
    PE X (.Call (.Name x p) (e :: es) [] pos) (tMakeG C (spOf X.K sd) [] W t) := pe_makeG c.M c.F (hr.mono hk) hg c.g c.b .nil hx ha hdb he hpl
theorem pe_k0G (c : MakG X.prog X.w X.K X.mg X.base k x C ps sd) (hr : RoomG j X.A) (hk : k + 1 ≤ j) (hg : Gl X x) (hx : Takes X W) (hdb : (x == ("__debug__" : Str)) = false := by decide) :
    PE X (.Call (.Name x p) [] [] pos) (tMakeG C (spOf X.K sd) [] W tNil) := pe_make0G c.M c.F (hr.mono hk) hg c.g c.b .nil hx hdb
theorem pmk_G (c : ErrG X.prog X.w X.K X.mg X.base x C fld) (hr : RoomG j X.A) (hk : 2 ≤ j) (hg : Gl X x) (ha : PA X [e] t) (hdb : (x == ("__debug__" : Str)) = false := by decide) (he : starEach [e] X.env = (false, eval e X.env) :: starEach [] X.env := by rfl) :
    PMk X (.Call (.Name x p) [e] [] pos) (tErr C fld t) := pmk_err (k := 1) c.e c.F (hr.mono hk) c.b hg c.g ha hdb he
end
section
variable {K : PySem.W.Frag} {B : Hp} {S : DS} {G : HD} {W : WX} {wd : WD} {sd : SpD}
theorem rd_c {ta : TA} {Q : D → HD → Prop} (hw : WC K B wd W) (h : RdA K B ta S G fun ds G1 => sd ds G1 Q (fun C fs G2 => wd C fs S G2)) : RdE K B (tCallG (spOf K sd) [] W ta) S G Q :=
  rd_call (dds := []) hw (fun _ => dens_nil.mpr rfl) fun σ H P bx rs rh c => h σ H P bx rs rh fun vs H' ds G' x r d q => c vs H' ds G' x r d (by show sd (ds ++ []) G' Q _; rw [List.append_nil]; exact q)
theorem rd_m {C : Addr} {m : Str} {to : TE} {ta : TA} {Q : D → HD → Prop} (hw : WC K B wd W)
    (h : RdE K B to S G fun o G1 => ∃ a fs, o = .ref a ∧ G1 a = some (.ins C fs) ∧ fs.lookup m = none ∧ RdA K B ta S G1 fun ds G2 => sd (.ref a :: ds) G2 Q (fun C fs G3 => wd C fs S G3)) : RdE K B (tMethG C m (spOf K sd) [] W to ta) S G Q :=
  rd_meth (dds := []) hw (fun _ => dens_nil.mpr rfl) (h.imp fun o G1 ⟨a, fs, e1, e2, e3, q⟩ => ⟨a, fs, e1, e2, e3, fun σ H P bx rs rh c => q σ H P bx rs rh fun vs H' ds G' x r d q' => c vs H' ds G' x r d (by show sd (_ :: (ds ++ [])) G' Q _; rw [List.append_nil]; exact q')⟩)
theorem rd_k {C : Addr} {ta : TA} {Q : D → HD → Prop} (hw : WC K B wd W)
    (h : RdA K B ta S G fun ds G1 => ∀ p, G1 p = none → sd (.ref p :: ds) (put G1 p (.ins C [])) (fun v G2 => v = .non ∧ Q (.ref p) G2) (fun C fs G2 => wd C fs S G2)) : RdE K B (tMakeG C (spOf K sd) [] W ta) S G Q :=
  rd_make (dds := []) hw (fun _ => dens_nil.mpr rfl) fun σ H P bx rs rh c => h σ H P bx rs rh fun vs H' ds G' x r d q => c vs H' ds G' x r d fun p hp => by rw [List.append_nil]; exact q p hp
/-- a built-in type's seven: what isinstance says of them -/
def seven : List String := ["NoneType", "bool", "int", "str", "tuple", "list", "dict"]
def isTy (n m : String) : Bool := n == m || (n == "bool" && m == "int")
theorem kit7 : (seven.all fun n => ["bool", "int", "str", "tuple", "list", "dict"].all fun m => kitB n m == some (isTy n m)) = true := by decide +kernel
theorem kit7_of {K : PySem.W.Frag} {n m : String} (hn : n ∈ seven) (hm : m ∈ ["bool", "int", "str", "tuple", "list", "dict"]) : PySem.W.kitOne K (.type n) (.type m) = some (isTy n m) := by
  have h := List.all_eq_true.mp (List.all_eq_true.mp kit7 n hn) m hm
  exact kit_ty (by simpa using h)
/-- d is of the built-in type n -/
def Ty7 (K : PySem.W.Frag) (G : HD) (d : D) (n : String) : Prop := TyD K G d (.type n) ∧ n ∈ seven
theorem Ty7.one {Q : D → HD → Prop} {d : D} {n m : String} (h : Ty7 K G d n) (hm : m ∈ ["bool", "int", "str", "tuple", "list", "dict"]) (q : Q (.bl (isTy n m)) G) : RIsi K [d, .ty m] G Q :=
  ⟨d, .ty m, _, _, rfl, h.1, .inl ⟨_, .ty m, kit7_of h.2 hm⟩, q⟩
theorem Ty7.two {Q : D → HD → Prop} {d : D} {n m m' : String} (h : Ty7 K G d n) (hm : m ∈ ["bool", "int", "str", "tuple", "list", "dict"]) (hm' : m' ∈ ["bool", "int", "str", "tuple", "list", "dict"]) (q : Q (.bl (isTy n m || isTy n m')) G) : RIsi K [d, .tup [.ty m, .ty m']] G Q := by
  refine ⟨d, .tup [.ty m, .ty m'], _, (isTy n m || isTy n m'), rfl, h.1, .inr ⟨_, [.type m, .type m'], rfl, .cons (.ty m) (.cons (.ty m') .nil), ?_⟩, q⟩
  refine kitAny_cons (kit7_of h.2 hm) (fun e => ?_) (fun e => by rw [e]; rfl)
  refine kitAny_cons (kit7_of h.2 hm') (fun e2 => by rw [e, e2]; exact kitAny_nil) (fun e2 => by rw [e2, Bool.or_true])
theorem wc0 : WC K B (fun _ _ _ _ => False) (fun _ _ _ _ => False) := fun _ _ _ _ _ _ _ _ _ _ _ q => q
theorem room_hu1 {k : Nat} {A : Around} (r : RoomG k A) : A.units + 1 < cLine := by have := r.rm.units; omega
end
end Dd
set_option Elab.async false
set_option linter.all false
set_option maxRecDepth 100000
/-! D14: the same rules with the written part K named (within a comprehension's block the context is bound, K is not). -/
namespace Dd
open PySem PySem.Spec L2
open PyProof.Rows hiding St
section
variable {X : Cx} {K : PySem.W.Frag}
theorem k_opd_add (h : X.K = K)  : OpR X (binaryOp .Add) (lf2 K RAdd) := by subst h; exact opd_add 
theorem k_opd_sub (h : X.K = K)  : OpR X (binaryOp .Sub) (lf2 K RSub) := by subst h; exact opd_sub 
theorem k_opd_fdiv (h : X.K = K)  : OpR X (binaryOp .FloorDiv) (lf2 K RFdiv) := by subst h; exact opd_fdiv 
theorem k_opd_mod (h : X.K = K)  : OpR X (binaryOp .Mod) (lf2 K RMod) := by subst h; exact opd_mod 
theorem k_opd_pow (h : X.K = K)  : OpR X (binaryOp .Pow) (lf2 K RPow) := by subst h; exact opd_pow 
theorem k_opd_mul (h : X.K = K)  : OpR X (binaryOp .Mult) (lf2 K RMul) := by subst h; exact opd_mul 
theorem k_opd_lt (h : X.K = K)  : OpR X (compareOp .Lt) (lf2 K RLt) := by subst h; exact opd_lt 
theorem k_opd_le (h : X.K = K)  : OpR X (compareOp .LtE) (lf2 K RLe) := by subst h; exact opd_le 
theorem k_opd_gt (h : X.K = K)  : OpR X (compareOp .Gt) (lf2 K RGt) := by subst h; exact opd_gt 
theorem k_opd_ge (h : X.K = K)  : OpR X (compareOp .GtE) (lf2 K RGe) := by subst h; exact opd_ge 
theorem k_opd_is (h : X.K = K)  : OpR X (compareOp .Is) (lf2 K RIs) := by subst h; exact opd_is 
theorem k_opd_isnot (h : X.K = K)  : OpR X (compareOp .IsNot) (lf2 K RIsNot) := by subst h; exact opd_isnot 
theorem k_opd_eq (h : X.K = K) (hu : X.A.units + 64 < cLine) : OpR X (compareOp .Eq) (lf2 K REq) := by subst h; exact opd_eq hu
theorem k_opd_ne (h : X.K = K) (hu : X.A.units + 64 < cLine) : OpR X (compareOp .NotEq) (lf2 K RNe) := by subst h; exact opd_ne hu
theorem k_opd_in (h : X.K = K) (hu : X.A.units + 1 < cLine) : OpR X (compareOp .In) (lf2 K RIn) := by subst h; exact opd_in hu
theorem k_opd_notin (h : X.K = K) (hu : X.A.units + 1 < cLine) : OpR X (compareOp .NotIn) (lf2 K RNotIn) := by subst h; exact opd_notin hu
theorem k_crd_len (h : X.K = K)  : CallR X (.builtin "len") (lfL K RLen) := by subst h; exact crd_len 
theorem k_crd_int (h : X.K = K)  : CallR X (.type "int") (lfL K RInt) := by subst h; exact crd_int 
theorem k_crd_str (h : X.K = K)  : CallR X (.type "str") (lfL K RStr) := by subst h; exact crd_str 
theorem k_crd_abs (h : X.K = K)  : CallR X (.builtin "abs") (lfL K RAbs) := by subst h; exact crd_abs 
theorem k_crd_list (h : X.K = K)  : CallR X (.type "list") (lfL K RList) := by subst h; exact crd_list 
theorem k_crd_tuple (h : X.K = K)  : CallR X (.type "tuple") (lfL K RTuple) := by subst h; exact crd_tuple 
theorem k_crd_isi (h : X.K = K) : CallR X (.builtin "isinstance") (lfL K (RIsi K)) := by subst h; exact crd_isi
theorem k_crd_min2 (h : X.K = K) (hc : X.calm = true) : CallR X (.builtin "min") (lfL K RMin2) := by subst h; exact crd_min2 hc
theorem k_crd_max2 (h : X.K = K) (hc : X.calm = true) : CallR X (.builtin "max") (lfL K RMax2) := by subst h; exact crd_max2 hc
theorem k_crd_all (h : X.K = K) (hc : X.calm = true) : CallR X (.builtin "all") (lfL K RAll) := by subst h; exact crd_all hc
theorem k_crd_any (h : X.K = K) (hc : X.calm = true) : CallR X (.builtin "any") (lfL K RAny) := by subst h; exact crd_any hc
theorem k_crd_sum (h : X.K = K) (hc : X.calm = true) : CallR X (.builtin "sum") (lfL K RSum) := by subst h; exact crd_sum hc
theorem k_crd_repr (h : X.K = K) (hg : X.A.guards = some []) (hu : X.A.units + 64 < cLine) : CallR X (.builtin "repr") (lfL K RRepr) := by subst h; exact crd_repr hg hu
theorem k_mtd_append (h : X.K = K) : MtM X "list.append" (lfM K RAppend) := by subst h; exact mtd_append
theorem k_mtd_extend (h : X.K = K) : MtM X "list.extend" (lfM K RExtend) := by subst h; exact mtd_extend
theorem k_mtd_pop0 (h : X.K = K) : MtM X "list.pop" (lfM K RPop0) := by subst h; exact mtd_pop0
theorem k_mtd_popAt (h : X.K = K) : MtM X "list.pop" (lfM K RPopAt) := by subst h; exact mtd_popAt
theorem k_mtd_join (h : X.K = K) : MtR X "str.join" (lfM K RJoin) := by subst h; exact mtd_join
theorem k_mtd_split (h : X.K = K) : MtR X "str.split" (lfM K RSplit) := by subst h; exact mtd_split
theorem k_ixd (h : X.K = K) (hu : X.A.units + 1 < cLine) : IxR X (lf2 K RIx) := by subst h; exact ixd hu
theorem k_psetd (h : X.K = K) (hu : X.A.units + 1 < cLine) : PSet X (lfSet K RSetI) := by subst h; exact psetd hu
theorem k_sld (h : X.K = K) : SlR X (lfSl K RSl) := by subst h; exact sld
theorem k_und_neg (h : X.K = K) : UnR X (unaryOp .USub) (lf1 K RNeg) := by subst h; exact und_neg
theorem k_fld {e : Expr} {f : Str} {pos : Pos} {ta : TE} (h : X.K = K) (he : PE X e ta) (hb : attributeBase e f X.env (eval e X.env) = eval e X.env := by rfl) : PE X (.Attribute e f pos) (tFld K ta f) := by subst h; exact pe_fld he hb
theorem k_xk {e : Expr} {f : Str} {pos : Pos} {ta : TE} (h : X.K = K) (he : PE X e ta) (hb : attributeBase e f X.env (eval e X.env) = eval e X.env := by rfl) : PE X (.Attribute e f pos) (tXk K f ta) := by subst h; exact pe_xk he hb
theorem k_tup {es : List Expr} {kk : Nat} {t : TGs} {n : Nat} {pos : Pos} (hK : X.K = K) (hc : X.calm = true) (h : PGs X es t) (hn : (assignEach es X.env).length = n := by rfl) (hst : (assignEach es X.env).findIdx? (·.1) = none := by rfl) : PG X (.Tuple es kk pos) (gTup K n t) := by subst hK; exact pg_tup hc h hn hst
theorem k_gfld {o : Expr} {to : TE} {f : Str} {pos : Pos} (h : X.K = K) (ho : PE X o to) (ha : ∀ v, assign (.Attribute o f pos) X.env v = (do
      let ov ← holding [v] (eval o X.env)
      standAt pos.atName
      holding [v, ov] (setAttr ov f v)
      release [v, ov] []) := by intro _; rfl) : PG X (.Attribute o f pos) (gFld K to f) := by subst h; exact pg_fld ho ha
theorem k_seq {tg l : Expr} {tl : TE} (h : X.K = K) (hl : PE X l tl) : PI X tg l (iSeq K tl) := by subst h; exact pi_seqd hl
theorem k_enum {e : Expr} {ta : TA} {p pos tpos : Pos} {elts : List Expr} {kk : Nat} (h : X.K = K) (hg : Gl X "enumerate") (hm : X.mg "enumerate" = none) (ha : PA X [e] ta) (hs : starEach [e] X.env = [(false, eval e X.env)] := by rfl) :
    PI X (.Tuple elts kk tpos) (.Call (.Name "enumerate" p) [e] [] pos) (iEnumD K ta) := by subst h; exact pi_enumD hg hm ha hs
theorem k_c {P : Program} {w : World} {mg : Str → Option Value} {base : Heap} {k j : Nat} {ps : List Str} {sd : SpD} {W : WX} {x : Str} {p pos : Pos} {e : Expr} {es : List Expr} {t : TA} (c : CalG P w K mg base k x ps sd) (e1 : X.prog = P) (e2 : X.w = w) (e3 : X.K = K) (e4 : X.mg = mg) (e5 : X.base = base) (hr : RoomG j X.A) (hk : k ≤ j) (hg : Gl X x) (hx : Takes X W) (ha : PA X (e :: es) t) (hdb : (x == ("__debug__" : Str)) = false := by decide)
    (he : starEach (e :: es) X.env = (false, eval e X.env) :: starEach es X.env := by rfl) (hpl : (backTo pos (starEach es X.env)).any (·.1) = false := by rfl) :
    PE X (.Call (.Name x p) (e :: es) [] pos) (tCallG (spOf K sd) [] W t) := by subst e1 e2 e3 e4 e5; exact pe_cG c hr hk hg hx ha hdb he hpl
theorem k_c0 {P : Program} {w : World} {mg : Str → Option Value} {base : Heap} {k j : Nat} {ps : List Str} {sd : SpD} {W : WX} {x : Str} {p pos : Pos} (c : CalG P w K mg base k x ps sd) (e1 : X.prog = P) (e2 : X.w = w) (e3 : X.K = K) (e4 : X.mg = mg) (e5 : X.base = base) (hr : RoomG j X.A) (hk : k ≤ j) (hg : Gl X x) (hx : Takes X W) (hdb : (x == ("__debug__" : Str)) = false := by decide) :
    PE X (.Call (.Name x p) [] [] pos) (tCallG (spOf K sd) [] W tNil) := by subst e1 e2 e3 e4 e5; exact pe_c0G c hr hk hg hx hdb
theorem k_m {P : Program} {w : World} {mg : Str → Option Value} {base : Heap} {k j : Nat} {C : Addr} {ps : List Str} {sd : SpD} {W : WX} {m : Str} {apos pos : Pos} {o e : Expr} {es : List Expr} {ta : TE} {t : TA} {pl : Sem Bool} (c : MetG P w K mg base k C m ps sd) (e1 : X.prog = P) (e2 : X.w = w) (e3 : X.K = K) (e4 : X.mg = mg) (e5 : X.base = base) (hr : RoomG j X.A) (hk : k ≤ j) (hx : Takes X W) (he : PE X o ta) (ha : PA X (e :: es) t)
    (hst : starEach (e :: es) X.env = (false, eval e X.env) :: starEach es X.env := by rfl) (hpl : (backTo pos (starEach es X.env)).any (·.1) = false := by rfl)
    (ht : eval (.Call (.Attribute o m apos) (e :: es) [] pos) X.env = (do
      let ov ← eval o X.env
      standAt apos.atName
      let (f, first) ← holding [ov] (getMethod ov m pl)
      callWith pos f first (backTo pos (starEach (e :: es) X.env)) (backToKw pos (keywordEach [] X.env))) := by rfl) :
    PE X (.Call (.Attribute o m apos) (e :: es) [] pos) (tMethG C m (spOf K sd) [] W ta t) := by subst e1 e2 e3 e4 e5; exact pe_mG c hr hk hx he ha hst hpl ht
theorem k_m0 {P : Program} {w : World} {mg : Str → Option Value} {base : Heap} {k j : Nat} {C : Addr} {ps : List Str} {sd : SpD} {W : WX} {m : Str} {apos pos : Pos} {o : Expr} {ta : TE} {pl : Sem Bool} (c : MetG P w K mg base k C m ps sd) (e1 : X.prog = P) (e2 : X.w = w) (e3 : X.K = K) (e4 : X.mg = mg) (e5 : X.base = base) (hr : RoomG j X.A) (hk : k ≤ j) (hx : Takes X W) (he : PE X o ta)
    (ht : eval (.Call (.Attribute o m apos) [] [] pos) X.env = (do
      let ov ← eval o X.env
      standAt apos.atName
      let (f, first) ← holding [ov] (getMethod ov m pl)
      callWith pos f first (backTo pos (starEach [] X.env)) (backToKw pos (keywordEach [] X.env))) := by rfl) :
    PE X (.Call (.Attribute o m apos) [] [] pos) (tMethG C m (spOf K sd) [] W ta tNil) := by subst e1 e2 e3 e4 e5; exact pe_m0G c hr hk hx he ht
theorem k_k {P : Program} {w : World} {mg : Str → Option Value} {base : Heap} {k j : Nat} {C : Addr} {ps : List Str} {sd : SpD} {W : WX} {x : Str} {p pos : Pos} {e : Expr} {es : List Expr} {t : TA} (c : MakG P w K mg base k x C ps sd) (e1 : X.prog = P) (e2 : X.w = w) (e3 : X.K = K) (e4 : X.mg = mg) (e5 : X.base = base) (hr : RoomG j X.A) (hk : k + 1 ≤ j) (hg : Gl X x) (hx : Takes X W) (ha : PA X (e :: es) t) (hdb : (x == ("__debug__" : Str)) = false := by decide)
    (he : starEach (e :: es) X.env = (false, eval e X.env) :: starEach es X.env := by rfl) (hpl : (backTo pos (starEach es X.env)).any (·.1) = false := by rfl) :
    PE X (.Call (.Name x p) (e :: es) [] pos) (tMakeG C (spOf K sd) [] W t) := by subst e1 e2 e3 e4 e5; exact pe_kG c hr hk hg hx ha hdb he hpl
theorem k_k0 {P : Program} {w : World} {mg : Str → Option Value} {base : Heap} {k j : Nat} {C : Addr} {ps : List Str} {sd : SpD} {W : WX} {x : Str} {p pos : Pos} (c : MakG P w K mg base k x C ps sd) (e1 : X.prog = P) (e2 : X.w = w) (e3 : X.K = K) (e4 : X.mg = mg) (e5 : X.base = base) (hr : RoomG j X.A) (hk : k + 1 ≤ j) (hg : Gl X x) (hx : Takes X W) (hdb : (x == ("__debug__" : Str)) = false := by decide) :
    PE X (.Call (.Name x p) [] [] pos) (tMakeG C (spOf K sd) [] W tNil) := by subst e1 e2 e3 e4 e5; exact pe_k0G c hr hk hg hx hdb
theorem k_bm {T : String} {id : String} {name : Str} {r : V → List V → Hp → VK → Prop} {o e : Expr} {es : List Expr} {apos cpos : Pos} {to : TE} {t : TA} (h : X.K = K) (pa : PlainAttrs T) (slot : Slot T name id) (hty : typeOf (.builtin id) = pure (.type "method_descriptor")) (hm : MtR X id r) (ho : PE X o to) (ha : PA X (e :: es) t)
    (hbase : attributeBase o name X.env (eval o X.env) = eval o X.env := by rfl)
    (hfew : ((backTo cpos (starEach (e :: es) X.env)).all (fun x => !x.1) && (backToKw cpos (keywordEach [] X.env)).all (fun x => x.1.isSome)
      && decide ((e :: es).length + ([] : List Keyword).length + (if ([] : List Keyword).isEmpty then 0 else 1) < 30)) = true := by rfl)
    (hline : (apos.endLine == cpos.line) = true := by rfl) (hs : starEach (e :: es) X.env = (false, eval e X.env) :: starEach es X.env := by rfl) (hplain : (backTo cpos (starEach es X.env)).any (·.1) = false := by rfl) :
    PE X (.Call (.Attribute o name apos) (e :: es) [] cpos) (tBM K T r to t) := by subst h; exact pe_bm pa slot hty hm ho ha hbase hfew hline hs hplain
end
section
variable {K : PySem.W.Frag} {B : Hp} {S : DS} {G : HD}
theorem rd_yes {Q : Bool → HD → Prop} (h : Q true G) : RdT K B tYes S G Q := fun σ H P _ _ rh c => c true H G (Ext.refl _) rh h
end
end Dd
set_option Elab.async false
set_option linter.all false
set_option maxRecDepth 100000
/-! D15: equality of lists and tuples of plain things; ints as texts. -/
namespace Dd
open PySem PySem.Spec L2
open PyProof.Rows hiding St
section
variable {X : Cx} {K : PySem.W.Frag}
def RIAdd : R2D := fun x y G Q => match x, y with
  | .int i, .int j => Q (.int (i + j)) G
  | .str a, .str b => a.length + b.length ≤ sizeLine ∧ Q (.str (a ++ b)) G
  | _, _ => False
theorem k_iadd (hK : X.K = K) : OpR X (inplaceOp .Add) (lf2 K RIAdd) := by
  subst hK
  rintro pins s σ H xv yv v u P I rx ry ⟨x, y, G, Q, rh, dx, dy, h, c⟩
  cases x <;> cases y <;> first | exact h.elim | skip
  · cases den_int.mp dx; cases den_int.mp dy
    exact iop_add pins s σ H _ _ v u P I rx ry ⟨_, _, rfl, rfl, c _ H _ G (Ext.refl _) rh (den_int.mpr rfl) h⟩
  · cases den_str.mp dx; cases den_str.mp dy
    exact iop_add_str pins s σ H _ _ v u P I rx ry ⟨_, _, rfl, rfl, h.1, c _ H _ G (Ext.refl _) rh (den_str.mpr rfl) h.2⟩
end
/-- a plain thing -/
inductive Pl where | non | bl (b : Bool) | int (i : Int) | str (x : Str)
deriving DecidableEq
def Pl.d : Pl → D | .non => .non | .bl b => .bl b | .int i => .int i | .str x => .str x
def Pl.p : Pl → PyData | .non => .none | .bl b => .bool b | .int i => .int i | .str x => .str x
theorem Pl.rp (G : HD) : ∀ x : Pl, Rp G x.p x.d
  | .non => rfl | .bl _ => rfl | .int _ => rfl | .str _ => rfl
theorem pl_rps (G : HD) : ∀ xs : List Pl, Rps G (xs.map Pl.p) (xs.map Pl.d)
  | [] => rfl
  | x :: xs => ⟨x.d, xs.map Pl.d, rfl, x.rp G, pl_rps G xs⟩
def Pl.ok : Pl → Bool | .str x => PyData.strOk x | _ => true
theorem Pl.can : ∀ x : Pl, x.p.canLay0 = x.ok
  | .non => rfl | .bl _ => rfl | .int _ => rfl | .str _ => rfl
theorem pl_can : ∀ xs : List Pl, PyData.canLayAll0 (xs.map Pl.p) = xs.all Pl.ok
  | [] => rfl
  | x :: xs => by show (x.p.canLay0 && _) = _; rw [x.can, pl_can xs]; rfl
theorem pl_dep : ∀ xs : List Pl, PyData.depthAll (xs.map Pl.p) = 0
  | [] => rfl
  | x :: xs => by
    show max x.p.depth (PyData.depthAll (xs.map Pl.p)) = 0
    rw [pl_dep xs]
    cases x <;> rfl
theorem pl_shaped {xs : List Pl} (h : xs.all Pl.ok = true) : SeqAt.shaped (.list (xs.map Pl.p)) = true := by
  show (PyData.canLayAll0 (xs.map Pl.p) && decide (PyData.depthAll (xs.map Pl.p) + 1 ≤ 64)) = true
  rw [pl_can, h, pl_dep]; rfl
theorem pl_shapedT {xs : List Pl} (h : xs.all Pl.ok = true) : SeqAt.shaped (.tuple (xs.map Pl.p)) = true := by
  show (PyData.canLayAll0 (xs.map Pl.p) && decide (PyData.depthAll (xs.map Pl.p) + 1 ≤ 64)) = true
  rw [pl_can, h, pl_dep]; rfl
/-- no booleans: equality is equality -/
def Pl.nb : Pl → Bool | .bl _ => false | _ => true
theorem pl_eqv1 {x y : Pl} (hx : x.nb = true) (hy : y.nb = true) : PyData.eqv x.p y.p = decide (x = y) := by
  cases x <;> cases y <;> first | (cases hx; done) | (cases hy; done) | skip
  all_goals simp [Pl.p, PyData.eqv]
  all_goals rfl
theorem pl_eqv : ∀ {xs ys : List Pl}, xs.all Pl.nb = true → ys.all Pl.nb = true → PyData.eqvAll (xs.map Pl.p) (ys.map Pl.p) = decide (xs = ys)
  | [], [], _, _ => rfl
  | [], y :: ys, _, _ => rfl
  | x :: xs, [], _, _ => rfl
  | x :: xs, y :: ys, hx, hy => by
    simp only [List.all_cons, Bool.and_eq_true] at hx hy
    show (PyData.eqv x.p y.p && PyData.eqvAll (xs.map Pl.p) (ys.map Pl.p)) = _
    rw [pl_eqv1 hx.1 hy.1, pl_eqv hx.2 hy.2]
    by_cases h1 : x = y
    · by_cases h2 : xs = ys <;> simp [h1, h2]
    · simp [h1]
/-- two lists of plain things -/
theorem req_lst {neg : Bool} {a b : Addr} {xs ys : List Pl} {G : HD} {Q : D → HD → Prop} (ha : G a = some (.lst (xs.map Pl.d)) ∨ G a = some (.lck (.lst (xs.map Pl.d)))) (hb : G b = some (.lst (ys.map Pl.d)) ∨ G b = some (.lck (.lst (ys.map Pl.d)))) (ox : xs.all Pl.ok = true) (oy : ys.all Pl.ok = true) (nx : xs.all Pl.nb = true) (ny : ys.all Pl.nb = true)
    (q : Q (.bl (if neg then !decide (xs = ys) else decide (xs = ys))) G) : REqB neg (.ref a) (.ref b) G Q := by
  refine ⟨.list (xs.map Pl.p), .list (ys.map Pl.p), ⟨a, _, rfl, ha, pl_rps G xs⟩, ⟨b, _, rfl, hb, pl_rps G ys⟩, pl_shaped ox, pl_shaped oy, ?_⟩
  have e : PyData.eqv (.list (xs.map Pl.p)) (.list (ys.map Pl.p)) = decide (xs = ys) := pl_eqv nx ny
  rw [e]; exact q
theorem req_tup {neg : Bool} {xs ys : List Pl} {G : HD} {Q : D → HD → Prop} (ox : xs.all Pl.ok = true) (oy : ys.all Pl.ok = true) (nx : xs.all Pl.nb = true) (ny : ys.all Pl.nb = true)
    (q : Q (.bl (if neg then !decide (xs = ys) else decide (xs = ys))) G) : REqB neg (.tup (xs.map Pl.d)) (.tup (ys.map Pl.d)) G Q := by
  refine ⟨.tuple (xs.map Pl.p), .tuple (ys.map Pl.p), ⟨_, rfl, pl_rps G xs⟩, ⟨_, rfl, pl_rps G ys⟩, pl_shapedT ox, pl_shapedT oy, ?_⟩
  have e : PyData.eqv (.tuple (xs.map Pl.p)) (.tuple (ys.map Pl.p)) = decide (xs = ys) := pl_eqv nx ny
  rw [e]; exact q
theorem pl_ints (ns : List Int) : (ns.map Pl.int).map Pl.d = ns.map D.int := by rw [List.map_map]; rfl
theorem pl_strs (ns : List Str) : (ns.map Pl.str).map Pl.d = ns.map D.str := by rw [List.map_map]; rfl
/-- a list of ints, tested for being empty -/
theorem req_ints0 {neg : Bool} {a b : Addr} {ns : List Int} {G : HD} {Q : D → HD → Prop} (ha : G a = some (.lst (ns.map D.int))) (hb : G b = some (.lst [])) (q : Q (.bl (if neg then !decide (ns = []) else decide (ns = []))) G) : REqB neg (.ref a) (.ref b) G Q := by
  refine req_lst (xs := ns.map Pl.int) (ys := []) (by rw [pl_ints]; exact .inl ha) (.inl hb) (by rw [List.all_map]; exact List.all_eq_true.mpr fun _ _ => rfl) rfl (by rw [List.all_map]; exact List.all_eq_true.mpr fun _ _ => rfl) rfl ?_
  have e : decide (ns.map Pl.int = []) = decide (ns = []) := by simp
  rw [e]; exact q
theorem req_strs {neg : Bool} {a b : Addr} {ns ms : List Str} {G : HD} {Q : D → HD → Prop} (ha : G a = some (.lst (ns.map D.str))) (hb : G b = some (.lst (ms.map D.str))) (hn : ns.all PyData.strOk = true) (hm : ms.all PyData.strOk = true) (q : Q (.bl (if neg then !decide (ns = ms) else decide (ns = ms))) G) : REqB neg (.ref a) (.ref b) G Q := by
  refine req_lst (xs := ns.map Pl.str) (ys := ms.map Pl.str) (by rw [pl_strs]; exact .inl ha) (by rw [pl_strs]; exact .inl hb) (by rw [List.all_map]; exact hn) (by rw [List.all_map]; exact hm) (by rw [List.all_map]; exact List.all_eq_true.mpr fun _ _ => rfl) (by rw [List.all_map]; exact List.all_eq_true.mpr fun _ _ => rfl) ?_
  have e : decide (ns.map Pl.str = ms.map Pl.str) = decide (ns = ms) := by
    have : (ns.map Pl.str = ms.map Pl.str) ↔ ns = ms := ⟨fun h => List.map_inj_right (fun _ _ z => by cases z; rfl) |>.mp h, fun h => by rw [h]⟩
    simp [this]
  rw [e]; exact q
end Dd
set_option Elab.async false
set_option linter.all false
set_option maxRecDepth 100000
/-! D16: an expression that changes nothing and has the value d; cuts. -/
namespace Dd
open PySem PySem.Spec L2
open PyProof.Rows hiding St
section
variable {K : PySem.W.Frag} {B : Hp} {S : DS} {G : HD}
theorem rd_ev {te : TE} {Q : D → HD → Prop} (d : D) (h : RdE K B te S G fun d' G1 => d' = d ∧ G1 = G) (q : Q d G) : RdE K B te S G Q := h.imp fun d' G1 ⟨e1, e2⟩ => by rw [e1, e2]; exact q
theorem RdT.imp {tt : TT} {Q Q' : Bool → HD → Prop} (h : RdT K B tt S G Q) (k : ∀ b G', Q b G' → Q' b G') : RdT K B tt S G Q' :=
  fun σ H P bx rs rh c => h σ H P bx rs rh fun b H' G' x r q => c b H' G' x r (k b G' q)
theorem rd_tv {tt : TT} {Q : Bool → HD → Prop} (b : Bool) (h : RdT K B tt S G fun b' G1 => b' = b ∧ G1 = G) (q : Q b G) : RdT K B tt S G Q := h.imp fun b' G1 ⟨e1, e2⟩ => by rw [e1, e2]; exact q
/-- and, or, not of values that change nothing -/
theorem ev_and {ta tb : TE} {a b : Bool} (h1 : RdE K B ta S G fun d' G1 => d' = .bl a ∧ G1 = G) (h2 : a = true → RdE K B tb S G fun d' G1 => d' = .bl b ∧ G1 = G) : RdE K B (tAndV ta tb) S G fun d' G1 => d' = .bl (a && b) ∧ G1 = G :=
  rd_andV (rd_ev _ h1 ⟨a, rfl, by
    cases a with
    | true => exact iteT (rd_ev _ (h2 rfl) ⟨rfl, rfl⟩)
    | false => exact iteF ⟨rfl, rfl⟩⟩)
theorem ev_or {ta tb : TE} {a b : Bool} (h1 : RdE K B ta S G fun d' G1 => d' = .bl a ∧ G1 = G) (h2 : a = false → RdE K B tb S G fun d' G1 => d' = .bl b ∧ G1 = G) : RdE K B (tOrV ta tb) S G fun d' G1 => d' = .bl (a || b) ∧ G1 = G :=
  rd_orV (rd_ev _ h1 ⟨a, rfl, by
    cases a with
    | true => exact iteT ⟨rfl, rfl⟩
    | false => exact iteF (rd_ev _ (h2 rfl) ⟨rfl, rfl⟩)⟩)
theorem ev_notV {ta : TE} {a : Bool} (h1 : RdE K B ta S G fun d' G1 => d' = .bl a ∧ G1 = G) : RdE K B (tNotV ta) S G fun d' G1 => d' = .bl (!a) ∧ G1 = G := rd_notV (rd_ev _ h1 ⟨a, rfl, rfl, rfl⟩)
theorem tv_and {ta tb : TT} {a b : Bool} (h1 : RdT K B ta S G fun d' G1 => d' = a ∧ G1 = G) (h2 : a = true → RdT K B tb S G fun d' G1 => d' = b ∧ G1 = G) : RdT K B (tAnd ta tb) S G fun d' G1 => d' = (a && b) ∧ G1 = G :=
  rd_and (rd_tv _ h1 (by
    cases a with
    | true => exact iteT (rd_tv _ (h2 rfl) ⟨rfl, rfl⟩)
    | false => exact iteF ⟨rfl, rfl⟩))
theorem tv_or {ta tb : TT} {a b : Bool} (h1 : RdT K B ta S G fun d' G1 => d' = a ∧ G1 = G) (h2 : a = false → RdT K B tb S G fun d' G1 => d' = b ∧ G1 = G) : RdT K B (tOr ta tb) S G fun d' G1 => d' = (a || b) ∧ G1 = G :=
  rd_or (rd_tv _ h1 (by
    cases a with
    | true => exact iteT ⟨rfl, rfl⟩
    | false => exact iteF (rd_tv _ (h2 rfl) ⟨rfl, rfl⟩)))
theorem tv_not {ta : TT} {a : Bool} (h1 : RdT K B ta S G fun d' G1 => d' = a ∧ G1 = G) : RdT K B (tNot ta) S G fun d' G1 => d' = (!a) ∧ G1 = G := rd_not (rd_tv _ h1 ⟨rfl, rfl⟩)
theorem tv_test {te : TE} {a : Bool} (h : RdE K B te S G fun d' G1 => d' = .bl a ∧ G1 = G) : RdT K B (tTest te) S G fun d' G1 => d' = a ∧ G1 = G := rd_test (rd_ev _ h ⟨a, rfl, rfl, rfl⟩)
theorem tv_tB {te : TE} {a : Bool} (h : RdE K B te S G fun d' G1 => d' = .bl a ∧ G1 = G) : RdT K B (tB te) S G fun d' G1 => d' = a ∧ G1 = G := tv_test h
/-- x op y, both changing nothing -/
theorem ev_op {R : R2D} {ta tb : TE} {x y z : D} (h1 : RdE K B ta S G fun d' G1 => d' = x ∧ G1 = G) (h2 : RdE K B tb S G fun d' G1 => d' = y ∧ G1 = G) (h : R x y G fun d' G1 => d' = z ∧ G1 = G) : RdE K B (tOp (lf2 K R) ta tb) S G fun d' G1 => d' = z ∧ G1 = G :=
  rd_op (rd_ev _ h1 (rd_ev _ h2 h))
theorem ev_var {i : Nat} {d : D} (e : S[i]? = some (some d)) : RdE K B (tVar i) S G fun d' G1 => d' = d ∧ G1 = G := rd_var e ⟨rfl, rfl⟩
theorem ev_int {i : Int} : RdE K B (tC (.int i)) S G fun d' G1 => d' = .int i ∧ G1 = G := rd_int ⟨rfl, rfl⟩
theorem ev_str {i : Str} : RdE K B (tC (.str i)) S G fun d' G1 => d' = .str i ∧ G1 = G := rd_str ⟨rfl, rfl⟩
theorem ev_non : RdE K B (tC .non) S G fun d' G1 => d' = .non ∧ G1 = G := rd_non ⟨rfl, rfl⟩
theorem ev_bl {b : Bool} : RdE K B (tC (.bl b)) S G fun d' G1 => d' = .bl b ∧ G1 = G := rd_bl ⟨rfl, rfl⟩
theorem ev_if {t : TT} {ta tb : TE} {c : Bool} {d : D} (hc : RdT K B t S G fun b G1 => b = c ∧ G1 = G) (h1 : c = true → RdE K B ta S G fun d' G1 => d' = d ∧ G1 = G) (h2 : c = false → RdE K B tb S G fun d' G1 => d' = d ∧ G1 = G) : RdE K B (tIf t ta tb) S G fun d' G1 => d' = d ∧ G1 = G :=
  rd_if (rd_tv _ hc (by
    cases c with
    | true => exact iteT (h1 rfl)
    | false => exact iteF (h2 rfl)))
/-- what a statement leaves, told -/
theorem RdS.imp {ts : TS} {DD DD' : DEnds} (h : RdS K B ts S G DD) (k : ∀ S' G', DD.nx S' G' → DD'.nx S' G') (k1 : DD.rt = DD'.rt) (k2 : DD.bk = DD'.bk) (k3 : DD.ct = DD'.ct) : RdS K B ts S G DD' := fun σ H D bx rs rh e =>
  h σ H D bx rs rh ⟨fun σ' H' S' G' x r1 r2 q => e.nx σ' H' S' G' x r1 r2 (k _ _ q), by rw [k1]; exact e.rt, by rw [k2]; exact e.bk, by rw [k3]; exact e.ct⟩
theorem rd_cut {t u : TS} {DD : DEnds} (M : DS → HD → Prop) (h : RdS K B t S G { DD with nx := M }) (h2 : ∀ S' G', M S' G' → RdS K B u S' G' DD) : RdS K B (tSeq t u) S G DD :=
  rd_seq (h.imp (fun S' G' m => h2 S' G' m) rfl rfl rfl)
/-- an if by its test's value -/
theorem rd_ifv {t : TT} {u v : TS} {DD : DEnds} (b : Bool) (h : RdT K B t S G fun b' G1 => b' = b ∧ G1 = G) (h1 : b = true → RdS K B u S G DD) (h2 : b = false → RdS K B v S G DD) : RdS K B (tIfS t u v) S G DD :=
  rd_ifS (rd_tv _ h (by
    cases b with
    | true => exact iteT (h1 rfl)
    | false => exact iteF (h2 rfl)))
theorem ev_fld {to : TE} {f : Str} {a C : Addr} {fs : List (Str × D)} {d : D} (h : RdE K B to S G fun d' G1 => d' = .ref a ∧ G1 = G) (g : G a = some (.ins C fs)) (c : Cls K C) (n : NoAttr K C f) (l : fs.lookup f = some d) : RdE K B (tFld K to f) S G fun d' G1 => d' = d ∧ G1 = G :=
  rd_fld (rd_ev _ h ⟨a, C, fs, d, rfl, g, c, n, l, rfl, rfl⟩)
/-- texts compared; a text within a text -/
theorem req_str {neg : Bool} {a b : Str} {c : Bool} (e : decide (a = b) = c) : REqB neg (.str a) (.str b) G fun d' G1 => d' = .bl (if neg then !c else c) ∧ G1 = G := by
  subst e; exact ⟨rfl, rfl⟩
theorem req_int {neg : Bool} {a b : Int} {c : Bool} (e : decide (a = b) = c) : REqB neg (.int a) (.int b) G fun d' G1 => d' = .bl (if neg then !c else c) ∧ G1 = G := by
  subst e; exact ⟨rfl, rfl⟩
theorem rin_str {neg : Bool} {a z : Str} {c : Bool} (e : subStr a z = c) : RInB neg (.str a) (.str z) G fun d' G1 => d' = .bl (bneg neg c) ∧ G1 = G := by
  subst e; exact ⟨_, rfl, rfl, rfl⟩
end
end Dd
set_option Elab.async false
set_option linter.all false
set_option maxRecDepth 100000
/-! L0: the text by places, the scopes of its defs, what its names are. -/
namespace Dd
open PySem PySem.Spec L2
open PyProof.Rows hiding St
def top (i : Nat) : Stmt := PySem.Challenge.pw_glancelogs_k65_texts_of_logs.main.body.getD i (.Pass ⟨0, 0, 0, 0⟩)
abbrev s_BadLog_init : Stmt := inClass (top 2) 0
abbrev N_BadLog_init : List Str := ["self", "at"]
theorem S_BadLog_init : FnScope N_BadLog_init ["self", "at"] (defScope s_BadLog_init) := ⟨rfl, rfl, rfl, by decide +kernel, rfl, by decide +kernel, by decide +kernel⟩
abbrev s_BadK_init : Stmt := inClass (top 3) 0
abbrev N_BadK_init : List Str := ["self", "value"]
theorem S_BadK_init : FnScope N_BadK_init ["self", "value"] (defScope s_BadK_init) := ⟨rfl, rfl, rfl, by decide +kernel, rfl, by decide +kernel, by decide +kernel⟩
abbrev s_BadNames_init : Stmt := inClass (top 4) 0
abbrev N_BadNames_init : List Str := ["self", "at"]
theorem S_BadNames_init : FnScope N_BadNames_init ["self", "at"] (defScope s_BadNames_init) := ⟨rfl, rfl, rfl, by decide +kernel, rfl, by decide +kernel, by decide +kernel⟩
abbrev s_BadNumber_init : Stmt := inClass (top 5) 0
abbrev N_BadNumber_init : List Str := ["self", "value"]
theorem S_BadNumber_init : FnScope N_BadNumber_init ["self", "value"] (defScope s_BadNumber_init) := ⟨rfl, rfl, rfl, by decide +kernel, rfl, by decide +kernel, by decide +kernel⟩
abbrev s_TooMany_init : Stmt := inClass (top 6) 0
abbrev N_TooMany_init : List Str := ["self", "limit"]
theorem S_TooMany_init : FnScope N_TooMany_init ["self", "limit"] (defScope s_TooMany_init) := ⟨rfl, rfl, rfl, by decide +kernel, rfl, by decide +kernel, by decide +kernel⟩
abbrev s_BadText_init : Stmt := inClass (top 7) 0
abbrev N_BadText_init : List Str := ["self", "at"]
theorem S_BadText_init : FnScope N_BadText_init ["self", "at"] (defScope s_BadText_init) := ⟨rfl, rfl, rfl, by decide +kernel, rfl, by decide +kernel, by decide +kernel⟩
abbrev s_is_name : Stmt := top 11
abbrev N_is_name : List Str := ["value", "letter"]
theorem S_is_name : FnScope N_is_name ["value"] (defScope s_is_name) := ⟨rfl, rfl, rfl, by decide +kernel, rfl, by decide +kernel, by decide +kernel⟩
abbrev s_first_wrong : Stmt := top 12
abbrev N_first_wrong : List Str := ["items", "at", "item"]
theorem S_first_wrong : FnScope N_first_wrong ["items"] (defScope s_first_wrong) := ⟨rfl, rfl, rfl, by decide +kernel, rfl, by decide +kernel, by decide +kernel⟩
abbrev s_need_log : Stmt := top 13
abbrev N_need_log : List Str := ["log", "at"]
theorem S_need_log : FnScope N_need_log ["log"] (defScope s_need_log) := ⟨rfl, rfl, rfl, by decide +kernel, rfl, by decide +kernel, by decide +kernel⟩
abbrev s_log_text : Stmt := top 19
abbrev N_log_text : List Str := ["log"]
theorem S_log_text : FnScope N_log_text ["log"] (defScope s_log_text) := ⟨rfl, rfl, rfl, by decide +kernel, rfl, by decide +kernel, by decide +kernel⟩
abbrev s_Reader_init : Stmt := inClass (top 20) 0
abbrev N_Reader_init : List Str := ["self"]
theorem S_Reader_init : FnScope N_Reader_init ["self"] (defScope s_Reader_init) := ⟨rfl, rfl, rfl, by decide +kernel, rfl, by decide +kernel, by decide +kernel⟩
abbrev s_Reader_put : Stmt := inClass (top 20) 1
abbrev N_Reader_put : List Str := ["self", "events"]
theorem S_Reader_put : FnScope N_Reader_put ["self", "events"] (defScope s_Reader_put) := ⟨rfl, rfl, rfl, by decide +kernel, rfl, by decide +kernel, by decide +kernel⟩
abbrev s_Reader_end_item : Stmt := inClass (top 20) 2
abbrev N_Reader_end_item : List Str := ["self"]
theorem S_Reader_end_item : FnScope N_Reader_end_item ["self"] (defScope s_Reader_end_item) := ⟨rfl, rfl, rfl, by decide +kernel, rfl, by decide +kernel, by decide +kernel⟩
abbrev s_Reader_take_begin : Stmt := inClass (top 20) 3
abbrev N_Reader_take_begin : List Str := ["self", "sign", "is_figure"]
theorem S_Reader_take_begin : FnScope N_Reader_take_begin ["self", "sign"] (defScope s_Reader_take_begin) := ⟨rfl, rfl, rfl, by decide +kernel, rfl, by decide +kernel, by decide +kernel⟩
abbrev s_Reader_take_number : Stmt := inClass (top 20) 4
abbrev N_Reader_take_number : List Str := ["self", "sign"]
theorem S_Reader_take_number : FnScope N_Reader_take_number ["self", "sign"] (defScope s_Reader_take_number) := ⟨rfl, rfl, rfl, by decide +kernel, rfl, by decide +kernel, by decide +kernel⟩
abbrev s_Reader_take_star : Stmt := inClass (top 20) 5
abbrev N_Reader_take_star : List Str := ["self", "sign"]
theorem S_Reader_take_star : FnScope N_Reader_take_star ["self", "sign"] (defScope s_Reader_take_star) := ⟨rfl, rfl, rfl, by decide +kernel, rfl, by decide +kernel, by decide +kernel⟩
abbrev s_Reader_take_end : Stmt := inClass (top 20) 6
abbrev N_Reader_take_end : List Str := ["self", "sign", "events", "times"]
theorem S_Reader_take_end : FnScope N_Reader_take_end ["self", "sign"] (defScope s_Reader_take_end) := ⟨rfl, rfl, rfl, by decide +kernel, rfl, by decide +kernel, by decide +kernel⟩
abbrev s_Reader_take : Stmt := inClass (top 20) 7
abbrev N_Reader_take : List Str := ["self", "sign"]
theorem S_Reader_take : FnScope N_Reader_take ["self", "sign"] (defScope s_Reader_take) := ⟨rfl, rfl, rfl, by decide +kernel, rfl, by decide +kernel, by decide +kernel⟩
abbrev s_Reader_can_end : Stmt := inClass (top 20) 8
abbrev N_Reader_can_end : List Str := ["self"]
theorem S_Reader_can_end : FnScope N_Reader_can_end ["self"] (defScope s_Reader_can_end) := ⟨rfl, rfl, rfl, by decide +kernel, rfl, by decide +kernel, by decide +kernel⟩
abbrev s_read_log : Stmt := top 21
abbrev N_read_log : List Str := ["text", "reader", "at", "sign"]
theorem S_read_log : FnScope N_read_log ["text"] (defScope s_read_log) := ⟨rfl, rfl, rfl, by decide +kernel, rfl, by decide +kernel, by decide +kernel⟩
abbrev s_law_begun : Stmt := top 23
abbrev N_law_begun : List Str := ["_law_script", "_law_cells", "_law_cell"]
theorem S_law_begun : FnScope N_law_begun ["_law_script"] (defScope s_law_begun) := ⟨rfl, rfl, rfl, by decide +kernel, rfl, by decide +kernel, by decide +kernel⟩
abbrev s_law_take : Stmt := top 24
abbrev N_law_take : List Str := ["_law_draw", "_law_many", "_law_mixed", "_law_cell", "_law_turn", "_law_found"]
theorem S_law_take : FnScope N_law_take ["_law_draw", "_law_many"] (defScope s_law_take) := ⟨rfl, rfl, rfl, by decide +kernel, rfl, by decide +kernel, by decide +kernel⟩
abbrev s_law_pick : Stmt := top 25
abbrev N_law_pick : List Str := ["_law_draw", "_law_some"]
theorem S_law_pick : FnScope N_law_pick ["_law_draw", "_law_some"] (defScope s_law_pick) := ⟨rfl, rfl, rfl, by decide +kernel, rfl, by decide +kernel, by decide +kernel⟩
abbrev s_law_names : Stmt := top 26
abbrev N_law_names : List Str := ["_law_draw", "_law_many", "_law_letters", "_law_found", "_law_k", "_law_size", "_law_name", "_law_sign", "_law_one", "_law_letter"]
theorem S_law_names : FnScope N_law_names ["_law_draw", "_law_many"] (defScope s_law_names) := ⟨rfl, rfl, rfl, by decide +kernel, rfl, by decide +kernel, by decide +kernel⟩
abbrev s_law_log : Stmt := top 27
abbrev N_law_log : List Str := ["_law_draw", "_law_names_here", "_law_most", "_law_found", "_law_many", "_law_begin"]
theorem S_law_log : FnScope N_law_log ["_law_draw", "_law_names_here", "_law_most"] (defScope s_law_log) := ⟨rfl, rfl, rfl, by decide +kernel, rfl, by decide +kernel, by decide +kernel⟩
abbrev s_law_caught : Stmt := top 28
abbrev N_law_caught : List Str := ["_law_act", "_law_caught_here", "_law_error"]
theorem S_law_caught : FnScope N_law_caught ["_law_act"] (defScope s_law_caught) := ⟨rfl, rfl, rfl, by decide +kernel, rfl, by decide +kernel, by decide +kernel⟩
abbrev s_law_first_odd : Stmt := top 29
abbrev N_law_first_odd : List Str := ["_law_thing", "_law_at", "_law_item", "_law_sign"]
theorem S_law_first_odd : FnScope N_law_first_odd ["_law_thing"] (defScope s_law_first_odd) := ⟨rfl, rfl, rfl, by decide +kernel, rfl, by decide +kernel, by decide +kernel⟩
abbrev s_law_odd_item : Stmt := top 30
abbrev N_law_odd_item : List Str := ["_law_draw", "_law_some"]
theorem S_law_odd_item : FnScope N_law_odd_item ["_law_draw"] (defScope s_law_odd_item) := ⟨rfl, rfl, rfl, by decide +kernel, rfl, by decide +kernel, by decide +kernel⟩
abbrev s_law_odd_log : Stmt := top 31
abbrev N_law_odd_log : List Str := ["_law_draw", "_law_names_here", "_law_found", "_law_way", "_law_at"]
theorem S_law_odd_log : FnScope N_law_odd_log ["_law_draw", "_law_names_here"] (defScope s_law_odd_log) := ⟨rfl, rfl, rfl, by decide +kernel, rfl, by decide +kernel, by decide +kernel⟩
abbrev s_law_log_due : Stmt := top 32
abbrev N_law_log_due : List Str := ["_law_thing", "_law_at"]
theorem S_law_log_due : FnScope N_law_log_due ["_law_thing"] (defScope s_law_log_due) := ⟨rfl, rfl, rfl, by decide +kernel, rfl, by decide +kernel, by decide +kernel⟩
abbrev s_law_told_error : Stmt := top 33
abbrev N_law_told_error : List Str := ["_law_error"]
theorem S_law_told_error : FnScope N_law_told_error ["_law_error"] (defScope s_law_told_error) := ⟨rfl, rfl, rfl, by decide +kernel, rfl, by decide +kernel, by decide +kernel⟩
abbrev s_law_items : Stmt := top 34
abbrev N_law_items : List Str := ["_law_draw", "_law_names_here", "_law_deep", "_law_texts", "_law_events", "_law_turn", "_law_text", "_law_inner", "_law_times", "_law_name"]
theorem S_law_items : FnScope N_law_items ["_law_draw", "_law_names_here", "_law_deep"] (defScope s_law_items) := ⟨rfl, rfl, rfl, by decide +kernel, rfl, by decide +kernel, by decide +kernel⟩
abbrev s_law : Stmt := top 35
abbrev N_law : List Str := ["_law_script", "_law_draw", "_law_turn", "_law_names_here", "_law_log_here", "_law_text", "_law_events", "_law_error", "_law_odd"]
theorem S_law : FnScope N_law ["_law_script"] (defScope s_law) := ⟨rfl, rfl, rfl, by decide +kernel, rfl, by decide +kernel, by decide +kernel⟩
/-- what the names of the text are -/
structure TX (mg : Str → Option Value) : Prop where
  g_DEEPEST : ∃ u, mg "DEEPEST" = some u ∧ RelV (.int 6) u
  g_FIGURES : ∃ u, mg "FIGURES" = some u ∧ RelV (.str "0123456789") u
  g_LETTERS : ∃ u, mg "LETTERS" = some u ∧ RelV (.str "abcdefghijklmnopqrstuvwxyz") u
  g_LONGEST_NAME : ∃ u, mg "LONGEST_NAME" = some u ∧ RelV (.int 6) u
  g_MOST_EVENTS : ∃ u, mg "MOST_EVENTS" = some u ∧ RelV (.int 200) u
  g_MOST_TIMES : ∃ u, mg "MOST_TIMES" = some u ∧ RelV (.int 200) u
  m_ValueError : mg "ValueError" = none
  m_abs : mg "abs" = none
  m_all : mg "all" = none
  m_enumerate : mg "enumerate" = none
  m_int : mg "int" = none
  m_isinstance : mg "isinstance" = none
  m_len : mg "len" = none
  m_list : mg "list" = none
  m_min : mg "min" = none
  m_range : mg "range" = none
  m_repr : mg "repr" = none
  m_str : mg "str" = none
  m_tuple : mg "tuple" = none
end Dd
set_option Elab.async false
set_option linter.all false
set_option maxRecDepth 100000
/-! L1: is_name, first_wrong, need_log, log_text. -/
namespace Dd
open PySem PySem.Spec L2
open PyProof.Rows hiding St
section
variable {P : Program} {w : World} {K : PySem.W.Frag} {mg : Str → Option Value} {base : Heap} {f : Addr} {fd : FuncData}
def letters : Str := "abcdefghijklmnopqrstuvwxyz"
def inLetters : D → Bool
  | .str x => subStr x letters
  | _ => false
def isName : D → Bool
  | .str z => decide (1 ≤ (z.length : Int)) && (decide ((z.length : Int) ≤ 6) && (signs z).all inLetters)
  | _ => false
def isStr : D → Bool
  | .str _ => true
  | _ => false
theorem Ty7.isStr {G : HD} {d : D} {n : String} (h : Ty7 K G d n) : isTy n "str" = isStr d := by
  obtain ⟨t, _⟩ := h
  cases t <;> rfl
def spIsName (K : PySem.W.Frag) : SpD := fun ds G QD _ => ∃ d n, ds = [d] ∧ Ty7 K G d n ∧ (∀ z, d = .str z → z.length ≤ sizeLine) ∧ QD (.bl (isName d)) G
theorem ok_is_name (F : Fun K "is_name" "is_name" s_is_name f fd) (T : TX mg) : FnG P w K mg base 2 f fd ["value"] (spOf K (spIsName K)) := by
  have S := S_is_name
  refine okG F S (fun ds G Q E ⟨d, n, e, _⟩ => by rw [e]; rfl) fun cdv A outer s H E hr tk => ?_
  refine ⟨_, (pss_cons (ps_if (PW.pt (pw_or (pt_not (pt_val (pe_callB (k_crd_isi (K := K) rfl) rfl T.m_isinstance (by rfl) (pa_cons (pv 0) (pa_cons (pe_bltn (v := .ty "str") rfl T.m_str rfl rfl) pa_nil))))) (pw_or1 (pt_not (pt_chain (k_opd_le (K := K) rfl) (k_opd_le (K := K) rfl) pe_int (pe_callB (k_crd_len (K := K) rfl) rfl T.m_len (by rfl) (pa_cons (pv 0) pa_nil)) (C8.pe_gc rfl T.g_LONGEST_NAME)))))) (pss_one (ps_ret pe_bl)) pss_nil)
  (pss_one (ps_ret (pe_callB (k_crd_all (K := K) rfl rfl) rfl T.m_all (by rfl) (pa_cons (pe_lc rfl S.nd (k_seq (K := K) rfl (pv 0)) (own := [("letter", 1)]) (blkOk_by (by rfl)) (fun _ _ _ _ _ => (pg_name (i := 1) S.nd rfl (Or.inl rfl))) (fun _ _ _ _ _ => pts_nil) (fun _ _ _ _ _ => (pe_cmpR (k_opd_in (K := K) rfl (room_hu1 hr)) (pv 1) (C8.pe_gc rfl T.g_LETTERS) (by rfl)))) pa_nil))))), ?_⟩
  rintro ds G QD ED ⟨d, n, rfl, ty, hz, q⟩ hw
  refine rd_seq (rd_ifS (rd_or (rd_not (rd_tB (rd_cb (rd_cons (rd_var rfl (rd_cons (rd_ty (rd_nil ?_)))))))))) 
  refine ty.one (by decide) ⟨_, rfl, ?_⟩
  rw [ty.isStr]
  by_cases hd : ∃ z, d = .str z
  · obtain ⟨z, rfl⟩ := hd
    refine iteF (rd_not (rd_test (rd_chain (rd_int (rd_cb (rd_cons (rd_var rfl (rd_nil ⟨_, rfl, hz z rfl, ?_⟩))))))))
    have rest : ((decide (1 ≤ (z.length : Int)) && decide ((z.length : Int) ≤ 6)) = true) → RdS K H (tRet (tCB (lfL K RAll) (tCons (tLc (iSeq K (tVar 0)) (gName 1) tYes (tOp (lf2 K RIn) (tVar 1) (tC (V.str (Str.ofString "abcdefghijklmnopqrstuvwxyz")))) (List.map (fun x => x.snd) [(Str.ofString "letter", 1)])) tNil))) (startD N_is_name [.str z]) G { nx := fun x G' => Wk QD D.non G', rt := Wk QD } := fun hl => by
      have q' : QD (.bl ((signs z).all inLetters)) G := by
        have e : isName (.str z) = (signs z).all inLetters := by
          show (_ && (_ && _)) = _
          rw [← Bool.and_assoc, hl, Bool.true_and]
        rw [← e]; exact q
      refine rd_ret (rd_cb (rd_cons (rd_lcm (own_name (by simp)) (rd_iseq (rd_var rfl ⟨signs z, _, .str, ?_⟩)))))
      refine ⟨fun _ _ => trivial, by rw [signs_len]; exact hz z rfl, fun _ => true, fun d => .bl (inLetters d), fun d hd G' s1 => ?_, fun p hp => ?_⟩
      · obtain ⟨c, _, rfl⟩ := List.mem_map.mp hd
        exact rd_gname (rd_yes ⟨Sub.refl _, rfl, fun _ => rd_op (rd_var rfl (rd_str ⟨_, rfl, Sub.refl _, rfl⟩))⟩)
      · refine rd_nil ⟨p, (signs z).map inLetters, rfl, ?_, _, Sub.put hp, ?_⟩
        · rw [put_same, List.filter_eq_self.mpr (fun _ _ => rfl), List.map_map]; rfl
        · rw [List.all_map]; exact q'
    refine ⟨_, rfl, ite2 (fun h1 => rd_int ⟨_, rfl, ?_⟩) (fun h1 => ⟨_, rfl, ?_⟩)⟩
    · refine ite2 (fun h2 => rd_ret (rd_bl ⟨_, Sub.refl _, ?_⟩)) (fun h2 => rd_next (rest ?_))
      · have e : isName (.str z) = false := by
          show (_ && (_ && _)) = false
          simp only [Bool.not_eq_true', decide_eq_false_iff_not] at h2
          simp [h2]
        rw [← e]; exact q
      · simp only [Bool.not_eq_true', decide_eq_false_iff_not, Decidable.not_not] at h2
        simp only [decide_eq_true_eq] at h1
        simp [h1, h2]
    · refine iteT (rd_ret (rd_bl ⟨_, Sub.refl _, ?_⟩))
      have e : isName (.str z) = false := by
        show (_ && (_ && _)) = false
        simp only [decide_eq_true_eq] at h1
        simp [h1]
      rw [← e]; exact q
  · have e : isName d = false := by cases d <;> first | rfl | exact absurd ⟨_, rfl⟩ hd
    rw [e] at q
    have e2 : isStr d = false := by cases d <;> first | rfl | exact absurd ⟨_, rfl⟩ hd
    rw [e2]
    exact iteT (iteT (rd_ret (rd_bl ⟨_, Sub.refl _, q⟩)))
theorem Walks.sd {d : D} {G : HD} {xs : List D} {Sd : HD → Prop} (h : Walks d G xs Sd) : Sd G := by
  cases h with
  | lst e => exact e
  | lck e => exact e
  | tup => trivial
  | str => trivial
/-- items whose types are plain, whose texts are short -/
def PlainD (K : PySem.W.Frag) (G : HD) (d : D) : Prop := (∃ n, Ty7 K G d n) ∧ ∀ z, d = .str z → z.length ≤ sizeLine
def firstWrong (xs : List D) : D := match xs.findIdx? (fun x => !isName x) with
  | some i => .int (i : Nat)
  | none => .non
theorem firstWrong_at {xs : List D} {i : Nat} {e : D} (h : xs[i]? = some e) (hi : isName e = false) (h2 : ∀ x ∈ xs.take i, isName x = true) : firstWrong xs = .int (i : Nat) := by
  have : xs.findIdx? (fun x => !isName x) = some i := by
    rw [List.findIdx?_eq_some_iff_getElem]
    obtain ⟨hl, rfl⟩ := List.getElem?_eq_some_iff.mp h
    refine ⟨hl, by simp [hi], fun j hj => ?_⟩
    have := h2 xs[j] (List.mem_take_iff_getElem.mpr ⟨j, by omega, rfl⟩)
    simp [this]
  unfold firstWrong
  rw [this]
theorem firstWrong_no {xs : List D} (h2 : ∀ x ∈ xs, isName x = true) : firstWrong xs = .non := by
  have : xs.findIdx? (fun x => !isName x) = none := by
    rw [List.findIdx?_eq_none_iff]
    intro x hx
    simp [h2 x hx]
  unfold firstWrong
  rw [this]
theorem take_more {α : Type} {p : α → Prop} {xs : List α} {i : Nat} {e : α} (h : xs[i]? = some e) (he : p e) (h2 : ∀ x ∈ xs.take i, p x) : ∀ x ∈ xs.take (i + 1), p x := by
  intro x hx
  rw [List.take_add_one, h] at hx
  rcases List.mem_append.mp hx with z | z
  · exact h2 x z
  · have : x = e := by simpa using z
    rw [this]; exact he
def spFirstWrong (K : PySem.W.Frag) : SpD := fun ds G QD _ => ∃ d xs Sd, ds = [d] ∧ Walks d G xs Sd ∧ (∀ x ∈ xs, PlainD K G x) ∧ QD (firstWrong xs) G
theorem ok_first_wrong (F : Fun K "first_wrong" "first_wrong" s_first_wrong f fd) (T : TX mg) (C_is_name : CalG P w K mg base 2 "is_name" ["value"] (spIsName K)) : FnG P w K mg base 3 f fd ["items"] (spOf K (spFirstWrong K)) := by
  have S := S_first_wrong
  refine okG F S (fun ds G Q E ⟨d, n, _, e, _⟩ => by rw [e]; rfl) fun cdv A outer s H E hr tk => ?_
  refine ⟨_, (pss_cons (ps_for PassesOwn.leaving rfl (k_enum (K := K) rfl rfl T.m_enumerate (pa_cons (pv 0) pa_nil)) (k_tup (K := K) rfl rfl (pgs_cons (pg_name (i := 1) S.nd rfl (Or.inl rfl)) (pgs_cons (pg_name (i := 2) S.nd rfl (Or.inl rfl)) pgs_nil))) (pss_one (ps_if (pt_not (pt_val (k_c C_is_name rfl rfl rfl rfl rfl hr (by decide) rfl tk (pa_cons (pv 2) pa_nil)))) (pss_one (ps_ret (pv 1))) pss_nil)))
  (pss_one (ps_ret pe_non))), ?_⟩
  rintro ds G QD ED ⟨d, xs, Sd, rfl, hw, hp, q⟩ hW
  refine rd_seq (rd_for (rd_enum (rd_cons (rd_var rfl (rd_nil ⟨d, xs, Sd, rfl, hw, ?_⟩)))))
  refine ⟨fun i S' G' => G' = G ∧ (∃ a b, S' = [some d, a, b]) ∧ ∀ x ∈ xs.take i, isName x = true, ⟨rfl, ⟨none, none, rfl⟩, by simp⟩, fun i S' G' _ h => h.1 ▸ hw.sd, ?_, ?_⟩
  · rintro i d' S' G' hd ⟨rfl, ⟨a, b, rfl⟩, hn⟩
    obtain ⟨e, he, rfl⟩ := pairs_of hd
    have hpe := hp e (List.mem_of_getElem? he)
    obtain ⟨⟨n, ty⟩, hz⟩ := hpe
    refine rd_gtup rfl (rd_gcons (rd_gname (rd_gcons (rd_gname (rd_gnil ?_)))))
    refine rd_ifS (rd_not (rd_tB (rd_c hW (rd_cons (rd_var rfl (rd_nil ⟨e, n, rfl, ty, hz, _, rfl, ?_⟩))))))
    cases hN : isName e with
    | true => exact iteF (rd_next ⟨rfl, ⟨_, _, rfl⟩, take_more he hN hn⟩)
    | false => exact iteT (rd_ret (rd_var rfl ⟨_, Sub.refl _, by rw [firstWrong_at he hN hn] at q; exact q⟩))
  · rintro S' G' ⟨rfl, ⟨a, b, rfl⟩, hn⟩
    rw [pairs_len, List.take_length] at hn
    exact rd_ret (rd_non ⟨_, Sub.refl _, by rw [firstWrong_no hn] at q; exact q⟩)
/-- a log's look: None where it is one -/
def isSeq (d : D) (G : HD) : Option (List D) := match d with
  | .tup xs => some xs
  | .kt _ xs => some xs
  | .ref p => match G p with
    | some (.lst xs) => some xs
    | _ => none
  | _ => none
def spNeedLog (K : PySem.W.Frag) (CL : Addr) : SpD := fun ds G QD ED => ∃ d n, ds = [d] ∧ Ty7 K G d n ∧
  (((isTy n "list" || isTy n "tuple") = true ∧ ∃ xs Sd, Walks d G xs Sd ∧ (∀ x ∈ xs, PlainD K G x) ∧ (firstWrong xs = .non → QD .non G) ∧ (∀ i : Nat, firstWrong xs = .int i → ED CL [("at", .int i)] G)) ∨
   ((isTy n "list" || isTy n "tuple") = false ∧ ED CL [("at", .non)] G))
theorem firstWrong_or (xs : List D) : firstWrong xs = .non ∨ ∃ i : Nat, firstWrong xs = .int i := by
  unfold firstWrong
  split
  · exact .inr ⟨_, rfl⟩
  · exact .inl rfl
theorem ok_need_log {CL : Addr} (F : Fun K "need_log" "need_log" s_need_log f fd) (T : TX mg) (C_first_wrong : CalG P w K mg base 3 "first_wrong" ["items"] (spFirstWrong K)) (E_BadLog : ErrG P w K mg base "BadLog" CL "at") :
    FnG P w K mg base 4 f fd ["log"] (spOf K (spNeedLog K CL)) := by
  have S := S_need_log
  refine okG F S (fun ds G Q E ⟨d, n, e, _⟩ => by rw [e]; rfl) fun cdv A outer s H E hr tk => ?_
  refine ⟨_, (pss_cons (ps_if (pt_not (pt_val (pe_callB (k_crd_isi (K := K) rfl) rfl T.m_isinstance (by rfl) (pa_cons (pv 0) (pa_cons (pe_tup (pa_cons (pe_bltn (v := .ty "list") rfl T.m_list rfl rfl) (pa_cons (pe_bltn (v := .ty "tuple") rfl T.m_tuple rfl rfl) pa_nil))) pa_nil))))) (pss_one (ps_raise rfl tk (pmk_G E_BadLog hr (by decide) rfl (pa_cons pe_non pa_nil)))) pss_nil)
  (pss_cons (ps_set (i := 1) S.nd rfl (Or.inl rfl) (k_c C_first_wrong rfl rfl rfl rfl rfl hr (by decide) rfl tk (pa_cons (pv 0) pa_nil)))
  (pss_one (ps_if (pt_cmpR (k_opd_isnot (K := K) rfl) (pv 1) pe_non (nomark _)) (pss_one (ps_raise rfl tk (pmk_G E_BadLog hr (by decide) rfl (pa_cons (pv 1) pa_nil)))) pss_nil)))), ?_⟩
  rintro ds G QD ED ⟨d, n, rfl, ty, hc⟩ hW
  refine rd_seq (rd_ifS (rd_not (rd_tB (rd_cb (rd_cons (rd_var rfl (rd_cons (rd_tup (rd_cons (rd_ty (rd_cons (rd_ty (rd_nil ⟨by show 2 ≤ sizeLine; decide, ?_⟩)))))))))))))
  refine rd_nil (ty.two (by decide) (by decide) ⟨_, rfl, ?_⟩)
  rcases hc with ⟨hl, xs, Sd, hw, hp, hq, he⟩ | ⟨hl, he⟩
  · rw [hl]
    refine iteF (rd_next (rd_seq (rd_set (rd_c hW (rd_cons (rd_var rfl (rd_nil ⟨d, xs, Sd, rfl, hw, hp, ?_⟩)))))))
    refine rd_ifS (rd_test (rd_op (rd_var rfl (rd_non ?_))))
    rcases firstWrong_or xs with h | ⟨i, h⟩
    · rw [h]
      exact ⟨_, rfl, iteF (rd_next ⟨_, Sub.refl _, hq h⟩)⟩
    · rw [h]
      exact ⟨_, rfl, iteT (rd_raise hW (rd_cons (rd_var rfl (rd_nil ⟨_, rfl, _, Sub.refl _, he i h⟩))))⟩
  · rw [hl]
    exact iteT (rd_raise hW (rd_cons (rd_non (rd_nil ⟨_, rfl, _, Sub.refl _, he⟩))))
def strOf : D → Str
  | .str z => z
  | _ => ""
theorem isName_str {x : D} (h : isName x = true) : x = .str (strOf x) ∧ (strOf x).length ≤ 6 ∧ 1 ≤ (strOf x).length := by
  cases x <;> first | (cases h; done) | skip
  rename_i z
  refine ⟨rfl, ?_⟩
  have h : (decide (1 ≤ (z.length : Int)) && (decide ((z.length : Int) ≤ 6) && (signs z).all inLetters)) = true := h
  simp only [Bool.and_eq_true, decide_eq_true_eq] at h
  show z.length ≤ 6 ∧ 1 ≤ z.length
  omega
theorem names_strs : ∀ {xs : List D}, (∀ x ∈ xs, isName x = true) → xs = (xs.map strOf).map D.str
  | [], _ => rfl
  | x :: xs, h => by
    have h1 := (isName_str (h x List.mem_cons_self)).1
    have h2 := names_strs (xs := xs) fun y hy => h y (List.mem_cons_of_mem _ hy)
    rw [List.map_cons, List.map_cons, ← h1, ← h2]
theorem names_sum : ∀ {xs : List D}, (∀ x ∈ xs, isName x = true) → ((xs.map strOf).map (·.length)).sum ≤ 6 * xs.length
  | [], _ => by simp
  | x :: xs, h => by
    have h1 := (isName_str (h x List.mem_cons_self)).2.1
    have h2 := names_sum (xs := xs) fun y hy => h y (List.mem_cons_of_mem _ hy)
    simp only [List.map_cons, List.sum_cons, List.length_cons]
    omega
theorem firstWrong_all {xs : List D} (h : firstWrong xs = .non) : ∀ x ∈ xs, isName x = true := by
  unfold firstWrong at h
  split at h
  · cases h
  · rename_i e
    intro x hx
    have := (List.findIdx?_eq_none_iff.mp e) x hx
    simpa using this
def spLogText (K : PySem.W.Frag) (CL : Addr) : SpD := fun ds G QD ED => ∃ d n, ds = [d] ∧ Ty7 K G d n ∧
  (((isTy n "list" || isTy n "tuple") = true ∧ ∃ xs Sd, Walks d G xs Sd ∧ (∀ x ∈ xs, PlainD K G x) ∧ xs.length ≤ 2000000 ∧ (firstWrong xs = .non → QD (.str (Txt.join " " (xs.map strOf))) G) ∧ (∀ i : Nat, firstWrong xs = .int i → ED CL [("at", .int i)] G)) ∨
   ((isTy n "list" || isTy n "tuple") = false ∧ ED CL [("at", .non)] G))
theorem ok_log_text {CL : Addr} (F : Fun K "log_text" "log_text" s_log_text f fd) (T : TX mg) (C_need_log : CalG P w K mg base 4 "need_log" ["log"] (spNeedLog K CL)) :
    FnG P w K mg base 5 f fd ["log"] (spOf K (spLogText K CL)) := by
  have S := S_log_text
  refine okG F S (fun ds G Q E ⟨d, n, e, _⟩ => by rw [e]; rfl) fun cdv A outer s H E hr tk => ?_
  refine ⟨_, (pss_cons (ps_expr (k_c C_need_log rfl rfl rfl rfl rfl hr (by decide) rfl tk (pa_cons (pv 0) pa_nil)))
  (pss_one (ps_ret (k_bm (K := K) rfl PySem.F.plainAttrs_str PySem.F.slot_str_join PySem.F.type_str_join (k_mtd_join (K := K) rfl) pe_str (pa_cons (pv 0) pa_nil))))), ?_⟩
  rintro ds G QD ED ⟨d, n, rfl, ty, hc⟩ hW
  refine rd_seq (rd_drop (rd_c hW (rd_cons (rd_var rfl (rd_nil ⟨d, n, rfl, ty, ?_⟩)))))
  rcases hc with ⟨hl, xs, Sd, hw, hp, hz, hq, he⟩ | ⟨hl, he⟩
  · refine .inl ⟨hl, xs, Sd, hw, hp, fun h => ?_, fun i h => ⟨_, Sub.refl _, he i h⟩⟩
    have hn := firstWrong_all h
    refine rd_ret (rd_bms (rd_str ⟨_, rfl, rd_cons (rd_var rfl (rd_nil ⟨_, d, xs.map strOf, rfl, rfl, ?_, ?_, _, Sub.refl _, hq h⟩))⟩))
    · rw [← names_strs hn]
      cases hw with
      | lst e => exact .inl ⟨_, rfl, .inl e⟩
      | lck e => exact .inl ⟨_, rfl, .inr e⟩
      | tup => exact .inr rfl
      | str =>
        obtain ⟨t, _⟩ := ty
        cases t
        cases hl
    · have := names_sum hn
      rw [List.length_map]
      show _ + xs.length * 1 ≤ _
      omega
  · exact .inr ⟨hl, _, Sub.refl _, he⟩
end
end Dd
set_option Elab.async false
set_option linter.all false
set_option maxRecDepth 100000
/-! L2: the Reader: its mirror, its methods. -/
namespace Dd
open PySem PySem.Spec L2
open PyProof.Rows hiding St

/-! ### the mirror -/
abbrev SS (l : List Nat) : Str := ⟨l.toArray⟩
theorem SS_cat (a b : List Nat) : SS a ++ SS b = SS (a ++ b) := SX.S_cat a b
theorem SS_len (a : List Nat) : (SS a).length = a.length := SX.S_len a
structure RSt where
  form : Str
  word : List Nat
  stk : List (Int × List Str)
  cur : List Str
def figures : Str := "0123456789"
def isLet (c : Nat) : Bool := decide (c ∈ letters.cps.toList)
def isFig (c : Nat) : Bool := decide (c ∈ figures.cps.toList)
theorem sub_let (c : Nat) : subStr (SS [c]) letters = isLet c := StrLaws.found_one letters c
theorem sub_fig (c : Nat) : subStr (SS [c]) figures = isFig c := StrLaws.found_one figures c
def RSt.put (s : RSt) (ev : List Str) : RSt := { s with cur := (s.cur ++ ev).take 201 }
def RSt.endItem (s : RSt) : RSt := { (if s.form = "name" then s.put [SS s.word] else s) with word := [] }
def dv (w : List Nat) : Nat := NumText.digitsVal w
def RSt.takeBegin (c : Nat) (s : RSt) : Bool × RSt :=
  if (!isLet c && !(isFig c && (!decide (c = 48) && decide ((s.stk.length : Int) < 6)))) = true then (false, s) else (true, { s with form := if isLet c = true then "name" else "number", word := [c] })
def RSt.takeNumber (c : Nat) (s : RSt) : Bool × RSt :=
  if isFig c = true then (decide ((dv (s.word ++ [c]) : Int) ≤ 200), { s with word := s.word ++ [c] }) else (decide (c = 42) && decide ((1 : Int) < dv s.word), { s with form := "star" })
def RSt.takeStar (c : Nat) (s : RSt) : Bool × RSt := (decide (c = 40), ⟨"begin", [], s.stk ++ [((dv s.word : Int), s.cur)], []⟩)
def RSt.takeEnd (c : Nat) (s : RSt) : Bool × RSt :=
  let s1 := { s.endItem with form := "begin" }
  match s1.stk.getLast? with
  | some (n, below) => if c = 41 then (true, { ({ s1 with stk := s1.stk.dropLast, cur := below } : RSt).put (rep n s1.cur) with form := "closed" }) else (decide (c = 32), s1)
  | none => (decide (c = 32), s1)
def RSt.take (c : Nat) (s : RSt) : Bool × RSt :=
  if s.form = "begin" then s.takeBegin c else if s.form = "number" then s.takeNumber c else if s.form = "star" then s.takeStar c
  else if s.form = "name" ∧ isLet c = true then (decide ((s.word.length + 1 : Int) ≤ 6), { s with word := s.word ++ [c] }) else s.takeEnd c
def RSt.canEnd (s : RSt) : Bool := (decide (s.form = "name") || decide (s.form = "closed")) && decide (s.stk = [])
/-- what the machine keeps -/
structure RSt.Ok (s : RSt) : Prop where
  wl : s.word.length ≤ 100
  dig : s.form = "number" ∨ s.form = "star" → s.word ≠ [] ∧ s.word.all (fun c => decide (48 ≤ c) && decide (c ≤ 57)) = true
  cl : s.cur.length ≤ 201
  sl : ∀ x ∈ s.stk, x.2.length ≤ 201 ∧ 0 ≤ x.1 ∧ x.1 ≤ 10 ^ 4
  sn : s.stk.length ≤ 6
  s5 : s.form = "number" ∨ s.form = "star" → s.stk.length ≤ 5 ∧ dv s.word ≤ 200 ∧ s.word.length ≤ 3 ∧ 10 ^ (s.word.length - 1) ≤ dv s.word

/-! ### on the heap -/
def rflds (form word : Str) (po pl : Addr) : List (Str × D) := [("form", .str form), ("word", .str word), ("open_times", .ref po), ("lists", .ref pl)]
theorem rf_form {f w : Str} {po pl : Addr} : (rflds f w po pl).lookup ("form" : Str) = some (.str f) := rfl
theorem rf_word {f w : Str} {po pl : Addr} : (rflds f w po pl).lookup ("word" : Str) = some (.str w) := by
  simp [rflds, List.lookup, show (("word" : Str) == "form") = false from by decide +kernel]
theorem rf_open {f w : Str} {po pl : Addr} : (rflds f w po pl).lookup ("open_times" : Str) = some (.ref po) := by
  simp [rflds, List.lookup, show (("open_times" : Str) == "form") = false from by decide +kernel, show (("open_times" : Str) == "word") = false from by decide +kernel]
theorem rf_lists {f w : Str} {po pl : Addr} : (rflds f w po pl).lookup ("lists" : Str) = some (.ref pl) := by
  simp [rflds, List.lookup, show (("lists" : Str) == "form") = false from by decide +kernel, show (("lists" : Str) == "word") = false from by decide +kernel, show (("lists" : Str) == "open_times") = false from by decide +kernel]
theorem rf_pform {f w z : Str} {po pl : Addr} : putFD "form" (.str z) (rflds f w po pl) = rflds z w po pl := rfl
theorem rf_pword {f w z : Str} {po pl : Addr} : putFD "word" (.str z) (rflds f w po pl) = rflds f z po pl := by
  simp [rflds, putFD, show ¬ (("form" : Str) = "word") from by decide +kernel]
theorem rf_no {f w : Str} {po pl : Addr} {m : Str} (h1 : (m == ("form" : Str)) = false) (h2 : (m == ("word" : Str)) = false) (h3 : (m == ("open_times" : Str)) = false) (h4 : (m == ("lists" : Str)) = false) : (rflds f w po pl).lookup m = none := by
  simp [rflds, List.lookup, h1, h2, h3, h4]
/-- the lists of the stack, and the one that is filled -/
def RSt.lists (s : RSt) : List (List Str) := s.stk.map (·.2) ++ [s.cur]
/-- the reader s stands at p, its two lists at po and pl, the lists' lists at qs -/
structure RAt (C p po pl : Addr) (qs : List Addr) (G : HD) (s : RSt) : Prop where
  ob : G p = some (.ins C (rflds s.form (SS s.word) po pl))
  ti : G po = some (.lst ((s.stk.map (·.1)).map D.int))
  ls : G pl = some (.lst (qs.map D.ref))
  ql : Paired (fun q l => q ≠ po ∧ q ≠ pl ∧ G q = some (.lst (l.map D.str))) qs s.lists
  ne : po ≠ pl
/-- all but those is as it was -/
def Fr (as : List Addr) (G G' : HD) : Prop := ∀ a o, G a = some o → a ∉ as → G' a = some o
theorem Fr.refl {as : List Addr} {G : HD} : Fr as G G := fun _ _ h _ => h
theorem Fr.trans {as : List Addr} {G G1 G2 : HD} (a : Fr as G G1) (b : Fr as G1 G2) : Fr as G G2 := fun x o h n => b x o (a x o h n) n
theorem fr_put {as : List Addr} {G : HD} {p : Addr} {o : DO} (h : p ∈ as) : Fr as G (Dd.put G p o) := fun a u e n => by
  have hne : a ≠ p := fun z => n (by rw [z]; exact h)
  rw [put_ne hne]; exact e
theorem fr_new {as : List Addr} {G : HD} {p : Addr} {o : DO} (h : G p = none) : Fr as G (Dd.put G p o) := fun a u e n => Sub.put h a u e
section
variable {C p po pl : Addr} {qs : List Addr} {G G' : HD} {s s' : RSt}
theorem paired_imp {α β : Type} {R R' : α → β → Prop} (h : ∀ a b, R a b → R' a b) : ∀ {xs : List α} {ys : List β}, Paired R xs ys → Paired R' xs ys
  | _, _, .nil => .nil
  | _, _, .cons x y => .cons (h _ _ x) (paired_imp h y)
theorem paired_snoc {α β : Type} {R : α → β → Prop} : ∀ {ys : List β} {xs : List α} {y : β}, Paired R xs (ys ++ [y]) → ∃ xi x, xs = xi ++ [x] ∧ Paired R xi ys ∧ R x y
  | [], xs, y, h => by
    cases h with
    | cons h1 h2 => cases h2; exact ⟨[], _, rfl, .nil, h1⟩
  | z :: ys, xs, y, h => by
    cases h with
    | cons h1 h2 =>
      obtain ⟨xi, x, rfl, h3, h4⟩ := paired_snoc h2
      exact ⟨_ :: xi, x, rfl, .cons h1 h3, h4⟩
theorem paired_app {α β : Type} {R : α → β → Prop} : ∀ {xs : List α} {ys : List β} {x : α} {y : β}, Paired R xs ys → R x y → Paired R (xs ++ [x]) (ys ++ [y])
  | _, _, _, _, .nil, h => .cons h .nil
  | _, _, _, _, .cons h1 h2, h => .cons h1 (paired_app h2 h)
theorem RAt.p_po (h : RAt C p po pl qs G s) : p ≠ po := fun e => by
  have h1 := h.ob
  rw [e, h.ti] at h1
  cases h1
theorem RAt.p_pl (h : RAt C p po pl qs G s) : p ≠ pl := fun e => by
  have h1 := h.ob
  rw [e, h.ls] at h1
  cases h1
theorem RAt.sub (h : RAt C p po pl qs G s) (x : Sub G G') : RAt C p po pl qs G' s :=
  ⟨x _ _ h.ob, x _ _ h.ti, x _ _ h.ls, paired_imp (fun q l ⟨a, b, c⟩ => ⟨a, b, x _ _ c⟩) h.ql, h.ne⟩
/-- the lists change -/
theorem RAt.setL (h : RAt C p po pl qs G s) {qs' : List Addr} (hq : Paired (fun q l => q ≠ po ∧ q ≠ pl ∧ G q = some (.lst (l.map D.str))) qs' s'.lists) (e1 : s'.form = s.form) (e2 : s'.word = s.word) (e3 : s'.stk.map (·.1) = s.stk.map (·.1)) :
    RAt C p po pl qs' (Dd.put G pl (.lst (qs'.map D.ref))) s' :=
  ⟨by rw [put_ne h.p_pl, e1, e2]; exact h.ob, by rw [put_ne h.ne, e3]; exact h.ti, put_same, paired_imp (fun q l ⟨a, b, c⟩ => ⟨a, b, by rw [put_ne b]; exact c⟩) hq, h.ne⟩
/-- the times change -/
theorem RAt.setT (h : RAt C p po pl qs G s) (e1 : s'.form = s.form) (e2 : s'.word = s.word) (e3 : s'.lists = s.lists) : RAt C p po pl qs (Dd.put G po (.lst ((s'.stk.map (·.1)).map D.int))) s' :=
  ⟨by rw [put_ne h.p_po, e1, e2]; exact h.ob, put_same, by rw [put_ne h.ne.symm]; exact h.ls, by rw [e3]; exact paired_imp (fun q l ⟨a, b, c⟩ => ⟨a, b, by rw [put_ne a]; exact c⟩) h.ql, h.ne⟩
/-- the fields change -/
theorem RAt.setF (h : RAt C p po pl qs G s) (e : s'.stk = s.stk) (e2 : s'.cur = s.cur) : RAt C p po pl qs (Dd.put G p (.ins C (rflds s'.form (SS s'.word) po pl))) s' := by
  have n1 := h.p_po
  have n2 := h.p_pl
  have np : ∀ q l, G q = some (.lst l) → q ≠ p := fun q l a b => by rw [b, h.ob] at a; cases a
  refine ⟨put_same, by rw [put_ne n1.symm, e]; exact h.ti, by rw [put_ne n2.symm]; exact h.ls, ?_, h.ne⟩
  have : s'.lists = s.lists := by unfold RSt.lists; rw [e, e2]
  rw [this]
  exact paired_imp (fun q l ⟨a, b, c⟩ => ⟨a, b, by rw [put_ne (np _ _ c)]; exact c⟩) h.ql
theorem fr_sub {as : List Addr} (x : Sub G G') : Fr as G G' := fun a o h _ => x a o h
end
theorem atI_last {α : Type} {xs : List α} {x : α} : atI (xs ++ [x]) (-1) = some x := by
  have e : ixN (xs ++ [x]).length (-1) = some xs.length := by
    unfold ixN
    rw [if_neg (by decide), if_pos (by simp; omega)]
    simp
    omega
  unfold atI
  rw [e]
  simp
theorem ixN_last {n : Nat} (h : 0 < n) : ixN n (-1) = some (n - 1) := by
  unfold ixN
  rw [if_neg (by decide), if_pos (by omega)]
  congr 1
  omega
theorem cutD_to {α : Type} (xs : List α) (n : Nat) : cutD xs none (some (n : Int)) = xs.take n := by
  unfold cutD
  rw [HT.sIx_none, HT.sIx_nat, List.drop_zero, Nat.sub_zero]
  by_cases h : n ≤ xs.length
  · rw [Nat.min_eq_left h]
  · rw [Nat.min_eq_right (by omega), List.take_length, List.take_of_length_le (by omega)]
/-- the promise of a method that changes the reader -/
def spR (C : Addr) (k : Nat) (g : List D → RSt → Option (D × RSt)) : SpD := fun ds G QD _ => ∃ p po pl qs s as v s', ds = .ref p :: as ∧ as.length = k ∧ RAt C p po pl qs G s ∧ s.Ok ∧ g as s = some (v, s') ∧
  ∀ G' qs', RAt C p po pl qs' G' s' → Fr [p, po, pl] G G' → QD v G'
end Dd
set_option Elab.async false
set_option linter.all false
set_option maxRecDepth 100000
/-! L3: the Reader's methods. -/
namespace Dd
open PySem PySem.Spec L2
open PyProof.Rows hiding St
section
variable {P : Program} {w : World} {K : PySem.W.Frag} {mg : Str → Option Value} {base : Heap} {f C : Addr} {fd : FuncData}
/-- the class Reader as the top has made it -/
structure RC (K : PySem.W.Frag) (C : Addr) : Prop where
  cl : Cls K C
  n1 : NoAttr K C "form"
  n2 : NoAttr K C "word"
  n3 : NoAttr K C "open_times"
  n4 : NoAttr K C "lists"
def spPut (C : Addr) : SpD := fun ds G QD _ => ∃ p po pl qs s pe ev, ds = [.ref p, .ref pe] ∧ RAt C p po pl qs G s ∧ G pe = some (.lst (ev.map D.str)) ∧ s.cur.length + ev.length ≤ sizeLine ∧
  ∀ G' qs', RAt C p po pl qs' G' (s.put ev) → Fr [pl] G G' → QD .non G'
theorem ok_put (F : Fun K "put" "Reader.put" s_Reader_put f fd) (T : TX mg) (c : RC K C) : FnG P w K mg base 2 f fd ["self", "events"] (spOf K (spPut C)) := by
  have S := S_Reader_put
  refine okG F S (fun ds G Q E ⟨_, _, _, _, _, _, _, e, _⟩ => by rw [e]; rfl) fun cdv A outer s H E hr tk => ?_
  refine ⟨_, (pss_one (ps_asg (pe_slice (k_sld (K := K) rfl) (pe_op (k_opd_add (K := K) rfl) (pe_ix (k_ixd (K := K) rfl (room_hu1 hr)) (k_fld (K := K) rfl (pv 0)) (pe_un (k_und_neg (K := K) rfl) pe_int) (fun _ _ => rfl)) (pv 1)) po_none (po_some (pe_op (k_opd_add (K := K) rfl) (C8.pe_gc rfl T.g_MOST_EVENTS) pe_int))) (pg_sub (k_fld (K := K) rfl (pv 0)) (pe_un (k_und_neg (K := K) rfl) pe_int) (k_psetd (K := K) rfl (room_hu1 hr))))), ?_⟩
  rintro ds G QD ED ⟨p, po, pl, qs, s, pe, ev, rfl, h, he, hz, q⟩ hW
  obtain ⟨qi, ql, rfl, hqi, n1, n2, hql⟩ := paired_snoc h.ql
  refine rd_asg (rd_sl (rd_op (rd_op (rd_fld (rd_var rfl ⟨p, C, _, _, rfl, h.ob, c.cl, c.n4, rf_lists, rd_un (rd_int ?_)⟩)))))
  refine .inl ⟨_, -1, .ref ql, rfl, .inl h.ls, by rw [List.map_append]; exact atI_last, rd_var rfl ?_⟩
  refine ⟨_, _, hql, he, by simpa using hz, fun p1 h1 => ?_⟩
  refine rd_nopart (rd_part (rd_op (rd_int (rd_int ⟨201, rfl, ?_⟩))))
  refine ⟨_, .inl put_same, fun q2 h2 => ?_⟩
  have s1 : Sub G (put G p1 (.lst (s.cur.map D.str ++ ev.map D.str))) := Sub.put h1
  have s2 := s1.trans (Sub.put (o := .lst (cutD (s.cur.map D.str ++ ev.map D.str) none (some 201))) h2)
  have hh := h.sub s2
  refine rd_gsub (rd_fld (rd_var rfl ⟨p, C, _, _, rfl, hh.ob, c.cl, c.n4, rf_lists, rd_un (rd_int ?_)⟩))
  refine .inl ⟨_, -1, qi.length, rfl, hh.ls, by rw [ixN_last (by simp)]; simp, ?_⟩
  have e1 : ((qi ++ [ql]).map D.ref).set qi.length (.ref q2) = (qi ++ [q2]).map D.ref := by simp
  rw [e1]
  have np : q2 ≠ po := fun e => by have := s1 _ _ h.ti; rw [← e, h2] at this; cases this
  have nl : q2 ≠ pl := fun e => by have := s1 _ _ h.ls; rw [← e, h2] at this; cases this
  have hR := hh.setL (s' := s.put ev) (qs' := qi ++ [q2]) (by
    refine paired_app (paired_imp (fun q l ⟨a, b, c⟩ => ⟨a, b, s2 _ _ c⟩) hqi) ⟨np, nl, ?_⟩
    rw [put_same]
    have e2 := cutD_to (s.cur.map D.str ++ ev.map D.str) 201
    rw [show ((201 : Nat) : Int) = 201 from rfl] at e2
    rw [e2, ← List.map_append, ← List.map_take]
    rfl) rfl rfl rfl
  exact ⟨_, Sub.refl _, q _ _ hR ((fr_sub s2).trans (fr_put (by simp)))⟩

theorem e_empty : ("" : Str) = SS [] := rfl
def spEndItem (C : Addr) : SpD := fun ds G QD _ => ∃ p po pl qs s, ds = [.ref p] ∧ RAt C p po pl qs G s ∧ s.Ok ∧ ∀ G' qs', RAt C p po pl qs' G' s.endItem → Fr [p, pl] G G' → QD .non G'
theorem ok_end_item (F : Fun K "end_item" "Reader.end_item" s_Reader_end_item f fd) (T : TX mg) (c : RC K C) (M_put : MetG P w K mg base 2 C "put" ["self", "events"] (spPut C)) : FnG P w K mg base 3 f fd ["self"] (spOf K (spEndItem C)) := by
  have S := S_Reader_end_item
  refine okG F S (fun ds G Q E ⟨_, _, _, _, _, e, _⟩ => by rw [e]; rfl) fun cdv A outer s H E hr tk => ?_
  refine ⟨_, (pss_cons (ps_if (pt_cmpR (k_opd_eq (K := K) rfl hr.rm.units) (k_fld (K := K) rfl (pv 0)) pe_str (nomark _)) (pss_one (ps_expr (k_m M_put rfl rfl rfl rfl rfl hr (by decide) tk (pv 0) (pa_cons (pe_lst (pa_cons (k_fld (K := K) rfl (pv 0)) pa_nil)) pa_nil)))) pss_nil)
  (pss_one (ps_fld (pv 0) pe_str (by rfl)))), ?_⟩
  rintro ds G QD ED ⟨p, po, pl, qs, s, rfl, h, ok, q⟩ hW
  have fin : ∀ G1 qs1 s1, RAt C p po pl qs1 G1 s1 → Fr [pl] G G1 → { s1 with word := [] } = s.endItem → RdS K H (sFld K (tVar 0) (tC (V.str (Str.ofString ""))) (Str.ofString "word")) (startD N_Reader_end_item [.ref p]) G1 ⟨fun _ G' => Wk QD .non G', Wk QD, fun _ _ => False, fun _ _ => False⟩ := fun G1 qs1 s1 h1 f1 e1 => by
    refine rd_sfld (rd_str (rd_var rfl ⟨p, C, _, rfl, h1.ob, c.cl, c.n2, by show 4 < 1000; decide, _, Sub.refl _, ?_⟩))
    rw [rf_pword]
    have h2 := h1.setF (s' := { s1 with word := [] }) rfl rfl
    rw [e1] at h2
    refine q _ qs1 ?_ ((fun a o e n => ?_) : Fr [p, pl] G _)
    · rw [← e1] at h2 ⊢
      exact h2
    · have n1 : a ≠ p := fun z => n (by simp [z])
      rw [put_ne n1]
      exact f1 a o e (fun z => n (by simp at z; simp [z]))
  refine rd_seq (rd_ifS (rd_test (rd_op (rd_fld (rd_var rfl ⟨p, C, _, _, rfl, h.ob, c.cl, c.n1, rf_form, rd_str ⟨_, rfl, ?_⟩⟩)))))
  refine ite2 (fun hf => ?_) (fun hf => ?_)
  · refine rd_drop (rd_m hW (rd_var rfl ⟨p, _, rfl, h.ob, rf_no (by decide +kernel) (by decide +kernel) (by decide +kernel) (by decide +kernel), ?_⟩))
    refine rd_cons (rd_lst (rd_cons (rd_fld (rd_var rfl ⟨p, C, _, _, rfl, h.ob, c.cl, c.n2, rf_word, rd_nil ⟨by show 1 ≤ sizeLine; decide, fun p1 h1 => rd_nil ?_⟩⟩))))
    refine ⟨p, po, pl, qs, s, p1, [SS s.word], rfl, h.sub (Sub.put h1), put_same, ?_, fun G' qs' hR hF => ?_⟩
    · have := ok.cl
      rw [sizeLine_eq]
      show _ + 1 ≤ _
      omega
    · refine fin G' qs' _ hR ((fr_sub (Sub.put h1)).trans hF) ?_
      have hf : s.form = "name" := of_decide_eq_true hf
      unfold RSt.endItem
      rw [if_pos hf]
  · refine rd_next (fin G qs s h Fr.refl ?_)
    have hf : ¬ s.form = "name" := fun z => hf (decide_eq_true z)
    unfold RSt.endItem
    rw [if_neg hf]

theorem ss_eq (c k : Nat) : decide (SS [c] = SS [k]) = decide (c = k) := by
  have : SS [c] = SS [k] ↔ c = k := ⟨fun h => by have := SX.S_inj h; simpa using this, fun h => by rw [h]⟩
  simp [this]
def spTk (C : Addr) (g : Nat → RSt → Bool × RSt) (pre : Nat → RSt → Prop) : SpD := fun ds G QD _ => ∃ p po pl qs s c, ds = [.ref p, .str (SS [c])] ∧ RAt C p po pl qs G s ∧ s.Ok ∧ pre c s ∧
  ∀ G' qs', RAt C p po pl qs' G' (g c s).2 → Fr [p, po, pl] G G' → QD (.bl (g c s).1) G'
theorem ok_take_begin (F : Fun K "take_begin" "Reader.take_begin" s_Reader_take_begin f fd) (T : TX mg) (c : RC K C) : FnG P w K mg base 2 f fd ["self", "sign"] (spOf K (spTk C (fun c s => s.takeBegin c) fun _ _ => True)) := by
  have S := S_Reader_take_begin
  refine okG F S (fun ds G Q E ⟨_, _, _, _, _, _, e, _⟩ => by rw [e]; rfl) fun cdv A outer s H E hr tk => ?_
  refine ⟨_, (pss_cons (ps_set (i := 2) S.nd rfl (Or.inl rfl) (pe_and (pe_cmpR (k_opd_in (K := K) rfl (room_hu1 hr)) (pv 1) (C8.pe_gc rfl T.g_FIGURES) (by rfl)) (pe_and (pe_cmpR (k_opd_ne (K := K) rfl hr.rm.units) (pv 1) pe_str (nomark _)) (pe_one (pe_cmpR (k_opd_lt (K := K) rfl) (pe_callB (k_crd_len (K := K) rfl) rfl T.m_len (by rfl) (pa_cons (k_fld (K := K) rfl (pv 0)) pa_nil)) (C8.pe_gc rfl T.g_DEEPEST) (nomark _))))))
  (pss_cons (ps_if (PW.pt (pw_and (pt_cmpR (k_opd_notin (K := K) rfl (room_hu1 hr)) (pv 1) (C8.pe_gc rfl T.g_LETTERS) (by rfl)) (pw_and1 (pt_not (pt_val (pv 2)))))) (pss_one (ps_ret pe_bl)) pss_nil)
  (pss_cons (ps_asg (pe_tup (pa_cons (pe_ifExp (pt_cmpR (k_opd_in (K := K) rfl (room_hu1 hr)) (pv 1) (C8.pe_gc rfl T.g_LETTERS) (by rfl)) pe_str pe_str) (pa_cons (pv 1) pa_nil))) (k_tup (K := K) rfl rfl (pgs_cons (k_gfld (K := K) rfl (pv 0)) (pgs_cons (k_gfld (K := K) rfl (pv 0)) pgs_nil))))
  (pss_one (ps_ret pe_bl))))), ?_⟩
  rintro ds G QD ED ⟨p, po, pl, qs, s, sg, rfl, h, ok, -, q⟩ hW
  replace q : ∀ G' qs', RAt C p po pl qs' G' (s.takeBegin sg).2 → Fr [p, po, pl] G G' → QD (.bl (s.takeBegin sg).1) G' := q
  have hlen : RLen [.ref po] G fun d' G1 => d' = .int (s.stk.length : Nat) ∧ G1 = G := ⟨_, rfl, .inl ⟨_, .inl h.ti, by simp, rfl⟩⟩
  refine rd_seq (rd_set (rd_ev _ (ev_and (ev_op (ev_var rfl) ev_str (rin_str (sub_fig sg))) fun _ => ev_and (ev_op (ev_var rfl) ev_str (req_str (ss_eq sg 48))) fun _ => ev_op (rd_cb (rd_cons (rd_ev _ (ev_fld (ev_var rfl) h.ob c.cl c.n3 rf_open) (rd_nil hlen)))) ev_int ⟨rfl, rfl⟩) ?_))
  refine rd_seq (rd_ifv _ (tv_and (tv_test (ev_op (ev_var rfl) ev_str (rin_str (sub_let sg)))) fun _ => tv_not (tv_tB (ev_var rfl))) (fun hb => rd_ret (rd_bl ⟨_, Sub.refl _, ?_⟩)) (fun hb => rd_next ?_))
  · have eg : s.takeBegin sg = (false, s) := by
      unfold RSt.takeBegin
      exact if_pos hb
    rw [eg] at q
    exact q G qs h Fr.refl
  · have eg : s.takeBegin sg = (true, { s with form := if isLet sg = true then "name" else "number", word := [sg] }) := by
      unfold RSt.takeBegin
      exact if_neg (by rw [show (!isLet sg && !(isFig sg && (!decide (sg = 48) && decide ((s.stk.length : Int) < 6)))) = false from hb]; exact Bool.false_ne_true)
    refine rd_seq (rd_asg (rd_tup (rd_cons (rd_ev (.str (if isLet sg = true then "name" else "number")) (ev_if (tv_test (ev_op (ev_var rfl) ev_str (rin_str (sub_let sg)))) (fun hl => ?_) (fun hl => ?_)) (rd_cons (rd_var rfl (rd_nil ⟨by show 2 ≤ sizeLine; decide, ?_⟩)))))))
    · rw [show isLet sg = true from hl, if_pos rfl]; exact ev_str
    · rw [show isLet sg = false from hl, if_neg Bool.false_ne_true]; exact ev_str
    · refine rd_gtup rfl (rd_gcons (rd_gfld (rd_var rfl ⟨p, C, _, rfl, h.ob, c.cl, c.n1, by show 4 < 1000; decide, rd_gcons (rd_gfld (rd_var rfl ⟨p, C, _, rfl, put_same, c.cl, c.n2, by show 4 < 1000; decide, rd_gnil (rd_ret (rd_bl ⟨_, Sub.refl _, ?_⟩))⟩))⟩)))
      rw [put_put, rf_pform, rf_pword]
      have hR := h.setF (s' := { s with form := if isLet sg = true then "name" else "number", word := [sg] }) rfl rfl
      rw [eg] at q
      exact q _ qs hR (fr_put (by simp))

theorem isFig_iff (c : Nat) : isFig c = (decide (48 ≤ c) && decide (c ≤ 57)) := by
  have e : figures.cps.toList = [48, 49, 50, 51, 52, 53, 54, 55, 56, 57] := by decide +kernel
  unfold isFig
  rw [e]
  have : (c ∈ [48, 49, 50, 51, 52, 53, 54, 55, 56, 57]) ↔ (48 ≤ c ∧ c ≤ 57) := by simp only [List.mem_cons, List.not_mem_nil, or_false]; omega
  rw [Bool.eq_iff_iff]
  simp only [decide_eq_true_eq, Bool.and_eq_true]
  exact this
theorem ok_take_number (F : Fun K "take_number" "Reader.take_number" s_Reader_take_number f fd) (T : TX mg) (c : RC K C) : FnG P w K mg base 2 f fd ["self", "sign"] (spOf K (spTk C (fun c s => s.takeNumber c) fun _ s => s.form = "number")) := by
  have S := S_Reader_take_number
  refine okG F S (fun ds G Q E ⟨_, _, _, _, _, _, e, _⟩ => by rw [e]; rfl) fun cdv A outer s H E hr tk => ?_
  refine ⟨_, (pss_cons (ps_if (pt_cmpR (k_opd_in (K := K) rfl (room_hu1 hr)) (pv 1) (C8.pe_gc rfl T.g_FIGURES) (by rfl)) (pss_cons (ps_fldaug (pv 0) (pv 1) (inop_of (k_iadd (K := K) rfl)))
  (pss_one (ps_ret (pe_cmpR (k_opd_le (K := K) rfl) (pe_callTy (k_crd_int (K := K) rfl) rfl T.m_int (by rfl) (pa_cons (k_fld (K := K) rfl (pv 0)) pa_nil)) (C8.pe_gc rfl T.g_MOST_TIMES) (nomark _))))) pss_nil)
  (pss_cons (ps_fld (pv 0) pe_str (by rfl))
  (pss_one (ps_ret (pe_and (pe_cmpR (k_opd_eq (K := K) rfl hr.rm.units) (pv 1) pe_str (nomark _)) (pe_one (pe_cmpR (k_opd_gt (K := K) rfl) (pe_callTy (k_crd_int (K := K) rfl) rfl T.m_int (by rfl) (pa_cons (k_fld (K := K) rfl (pv 0)) pa_nil)) pe_int (nomark _)))))))), ?_⟩
  rintro ds G QD ED ⟨p, po, pl, qs, s, sg, rfl, h, ok, hform, q⟩ hW
  replace q : ∀ G' qs', RAt C p po pl qs' G' (s.takeNumber sg).2 → Fr [p, po, pl] G G' → QD (.bl (s.takeNumber sg).1) G' := q
  obtain ⟨hne, hdig⟩ := ok.dig (.inl hform)
  have hwl := ok.wl
  refine rd_seq (rd_ifv _ (tv_test (ev_op (ev_var rfl) ev_str (rin_str (sub_fig sg)))) (fun hb => ?_) (fun hb => rd_next ?_))
  · have hb : isFig sg = true := hb
    have hall : (s.word ++ [sg]).all (fun c => decide (48 ≤ c) && decide (c ≤ 57)) = true := by
      rw [List.all_append, hdig, List.all_cons, List.all_nil, ← isFig_iff, hb]; rfl
    have hR := h.setF (s' := { s with word := s.word ++ [sg] }) rfl rfl
    have eg : s.takeNumber sg = (decide ((dv (s.word ++ [sg]) : Int) ≤ 200), { s with word := s.word ++ [sg] }) := if_pos hb
    rw [eg] at q
    refine rd_seq (rd_sfldaug (rd_var rfl ⟨p, C, _, _, rfl, h.ob, c.cl, c.n2, rf_word, rd_var rfl ⟨?_, _, h.ob, by show 4 < 1000; decide, ?_⟩⟩))
    · rw [SS_len, SS_len, sizeLine_eq]
      show _ + 1 ≤ _
      omega
    · rw [SS_cat, rf_pword]
      refine rd_ret (rd_op (rd_cb (rd_cons (rd_ev _ (ev_fld (ev_var rfl) hR.ob c.cl c.n2 rf_word) (rd_nil ⟨_, rfl, _, SX.int_S hall (by simp) (by simp; omega), by rw [SS_len]; simp; omega, rd_int ⟨_, Sub.refl _, q _ qs hR (fr_put (by simp))⟩⟩)))))
  · have hb : isFig sg = false := hb
    have hR := h.setF (s' := { s with form := "star" }) rfl rfl
    have eg : s.takeNumber sg = (decide (sg = 42) && decide ((1 : Int) < dv s.word), { s with form := "star" }) := if_neg (by rw [hb]; exact Bool.false_ne_true)
    rw [eg] at q
    refine rd_seq (rd_sfld (rd_str (rd_var rfl ⟨p, C, _, rfl, h.ob, c.cl, c.n1, by show 4 < 1000; decide, ?_⟩)))
    rw [rf_pform]
    refine rd_ret (rd_ev _ (ev_and (ev_op (ev_var rfl) ev_str (req_str (ss_eq sg 42))) fun _ => ev_op (rd_cb (rd_cons (rd_ev _ (ev_fld (ev_var rfl) hR.ob c.cl c.n2 rf_word) (rd_nil ⟨_, rfl, _, SX.int_S hdig hne (by show s.word.length ≤ 4300; omega), by rw [SS_len]; show s.word.length ≤ 640; omega, rfl, rfl⟩)))) ev_int ⟨rfl, rfl⟩) ⟨_, Sub.refl _, q _ qs hR (fr_put (by simp))⟩)
theorem RAt.push {p po pl q1 : Addr} {qs : List Addr} {G : HD} {s : RSt} {n : Int} {l0 l1 : List D} (h : RAt C p po pl qs G s) (e0 : l0 = ((s.stk ++ [(n, s.cur)]).map (·.1)).map D.int) (e1 : l1 = (qs ++ [q1]).map D.ref) (h1 : Dd.put G po (.lst l0) q1 = none) :
    RAt C p po pl (qs ++ [q1]) (Dd.put (Dd.put (Dd.put (Dd.put G po (.lst l0)) q1 (.lst [])) pl (.lst l1)) p (.ins C (rflds "begin" (SS []) po pl))) ⟨"begin", [], s.stk ++ [(n, s.cur)], []⟩ := by
  subst e0 e1
  have n1 := h.p_po
  have n2 := h.p_pl
  have q0 : q1 ≠ po := fun z => by rw [z, put_same] at h1; cases h1
  have g1 : G q1 = none := by rw [put_ne q0] at h1; exact h1
  have q2 : q1 ≠ pl := fun z => by rw [z, h.ls] at g1; cases g1
  have q3 : q1 ≠ p := fun z => by rw [z, h.ob] at g1; cases g1
  have np : ∀ q l, G q = some (.lst l) → q ≠ p := fun q l a b => by rw [b, h.ob] at a; cases a
  refine ⟨put_same, ?_, ?_, ?_, h.ne⟩
  · rw [put_ne n1.symm, put_ne h.ne, put_ne q0.symm, put_same]
  · rw [put_ne n2.symm, put_same]
  · have el : (⟨"begin", [], s.stk ++ [(n, s.cur)], []⟩ : RSt).lists = s.lists ++ [[]] := by simp [RSt.lists]
    rw [el]
    refine paired_app (paired_imp (fun q l ⟨a, b, c⟩ => ⟨a, b, ?_⟩) h.ql) ⟨q0, q2, ?_⟩
    · rw [put_ne q3, put_ne q2, put_same]; rfl
    · have nq : q ≠ q1 := fun z => by rw [z, g1] at c; cases c
      rw [put_ne (np _ _ c), put_ne b, put_ne nq, put_ne a]; exact c
theorem ok_take_star (F : Fun K "take_star" "Reader.take_star" s_Reader_take_star f fd) (T : TX mg) (c : RC K C) : FnG P w K mg base 2 f fd ["self", "sign"] (spOf K (spTk C (fun c s => s.takeStar c) fun _ s => s.form = "star")) := by
  have S := S_Reader_take_star
  refine okG F S (fun ds G Q E ⟨_, _, _, _, _, _, e, _⟩ => by rw [e]; rfl) fun cdv A outer s H E hr tk => ?_
  refine ⟨_, (pss_cons (ps_expr (k_bm (K := K) rfl PySem.F.plainAttrs_list PySem.F.slot_list_append PySem.F.type_list_append (k_mtd_append (K := K) rfl) (k_fld (K := K) rfl (pv 0)) (pa_cons (pe_callTy (k_crd_int (K := K) rfl) rfl T.m_int (by rfl) (pa_cons (k_fld (K := K) rfl (pv 0)) pa_nil)) pa_nil)))
  (pss_cons (ps_expr (k_bm (K := K) rfl PySem.F.plainAttrs_list PySem.F.slot_list_append PySem.F.type_list_append (k_mtd_append (K := K) rfl) (k_fld (K := K) rfl (pv 0)) (pa_cons (pe_lst pa_nil) pa_nil)))
  (pss_cons (ps_asg (pe_tup (pa_cons pe_str (pa_cons pe_str pa_nil))) (k_tup (K := K) rfl rfl (pgs_cons (k_gfld (K := K) rfl (pv 0)) (pgs_cons (k_gfld (K := K) rfl (pv 0)) pgs_nil))))
  (pss_one (ps_ret (pe_cmpR (k_opd_eq (K := K) rfl hr.rm.units) (pv 1) pe_str (nomark _))))))), ?_⟩
  rintro ds G QD ED ⟨p, po, pl, qs, s, sg, rfl, h, ok, hform, q⟩ hW
  replace q : ∀ G' qs', RAt C p po pl qs' G' (s.takeStar sg).2 → Fr [p, po, pl] G G' → QD (.bl (s.takeStar sg).1) G' := q
  obtain ⟨hne, hdig⟩ := ok.dig (.inr hform)
  have hwl := ok.wl
  have hsn := ok.sn
  have n1 := h.p_po
  have n2 := h.p_pl
  refine rd_seq (rd_drop (rd_bml (rd_ev _ (ev_fld (ev_var rfl) h.ob c.cl c.n3 rf_open) ⟨po, _, rfl, h.ti, rd_cons (rd_cb (rd_cons (rd_ev _ (ev_fld (ev_var rfl) h.ob c.cl c.n2 rf_word) (rd_nil ⟨_, rfl, _, SX.int_S hdig hne (by omega), by rw [SS_len]; omega, rd_nil ⟨po, _, _, rfl, rfl, h.ti, by simp only [List.length_map]; rw [sizeLine_eq]; omega, ?_⟩⟩))))⟩)))
  have hob1 : ∀ o, put G po o p = some (.ins C (rflds s.form (SS s.word) po pl)) := fun o => by rw [put_ne n1]; exact h.ob
  have hls1 : ∀ o, put G po o pl = some (.lst (qs.map D.ref)) := fun o => by rw [put_ne h.ne.symm]; exact h.ls
  have hql : qs.length ≤ 1001 := by
    have e := Paired.length h.ql
    rw [e]
    simp [RSt.lists]
    omega
  refine rd_seq (rd_drop (rd_bml (rd_ev _ (ev_fld (ev_var rfl) (hob1 _) c.cl c.n4 rf_lists) ⟨pl, _, rfl, hls1 _, rd_cons (rd_lst (rd_nil ⟨by show 0 ≤ sizeLine; decide, fun q1 h1 => rd_nil ⟨pl, _, _, rfl, rfl, by rw [put_ne (ne_new (hls1 _) h1)]; exact hls1 _, by simp only [List.length_map]; rw [sizeLine_eq]; omega, ?_⟩⟩))⟩)))
  have hq0 : q1 ≠ po := fun z => by rw [z, put_same] at h1; cases h1
  have hq3 : p ≠ q1 := fun z => by rw [← z, hob1] at h1; cases h1
  have hR := h.push (n := (dv s.word : Int)) (q1 := q1) (l0 := (s.stk.map (·.1)).map D.int ++ [D.int (dv s.word : Nat)]) (l1 := qs.map D.ref ++ [D.ref q1]) (by simp) (by simp) h1
  have hob2 : put (put (put G po (.lst ((s.stk.map (·.1)).map D.int ++ [D.int (dv s.word : Nat)]))) q1 (.lst [])) pl (.lst (qs.map D.ref ++ [D.ref q1])) p = some (.ins C (rflds s.form (SS s.word) po pl)) := by
    rw [put_ne n2, put_ne hq3]; exact hob1 _
  refine rd_seq (rd_asg (rd_tup (rd_cons (rd_str (rd_cons (rd_str (rd_nil ⟨by show 2 ≤ sizeLine; decide, ?_⟩)))))))
  refine rd_gtup rfl (rd_gcons (rd_gfld (rd_var rfl ⟨p, C, _, rfl, hob2, c.cl, c.n1, by show 4 < 1000; decide, rd_gcons (rd_gfld (rd_var rfl ⟨p, C, _, rfl, put_same, c.cl, c.n2, by show 4 < 1000; decide, rd_gnil (rd_ret (rd_ev _ (ev_op (ev_var rfl) ev_str (req_str (ss_eq sg 40))) ⟨_, Sub.refl _, ?_⟩))⟩))⟩)))
  rw [put_put, rf_pform, rf_pword]
  refine q _ _ hR fun a o e n => ?_
  simp only [List.mem_cons, List.not_mem_nil, or_false, not_or] at n
  have nq : a ≠ q1 := fun z => by rw [z] at e; rw [put_ne hq0, e] at h1; cases h1
  rw [put_ne n.1, put_ne n.2.2, put_ne nq, put_ne n.2.1]
  exact e

theorem RAt.pop {p po pl : Addr} {qs : List Addr} {G : HD} {s : RSt} {st : List (Int × List Str)} {n : Int} {below : List Str} {qc : Addr} {l0 l1 : List D} (h : RAt C p po pl (qs ++ [qc]) G s) (es : s.stk = st ++ [(n, below)]) (e0 : l0 = (st.map (·.1)).map D.int) (e1 : l1 = qs.map D.ref) :
    RAt C p po pl qs (Dd.put (Dd.put G pl (.lst l1)) po (.lst l0)) { s with stk := st, cur := below } := by
  subst e0 e1
  have n1 := h.p_po
  have n2 := h.p_pl
  refine ⟨by rw [put_ne n1, put_ne n2]; exact h.ob, put_same, by rw [put_ne h.ne.symm, put_same], ?_, h.ne⟩
  have hq := h.ql
  have el : s.lists = (st.map (·.2) ++ [below]) ++ [s.cur] := by simp [RSt.lists, es]
  rw [el] at hq
  obtain ⟨qi, q', e, hp, _⟩ := paired_snoc hq
  have e2 : qs = qi := (List.append_inj' e rfl).1
  subst e2
  exact paired_imp (fun q l ⟨a, b, c⟩ => ⟨a, b, by rw [put_ne a, put_ne b]; exact c⟩) hp
theorem rep_map {α β : Type} (f : α → β) (n : Int) (xs : List α) : rep n (xs.map f) = (rep n xs).map f := by
  unfold rep
  generalize n.toNat = k
  induction k with
  | zero => rfl
  | succ k ih => rw [List.replicate_succ, List.replicate_succ, List.flatten_cons, List.flatten_cons, List.map_append, ih]
theorem rep_len {α : Type} (n : Int) (xs : List α) : (rep n xs).length = n.toNat * xs.length := by
  unfold rep
  simp
theorem Fr.mono {as bs : List Addr} {G G' : HD} (f : Fr as G G') (h : ∀ a ∈ as, a ∈ bs) : Fr bs G G' := fun a o e n => f a o e fun z => n (h a z)
theorem endItem_stk (s : RSt) : s.endItem.stk = s.stk := by
  unfold RSt.endItem
  split <;> rfl
theorem endItem_cur (s : RSt) (h : s.cur.length ≤ 201) : s.endItem.cur.length ≤ 201 := by
  unfold RSt.endItem
  split
  · show (List.take 201 _).length ≤ 201
    rw [List.length_take]; omega
  · exact h
theorem takeEnd_no {s : RSt} {c : Nat} (h : s.stk = [] ∨ c ≠ 41) : s.takeEnd c = (decide (c = 32), { s.endItem with form := "begin" }) := by
  unfold RSt.takeEnd
  show (match s.endItem.stk.getLast? with | some (n, below) => if c = 41 then _ else _ | none => _) = _
  rw [endItem_stk]
  rcases h with h | h
  · rw [h]; rfl
  · cases s.stk.getLast? with
    | none => rfl
    | some x => obtain ⟨n, b⟩ := x; exact if_neg h
theorem takeEnd_pop {s : RSt} {st : List (Int × List Str)} {n : Int} {below : List Str} (hs : s.stk = st ++ [(n, below)]) : s.takeEnd 41 = (true, { ({ s.endItem with form := "begin", stk := st, cur := below } : RSt).put (rep n s.endItem.cur) with form := "closed" }) := by
  have e : s.endItem.stk = st ++ [(n, below)] := (endItem_stk s).trans hs
  have e1 : (st ++ [(n, below)]).getLast? = some (n, below) := by simp
  have e2 : (st ++ [(n, below)]).dropLast = st := by simp
  unfold RSt.takeEnd
  show (match s.endItem.stk.getLast? with | some (n, below) => if (41 : Nat) = 41 then (true, { ({ s.endItem with form := "begin", stk := s.endItem.stk.dropLast, cur := below } : RSt).put (rep n s.endItem.cur) with form := "closed" }) else _ | none => _) = _
  rw [e, e1, e2]
  exact if_pos rfl
theorem ok_take_end (F : Fun K "take_end" "Reader.take_end" s_Reader_take_end f fd) (T : TX mg) (c : RC K C) (M_end_item : MetG P w K mg base 3 C "end_item" ["self"] (spEndItem C)) (M_put : MetG P w K mg base 2 C "put" ["self", "events"] (spPut C)) :
    FnG P w K mg base 4 f fd ["self", "sign"] (spOf K (spTk C (fun c s => s.takeEnd c) fun _ _ => True)) := by
  have S := S_Reader_take_end
  refine okG F S (fun ds G Q E ⟨_, _, _, _, _, _, e, _⟩ => by rw [e]; rfl) fun cdv A outer s H E hr tk => ?_
  refine ⟨_, (pss_cons (ps_expr (k_m0 M_end_item rfl rfl rfl rfl rfl hr (by decide) tk (pv 0)))
  (pss_cons (ps_fld (pv 0) pe_str (by rfl))
  (pss_cons (ps_if (PW.pt (pw_and (pt_cmpR (k_opd_eq (K := K) rfl hr.rm.units) (pv 1) pe_str (nomark _)) (pw_and1 (pt_cmpR (k_opd_ne (K := K) rfl hr.rm.units) (k_fld (K := K) rfl (pv 0)) (pe_lst pa_nil) (nomark _))))) (pss_cons (ps_par (i := 2) (j := 3) rfl S.nd rfl rfl (by decide) rfl rfl (pa_cons (pe_bm0 PySem.F.plainAttrs_list PySem.F.slot_list_pop PySem.F.type_list_pop (k_mtd_pop0 (K := K) rfl) (k_fld (K := K) rfl (pv 0))) (pa_cons (pe_bm0 PySem.F.plainAttrs_list PySem.F.slot_list_pop PySem.F.type_list_pop (k_mtd_pop0 (K := K) rfl) (k_fld (K := K) rfl (pv 0))) pa_nil)) (by rfl))
  (pss_cons (ps_expr (k_m M_put rfl rfl rfl rfl rfl hr (by decide) tk (pv 0) (pa_cons (pe_op (k_opd_mul (K := K) rfl) (pv 2) (pv 3)) pa_nil)))
  (pss_cons (ps_fld (pv 0) pe_str (by rfl))
  (pss_one (ps_ret pe_bl))))) pss_nil)
  (pss_one (ps_ret (pe_cmpR (k_opd_eq (K := K) rfl hr.rm.units) (pv 1) pe_str (nomark _))))))), ?_⟩
  rintro ds G QD ED ⟨p, po, pl, qs, s, sg, rfl, h, ok, -, q⟩ hW
  replace q : ∀ G' qs', RAt C p po pl qs' G' (s.takeEnd sg).2 → Fr [p, po, pl] G G' → QD (.bl (s.takeEnd sg).1) G' := q
  refine rd_seq (rd_drop (rd_m hW (rd_var rfl ⟨p, _, rfl, h.ob, rf_no (by decide +kernel) (by decide +kernel) (by decide +kernel) (by decide +kernel), rd_nil ⟨p, po, pl, qs, s, rfl, h, ok, fun G1 qs1 h1 f1 => ?_⟩⟩)))
  have f1 : Fr [p, po, pl] G G1 := f1.mono (by intro a h; simp at h ⊢; rcases h with h | h <;> simp [h])
  refine rd_seq (rd_sfld (rd_str (rd_var rfl ⟨p, C, _, rfl, h1.ob, c.cl, c.n1, by show 4 < 1000; decide, ?_⟩)))
  rw [rf_pform]
  have h2 := h1.setF (s' := { s.endItem with form := "begin" }) rfl rfl
  have f2 : Fr [p, po, pl] G (put G1 p (.ins C (rflds "begin" (SS s.endItem.word) po pl))) := f1.trans (fr_put (by simp))
  generalize put G1 p (.ins C (rflds "begin" (SS s.endItem.word) po pl)) = G2 at h2 f2
  have hstk : ({ s.endItem with form := "begin" } : RSt).stk = s.stk := endItem_stk s
  -- no end of a bracket
  have plain : ∀ G3 : HD, Sub G2 G3 → s.takeEnd sg = (decide (sg = 32), { s.endItem with form := "begin" }) → RdE K H (tOp (lf2 K REq) (tVar 1) (tC (V.str (Str.ofString " ")))) (startD N_Reader_take_end [.ref p, .str (SS [sg])]) G3 (Wk QD) := fun G3 s3 eg => by
    rw [eg] at q
    exact rd_ev _ (ev_op (ev_var rfl) ev_str (req_str (ss_eq sg 32))) ⟨_, Sub.refl _, q _ _ (h2.sub s3) (f2.trans (fr_sub s3))⟩
  refine rd_seq (rd_ifS (rd_and (rd_tv _ (tv_test (ev_op (ev_var rfl) ev_str (req_str (ss_eq sg 41)))) ?_)))
  by_cases h41 : sg = 41
  · rw [show (if false = true then !decide (sg = 41) else decide (sg = 41)) = true from by rw [if_neg Bool.false_ne_true, decide_eq_true h41]]
    refine iteT (rd_test (rd_op (rd_ev _ (ev_fld (ev_var rfl) h2.ob c.cl c.n3 rf_open) (rd_lst (rd_nil ⟨by show 0 ≤ sizeLine; decide, fun p1 hp1 => ?_⟩)))))
    have s3 : Sub G2 (put G2 p1 (.lst [])) := Sub.put hp1
    have h3 := h2.sub s3
    refine req_ints0 h3.ti put_same ⟨_, rfl, ?_⟩
    rcases List.eq_nil_or_concat s.stk with hs | ⟨st, nb, hs⟩
    · have e0 : decide ((({ s.endItem with form := "begin" } : RSt).stk.map (·.1)) = []) = true := by rw [hstk, hs]; rfl
      rw [e0]
      refine iteF (rd_next (rd_ret (plain _ s3 ?_)))
      exact takeEnd_no (.inl hs)
    · obtain ⟨n, below⟩ := nb
      rw [List.concat_eq_append] at hs
      have e0 : decide ((({ s.endItem with form := "begin" } : RSt).stk.map (·.1)) = []) = false := by rw [hstk, hs]; simp
      rw [e0]
      subst h41
      have eg := takeEnd_pop hs
      rw [eg] at q
      obtain ⟨qi, qc, eqs, -, hqn, hqm, hqc⟩ := paired_snoc h3.ql
      subst eqs
      have hb := ok.sl (n, below) (by rw [hs]; simp)
      have hc := endItem_cur s ok.cl
      have hpop := h3.pop (st := st) (n := n) (below := below) (l0 := (((({ s.endItem with form := "begin" } : RSt).stk.map (·.1)).map D.int)).dropLast) (l1 := ((qi ++ [qc]).map D.ref).dropLast) (by rw [hstk, hs]) (by rw [hstk, hs]; simp) (by simp)
      refine iteT (rd_seq (rd_par (rd_cons (rd_bml0 (rd_ev _ (ev_fld (ev_var rfl) h3.ob c.cl c.n4 rf_lists) ⟨pl, _, rfl, h3.ls, pl, _, .ref qc, rfl, rfl, h3.ls, by simp, ?_⟩)))))
      have hob4 : ∀ o, put (put G2 p1 (.lst [])) pl o p = some (.ins C (rflds "begin" (SS s.endItem.word) po pl)) := fun o => by rw [put_ne h3.p_pl]; exact h3.ob
      have hti4 : ∀ o, put (put G2 p1 (.lst [])) pl o po = some (.lst ((({ s.endItem with form := "begin" } : RSt).stk.map (·.1)).map D.int)) := fun o => by rw [put_ne h3.ne]; exact h3.ti
      refine rd_cons (rd_bml0 (rd_ev _ (ev_fld (ev_var rfl) (hob4 _) c.cl c.n3 rf_open) ⟨po, _, rfl, hti4 _, po, _, .int n, rfl, rfl, hti4 _, by rw [hstk, hs]; simp, rd_nil ⟨_, _, rfl, ?_⟩⟩))
      have hqc5 : put (put (put G2 p1 (.lst [])) pl (.lst ((qi ++ [qc]).map D.ref).dropLast)) po (.lst (((({ s.endItem with form := "begin" } : RSt).stk.map (·.1)).map D.int)).dropLast) qc = some (.lst (s.endItem.cur.map D.str)) := by
        rw [put_ne hqn, put_ne hqm]; exact hqc
      refine rd_seq (rd_drop (rd_m hW (rd_var rfl ⟨p, _, rfl, hpop.ob, rf_no (by decide +kernel) (by decide +kernel) (by decide +kernel) (by decide +kernel), rd_cons (rd_op (rd_var rfl (rd_var rfl ⟨_, hqc5, by omega, by omega, ?_, fun p2 hp2 => rd_nil ?_⟩)))⟩)))
      · rw [List.length_map, sizeLine_eq]
        have : s.endItem.cur.length * n.toNat ≤ 201 * 10 ^ 4 := Nat.mul_le_mul hc (by omega)
        omega
      · refine ⟨p, po, pl, _, _, p2, rep n s.endItem.cur, rfl, hpop.sub (Sub.put hp2), by rw [put_same, rep_map], ?_, fun G6 qs6 h6 f6 => ?_⟩
        · rw [rep_len, sizeLine_eq]
          have h1 : n.toNat * s.endItem.cur.length ≤ 10 ^ 4 * 201 := Nat.mul_le_mul (by omega) hc
          have h2 : below.length ≤ 201 := hb.1
          show below.length + _ ≤ _
          omega
        · refine rd_seq (rd_sfld (rd_str (rd_var rfl ⟨p, C, _, rfl, h6.ob, c.cl, c.n1, by show 4 < 1000; decide, ?_⟩)))
          rw [rf_pform]
          have h7 := h6.setF (s' := { ({ s.endItem with form := "begin", stk := st, cur := below } : RSt).put (rep n s.endItem.cur) with form := "closed" }) rfl rfl
          refine rd_ret (rd_bl ⟨_, Sub.refl _, q _ _ h7 (fun a o e n => ?_)⟩)
          have e2 := s3 a o (f2 a o e n)
          simp only [List.mem_cons, List.not_mem_nil, or_false, not_or] at n
          rw [put_ne n.1]
          refine f6 a o (Sub.put hp2 a o ?_) (by simp [n])
          rw [put_ne n.2.1, put_ne n.2.2]
          exact e2
  · rw [show (if false = true then !decide (sg = 41) else decide (sg = 41)) = false from by rw [if_neg Bool.false_ne_true, decide_eq_false h41]]
    refine iteF (iteF (rd_next (rd_ret (plain _ (Sub.refl _) ?_))))
    exact takeEnd_no (.inr h41)

theorem ok_take (F : Fun K "take" "Reader.take" s_Reader_take f fd) (T : TX mg) (c : RC K C) (M_take_begin : MetG P w K mg base 2 C "take_begin" ["self", "sign"] (spTk C (fun c s => s.takeBegin c) fun _ _ => True)) (M_take_number : MetG P w K mg base 2 C "take_number" ["self", "sign"] (spTk C (fun c s => s.takeNumber c) fun _ s => s.form = "number"))
    (M_take_star : MetG P w K mg base 2 C "take_star" ["self", "sign"] (spTk C (fun c s => s.takeStar c) fun _ s => s.form = "star")) (M_take_end : MetG P w K mg base 4 C "take_end" ["self", "sign"] (spTk C (fun c s => s.takeEnd c) fun _ _ => True)) :
    FnG P w K mg base 5 f fd ["self", "sign"] (spOf K (spTk C (fun c s => s.take c) fun _ _ => True)) := by
  have S := S_Reader_take
  refine okG F S (fun ds G Q E ⟨_, _, _, _, _, _, e, _⟩ => by rw [e]; rfl) fun cdv A outer s H E hr tk => ?_
  refine ⟨_, (pss_cons (ps_if (pt_cmpR (k_opd_eq (K := K) rfl hr.rm.units) (k_fld (K := K) rfl (pv 0)) pe_str (nomark _)) (pss_one (ps_ret (k_m M_take_begin rfl rfl rfl rfl rfl hr (by decide) tk (pv 0) (pa_cons (pv 1) pa_nil)))) pss_nil)
  (pss_cons (ps_if (pt_cmpR (k_opd_eq (K := K) rfl hr.rm.units) (k_fld (K := K) rfl (pv 0)) pe_str (nomark _)) (pss_one (ps_ret (k_m M_take_number rfl rfl rfl rfl rfl hr (by decide) tk (pv 0) (pa_cons (pv 1) pa_nil)))) pss_nil)
  (pss_cons (ps_if (pt_cmpR (k_opd_eq (K := K) rfl hr.rm.units) (k_fld (K := K) rfl (pv 0)) pe_str (nomark _)) (pss_one (ps_ret (k_m M_take_star rfl rfl rfl rfl rfl hr (by decide) tk (pv 0) (pa_cons (pv 1) pa_nil)))) pss_nil)
  (pss_cons (ps_if (PW.pt (pw_and (pt_cmpR (k_opd_eq (K := K) rfl hr.rm.units) (k_fld (K := K) rfl (pv 0)) pe_str (nomark _)) (pw_and1 (pt_cmpR (k_opd_in (K := K) rfl (room_hu1 hr)) (pv 1) (C8.pe_gc rfl T.g_LETTERS) (by rfl))))) (pss_cons (ps_fldaug (pv 0) (pv 1) (inop_of (k_iadd (K := K) rfl)))
  (pss_one (ps_ret (pe_cmpR (k_opd_le (K := K) rfl) (pe_callB (k_crd_len (K := K) rfl) rfl T.m_len (by rfl) (pa_cons (k_fld (K := K) rfl (pv 0)) pa_nil)) (C8.pe_gc rfl T.g_LONGEST_NAME) (nomark _))))) pss_nil)
  (pss_one (ps_ret (k_m M_take_end rfl rfl rfl rfl rfl hr (by decide) tk (pv 0) (pa_cons (pv 1) pa_nil)))))))), ?_⟩
  rintro ds G QD ED ⟨p, po, pl, qs, s, sg, rfl, h, ok, -, q⟩ hW
  replace q : ∀ G' qs', RAt C p po pl qs' G' (s.take sg).2 → Fr [p, po, pl] G G' → QD (.bl (s.take sg).1) G' := q
  refine rd_seq (rd_ifv _ (tv_test (ev_op (ev_fld (ev_var rfl) h.ob c.cl c.n1 rf_form) ev_str (req_str rfl))) (fun hb => ?_) (fun hb => rd_next ?_))
  · have hf : s.form = "begin" := of_decide_eq_true hb
    rw [show s.take sg = s.takeBegin sg from if_pos hf] at q
    exact rd_ret (rd_m hW (rd_var rfl ⟨p, _, rfl, h.ob, rf_no (by decide +kernel) (by decide +kernel) (by decide +kernel) (by decide +kernel), rd_cons (rd_var rfl (rd_nil ⟨p, po, pl, qs, s, sg, rfl, h, ok, trivial, fun G' qs' hR hF => ⟨_, Sub.refl _, q _ _ hR hF⟩⟩))⟩))
  have nf1 : ¬ s.form = "begin" := fun z => by
    have hb : decide (s.form = "begin") = false := hb
    rw [decide_eq_true z] at hb; cases hb
  refine rd_seq (rd_ifv _ (tv_test (ev_op (ev_fld (ev_var rfl) h.ob c.cl c.n1 rf_form) ev_str (req_str rfl))) (fun hb => ?_) (fun hb => rd_next ?_))
  · have hf : s.form = "number" := of_decide_eq_true hb
    rw [show s.take sg = s.takeNumber sg from (if_neg nf1).trans (if_pos hf)] at q
    exact rd_ret (rd_m hW (rd_var rfl ⟨p, _, rfl, h.ob, rf_no (by decide +kernel) (by decide +kernel) (by decide +kernel) (by decide +kernel), rd_cons (rd_var rfl (rd_nil ⟨p, po, pl, qs, s, sg, rfl, h, ok, hf, fun G' qs' hR hF => ⟨_, Sub.refl _, q _ _ hR hF⟩⟩))⟩))
  have nf2 : ¬ s.form = "number" := fun z => by
    have hb : decide (s.form = "number") = false := hb
    rw [decide_eq_true z] at hb; cases hb
  refine rd_seq (rd_ifv _ (tv_test (ev_op (ev_fld (ev_var rfl) h.ob c.cl c.n1 rf_form) ev_str (req_str rfl))) (fun hb => ?_) (fun hb => rd_next ?_))
  · have hf : s.form = "star" := of_decide_eq_true hb
    rw [show s.take sg = s.takeStar sg from (if_neg nf1).trans ((if_neg nf2).trans (if_pos hf))] at q
    exact rd_ret (rd_m hW (rd_var rfl ⟨p, _, rfl, h.ob, rf_no (by decide +kernel) (by decide +kernel) (by decide +kernel) (by decide +kernel), rd_cons (rd_var rfl (rd_nil ⟨p, po, pl, qs, s, sg, rfl, h, ok, hf, fun G' qs' hR hF => ⟨_, Sub.refl _, q _ _ hR hF⟩⟩))⟩))
  have nf3 : ¬ s.form = "star" := fun z => by
    have hb : decide (s.form = "star") = false := hb
    rw [decide_eq_true z] at hb; cases hb
  refine rd_seq (rd_ifv _ (tv_and (tv_test (ev_op (ev_fld (ev_var rfl) h.ob c.cl c.n1 rf_form) ev_str (req_str rfl))) fun _ => tv_test (ev_op (ev_var rfl) ev_str (rin_str (sub_let sg)))) (fun hb => ?_) (fun hb => rd_next ?_))
  · have hb : (decide (s.form = "name") && isLet sg) = true := hb
    simp only [Bool.and_eq_true, decide_eq_true_eq] at hb
    have hwl := ok.wl
    have hR := h.setF (s' := { s with word := s.word ++ [sg] }) rfl rfl
    rw [show s.take sg = (decide ((s.word.length + 1 : Int) ≤ 6), { s with word := s.word ++ [sg] }) from (if_neg nf1).trans ((if_neg nf2).trans ((if_neg nf3).trans (if_pos hb)))] at q
    refine rd_seq (rd_sfldaug (rd_var rfl ⟨p, C, _, _, rfl, h.ob, c.cl, c.n2, rf_word, rd_var rfl ⟨?_, _, h.ob, by show 4 < 1000; decide, ?_⟩⟩))
    · rw [SS_len, SS_len, sizeLine_eq]
      show _ + 1 ≤ _
      omega
    · rw [SS_cat, rf_pword]
      have e : (((SS (s.word ++ [sg])).length : Nat) : Int) = (s.word.length : Int) + 1 := by rw [SS_len]; simp
      refine rd_ret (rd_op (rd_cb (rd_cons (rd_ev _ (ev_fld (ev_var rfl) hR.ob c.cl c.n2 rf_word) (rd_nil ⟨_, rfl, by rw [SS_len, sizeLine_eq]; simp; omega, rd_int ?_⟩)))))
      rw [e]
      exact ⟨_, Sub.refl _, q _ qs hR (fr_put (by simp))⟩
  · have nf4 : ¬ (s.form = "name" ∧ isLet sg = true) := fun z => by
      have hb : (decide (s.form = "name") && isLet sg) = false := hb
      rw [decide_eq_true z.1, z.2] at hb; cases hb
    rw [show s.take sg = s.takeEnd sg from (if_neg nf1).trans ((if_neg nf2).trans ((if_neg nf3).trans (if_neg nf4)))] at q
    exact rd_ret (rd_m hW (rd_var rfl ⟨p, _, rfl, h.ob, rf_no (by decide +kernel) (by decide +kernel) (by decide +kernel) (by decide +kernel), rd_cons (rd_var rfl (rd_nil ⟨p, po, pl, qs, s, sg, rfl, h, ok, trivial, fun G' qs' hR hF => ⟨_, Sub.refl _, q _ _ hR hF⟩⟩))⟩))
def spCanEnd (C : Addr) : SpD := fun ds G QD _ => ∃ p po pl qs s, ds = [.ref p] ∧ RAt C p po pl qs G s ∧ QD (.bl s.canEnd) G
theorem ok_can_end (F : Fun K "can_end" "Reader.can_end" s_Reader_can_end f fd) (T : TX mg) (c : RC K C) : FnG P w K mg base 2 f fd ["self"] (spOf K (spCanEnd C)) := by
  have S := S_Reader_can_end
  refine okG F S (fun ds G Q E ⟨_, _, _, _, _, e, _⟩ => by rw [e]; rfl) fun cdv A outer s H E hr tk => ?_
  refine ⟨_, (pss_one (ps_ret (pe_and (pe_cmpR (k_opd_in (K := K) rfl (room_hu1 hr)) (k_fld (K := K) rfl (pv 0)) (pe_tup (pa_cons pe_str (pa_cons pe_str pa_nil))) (by rfl)) (pe_one (pe_cmpR (k_opd_eq (K := K) rfl hr.rm.units) (k_fld (K := K) rfl (pv 0)) (pe_lst pa_nil) (nomark _)))))), ?_⟩
  rintro ds G QD ED ⟨p, po, pl, qs, s, rfl, h, q⟩ hW
  refine rd_ret (rd_andV (rd_op (rd_ev _ (ev_fld (ev_var rfl) h.ob c.cl c.n1 rf_form) (rd_tup (rd_cons (rd_str (rd_cons (rd_str (rd_nil ⟨by show 2 ≤ sizeLine; decide, rfl, rfl, ?_⟩)))))))))
  have e1 : bneg false (inD (.str s.form) [.str (Str.ofString "name"), .str (Str.ofString "closed")]) = (decide (s.form = "name") || decide (s.form = "closed")) := by
    have d1 : decide (("name" : Str) = s.form) = decide (s.form = "name") := decide_eq_decide.mpr ⟨fun h => h.symm, fun h => h.symm⟩
    have d2 : decide (("closed" : Str) = s.form) = decide (s.form = "closed") := decide_eq_decide.mpr ⟨fun h => h.symm, fun h => h.symm⟩
    show (decide (("name" : Str) = s.form) || (decide (("closed" : Str) = s.form) || false)) = _
    rw [Bool.or_false, d1, d2]
  rw [e1]
  refine ⟨_, rfl, ?_⟩
  cases hb : (decide (s.form = "name") || decide (s.form = "closed")) with
  | false => exact iteF ⟨_, Sub.refl _, by rw [RSt.canEnd, hb] at q; exact q⟩
  | true =>
    refine iteT (rd_op (rd_ev _ (ev_fld (ev_var rfl) h.ob c.cl c.n3 rf_open) (rd_lst (rd_nil ⟨by show 0 ≤ sizeLine; decide, fun p1 hp1 => ?_⟩))))
    refine req_ints0 (Sub.put hp1 _ _ h.ti) put_same ⟨G, Sub.put hp1, ?_⟩
    have e2 : decide (s.stk.map (·.1) = []) = decide (s.stk = []) := by simp
    rw [RSt.canEnd, hb, Bool.true_and] at q
    rw [e2]; exact q
theorem rf_init {f w : Str} {po pl : Addr} : putFD "lists" (.ref pl) (putFD "open_times" (.ref po) (putFD "word" (.str w) (putFD "form" (.str f) []))) = rflds f w po pl := by
  simp [rflds, putFD, show ¬ (("form" : Str) = "word") from by decide +kernel, show ¬ (("form" : Str) = "open_times") from by decide +kernel, show ¬ (("form" : Str) = "lists") from by decide +kernel, show ¬ (("word" : Str) = "open_times") from by decide +kernel, show ¬ (("word" : Str) = "lists") from by decide +kernel, show ¬ (("open_times" : Str) = "lists") from by decide +kernel]
def RSt.init : RSt := ⟨"begin", [], [], []⟩
def spInit (C : Addr) : SpD := fun ds G QD _ => ∃ p, ds = [.ref p] ∧ G p = some (.ins C []) ∧ ∀ G' po pl qs, RAt C p po pl qs G' RSt.init → Fr [p] G G' → G po = none → G pl = none → QD .non G'
theorem ok_init (F : Fun K "__init__" "Reader.__init__" s_Reader_init f fd) (T : TX mg) (c : RC K C) : FnG P w K mg base 1 f fd ["self"] (spOf K (spInit C)) := by
  have S := S_Reader_init
  refine okG F S (fun ds G Q E ⟨_, e, _⟩ => by rw [e]; rfl) fun cdv A outer s H E hr tk => ?_
  refine ⟨_, (pss_cons (ps_fld (pv 0) pe_str (by rfl))
  (pss_cons (ps_fld (pv 0) pe_str (by rfl))
  (pss_cons (ps_fld (pv 0) (pe_lst pa_nil) (by rfl))
  (pss_one (ps_fld (pv 0) (pe_lst (pa_cons (pe_lst pa_nil) pa_nil)) (by rfl)))))), ?_⟩
  rintro ds G QD ED ⟨p, rfl, h, q⟩ hW
  refine rd_seq (rd_sfld (rd_str (rd_var rfl ⟨p, C, _, rfl, h, c.cl, c.n1, by show 0 < 1000; decide, ?_⟩)))
  refine rd_seq (rd_sfld (rd_str (rd_var rfl ⟨p, C, _, rfl, put_same, c.cl, c.n2, by show 1 < 1000; decide, ?_⟩)))
  rw [put_put]
  refine rd_seq (rd_sfld (rd_lst (rd_nil ⟨by show 0 ≤ sizeLine; decide, fun po hpo => rd_var rfl ⟨p, C, _, rfl, by rw [put_ne (ne_new put_same hpo), put_same], c.cl, c.n3, by show 2 < 1000; decide, ?_⟩⟩)))
  have n1 : p ≠ po := ne_new put_same hpo
  refine rd_sfld (rd_lst (rd_cons (rd_lst (rd_nil ⟨by show 0 ≤ sizeLine; decide, fun q0 hq0 => rd_nil ⟨by show 1 ≤ sizeLine; decide, fun pl hpl => rd_var rfl ⟨p, C, _, rfl, by rw [put_ne (ne_new (Sub.put hq0 _ _ put_same) hpl), put_ne (ne_new put_same hq0), put_same], c.cl, c.n4, by show 3 < 1000; decide, _, Sub.refl _, ?_⟩⟩⟩))))
  have n2 : p ≠ q0 := ne_new put_same hq0
  have n3 : p ≠ pl := ne_new (Sub.put hq0 _ _ put_same) hpl
  have g0 : put (put G p (.ins C (putFD "word" (.str "") (putFD "form" (.str "begin") [])))) po (.lst []) po = some (.lst []) := put_same
  have n4 : po ≠ q0 := fun z => by rw [← z, put_ne n1.symm, put_same] at hq0; cases hq0
  have n5 : po ≠ pl := fun z => by rw [← z, put_ne n4, put_ne n1.symm, put_same] at hpl; cases hpl
  have n6 : q0 ≠ pl := fun z => by rw [← z, put_same] at hpl; cases hpl
  have gpo : G po = none := by rw [put_ne n1.symm] at hpo; exact hpo
  have gpl : G pl = none := by rw [put_ne n6.symm, put_ne n3.symm, put_ne n5.symm, put_ne n3.symm] at hpl; exact hpl
  have gq0 : G q0 = none := by rw [put_ne n2.symm, put_ne n4.symm, put_ne n2.symm] at hq0; exact hq0
  rw [rf_init]
  refine q _ po pl [q0] ⟨put_same, ?_, ?_, ?_, n5⟩ (fun a o e n => ?_) gpo gpl
  · rw [put_ne n1.symm, put_ne n5, put_ne n4, put_ne n1.symm, put_same]; rfl
  · rw [put_ne n3.symm, put_same]; rfl
  · refine .cons ⟨n4.symm, n6, ?_⟩ .nil
    rw [put_ne n2.symm, put_ne n6, put_same]; rfl
  · have m1 : a ≠ p := fun z => n (by simp [z])
    rw [put_ne m1, put_ne (ne_new e gpl), put_ne (ne_new e gq0), put_ne m1, put_ne (ne_new e gpo), put_ne m1]
    exact e
end
end Dd
set_option Elab.async false
set_option linter.all false
set_option maxRecDepth 100000
/-! L4: read_log. -/
namespace Dd
open PySem PySem.Spec L2
open PyProof.Rows hiding St

/-! ### the machine keeps its shape -/
theorem dv_snoc (w : List Nat) (c : Nat) : dv (w ++ [c]) = dv w * 10 + (c - 48) := by
  unfold dv NumText.digitsVal
  rw [List.foldl_append]; rfl
theorem nb_num : ¬ (("begin" : Str) = "number" ∨ ("begin" : Str) = "star") := by decide +kernel
theorem nc_num : ¬ (("closed" : Str) = "number" ∨ ("closed" : Str) = "star") := by decide +kernel
theorem nn_num : ¬ (("name" : Str) = "number" ∨ ("name" : Str) = "star") := by decide +kernel
theorem RSt.Ok.endItem {s : RSt} (o : s.Ok) : ({ s.endItem with form := "begin" } : RSt).Ok := by
  have h1 := endItem_stk s
  have h2 := endItem_cur s o.cl
  have h3 : s.endItem.word = [] := rfl
  exact ⟨by show s.endItem.word.length ≤ 100; rw [h3]; decide, fun h => absurd h nb_num, h2, by show ∀ x ∈ s.endItem.stk, _; rw [h1]; exact o.sl, by show s.endItem.stk.length ≤ 6; rw [h1]; exact o.sn, fun h => absurd h nb_num⟩
theorem take_ok {s : RSt} {c : Nat} (o : s.Ok) (h : (s.take c).1 = true) : (s.take c).2.Ok := by
  unfold RSt.take at h ⊢
  split at h
  · rename_i hf
    rw [if_pos hf]
    unfold RSt.takeBegin at h ⊢
    split at h
    · cases h
    · rename_i hn
      rw [if_neg hn]
      simp only [Bool.and_eq_true, Bool.not_eq_true', Bool.and_eq_false_iff, not_and, Bool.not_eq_false, decide_eq_true_eq] at hn
      cases hl : isLet c with
      | true => exact ⟨by show 1 ≤ 100; decide, fun h => absurd h nn_num, o.cl, o.sl, o.sn, fun h => absurd h nn_num⟩
      | false =>
        have hfig := hn hl
        have h1 : isFig c = true := by
          cases hf : isFig c with
          | true => rfl
          | false => rw [hf] at hfig; simp at hfig
        rw [h1] at hfig
        simp only [Bool.true_and, Bool.and_eq_true, Bool.not_eq_true', decide_eq_false_iff_not, decide_eq_true_eq, reduceCtorEq, false_or, Bool.not_true, Bool.false_eq_true] at hfig
        have h48 := isFig_iff c
        rw [h1] at h48
        have h48 := (Bool.and_eq_true_iff.mp h48.symm)
        simp only [decide_eq_true_eq] at h48
        have hc : ¬ c = 48 ∧ s.stk.length < 6 := by
          simp only [Bool.not_eq_true, Bool.and_eq_false_iff, Bool.not_eq_false', decide_eq_true_eq, decide_eq_false_iff_not, not_or] at hfig
          omega
        have e1 : dv [c] = c - 48 := by unfold dv NumText.digitsVal; simp
        refine ⟨by show 1 ≤ 100; decide, fun _ => ⟨by simp, ?_⟩, o.cl, o.sl, o.sn, fun _ => ⟨by show s.stk.length ≤ 5; omega, by show dv [c] ≤ 200; rw [e1]; omega, by show 1 ≤ 3; decide, by show 10 ^ (1 - 1) ≤ dv [c]; rw [e1]; simp; omega⟩⟩
        show ([c].all fun c => decide (48 ≤ c) && decide (c ≤ 57)) = true
        simp [h48]
  · rename_i hf0
    rw [if_neg hf0]
    split at h
    · rename_i hf
      rw [if_pos hf]
      obtain ⟨d1, d2⟩ := o.dig (.inl hf)
      obtain ⟨t1, t2, t3, t4⟩ := o.s5 (.inl hf)
      unfold RSt.takeNumber at h ⊢
      split at h
      · rename_i hg
        rw [if_pos hg]
        simp only [decide_eq_true_eq] at h
        have h48 := isFig_iff c
        rw [hg] at h48
        have hall : (s.word ++ [c]).all (fun c => decide (48 ≤ c) && decide (c ≤ 57)) = true := by rw [List.all_append, d2, List.all_cons, List.all_nil, ← h48]; rfl
        have e1 := dv_snoc s.word c
        have hlen : s.word.length ≤ 2 := by
          rcases Nat.lt_or_ge s.word.length 3 with z | z
          · omega
          · have : s.word.length = 3 := by omega
            rw [this] at t4
            omega
        have hpos : 1 ≤ s.word.length := by
          cases hw : s.word with
          | nil => exact absurd hw d1
          | cons _ _ => simp
        have hpow : 10 ^ (s.word.length + 1 - 1) ≤ dv s.word * 10 := by
          have : s.word.length + 1 - 1 = (s.word.length - 1) + 1 := by omega
          rw [this, Nat.pow_succ]
          exact Nat.mul_le_mul t4 (Nat.le_refl _)
        exact ⟨by show (s.word ++ [c]).length ≤ 100; simp; omega, fun _ => ⟨by simp, hall⟩, o.cl, o.sl, o.sn, fun _ => ⟨t1, by show dv (s.word ++ [c]) ≤ 200; omega, by show (s.word ++ [c]).length ≤ 3; simp; omega, by
          show 10 ^ ((s.word ++ [c]).length - 1) ≤ dv (s.word ++ [c])
          rw [List.length_append, e1]
          show 10 ^ (s.word.length + 1 - 1) ≤ _
          omega⟩⟩
      · rename_i hg
        rw [if_neg hg]
        exact ⟨o.wl, fun _ => ⟨d1, d2⟩, o.cl, o.sl, o.sn, fun _ => ⟨t1, t2, t3, t4⟩⟩
    · rename_i hf1
      rw [if_neg hf1]
      split at h
      · rename_i hf
        rw [if_pos hf]
        obtain ⟨t1, t2, t3, t4⟩ := o.s5 (.inr hf)
        refine ⟨by show 0 ≤ 100; decide, fun h => absurd h nb_num, by show 0 ≤ 201; decide, fun x hx => ?_, by show (s.stk ++ [_]).length ≤ 6; simp; omega, fun h => absurd h nb_num⟩
        rcases List.mem_append.mp hx with z | z
        · exact o.sl x z
        · have : x = ((dv s.word : Int), s.cur) := by simpa using z
          subst this
          exact ⟨o.cl, by show (0 : Int) ≤ (dv s.word : Nat); omega, by show ((dv s.word : Nat) : Int) ≤ 10 ^ 4; omega⟩
      · rename_i hf2
        rw [if_neg hf2]
        split at h
        · rename_i hf
          rw [if_pos hf]
          simp only [decide_eq_true_eq] at h
          have hn : ¬ (s.form = "number" ∨ s.form = "star") := fun z => by rw [hf.1] at z; exact nn_num z
          exact ⟨by show (s.word ++ [c]).length ≤ 100; simp; omega, fun h => absurd h hn, o.cl, o.sl, o.sn, fun h => absurd h hn⟩
        · rename_i hf3
          rw [if_neg hf3]
          by_cases hc : s.stk = [] ∨ c ≠ 41
          · rw [takeEnd_no hc]; exact o.endItem
          · simp only [not_or, Decidable.not_not] at hc
            obtain ⟨hc1, rfl⟩ := hc
            rcases List.eq_nil_or_concat s.stk with hs | ⟨st, nb, hs⟩
            · exact absurd hs hc1
            · obtain ⟨n, below⟩ := nb
              rw [List.concat_eq_append] at hs
              rw [takeEnd_pop hs]
              have hsn := o.sn
              rw [hs] at hsn
              simp at hsn
              exact ⟨by show 0 ≤ 100; decide, fun h => absurd h nc_num, by show (List.take 201 _).length ≤ 201; rw [List.length_take]; omega, fun x hx => o.sl x (by rw [hs]; exact List.mem_append_left _ hx), by show st.length ≤ 6; omega, fun h => absurd h nc_num⟩
theorem init_ok : RSt.init.Ok := ⟨by decide, fun h => absurd h nb_num, by decide, fun x hx => (by cases hx), by decide, fun h => absurd h nb_num⟩

/-! ### over a text -/
def RSt.runL : List Nat → RSt → Option RSt
  | [], s => some s
  | c :: cs, s => if (s.take c).1 = true then RSt.runL cs (s.take c).2 else none
/-- where it stops, or what it is behind all -/
def RSt.run : List Nat → Nat → RSt → Nat ⊕ RSt
  | [], _, s => .inr s
  | c :: cs, i, s => if (s.take c).1 = true then RSt.run cs (i + 1) (s.take c).2 else .inl i
theorem runL_ok : ∀ {cs : List Nat} {s s' : RSt}, s.Ok → RSt.runL cs s = some s' → s'.Ok
  | [], s, s', o, h => by cases h; exact o
  | c :: cs, s, s', o, h => by
    unfold RSt.runL at h
    split at h
    · rename_i hc; exact runL_ok (take_ok o hc) h
    · cases h
theorem runL_snoc : ∀ {cs : List Nat} {c : Nat} {s s' : RSt}, RSt.runL cs s = some s' → (s'.take c).1 = true → RSt.runL (cs ++ [c]) s = some (s'.take c).2
  | [], c, s, s', h, hc => by cases h; show (if _ then _ else _) = _; rw [if_pos hc]; rfl
  | a :: cs, c, s, s', h, hc => by
    unfold RSt.runL at h
    split at h
    · rename_i ha
      show (if _ then _ else _) = _
      rw [if_pos ha]
      exact runL_snoc h hc
    · cases h
theorem run_all : ∀ {cs : List Nat} {i : Nat} {s s' : RSt}, RSt.runL cs s = some s' → RSt.run cs i s = .inr s'
  | [], i, s, s', h => by cases h; rfl
  | c :: cs, i, s, s', h => by
    unfold RSt.runL at h
    split at h
    · rename_i ha
      show (if _ then _ else _) = _
      rw [if_pos ha]
      exact run_all h
    · cases h
theorem run_stop : ∀ {cs : List Nat} {i j c : Nat} {s s' : RSt}, RSt.runL (cs.take i) s = some s' → cs[i]? = some c → (s'.take c).1 = false → RSt.run cs j s = .inl (j + i)
  | [], i, j, c, s, s', h, hc, hf => by cases hc
  | a :: cs, 0, j, c, s, s', h, hc, hf => by
    cases h
    cases hc
    show (if _ then _ else _) = _
    rw [if_neg (by rw [hf]; exact Bool.false_ne_true)]
    rfl
  | a :: cs, i + 1, j, c, s, s', h, hc, hf => by
    rw [List.take_succ_cons] at h
    unfold RSt.runL at h
    split at h
    · rename_i ha
      show (if _ then _ else _) = _
      rw [if_pos ha]
      have := run_stop (j := j + 1) h hc hf
      rw [this]
      congr 1
      omega
    · cases h
inductive RL where | bad (i : Nat) | many | ok (xs : List Str)
def readLog (cs : List Nat) : RL := match RSt.run cs 0 RSt.init with
  | .inl i => .bad i
  | .inr s => if cs ≠ [] ∧ s.canEnd = false then .bad cs.length else if s.endItem.cur.length > 200 then .many else .ok s.endItem.cur
section
variable {P : Program} {w : World} {K : PySem.W.Frag} {mg : Str → Option Value} {base : Heap} {f C CB CM : Addr} {fd : FuncData}
def spReadLog (CB CM : Addr) (K : PySem.W.Frag) : SpD := fun ds G QD ED => ∃ d, ds = [d] ∧
  ((∃ cs : List Nat, d = .str (SS cs) ∧ cs.length ≤ 4000000 ∧ match readLog cs with
    | .bad i => ED CB [("at", .int (i : Nat))] G
    | .many => ED CM [("limit", .int 200)] G
    | .ok xs => QD (.tup (xs.map D.str)) G) ∨
   (∃ n, Ty7 K G d n ∧ isTy n "str" = false ∧ ED CB [("at", .non)] G))
theorem ok_read_log (F : Fun K "read_log" "read_log" s_read_log f fd) (T : TX mg) (c : RC K C) (K_Reader : MakG P w K mg base 1 "Reader" C ["self"] (spInit C)) (M_take : MetG P w K mg base 5 C "take" ["self", "sign"] (spTk C (fun c s => s.take c) fun _ _ => True))
    (M_can_end : MetG P w K mg base 2 C "can_end" ["self"] (spCanEnd C)) (M_end_item : MetG P w K mg base 3 C "end_item" ["self"] (spEndItem C)) (E_BadText : ErrG P w K mg base "BadText" CB "at") (E_TooMany : ErrG P w K mg base "TooMany" CM "limit") :
    FnG P w K mg base 6 f fd ["text"] (spOf K (spReadLog CB CM K)) := by
  have S := S_read_log
  refine okG F S (fun ds G Q E ⟨_, e, _⟩ => by rw [e]; rfl) fun cdv A outer s H E hr tk => ?_
  refine ⟨_, (pss_cons (ps_if (pt_not (pt_val (pe_callB (k_crd_isi (K := K) rfl) rfl T.m_isinstance (by rfl) (pa_cons (pv 0) (pa_cons (pe_bltn (v := .ty "str") rfl T.m_str rfl rfl) pa_nil))))) (pss_one (ps_raise rfl tk (pmk_G E_BadText hr (by decide) rfl (pa_cons pe_non pa_nil)))) pss_nil)
  (pss_cons (ps_set (i := 1) S.nd rfl (Or.inl rfl) (k_k0 K_Reader rfl rfl rfl rfl rfl hr (by decide) rfl tk))
  (pss_cons (ps_for PassesOwn.leaving rfl (k_enum (K := K) rfl rfl T.m_enumerate (pa_cons (pv 0) pa_nil)) (k_tup (K := K) rfl rfl (pgs_cons (pg_name (i := 2) S.nd rfl (Or.inl rfl)) (pgs_cons (pg_name (i := 3) S.nd rfl (Or.inl rfl)) pgs_nil))) (pss_one (ps_if (pt_not (pt_val (k_m M_take rfl rfl rfl rfl rfl hr (by decide) tk (pv 1) (pa_cons (pv 3) pa_nil)))) (pss_one (ps_raise rfl tk (pmk_G E_BadText hr (by decide) rfl (pa_cons (pv 2) pa_nil)))) pss_nil)))
  (pss_cons (ps_if (PW.pt (pw_and (pt_cmpR (k_opd_ne (K := K) rfl hr.rm.units) (pv 0) pe_str (nomark _)) (pw_and1 (pt_not (pt_val (k_m0 M_can_end rfl rfl rfl rfl rfl hr (by decide) tk (pv 1))))))) (pss_one (ps_raise rfl tk (pmk_G E_BadText hr (by decide) rfl (pa_cons (pe_callB (k_crd_len (K := K) rfl) rfl T.m_len (by rfl) (pa_cons (pv 0) pa_nil)) pa_nil)))) pss_nil)
  (pss_cons (ps_expr (k_m0 M_end_item rfl rfl rfl rfl rfl hr (by decide) tk (pv 1)))
  (pss_cons (ps_if (pt_cmpR (k_opd_gt (K := K) rfl) (pe_callB (k_crd_len (K := K) rfl) rfl T.m_len (by rfl) (pa_cons (pe_ix (k_ixd (K := K) rfl (room_hu1 hr)) (k_fld (K := K) rfl (pv 1)) pe_int (fun _ _ => rfl)) pa_nil)) (C8.pe_gc rfl T.g_MOST_EVENTS) (nomark _)) (pss_one (ps_raise rfl tk (pmk_G E_TooMany hr (by decide) rfl (pa_cons (C8.pe_gc rfl T.g_MOST_EVENTS) pa_nil)))) pss_nil)
  (pss_one (ps_ret (pe_callTy (k_crd_tuple (K := K) rfl) rfl T.m_tuple (by rfl) (pa_cons (pe_ix (k_ixd (K := K) rfl (room_hu1 hr)) (k_fld (K := K) rfl (pv 1)) pe_int (fun _ _ => rfl)) pa_nil)))))))))), ?_⟩
  rintro ds G QD ED ⟨d, rfl, hc⟩ hW
  have tyS : ∃ n, Ty7 K G d n := by
    rcases hc with ⟨cs, rfl, _⟩ | ⟨n, h, _⟩
    · exact ⟨"str", .str _, by decide⟩
    · exact ⟨n, h⟩
  obtain ⟨n, ty⟩ := tyS
  refine rd_seq (rd_ifS (rd_not (rd_tB (rd_cb (rd_cons (rd_var rfl (rd_cons (rd_ty (rd_nil ?_)))))))))
  refine ty.one (by decide) ⟨_, rfl, ?_⟩
  rw [ty.isStr]
  rcases hc with ⟨cs, rfl, hlen, hq⟩ | ⟨n', ty', hn', he⟩
  case inr =>
    have e : isStr d = false := by rw [← ty'.isStr]; exact hn'
    rw [e]
    exact iteT (rd_raise hW (rd_cons (rd_non (rd_nil ⟨_, rfl, _, Sub.refl _, he⟩))))
  case inl =>
    refine iteF (rd_next (rd_seq (rd_set (rd_k hW (rd_nil fun p hp => ⟨p, rfl, put_same, fun G1 po pl qs1 h1 f1 gpo gpl => ⟨rfl, ?_⟩⟩)))))
    have npo : G po = none := by
      have : po ≠ p := fun z => by rw [z, put_same] at gpo; cases gpo
      rw [put_ne this] at gpo; exact gpo
    have npl : G pl = none := by
      have : pl ≠ p := fun z => by rw [z, put_same] at gpl; cases gpl
      rw [put_ne this] at gpl; exact gpl
    have sub1 : Sub G G1 := fun a o e => f1 a o (Sub.put hp a o e) (by simp; exact ne_new e hp)
    have subF : ∀ {G2 G3 : HD}, Sub G G2 → Fr [p, po, pl] G2 G3 → Sub G G3 := fun s2 f2 a o e => f2 a o (s2 a o e) (by simp [ne_new e hp, ne_new e npo, ne_new e npl])
    have hsig : signs (SS cs) = cs.map fun c => D.str (SS [c]) := rfl
    have hsz : (SS cs).length ≤ sizeLine := by rw [SS_len, sizeLine_eq]; omega
    refine rd_seq (rd_for (rd_enum (rd_cons (rd_var rfl (rd_nil ⟨_, _, _, rfl, .str, ?_⟩)))))
    refine ⟨fun i S' G' => (∃ a b, S' = [some (.str (SS cs)), some (.ref p), a, b]) ∧ ∃ qs s, RSt.runL (cs.take i) RSt.init = some s ∧ RAt C p po pl qs G' s ∧ Sub G G', ⟨⟨none, none, rfl⟩, qs1, RSt.init, rfl, h1, sub1⟩, fun _ _ _ _ _ => trivial, ?_, ?_⟩
    · rintro i d' S' G' hd ⟨⟨a, b, rfl⟩, qs, s, hrun, hR, hs⟩
      obtain ⟨e, he, rfl⟩ := pairs_of hd
      rw [hsig, List.getElem?_map] at he
      obtain ⟨ch, hch, rfl⟩ := Option.map_eq_some_iff.mp he
      refine rd_gtup rfl (rd_gcons (rd_gname (rd_gcons (rd_gname (rd_gnil ?_)))))
      refine rd_ifS (rd_not (rd_tB (rd_m hW (rd_var rfl ⟨p, _, rfl, hR.ob, rf_no (by decide +kernel) (by decide +kernel) (by decide +kernel) (by decide +kernel), rd_cons (rd_var rfl (rd_nil ⟨p, po, pl, qs, s, ch, rfl, hR, runL_ok init_ok hrun, trivial, fun G2 qs2 h2 f2 => ⟨_, rfl, ?_⟩⟩))⟩))))
      cases htk : (s.take ch).1 with
      | true =>
        refine iteF (rd_next ⟨⟨_, _, rfl⟩, qs2, _, ?_, h2, subF hs f2⟩)
        rw [List.take_add_one, hch]
        exact runL_snoc hrun htk
      | false =>
        have e2 : readLog cs = .bad i := by
          unfold readLog
          rw [run_stop (j := 0) hrun hch htk, Nat.zero_add]
        rw [e2] at hq
        exact iteT (rd_raise hW (rd_cons (rd_var rfl (rd_nil ⟨_, rfl, G, subF hs f2, hq⟩))))
    · rintro S' G' ⟨⟨a, b, rfl⟩, qs, s, hrun, hR, hs⟩
      rw [pairs_len, hsig, List.length_map, List.take_length] at hrun
      have e2 : readLog cs = if cs ≠ [] ∧ s.canEnd = false then .bad cs.length else if s.endItem.cur.length > 200 then .many else .ok s.endItem.cur := by
        unfold readLog
        rw [run_all hrun]
      rw [e2] at hq
      have ok := runL_ok init_ok hrun
      have hce : decide (SS cs = Str.ofString "") = decide (cs = []) := by
        have : SS cs = SS [] ↔ cs = [] := ⟨fun h => SX.S_inj h, fun h => by rw [h]⟩
        exact decide_eq_decide.mpr this
      refine rd_seq (rd_ifv (!decide (cs = []) && !s.canEnd) (tv_and (tv_test (ev_op (ev_var rfl) ev_str (req_str hce))) fun _ => tv_not (tv_tB (rd_m hW (rd_var rfl ⟨p, _, rfl, hR.ob, rf_no (by decide +kernel) (by decide +kernel) (by decide +kernel) (by decide +kernel), rd_nil ⟨p, po, pl, qs, s, rfl, hR, rfl, rfl⟩⟩)))) (fun hb => ?_) (fun hb => rd_next ?_))
      · simp only [Bool.and_eq_true, Bool.not_eq_true', decide_eq_false_iff_not] at hb
        rw [if_pos hb] at hq
        refine rd_raise hW (rd_cons (rd_cb (rd_cons (rd_var rfl (rd_nil ⟨_, rfl, hsz, rd_nil ⟨_, rfl, G, hs, ?_⟩⟩)))))
        rw [SS_len]
        exact hq
      · have hb' : ¬ (cs ≠ [] ∧ s.canEnd = false) := fun z => by
          have : (!decide (cs = []) && !s.canEnd) = true := by rw [z.2, decide_eq_false z.1]; rfl
          rw [this] at hb; cases hb
        rw [if_neg hb'] at hq
        refine rd_seq (rd_drop (rd_m hW (rd_var rfl ⟨p, _, rfl, hR.ob, rf_no (by decide +kernel) (by decide +kernel) (by decide +kernel) (by decide +kernel), rd_nil ⟨p, po, pl, qs, s, rfl, hR, ok, fun G3 qs3 h3 f3 => ?_⟩⟩)))
        have s3 : Sub G G3 := subF hs (f3.mono (by intro a h; simp at h ⊢; rcases h with h | h <;> simp [h]))
        -- the stack is empty
        have hstk : s.stk = [] := by
          by_cases h0 : cs = []
          · subst h0
            cases hrun
            rfl
          · have hce : s.canEnd = true := by
              cases hq : s.canEnd with
              | true => rfl
              | false => exact absurd ⟨h0, hq⟩ hb'
            unfold RSt.canEnd at hce
            simp only [Bool.and_eq_true, decide_eq_true_eq] at hce
            exact hce.2
        have hl : s.endItem.lists = [] ++ [s.endItem.cur] := by
          unfold RSt.lists
          rw [endItem_stk, hstk]; rfl
        have hq3 := h3.ql
        rw [hl] at hq3
        obtain ⟨qi, qc, rfl, hqi, n1, n2, hqc⟩ := paired_snoc hq3
        cases hqi
        have hcl := endItem_cur s ok.cl
        have hls : G3 pl = some (.lst [.ref qc]) := h3.ls
        refine rd_seq (rd_ifv (decide ((200 : Int) < s.endItem.cur.length)) (tv_test (ev_op (rd_cb (rd_cons (rd_op (rd_ev _ (ev_fld (ev_var rfl) h3.ob c.cl c.n4 rf_lists) (rd_int (.inl ⟨_, 0, .ref qc, rfl, .inl hls, rfl, rd_nil ⟨_, rfl, .inl ⟨_, .inl hqc, rfl, rfl⟩⟩⟩)))))) ev_int ⟨by rw [List.length_map], rfl⟩)) (fun hb => ?_) (fun hb => rd_next ?_))
        · have hb : s.endItem.cur.length > 200 := by
            have z : (200 : Int) < s.endItem.cur.length := of_decide_eq_true hb
            omega
          rw [if_pos hb] at hq
          exact rd_raise hW (rd_cons (rd_int (rd_nil ⟨_, rfl, G, s3, hq⟩)))
        · have hb : ¬ s.endItem.cur.length > 200 := fun z => by
            have z2 : ¬ (200 : Int) < s.endItem.cur.length := of_decide_eq_false hb
            omega
          rw [if_neg hb] at hq
          refine rd_ret (rd_cb (rd_cons (rd_op (rd_ev _ (ev_fld (ev_var rfl) h3.ob c.cl c.n4 rf_lists) (rd_int (.inl ⟨_, 0, .ref qc, rfl, .inl hls, rfl, rd_nil ⟨_, rfl, ?_⟩⟩))))))
          exact ⟨_, .inl hqc, G, s3, hq⟩
end
end Dd
set_option Elab.async false
set_option linter.all false
set_option maxRecDepth 100000
/-! L5: the law's draws. -/
namespace Dd
open PySem PySem.Spec L2
open PyProof.Rows hiding St
abbrev kGreat : Key := .inr "great"
abbrev kCells : Key := .inr "cells"
abbrev kRest : Key := .inr "rest"
abbrev kTurn : Key := .inr "turn"
def dflds (pg pc : Addr) (r t : Int) : List (Key × D) := [(kGreat, .ref pg), (kCells, .ref pc), (kRest, .int r), (kTurn, .int t)]
theorem k12 : ¬ kGreat = kCells := by decide +kernel
theorem k13 : ¬ kGreat = kRest := by decide +kernel
theorem k14 : ¬ kGreat = kTurn := by decide +kernel
theorem k23 : ¬ kCells = kRest := by decide +kernel
theorem k24 : ¬ kCells = kTurn := by decide +kernel
theorem k34 : ¬ kRest = kTurn := by decide +kernel
section
variable {pg pc : Addr} {r t z : Int}
theorem df_great : getK1 (.dic (dflds pg pc r t)) (.str "great") = some (some (.ref pg)) := by
  show some (valG (dflds pg pc r t) kGreat) = _
  unfold dflds; rw [valG_pos rfl]
theorem df_cells : getK1 (.dic (dflds pg pc r t)) (.str "cells") = some (some (.ref pc)) := by
  show some (valG (dflds pg pc r t) kCells) = _
  unfold dflds; rw [valG_neg k12, valG_pos rfl]
theorem df_rest : getK1 (.dic (dflds pg pc r t)) (.str "rest") = some (some (.int r)) := by
  show some (valG (dflds pg pc r t) kRest) = _
  unfold dflds; rw [valG_neg k13, valG_neg k23, valG_pos rfl]
theorem df_turn : getK1 (.dic (dflds pg pc r t)) (.str "turn") = some (some (.int t)) := by
  show some (valG (dflds pg pc r t) kTurn) = _
  unfold dflds; rw [valG_neg k14, valG_neg k24, valG_neg k34, valG_pos rfl]
theorem df_prest : putKV (.dic (dflds pg pc r t)) (.str "rest") (.int z) = some (.dic (dflds pg pc z t)) := by
  show some (DO.dic (putG (dflds pg pc r t) kRest (.int z))) = _
  unfold dflds putG
  simp [show ¬ (Str.ofString "great" = Str.ofString "rest") from by decide +kernel, show ¬ (Str.ofString "cells" = Str.ofString "rest") from by decide +kernel, show ¬ (Str.ofString "turn" = Str.ofString "rest") from by decide +kernel]
theorem df_pturn : putKV (.dic (dflds pg pc r t)) (.str "turn") (.int z) = some (.dic (dflds pg pc r z)) := by
  show some (DO.dic (putG (dflds pg pc r t) kTurn (.int z))) = _
  unfold dflds putG
  simp [show ¬ (Str.ofString "great" = Str.ofString "turn") from by decide +kernel, show ¬ (Str.ofString "cells" = Str.ofString "turn") from by decide +kernel, show ¬ (Str.ofString "rest" = Str.ofString "turn") from by decide +kernel]
end
/-- the draw stands at p; at most n turns of its own are behind -/
structure DAt (G : HD) (p pg pc : Addr) (n : Nat) : Prop where
  ex : ∃ (r t : Int) (gr cs : List Int), G p = some (.dic (dflds pg pc r t)) ∧ G pg = some (.lst (gr.map D.int)) ∧ G pc = some (.lst (cs.map D.int)) ∧ 0 ≤ t ∧ t ≤ (n : Int) ∧ cs.length ≤ 63
  ne : pg ≠ pc
theorem DAt.sub {G G' : HD} {p pg pc : Addr} {n : Nat} (h : DAt G p pg pc n) (s : Sub G G') : DAt G' p pg pc n := by
  obtain ⟨⟨r, t, gr, cs, h1, h2, h3, h4⟩, ne⟩ := h
  exact ⟨⟨r, t, gr, cs, s _ _ h1, s _ _ h2, s _ _ h3, h4⟩, ne⟩
theorem DAt.mono {G : HD} {p pg pc : Addr} {n m : Nat} (h : DAt G p pg pc n) (s : n ≤ m) : DAt G p pg pc m := by
  obtain ⟨⟨r, t, gr, cs, h1, h2, h3, h4, h5, h6⟩, ne⟩ := h
  exact ⟨⟨r, t, gr, cs, h1, h2, h3, h4, by omega, h6⟩, ne⟩
def tLim : Nat := 2 ^ 40
section
variable {P : Program} {w : World} {K : PySem.W.Frag} {mg : Str → Option Value} {base : Heap} {f C : Addr} {fd : FuncData}
def spTake : SpD := fun ds G QD _ => ∃ p pg pc n m, ds = [.ref p, .int m] ∧ DAt G p pg pc n ∧ 0 < m ∧ m < 1073741824 ∧ n ≤ tLim ∧
  ∀ (v : Int) G', 0 ≤ v → v < m → DAt G' p pg pc (n + 1) → Fr [p, pg] G G' → QD (.int v) G'
theorem big1 {t : Int} {n : Nat} (h0 : 0 ≤ t) (h1 : t ≤ (n : Int)) (hn : n ≤ tLim) : t < 2 ^ 41 := by
  have : (n : Int) ≤ 2 ^ 40 := by unfold tLim at hn; omega
  omega
theorem ok_law_take (F : Fun K "_law_take" "_law_take" s_law_take f fd) (T : TX mg) : FnG P w K mg base 2 f fd ["_law_draw", "_law_many"] (spOf K spTake) := by
  have S := S_law_take
  refine okG F S (fun ds G Q E ⟨_, _, _, _, _, e, _⟩ => by rw [e]; rfl) fun cdv A outer s H E hr tk => ?_
  refine ⟨_, (pss_cons (ps_if (PW.pt (pw_and (pt_cmpR (k_opd_eq (K := K) rfl hr.rm.units) (pe_ix (k_ixd (K := K) rfl (room_hu1 hr)) (pv 0) pe_str (fun _ _ => rfl)) pe_int (nomark _)) (pw_and1 (pt_cmpR (k_opd_ne (K := K) rfl hr.rm.units) (pe_ix (k_ixd (K := K) rfl (room_hu1 hr)) (pv 0) pe_str (fun _ _ => rfl)) (pe_lst pa_nil) (nomark _))))) (pss_one (ps_asg (k_bm (K := K) rfl PySem.F.plainAttrs_list PySem.F.slot_list_pop PySem.F.type_list_pop (k_mtd_popAt (K := K) rfl) (pe_ix (k_ixd (K := K) rfl (room_hu1 hr)) (pv 0) pe_str (fun _ _ => rfl)) (pa_cons pe_int pa_nil)) (pg_sub (pv 0) pe_str (k_psetd (K := K) rfl (room_hu1 hr))))) pss_nil)
  (pss_cons (ps_if (pt_cmpR (k_opd_eq (K := K) rfl hr.rm.units) (pe_ix (k_ixd (K := K) rfl (room_hu1 hr)) (pv 0) pe_str (fun _ _ => rfl)) pe_int (nomark _)) (pss_cons (ps_asg (pe_op (k_opd_add (K := K) rfl) (pe_ix (k_ixd (K := K) rfl (room_hu1 hr)) (pv 0) pe_str (fun _ _ => rfl)) pe_int) (pg_sub (pv 0) pe_str (k_psetd (K := K) rfl (room_hu1 hr))))
  (pss_cons (ps_set (i := 2) S.nd rfl (Or.inl rfl) (pe_op (k_opd_add (K := K) rfl) (pe_op (k_opd_mul (K := K) rfl) pe_int (pe_ix (k_ixd (K := K) rfl (room_hu1 hr)) (pv 0) pe_str (fun _ _ => rfl))) (pe_callB (k_crd_len (K := K) rfl) rfl T.m_len (by rfl) (pa_cons (pe_ix (k_ixd (K := K) rfl (room_hu1 hr)) (pv 0) pe_str (fun _ _ => rfl)) pa_nil))))
  (pss_cons (ps_for PassesOwn.leaving rfl (k_seq (K := K) rfl (pe_ix (k_ixd (K := K) rfl (room_hu1 hr)) (pv 0) pe_str (fun _ _ => rfl))) (pg_name (i := 3) S.nd rfl (Or.inl rfl)) (pss_one (ps_set (i := 2) S.nd rfl (Or.inl rfl) (pe_op (k_opd_mod (K := K) rfl) (pe_callTy (k_crd_int (K := K) rfl) rfl T.m_int (by rfl) (pa_cons (pe_op (k_opd_add (K := K) rfl) (pe_op (k_opd_add (K := K) rfl) (pe_op (k_opd_mul (K := K) rfl) (pv 2) pe_int) (pv 3)) pe_int) pa_nil)) pe_int))))
  (pss_cons (ps_for PassesOwn.leaving rfl (pi_range1 rfl T.m_range (pa_cons pe_int pa_nil)) (pg_name (i := 4) S.nd rfl (Or.inl rfl)) (pss_one (ps_set (i := 2) S.nd rfl (Or.inl rfl) (pe_op (k_opd_mod (K := K) rfl) (pe_callTy (k_crd_int (K := K) rfl) rfl T.m_int (by rfl) (pa_cons (pe_op (k_opd_add (K := K) rfl) (pe_op (k_opd_add (K := K) rfl) (pe_op (k_opd_mul (K := K) rfl) (pv 2) (pv 2)) (pe_op (k_opd_mul (K := K) rfl) pe_int (pv 2))) pe_int) pa_nil)) pe_int))))
  (pss_one (ps_asg (pv 2) (pg_sub (pv 0) pe_str (k_psetd (K := K) rfl (room_hu1 hr))))))))) pss_nil)
  (pss_cons (ps_set (i := 5) S.nd rfl (Or.inl rfl) (pe_op (k_opd_mod (K := K) rfl) (pe_callTy (k_crd_int (K := K) rfl) rfl T.m_int (by rfl) (pa_cons (pe_ix (k_ixd (K := K) rfl (room_hu1 hr)) (pv 0) pe_str (fun _ _ => rfl)) pa_nil)) (pv 1)))
  (pss_cons (ps_asg (pe_op (k_opd_fdiv (K := K) rfl) (pe_ix (k_ixd (K := K) rfl (room_hu1 hr)) (pv 0) pe_str (fun _ _ => rfl)) (pv 1)) (pg_sub (pv 0) pe_str (k_psetd (K := K) rfl (room_hu1 hr))))
  (pss_one (ps_ret (pv 5))))))), ?_⟩
  rintro ds G QD ED ⟨p, pg, pc, n, m, rfl, ⟨⟨r, t, gr, cs, hp, hg, hc, t0, t1, hcl⟩, hne⟩, m0, m1, hn, q⟩ hW
  have npg : p ≠ pg := fun e => by rw [e, hg] at hp; cases hp
  have npc : p ≠ pc := fun e => by rw [e, hc] at hp; cases hp
  have tb := big1 t0 t1 hn
  let M : Nat → DS → HD → Prop := fun k S' G' => ∃ (a b c d : Option D) (r1 t1 : Int) (gr1 : List Int), S' = [some (.ref p), some (.int m), a, b, c, d] ∧ G' p = some (.dic (dflds pg pc r1 t1)) ∧ G' pg = some (.lst (gr1.map D.int)) ∧ G' pc = some (.lst (cs.map D.int)) ∧ 0 ≤ t1 ∧ t1 ≤ ((n + k : Nat) : Int) ∧ Fr [p, pg] G G'
  refine rd_cut (M 0) ?_ ?_
  · refine rd_ifS (rd_and (rd_tv (decide (r = 0)) (tv_test (ev_op (rd_op (rd_var rfl (rd_str (.inr ⟨_, _, hp, df_rest, rfl, rfl⟩)))) ev_int (req_int rfl))) ?_))
    have nxt : ∀ G', Sub G G' → M 0 (startD N_law_take [.ref p, .int m]) G' := fun G' s => ⟨none, none, none, none, r, t, gr, rfl, s _ _ hp, s _ _ hg, s _ _ hc, t0, by simpa using t1, fr_sub s⟩
    refine ite2 (fun _ => ?_) (fun _ => iteF (rd_next (nxt G (Sub.refl _))))
    refine rd_test (rd_op (rd_op (rd_var rfl (rd_str (.inr ⟨_, _, hp, df_great, rd_lst (rd_nil ⟨by show 0 ≤ sizeLine; decide, fun p1 hp1 => ?_⟩)⟩)))))
    have s1 : Sub G (put G p1 (.lst [])) := Sub.put hp1
    refine req_ints0 (s1 _ _ hg) put_same ⟨_, rfl, ?_⟩
    cases gr with
    | nil => exact iteF (rd_next (nxt _ s1))
    | cons g gr =>
      refine iteT (rd_asg (rd_bml (rd_op (rd_var rfl (rd_str (.inr ⟨_, _, s1 _ _ hp, df_great, pg, _, rfl, s1 _ _ hg, rd_cons (rd_int (rd_nil ⟨pg, _, 0, 0, .int g, rfl, rfl, s1 _ _ hg, by decide, by decide, by simp [seqIndex?], rfl, ?_⟩))⟩))))))
      have hp2 : put (put G p1 (.lst [])) pg (.lst (((g :: gr).map D.int).eraseIdx 0)) p = some (.dic (dflds pg pc r t)) := by rw [put_ne npg]; exact s1 _ _ hp
      refine rd_gsub (rd_var rfl (rd_str (.inr ⟨_, _, hp2, df_prest, by show 4 < sizeLine; decide, none, none, none, none, g, t, gr, rfl, put_same, ?_, ?_, t0, by simpa using t1, ?_⟩)))
      · rw [put_ne npg.symm, put_same]; rfl
      · rw [put_ne npc.symm, put_ne hne.symm]; exact s1 _ _ hc
      · exact ((fr_sub s1).trans (fr_put (by simp))).trans (fr_put (by simp))
  rintro S1 G1 ⟨a1, b1, c1, d1, r1, t1', gr1, rfl, hp1, hg1, hc1, h01, h11, f1⟩
  refine rd_cut (M 1) ?_ ?_
  · refine rd_ifv (decide (r1 = 0)) (tv_test (ev_op (rd_op (rd_var rfl (rd_str (.inr ⟨_, _, hp1, df_rest, rfl, rfl⟩)))) ev_int (req_int rfl))) (fun _ => ?_) (fun _ => rd_next ⟨_, _, _, _, _, _, _, rfl, hp1, hg1, hc1, h01, by omega, f1⟩)
    refine rd_seq (rd_asg (rd_op (rd_op (rd_var rfl (rd_str (.inr ⟨_, _, hp1, df_turn, rd_int ?_⟩))))))
    refine rd_gsub (rd_var rfl (rd_str (.inr ⟨_, _, hp1, df_pturn, by show 4 < sizeLine; decide, ?_⟩)))
    have hpA : put G1 p (.dic (dflds pg pc r1 (t1' + 1))) p = some (.dic (dflds pg pc r1 (t1' + 1))) := put_same
    have hgA : put G1 p (.dic (dflds pg pc r1 (t1' + 1))) pg = some (.lst (gr1.map D.int)) := by rw [put_ne npg.symm]; exact hg1
    have hcA : put G1 p (.dic (dflds pg pc r1 (t1' + 1))) pc = some (.lst (cs.map D.int)) := by rw [put_ne npc.symm]; exact hc1
    have fA : Fr [p, pg] G (put G1 p (.dic (dflds pg pc r1 (t1' + 1)))) := f1.trans (fr_put (by simp))
    generalize put G1 p (.dic (dflds pg pc r1 (t1' + 1))) = GA at hpA hgA hcA fA
    have tb2 : t1' < 2 ^ 41 := by
      have := big1 (t := t1') (n := n) h01 (by simpa using h11) hn
      exact this
    -- mixed
    refine rd_seq (rd_set (rd_op (rd_op (rd_int (rd_op (rd_var rfl (rd_str (.inr ⟨_, _, hpA, df_turn, .inl ⟨by decide, by decide⟩, rd_cb (rd_cons (rd_op (rd_var rfl (rd_str (.inr ⟨_, _, hpA, df_cells, rd_nil ⟨_, rfl, .inl ⟨_, .inl hcA, ?_⟩⟩⟩)))))⟩))))))))
    refine rd_cut (fun S' G' => G' = GA ∧ ∃ (x : Int) (b : Option D), 0 ≤ x ∧ x < 2 ^ 61 ∧ S' = [some (.ref p), some (.int m), some (.int x), b, c1, d1]) ?_ ?_
    · refine rd_for (rd_iseq (rd_op (rd_var rfl (rd_str (.inr ⟨_, _, hpA, df_cells, _, _, .lst hcA, ?_⟩)))))
      refine ⟨fun i S' G' => G' = GA ∧ ∃ (x : Int) (b : Option D), 0 ≤ x ∧ x < 2 ^ 61 ∧ S' = [some (.ref p), some (.int m), some (.int x), b, c1, d1], ⟨rfl, _, _, ?_, ?_, rfl⟩, fun _ S' G' _ h => h.1 ▸ hcA, ?_, fun S' G' h => h⟩
      · rw [List.length_map]; omega
      · rw [List.length_map]; omega
      · rintro i d S' G' hd ⟨rfl, x, b, x0, x1, rfl⟩
        rw [List.getElem?_map] at hd
        obtain ⟨cell, hcell, rfl⟩ := Option.map_eq_some_iff.mp hd
        refine rd_gname (rd_set (rd_op (rd_cb (rd_cons (rd_op (rd_op (rd_op (rd_var rfl (rd_int ⟨.inr ⟨by decide, by decide⟩, rd_var rfl (rd_int (rd_nil ⟨_, rfl, rd_int ⟨by show (0 : Int) < 2147483647; decide, ?_⟩⟩))⟩)))))))))
        exact ⟨rfl, _, _, Int.emod_nonneg _ (by decide), Int.lt_trans (Int.emod_lt_of_pos _ (by decide)) (by decide), rfl⟩
    · rintro S2 G2 ⟨rfl, x, b, x0, x1, rfl⟩
      refine rd_cut (fun S' G' => G' = G2 ∧ ∃ (x : Int) (b : Option D × Option D), 0 ≤ x ∧ x < 2 ^ 61 ∧ S' = [some (.ref p), some (.int m), some (.int x), b.1, b.2, d1]) ?_ ?_
      · refine rd_for (rd_rng1 (rd_cons (rd_int (rd_nil ⟨3, rfl, by decide, by decide, ?_⟩))))
        refine ⟨fun i S' G' => G' = G2 ∧ ∃ (x : Int) (b : Option D × Option D), 0 ≤ x ∧ x < 2 ^ 61 ∧ S' = [some (.ref p), some (.int m), some (.int x), b.1, b.2, d1], ⟨rfl, x, (b, c1), x0, x1, rfl⟩, fun _ _ _ _ _ => trivial, ?_, fun S' G' h => h⟩
        rintro i d S' G' hd ⟨rfl, x, b, x0, x1, rfl⟩
        refine rd_gname (rd_set (rd_op (rd_cb (rd_cons (rd_op (rd_op (rd_op (rd_var rfl (rd_var rfl ⟨.inl ⟨by omega, by omega⟩, rd_op (rd_int (rd_var rfl ⟨.inl ⟨by decide, by decide⟩, rd_int (rd_nil ⟨_, rfl, rd_int ⟨by show (0 : Int) < 2305843009213693951; decide, ?_⟩⟩)⟩))⟩)))))))))
        exact ⟨rfl, (x * x + 16807 * x + 13) % 2305843009213693951, (b.1, some d), Int.emod_nonneg (b := 2305843009213693951) _ (by decide), Int.lt_of_lt_of_le (Int.emod_lt_of_pos (b := 2305843009213693951) _ (by decide)) (by decide), rfl⟩
      · rintro S3 G3 ⟨rfl, x, b, x0, x1, rfl⟩
        refine rd_asg (rd_var rfl (rd_gsub (rd_var rfl (rd_str (.inr ⟨_, _, hpA, df_prest, by show 4 < sizeLine; decide, _, _, _, _, x, t1' + 1, gr1, rfl, put_same, ?_, ?_, by omega, ?_, fA.trans (fr_put (by simp))⟩)))))
        · rw [put_ne npg.symm]; exact hgA
        · rw [put_ne npc.symm]; exact hcA
        · have : t1' ≤ (n : Int) := by simpa using h11
          show t1' + 1 ≤ ((n + 1 : Nat) : Int)
          omega
  rintro S1 G1 ⟨a1, b1, c1, d1, r1, t1', gr1, rfl, hp1, hg1, hc1, h01, h11, f1⟩
  refine rd_seq (rd_set (rd_op (rd_cb (rd_cons (rd_op (rd_var rfl (rd_str (.inr ⟨_, _, hp1, df_rest, rd_nil ⟨_, rfl, rd_var rfl ⟨m0, ?_⟩⟩⟩))))))))
  refine rd_seq (rd_asg (rd_op (rd_op (rd_var rfl (rd_str (.inr ⟨_, _, hp1, df_rest, rd_var rfl ⟨⟨m0, m1⟩, ?_⟩⟩))))))
  refine rd_gsub (rd_var rfl (rd_str (.inr ⟨_, _, hp1, df_prest, by show 4 < sizeLine; decide, ?_⟩)))
  refine rd_ret (rd_var rfl ⟨_, Sub.refl _, q _ _ (Int.emod_nonneg _ (by omega)) (Int.emod_lt_of_pos _ m0) ⟨⟨_, t1', gr1, cs, put_same, by rw [put_ne npg.symm]; exact hg1, by rw [put_ne npc.symm]; exact hc1, h01, h11, hcl⟩, hne⟩ (f1.trans (fr_put (by simp)))⟩)

def absD : D → D
  | .int i => .int (if i < 0 then -i else i)
  | d => d
def isBig : D → Bool
  | .int i => decide ((10 : Int) ^ 18 ≤ i)
  | _ => false
def lessBig : D → D
  | .int i => .int (i - 10 ^ 18)
  | d => d
def spBegun : SpD := fun ds G QD _ => ∃ (ps : Addr) (ns : List Int), ds = [.ref ps] ∧ G ps = some (.lck (.lst (ns.map D.int))) ∧ ns.length ≤ 63 ∧
  ∀ p pg pc G', Sub G G' → DAt G' p pg pc 0 → G p = none → G pg = none → G pc = none → QD (.ref p) G'
theorem merge4 {pg pc : Addr} : mergeD [(kGreat, .ref pg), (kCells, .ref pc), (kRest, .int 0), (kTurn, .int 0)] = dflds pg pc 0 0 := by
  unfold mergeD putG dflds
  simp [show ¬ (Str.ofString "great" = Str.ofString "cells") from by decide +kernel, show ¬ (Str.ofString "great" = Str.ofString "rest") from by decide +kernel, show ¬ (Str.ofString "great" = Str.ofString "turn") from by decide +kernel, show ¬ (Str.ofString "cells" = Str.ofString "rest") from by decide +kernel, show ¬ (Str.ofString "cells" = Str.ofString "turn") from by decide +kernel, show ¬ (Str.ofString "rest" = Str.ofString "turn") from by decide +kernel]
theorem ok_law_begun (F : Fun K "_law_begun" "_law_begun" s_law_begun f fd) (T : TX mg) : FnG P w K mg base 2 f fd ["_law_script"] (spOf K spBegun) := by
  have S := S_law_begun
  refine okG F S (fun ds G Q E ⟨_, _, e, _⟩ => by rw [e]; rfl) fun cdv A outer s H E hr tk => ?_
  refine ⟨_, (pss_cons (ps_setLc rfl S.nd (i := 1) rfl rfl (by rfl) (k_seq (K := K) rfl (pv 0)) (own := [("_law_cell", 2)]) (blkOk_by (by rfl)) (fun _ _ _ _ _ => (pg_name (i := 2) S.nd rfl (Or.inl rfl))) (fun _ _ _ _ _ => pts_nil) (fun _ _ _ _ _ => (pe_callB (k_crd_abs (K := K) rfl) rfl T.m_abs (by rfl) (pa_cons (pv 2) pa_nil))))
  (pss_one (ps_ret (pe_disp (pps_cons pe_str (pe_lc rfl S.nd (k_seq (K := K) rfl (pv 1)) (own := [("_law_cell", 2)]) (blkOk_by (by rfl)) (fun _ _ _ _ _ => (pg_name (i := 2) S.nd rfl (Or.inl rfl))) (fun _ _ _ _ _ => (pts_one (pt_cmpR (k_opd_ge (K := K) rfl) (pv 2) (pe_op (k_opd_pow (K := K) rfl) pe_int pe_int) (nomark _)))) (fun _ _ _ _ _ => (pe_op (k_opd_sub (K := K) rfl) (pv 2) (pe_op (k_opd_pow (K := K) rfl) pe_int pe_int)))) (pps_cons pe_str (pv 1) (pps_cons pe_str pe_int (pps_cons pe_str pe_int pps_nil)))) rfl rfl (by simp) (by decide))))), ?_⟩
  rintro ds G QD ED ⟨ps, ns, rfl, hps, hl, q⟩ hW
  have hz : ∀ k : Nat, k ≤ 63 → k ≤ sizeLine := fun k h => by rw [sizeLine_eq]; omega
  refine rd_seq (rd_asg (rd_lcm (own_name (by simp)) (rd_iseq (rd_var rfl ⟨_, _, .lck hps, fun G' s => s _ _ hps, hz _ (by simpa using hl), fun _ => true, absD, ?_, fun pc hpc => rd_gname ?_⟩))))
  · intro d hd G' s1
    obtain ⟨i, _, rfl⟩ := List.mem_map.mp hd
    exact rd_gname (rd_yes ⟨Sub.refl _, rfl, fun _ => rd_cb (rd_cons (rd_var rfl (rd_nil ⟨i, rfl, Sub.refl _, rfl⟩)))⟩)
  have ec : (((ns.map D.int).filter fun _ => true).map absD) = (ns.map fun i => if i < 0 then -i else i).map D.int := by
    rw [List.filter_eq_self.mpr (fun _ _ => rfl), List.map_map, List.map_map]; rfl
  rw [ec]
  have s1 : Sub G (put G pc (.lst ((ns.map fun i => if i < 0 then -i else i).map D.int))) := Sub.put hpc
  have hc1 : put G pc (.lst ((ns.map fun i => if i < 0 then -i else i).map D.int)) pc = some (.lst ((ns.map fun i => if i < 0 then -i else i).map D.int)) := put_same
  generalize put G pc (.lst ((ns.map fun i => if i < 0 then -i else i).map D.int)) = G1 at s1 hc1
  refine rd_ret (rd_disp fun p hp => rd_str (rd_lcm (own_name (by simp)) (rd_iseq (rd_var rfl ⟨_, _, .lst (Sub.put hp _ _ hc1), fun G' s => s _ _ (Sub.put hp _ _ hc1), hz _ (by simpa using hl), isBig, lessBig, ?_, fun pg hpg => ?_⟩))))
  · intro d hd G' s2
    obtain ⟨i, _, rfl⟩ := List.mem_map.mp hd
    refine rd_gname (rd_test (rd_op (rd_var rfl (rd_op (rd_int (rd_int ⟨⟨by decide, by decide, by decide⟩, _, rfl, Sub.refl _, rfl, fun _ => ?_⟩))))))
    exact rd_op (rd_var rfl (rd_op (rd_int (rd_int ⟨⟨by decide, by decide, by decide⟩, trivial, Sub.refl _, rfl⟩))))
  · have npg : p ≠ pg := ne_new put_same hpg
    refine rd_str (rd_var rfl (rd_str (rd_int (rd_str (rd_int ⟨by rw [put_ne npg, put_same], _, rfl, by show 4 ≤ 15; decide, ?_⟩)))))
    rw [merge4]
    have sg : Sub G1 (put (put G1 p (.dic [])) pg (.lst (((((ns.map fun i => if i < 0 then -i else i).map D.int)).filter isBig).map lessBig))) := (Sub.put hp).trans (Sub.put hpg)
    have sgp : Sub G1 (put (put (put G1 p (.dic [])) pg (.lst (((((ns.map fun i => if i < 0 then -i else i).map D.int)).filter isBig).map lessBig))) p (.dic (dflds pg pc 0 0))) := fun a o e => by
      rw [put_ne (ne_new e hp)]; exact sg a o e
    have gp : G p = none := by
      cases e : G p with
      | none => rfl
      | some o => rw [s1 _ _ e] at hp; cases hp
    have gpg : G pg = none := by
      cases e : G pg with
      | none => rfl
      | some o => rw [Sub.put hp _ _ (s1 _ _ e)] at hpg; cases hpg
    have npc : p ≠ pc := (ne_new hc1 hp).symm
    have ngc : pg ≠ pc := fun e => by rw [e, put_ne npc.symm, hc1] at hpg; cases hpg
    refine ⟨_, Sub.refl _, q p pg pc _ (s1.trans sgp) ⟨⟨0, 0, ((ns.map fun i => if i < 0 then -i else i).filter fun i => decide ((10 : Int) ^ 18 ≤ i)).map (· - 10 ^ 18), (ns.map fun i => if i < 0 then -i else i), put_same, ?_, sgp _ _ hc1, by decide, by decide, by simpa using hl⟩, ngc⟩ gp gpg hpc⟩
    rw [put_ne npg.symm, put_same, List.filter_map, List.map_map, List.map_map]
    rfl
def spPick : SpD := fun ds G QD _ => ∃ p pg pc n sd, ds = [.ref p, sd] ∧ DAt G p pg pc n ∧ n ≤ tLim ∧
  ((∃ ps xs, sd = .ref ps ∧ G ps = some (.lst xs) ∧ ps ≠ pg ∧ xs ≠ [] ∧ xs.length < 1073741824 ∧ ∀ d ∈ xs, ∀ G', DAt G' p pg pc (n + 1) → Fr [p, pg] G G' → QD d G') ∨
   (∃ cs : List Nat, sd = .str (SS cs) ∧ cs ≠ [] ∧ cs.length ≤ 1000 ∧ ∀ c ∈ cs, ∀ G', DAt G' p pg pc (n + 1) → Fr [p, pg] G G' → QD (.str (SS [c])) G'))
theorem atI_of {α : Type} {xs : List α} {v : Int} (h0 : 0 ≤ v) (h1 : v < (xs.length : Int)) : ∃ d, atI xs v = some d ∧ d ∈ xs := by
  have e : ixN xs.length v = some v.toNat := by
    unfold ixN
    rw [if_pos h0, if_pos h1]
  have hl : v.toNat < xs.length := by omega
  refine ⟨xs[v.toNat], ?_, List.getElem_mem hl⟩
  unfold atI
  rw [e]
  simp [hl]
theorem ok_law_pick (F : Fun K "_law_pick" "_law_pick" s_law_pick f fd) (T : TX mg) (C_law_take : CalG P w K mg base 2 "_law_take" ["_law_draw", "_law_many"] spTake) : FnG P w K mg base 3 f fd ["_law_draw", "_law_some"] (spOf K spPick) := by
  have S := S_law_pick
  refine okG F S (fun ds G Q E ⟨_, _, _, _, _, e, _⟩ => by rw [e]; rfl) fun cdv A outer s H E hr tk => ?_
  refine ⟨_, (pss_one (ps_ret (pe_ix (k_ixd (K := K) rfl (room_hu1 hr)) (pv 1) (k_c C_law_take rfl rfl rfl rfl rfl hr (by decide) rfl tk (pa_cons (pv 0) (pa_cons (pe_callB (k_crd_len (K := K) rfl) rfl T.m_len (by rfl) (pa_cons (pv 1) pa_nil)) pa_nil))) (fun _ _ => rfl)))), ?_⟩
  rintro ds G QD ED ⟨p, pg, pc, n, sd, rfl, hD, hn, hc⟩ hW
  obtain ⟨⟨r0, t0, gr0, cs0, hp0, _⟩, _⟩ := id hD
  rcases hc with ⟨ps, xs, rfl, hps, nps, hx, hl, q⟩ | ⟨cs, rfl, hx, hl, q⟩
  · have hlen : 0 < xs.length := List.length_pos_iff.mpr hx
    refine rd_ret (rd_op (rd_var rfl (rd_c hW (rd_cons (rd_var rfl (rd_cons (rd_cb (rd_cons (rd_var rfl (rd_nil ⟨_, rfl, .inl ⟨xs, .inl hps, rd_nil ⟨p, pg, pc, n, _, rfl, hD, by omega, by omega, hn, fun v G' v0 v1 hD' hF => ?_⟩⟩⟩))))))))))
    obtain ⟨d, e, hd⟩ := atI_of v0 v1
    have np : ps ≠ p := fun z => by rw [z, hp0] at hps; cases hps
    exact .inl ⟨xs, v, d, rfl, .inl (hF _ _ hps (by simp [np, nps])), e, _, Sub.refl _, q d hd G' hD' hF⟩
  · have hlen : 0 < cs.length := List.length_pos_iff.mpr hx
    refine rd_ret (rd_op (rd_var rfl (rd_c hW (rd_cons (rd_var rfl (rd_cons (rd_cb (rd_cons (rd_var rfl (rd_nil ⟨_, rfl, by rw [SS_len, sizeLine_eq]; omega, rd_nil ⟨p, pg, pc, n, _, rfl, hD, by rw [SS_len]; omega, by rw [SS_len]; omega, hn, fun v G' v0 v1 hD' hF => ?_⟩⟩))))))))))
    rw [SS_len] at v1
    obtain ⟨c, e, hc⟩ := atI_of (xs := cs) v0 v1
    exact ⟨v, c, rfl, by rw [SS_len, sizeLine_eq]; omega, e, _, Sub.refl _, q c hc G' hD' hF⟩
end
end Dd
set_option Elab.async false
set_option linter.all false
set_option maxRecDepth 100000
/-! L6: the law's names. -/
namespace Dd
open PySem PySem.Spec L2
open PyProof.Rows hiding St
def Good (y : List Nat) : Prop := 1 ≤ y.length ∧ y.length ≤ 6 ∧ ∀ c ∈ y, isLet c = true
def nm (y : List Nat) : D := .str (SS y)
theorem signs_SS (y : List Nat) : signs (SS y) = y.map fun c => D.str (SS [c]) := rfl
theorem good_isName {y : List Nat} (h : Good y) : isName (nm y) = true := by
  show (decide (1 ≤ ((SS y).length : Int)) && (decide (((SS y).length : Int) ≤ 6) && (signs (SS y)).all inLetters)) = true
  rw [SS_len, signs_SS, List.all_map]
  simp only [Bool.and_eq_true, decide_eq_true_eq, List.all_eq_true]
  exact ⟨by have := h.1; omega, by have := h.2.1; omega, fun c hc => (sub_let c).trans (h.2.2 c hc)⟩
def lets : List Nat := letters.cps.toList
theorem lets_mem {c : Nat} (h : c ∈ lets) : isLet c = true := decide_eq_true h
theorem lets_len : lets.length = 26 := by decide +kernel
theorem lets_nd : lets.Nodup := by decide +kernel
theorem letters_SS : letters = SS lets := (SX.S_tl letters).symm
theorem nm_inj {a b : List Nat} (h : nm a = nm b) : a = b := by
  have : SS a = SS b := by injection h
  exact SX.S_inj this
theorem inD_nm (x : List Nat) (ys : List (List Nat)) : inD (nm x) (ys.map nm) = decide (x ∈ ys) := by
  unfold inD
  rw [List.any_map, Bool.eq_iff_iff]
  simp only [List.any_eq_true, decide_eq_true_eq]
  constructor
  · rintro ⟨y, hy, e⟩
    have e : decide (SS y = SS x) = true := e
    have := SX.S_inj (of_decide_eq_true e)
    rw [← this]; exact hy
  · intro h
    exact ⟨x, h, decide_eq_true rfl⟩
theorem flat_nms (ys : List (List Nat)) : (ys.map nm).all flatD = true := by
  rw [List.all_map]; exact List.all_eq_true.mpr fun _ _ => rfl
theorem nodup_le {α : Type} [DecidableEq α] : ∀ {xs ys : List α}, xs.Nodup → xs ⊆ ys → xs.length ≤ ys.length
  | [], _, _, _ => Nat.zero_le _
  | x :: xs, ys, h, hs => by
    have hx : x ∈ ys := hs List.mem_cons_self
    obtain ⟨h1, h2⟩ := List.nodup_cons.mp h
    have := nodup_le (ys := ys.erase x) h2 fun z hz => (List.mem_erase_of_ne (fun e => h1 (by rw [← e]; exact hz))).mpr (hs (List.mem_cons_of_mem _ hz))
    rw [List.length_erase_of_mem hx] at this
    have hp : 0 < ys.length := List.length_pos_of_mem hx
    rw [List.length_cons]
    omega
/-- of as many different ones as there are letters one is free -/
theorem free_one (x : List Nat) (ys : List (List Nat)) (h : ys.length < 26) : ∃ c ∈ lets, x ++ [c] ∉ ys := by
  refine Classical.byContradiction fun hn => ?_
  have hall : ∀ c ∈ lets, x ++ [c] ∈ ys := fun c hc => Classical.byContradiction fun h2 => hn ⟨c, hc, h2⟩
  have hsub : (lets.map fun c => x ++ [c]) ⊆ ys := fun z hz => by
    obtain ⟨c, hc, rfl⟩ := List.mem_map.mp hz
    exact hall c hc
  have hnd : (lets.map fun c => x ++ [c]).Nodup := List.Pairwise.map _ (fun a b hab e => hab (by simpa using e)) lets_nd
  have := nodup_le hnd hsub
  rw [List.length_map, lets_len] at this
  omega
section
variable {P : Program} {w : World} {K : PySem.W.Frag} {mg : Str → Option Value} {base : Heap} {f C : Addr} {fd : FuncData}
def spNames : SpD := fun ds G QD _ => ∃ (p pg pc : Addr) (n : Nat) (m : Nat), ds = [.ref p, .int m] ∧ DAt G p pg pc n ∧ n + 100 ≤ tLim ∧ 1 ≤ m ∧ m ≤ 5 ∧
  ∀ ps (ys : List (List Nat)) G', G ps = none → G' ps = some (.lst (ys.map nm)) → ys.length = m → (∀ y ∈ ys, Good y) → DAt G' p pg pc (n + 50) → Fr [p, pg] G G' → QD (.ref ps) G'

theorem atI_zero {α : Type} {x : α} {xs : List α} : atI (x :: xs) 0 = some x := by
  have e : ixN (x :: xs).length 0 = some 0 := by
    unfold ixN
    rw [if_pos (by decide), if_pos (by simp)]; rfl
  unfold atI
  rw [e]; rfl
def wordsD : List D := [.str "has", .str "left", .str "many", .str "yes", .str "no", .str "ok", .str "came", .str "what", .str "undo", .str "like", .str "full"]
theorem words_good : ∀ d ∈ wordsD, ∃ y, d = nm y ∧ Good y := by
  intro d hd
  have h : ∀ d ∈ wordsD, ∃ z : Str, d = .str z ∧ (decide (1 ≤ z.cps.toList.length) && decide (z.cps.toList.length ≤ 6) && z.cps.toList.all isLet) = true := by
    intro d hd
    simp only [wordsD, List.mem_cons, List.not_mem_nil, or_false] at hd
    rcases hd with h | h | h | h | h | h | h | h | h | h | h <;> subst h <;> exact ⟨_, rfl, by decide +kernel⟩
  obtain ⟨z, rfl, hz⟩ := h d hd
  simp only [Bool.and_eq_true, decide_eq_true_eq, List.all_eq_true] at hz
  exact ⟨z.cps.toList, (congrArg D.str (SX.S_tl z)).symm, hz.1.1, hz.1.2, hz.2⟩
theorem cut5 (y : List Nat) : cutS (SS y) none (some 5) = SS (y.take 5) := by
  have e := cutD_to y 5
  unfold cutD at e
  unfold cutS
  rw [SS_len]
  exact congrArg SS e
theorem joinL_signs : ∀ cs : List Nat, TL.joinL [] (cs.map fun c => [c]) = cs
  | [] => rfl
  | [c] => rfl
  | c :: d :: r => by
    show [c] ++ ([] ++ TL.joinL [] ((d :: r).map fun c => [c])) = _
    rw [joinL_signs (d :: r)]; rfl
theorem join_signs (cs : List Nat) : Txt.join "" (cs.map fun c => SS [c]) = SS cs := by
  have e : (cs.map fun c => SS [c]) = (cs.map fun c => [c]).map SS := by rw [List.map_map]; rfl
  rw [e]
  exact (SX.join_S [] _).trans (congrArg SS (joinL_signs cs))
theorem ok_law_names (F : Fun K "_law_names" "_law_names" s_law_names f fd) (T : TX mg) (C_law_take : CalG P w K mg base 2 "_law_take" ["_law_draw", "_law_many"] spTake) (C_law_pick : CalG P w K mg base 3 "_law_pick" ["_law_draw", "_law_some"] spPick) :
    FnG P w K mg base 4 f fd ["_law_draw", "_law_many"] (spOf K spNames) := by
  have S := S_law_names
  refine okG F S (fun ds G Q E ⟨_, _, _, _, _, e, _⟩ => by rw [e]; rfl) fun cdv A outer s H E hr tk => ?_
  refine ⟨_, (pss_cons (ps_asg (pe_tup (pa_cons pe_str (pa_cons (pe_lst pa_nil) pa_nil))) (k_tup (K := K) rfl rfl (pgs_cons (pg_name (i := 2) S.nd rfl (Or.inr rfl)) (pgs_cons (pg_name (i := 3) S.nd rfl (Or.inr rfl)) pgs_nil))))
  (pss_cons (ps_for PassesOwn.leaving rfl (pi_range1 rfl T.m_range (pa_cons (pv 1) pa_nil)) (pg_name (i := 4) S.nd rfl (Or.inl rfl)) (pss_cons (ps_set (i := 5) S.nd rfl (Or.inl rfl) (pe_op (k_opd_add (K := K) rfl) pe_int (k_c C_law_take rfl rfl rfl rfl rfl hr (by decide) rfl tk (pa_cons (pv 0) (pa_cons (k_c C_law_pick rfl rfl rfl rfl rfl hr (by decide) rfl tk (pa_cons (pv 0) (pa_cons (pe_lst (pa_cons pe_int (pa_cons pe_int (pa_cons pe_int (pa_cons pe_int pa_nil))))) pa_nil))) pa_nil)))))
  (pss_cons (ps_set (i := 6) S.nd rfl (Or.inr rfl) (k_bm (K := K) rfl PySem.F.plainAttrs_str PySem.F.slot_str_join PySem.F.type_str_join (k_mtd_join (K := K) rfl) pe_str (pa_cons (pe_lc rfl S.nd (pi_range1 rfl T.m_range (pa_cons (pv 5) pa_nil)) (own := [("_law_sign", 7)]) (blkOk_by (by rfl)) (fun _ _ _ _ _ => (pg_name (i := 7) S.nd rfl (Or.inl rfl))) (fun _ _ _ _ _ => pts_nil) (fun _ _ _ _ _ => (k_c C_law_pick rfl rfl rfl rfl rfl hr (by decide) rfl LamX.takes0 (pa_cons (pv 0) (pa_cons (pv 2) pa_nil))))) pa_nil)))
  (pss_cons (ps_if (pt_cmpR (k_opd_eq (K := K) rfl hr.rm.units) (k_c C_law_take rfl rfl rfl rfl rfl hr (by decide) rfl tk (pa_cons (pv 0) (pa_cons pe_int pa_nil))) pe_int (nomark _)) (pss_one (ps_set (i := 6) S.nd rfl (Or.inr rfl) (k_c C_law_pick rfl rfl rfl rfl rfl hr (by decide) rfl tk (pa_cons (pv 0) (pa_cons (pe_lst (pa_cons pe_str (pa_cons pe_str (pa_cons pe_str (pa_cons pe_str (pa_cons pe_str (pa_cons pe_str (pa_cons pe_str (pa_cons pe_str (pa_cons pe_str (pa_cons pe_str (pa_cons pe_str pa_nil)))))))))))) pa_nil))))) pss_nil)
  (pss_cons (ps_if (pt_cmpR (k_opd_in (K := K) rfl (room_hu1 hr)) (pv 6) (pv 3) (by rfl)) (pss_one (ps_set (i := 6) S.nd rfl (Or.inr rfl) (pe_ix (k_ixd (K := K) rfl (room_hu1 hr)) (pe_lc rfl S.nd (k_seq (K := K) rfl (pe_lc rfl S.nd (k_seq (K := K) rfl (pv 2)) (own := [("_law_letter", 9)]) (blkOk_by (by rfl)) (fun _ _ _ _ _ => (pg_name (i := 9) S.nd rfl (Or.inl rfl))) (fun _ _ _ _ _ => pts_nil) (fun _ _ _ _ _ => (pe_op (k_opd_add (K := K) rfl) (pe_slice (k_sld (K := K) rfl) (pv 6) po_none (po_some pe_int)) (pv 9))))) (own := [("_law_one", 8)]) (blkOk_by (by rfl)) (fun _ _ _ _ _ => (pg_name (i := 8) S.nd rfl (Or.inl rfl))) (fun _ _ _ _ _ => (pts_one (pt_cmpR (k_opd_notin (K := K) rfl (room_hu1 hr)) (pv 8) (pv 3) (by rfl)))) (fun _ _ _ _ _ => (pv 8))) pe_int (fun _ _ => rfl)))) pss_nil)
  (pss_one (ps_expr (k_bm (K := K) rfl PySem.F.plainAttrs_list PySem.F.slot_list_append PySem.F.type_list_append (k_mtd_append (K := K) rfl) (pv 3) (pa_cons (pv 6) pa_nil)))))))))
  (pss_one (ps_ret (pv 3))))), ?_⟩
  rintro ds G QD ED ⟨p, pg, pc, n, m, rfl, hD, hn, hm1, hm5, q⟩ hW
  have hpS : ∀ {G1 : HD} {N : Nat}, DAt G1 p pg pc N → (∃ o, G1 p = some o) ∧ (∃ o, G1 pg = some o) := fun h => by
    obtain ⟨⟨r0, t0, gr0, cs0, h1, h2, _⟩, _⟩ := h
    exact ⟨⟨_, h1⟩, _, h2⟩
  have nN : ∀ {a : Addr} {G1 : HD} {N : Nat}, DAt G1 p pg pc N → G1 a = none → a ≠ p ∧ a ≠ pg := fun h e => by
    obtain ⟨⟨o1, e1⟩, o2, e2⟩ := hpS h
    exact ⟨fun z => by (rw [z, e1] at e; cases e), fun z => by (rw [z, e2] at e; cases e)⟩
  have hlim : ∀ k : Nat, k ≤ 60 → n + k ≤ tLim := fun k hk => by omega
  refine rd_seq <| rd_asg <| rd_tup <| rd_cons <| rd_str <| rd_cons <| rd_lst <| rd_nil ⟨by show 0 ≤ sizeLine; decide, fun ps hps => rd_nil ⟨by show 2 ≤ sizeLine; decide, rd_gtup rfl <| rd_gcons <| rd_gname <| rd_gcons <| rd_gname <| rd_gnil ?_⟩⟩
  obtain ⟨nsp, nspg⟩ := nN hD hps
  refine rd_cut (fun S' G' => ∃ (a b c d e g : Option D) (ys : List (List Nat)), S' = [some (.ref p), some (.int m), some (.str letters), some (.ref ps), a, b, c, d, e, g] ∧ ys.length = m ∧ (∀ y ∈ ys, Good y) ∧ G' ps = some (.lst (ys.map nm)) ∧ DAt G' p pg pc (n + 10 * m) ∧ Fr [p, pg] G G') ?_ ?_
  · refine rd_for (rd_rng1 (rd_cons (rd_var rfl (rd_nil ⟨_, rfl, by omega, by omega, ?_⟩))))
    refine ⟨fun i S' G' => ∃ (a b c d e g : Option D) (ys : List (List Nat)), S' = [some (.ref p), some (.int m), some (.str letters), some (.ref ps), a, b, c, d, e, g] ∧ ys.length = i ∧ (∀ y ∈ ys, Good y) ∧ G' ps = some (.lst (ys.map nm)) ∧ DAt G' p pg pc (n + 10 * i) ∧ Fr [p, pg] G G',
      ⟨none, none, none, none, none, none, [], rfl, rfl, by simp, put_same, (hD.sub (Sub.put hps)).mono (by omega), fr_sub (Sub.put hps)⟩, fun _ _ _ _ _ => trivial, ?_, ?_⟩
    · rintro i d0 S' G1 hd0 ⟨a, b, c, d, e, g, ys, rfl, hyl, hyg, hys, hD1, hF1⟩
      have him : i < m := by
        have := (List.getElem?_eq_some_iff.mp hd0).1
        rw [rints_len] at this
        simpa using this
      have keep : ∀ {G2 G3 : HD}, G2 ps = some (.lst (ys.map nm)) → Fr [p, pg] G2 G3 → G3 ps = some (.lst (ys.map nm)) := fun h f => f _ _ h (by simp [nsp, nspg])
      refine rd_gname (rd_seq ?_)
      -- the size
      refine rd_set <| rd_op <| rd_int <| rd_c hW <| rd_cons <| rd_var rfl <| rd_cons <| rd_c hW <| rd_cons <| rd_var rfl <| rd_cons <| rd_lst <| rd_cons <| rd_int <| rd_cons <| rd_int <| rd_cons <| rd_int <| rd_cons <| rd_int <| rd_nil ⟨by show 4 ≤ sizeLine; decide, fun q1 hq1 => rd_nil ?_⟩
      refine ⟨p, pg, pc, n + 10 * i, _, rfl, hD1.sub (Sub.put hq1), hlim _ (by omega), .inl ⟨q1, _, rfl, put_same, (nN hD1 hq1).2, by simp, by simp, fun d1 hd1 G2 hD2 hF2 => rd_nil ?_⟩⟩
      obtain ⟨m1, rfl, hm1a, hm1b⟩ : ∃ m1 : Int, d1 = .int m1 ∧ 1 ≤ m1 ∧ m1 ≤ 6 := by
        simp only [List.mem_cons, List.not_mem_nil, or_false] at hd1
        rcases hd1 with h | h | h | h <;> subst h <;> exact ⟨_, rfl, by decide, by decide⟩
      have hys2 := keep (Sub.put hq1 _ _ hys) hF2
      refine ⟨p, pg, pc, _, m1, rfl, hD2, by omega, by omega, hlim (10 * i + 1) (by omega), fun v G3 v0 v1 hD3 hF3 => ?_⟩
      have hys3 := keep hys2 hF3
      have hFr3 : Fr [p, pg] G G3 := hF1.trans ((fr_sub (Sub.put hq1)).trans (hF2.trans hF3))
      -- the name
      refine rd_seq <| rd_set <| rd_bms <| rd_str ⟨_, rfl, ?_⟩
      refine rd_cons <| rd_lc (own_name (by simp)) <| rd_rng1 <| rd_cons <| rd_var rfl <| rd_nil ⟨1 + v, rfl, by omega, by omega, fun L hL => ?_⟩
      have hLs := nN hD3 hL
      have hLps : ps ≠ L := ne_new hys3 hL
      refine ⟨fun k G' => ∃ cs : List Nat, cs.length = k ∧ (∀ c ∈ cs, isLet c = true) ∧ G' L = some (.lst ((cs.map fun c => SS [c]).map D.str)) ∧ DAt G' p pg pc (n + (10 * i + 2 + k)) ∧ Fr [p, pg] G3 G', ⟨[], rfl, by simp, put_same, (hD3.sub (Sub.put hL)).mono (by omega), fr_sub (Sub.put hL)⟩, fun _ _ _ _ => trivial, ?_, ?_⟩
      · rintro k dk G4 hdk ⟨cs, hcl, hcs, hLc, hD4, hF4⟩
        have hk : k < (1 + v).toNat := by
          have := (List.getElem?_eq_some_iff.mp hdk).1
          rwa [rints_len] at this
        refine rd_gname <| rd_yes <| iteT <| rd_c wc0 <| rd_cons <| rd_var rfl <| rd_cons <| rd_var rfl <| rd_nil ?_
        refine ⟨p, pg, pc, _, .str letters, rfl, hD4, hlim _ (by omega), .inr ⟨lets, by rw [letters_SS], by decide +kernel, by rw [lets_len]; decide, fun c hc G5 hD5 hF5 => ?_⟩⟩
        refine ⟨_, hF5 _ _ hLc (by simp [hLs]), by simp only [List.length_map]; rw [sizeLine_eq]; omega, cs ++ [c], by simp [hcl], ?_, by rw [put_same]; simp, ?_, ?_⟩
        · intro c' hc'
          rcases List.mem_append.mp hc' with z | z
          · exact hcs c' z
          · rw [List.mem_singleton.mp z]; exact lets_mem hc
        · obtain ⟨⟨r0, t0, gr0, cs0, h1, h2, h3, h4⟩, hne⟩ := hD5
          have nLc : pc ≠ L := by
            obtain ⟨⟨_, _, _, _, _, _, h3', _⟩, _⟩ := hD3
            exact ne_new h3' hL
          exact ⟨⟨r0, t0, gr0, cs0, by rw [put_ne hLs.1.symm]; exact h1, by rw [put_ne hLs.2.symm]; exact h2, by rw [put_ne nLc]; exact h3, h4.1, by have := h4.2.1; omega, h4.2.2⟩, hne⟩
        · intro a o e n
          rw [put_ne (ne_new e hL)]
          exact hF5 a o (hF4 a o e n) n
      · rintro G4 ⟨cs, hcl, hcs, hLc, hD4, hF4⟩
        rw [rints_len] at hcl hD4
        have hys4 := keep hys3 hF4
        have hFr4 := hFr3.trans hF4
        have hcg : Good cs := ⟨by omega, by omega, hcs⟩
        refine ⟨G4, Sub.refl _, rd_nil ⟨"", .ref L, cs.map fun c => SS [c], rfl, rfl, .inl ⟨L, rfl, .inl hLc⟩, ?_, ?_⟩⟩
        · have e : ((cs.map fun c => SS [c]).map (·.length)).sum = cs.length := by
            clear hLc hcg hcs hcl hD4
            induction cs with
            | nil => rfl
            | cons c cs ih =>
              simp only [List.map_cons, List.sum_cons, List.length_cons]
              rw [ih, SS_len]
              simp; omega
          rw [e]
          show cs.length + _ * 0 ≤ _
          omega
        rw [join_signs]
        replace hD4 := hD4.mono (show _ ≤ n + (10 * i + 8) by omega)
        -- or a word
        refine rd_cut (fun S' G' => ∃ y, Good y ∧ S' = [some (.ref p), some (.int m), some (.str letters), some (.ref ps), some d0, some (.int (1 + v)), some (nm y), d, e, g] ∧ G' ps = some (.lst (ys.map nm)) ∧ DAt G' p pg pc (n + (10 * i + 10)) ∧ Fr [p, pg] G G') ?_ ?_
        · refine rd_ifS <| rd_test <| rd_op <| rd_c hW <| rd_cons <| rd_var rfl <| rd_cons <| rd_int <| rd_nil ⟨p, pg, pc, _, 8, rfl, hD4, by decide, by decide, hlim _ (by omega), fun u G5 u0 u1 hD5 hF5 => rd_int ⟨_, rfl, ?_⟩⟩
          have hys5 := keep hys4 hF5
          refine ite2 (fun _ => ?_) (fun _ => rd_next ⟨cs, hcg, rfl, hys5, hD5.mono (by omega), hFr4.trans hF5⟩)
          refine rd_set <| rd_c hW <| rd_cons <| rd_var rfl <| rd_cons <| rd_lst <| rd_cons <| rd_str <| rd_cons <| rd_str <| rd_cons <| rd_str <| rd_cons <| rd_str <| rd_cons <| rd_str <| rd_cons <| rd_str <| rd_cons <| rd_str <| rd_cons <| rd_str <| rd_cons <| rd_str <| rd_cons <| rd_str <| rd_cons <| rd_str <| rd_nil ⟨by show 11 ≤ sizeLine; decide, fun q1 hq1 => rd_nil ?_⟩
          refine ⟨p, pg, pc, _, _, rfl, hD5.sub (Sub.put hq1), hlim (10 * i + 9) (by omega), .inl ⟨q1, wordsD, rfl, put_same, (nN hD5 hq1).2, by decide +kernel, by decide, fun d1 hd1 G6 hD6 hF6 => ?_⟩⟩
          obtain ⟨y, rfl, hy⟩ := words_good d1 hd1
          exact ⟨y, hy, rfl, keep (Sub.put hq1 _ _ hys5) hF6, hD6.mono (by omega), hFr4.trans (hF5.trans ((fr_sub (Sub.put hq1)).trans hF6))⟩
        rintro S5 G5 ⟨y, hyg1, rfl, hys5, hD5, hFr5⟩
        -- not one that is there
        refine rd_cut (fun S' G' => ∃ (y : List Nat) (g' : Option D) (e' : Option D), Good y ∧ S' = [some (.ref p), some (.int m), some (.str letters), some (.ref ps), some d0, some (.int (1 + v)), some (nm y), d, e', g'] ∧ G' ps = some (.lst (ys.map nm)) ∧ DAt G' p pg pc (n + (10 * i + 10)) ∧ Fr [p, pg] G G') ?_ ?_
        · refine rd_ifS <| rd_test <| rd_op <| rd_var rfl <| rd_var rfl <| .inl ⟨ys.map nm, .inl hys5, rfl, flat_nms ys, _, rfl, ?_⟩
          refine ite2 (fun _ => ?_) (fun _ => rd_next ⟨y, _, _, hyg1, rfl, hys5, hD5, hFr5⟩)
          refine rd_set <| rd_op <| rd_lcm (own_name (by simp)) <| rd_iseq <| rd_lcm (own_name (by simp)) <| rd_iseq <| rd_var rfl ⟨signs letters, _, .str, fun _ _ => trivial, by rw [signs_len]; decide +kernel, fun _ => true, fun l => .str (SS (y.take 5) ++ strOf l), ?_, fun L1 hL1 => ?_⟩
          · intro l hl G' s1
            obtain ⟨c, hc, rfl⟩ := List.mem_map.mp hl
            refine rd_gname <| rd_yes ⟨Sub.refl _, rfl, fun _ => rd_op <| rd_sl <| rd_var rfl <| rd_nopart <| rd_part <| rd_int ⟨5, rfl, ?_, rd_var rfl ⟨?_, Sub.refl _, ?_⟩⟩⟩
            · have := hyg1.2.1; rw [SS_len, sizeLine_eq]; omega
            · rw [cut5, SS_len, sizeLine_eq]
              show _ + 1 ≤ _
              have := List.length_take_le 5 y
              omega
            · rw [cut5]; rfl
          · have e1 : (((signs letters).filter fun _ => true).map fun l => D.str (SS (y.take 5) ++ strOf l)) = (lets.map fun c => y.take 5 ++ [c]).map nm := by
              rw [List.filter_eq_self.mpr (fun _ _ => rfl)]
              show ((lets.map fun c => D.str (SS [c])).map _) = _
              rw [List.map_map, List.map_map]
              refine List.map_congr_left fun c _ => ?_
              show D.str (SS (y.take 5) ++ SS [c]) = nm _
              rw [SS_cat]; rfl
            rw [e1]
            have hsL : Sub G5 (put G5 L1 (.lst ((lets.map fun c => y.take 5 ++ [c]).map nm))) := Sub.put hL1
            refine ⟨_, _, .lst put_same, fun G' s => s _ _ put_same, by rw [List.length_map, List.length_map, lets_len]; decide, fun o => !inD o (ys.map nm), fun o => o, ?_, fun L2 hL2 => rd_int ?_⟩
            · intro o ho G' s1
              obtain ⟨z, hz, rfl⟩ := List.mem_map.mp ho
              exact rd_gname <| rd_test <| rd_op <| rd_var rfl <| rd_var rfl <| .inl ⟨ys.map nm, .inl (s1 _ _ (hsL _ _ hys5)), rfl, flat_nms ys, _, rfl, Sub.refl _, rfl, fun _ => rd_var rfl ⟨Sub.refl _, rfl⟩⟩
            · obtain ⟨c, hc, hcn⟩ := free_one (y.take 5) ys (by omega)
              have hmem : nm (y.take 5 ++ [c]) ∈ (((lets.map fun c => y.take 5 ++ [c]).map nm).filter fun o => !inD o (ys.map nm)).map fun o => o := by
                rw [List.map_id']
                refine List.mem_filter.mpr ⟨List.mem_map.mpr ⟨_, List.mem_map.mpr ⟨c, hc, rfl⟩, rfl⟩, ?_⟩
                rw [inD_nm, decide_eq_false hcn]; rfl
              cases hfl : (((lets.map fun c => y.take 5 ++ [c]).map nm).filter fun o => !inD o (ys.map nm)).map fun o => o with
              | nil => rw [hfl] at hmem; cases hmem
              | cons w ws =>
                have hw : w ∈ (((lets.map fun c => y.take 5 ++ [c]).map nm).filter fun o => !inD o (ys.map nm)).map fun o => o := by rw [hfl]; exact List.mem_cons_self
                rw [List.map_id'] at hw
                obtain ⟨z, hz, rfl⟩ := List.mem_map.mp (List.mem_filter.mp hw).1
                obtain ⟨c2, hc2, rfl⟩ := List.mem_map.mp hz
                refine .inl ⟨_, 0, nm (y.take 5 ++ [c2]), rfl, .inl put_same, atI_zero, y.take 5 ++ [c2], _, _, ⟨by simp, by simp; omega, fun c' hc' => ?_⟩, rfl, (Sub.put hL2) _ _ (hsL _ _ hys5), hD5.sub (hsL.trans (Sub.put hL2)), hFr5.trans (fr_sub (hsL.trans (Sub.put hL2)))⟩
                rcases List.mem_append.mp hc' with z | z
                · exact hyg1.2.2 c' (List.mem_of_mem_take z)
                · rw [List.mem_singleton.mp z]; exact lets_mem hc2
        rintro S6 G6 ⟨y2, g', e', hyg2, rfl, hys6, hD6, hFr6⟩
        refine rd_drop <| rd_bml <| rd_var rfl ⟨ps, _, rfl, hys6, rd_cons <| rd_var rfl <| rd_nil ⟨ps, _, nm y2, rfl, rfl, hys6, by rw [List.length_map, sizeLine_eq]; omega, _, _, _, _, _, _, ys ++ [y2], rfl, by simp [hyl], ?_, by rw [put_same]; simp, ?_, ?_⟩⟩
        · intro y' hy'
          rcases List.mem_append.mp hy' with z | z
          · exact hyg y' z
          · rw [List.mem_singleton.mp z]; exact hyg2
        · obtain ⟨⟨r0, t0, gr0, cs0, h1, h2, h3, h4⟩, hne⟩ := hD6
          have npc : pc ≠ ps := by
            obtain ⟨⟨_, _, _, _, _, _, h3', _⟩, _⟩ := hD
            exact ne_new h3' hps
          exact ⟨⟨r0, t0, gr0, cs0, by rw [put_ne nsp.symm]; exact h1, by rw [put_ne nspg.symm]; exact h2, by rw [put_ne npc]; exact h3, h4.1, by have := h4.2.1; omega, h4.2.2⟩, hne⟩
        · intro a o e n
          rw [put_ne (ne_new e hps)]
          exact hFr6 a o e n
    · rintro S' G' ⟨a, b, c, d, e, g, ys, h1, h2, h3⟩
      rw [rints_len] at h2 h3
      exact ⟨a, b, c, d, e, g, ys, h1, by simpa using h2, by simpa using h3⟩
  · rintro S' G' ⟨a, b, c, d, e, g, ys, rfl, h2, h3, h4, h5, h6⟩
    exact rd_ret (rd_var rfl ⟨_, Sub.refl _, q ps ys G' hps h4 h2 h3 (h5.mono (by omega)) h6⟩)
end
end Dd
set_option Elab.async false
set_option linter.all false
set_option maxRecDepth 100000
/-! L7: what a text of items does to the reader. -/
namespace Dd
open PySem PySem.Spec L2
open PyProof.Rows hiding St
/-- the text t, begun where an item may begin, gives the events ev; deep brackets more are free -/
def PT (t : List Nat) (ev : List Str) (deep : Nat) : Prop := ∀ s : RSt, s.form = "begin" → s.word = [] → s.stk.length + deep ≤ 6 →
  ∃ s', RSt.runL t s = some s' ∧ (s'.form = "name" ∨ s'.form = "closed") ∧ s'.stk = s.stk ∧ s'.endItem.cur = (s.cur ++ ev).take 201
theorem runL_app : ∀ {a b : List Nat} {s s1 s2 : RSt}, RSt.runL a s = some s1 → RSt.runL b s1 = some s2 → RSt.runL (a ++ b) s = some s2
  | [], b, s, s1, s2, h1, h2 => by cases h1; exact h2
  | c :: a, b, s, s1, s2, h1, h2 => by
    unfold RSt.runL at h1
    split at h1
    · rename_i hc
      show (if _ then _ else _) = _
      rw [if_pos hc]
      exact runL_app h1 h2
    · cases h1
theorem runL_one {c : Nat} {s : RSt} (h : (s.take c).1 = true) : RSt.runL [c] s = some (s.take c).2 := by
  show (if _ then _ else _) = _
  rw [if_pos h]; rfl
theorem f_nb : ¬ (("name" : Str) = "begin") := by decide +kernel
theorem f_nn : ¬ (("name" : Str) = "number") := by decide +kernel
theorem f_ns : ¬ (("name" : Str) = "star") := by decide +kernel
theorem f_cb : ¬ (("closed" : Str) = "begin") := by decide +kernel
theorem f_cn : ¬ (("closed" : Str) = "number") := by decide +kernel
theorem f_cs : ¬ (("closed" : Str) = "star") := by decide +kernel
theorem f_cm : ¬ (("closed" : Str) = "name") := by decide +kernel
theorem f_ub : ¬ (("number" : Str) = "begin") := by decide +kernel
theorem f_sb : ¬ (("star" : Str) = "begin") := by decide +kernel
theorem f_sn : ¬ (("star" : Str) = "number") := by decide +kernel
theorem run_letters : ∀ (r : List Nat) (s : RSt), s.form = "name" → (s.word ++ r).length ≤ 6 → (∀ c ∈ r, isLet c = true) → RSt.runL r s = some { s with word := s.word ++ r }
  | [], s, _, _, _ => by simp [RSt.runL]
  | c :: r, s, hf, hl, hr => by
    have e : s.take c = (decide ((s.word.length + 1 : Int) ≤ 6), { s with word := s.word ++ [c] }) := by
      unfold RSt.take
      rw [hf, if_neg f_nb, if_neg f_nn, if_neg f_ns, if_pos ⟨rfl, hr c List.mem_cons_self⟩]
    have h1 : (s.take c).1 = true := by
      rw [e]
      simp only [List.length_append, List.length_cons] at hl
      exact decide_eq_true (by omega)
    show (if _ then _ else _) = _
    rw [if_pos h1, e]
    have := run_letters r { s with word := s.word ++ [c] } hf (by simpa using hl) fun d hd => hr d (List.mem_cons_of_mem _ hd)
    rw [this]
    simp
theorem PT_name {y : List Nat} (h : Good y) (deep : Nat) : PT y [SS y] deep := fun s hf hw hs => by
  obtain ⟨h1, h2, h3⟩ := h
  cases y with
  | nil => simp at h1
  | cons c r =>
    have hc := h3 c List.mem_cons_self
    have e : s.take c = (true, { s with form := "name", word := [c] }) := by
      unfold RSt.take
      rw [if_pos hf]
      unfold RSt.takeBegin
      rw [if_neg (by rw [hc]; simp), hc, if_pos rfl]
    have h4 : (s.take c).1 = true := by rw [e]
    have h5 := run_letters r { s with form := "name", word := [c] } rfl (by simpa using h2) fun d hd => h3 d (List.mem_cons_of_mem _ hd)
    refine ⟨{ s with form := "name", word := c :: r }, ?_, .inl rfl, rfl, ?_⟩
    · show (if _ then _ else _) = _
      rw [if_pos h4, e]
      exact h5
    · unfold RSt.endItem
      rw [if_pos rfl]; rfl
theorem take_take_app {α : Type} (n : Nat) (xs ys : List α) : (xs.take n ++ ys).take n = (xs ++ ys).take n := by
  rw [List.take_append, List.take_append, List.take_take, Nat.min_self, List.length_take]
  by_cases h : n ≤ xs.length
  · rw [Nat.min_eq_left h, Nat.sub_self, Nat.sub_eq_zero_of_le h]
  · rw [Nat.min_eq_right (by omega)]
theorem take_app_take {α : Type} (n : Nat) (xs ys : List α) : (xs ++ ys.take n).take n = (xs ++ ys).take n := by
  rw [List.take_append, List.take_append, List.take_take, Nat.min_eq_left (Nat.sub_le _ _)]
theorem PT.cut {t : List Nat} {ev : List Str} {deep : Nat} (h : PT t ev deep) : PT t (ev.take 201) deep := fun s a b c => by
  obtain ⟨s', h1, h2, h3, h4⟩ := h s a b c
  exact ⟨s', h1, h2, h3, by rw [take_app_take]; exact h4⟩
theorem take_end_of {s : RSt} {c : Nat} (hf : s.form = "name" ∨ s.form = "closed") (hc : isLet c = false) : s.take c = s.takeEnd c := by
  unfold RSt.take
  rcases hf with h | h
  · rw [h, if_neg f_nb, if_neg f_nn, if_neg f_ns, if_neg (by rw [hc]; simp)]
  · rw [h, if_neg f_cb, if_neg f_cn, if_neg f_cs, if_neg (by intro z; exact f_cm z.1)]
theorem PT.app {t1 t2 : List Nat} {e1 e2 : List Str} {deep : Nat} (h1 : PT t1 e1 deep) (h2 : PT t2 e2 deep) : PT (t1 ++ (32 :: t2)) (e1 ++ e2) deep := fun s a b c => by
  obtain ⟨s1, r1, f1, k1, c1⟩ := h1 s a b c
  have e : s1.take 32 = (true, { s1.endItem with form := "begin" }) := by
    rw [take_end_of f1 (by decide +kernel), takeEnd_no (.inr (by decide))]; rfl
  obtain ⟨s2, r2, f2, k2, c2⟩ := h2 { s1.endItem with form := "begin" } rfl rfl (by show s1.endItem.stk.length + deep ≤ 6; rw [endItem_stk, k1]; exact c)
  refine ⟨s2, runL_app r1 ?_, f2, ?_, ?_⟩
  · show (if _ then _ else _) = _
    rw [if_pos (by rw [e]), e]
    exact r2
  · rw [k2]; show s1.endItem.stk = s.stk; rw [endItem_stk, k1]
  · rw [c2]
    show (s1.endItem.cur ++ e2).take 201 = _
    rw [c1, take_take_app, List.append_assoc]
/-- the signs of a number -/
def numC (n : Nat) : List Nat := (Str.ofString (toString (n : Int))).cps.toList
def digOk (n : Nat) : Bool := match numC n with
  | [] => false
  | d :: ds => isFig d && !decide (d = 48) && !isLet d && ((List.range ds.length).all fun i => decide (dv ((d :: ds).take (i + 2)) ≤ 200)) && ds.all isFig && decide (dv (d :: ds) = n) && decide ((d :: ds).length ≤ 3)
theorem digOk_all : ((List.range 201).all fun n => decide (n < 2) || digOk n) = true := by decide +kernel
theorem run_digits : ∀ (r : List Nat) (s : RSt), s.form = "number" → (∀ c ∈ r, isFig c = true) → (∀ i, i < r.length → dv (s.word ++ r.take (i + 1)) ≤ 200) → RSt.runL r s = some { s with word := s.word ++ r }
  | [], s, _, _, _ => by simp [RSt.runL]
  | c :: r, s, hf, hr, hd => by
    have e : s.take c = (decide ((dv (s.word ++ [c]) : Int) ≤ 200), { s with word := s.word ++ [c] }) := by
      unfold RSt.take
      rw [if_neg (by rw [hf]; exact f_ub), if_pos hf]
      unfold RSt.takeNumber
      rw [if_pos (hr c List.mem_cons_self)]
    have h0 := hd 0 (by simp)
    have h1 : (s.take c).1 = true := by
      rw [e]
      have h0 : dv (s.word ++ [c]) ≤ 200 := by simpa using h0
      exact decide_eq_true (by omega)
    show (if _ then _ else _) = _
    rw [if_pos h1, e]
    have := run_digits r { s with word := s.word ++ [c] } hf (fun d hd => hr d (List.mem_cons_of_mem _ hd)) (fun i hi => by
      have := hd (i + 1) (by simpa using hi)
      show dv ((s.word ++ [c]) ++ _) ≤ 200
      rw [List.append_assoc]
      simpa using this)
    rw [this]
    simp
theorem rep_app {α : Type} (a b : Nat) (xs : List α) : rep ((a + b : Nat) : Int) xs = rep (a : Int) xs ++ rep (b : Int) xs := by
  unfold rep
  simp only [Int.toNat_natCast]
  rw [← List.replicate_append_replicate, List.flatten_append]
theorem div_more {n : Nat} (h : 0 < n) : 201 < (201 / n + 1) * n := by
  have h1 := Nat.div_add_mod 201 n
  have h2 := Nat.mod_lt 201 h
  have h3 : (201 / n + 1) * n = n * (201 / n) + n := by rw [Nat.add_mul, Nat.one_mul, Nat.mul_comm]
  omega
theorem rep_cut {α : Type} (cur : List α) (ev : List α) (times : Nat) (h : ev ≠ []) : (cur ++ rep ((min times (201 / ev.length + 1) : Nat) : Int) ev).take 201 = (cur ++ rep (times : Int) ev).take 201 := by
  by_cases hm : times ≤ 201 / ev.length + 1
  · rw [Nat.min_eq_left hm]
  · rw [Nat.min_eq_right (by omega)]
    obtain ⟨k, e⟩ : ∃ k, times = (201 / ev.length + 1) + k := ⟨times - (201 / ev.length + 1), by omega⟩
    have e2 : rep (times : Int) ev = rep ((201 / ev.length + 1 : Nat) : Int) ev ++ rep (k : Int) ev := by rw [e, rep_app]
    rw [e2, ← List.append_assoc]
    have hp : 0 < ev.length := List.length_pos_iff.mpr h
    have hl : 201 ≤ (cur ++ rep ((201 / ev.length + 1 : Nat) : Int) ev).length := by
      rw [List.length_append, rep_len, Int.toNat_natCast]
      have : 201 < (201 / ev.length + 1) * ev.length := div_more hp
      omega
    rw [List.take_append_of_le_length hl]
theorem PT.rep {t : List Nat} {ev : List Str} {deep times : Nat} (h : PT t ev deep) (he : ev.length ≤ 201) (h2 : 2 ≤ times) (h200 : times ≤ 200) : PT (numC times ++ (42 :: 40 :: (t ++ [41]))) (rep (times : Int) ev) (deep + 1) := fun s hf hw hs => by
  have hd : digOk times = true := by
    have := List.all_eq_true.mp digOk_all times (List.mem_range.mpr (by omega))
    simpa [show ¬ times < 2 by omega] using this
  unfold digOk at hd
  cases hn : numC times with
  | nil => rw [hn] at hd; cases hd
  | cons d ds =>
    rw [hn] at hd
    simp only [Bool.and_eq_true, Bool.not_eq_true', decide_eq_false_iff_not, decide_eq_true_eq, List.all_eq_true, List.mem_range] at hd
    obtain ⟨⟨⟨⟨⟨⟨d1, d2⟩, d3⟩, d4⟩, d5⟩, d6⟩, d7⟩ := hd
    -- the number
    have e1 : s.take d = (true, { s with form := "number", word := [d] }) := by
      unfold RSt.take
      rw [if_pos hf]
      unfold RSt.takeBegin
      rw [if_neg (by rw [d1, decide_eq_false d2]; simp; omega), d3]
      rfl
    have r1 : RSt.runL (d :: ds) s = some { s with form := "number", word := d :: ds } := by
      show (if _ then _ else _) = _
      rw [if_pos (by rw [e1]), e1]
      exact run_digits ds { s with form := "number", word := [d] } rfl d5 fun i hi => d4 i hi
    -- the star
    have e2 : RSt.take 42 { s with form := "number", word := d :: ds } = (true, { s with form := "star", word := d :: ds }) := by
      unfold RSt.take
      rw [if_neg f_ub, if_pos rfl]
      unfold RSt.takeNumber
      rw [if_neg (by decide +kernel)]
      have : (1 : Int) < dv (d :: ds) := by rw [d6]; omega
      simp [this]
    have e3 : RSt.take 40 { s with form := "star", word := d :: ds } = (true, ⟨"begin", [], s.stk ++ [(((times : Nat) : Int), s.cur)], []⟩) := by
      unfold RSt.take
      rw [if_neg f_sb, if_neg f_sn, if_pos rfl]
      unfold RSt.takeStar
      simp [d6]
    obtain ⟨s3, r3, f3, k3, c3⟩ := h ⟨"begin", [], s.stk ++ [(((times : Nat) : Int), s.cur)], []⟩ rfl rfl (by simp; omega)
    have e4 : s3.take 41 = (true, { ({ s3.endItem with form := "begin", stk := s.stk, cur := s.cur } : RSt).put (Dd.rep ((times : Nat) : Int) s3.endItem.cur) with form := "closed" }) := by
      rw [take_end_of f3 (by decide +kernel), takeEnd_pop k3]
    have ce : s3.endItem.cur = ev := by
      rw [c3, List.nil_append, List.take_of_length_le he]
    refine ⟨_, runL_app r1 (runL_app (a := [42]) (runL_one (by rw [e2])) (runL_app (a := [40]) (b := t ++ [41]) (runL_one (by rw [e2, e3])) (runL_app (b := [41]) (by rw [e2, e3]; exact r3) (runL_one (by rw [e4]))))), ?_, ?_, ?_⟩
    · rw [e4]; exact .inr rfl
    · rw [e4]; rfl
    · rw [e4]
      unfold RSt.endItem
      rw [if_neg (by show ¬ (("closed" : Str) = "name"); exact f_cm)]
      show (s.cur ++ Dd.rep _ s3.endItem.cur).take 201 = _
      rw [ce]
theorem PT.rep2 {t : List Nat} {ev : List Str} {deep times : Nat} (h : PT t ev deep) (he : ev.length ≤ 201) (hn : ev ≠ []) (h2 : 2 ≤ times) (h200 : times ≤ 200) : PT (numC times ++ (42 :: 40 :: (t ++ [41]))) (Dd.rep ((min times (201 / ev.length + 1) : Nat) : Int) ev) (deep + 1) := fun s a b c => by
  obtain ⟨s', h1, h2, h3, h4⟩ := h.rep he h2 h200 s a b c
  exact ⟨s', h1, h2, h3, by rw [rep_cut _ _ _ hn]; exact h4⟩
/-- read_log of it -/
theorem PT.read {t : List Nat} {ev : List Str} {deep : Nat} (h : PT t ev deep) (hd : deep ≤ 6) (he : ev.length ≤ 201) : readLog t = if ev.length > 200 then .many else .ok ev := by
  obtain ⟨s', h1, h2, h3, h4⟩ := h RSt.init rfl rfl (by show 0 + deep ≤ 6; omega)
  have hc : s'.canEnd = true := by
    unfold RSt.canEnd
    have : s'.stk = [] := h3
    rw [this]
    rcases h2 with z | z <;> simp [z]
  have hcur : s'.endItem.cur = ev := by
    rw [h4]
    show ([] ++ ev).take 201 = ev
    rw [List.nil_append, List.take_of_length_le he]
  unfold readLog
  rw [run_all h1]
  show (if t ≠ [] ∧ s'.canEnd = false then _ else _) = _
  rw [if_neg (by rw [hc]; simp), hcur]
end Dd
set_option Elab.async false
set_option linter.all false
set_option maxRecDepth 100000
/-! L8: the law's items. -/
namespace Dd
open PySem PySem.Spec L2
open PyProof.Rows hiding St
def cost : Nat → Nat
  | 0 => 7
  | d + 1 => 1 + 3 * (cost d + 4)
def tl : Nat → Nat
  | 0 => 21
  | d + 1 => 3 * (tl d + 7)
def stp : Nat → Nat
  | 0 => 2
  | d + 1 => cost d + 4
def ib : Nat → Nat
  | 0 => 6
  | d + 1 => tl d + 6
theorem cost_eq (d : Nat) : cost d = 1 + 3 * stp d := by cases d <;> rfl
theorem tl_eq (d : Nat) : tl d = 3 * (ib d + 1) := by cases d <;> rfl
theorem cost_mono : ∀ d, d ≤ 6 → cost d ≤ cost 6 := by decide +kernel
theorem tl_mono : ∀ d, d ≤ 6 → tl d ≤ 100000 := by decide +kernel
def GoodEv (ev : List Str) : Prop := ∀ z ∈ ev, ∃ y, z = SS y ∧ Good y
theorem joinL_snoc (a : List Nat) : ∀ (ts : List (List Nat)) (t : List Nat), ts ≠ [] → TL.joinL a (ts ++ [t]) = TL.joinL a ts ++ (a ++ t)
  | [], t, h => absurd rfl h
  | [x], t, _ => rfl
  | x :: y :: r, t, _ => by
    have := joinL_snoc a (y :: r) t (by simp)
    show x ++ (a ++ TL.joinL a ((y :: r) ++ [t])) = (x ++ (a ++ TL.joinL a (y :: r))) ++ (a ++ t)
    rw [this]; simp
theorem sum_len (a : Nat) : ∀ (ts : List (List Nat)), ts ≠ [] → ((ts.map SS).map (·.length)).sum + ts.length * 1 = (TL.joinL [a] ts).length + 1
  | [], h => absurd rfl h
  | [x], _ => by simp [TL.joinL, SS_len]
  | x :: y :: r, _ => by
    have := sum_len a (y :: r) (by simp)
    show (SS x).length + (((y :: r).map SS).map (·.length)).sum + ((y :: r).length + 1) * 1 = (x ++ ([a] ++ TL.joinL [a] (y :: r))).length + 1
    rw [SS_len, List.length_append, List.length_append]
    simp only [List.length_cons, List.length_nil] at this ⊢
    omega
theorem numC_len {n : Nat} (h2 : 2 ≤ n) (h200 : n ≤ 200) : (numC n).length ≤ 3 := by
  have hd : digOk n = true := by
    have := List.all_eq_true.mp digOk_all n (List.mem_range.mpr (by omega))
    simpa [show ¬ n < 2 by omega] using this
  unfold digOk at hd
  cases hn : numC n with
  | nil => simp
  | cons d ds =>
    rw [hn] at hd
    simp only [Bool.and_eq_true, decide_eq_true_eq] at hd
    exact hd.2
theorem DAt.putO {G : HD} {p pg pc a : Addr} {n : Nat} {o : DO} (h : DAt G p pg pc n) (n1 : a ≠ p) (n2 : a ≠ pg) (n3 : a ≠ pc) : DAt (put G a o) p pg pc n := by
  obtain ⟨⟨r, t, gr, cs, h1, h2, h3, h4⟩, ne⟩ := h
  exact ⟨⟨r, t, gr, cs, by rw [put_ne n1.symm]; exact h1, by rw [put_ne n2.symm]; exact h2, by rw [put_ne n3.symm]; exact h3, h4⟩, ne⟩
section
variable {P : Program} {w : World} {K : PySem.W.Frag} {mg : Str → Option Value} {base : Heap} {f C : Addr} {fd : FuncData}
def spIt (Dm : Nat) : SpD := fun ds G QD _ => ∃ (p pg pc : Addr) (n : Nat) (pn : Addr) (ns : List (List Nat)) (d : Nat), ds = [.ref p, .ref pn, .int d] ∧ d + 1 ≤ Dm ∧ d ≤ 6 ∧ DAt G p pg pc n ∧ n + cost d ≤ tLim ∧
  G pn = some (.lst (ns.map nm)) ∧ pn ≠ pg ∧ ns ≠ [] ∧ ns.length ≤ 100 ∧ (∀ y ∈ ns, Good y) ∧
  ∀ (t : List Nat) (ev : List Str) pe G', G pe = none → G' pe = some (.lst (ev.map D.str)) → PT t ev d → ev ≠ [] → ev.length ≤ 201 → t.length ≤ tl d → GoodEv ev → DAt G' p pg pc (n + cost d) → Fr [p, pg] G G' → QD (.tup [.str (SS t), .ref pe]) G'
theorem ok_it (Dm j : Nat) (hj : 3 ≤ j) (F : Fun K "_law_items" "_law_items" s_law_items f fd) (T : TX mg) (C_law_take : CalG P w K mg base 2 "_law_take" ["_law_draw", "_law_many"] spTake) (C_law_pick : CalG P w K mg base 3 "_law_pick" ["_law_draw", "_law_some"] spPick)
    (C_law_items : CalG P w K mg base j "_law_items" ["_law_draw", "_law_names_here", "_law_deep"] (spIt Dm)) : FnG P w K mg base (j + 1) f fd ["_law_draw", "_law_names_here", "_law_deep"] (spOf K (spIt (Dm + 1))) := by
  have S := S_law_items
  refine okG F S (fun ds G Q E ⟨_, _, _, _, _, _, _, e, _⟩ => by rw [e]; rfl) fun cdv A outer s H E hr tk => ?_
  refine ⟨_, (pss_cons (ps_par (i := 3) (j := 4) rfl S.nd rfl rfl (by decide) rfl rfl (pa_cons (pe_lst pa_nil) (pa_cons (pe_lst pa_nil) pa_nil)) (by rfl))
  (pss_cons (ps_for PassesOwn.leaving rfl (pi_range1 rfl T.m_range (pa_cons (pe_op (k_opd_add (K := K) rfl) pe_int (k_c C_law_take rfl rfl rfl rfl rfl hr (by omega) rfl tk (pa_cons (pv 0) (pa_cons pe_int pa_nil)))) pa_nil)) (pg_name (i := 5) S.nd rfl (Or.inl rfl)) (pss_one (ps_if (PW.pt (pw_and (pt_cmpR (k_opd_gt (K := K) rfl) (pv 2) pe_int (nomark _)) (pw_and1 (pt_cmpR (k_opd_eq (K := K) rfl hr.rm.units) (k_c C_law_take rfl rfl rfl rfl rfl hr (by omega) rfl tk (pa_cons (pv 0) (pa_cons pe_int pa_nil))) pe_int (nomark _))))) (pss_cons (ps_asg (k_c C_law_items rfl rfl rfl rfl rfl hr (by omega) rfl tk (pa_cons (pv 0) (pa_cons (pv 1) (pa_cons (pe_op (k_opd_sub (K := K) rfl) (pv 2) pe_int) pa_nil)))) (k_tup (K := K) rfl rfl (pgs_cons (pg_name (i := 6) S.nd rfl (Or.inl rfl)) (pgs_cons (pg_name (i := 7) S.nd rfl (Or.inl rfl)) pgs_nil))))
  (pss_cons (ps_set (i := 8) S.nd rfl (Or.inl rfl) (k_c C_law_pick rfl rfl rfl rfl rfl hr (by omega) rfl tk (pa_cons (pv 0) (pa_cons (pe_lst (pa_cons pe_int (pa_cons pe_int (pa_cons pe_int (pa_cons pe_int (pa_cons pe_int (pa_cons pe_int (pa_cons (pe_op (k_opd_add (K := K) rfl) pe_int (k_c C_law_take rfl rfl rfl rfl rfl hr (by omega) rfl tk (pa_cons (pv 0) (pa_cons pe_int pa_nil)))) pa_nil)))))))) pa_nil))))
  (pss_cons (ps_expr (k_bm (K := K) rfl PySem.F.plainAttrs_list PySem.F.slot_list_append PySem.F.type_list_append (k_mtd_append (K := K) rfl) (pv 3) (pa_cons (pe_op (k_opd_add (K := K) rfl) (pe_op (k_opd_add (K := K) rfl) (pe_op (k_opd_add (K := K) rfl) (pe_callTy (k_crd_str (K := K) rfl) rfl T.m_str (by rfl) (pa_cons (pv 8) pa_nil)) pe_str) (pv 6)) pe_str) pa_nil)))
  (pss_one (ps_set (i := 4) S.nd rfl (Or.inl rfl) (pe_slice (k_sld (K := K) rfl) (pe_op (k_opd_add (K := K) rfl) (pv 4) (pe_op (k_opd_mul (K := K) rfl) (pv 7) (pe_callB (k_crd_min2 (K := K) rfl rfl) rfl T.m_min (by rfl) (pa_cons (pv 8) (pa_cons (pe_op (k_opd_add (K := K) rfl) (pe_op (k_opd_fdiv (K := K) rfl) pe_int (pe_callB (k_crd_len (K := K) rfl) rfl T.m_len (by rfl) (pa_cons (pv 7) pa_nil))) pe_int) pa_nil))))) po_none (po_some pe_int))))))) (pss_cons (ps_set (i := 9) S.nd rfl (Or.inl rfl) (k_c C_law_pick rfl rfl rfl rfl rfl hr (by omega) rfl tk (pa_cons (pv 0) (pa_cons (pv 1) pa_nil))))
  (pss_cons (ps_expr (k_bm (K := K) rfl PySem.F.plainAttrs_list PySem.F.slot_list_append PySem.F.type_list_append (k_mtd_append (K := K) rfl) (pv 3) (pa_cons (pv 9) pa_nil)))
  (pss_one (ps_set (i := 4) S.nd rfl (Or.inl rfl) (pe_slice (k_sld (K := K) rfl) (pe_op (k_opd_add (K := K) rfl) (pv 4) (pe_lst (pa_cons (pv 9) pa_nil))) po_none (po_some pe_int)))))))))
  (pss_one (ps_ret (pe_tup (pa_cons (k_bm (K := K) rfl PySem.F.plainAttrs_str PySem.F.slot_str_join PySem.F.type_str_join (k_mtd_join (K := K) rfl) pe_str (pa_cons (pv 3) pa_nil)) (pa_cons (pv 4) pa_nil))))))), ?_⟩
  rintro ds G QD ED ⟨p, pg, pc, n, pn, ns, dp, rfl, hdD, hd6, hD, hn, hpn, npn, hns, hnl, hng, q⟩ hW
  have hpS : ∀ {G1 : HD} {N : Nat}, DAt G1 p pg pc N → (∃ o, G1 p = some o) ∧ (∃ o, G1 pg = some o) := fun h => by
    obtain ⟨⟨r0, t0, gr0, cs0, h1, h2, _⟩, _⟩ := h
    exact ⟨⟨_, h1⟩, _, h2⟩
  have nN : ∀ {a : Addr} {G1 : HD} {N : Nat}, DAt G1 p pg pc N → G1 a = none → a ≠ p ∧ a ≠ pg := fun h e => by
    obtain ⟨⟨o1, e1⟩, o2, e2⟩ := hpS h
    exact ⟨fun z => by (rw [z, e1] at e; cases e), fun z => by (rw [z, e2] at e; cases e)⟩
  have npp : pn ≠ p := fun z => by
    obtain ⟨⟨r0, t0, gr0, cs0, h1, _⟩, _⟩ := hD
    rw [z, h1] at hpn; cases hpn
  have hce := cost_eq dp
  have hte := tl_eq dp
  have htm := tl_mono dp hd6
  refine rd_seq <| rd_par <| rd_cons <| rd_lst <| rd_nil ⟨by show 0 ≤ sizeLine; decide, fun pt hpt => rd_cons <| rd_lst <| rd_nil ⟨by show 0 ≤ sizeLine; decide, fun pe0 hpe0 => rd_nil ⟨_, _, rfl, ?_⟩⟩⟩
  obtain ⟨ntp, ntg⟩ := nN hD hpt
  have s0 : Sub G (put (put G pt (.lst [])) pe0 (.lst [])) := (Sub.put hpt).trans (Sub.put hpe0)
  have gpe0 : G pe0 = none := by
    cases e : G pe0 with
    | none => rfl
    | some o => rw [Sub.put hpt _ _ e] at hpe0; cases hpe0
  have nte : pt ≠ pe0 := ne_new put_same hpe0
  -- behind i turns
  let Iv : Nat → DS → HD → Prop := fun i S' G' => ∃ (pe : Addr) (a b c e g : Option D) (ts : List (List Nat)) (ev : List Str), S' = [some (.ref p), some (.ref pn), some (.int dp), some (.ref pt), some (.ref pe), a, b, c, e, g] ∧ ts.length = i ∧
    G' pt = some (.lst ((ts.map SS).map D.str)) ∧ G' pe = some (.lst (ev.map D.str)) ∧ G pe = none ∧ pe ≠ pt ∧ (ts ≠ [] → PT (TL.joinL [32] ts) ev dp ∧ ev ≠ []) ∧ (ts = [] → ev = []) ∧ ev.length ≤ 201 ∧ (ts ≠ [] → (TL.joinL [32] ts).length + 1 ≤ i * (ib dp + 1)) ∧ GoodEv ev ∧
    DAt G' p pg pc (n + 1 + i * stp dp) ∧ Fr [p, pg] G G'
  have hlim : ∀ i k : Nat, i ≤ 2 → k ≤ stp dp → n + 1 + i * stp dp + k ≤ tLim := fun i k hi hk => by
    have : i * stp dp ≤ 2 * stp dp := Nat.mul_le_mul hi (Nat.le_refl _)
    omega
  refine rd_cut (fun S' G' => ∃ i, 1 ≤ i ∧ i ≤ 3 ∧ Iv i S' G') ?_ ?_
  · refine rd_for <| rd_rng1 <| rd_cons <| rd_op <| rd_int <| rd_c hW <| rd_cons <| rd_var rfl <| rd_cons <| rd_int <| rd_nil ⟨p, pg, pc, n, 3, rfl, hD.sub s0, by decide, by decide, by omega, fun v G1 v0 v1 hD1 hF1 => rd_nil ⟨1 + v, rfl, by omega, by omega, ?_⟩⟩
    have kt : G1 pt = some (.lst []) := hF1 _ _ (Sub.put hpe0 _ _ put_same) (by simp [ntp, ntg])
    have ke : G1 pe0 = some (.lst []) := hF1 _ _ put_same (by simp [nN hD gpe0])
    refine ⟨Iv, ⟨pe0, none, none, none, none, none, [], [], rfl, rfl, kt, ke, gpe0, nte.symm, fun h => absurd rfl h, fun _ => rfl, by simp, fun h => absurd rfl h, fun z hz => (by cases hz), hD1.mono (by omega), (fr_sub s0).trans hF1⟩, fun _ _ _ _ _ => trivial, ?_, ?_⟩
    · rintro i d0 S' G2 hd0 ⟨pe, a, b, c, e, g, ts, ev, rfl, htl, hpt2, hpe2, hpen, npe, hPT, hev0, hevl, hjl, hge, hD2, hF2⟩
      have hi2 : i ≤ 2 := by
        have := (List.getElem?_eq_some_iff.mp hd0).1
        rw [rints_len] at this
        omega
      have keep : ∀ {G3 G4 : HD} {a : Addr} {o : DO}, G3 a = some o → Fr [p, pg] G3 G4 → a ≠ p → a ≠ pg → G4 a = some o := fun h f n1 n2 => f _ _ h (by simp [n1, n2])
      have hpn2 : G2 pn = some (.lst (ns.map nm)) := hF2 _ _ hpn (by simp [npp, npn])
      obtain ⟨nep, neg⟩ := nN hD hpen
      refine rd_gname ?_
      -- the events with those of one item more
      have fin : ∀ (G3 : HD) (t1 : List Nat) (e1 : List Str) (sl : List (Option D)) (pe3 : Addr), PT t1 e1 dp → e1 ≠ [] → t1.length ≤ ib dp → GoodEv e1 → DAt G3 p pg pc (n + 1 + (i + 1) * stp dp) → Fr [p, pg] G G3 → G pe3 = none → pe3 ≠ pt →
          G3 pt = some (.lst (((ts ++ [t1]).map SS).map D.str)) → G3 pe3 = some (.lst (((ev ++ e1).take 201).map D.str)) → sl.length = 5 → Iv (i + 1) ([some (.ref p), some (.ref pn), some (.int dp), some (.ref pt), some (.ref pe3)] ++ sl) G3 := fun G3 t1 e1 sl pe3 h1 h2 h3 h4 h5 h6 h7 h8 h9 h10 h11 => by
        obtain ⟨a', b', c', e', g', rfl⟩ : ∃ a b c e g, sl = [a, b, c, e, g] := by
          match sl, h11 with
          | [a, b, c, e, g], _ => exact ⟨a, b, c, e, g, rfl⟩
        have hne : (ev ++ e1).take 201 ≠ [] := by
          intro z
          rcases List.take_eq_nil_iff.mp z with z | z
          · cases z
          · exact h2 (List.append_eq_nil_iff.mp z).2
        refine ⟨pe3, a', b', c', e', g', ts ++ [t1], (ev ++ e1).take 201, rfl, by simp [htl], h9, h10, h7, h8, fun _ => ⟨?_, hne⟩, fun z => by simp at z, by rw [List.length_take]; omega, fun _ => ?_, ?_, h5, h6⟩
        · by_cases h0 : ts = []
          · subst h0
            rw [hev0 rfl]
            exact h1.cut
          · rw [joinL_snoc _ _ _ h0]
            exact ((hPT h0).1.app h1).cut
        · by_cases h0 : ts = []
          · subst h0
            have : i = 0 := by simpa using htl.symm
            subst this
            show t1.length + 1 ≤ (0 + 1) * (ib dp + 1)
            omega
          · rw [joinL_snoc _ _ _ h0, List.length_append, List.length_append]
            have := hjl h0
            show (TL.joinL [32] ts).length + (1 + t1.length) + 1 ≤ (i + 1) * (ib dp + 1)
            rw [Nat.add_mul]
            omega
        · intro z hz
          rcases List.mem_append.mp (List.mem_of_mem_take hz) with z1 | z1
          · exact hge z z1
          · exact h4 z z1
      refine rd_ifS (RdT.imp (Q := fun b G3 => ∃ k, k + 1 ≤ stp dp ∧ (b = true → 1 ≤ dp ∧ k = 1) ∧ DAt G3 p pg pc (n + 1 + i * stp dp + k) ∧ Fr [p, pg] G2 G3) ?_ ?_)
      · refine rd_and <| rd_test <| rd_op <| rd_var rfl <| rd_int ⟨_, rfl, ?_⟩
        refine ite2 (fun hd => ?_) (fun hd => ⟨0, by cases dp <;> simp [stp], fun z => (by cases z), hD2, Fr.refl⟩)
        have hd1 : 1 ≤ dp := by
          have : (0 : Int) < dp := of_decide_eq_true hd
          omega
        have hst : 4 ≤ stp dp := by
          cases dp with
          | zero => omega
          | succ d => show 4 ≤ cost d + 4; omega
        exact rd_test <| rd_op <| rd_c hW <| rd_cons <| rd_var rfl <| rd_cons <| rd_int <| rd_nil ⟨p, pg, pc, _, 3, rfl, hD2, by decide, by decide, hlim i 0 hi2 (by omega), fun u G3 u0 u1 hD3 hF3 => rd_int ⟨_, rfl, 1, by omega, fun _ => ⟨hd1, rfl⟩, hD3, hF3⟩⟩
      rintro bb G3 ⟨k, hk, hb1, hD3, hF3⟩
      have hi1 : (i + 1) * stp dp = i * stp dp + stp dp := by rw [Nat.add_mul, Nat.one_mul]
      have ncp : pt ≠ pc := by
        obtain ⟨⟨_, _, _, _, _, _, h3', _⟩, _⟩ := hD
        exact (ne_new h3' hpt).symm
      have hpt3 := keep hpt2 hF3 ntp ntg
      have hpe3 := keep hpe2 hF3 nep neg
      refine ite2 (fun hb => ?_) (fun hb => ?_)
      · obtain ⟨hd1, rfl⟩ := hb1 hb
        obtain ⟨d, rfl⟩ : ∃ d, dp = d + 1 := ⟨dp - 1, by omega⟩
        have hst : stp (d + 1) = cost d + 4 := rfl
        have hib : ib (d + 1) = tl d + 6 := rfl
        have htd := tl_mono d (by omega)
        have hpn3 := keep hpn2 hF3 npp npn
        have ed : ((d + 1 : Nat) : Int) - 1 = (d : Nat) := by omega
        refine rd_seq <| rd_asg <| rd_c hW <| rd_cons <| rd_var rfl <| rd_cons <| rd_var rfl <| rd_cons <| rd_op <| rd_var rfl <| rd_int ⟨trivial, rd_nil ⟨p, pg, pc, _, pn, ns, d, by show [D.ref p, D.ref pn, D.int (((d + 1 : Nat) : Int) - 1)] = _; rw [ed], by omega, by omega, hD3, by have := hlim i (1 + cost d) hi2 (by omega); omega, hpn3, npn, hns, hnl, hng, fun t2 ev2 pi G4 hpi hpi4 hP2 hne2 hl2 ht2 hg2 hD4 hF4 => ?_⟩⟩
        have hpt4 := keep hpt3 hF4 ntp ntg
        have hpe4 := keep hpe3 hF4 nep neg
        have hpi0 := nN hD3 hpi
        have n2p : 0 < ev2.length := List.length_pos_iff.mpr hne2
        refine rd_gtup rfl <| rd_gcons <| rd_gname <| rd_gcons <| rd_gname <| rd_gnil ?_
        -- how often
        refine rd_cut (fun S' G' => ∃ (m : Nat) (gg : Option D), 2 ≤ m ∧ m ≤ 200 ∧ S' = [some (.ref p), some (.ref pn), some (.int ((d + 1 : Nat) : Int)), some (.ref pt), some (.ref pe), some d0, some (.str (SS t2)), some (.ref pi), some (.int m), gg] ∧ DAt G' p pg pc (n + 1 + i * stp (d + 1) + 1 + cost d + 2) ∧ Fr [p, pg] G4 G') ?_ ?_
        · refine rd_set <| rd_c hW <| rd_cons <| rd_var rfl <| rd_cons <| rd_lst <| rd_cons <| rd_int <| rd_cons <| rd_int <| rd_cons <| rd_int <| rd_cons <| rd_int <| rd_cons <| rd_int <| rd_cons <| rd_int <| rd_cons <| rd_op <| rd_int <| rd_c hW <| rd_cons <| rd_var rfl <| rd_cons <| rd_int <| rd_nil ⟨p, pg, pc, _, 199, rfl, hD4, by decide, by decide, by have := hlim i (1 + cost d) hi2 (by omega); omega, fun u G5 u0 u1 hD5 hF5 => rd_nil ⟨by show 7 ≤ sizeLine; decide, fun q1 hq1 => rd_nil ?_⟩⟩
          refine ⟨p, pg, pc, _, _, rfl, hD5.sub (Sub.put hq1), by have := hlim i (1 + cost d + 1) hi2 (by omega); omega, .inl ⟨q1, _, rfl, put_same, (nN hD5 hq1).2, by simp, by simp, fun d1 hd1 G6 hD6 hF6 => ?_⟩⟩
          obtain ⟨m, rfl, hm1, hm2⟩ : ∃ m : Nat, d1 = .int m ∧ 2 ≤ m ∧ m ≤ 200 := by
            simp only [List.mem_cons, List.not_mem_nil, or_false] at hd1
            rcases hd1 with h | h | h | h | h | h | h
            · exact ⟨2, h, by omega, by omega⟩
            · exact ⟨2, h, by omega, by omega⟩
            · exact ⟨3, h, by omega, by omega⟩
            · exact ⟨5, h, by omega, by omega⟩
            · exact ⟨10, h, by omega, by omega⟩
            · exact ⟨200, h, by omega, by omega⟩
            · exact ⟨(2 + u).toNat, by rw [h]; congr 1; omega, by omega, by omega⟩
          exact ⟨m, _, hm1, hm2, rfl, hD6.mono (by omega), (hF5.trans (fr_sub (Sub.put hq1))).trans hF6⟩
        rintro S6 G6 ⟨m, gg, hm1, hm2, rfl, hD6, hF6⟩
        have hpt6 := keep hpt4 hF6 ntp ntg
        have hpe6 := keep hpe4 hF6 nep neg
        have hpi6 := keep hpi4 hF6 hpi0.1 hpi0.2
        have hnc := numC_len hm1 hm2
        -- its text
        have e1 : (Str.ofString (toString (m : Int))) = SS (numC m) := (SX.S_tl _).symm
        have ett : SS (numC m) ++ Str.ofString "*(" ++ SS t2 ++ Str.ofString ")" = SS (numC m ++ (42 :: 40 :: (t2 ++ [41]))) := by
          rw [show Str.ofString "*(" = SS [42, 40] from rfl, show Str.ofString ")" = SS [41] from rfl, SS_cat, SS_cat, SS_cat]
          congr 1
          simp
        have l1 : (Str.ofString "*(").length = 2 := rfl
        have l2 : (Str.ofString ")").length = 1 := rfl
        have lt2 : (SS t2).length ≤ tl d := by rw [SS_len]; exact ht2
        refine rd_seq <| rd_drop <| rd_bml <| rd_var rfl ⟨pt, _, rfl, hpt6, rd_cons <| rd_op <| rd_op <| rd_op <| rd_cb <| rd_cons <| rd_var rfl <| rd_nil ⟨_, rfl, ?_, rd_str ⟨?_, rd_var rfl ⟨?_, rd_str ⟨?_, rd_nil ⟨pt, _, _, rfl, rfl, hpt6, by rw [List.length_map, List.length_map, sizeLine_eq]; omega, ?_⟩⟩⟩⟩⟩⟩
        · have : ((m : Int)).natAbs < 2 ^ 8 := by simp; omega
          have h3 : ((m : Int)).natAbs.log2 < 8 := (Nat.log2_lt (by simp; omega)).mpr this
          omega
        · rw [e1, SS_len, sizeLine_eq, l1]; omega
        · rw [e1, show Str.ofString "*(" = SS [42, 40] from rfl, SS_cat, SS_len, List.length_append, sizeLine_eq]; simp only [List.length_cons, List.length_nil]; omega
        · rw [e1, show Str.ofString "*(" = SS [42, 40] from rfl, SS_cat, SS_cat, SS_len, List.length_append, List.length_append, sizeLine_eq, l2]
          simp only [List.length_cons, List.length_nil]
          omega
        have e2 : (((Str.ofString (toString (m : Int))) ++ Str.ofString "*(") ++ SS t2) ++ Str.ofString ")" = SS (numC m ++ (42 :: 40 :: (t2 ++ [41]))) := by rw [e1]; exact ett
        rw [e2]
        have hpe7 : put G6 pt (.lst ((ts.map SS).map D.str ++ [.str (SS (numC m ++ (42 :: 40 :: (t2 ++ [41]))))])) pe = some (.lst (ev.map D.str)) := by rw [put_ne npe]; exact hpe6
        have npi : pi ≠ pt := (ne_new hpt3 hpi).symm
        have hpi7 : put G6 pt (.lst ((ts.map SS).map D.str ++ [.str (SS (numC m ++ (42 :: 40 :: (t2 ++ [41]))))])) pi = some (.lst (ev2.map D.str)) := by rw [put_ne npi]; exact hpi6
        have hpt7 : put G6 pt (.lst ((ts.map SS).map D.str ++ [.str (SS (numC m ++ (42 :: 40 :: (t2 ++ [41]))))])) pt = some (.lst (((ts ++ [numC m ++ (42 :: 40 :: (t2 ++ [41]))]).map SS).map D.str)) := by rw [put_same]; simp
        have hF7 : Fr [p, pg] G (put G6 pt (.lst ((ts.map SS).map D.str ++ [.str (SS (numC m ++ (42 :: 40 :: (t2 ++ [41]))))]))) := fun a o h1 h2 => by
          rw [put_ne (ne_new h1 hpt)]; exact hF6 a o (hF4 a o (hF3 a o (hF2 a o h1 h2) h2) h2) h2
        have hD7 := hD6.putO (o := .lst ((ts.map SS).map D.str ++ [.str (SS (numC m ++ (42 :: 40 :: (t2 ++ [41]))))])) ntp ntg ncp
        generalize put G6 pt (.lst ((ts.map SS).map D.str ++ [.str (SS (numC m ++ (42 :: 40 :: (t2 ++ [41]))))])) = G7 at hpe7 hpi7 hpt7 hF7 hD7
        -- its events
        have emin : (if ((201 : Int) / (ev2.length : Nat) + 1) < (m : Int) then ((201 : Int) / (ev2.length : Nat) + 1) else (m : Int)) = ((min m (201 / ev2.length + 1) : Nat) : Int) := by
          have h1 : ((201 : Int) / (ev2.length : Nat)) = ((201 / ev2.length : Nat) : Int) := by norm_cast
          rw [h1]
          split <;> omega
        have hk : min m (201 / ev2.length + 1) ≤ 200 := by omega
        refine rd_set <| rd_sl <| rd_op <| rd_var rfl <| rd_op <| rd_var rfl <| rd_cb <| rd_cons <| rd_var rfl <| rd_cons <| rd_op <| rd_op <| rd_int <| rd_cb <| rd_cons <| rd_var rfl <| rd_nil ⟨_, rfl, .inl ⟨_, .inl hpi7, ?_⟩⟩
        rw [List.length_map]
        refine ⟨⟨by omega, by omega⟩, rd_int <| rd_nil ⟨_, _, rfl, ?_⟩⟩
        rw [emin]
        generalize hkk : min m (201 / ev2.length + 1) = kk at hk
        have k0 : -(2 ^ 63) ≤ (kk : Int) := by omega
        have k1 : (kk : Int) < 2 ^ 63 := by omega
        refine ⟨_, hpi7, k0, k1, ?_, fun q1 hq1 => ⟨_, _, Sub.put hq1 _ _ hpe7, put_same, ?_, fun q2 hq2 => rd_nopart <| rd_part <| rd_int ⟨201, rfl, _, .inl put_same, fun q3 hq3 => ?_⟩⟩⟩
        · rw [List.length_map, Int.toNat_natCast, sizeLine_eq]
          have : ev2.length * kk ≤ 201 * 200 := Nat.mul_le_mul hl2 hk
          omega
        · rw [rep_len, List.length_map, List.length_map, Int.toNat_natCast, sizeLine_eq]
          have : kk * ev2.length ≤ 200 * 201 := Nat.mul_le_mul hk hl2
          omega
        have s72 := (Sub.put (o := .lst (Dd.rep (kk : Int) (ev2.map D.str))) hq1).trans (Sub.put (o := .lst (ev.map D.str ++ Dd.rep (kk : Int) (ev2.map D.str))) hq2)
        have s7 := s72.trans (Sub.put (o := .lst (cutD (ev.map D.str ++ Dd.rep (kk : Int) (ev2.map D.str)) none (some 201))) hq3)
        have gq3 : G q3 = none := by
          cases eg : G q3 with
          | none => rfl
          | some o =>
            have n3 : q3 ≠ p ∧ q3 ≠ pg := nN (hD7.sub s72) hq3
            have := s72 _ _ (hF7 _ _ eg (by simp [n3]))
            rw [this] at hq3; cases hq3
        have nq3 : q3 ≠ pt := (ne_new (s72 _ _ hpt7) hq3).symm
        have ecut : cutD (ev.map D.str ++ Dd.rep (kk : Int) (ev2.map D.str)) none (some 201) = ((ev ++ Dd.rep (kk : Int) ev2).take 201).map D.str := by
          have e1 := cutD_to (ev.map D.str ++ Dd.rep (kk : Int) (ev2.map D.str)) 201
          rw [show ((201 : Nat) : Int) = 201 from rfl] at e1
          rw [e1, rep_map, ← List.map_append, List.map_take]
        have hkp : 0 < kk := by rw [← hkk]; exact Nat.lt_min.mpr ⟨by omega, Nat.succ_pos _⟩
        have hP3 : PT (numC m ++ (42 :: 40 :: (t2 ++ [41]))) (Dd.rep (kk : Int) ev2) (d + 1) := by
          have := hP2.rep2 hl2 hne2 hm1 hm2
          rw [hkk] at this; exact this
        have hnr : Dd.rep (kk : Int) ev2 ≠ [] := by
          intro z
          have : (Dd.rep (kk : Int) ev2).length = 0 := by rw [z]; rfl
          rw [rep_len, Int.toNat_natCast] at this
          have : 0 < kk * ev2.length := Nat.mul_pos hkp n2p
          omega
        have hgr : GoodEv (Dd.rep (kk : Int) ev2) := by
          intro z hz
          unfold Dd.rep at hz
          obtain ⟨l, hl, hz2⟩ := List.mem_flatten.mp hz
          rw [(List.mem_replicate.mp hl).2] at hz2
          exact hg2 z hz2
        have := fin _ _ _ [some d0, some (.str (SS t2)), some (.ref pi), some (.int m), gg] q3 hP3 hnr (by
          rw [List.length_append]
          simp only [List.length_cons, List.length_append, List.length_nil]
          omega) hgr ((hD7.sub s7).mono (by omega)) (hF7.trans (fr_sub s7)) gq3 nq3 (s7 _ _ hpt7) (by rw [put_same, ecut]) rfl
        exact this
      -- a name
      · have hpn3 := keep hpn2 hF3 npp npn
        refine rd_seq <| rd_set <| rd_c hW <| rd_cons <| rd_var rfl <| rd_cons <| rd_var rfl <| rd_nil ⟨p, pg, pc, _, _, rfl, hD3, hlim i k hi2 (by omega), .inl ⟨pn, _, rfl, hpn3, npn, by simpa using hns, by rw [List.length_map]; omega, fun y1 hy1 G4 hD4 hF4 => ?_⟩⟩
        obtain ⟨y, hy, rfl⟩ := List.mem_map.mp hy1
        have hpt4 := keep hpt3 hF4 ntp ntg
        have hpe4 := keep hpe3 hF4 nep neg
        refine rd_seq <| rd_drop <| rd_bml <| rd_var rfl ⟨pt, _, rfl, hpt4, rd_cons <| rd_var rfl <| rd_nil ⟨pt, _, nm y, rfl, rfl, hpt4, by rw [List.length_map, List.length_map, sizeLine_eq]; omega, ?_⟩⟩
        have hpe5 : put G4 pt (.lst ((ts.map SS).map D.str ++ [nm y])) pe = some (.lst (ev.map D.str)) := by rw [put_ne npe]; exact hpe4
        have hpt5 : put G4 pt (.lst ((ts.map SS).map D.str ++ [nm y])) pt = some (.lst (((ts ++ [y]).map SS).map D.str)) := by rw [put_same]; simp [nm]
        have hF5 : Fr [p, pg] G (put G4 pt (.lst ((ts.map SS).map D.str ++ [nm y]))) := fun a o h1 h2 => by
          rw [put_ne (ne_new h1 hpt)]; exact hF4 a o (hF3 a o (hF2 a o h1 h2) h2) h2
        have hD5 : DAt (put G4 pt (.lst ((ts.map SS).map D.str ++ [nm y]))) p pg pc (n + 1 + i * stp dp + k + 1) := hD4.putO ntp ntg ncp
        generalize put G4 pt (.lst ((ts.map SS).map D.str ++ [nm y])) = G5 at hpe5 hpt5 hF5 hD5
        refine rd_set <| rd_sl <| rd_op <| rd_var rfl <| rd_lst <| rd_cons <| rd_var rfl <| rd_nil ⟨by show 1 ≤ sizeLine; decide, fun q1 hq1 => ⟨_, _, Sub.put hq1 _ _ hpe5, put_same, ?_, fun q2 hq2 => rd_nopart <| rd_part <| rd_int ⟨201, rfl, _, .inl put_same, fun q3 hq3 => ?_⟩⟩⟩
        · rw [List.length_map, sizeLine_eq]; show _ + 1 ≤ _; omega
        have s52 := (Sub.put (o := .lst [nm y]) hq1).trans (Sub.put (o := .lst (ev.map D.str ++ [nm y])) hq2)
        have s5 : Sub G5 (put (put (put G5 q1 (.lst [nm y])) q2 (.lst (ev.map D.str ++ [nm y]))) q3 (.lst (cutD (ev.map D.str ++ [nm y]) none (some 201)))) := s52.trans (Sub.put hq3)
        have gq3 : G q3 = none := by
          cases eg : G q3 with
          | none => rfl
          | some o =>
            have n3 : q3 ≠ p ∧ q3 ≠ pg := nN (hD5.sub s52) hq3
            have := s52 _ _ (hF5 _ _ eg (by simp [n3]))
            rw [this] at hq3; cases hq3
        have nq3 : q3 ≠ pt := (ne_new (s52 _ _ hpt5) hq3).symm
        have ecut : cutD (ev.map D.str ++ [nm y]) none (some 201) = ((ev ++ [SS y]).take 201).map D.str := by
          have e1 := cutD_to (ev.map D.str ++ [nm y]) 201
          rw [show ((201 : Nat) : Int) = 201 from rfl] at e1
          rw [e1, List.map_take]; simp [nm]
        have := fin _ y [SS y] [some d0, b, c, e, some (nm y)] q3 (PT_name (hng y hy) dp) (by simp) (by have := (hng y hy).2.1; cases dp <;> simp [ib] <;> omega) (fun z hz => ⟨y, by simpa using hz, hng y hy⟩) ((hD5.sub s5).mono (by omega)) (hF5.trans (fr_sub s5)) gq3 nq3 (s5 _ _ hpt5) (by rw [put_same, ecut]) rfl
        exact this
    · rintro S' G' h
      rw [rints_len] at h
      exact ⟨_, by omega, by omega, h⟩
  · rintro S' G' ⟨i, hi1, hi3, pe, a, b, c, e, g, ts, ev, rfl, htl, hpt2, hpe2, hpen, npe, hPT, hev0, hevl, hjl, hge, hD2, hF2⟩
    have h0 : ts ≠ [] := fun z => by rw [z] at htl; simp at htl; omega
    obtain ⟨hP, hne⟩ := hPT h0
    have hj := hjl h0
    have hj2 : i * (ib dp + 1) ≤ 3 * (ib dp + 1) := Nat.mul_le_mul hi3 (Nat.le_refl _)
    have hs := sum_len 32 ts h0
    refine rd_ret <| rd_tup <| rd_cons <| rd_bms <| rd_str ⟨_, rfl, rd_cons <| rd_var rfl <| rd_nil ⟨_, _, ts.map SS, rfl, rfl, .inl ⟨pt, rfl, .inl hpt2⟩, ?_, rd_cons <| rd_var rfl <| rd_nil ⟨by show 2 ≤ sizeLine; decide, G', Sub.refl _, ?_⟩⟩⟩
    · rw [List.length_map]
      show _ + ts.length * 1 ≤ _
      omega
    · have ej : Txt.join (Str.ofString " ") (ts.map SS) = SS (TL.joinL [32] ts) := SX.join_S [32] ts
      rw [ej]
      have : i * stp dp ≤ 3 * stp dp := Nat.mul_le_mul hi3 (Nat.le_refl _)
      exact q _ ev pe G' hpen hpe2 hP hne hevl (by omega) hge (hD2.mono (by omega)) hF2
end
end Dd
set_option Elab.async false
set_option linter.all false
set_option maxRecDepth 100000
/-! L9: the law's logs, odd things, what is due, what was told. -/
namespace Dd
open PySem PySem.Spec L2
open PyProof.Rows hiding St
theorem TyD.sub {K : PySem.W.Frag} {G G' : HD} {d : D} {t : Value} (s : Sub G G') (h : TyD K G d t) : TyD K G' d t := by
  cases h with
  | non => exact .non
  | bl b => exact .bl b
  | int b => exact .int b
  | str b => exact .str b
  | tup xs => exact .tup xs
  | kt a xs => exact .kt a xs
  | lst e => exact .lst (s _ _ e)
  | dic e => exact .dic (s _ _ e)
  | dct e => exact .dct (s _ _ e)
  | ins e c => exact .ins (s _ _ e) c
  | exc e hd c => exact .exc (s _ _ e) (fun dx z => let ⟨fs, e2⟩ := hd dx z; ⟨fs, s _ _ e2⟩) c
theorem Ty7.sub {K : PySem.W.Frag} {G G' : HD} {d : D} {n : String} (s : Sub G G') (h : Ty7 K G d n) : Ty7 K G' d n := ⟨h.1.sub s, h.2⟩
theorem PlainD.sub {K : PySem.W.Frag} {G G' : HD} {d : D} (s : Sub G G') (h : PlainD K G d) : PlainD K G' d := ⟨let ⟨n, h1⟩ := h.1; ⟨n, h1.sub s⟩, h.2⟩
theorem dat_ne {G : HD} {p pg pc a : Addr} {n : Nat} (h : DAt G p pg pc n) (e : G a = none) : a ≠ p ∧ a ≠ pg ∧ a ≠ pc := by
  obtain ⟨⟨r0, t0, gr0, cs0, h1, h2, h3, _⟩, _⟩ := h
  exact ⟨fun z => by (rw [z, h1] at e; cases e), fun z => by (rw [z, h2] at e; cases e), fun z => by (rw [z, h3] at e; cases e)⟩
theorem cut_sub {α : Type} {xs : List α} {lo hi : Option Int} {x : α} (h : x ∈ cutD xs lo hi) : x ∈ xs := List.mem_of_mem_drop (List.mem_of_mem_take h)
theorem cut_len {α : Type} (xs : List α) (lo hi : Option Int) : (cutD xs lo hi).length ≤ xs.length := by
  unfold cutD
  rw [List.length_take, List.length_drop]
  omega
theorem cut_map {α β : Type} (f : α → β) (xs : List α) (lo hi : Option Int) : cutD (xs.map f) lo hi = (cutD xs lo hi).map f := by
  unfold cutD
  rw [List.length_map, List.map_take, List.map_drop]
theorem let_small {c : Nat} (h : isLet c = true) : 97 ≤ c ∧ c ≤ 122 := by
  have h : c ∈ letters.cps.toList := of_decide_eq_true h
  have e : letters.cps.toList = [97, 98, 99, 100, 101, 102, 103, 104, 105, 106, 107, 108, 109, 110, 111, 112, 113, 114, 115, 116, 117, 118, 119, 120, 121, 122] := by decide +kernel
  rw [e] at h
  simp only [List.mem_cons, List.not_mem_nil, or_false] at h
  omega
theorem strOk_small {y : List Nat} (h : ∀ c ∈ y, c < 0x110000) : PyData.strOk (SS y) = true := by
  unfold PyData.strOk
  rw [Array.all_eq_true']
  intro c hc
  exact decide_eq_true (h c (by simpa using hc))
theorem good_strOk {y : List Nat} (h : Good y) : PyData.strOk (SS y) = true := strOk_small fun c hc => by
  have := let_small (h.2.2 c hc); omega
section
variable {P : Program} {w : World} {K : PySem.W.Frag} {mg : Str → Option Value} {base : Heap} {f C : Addr} {fd : FuncData}
def spLog : SpD := fun ds G QD _ => ∃ (p pg pc : Addr) (n : Nat) (pn : Addr) (ns : List (List Nat)) (m : Nat), ds = [.ref p, .ref pn, .int m] ∧ DAt G p pg pc n ∧ m ≤ 1000 ∧ n + 10 + 3 * m ≤ tLim ∧
  G pn = some (.lst (ns.map nm)) ∧ pn ≠ pg ∧ ns ≠ [] ∧ ns.length ≤ 100 ∧ (∀ y ∈ ns, Good y) ∧
  ∀ (ys : List (List Nat)) pf G', G pf = none → G' pf = some (.lst (ys.map nm)) → ys.length ≤ m → (∀ y ∈ ys, Good y) → DAt G' p pg pc (n + 1 + 3 * m) → Fr [p, pg] G G' → QD (.ref pf) G'
theorem ok_law_log (F : Fun K "_law_log" "_law_log" s_law_log f fd) (T : TX mg) (C_law_take : CalG P w K mg base 2 "_law_take" ["_law_draw", "_law_many"] spTake) (C_law_pick : CalG P w K mg base 3 "_law_pick" ["_law_draw", "_law_some"] spPick) :
    FnG P w K mg base 4 f fd ["_law_draw", "_law_names_here", "_law_most"] (spOf K spLog) := by
  have S := S_law_log
  refine okG F S (fun ds G Q E ⟨_, _, _, _, _, _, _, e, _⟩ => by rw [e]; rfl) fun cdv A outer s H E hr tk => ?_
  refine ⟨_, (pss_cons (ps_par (i := 3) (j := 4) rfl S.nd rfl rfl (by decide) rfl rfl (pa_cons (pe_lst pa_nil) (pa_cons (k_c C_law_take rfl rfl rfl rfl rfl hr (by decide) rfl tk (pa_cons (pv 0) (pa_cons (pe_op (k_opd_add (K := K) rfl) (pv 2) pe_int) pa_nil))) pa_nil)) (by rfl))
  (pss_cons (ps_while PassesOwn.leaving (pt_cmpR (k_opd_lt (K := K) rfl) (pe_callB (k_crd_len (K := K) rfl) rfl T.m_len (by rfl) (pa_cons (pv 3) pa_nil)) (pv 4) (nomark _)) (pss_one (ps_if (PW.pt (pw_and (pt_cmpR (k_opd_eq (K := K) rfl hr.rm.units) (k_c C_law_take rfl rfl rfl rfl rfl hr (by decide) rfl tk (pa_cons (pv 0) (pa_cons pe_int pa_nil))) pe_int (nomark _)) (pw_and1 (pt_cmpR (k_opd_ne (K := K) rfl hr.rm.units) (pv 3) (pe_lst pa_nil) (nomark _))))) (pss_cons (ps_set (i := 5) S.nd rfl (Or.inl rfl) (k_c C_law_take rfl rfl rfl rfl rfl hr (by decide) rfl tk (pa_cons (pv 0) (pa_cons (pe_callB (k_crd_len (K := K) rfl) rfl T.m_len (by rfl) (pa_cons (pv 3) pa_nil)) pa_nil))))
  (pss_one (ps_set (i := 3) S.nd rfl (Or.inl rfl) (pe_op (k_opd_add (K := K) rfl) (pv 3) (pe_slice (k_sld (K := K) rfl) (pv 3) (po_some (pv 5)) (po_some (pe_op (k_opd_add (K := K) rfl) (pe_op (k_opd_add (K := K) rfl) (pv 5) pe_int) (k_c C_law_take rfl rfl rfl rfl rfl hr (by decide) rfl tk (pa_cons (pv 0) (pa_cons pe_int pa_nil)))))))))) (pss_one (ps_expr (k_bm (K := K) rfl PySem.F.plainAttrs_list PySem.F.slot_list_append PySem.F.type_list_append (k_mtd_append (K := K) rfl) (pv 3) (pa_cons (k_c C_law_pick rfl rfl rfl rfl rfl hr (by decide) rfl tk (pa_cons (pv 0) (pa_cons (pv 1) pa_nil))) pa_nil)))))))
  (pss_one (ps_ret (pe_slice (k_sld (K := K) rfl) (pv 3) po_none (po_some (pv 4))))))), ?_⟩
  rintro ds G QD ED ⟨p, pg, pc, n, pn, ns, m, rfl, hD, hm, hn, hpn, npn, hns, hnl, hng, q⟩ hW
  have npp : pn ≠ p := fun z => by
    obtain ⟨⟨r0, t0, gr0, cs0, h1, _⟩, _⟩ := hD
    rw [z, h1] at hpn; cases hpn
  refine rd_seq <| rd_par <| rd_cons <| rd_lst <| rd_nil ⟨by show 0 ≤ sizeLine; decide, fun pf0 hpf0 => rd_cons <| rd_c hW <| rd_cons <| rd_var rfl <| rd_cons <| rd_op <| rd_var rfl <| rd_int <| rd_nil ⟨p, pg, pc, n, _, rfl, hD.sub (Sub.put hpf0), by omega, by omega, by omega, fun many G1 m0 m1 hD1 hF1 => rd_nil ⟨_, _, rfl, ?_⟩⟩⟩
  obtain ⟨k, rfl⟩ : ∃ k : Nat, many = k := ⟨many.toNat, by omega⟩
  have hkm : k ≤ m := by omega
  have hF01 : Fr [p, pg] G G1 := (fr_sub (Sub.put hpf0)).trans hF1
  obtain ⟨f1, f2, f3⟩ := dat_ne hD hpf0
  let Iv : Nat → DS → HD → Prop := fun fuel S' G' => ∃ (pf : Addr) (a : Option D) (ys : List (List Nat)), S' = [some (.ref p), some (.ref pn), some (.int m), some (.ref pf), some (.int k), a] ∧ G' pf = some (.lst (ys.map nm)) ∧ G pf = none ∧
    (∀ y ∈ ys, Good y) ∧ ys.length ≤ k + 4 ∧ fuel = k - ys.length ∧ DAt G' p pg pc (n + 1 + 3 * (k - fuel)) ∧ Fr [p, pg] G G'
  have keep : ∀ {G3 G4 : HD} {a : Addr} {o : DO}, G3 a = some o → Fr [p, pg] G3 G4 → a ≠ p → a ≠ pg → G4 a = some o := fun h f n1 n2 => f _ _ h (by simp [n1, n2])
  refine rd_cut (fun S' G' => ∃ fuel, Iv fuel S' G') ?_ ?_
  · refine rd_while Iv k ⟨pf0, none, [], rfl, keep put_same hF1 f1 f2, hpf0, by simp, by simp, by simp, hD1.mono (by omega), hF01⟩ ?_
    rintro fuel S' G2 ⟨pf, a, ys, rfl, hpf, hpfn, hg, hl, hfu, hD2, hF2⟩
    obtain ⟨g1, g2, g3⟩ := dat_ne hD hpfn
    have hpn2 := keep hpn hF2 npp npn
    refine rd_test <| rd_op <| rd_cb <| rd_cons <| rd_var rfl <| rd_nil ⟨_, rfl, .inl ⟨_, .inl hpf, rd_var rfl ⟨_, rfl, ?_⟩⟩⟩
    rw [List.length_map]
    refine ite2 (fun hlt => ?_) (fun hlt => ⟨fuel, pf, a, ys, rfl, hpf, hpfn, hg, hl, hfu, hD2, hF2⟩)
    have hlt : ys.length < k := by
      have : (ys.length : Int) < (k : Int) := of_decide_eq_true hlt
      omega
    have hlim : n + 1 + 3 * (k - fuel) + 3 ≤ tLim := by omega
    refine rd_ifS (RdT.imp (Q := fun b G3 => (b = true → ys ≠ []) ∧ DAt G3 p pg pc (n + 1 + 3 * (k - fuel) + 1) ∧ Fr [p, pg] G2 G3) ?_ ?_)
    · refine rd_and <| rd_test <| rd_op <| rd_c hW <| rd_cons <| rd_var rfl <| rd_cons <| rd_int <| rd_nil ⟨p, pg, pc, _, 4, rfl, hD2, by decide, by decide, by omega, fun u G3 u0 u1 hD3 hF3 => rd_int ⟨_, rfl, ?_⟩⟩
      refine ite2 (fun _ => ?_) (fun _ => ⟨fun z => (by cases z), hD3, hF3⟩)
      refine rd_test <| rd_op <| rd_var rfl <| rd_lst <| rd_nil ⟨by show 0 ≤ sizeLine; decide, fun q1 hq1 => ?_⟩
      have e1 : ys.map nm = (ys.map SS).map D.str := by rw [List.map_map]; rfl
      refine req_strs (ns := ys.map SS) (ms := []) (by rw [← e1]; exact Sub.put hq1 _ _ (keep hpf hF3 g1 g2)) put_same ?_ rfl ⟨_, rfl, fun z => ?_, hD3.sub (Sub.put hq1), hF3.trans (fr_sub (Sub.put hq1))⟩
      · exact List.all_eq_true.mpr fun z hz => by
          obtain ⟨y, hy, rfl⟩ := List.mem_map.mp hz
          exact good_strOk (hg y hy)
      · intro h0
        rw [h0] at z
        cases z
    rintro b G3 ⟨hb, hD3, hF3⟩
    have hpf3 := keep hpf hF3 g1 g2
    have hpn3 := keep hpn2 hF3 npp npn
    refine ite2 (fun hbt => ?_) (fun _ => ?_)
    · have hne := hb hbt
      have hyp : 0 < ys.length := List.length_pos_iff.mpr hne
      refine rd_seq <| rd_set <| rd_c hW <| rd_cons <| rd_var rfl <| rd_cons <| rd_cb <| rd_cons <| rd_var rfl <| rd_nil ⟨_, rfl, .inl ⟨_, .inl hpf3, rd_nil ⟨p, pg, pc, _, _, rfl, hD3, ?_, ?_, by omega, fun bg G4 b0 b1 hD4 hF4 => ?_⟩⟩⟩
      · rw [List.length_map]; omega
      · rw [List.length_map]; omega
      rw [List.length_map] at b1
      have hpf4 := keep hpf3 hF4 g1 g2
      refine rd_set <| rd_op <| rd_var rfl <| rd_sl <| rd_var rfl <| rd_part <| rd_var rfl ⟨bg, rfl, rd_part <| rd_op <| rd_op <| rd_var rfl <| rd_int <| rd_c hW <| rd_cons <| rd_var rfl <| rd_cons <| rd_int <| rd_nil ⟨p, pg, pc, _, 4, rfl, hD4, by decide, by decide, by omega, fun u G5 u0 u1 hD5 hF5 => ⟨_, rfl, ?_⟩⟩⟩
      have hpf5 := keep hpf4 hF5 g1 g2
      refine ⟨_, .inl hpf5, fun q1 hq1 => ⟨_, _, Sub.put hq1 _ _ hpf5, put_same, ?_, fun q2 hq2 => ?_⟩⟩
      · have := cut_len (ys.map nm) (some bg) (some (bg + 1 + u))
        rw [List.length_map] at this ⊢
        rw [sizeLine_eq]; omega
      · rw [cut_map] at hq2 ⊢
        have hs := (Sub.put (o := .lst ((cutD ys (some bg) (some (bg + 1 + u))).map nm)) hq1).trans (Sub.put (o := .lst (ys.map nm ++ (cutD ys (some bg) (some (bg + 1 + u))).map nm)) hq2)
        obtain ⟨bn, rfl⟩ : ∃ bn : Nat, bg = bn := ⟨bg.toNat, by omega⟩
        obtain ⟨un, rfl⟩ : ∃ un : Nat, u = un := ⟨u.toNat, by omega⟩
        have hcl : 1 ≤ (cutD ys (some (bn : Int)) (some ((bn : Int) + 1 + un))).length ∧ (cutD ys (some (bn : Int)) (some ((bn : Int) + 1 + un))).length ≤ 4 := by
          unfold cutD
          rw [show ((bn : Int) + 1 + un) = ((bn + 1 + un : Nat) : Int) by omega, HT.sIx_nat, HT.sIx_nat, List.length_take, List.length_drop]
          omega
        have gq2 : G q2 = none := by
          cases eg : G q2 with
          | none => rfl
          | some o =>
            have n3 := dat_ne (hD5.sub (Sub.put hq1)) hq2
            have e5 := hF5 _ _ (hF4 _ _ (hF3 _ _ (hF2 _ _ eg (by simp [n3])) (by simp [n3])) (by simp [n3])) (by simp [n3])
            rw [Sub.put hq1 _ _ e5] at hq2; cases hq2
        refine ⟨k - (ys ++ cutD ys (some (bn : Int)) (some ((bn : Int) + 1 + un))).length, by rw [List.length_append]; omega, q2, _, ys ++ cutD ys (some (bn : Int)) (some ((bn : Int) + 1 + un)), rfl, by rw [put_same, List.map_append], gq2, ?_, by rw [List.length_append]; omega, rfl, (hD5.sub hs).mono (by rw [List.length_append]; omega), (hF2.trans (hF3.trans (hF4.trans hF5))).trans (fr_sub hs)⟩
        intro y hy
        rcases List.mem_append.mp hy with z | z
        · exact hg y z
        · exact hg y (cut_sub z)
    · refine rd_drop <| rd_bml <| rd_var rfl ⟨pf, _, rfl, hpf3, rd_cons <| rd_c hW <| rd_cons <| rd_var rfl <| rd_cons <| rd_var rfl <| rd_nil ⟨p, pg, pc, _, _, rfl, hD3, by omega, .inl ⟨pn, _, rfl, hpn3, npn, by simpa using hns, by rw [List.length_map]; omega, fun y1 hy1 G4 hD4 hF4 => rd_nil ?_⟩⟩⟩
      obtain ⟨y, hy, rfl⟩ := List.mem_map.mp hy1
      have hpf4 := keep hpf3 hF4 g1 g2
      refine ⟨pf, _, nm y, rfl, rfl, hpf4, by rw [List.length_map, sizeLine_eq]; omega, k - (ys ++ [y]).length, by rw [List.length_append]; simp; omega, pf, _, ys ++ [y], rfl, by rw [put_same]; simp, hpfn, ?_, by rw [List.length_append]; simp; omega, rfl, (hD4.putO g1 g2 g3).mono (by rw [List.length_append]; simp; omega), fun a o h1 h2 => ?_⟩
      · intro z hz
        rcases List.mem_append.mp hz with z1 | z1
        · exact hg z z1
        · rw [List.mem_singleton.mp z1]; exact hng y hy
      · rw [put_ne (ne_new h1 hpfn)]
        exact hF4 a o (hF3 a o (hF2 a o h1 h2) h2) h2
  · rintro S' G' ⟨fuel, pf, a, ys, rfl, hpf, hpfn, hg, hl, hfu, hD2, hF2⟩
    refine rd_ret <| rd_sl <| rd_var rfl <| rd_nopart <| rd_part <| rd_var rfl ⟨_, rfl, _, .inl hpf, fun q1 hq1 => ?_⟩
    have gq1 : G q1 = none := by
      cases eg : G q1 with
      | none => rfl
      | some o =>
        have n3 := dat_ne hD2 hq1
        rw [hF2 _ _ eg (by simp [n3])] at hq1; cases hq1
    refine ⟨_, Sub.refl _, q (ys.take k) q1 _ gq1 ?_ (by rw [List.length_take]; omega) (fun y hy => hg y (List.mem_of_mem_take hy)) ((hD2.sub (Sub.put hq1)).mono (by omega)) (hF2.trans (fr_sub (Sub.put hq1)))⟩
    rw [put_same, cutD_to, List.map_take]
end
end Dd
set_option Elab.async false
set_option linter.all false
set_option maxRecDepth 100000
/-! L10: odd items and logs, what is due of them, what was told. -/
namespace Dd
open PySem PySem.Spec L2
open PyProof.Rows hiding St
theorem Walks.sdSub {d : D} {G G' : HD} {xs : List D} {Sd : HD → Prop} (h : Walks d G xs Sd) (s : Sub G G') : Sd G' := by
  cases h with
  | lst e => exact s _ _ e
  | lck e => exact s _ _ e
  | tup => trivial
  | str => trivial
theorem Walks.sub {d : D} {G G' : HD} {xs : List D} {Sd : HD → Prop} (h : Walks d G xs Sd) (s : Sub G G') : ∃ Sd', Walks d G' xs Sd' := by
  cases h with
  | lst e => exact ⟨_, .lst (s _ _ e)⟩
  | lck e => exact ⟨_, .lck (s _ _ e)⟩
  | tup => exact ⟨_, .tup⟩
  | str => exact ⟨_, .str⟩
def SmallD (x : D) : Prop := ∀ z, x = .str z → ∀ c ∈ z.cps.toList, c < 0x110000
def okLen : D → Bool
  | .str z => decide ((0 : Int) < (z.length : Nat)) && decide (((z.length : Nat) : Int) < 7)
  | _ => false
theorem name_okLen {e : D} (h : okLen e = false) : isName e = false := by
  cases e <;> first | rfl | skip
  rename_i z
  show (decide (1 ≤ (z.length : Int)) && (decide ((z.length : Int) ≤ 6) && (signs z).all inLetters)) = false
  have h : (decide ((0 : Int) < (z.length : Nat)) && decide (((z.length : Nat) : Int) < 7)) = false := h
  by_cases h1 : 1 ≤ (z.length : Int)
  · by_cases h2 : (z.length : Int) ≤ 6
    · have : (decide ((0 : Int) < (z.length : Nat)) && decide (((z.length : Nat) : Int) < 7)) = true := by
        simp only [Bool.and_eq_true, decide_eq_true_eq]; omega
      rw [this] at h; cases h
    · simp [h2]
  · simp [h1]
theorem name_of_len {z : Str} (h : okLen (.str z) = true) : isName (.str z) = (signs z).all inLetters := by
  show (decide (1 ≤ (z.length : Int)) && (decide ((z.length : Int) ≤ 6) && (signs z).all inLetters)) = _
  have h : (decide ((0 : Int) < (z.length : Nat)) && decide (((z.length : Nat) : Int) < 7)) = true := h
  simp only [Bool.and_eq_true, decide_eq_true_eq] at h
  rw [decide_eq_true (by omega), decide_eq_true (by omega), Bool.true_and, Bool.true_and]
theorem okLen_str {e : D} (h : okLen e = true) : ∃ z, e = .str z := by
  cases e <;> first | (cases h; done) | exact ⟨_, rfl⟩
section
variable {P : Program} {w : World} {K : PySem.W.Frag} {mg : Str → Option Value} {base : Heap} {f C : Addr} {fd : FuncData}
def spFirstOdd (K : PySem.W.Frag) : SpD := fun ds G QD _ => ∃ d xs Sd, ds = [d] ∧ Walks d G xs Sd ∧ (∀ x ∈ xs, PlainD K G x) ∧ (∀ x ∈ xs, SmallD x) ∧ QD (firstWrong xs) G
theorem ok_first_odd (F : Fun K "_law_first_odd" "_law_first_odd" s_law_first_odd f fd) (T : TX mg) : FnG P w K mg base 2 f fd ["_law_thing"] (spOf K (spFirstOdd K)) := by
  have S := S_law_first_odd
  refine okG F S (fun ds G Q E ⟨d, n, _, e, _⟩ => by rw [e]; rfl) fun cdv A outer s H E hr tk => ?_
  refine ⟨_, (pss_cons (ps_for PassesOwn.leaving rfl (k_enum (K := K) rfl rfl T.m_enumerate (pa_cons (pv 0) pa_nil)) (k_tup (K := K) rfl rfl (pgs_cons (pg_name (i := 1) S.nd rfl (Or.inl rfl)) (pgs_cons (pg_name (i := 2) S.nd rfl (Or.inl rfl)) pgs_nil))) (pss_cons (ps_if (PW.pt (pw_or (pt_not (pt_val (pe_callB (k_crd_isi (K := K) rfl) rfl T.m_isinstance (by rfl) (pa_cons (pv 2) (pa_cons (pe_bltn (v := .ty "str") rfl T.m_str rfl rfl) pa_nil))))) (pw_or1 (pt_not (pt_chain (k_opd_lt (K := K) rfl) (k_opd_lt (K := K) rfl) pe_int (pe_callB (k_crd_len (K := K) rfl) rfl T.m_len (by rfl) (pa_cons (pv 2) pa_nil)) pe_int))))) (pss_one (ps_ret (pv 1))) pss_nil)
  (pss_one (ps_if (pt_cmpR (k_opd_ne (K := K) rfl hr.rm.units) (pe_lc rfl S.nd (k_seq (K := K) rfl (pv 2)) (own := [("_law_sign", 3)]) (blkOk_by (by rfl)) (fun _ _ _ _ _ => (pg_name (i := 3) S.nd rfl (Or.inl rfl))) (fun _ _ _ _ _ => (pts_one (pt_cmpR (k_opd_notin (K := K) rfl (room_hu1 hr)) (pv 3) pe_str (by rfl)))) (fun _ _ _ _ _ => (pv 3))) (pe_lst pa_nil) (nomark _)) (pss_one (ps_ret (pv 1))) pss_nil))))
  (pss_one (ps_ret pe_non))), ?_⟩
  rintro ds G QD ED ⟨d, xs, Sd, rfl, hw, hp, hsm, q⟩ hW
  refine rd_seq (rd_for (rd_enum (rd_cons (rd_var rfl (rd_nil ⟨d, xs, Sd, rfl, hw, ?_⟩)))))
  refine ⟨fun i S' G' => Sub G G' ∧ (∃ a b c, S' = [some d, a, b, c]) ∧ ∀ x ∈ xs.take i, isName x = true, ⟨Sub.refl _, ⟨none, none, none, rfl⟩, by simp⟩, fun i S' G' _ h => hw.sdSub h.1, ?_, ?_⟩
  · rintro i d' S' G' hd ⟨hs, ⟨a, b, c, rfl⟩, hn⟩
    obtain ⟨e, he, rfl⟩ := pairs_of hd
    obtain ⟨⟨n, ty⟩, hz⟩ := (hp e (List.mem_of_getElem? he)).sub hs
    refine rd_gtup rfl (rd_gcons (rd_gname (rd_gcons (rd_gname (rd_gnil ?_)))))
    have done : isName e = false → Wk QD (.int (i : Nat)) G' := fun h => ⟨G, hs, by rw [firstWrong_at he h hn] at q; exact q⟩
    refine rd_seq <| rd_ifS (RdT.imp (Q := fun b G3 => G3 = G' ∧ b = !okLen e) ?_ ?_)
    · refine rd_or <| rd_not <| rd_tB <| rd_cb <| rd_cons <| rd_var rfl <| rd_cons <| rd_ty <| rd_nil ?_
      refine ty.one (by decide) ⟨_, rfl, ?_⟩
      rw [ty.isStr]
      cases hst : isStr e with
      | false => exact iteT ⟨rfl, by cases e <;> first | (cases hst; done) | rfl⟩
      | true =>
        obtain ⟨z, rfl⟩ : ∃ z, e = .str z := by cases e <;> first | (cases hst; done) | exact ⟨_, rfl⟩
        refine iteF <| rd_not <| rd_test <| rd_chain <| rd_int <| rd_cb <| rd_cons <| rd_var rfl <| rd_nil ⟨_, rfl, hz z rfl, _, rfl, ?_⟩
        refine ite2 (fun h1 => rd_int ⟨_, rfl, rfl, ?_⟩) (fun h1 => ⟨_, rfl, rfl, ?_⟩)
        · show _ = !(_ && _)
          rw [show decide ((0 : Int) < (z.length : Nat)) = true from h1, Bool.true_and]
        · show _ = !(_ && _)
          rw [show decide ((0 : Int) < (z.length : Nat)) = false from by simpa using h1, Bool.false_and]
    rintro b G3 ⟨rfl, rfl⟩
    cases hok : okLen e with
    | false => exact iteT <| rd_ret <| rd_var rfl <| done (name_okLen hok)
    | true =>
      refine iteF <| rd_next ?_
      obtain ⟨z, rfl⟩ := okLen_str hok
      have hnm := name_of_len hok
      have hsz := hsm _ (List.mem_of_getElem? he) z rfl
      refine rd_ifS <| rd_test <| rd_op <| rd_lcm (own_name (by simp)) <| rd_iseq <| rd_var rfl ⟨signs z, _, .str, fun _ _ => trivial, by rw [signs_len]; exact hz z rfl, fun l => !inLetters l, fun l => l, ?_, fun L hL => ?_⟩
      · intro l hl G4 s4
        obtain ⟨ch, hch, rfl⟩ := List.mem_map.mp hl
        exact rd_gname <| rd_test <| rd_op <| rd_var rfl <| rd_str ⟨_, rfl, _, rfl, Sub.refl _, rfl, fun _ => rd_var rfl ⟨Sub.refl _, rfl⟩⟩
      · have e1 : ((signs z).filter fun l => !inLetters l).map (fun l => l) = ((z.cps.toList.filter fun ch => !inLetters (.str (SS [ch]))).map fun ch => SS [ch]).map D.str := by
          rw [List.map_id']
          show ((z.cps.toList.map fun ch => D.str (SS [ch])).filter _) = _
          rw [List.filter_map, List.map_map]; rfl
        rw [e1]
        refine rd_lst <| rd_nil ⟨by show 0 ≤ sizeLine; decide, fun q1 hq1 => ?_⟩
        refine req_strs (ms := []) (Sub.put hq1 _ _ put_same) put_same ?_ rfl ⟨_, rfl, ?_⟩
        · refine List.all_eq_true.mpr fun y hy => ?_
          obtain ⟨ch, hch, rfl⟩ := List.mem_map.mp hy
          exact strOk_small fun c' hc' => by rw [List.mem_singleton.mp hc']; exact hsz ch (List.mem_filter.mp hch).1
        have hs2 : Sub G (put (put G3 L (.lst (((z.cps.toList.filter fun ch => !inLetters (.str (SS [ch]))).map fun ch => SS [ch]).map D.str))) q1 (.lst [])) := hs.trans ((Sub.put hL).trans (Sub.put hq1))
        by_cases h0 : ((z.cps.toList.filter fun ch => !inLetters (.str (SS [ch]))).map fun ch => SS [ch]) = []
        · rw [decide_eq_true h0]
          refine iteF <| rd_next ⟨hs2, ⟨_, _, _, rfl⟩, take_more he ?_ hn⟩
          rw [hnm]
          refine List.all_eq_true.mpr fun l hl => ?_
          obtain ⟨ch, hch, rfl⟩ := List.mem_map.mp hl
          have h1 := List.filter_eq_nil_iff.mp (List.map_eq_nil_iff.mp h0) ch hch
          simpa using h1
        · rw [decide_eq_false h0]
          refine iteT <| rd_ret <| rd_var rfl ⟨G, hs2, ?_⟩
          have hnf : isName (.str z) = false := by
            rw [hnm]
            refine Bool.eq_false_iff.mpr fun hall => h0 ?_
            rw [List.map_eq_nil_iff, List.filter_eq_nil_iff]
            intro ch hch
            have := List.all_eq_true.mp hall (.str (SS [ch])) (List.mem_map.mpr ⟨ch, hch, rfl⟩)
            simp [this]
          rw [firstWrong_at he hnf hn] at q
          exact q
  · rintro S' G' ⟨hs, ⟨a, b, c, rfl⟩, hn⟩
    rw [pairs_len, List.take_length] at hn
    exact rd_ret (rd_non ⟨G, hs, by rw [firstWrong_no hn] at q; exact q⟩)
/-- plain, whatever the draws do -/
def PlainS (p pg : Addr) (K : PySem.W.Frag) (G : HD) (d : D) : Prop := ∀ G2, Fr [p, pg] G G2 → PlainD K G2 d
theorem plain_str {K : PySem.W.Frag} {G : HD} {z : Str} (h : z.length ≤ sizeLine) : PlainD K G (.str z) := ⟨⟨"str", .str _, by decide⟩, fun y e => by cases e; exact h⟩
def spOddItem (K : PySem.W.Frag) : SpD := fun ds G QD _ => ∃ (p pg pc : Addr) (n : Nat), ds = [.ref p] ∧ DAt G p pg pc n ∧ n + 1 ≤ tLim ∧
  ∀ d G', PlainS p pg K G' d → SmallD d → DAt G' p pg pc (n + 1) → Fr [p, pg] G G' → QD d G'
theorem ok_odd_item (F : Fun K "_law_odd_item" "_law_odd_item" s_law_odd_item f fd) (T : TX mg) (C_law_pick : CalG P w K mg base 3 "_law_pick" ["_law_draw", "_law_some"] spPick) : FnG P w K mg base 4 f fd ["_law_draw"] (spOf K (spOddItem K)) := by
  have S := S_law_odd_item
  refine okG F S (fun ds G Q E ⟨_, _, _, _, e, _⟩ => by rw [e]; rfl) fun cdv A outer s H E hr tk => ?_
  refine ⟨_, (pss_cons (ps_set (i := 1) S.nd rfl (Or.inl rfl) (pe_lst (pa_cons pe_non (pa_cons pe_int (pa_cons pe_bl (pa_cons pe_str (pa_cons pe_str (pa_cons pe_str (pa_cons pe_str (pa_cons pe_str (pa_cons (pe_lst (pa_cons pe_str pa_nil)) (pa_cons (pe_tup (pa_cons pe_str pa_nil)) (pa_cons pe_dnewK (pa_cons pe_str (pa_cons (pe_op (k_opd_pow (K := K) rfl) pe_int pe_int) (pa_cons pe_str (pa_cons pe_str pa_nil)))))))))))))))))
  (pss_one (ps_ret (k_c C_law_pick rfl rfl rfl rfl rfl hr (by decide) rfl tk (pa_cons (pv 0) (pa_cons (pv 1) pa_nil)))))), ?_⟩
  rintro ds G QD ED ⟨p, pg, pc, n, rfl, hD, hn, q⟩ hW
  refine rd_seq <| rd_set <| rd_lst <| rd_cons <| rd_non <| rd_cons <| rd_int <| rd_cons <| rd_bl <| rd_cons <| rd_str <| rd_cons <| rd_str <| rd_cons <| rd_str <| rd_cons <| rd_str <| rd_cons <| rd_str <| rd_cons <| rd_lst <| rd_cons <| rd_str <| rd_nil ⟨by show 1 ≤ sizeLine; decide, fun q1 hq1 => rd_cons <| rd_tup <| rd_cons <| rd_str <| rd_nil ⟨by show 1 ≤ sizeLine; decide, rd_cons <| rd_dnew fun q2 hq2 => rd_cons <| rd_str <| rd_cons <| rd_op <| rd_int <| rd_int ⟨⟨by decide, by decide, by decide⟩, rd_cons <| rd_str <| rd_cons <| rd_str <| rd_nil ⟨by show 15 ≤ sizeLine; decide, fun q3 hq3 => ?_⟩⟩⟩⟩
  have s1 := Sub.put (o := .lst [.str "a"]) hq1
  have s2 := s1.trans (Sub.put (o := .dic []) hq2)
  have n1 := dat_ne hD hq1
  have n2 := dat_ne (hD.sub s1) hq2
  have n3 := dat_ne (hD.sub s2) hq3
  refine rd_ret <| rd_c hW <| rd_cons <| rd_var rfl <| rd_cons <| rd_var rfl <| rd_nil ⟨p, pg, pc, n, _, rfl, hD.sub (s2.trans (Sub.put hq3)), by omega, .inl ⟨q3, _, rfl, put_same, n3.2.1, by simp, by simp, fun d hd G' hD' hF' => ⟨_, Sub.refl _, q d G' ?_ ?_ hD' ((fr_sub (s2.trans (Sub.put hq3))).trans hF')⟩⟩⟩
  · have k1 : G' q1 = some (.lst [.str "a"]) := hF' _ _ (Sub.put hq3 _ _ (Sub.put hq2 _ _ put_same)) (by simp [n1])
    have k2 : G' q2 = some (.dic []) := hF' _ _ (Sub.put hq3 _ _ put_same) (by simp [n2])
    intro G2 hF2
    have k1' := hF2 _ _ k1 (by simp [n1])
    have k2' := hF2 _ _ k2 (by simp [n2])
    have ps : ∀ z : Str, z.length ≤ 10 → PlainD K G2 (.str z) := fun z h => plain_str (by rw [sizeLine_eq]; omega)
    simp only [List.mem_cons, List.not_mem_nil, or_false] at hd
    rcases hd with h | h | h | h | h | h | h | h | h | h | h | h | h | h | h <;> subst h
    · exact ⟨⟨"NoneType", .non, by decide⟩, fun z e => by cases e⟩
    · exact ⟨⟨"int", .int _, by decide⟩, fun z e => by cases e⟩
    · exact ⟨⟨"bool", .bl _, by decide⟩, fun z e => by cases e⟩
    · exact ps _ (by decide +kernel)
    · exact ps _ (by decide +kernel)
    · exact ps _ (by decide +kernel)
    · exact ps _ (by decide +kernel)
    · exact ps _ (by decide +kernel)
    · exact ⟨⟨"list", .lst k1', by decide⟩, fun z e => by cases e⟩
    · exact ⟨⟨"tuple", .tup _, by decide⟩, fun z e => by cases e⟩
    · exact ⟨⟨"dict", .dic k2', by decide⟩, fun z e => by cases e⟩
    · exact ps _ (by decide +kernel)
    · exact ⟨⟨"int", .int _, by decide⟩, fun z e => by cases e⟩
    · exact ps _ (by decide +kernel)
    · exact ps _ (by decide +kernel)
  · have sm : ∀ z : Str, (z.cps.toList.all fun c => decide (c < 0x110000)) = true → SmallD (.str z) := fun z h y e c hc => by
      cases e
      simpa using List.all_eq_true.mp h c hc
    simp only [List.mem_cons, List.not_mem_nil, or_false] at hd
    rcases hd with h | h | h | h | h | h | h | h | h | h | h | h | h | h | h <;> subst h
    all_goals first | exact sm _ (by decide +kernel) | (intro z e; cases e; done)
end
end Dd
set_option Elab.async false
set_option linter.all false
set_option maxRecDepth 100000
/-! L11: odd logs, what is due of them. -/
namespace Dd
open PySem PySem.Spec L2
open PyProof.Rows hiding St
/-- something that may be no log -/
def OddOk (K : PySem.W.Frag) (G : HD) (d : D) : Prop := ∃ n, Ty7 K G d n ∧ ((isTy n "list" || isTy n "tuple") = false ∨ ((isTy n "list" || isTy n "tuple") = true ∧ ∃ xs Sd, Walks d G xs Sd ∧ (∀ x ∈ xs, PlainD K G x) ∧ (∀ x ∈ xs, SmallD x) ∧ xs.length ≤ 100))
theorem OddOk.sub {K : PySem.W.Frag} {G G' : HD} {d : D} (s : Sub G G') (h : OddOk K G d) : OddOk K G' d := by
  obtain ⟨n, ty, h⟩ := h
  refine ⟨n, ty.sub s, ?_⟩
  rcases h with h | ⟨h, xs, Sd, hw, hp, hs, hl⟩
  · exact .inl h
  · obtain ⟨Sd', hw'⟩ := hw.sub s
    exact .inr ⟨h, xs, Sd', hw', fun x hx => (hp x hx).sub s, hs, hl⟩
theorem odd_lst {K : PySem.W.Frag} {G : HD} {q : Addr} {xs : List D} (e : G q = some (.lst xs)) (hp : ∀ x ∈ xs, PlainD K G x) (hs : ∀ x ∈ xs, SmallD x) (hl : xs.length ≤ 100) : OddOk K G (.ref q) :=
  ⟨"list", ⟨.lst e, by decide⟩, .inr ⟨by decide, xs, _, .lst e, hp, hs, hl⟩⟩
theorem odd_tup {K : PySem.W.Frag} {G : HD} {xs : List D} (hp : ∀ x ∈ xs, PlainD K G x) (hs : ∀ x ∈ xs, SmallD x) (hl : xs.length ≤ 100) : OddOk K G (.tup xs) :=
  ⟨"tuple", ⟨.tup _, by decide⟩, .inr ⟨by decide, xs, _, .tup, hp, hs, hl⟩⟩
theorem plain_nm {K : PySem.W.Frag} {G : HD} {y : List Nat} (h : Good y) : PlainD K G (nm y) := plain_str (by rw [SS_len, sizeLine_eq]; have := h.2.1; omega)
theorem small_nm {y : List Nat} (h : Good y) : SmallD (nm y) := fun z e c hc => by
  cases e
  have hc : c ∈ y := by simpa using hc
  have := let_small (h.2.2 c hc)
  omega
section
variable {P : Program} {w : World} {K : PySem.W.Frag} {mg : Str → Option Value} {base : Heap} {f C : Addr} {fd : FuncData}
def spOddLog (K : PySem.W.Frag) : SpD := fun ds G QD _ => ∃ (p pg pc : Addr) (n : Nat) (pn : Addr) (ns : List (List Nat)), ds = [.ref p, .ref pn] ∧ DAt G p pg pc n ∧ n + 60 ≤ tLim ∧
  G pn = some (.lst (ns.map nm)) ∧ pn ≠ pg ∧ ns ≠ [] ∧ ns.length ≤ 100 ∧ (∀ y ∈ ns, Good y) ∧
  ∀ d G', OddOk K G' d → DAt G' p pg pc (n + 40) → Fr [p, pg] G G' → QD d G'
theorem ok_law_odd_log (F : Fun K "_law_odd_log" "_law_odd_log" s_law_odd_log f fd) (T : TX mg) (C_law_take : CalG P w K mg base 2 "_law_take" ["_law_draw", "_law_many"] spTake) (C_law_pick : CalG P w K mg base 3 "_law_pick" ["_law_draw", "_law_some"] spPick)
    (C_law_log : CalG P w K mg base 4 "_law_log" ["_law_draw", "_law_names_here", "_law_most"] spLog) (C_law_odd_item : CalG P w K mg base 4 "_law_odd_item" ["_law_draw"] (spOddItem K)) : FnG P w K mg base 5 f fd ["_law_draw", "_law_names_here"] (spOf K (spOddLog K)) := by
  have S := S_law_odd_log
  refine okG F S (fun ds G Q E ⟨_, _, _, _, _, _, e, _⟩ => by rw [e]; rfl) fun cdv A outer s H E hr tk => ?_
  refine ⟨_, (pss_cons (ps_par (i := 2) (j := 3) rfl S.nd rfl rfl (by decide) rfl rfl (pa_cons (k_c C_law_log rfl rfl rfl rfl rfl hr (by decide) rfl tk (pa_cons (pv 0) (pa_cons (pv 1) (pa_cons pe_int pa_nil)))) (pa_cons (k_c C_law_take rfl rfl rfl rfl rfl hr (by decide) rfl tk (pa_cons (pv 0) (pa_cons pe_int pa_nil))) pa_nil)) (by rfl))
  (pss_cons (ps_set (i := 4) S.nd rfl (Or.inl rfl) (k_c C_law_take rfl rfl rfl rfl rfl hr (by decide) rfl tk (pa_cons (pv 0) (pa_cons (pe_op (k_opd_add (K := K) rfl) (pe_callB (k_crd_len (K := K) rfl) rfl T.m_len (by rfl) (pa_cons (pv 2) pa_nil)) pe_int) pa_nil))))
  (pss_cons (ps_if (pt_cmpR (k_opd_eq (K := K) rfl hr.rm.units) (pv 3) pe_int (nomark _)) (pss_one (ps_ret (k_c C_law_pick rfl rfl rfl rfl rfl hr (by decide) rfl tk (pa_cons (pv 0) (pa_cons (pe_lst (pa_cons pe_non (pa_cons pe_int (pa_cons pe_str (pa_cons (pe_disp (pps_cons pe_str pe_int pps_nil) rfl rfl (by simp) (by decide)) (pa_cons pe_bl (pa_cons pe_str pa_nil))))))) pa_nil))))) pss_nil)
  (pss_cons (ps_if (pt_cmpR (k_opd_eq (K := K) rfl hr.rm.units) (pv 3) pe_int (nomark _)) (pss_one (ps_ret (pv 2))) pss_nil)
  (pss_cons (ps_set (i := 2) S.nd rfl (Or.inl rfl) (pe_op (k_opd_add (K := K) rfl) (pe_op (k_opd_add (K := K) rfl) (pe_slice (k_sld (K := K) rfl) (pv 2) po_none (po_some (pv 4))) (pe_lst (pa_cons (k_c C_law_odd_item rfl rfl rfl rfl rfl hr (by decide) rfl tk (pa_cons (pv 0) pa_nil)) pa_nil))) (pe_slice (k_sld (K := K) rfl) (pv 2) (po_some (pv 4)) po_none)))
  (pss_one (ps_ret (pe_ifExp (pt_cmpR (k_opd_eq (K := K) rfl hr.rm.units) (pv 3) pe_int (nomark _)) (pv 2) (pe_callTy (k_crd_tuple (K := K) rfl) rfl T.m_tuple (by rfl) (pa_cons (pe_op (k_opd_add (K := K) rfl) (pv 2) (pe_lst (pa_cons (k_c C_law_odd_item rfl rfl rfl rfl rfl hr (by decide) rfl tk (pa_cons (pv 0) pa_nil)) pa_nil))) pa_nil)))))))))), ?_⟩
  rintro ds G QD ED ⟨p, pg, pc, n, pn, ns, rfl, hD, hn, hpn, npn, hns, hnl, hng, q⟩ hW
  refine rd_seq <| rd_par <| rd_cons <| rd_c hW <| rd_cons <| rd_var rfl <| rd_cons <| rd_var rfl <| rd_cons <| rd_int <| rd_nil ⟨p, pg, pc, n, pn, ns, 6, rfl, hD, by decide, by omega, hpn, npn, hns, hnl, hng, fun ys pf G1 hpf0 hpf hyl hyg hD1 hF1 => rd_cons <| rd_c hW <| rd_cons <| rd_var rfl <| rd_cons <| rd_int <| rd_nil ⟨p, pg, pc, _, 4, rfl, hD1, by decide, by decide, by omega, fun way G2 w0 w1 hD2 hF2 => rd_nil ⟨_, _, rfl, ?_⟩⟩⟩
  obtain ⟨f1, f2, f3⟩ := dat_ne hD hpf0
  have keep : ∀ {G3 G4 : HD} {a : Addr} {o : DO}, G3 a = some o → Fr [p, pg] G3 G4 → a ≠ p → a ≠ pg → G4 a = some o := fun h f n1 n2 => f _ _ h (by simp [n1, n2])
  have hpf2 := keep hpf hF2 f1 f2
  refine rd_seq <| rd_set <| rd_c hW <| rd_cons <| rd_var rfl <| rd_cons <| rd_op <| rd_cb <| rd_cons <| rd_var rfl <| rd_nil ⟨_, rfl, .inl ⟨_, .inl hpf2, rd_int <| rd_nil ⟨p, pg, pc, _, _, rfl, hD2, ?_, ?_, by omega, fun at_ G3 a0 a1 hD3 hF3 => ?_⟩⟩⟩
  · omega
  · rw [List.length_map]; omega
  have hpf3 := keep hpf2 hF3 f1 f2
  have hF03 : Fr [p, pg] G G3 := hF1.trans (hF2.trans hF3)
  refine rd_seq <| rd_ifS <| rd_test <| rd_op <| rd_var rfl <| rd_int ⟨_, rfl, ite2 (fun hw => ?_) (fun hw => rd_next ?_)⟩
  · refine rd_ret <| rd_c hW <| rd_cons <| rd_var rfl <| rd_cons <| rd_lst <| rd_cons <| rd_non <| rd_cons <| rd_int <| rd_cons <| rd_str <| rd_cons <| rd_disp fun q1 hq1 => rd_str <| rd_int ⟨put_same, _, rfl, by show 1 ≤ 15; decide, ?_⟩
    have hs1 : Sub G3 (put (put G3 q1 (.dic [])) q1 (.dic (mergeD [(.inr "a", .int 1)]))) := by
      rw [put_put]; exact Sub.put hq1
    refine rd_cons <| rd_bl <| rd_cons <| rd_str <| rd_nil ⟨by show 6 ≤ sizeLine; decide, fun q3 hq3 => ?_⟩
    have n1 := dat_ne hD3 hq1
    have n3 := dat_ne (hD3.sub hs1) hq3
    refine rd_nil ⟨p, pg, pc, _, _, rfl, hD3.sub (hs1.trans (Sub.put hq3)), by omega, .inl ⟨q3, _, rfl, put_same, n3.2.1, by simp, by simp, fun d hd G' hD' hF' => ⟨_, Sub.refl _, q d G' ?_ (hD'.mono (by omega)) (hF03.trans ((fr_sub (hs1.trans (Sub.put hq3))).trans hF'))⟩⟩⟩
    have k1 := keep (Sub.put (o := .lst _) hq3 _ _ put_same) hF' n1.1 n1.2.1
    simp only [List.mem_cons, List.not_mem_nil, or_false] at hd
    rcases hd with h | h | h | h | h | h <;> subst h
    · exact ⟨"NoneType", ⟨.non, by decide⟩, .inl (by decide)⟩
    · exact ⟨"int", ⟨.int _, by decide⟩, .inl (by decide)⟩
    · exact ⟨"str", ⟨.str _, by decide⟩, .inl (by decide)⟩
    · exact ⟨"dict", ⟨.dic k1, by decide⟩, .inl (by decide)⟩
    · exact ⟨"bool", ⟨.bl _, by decide⟩, .inl (by decide)⟩
    · exact ⟨"str", ⟨.str _, by decide⟩, .inl (by decide)⟩
  have plY : ∀ G' : HD, ∀ x ∈ ys.map nm, PlainD K G' x := fun G' x hx => by
    obtain ⟨y, hy, rfl⟩ := List.mem_map.mp hx
    exact plain_nm (hyg y hy)
  have smY : ∀ x ∈ ys.map nm, SmallD x := fun x hx => by
    obtain ⟨y, hy, rfl⟩ := List.mem_map.mp hx
    exact small_nm (hyg y hy)
  refine rd_seq <| rd_ifS <| rd_test <| rd_op <| rd_var rfl <| rd_int ⟨_, rfl, ite2 (fun hw => ?_) (fun hw => rd_next ?_)⟩
  · exact rd_ret <| rd_var rfl ⟨_, Sub.refl _, q _ _ (odd_lst hpf3 (plY _) smY (by rw [List.length_map]; omega)) (hD3.mono (by omega)) hF03⟩
  refine rd_seq <| rd_set <| rd_op <| rd_op <| rd_sl <| rd_var rfl <| rd_nopart <| rd_part <| rd_var rfl ⟨at_, rfl, _, .inl hpf3, fun q1 hq1 => rd_lst <| rd_cons <| rd_c hW <| rd_cons <| rd_var rfl <| rd_nil ⟨p, pg, pc, _, rfl, hD3.sub (Sub.put hq1), by omega, fun x1 G4 hx1 hxs1 hD4 hF4 => rd_nil ⟨by show 1 ≤ sizeLine; decide, fun q2 hq2 => ?_⟩⟩⟩
  have m1 := dat_ne hD3 hq1
  have c1 := cut_len (ys.map nm) none (some at_)
  have c2 := cut_len (ys.map nm) (some at_) none
  rw [List.length_map] at c1 c2
  have hpf4 := keep (Sub.put (o := .lst _) hq1 _ _ hpf3) hF4 f1 f2
  have hq14 := keep (put_same (o := .lst (cutD (ys.map nm) none (some at_)))) hF4 m1.1 m1.2.1
  refine ⟨_, _, Sub.put hq2 _ _ hq14, put_same, by rw [List.length_singleton, sizeLine_eq]; omega, fun q3 hq3 => ?_⟩
  have s23 := (Sub.put (o := .lst [x1]) hq2).trans (Sub.put (o := .lst (cutD (ys.map nm) none (some at_) ++ [x1])) hq3)
  refine rd_sl <| rd_var rfl <| rd_part <| rd_var rfl ⟨at_, rfl, rd_nopart ⟨_, .inl (s23 _ _ hpf4), fun q4 hq4 => ⟨_, _, Sub.put hq4 _ _ put_same, put_same, by rw [List.length_append, List.length_singleton, sizeLine_eq]; omega, fun q5 hq5 => ?_⟩⟩⟩
  have s45 := (s23.trans (Sub.put (o := .lst (cutD (ys.map nm) (some at_) none)) hq4)).trans (Sub.put (o := .lst (cutD (ys.map nm) none (some at_) ++ [x1] ++ cutD (ys.map nm) (some at_) none)) hq5)
  have hD5 := hD4.sub s45
  have hF5 : Fr [p, pg] G4 _ := fr_sub s45
  have m5 := dat_ne (hD4.sub (s23.trans (Sub.put (o := .lst (cutD (ys.map nm) (some at_) none)) hq4))) hq5
  have hF05 := hF03.trans ((fr_sub (Sub.put (o := .lst (cutD (ys.map nm) none (some at_))) hq1)).trans (hF4.trans hF5))
  have pl5 : ∀ G' : HD, Fr [p, pg] G4 G' → ∀ x ∈ cutD (ys.map nm) none (some at_) ++ [x1] ++ cutD (ys.map nm) (some at_) none, PlainD K G' x := fun G' hF x hx => by
    rcases List.mem_append.mp hx with h | h
    · rcases List.mem_append.mp h with h | h
      · exact plY G' x (cut_sub h)
      · rw [List.mem_singleton.mp h]; exact hx1 _ hF
    · exact plY G' x (cut_sub h)
  have sm5 : ∀ x ∈ cutD (ys.map nm) none (some at_) ++ [x1] ++ cutD (ys.map nm) (some at_) none, SmallD x := fun x hx => by
    rcases List.mem_append.mp hx with h | h
    · rcases List.mem_append.mp h with h | h
      · exact smY x (cut_sub h)
      · rw [List.mem_singleton.mp h]; exact hxs1
    · exact smY x (cut_sub h)
  have len5 : (cutD (ys.map nm) none (some at_) ++ [x1] ++ cutD (ys.map nm) (some at_) none).length ≤ 13 := by
    rw [List.length_append, List.length_append, List.length_singleton]; omega
  refine rd_ret <| rd_if <| rd_test <| rd_op <| rd_var rfl <| rd_int ⟨_, rfl, ite2 (fun hw => ?_) (fun hw => ?_)⟩
  · exact rd_var rfl ⟨_, Sub.refl _, q _ _ (odd_lst put_same (pl5 _ hF5) sm5 (by omega)) (hD5.mono (by omega)) hF05⟩
  · refine rd_cb <| rd_cons <| rd_op <| rd_var rfl <| rd_lst <| rd_cons <| rd_c hW <| rd_cons <| rd_var rfl <| rd_nil ⟨p, pg, pc, _, rfl, hD5, by omega, fun x2 G6 hx2 hxs2 hD6 hF6 => rd_nil ⟨by show 1 ≤ sizeLine; decide, fun q6 hq6 => ⟨_, _, Sub.put hq6 _ _ (keep put_same hF6 m5.1 m5.2.1), put_same, by rw [List.length_singleton, sizeLine_eq]; omega, fun q7 hq7 => rd_nil ⟨_, rfl, _, .inl put_same, ?_⟩⟩⟩⟩
    have s67 := (Sub.put (o := .lst [x2]) hq6).trans (Sub.put (o := .lst (cutD (ys.map nm) none (some at_) ++ [x1] ++ cutD (ys.map nm) (some at_) none ++ [x2])) hq7)
    refine ⟨_, Sub.refl _, q _ _ (odd_tup (fun x hx => ?_) (fun x hx => ?_) (by rw [List.length_append, List.length_singleton]; omega)) ((hD6.sub s67).mono (by omega)) (hF05.trans (hF6.trans (fr_sub s67)))⟩
    · rcases List.mem_append.mp hx with h | h
      · exact pl5 _ (hF5.trans (hF6.trans (fr_sub s67))) x h
      · rw [List.mem_singleton.mp h]; exact hx2 _ (fr_sub s67)
    · rcases List.mem_append.mp hx with h | h
      · exact sm5 x h
      · rw [List.mem_singleton.mp h]; exact hxs2
/-- what is due of a thing -/
def dueOf (n : String) (xs : List D) : List D := if (isTy n "list" || isTy n "tuple") = true then (if isN (firstWrong xs) = true then [] else [.tup [.str "log", firstWrong xs]]) else [.tup [.str "log", .non]]
def spDue (K : PySem.W.Frag) : SpD := fun ds G QD _ => ∃ d n, ds = [d] ∧ Ty7 K G d n ∧
  (((isTy n "list" || isTy n "tuple") = false ∧ ∀ pr G', Sub G G' → G' pr = some (.lst [.tup [.str "log", .non]]) → QD (.ref pr) G') ∨
   ((isTy n "list" || isTy n "tuple") = true ∧ ∃ xs Sd, Walks d G xs Sd ∧ (∀ x ∈ xs, PlainD K G x) ∧ (∀ x ∈ xs, SmallD x) ∧
     ∀ pr G', Sub G G' → G' pr = some (.lst (if isN (firstWrong xs) = true then [] else [.tup [.str "log", firstWrong xs]])) → QD (.ref pr) G'))
theorem ok_law_log_due (F : Fun K "_law_log_due" "_law_log_due" s_law_log_due f fd) (T : TX mg) (C_law_first_odd : CalG P w K mg base 2 "_law_first_odd" ["_law_thing"] (spFirstOdd K)) : FnG P w K mg base 3 f fd ["_law_thing"] (spOf K (spDue K)) := by
  have S := S_law_log_due
  refine okG F S (fun ds G Q E ⟨_, _, e, _⟩ => by rw [e]; rfl) fun cdv A outer s H E hr tk => ?_
  refine ⟨_, (pss_cons (ps_if (pt_not (pt_val (pe_callB (k_crd_isi (K := K) rfl) rfl T.m_isinstance (by rfl) (pa_cons (pv 0) (pa_cons (pe_tup (pa_cons (pe_bltn (v := .ty "list") rfl T.m_list rfl rfl) (pa_cons (pe_bltn (v := .ty "tuple") rfl T.m_tuple rfl rfl) pa_nil))) pa_nil))))) (pss_one (ps_ret (pe_lst (pa_cons (pe_tup (pa_cons pe_str (pa_cons pe_non pa_nil))) pa_nil)))) pss_nil)
  (pss_cons (ps_set (i := 1) S.nd rfl (Or.inl rfl) (k_c C_law_first_odd rfl rfl rfl rfl rfl hr (by decide) rfl tk (pa_cons (pv 0) pa_nil)))
  (pss_one (ps_ret (pe_ifExp (pt_cmpR (k_opd_is (K := K) rfl) (pv 1) pe_non (nomark _)) (pe_lst pa_nil) (pe_lst (pa_cons (pe_tup (pa_cons pe_str (pa_cons (pv 1) pa_nil))) pa_nil))))))), ?_⟩
  rintro ds G QD ED ⟨d, n, rfl, ty, hc⟩ hW
  refine rd_seq (rd_ifS (rd_not (rd_tB (rd_cb (rd_cons (rd_var rfl (rd_cons (rd_tup (rd_cons (rd_ty (rd_cons (rd_ty (rd_nil ⟨by show 2 ≤ sizeLine; decide, ?_⟩)))))))))))))
  refine rd_nil (ty.two (by decide) (by decide) ⟨_, rfl, ?_⟩)
  rcases hc with ⟨hl, hq⟩ | ⟨hl, xs, Sd, hw, hp, hs, hq⟩
  · rw [hl]
    exact iteT <| rd_ret <| rd_lst <| rd_cons <| rd_tup <| rd_cons <| rd_str <| rd_cons <| rd_non <| rd_nil ⟨by show 2 ≤ sizeLine; decide, rd_nil ⟨by show 1 ≤ sizeLine; decide, fun pr hpr => ⟨_, Sub.refl _, hq pr _ (Sub.put hpr) put_same⟩⟩⟩
  · rw [hl]
    refine iteF <| rd_next <| rd_seq <| rd_set <| rd_c hW <| rd_cons <| rd_var rfl <| rd_nil ⟨d, xs, Sd, rfl, hw, hp, hs, ?_⟩
    refine rd_ret <| rd_if <| rd_test <| rd_op <| rd_var rfl <| rd_non ⟨_, rfl, ite2 (fun h1 => ?_) (fun h1 => ?_)⟩
    · exact rd_lst <| rd_nil ⟨by show 0 ≤ sizeLine; decide, fun pr hpr => ⟨_, Sub.refl _, hq pr _ (Sub.put hpr) (by rw [if_pos h1]; exact put_same)⟩⟩
    · exact rd_lst <| rd_cons <| rd_tup <| rd_cons <| rd_str <| rd_cons <| rd_var rfl <| rd_nil ⟨by show 2 ≤ sizeLine; decide, rd_nil ⟨by show 1 ≤ sizeLine; decide, fun pr hpr => ⟨_, Sub.refl _, hq pr _ (Sub.put hpr) (by rw [if_neg h1]; exact put_same)⟩⟩⟩
end
end Dd
set_option Elab.async false
set_option linter.all false
set_option maxRecDepth 100000
/-! L12: what was told. -/
namespace Dd
open PySem PySem.Spec L2
open PyProof.Rows hiding St
/-- what the error class C says -/
structure ErC (K : PySem.W.Frag) (C : Addr) : Prop where
  ex : ExcC K C
  xf : XfC K C
  ve : PySem.W.kitOne K (.ref C) (.type "ValueError") = some true
  own : PySem.W.kitOne K (.ref C) (.ref C) = some true
section
variable {P : Program} {w : World} {K : PySem.W.Frag} {mg : Str → Option Value} {base : Heap} {f C : Addr} {fd : FuncData}
def spTold (CL : Addr) : SpD := fun ds G QD _ => (ds = [.non] ∧ ∀ pr G', Sub G G' → G' pr = some (.lst []) → QD (.ref pr) G') ∨
  (∃ a v, ds = [.ref a] ∧ ExcAt G a CL [("at", v)] ∧ ∀ pr G', Sub G G' → G' pr = some (.lst [.tup [.str "log", v]]) → QD (.ref pr) G')
theorem ok_law_told_error {CL CBadK CBadNames CBadNumber : Addr} (F : Fun K "_law_told_error" "_law_told_error" s_law_told_error f fd) (T : TX mg) (gL : mg "BadLog" = some (.ref CL)) (gBadK : mg "BadK" = some (.ref CBadK)) (gBadNames : mg "BadNames" = some (.ref CBadNames)) (gBadNumber : mg "BadNumber" = some (.ref CBadNumber))
    (er : ErC K CL) (nf : PySem.W.findIn K (.ref CL) "at" = some none) : FnG P w K mg base 2 f fd ["_law_error"] (spOf K (spTold CL)) := by
  have S := S_law_told_error
  refine okG F S (fun ds G Q E h => by rcases h with ⟨e, _⟩ | ⟨_, _, e, _⟩ <;> (rw [e]; rfl)) fun cdv A outer s H E hr tk => ?_
  refine ⟨_, (pss_cons (ps_if (pt_cmpR (k_opd_is (K := K) rfl) (pv 0) pe_non (nomark _)) (pss_one (ps_ret (pe_lst pa_nil))) pss_nil)
  (pss_cons (ps_if (pt_not (pt_val (pe_callB (k_crd_isi (K := K) rfl) rfl T.m_isinstance (by rfl) (pa_cons (pv 0) (pa_cons (pe_bltn (v := .ty "ValueError") rfl T.m_ValueError rfl rfl) pa_nil))))) (pss_one (ps_ret (pe_lst (pa_cons (pe_tup (pa_cons pe_str (pa_cons pe_non pa_nil))) pa_nil)))) pss_nil)
  (pss_cons (ps_if (pt_val (pe_callB (k_crd_isi (K := K) rfl) rfl T.m_isinstance (by rfl) (pa_cons (pv 0) (pa_cons (pe_glob (v := .ref CL) rfl gL rfl) pa_nil)))) (pss_one (ps_ret (pe_lst (pa_cons (pe_tup (pa_cons pe_str (pa_cons (k_xk (K := K) rfl (pv 0)) pa_nil))) pa_nil)))) pss_nil)
  (pss_cons (ps_if (pt_val (pe_callB (k_crd_isi (K := K) rfl) rfl T.m_isinstance (by rfl) (pa_cons (pv 0) (pa_cons (pe_glob (v := .ref CBadK) rfl gBadK rfl) pa_nil)))) (pss_one (ps_ret (pe_lst (pa_cons (pe_tup (pa_cons pe_str (pa_cons (k_xk (K := K) rfl (pv 0)) pa_nil))) pa_nil)))) pss_nil)
  (pss_cons (ps_if (pt_val (pe_callB (k_crd_isi (K := K) rfl) rfl T.m_isinstance (by rfl) (pa_cons (pv 0) (pa_cons (pe_glob (v := .ref CBadNames) rfl gBadNames rfl) pa_nil)))) (pss_one (ps_ret (pe_lst (pa_cons (pe_tup (pa_cons pe_str (pa_cons (k_xk (K := K) rfl (pv 0)) pa_nil))) pa_nil)))) pss_nil)
  (pss_cons (ps_if (pt_val (pe_callB (k_crd_isi (K := K) rfl) rfl T.m_isinstance (by rfl) (pa_cons (pv 0) (pa_cons (pe_glob (v := .ref CBadNumber) rfl gBadNumber rfl) pa_nil)))) (pss_one (ps_ret (pe_lst (pa_cons (pe_tup (pa_cons pe_str (pa_cons (k_xk (K := K) rfl (pv 0)) pa_nil))) pa_nil)))) pss_nil)
  (pss_one (ps_ret (pe_lst (pa_cons (pe_tup (pa_cons pe_str (pa_cons pe_non pa_nil))) pa_nil)))))))))), ?_⟩
  rintro ds G QD ED (⟨rfl, q⟩ | ⟨a, v, rfl, hE, q⟩) hW
  · exact rd_seq <| rd_ifS <| rd_test <| rd_op <| rd_var rfl <| rd_non ⟨_, rfl, iteT <| rd_ret <| rd_lst <| rd_nil ⟨by show 0 ≤ sizeLine; decide, fun pr hpr => ⟨_, Sub.refl _, q pr _ (Sub.put hpr) put_same⟩⟩⟩
  · refine rd_seq <| rd_ifS <| rd_test <| rd_op <| rd_var rfl <| rd_non ⟨_, rfl, iteF <| rd_next ?_⟩
    refine rd_seq <| rd_ifS <| rd_not <| rd_tB <| rd_cb <| rd_cons <| rd_var rfl <| rd_cons <| rd_ty <| rd_nil ⟨_, _, _, _, rfl, hE.ty er.ex, .inl ⟨_, .ty _, er.ve⟩, _, rfl, iteF <| rd_next ?_⟩
    refine rd_seq <| rd_ifS <| rd_tB <| rd_cb <| rd_cons <| rd_var rfl <| rd_cons <| rd_refc <| rd_nil ⟨_, _, _, _, rfl, hE.ty er.ex, .inl ⟨_, .own _, er.own⟩, _, rfl, iteT ?_⟩
    exact rd_ret <| rd_lst <| rd_cons <| rd_tup <| rd_cons <| rd_str <| rd_cons <| rd_xk <| rd_var rfl ⟨a, CL, _, v, rfl, er.xf, nf, hE, rfl, rd_nil ⟨by show 2 ≤ sizeLine; decide, rd_nil ⟨by show 1 ≤ sizeLine; decide, fun pr hpr => ⟨_, Sub.refl _, q pr _ (Sub.put hpr) put_same⟩⟩⟩⟩
end
end Dd
set_option Elab.async false
set_option linter.all false
set_option maxRecDepth 100000
/-! L13: reprs. -/
namespace Dd
open PySem PySem.Spec L2
open PyProof.Rows hiding St
theorem shownAll_map : ∀ ps : List PyData, PyData.shownAll ps = ps.map PyData.shown
  | [] => by simp only [PyData.shownAll, List.map_nil]
  | p :: ps => by simp only [PyData.shownAll, List.map_cons, shownAll_map ps]
theorem tupleText_len (ts : List Str) : (tupleText ts).length ≤ piled ts + 5 := by
  unfold tupleText
  rw [strLen_append, strLen_append]
  have e1 : ((("(" : String) : Str)).length = 1 := rfl
  have e3 : (((if ts.length == 1 then ",)" else ")" : String) : Str)).length ≤ 2 := by split <;> decide
  by_cases h : ts = []
  · subst h
    have : (Str.join ", " ([] : List Str)).length = 0 := rfl
    omega
  · have := join_length_add ts h
    omega
theorem piled_sum : ∀ ts : List Str, piled ts = (ts.map (·.length)).sum + 2 * ts.length
  | [] => rfl
  | t :: ts => by rw [piled_cons, piled_sum ts]; simp only [List.map_cons, List.sum_cons, List.length_cons]; omega
theorem listText_len (ts : List Str) : (listText ts).length ≤ piled ts + 5 := by
  have := listText_len_le ts
  rw [piled_sum]; omega
theorem piled_le {n : Nat} : ∀ {ts : List Str}, (∀ t ∈ ts, t.length ≤ n) → piled ts ≤ ts.length * (n + 2)
  | [], _ => by rw [piled_nil]; simp
  | t :: ts, h => by
    rw [piled_cons]
    have h1 := h t List.mem_cons_self
    have h2 := piled_le (ts := ts) fun y hy => h y (List.mem_cons_of_mem _ hy)
    rw [List.length_cons, Nat.add_mul]
    omega
/-- what can be shown: the text is short -/
structure Shows (G : HD) (d : D) (p : PyData) : Prop where
  rp : Rp G p d
  sh : p.showable = true
  nd : p.hasDict = false
  dp : p.depth ≤ 60
  ln : p.shown.length ≤ sizeLine
theorem Shows.repr {G : HD} {d : D} {p : PyData} {Q : D → HD → Prop} (h : Shows G d p) (q : Q (.str p.shown) G) : RRepr [d] G Q := ⟨d, p, rfl, h.rp, h.sh, h.nd, h.dp, h.ln, q⟩
theorem shows_str {G : HD} {z : Str} (h : ∀ c ∈ z.cps.toList, c < 16 ^ 8) (hl : z.length ≤ 1000000) : Shows G (.str z) (.str z) := by
  refine ⟨by unfold Rp; rfl, by simp [PyData.showable], by simp [PyData.hasDict], by simp [PyData.depth], ?_⟩
  have := StrLaws.reprText_len z h
  simp only [PyData.shown]
  rw [sizeLine_eq]
  omega
theorem rps_strs {G : HD} : ∀ ys : List Str, Rps G (ys.map PyData.str) (ys.map D.str)
  | [] => by unfold Rps; rfl
  | y :: ys => by
    unfold Rps
    exact ⟨_, _, rfl, by unfold Rp; rfl, rps_strs ys⟩
theorem sh_strs : ∀ ys : List Str, PyData.showableAll (ys.map PyData.str) = true
  | [] => by simp [PyData.showableAll]
  | y :: ys => by simp [PyData.showableAll, PyData.showable, sh_strs ys]
theorem nd_strs : ∀ ys : List Str, PyData.hasDictAll (ys.map PyData.str) = false
  | [] => by simp [PyData.hasDictAll]
  | y :: ys => by simp [PyData.hasDictAll, PyData.hasDict, nd_strs ys]
theorem dp_strs : ∀ ys : List Str, PyData.depthAll (ys.map PyData.str) = 0
  | [] => by simp [PyData.depthAll]
  | y :: ys => by simp [PyData.depthAll, PyData.depth, dp_strs ys]
theorem shows_strs {G : HD} {ys : List Str} (h : ∀ y ∈ ys, (∀ c ∈ y.cps.toList, c < 16 ^ 8) ∧ y.length ≤ 100) (hl : ys.length ≤ 1000) : Shows G (.tup (ys.map D.str)) (.tuple (ys.map PyData.str)) := by
  refine ⟨by unfold Rp; exact ⟨_, rfl, rps_strs ys⟩, by simp [PyData.showable, sh_strs], by simp [PyData.hasDict, nd_strs], by simp [PyData.depth, dp_strs], ?_⟩
  simp only [PyData.shown]
  rw [shownAll_map, List.map_map]
  have h1 := tupleText_len (ys.map (PyData.shown ∘ PyData.str))
  have h2 := piled_le (n := 1002) (ts := ys.map (PyData.shown ∘ PyData.str)) fun t ht => by
    obtain ⟨y, hy, rfl⟩ := List.mem_map.mp ht
    have h3 := StrLaws.reprText_len y (h y hy).1
    have h4 := (h y hy).2
    show (PyData.shown (.str y)).length ≤ 1002
    simp only [PyData.shown]
    omega
  rw [List.length_map] at h2
  rw [sizeLine_eq]
  omega
theorem int_lens : ((List.range 1001).all fun i => decide ((Str.ofString (toString (i : Int))).length ≤ 4)) = true := by decide +kernel
theorem int_len (i : Nat) (h : i ≤ 1000) : (Str.ofString (toString (i : Int))).length ≤ 4 := by
  have := List.all_eq_true.mp int_lens i (List.mem_range.mpr (by omega))
  simpa using this
/-- the told and the due: [] or [('log', None)] or [('log', i)] -/
theorem shows_nil {G : HD} {a : Addr} (e : G a = some (.lst [])) : Shows G (.ref a) (.list []) := by
  refine ⟨by unfold Rp; exact ⟨_, _, rfl, .inl e, by unfold Rps; rfl⟩, by simp [PyData.showable, PyData.showableAll], by simp [PyData.hasDict, PyData.hasDictAll], by simp [PyData.depth, PyData.depthAll], ?_⟩
  have := listText_len []
  simp only [PyData.shown, PyData.shownAll]
  rw [sizeLine_eq]
  rw [piled_nil] at this
  omega
theorem shows_one {G : HD} {a : Addr} {d : D} {p : PyData} (e : G a = some (.lst [.tup [.str "log", d]])) (h : Rp G p d) (h1 : p.showable = true) (h2 : p.hasDict = false) (h3 : p.depth ≤ 50) (h4 : p.shown.length ≤ 100000) : Shows G (.ref a) (.list [.tuple [.str "log", p]]) := by
  refine ⟨by unfold Rp; exact ⟨_, _, rfl, .inl e, by unfold Rps; exact ⟨_, _, rfl, by unfold Rp; exact ⟨_, rfl, by unfold Rps; exact ⟨_, _, rfl, by unfold Rp; rfl, by unfold Rps; exact ⟨_, _, rfl, h, by unfold Rps; rfl⟩⟩⟩, by unfold Rps; rfl⟩⟩, by simp [PyData.showable, PyData.showableAll, h1], by simp [PyData.hasDict, PyData.hasDictAll, h2], ?_, ?_⟩
  · simp [PyData.depth, PyData.depthAll]; omega
  · simp only [PyData.shown, PyData.shownAll]
    have a1 := listText_len [tupleText [reprText "log", p.shown]]
    have a2 := tupleText_len [reprText "log", p.shown]
    have a3 := StrLaws.reprText_len "log" (by decide +kernel)
    rw [piled_cons, piled_nil] at a1
    rw [piled_cons, piled_cons, piled_nil] at a2
    have a4 : ("log" : Str).length = 3 := by decide +kernel
    rw [sizeLine_eq]
    omega
theorem shows_non {G : HD} {a : Addr} (e : G a = some (.lst [.tup [.str "log", .non]])) : Shows G (.ref a) (.list [.tuple [.str "log", .none]]) :=
  shows_one e (by unfold Rp; rfl) (by simp [PyData.showable]) (by simp [PyData.hasDict]) (by simp [PyData.depth]) (by
    simp only [PyData.shown]
    decide +kernel)
theorem shows_int {G : HD} {a : Addr} {i : Nat} (hi : i ≤ 1000) (e : G a = some (.lst [.tup [.str "log", .int (i : Nat)]])) : Shows G (.ref a) (.list [.tuple [.str "log", .int (i : Nat)]]) :=
  shows_one e (by unfold Rp; rfl) (by
    simp only [PyData.showable, decide_eq_true_eq]
    have : (i : Int).natAbs = i := rfl
    rw [this]
    have : i.log2 ≤ i := by
      by_cases h0 : i = 0
      · subst h0; decide
      · exact Nat.le_of_lt ((Nat.log2_lt h0).mpr Nat.lt_two_pow_self)
    omega) (by simp [PyData.hasDict]) (by simp [PyData.depth]) (by
    simp only [PyData.shown]
    have := int_len i hi
    show (Str.ofString (toString (i : Int))).length ≤ 100000
    omega)
end Dd
set_option Elab.async false
set_option linter.all false
set_option maxRecDepth 100000
/-! L14: a def with its code object told; heaps without foreign tables. -/
namespace Dd
open PySem PySem.Spec L2 LamX
open PyProof.Rows hiding St
/-- a def f whose code object is c -/
def FunC (K : PySem.W.Frag) (x qual : Str) (st : Stmt) (f : Addr) (fd : FuncData) (c : Addr) : Prop :=
  ∃ (oc : Value) (od : Option Addr) (kV doc pm : Value) (an : Option Addr) (ct : Value) (osl : Array (Option Value)),
    fd = PySem.W.fnOf x qual (defArgs st) (defBody st) (defScope st) .none kV doc pm an (.ref c) ct ∧ K.lookup f = some ⟨oc, od, .func fd, osl⟩ ∧ PySem.W.codeIn K (.ref c) qual = true
theorem okGc {P : Program} {w : World} {K : PySem.W.Frag} {mg : Str → Option Value} {base : Heap} {x qual : Str} {st : Stmt} {f c : Addr} {fd : FuncData} {N ps : List Str} {k : Nat} {sd : SpD} (F : FunC K x qual st f fd c) (S : FnScope N ps (defScope st)) (len : ∀ ds G Q E, sd ds G Q E → ds.length = ps.length)
    (hbody : ∀ (A : Around) (outer : List Env) (s : Shared) (H : Hp) (E : XK), RoomG k (A.deeper (envOfC qual (defScope st) s.heap.objs.size f (.ref c))) →
      Takes (cxOf (L2.CX P w) P w K mg base N qual (defScope st) f (.ref c) A outer s H E) (fun cls d _ H => E cls d H) →
      ∃ t, PSs (cxOf (L2.CX P w) P w K mg base N qual (defScope st) f (.ref c) A outer s H E) (defBody st) t ∧
        ∀ ds G QD ED, sd ds G QD ED → WC K H (fun C fs _ G => WkX ED C fs G) (fun cls d _ H => E cls d H) → RdS K H t (startD N ds) G ⟨fun _ G' => Wk QD .non G', Wk QD, fun _ _ => False, fun _ _ => False⟩) :
    FnG P w K mg base (k + 1) f fd ps (spOf K sd) := by
  obtain ⟨oc, od, kV, doc, pm, an, ct, osl, rfl, lk, hcd⟩ := F
  refine fn_ofG lk hcd S ?_ fun A outer s H vs Q E hr hsp => ?_
  · rintro vs H Q E ⟨ds, G, QD, ED, h1, h2, h3, _⟩
    rw [← h1.len]
    exact len _ _ _ _ h3
  · obtain ⟨ds, G, QD, ED, h1, h2, h3, h4, h5⟩ := hsp
    obtain ⟨t, ht, rd⟩ := hbody A outer s H E hr (takes_of rfl rfl rfl rfl)
    refine ⟨t, ht, rd ds G QD ED h3 (WC.of h5) _ _ _ (Ext.refl _) (rs_start h1) h2 ?_⟩
    refine ⟨fun σ' H' S' G' x rs rh q => ?_, fun v H' d G' x rh e q => ?_, fun _ _ _ _ _ _ _ q => q.elim, fun _ _ _ _ _ _ _ q => q.elim⟩
    · obtain ⟨G2, s2, q⟩ := q
      exact h4 .non H' .non G2 x (rh.sub s2) (den_non.mpr rfl) q
    · obtain ⟨G2, s2, q⟩ := q
      exact h4 v H' d G2 x (rh.sub s2) e q
/-! ### a heap with the tables T alone -/
/-- all but tables stays -/
def SubT (G G' : HD) : Prop := ∀ a o, G a = some o → (∀ q, o ≠ .tab q) → G' a = some o
theorem Sub.subT {G G' : HD} (s : Sub G G') : SubT G G' := fun a o e _ => s a o e
theorem SubT.trans {G G1 G2 : HD} (a : SubT G G1) (b : SubT G1 G2) : SubT G G2 := fun x o e n => b x o (a x o e n) n
open Classical in
/-- G without the tables that are not in T -/
noncomputable def keepT (T : List (Addr × Str)) (G : HD) : HD := fun a => match G a with
  | some (.tab q) => if (a, q) ∈ T then some (.tab q) else none
  | o => o
theorem keepT_sub {T : List (Addr × Str)} {G : HD} : Sub (keepT T G) G := fun a o e => by
  unfold keepT at e
  split at e
  · split at e
    · rename_i h _
      cases e; exact h
    · cases e
  · exact e
theorem keepT_subT {T : List (Addr × Str)} {G : HD} : SubT G (keepT T G) := fun a o e n => by
  unfold keepT
  split
  · rename_i q h
    rw [h] at e; cases e
    exact absurd rfl (n q)
  · exact e
theorem keepT_tab {T : List (Addr × Str)} {G : HD} {a : Addr} {q : Str} (h : G a = some (.tab q)) (hT : (a, q) ∈ T) : keepT T G a = some (.tab q) := by
  unfold keepT
  rw [h]
  exact if_pos hT
theorem keepT_in {T : List (Addr × Str)} {G : HD} {a : Addr} {q : Str} (h : keepT T G a = some (.tab q)) : (a, q) ∈ T := by
  unfold keepT at h
  split at h
  · split at h
    · rename_i hm
      cases h; exact hm
    · cases h
  · rename_i hn
    exact absurd h (hn q)
theorem rd_weak {K : PySem.W.Frag} {B : Hp} {S : DS} {G G0 : HD} {te : TE} {Q : D → HD → Prop} (s : Sub G0 G) (h : RdE K B te S G0 Q) : RdE K B te S G Q := fun σ H P bx rs rh c => h σ H P bx rs (rh.sub s) c
/-- x(lambda: body) that is caught -/
theorem rd_lamT {K : PySem.W.Frag} {B : Hp} {S : DS} {G : HD} {CG : Addr} {T : List (Addr × Str)} {t : XK → TE} {Q : D → HD → Prop} (hT : ∀ p ∈ T, G p.1 = some (.tab p.2))
    (h : ∀ G0 E B', SubT G G0 → (∀ p ∈ T, G0 p.1 = some (.tab p.2)) → XC K B' (fun C fs G' => PySem.W.exmOne K (.ref C) (.ref CG) = some true ∧ ∀ a G'', Sub G' G'' → ExcAt G'' a C fs → Q (.ref a) G'') E → RdE K B' (t E) S G0 fun _ G' => Q .non G') :
    RdE K B (tLam T (TTc K CG) t) S G Q := by
  refine rd_weak (G0 := keepT T G) keepT_sub ?_
  have hT0 : ∀ p ∈ T, keepT T G p.1 = some (.tab p.2) := fun p hp => keepT_tab (hT p hp) hp
  exact rd_lam hT0 (fun a q e => keepT_in e) fun E B' x hX => h _ E B' keepT_subT hT0 hX
theorem nt_raw {o : HO} : ∀ q, DO.raw o ≠ .tab q := fun q z => by cases z
theorem TyD.subT {K : PySem.W.Frag} {G G' : HD} {d : D} {t : Value} (s : SubT G G') (h : TyD K G d t) : TyD K G' d t := by
  cases h with
  | non => exact .non
  | bl b => exact .bl b
  | int b => exact .int b
  | str b => exact .str b
  | tup xs => exact .tup xs
  | kt a xs => exact .kt a xs
  | lst e => exact .lst (s _ _ e fun q z => by cases z)
  | dic e => exact .dic (s _ _ e fun q z => by cases z)
  | dct e => exact .dct (s _ _ e fun q z => by cases z)
  | ins e c => exact .ins (s _ _ e fun q z => by cases z) c
  | exc e hd c => exact .exc (s _ _ e fun q z => by cases z) (fun dx z => let ⟨fs, e2⟩ := hd dx z; ⟨fs, s _ _ e2 fun q z => by cases z⟩) c
theorem Ty7.subT {K : PySem.W.Frag} {G G' : HD} {d : D} {n : String} (s : SubT G G') (h : Ty7 K G d n) : Ty7 K G' d n := ⟨h.1.subT s, h.2⟩
theorem PlainD.subT {K : PySem.W.Frag} {G G' : HD} {d : D} (s : SubT G G') (h : PlainD K G d) : PlainD K G' d := ⟨let ⟨n, h1⟩ := h.1; ⟨n, h1.subT s⟩, h.2⟩
theorem Walks.subT {d : D} {G G' : HD} {xs : List D} {Sd : HD → Prop} (h : Walks d G xs Sd) (s : SubT G G') : ∃ Sd', Walks d G' xs Sd' := by
  cases h with
  | lst e => exact ⟨_, .lst (s _ _ e fun q z => by cases z)⟩
  | lck e => exact ⟨_, .lck (s _ _ e fun q z => by cases z)⟩
  | tup => exact ⟨_, .tup⟩
  | str => exact ⟨_, .str⟩
theorem OddOk.subT {K : PySem.W.Frag} {G G' : HD} {d : D} (s : SubT G G') (h : OddOk K G d) : OddOk K G' d := by
  obtain ⟨n, ty, h⟩ := h
  refine ⟨n, ty.subT s, ?_⟩
  rcases h with h | ⟨h, xs, Sd, hw, hp, hs, hl⟩
  · exact .inl h
  · obtain ⟨Sd', hw'⟩ := hw.subT s
    exact .inr ⟨h, xs, Sd', hw', fun x hx => (hp x hx).subT s, hs, hl⟩
theorem DAt.subT {G G' : HD} {p pg pc : Addr} {n : Nat} (h : DAt G p pg pc n) (s : SubT G G') : DAt G' p pg pc n := by
  obtain ⟨⟨r, t, gr, cs, h1, h2, h3, h4⟩, ne⟩ := h
  exact ⟨⟨r, t, gr, cs, s _ _ h1 fun q z => (by cases z), s _ _ h2 fun q z => (by cases z), s _ _ h3 fun q z => (by cases z), h4⟩, ne⟩
theorem rep_mem {α : Type} {k : Int} {xs : List α} {x : α} (h : x ∈ rep k xs) : x ∈ xs := by
  unfold rep at h
  obtain ⟨l, hl, hx⟩ := List.mem_flatten.mp h
  rw [List.eq_of_mem_replicate hl] at hx
  exact hx
/-- a text of names is read back -/
theorem PT_names (dp : Nat) : ∀ ls : List (List Nat), ls ≠ [] → (∀ y ∈ ls, Good y) → PT (TL.joinL [32] ls) (ls.map SS) dp
  | [], h, _ => absurd rfl h
  | [y], _, hg => PT_name (hg y (by simp)) dp
  | y :: z :: r, _, hg => (PT_name (hg y (by simp)) dp).app (PT_names dp (z :: r) (by simp) fun x hx => hg x (List.mem_cons_of_mem _ hx))
theorem read_nil : readLog [] = .ok [] := by
  unfold readLog
  rfl
theorem read_names {ls : List (List Nat)} (hg : ∀ y ∈ ls, Good y) (hl : ls.length ≤ 200) : readLog (TL.joinL [32] ls) = .ok (ls.map SS) := by
  by_cases h : ls = []
  · subst h; exact read_nil
  · have := (PT_names 0 ls h hg).read (by omega) (by rw [List.length_map]; omega)
    rw [this, List.length_map, if_neg (by omega)]
theorem joinL_good {ls : List (List Nat)} (hg : ∀ y ∈ ls, Good y) : ∀ c ∈ TL.joinL [32] ls, c ≤ 122 := by
  match ls, hg with
  | [], _ => intro c hc; cases hc
  | [y], hg => exact fun c hc => (let_small ((hg y (by simp)).2.2 c hc)).2
  | y :: z :: r, hg =>
    intro c hc
    have hc : c ∈ y ++ ([32] ++ TL.joinL [32] (z :: r)) := hc
    rcases List.mem_append.mp hc with h | h
    · exact (let_small ((hg y (by simp)).2.2 c h)).2
    · rcases List.mem_append.mp h with h | h
      · rw [List.mem_singleton.mp h]; decide
      · exact joinL_good (ls := z :: r) (fun x hx => hg x (List.mem_cons_of_mem _ hx)) c h
theorem joinL_len {ls : List (List Nat)} (hg : ∀ y ∈ ls, Good y) : (TL.joinL [32] ls).length ≤ 7 * ls.length := by
  match ls, hg with
  | [], _ => exact Nat.zero_le _
  | [y], hg => have := (hg y (by simp)).2.1; show y.length ≤ _; simp; omega
  | y :: z :: r, hg =>
    have h1 := (hg y (by simp)).2.1
    have h2 := joinL_len (ls := z :: r) (fun x hx => hg x (List.mem_cons_of_mem _ hx))
    show (y ++ ([32] ++ TL.joinL [32] (z :: r))).length ≤ 7 * ((z :: r).length + 1)
    rw [List.length_append, List.length_append, List.length_singleton]
    omega
end Dd
set_option Elab.async false
set_option linter.all false
set_option maxRecDepth 100000
set_option maxHeartbeats 4000000
/-! L15: the law. -/
namespace Dd
open PySem PySem.Spec L2 LamX
open PyProof.Rows hiding St
abbrev lq : Str := (envOfC "law" (defScope s_law) 0 0 .none).qual ++ "<lambda>"
section
variable {P : Program} {w : World} {K : PySem.W.Frag} {mg : Str → Option Value} {base : Heap} {f C : Addr} {fd : FuncData}
def spLaw (Pt : Addr) : SpD := fun ds G QD _ => ∃ (ps : Addr) (ns : List Int), ds = [.ref ps] ∧ G ps = some (.lck (.lst (ns.map D.int))) ∧ ns.length ≤ 63 ∧ G Pt = some (.tab lq) ∧ ∀ G', QD (.bl true) G'
theorem shows_200 {G : HD} : Shows G (.int 200) (.int 200) := by
  refine ⟨by unfold Rp; rfl, by simp only [PyData.showable]; decide +kernel, by simp [PyData.hasDict], by simp [PyData.depth], ?_⟩
  have := int_len 200 (by omega)
  simp only [PyData.shown]
  rw [sizeLine_eq]
  have e : (Str.ofString (toString (200 : Int))).length ≤ 4 := this
  show (Str.ofString (toString (200 : Int))).length ≤ _
  omega
theorem goodEv_list : ∀ (ev : List Str), GoodEv ev → ∃ es : List (List Nat), ev = es.map SS ∧ ∀ y ∈ es, Good y
  | [], _ => ⟨[], rfl, fun y hy => by cases hy⟩
  | z :: ev, h => by
    obtain ⟨y, hz, hy⟩ := h z (List.mem_cons_self ..)
    obtain ⟨es, he, hes⟩ := goodEv_list ev fun x hx => h x (List.mem_cons_of_mem _ hx)
    refine ⟨y :: es, by rw [hz, he]; rfl, fun x hx => ?_⟩
    rcases List.mem_cons.mp hx with h1 | h1
    · rw [h1]; exact hy
    · exact hes x h1
theorem firstWrong_lt {xs : List D} {j : Nat} (h : firstWrong xs = .int (j : Nat)) : j < xs.length := by
  unfold firstWrong at h
  split at h
  · rename_i i e
    have hij : i = j := by
      have := D.int.inj h
      omega
    rw [← hij]
    exact (List.findIdx?_eq_some_iff_getElem.mp e).1
  · cases h
theorem rne_same {s : Str} {G : HD} {Q : D → HD → Prop} (q : Q (.bl false) G) : RNe (.str s) (.str s) G Q := by
  show Q (.bl (if true = true then !decide (s = s) else decide (s = s))) G
  rw [decide_eq_true rfl]
  exact q
theorem shown_200 : (PyData.int 200).shown = "200" := by simp only [PyData.shown]; decide +kernel
theorem ok_law {CB CM CL CG c Pt g : Addr} {kVC dcC pmC cdvC ctC ocC : Value} {anC odC : Option Addr} {oslC : Array (Option Value)} (F : FunC K "law" "law" s_law f fd c) (T : TX mg) (TB : TabB base mg c Pt)
    (gC : mg "_law_caught" = some (.ref g)) (kpC : PySem.W.keepIn K (.ref g) = true) (lkC : K.lookup g = some ⟨ocC, odC, .func (PySem.W.fnOf "_law_caught" "_law_caught" (defArgs s_law_caught) (defBody s_law_caught) (defScope s_law_caught) .none kVC dcC pmC anC cdvC ctC), oslC⟩)
    (cdC : PySem.W.codeIn K cdvC "_law_caught" = true) (bC : L2.Binds K (PySem.W.fnOf "_law_caught" "_law_caught" (defArgs s_law_caught) (defBody s_law_caught) (defScope s_law_caught) .none kVC dcC pmC anC cdvC ctC) ["_law_act"] []) (gG : mg "GlanceError" = some (.ref CG))
    (gM : mg "TooMany" = some (.ref CM)) (erM : ErC K CM) (nfM : PySem.W.findIn K (.ref CM) "limit" = some none) (exM : PySem.W.exmOne K (.ref CM) (.ref CG) = some true) (exL : PySem.W.exmOne K (.ref CL) (.ref CG) = some true)
    (C_law_begun : CalG P w K mg base 2 "_law_begun" ["_law_script"] spBegun) (C_law_take : CalG P w K mg base 2 "_law_take" ["_law_draw", "_law_many"] spTake) (C_law_pick : CalG P w K mg base 3 "_law_pick" ["_law_draw", "_law_some"] spPick)
    (C_law_names : CalG P w K mg base 4 "_law_names" ["_law_draw", "_law_many"] spNames) (C_law_log : CalG P w K mg base 4 "_law_log" ["_law_draw", "_law_names_here", "_law_most"] spLog) (C_log_text : CalG P w K mg base 5 "log_text" ["log"] (spLogText K CL))
    (C_read_log : CalG P w K mg base 6 "read_log" ["text"] (spReadLog CB CM K)) (C_law_items : CalG P w K mg base 10 "_law_items" ["_law_draw", "_law_names_here", "_law_deep"] (spIt 7)) (C_law_odd_log : CalG P w K mg base 5 "_law_odd_log" ["_law_draw", "_law_names_here"] (spOddLog K))
    (C_law_told_error : CalG P w K mg base 2 "_law_told_error" ["_law_error"] (spTold CL)) (C_law_log_due : CalG P w K mg base 3 "_law_log_due" ["_law_thing"] (spDue K)) : FnG P w K mg base 11 f fd ["_law_script"] (spOf K (spLaw Pt)) := by
  have S := S_law
  refine okGc F S (fun ds G Q E ⟨_, _, e, _⟩ => by rw [e]; rfl) fun A outer s H E hr tk => ?_
  refine ⟨_, (pss_cons (ps_set (i := 1) S.nd rfl (Or.inl rfl) (k_c C_law_begun rfl rfl rfl rfl rfl hr (by decide) rfl tk (pa_cons (pv 0) pa_nil)))
  (pss_cons (ps_for PassesOwn.leaving rfl (pi_range1 rfl T.m_range (pa_cons (pe_op (k_opd_add (K := K) rfl) pe_int (pe_callB (k_crd_min2 (K := K) rfl rfl) rfl T.m_min (by rfl) (pa_cons (pe_callB (k_crd_len (K := K) rfl) rfl T.m_len (by rfl) (pa_cons (pv 0) pa_nil)) (pa_cons pe_int pa_nil)))) pa_nil)) (pg_name (i := 2) S.nd rfl (Or.inl rfl)) (pss_cons (ps_set (i := 3) S.nd rfl (Or.inl rfl) (k_c C_law_names rfl rfl rfl rfl rfl hr (by decide) rfl tk (pa_cons (pv 1) (pa_cons (pe_op (k_opd_add (K := K) rfl) pe_int (k_c C_law_take rfl rfl rfl rfl rfl hr (by decide) rfl tk (pa_cons (pv 1) (pa_cons pe_int pa_nil)))) pa_nil))))
  (pss_cons (ps_set (i := 4) S.nd rfl (Or.inl rfl) (pe_slice (k_sld (K := K) rfl) (pe_op (k_opd_mul (K := K) rfl) (k_c C_law_log rfl rfl rfl rfl rfl hr (by decide) rfl tk (pa_cons (pv 1) (pa_cons (pv 3) (pa_cons pe_int pa_nil)))) (k_c C_law_pick rfl rfl rfl rfl rfl hr (by decide) rfl tk (pa_cons (pv 1) (pa_cons (pe_lst (pa_cons pe_int (pa_cons pe_int (pa_cons pe_int (pa_cons pe_int pa_nil))))) pa_nil)))) po_none (po_some pe_int)))
  (pss_cons (ps_set (i := 5) S.nd rfl (Or.inr rfl) (k_c C_log_text rfl rfl rfl rfl rfl hr (by decide) rfl tk (pa_cons (pv 4) pa_nil)))
  (pss_cons (ps_if (PW.pt (pw_or (pt_cmpR (k_opd_ne (K := K) rfl hr.rm.units) (pe_callB (k_crd_repr (K := K) rfl hr.gd hr.rm.units) rfl T.m_repr (by rfl) (pa_cons (pv 5) pa_nil)) (pe_callB (k_crd_repr (K := K) rfl hr.gd hr.rm.units) rfl T.m_repr (by rfl) (pa_cons (k_bm (K := K) rfl PySem.F.plainAttrs_str PySem.F.slot_str_join PySem.F.type_str_join (k_mtd_join (K := K) rfl) pe_str (pa_cons (pv 4) pa_nil)) pa_nil)) (nomark _)) (pw_or1 (pt_cmpR (k_opd_ne (K := K) rfl hr.rm.units) (pe_callB (k_crd_repr (K := K) rfl hr.gd hr.rm.units) rfl T.m_repr (by rfl) (pa_cons (k_c C_read_log rfl rfl rfl rfl rfl hr (by decide) rfl tk (pa_cons (pv 5) pa_nil)) pa_nil)) (pe_callB (k_crd_repr (K := K) rfl hr.gd hr.rm.units) rfl T.m_repr (by rfl) (pa_cons (pe_callTy (k_crd_tuple (K := K) rfl) rfl T.m_tuple (by rfl) (pa_cons (pv 4) pa_nil)) pa_nil)) (nomark _))))) (pss_one (ps_ret pe_bl)) pss_nil)
  (pss_cons (ps_asg (k_c C_law_items rfl rfl rfl rfl rfl hr (by decide) rfl tk (pa_cons (pv 1) (pa_cons (pv 3) (pa_cons (k_c C_law_pick rfl rfl rfl rfl rfl hr (by decide) rfl tk (pa_cons (pv 1) (pa_cons (pe_lst (pa_cons pe_int (pa_cons pe_int (pa_cons pe_int pa_nil)))) pa_nil))) pa_nil)))) (k_tup (K := K) rfl rfl (pgs_cons (pg_name (i := 5) S.nd rfl (Or.inr rfl)) (pgs_cons (pg_name (i := 6) S.nd rfl (Or.inl rfl)) pgs_nil))))
  (pss_cons (ps_set (i := 7) S.nd rfl (Or.inl rfl) (pe_lamcallG (T := [(Pt, lq)]) (TT := TTc K CG) (k := 6) (t := fun E => tCallG (spOf K (spReadLog CB CM K)) [] (fun cls d _ H => E cls d H) (tCons (tVar 5) tNil)) rfl gC kpC lkC cdC bC S_law_caught rfl (Or.inl rfl) (caught_gives (CG := CG) S_law_caught.nd rfl gG (by decide) rfl rfl (by decide) (by decide) (by decide) (by decide)) TB rfl (List.mem_singleton.mpr rfl) (fun p hp _ => by rw [List.mem_singleton.mp hp]; rfl) (hr.mono (by decide)) (lamS_by rfl) rfl (fun _ _ _ _ _ => rfl) (fun A2 outer2 s2 H2 E2 f2 c2 hr2 => k_c C_read_log rfl rfl rfl rfl rfl hr2 (by decide) rfl (takes_of rfl rfl rfl rfl) (pa_cons (pv 5) pa_nil))))
  (pss_cons (ps_if (pt_cmpR (k_opd_gt (K := K) rfl) (pe_callB (k_crd_len (K := K) rfl) rfl T.m_len (by rfl) (pa_cons (pv 6) pa_nil)) pe_int (nomark _)) (pss_one (ps_if (PW.pt (pw_or (pt_not (pt_val (pe_callB (k_crd_isi (K := K) rfl) rfl T.m_isinstance (by rfl) (pa_cons (pv 7) (pa_cons (pe_glob (v := .ref CM) rfl gM rfl) pa_nil))))) (pw_or1 (pt_cmpR (k_opd_ne (K := K) rfl hr.rm.units) (pe_callB (k_crd_repr (K := K) rfl hr.gd hr.rm.units) rfl T.m_repr (by rfl) (pa_cons (k_xk (K := K) rfl (pv 7)) pa_nil)) pe_str (nomark _))))) (pss_one (ps_ret pe_bl)) pss_nil)) (pss_one (ps_if (PW.pt (pw_or (pt_cmpR (k_opd_isnot (K := K) rfl) (pv 7) pe_non (nomark _)) (pw_or (pt_cmpR (k_opd_ne (K := K) rfl hr.rm.units) (pe_callB (k_crd_repr (K := K) rfl hr.gd hr.rm.units) rfl T.m_repr (by rfl) (pa_cons (k_c C_read_log rfl rfl rfl rfl rfl hr (by decide) rfl tk (pa_cons (pv 5) pa_nil)) pa_nil)) (pe_callB (k_crd_repr (K := K) rfl hr.gd hr.rm.units) rfl T.m_repr (by rfl) (pa_cons (pe_callTy (k_crd_tuple (K := K) rfl) rfl T.m_tuple (by rfl) (pa_cons (pv 6) pa_nil)) pa_nil)) (nomark _)) (pw_or1 (pt_cmpR (k_opd_ne (K := K) rfl hr.rm.units) (k_c C_log_text rfl rfl rfl rfl rfl hr (by decide) rfl tk (pa_cons (pv 6) pa_nil)) (k_bm (K := K) rfl PySem.F.plainAttrs_str PySem.F.slot_str_join PySem.F.type_str_join (k_mtd_join (K := K) rfl) pe_str (pa_cons (pv 6) pa_nil)) (nomark _)))))) (pss_one (ps_ret pe_bl)) pss_nil)))
  (pss_cons (ps_set (i := 8) S.nd rfl (Or.inr rfl) (k_c C_law_odd_log rfl rfl rfl rfl rfl hr (by decide) rfl tk (pa_cons (pv 1) (pa_cons (pv 3) pa_nil))))
  (pss_one (ps_if (pt_cmpR (k_opd_ne (K := K) rfl hr.rm.units) (pe_callB (k_crd_repr (K := K) rfl hr.gd hr.rm.units) rfl T.m_repr (by rfl) (pa_cons (k_c C_law_told_error rfl rfl rfl rfl rfl hr (by decide) rfl tk (pa_cons (pe_lamcallG (T := [(Pt, lq)]) (TT := TTc K CG) (k := 6) (t := fun E => tCallG (spOf K (spLogText K CL)) [] (fun cls d _ H => E cls d H) (tCons (tVar 8) tNil)) rfl gC kpC lkC cdC bC S_law_caught rfl (Or.inl rfl) (caught_gives (CG := CG) S_law_caught.nd rfl gG (by decide) rfl rfl (by decide) (by decide) (by decide) (by decide)) TB rfl (List.mem_singleton.mpr rfl) (fun p hp _ => by rw [List.mem_singleton.mp hp]; rfl) (hr.mono (by decide)) (lamS_by rfl) rfl (fun _ _ _ _ _ => rfl) (fun A2 outer2 s2 H2 E2 f2 c2 hr2 => k_c C_log_text rfl rfl rfl rfl rfl hr2 (by decide) rfl (takes_of rfl rfl rfl rfl) (pa_cons (pv 8) pa_nil))) pa_nil)) pa_nil)) (pe_callB (k_crd_repr (K := K) rfl hr.gd hr.rm.units) rfl T.m_repr (by rfl) (pa_cons (k_c C_law_log_due rfl rfl rfl rfl rfl hr (by decide) rfl tk (pa_cons (pv 8) pa_nil)) pa_nil)) (nomark _)) (pss_one (ps_ret pe_bl)) pss_nil)))))))))))
  (pss_one (ps_ret (pe_and (pe_cmpR (k_opd_eq (K := K) rfl hr.rm.units) (k_c C_read_log rfl rfl rfl rfl rfl hr (by decide) rfl tk (pa_cons pe_str pa_nil)) (pe_tup pa_nil) (nomark _)) (pe_one (pe_cmpR (k_opd_eq (K := K) rfl hr.rm.units) (k_c C_log_text rfl rfl rfl rfl rfl hr (by decide) rfl tk (pa_cons (pe_tup pa_nil) pa_nil)) pe_str (nomark _)))))))), ?_⟩
  rintro ds G QD ED ⟨ps, ns, rfl, hps, hnl, hPt, q⟩ hW
  refine rd_seq <| rd_set <| rd_c hW <| rd_cons <| rd_var rfl <| rd_nil ⟨ps, ns, rfl, hps, hnl, fun p pg pc G1 hs1 hD1 gp gpg gpc => ?_⟩
  have npsp : ps ≠ p := fun z => by rw [z, gp] at hps; cases hps
  have nPp : Pt ≠ p := fun z => by rw [z, gp] at hPt; cases hPt
  have nPg : Pt ≠ pg := fun z => by rw [z, gpg] at hPt; cases hPt
  have hc6 : cost 6 ≤ 1000000000 := by decide +kernel
  have keep : ∀ {G3 G4 : HD} {a : Addr} {o : DO}, G3 a = some o → Fr [p, pg] G3 G4 → a ≠ p → a ≠ pg → G4 a = some o := fun h f n1 n2 => f _ _ h (by simp [n1, n2])
  let Iv : Nat → DS → HD → Prop := fun i S' G' => ∃ (a b c d e f g : Option D), S' = [some (.ref ps), some (.ref p), a, b, c, d, e, f, g] ∧ DAt G' p pg pc (i * (cost 6 + 300)) ∧ G' Pt = some (.tab lq)
  refine rd_cut (fun S' G' => ∃ i, Iv i S' G') ?_ ?_
  · have hl8 : ∀ i : Nat, i ≤ 8 → i * (cost 6 + 300) + (cost 6 + 300) ≤ tLim := fun i hi => by
      have : i * (cost 6 + 300) ≤ 8 * (cost 6 + 300) := Nat.mul_le_mul hi (Nat.le_refl _)
      unfold tLim
      omega
    refine rd_for <| rd_rng1 <| rd_cons <| rd_op <| rd_int <| rd_cb <| rd_cons <| rd_cb <| rd_cons <| rd_var rfl <| rd_nil ⟨_, rfl, .inl ⟨_, .inr (hs1 _ _ hps), rd_cons <| rd_int <| rd_nil ⟨_, _, rfl, rd_nil ⟨_, rfl, ?_, ?_, ?_⟩⟩⟩⟩
    · split <;> omega
    · split <;> omega
    refine ⟨Iv, ⟨none, none, none, none, none, none, none, rfl, hD1.mono (by omega), hs1 _ _ hPt⟩, fun _ _ _ _ _ => trivial, ?_, fun S' G' h => ⟨_, h⟩⟩
    rintro i d0 S' G2 hd0 ⟨a, b, c', d, e, f', g', rfl, hD2, hPt2⟩
    have hi8 : i ≤ 8 := by
      have h1 := (List.getElem?_eq_some_iff.mp hd0).1
      rw [rints_len] at h1
      split at h1 <;> omega
    have hlim := hl8 i hi8
    refine rd_gname ?_
    -- names
    refine rd_seq <| rd_set <| rd_c hW <| rd_cons <| rd_var rfl <| rd_cons <| rd_op <| rd_int <| rd_c hW <| rd_cons <| rd_var rfl <| rd_cons <| rd_int <| rd_nil ⟨p, pg, pc, _, 5, rfl, hD2, by decide, by decide, by omega, fun v G3 v0 v1 hD3 hF3 => ?_⟩
    obtain ⟨m, rfl⟩ : ∃ m : Nat, v = m := ⟨v.toNat, by omega⟩
    refine rd_nil ⟨p, pg, pc, _, 1 + m, by rw [show ((1 + m : Nat) : Int) = 1 + (m : Int) by omega], hD3, by omega, by omega, by omega, fun pn ys G4 gpn hpn hyl hyg hD4 hF4 => ?_⟩
    have hPt3 := keep hPt2 hF3 nPp nPg
    have hPt4 := keep hPt3 hF4 nPp nPg
    obtain ⟨npp, npg, npc⟩ := dat_ne hD3 gpn
    have hys : ys ≠ [] := by rintro rfl; simp at hyl; omega
    -- the log
    refine rd_seq <| rd_set <| rd_sl <| rd_op <| rd_c hW <| rd_cons <| rd_var rfl <| rd_cons <| rd_var rfl <| rd_cons <| rd_int <| rd_nil ⟨p, pg, pc, _, pn, ys, 20, rfl, hD4, by decide, by omega, hpn, npg, hys, by omega, hyg, fun zs pf G5 gpf hpf hzl hzg hD5 hF5 => rd_c hW <| rd_cons <| rd_var rfl <| rd_cons <| rd_lst <| rd_cons <| rd_int <| rd_cons <| rd_int <| rd_cons <| rd_int <| rd_cons <| rd_int <| rd_nil ⟨by show 4 ≤ sizeLine; decide, fun q1 hq1 => ?_⟩⟩
    obtain ⟨f1, f2, f3⟩ := dat_ne hD4 gpf
    have m1 := dat_ne hD5 hq1
    refine rd_nil ⟨p, pg, pc, _, _, rfl, hD5.sub (Sub.put hq1), by omega, .inl ⟨q1, _, rfl, put_same, m1.2.1, by simp, by simp, fun kd hkd G6 hD6 hF6 => ?_⟩⟩
    obtain ⟨k, rfl, hk1, hk2⟩ : ∃ k : Nat, kd = .int k ∧ 1 ≤ k ∧ k ≤ 10 := by
      simp only [List.mem_cons, List.not_mem_nil, or_false] at hkd
      rcases hkd with h | h | h | h <;> subst h
      · exact ⟨1, rfl, by omega, by omega⟩
      · exact ⟨1, rfl, by omega, by omega⟩
      · exact ⟨1, rfl, by omega, by omega⟩
      · exact ⟨10, rfl, by omega, by omega⟩
    have hpf6 := keep (Sub.put (o := .lst _) hq1 _ _ hpf) hF6 f1 f2
    have hpn6 := keep (Sub.put (o := .lst _) hq1 _ _ (keep hpn hF5 npp npg)) hF6 npp npg
    have hPt6 := keep (Sub.put (o := .lst _) hq1 _ _ (keep hPt4 hF5 nPp nPg)) hF6 nPp nPg
    refine ⟨_, hpf6, by omega, by omega, ?_, fun q2 hq2 => ?_⟩
    · rw [List.length_map, show ((k : Int)).toNat = k by omega, sizeLine_eq]
      have : zs.length * k ≤ 20 * 10 := Nat.mul_le_mul hzl hk2
      omega
    refine rd_nopart <| rd_part <| rd_int ⟨_, rfl, _, .inl put_same, fun pl hpl => ?_⟩
    have s26 := (Sub.put (o := .lst (rep (k : Int) (zs.map nm))) hq2).trans (Sub.put (o := .lst (cutD (rep (k : Int) (zs.map nm)) none (some 200))) hpl)
    have hlist : cutD (rep (k : Int) (zs.map nm)) none (some 200) = (((rep (k : Int) zs).take 200).map SS).map D.str := by
      rw [rep_map, show (200 : Int) = ((200 : Nat) : Int) from rfl, cutD_to, ← List.map_take, List.map_map]; rfl
    have hlg : ∀ y ∈ (rep (k : Int) zs).take 200, Good y := fun y hy => hzg y (rep_mem (List.mem_of_mem_take hy))
    have hll : ((rep (k : Int) zs).take 200).length ≤ 200 := by rw [List.length_take]; omega
    have hD7 := hD6.sub s26
    have hpn7 := s26 _ _ hpn6
    have hPt7 := s26 _ _ hPt6
    have hpl7 := put_same (G := put G6 q2 (.lst (rep (k : Int) (zs.map nm)))) (a := pl) (o := .lst (cutD (rep (k : Int) (zs.map nm)) none (some 200)))
    rw [hlist] at hD7 hpn7 hPt7 hpl7 ⊢
    generalize put (put G6 q2 (.lst (rep (k : Int) (zs.map nm)))) pl (.lst ((((rep (k : Int) zs).take 200).map SS).map D.str)) = G7 at hD7 hpn7 hPt7 hpl7 ⊢
    generalize (rep (k : Int) zs).take 200 = ls at hlg hll hpl7 ⊢
    -- names as things
    have plN : ∀ (ys : List (List Nat)) (Gx : HD), (∀ y ∈ ys, Good y) → ∀ x ∈ (ys.map SS).map D.str, PlainD K Gx x := fun ys Gx hg x hx => by
      rw [List.map_map] at hx
      obtain ⟨y, hy, rfl⟩ := List.mem_map.mp hx
      exact plain_nm (hg y hy)
    have fwN : ∀ (ys : List (List Nat)), (∀ y ∈ ys, Good y) → firstWrong ((ys.map SS).map D.str) = .non := fun ys hg => firstWrong_no fun x hx => by
      rw [List.map_map] at hx
      obtain ⟨y, hy, rfl⟩ := List.mem_map.mp hx
      exact good_isName (hg y hy)
    have strN : ∀ ys : List (List Nat), ((ys.map SS).map D.str).map strOf = ys.map SS := fun ys => by rw [List.map_map]; exact List.map_id' _
    have jnN : ∀ ys : List (List Nat), Txt.join (Str.ofString " ") (ys.map SS) = SS (TL.joinL [32] ys) := fun ys => SX.join_S [32] ys
    have shN : ∀ (ys : List (List Nat)) (Gx : HD), (∀ y ∈ ys, Good y) → ys.length ≤ 201 → Shows Gx (.tup ((ys.map SS).map D.str)) (.tuple ((ys.map SS).map PyData.str)) := fun ys Gx hg hl => shows_strs (fun z hz => by
      obtain ⟨y, hy, rfl⟩ := List.mem_map.mp hz
      refine ⟨fun c hc => ?_, by rw [SS_len]; have := (hg y hy).2.1; omega⟩
      have := let_small ((hg y hy).2.2 c (by simpa using hc))
      omega) (by rw [List.length_map]; omega)
    have smJ : ∀ (ys : List (List Nat)) (Gx : HD), (∀ y ∈ ys, Good y) → ys.length ≤ 201 → Shows Gx (.str (SS (TL.joinL [32] ys))) (.str (SS (TL.joinL [32] ys))) := fun ys Gx hg hl => shows_str (fun c hc => by
      have := joinL_good hg c (by simpa using hc)
      omega) (by rw [SS_len]; have := joinL_len hg; omega)
    have smL : ∀ ys : List (List Nat), (∀ y ∈ ys, Good y) → ys.length ≤ 201 → ((ys.map SS).map (·.length)).sum + (ys.map SS).length * (Str.ofString " ").length ≤ 16777216 := fun ys hg hl => by
      by_cases h0 : ys = []
      · subst h0; decide
      · have h1 := sum_len 32 ys h0
        have h2 := joinL_len hg
        have h3 : (Str.ofString " ").length = 1 := by decide +kernel
        rw [h3, List.length_map]
        omega
    refine rd_seq <| rd_set <| rd_c hW <| rd_cons <| rd_var rfl <| rd_nil ⟨_, "list", rfl, ⟨.lst hpl7, by decide⟩, .inl ⟨by decide, _, _, .lst hpl7, plN ls _ hlg, by rw [List.length_map, List.length_map]; omega, fun _ => ?_, fun j hj => by rw [fwN ls hlg] at hj; cases hj⟩⟩
    rw [strN, jnN]
    have hlen5 := joinL_len hlg
    -- text and log read back
    refine rd_seq <| rd_ifv _ (tv_or (tv_test (ev_op (rd_cb <| rd_cons <| rd_var rfl <| rd_nil ((smJ ls _ hlg (by omega)).repr ⟨rfl, rfl⟩)) (rd_cb <| rd_cons <| rd_bms <| rd_str ⟨_, rfl, rd_cons <| rd_var rfl <| rd_nil ⟨_, _, ls.map SS, rfl, rfl, .inl ⟨pl, rfl, .inl hpl7⟩, smL ls hlg (by omega), by rw [jnN]; exact rd_nil ((smJ ls _ hlg (by omega)).repr ⟨rfl, rfl⟩)⟩⟩) (req_str (decide_eq_true rfl)))) fun _ => tv_test (ev_op (rd_cb <| rd_cons <| rd_c hW <| rd_cons <| rd_var rfl <| rd_nil ⟨_, rfl, .inl ⟨TL.joinL [32] ls, rfl, by omega, by rw [read_names hlg hll]; exact rd_nil ((shN ls _ hlg (by omega)).repr ⟨rfl, rfl⟩)⟩⟩) (rd_cb <| rd_cons <| rd_cb <| rd_cons <| rd_var rfl <| rd_nil ⟨_, rfl, _, .inl hpl7, rd_nil ((shN ls _ hlg (by omega)).repr ⟨rfl, rfl⟩)⟩) (req_str (decide_eq_true rfl)))) (fun hb => Bool.noConfusion (show false = true from hb)) (fun _ => rd_next ?_)
    -- a text of items
    refine rd_seq <| rd_asg <| rd_c hW <| rd_cons <| rd_var rfl <| rd_cons <| rd_var rfl <| rd_cons <| rd_c hW <| rd_cons <| rd_var rfl <| rd_cons <| rd_lst <| rd_cons <| rd_int <| rd_cons <| rd_int <| rd_cons <| rd_int <| rd_nil ⟨by show 3 ≤ sizeLine; decide, fun q3 hq3 => ?_⟩
    have m3 := dat_ne hD7 hq3
    refine rd_nil ⟨p, pg, pc, _, _, rfl, hD7.sub (Sub.put hq3), by omega, .inl ⟨q3, _, rfl, put_same, m3.2.1, by simp, by simp, fun kd hkd G8 hD8 hF8 => ?_⟩⟩
    obtain ⟨dd, rfl, hdd⟩ : ∃ dd : Nat, kd = .int dd ∧ dd ≤ 6 := by
      simp only [List.mem_cons, List.not_mem_nil, or_false] at hkd
      rcases hkd with h | h | h <;> subst h
      · exact ⟨1, rfl, by omega⟩
      · exact ⟨2, rfl, by omega⟩
      · exact ⟨6, rfl, by omega⟩
    have hpn8 := keep (Sub.put (o := .lst _) hq3 _ _ hpn7) hF8 npp npg
    have hPt8 := keep (Sub.put (o := .lst _) hq3 _ _ hPt7) hF8 nPp nPg
    have hcd := cost_mono dd hdd
    refine rd_nil ⟨p, pg, pc, _, pn, ys, dd, rfl, by omega, hdd, hD8, by omega, hpn8, npg, hys, by omega, hyg, fun t ev pe G9 gpe hpe hPT hev hel htl hge hD9 hF9 => rd_gtup rfl <| rd_gcons <| rd_gname <| rd_gcons <| rd_gname <| rd_gnil ?_⟩
    have hpn9 := keep hpn8 hF9 npp npg
    have hPt9 := keep hPt8 hF9 nPp nPg
    have htl2 := tl_mono dd hdd
    have hread : readLog t = if ev.length > 200 then .many else .ok ev := hPT.read hdd hel
    refine rd_cut (fun S' Gx => ∃ v, S' = [some (.ref ps), some (.ref p), some d0, some (.ref pn), some (.ref pl), some (.str (SS t)), some (.ref pe), some v, g'] ∧ SubT G9 Gx ∧ Gx Pt = some (.tab lq) ∧ ((ev.length ≤ 200 ∧ v = .non) ∨ (ev.length > 200 ∧ ∃ ae, v = .ref ae ∧ ExcAt Gx ae CM [("limit", .int 200)]))) ?_ ?_
    · refine rd_set <| rd_lamT (T := [(Pt, lq)]) (fun p hp => by rw [List.mem_singleton.mp hp]; exact hPt9) fun G0 E0 B' sT hT0 hX => rd_c (WC.of hX) <| rd_cons <| rd_var rfl <| rd_nil ⟨_, rfl, .inl ⟨t, rfl, by omega, ?_⟩⟩
      have hP0 := hT0 (Pt, lq) (List.mem_singleton.mpr rfl)
      rw [hread]
      by_cases hv : ev.length > 200
      · rw [if_pos hv]
        exact ⟨G0, Sub.refl _, exM, fun a G'' s hE => ⟨_, rfl, sT.trans s.subT, s _ _ hP0, .inr ⟨hv, a, rfl, hE⟩⟩⟩
      · rw [if_neg hv]
        exact ⟨_, rfl, sT, hP0, .inl ⟨by omega, rfl⟩⟩
    rintro S' Gx ⟨v, rfl, sT9, hPtx, hv⟩
    have hpex := sT9 _ _ hpe (by intro q z; cases z)
    have hpnx := sT9 _ _ hpn9 (by intro q z; cases z)
    have hDx := hD9.subT sT9
    obtain ⟨es, rfl, hesg⟩ := goodEv_list ev hge
    rw [List.length_map] at hel hv hread
    refine rd_cut (fun S' G' => S' = [some (.ref ps), some (.ref p), some d0, some (.ref pn), some (.ref pl), some (.str (SS t)), some (.ref pe), some v, g'] ∧ G' = Gx) ?_ ?_
    · refine rd_ifv (decide ((200 : Int) < (es.length : Nat))) (tv_test (ev_op (rd_cb <| rd_cons <| rd_var rfl <| rd_nil ⟨_, rfl, .inl ⟨_, .inl hpex, rfl, rfl⟩⟩) ev_int ⟨by rw [List.length_map, List.length_map], rfl⟩)) (fun hb => ?_) (fun hb => ?_)
      · have hb : (200 : Int) < (es.length : Nat) := of_decide_eq_true hb
        rcases hv with ⟨hv, rfl⟩ | ⟨hv, ae, rfl, hE⟩
        · omega
        exact rd_ifv _ (tv_or (tv_not (tv_tB (rd_cb <| rd_cons <| rd_var rfl <| rd_cons <| rd_refc <| rd_nil ⟨_, _, _, _, rfl, hE.ty erM.ex, .inl ⟨_, .own _, erM.own⟩, rfl, rfl⟩))) fun _ => tv_test (ev_op (rd_cb <| rd_cons <| rd_xk <| rd_var rfl ⟨ae, CM, _, _, rfl, erM.xf, nfM, hE, rfl, rd_nil (shows_200.repr ⟨rfl, rfl⟩)⟩) ev_str (req_str (decide_eq_true shown_200)))) (fun hb => Bool.noConfusion (show false = true from hb)) (fun _ => rd_next ⟨rfl, rfl⟩)
      · have hb : ¬ (200 : Int) < (es.length : Nat) := of_decide_eq_false hb
        rcases hv with ⟨hv, rfl⟩ | ⟨hv, ae, rfl, hE⟩
        · exact rd_ifv _ (tv_or (tv_test (ev_op (ev_var rfl) ev_non ⟨rfl, rfl⟩)) fun _ => tv_or (tv_test (ev_op (rd_cb <| rd_cons <| rd_c hW <| rd_cons <| rd_var rfl <| rd_nil ⟨_, rfl, .inl ⟨t, rfl, by omega, by rw [hread, if_neg (by omega)]; exact rd_nil ((shN es _ hesg hel).repr ⟨rfl, rfl⟩)⟩⟩) (rd_cb <| rd_cons <| rd_cb <| rd_cons <| rd_var rfl <| rd_nil ⟨_, rfl, _, .inl hpex, rd_nil ((shN es _ hesg hel).repr ⟨rfl, rfl⟩)⟩) (req_str (decide_eq_true rfl)))) fun _ => tv_test (ev_op (rd_c hW <| rd_cons <| rd_var rfl <| rd_nil ⟨_, "list", rfl, ⟨.lst hpex, by decide⟩, .inl ⟨by decide, _, _, .lst hpex, plN es _ hesg, by rw [List.length_map, List.length_map]; omega, fun _ => ⟨rfl, rfl⟩, fun j hj => by rw [fwN es hesg] at hj; cases hj⟩⟩) (rd_bms <| rd_str ⟨_, rfl, rd_cons <| rd_var rfl <| rd_nil ⟨_, _, es.map SS, rfl, rfl, .inl ⟨pe, rfl, .inl hpex⟩, smL es hesg hel, rfl, rfl⟩⟩) (req_str (decide_eq_true (by rw [strN]))))) (fun hb => Bool.noConfusion (show false = true from hb)) (fun _ => rd_next ⟨rfl, rfl⟩)
        · omega
    rintro S' G' ⟨rfl, rfl⟩
    -- an odd log
    refine rd_seq <| rd_set <| rd_c hW <| rd_cons <| rd_var rfl <| rd_cons <| rd_var rfl <| rd_nil ⟨p, pg, pc, _, pn, ys, rfl, hDx, by omega, hpnx, npg, hys, by omega, hyg, fun od G10 hod hD10 hF10 => ?_⟩
    have hPt10 := keep hPtx hF10 nPp nPg
    obtain ⟨nn, ty, hoo⟩ := hod
    refine rd_ifS <| rd_test <| rd_op <| rd_cb <| rd_cons <| rd_c hW <| rd_cons <| rd_lamT (T := [(Pt, lq)]) (fun p hp => by rw [List.mem_singleton.mp hp]; exact hPt10) fun G0 E0 B' sT hT0 hX => rd_c (WC.of hX) <| rd_cons <| rd_var rfl <| rd_nil ⟨_, nn, rfl, ty.subT sT, ?_⟩
    have hP0 := hT0 (Pt, lq) (List.mem_singleton.mpr rfl)
    rcases hoo with hns | ⟨hsq, xs, Sd, hw, hp, hs, hl⟩
    · refine .inr ⟨hns, G0, Sub.refl _, exL, fun a2 G11 s2 hE => rd_nil (.inr ⟨a2, .non, rfl, hE, fun pr G3 s3 hpr => ?_⟩)⟩
      have sT3 := sT.trans s2.subT
      have hP3 := s2 _ _ hP0
      refine rd_nil ((shows_non hpr).repr ?_)
      refine rd_cb <| rd_cons <| rd_c hW <| rd_cons <| rd_var rfl <| rd_nil ⟨_, nn, rfl, ty.subT (sT3.trans s3.subT), ?_⟩
      refine .inl ⟨hns, fun pr2 G4 s4 hpr2 => ?_⟩
      exact rd_nil ((shows_non hpr2).repr (rne_same ⟨false, rfl, iteF <| rd_next ⟨_, _, _, _, _, _, _, rfl, (((hD10.subT sT3).sub s3).sub s4).mono (by rw [Nat.add_mul]; omega), s4 _ _ (s3 _ _ hP3)⟩⟩))
    · obtain ⟨Sd', hw'⟩ := hw.subT sT
      rcases firstWrong_or xs with hf | ⟨j, hf⟩
      · refine .inl ⟨hsq, xs, Sd', hw', fun x hx => (hp x hx).subT sT, by omega, fun _ => rd_nil (.inl ⟨rfl, fun pr G3 s3 hpr => ?_⟩), fun j hj => by rw [hf] at hj; cases hj⟩
        have sT3 := sT
        have hP3 := hP0
        refine rd_nil ((shows_nil hpr).repr ?_)
        refine rd_cb <| rd_cons <| rd_c hW <| rd_cons <| rd_var rfl <| rd_nil ⟨_, nn, rfl, ty.subT (sT3.trans s3.subT), ?_⟩
        obtain ⟨Sd3, hw3⟩ := hw.subT (sT3.trans s3.subT)
        refine .inr ⟨hsq, xs, Sd3, hw3, fun x hx => (hp x hx).subT (sT3.trans s3.subT), hs, fun pr2 G4 s4 hpr2 => ?_⟩
        rw [hf] at hpr2
        exact rd_nil ((shows_nil hpr2).repr (rne_same ⟨false, rfl, iteF <| rd_next ⟨_, _, _, _, _, _, _, rfl, (((hD10.subT sT3).sub s3).sub s4).mono (by rw [Nat.add_mul]; omega), s4 _ _ (s3 _ _ hP3)⟩⟩))
      · have hj : j ≤ 1000 := by
          have := firstWrong_lt hf
          omega
        refine .inl ⟨hsq, xs, Sd', hw', fun x hx => (hp x hx).subT sT, by omega, fun h => (by rw [hf] at h; cases h), fun j' hj' => ?_⟩
        rw [hf] at hj'
        cases hj'
        refine ⟨G0, Sub.refl _, exL, fun a2 G11 s2 hE => rd_nil (.inr ⟨a2, _, rfl, hE, fun pr G3 s3 hpr => ?_⟩)⟩
        have sT3 := sT.trans s2.subT
        have hP3 := s2 _ _ hP0
        refine rd_nil ((shows_int hj hpr).repr ?_)
        refine rd_cb <| rd_cons <| rd_c hW <| rd_cons <| rd_var rfl <| rd_nil ⟨_, nn, rfl, ty.subT (sT3.trans s3.subT), ?_⟩
        obtain ⟨Sd3, hw3⟩ := hw.subT (sT3.trans s3.subT)
        refine .inr ⟨hsq, xs, Sd3, hw3, fun x hx => (hp x hx).subT (sT3.trans s3.subT), hs, fun pr2 G4 s4 hpr2 => ?_⟩
        rw [hf] at hpr2
        exact rd_nil ((shows_int hj hpr2).repr (rne_same ⟨false, rfl, iteF <| rd_next ⟨_, _, _, _, _, _, _, rfl, (((hD10.subT sT3).sub s3).sub s4).mono (by rw [Nat.add_mul]; omega), s4 _ _ (s3 _ _ hP3)⟩⟩))
  · rintro S' G' ⟨i, a, b, c', d, e, f', g', rfl, hD2, hPt2⟩
    refine rd_ret <| rd_ev (.bl true) (ev_and (a := true) (b := true) (ev_op (rd_c hW <| rd_cons <| rd_str <| rd_nil ⟨_, rfl, .inl ⟨[], rfl, by decide, by rw [read_nil]; exact ⟨rfl, rfl⟩⟩⟩) (rd_tup <| rd_nil ⟨by show 0 ≤ sizeLine; decide, rfl, rfl⟩) (req_tup (xs := []) (ys := []) rfl rfl rfl rfl ⟨rfl, rfl⟩)) fun _ => ev_op (rd_c hW <| rd_cons <| rd_tup <| rd_nil ⟨by show 0 ≤ sizeLine; decide, rd_nil ⟨_, "tuple", rfl, ⟨.tup _, by decide⟩, .inl ⟨by decide, [], _, .tup, by simp, by simp, fun _ => ⟨rfl, rfl⟩, fun j hj => by cases hj⟩⟩⟩) ev_str (req_str (decide_eq_true (by decide +kernel)))) ⟨_, Sub.refl _, q _⟩
end
end Dd
set_option Elab.async false
set_option linter.all false
set_option maxRecDepth 100000
set_option maxHeartbeats 4000000
/-! L16: the law's end, with one table and the guards told. -/
namespace Dd
open PySem PySem.Spec L2 LamX
open PyProof.Rows hiding St
/-- the written part holds no list -/
def noLists (K : PySem.W.Frag) : Bool := K.all fun p => match p.2.cls with
  | .type n => !(n == "list")
  | _ => true
theorem mem_look {α : Type} : ∀ {K : List (Addr × α)} {a : Addr} {o : α}, K.lookup a = some o → (a, o) ∈ K
  | [], a, o, h => by cases h
  | (b, u) :: r, a, o, h => by
    rw [List.lookup_cons] at h
    cases hab : (a == b) with
    | true =>
      rw [hab] at h
      have e1 : a = b := eq_of_beq hab
      have e2 : u = o := by simpa using h
      rw [e1, e2]
      exact List.mem_cons_self ..
    | false =>
      rw [hab] at h
      exact List.mem_cons_of_mem _ (mem_look (by simpa using h))
theorem noLists_of {K : PySem.W.Frag} {a : Addr} {o : Obj} (h : noLists K = true) (l : K.lookup a = some o) (e : o.cls = .type "list") : False := by
  have hm : (a, o) ∈ K := mem_look l
  have := List.all_eq_true.mp h _ hm
  simp only [e] at this
  exact absurd this (by decide)
theorem law_callG {P : Program} {w : World} {K : PySem.W.Frag} {mg mb : Str → Option Value} {k : Nat} {fa a c Pt : Addr} {fd : FuncData} {x : Str} {s₁ : Shared} {vs : List Value} {ns : List Int}
    (KX : K.In s₁.heap) (hns : s₁.heap.Ns mainGlobals mg) (hb : s₁.heap.Ns builtinsNs mb) (hbb : ∀ x : Str, x ≠ "__name__" → mb x = bootBuiltins x) (hlim : s₁.heap.NoLimit) (hg : s₁.gens = #[])
    (hT : s₁.heap.get? Pt = some { cls := .none, data := .fields #[] }) (nT : K.lookup Pt = none) (C : PySem.W.CodeHd s₁.heap c Pt)
    (hbm : ∃ (bm : Addr) (ob : Obj), mg "__builtins__" = some (.ref bm) ∧ bm ≠ builtinsNs ∧ s₁.heap.get? bm = some ob ∧ ob.cls = .type "module" ∧ ob.dict = some builtinsNs ∧ ob.data = .plain)
    (ha : s₁.heap.get? a = some { cls := .type "list", data := .seq vs.toArray }) (hi : IntsAre vs ns) (hl : ns.length ≤ 63) (hr : RoomG k callerA) (na : K.lookup a = none)
    (F : ∀ base : Heap, K.In base → base.Ns mainGlobals mg → TabB base mg c Pt → FnG P w K mg base k fa fd [x] (spOf K (spLaw Pt))) (hbind : ∀ (s : Shared) (u : Value), BindsTo s fd ⟨[u], []⟩ [(x, u)]) :
    codeAny (model P w) callerA (.call (.ref fa) ⟨[.ref a], []⟩) (fun r s' => r = .ok (.ret (.bool true)) ∧ OldK s₁.heap s'.heap ∧ s'.os = s₁.os ∧ AllBare s'.gens) s₁ := by
  have rv := vals_ints hi
  have aT : a ≠ Pt := fun z => by
    rw [z, hT] at ha
    have z' : Data.fields #[] = Data.seq vs.toArray _ := congrArg Obj.data (Option.some.inj ha)
    cases z'
  let H : Hp := fun b => if b = a then some (.frz { cls := .type "list", data := .seq vs.toArray } (.lst (ns.map V.int))) else if b = Pt then some (.tbl #[]) else none
  have Ha : H a = some (.frz { cls := .type "list", data := .seq vs.toArray } (.lst (ns.map V.int))) := if_pos rfl
  have HP : H Pt = some (.tbl #[]) := (if_neg (Ne.symm aT)).trans (if_pos rfl)
  have Hn : ∀ b, b ≠ a → b ≠ Pt → H b = none := fun b h1 h2 => (if_neg h1).trans (if_neg h2)
  have hok : HOk P w H s₁.heap := fun b u z => by
    by_cases h1 : b = a
    · subst h1
      rw [Ha] at z
      cases z
      exact ⟨ha, by rw [List.length_map, sizeLine_eq]; omega, vs, _, rv, ha⟩
    · by_cases h2 : b = Pt
      · subst h2
        rw [HP] at z
        cases z
        exact hT
      · rw [Hn b h1 h2] at z; cases z
  have base_of : ∀ {b : Addr} {o : Obj}, s₁.heap.get? b = some o → H b = none → (hidT s₁.heap H).get? b = some o := fun e n => hidT_get e n
  have noD : ∀ {b : Addr} {o : Obj}, s₁.heap.get? b = some o → (∀ vs n, o.data ≠ .seq vs n) → o.data ≠ .fields #[] → H b = none := fun {b o} e h1 h2 => by
    refine Hn b (fun z => ?_) (fun z => ?_)
    · rw [z, ha] at e; cases e; exact h1 _ _ rfl
    · rw [z, hT] at e; cases e; exact h2 rfl
  have nsK : ∀ {b : Addr} {m : Str → Option Value}, s₁.heap.Ns b m → (hidT s₁.heap H).Ns b m := fun {b m} ⟨o, es, ep, e, d, r⟩ => ⟨o, es, ep, base_of e (noD e (fun vs n z => by rw [d] at z; cases z) fun z => by rw [d] at z; cases z), d, r⟩
  have hKb : K.In (hidT s₁.heap H) := fun b o e => base_of (KX b o e) (Hn b (fun z => by rw [z, na] at e; cases e) fun z => by rw [z, nT] at e; cases e)
  have hM : L2.Mod K mg (hidT s₁.heap H) := ⟨hKb, nsK hns, ⟨mb, nsK hb, hbb⟩, let ⟨mc, h1, h2⟩ := hlim; ⟨mc, nsK h1, h2⟩⟩
  have gP : mainGlobals ≠ Pt := fun z => by
    obtain ⟨o, es, ep, e, hd, _⟩ := hns
    rw [z, hT] at e
    cases e
    cases hd
  have TB : TabB (hidT s₁.heap H) mg c Pt := by
    refine ⟨?_, ?_, gP⟩
    · obtain ⟨o, us, file, tf, flags, tg, inF, text, tt, e1, r1, r2, r3, r4, r5, r6, r7, r8, hne⟩ := C
      refine ⟨o, us, file, tf, flags, tg, inF, text, tt, base_of e1 (noD e1 (fun vs n z => ?_) fun z => ?_), r1, r2, r3, r4, r5, r6, r7, r8, hne⟩
      · rw [r2] at z; cases z
      · rw [r2] at z; cases z; simp at r3
    · obtain ⟨bm, ob, b1, b2, b3, b4, b5, b6⟩ := hbm
      have nG : bm ≠ mainGlobals := fun q => by
        obtain ⟨o, es, ep, e, hd, _⟩ := hns
        rw [q, e] at b3
        cases b3
        rw [hd] at b6
        cases b6
      have nP : bm ≠ Pt := fun q => by
        rw [q, hT] at b3
        cases b3
        cases b6
      exact ⟨bm, ob, b1, b2, nG, nP, base_of b3 (noD b3 (fun vs n z => by rw [b6] at z; cases z) fun z => by rw [b6] at z; cases z), b4, b5, b6⟩
  have e0 : Env0 P w K mg (hidT s₁.heap H) callerA [] s₁ H := ⟨rfl, hM, fun b o e => of_hidT e, Nat.le_of_eq (hidT_size _ _), trivial, fun b hb => absurd (show b ∈ ([] : List Addr) from hb) (by simp), hok, .of_eq hg⟩
  let G : HD := fun b => if b = a then some (.lck (.lst (ns.map D.int))) else if b = Pt then some (.tab lq) else none
  have hsp : spOf K (spLaw Pt) [.ref a] H (fun v _ => v = .bl true) (fun _ _ _ => False) := by
    refine ⟨[.ref a], G, fun d _ => d = .bl true, fun _ _ _ => False, dens_cons.mpr ⟨_, _, rfl, den_ref.mpr rfl, dens_nil.mpr rfl⟩, ?_, ⟨a, ns, rfl, if_pos rfl, hl, (if_neg (Ne.symm aT)).trans (if_pos rfl), fun _ => rfl⟩, ?_, fun _ _ _ _ _ _ _ _ z => z⟩
    · intro b o e
      by_cases h1 : b = a
      · subst h1
        have e' : G b = some (.lck (.lst (ns.map D.int))) := if_pos rfl
        rw [e'] at e
        cases e
        exact ⟨_, Ha, _, _, rfl, _, rfl, dens_ints ns⟩
      · by_cases h2 : b = Pt
        · subst h2
          have e' : G b = some (.tab lq) := (if_neg h1).trans (if_pos rfl)
          rw [e'] at e
          cases e
          exact ⟨_, HP, #[], rfl, by first | trivial | exact .nil | simp [TriplesOk], fun pos cv z => by cases z⟩
        · have e' : G b = none := (if_neg h1).trans (if_neg h2)
          rw [e'] at e; cases e
    · intro v H' d G' _ _ dv q
      have q : d = .bl true := q
      subst q
      exact den_bl.mp dv
  refine codeAny_mono ((F _ hKb (nsK hns) TB).run callerA [] s₁ H ⟨[.ref a], []⟩ [.ref a] [.ref a] _ _ hr e0 (hbind s₁ (.ref a)) (.cons rfl .nil) hsp) fun r s' h => ?_
  cases r with
  | error e =>
    obtain ⟨_, _, _, _, _, _, _, _, _, _, _, _, z⟩ := h
    exact z.elim
  | ok fl =>
    cases fl with
    | next => exact False.elim h
    | brk => exact False.elim h
    | cont => exact False.elim h
    | ret u =>
      obtain ⟨v, H', os, bare, un, hok', r', q⟩ := h
      have q' : v = .bl true := q
      subst q'
      obtain rfl : u = Value.bool true := r'
      have key : ∀ b o, b ≠ Pt → s₁.heap.get? b = some o → s'.heap.get? b = some o := fun b o nb e => by
        by_cases h1 : b = a
        · subst h1
          have z2 := un.frzs b _ _ Ha
          obtain ⟨e2, _⟩ := hok' b _ z2
          rw [ha] at e; cases e
          exact e2
        · exact un.keep b o e (Hn b h1 nb) (by intro z; exact absurd (show b ∈ ([] : List Addr) from z) (by simp)) (by simp)
      obtain ⟨more0, z⟩ := un.tbls Pt #[] HP
      have grown : ∃ m : Array Value, s'.heap.get? Pt = some { cls := .none, data := .fields m } := ⟨_, hok' Pt _ z⟩
      obtain ⟨more, grown⟩ := grown
      refine ⟨rfl, ⟨fun b o e => ?_, fun b o e => ?_⟩, os, bare⟩
      · by_cases hb : b = Pt
        · subst hb
          rw [hT] at e
          cases e
          exact .inr (.inl ⟨(C.tab hT).isCodeTable, rfl, #[], more, rfl, by rw [Array.empty_append]; exact grown⟩)
        · exact .inl (key b o hb e)
      · by_cases hb : b = Pt
        · subst hb
          exact ⟨_, grown⟩
        · exact ⟨o, key b o hb e⟩
end Dd
set_option Elab.async false
set_option linter.all false
set_option maxRecDepth 100000
set_option maxHeartbeats 4000000
/-! L17: what the top has written, and the law. -/
namespace Dd
open PySem PySem.Spec L2 LamX
open PyProof.Rows hiding St
/-- what the end needs -/
def LawEnd (l : PySem.W.OpenLaw) (w : World) (K : PySem.W.Frag) (mg : Str → Option Value) (fa Pt : Addr) (h : Heap) : Prop := ∃ (c : Addr) (fd : FuncData), PySem.W.CodeHd h c Pt ∧ K.lookup Pt = none ∧ noLists K = true ∧ (∀ (s : Shared) (v : Value), BindsTo s fd ⟨[v], []⟩ [("_law_script", v)]) ∧ ∀ base : Heap, K.In base → base.Ns mainGlobals mg → TabB base mg c Pt → FnG l.prog w K mg base 11 fa fd ["_law_script"] (spOf K (spLaw Pt))
theorem all_mk {l : PySem.W.OpenLaw} {w : World} {K : PySem.W.Frag} {h : Heap} {mg : Str → Option Value} {fa Pt : Addr} (X : K.In h) (G : h.Ns mainGlobals mg) (hfa : mg "law" = some (.ref fa))
    {fD0 : Addr} (aD0 : PySem.W.nsIn K mainGlobals "is_name" = some (some (.ref fD0)))
    {odD0 anD0 : Option Addr} {slD0 : Array (Option Value)} {ocD0 kVD0 dcD0 pmD0 cdD0 ctD0 : Value} (lD0 : K.lookup fD0 = some ⟨ocD0, odD0, .func (PySem.W.fnOf "is_name" "is_name" (defArgs s_is_name) (defBody s_is_name) (defScope s_is_name) .none kVD0 dcD0 pmD0 anD0 cdD0 ctD0), slD0⟩) (cD0 : PySem.W.codeIn K cdD0 "is_name" = true) (kD0 : PySem.W.keepIn K (.ref fD0) = true)
    {fD1 : Addr} (aD1 : PySem.W.nsIn K mainGlobals "first_wrong" = some (some (.ref fD1)))
    {odD1 anD1 : Option Addr} {slD1 : Array (Option Value)} {ocD1 kVD1 dcD1 pmD1 cdD1 ctD1 : Value} (lD1 : K.lookup fD1 = some ⟨ocD1, odD1, .func (PySem.W.fnOf "first_wrong" "first_wrong" (defArgs s_first_wrong) (defBody s_first_wrong) (defScope s_first_wrong) .none kVD1 dcD1 pmD1 anD1 cdD1 ctD1), slD1⟩) (cD1 : PySem.W.codeIn K cdD1 "first_wrong" = true) (kD1 : PySem.W.keepIn K (.ref fD1) = true)
    {fD2 : Addr} (aD2 : PySem.W.nsIn K mainGlobals "need_log" = some (some (.ref fD2)))
    {odD2 anD2 : Option Addr} {slD2 : Array (Option Value)} {ocD2 kVD2 dcD2 pmD2 cdD2 ctD2 : Value} (lD2 : K.lookup fD2 = some ⟨ocD2, odD2, .func (PySem.W.fnOf "need_log" "need_log" (defArgs s_need_log) (defBody s_need_log) (defScope s_need_log) .none kVD2 dcD2 pmD2 anD2 cdD2 ctD2), slD2⟩) (cD2 : PySem.W.codeIn K cdD2 "need_log" = true) (kD2 : PySem.W.keepIn K (.ref fD2) = true)
    {fD3 : Addr} (aD3 : PySem.W.nsIn K mainGlobals "log_text" = some (some (.ref fD3)))
    {odD3 anD3 : Option Addr} {slD3 : Array (Option Value)} {ocD3 kVD3 dcD3 pmD3 cdD3 ctD3 : Value} (lD3 : K.lookup fD3 = some ⟨ocD3, odD3, .func (PySem.W.fnOf "log_text" "log_text" (defArgs s_log_text) (defBody s_log_text) (defScope s_log_text) .none kVD3 dcD3 pmD3 anD3 cdD3 ctD3), slD3⟩) (cD3 : PySem.W.codeIn K cdD3 "log_text" = true) (kD3 : PySem.W.keepIn K (.ref fD3) = true)
    {fD4 : Addr} (aD4 : PySem.W.nsIn K mainGlobals "read_log" = some (some (.ref fD4)))
    {odD4 anD4 : Option Addr} {slD4 : Array (Option Value)} {ocD4 kVD4 dcD4 pmD4 cdD4 ctD4 : Value} (lD4 : K.lookup fD4 = some ⟨ocD4, odD4, .func (PySem.W.fnOf "read_log" "read_log" (defArgs s_read_log) (defBody s_read_log) (defScope s_read_log) .none kVD4 dcD4 pmD4 anD4 cdD4 ctD4), slD4⟩) (cD4 : PySem.W.codeIn K cdD4 "read_log" = true) (kD4 : PySem.W.keepIn K (.ref fD4) = true)
    {fD5 : Addr} (aD5 : PySem.W.nsIn K mainGlobals "_law_begun" = some (some (.ref fD5)))
    {odD5 anD5 : Option Addr} {slD5 : Array (Option Value)} {ocD5 kVD5 dcD5 pmD5 cdD5 ctD5 : Value} (lD5 : K.lookup fD5 = some ⟨ocD5, odD5, .func (PySem.W.fnOf "_law_begun" "_law_begun" (defArgs s_law_begun) (defBody s_law_begun) (defScope s_law_begun) .none kVD5 dcD5 pmD5 anD5 cdD5 ctD5), slD5⟩) (cD5 : PySem.W.codeIn K cdD5 "_law_begun" = true) (kD5 : PySem.W.keepIn K (.ref fD5) = true)
    {fD6 : Addr} (aD6 : PySem.W.nsIn K mainGlobals "_law_take" = some (some (.ref fD6)))
    {odD6 anD6 : Option Addr} {slD6 : Array (Option Value)} {ocD6 kVD6 dcD6 pmD6 cdD6 ctD6 : Value} (lD6 : K.lookup fD6 = some ⟨ocD6, odD6, .func (PySem.W.fnOf "_law_take" "_law_take" (defArgs s_law_take) (defBody s_law_take) (defScope s_law_take) .none kVD6 dcD6 pmD6 anD6 cdD6 ctD6), slD6⟩) (cD6 : PySem.W.codeIn K cdD6 "_law_take" = true) (kD6 : PySem.W.keepIn K (.ref fD6) = true)
    {fD7 : Addr} (aD7 : PySem.W.nsIn K mainGlobals "_law_pick" = some (some (.ref fD7)))
    {odD7 anD7 : Option Addr} {slD7 : Array (Option Value)} {ocD7 kVD7 dcD7 pmD7 cdD7 ctD7 : Value} (lD7 : K.lookup fD7 = some ⟨ocD7, odD7, .func (PySem.W.fnOf "_law_pick" "_law_pick" (defArgs s_law_pick) (defBody s_law_pick) (defScope s_law_pick) .none kVD7 dcD7 pmD7 anD7 cdD7 ctD7), slD7⟩) (cD7 : PySem.W.codeIn K cdD7 "_law_pick" = true) (kD7 : PySem.W.keepIn K (.ref fD7) = true)
    {fD8 : Addr} (aD8 : PySem.W.nsIn K mainGlobals "_law_names" = some (some (.ref fD8)))
    {odD8 anD8 : Option Addr} {slD8 : Array (Option Value)} {ocD8 kVD8 dcD8 pmD8 cdD8 ctD8 : Value} (lD8 : K.lookup fD8 = some ⟨ocD8, odD8, .func (PySem.W.fnOf "_law_names" "_law_names" (defArgs s_law_names) (defBody s_law_names) (defScope s_law_names) .none kVD8 dcD8 pmD8 anD8 cdD8 ctD8), slD8⟩) (cD8 : PySem.W.codeIn K cdD8 "_law_names" = true) (kD8 : PySem.W.keepIn K (.ref fD8) = true)
    {fD9 : Addr} (aD9 : PySem.W.nsIn K mainGlobals "_law_log" = some (some (.ref fD9)))
    {odD9 anD9 : Option Addr} {slD9 : Array (Option Value)} {ocD9 kVD9 dcD9 pmD9 cdD9 ctD9 : Value} (lD9 : K.lookup fD9 = some ⟨ocD9, odD9, .func (PySem.W.fnOf "_law_log" "_law_log" (defArgs s_law_log) (defBody s_law_log) (defScope s_law_log) .none kVD9 dcD9 pmD9 anD9 cdD9 ctD9), slD9⟩) (cD9 : PySem.W.codeIn K cdD9 "_law_log" = true) (kD9 : PySem.W.keepIn K (.ref fD9) = true)
    {fD10 : Addr} (aD10 : PySem.W.nsIn K mainGlobals "_law_caught" = some (some (.ref fD10)))
    {odD10 anD10 : Option Addr} {slD10 : Array (Option Value)} {ocD10 kVD10 dcD10 pmD10 cdD10 ctD10 : Value} (lD10 : K.lookup fD10 = some ⟨ocD10, odD10, .func (PySem.W.fnOf "_law_caught" "_law_caught" (defArgs s_law_caught) (defBody s_law_caught) (defScope s_law_caught) .none kVD10 dcD10 pmD10 anD10 cdD10 ctD10), slD10⟩) (cD10 : PySem.W.codeIn K cdD10 "_law_caught" = true) (kD10 : PySem.W.keepIn K (.ref fD10) = true)
    {fD11 : Addr} (aD11 : PySem.W.nsIn K mainGlobals "_law_first_odd" = some (some (.ref fD11)))
    {odD11 anD11 : Option Addr} {slD11 : Array (Option Value)} {ocD11 kVD11 dcD11 pmD11 cdD11 ctD11 : Value} (lD11 : K.lookup fD11 = some ⟨ocD11, odD11, .func (PySem.W.fnOf "_law_first_odd" "_law_first_odd" (defArgs s_law_first_odd) (defBody s_law_first_odd) (defScope s_law_first_odd) .none kVD11 dcD11 pmD11 anD11 cdD11 ctD11), slD11⟩) (cD11 : PySem.W.codeIn K cdD11 "_law_first_odd" = true) (kD11 : PySem.W.keepIn K (.ref fD11) = true)
    {fD12 : Addr} (aD12 : PySem.W.nsIn K mainGlobals "_law_odd_item" = some (some (.ref fD12)))
    {odD12 anD12 : Option Addr} {slD12 : Array (Option Value)} {ocD12 kVD12 dcD12 pmD12 cdD12 ctD12 : Value} (lD12 : K.lookup fD12 = some ⟨ocD12, odD12, .func (PySem.W.fnOf "_law_odd_item" "_law_odd_item" (defArgs s_law_odd_item) (defBody s_law_odd_item) (defScope s_law_odd_item) .none kVD12 dcD12 pmD12 anD12 cdD12 ctD12), slD12⟩) (cD12 : PySem.W.codeIn K cdD12 "_law_odd_item" = true) (kD12 : PySem.W.keepIn K (.ref fD12) = true)
    {fD13 : Addr} (aD13 : PySem.W.nsIn K mainGlobals "_law_odd_log" = some (some (.ref fD13)))
    {odD13 anD13 : Option Addr} {slD13 : Array (Option Value)} {ocD13 kVD13 dcD13 pmD13 cdD13 ctD13 : Value} (lD13 : K.lookup fD13 = some ⟨ocD13, odD13, .func (PySem.W.fnOf "_law_odd_log" "_law_odd_log" (defArgs s_law_odd_log) (defBody s_law_odd_log) (defScope s_law_odd_log) .none kVD13 dcD13 pmD13 anD13 cdD13 ctD13), slD13⟩) (cD13 : PySem.W.codeIn K cdD13 "_law_odd_log" = true) (kD13 : PySem.W.keepIn K (.ref fD13) = true)
    {fD14 : Addr} (aD14 : PySem.W.nsIn K mainGlobals "_law_log_due" = some (some (.ref fD14)))
    {odD14 anD14 : Option Addr} {slD14 : Array (Option Value)} {ocD14 kVD14 dcD14 pmD14 cdD14 ctD14 : Value} (lD14 : K.lookup fD14 = some ⟨ocD14, odD14, .func (PySem.W.fnOf "_law_log_due" "_law_log_due" (defArgs s_law_log_due) (defBody s_law_log_due) (defScope s_law_log_due) .none kVD14 dcD14 pmD14 anD14 cdD14 ctD14), slD14⟩) (cD14 : PySem.W.codeIn K cdD14 "_law_log_due" = true) (kD14 : PySem.W.keepIn K (.ref fD14) = true)
    {fD15 : Addr} (aD15 : PySem.W.nsIn K mainGlobals "_law_told_error" = some (some (.ref fD15)))
    {odD15 anD15 : Option Addr} {slD15 : Array (Option Value)} {ocD15 kVD15 dcD15 pmD15 cdD15 ctD15 : Value} (lD15 : K.lookup fD15 = some ⟨ocD15, odD15, .func (PySem.W.fnOf "_law_told_error" "_law_told_error" (defArgs s_law_told_error) (defBody s_law_told_error) (defScope s_law_told_error) .none kVD15 dcD15 pmD15 anD15 cdD15 ctD15), slD15⟩) (cD15 : PySem.W.codeIn K cdD15 "_law_told_error" = true) (kD15 : PySem.W.keepIn K (.ref fD15) = true)
    {fD16 : Addr} (aD16 : PySem.W.nsIn K mainGlobals "_law_items" = some (some (.ref fD16)))
    {odD16 anD16 : Option Addr} {slD16 : Array (Option Value)} {ocD16 kVD16 dcD16 pmD16 cdD16 ctD16 : Value} (lD16 : K.lookup fD16 = some ⟨ocD16, odD16, .func (PySem.W.fnOf "_law_items" "_law_items" (defArgs s_law_items) (defBody s_law_items) (defScope s_law_items) .none kVD16 dcD16 pmD16 anD16 cdD16 ctD16), slD16⟩) (cD16 : PySem.W.codeIn K cdD16 "_law_items" = true) (kD16 : PySem.W.keepIn K (.ref fD16) = true)
    {CR : Addr} (aR : PySem.W.nsIn K mainGlobals "Reader" = some (some (.ref CR)))
    {fM0 : Addr} (aM0 : PySem.W.findIn K (.ref CR) "__init__" = some (some (.ref fM0))) (iM0 : PySem.W.isFn K (.ref fM0) = true)
    {odM0 anM0 : Option Addr} {slM0 : Array (Option Value)} {ocM0 kVM0 dcM0 pmM0 cdM0 ctM0 : Value} (lM0 : K.lookup fM0 = some ⟨ocM0, odM0, .func (PySem.W.fnOf "__init__" "Reader.__init__" (defArgs s_Reader_init) (defBody s_Reader_init) (defScope s_Reader_init) .none kVM0 dcM0 pmM0 anM0 cdM0 ctM0), slM0⟩) (cM0 : PySem.W.codeIn K cdM0 "Reader.__init__" = true) (kM0 : PySem.W.keepIn K (.ref fM0) = true)
    {fM1 : Addr} (aM1 : PySem.W.findIn K (.ref CR) "put" = some (some (.ref fM1))) (iM1 : PySem.W.isFn K (.ref fM1) = true)
    {odM1 anM1 : Option Addr} {slM1 : Array (Option Value)} {ocM1 kVM1 dcM1 pmM1 cdM1 ctM1 : Value} (lM1 : K.lookup fM1 = some ⟨ocM1, odM1, .func (PySem.W.fnOf "put" "Reader.put" (defArgs s_Reader_put) (defBody s_Reader_put) (defScope s_Reader_put) .none kVM1 dcM1 pmM1 anM1 cdM1 ctM1), slM1⟩) (cM1 : PySem.W.codeIn K cdM1 "Reader.put" = true) (kM1 : PySem.W.keepIn K (.ref fM1) = true)
    {fM2 : Addr} (aM2 : PySem.W.findIn K (.ref CR) "end_item" = some (some (.ref fM2))) (iM2 : PySem.W.isFn K (.ref fM2) = true)
    {odM2 anM2 : Option Addr} {slM2 : Array (Option Value)} {ocM2 kVM2 dcM2 pmM2 cdM2 ctM2 : Value} (lM2 : K.lookup fM2 = some ⟨ocM2, odM2, .func (PySem.W.fnOf "end_item" "Reader.end_item" (defArgs s_Reader_end_item) (defBody s_Reader_end_item) (defScope s_Reader_end_item) .none kVM2 dcM2 pmM2 anM2 cdM2 ctM2), slM2⟩) (cM2 : PySem.W.codeIn K cdM2 "Reader.end_item" = true) (kM2 : PySem.W.keepIn K (.ref fM2) = true)
    {fM3 : Addr} (aM3 : PySem.W.findIn K (.ref CR) "take_begin" = some (some (.ref fM3))) (iM3 : PySem.W.isFn K (.ref fM3) = true)
    {odM3 anM3 : Option Addr} {slM3 : Array (Option Value)} {ocM3 kVM3 dcM3 pmM3 cdM3 ctM3 : Value} (lM3 : K.lookup fM3 = some ⟨ocM3, odM3, .func (PySem.W.fnOf "take_begin" "Reader.take_begin" (defArgs s_Reader_take_begin) (defBody s_Reader_take_begin) (defScope s_Reader_take_begin) .none kVM3 dcM3 pmM3 anM3 cdM3 ctM3), slM3⟩) (cM3 : PySem.W.codeIn K cdM3 "Reader.take_begin" = true) (kM3 : PySem.W.keepIn K (.ref fM3) = true)
    {fM4 : Addr} (aM4 : PySem.W.findIn K (.ref CR) "take_number" = some (some (.ref fM4))) (iM4 : PySem.W.isFn K (.ref fM4) = true)
    {odM4 anM4 : Option Addr} {slM4 : Array (Option Value)} {ocM4 kVM4 dcM4 pmM4 cdM4 ctM4 : Value} (lM4 : K.lookup fM4 = some ⟨ocM4, odM4, .func (PySem.W.fnOf "take_number" "Reader.take_number" (defArgs s_Reader_take_number) (defBody s_Reader_take_number) (defScope s_Reader_take_number) .none kVM4 dcM4 pmM4 anM4 cdM4 ctM4), slM4⟩) (cM4 : PySem.W.codeIn K cdM4 "Reader.take_number" = true) (kM4 : PySem.W.keepIn K (.ref fM4) = true)
    {fM5 : Addr} (aM5 : PySem.W.findIn K (.ref CR) "take_star" = some (some (.ref fM5))) (iM5 : PySem.W.isFn K (.ref fM5) = true)
    {odM5 anM5 : Option Addr} {slM5 : Array (Option Value)} {ocM5 kVM5 dcM5 pmM5 cdM5 ctM5 : Value} (lM5 : K.lookup fM5 = some ⟨ocM5, odM5, .func (PySem.W.fnOf "take_star" "Reader.take_star" (defArgs s_Reader_take_star) (defBody s_Reader_take_star) (defScope s_Reader_take_star) .none kVM5 dcM5 pmM5 anM5 cdM5 ctM5), slM5⟩) (cM5 : PySem.W.codeIn K cdM5 "Reader.take_star" = true) (kM5 : PySem.W.keepIn K (.ref fM5) = true)
    {fM6 : Addr} (aM6 : PySem.W.findIn K (.ref CR) "take_end" = some (some (.ref fM6))) (iM6 : PySem.W.isFn K (.ref fM6) = true)
    {odM6 anM6 : Option Addr} {slM6 : Array (Option Value)} {ocM6 kVM6 dcM6 pmM6 cdM6 ctM6 : Value} (lM6 : K.lookup fM6 = some ⟨ocM6, odM6, .func (PySem.W.fnOf "take_end" "Reader.take_end" (defArgs s_Reader_take_end) (defBody s_Reader_take_end) (defScope s_Reader_take_end) .none kVM6 dcM6 pmM6 anM6 cdM6 ctM6), slM6⟩) (cM6 : PySem.W.codeIn K cdM6 "Reader.take_end" = true) (kM6 : PySem.W.keepIn K (.ref fM6) = true)
    {fM7 : Addr} (aM7 : PySem.W.findIn K (.ref CR) "take" = some (some (.ref fM7))) (iM7 : PySem.W.isFn K (.ref fM7) = true)
    {odM7 anM7 : Option Addr} {slM7 : Array (Option Value)} {ocM7 kVM7 dcM7 pmM7 cdM7 ctM7 : Value} (lM7 : K.lookup fM7 = some ⟨ocM7, odM7, .func (PySem.W.fnOf "take" "Reader.take" (defArgs s_Reader_take) (defBody s_Reader_take) (defScope s_Reader_take) .none kVM7 dcM7 pmM7 anM7 cdM7 ctM7), slM7⟩) (cM7 : PySem.W.codeIn K cdM7 "Reader.take" = true) (kM7 : PySem.W.keepIn K (.ref fM7) = true)
    {fM8 : Addr} (aM8 : PySem.W.findIn K (.ref CR) "can_end" = some (some (.ref fM8))) (iM8 : PySem.W.isFn K (.ref fM8) = true)
    {odM8 anM8 : Option Addr} {slM8 : Array (Option Value)} {ocM8 kVM8 dcM8 pmM8 cdM8 ctM8 : Value} (lM8 : K.lookup fM8 = some ⟨ocM8, odM8, .func (PySem.W.fnOf "can_end" "Reader.can_end" (defArgs s_Reader_can_end) (defBody s_Reader_can_end) (defScope s_Reader_can_end) .none kVM8 dcM8 pmM8 anM8 cdM8 ctM8), slM8⟩) (cM8 : PySem.W.codeIn K cdM8 "Reader.can_end" = true) (kM8 : PySem.W.keepIn K (.ref fM8) = true)
    (pgR : PySem.W.plainGet K CR Str.empty = true) (hdR : PySem.W.hasDictIn K CR = true) (poR : PySem.W.plainOver K CR = true) (saR : PySem.W.findIn K (.ref CR) "__setattr__" = some (some (.builtin "object.__setattr__"))) (mkR : PySem.W.makesIn K CR = true) (kcR : PySem.W.keepIn K (.ref CR) = true)
    (n0R : PySem.W.findIn K (.ref CR) "form" = some none)
    (n1R : PySem.W.findIn K (.ref CR) "word" = some none)
    (n2R : PySem.W.findIn K (.ref CR) "open_times" = some none)
    (n3R : PySem.W.findIn K (.ref CR) "lists" = some none)
    {CG : Addr} (aG : PySem.W.nsIn K mainGlobals "GlanceError" = some (some (.ref CG))) (rdG : PySem.W.readsIn K CG (.type "type") = true) (gaG : PySem.W.specialIn K (.ref CG) "__getattribute__" = some (some (.builtin "type.__getattribute__"))) (vG : PySem.W.findCls K (.ref CG) (.type "type") "__init__" = some (.val (.builtin "ValueError.__init__")))
    {CL fEBadLog : Addr} (zEBadLog : PySem.W.nsIn K mainGlobals "BadLog" = some (some (.ref CL)))
    {nmEBadLog qEBadLog NEBadLog bsEBadLog bmEBadLog snEBadLog subEBadLog abEBadLog colEBadLog ddEBadLog k0EBadLog k1EBadLog k2EBadLog k3EBadLog k5EBadLog} (oEBadLog : K.lookup CL = some (excClassObj nmEBadLog qEBadLog CL NEBadLog bsEBadLog bmEBadLog true snEBadLog subEBadLog abEBadLog colEBadLog ddEBadLog k0EBadLog k1EBadLog k2EBadLog k3EBadLog k5EBadLog "ValueError.__new__")) (rvEBadLog : PySem.HandSPX.refsVE bmEBadLog = true)
    (saEBadLog : PySem.W.findIn K (.ref CL) "__setattr__" = some (some (.builtin "object.__setattr__"))) (exEBadLog : PySem.W.subIn K (.ref CL) (.type "BaseException") = some true) (tyEBadLog : PySem.W.typeIn K (.ref CL) = some (.type "type")) (kCEBadLog : PySem.W.keepIn K (.ref CL) = true)
    (aEBadLog : PySem.W.findIn K (.ref CL) "__init__" = some (some (.ref fEBadLog))) (tEBadLog : PySem.W.typeIn K (.ref fEBadLog) = some (.type "function")) (nfEBadLog : PySem.W.findIn K (.ref CL) "at" = some none)
    {odEBadLog anEBadLog : Option Addr} {slEBadLog : Array (Option Value)} {ocEBadLog kVEBadLog dcEBadLog pmEBadLog cdEBadLog ctEBadLog : Value} (lEBadLog : K.lookup fEBadLog = some ⟨ocEBadLog, odEBadLog, .func (PySem.W.fnOf "__init__" "BadLog.__init__" (defArgs s_BadLog_init) (defBody s_BadLog_init) (defScope s_BadLog_init) .none kVEBadLog dcEBadLog pmEBadLog anEBadLog cdEBadLog ctEBadLog), slEBadLog⟩) (cEBadLog : PySem.W.codeIn K cdEBadLog "BadLog.__init__" = true) (kEBadLog : PySem.W.keepIn K (.ref fEBadLog) = true)
    (gaEBadLog : PySem.W.findIn K (.ref CL) "__getattribute__" = some (some (.builtin "BaseException.__getattribute__"))) (ggEBadLog : PySem.W.findIn K (.ref CL) "__getattr__" = some none) (hdEBadLog : PySem.W.hasDictIn K CL = true) (hcEBadLog : PySem.W.findIn K (.ref CL) "__class__" = some (some (.builtin "object.__class__"))) (hmEBadLog : PySem.W.mroIn K CL (.type "object") = some true) (kvEBadLog : PySem.W.kitOne K (.ref CL) (.type "ValueError") = some true) (koEBadLog : PySem.W.kitOne K (.ref CL) (.ref CL) = some true) (xmEBadLog : PySem.W.exmOne K (.ref CL) (.ref CG) = some true)
    {CB fEBadText : Addr} (zEBadText : PySem.W.nsIn K mainGlobals "BadText" = some (some (.ref CB)))
    {nmEBadText qEBadText NEBadText bsEBadText bmEBadText snEBadText subEBadText abEBadText colEBadText ddEBadText k0EBadText k1EBadText k2EBadText k3EBadText k5EBadText} (oEBadText : K.lookup CB = some (excClassObj nmEBadText qEBadText CB NEBadText bsEBadText bmEBadText true snEBadText subEBadText abEBadText colEBadText ddEBadText k0EBadText k1EBadText k2EBadText k3EBadText k5EBadText "ValueError.__new__")) (rvEBadText : PySem.HandSPX.refsVE bmEBadText = true)
    (saEBadText : PySem.W.findIn K (.ref CB) "__setattr__" = some (some (.builtin "object.__setattr__"))) (exEBadText : PySem.W.subIn K (.ref CB) (.type "BaseException") = some true) (tyEBadText : PySem.W.typeIn K (.ref CB) = some (.type "type")) (kCEBadText : PySem.W.keepIn K (.ref CB) = true)
    (aEBadText : PySem.W.findIn K (.ref CB) "__init__" = some (some (.ref fEBadText))) (tEBadText : PySem.W.typeIn K (.ref fEBadText) = some (.type "function")) (nfEBadText : PySem.W.findIn K (.ref CB) "at" = some none)
    {odEBadText anEBadText : Option Addr} {slEBadText : Array (Option Value)} {ocEBadText kVEBadText dcEBadText pmEBadText cdEBadText ctEBadText : Value} (lEBadText : K.lookup fEBadText = some ⟨ocEBadText, odEBadText, .func (PySem.W.fnOf "__init__" "BadText.__init__" (defArgs s_BadText_init) (defBody s_BadText_init) (defScope s_BadText_init) .none kVEBadText dcEBadText pmEBadText anEBadText cdEBadText ctEBadText), slEBadText⟩) (cEBadText : PySem.W.codeIn K cdEBadText "BadText.__init__" = true) (kEBadText : PySem.W.keepIn K (.ref fEBadText) = true)
    (gaEBadText : PySem.W.findIn K (.ref CB) "__getattribute__" = some (some (.builtin "BaseException.__getattribute__"))) (ggEBadText : PySem.W.findIn K (.ref CB) "__getattr__" = some none) (hdEBadText : PySem.W.hasDictIn K CB = true) (hcEBadText : PySem.W.findIn K (.ref CB) "__class__" = some (some (.builtin "object.__class__"))) (hmEBadText : PySem.W.mroIn K CB (.type "object") = some true) (kvEBadText : PySem.W.kitOne K (.ref CB) (.type "ValueError") = some true) (koEBadText : PySem.W.kitOne K (.ref CB) (.ref CB) = some true) (xmEBadText : PySem.W.exmOne K (.ref CB) (.ref CG) = some true)
    {CM fETooMany : Addr} (zETooMany : PySem.W.nsIn K mainGlobals "TooMany" = some (some (.ref CM)))
    {nmETooMany qETooMany NETooMany bsETooMany bmETooMany snETooMany subETooMany abETooMany colETooMany ddETooMany k0ETooMany k1ETooMany k2ETooMany k3ETooMany k5ETooMany} (oETooMany : K.lookup CM = some (excClassObj nmETooMany qETooMany CM NETooMany bsETooMany bmETooMany true snETooMany subETooMany abETooMany colETooMany ddETooMany k0ETooMany k1ETooMany k2ETooMany k3ETooMany k5ETooMany "ValueError.__new__")) (rvETooMany : PySem.HandSPX.refsVE bmETooMany = true)
    (saETooMany : PySem.W.findIn K (.ref CM) "__setattr__" = some (some (.builtin "object.__setattr__"))) (exETooMany : PySem.W.subIn K (.ref CM) (.type "BaseException") = some true) (tyETooMany : PySem.W.typeIn K (.ref CM) = some (.type "type")) (kCETooMany : PySem.W.keepIn K (.ref CM) = true)
    (aETooMany : PySem.W.findIn K (.ref CM) "__init__" = some (some (.ref fETooMany))) (tETooMany : PySem.W.typeIn K (.ref fETooMany) = some (.type "function")) (nfETooMany : PySem.W.findIn K (.ref CM) "limit" = some none)
    {odETooMany anETooMany : Option Addr} {slETooMany : Array (Option Value)} {ocETooMany kVETooMany dcETooMany pmETooMany cdETooMany ctETooMany : Value} (lETooMany : K.lookup fETooMany = some ⟨ocETooMany, odETooMany, .func (PySem.W.fnOf "__init__" "TooMany.__init__" (defArgs s_TooMany_init) (defBody s_TooMany_init) (defScope s_TooMany_init) .none kVETooMany dcETooMany pmETooMany anETooMany cdETooMany ctETooMany), slETooMany⟩) (cETooMany : PySem.W.codeIn K cdETooMany "TooMany.__init__" = true) (kETooMany : PySem.W.keepIn K (.ref fETooMany) = true)
    (gaETooMany : PySem.W.findIn K (.ref CM) "__getattribute__" = some (some (.builtin "BaseException.__getattribute__"))) (ggETooMany : PySem.W.findIn K (.ref CM) "__getattr__" = some none) (hdETooMany : PySem.W.hasDictIn K CM = true) (hcETooMany : PySem.W.findIn K (.ref CM) "__class__" = some (some (.builtin "object.__class__"))) (hmETooMany : PySem.W.mroIn K CM (.type "object") = some true) (kvETooMany : PySem.W.kitOne K (.ref CM) (.type "ValueError") = some true) (koETooMany : PySem.W.kitOne K (.ref CM) (.ref CM) = some true) (xmETooMany : PySem.W.exmOne K (.ref CM) (.ref CG) = some true)
    (oc1 : PySem.W.specialIn K (.builtin "object.__class__") "__get__" = some (some (.builtin "getset_descriptor.__get__"))) (oc2 : PySem.W.takesIn K (.builtin "object.__class__") = some true)
    {CBadK : Addr} (zBadK : PySem.W.nsIn K mainGlobals "BadK" = some (some (.ref CBadK)))
    {CBadNames : Addr} (zBadNames : PySem.W.nsIn K mainGlobals "BadNames" = some (some (.ref CBadNames)))
    {CBadNumber : Addr} (zBadNumber : PySem.W.nsIn K mainGlobals "BadNumber" = some (some (.ref CBadNumber)))
    {uDEEPEST : Value} (gDEEPEST : PySem.W.nsIn K mainGlobals "DEEPEST" = some (some uDEEPEST)) (rDEEPEST : RelV (.int 6) uDEEPEST)
    {uFIGURES : Value} (gFIGURES : PySem.W.nsIn K mainGlobals "FIGURES" = some (some uFIGURES)) (rFIGURES : RelV (.str "0123456789") uFIGURES)
    {uLETTERS : Value} (gLETTERS : PySem.W.nsIn K mainGlobals "LETTERS" = some (some uLETTERS)) (rLETTERS : RelV (.str "abcdefghijklmnopqrstuvwxyz") uLETTERS)
    {uLONGEST_NAME : Value} (gLONGEST_NAME : PySem.W.nsIn K mainGlobals "LONGEST_NAME" = some (some uLONGEST_NAME)) (rLONGEST_NAME : RelV (.int 6) uLONGEST_NAME)
    {uMOST_EVENTS : Value} (gMOST_EVENTS : PySem.W.nsIn K mainGlobals "MOST_EVENTS" = some (some uMOST_EVENTS)) (rMOST_EVENTS : RelV (.int 200) uMOST_EVENTS)
    {uMOST_TIMES : Value} (gMOST_TIMES : PySem.W.nsIn K mainGlobals "MOST_TIMES" = some (some uMOST_TIMES)) (rMOST_TIMES : RelV (.int 200) uMOST_TIMES)
    (yValueError : PySem.W.nsIn K mainGlobals "ValueError" = some none)
    (yabs : PySem.W.nsIn K mainGlobals "abs" = some none)
    (yall : PySem.W.nsIn K mainGlobals "all" = some none)
    (yenumerate : PySem.W.nsIn K mainGlobals "enumerate" = some none)
    (yint : PySem.W.nsIn K mainGlobals "int" = some none)
    (yisinstance : PySem.W.nsIn K mainGlobals "isinstance" = some none)
    (ylen : PySem.W.nsIn K mainGlobals "len" = some none)
    (ylist : PySem.W.nsIn K mainGlobals "list" = some none)
    (ymin : PySem.W.nsIn K mainGlobals "min" = some none)
    (yrange : PySem.W.nsIn K mainGlobals "range" = some none)
    (yrepr : PySem.W.nsIn K mainGlobals "repr" = some none)
    (ystr : PySem.W.nsIn K mainGlobals "str" = some none)
    (ytuple : PySem.W.nsIn K mainGlobals "tuple" = some none)
    {fL cL : Addr} (aL : PySem.W.nsIn K mainGlobals "law" = some (some (.ref fL))) {odL anL : Option Addr} {slL : Array (Option Value)} {ocL kVL dcL pmL ctL : Value} (lL : K.lookup fL = some ⟨ocL, odL, .func (PySem.W.fnOf "law" "law" (defArgs s_law) (defBody s_law) (defScope s_law) .none kVL dcL pmL anL (.ref cL) ctL), slL⟩) (cLL : PySem.W.codeIn K (.ref cL) "law" = true) (hdL : PySem.W.codeHdIn K cL Pt = true)
    (nT : K.lookup Pt = none) (nl : noLists K = true)
    : LawEnd l w K mg fa Pt h := by
  have e := hfa.symm.trans (PySem.W.mg_of X G aL)
  cases e
  have gG := PySem.W.mg_of X G aG
  have T : TX mg := ⟨⟨_, PySem.W.mg_of X G gDEEPEST, rDEEPEST⟩, ⟨_, PySem.W.mg_of X G gFIGURES, rFIGURES⟩, ⟨_, PySem.W.mg_of X G gLETTERS, rLETTERS⟩, ⟨_, PySem.W.mg_of X G gLONGEST_NAME, rLONGEST_NAME⟩, ⟨_, PySem.W.mg_of X G gMOST_EVENTS, rMOST_EVENTS⟩, ⟨_, PySem.W.mg_of X G gMOST_TIMES, rMOST_TIMES⟩, PySem.W.mg_none_of X G yValueError, PySem.W.mg_none_of X G yabs, PySem.W.mg_none_of X G yall, PySem.W.mg_none_of X G yenumerate, PySem.W.mg_none_of X G yint, PySem.W.mg_none_of X G yisinstance, PySem.W.mg_none_of X G ylen, PySem.W.mg_none_of X G ylist, PySem.W.mg_none_of X G ymin, PySem.W.mg_none_of X G yrange, PySem.W.mg_none_of X G yrepr, PySem.W.mg_none_of X G ystr, PySem.W.mg_none_of X G ytuple⟩
  have cR : RC K CR := ⟨⟨pgR, hdR, poR, saR⟩, n0R, n1R, n2R, n3R⟩
  have FD0 := fun_mk (st := s_is_name) lD0 cD0 kD0
  have bD0 := FD0.binds (ps := ["value"]) fun _ _ _ _ _ _ us hl => match us, hl with | [_], _ => rfl
  have gD0 := PySem.W.mg_of X G aD0
  have FD1 := fun_mk (st := s_first_wrong) lD1 cD1 kD1
  have bD1 := FD1.binds (ps := ["items"]) fun _ _ _ _ _ _ us hl => match us, hl with | [_], _ => rfl
  have gD1 := PySem.W.mg_of X G aD1
  have FD2 := fun_mk (st := s_need_log) lD2 cD2 kD2
  have bD2 := FD2.binds (ps := ["log"]) fun _ _ _ _ _ _ us hl => match us, hl with | [_], _ => rfl
  have gD2 := PySem.W.mg_of X G aD2
  have FD3 := fun_mk (st := s_log_text) lD3 cD3 kD3
  have bD3 := FD3.binds (ps := ["log"]) fun _ _ _ _ _ _ us hl => match us, hl with | [_], _ => rfl
  have gD3 := PySem.W.mg_of X G aD3
  have FD4 := fun_mk (st := s_read_log) lD4 cD4 kD4
  have bD4 := FD4.binds (ps := ["text"]) fun _ _ _ _ _ _ us hl => match us, hl with | [_], _ => rfl
  have gD4 := PySem.W.mg_of X G aD4
  have FD5 := fun_mk (st := s_law_begun) lD5 cD5 kD5
  have bD5 := FD5.binds (ps := ["_law_script"]) fun _ _ _ _ _ _ us hl => match us, hl with | [_], _ => rfl
  have gD5 := PySem.W.mg_of X G aD5
  have FD6 := fun_mk (st := s_law_take) lD6 cD6 kD6
  have bD6 := FD6.binds (ps := ["_law_draw", "_law_many"]) fun _ _ _ _ _ _ us hl => match us, hl with | [_, _], _ => rfl
  have gD6 := PySem.W.mg_of X G aD6
  have FD7 := fun_mk (st := s_law_pick) lD7 cD7 kD7
  have bD7 := FD7.binds (ps := ["_law_draw", "_law_some"]) fun _ _ _ _ _ _ us hl => match us, hl with | [_, _], _ => rfl
  have gD7 := PySem.W.mg_of X G aD7
  have FD8 := fun_mk (st := s_law_names) lD8 cD8 kD8
  have bD8 := FD8.binds (ps := ["_law_draw", "_law_many"]) fun _ _ _ _ _ _ us hl => match us, hl with | [_, _], _ => rfl
  have gD8 := PySem.W.mg_of X G aD8
  have FD9 := fun_mk (st := s_law_log) lD9 cD9 kD9
  have bD9 := FD9.binds (ps := ["_law_draw", "_law_names_here", "_law_most"]) fun _ _ _ _ _ _ us hl => match us, hl with | [_, _, _], _ => rfl
  have gD9 := PySem.W.mg_of X G aD9
  have FD10 := fun_mk (st := s_law_caught) lD10 cD10 kD10
  have bD10 := FD10.binds (ps := ["_law_act"]) fun _ _ _ _ _ _ us hl => match us, hl with | [_], _ => rfl
  have gD10 := PySem.W.mg_of X G aD10
  have FD11 := fun_mk (st := s_law_first_odd) lD11 cD11 kD11
  have bD11 := FD11.binds (ps := ["_law_thing"]) fun _ _ _ _ _ _ us hl => match us, hl with | [_], _ => rfl
  have gD11 := PySem.W.mg_of X G aD11
  have FD12 := fun_mk (st := s_law_odd_item) lD12 cD12 kD12
  have bD12 := FD12.binds (ps := ["_law_draw"]) fun _ _ _ _ _ _ us hl => match us, hl with | [_], _ => rfl
  have gD12 := PySem.W.mg_of X G aD12
  have FD13 := fun_mk (st := s_law_odd_log) lD13 cD13 kD13
  have bD13 := FD13.binds (ps := ["_law_draw", "_law_names_here"]) fun _ _ _ _ _ _ us hl => match us, hl with | [_, _], _ => rfl
  have gD13 := PySem.W.mg_of X G aD13
  have FD14 := fun_mk (st := s_law_log_due) lD14 cD14 kD14
  have bD14 := FD14.binds (ps := ["_law_thing"]) fun _ _ _ _ _ _ us hl => match us, hl with | [_], _ => rfl
  have gD14 := PySem.W.mg_of X G aD14
  have FD15 := fun_mk (st := s_law_told_error) lD15 cD15 kD15
  have bD15 := FD15.binds (ps := ["_law_error"]) fun _ _ _ _ _ _ us hl => match us, hl with | [_], _ => rfl
  have gD15 := PySem.W.mg_of X G aD15
  have FD16 := fun_mk (st := s_law_items) lD16 cD16 kD16
  have bD16 := FD16.binds (ps := ["_law_draw", "_law_names_here", "_law_deep"]) fun _ _ _ _ _ _ us hl => match us, hl with | [_, _, _], _ => rfl
  have gD16 := PySem.W.mg_of X G aD16
  have FM0 := fun_mk (st := s_Reader_init) lM0 cM0 kM0
  have bM0 := FM0.binds (ps := ["self"]) fun _ _ _ _ _ _ us hl => match us, hl with | [_], _ => rfl
  have FM1 := fun_mk (st := s_Reader_put) lM1 cM1 kM1
  have bM1 := FM1.binds (ps := ["self", "events"]) fun _ _ _ _ _ _ us hl => match us, hl with | [_, _], _ => rfl
  have FM2 := fun_mk (st := s_Reader_end_item) lM2 cM2 kM2
  have bM2 := FM2.binds (ps := ["self"]) fun _ _ _ _ _ _ us hl => match us, hl with | [_], _ => rfl
  have FM3 := fun_mk (st := s_Reader_take_begin) lM3 cM3 kM3
  have bM3 := FM3.binds (ps := ["self", "sign"]) fun _ _ _ _ _ _ us hl => match us, hl with | [_, _], _ => rfl
  have FM4 := fun_mk (st := s_Reader_take_number) lM4 cM4 kM4
  have bM4 := FM4.binds (ps := ["self", "sign"]) fun _ _ _ _ _ _ us hl => match us, hl with | [_, _], _ => rfl
  have FM5 := fun_mk (st := s_Reader_take_star) lM5 cM5 kM5
  have bM5 := FM5.binds (ps := ["self", "sign"]) fun _ _ _ _ _ _ us hl => match us, hl with | [_, _], _ => rfl
  have FM6 := fun_mk (st := s_Reader_take_end) lM6 cM6 kM6
  have bM6 := FM6.binds (ps := ["self", "sign"]) fun _ _ _ _ _ _ us hl => match us, hl with | [_, _], _ => rfl
  have FM7 := fun_mk (st := s_Reader_take) lM7 cM7 kM7
  have bM7 := FM7.binds (ps := ["self", "sign"]) fun _ _ _ _ _ _ us hl => match us, hl with | [_, _], _ => rfl
  have FM8 := fun_mk (st := s_Reader_can_end) lM8 cM8 kM8
  have bM8 := FM8.binds (ps := ["self"]) fun _ _ _ _ _ _ us hl => match us, hl with | [_], _ => rfl
  have FEBadLog := fun_mk (st := s_BadLog_init) lEBadLog cEBadLog kEBadLog
  have bEBadLog := FEBadLog.binds (ps := ["self", "at"]) fun _ _ _ _ _ _ us hl => match us, hl with | [_, _], _ => rfl
  have erEBadLog : ErC K CL := ⟨⟨gaEBadLog, ggEBadLog, exEBadLog, hdEBadLog, hcEBadLog, oc1, oc2, hmEBadLog⟩, ⟨gaEBadLog, ggEBadLog, exEBadLog, hdEBadLog⟩, kvEBadLog, koEBadLog⟩
  have FEBadText := fun_mk (st := s_BadText_init) lEBadText cEBadText kEBadText
  have bEBadText := FEBadText.binds (ps := ["self", "at"]) fun _ _ _ _ _ _ us hl => match us, hl with | [_, _], _ => rfl
  have erEBadText : ErC K CB := ⟨⟨gaEBadText, ggEBadText, exEBadText, hdEBadText, hcEBadText, oc1, oc2, hmEBadText⟩, ⟨gaEBadText, ggEBadText, exEBadText, hdEBadText⟩, kvEBadText, koEBadText⟩
  have FETooMany := fun_mk (st := s_TooMany_init) lETooMany cETooMany kETooMany
  have bETooMany := FETooMany.binds (ps := ["self", "limit"]) fun _ _ _ _ _ _ us hl => match us, hl with | [_, _], _ => rfl
  have erETooMany : ErC K CM := ⟨⟨gaETooMany, ggETooMany, exETooMany, hdETooMany, hcETooMany, oc1, oc2, hmETooMany⟩, ⟨gaETooMany, ggETooMany, exETooMany, hdETooMany⟩, kvETooMany, koETooMany⟩
  refine ⟨cL, PySem.W.fnOf "law" "law" (defArgs s_law) (defBody s_law) (defScope s_law) .none kVL dcL pmL anL (.ref cL) ctL, PySem.W.codeHd_of_K X hdL, nT, nl, fun s v => .of_eq rfl, fun base _ _ TB => ?_⟩
  have E_BadLog : ErrG l.prog w K mg base "BadLog" CL "at" := ⟨fEBadLog, _, ok_err FEBadLog S_BadLog_init rfl rfl rfl rfl (by decide) (by decide) (fun _ _ _ _ _ _ => ⟨_, rfl⟩) gG ⟨rdG, gaG⟩ vG, ⟨⟨⟨_, _, _, _, _, _, _, _, _, _, _, _, _, _, _, oEBadLog, rvEBadLog⟩, saEBadLog, exEBadLog, tyEBadLog, kCEBadLog⟩, aEBadLog, tEBadLog, nfEBadLog⟩, PySem.W.mg_of X G zEBadLog, bEBadLog⟩
  have E_BadText : ErrG l.prog w K mg base "BadText" CB "at" := ⟨fEBadText, _, ok_err FEBadText S_BadText_init rfl rfl rfl rfl (by decide) (by decide) (fun _ _ _ _ _ _ => ⟨_, rfl⟩) gG ⟨rdG, gaG⟩ vG, ⟨⟨⟨_, _, _, _, _, _, _, _, _, _, _, _, _, _, _, oEBadText, rvEBadText⟩, saEBadText, exEBadText, tyEBadText, kCEBadText⟩, aEBadText, tEBadText, nfEBadText⟩, PySem.W.mg_of X G zEBadText, bEBadText⟩
  have E_TooMany : ErrG l.prog w K mg base "TooMany" CM "limit" := ⟨fETooMany, _, ok_err FETooMany S_TooMany_init rfl rfl rfl rfl (by decide) (by decide) (fun _ _ _ _ _ _ => ⟨_, rfl⟩) gG ⟨rdG, gaG⟩ vG, ⟨⟨⟨_, _, _, _, _, _, _, _, _, _, _, _, _, _, _, oETooMany, rvETooMany⟩, saETooMany, exETooMany, tyETooMany, kCETooMany⟩, aETooMany, tETooMany, nfETooMany⟩, PySem.W.mg_of X G zETooMany, bETooMany⟩
  have C_is_name : CalG l.prog w K mg base 2 "is_name" ["value"] (spIsName K) := ⟨fD0, _, ok_is_name FD0 T, gD0, kD0, bD0⟩
  have C_first_wrong : CalG l.prog w K mg base 3 "first_wrong" ["items"] (spFirstWrong K) := ⟨fD1, _, ok_first_wrong FD1 T C_is_name, gD1, kD1, bD1⟩
  have C_need_log : CalG l.prog w K mg base 4 "need_log" ["log"] (spNeedLog K CL) := ⟨fD2, _, ok_need_log FD2 T C_first_wrong E_BadLog, gD2, kD2, bD2⟩
  have C_log_text : CalG l.prog w K mg base 5 "log_text" ["log"] (spLogText K CL) := ⟨fD3, _, ok_log_text FD3 T C_need_log, gD3, kD3, bD3⟩
  have M_put : MetG l.prog w K mg base 2 CR "put" ["self", "events"] (spPut CR) := ⟨fM1, _, ok_put FM1 T cR, cR.cl, ⟨aM1, iM1, kM1⟩, bM1⟩
  have M_end_item : MetG l.prog w K mg base 3 CR "end_item" ["self"] (spEndItem CR) := ⟨fM2, _, ok_end_item FM2 T cR M_put, cR.cl, ⟨aM2, iM2, kM2⟩, bM2⟩
  have M_take_begin : MetG l.prog w K mg base 2 CR "take_begin" ["self", "sign"] (spTk CR (fun c s => s.takeBegin c) fun _ _ => True) := ⟨fM3, _, ok_take_begin FM3 T cR, cR.cl, ⟨aM3, iM3, kM3⟩, bM3⟩
  have M_take_number : MetG l.prog w K mg base 2 CR "take_number" ["self", "sign"] (spTk CR (fun c s => s.takeNumber c) fun _ s => s.form = "number") := ⟨fM4, _, ok_take_number FM4 T cR, cR.cl, ⟨aM4, iM4, kM4⟩, bM4⟩
  have M_take_star : MetG l.prog w K mg base 2 CR "take_star" ["self", "sign"] (spTk CR (fun c s => s.takeStar c) fun _ s => s.form = "star") := ⟨fM5, _, ok_take_star FM5 T cR, cR.cl, ⟨aM5, iM5, kM5⟩, bM5⟩
  have M_take_end : MetG l.prog w K mg base 4 CR "take_end" ["self", "sign"] (spTk CR (fun c s => s.takeEnd c) fun _ _ => True) := ⟨fM6, _, ok_take_end FM6 T cR M_end_item M_put, cR.cl, ⟨aM6, iM6, kM6⟩, bM6⟩
  have M_take : MetG l.prog w K mg base 5 CR "take" ["self", "sign"] (spTk CR (fun c s => s.take c) fun _ _ => True) := ⟨fM7, _, ok_take FM7 T cR M_take_begin M_take_number M_take_star M_take_end, cR.cl, ⟨aM7, iM7, kM7⟩, bM7⟩
  have M_can_end : MetG l.prog w K mg base 2 CR "can_end" ["self"] (spCanEnd CR) := ⟨fM8, _, ok_can_end FM8 T cR, cR.cl, ⟨aM8, iM8, kM8⟩, bM8⟩
  have K_Reader : MakG l.prog w K mg base 1 "Reader" CR ["self"] (spInit CR) := ⟨fM0, _, ok_init FM0 T cR, ⟨mkR, aM0, iM0, kcR⟩, PySem.W.mg_of X G aR, bM0⟩
  have C_read_log : CalG l.prog w K mg base 6 "read_log" ["text"] (spReadLog CB CM K) := ⟨fD4, _, ok_read_log FD4 T cR K_Reader M_take M_can_end M_end_item E_BadText E_TooMany, gD4, kD4, bD4⟩
  have C__law_begun : CalG l.prog w K mg base 2 "_law_begun" ["_law_script"] spBegun := ⟨fD5, _, ok_law_begun FD5 T, gD5, kD5, bD5⟩
  have C__law_take : CalG l.prog w K mg base 2 "_law_take" ["_law_draw", "_law_many"] spTake := ⟨fD6, _, ok_law_take FD6 T, gD6, kD6, bD6⟩
  have C__law_pick : CalG l.prog w K mg base 3 "_law_pick" ["_law_draw", "_law_some"] spPick := ⟨fD7, _, ok_law_pick FD7 T C__law_take, gD7, kD7, bD7⟩
  have C__law_names : CalG l.prog w K mg base 4 "_law_names" ["_law_draw", "_law_many"] spNames := ⟨fD8, _, ok_law_names FD8 T C__law_take C__law_pick, gD8, kD8, bD8⟩
  have C__law_log : CalG l.prog w K mg base 4 "_law_log" ["_law_draw", "_law_names_here", "_law_most"] spLog := ⟨fD9, _, ok_law_log FD9 T C__law_take C__law_pick, gD9, kD9, bD9⟩
  have C__law_first_odd : CalG l.prog w K mg base 2 "_law_first_odd" ["_law_thing"] (spFirstOdd K) := ⟨fD11, _, ok_first_odd FD11 T, gD11, kD11, bD11⟩
  have C__law_odd_item : CalG l.prog w K mg base 4 "_law_odd_item" ["_law_draw"] (spOddItem K) := ⟨fD12, _, ok_odd_item FD12 T C__law_pick, gD12, kD12, bD12⟩
  have C__law_odd_log : CalG l.prog w K mg base 5 "_law_odd_log" ["_law_draw", "_law_names_here"] (spOddLog K) := ⟨fD13, _, ok_law_odd_log FD13 T C__law_take C__law_pick C__law_log C__law_odd_item, gD13, kD13, bD13⟩
  have C__law_log_due : CalG l.prog w K mg base 3 "_law_log_due" ["_law_thing"] (spDue K) := ⟨fD14, _, ok_law_log_due FD14 T C__law_first_odd, gD14, kD14, bD14⟩
  have C__law_told_error : CalG l.prog w K mg base 2 "_law_told_error" ["_law_error"] (spTold CL) := ⟨fD15, _, ok_law_told_error FD15 T (PySem.W.mg_of X G zEBadLog) (PySem.W.mg_of X G zBadK) (PySem.W.mg_of X G zBadNames) (PySem.W.mg_of X G zBadNumber) erEBadLog nfEBadLog, gD15, kD15, bD15⟩
  have I0 : CalG l.prog w K mg base 3 "_law_items" ["_law_draw", "_law_names_here", "_law_deep"] (spIt 0) := ⟨fD16, _, ⟨fun vs H Q E h => (by obtain ⟨_, _, _, _, _, _, ⟨_, _, _, _, _, _, _, _, h, _⟩, _⟩ := h; omega), fun A outer s H args us vs Q E _ _ _ _ h => (by obtain ⟨_, _, _, _, _, _, ⟨_, _, _, _, _, _, _, _, h, _⟩, _⟩ := h; omega)⟩, gD16, kD16, bD16⟩
  have I1 : CalG l.prog w K mg base 4 "_law_items" ["_law_draw", "_law_names_here", "_law_deep"] (spIt 1) := ⟨fD16, _, ok_it 0 3 (by decide) FD16 T C__law_take C__law_pick I0, gD16, kD16, bD16⟩
  have I2 : CalG l.prog w K mg base 5 "_law_items" ["_law_draw", "_law_names_here", "_law_deep"] (spIt 2) := ⟨fD16, _, ok_it 1 4 (by decide) FD16 T C__law_take C__law_pick I1, gD16, kD16, bD16⟩
  have I3 : CalG l.prog w K mg base 6 "_law_items" ["_law_draw", "_law_names_here", "_law_deep"] (spIt 3) := ⟨fD16, _, ok_it 2 5 (by decide) FD16 T C__law_take C__law_pick I2, gD16, kD16, bD16⟩
  have I4 : CalG l.prog w K mg base 7 "_law_items" ["_law_draw", "_law_names_here", "_law_deep"] (spIt 4) := ⟨fD16, _, ok_it 3 6 (by decide) FD16 T C__law_take C__law_pick I3, gD16, kD16, bD16⟩
  have I5 : CalG l.prog w K mg base 8 "_law_items" ["_law_draw", "_law_names_here", "_law_deep"] (spIt 5) := ⟨fD16, _, ok_it 4 7 (by decide) FD16 T C__law_take C__law_pick I4, gD16, kD16, bD16⟩
  have I6 : CalG l.prog w K mg base 9 "_law_items" ["_law_draw", "_law_names_here", "_law_deep"] (spIt 6) := ⟨fD16, _, ok_it 5 8 (by decide) FD16 T C__law_take C__law_pick I5, gD16, kD16, bD16⟩
  have I7 : CalG l.prog w K mg base 10 "_law_items" ["_law_draw", "_law_names_here", "_law_deep"] (spIt 7) := ⟨fD16, _, ok_it 6 9 (by decide) FD16 T C__law_take C__law_pick I6, gD16, kD16, bD16⟩
  exact ok_law ⟨ocL, odL, kVL, dcL, pmL, anL, ctL, slL, rfl, lL, cLL⟩ T TB gD10 kD10 lD10 cD10 bD10 gG (PySem.W.mg_of X G zETooMany) erETooMany nfETooMany xmETooMany xmEBadLog C__law_begun C__law_take C__law_pick C__law_names C__law_log C_log_text C_read_log I7 C__law_odd_log C__law_told_error C__law_log_due
theorem walk {l : PySem.W.OpenLaw} {q : Program} {loose : List Str} {XP : (Str → Option Value) → Heap → Prop} {YP : World → Heap → Prop} {d : DefRec} {K : Params → PySem.W.Frag} {Pt : Addr} (hn : l.most = some 63) (hdf : d.params.defaults = [])
    (hY : ∀ (w : World) (h : Heap), YP w h → (K w.params).In h) (hT : ∀ (w : World) (h : Heap), YP w h → h.get? Pt = some (PySem.W.tabObj #[]))
    (F : ∀ (w : World) (mg : Str → Option Value) (fa : Addr) (h : Heap), (K w.params).In h → h.Ns mainGlobals mg → mg d.name = some (.ref fa) → LawEnd l w (K w.params) mg fa Pt h) :
    PySem.W.WalkO q loose XP YP l.row.toRowW d [] (fun f vs => PySem.call f vs) := by
  refine Att.attach_callB hn hdf fun w s₀ s₁ mg mb fa o pm cd doc a vs ns G Y ho hd hcd hmg hobj hints hlen hbits hg => ?_
  have KX := hY w _ Y
  obtain ⟨c, fd, hC, nT, nl, hb, hF⟩ := F w mg fa _ KX G.T.g hmg
  have na : (K w.params).lookup a = none := by
    cases e : (K w.params).lookup a with
    | none => rfl
    | some o =>
      have e2 := KX a o e
      rw [hobj] at e2
      cases e2
      exact (noLists_of nl e rfl).elim
  exact law_callG KX G.T.g G.T.b G.T.builtins G.T.nolimit hg (hT w _ Y) nT hC G.T.bmain hobj hints hlen ⟨⟨rfl, by decide, by decide⟩, rfl⟩ na hF hb
end Dd
open PySem PySem.W PyProof.Rows
set_option maxRecDepth 100000 in
set_option maxHeartbeats 0 in
theorem PySem.Challenge.cw_glancelogs_k65_texts_of_logs_holds : PySem.Challenge.rw_glancelogs_k65_texts_of_logs.Holds := by
  w_on; o_law; k_head; (case hw => w_witness2)
  k_fill
  refine Dd.walk (l := PySem.Challenge.rw_glancelogs_k65_texts_of_logs) (Pt := 331) rfl rfl (fun w h Y => PySem.W.km_in_of Y) (fun w h Y => PySem.W.km_tabs_of Y 331 (by simp)) ?F
  case F =>
    intro w mg fa h KX G hmg
    refine' Dd.all_mk KX G hmg ?aD0 ?lD0 ?cD0 ?kD0 ?aD1 ?lD1 ?cD1 ?kD1 ?aD2 ?lD2 ?cD2 ?kD2 ?aD3 ?lD3 ?cD3 ?kD3 ?aD4 ?lD4 ?cD4 ?kD4 ?aD5 ?lD5 ?cD5 ?kD5 ?aD6 ?lD6 ?cD6 ?kD6 ?aD7 ?lD7 ?cD7 ?kD7 ?aD8 ?lD8 ?cD8 ?kD8 ?aD9 ?lD9 ?cD9 ?kD9 ?aD10 ?lD10 ?cD10 ?kD10 ?aD11 ?lD11 ?cD11 ?kD11 ?aD12 ?lD12 ?cD12 ?kD12 ?aD13 ?lD13 ?cD13 ?kD13 ?aD14 ?lD14 ?cD14 ?kD14 ?aD15 ?lD15 ?cD15 ?kD15 ?aD16 ?lD16 ?cD16 ?kD16 ?aR ?aM0 ?iM0 ?lM0 ?cM0 ?kM0 ?aM1 ?iM1 ?lM1 ?cM1 ?kM1 ?aM2 ?iM2 ?lM2 ?cM2 ?kM2 ?aM3 ?iM3 ?lM3 ?cM3 ?kM3 ?aM4 ?iM4 ?lM4 ?cM4 ?kM4 ?aM5 ?iM5 ?lM5 ?cM5 ?kM5 ?aM6 ?iM6 ?lM6 ?cM6 ?kM6 ?aM7 ?iM7 ?lM7 ?cM7 ?kM7 ?aM8 ?iM8 ?lM8 ?cM8 ?kM8 ?pgR ?hdR ?poR ?saR ?mkR ?kcR ?n0R ?n1R ?n2R ?n3R ?aG ?rdG ?gaG ?vG ?zEBadLog ?oEBadLog ?rvEBadLog ?saEBadLog ?exEBadLog ?tyEBadLog ?kCEBadLog ?aEBadLog ?tEBadLog ?nfEBadLog ?lEBadLog ?cEBadLog ?kEBadLog ?gaEBadLog ?ggEBadLog ?hdEBadLog ?hcEBadLog ?hmEBadLog ?kvEBadLog ?koEBadLog ?xmEBadLog ?zEBadText ?oEBadText ?rvEBadText ?saEBadText ?exEBadText ?tyEBadText ?kCEBadText ?aEBadText ?tEBadText ?nfEBadText ?lEBadText ?cEBadText ?kEBadText ?gaEBadText ?ggEBadText ?hdEBadText ?hcEBadText ?hmEBadText ?kvEBadText ?koEBadText ?xmEBadText ?zETooMany ?oETooMany ?rvETooMany ?saETooMany ?exETooMany ?tyETooMany ?kCETooMany ?aETooMany ?tETooMany ?nfETooMany ?lETooMany ?cETooMany ?kETooMany ?gaETooMany ?ggETooMany ?hdETooMany ?hcETooMany ?hmETooMany ?kvETooMany ?koETooMany ?xmETooMany ?oc1 ?oc2 ?zBadK ?zBadNames ?zBadNumber ?gDEEPEST ?rDEEPEST ?gFIGURES ?rFIGURES ?gLETTERS ?rLETTERS ?gLONGEST_NAME ?rLONGEST_NAME ?gMOST_EVENTS ?rMOST_EVENTS ?gMOST_TIMES ?rMOST_TIMES ?yValueError ?yabs ?yall ?yenumerate ?yint ?yisinstance ?ylen ?ylist ?ymin ?yrange ?yrepr ?ystr ?ytuple ?aL ?lL ?cLL ?hdL ?nT ?nl
    (case aD0 => k_is)
    (case lD0 => k_is)
    (case cD0 => k_is)
    (case kD0 => k_is)
    (case aD1 => k_is)
    (case lD1 => k_is)
    (case cD1 => k_is)
    (case kD1 => k_is)
    (case aD2 => k_is)
    (case lD2 => k_is)
    (case cD2 => k_is)
    (case kD2 => k_is)
    (case aD3 => k_is)
    (case lD3 => k_is)
    (case cD3 => k_is)
    (case kD3 => k_is)
    (case aD4 => k_is)
    (case lD4 => k_is)
    (case cD4 => k_is)
    (case kD4 => k_is)
    (case aD5 => k_is)
    (case lD5 => k_is)
    (case cD5 => k_is)
    (case kD5 => k_is)
    (case aD6 => k_is)
    (case lD6 => k_is)
    (case cD6 => k_is)
    (case kD6 => k_is)
    (case aD7 => k_is)
    (case lD7 => k_is)
    (case cD7 => k_is)
    (case kD7 => k_is)
    (case aD8 => k_is)
    (case lD8 => k_is)
    (case cD8 => k_is)
    (case kD8 => k_is)
    (case aD9 => k_is)
    (case lD9 => k_is)
    (case cD9 => k_is)
    (case kD9 => k_is)
    (case aD10 => k_is)
    (case lD10 => k_is)
    (case cD10 => k_is)
    (case kD10 => k_is)
    (case aD11 => k_is)
    (case lD11 => k_is)
    (case cD11 => k_is)
    (case kD11 => k_is)
    (case aD12 => k_is)
    (case lD12 => k_is)
    (case cD12 => k_is)
    (case kD12 => k_is)
    (case aD13 => k_is)
    (case lD13 => k_is)
    (case cD13 => k_is)
    (case kD13 => k_is)
    (case aD14 => k_is)
    (case lD14 => k_is)
    (case cD14 => k_is)
    (case kD14 => k_is)
    (case aD15 => k_is)
    (case lD15 => k_is)
    (case cD15 => k_is)
    (case kD15 => k_is)
    (case aD16 => k_is)
    (case lD16 => k_is)
    (case cD16 => k_is)
    (case kD16 => k_is)
    (case aR => k_is)
    (case aM0 => k_is)
    (case iM0 => k_is)
    (case lM0 => k_is)
    (case cM0 => k_is)
    (case kM0 => k_is)
    (case aM1 => k_is)
    (case iM1 => k_is)
    (case lM1 => k_is)
    (case cM1 => k_is)
    (case kM1 => k_is)
    (case aM2 => k_is)
    (case iM2 => k_is)
    (case lM2 => k_is)
    (case cM2 => k_is)
    (case kM2 => k_is)
    (case aM3 => k_is)
    (case iM3 => k_is)
    (case lM3 => k_is)
    (case cM3 => k_is)
    (case kM3 => k_is)
    (case aM4 => k_is)
    (case iM4 => k_is)
    (case lM4 => k_is)
    (case cM4 => k_is)
    (case kM4 => k_is)
    (case aM5 => k_is)
    (case iM5 => k_is)
    (case lM5 => k_is)
    (case cM5 => k_is)
    (case kM5 => k_is)
    (case aM6 => k_is)
    (case iM6 => k_is)
    (case lM6 => k_is)
    (case cM6 => k_is)
    (case kM6 => k_is)
    (case aM7 => k_is)
    (case iM7 => k_is)
    (case lM7 => k_is)
    (case cM7 => k_is)
    (case kM7 => k_is)
    (case aM8 => k_is)
    (case iM8 => k_is)
    (case lM8 => k_is)
    (case cM8 => k_is)
    (case kM8 => k_is)
    (case pgR => k_is)
    (case hdR => k_is)
    (case poR => k_is)
    (case saR => k_is)
    (case mkR => k_is)
    (case kcR => k_is)
    (case n0R => k_is)
    (case n1R => k_is)
    (case n2R => k_is)
    (case n3R => k_is)
    (case aG => k_is)
    (case rdG => k_is)
    (case gaG => k_is)
    (case vG => k_is)
    (case zEBadLog => k_is)
    (case oEBadLog => k_is)
    (case rvEBadLog => (first | rfl | decide +kernel | k_is))
    (case saEBadLog => k_is)
    (case exEBadLog => k_is)
    (case tyEBadLog => k_is)
    (case kCEBadLog => k_is)
    (case aEBadLog => k_is)
    (case tEBadLog => k_is)
    (case nfEBadLog => k_is)
    (case lEBadLog => k_is)
    (case cEBadLog => k_is)
    (case kEBadLog => k_is)
    (case gaEBadLog => k_is)
    (case ggEBadLog => k_is)
    (case hdEBadLog => k_is)
    (case hcEBadLog => k_is)
    (case hmEBadLog => k_is)
    (case kvEBadLog => (first | rfl | decide +kernel | k_is))
    (case koEBadLog => (first | rfl | decide +kernel | k_is))
    (case xmEBadLog => (first | rfl | decide +kernel | k_is))
    (case zEBadText => k_is)
    (case oEBadText => k_is)
    (case rvEBadText => (first | rfl | decide +kernel | k_is))
    (case saEBadText => k_is)
    (case exEBadText => k_is)
    (case tyEBadText => k_is)
    (case kCEBadText => k_is)
    (case aEBadText => k_is)
    (case tEBadText => k_is)
    (case nfEBadText => k_is)
    (case lEBadText => k_is)
    (case cEBadText => k_is)
    (case kEBadText => k_is)
    (case gaEBadText => k_is)
    (case ggEBadText => k_is)
    (case hdEBadText => k_is)
    (case hcEBadText => k_is)
    (case hmEBadText => k_is)
    (case kvEBadText => (first | rfl | decide +kernel | k_is))
    (case koEBadText => (first | rfl | decide +kernel | k_is))
    (case xmEBadText => (first | rfl | decide +kernel | k_is))
    (case zETooMany => k_is)
    (case oETooMany => k_is)
    (case rvETooMany => (first | rfl | decide +kernel | k_is))
    (case saETooMany => k_is)
    (case exETooMany => k_is)
    (case tyETooMany => k_is)
    (case kCETooMany => k_is)
    (case aETooMany => k_is)
    (case tETooMany => k_is)
    (case nfETooMany => k_is)
    (case lETooMany => k_is)
    (case cETooMany => k_is)
    (case kETooMany => k_is)
    (case gaETooMany => k_is)
    (case ggETooMany => k_is)
    (case hdETooMany => k_is)
    (case hcETooMany => k_is)
    (case hmETooMany => k_is)
    (case kvETooMany => (first | rfl | decide +kernel | k_is))
    (case koETooMany => (first | rfl | decide +kernel | k_is))
    (case xmETooMany => (first | rfl | decide +kernel | k_is))
    (case oc1 => k_is)
    (case oc2 => k_is)
    (case zBadK => k_is)
    (case zBadNames => k_is)
    (case zBadNumber => k_is)
    (case gDEEPEST => k_is)
    (case rDEEPEST => (first | exact ⟨_, rfl⟩ | exact rfl | k_is))
    (case gFIGURES => k_is)
    (case rFIGURES => (first | exact ⟨_, rfl⟩ | exact rfl | k_is))
    (case gLETTERS => k_is)
    (case rLETTERS => (first | exact ⟨_, rfl⟩ | exact rfl | k_is))
    (case gLONGEST_NAME => k_is)
    (case rLONGEST_NAME => (first | exact ⟨_, rfl⟩ | exact rfl | k_is))
    (case gMOST_EVENTS => k_is)
    (case rMOST_EVENTS => (first | exact ⟨_, rfl⟩ | exact rfl | k_is))
    (case gMOST_TIMES => k_is)
    (case rMOST_TIMES => (first | exact ⟨_, rfl⟩ | exact rfl | k_is))
    (case yValueError => k_is)
    (case yabs => k_is)
    (case yall => k_is)
    (case yenumerate => k_is)
    (case yint => k_is)
    (case yisinstance => k_is)
    (case ylen => k_is)
    (case ylist => k_is)
    (case ymin => k_is)
    (case yrange => k_is)
    (case yrepr => k_is)
    (case ystr => k_is)
    (case ytuple => k_is)
    (case aL => k_is)
    (case lL => k_is)
    (case cLL => k_is)
    (case hdL => (first | rfl | decide +kernel | k_is))
    (case nT => (first | rfl | decide +kernel | k_is))
    (case nl => (first | rfl | decide +kernel | k_is))
#print axioms PySem.Challenge.cw_glancelogs_k65_texts_of_logs_holds
