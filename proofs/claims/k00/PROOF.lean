import PyProof.Rows.All
import Wide.All
import OpenK.AllK
import Wide.FinOn
import HandS.ForMost
import HandS.Wide
import HandS.Slots
import KE.DataEq
import KE.DataCmp
import KE.DataIsa
import KE.DataAny
import KE.DataMinMax
import KE.DataFind
import KE.SortData
import HandS.TupAny
import HandS.TupMul
import PyProof.IsInstanceT
import PyProof.IsiTupleOf
import PyProof.Rows.FactsN_isinstance
import HandS.Flow
import HandS.Style
import HandS.Zip
import HandS.Set
import HandS.TupSets
import HandS.SetFor
import HandS.Star
import HandS.DictComp
import HandS.Small
import HandS.Ends
import HandS.EndBits
import HandS.Dict
import PyProof.SeqIndex
import HandS.Conv
import KE.KDictSum
import HandS.ExcValue
import HandS.NoneIn
import HandS.DictTup
import HandS.Iter
import PyProof.Rows.SortStrRead
import HandS.SetBool
import PyProof.ReprRoads
import HandS.List
import PyProof.ReprLen
import PySem.Challenge.RW_deputies_k00_books_or_none
set_option Elab.async false
set_option linter.all false
set_option maxRecDepth 100000
/-! Values as trees: what stands in a slot, and how the abstract heap bears it. -/
namespace Dv
open PySem PySem.Spec PyProof.Rows L2

abbrev D := PyData
/-- what a slot holds: a value that never changes any more, or a thing that only this slot knows: a list, a dict, an instance with slots; hole: a slot of an instance that is not known -/
inductive O where
  | val (d : D)
  | lst (xs : List D)
  | dct (kvs : List (D × D))
  | obj (c : Str) (fs : List O)
  | hole

def O.toD : O → D
  | .val d => d
  | .lst xs => .list xs
  | .dct kvs => .dict kvs
  | .obj _ _ => .dict []
  | .hole => .dict []
/-- it may be frozen -/
def O.fz : O → Bool
  | .val _ => true
  | .lst _ => true
  | .dct _ => true
  | _ => false
def O.isHole : O → Bool
  | .hole => true
  | _ => false
/-- a key as a tree -/
def kD : Key → D
  | .inl i => .int i
  | .inr x => .str x

/-! ### the heap's part that is frozen -/
theorem same_of_fresh {H : Hp} {p : Addr} {o : HO} (h : H p = none) : Same H (upd H p o) := fun b u e => by
  rw [upd_ne (ne_of_none e h)]
  exact e
theorem same_both {F H : Hp} {p : Addr} {o : HO} (s : Same F H) : Same (upd F p o) (upd H p o) := fun b u e => by
  by_cases hb : b = p
  · subst hb
    rw [upd_same] at e ⊢
    exact e
  · rw [upd_ne hb] at e ⊢
    exact s b u e
theorem same_tup {K : PySem.W.Frag} {F H : Hp} {a : Addr} {xs : List V} (e : Same F H) (h : SqT K F a xs) : SqT K H a xs := by
  rcases h with (h | ⟨o, h⟩) | h
  · exact .inl (.inl (e _ _ h))
  · exact .inl (.inr ⟨o, e _ _ h⟩)
  · exact .inr h
/-- the list at a: in the heap, or one that the module has written -/
def LsK (K : PySem.W.Frag) (H : Hp) (a : Addr) (xs : List V) : Prop := Rd H a (.lst xs) ∨ ∃ (its : Array Value) (n : Nat), K.lookup a = some { cls := .type "list", data := .seq its n } ∧ its.size ≤ sizeLine ∧ Vals xs its.toList
theorem LsK.sq {K : PySem.W.Frag} {H : Hp} {a : Addr} {xs : List V} (h : LsK K H a xs) : SqL K H a xs := by
  rcases h with h | ⟨its, n, h1, h2, h3⟩
  · exact .inl h
  · exact .inr ⟨_, its, n, h1, rfl, rfl, rfl, h2, h3⟩
mutual
/-- the value v stands for the tree d, all of it in F (or in the module's own tuples) -/
inductive Tr (K : PySem.W.Frag) (F : Hp) : V → D → Prop
  | non : Tr K F .non .none
  | bl (b : Bool) : Tr K F (.bl b) (.bool b)
  | int (i : Int) : Tr K F (.int i) (.int i)
  | str (x : Str) : Tr K F (.str x) (.str x)
  | lst {a : Addr} {xs : List V} {ds : List D} : LsK K F a xs → TrAll K F xs ds → Tr K F (.ref a) (.list ds)
  | tup {a : Addr} {xs : List V} {ds : List D} : SqT K F a xs → TrAll K F xs ds → Tr K F (.ref a) (.tuple ds)
  | dct {a : Addr} {od : Obj} {kvs : List (Key × V)} {ds : List (D × D)} : F a = some (.frz od (.dK kvs)) → TrKv K F kvs ds → Tr K F (.ref a) (.dict ds)
inductive TrAll (K : PySem.W.Frag) (F : Hp) : List V → List D → Prop
  | nil : TrAll K F [] []
  | cons {v : V} {vs : List V} {d : D} {ds : List D} : Tr K F v d → TrAll K F vs ds → TrAll K F (v :: vs) (d :: ds)
/-- a dict's pairs -/
inductive TrKv (K : PySem.W.Frag) (F : Hp) : List (Key × V) → List (D × D) → Prop
  | nil : TrKv K F [] []
  | cons {k : Key} {v : V} {kvs : List (Key × V)} {d : D} {ds : List (D × D)} : Tr K F v d → TrKv K F kvs ds → TrKv K F ((k, v) :: kvs) ((kD k, d) :: ds)
end
theorem rd_mono {F H : Hp} {a : Addr} {u : HO} (e : Same F H) (h : Rd F a u) : Rd H a u := by
  rcases h with h | ⟨o, h⟩
  · exact .inl (e _ _ h)
  · exact .inr ⟨o, e _ _ h⟩
theorem lsk_mono {K : PySem.W.Frag} {F H : Hp} {a : Addr} {xs : List V} (e : Same F H) (h : LsK K F a xs) : LsK K H a xs := by
  rcases h with h | h
  · exact .inl (rd_mono e h)
  · exact .inr h
mutual
theorem tr_dp {K : PySem.W.Frag} {F : Hp} : ∀ {v : V} (d : D), d.plain = true → Tr K F v d → Dp K F v d
  | _, .none, _, h => by cases h; exact .non
  | _, .bool _, _, h => by cases h; exact .bl _
  | _, .int _, _, h => by cases h; exact .int _
  | _, .str _, _, h => by cases h; exact .str _
  | _, .list ds, p, h => by
    cases h with
    | lst h1 h2 => exact .lst h1.sq (trAll_dp ds (by simpa [PyData.plain] using p) h2)
  | _, .tuple ds, p, h => by
    cases h with
    | tup h1 h2 => exact .tup h1 (trAll_dp ds (by simpa [PyData.plain] using p) h2)
  | _, .dict _, p, _ => by simp [PyData.plain] at p
theorem trAll_dp {K : PySem.W.Frag} {F : Hp} : ∀ {vs : List V} (ds : List D), PyData.plainAll ds = true → TrAll K F vs ds → DpAll K F vs ds
  | _, [], _, h => by cases h; exact .nil
  | _, d :: ds, p, h => by
    have p' : d.plain = true ∧ PyData.plainAll ds = true := by simpa [PyData.plainAll] using p
    cases h with
    | cons h1 h2 => exact .cons (tr_dp d p'.1 h1) (trAll_dp ds p'.2 h2)
end
mutual
theorem dp_mono {K : PySem.W.Frag} {F H : Hp} (e : Same F H) : ∀ {v : V} (d : D), Tr K F v d → Tr K H v d
  | _, .none, h => by cases h; exact .non
  | _, .bool _, h => by cases h; exact .bl _
  | _, .int _, h => by cases h; exact .int _
  | _, .str _, h => by cases h; exact .str _
  | _, .list ds, h => by
    cases h with
    | lst h1 h2 => exact .lst (lsk_mono e h1) (dpAll_mono e ds h2)
  | _, .tuple ds, h => by
    cases h with
    | tup h1 h2 => exact .tup (same_tup e h1) (dpAll_mono e ds h2)
  | _, .dict ds, h => by
    cases h with
    | dct h1 h2 => exact .dct (e _ _ h1) (dpKv_mono e ds h2)
theorem dpAll_mono {K : PySem.W.Frag} {F H : Hp} (e : Same F H) : ∀ {vs : List V} (ds : List D), TrAll K F vs ds → TrAll K H vs ds
  | _, [], h => by cases h; exact .nil
  | _, d :: ds, h => by
    cases h with
    | cons h1 h2 => exact .cons (dp_mono e d h1) (dpAll_mono e ds h2)
theorem dpKv_mono {K : PySem.W.Frag} {F H : Hp} (e : Same F H) : ∀ {kvs : List (Key × V)} (ds : List (D × D)), TrKv K F kvs ds → TrKv K H kvs ds
  | _, [], h => by cases h; exact .nil
  | _, (a, b) :: ds, h => by
    cases h with
    | cons h1 h2 => exact .cons (dp_mono e b h1) (dpKv_mono e ds h2)
end
section
variable {K : PySem.W.Frag} {F H : Hp}
theorem da_length : ∀ {vs : List V} {ds : List D}, TrAll K F vs ds → vs.length = ds.length
  | _, _, .nil => rfl
  | _, _, .cons _ t => congrArg (· + 1) (da_length t)
theorem da_get : ∀ {vs : List V} {ds : List D} {i : Nat} {d : D}, TrAll K F vs ds → ds[i]? = some d → ∃ v, vs[i]? = some v ∧ Tr K F v d
  | _, _, 0, d, .cons h _, e => by
    have e' := Option.some.inj e
    subst e'
    exact ⟨_, rfl, h⟩
  | _, _, i + 1, d, .cons _ t, e => by
    obtain ⟨v, h1, h2⟩ := da_get (i := i) (d := d) t (by simpa using e)
    exact ⟨v, by simpa using h1, h2⟩
theorem da_append : ∀ {vs ws : List V} {ds es : List D}, TrAll K F vs ds → TrAll K F ws es → TrAll K F (vs ++ ws) (ds ++ es)
  | _, _, _, _, .nil, s => s
  | _, _, _, _, .cons h t, s => .cons h (da_append t s)
theorem da_take : ∀ {vs : List V} {ds : List D} (n : Nat), TrAll K F vs ds → TrAll K F (vs.take n) (ds.take n)
  | _, _, 0, _ => .nil
  | _, _, _ + 1, .nil => .nil
  | _, _, n + 1, .cons h t => .cons h (da_take n t)
theorem da_drop : ∀ {vs : List V} {ds : List D} (n : Nat), TrAll K F vs ds → TrAll K F (vs.drop n) (ds.drop n)
  | _, _, 0, h => h
  | _, _, _ + 1, .nil => .nil
  | _, _, n + 1, .cons _ t => da_drop n t
theorem da_set {v : V} {d : D} (h0 : Tr K F v d) : ∀ {vs : List V} {ds : List D} (i : Nat), TrAll K F vs ds → TrAll K F (vs.set i v) (ds.set i d)
  | _, _, _, .nil => .nil
  | _, _, 0, .cons _ t => .cons h0 t
  | _, _, i + 1, .cons h t => .cons h (da_set h0 i t)
theorem da_rep {vs : List V} {ds : List D} (h : TrAll K F vs ds) : ∀ n : Nat, TrAll K F (List.replicate n vs).flatten (List.replicate n ds).flatten
  | 0 => .nil
  | n + 1 => by
    rw [List.replicate_succ, List.replicate_succ, List.flatten_cons, List.flatten_cons]
    exact da_append h (da_rep h n)
end
/-- no dict within, at every one -/
theorem plainAll_iff : ∀ {ds : List D}, PyData.plainAll ds = true ↔ ∀ d ∈ ds, d.plain = true
  | [] => by simp [PyData.plainAll]
  | d :: ds => by
    have := plainAll_iff (ds := ds)
    simp [PyData.plainAll, this]

/-! ### what a slot holds -/
/-- an instance at a, made or stored into -/
def SlW (H : Hp) (a C dx : Addr) (vs : List (Option V)) : Prop := (H a = some (.ins C dx []) ∧ H dx = some (.own a) ∧ vs = []) ∨ (H a = some (SlX.SlO a C dx vs) ∧ H dx = some (.xd []))
theorem SlW.there {H : Hp} {a C dx : Addr} {vs : List (Option V)} (h : SlW H a C dx vs) : (∃ u, H a = some u) ∧ ∃ u, H dx = some u := by
  rcases h with ⟨h1, h2, _⟩ | ⟨h1, h2⟩
  · exact ⟨⟨_, h1⟩, _, h2⟩
  · exact ⟨⟨_, h1⟩, _, h2⟩
theorem SlW.mono {H H' : Hp} {a C dx : Addr} {vs : List (Option V)} (h : SlW H a C dx vs) (ha : ∀ u, H a = some u → H' a = some u) (hd : ∀ u, H dx = some u → H' dx = some u) : SlW H' a C dx vs := by
  rcases h with ⟨h1, h2, h3⟩ | ⟨h1, h2⟩
  · exact .inl ⟨ha _ h1, hd _ h2, h3⟩
  · exact .inr ⟨ha _ h1, hd _ h2⟩
mutual
/-- v stands for o; as: the addresses that are o's own -/
def Own (K : PySem.W.Frag) (F H : Hp) (v : V) : O → List Addr → Prop
  | .val d, as => Tr K F v d ∧ as = []
  | .lst ds, as => ∃ a vs, v = .ref a ∧ H a = some (.lst vs) ∧ TrAll K F vs ds ∧ as = [a]
  | .dct ds, as => ∃ a kvs, v = .ref a ∧ H a = some (.dK kvs) ∧ TrKv K F kvs ds ∧ as = [a]
  | .obj c fs, as => ∃ C a dx vs ass, PySem.W.nsIn K mainGlobals c = some (some (.ref C)) ∧ v = .ref a ∧ SlW H a C dx vs ∧ OwnFs K F H vs fs ass ∧ as = a :: dx :: ass.flatten
  | .hole, as => as = []
/-- the slots of an instance -/
def OwnFs (K : PySem.W.Frag) (F H : Hp) (vs : List (Option V)) : List O → List (List Addr) → Prop
  | [], ass => ass = []
  | o :: os, ass => ∃ as ass', ass = as :: ass' ∧ (o.isHole = false → vs.headD none ≠ none) ∧ Own K F H ((vs.headD none).getD .non) o as ∧ OwnFs K F H vs.tail os ass'
end
mutual
theorem Own.mono {K : PySem.W.Frag} {F F' H H' : Hp} (sF : Same F F') : ∀ {v : V} {o : O} {as : List Addr}, Own K F H v o as → (∀ a ∈ as, ∀ u, H a = some u → H' a = some u) → Own K F' H' v o as
  | v, .val d, as, h, _ => ⟨dp_mono sF d h.1, h.2⟩
  | v, .lst ds, as, h, sH => by
    obtain ⟨a, vs, rfl, e, hd, rfl⟩ := h
    exact ⟨a, vs, rfl, sH a List.mem_cons_self _ e, dpAll_mono sF ds hd, rfl⟩
  | v, .dct ds, as, h, sH => by
    obtain ⟨a, kvs, rfl, e, hd, rfl⟩ := h
    exact ⟨a, kvs, rfl, sH a List.mem_cons_self _ e, dpKv_mono sF ds hd, rfl⟩
  | v, .obj c fs, as, h, sH => by
    obtain ⟨C, a, dx, vs, ass, hC, rfl, e, hd, rfl⟩ := h
    exact ⟨C, a, dx, vs, ass, hC, rfl, e.mono (sH a List.mem_cons_self) (sH dx (by simp)), OwnFs.mono sF hd fun b hb => sH b (by simp only [List.mem_cons]; exact .inr (.inr hb)), rfl⟩
  | v, .hole, as, h, _ => h
theorem OwnFs.mono {K : PySem.W.Frag} {F F' H H' : Hp} (sF : Same F F') : ∀ {vs : List (Option V)} {os : List O} {ass : List (List Addr)}, OwnFs K F H vs os ass → (∀ a ∈ ass.flatten, ∀ u, H a = some u → H' a = some u) → OwnFs K F' H' vs os ass
  | vs, [], ass, h, _ => h
  | vs, o :: os, ass, h, sH => by
    obtain ⟨as, ass', rfl, h1, h2, h3⟩ := h
    exact ⟨as, ass', rfl, h1, Own.mono sF h2 fun a ha => sH a (by rw [List.flatten_cons]; exact List.mem_append_left _ ha), OwnFs.mono sF h3 fun a ha => sH a (by rw [List.flatten_cons]; exact List.mem_append_right _ ha)⟩
end
mutual
theorem Own.there {K : PySem.W.Frag} {F H : Hp} : ∀ {v : V} {o : O} {as : List Addr}, Own K F H v o as → ∀ a ∈ as, ∃ u, H a = some u
  | v, .val d, as, h, a, ha => by
    obtain ⟨_, rfl⟩ := h
    cases ha
  | v, .lst ds, as, h, b, hb => by
    obtain ⟨a, vs, _, e, _, rfl⟩ := h
    rw [List.mem_singleton.mp hb]
    exact ⟨_, e⟩
  | v, .dct ds, as, h, b, hb => by
    obtain ⟨a, vs, _, e, _, rfl⟩ := h
    rw [List.mem_singleton.mp hb]
    exact ⟨_, e⟩
  | v, .obj C fs, as, h, b, hb => by
    obtain ⟨C, a, dx, vs, ass, _, _, e, hd, rfl⟩ := h
    rcases List.mem_cons.mp hb with z | hb
    · rw [z]
      exact e.there.1
    · rcases List.mem_cons.mp hb with z | hb
      · rw [z]
        exact e.there.2
      · exact OwnFs.there hd b hb
  | v, .hole, as, h, a, ha => by
    have h' : as = [] := h
    rw [h'] at ha
    cases ha
theorem OwnFs.there {K : PySem.W.Frag} {F H : Hp} : ∀ {vs : List (Option V)} {os : List O} {ass : List (List Addr)}, OwnFs K F H vs os ass → ∀ a ∈ ass.flatten, ∃ u, H a = some u
  | vs, [], ass, h, a, ha => by
    have h' : ass = [] := h
    rw [h'] at ha
    cases ha
  | vs, o :: os, ass, h, a, ha => by
    obtain ⟨as, ass', rfl, h1, h2, h3⟩ := h
    rw [List.flatten_cons] at ha
    rcases List.mem_append.mp ha with ha | ha
    · exact Own.there h2 a ha
    · exact OwnFs.there h3 a ha
end
/-- o is frozen: a dict is locked for good -/
theorem Own.freeze {X : Cx} {pins : List (Addr × Obj)} {σ : L2.St} {s : Shared} {F H : Hp} {v : V} {o : O} {as : List Addr} (I : Inv X pins σ H s) (h : Own X.K F H v o as) (hz : o.fz = true) (sF : Same F H) (ha : ∀ a ∈ as, F a = none) :
    ∃ F' H', Inv X pins σ H' s ∧ Same F F' ∧ Same F' H' ∧ (∀ a, a ∉ as → F' a = F a ∧ H' a = H a) ∧ Tr X.K F' v o.toD ∧ (∀ a, F a = none → F' a ≠ none → a ∈ as) := by
  cases o with
  | val d => exact ⟨F, H, I, Same.refl F, sF, fun _ _ => ⟨rfl, rfl⟩, h.1, fun a h1 h2 => absurd h1 h2⟩
  | lst ds =>
    obtain ⟨a, vs, rfl, e, hd, rfl⟩ := h
    have hn : F a = none := ha a List.mem_cons_self
    refine ⟨upd F a (.lst vs), H, I, same_of_fresh hn, fun b u eb => ?_, fun b hb => ⟨upd_ne fun z => hb (by rw [z]; exact List.mem_cons_self), rfl⟩, ?_, fun b h1 h2 => ?_⟩
    · by_cases hb : b = a
      · subst hb
        rw [upd_same] at eb
        rw [e]
        exact eb
      · rw [upd_ne hb] at eb
        exact sF b u eb
    · exact .lst (.inl (Rd.of upd_same)) (dpAll_mono (same_of_fresh hn) ds hd)
    · by_cases hb : b = a
      · rw [hb]
        exact List.mem_cons_self
      · rw [upd_ne hb] at h2
        exact absurd h1 h2
  | dct ds =>
    obtain ⟨a, kvs, rfl, e, hd, rfl⟩ := h
    have hn : F a = none := ha a List.mem_cons_self
    obtain ⟨od, I'⟩ := I.lock e trivial
    refine ⟨upd F a (.frz od (.dK kvs)), upd H a (.frz od (.dK kvs)), I', same_of_fresh hn, same_both sF, fun b hb => ?_, .dct upd_same (dpKv_mono (same_of_fresh hn) ds hd), fun b h1 h2 => ?_⟩
    · have hne : b ≠ a := fun z => hb (by rw [z]; exact List.mem_cons_self)
      exact ⟨upd_ne hne, upd_ne hne⟩
    · by_cases hb : b = a
      · rw [hb]
        exact List.mem_cons_self
      · rw [upd_ne hb] at h2
        exact absurd h1 h2
  | obj C fs => cases hz
  | hole => cases hz

abbrev S := List (Option O)
variable {np : Nat}
/-- what stays through a def's body: the objects of others, the first slots -/
structure Gd where
  h : Hp
  p : L2.St
/-- the slots σ and the heap H bear S: F is frozen, G is kept as it is (F's, and what others own); ps: the addresses of each slot's own thing -/
structure Rel (np : Nat) (K : PySem.W.Frag) (F : Hp) (G : Gd) (S : S) (σ : L2.St) (H : Hp) (ps : List (List Addr)) : Prop where
  sF : Same F H
  sG : Same G.h H
  pin : σ.take G.p.length = G.p
  few : G.p.length ≤ np
  fg : ∀ a u, G.h a = some u → F a = none
  lenP : ps.length = S.length
  lenS : σ.length = S.length
  at_ : ∀ (i : Nat) (o : O), S[i]? = some (some o) → ∃ v as, σ[i]? = some (some v) ∧ ps[i]? = some as ∧ Own K F H v o as
  nd : ps.flatten.Nodup
  apart : ∀ a ∈ ps.flatten, F a = none ∧ G.h a = none ∧ ∃ u, H a = some u

section
variable {K : PySem.W.Frag} {F F' : Hp} {G : Gd} {s s' : S} {σ : L2.St} {H H' : Hp} {ps : List (List Addr)}
theorem mem_flat {ps : List (List Addr)} {i : Nat} {as : List Addr} {a : Addr} (h : ps[i]? = some as) (ha : a ∈ as) : a ∈ ps.flatten :=
  List.mem_flatten.mpr ⟨as, List.mem_of_getElem? h, ha⟩
/-- the heap grows, more is frozen: of what is new -/
theorem Rel.grow (R : Rel np K F G s σ H ps) (sF : Same F F') (sF' : Same F' H') (sH : Same H H') (new : ∀ a ∈ ps.flatten, F' a = none) (fg : ∀ a u, G.h a = some u → F' a = none) : Rel np K F' G s σ H' ps where
  sF := sF'
  sG := R.sG.trans sH
  pin := R.pin
  few := R.few
  fg := fg
  lenP := R.lenP
  lenS := R.lenS
  at_ := fun i o e => by
    obtain ⟨v, as, h1, h2, h3⟩ := R.at_ i o e
    exact ⟨v, as, h1, h2, h3.mono sF fun a _ u e => sH a u e⟩
  nd := R.nd
  apart := fun a ha => by
    obtain ⟨h1, h2, u, h3⟩ := R.apart a ha
    exact ⟨new a ha, h2, u, sH a u h3⟩
/-- a new object at p, frozen -/
theorem Rel.laid (R : Rel np K F G s σ H ps) {p : Addr} {o : HO} (hp : H p = none) : Rel np K (upd F p o) G s σ (upd H p o) ps ∧ Same F (upd F p o) := by
  have hF : F p = none := R.sF.free hp
  refine ⟨R.grow (same_of_fresh hF) (same_both R.sF) (same_of_fresh hp) (fun a ha => ?_) fun a u e => by rw [upd_ne (ne_of_none (R.sG a u e) hp)]; exact R.fg a u e, same_of_fresh hF⟩
  obtain ⟨h1, _, u, h3⟩ := R.apart a ha
  rw [upd_ne (ne_of_none h3 hp)]
  exact h1
/-- a new object at p, not frozen -/
theorem Rel.new (R : Rel np K F G s σ H ps) {p : Addr} {o : HO} (hp : H p = none) : Rel np K F G s σ (upd H p o) ps ∧ F p = none ∧ G.h p = none ∧ p ∉ ps.flatten := by
  have sH := same_of_fresh (o := o) hp
  refine ⟨R.grow (Same.refl F) (R.sF.trans sH) sH (fun a ha => (R.apart a ha).1) R.fg, R.sF.free hp, R.sG.free hp, fun hm => ?_⟩
  obtain ⟨_, _, u, e⟩ := R.apart p hm
  rw [hp] at e
  cases e
/-- other slots' values, the same things -/
theorem Rel.vals (R : Rel np K F G s σ H ps) {σ' : L2.St} (hl : σ'.length = σ.length) (hp : σ'.take G.p.length = G.p) (h : ∀ (i : Nat) (o : O), s[i]? = some (some o) → σ'[i]? = σ[i]?) : Rel np K F G s σ' H ps where
  sF := R.sF
  sG := R.sG
  pin := hp
  few := R.few
  fg := R.fg
  lenP := R.lenP
  lenS := hl.trans R.lenS
  at_ := fun i o e => by
    obtain ⟨v, as, h1, h2, h3⟩ := R.at_ i o e
    exact ⟨v, as, (h i o e).trans h1, h2, h3⟩
  nd := R.nd
  apart := R.apart
theorem nodup_set {ps : List (List Addr)} {i : Nat} {as : List Addr} (nd : ps.flatten.Nodup) (ha : as.Nodup) (hd : ∀ a ∈ as, ∀ (j : Nat) bs, j ≠ i → ps[j]? = some bs → a ∉ bs) : (ps.set i as).flatten.Nodup := by
  induction ps generalizing i with
  | nil => exact nd
  | cons b ps ih =>
    rw [List.flatten_cons, List.nodup_append] at nd
    obtain ⟨n1, n2, n3⟩ := nd
    cases i with
    | zero =>
      rw [List.set_cons_zero, List.flatten_cons, List.nodup_append]
      refine ⟨ha, n2, fun x hx y hy e => ?_⟩
      subst e
      obtain ⟨bs, hbs, hy⟩ := List.mem_flatten.mp hy
      obtain ⟨j, hj⟩ := List.getElem?_of_mem hbs
      exact hd x hx (j + 1) bs (by omega) (by simpa using hj) hy
    | succ i =>
      rw [List.set_cons_succ, List.flatten_cons, List.nodup_append]
      refine ⟨n1, ih n2 fun a ha' j bs hj hbs => hd a ha' (j + 1) bs (by omega) (by simpa using hbs), fun x hx y hy e => ?_⟩
      subst e
      obtain ⟨bs, hbs, hy⟩ := List.mem_flatten.mp hy
      obtain ⟨j, hj⟩ := List.getElem?_of_mem hbs
      by_cases c : j = i
      · subst c
        have hlt : j < ps.length := by
          have h1 : j < (ps.set j as).length := (List.getElem?_eq_some_iff.mp hj).1
          rwa [List.length_set] at h1
        rw [List.getElem?_set_self hlt] at hj
        have e' := Option.some.inj hj
        subst e'
        exact hd x hy 0 b (by omega) rfl hx
      · rw [List.getElem?_set_ne (Ne.symm c)] at hj
        exact n3 x hx x (mem_flat hj hy) rfl
theorem mem_set_flat {ps : List (List Addr)} {i : Nat} {as : List Addr} {a : Addr} (h : a ∈ (ps.set i as).flatten) : a ∈ as ∨ a ∈ ps.flatten := by
  obtain ⟨bs, hbs, hy⟩ := List.mem_flatten.mp h
  rcases List.mem_or_eq_of_mem_set hbs with z | z
  · exact .inr (List.mem_flatten.mpr ⟨bs, z, hy⟩)
  · subst z
    exact .inl hy
theorem flat_apart {ps : List (List Addr)} (nd : ps.flatten.Nodup) {i j : Nat} {as bs : List Addr} (hi : ps[i]? = some as) (hj : ps[j]? = some bs) (hij : j ≠ i) {a : Addr} (ha : a ∈ as) : a ∉ bs := by
  induction ps generalizing i j with
  | nil => simp at hi
  | cons b ps ih =>
    rw [List.flatten_cons, List.nodup_append] at nd
    obtain ⟨n1, n2, n3⟩ := nd
    intro hb
    cases i with
    | zero =>
      cases j with
      | zero => exact hij rfl
      | succ j =>
        have e := Option.some.inj hi
        subst e
        exact n3 a ha a (mem_flat (by simpa using hj) hb) rfl
    | succ i =>
      cases j with
      | zero =>
        have e := Option.some.inj hj
        subst e
        exact n3 a hb a (mem_flat (by simpa using hi) ha) rfl
      | succ j => exact ih n2 (by simpa using hi) (by simpa using hj) (by omega) hb
theorem nodup_at {ps : List (List Addr)} (nd : ps.flatten.Nodup) {i : Nat} {as : List Addr} (h : ps[i]? = some as) : as.Nodup := by
  induction ps generalizing i with
  | nil => simp at h
  | cons b ps ih =>
    rw [List.flatten_cons, List.nodup_append] at nd
    cases i with
    | zero =>
      have e := Option.some.inj h
      subst e
      exact nd.1
    | succ i => exact ih nd.2.1 (by simpa using h)
/-- slot i gets another thing, as': of i's addresses or of none's; the other slots' things are as they were -/
theorem Rel.put (R : Rel np K F G s σ H ps) {i : Nat} {o' : O} {v' : V} {as' : List Addr} {σ' : L2.St} (hi : i < s.length) (sF : Same F F') (sF' : Same F' H') (sG' : Same G.h H')
    (hσ : σ' = σ.set i (some v')) (hp : σ'.take G.p.length = G.p) (fg : ∀ a u, G.h a = some u → F' a = none) (own : Own K F' H' v' o' as') (nd' : as'.Nodup) (new : ∀ a ∈ as', F' a = none ∧ G.h a = none ∧ ∀ (j : Nat) bs, j ≠ i → ps[j]? = some bs → a ∉ bs)
    (keep : ∀ (j : Nat) bs, j ≠ i → ps[j]? = some bs → ∀ a ∈ bs, F' a = none ∧ ∀ u, H a = some u → H' a = some u) :
    Rel np K F' G (s.set i (some o')) σ' H' (ps.set i as') := by
  subst hσ
  refine ⟨sF', sG', hp, R.few, fg, by rw [List.length_set, List.length_set, R.lenP], by rw [List.length_set, List.length_set, R.lenS], fun j o e => ?_, nodup_set R.nd nd' fun a ha j bs hj hb => (new a ha).2.2 j bs hj hb, fun a ha => ?_⟩
  · by_cases c : j = i
    · subst c
      rw [List.getElem?_set_self hi] at e
      have e' := Option.some.inj (Option.some.inj e)
      subst e'
      exact ⟨v', as', List.getElem?_set_self (by rw [R.lenS]; exact hi), List.getElem?_set_self (by rw [R.lenP]; exact hi), own⟩
    · rw [List.getElem?_set_ne (Ne.symm c)] at e
      obtain ⟨v, as, h1, h2, h3⟩ := R.at_ j o e
      refine ⟨v, as, (List.getElem?_set_ne (Ne.symm c)).trans h1, (List.getElem?_set_ne (Ne.symm c)).trans h2, h3.mono sF fun a ha u eu => (keep j as c h2 a ha).2 u eu⟩
  · obtain ⟨bs, hbs, hy⟩ := List.mem_flatten.mp ha
    obtain ⟨j, hj⟩ := List.getElem?_of_mem hbs
    by_cases c : j = i
    · subst c
      rw [List.getElem?_set_self (by rw [R.lenP]; exact hi)] at hj
      have e := Option.some.inj hj
      subst e
      exact ⟨(new a hy).1, (new a hy).2.1, own.there a hy⟩
    · rw [List.getElem?_set_ne (Ne.symm c)] at hj
      obtain ⟨_, h2, u, h3⟩ := R.apart a (mem_flat hj hy)
      exact ⟨(keep j bs c hj a hy).1, h2, u, (keep j bs c hj a hy).2 u h3⟩
/-- slot i forgotten -/
theorem Rel.drop (R : Rel np K F G s σ H ps) (i : Nat) {σ' : L2.St} (hl : σ'.length = σ.length) (hp : σ'.take G.p.length = G.p) (h : ∀ j, j ≠ i → σ'[j]? = σ[j]?) : Rel np K F G (s.set i none) σ' H (ps.set i []) where
  sF := R.sF
  sG := R.sG
  pin := hp
  few := R.few
  fg := R.fg
  lenP := by rw [List.length_set, List.length_set, R.lenP]
  lenS := by rw [List.length_set, hl, R.lenS]
  at_ := fun j o e => by
    by_cases c : j = i
    · subst c
      by_cases hlt : j < s.length
      · rw [List.getElem?_set_self hlt] at e
        cases e
      · rw [List.getElem?_eq_none (by rw [List.length_set]; omega)] at e
        cases e
    · rw [List.getElem?_set_ne (Ne.symm c)] at e
      obtain ⟨v, as, h1, h2, h3⟩ := R.at_ j o e
      exact ⟨v, as, (h j c).trans h1, (List.getElem?_set_ne (Ne.symm c)).trans h2, h3⟩
  nd := nodup_set R.nd List.nodup_nil fun a ha => nomatch ha
  apart := fun a ha => by
    rcases mem_set_flat ha with z | z
    · cases z
    · exact R.apart a z
/-- further objects are to stay as they are -/
def Gd.add (G : Gd) (H : Hp) (as : List Addr) : Gd := ⟨fun b => if b ∈ as then H b else G.h b, G.p⟩
theorem Rel.hold (R : Rel np K F G s σ H ps) {as : List Addr} (h : ∀ a ∈ as, F a = none ∧ G.h a = none ∧ a ∉ ps.flatten) : Rel np K F (G.add H as) s σ H ps where
  sF := R.sF
  sG := fun b u e => by
    show H b = some u
    have e' : (if b ∈ as then H b else G.h b) = some u := e
    split at e'
    · exact e'
    · exact R.sG b u e'
  pin := R.pin
  few := R.few
  fg := fun b u e => by
    have e' : (if b ∈ as then H b else G.h b) = some u := e
    split at e'
    · rename_i hb
      exact (h b hb).1
    · exact R.fg b u e'
  lenP := R.lenP
  lenS := R.lenS
  at_ := R.at_
  nd := R.nd
  apart := fun a ha => by
    obtain ⟨h1, h2, h3⟩ := R.apart a ha
    refine ⟨h1, ?_, h3⟩
    show (if a ∈ as then H a else G.h a) = none
    rw [if_neg fun z => (h a z).2.2 ha]
    exact h2
theorem Rel.unhold {H0 : Hp} {as : List Addr} (hG : ∀ a ∈ as, G.h a = none ∧ ∃ u, H0 a = some u) (R : Rel np K F (G.add H0 as) s σ H ps) : Rel np K F G s σ H ps ∧ ∀ a ∈ as, F a = none ∧ a ∉ ps.flatten ∧ ∀ u, H0 a = some u → H a = some u := by
  have at0 : ∀ b, b ∈ as → (G.add H0 as).h b = H0 b := fun b hb => if_pos hb
  have at1 : ∀ b u, G.h b = some u → (G.add H0 as).h b = some u := fun b u e => by
    show (if b ∈ as then H0 b else G.h b) = some u
    rw [if_neg fun z => by rw [(hG b z).1] at e; cases e]
    exact e
  refine ⟨⟨R.sF, fun b u e => R.sG b u (at1 b u e), R.pin, R.few, fun b u e => R.fg b u (at1 b u e), R.lenP, R.lenS, R.at_, R.nd, fun a ha => ?_⟩, fun a ha => ?_⟩
  · obtain ⟨h1, h2, h3⟩ := R.apart a ha
    refine ⟨h1, ?_, h3⟩
    cases e : G.h a with
    | none => rfl
    | some u =>
      rw [at1 a u e] at h2
      cases h2
  · obtain ⟨u, e⟩ := (hG a ha).2
    refine ⟨R.fg a u ((at0 a ha).trans e), fun z => ?_, fun u' e' => R.sG a u' ((at0 a ha).trans e')⟩
    have h2 := (R.apart a z).2.1
    rw [at0 a ha, e] at h2
    cases h2
end
end Dv

/-! The judgements by trees. -/
namespace Dv
open PySem PySem.Spec PyProof.Rows L2
variable {np : Nat}

/-- an operand: a frozen value, or a slot that is looked at when the operation is done -/
inductive Rf where
  | d (x : D)
  | s (i : Nat)
abbrev MO := S → Option (O × S)
abbrev MV := S → Option (D × S)
abbrev MR := S → Option (Rf × S)
abbrev MB := S → Option (Bool × S)

/-- an expression whose result may be own -/
def tO (np : Nat) (K : PySem.W.Frag) (m : MO) : TE := fun σ H Q => ∃ F G s ps, Rel np K F G s σ H ps ∧ ∃ o s', m s = some (o, s') ∧ ∀ v H' F' ps' as, Rel np K F' G s' σ H' ps' → Same F F' → Own K F' H' v o as → as.Nodup →
  (∀ a ∈ as, F' a = none ∧ G.h a = none ∧ a ∉ ps'.flatten) → Q v H'
/-- one whose result is frozen -/
def tV (np : Nat) (K : PySem.W.Frag) (m : MV) : TE := fun σ H Q => ∃ F G s ps, Rel np K F G s σ H ps ∧ ∃ d s', m s = some (d, s') ∧ ∀ v H' F' ps', Rel np K F' G s' σ H' ps' → Same F F' → Tr K F' v d → Q v H'
/-- what an operand stands for -/
def RfAt (K : PySem.W.Frag) (F : Hp) (σ : L2.St) (v : V) : Rf → Prop
  | .d x => Tr K F v x
  | .s i => σ[i]? = some (some v)
def tR (np : Nat) (K : PySem.W.Frag) (m : MR) : TE := fun σ H Q => ∃ F G s ps, Rel np K F G s σ H ps ∧ ∃ r s', m s = some (r, s') ∧ ∀ v H' F' ps', Rel np K F' G s' σ H' ps' → Same F F' → RfAt K F' σ v r → Q v H'
def tB (np : Nat) (K : PySem.W.Frag) (m : MB) : TT := fun σ H Q => ∃ F G s ps, Rel np K F G s σ H ps ∧ ∃ b s', m s = some (b, s') ∧ ∀ H' F' ps', Rel np K F' G s' σ H' ps' → Same F F' → Q b H'

/-- the same slots over a later heap -/
theorem Rel.over2 {K : PySem.W.Frag} {F F' H H' : Hp} {G : Gd} {s : S} {σ : L2.St} {ps : List (List Addr)} (R : Rel np K F G s σ H ps) (sF : Same F F') (sF' : Same F' H') (sG : Same G.h H') (fg : ∀ a u, G.h a = some u → F' a = none) (keep : ∀ b ∈ ps.flatten, F' b = none ∧ ∀ u, H b = some u → H' b = some u) : Rel np K F' G s σ H' ps where
  sF := sF'
  sG := sG
  pin := R.pin
  few := R.few
  fg := fg
  lenP := R.lenP
  lenS := R.lenS
  at_ := fun i o e => by
    obtain ⟨v, as, h1, h2, h3⟩ := R.at_ i o e
    exact ⟨v, as, h1, h2, h3.mono sF fun a ha u eu => (keep a (mem_flat h2 ha)).2 u eu⟩
  nd := R.nd
  apart := fun a ha => by
    obtain ⟨_, h2, u, h3⟩ := R.apart a ha
    exact ⟨(keep a ha).1, h2, u, (keep a ha).2 u h3⟩
section
variable {X : Cx} {e : Expr}
theorem pe_imp {t t' : TE} (h : PE X e t) (i : ∀ σ H Q, t' σ H Q → t σ H Q) : PE X e t' := ⟨fun pins s σ H Q I q => h.run pins s σ H Q I (i σ H Q q)⟩
theorem pt_imp {t t' : TT} (h : PT X e t) (i : ∀ σ H Q, t' σ H Q → t σ H Q) : PT X e t' := ⟨fun pins s σ H Q I q => h.run pins s σ H Q I (i σ H Q q)⟩
theorem pw_imp {t t' : TT} (h : PW X e t) (i : ∀ σ H Q, t' σ H Q → t σ H Q) : PW X e t' := ⟨fun whole pins s σ H Q I q => h.run whole pins s σ H Q I (i σ H Q q)⟩
theorem pa_imp {es : List Expr} {t t' : TA} (h : PA X es t) (i : ∀ σ H Q, t' σ H Q → t σ H Q) : PA X es t' := ⟨fun pos pins s σ H Q I q => h.run pos pins s σ H Q I (i σ H Q q)⟩

/-! ### from one judgement to another -/
def frz (m : MO) : MV := fun s => (m s).bind fun p => if p.1.fz = true then some (p.1.toD, p.2) else none
def rV (m : MV) : MR := fun s => (m s).map fun p => (.d p.1, p.2)
def oV (m : MV) : MO := fun s => (m s).map fun p => (.val p.1, p.2)
theorem if_someB {α : Type} {c : Prop} [Decidable c] {a b : α} (h : (if c then some a else none) = some b) : c ∧ a = b := by
  split at h
  · rename_i hc
    exact ⟨hc, Option.some.inj h⟩
  · cases h
theorem e_frz {m : MO} (h : PE X e (tO np X.K m)) : PE X e (tV np X.K (frz m)) := ⟨fun pins s0 σ H Q I ⟨F, G, s, ps, R, d, s', hm, q⟩ => by
  unfold frz at hm
  obtain ⟨⟨o, s2⟩, h1, h2⟩ := Option.bind_eq_some_iff.mp hm
  obtain ⟨hz, h2⟩ := if_someB h2
  cases h2
  refine thn (h.run pins s0 σ H (fun v H' => ∃ F' ps' as, Rel np X.K F' G s2 σ H' ps' ∧ Same F F' ∧ Own X.K F' H' v o as ∧ as.Nodup ∧ ∀ a ∈ as, F' a = none ∧ G.h a = none ∧ a ∉ ps'.flatten) I ⟨F, G, s, ps, R, o, s2, h1, fun v H' F' ps' as R' sF own nd new => ⟨F', ps', as, R', sF, own, nd, new⟩⟩) fun u s1 ⟨v, H', I', r, F', ps', as, R', sF, own, nd, new⟩ => ?_
  obtain ⟨F2, H2, I2, f1, f2, f3, f4, f5⟩ := own.freeze I' hz R'.sF fun a ha => (new a ha).1
  refine ⟨v, H2, I2, r, q v H2 F2 ps' (R'.over2 f1 f2 (fun a u eu => ?_) (fun a u eu => ?_) fun a ha => ?_) (sF.trans f1) f4⟩
  · rw [(f3 a fun z => by rw [(new a z).2.1] at eu; cases eu).2]
    exact R'.sG a u eu
  · rw [(f3 a fun z => by rw [(new a z).2.1] at eu; cases eu).1]
    exact R'.fg a u eu
  · have hn : a ∉ as := fun z => (new a z).2.2 ha
    exact ⟨by rw [(f3 a hn).1]; exact (R'.apart a ha).1, fun u eu => by rw [(f3 a hn).2]; exact eu⟩⟩
theorem e_rV {m : MV} (h : PE X e (tV np X.K m)) : PE X e (tR np X.K (rV m)) := pe_imp h fun σ H Q ⟨F, G, s, ps, R, r, s', hm, q⟩ => by
  unfold rV at hm
  obtain ⟨⟨d, s2⟩, h1, h2⟩ := Option.map_eq_some_iff.mp hm
  cases h2
  exact ⟨F, G, s, ps, R, d, s2, h1, fun v H' F' ps' R' sF hd => q v H' F' ps' R' sF hd⟩
theorem e_oV {m : MV} (h : PE X e (tV np X.K m)) : PE X e (tO np X.K (oV m)) := pe_imp h fun σ H Q ⟨F, G, s, ps, R, o, s', hm, q⟩ => by
  unfold oV at hm
  obtain ⟨⟨d, s2⟩, h1, h2⟩ := Option.map_eq_some_iff.mp hm
  cases h2
  exact ⟨F, G, s, ps, R, d, s2, h1, fun v H' F' ps' R' sF hd => q v H' F' ps' [] R' sF ⟨hd, rfl⟩ List.nodup_nil fun a ha => nomatch ha⟩
/-- an own result as an operand -/
def rO (m : MO) : MR := rV (frz m)
theorem e_rO {m : MO} (h : PE X e (tO np X.K m)) : PE X e (tR np X.K (rO m)) := e_rV (e_frz h)

/-! ### names and constants -/
/-- a slot looked at where the operation is done -/
def rB (i : Nat) : MR := fun s => match s[i]? with
  | some (some _) => some (.s i, s)
  | _ => none
/-- a slot read: what is own there is frozen -/
def vVar (i : Nat) : MV := fun s => match s[i]? with
  | some (some o) => if o.fz = true then some (o.toD, s.set i (some (.val o.toD))) else none
  | _ => none
/-- an own thing of a slot handed away -/
def oMove (i : Nat) : MO := fun s => match s[i]? with
  | some (some o) => some (o, s.set i none)
  | _ => none
def vCon (d : D) : MV := fun s => some (d, s)
theorem slot_some {α : Type} {s : S} {i : Nat} {f : O → Option α} {r : α} (h : (match s[i]? with | some (some o) => f o | _ => none) = some r) : ∃ o, s[i]? = some (some o) ∧ f o = some r := by
  split at h
  · rename_i o e
    exact ⟨o, e, h⟩
  · cases h
theorem e_rB {i : Nat} (h : PE X e (tVar i)) : PE X e (tR np X.K (rB i)) := pe_imp h fun σ H Q ⟨F, G, s, ps, R, r, s', hm, q⟩ => by
  obtain ⟨o, e1, e2⟩ := slot_some hm
  cases e2
  obtain ⟨v, as, h1, _, _⟩ := R.at_ i o e1
  exact ⟨v, h1, q v H F ps R (Same.refl F) h1⟩
/-- slot i's thing frozen -/
theorem Rel.frzAt {X : Cx} {pins : List (Addr × Obj)} {s0 : Shared} {F H : Hp} {G : Gd} {s : S} {σ : L2.St} {ps : List (List Addr)} (I : Inv X pins σ H s0) (R : Rel np X.K F G s σ H ps) {i : Nat} {o : O} (e1 : s[i]? = some (some o)) (hz : o.fz = true) :
    ∃ v F2 H2, σ[i]? = some (some v) ∧ Inv X pins σ H2 s0 ∧ Rel np X.K F2 G (s.set i (some (.val o.toD))) σ H2 (ps.set i []) ∧ Same F F2 ∧ Tr X.K F2 v o.toD := by
  obtain ⟨v, as, h1, h2, h3⟩ := R.at_ i o e1
  obtain ⟨F2, H2, I2, f1, f2, f3, f4, f5⟩ := h3.freeze I hz R.sF fun a ha => (R.apart a (mem_flat h2 ha)).1
  have hi : i < s.length := (List.getElem?_eq_some_iff.mp e1).1
  have hσ : σ = σ.set i (some v) := by
    apply List.ext_getElem?
    intro j
    by_cases c : i = j
    · subst c
      rw [List.getElem?_set_self (by rw [R.lenS]; exact hi), h1]
    · rw [List.getElem?_set_ne c]
  have gG : ∀ a u, G.h a = some u → F2 a = none ∧ H2 a = some u := fun a u eu => by
    have hn := f3 a fun z => by rw [(R.apart a (mem_flat h2 z)).2.1] at eu; cases eu
    exact ⟨by rw [hn.1]; exact R.fg a u eu, by rw [hn.2]; exact R.sG a u eu⟩
  refine ⟨v, F2, H2, h1, I2, R.put hi f1 f2 (fun a u eu => (gG a u eu).2) hσ R.pin (fun a u eu => (gG a u eu).1) ⟨f4, rfl⟩ List.nodup_nil (fun a ha => nomatch ha) fun j bs hj hb a ha => ?_, f1, f4⟩
  have hn := f3 a fun z => flat_apart R.nd h2 hb hj z ha
  exact ⟨by rw [hn.1]; exact (R.apart a (mem_flat hb ha)).1, fun u eu => by rw [hn.2]; exact eu⟩
theorem e_vVar {i : Nat} (h : PE X e (tVar i)) : PE X e (tV np X.K (vVar i)) := ⟨fun pins s0 σ H Q I ⟨F, G, s, ps, R, d, s', hm, q⟩ => by
  obtain ⟨o, e1, e2⟩ := slot_some hm
  obtain ⟨hz, e2⟩ := if_someB e2
  cases e2
  obtain ⟨v, F2, H2, h1, I2, R2, f1, f4⟩ := R.frzAt I e1 hz
  exact h.run pins s0 σ H2 Q I2 ⟨v, h1, q v H2 F2 (ps.set i []) R2 f1 f4⟩⟩
theorem e_oMove {i : Nat} (h : PE X e (tVar i)) : PE X e (tO np X.K (oMove i)) := pe_imp h fun σ H Q ⟨F, G, s, ps, R, o, s', hm, q⟩ => by
  obtain ⟨o', e1, e2⟩ := slot_some hm
  cases e2
  obtain ⟨v, as, h1, h2, h3⟩ := R.at_ i o e1
  refine ⟨v, h1, q v H F (ps.set i []) as (R.drop i rfl R.pin fun _ _ => rfl) (Same.refl F) h3 ?_ fun a ha => ⟨(R.apart a (mem_flat h2 ha)).1, (R.apart a (mem_flat h2 ha)).2.1, fun z => ?_⟩⟩
  · exact nodup_at R.nd h2
  · obtain ⟨bs, hb, hy⟩ := List.mem_flatten.mp z
    obtain ⟨j, hj⟩ := List.getElem?_of_mem hb
    by_cases c : j = i
    · subst c
      have hlt : j < ps.length := (List.getElem?_eq_some_iff.mp h2).1
      rw [List.getElem?_set_self hlt] at hj
      cases hj
      cases hy
    · rw [List.getElem?_set_ne (Ne.symm c)] at hj
      exact flat_apart R.nd h2 hj c ha hy
theorem e_con {v : V} {d : D} (h : PE X e (tC v)) (hd : ∀ F, Tr X.K F v d) : PE X e (tV np X.K (vCon d)) := pe_imp h fun σ H Q ⟨F, G, s, ps, R, d', s', hm, q⟩ => by
  cases hm
  exact q v H F ps R (Same.refl F) (hd F)
theorem e_int {i : Int} {j : Nat} {pos : Pos} : PE X (.Constant (.int i) j pos) (tV np X.K (vCon (.int i))) := e_con pe_int fun _ => .int i
theorem e_bl {b : Bool} {j : Nat} {pos : Pos} : PE X (.Constant (.bool b) j pos) (tV np X.K (vCon (.bool b))) := e_con pe_bl fun _ => .bl b
theorem e_str {x : Str} {j : Nat} {pos : Pos} : PE X (.Constant (.str x) j pos) (tV np X.K (vCon (.str x))) := e_con pe_str fun _ => .str x
end

/-! ### operands in a row -/
def evR : List MR → S → Option (List Rf × S)
  | [], s => some ([], s)
  | m :: ms, s => (m s).bind fun p => (evR ms p.2).map fun q => (p.1 :: q.1, q.2)
def RfAll (K : PySem.W.Frag) (F : Hp) (σ : L2.St) : List V → List Rf → Prop
  | [], [] => True
  | v :: vs, r :: rs => RfAt K F σ v r ∧ RfAll K F σ vs rs
  | _, _ => False
def tA (np : Nat) (K : PySem.W.Frag) (ms : List MR) : TA := fun σ H Q => ∃ F G s ps, Rel np K F G s σ H ps ∧ ∃ rs s', evR ms s = some (rs, s') ∧ ∀ vs H' F' ps', Rel np K F' G s' σ H' ps' → Same F F' → RfAll K F' σ vs rs → Q vs H'
theorem rfAt_mono {K : PySem.W.Frag} {F F' : Hp} {σ : L2.St} {v : V} {r : Rf} (s : Same F F') (h : RfAt K F σ v r) : RfAt K F' σ v r := by
  cases r with
  | d x => exact dp_mono s x h
  | s i => exact h
section
variable {X : Cx} {e : Expr} {es : List Expr}
theorem a_nil : PA X [] (tA np X.K []) := pa_imp pa_nil fun σ H Q ⟨F, G, s, ps, R, rs, s', hm, q⟩ => by
  cases hm
  exact q [] H F ps R (Same.refl F) trivial
theorem bind_some {α β : Type} {x : Option α} {f : α → Option β} {b : β} (h : x.bind f = some b) : ∃ a, x = some a ∧ f a = some b := Option.bind_eq_some_iff.mp h
theorem a_cons {m : MR} {ms : List MR} (he : PE X e (tR np X.K m)) (hs : PA X es (tA np X.K ms)) (hst : starEach (e :: es) X.env = (false, eval e X.env) :: starEach es X.env := by rfl) : PA X (e :: es) (tA np X.K (m :: ms)) :=
  pa_imp (pa_cons he hs hst) fun σ H Q ⟨F, G, s, ps, R, rs, s', hm, q⟩ => by
    obtain ⟨⟨r, s1⟩, h1, h2⟩ := bind_some hm
    obtain ⟨⟨rs', s2⟩, h3, h4⟩ := Option.map_eq_some_iff.mp h2
    cases h4
    refine ⟨F, G, s, ps, R, r, s1, h1, fun v H1 F1 ps1 R1 s01 hv => ⟨F1, G, s1, ps1, R1, rs', s2, h3, fun vs H2 F2 ps2 R2 s12 hvs => ?_⟩⟩
    exact q (v :: vs) H2 F2 ps2 R2 (s01.trans s12) ⟨rfAt_mono s12 hv, hvs⟩
end

/-! ### what an operation by data gives -/
/-- a value that is looked at: frozen, or a slot's own list -/
def Lnt (K : PySem.W.Frag) (F H : Hp) (v : V) (d : D) : Prop := Tr K F v d ∨ (∃ a vs ds, v = .ref a ∧ d = .list ds ∧ H a = some (.lst vs) ∧ TrAll K F vs ds) ∨ ∃ a kvs ds, v = .ref a ∧ d = .dict ds ∧ H a = some (.dK kvs) ∧ TrKv K F kvs ds
def LntAll (K : PySem.W.Frag) (F H : Hp) : List V → List D → Prop
  | [], [] => True
  | v :: vs, d :: ds => Lnt K F H v d ∧ LntAll K F H vs ds
  | _, _ => False
section
variable {K : PySem.W.Frag} {F H : Hp}
theorem lnt_dp (s : Same F H) {v : V} {d : D} (hp : d.plain = true) (h : Lnt K F H v d) : Tr K H v d := by
  rcases h with h | ⟨a, vs, ds, rfl, rfl, e, h⟩ | ⟨a, kvs, ds, rfl, rfl, e, h⟩
  · exact dp_mono s d h
  · exact .lst (.inl (Rd.of e)) (dpAll_mono s ds h)
  · simp [PyData.plain] at hp
theorem lnt_list (s : Same F H) {v : V} {ds : List D} (h : Lnt K F H v (.list ds)) : ∃ a vs, v = .ref a ∧ LsK K H a vs ∧ TrAll K F vs ds := by
  rcases h with h | ⟨a, vs, ds', rfl, e1, e, h⟩ | ⟨a, vs, ds', rfl, e1, e, h⟩
  · cases h with
    | lst h1 h2 => exact ⟨_, _, rfl, lsk_mono s h1, h2⟩
  · cases e1
    exact ⟨a, vs, rfl, .inl (Rd.of e), h⟩
  · cases e1
theorem lnt_dict (s : Same F H) {v : V} {ds : List (D × D)} (h : Lnt K F H v (.dict ds)) : ∃ a kvs, v = .ref a ∧ Rd H a (.dK kvs) ∧ TrKv K F kvs ds := by
  rcases h with h | ⟨a, vs, ds', rfl, e1, e, h⟩ | ⟨a, vs, ds', rfl, e1, e, h⟩
  · cases h with
    | dct h1 h2 => exact ⟨_, _, rfl, .inr ⟨_, s _ _ h1⟩, h2⟩
  · cases e1
  · cases e1
    exact ⟨a, vs, rfl, .inl e, h⟩
theorem lnt_tuple {v : V} {ds : List D} (h : Lnt K F H v (.tuple ds)) : ∃ a vs, v = .ref a ∧ SqT K F a vs ∧ TrAll K F vs ds := by
  rcases h with h | ⟨a, vs, ds', rfl, e1, e, h⟩ | ⟨a, vs, ds', rfl, e1, e, h⟩
  · cases h with
    | tup h1 h2 => exact ⟨_, _, rfl, h1, h2⟩
  · cases e1
  · cases e1
theorem lnt_int {v : V} {i : Int} (h : Lnt K F H v (.int i)) : v = .int i := by
  rcases h with h | ⟨a, vs, ds', rfl, e1, e, h⟩ | ⟨a, vs, ds', rfl, e1, e, h⟩
  · cases h
    rfl
  · cases e1
  · cases e1
theorem lnt_bool {v : V} {b : Bool} (h : Lnt K F H v (.bool b)) : v = .bl b := by
  rcases h with h | ⟨a, vs, ds', rfl, e1, e, h⟩ | ⟨a, vs, ds', rfl, e1, e, h⟩
  · cases h
    rfl
  · cases e1
  · cases e1
theorem lnt_str {v : V} {x : Str} (h : Lnt K F H v (.str x)) : v = .str x := by
  rcases h with h | ⟨a, vs, ds', rfl, e1, e, h⟩ | ⟨a, vs, ds', rfl, e1, e, h⟩
  · cases h
    rfl
  · cases e1
  · cases e1
theorem lnt_none {v : V} (h : Lnt K F H v .none) : v = .non := by
  rcases h with h | ⟨a, vs, ds', rfl, e1, e, h⟩ | ⟨a, vs, ds', rfl, e1, e, h⟩
  · cases h
    rfl
  · cases e1
  · cases e1
end
/-- what an operation hands back: a frozen value that was there (or a plain one), a new tuple, a new list -/
inductive Out (K : PySem.W.Frag) (F H : Hp) : O → V → Hp → Prop
  | old {d : D} {v : V} : Tr K F v d → Out K F H (.val d) v H
  | tup {ds : List D} {vs : List V} {p : Addr} : H p = none → TrAll K F vs ds → Out K F H (.val (.tuple ds)) (.ref p) (upd H p (.tup vs))
  | lst {ds : List D} {vs : List V} {p : Addr} : H p = none → TrAll K F vs ds → Out K F H (.lst ds) (.ref p) (upd H p (.lst vs))
/-- an operation by data -/
def rG (K : PySem.W.Frag) (g : List D → Option O) : List V → Hp → VK → Prop := fun vs H Q => ∃ F ds o, Same F H ∧ LntAll K F H vs ds ∧ g ds = some o ∧ ∀ v H', Out K F H o v H' → Q v H'
def Rf.look (s : S) : Rf → Option D
  | .d x => some x
  | .s i => match s[i]? with
    | some (some o) => if o.fz = true then some o.toD else none
    | _ => none
def looks (s : S) : List Rf → Option (List D)
  | [] => some []
  | r :: rs => (r.look s).bind fun d => (looks s rs).map fun ds => d :: ds
def mOp (g : List D → Option O) (ms : List MR) : MO := fun s => (evR ms s).bind fun p => (looks p.2 p.1).bind fun ds => (g ds).map fun o => (o, p.2)
section
variable {K : PySem.W.Frag} {F H : Hp} {G : Gd} {s : S} {σ : L2.St} {ps : List (List Addr)}
theorem look_lnt (R : Rel np K F G s σ H ps) {v : V} {r : Rf} {d : D} (h : RfAt K F σ v r) (e : r.look s = some d) : Lnt K F H v d := by
  cases r with
  | d x =>
    cases e
    exact .inl h
  | s i =>
    obtain ⟨o, e1, e2⟩ := slot_some (s := s) (i := i) (f := fun o => if o.fz = true then some o.toD else none) e
    obtain ⟨hz, e2⟩ := if_someB e2
    cases e2
    obtain ⟨v', as, h1, h2, h3⟩ := R.at_ i o e1
    have ev : v' = v := by
      rw [show σ[i]? = some (some v) from h] at h1
      exact (Option.some.inj (Option.some.inj h1)).symm
    subst ev
    cases o with
    | val d => exact .inl h3.1
    | lst ds =>
      obtain ⟨a, vs, e3, e4, hd, _⟩ := h3
      exact .inr (.inl ⟨a, vs, ds, e3, rfl, e4, hd⟩)
    | dct ds =>
      obtain ⟨a, vs, e3, e4, hd, _⟩ := h3
      exact .inr (.inr ⟨a, vs, ds, e3, rfl, e4, hd⟩)
    | obj C fs => cases hz
    | hole => cases hz
theorem looks_lnt (R : Rel np K F G s σ H ps) : ∀ {vs : List V} {rs : List Rf} {ds : List D}, RfAll K F σ vs rs → looks s rs = some ds → LntAll K F H vs ds
  | [], [], ds, _, e => by
    cases e
    trivial
  | v :: vs, r :: rs, ds, h, e => by
    obtain ⟨d, h1, h2⟩ := bind_some e
    obtain ⟨ds', h3, h4⟩ := Option.map_eq_some_iff.mp h2
    cases h4
    exact ⟨look_lnt R h.1 h1, looks_lnt R h.2 h3⟩
  | [], _ :: _, _, h, _ => h.elim
  | _ :: _, [], _, h, _ => h.elim
theorem rfAll_len {K : PySem.W.Frag} {F : Hp} {σ : L2.St} : ∀ {vs : List V} {rs : List Rf}, RfAll K F σ vs rs → vs.length = rs.length
  | [], [], _ => rfl
  | v :: vs, r :: rs, h => congrArg (· + 1) (rfAll_len h.2)
  | [], _ :: _, h => h.elim
  | _ :: _, [], h => h.elim
/-- what came out, borne by the slots -/
theorem Out.rel {o : O} {v : V} {H' : Hp} (h : Out K F H o v H') (R : Rel np K F G s σ H ps) : ∃ F' as, Rel np K F' G s σ H' ps ∧ Same F F' ∧ Own K F' H' v o as ∧ as.Nodup ∧ ∀ a ∈ as, F' a = none ∧ G.h a = none ∧ a ∉ ps.flatten := by
  cases h with
  | old hd => exact ⟨F, [], R, Same.refl F, ⟨hd, rfl⟩, List.nodup_nil, fun a ha => nomatch ha⟩
  | @tup ds vs p hp hd =>
    obtain ⟨R', sF⟩ := R.laid (o := .tup vs) hp
    exact ⟨_, [], R', sF, ⟨.tup (SqT.of upd_same) (dpAll_mono sF ds hd), rfl⟩, List.nodup_nil, fun a ha => nomatch ha⟩
  | @lst ds vs p hp hd =>
    obtain ⟨R', h1, h2, h3⟩ := R.new (o := .lst vs) hp
    refine ⟨F, [p], R', Same.refl F, ⟨p, vs, rfl, upd_same, hd, rfl⟩, by simp, fun a ha => ?_⟩
    rw [List.mem_singleton.mp ha]
    exact ⟨h1, h2, h3⟩
end
theorem map_some {α β : Type} {x : Option α} {f : α → β} {b : β} (h : x.map f = some b) : ∃ a, x = some a ∧ f a = b := Option.map_eq_some_iff.mp h
/-- an operation done behind its operands -/
theorem op_done {K : PySem.W.Frag} {g : List D → Option O} {ms : List MR} {σ : L2.St} {H : Hp} {Q : VK} (h : tO np K (mOp g ms) σ H Q) : tCB (rG K g) (tA np K ms) σ H Q := by
  obtain ⟨F, G, s, ps, R, o, s', hm, q⟩ := h
  obtain ⟨⟨rs, s1⟩, h1, h2⟩ := bind_some hm
  obtain ⟨ds, h3, h4⟩ := bind_some h2
  obtain ⟨o', h5, h6⟩ := map_some h4
  cases h6
  refine ⟨F, G, s, ps, R, rs, s1, h1, fun vs H' F' ps' R' sF hv => ⟨F', ds, o, R'.sF, looks_lnt R' hv h3, h5, fun v H2 out => ?_⟩⟩
  obtain ⟨F2, as, R2, s2, own, nd, new⟩ := out.rel R'
  exact q v H2 F2 ps' as R2 (sF.trans s2) own nd new
end Dv

/-! Operations by trees: operators, comparisons, subscripts. -/
namespace Dv
open PySem PySem.Spec PyProof.Rows L2
variable {np : Nat}

theorem lnt1 {K : PySem.W.Frag} {F H : Hp} {x : V} {ds : List D} (h : LntAll K F H [x] ds) : ∃ d, ds = [d] ∧ Lnt K F H x d := by
  match ds, h with
  | [d], h => exact ⟨d, rfl, h.1⟩
  | [], h => exact h.elim
  | _ :: _ :: _, h => exact h.2.elim
theorem lnt2 {K : PySem.W.Frag} {F H : Hp} {x y : V} {ds : List D} (h : LntAll K F H [x, y] ds) : ∃ d e, ds = [d, e] ∧ Lnt K F H x d ∧ Lnt K F H y e := by
  match ds, h with
  | [d, e], h => exact ⟨d, e, rfl, h.1, h.2.1⟩
  | [], h => exact h.elim
  | [_], h => exact h.2.elim
  | _ :: _ :: _ :: _, h => exact h.2.2.elim
section
variable {X : Cx} {pins : List (Addr × Obj)} {σ : L2.St} {H F : Hp} {s : Shared}
/-- what is looked at reads as its tree -/
theorem lnt_reads (I : Inv X pins σ H s) (sF : Same F H) {v : V} {u : Value} {d : D} (hp : d.plain = true) (h : Lnt X.K F H v d) (r : RelV v u) : (∃ as, Reads s.heap u d as) ∧ d.plain = true := by
  have hd := lnt_dp sF hp h
  obtain ⟨as, q⟩ := Dp.reads I d v u (tr_dp d hp hd) r
  exact ⟨⟨as, q⟩, hp⟩
/-- the exact list object -/
theorem rd_list (I : Inv X pins σ H s) {a : Addr} {vs : List V} (h : LsK X.K H a vs) : vs.length ≤ sizeLine ∧ ∃ (its : List Value) (n : Nat), Vals vs its ∧ vs.length = its.length ∧ s.heap.get? a = some { cls := .type "list", data := .seq its.toArray n } := by
  rcases h with h | ⟨its, n, e, z, r⟩
  · obtain ⟨z, its, n, r, e⟩ := h.ok I.hok
    exact ⟨z, its, n, r, r.length, e⟩
  · have hl : vs.length = its.size := r.length.trans Array.length_toList
    have hk := I.kIn _ _ e
    exact ⟨by rw [hl]; exact z, its.toList, n, r, r.length, by rw [Array.toArray_toList]; exact hk⟩
theorem fin_bool {b : Bool} {Q : VK} (I : Inv X pins σ H s) (q : ∀ v H', Out X.K F H (.val (.bool b)) v H' → Q v H') : EP X pins σ Q (.bool b) s :=
  ⟨.bl b, H, I, rfl, q _ H (.old (.bl b))⟩
end

/-! ### + - * // % -/
def gAdd : List D → Option O
  | [.int a, .int b] => some (.val (.int (a + b)))
  | [.str a, .str b] => if a.length + b.length ≤ sizeLine then some (.val (.str (a ++ b))) else none
  | [.tuple a, .tuple b] => if a.length + b.length ≤ sizeLine then some (.val (.tuple (a ++ b))) else none
  | [.list a, .list b] => if a.length + b.length ≤ sizeLine then some (.lst (a ++ b)) else none
  | _ => none
def gSub : List D → Option O
  | [.int a, .int b] => some (.val (.int (a - b)))
  | _ => none
def gMul : List D → Option O
  | [.int a, .int b] => if a.natAbs < 2 ^ 64 ∨ b.natAbs < 2 ^ 64 then some (.val (.int (a * b))) else none
  | [.list a, .int b] => if b.natAbs < 2 ^ 62 ∧ a.length * b.toNat ≤ sizeLine then some (.lst (List.replicate b.toNat a).flatten) else none
  | [.tuple a, .int b] => if a.length ≤ 1000 ∧ 2 ≤ b ∧ b ≤ 1000 ∧ a ≠ [] then some (.val (.tuple (List.replicate b.toNat a).flatten)) else none
  | _ => none
def gFdiv : List D → Option O
  | [.int a, .int b] => if 0 < b ∧ b < 2 ^ 200 then some (.val (.int (a / b))) else none
  | _ => none
def gMod : List D → Option O
  | [.int a, .int b] => if 0 < b then some (.val (.int (a % b))) else none
  | _ => none
def gPow : List D → Option O
  | [.int a, .int b] => if 0 ≤ b ∧ b ≤ 1000000 ∧ a.natAbs < 2 ^ 64 then some (.val (.int (a ^ b.toNat))) else none
  | _ => none
def r2 (K : PySem.W.Frag) (g : List D → Option O) : R2 := fun x y H Q => rG K g [x, y] H Q
theorem if_some {α : Type} {c : Prop} [Decidable c] {a b : α} (h : (if c then some a else none) = some b) : c ∧ a = b := by
  split at h
  · rename_i hc
    exact ⟨hc, Option.some.inj h⟩
  · cases h
section
variable {X : Cx}
theorem trAll_nil {K : PySem.W.Frag} {F : Hp} {vs : List V} {ds : List D} (h : TrAll K F vs ds) : vs = [] ↔ ds = [] := by
  cases h with
  | nil => exact Iff.intro (fun _ => rfl) (fun _ => rfl)
  | cons _ _ => exact Iff.intro (fun z => by cases z) (fun z => by cases z)
theorem o_add : OpR X (binaryOp .Add) (r2 X.K gAdd) := by
  intro pins s σ H x y v u Q I rx ry ⟨F, ds, o, sF, l, e, q⟩
  obtain ⟨d1, d2, rfl, l1, l2⟩ := lnt2 l
  unfold gAdd at e
  split at e
  · rename_i a b ez
    cases ez
    cases e
    rw [lnt_int l1] at rx
    rw [lnt_int l2] at ry
    exact op_add pins s σ H _ _ v u Q I rx ry ⟨a, b, rfl, rfl, q _ H (.old (.int _))⟩
  · rename_i a b ez
    cases ez
    obtain ⟨hc, rfl⟩ := if_some e
    rw [lnt_str l1] at rx
    rw [lnt_str l2] at ry
    exact op_add_str pins s σ H _ _ v u Q I rx ry ⟨a, b, rfl, rfl, hc, q _ H (.old (.str _))⟩
  · rename_i a b ez
    cases ez
    obtain ⟨hc, rfl⟩ := if_some e
    obtain ⟨p1, v1, rfl, h1, t1⟩ := lnt_tuple l1
    obtain ⟨p2, v2, rfl, h2, t2⟩ := lnt_tuple l2
    refine op_catA pins s σ H _ _ v u Q I rx ry ⟨p1, p2, v1, v2, rfl, rfl, same_tup sF h1, same_tup sF h2, by rw [da_length t1, da_length t2]; exact hc, fun z => ?_, fun _ z => ?_, fun _ _ p hp => q _ _ (.tup hp (da_append t1 t2))⟩
    · have z' := (trAll_nil t1).mp z
      subst z'
      exact q _ H (.old (.tup h2 t2))
    · have z' := (trAll_nil t2).mp z
      subst z'
      rw [List.append_nil] at q
      exact q _ H (.old (.tup h1 t1))
  · rename_i a b ez
    cases ez
    obtain ⟨hc, rfl⟩ := if_some e
    obtain ⟨p1, v1, rfl, h1, t1⟩ := lnt_list sF l1
    obtain ⟨p2, v2, rfl, h2, t2⟩ := lnt_list sF l2
    cases rx
    cases ry
    obtain ⟨z1, its1, n1, r1, e1, o1⟩ := rd_list I h1
    obtain ⟨z2, its2, n2, r2, e2, o2⟩ := rd_list I h2
    have hl1 := da_length t1
    have hl2 := da_length t2
    refine PySem.P.add_list o1 o2 ?_ (by rw [List.size_toArray, List.size_toArray]; omega)
    have ea : its1.toArray ++ its2.toArray = (its1 ++ its2).toArray := by simp
    rw [ea]
    exact ⟨.ref _, _, I.lnew (t' := s.toks) (r1.append r2) (by rw [List.length_append]; omega), rfl, q _ _ (.lst I.fresh (da_append t1 t2))⟩
  · cases e
theorem o_sub : OpR X (binaryOp .Sub) (r2 X.K gSub) := by
  intro pins s σ H x y v u Q I rx ry ⟨F, ds, o, sF, l, e, q⟩
  obtain ⟨d1, d2, rfl, l1, l2⟩ := lnt2 l
  unfold gSub at e
  split at e
  · rename_i a b ez
    cases ez
    cases e
    rw [lnt_int l1] at rx
    rw [lnt_int l2] at ry
    exact op_sub pins s σ H _ _ v u Q I rx ry ⟨a, b, rfl, rfl, q _ H (.old (.int _))⟩
  · cases e
theorem o_mul : OpR X (binaryOp .Mult) (r2 X.K gMul) := by
  intro pins s σ H x y v u Q I rx ry ⟨F, ds, o, sF, l, e, q⟩
  obtain ⟨d1, d2, rfl, l1, l2⟩ := lnt2 l
  unfold gMul at e
  split at e
  · rename_i a b ez
    cases ez
    obtain ⟨hc, rfl⟩ := if_some e
    rw [lnt_int l1] at rx
    rw [lnt_int l2] at ry
    refine op_mul pins s σ H _ _ v u Q I rx ry ⟨a, b, rfl, rfl, ?_, q _ H (.old (.int _))⟩
    rcases hc with hc | hc
    · exact .inl (by omega)
    · exact .inr (by omega)
  · rename_i a b ez
    cases ez
    obtain ⟨hc, rfl⟩ := if_some e
    obtain ⟨hc, hz⟩ := hc
    obtain ⟨p1, v1, rfl, h1, t1⟩ := lnt_list sF l1
    rw [lnt_int l2] at ry
    cases rx
    obtain ⟨t, rfl⟩ := ry
    obtain ⟨z, its, n, r, hl, eo⟩ := rd_list I h1
    have hl1 := da_length t1
    have hlen : its.toArray.size * b.toNat ≤ sizeLine := by rw [List.size_toArray, ← hl, hl1]; exact hz
    have hcap : ¬ its.toArray.size * b.toNat > (2 ^ 63 - 1) / 8 := by
      have : (sizeLine : Nat) ≤ (2 ^ 63 - 1) / 8 := by decide
      omega
    have hfit : ¬ (!Builtin.List.listFitsIndex b) = true := by
      rw [fitsIndex_both (by omega) (by omega)]
      exact Bool.false_ne_true
    have hlong : ¬ Builtin.List.listTooLong (its.toArray.size * b.toNat) = true := by
      rw [notLongL hlen]
      exact Bool.false_ne_true
    have hnew : List.foldl (fun x1 x2 => x1 ++ x2) #[] (List.replicate (if its.toArray.isEmpty = true then 0 else b.toNat) its.toArray) = (List.replicate b.toNat its).flatten.toArray := by
      cases its with
      | nil => simp
      | cons i it2 =>
        have h0 : ((i :: it2).toArray.isEmpty) = false := rfl
        rw [h0]
        simp only [Bool.false_eq_true, if_false]
        exact size_rep _ _
    refine wpAny_binaryOp_repeat_ref (T := "list") (U := "int") (by decide) ⟨_, eo, rfl⟩ (fun s' => typeIs_int s' b t) noFill_list_mul PySem.F.fills_int_mul PySem.F.slot_int_rmul repeat_list PySem.F.slot_int_index.lookup
      (call_meets PySem.F.slot_int_rmul (typeIs_int s b t) PySem.F.entry_int_rmul (PySem.F.args_int_rmul_2 _ _) (int___rmul___int_list b t p1 its.toArray n)
        ⟨eo, rfl, ⟨_, eo, rfl⟩, call_meets PySem.F.slot_list_mul ⟨_, eo, rfl⟩ PySem.F.entry_list_mul (PySem.F.args_list_mul_2 _ _)
          (AutoListH.list___mul___list_int_3 p1 its.toArray n b t hfit hcap hlong) ⟨eo, ?_⟩⟩)
    rw [hnew]
    exact ⟨.ref _, _, I.lnew (t' := s.toks) (r.rep b.toNat) (by rw [lm_len_rep_flat, hl1, Nat.mul_comm]; exact hz), rfl, q _ _ (.lst I.fresh (da_rep t1 b.toNat))⟩
  · rename_i a b ez
    cases ez
    obtain ⟨hc, rfl⟩ := if_some e
    obtain ⟨ha, h2, h3, hn⟩ := hc
    obtain ⟨p1, v1, rfl, h1, t1⟩ := lnt_tuple l1
    rw [lnt_int l2] at ry
    refine op_repT pins s σ H _ _ v u Q I rx ry ⟨p1, b, v1, rfl, rfl, same_tup sF h1, fun z => hn ((trAll_nil t1).mp z), h2, h3, by rw [da_length t1]; exact ha, fun p hp => q _ _ (.tup hp (da_rep t1 _))⟩
  · cases e
theorem o_fdiv : OpR X (binaryOp .FloorDiv) (r2 X.K gFdiv) := by
  intro pins s σ H x y v u Q I rx ry ⟨F, ds, o, sF, l, e, q⟩
  obtain ⟨d1, d2, rfl, l1, l2⟩ := lnt2 l
  unfold gFdiv at e
  split at e
  · rename_i a b ez
    cases ez
    obtain ⟨hc, rfl⟩ := if_some e
    rw [lnt_int l1] at rx
    rw [lnt_int l2] at ry
    refine op_fdivW pins s σ H _ _ v u Q I rx ry ⟨a, b, rfl, rfl, wide_div (b := 200) hc.1 ?_ (by decide) (by decide), q _ H (.old (.int _))⟩
    have h0 : (b.natAbs : Int) = b := Int.natAbs_of_nonneg (by omega)
    have h1 : (b.natAbs : Int) < ((2 ^ 200 : Nat) : Int) := by
      rw [h0]
      exact_mod_cast hc.2
    exact_mod_cast h1
  · cases e
theorem o_mod : OpR X (binaryOp .Mod) (r2 X.K gMod) := by
  intro pins s σ H x y v u Q I rx ry ⟨F, ds, o, sF, l, e, q⟩
  obtain ⟨d1, d2, rfl, l1, l2⟩ := lnt2 l
  unfold gMod at e
  split at e
  · rename_i a b ez
    cases ez
    obtain ⟨hc, rfl⟩ := if_some e
    rw [lnt_int l1] at rx
    rw [lnt_int l2] at ry
    exact op_mod pins s σ H _ _ v u Q I rx ry ⟨a, b, rfl, rfl, hc, q _ H (.old (.int _))⟩
  · cases e
theorem o_pow : OpR X (binaryOp .Pow) (r2 X.K gPow) := by
  intro pins s σ H x y v u Q I rx ry ⟨F, ds, o, sF, l, e, q⟩
  obtain ⟨d1, d2, rfl, l1, l2⟩ := lnt2 l
  unfold gPow at e
  split at e
  · rename_i a b ez
    cases ez
    obtain ⟨hc, rfl⟩ := if_some e
    rw [lnt_int l1] at rx
    rw [lnt_int l2] at ry
    exact op_pow pins s σ H _ _ v u Q I rx ry ⟨a, b, rfl, rfl, hc, q _ H (.old (.int _))⟩
  · cases e
end

/-! ### comparisons -/
def flat2 (a b : D) : Bool := (decide (a.depth ≤ 64) || decide (b.depth ≤ 64)) && (a.plain && b.plain)
def gEq : List D → Option O
  | [a, b] => if flat2 a b = true then some (.val (.bool (PyData.eqv a b))) else none
  | _ => none
def gNe : List D → Option O
  | [a, b] => if flat2 a b = true then some (.val (.bool (!PyData.eqv a b))) else none
  | _ => none
def ordOk (a b : D) : Bool := flat2 a b && PySem.W.alike a b && (match a with | .none => false | _ => true)
def gLt : List D → Option O
  | [a, b] => if ordOk a b = true then some (.val (.bool (PySem.W.dataLt a b))) else none
  | _ => none
def gGt : List D → Option O
  | [a, b] => if ordOk a b = true then some (.val (.bool (PySem.W.dataLt b a))) else none
  | _ => none
def gLe : List D → Option O
  | [a, b] => if ordOk a b = true then some (.val (.bool (!PySem.W.dataLt b a))) else none
  | _ => none
def gGe : List D → Option O
  | [a, b] => if ordOk a b = true then some (.val (.bool (!PySem.W.dataLt a b))) else none
  | _ => none
def gIn : List D → Option O
  | [x, .list xs] => if ((decide (PyData.depthAll xs ≤ 64) || decide (x.depth ≤ 64)) && (x.plain && PyData.plainAll xs)) = true then some (.val (.bool (xs.any fun y => PyData.eqv y x))) else none
  | [x, .tuple xs] => if ((decide (PyData.depthAll xs ≤ 64) || decide (x.depth ≤ 64)) && (x.plain && PyData.plainAll xs)) = true then some (.val (.bool (xs.any fun y => PyData.eqv y x))) else none
  | [.str x, .str y] => some (.val (.bool (!(Builtin.Str.occurrences y x 0 y.length 1).isEmpty)))
  | _ => none
def gNotIn : List D → Option O
  | [x, .list xs] => if ((decide (PyData.depthAll xs ≤ 64) || decide (x.depth ≤ 64)) && (x.plain && PyData.plainAll xs)) = true then some (.val (.bool (!xs.any fun y => PyData.eqv y x))) else none
  | [x, .tuple xs] => if ((decide (PyData.depthAll xs ≤ 64) || decide (x.depth ≤ 64)) && (x.plain && PyData.plainAll xs)) = true then some (.val (.bool (!xs.any fun y => PyData.eqv y x))) else none
  | [.str x, .str y] => some (.val (.bool (!(!(Builtin.Str.occurrences y x 0 y.length 1).isEmpty))))
  | _ => none
def isNone : D → Bool
  | .none => true
  | _ => false
def gIsN : List D → Option O
  | [a] => some (.val (.bool (isNone a)))
  | _ => none
section
variable {X : Cx}
theorem flat_le {a b : D} (h : flat2 a b = true) : min a.depth b.depth ≤ 64 ∧ a.plain = true ∧ b.plain = true := by
  unfold flat2 at h
  rw [Bool.and_eq_true, Bool.and_eq_true, Bool.or_eq_true, decide_eq_true_eq, decide_eq_true_eq] at h
  exact ⟨by omega, h.2⟩
theorem o_eq (hu : X.A.units + 100 < cLine) : OpR X (compareOp .Eq) (r2 X.K gEq) := by
  intro pins s σ H x y v u Q I rx ry ⟨F, ds, o, sF, l, e, q⟩
  obtain ⟨d1, d2, rfl, l1, l2⟩ := lnt2 l
  obtain ⟨hc, rfl⟩ := if_some e
  have hf := flat_le hc
  obtain ⟨⟨as, r1⟩, p1⟩ := lnt_reads I sF hf.2.1 l1 rx
  obtain ⟨⟨bs, r2⟩, p2⟩ := lnt_reads I sF hf.2.2 l2 ry
  have := hf.1
  exact SeqAt.eq_plain r1 r2 p1 p2 (by omega) (fin_bool I q)
theorem o_ne (hu : X.A.units + 100 < cLine) : OpR X (compareOp .NotEq) (r2 X.K gNe) := by
  intro pins s σ H x y v u Q I rx ry ⟨F, ds, o, sF, l, e, q⟩
  obtain ⟨d1, d2, rfl, l1, l2⟩ := lnt2 l
  obtain ⟨hc, rfl⟩ := if_some e
  have hf := flat_le hc
  obtain ⟨⟨as, r1⟩, p1⟩ := lnt_reads I sF hf.2.1 l1 rx
  obtain ⟨⟨bs, r2⟩, p2⟩ := lnt_reads I sF hf.2.2 l2 ry
  have := hf.1
  exact SeqAt.ne_plain r1 r2 p1 p2 (by omega) (fin_bool I q)
theorem ord_of {a b : D} (h : ordOk a b = true) : min a.depth b.depth ≤ 64 ∧ PySem.W.alike a b = true ∧ a ≠ .none ∧ a.plain = true ∧ b.plain = true := by
  unfold ordOk at h
  rw [Bool.and_eq_true, Bool.and_eq_true] at h
  obtain ⟨⟨h1, h2⟩, h3⟩ := h
  exact ⟨(flat_le h1).1, h2, (fun z => by rw [z] at h3; cases h3), (flat_le h1).2⟩
theorem o_lt (hu : X.A.units + 100 < cLine) : OpR X (compareOp .Lt) (r2 X.K gLt) := by
  intro pins s σ H x y v u Q I rx ry ⟨F, ds, o, sF, l, e, q⟩
  obtain ⟨d1, d2, rfl, l1, l2⟩ := lnt2 l
  obtain ⟨hc, rfl⟩ := if_some e
  obtain ⟨h1, h2, h3, h4, h5⟩ := ord_of hc
  obtain ⟨⟨as, r1⟩, p1⟩ := lnt_reads I sF h4 l1 rx
  obtain ⟨⟨bs, r2⟩, p2⟩ := lnt_reads I sF h5 l2 ry
  exact PySem.W.lt_data r1 r2 h2 h3 (by omega) (fin_bool I q)
theorem o_gt (hu : X.A.units + 100 < cLine) : OpR X (compareOp .Gt) (r2 X.K gGt) := by
  intro pins s σ H x y v u Q I rx ry ⟨F, ds, o, sF, l, e, q⟩
  obtain ⟨d1, d2, rfl, l1, l2⟩ := lnt2 l
  obtain ⟨hc, rfl⟩ := if_some e
  obtain ⟨h1, h2, h3, h4, h5⟩ := ord_of hc
  obtain ⟨⟨as, r1⟩, p1⟩ := lnt_reads I sF h4 l1 rx
  obtain ⟨⟨bs, r2⟩, p2⟩ := lnt_reads I sF h5 l2 ry
  exact PySem.W.gt_data r1 r2 h2 h3 (by omega) (fin_bool I q)
theorem o_le (hu : X.A.units + 100 < cLine) : OpR X (compareOp .LtE) (r2 X.K gLe) := by
  intro pins s σ H x y v u Q I rx ry ⟨F, ds, o, sF, l, e, q⟩
  obtain ⟨d1, d2, rfl, l1, l2⟩ := lnt2 l
  obtain ⟨hc, rfl⟩ := if_some e
  obtain ⟨h1, h2, h3, h4, h5⟩ := ord_of hc
  obtain ⟨⟨as, r1⟩, p1⟩ := lnt_reads I sF h4 l1 rx
  obtain ⟨⟨bs, r2⟩, p2⟩ := lnt_reads I sF h5 l2 ry
  exact PySem.W.le_data r1 r2 h2 h3 (by omega) (fin_bool I q)
theorem o_ge (hu : X.A.units + 100 < cLine) : OpR X (compareOp .GtE) (r2 X.K gGe) := by
  intro pins s σ H x y v u Q I rx ry ⟨F, ds, o, sF, l, e, q⟩
  obtain ⟨d1, d2, rfl, l1, l2⟩ := lnt2 l
  obtain ⟨hc, rfl⟩ := if_some e
  obtain ⟨h1, h2, h3, h4, h5⟩ := ord_of hc
  obtain ⟨⟨as, r1⟩, p1⟩ := lnt_reads I sF h4 l1 rx
  obtain ⟨⟨bs, r2⟩, p2⟩ := lnt_reads I sF h5 l2 ry
  exact PySem.W.ge_data r1 r2 h2 h3 (by omega) (fin_bool I q)
theorem o_in (hu : X.A.units + 100 < cLine) : OpR X (compareOp .In) (r2 X.K gIn) := by
  intro pins s σ H x y v u Q I rx ry ⟨F, ds, o, sF, l, e, q⟩
  obtain ⟨d1, d2, rfl, l1, l2⟩ := lnt2 l
  unfold gIn at e
  split at e
  · rename_i a xs ez
    cases ez
    obtain ⟨hc, rfl⟩ := if_some e
    rw [Bool.and_eq_true, Bool.and_eq_true, Bool.or_eq_true, decide_eq_true_eq, decide_eq_true_eq] at hc
    obtain ⟨hc, hp1, hp2⟩ := hc
    obtain ⟨⟨as, r1⟩, p1⟩ := lnt_reads I sF hp1 l1 rx
    obtain ⟨⟨bs, r2⟩, p2⟩ := lnt_reads I sF (d := .list xs) (by rw [PyData.plain]; exact hp2) l2 ry
    rw [PyData.plain] at p2
    exact SeqAt.in_list_data r2 r1 p2 p1 (by omega) (fin_bool I q)
  · rename_i a xs ez
    cases ez
    obtain ⟨hc, rfl⟩ := if_some e
    rw [Bool.and_eq_true, Bool.and_eq_true, Bool.or_eq_true, decide_eq_true_eq, decide_eq_true_eq] at hc
    obtain ⟨hc, hp1, hp2⟩ := hc
    obtain ⟨⟨as, r1⟩, p1⟩ := lnt_reads I sF hp1 l1 rx
    obtain ⟨⟨bs, r2⟩, p2⟩ := lnt_reads I sF (d := .tuple xs) (by rw [PyData.plain]; exact hp2) l2 ry
    rw [PyData.plain] at p2
    exact SeqAt.in_tuple_data r2 r1 p2 p1 (by omega) (fin_bool I q)
  · rename_i a b ez
    cases ez
    cases e
    rw [lnt_str l1] at rx
    rw [lnt_str l2] at ry
    exact op_in_str pins s σ H _ _ v u Q I rx ry ⟨a, b, rfl, rfl, q _ H (.old (.bl _))⟩
  · cases e
theorem o_notIn (hu : X.A.units + 100 < cLine) : OpR X (compareOp .NotIn) (r2 X.K gNotIn) := by
  intro pins s σ H x y v u Q I rx ry ⟨F, ds, o, sF, l, e, q⟩
  obtain ⟨d1, d2, rfl, l1, l2⟩ := lnt2 l
  unfold gNotIn at e
  split at e
  · rename_i a xs ez
    cases ez
    obtain ⟨hc, rfl⟩ := if_some e
    rw [Bool.and_eq_true, Bool.and_eq_true, Bool.or_eq_true, decide_eq_true_eq, decide_eq_true_eq] at hc
    obtain ⟨hc, hp1, hp2⟩ := hc
    obtain ⟨⟨as, r1⟩, p1⟩ := lnt_reads I sF hp1 l1 rx
    obtain ⟨⟨bs, r2⟩, p2⟩ := lnt_reads I sF (d := .list xs) (by rw [PyData.plain]; exact hp2) l2 ry
    rw [PyData.plain] at p2
    exact SeqAt.notIn_list_data r2 r1 p2 p1 (by omega) (fin_bool I q)
  · rename_i a xs ez
    cases ez
    obtain ⟨hc, rfl⟩ := if_some e
    rw [Bool.and_eq_true, Bool.and_eq_true, Bool.or_eq_true, decide_eq_true_eq, decide_eq_true_eq] at hc
    obtain ⟨hc, hp1, hp2⟩ := hc
    obtain ⟨⟨as, r1⟩, p1⟩ := lnt_reads I sF hp1 l1 rx
    obtain ⟨⟨bs, r2⟩, p2⟩ := lnt_reads I sF (d := .tuple xs) (by rw [PyData.plain]; exact hp2) l2 ry
    rw [PyData.plain] at p2
    exact SeqAt.notIn_tuple_data r2 r1 p2 p1 (by omega) (fin_bool I q)
  · rename_i a b ez
    cases ez
    cases e
    rw [lnt_str l1] at rx
    rw [lnt_str l2] at ry
    exact op_notIn_str pins s σ H _ _ v u Q I rx ry ⟨a, b, rfl, rfl, q _ H (.old (.bl _))⟩
  · cases e
/-- is None: the right side is written -/
theorem o_isN : OpR X (compareOp .Is) (fun x y H Q => y = .non ∧ rG X.K gIsN [x] H Q) := by
  intro pins s σ H x y v u Q I rx ry ⟨hy, F, ds, o, sF, l, e, q⟩
  obtain ⟨d1, rfl, l1⟩ := lnt1 l
  cases e
  refine op_isN pins s σ H x y v u Q I rx ry ⟨hy, ?_⟩
  have eb : decide (x = .non) = isNone d1 := by
    rcases l1 with l1 | ⟨a, vs, ds, rfl, rfl, _, _⟩ | ⟨a, vs, ds, rfl, rfl, _, _⟩
    · cases l1 <;> first | rfl | exact decide_eq_false (fun z => nomatch z)
    · exact decide_eq_false (fun z => nomatch z)
    · exact decide_eq_false (fun z => nomatch z)
  rw [eb]
  exact q _ H (.old (.bl _))
end

/-! ### the expressions -/
section
variable {X : Cx} {a b : Expr} {ma mb : MR} {pos : Pos}
theorem rfAll1 {K : PySem.W.Frag} {F : Hp} {σ : L2.St} {v : V} {r : Rf} (h : RfAt K F σ v r) : RfAll K F σ [v] [r] := ⟨h, trivial⟩
theorem rfAll2 {K : PySem.W.Frag} {F : Hp} {σ : L2.St} {v w : V} {r t : Rf} (h : RfAt K F σ v r) (h' : RfAt K F σ w t) : RfAll K F σ [v, w] [r, t] := ⟨h, h', trivial⟩
theorem op2_done {K : PySem.W.Frag} {g : List D → Option O} {σ : L2.St} {H : Hp} {Q : VK} (h : tO np K (mOp g [ma, mb]) σ H Q) : tOp (r2 K g) (tR np K ma) (tR np K mb) σ H Q := by
  obtain ⟨F, G, s, ps, R, o, s', hm, q⟩ := h
  obtain ⟨⟨rs, s1⟩, h1, h2⟩ := bind_some hm
  obtain ⟨ds, h3, h4⟩ := bind_some h2
  obtain ⟨o', h5, h6⟩ := map_some h4
  cases h6
  obtain ⟨⟨ra, sa⟩, e1, e2⟩ := bind_some h1
  obtain ⟨⟨rs', sb⟩, e3, e4⟩ := map_some e2
  cases e4
  obtain ⟨⟨rb, sb'⟩, e5, e6⟩ := bind_some e3
  obtain ⟨⟨rs'', sc⟩, e7, e8⟩ := map_some e6
  cases e7
  cases e8
  refine ⟨F, G, s, ps, R, ra, sa, e1, fun v H1 F1 ps1 R1 s01 hv => ⟨F1, G, sa, ps1, R1, rb, sb', e5, fun w H2 F2 ps2 R2 s12 hw => ⟨F2, ds, o, R2.sF, looks_lnt R2 (rfAll2 (rfAt_mono s12 hv) hw) h3, h5, fun z H3 out => ?_⟩⟩⟩
  obtain ⟨F3, as, R3, s23, own, nd, new⟩ := out.rel R2
  exact q z H3 F3 ps2 as R3 ((s01.trans s12).trans s23) own nd new
theorem e_bin {op : Operator} {g : List D → Option O} (ho : OpR X (binaryOp op) (r2 X.K g)) (ha : PE X a (tR np X.K ma)) (hb : PE X b (tR np X.K mb)) : PE X (.BinOp a op b pos) (tO np X.K (mOp g [ma, mb])) :=
  pe_imp (pe_op ho ha hb) fun _ _ _ => op2_done
theorem e_cmp {op : CmpOp} {g : List D → Option O} (ho : OpR X (compareOp op) (r2 X.K g)) (ha : PE X a (tR np X.K ma)) (hb : PE X b (tR np X.K mb)) (hm : behindInMarks op b = false := by first | exact nomark _ | rfl) : PE X (.Compare a [op] [b] pos) (tO np X.K (mOp g [ma, mb])) :=
  pe_imp (pe_cmpR ho ha hb hm) fun _ _ _ => op2_done
theorem e_isN {p : Pos} {j : Nat} (ha : PE X a (tR np X.K ma)) : PE X (.Compare a [.Is] [.Constant .none j p] pos) (tO np X.K (mOp gIsN [ma])) :=
  pe_imp (pe_cmpR o_isN ha pe_non (nomark _)) fun σ H Q ⟨F, G, s, ps, R, o, s', hm, q⟩ => by
    obtain ⟨⟨rs, s1⟩, h1, h2⟩ := bind_some hm
    obtain ⟨ds, h3, h4⟩ := bind_some h2
    obtain ⟨o', h5, h6⟩ := map_some h4
    cases h6
    obtain ⟨⟨ra, sa⟩, e1, e2⟩ := bind_some h1
    obtain ⟨⟨rs', sb⟩, e3, e4⟩ := map_some e2
    cases e3
    cases e4
    refine ⟨F, G, s, ps, R, ra, sa, e1, fun v H1 F1 ps1 R1 s01 hv => ⟨rfl, F1, ds, o, R1.sF, looks_lnt R1 (rfAll1 hv) h3, h5, fun z H3 out => ?_⟩⟩
    obtain ⟨F3, as, R3, s23, own, nd, new⟩ := out.rel R1
    exact q z H3 F3 ps1 as R3 (s01.trans s23) own nd new
end
end Dv

/-! Displays, subscripts, slices, sorted, built-ins, tests. -/
namespace Dv
open PySem PySem.Spec PyProof.Rows L2
variable {np : Nat}

/-! ### displays -/
def dsOf : List Rf → Option (List D)
  | [] => some []
  | .d x :: rs => (dsOf rs).map fun ds => x :: ds
  | .s _ :: _ => none
def vTup (ms : List MR) : MV := fun s => (evR ms s).bind fun p => (dsOf p.1).map fun ds => (.tuple ds, p.2)
def oLst (ms : List MR) : MO := fun s => (evR ms s).bind fun p => (dsOf p.1).map fun ds => (.lst ds, p.2)
theorem dsOf_tr {K : PySem.W.Frag} {F : Hp} {σ : L2.St} : ∀ {vs : List V} {rs : List Rf} {ds : List D}, RfAll K F σ vs rs → dsOf rs = some ds → TrAll K F vs ds
  | [], [], ds, _, e => by
    cases e
    exact .nil
  | v :: vs, .d x :: rs, ds, h, e => by
    obtain ⟨ds', h3, h4⟩ := map_some e
    cases h4
    exact .cons h.1 (dsOf_tr h.2 h3)
  | v :: vs, .s i :: rs, ds, h, e => by cases e
  | [], _ :: _, _, h, _ => h.elim
  | _ :: _, [], _, h, _ => h.elim
theorem evR_len : ∀ {ms : List MR} {s : S} {rs : List Rf} {s' : S}, evR ms s = some (rs, s') → rs.length = ms.length
  | [], _, _, _, e => by
    cases e
    rfl
  | m :: ms, s, rs, s', e => by
    obtain ⟨⟨r, s1⟩, h1, h2⟩ := bind_some e
    obtain ⟨⟨rs', s2⟩, h3, h4⟩ := map_some h2
    cases h4
    exact congrArg (· + 1) (evR_len h3)
section
variable {X : Cx} {es : List Expr} {ms : List MR} {pos : Pos}
theorem e_tup {x1 : Nat} (h : PA X es (tA np X.K ms)) (hl : ms.length ≤ sizeLine := by decide) : PE X (.Tuple es x1 pos) (tV np X.K (vTup ms)) :=
  pe_imp (pe_tup h) fun σ H Q ⟨F, G, s, ps, R, d, s', hm, q⟩ => by
    obtain ⟨⟨rs, s1⟩, h1, h2⟩ := bind_some hm
    obtain ⟨ds, h3, h4⟩ := map_some h2
    cases h4
    refine ⟨F, G, s, ps, R, rs, s1, h1, fun vs H1 F1 ps1 R1 s01 hv => ⟨?_, fun p hp => ?_⟩⟩
    · rw [rfAll_len hv, evR_len h1]
      exact hl
    · obtain ⟨R2, s12⟩ := R1.laid (o := .tup vs) hp
      exact q _ _ _ ps1 R2 (s01.trans s12) (.tup (SqT.of upd_same) (dpAll_mono s12 ds (dsOf_tr hv h3)))
theorem e_lst (h : PA X es (tA np X.K ms)) (hl : ms.length ≤ sizeLine := by decide) : PE X (.List es pos) (tO np X.K (oLst ms)) :=
  pe_imp (pe_lst h) fun σ H Q ⟨F, G, s, ps, R, o, s', hm, q⟩ => by
    obtain ⟨⟨rs, s1⟩, h1, h2⟩ := bind_some hm
    obtain ⟨ds, h3, h4⟩ := map_some h2
    cases h4
    refine ⟨F, G, s, ps, R, rs, s1, h1, fun vs H1 F1 ps1 R1 s01 hv => ⟨?_, fun p hp => ?_⟩⟩
    · rw [rfAll_len hv, evR_len h1]
      exact hl
    · obtain ⟨R2, n1, n2, n3⟩ := R1.new (o := .lst vs) hp
      refine q _ _ _ ps1 [p] R2 s01 ⟨p, vs, rfl, upd_same, dsOf_tr hv h3, rfl⟩ (by simp) fun a ha => ?_
      rw [List.mem_singleton.mp ha]
      exact ⟨n1, n2, n3⟩
end

/-! ### subscripts -/
def gIx : List D → Option O
  | [.list xs, .int i] => (atI xs i).map O.val
  | [.tuple xs, .int i] => (atI xs i).map O.val
  | [.str x, .int i] => if x.length ≤ sizeLine then (atI x.cps.toList i).map fun c => O.val (.str ⟨#[c]⟩) else none
  | _ => none
theorem atI_tr {K : PySem.W.Frag} {F : Hp} {vs : List V} {ds : List D} {i : Int} {d : D} (h : TrAll K F vs ds) (e : atI ds i = some d) : ∃ v, atI vs i = some v ∧ Tr K F v d := by
  unfold atI at e ⊢
  obtain ⟨j, h1, h2⟩ := bind_some e
  obtain ⟨v, h3, h4⟩ := da_get h h2
  rw [da_length h, h1]
  exact ⟨v, h3, h4⟩
theorem o_ix {X : Cx} : IxR X (r2 X.K gIx) := by
  intro value slice pins s σ H x y v u Q I rx ry ⟨F, ds, o, sF, l, e, q⟩ hs
  obtain ⟨d1, d2, rfl, l1, l2⟩ := lnt2 l
  unfold gIx at e
  split at e
  · rename_i xs i ez
    cases ez
    obtain ⟨d, e1, rfl⟩ := map_some e
    obtain ⟨p, vs, rfl, h1, t1⟩ := lnt_list sF l1
    obtain ⟨w', h2, h3⟩ := atI_tr t1 e1
    exact ix_list value slice pins s σ H _ _ v u Q I rx ry ⟨p, vs, i, w', rfl, lnt_int l2, h1.sq, h2, q _ H (.old h3)⟩ hs
  · rename_i xs i ez
    cases ez
    obtain ⟨d, e1, rfl⟩ := map_some e
    obtain ⟨p, vs, rfl, h1, t1⟩ := lnt_tuple l1
    obtain ⟨w', h2, h3⟩ := atI_tr t1 e1
    exact ix_tup value slice pins s σ H _ _ v u Q I rx ry ⟨p, vs, i, w', rfl, lnt_int l2, same_tup sF h1, h2, q _ H (.old h3)⟩ hs
  · rename_i z i ez
    cases ez
    split at e
    · rename_i hz
      obtain ⟨c, e1, rfl⟩ := map_some e
      exact ix_str value slice pins s σ H _ _ v u Q I rx ry ⟨z, i, c, lnt_str l1, lnt_int l2, hz, e1, q _ H (.old (.str _))⟩ hs
    · cases e
  · cases e
section
variable {X : Cx} {a b : Expr} {ma mb : MR} {pos : Pos}
theorem e_ix (ha : PE X a (tR np X.K ma)) (hb : PE X b (tR np X.K mb)) (hs : PlainIx b := by exact fun _ _ => rfl) : PE X (.Subscript a b pos) (tO np X.K (mOp gIx [ma, mb])) :=
  pe_imp (pe_ix o_ix ha hb hs) fun _ _ _ => op2_done
end
/-- a slice, of any sequence -/
def cutG {α : Type} (xs : List α) (lo hi : Option Int) : List α := (xs.drop (HT.sIx xs.length 0 lo)).take (HT.sIx xs.length xs.length hi - HT.sIx xs.length 0 lo)
def gSl (lo hi : Option Int) : D → Option O
  | .list xs => some (.lst (cutG xs lo hi))
  | .tuple xs => some (.val (.tuple (cutG xs lo hi)))
  | _ => none
theorem cut_tr {K : PySem.W.Frag} {F : Hp} {vs : List V} {ds : List D} (h : TrAll K F vs ds) (lo hi : Option Int) : TrAll K F (cutV vs lo hi) (cutG ds lo hi) := by
  unfold cutV cutG
  rw [da_length h]
  exact da_take _ (da_drop _ h)
theorem cut_whole {α : Type} {xs : List α} {lo hi : Option Int} (h : HT.sIx xs.length 0 lo = 0 ∧ HT.sIx xs.length xs.length hi = xs.length) : cutG xs lo hi = xs := by
  unfold cutG
  rw [h.1, h.2, List.drop_zero, Nat.sub_zero, List.take_length]
def rSlG (K : PySem.W.Frag) : V → Option Int → Option Int → Hp → VK → Prop := fun x lo hi H Q => ∃ F d o, Same F H ∧ Lnt K F H x d ∧ gSl lo hi d = some o ∧ ∀ v H', Out K F H o v H' → Q v H'
theorem o_sl {X : Cx} : SlR X (rSlG X.K) := by
  intro pins s σ H x v vl vu lo hi sl Q I rx hs pl pu ⟨F, d, o, sF, l, e, q⟩
  unfold gSl at e
  split at e
  · cases e
    rename_i xs
    obtain ⟨p, vs, rfl, h1, t1⟩ := lnt_list sF l
    exact sl_list pins s σ H _ v vl vu lo hi sl Q I rx hs pl pu ⟨p, vs, rfl, h1.sq, fun p' hp => q _ _ (.lst hp (cut_tr t1 lo hi))⟩
  · cases e
    rename_i xs
    obtain ⟨p, vs, rfl, h1, t1⟩ := lnt_tuple l
    refine sl_tupA pins s σ H _ v vl vu lo hi sl Q I rx hs pl pu ⟨p, vs, rfl, same_tup sF h1, fun z => ?_, fun _ p' hp => q _ _ (.tup hp (cut_tr t1 lo hi))⟩
    rw [da_length t1] at z
    rw [cut_whole z] at q
    exact q _ H (.old (.tup h1 t1))
  · cases e
/-- a part of a slice -/
abbrev MP := S → Option (Option Int × S)
def pNo : MP := fun s => some (none, s)
def pSome (m : MV) : MP := fun s => (m s).bind fun p => match p.1 with
  | .int i => some (some i, p.2)
  | _ => none
def tP (np : Nat) (K : PySem.W.Frag) (m : MP) : TO := fun σ H Q => ∃ F G s ps, Rel np K F G s σ H ps ∧ ∃ i s', m s = some (i, s') ∧ ∀ H' F' ps', Rel np K F' G s' σ H' ps' → Same F F' → Q i H'
def oSl (m : MR) (lo hi : MP) : MO := fun s => (m s).bind fun p => (lo p.2).bind fun a => (hi a.2).bind fun b => (p.1.look b.2).bind fun d => (gSl a.1 b.1 d).map fun o => (o, b.2)
section
variable {X : Cx} {e : Expr} {pos p2 : Pos}
theorem po_imp {e : Option Expr} {t t' : TO} (h : PO X e t) (i : ∀ σ H Q, t' σ H Q → t σ H Q) : PO X e t' := ⟨fun pins s σ H Q I q => h.run pins s σ H Q I (i σ H Q q)⟩
theorem p_no : PO X none (tP np X.K pNo) := po_imp po_none fun σ H Q ⟨F, G, s, ps, R, i, s', hm, q⟩ => by
  cases hm
  exact q H F ps R (Same.refl F)
theorem p_some {m : MV} (h : PE X e (tV np X.K m)) : PO X (some e) (tP np X.K (pSome m)) := po_imp (po_some h) fun σ H Q ⟨F, G, s, ps, R, i, s', hm, q⟩ => by
  obtain ⟨⟨d, s1⟩, h1, h2⟩ := bind_some hm
  cases d with
  | int k =>
    cases h2
    refine ⟨F, G, s, ps, R, _, s1, h1, fun v H1 F1 ps1 R1 s01 hv => ⟨k, ?_, q H1 F1 ps1 R1 s01⟩⟩
    cases hv
    rfl
  | _ => cases h2
theorem e_sl {lo hi : Option Expr} {m : MR} {ml mh : MP} (h : PE X e (tR np X.K m)) (hl : PO X lo (tP np X.K ml)) (hh : PO X hi (tP np X.K mh)) : PE X (.Subscript e (.Slice lo hi none p2) pos) (tO np X.K (oSl m ml mh)) :=
  pe_imp (pe_slice o_sl h hl hh) fun σ H Q ⟨F, G, s, ps, R, o, s', hm, q⟩ => by
    obtain ⟨⟨r, s1⟩, h1, h2⟩ := bind_some hm
    obtain ⟨⟨a, s2⟩, h3, h4⟩ := bind_some h2
    obtain ⟨⟨b, s3⟩, h5, h6⟩ := bind_some h4
    obtain ⟨d, h7, h8⟩ := bind_some h6
    obtain ⟨o', h9, h10⟩ := map_some h8
    cases h10
    refine ⟨F, G, s, ps, R, r, s1, h1, fun v H1 F1 ps1 R1 s01 hv => ⟨F1, G, s1, ps1, R1, a, s2, h3, fun H2 F2 ps2 R2 s12 => ⟨F2, G, s2, ps2, R2, b, s3, h5, fun H3 F3 ps3 R3 s23 => ?_⟩⟩⟩
    refine ⟨F3, d, o, R3.sF, look_lnt R3 (rfAt_mono (s12.trans s23) hv) h7, h9, fun w H4 out => ?_⟩
    obtain ⟨F4, as, R4, s34, own, nd, new⟩ := out.rel R3
    exact q w H4 F4 ps3 as R4 (((s01.trans s12).trans s23).trans s34) own nd new
end

/-! ### sorted -/
def ins {α : Type} (le : α → α → Bool) (x : α) : List α → List α
  | [] => [x]
  | y :: ys => if le x y = true then x :: y :: ys else y :: ins le x ys
def isort {α : Type} (le : α → α → Bool) : List α → List α
  | [] => []
  | x :: xs => ins le x (isort le xs)
section
variable {α : Type} {le : α → α → Bool}
theorem ins_mem {x y : α} : ∀ {l : List α}, y ∈ ins le x l ↔ y = x ∨ y ∈ l
  | [] => by simp [ins]
  | z :: l => by
    unfold ins
    split
    · simp
    · rw [List.mem_cons, ins_mem (l := l), List.mem_cons]
      constructor
      · rintro (h | h | h)
        · exact .inr (.inl h)
        · exact .inl h
        · exact .inr (.inr h)
      · rintro (h | h | h)
        · exact .inr (.inl h)
        · exact .inl h
        · exact .inr (.inr h)
theorem ins_len (x : α) : ∀ l : List α, (ins le x l).length = l.length + 1
  | [] => rfl
  | y :: l => by
    unfold ins
    split
    · rfl
    · rw [List.length_cons, ins_len x l, List.length_cons]
theorem isort_len : ∀ l : List α, (isort le l).length = l.length
  | [] => rfl
  | x :: l => by
    unfold isort
    rw [ins_len, isort_len l, List.length_cons]
theorem isort_mem {y : α} : ∀ {l : List α}, y ∈ isort le l ↔ y ∈ l
  | [] => Iff.rfl
  | x :: l => by
    unfold isort
    rw [ins_mem, isort_mem (l := l), List.mem_cons]
theorem ins_pw (h : PySem.W.TotalLe le) (x : α) : ∀ l : List α, l.Pairwise (fun a b => le a b = true) → (ins le x l).Pairwise (fun a b => le a b = true)
  | [], _ => by simp [ins]
  | y :: l, hp => by
    obtain ⟨h1, h2⟩ := List.pairwise_cons.mp hp
    unfold ins
    split
    · rename_i hxy
      refine List.pairwise_cons.mpr ⟨fun z hz => ?_, hp⟩
      rcases List.mem_cons.mp hz with e | hz
      · rw [e]
        exact hxy
      · exact h.trans x y z hxy (h1 z hz)
    · rename_i hxy
      refine List.pairwise_cons.mpr ⟨fun z hz => ?_, ins_pw h x l h2⟩
      rcases ins_mem.mp hz with e | hz
      · rw [e]
        exact (h.total x y).resolve_left hxy
      · exact h1 z hz
theorem isort_pw (h : PySem.W.TotalLe le) : ∀ l : List α, (isort le l).Pairwise (fun a b => le a b = true)
  | [] => .nil
  | x :: l => ins_pw h x _ (isort_pw h l)
theorem ins_filter (h : PySem.W.TotalLe le) (c x : α) : ∀ l : List α, l.Pairwise (fun a b => le a b = true) → (ins le x l).filter (PySem.W.sameRank le c) = (x :: l).filter (PySem.W.sameRank le c)
  | [], _ => rfl
  | y :: l, hp => by
    obtain ⟨h1, h2⟩ := List.pairwise_cons.mp hp
    unfold ins
    split
    · rfl
    · rename_i hxy
      rw [List.filter_cons, ins_filter h c x l h2]
      by_cases cx : PySem.W.sameRank le c x = true
      · have cy : ¬ PySem.W.sameRank le c y = true := fun cy => by
          unfold PySem.W.sameRank at cx cy
          rw [Bool.and_eq_true] at cx cy
          exact hxy (h.trans x c y cx.2 cy.1)
        rw [if_neg cy, List.filter_cons, if_pos cx, List.filter_cons, if_pos cx, List.filter_cons, if_neg cy]
      · rw [List.filter_cons, if_neg cx, List.filter_cons, if_neg cx, List.filter_cons]
theorem isort_filter (h : PySem.W.TotalLe le) (c : α) : ∀ l : List α, (isort le l).filter (PySem.W.sameRank le c) = l.filter (PySem.W.sameRank le c)
  | [] => rfl
  | x :: l => by
    unfold isort
    rw [ins_filter h c x _ (isort_pw h l), List.filter_cons, isort_filter h c l, List.filter_cons]
theorem isort_merge (h : PySem.W.TotalLe le) (l : List α) : isort le l = l.mergeSort le := PySem.W.sort_unique h (isort_pw h l) fun c => isort_filter h c l
end
def dLe (a b : D) : Bool := !PySem.W.dataLt b a
theorem dLe_eq : dLe = PySem.W.dataLe false (fun d : D => d) := by
  rw [PySem.W.dataLe_eq]
  rfl
theorem dLe_total : PySem.W.TotalLe dLe := by
  rw [dLe_eq]
  exact PySem.W.sortLe_total _ _ _
def isTup1 : D → Bool
  | .tuple (_ :: _) => true
  | _ => false
def isAtom : D → Bool
  | .none => false
  | .tuple _ => false
  | _ => true
def sortOk (xs : List D) : Bool := (xs.all fun a => xs.all fun b => PySem.W.alike a b) && (xs.all isTup1 || xs.all isAtom) && (xs.all fun a => decide (a.depth ≤ 64) && a.plain)
def sortD (xs : List D) : List D := isort dLe xs
theorem sortOk_is {xs : List D} (h : sortOk xs = true) : PySem.W.AllAlike xs ∧ PySem.W.Sortable xs ∧ (∀ d ∈ xs, d.depth ≤ 64) ∧ ∀ d ∈ xs, d.plain = true := by
  unfold sortOk at h
  rw [Bool.and_eq_true, Bool.and_eq_true] at h
  obtain ⟨⟨h1, h2⟩, h3⟩ := h
  refine ⟨fun d hd e he => List.all_eq_true.mp (List.all_eq_true.mp h1 d hd) e he, ?_, fun d hd => of_decide_eq_true (Bool.and_eq_true _ _ ▸ List.all_eq_true.mp h3 d hd).1, fun d hd => (Bool.and_eq_true _ _ ▸ List.all_eq_true.mp h3 d hd).2⟩
  rw [Bool.or_eq_true] at h2
  rcases h2 with h2 | h2
  · refine .inl fun d hd => ?_
    have q := List.all_eq_true.mp h2 d hd
    unfold isTup1 at q
    split at q
    · exact ⟨_, _, rfl⟩
    · cases q
  · refine .inr fun d hd => ?_
    have q := List.all_eq_true.mp h2 d hd
    refine ⟨fun e => ?_, fun xs e => ?_⟩
    · rw [e] at q
      cases q
    · rw [e] at q
      cases q
section
variable {X : Cx}
theorem each_vals {K : PySem.W.Frag} {F : Hp} : ∀ {us : List Value} {ds : List D}, PySem.W.EachIs (fun u d => ∃ v, RelV v u ∧ Tr K F v d) us ds → ∃ vs, Vals vs us ∧ TrAll K F vs ds
  | _, _, .nil => ⟨[], .nil, .nil⟩
  | _, _, .cons ⟨v, r, h⟩ t => by
    obtain ⟨vs, q1, q2⟩ := each_vals t
    exact ⟨v :: vs, .cons r q1, .cons h q2⟩
theorem each_reads {pins : List (Addr × Obj)} {σ : L2.St} {H F : Hp} {s : Shared} (I : Inv X pins σ H s) (sF : Same F H) : ∀ {us : List Value} {ds : List D}, (∀ d ∈ ds, d.plain = true) → PySem.W.EachIs (fun u d => ∃ v, RelV v u ∧ Tr X.K F v d) us ds → PySem.W.EachIs (fun u d => ∃ as, Reads s.heap u d as) us ds
  | _, _, _, .nil => .nil
  | _, _, hp, .cons ⟨v, r, h⟩ t => .cons (Dp.reads I _ _ _ (tr_dp _ (hp _ List.mem_cons_self) (dp_mono sF _ h)) r) (each_reads I sF (fun d hd => hp d (List.mem_cons_of_mem _ hd)) t)
end
end Dv

/-! Built-in calls, tests, and, or, not. -/
namespace Dv
open PySem PySem.Spec PyProof.Rows L2
variable {np : Nat}

/-! ### built-ins by data -/
def gLen : List D → Option O
  | [.list xs] => some (.val (.int xs.length))
  | [.tuple xs] => some (.val (.int xs.length))
  | [.str x] => if x.length ≤ sizeLine then some (.val (.int x.length)) else none
  | _ => none
def gInt : List D → Option O
  | [.int i] => some (.val (.int i))
  | [.bool b] => some (.val (.int (if b then 1 else 0)))
  | _ => none
def gAbs : List D → Option O
  | [.int i] => some (.val (.int (if i < 0 then -i else i)))
  | _ => none
def gList : List D → Option O
  | [.list xs] => some (.lst xs)
  | [.tuple xs] => some (.lst xs)
  | _ => none
def gTuple : List D → Option O
  | [.list xs] => some (.val (.tuple xs))
  | [.tuple xs] => some (.val (.tuple xs))
  | _ => none
/-- a value's truth, where the model serves it -/
def truthD : D → Option Bool
  | .none => some false
  | .bool b => some b
  | .int n => some (n != 0)
  | .str x => if x.length ≤ sizeLine then some ((x.length : Int) != 0) else none
  | .list xs => some (!xs.isEmpty)
  | .tuple xs => some (!xs.isEmpty)
  | .dict _ => none
def truths : List D → Option (List Bool)
  | [] => some []
  | d :: ds => (truthD d).bind fun b => (truths ds).map fun bs => b :: bs
def gAll : List D → Option O
  | [.list xs] => if PyData.plainAll xs = true then (truths xs).map fun bs => .val (.bool (bs.all id)) else none
  | [.tuple xs] => if PyData.plainAll xs = true then (truths xs).map fun bs => .val (.bool (bs.all id)) else none
  | _ => none
section
variable {X : Cx} {pins : List (Addr × Obj)} {σ : L2.St} {H F : Hp} {s : Shared}
theorem tr_len (I : Inv X pins σ H s) (sF : Same F H) {v : V} {d : D} (h : Tr X.K F v d) : (∀ xs, d = .list xs → xs.length ≤ sizeLine) ∧ ∀ xs, d = .tuple xs → xs.length ≤ sizeLine := by
  refine ⟨fun xs e => ?_, fun xs e => ?_⟩
  · subst e
    cases h with
    | lst h1 h2 =>
      obtain ⟨its, r, _, z⟩ := I.list (lsk_mono sF h1).sq
      rw [← da_length h2]
      exact z
  · subst e
    cases h with
    | tup h1 h2 =>
      obtain ⟨its, r, _, z⟩ := I.tuple (same_tup sF h1)
      rw [← da_length h2]
      exact z
theorem truthD_is (I : Inv X pins σ H s) (sF : Same F H) {v : V} {d : D} {b : Bool} (t : Tr X.K F v d) (h : truthD d = some b) : d.truthy = b ∧ d.fits63 := by
  obtain ⟨t1, t2⟩ := tr_len I sF t
  have := line63
  cases d with
  | str x =>
    obtain ⟨h1, h2⟩ := if_some h
    exact ⟨h2, by show (x.length : Int) < 2 ^ 63; omega⟩
  | list xs =>
    cases h
    have := t1 xs rfl
    exact ⟨rfl, by show (xs.length : Int) < 2 ^ 63; omega⟩
  | tuple xs =>
    cases h
    have := t2 xs rfl
    exact ⟨rfl, by show (xs.length : Int) < 2 ^ 63; omega⟩
  | none => cases h; exact ⟨rfl, trivial⟩
  | bool b => cases h; exact ⟨rfl, trivial⟩
  | int n => cases h; exact ⟨rfl, trivial⟩
  | dict _ => cases h
theorem truths_is (I : Inv X pins σ H s) (sF : Same F H) : ∀ {vs : List V} {ds : List D} {bs : List Bool}, TrAll X.K F vs ds → truths ds = some bs → ds.map PyData.truthy = bs ∧ ∀ d ∈ ds, d.fits63
  | _, [], _, _, e => by
    cases e
    exact ⟨rfl, fun d hd => nomatch hd⟩
  | _, d :: ds, bs, .cons t ts, e => by
    obtain ⟨b, h1, h2⟩ := bind_some e
    obtain ⟨bs', h3, h4⟩ := map_some h2
    cases h4
    obtain ⟨e1, f1⟩ := truthD_is I sF t h1
    obtain ⟨e2, f2⟩ := truths_is I sF ts h3
    refine ⟨by rw [List.map_cons, e1, e2], fun x hx => ?_⟩
    rcases List.mem_cons.mp hx with e | hx
    · rw [e]
      exact f1
    · exact f2 x hx
/-- a value's truth by the abstract heap -/
theorem truV_is (sF : Same F H) {v : V} {d : D} {b : Bool} (t : Lnt X.K F H v d) (h : truthD d = some b) : TruV X.K v H b := by
  cases d with
  | none =>
    rw [lnt_none t]
    cases h
    rfl
  | bool b =>
    rw [lnt_bool t]
    cases h
    rfl
  | int n =>
    rw [lnt_int t]
    cases h
    rfl
  | str x =>
    rw [lnt_str t]
    obtain ⟨h1, h2⟩ := if_some h
    exact ⟨h1, h2.symm⟩
  | list xs =>
    obtain ⟨p, vs, rfl, h1, t1⟩ := lnt_list sF t
    cases h
    refine .inl ⟨vs, h1.sq, ?_⟩
    cases t1 <;> rfl
  | tuple xs =>
    obtain ⟨p, vs, rfl, h1, t1⟩ := lnt_tuple t
    cases h
    refine .inr (.inl ⟨vs, same_tup sF h1, ?_⟩)
    cases t1 <;> rfl
  | dict _ => cases h
end
section
variable {X : Cx}
theorem one_arg {K : PySem.W.Frag} {F H : Hp} {vs : List V} {d : D} (l : LntAll K F H vs [d]) : ∃ v, vs = [v] ∧ Lnt K F H v d := by
  match vs, l with
  | [v], l => exact ⟨v, rfl, l.1⟩
  | [], l => exact l.elim
  | _ :: _ :: _, l => exact l.2.elim
theorem c_len : CallR X (.builtin "len") (rG X.K gLen) := by
  intro pins s σ H vs us Q I r ⟨F, ds, o, sF, l, e, q⟩
  unfold gLen at e
  split at e
  · rename_i xs
    cases e
    obtain ⟨v, rfl, l1⟩ := one_arg l
    obtain ⟨p, ws, rfl, h1, t1⟩ := lnt_list sF l1
    exact call_len pins s σ H _ us Q I r ⟨_, xs.length, rfl, .inl ⟨ws, h1.sq, (da_length t1).symm⟩, q _ H (.old (.int _))⟩
  · rename_i xs
    cases e
    obtain ⟨v, rfl, l1⟩ := one_arg l
    obtain ⟨p, ws, rfl, h1, t1⟩ := lnt_tuple l1
    exact call_len pins s σ H _ us Q I r ⟨_, xs.length, rfl, .inr ⟨ws, same_tup sF h1, (da_length t1).symm⟩, q _ H (.old (.int _))⟩
  · rename_i x
    obtain ⟨hc, rfl⟩ := if_some e
    obtain ⟨v, rfl, l1⟩ := one_arg l
    rw [lnt_str l1] at r
    exact call_len pins s σ H _ us Q I r ⟨_, x.length, rfl, ⟨hc, rfl⟩, q _ H (.old (.int _))⟩
  · cases e
theorem c_int : CallR X (.type "int") (rG X.K gInt) := by
  intro pins s σ H vs us Q I r ⟨F, ds, o, sF, l, e, q⟩
  unfold gInt at e
  split at e
  · cases e
    obtain ⟨v, rfl, l1⟩ := one_arg l
    exact call_int1 pins s σ H _ us Q I r (.inl ⟨_, by rw [lnt_int l1], q _ H (.old (.int _))⟩)
  · cases e
    obtain ⟨v, rfl, l1⟩ := one_arg l
    exact call_int1 pins s σ H _ us Q I r (.inr ⟨_, by rw [lnt_bool l1], q _ H (.old (.int _))⟩)
  · cases e
theorem c_abs : CallR X (.builtin "abs") (rG X.K gAbs) := by
  intro pins s σ H vs us Q I r ⟨F, ds, o, sF, l, e, q⟩
  unfold gAbs at e
  split at e
  · cases e
    obtain ⟨v, rfl, l1⟩ := one_arg l
    exact call_abs pins s σ H _ us Q I r ⟨_, by rw [lnt_int l1], q _ H (.old (.int _))⟩
  · cases e
theorem c_list : CallR X (.type "list") (rG X.K gList) := by
  intro pins s σ H vs us Q I r ⟨F, ds, o, sF, l, e, q⟩
  unfold gList at e
  split at e
  · cases e
    obtain ⟨v, rfl, l1⟩ := one_arg l
    obtain ⟨p, ws, rfl, h1, t1⟩ := lnt_list sF l1
    exact call_list_of pins s σ H _ us Q I r ⟨p, ws, rfl, .inl h1.sq, fun p' hp => q _ _ (.lst hp t1)⟩
  · cases e
    obtain ⟨v, rfl, l1⟩ := one_arg l
    obtain ⟨p, ws, rfl, h1, t1⟩ := lnt_tuple l1
    exact call_list_of pins s σ H _ us Q I r ⟨p, ws, rfl, .inr (same_tup sF h1), fun p' hp => q _ _ (.lst hp t1)⟩
  · cases e
theorem c_tuple : CallR X (.type "tuple") (rG X.K gTuple) := by
  intro pins s σ H vs us Q I r ⟨F, ds, o, sF, l, e, q⟩
  unfold gTuple at e
  split at e
  · cases e
    obtain ⟨v, rfl, l1⟩ := one_arg l
    obtain ⟨p, ws, rfl, h1, t1⟩ := lnt_list sF l1
    exact call_tuple_of pins s σ H _ us Q I r ⟨p, ws, rfl, .inl ⟨h1.sq, fun p' hp => q _ _ (.tup hp t1)⟩⟩
  · cases e
    obtain ⟨v, rfl, l1⟩ := one_arg l
    obtain ⟨p, ws, rfl, h1, t1⟩ := lnt_tuple l1
    exact call_tuple_of pins s σ H _ us Q I r ⟨p, ws, rfl, .inr ⟨same_tup sF h1, q _ H (.old (.tup h1 t1))⟩⟩
  · cases e
theorem if_someO {α : Type} {c : Prop} [Decidable c] {a : Option α} {b : α} (h : (if c then a else none) = some b) : c ∧ a = some b := by
  split at h
  · rename_i hc
    exact ⟨hc, h⟩
  · cases h
theorem rd_reads {pins : List (Addr × Obj)} {σ : L2.St} {H F : Hp} {s : Shared} (I : Inv X pins σ H s) (sF : Same F H) {ws : List V} {its : List Value} {xs : List D} (hp : PyData.plainAll xs = true) (r : Vals ws its) (t : TrAll X.K F ws xs) : ∃ as, ReadsAll s.heap its xs as :=
  Dp.readsAll I xs ws its (trAll_dp xs hp (dpAll_mono sF xs t)) r
theorem c_all (hc : X.calm = true) : CallR X (.builtin "all") (rG X.K gAll) := by
  intro pins s σ H vs us Q I r ⟨F, ds, o, sF, l, e, q⟩
  unfold gAll at e
  split at e
  · rename_i xs
    obtain ⟨hpl, e⟩ := if_someO e
    obtain ⟨bs, e1, rfl⟩ := map_some e
    obtain ⟨v, rfl, l1⟩ := one_arg l
    obtain ⟨p, ws, rfl, h1, t1⟩ := lnt_list sF l1
    rw [Vals.ref1 r]
    obtain ⟨z, its, n, r1, hl, o1⟩ := rd_list I h1
    obtain ⟨as, rs⟩ := rd_reads I sF hpl r1 t1
    obtain ⟨e2, f2⟩ := truths_is I sF t1 e1
    refine PySem.W.all_list_data (I.ok.hd hc) (vs := its.toArray) ⟨_, o1, rfl, n, rfl⟩ (by simpa using rs) hpl f2 fun h' tk hk => ?_
    refine ⟨.bl _, H, I.kept (t' := tk) hk, rfl, ?_⟩
    rw [show xs.all PyData.truthy = bs.all id by rw [← e2, List.all_map] <;> rfl]
    exact q _ H (.old (.bl _))
  · rename_i xs
    obtain ⟨hpl, e⟩ := if_someO e
    obtain ⟨bs, e1, rfl⟩ := map_some e
    obtain ⟨v, rfl, l1⟩ := one_arg l
    obtain ⟨p, ws, rfl, h1, t1⟩ := lnt_tuple l1
    rw [Vals.ref1 r]
    obtain ⟨its, r1, p1, z⟩ := I.tuple (same_tup sF h1)
    obtain ⟨as, rs⟩ := rd_reads I sF hpl r1 t1
    obtain ⟨e2, f2⟩ := truths_is I sF t1 e1
    refine PySem.W.all_tuple_data (I.ok.hd hc) (vs := its.toArray) p1 (by simpa using rs) hpl f2 fun h' tk hk => ?_
    refine ⟨.bl _, H, I.kept (t' := tk) hk, rfl, ?_⟩
    rw [show xs.all PyData.truthy = bs.all id by rw [← e2, List.all_map] <;> rfl]
    exact q _ H (.old (.bl _))
  · cases e
end

/-! ### a built-in called -/
section
variable {X : Cx} {x : Str} {p pos : Pos} {e : Expr} {es : List Expr} {ms : List MR} {id T : String} {g : List D → Option O}
theorem e_callB (hc : CallR X (.builtin id) (rG X.K g)) (hg : Gl X x) (hm : X.mg x = none) (hv : bootBuiltins x = some (.builtin id)) (ha : PA X (e :: es) (tA np X.K ms)) (hn : x ≠ "__name__" := by decide) (hdb : (x == ("__debug__" : Str)) = false := by decide)
    (he : starEach (e :: es) X.env = (false, eval e X.env) :: starEach es X.env := by rfl) (hpl : (backTo pos (starEach es X.env)).any (·.1) = false := by rfl) : PE X (.Call (.Name x p) (e :: es) [] pos) (tO np X.K (mOp g ms)) :=
  pe_imp (pe_callB hc hg hm hv ha hn hdb he hpl) fun _ _ _ => op_done
theorem e_callT (hc : CallR X (.type T) (rG X.K g)) (hg : Gl X x) (hm : X.mg x = none) (hv : bootBuiltins x = some (.type T)) (ha : PA X (e :: es) (tA np X.K ms)) (hn : x ≠ "__name__" := by decide) (hdb : (x == ("__debug__" : Str)) = false := by decide)
    (he : starEach (e :: es) X.env = (false, eval e X.env) :: starEach es X.env := by rfl) (hpl : (backTo pos (starEach es X.env)).any (·.1) = false := by rfl) : PE X (.Call (.Name x p) (e :: es) [] pos) (tO np X.K (mOp g ms)) :=
  pe_imp (pe_callTy hc hg hm hv ha hn hdb he hpl) fun _ _ _ => op_done
end

/-! ### isinstance -/
inductive Ty where
  | list | tuple | bool | str | int
def Ty.nm : Ty → String
  | .list => "list"
  | .tuple => "tuple"
  | .bool => "bool"
  | .str => "str"
  | .int => "int"
def isTy : Ty → D → Bool
  | .list, d => d.isList
  | .tuple, d => d.isTuple
  | .bool, d => d.isBool
  | .str, d => d.isStr
  | .int, d => d.isInt
/-- no dict -/
def nd : D → Bool
  | .dict _ => false
  | _ => true
def vIsi (T : Ty) (m : MR) : MV := fun s => (m s).bind fun p => (p.1.look p.2).bind fun d => if nd d = true then some (.bool (isTy T d), p.2) else none
section
variable {X : Cx}
def rIsi (K : PySem.W.Frag) (T : Ty) : List V → Hp → VK → Prop := fun vs H Q => ∃ v d F, vs = [v, .ty T.nm] ∧ Same F H ∧ nd d = true ∧ Lnt K F H v d ∧ Q (.bl (isTy T d)) H
/-- what stands for a list, a tuple -/
theorem top_at {pins : List (Addr × Obj)} {σ : L2.St} {H F : Hp} {s : Shared} (I : Inv X pins σ H s) (sF : Same F H) {v : V} {u : Value} {xs : List D} (r : RelV v u) : (Lnt X.K F H v (.list xs) → ∃ a o, u = .ref a ∧ s.heap.get? a = some o ∧ o.cls = .type "list") ∧ (Lnt X.K F H v (.tuple xs) → ∃ a o, u = .ref a ∧ s.heap.get? a = some o ∧ o.cls = .type "tuple") := by
  refine ⟨fun l => ?_, fun l => ?_⟩
  · obtain ⟨p, ws, rfl, h1, _⟩ := lnt_list sF l
    obtain ⟨_, its, n, _, _, o1⟩ := rd_list I h1
    exact ⟨p, _, r, o1, rfl⟩
  · obtain ⟨p, ws, rfl, h1, _⟩ := lnt_tuple l
    obtain ⟨its, _, ⟨o, e, c, _⟩, _⟩ := I.tuple (same_tup sF h1)
    exact ⟨p, o, r, e, c⟩
theorem c_isi (T : Ty) : CallR X (.builtin "isinstance") (rIsi X.K T) := by
  intro pins s σ H vs us Q I r ⟨v, d, F, ev, sF, hnd, l, q⟩
  subst ev
  obtain ⟨u, w', rfl, r1, r2⟩ := r.two
  obtain rfl : w' = Value.type T.nm := r2
  have fin : ∀ tk, s.toks ≤ tk → EP X pins σ Q (.bool (isTy T d)) { s with toks := tk } := fun tk _ => ⟨.bl _, H, I.tok tk, rfl, q⟩
  have atom : d.plain = true → wpAny (model X.prog X.w) X.A (call (.builtin "isinstance") [u, .type T.nm]) (EP X pins σ Q) X.xe s := fun hp => by
    obtain ⟨⟨as, rd⟩, _⟩ := lnt_reads I sF hp l r1
    cases T with
    | list => exact PySem.W.isinstance_list_data rd fin
    | tuple => exact PySem.W.isinstance_tuple_data rd fin
    | bool => exact PySem.W.isinstance_bool_data rd fin
    | str => exact PySem.W.isinstance_str_data rd fin
    | int => exact PySem.W.isinstance_int_data rd fin
  cases d with
  | none => exact atom rfl
  | bool b => exact atom rfl
  | int i => exact atom rfl
  | str x => exact atom rfl
  | dict kvs => cases hnd
  | list xs =>
    obtain ⟨a, o, rfl, h1, h2⟩ := (top_at I sF r1).1 l
    cases T with
    | list => exact PySem.IsiPair.list_list h1 h2 (fin s.toks (Nat.le_refl _))
    | tuple => exact PySem.IsiPair.list_tuple h1 h2 (fin _ (Nat.le_succ _))
    | bool => exact PySem.IsiPair.list_bool h1 h2 (fin _ (Nat.le_succ _))
    | str => exact PySem.IsiPair.list_str h1 h2 (fin _ (Nat.le_succ _))
    | int => exact PySem.IsiPair.list_int h1 h2 (fin _ (Nat.le_succ _))
  | tuple xs =>
    obtain ⟨a, o, rfl, h1, h2⟩ := (top_at I sF r1).2 l
    cases T with
    | list => exact PySem.IsiPair.tuple_list h1 h2 (fin _ (Nat.le_succ _))
    | tuple => exact PySem.IsiPair.tuple_tuple h1 h2 (fin s.toks (Nat.le_refl _))
    | bool => exact PySem.IsiPair.tuple_bool h1 h2 (fin _ (Nat.le_succ _))
    | str => exact PySem.IsiPair.tuple_str h1 h2 (fin _ (Nat.le_succ _))
    | int => exact PySem.IsiPair.tuple_int h1 h2 (fin _ (Nat.le_succ _))
theorem e_isi {e : Expr} (T : Ty) {x y : Str} {p p2 pos : Pos} {m : MR} (h : PE X e (tR np X.K m)) (hg : Gl X x) (hm : X.mg x = none) (hv : bootBuiltins x = some (.builtin "isinstance")) (hg2 : Gl X y) (hm2 : X.mg y = none) (hv2 : bootBuiltins y = some (.type T.nm))
    (hn : x ≠ "__name__" := by decide) (hdb : (x == ("__debug__" : Str)) = false := by decide) (hn2 : y ≠ "__name__" := by decide) (hdb2 : (y == ("__debug__" : Str)) = false := by decide)
    (he : starEach (e :: [.Name y p2]) X.env = (false, eval e X.env) :: starEach [.Name y p2] X.env := by rfl) (he2 : starEach [.Name y p2] X.env = (false, eval (.Name y p2) X.env) :: starEach [] X.env := by rfl) (hpl : (backTo pos (starEach [.Name y p2] X.env)).any (·.1) = false := by rfl) :
    PE X (.Call (.Name x p) [e, .Name y p2] [] pos) (tV np X.K (vIsi T m)) :=
  pe_imp (pe_callB (c_isi T) hg hm hv (pa_cons h (pa_cons (pe_bltn (v := .ty T.nm) hg2 hm2 hv2 rfl hn2 hdb2) pa_nil he2) he) hn hdb he hpl) fun σ H Q ⟨F, G, s, ps, R, d, s', hm', q⟩ => by
    obtain ⟨⟨r, s1⟩, h1, h2⟩ := bind_some hm'
    obtain ⟨d', h3, h4⟩ := bind_some h2
    obtain ⟨hnd, h4⟩ := if_some h4
    cases h4
    exact ⟨F, G, s, ps, R, r, s1, h1, fun v H1 F1 ps1 R1 s01 hv => ⟨v, d', F1, rfl, R1.sF, hnd, look_lnt R1 hv h3, q _ H1 F1 ps1 R1 s01 (.bl _)⟩⟩
/-- of two classes -/
def vIsi2 (T U : Ty) (m : MR) : MV := fun s => (m s).bind fun p => (p.1.look p.2).bind fun d => if nd d = true then some (.bool (isTy T d || isTy U d), p.2) else none
def kindName : D → String
  | .none => "NoneType"
  | .bool _ => "bool"
  | .int _ => "int"
  | .str _ => "str"
  | .list _ => "list"
  | .tuple _ => "tuple"
  | .dict _ => "dict"
open PySem in
theorem ne_ty {a b : String} (h : a ≠ b) : (Value.type a == Value.type b) = false := by
  cases e : (Value.type a == Value.type b) with
  | false => rfl
  | true =>
    have q := eq_of_beq e
    injection q with q
    exact absurd q h
theorem ans_NoneType  : ∀ T : Ty, PySem.Answers (fun s => s.TypeIs Value.none "NoneType") Value.none (.type T.nm) (isTy T .none)
  | .list => (show PySem.Answers _ _ (.type "list") false from PySem.Answers.of_false_none (ne_ty (by decide)) PySem.F.isi_meta_list PySem.F.sub_NoneType_list)
  | .tuple => (show PySem.Answers _ _ (.type "tuple") false from PySem.Answers.of_false_none (ne_ty (by decide)) PySem.F.isi_meta_tuple PySem.F.sub_NoneType_tuple)
  | .bool => (show PySem.Answers _ _ (.type "bool") false from PySem.Answers.of_false_none (ne_ty (by decide)) PySem.F.isi_meta_bool PySem.F.sub_NoneType_bool)
  | .str => (show PySem.Answers _ _ (.type "str") false from PySem.Answers.of_false_none (ne_ty (by decide)) PySem.F.isi_meta_str PySem.F.sub_NoneType_str)
  | .int => (show PySem.Answers _ _ (.type "int") false from PySem.Answers.of_false_none (ne_ty (by decide)) PySem.F.isi_meta_int PySem.F.sub_NoneType_int)
theorem ans_bool (b : Bool) : ∀ T : Ty, PySem.Answers (fun s => s.TypeIs (Value.bool b) "bool") (Value.bool b) (.type T.nm) (isTy T (.bool b))
  | .list => (show PySem.Answers _ _ (.type "list") false from PySem.Answers.of_false_bool (ne_ty (by decide)) PySem.F.isi_meta_list PySem.F.sub_bool_list)
  | .tuple => (show PySem.Answers _ _ (.type "tuple") false from PySem.Answers.of_false_bool (ne_ty (by decide)) PySem.F.isi_meta_tuple PySem.F.sub_bool_tuple)
  | .bool => (show PySem.Answers _ _ (.type "bool") true from PySem.Answers.of_true PySem.F.isi_meta_bool PySem.F.sub_bool_bool)
  | .str => (show PySem.Answers _ _ (.type "str") false from PySem.Answers.of_false_bool (ne_ty (by decide)) PySem.F.isi_meta_str PySem.F.sub_bool_str)
  | .int => (show PySem.Answers _ _ (.type "int") true from PySem.Answers.of_true PySem.F.isi_meta_int PySem.F.sub_bool_int)
theorem ans_int (n : Int) (t : Tok) : ∀ T : Ty, PySem.Answers (fun s => s.TypeIs (Value.int n t) "int") (Value.int n t) (.type T.nm) (isTy T (.int n))
  | .list => (show PySem.Answers _ _ (.type "list") false from PySem.Answers.of_false_int (ne_ty (by decide)) PySem.F.isi_meta_list PySem.F.sub_int_list)
  | .tuple => (show PySem.Answers _ _ (.type "tuple") false from PySem.Answers.of_false_int (ne_ty (by decide)) PySem.F.isi_meta_tuple PySem.F.sub_int_tuple)
  | .bool => (show PySem.Answers _ _ (.type "bool") false from PySem.Answers.of_false_int (ne_ty (by decide)) PySem.F.isi_meta_bool PySem.F.sub_int_bool)
  | .str => (show PySem.Answers _ _ (.type "str") false from PySem.Answers.of_false_int (ne_ty (by decide)) PySem.F.isi_meta_str PySem.F.sub_int_str)
  | .int => (show PySem.Answers _ _ (.type "int") true from PySem.Answers.of_true PySem.F.isi_meta_int PySem.F.sub_int_int)
theorem ans_str (x : Str) (t : Tok) : ∀ T : Ty, PySem.Answers (fun s => s.TypeIs (Value.str x t) "str") (Value.str x t) (.type T.nm) (isTy T (.str x))
  | .list => (show PySem.Answers _ _ (.type "list") false from PySem.Answers.of_false_str (ne_ty (by decide)) PySem.F.isi_meta_list PySem.F.sub_str_list)
  | .tuple => (show PySem.Answers _ _ (.type "tuple") false from PySem.Answers.of_false_str (ne_ty (by decide)) PySem.F.isi_meta_tuple PySem.F.sub_str_tuple)
  | .bool => (show PySem.Answers _ _ (.type "bool") false from PySem.Answers.of_false_str (ne_ty (by decide)) PySem.F.isi_meta_bool PySem.F.sub_str_bool)
  | .str => (show PySem.Answers _ _ (.type "str") true from PySem.Answers.of_true PySem.F.isi_meta_str PySem.F.sub_str_str)
  | .int => (show PySem.Answers _ _ (.type "int") false from PySem.Answers.of_false_str (ne_ty (by decide)) PySem.F.isi_meta_int PySem.F.sub_str_int)
theorem ans_list (a : Addr) (xs : List D) : ∀ T : Ty, PySem.Answers (fun s => s.TypeIs (Value.ref a) "list") (Value.ref a) (.type T.nm) (isTy T (.list xs))
  | .list => (show PySem.Answers _ _ (.type "list") true from PySem.Answers.of_true PySem.F.isi_meta_list PySem.F.sub_list_list)
  | .tuple => (show PySem.Answers _ _ (.type "tuple") false from PySem.Answers.of_false_list (ne_ty (by decide)) PySem.F.isi_meta_tuple PySem.F.sub_list_tuple)
  | .bool => (show PySem.Answers _ _ (.type "bool") false from PySem.Answers.of_false_list (ne_ty (by decide)) PySem.F.isi_meta_bool PySem.F.sub_list_bool)
  | .str => (show PySem.Answers _ _ (.type "str") false from PySem.Answers.of_false_list (ne_ty (by decide)) PySem.F.isi_meta_str PySem.F.sub_list_str)
  | .int => (show PySem.Answers _ _ (.type "int") false from PySem.Answers.of_false_list (ne_ty (by decide)) PySem.F.isi_meta_int PySem.F.sub_list_int)
theorem ans_tuple (a : Addr) (xs : List D) : ∀ T : Ty, PySem.Answers (fun s => s.TypeIs (Value.ref a) "tuple") (Value.ref a) (.type T.nm) (isTy T (.tuple xs))
  | .list => (show PySem.Answers _ _ (.type "list") false from PySem.Answers.of_false_tuple (ne_ty (by decide)) PySem.F.isi_meta_list PySem.F.sub_tuple_list)
  | .tuple => (show PySem.Answers _ _ (.type "tuple") true from PySem.Answers.of_true PySem.F.isi_meta_tuple PySem.F.sub_tuple_tuple)
  | .bool => (show PySem.Answers _ _ (.type "bool") false from PySem.Answers.of_false_tuple (ne_ty (by decide)) PySem.F.isi_meta_bool PySem.F.sub_tuple_bool)
  | .str => (show PySem.Answers _ _ (.type "str") false from PySem.Answers.of_false_tuple (ne_ty (by decide)) PySem.F.isi_meta_str PySem.F.sub_tuple_str)
  | .int => (show PySem.Answers _ _ (.type "int") false from PySem.Answers.of_false_tuple (ne_ty (by decide)) PySem.F.isi_meta_int PySem.F.sub_tuple_int)
theorem kind_ans {pins : List (Addr × Obj)} {σ : L2.St} {H F : Hp} {s : Shared} (I : Inv X pins σ H s) (sF : Same F H) {v : V} {u : Value} {d : D} (hnd : nd d = true) (l : Lnt X.K F H v d) (r : RelV v u) :
    (∀ T : Ty, PySem.Answers (fun s => s.TypeIs u (kindName d)) u (.type T.nm) (isTy T d)) ∧ ∀ s' : Shared, (∀ a o, s.heap.get? a = some o → s'.heap.get? a = some o) → s'.TypeIs u (kindName d) := by
  cases d with
  | none =>
    rw [lnt_none l] at r
    obtain rfl : u = Value.none := r
    exact ⟨ans_NoneType, fun s' k => by first | rfl | trivial⟩
  | bool b =>
    rw [lnt_bool l] at r
    obtain rfl : u = Value.bool b := r
    exact ⟨ans_bool b, fun s' k => by first | rfl | trivial⟩
  | int n =>
    rw [lnt_int l] at r
    obtain ⟨t, rfl⟩ := r
    exact ⟨ans_int n t, fun s' k => typeIs_int s' n t⟩
  | str x =>
    rw [lnt_str l] at r
    obtain ⟨t, rfl⟩ := r
    exact ⟨ans_str x t, fun s' k => by first | rfl | trivial⟩
  | list xs =>
    obtain ⟨a, o, rfl, h1, h2⟩ := (top_at I sF r).1 l
    exact ⟨ans_list a xs, fun s' k => ⟨o, k _ _ h1, h2⟩⟩
  | tuple xs =>
    obtain ⟨a, o, rfl, h1, h2⟩ := (top_at I sF r).2 l
    exact ⟨ans_tuple a xs, fun s' k => ⟨o, k _ _ h1, h2⟩⟩
  | dict kvs => cases hnd
theorem vals_ty2' {a b : String} {us : List Value} (r : Vals [V.ty a, V.ty b] us) : us = [Value.type a, Value.type b] := by
  obtain ⟨u, v, rfl, h1, h2⟩ := r.two
  obtain rfl : u = Value.type a := h1
  obtain rfl : v = Value.type b := h2
  rfl
theorem e_isi2 {e : Expr} (T U : Ty) {x y z : Str} {p p2 p3 tpos pos : Pos} {k : Nat} {m : MR} (h : PE X e (tR np X.K m)) (hg : Gl X x) (hm : X.mg x = none) (hv : bootBuiltins x = some (.builtin "isinstance")) (hg2 : Gl X y) (hm2 : X.mg y = none) (hv2 : bootBuiltins y = some (.type T.nm))
    (hg3 : Gl X z) (hm3 : X.mg z = none) (hv3 : bootBuiltins z = some (.type U.nm))
    (hn : x ≠ "__name__" := by decide) (hdb : (x == ("__debug__" : Str)) = false := by decide) (hn2 : y ≠ "__name__" := by decide) (hdb2 : (y == ("__debug__" : Str)) = false := by decide) (hn3 : z ≠ "__name__" := by decide) (hdb3 : (z == ("__debug__" : Str)) = false := by decide)
    (hs1 : starEach [e, .Tuple [.Name y p2, .Name z p3] k tpos] X.env = (false, eval e X.env) :: starEach [.Tuple [.Name y p2, .Name z p3] k tpos] X.env := by rfl)
    (hs2 : starEach [.Tuple [.Name y p2, .Name z p3] k tpos] X.env = (false, eval (.Tuple [.Name y p2, .Name z p3] k tpos) X.env) :: starEach [] X.env := by rfl)
    (hs3 : starEach [.Name y p2, .Name z p3] X.env = (false, eval (.Name y p2) X.env) :: starEach [.Name z p3] X.env := by rfl) (hs4 : starEach [.Name z p3] X.env = (false, eval (.Name z p3) X.env) :: starEach [] X.env := by rfl)
    (hpl : (backTo pos (starEach [.Tuple [.Name y p2, .Name z p3] k tpos] X.env)).any (·.1) = false := by rfl) :
    PE X (.Call (.Name x p) [e, .Tuple [.Name y p2, .Name z p3] k tpos] [] pos) (tV np X.K (vIsi2 T U m)) := by
  have hes : PA X [.Name y p2, .Name z p3] (tCons (tC (.ty T.nm)) (tCons (tC (.ty U.nm)) tNil)) := pa_cons (pe_bltn (v := .ty T.nm) hg2 hm2 hv2 rfl hn2 hdb2) (pa_cons (pe_bltn (v := .ty U.nm) hg3 hm3 hv3 rfl hn3 hdb3) pa_nil hs4) hs3
  refine ⟨fun pins s σ H Q I h0 => ?_⟩
  obtain ⟨F, G, s0, ps, R, d, s', hm', q⟩ := h0
  obtain ⟨⟨r, s1'⟩, h1, h2⟩ := bind_some hm'
  obtain ⟨d', h3, h4⟩ := bind_some h2
  obtain ⟨hnd, h4⟩ := if_some h4
  cases h4
  refine wpAny_Call_Name_kw (ld_blt I hg hm hv ?_ hn hdb)
  refine PyProof.Rows.callWith_builtin1 ?_ hs1 hpl
  rw [hs1]
  show wpAny _ _ (spliced ((false, eval e X.env) :: backTo pos (starEach [.Tuple [.Name y p2, .Name z p3] k tpos] X.env))) _ _ s
  refine Calls.spliced_cons (thn (h.run pins s σ H (fun v H1 => ∃ F1 ps1, Rel np X.K F1 G s1' σ H1 ps1 ∧ Same F F1 ∧ RfAt X.K F1 σ v r) I ⟨F, G, s0, ps, R, r, s1', h1, fun v H1 F1 ps1 R1 s01 hv => ⟨F1, ps1, R1, s01, hv⟩⟩) fun u st1 ⟨v, H1, I1, r1, F1, ps1, R1, s01, hv⟩ => ?_)
  have hl := look_lnt R1 hv h3
  rw [hs2]
  show wpAny _ _ (spliced ((false, eval (.Tuple [.Name y p2, .Name z p3] k tpos) X.env) :: backTo pos (starEach [] X.env))) _ _ st1
  refine Calls.spliced_cons (wpAny_Tuple_spliced (thn (hes.run tpos pins st1 σ H1 (fun ys H' => ys = [.ty T.nm, .ty U.nm] ∧ H' = H1) I1 ⟨rfl, rfl⟩) fun us st2 ⟨ys, H2, I2, r2, ey, eH⟩ => ?_))
  subst ey
  subst eH
  have eu := vals_ty2' r2
  subst eu
  obtain ⟨an, kd⟩ := kind_ans I2 R1.sF hnd hl r1
  refine ⟨by show 2 ≤ sizeLine; rw [sizeLine_eq]; omega, ?_⟩
  have I3 : Inv X pins σ H2 { st2 with heap := st2.heap.push { cls := .type "tuple", data := .seq [Value.type T.nm, Value.type U.nm].toArray } } := I2.kept (t' := st2.toks) fun b u e => Heap.get?_push_of_some _ e
  refine Calls.spliced_nil ?_
  refine call_isinstance (isinstance_tuple (x := u) (Tx := kindName d') (tp := st2.heap.objs.size) (cs := [.type T.nm, .type U.nm]) (vs := [isTy T d', isTy U d']) ⟨an T, an U, True.intro⟩)
    ⟨kd _ fun b o e => Heap.get?_push_of_some _ e, Heap.get?_push_size _ rfl, fun tk => ⟨.bl (isTy T d' || isTy U d'), _, I3.tok tk, ?_, q _ H2 F1 ps1 R1 s01 (.bl _)⟩⟩
  show Value.bool _ = Value.bool _
  simp
end
end Dv

/-! Tests, and, or, not; statements. -/
namespace Dv
open PySem PySem.Spec PyProof.Rows L2
variable {np : Nat}

/-! ### tests -/
def mTru (m : MR) : MB := fun s => (m s).bind fun p => (p.1.look p.2).bind fun d => (truthD d).map fun b => (b, p.2)
def bAnd (a b : MB) : MB := fun s => (a s).bind fun p => if p.1 = true then b p.2 else some (false, p.2)
def bOr (a b : MB) : MB := fun s => (a s).bind fun p => if p.1 = true then some (true, p.2) else b p.2
def bNot (a : MB) : MB := fun s => (a s).map fun p => (!p.1, p.2)
def vAnd (a b : MV) : MV := fun s => (a s).bind fun p => (truthD p.1).bind fun k => if k = true then b p.2 else some p
def vOr (a b : MV) : MV := fun s => (a s).bind fun p => (truthD p.1).bind fun k => if k = true then some p else b p.2
def vNot (a : MR) : MV := fun s => (a s).bind fun p => (p.1.look p.2).bind fun d => (truthD d).map fun k => (.bool (!k), p.2)
def vIf (t : MB) (a b : MV) : MV := fun s => (t s).bind fun p => if p.1 = true then a p.2 else b p.2
def oIf (t : MB) (a b : MO) : MO := fun s => (t s).bind fun p => if p.1 = true then a p.2 else b p.2
section
variable {X : Cx} {e a b c : Expr} {rest : List Expr} {pos : Pos}
theorem t_tru {m : MR} (h : PE X e (tR np X.K m)) (he : ∀ whole, isTrue e X.env whole = (do let v ← whole; standAt e.pos; holding [v] (truthy v)) := by intro _; rfl) : PT X e (tB np X.K (mTru m)) :=
  pt_imp (pt_truth h he) fun σ H Q ⟨F, G, s, ps, R, k, s', hm, q⟩ => by
    obtain ⟨⟨r, s1⟩, h1, h2⟩ := bind_some hm
    obtain ⟨d, h3, h4⟩ := bind_some h2
    obtain ⟨k', h5, h6⟩ := map_some h4
    cases h6
    exact ⟨F, G, s, ps, R, r, s1, h1, fun v H1 F1 ps1 R1 s01 hv => ⟨k, truV_is R1.sF (look_lnt R1 hv h3) h5, q H1 F1 ps1 R1 s01⟩⟩
theorem t_not {m : MB} (h : PT X a (tB np X.K m)) : PT X (.UnaryOp .Not a pos) (tB np X.K (bNot m)) :=
  pt_imp (pt_not h) fun σ H Q ⟨F, G, s, ps, R, k, s', hm, q⟩ => by
    obtain ⟨⟨k', s1⟩, h1, h2⟩ := map_some hm
    cases h2
    exact ⟨F, G, s, ps, R, k', s1, h1, fun H1 F1 ps1 R1 s01 => q H1 F1 ps1 R1 s01⟩
theorem w_and1 {m : MB} (h : PT X a (tB np X.K m)) : PW X (.BoolOp .And [a] pos) (tB np X.K m) := pw_and1 h
theorem w_or1 {m : MB} (h : PT X a (tB np X.K m)) : PW X (.BoolOp .Or [a] pos) (tB np X.K m) := pw_or1 h
theorem w_and {m n : MB} (h : PT X a (tB np X.K m)) (h' : PW X (.BoolOp .And (b :: rest) pos) (tB np X.K n)) : PW X (.BoolOp .And (a :: b :: rest) pos) (tB np X.K (bAnd m n)) :=
  pw_imp (pw_and h h') fun σ H Q ⟨F, G, s, ps, R, k, s', hm, q⟩ => by
    obtain ⟨⟨k1, s1⟩, h1, h2⟩ := bind_some hm
    refine ⟨F, G, s, ps, R, k1, s1, h1, fun H1 F1 ps1 R1 s01 => ?_⟩
    cases k1 with
    | true =>
      rw [if_pos rfl]
      exact ⟨F1, G, s1, ps1, R1, k, s', by rw [if_pos rfl] at h2; exact h2, fun H2 F2 ps2 R2 s12 => q H2 F2 ps2 R2 (s01.trans s12)⟩
    | false =>
      rw [if_neg Bool.false_ne_true]
      rw [if_neg Bool.false_ne_true] at h2
      cases h2
      exact q H1 F1 ps1 R1 s01
theorem w_or {m n : MB} (h : PT X a (tB np X.K m)) (h' : PW X (.BoolOp .Or (b :: rest) pos) (tB np X.K n)) : PW X (.BoolOp .Or (a :: b :: rest) pos) (tB np X.K (bOr m n)) :=
  pw_imp (pw_or h h') fun σ H Q ⟨F, G, s, ps, R, k, s', hm, q⟩ => by
    obtain ⟨⟨k1, s1⟩, h1, h2⟩ := bind_some hm
    refine ⟨F, G, s, ps, R, k1, s1, h1, fun H1 F1 ps1 R1 s01 => ?_⟩
    cases k1 with
    | false =>
      rw [if_neg Bool.false_ne_true]
      exact ⟨F1, G, s1, ps1, R1, k, s', by rw [if_neg Bool.false_ne_true] at h2; exact h2, fun H2 F2 ps2 R2 s12 => q H2 F2 ps2 R2 (s01.trans s12)⟩
    | true =>
      rw [if_pos rfl]
      rw [if_pos rfl] at h2
      cases h2
      exact q H1 F1 ps1 R1 s01
theorem e_one {op : BoolOp} {m : MV} (h : PE X a (tV np X.K m)) : PE X (.BoolOp op [a] pos) (tV np X.K m) := pe_one h
theorem e_and {m n : MV} (h : PE X a (tV np X.K m)) (h' : PE X (.BoolOp .And (b :: rest) pos) (tV np X.K n)) : PE X (.BoolOp .And (a :: b :: rest) pos) (tV np X.K (vAnd m n)) :=
  pe_imp (pe_andT h h') fun σ H Q ⟨F, G, s, ps, R, d, s', hm, q⟩ => by
    obtain ⟨⟨d1, s1⟩, h1, h2⟩ := bind_some hm
    obtain ⟨k, h3, h4⟩ := bind_some h2
    refine ⟨F, G, s, ps, R, d1, s1, h1, fun v H1 F1 ps1 R1 s01 hv => ⟨k, truV_is R1.sF (.inl hv) h3, ?_⟩⟩
    cases k with
    | true =>
      rw [if_pos rfl]
      exact ⟨F1, G, s1, ps1, R1, d, s', by rw [if_pos rfl] at h4; exact h4, fun w' H2 F2 ps2 R2 s12 hw => q w' H2 F2 ps2 R2 (s01.trans s12) hw⟩
    | false =>
      rw [if_neg Bool.false_ne_true]
      rw [if_neg Bool.false_ne_true] at h4
      cases h4
      exact q v H1 F1 ps1 R1 s01 hv
theorem e_not {m : MR} (h : PE X a (tR np X.K m)) : PE X (.UnaryOp .Not a pos) (tV np X.K (vNot m)) :=
  pe_imp (pe_notT h) fun σ H Q ⟨F, G, s, ps, R, d, s', hm, q⟩ => by
    obtain ⟨⟨r, s1⟩, h1, h2⟩ := bind_some hm
    obtain ⟨d1, h3, h4⟩ := bind_some h2
    obtain ⟨k, h5, h6⟩ := map_some h4
    cases h6
    exact ⟨F, G, s, ps, R, r, s1, h1, fun v H1 F1 ps1 R1 s01 hv => ⟨k, truV_is R1.sF (look_lnt R1 hv h3) h5, q _ H1 F1 ps1 R1 s01 (.bl _)⟩⟩
def gNeg : List D → Option O
  | [.int i] => some (.val (.int (-i)))
  | _ => none
theorem if_split {α : Type} {k : Bool} {x y : Option α} {r : α} (h : (if k = true then x else y) = some r) : (k = true ∧ x = some r) ∨ (k = false ∧ y = some r) := by
  cases k with
  | true => exact .inl ⟨rfl, by rw [if_pos rfl] at h; exact h⟩
  | false => exact .inr ⟨rfl, by rw [if_neg Bool.false_ne_true] at h; exact h⟩
theorem e_ifo {t : MB} {m n : MO} (h : PT X c (tB np X.K t)) (ha : PE X a (tO np X.K m)) (hb : PE X b (tO np X.K n)) : PE X (.IfExp c a b pos) (tO np X.K (oIf t m n)) :=
  pe_imp (pe_ifExp h ha hb) fun σ H Q ⟨F, G, s, ps, R, d, s', hm, q⟩ => by
    obtain ⟨⟨k, s1⟩, h1, h2⟩ := bind_some hm
    refine ⟨F, G, s, ps, R, k, s1, h1, fun H1 F1 ps1 R1 s01 => ?_⟩
    rcases if_split h2 with ⟨rfl, h3⟩ | ⟨rfl, h3⟩
    · exact iteT ⟨F1, G, s1, ps1, R1, d, s', h3, fun w' H2 F2 ps2 as R2 s12 own nd new => q w' H2 F2 ps2 as R2 (s01.trans s12) own nd new⟩
    · exact iteF ⟨F1, G, s1, ps1, R1, d, s', h3, fun w' H2 F2 ps2 as R2 s12 own nd new => q w' H2 F2 ps2 as R2 (s01.trans s12) own nd new⟩
end

/-! ### statements -/
inductive Fl where
  | nx
  | bk
  | ct
  | rt (o : O)
abbrev MS := S → Option (Fl × S)
def tS (np : Nat) (K : PySem.W.Frag) (m : MS) : TS := fun D σ H => ∃ F G s ps, Rel np K F G s σ H ps ∧ ∃ f s', m s = some (f, s') ∧ match f with
  | .nx => ∀ σ' H' F' ps', Rel np K F' G s' σ' H' ps' → Same F F' → D.nx σ' H'
  | .bk => ∀ σ' H' F' ps', Rel np K F' G s' σ' H' ps' → Same F F' → D.bk σ' H'
  | .ct => ∀ σ' H' F' ps', Rel np K F' G s' σ' H' ps' → Same F F' → D.ct σ' H'
  | .rt o => ∀ v σ' H' F' ps' as, Rel np K F' G s' σ' H' ps' → Same F F' → Own K F' H' v o as → as.Nodup → (∀ a ∈ as, F' a = none ∧ G.h a = none ∧ a ∉ ps'.flatten) → D.rt v H'
def sNx : MS := fun s => some (.nx, s)
def sSeq (a b : MS) : MS := fun s => (a s).bind fun p => match p.1 with
  | .nx => b p.2
  | f => some (f, p.2)
def sExp (m : MO) : MS := fun s => (m s).map fun p => (.nx, p.2)
def sRet (m : MO) : MS := fun s => (m s).map fun p => (.rt p.1, p.2)
def sIf (t : MB) (a b : MS) : MS := fun s => (t s).bind fun p => if p.1 = true then a p.2 else b p.2
section
variable {X : Cx} {st : Stmt} {sts : List Stmt} {e : Expr} {pos : Pos}
theorem ps_imp {t t' : TS} (h : PS X st t) (i : ∀ D σ H, t' D σ H → t D σ H) : PS X st t' := ⟨fun pins s σ H D I q => h.run pins s σ H D I (i D σ H q)⟩
theorem pss_imp {t t' : TS} (h : PSs X sts t) (i : ∀ D σ H, t' D σ H → t D σ H) : PSs X sts t' := ⟨fun pins s σ H D I q => h.run pins s σ H D I (i D σ H q)⟩
theorem s_nil : PSs X [] (tS np X.K sNx) := pss_imp pss_nil fun D σ H ⟨F, G, s, ps, R, f, s', hm, q⟩ => by
  cases hm
  exact q σ H F ps R (Same.refl F)
theorem s_one {m : MS} (h : PS X st (tS np X.K m)) : PSs X [st] (tS np X.K m) := pss_one h
theorem s_cons {m n : MS} (h : PS X st (tS np X.K m)) (h' : PSs X sts (tS np X.K n)) : PSs X (st :: sts) (tS np X.K (sSeq m n)) :=
  pss_imp (pss_cons h h') fun D σ H ⟨F, G, s, ps, R, f, s', hm, q⟩ => by
    obtain ⟨⟨f1, s1⟩, h1, h2⟩ := bind_some hm
    cases f1 with
    | nx =>
      refine ⟨F, G, s, ps, R, .nx, s1, h1, fun σ1 H1 F1 ps1 R1 s01 => ⟨F1, G, s1, ps1, R1, f, s', h2, ?_⟩⟩
      cases f with
      | nx => exact fun σ2 H2 F2 ps2 R2 s12 => q σ2 H2 F2 ps2 R2 (s01.trans s12)
      | bk => exact fun σ2 H2 F2 ps2 R2 s12 => q σ2 H2 F2 ps2 R2 (s01.trans s12)
      | ct => exact fun σ2 H2 F2 ps2 R2 s12 => q σ2 H2 F2 ps2 R2 (s01.trans s12)
      | rt o => exact fun v σ2 H2 F2 ps2 as R2 s12 => q v σ2 H2 F2 ps2 as R2 (s01.trans s12)
    | bk =>
      cases h2
      exact ⟨F, G, s, ps, R, .bk, s1, h1, q⟩
    | ct =>
      cases h2
      exact ⟨F, G, s, ps, R, .ct, s1, h1, q⟩
    | rt o =>
      cases h2
      exact ⟨F, G, s, ps, R, .rt o, s1, h1, q⟩
theorem s_ret {m : MO} (h : PE X e (tO np X.K m)) : PS X (.Return (some e) pos) (tS np X.K (sRet m)) :=
  ps_imp (ps_ret h) fun D σ H ⟨F, G, s, ps, R, f, s', hm, q⟩ => by
    obtain ⟨⟨o, s1⟩, h1, h2⟩ := map_some hm
    cases h2
    exact ⟨F, G, s, ps, R, o, s1, h1, fun v H1 F1 ps1 as R1 s01 own nd new => q v σ H1 F1 ps1 as R1 s01 own nd new⟩
theorem s_exp {m : MO} (h : PE X e (tO np X.K m)) (hs : swapsWith e none pos.line X.env = pure false := by rfl) : PS X (.Expr e pos) (tS np X.K (sExp m)) :=
  ps_imp (ps_expr h hs) fun D σ H ⟨F, G, s, ps, R, f, s', hm, q⟩ => by
    obtain ⟨⟨o, s1⟩, h1, h2⟩ := map_some hm
    cases h2
    exact ⟨F, G, s, ps, R, o, s1, h1, fun v H1 F1 ps1 as R1 s01 own nd new => q σ H1 F1 ps1 R1 s01⟩
theorem s_if {c : Expr} {a b : List Stmt} {t : MB} {m n : MS} (h : PT X c (tB np X.K t)) (ha : PSs X a (tS np X.K m)) (hb : PSs X b (tS np X.K n)) : PS X (.If c a b pos) (tS np X.K (sIf t m n)) :=
  ps_imp (ps_if h ha hb) fun D σ H ⟨F, G, s, ps, R, f, s', hm, q⟩ => by
    obtain ⟨⟨k, s1⟩, h1, h2⟩ := bind_some hm
    refine ⟨F, G, s, ps, R, k, s1, h1, fun H1 F1 ps1 R1 s01 => ?_⟩
    have fin : ∀ {u : MS}, u s1 = some (f, s') → tS np X.K u D σ H1 := fun {u} hu => ⟨F1, G, s1, ps1, R1, f, s', hu, by
      cases f with
      | nx => exact fun σ2 H2 F2 ps2 R2 s12 => q σ2 H2 F2 ps2 R2 (s01.trans s12)
      | bk => exact fun σ2 H2 F2 ps2 R2 s12 => q σ2 H2 F2 ps2 R2 (s01.trans s12)
      | ct => exact fun σ2 H2 F2 ps2 R2 s12 => q σ2 H2 F2 ps2 R2 (s01.trans s12)
      | rt o => exact fun v σ2 H2 F2 ps2 as R2 s12 => q v σ2 H2 F2 ps2 as R2 (s01.trans s12)⟩
    rcases if_split h2 with ⟨rfl, h3⟩ | ⟨rfl, h3⟩
    · exact iteT (fin h3)
    · exact iteF (fin h3)
/-- a slot behind the pinned ones is stored -/
theorem Rel.store {K : PySem.W.Frag} {F H : Hp} {G : Gd} {s : S} {σ : L2.St} {ps : List (List Addr)} (R : Rel np K F G s σ H ps) {i : Nat} {o : O} {v : V} {as : List Addr} (hi : i < s.length) (hp : np ≤ i)
    (own : Own K F H v o as) (nd : as.Nodup) (new : ∀ a ∈ as, F a = none ∧ G.h a = none ∧ a ∉ ps.flatten) : Rel np K F G (s.set i (some o)) (σ.set i (some v)) H (ps.set i as) := by
  refine R.put hi (Same.refl F) R.sF R.sG rfl ?_ R.fg own nd (fun a ha => ⟨(new a ha).1, (new a ha).2.1, fun j bs hj hb z => (new a ha).2.2 (mem_flat hb z)⟩) fun j bs hj hb a ha => ⟨(R.apart a (mem_flat hb ha)).1, fun u eu => eu⟩
  rw [List.take_set_of_le (Nat.le_trans R.few hp)]
  exact R.pin
/-- a target: what is stored where -/
abbrev MG := O → S → Option S
def tG (np : Nat) (K : PySem.W.Frag) (g : MG) : TG := fun v σ H Q => ∃ F G s ps, Rel np K F G s σ H ps ∧ ∃ o s' as, Own K F H v o as ∧ as.Nodup ∧ (∀ a ∈ as, F a = none ∧ G.h a = none ∧ a ∉ ps.flatten) ∧ g o s = some s' ∧
  ∀ σ' H' F' ps', Rel np K F' G s' σ' H' ps' → Same F F' → Q σ' H'
def gNm (i : Nat) : MG := fun o s => if i < s.length then some (s.set i (some o)) else none
theorem pg_imp {tg : Expr} {t t' : TG} (h : PG X tg t) (i : ∀ v σ H Q, t' v σ H Q → t v σ H Q) : PG X tg t' := ⟨fun pins s σ H v u Q I r q => h.run pins s σ H v u Q I r (i v σ H Q q)⟩
theorem g_name {i : Nat} {x : Str} (hi : X.N[i]? = some x) (hN : X.N.Nodup) (hx : Loc X.env.scope x) (hp : np ≤ i := by decide) (hf : X.fn x = true ∨ X.env.scope.names.lookup x = some .local := by first | exact .inl rfl | exact .inr rfl | assumption) :
    PG X (.Name x pos) (tG np X.K (gNm i)) :=
  pg_imp (pg_name hN hi hx hf) fun v σ H Q ⟨F, G, s, ps, R, o, s', as, own, nd, new, hg, q⟩ => by
    obtain ⟨h1, h2⟩ := if_some hg
    subst h2
    exact q _ H F _ (R.store h1 hp own nd new) (Same.refl F)
def sAsg (g : MG) (m : MO) : MS := fun s => (m s).bind fun p => (g p.1 p.2).map fun s' => (.nx, s')
end
end Dv

/-! Stores: names, tuples of names, own lists changed. -/
namespace Dv
open PySem PySem.Spec PyProof.Rows L2
variable {np : Nat}

section
variable {X : Cx} {e : Expr} {pos : Pos}
/-- name = e -/
theorem s_set {i : Nat} {x : Str} {pos' : Pos} {m : MO} (hi : X.N[i]? = some x) (hN : X.N.Nodup) (hx : Loc X.env.scope x) (he : PE X e (tO np X.K m)) (hp : np ≤ i := by decide) (hs : swapsWith e (some (.Name x pos')) pos.line X.env = pure false := by rfl)
    (hf : X.fn x = true ∨ X.env.scope.names.lookup x = some .local := by first | exact .inl rfl | exact .inr rfl | assumption) : PS X (.Assign [.Name x pos'] e pos) (tS np X.K (sAsg (gNm i) m)) :=
  ps_imp (ps_set hN hi hx he hs hf) fun D σ H ⟨F, G, s, ps, R, f, s', hm, q⟩ => by
    obtain ⟨⟨o, s1⟩, h1, h2⟩ := bind_some hm
    obtain ⟨s2, h3, h4⟩ := map_some h2
    cases h4
    obtain ⟨h5, rfl⟩ := if_some h3
    exact ⟨F, G, s, ps, R, o, s1, h1, fun v H1 F1 ps1 as R1 s01 own nd new => q _ H1 F1 _ (R1.store h5 hp own nd new) s01⟩

/-! ### tuples of targets -/
def gAllT : List MG → List D → S → Option S
  | [], [], s => some s
  | g :: gs, d :: ds, s => (g (.val d) s).bind (gAllT gs ds)
  | _, _, _ => none
def tGs (np : Nat) (K : PySem.W.Frag) (gs : List MG) : TGs := fun vs σ H Q => ∃ F G s ps, Rel np K F G s σ H ps ∧ ∃ ds s', TrAll K F vs ds ∧ gAllT gs ds s = some s' ∧
  ∀ σ' H' F' ps', Rel np K F' G s' σ' H' ps' → Same F F' → Q σ' H'
def gTp (gs : List MG) : MG := fun o s => match o with
  | .val (.tuple ds) => gAllT gs ds s
  | _ => none
theorem pgs_imp {ts : List Expr} {t t' : TGs} (h : PGs X ts t) (i : ∀ v σ H Q, t' v σ H Q → t v σ H Q) : PGs X ts t' := ⟨fun pins s σ H v u Q I r q => h.run pins s σ H v u Q I r (i v σ H Q q)⟩
theorem g_nil : PGs X [] (tGs np X.K []) := pgs_imp pgs_nil fun vs σ H Q ⟨F, G, s, ps, R, ds, s', t, hm, q⟩ => by
  cases ds with
  | nil =>
    cases t
    cases hm
    exact ⟨rfl, q σ H F ps R (Same.refl F)⟩
  | cons d ds => cases hm
theorem g_cons {es : List Expr} {g : MG} {gs : List MG} (h1 : PG X e (tG np X.K g)) (h2 : PGs X es (tGs np X.K gs)) (hs : (assignEach (e :: es) X.env).map (·.2) = assign e X.env :: (assignEach es X.env).map (·.2) := by rfl) : PGs X (e :: es) (tGs np X.K (g :: gs)) :=
  pgs_imp (pgs_cons h1 h2 hs) fun vs σ H Q ⟨F, G, s, ps, R, ds, s', t, hm, q⟩ => by
    cases t with
    | nil => cases hm
    | @cons v vs d ds t1 t2 =>
      obtain ⟨s1, h3, h4⟩ := bind_some hm
      exact ⟨v, vs, rfl, F, G, s, ps, R, .val d, s1, [], ⟨t1, rfl⟩, List.nodup_nil, (fun a ha => nomatch ha), h3, fun σ1 H1 F1 ps1 R1 s01 => ⟨F1, G, s1, ps1, R1, ds, s', dpAll_mono s01 ds t2, h4, fun σ2 H2 F2 ps2 R2 s12 => q σ2 H2 F2 ps2 R2 (s01.trans s12)⟩⟩
theorem gAllT_len : ∀ {gs : List MG} {ds : List D} {s s' : S}, gAllT gs ds s = some s' → ds.length = gs.length
  | [], [], _, _, _ => rfl
  | g :: gs, d :: ds, s, s', h => by
    obtain ⟨s1, _, h4⟩ := bind_some h
    exact congrArg (· + 1) (gAllT_len h4)
  | [], _ :: _, _, _, h => by cases h
  | _ :: _, [], _, _, h => by cases h
theorem g_tup {es : List Expr} {k : Nat} {gs : List MG} (h : PGs X es (tGs np X.K gs)) (hc : X.calm = true := by rfl) (hn : (assignEach es X.env).length = gs.length := by rfl) (hst : (assignEach es X.env).findIdx? (·.1) = none := by rfl) : PG X (.Tuple es k pos) (tG np X.K (gTp gs)) :=
  pg_imp (pg_tup hc h hn hst) fun v σ H Q ⟨F, G, s, ps, R, o, s', as, own, nd, new, hg, q⟩ => by
    unfold gTp at hg
    split at hg
    · rename_i ds
      obtain ⟨t, rfl⟩ := own
      cases t with
      | @tup a vs _ h1 h2 => exact ⟨a, vs, rfl, same_tup R.sF h1, by rw [da_length h2]; exact gAllT_len hg, F, G, s, ps, R, ds, s', h2, hg, q⟩
    · cases hg

/-! ### several own results in a row -/
def evO : List MO → S → Option (List O × S)
  | [], s => some ([], s)
  | m :: ms, s => (m s).bind fun p => (evO ms p.2).map fun q => (p.1 :: q.1, q.2)
/-- values and the own things that they stand for, apart from one another -/
def OwnAll (K : PySem.W.Frag) (F H : Hp) : List V → List O → List (List Addr) → Prop
  | [], [], [] => True
  | v :: vs, o :: os, as :: ass => Own K F H v o as ∧ OwnAll K F H vs os ass
  | _, _, _ => False
def tAO (np : Nat) (K : PySem.W.Frag) (ms : List MO) : TA := fun σ H Q => ∃ F G s ps, Rel np K F G s σ H ps ∧ ∃ os s', evO ms s = some (os, s') ∧ ∀ vs H' F' ps' ass, Rel np K F' G s' σ H' ps' → Same F F' → OwnAll K F' H' vs os ass → ass.flatten.Nodup →
  (∀ a ∈ ass.flatten, F' a = none ∧ G.h a = none ∧ a ∉ ps'.flatten) → Q vs H'
theorem ao_nil : PA X [] (tAO np X.K []) := pa_imp pa_nil fun σ H Q ⟨F, G, s, ps, R, os, s', hm, q⟩ => by
  cases hm
  exact q [] H F ps [] R (Same.refl F) trivial List.nodup_nil fun a ha => nomatch ha
theorem ao_cons {es : List Expr} {m : MO} {ms : List MO} (he : PE X e (tO np X.K m)) (hs : PA X es (tAO np X.K ms)) (hst : starEach (e :: es) X.env = (false, eval e X.env) :: starEach es X.env := by rfl) : PA X (e :: es) (tAO np X.K (m :: ms)) :=
  pa_imp (pa_cons he hs hst) fun σ H Q ⟨F, G, s, ps, R, os, s', hm, q⟩ => by
    obtain ⟨⟨o, s1⟩, h1, h2⟩ := bind_some hm
    obtain ⟨⟨os', s2⟩, h3, h4⟩ := map_some h2
    cases h4
    refine ⟨F, G, s, ps, R, o, s1, h1, fun v H1 F1 ps1 as R1 s01 own nd new => ⟨F1, G.add H1 as, s1, ps1, R1.hold new, os', s2, h3, fun vs H2 F2 ps2 ass R2 s12 owns nds news => ?_⟩⟩
    have hG : ∀ a ∈ as, G.h a = none ∧ ∃ u, H1 a = some u := fun a ha => ⟨(new a ha).2.1, own.there a ha⟩
    obtain ⟨R3, keep⟩ := Rel.unhold hG R2
    have apart : ∀ a ∈ as, a ∉ ass.flatten := fun a ha z => by
      have z2 := (news a z).2.1
      obtain ⟨u, e⟩ := (hG a ha).2
      rw [show (G.add H1 as).h a = H1 a from if_pos ha, e] at z2
      cases z2
    refine q (v :: vs) H2 F2 ps2 (as :: ass) R3 (s01.trans s12) ⟨own.mono s12 fun a ha u eu => (keep a ha).2.2 u eu, owns⟩ ?_ fun a ha => ?_
    · rw [List.flatten_cons, List.nodup_append]
      exact ⟨nd, nds, fun x hx y hy e => apart x hx (by rw [e]; exact hy)⟩
    · rw [List.flatten_cons] at ha
      rcases List.mem_append.mp ha with ha | ha
      · exact ⟨(keep a ha).1, (new a ha).2.1, (keep a ha).2.1⟩
      · obtain ⟨n1, n2, n3⟩ := news a ha
        refine ⟨n1, ?_, n3⟩
        have n2' : (if a ∈ as then H1 a else G.h a) = none := n2
        rw [if_neg fun z => apart a z ha] at n2'
        exact n2'
/-- the names in a row get them -/
def setAll : List Nat → List O → S → Option S
  | [], [], s => some s
  | i :: is, o :: os, s => if i < s.length then setAll is os (s.set i (some o)) else none
  | _, _, _ => none
def sPar (is : List Nat) (ms : List MO) : MS := fun s => (evO ms s).bind fun p => (setAll is p.1 p.2).map fun s' => (.nx, s')
theorem Rel.stores {K : PySem.W.Frag} {F H : Hp} {G : Gd} : ∀ {is : List Nat} {os : List O} {s s' : S} {ps : List (List Addr)} {vs : List V} {ass : List (List Addr)} {σ : L2.St}, Rel np K F G s σ H ps → (∀ i ∈ is, np ≤ i) → OwnAll K F H vs os ass → ass.flatten.Nodup →
    (∀ a ∈ ass.flatten, F a = none ∧ G.h a = none ∧ a ∉ ps.flatten) → setAll is os s = some s' → ∃ ps', Rel np K F G s' ((is.zip vs).foldl (fun t p => t.set p.1 (some p.2)) σ) H ps'
  | [], [], s, s', ps, [], [], σ, R, _, _, _, _, h => by
    cases h
    exact ⟨ps, R⟩
  | i :: is, o :: os, s, s', ps, v :: vs, as :: ass, σ, R, hn, own, nd, new, h => by
    rw [List.flatten_cons, List.nodup_append] at nd
    unfold setAll at h
    split at h
    · rename_i hi
      have R1 := R.store hi (hn i List.mem_cons_self) own.1 nd.1 fun a ha => new a (by rw [List.flatten_cons]; exact List.mem_append_left _ ha)
      refine Rel.stores (is := is) (os := os) (vs := vs) (ass := ass) (σ := σ.set i (some v)) R1 (fun j hj => hn j (List.mem_cons_of_mem _ hj)) own.2 nd.2.1 (fun a ha => ?_) h
      obtain ⟨n1, n2, n3⟩ := new a (by rw [List.flatten_cons]; exact List.mem_append_right _ ha)
      refine ⟨n1, n2, fun z => ?_⟩
      rcases mem_set_flat z with z | z
      · exact nd.2.2 a z a ha rfl
      · exact n3 z
    · cases h
  | [], _ :: _, _, _, _, _, _, _, _, _, _, _, _, h => by cases h
  | _ :: _, [], _, _, _, _, _, _, _, _, _, _, _, h => by cases h
  | [], [], _, _, _, _ :: _, _, _, _, _, own, _, _, _ => own.elim
  | [], [], _, _, _, [], _ :: _, _, _, _, own, _, _, _ => own.elim
  | _ :: _, _ :: _, _, _, _, [], _, _, _, _, own, _, _, _ => own.elim
  | _ :: _, _ :: _, _, _, _, _ :: _, [], _, _, _, own, _, _, _ => own.elim
theorem ownAll_len {K : PySem.W.Frag} {F H : Hp} : ∀ {vs : List V} {os : List O} {ass : List (List Addr)}, OwnAll K F H vs os ass → vs.length = os.length ∧ ass.length = os.length
  | [], [], [], _ => ⟨rfl, rfl⟩
  | v :: vs, o :: os, as :: ass, h => by
    obtain ⟨h1, h2⟩ := ownAll_len h.2
    exact ⟨congrArg (· + 1) h1, congrArg (· + 1) h2⟩
  | [], [], _ :: _, h => h.elim
  | [], _ :: _, _, h => by cases h
  | _ :: _, [], _, h => by cases h
  | _ :: _, _ :: _, [], h => by cases h
theorem setAll_len : ∀ {is : List Nat} {os : List O} {s s' : S}, setAll is os s = some s' → os.length = is.length
  | [], [], _, _, _ => rfl
  | i :: is, o :: os, s, s', h => by
    unfold setAll at h
    split at h
    · exact congrArg (· + 1) (setAll_len h)
    · cases h
  | [], _ :: _, _, _, h => by cases h
  | _ :: _, [], _, _, h => by cases h
theorem s_par2 {i j : Nat} {x y : Str} {a b : Expr} {ma mb : MO} {px py pt : Pos} {kt k2 pt2} (hi : X.N[i]? = some x) (hj : X.N[j]? = some y) (hN : X.N.Nodup) (ha : PA X [a, b] (tAO np X.K [ma, mb])) (hij : i ≠ j := by decide) (hpi : np ≤ i := by decide) (hpj : np ≤ j := by decide) (hc : X.calm = true := by rfl)
    (hx : X.env.scope.names.lookup x = some .local := by rfl) (hy : X.env.scope.names.lookup y = some .local := by rfl)
    (hw : swappedStores [.Tuple [.Name x px, .Name y py] kt pt] (.Tuple [a, b] k2 pt2) X.env = pure (some [x, y]) := by rfl)
    (hs : swapsWithSole [.Tuple [.Name x px, .Name y py] kt pt] (.Tuple [a, b] k2 pt2) pos.line X.env = pure false := by rfl) : PS X (.Assign [.Tuple [.Name x px, .Name y py] kt pt] (.Tuple [a, b] k2 pt2) pos) (tS np X.K (sPar [i, j] [ma, mb])) :=
  ps_imp (ps_par hc hN hi hj hij hx hy ha hw hs) fun D σ H ⟨F, G, s, ps, R, f, s', hm, q⟩ => by
    obtain ⟨⟨os, s1⟩, h1, h2⟩ := bind_some hm
    obtain ⟨s2, h3, h4⟩ := map_some h2
    cases h4
    refine ⟨F, G, s, ps, R, os, s1, h1, fun vs H1 F1 ps1 ass R1 s01 owns nd new => ?_⟩
    obtain ⟨ps2, R2⟩ := R1.stores (is := [i, j]) (fun k hk => by rcases List.mem_cons.mp hk with e | hk; (rw [e]; exact hpi); (rw [List.mem_singleton.mp hk]; exact hpj)) owns nd new h3
    have hl := (ownAll_len owns).1.trans (setAll_len h3)
    match vs, hl, R2 with
    | [v, w'], _, R2 => exact ⟨v, w', rfl, q _ H1 F1 ps2 R2 s01⟩
theorem s_par3 {i j l : Nat} {x y z : Str} {a b c : Expr} {ma mb mc : MO} {px py pz pt : Pos} {kt k2 pt2} (hi : X.N[i]? = some x) (hj : X.N[j]? = some y) (hl : X.N[l]? = some z) (hN : X.N.Nodup) (ha : PA X [a, b, c] (tAO np X.K [ma, mb, mc]))
    (hij : i ≠ j := by decide) (hil : i ≠ l := by decide) (hjl : j ≠ l := by decide) (hpi : np ≤ i := by decide) (hpj : np ≤ j := by decide) (hpl : np ≤ l := by decide) (hc : X.calm = true := by rfl)
    (hx : X.env.scope.names.lookup x = some .local := by rfl) (hy : X.env.scope.names.lookup y = some .local := by rfl) (hz : X.env.scope.names.lookup z = some .local := by rfl)
    (hw : swappedStores [.Tuple [.Name x px, .Name y py, .Name z pz] kt pt] (.Tuple [a, b, c] k2 pt2) X.env = pure (some [x, y, z]) := by rfl)
    (hs : swapsWithSole [.Tuple [.Name x px, .Name y py, .Name z pz] kt pt] (.Tuple [a, b, c] k2 pt2) pos.line X.env = pure false := by rfl) : PS X (.Assign [.Tuple [.Name x px, .Name y py, .Name z pz] kt pt] (.Tuple [a, b, c] k2 pt2) pos) (tS np X.K (sPar [i, j, l] [ma, mb, mc])) :=
  ps_imp (ps_par3 hc hN hi hj hl hij hil hjl hx hy hz ha hw hs) fun D σ H ⟨F, G, s, ps, R, f, s', hm, q⟩ => by
    obtain ⟨⟨os, s1⟩, h1, h2⟩ := bind_some hm
    obtain ⟨s2, h3, h4⟩ := map_some h2
    cases h4
    refine ⟨F, G, s, ps, R, os, s1, h1, fun vs H1 F1 ps1 ass R1 s01 owns nd new => ?_⟩
    obtain ⟨ps2, R2⟩ := R1.stores (is := [i, j, l]) (fun k hk => by
      rcases List.mem_cons.mp hk with e | hk
      · rw [e]; exact hpi
      · rcases List.mem_cons.mp hk with e | hk
        · rw [e]; exact hpj
        · rw [List.mem_singleton.mp hk]; exact hpl) owns nd new h3
    have hl := (ownAll_len owns).1.trans (setAll_len h3)
    match vs, hl, R2 with
    | [v1, v2, v3], _, R2 => exact ⟨v1, v2, v3, rfl, q _ H1 F1 ps2 R2 s01⟩

/-! ### own lists changed -/
/-- slot i's own list -/
theorem Rel.lst {K : PySem.W.Frag} {F H : Hp} {G : Gd} {s : S} {σ : L2.St} {ps : List (List Addr)} (R : Rel np K F G s σ H ps) {i : Nat} {xs : List D} (e : s[i]? = some (some (.lst xs))) :
    ∃ a vs, σ[i]? = some (some (.ref a)) ∧ H a = some (.lst vs) ∧ TrAll K F vs xs ∧ F a = none ∧ ∀ vs' xs', TrAll K F vs' xs' → Rel np K F G (s.set i (some (.lst xs'))) σ (upd H a (.lst vs')) ps := by
  obtain ⟨v, as, h1, h2, a, vs, rfl, e2, t, rfl⟩ := R.at_ i _ e
  obtain ⟨n1, n2, _⟩ := R.apart a (mem_flat h2 List.mem_cons_self)
  refine ⟨a, vs, h1, e2, t, n1, fun vs' xs' t' => ?_⟩
  have hi : i < s.length := (List.getElem?_eq_some_iff.mp e).1
  have hσ : σ = σ.set i (some (.ref a)) := by
    apply List.ext_getElem?
    intro j
    by_cases c : i = j
    · subst c
      rw [List.getElem?_set_self (by rw [R.lenS]; exact hi), h1]
    · rw [List.getElem?_set_ne c]
  have hps : ps = ps.set i [a] := by
    apply List.ext_getElem?
    intro j
    by_cases c : i = j
    · subst c
      rw [List.getElem?_set_self (by rw [R.lenP]; exact hi), h2]
    · rw [List.getElem?_set_ne c]
  have key := R.put (F' := F) (H' := upd H a (.lst vs')) (v' := .ref a) (as' := [a]) (o' := .lst xs') hi (Same.refl F) (fun b u eb => by rw [upd_ne (fun z => by rw [z, n1] at eb; cases eb)]; exact R.sF b u eb) (fun b u eb => by rw [upd_ne (fun z => by rw [z, n2] at eb; cases eb)]; exact R.sG b u eb)
    hσ R.pin R.fg ⟨a, vs', rfl, upd_same, t', rfl⟩ (by simp) (fun b hb => by
      rw [List.mem_singleton.mp hb]
      exact ⟨n1, n2, fun j bs hj hbs => flat_apart R.nd h2 hbs hj List.mem_cons_self⟩) fun j bs hj hbs b hb => ⟨(R.apart b (mem_flat hbs hb)).1, fun u eu => by
        rw [upd_ne fun z => ?_]
        · exact eu
        · rw [z] at hb
          exact flat_apart R.nd h2 hbs hj List.mem_cons_self hb⟩
  rw [← hps] at key
  exact key
theorem lst_some {α : Type} {s : S} {i : Nat} {f : List D → Option α} {r : α} (h : (match s[i]? with | some (some (.lst xs)) => f xs | _ => none) = some r) : ∃ xs, s[i]? = some (some (.lst xs)) ∧ f xs = some r := by
  split at h
  · rename_i xs e
    exact ⟨xs, e, h⟩
  · cases h
/-- is a list of one's own there? -/
def ownL (s : S) (i : Nat) : Bool := match s[i]? with
  | some (some (.lst _)) => true
  | _ => false
def chL (i : Nat) (f : List D → Option (O × List D)) : MO := fun s => match s[i]? with
  | some (some (.lst xs)) => (f xs).map fun p => (p.1, s.set i (some (.lst p.2)))
  | _ => none
def oApp (i : Nat) (m : MV) : MO := fun s => if ownL s i = true then (m s).bind fun p => chL i (fun xs => if xs.length < sizeLine then some (.val .none, xs ++ [p.1]) else none) p.2 else none
theorem ownL_is {s : S} {i : Nat} (h : ownL s i = true) : ∃ xs, s[i]? = some (some (.lst xs)) := by
  unfold ownL at h
  split at h
  · rename_i xs e
    exact ⟨xs, e⟩
  · cases h
theorem bool_some {α : Type} {c : Bool} {x : Option α} {r : α} (h : (if c = true then x else none) = some r) : c = true ∧ x = some r := by
  split at h
  · rename_i hc
    exact ⟨hc, h⟩
  · cases h
section
variable {X : Cx} {e o : Expr} {es : List Expr} {apos cpos : Pos} {i : Nat}
theorem tyL {K : PySem.W.Frag} {H : Hp} {a : Addr} {vs : List V} (h : H a = some (.lst vs)) : tyV K "list" (.ref a) H := .inl ⟨rfl, _, SqL.of h⟩
/-- one argument -/
theorem tA1 {K : PySem.W.Frag} {m : MV} {σ : L2.St} {H : Hp} {Q : List V → Hp → Prop} (h : tV np K m σ H fun v H' => Q [v] H') : tA np K [rV m] σ H Q := by
  obtain ⟨F, G, s, ps, R, d, s', hm, q⟩ := h
  refine ⟨F, G, s, ps, R, [.d d], s', ?_, fun vs H1 F1 ps1 R1 s01 hv => ?_⟩
  · show (rV m s).bind _ = _
    unfold rV
    rw [hm]
    rfl
  · match vs, hv with
    | [v], hv => exact q v H1 F1 ps1 R1 s01 hv.1
    | [], hv => exact hv.elim
    | _ :: _ :: _, hv => exact hv.2.elim
/-- a method that changes slot i's own list, of one argument -/
theorem chL_done {r : V → List V → Hp → VK → Prop} {m : MV} {σ : L2.St} {H : Hp} {Q : VK} {f : D → List D → Option (O × List D)}
    (hr : ∀ {F H a vs xs v d o xs' Q}, Same F H → H a = some (.lst vs) → TrAll X.K F vs xs → Tr X.K F v d → f d xs = some (o, xs') → (∀ w vs', (∃ d', o = .val d' ∧ Tr X.K F w d') → TrAll X.K F vs' xs' → Q w (upd H a (.lst vs'))) → r (.ref a) [v] H Q)
    (h : tO np X.K (fun s => if ownL s i = true then (m s).bind fun p => chL i (f p.1) p.2 else none) σ H Q) : tBM X.K "list" r (tVar i) (tA np X.K [rV m]) σ H Q := by
  obtain ⟨F, G, s, ps, R, o, s', hm, q⟩ := h
  obtain ⟨h1, h2⟩ := bool_some hm
  obtain ⟨xs0, e0⟩ := ownL_is h1
  obtain ⟨a, vs0, g1, g2, _⟩ := R.lst e0
  obtain ⟨⟨d, s1⟩, h3, h4⟩ := bind_some h2
  obtain ⟨xs, e1, h5⟩ := lst_some h4
  obtain ⟨⟨o', xs'⟩, h6, h7⟩ := map_some h5
  cases h7
  refine ⟨.ref a, g1, tyL g2, tA1 ⟨F, G, s, ps, R, d, s1, h3, fun v H1 F1 ps1 R1 s01 hv => ?_⟩⟩
  obtain ⟨a', vs, k1, k2, t, kn, kr⟩ := R1.lst e1
  have ea : a' = a := by
    rw [g1] at k1
    have z := Option.some.inj (Option.some.inj k1)
    injection z with z
    exact z.symm
  subst ea
  refine hr R1.sF k2 t hv h6 fun w vs' hw tv' => ?_
  obtain ⟨d', rfl, tw⟩ := hw
  exact q w _ F1 ps1 [] (kr vs' xs' tv') s01 ⟨tw, rfl⟩ List.nodup_nil fun b hb => nomatch hb
theorem e_app {m : MV} (ho : PE X o (tVar i)) (he : PE X e (tV np X.K m)) (hbase : attributeBase o "append" X.env (eval o X.env) = eval o X.env := by rfl)
    (hfew : ((backTo cpos (starEach [e] X.env)).all (fun x => !x.1) && (backToKw cpos (keywordEach [] X.env)).all (fun x => x.1.isSome) && decide ([e].length + ([] : List Keyword).length + (if ([] : List Keyword).isEmpty then 0 else 1) < 30)) = true := by rfl)
    (hline : (apos.endLine == cpos.line) = true := by rfl) (hs : starEach [e] X.env = (false, eval e X.env) :: starEach [] X.env := by rfl) (hplain : (backTo cpos (starEach [] X.env)).any (·.1) = false := by rfl) :
    PE X (.Call (.Attribute o "append" apos) [e] [] cpos) (tO np X.K (oApp i m)) :=
  pe_imp (pe_bm PySem.F.plainAttrs_list PySem.F.slot_list_append PySem.F.type_list_append mt_append ho (a_cons (e_rV he) a_nil hs) hbase hfew hline hs hplain) fun σ H Q h =>
    chL_done (f := fun d xs => if xs.length < sizeLine then some (.val .none, xs ++ [d]) else none) (fun {F H a vs xs v d o xs' Q} sF e2 t tv hf q => by
      obtain ⟨h1, h2⟩ := if_some hf
      cases h2
      exact ⟨a, vs, v, rfl, rfl, e2, by rw [da_length t]; exact h1, q .non _ ⟨.none, rfl, .non⟩ (da_append t (.cons tv .nil))⟩) h
/-- slot i's own list: place k gets a value; the value ahead of the place -/
def sSetIx (i : Nat) (k m : MV) : MS := fun s => (m s).bind fun p => if ownL p.2 i = true then (k p.2).bind fun q => match q.1 with
  | .int j => (chL i (fun xs => (ixN xs.length j).map fun n => (.val .none, xs.set n p.1)) q.2).map fun r => (.nx, r.2)
  | _ => none else none
theorem s_setIx {ix : Expr} {k m : MV} {pos spos : Pos} (he : PE X e (tV np X.K m)) (ho : PE X o (tVar i)) (hk : PE X ix (tV np X.K k))
    (ha : ∀ v, assign (.Subscript o ix spos) X.env v = (do
      let ov ← holding [v] (eval o X.env)
      let iv ← holding [v, ov] (eval ix X.env)
      standAt spos
      holding [v, ov, iv] (setItem ov iv v)
      release [v, ov, iv] []) := by intro _; rfl)
    (hs : swapsWithSole [.Subscript o ix spos] e pos.line X.env = pure false := by rfl) (hw : swappedStores [.Subscript o ix spos] e X.env = pure none := by rfl) (h1 : (assignEach [.Subscript o ix spos] X.env).map (·.2) = [assign (.Subscript o ix spos) X.env] := by rfl) :
    PS X (.Assign [.Subscript o ix spos] e pos) (tS np X.K (sSetIx i k m)) :=
  ps_imp (ps_asg he (pg_sub ho hk set_list ha) hs hw h1) fun D σ H ⟨F, G, s, ps, R, f, s', hm, q⟩ => by
    obtain ⟨⟨d, s1⟩, g1, g2⟩ := bind_some hm
    obtain ⟨g3, g4⟩ := bool_some g2
    obtain ⟨⟨dk, s2⟩, g5, g6⟩ := bind_some g4
    cases dk with
    | int j =>
      obtain ⟨⟨o', s3⟩, g7, g8⟩ := map_some g6
      cases g8
      obtain ⟨xs, e1, h5⟩ := lst_some g7
      obtain ⟨⟨o2, xs'⟩, h6, h7⟩ := map_some h5
      cases h7
      obtain ⟨n, h8, h9⟩ := map_some h6
      cases h9
      obtain ⟨xs0, e0⟩ := ownL_is g3
      refine ⟨F, G, s, ps, R, d, s1, g1, fun v H1 F1 ps1 R1 s01 hv => ?_⟩
      obtain ⟨a, vs0, c1, c2, _⟩ := R1.lst e0
      refine ⟨.ref a, c1, F1, G, s1, ps1, R1, .int j, s2, g5, fun w' H2 F2 ps2 R2 s12 hw' => ?_⟩
      obtain ⟨a', vs, k1, k2, t, kn, kr⟩ := R2.lst e1
      have ea : a' = a := by
        rw [c1] at k1
        have z := Option.some.inj (Option.some.inj k1)
        injection z with z
        exact z.symm
      subst ea
      cases hw'
      exact ⟨a', vs, j, n, rfl, rfl, k2, by rw [da_length t]; exact h8, q σ _ F2 ps2 (kr _ _ (da_set (dp_mono s12 d hv) n t)) (s01.trans s12)⟩
    | _ => cases g6
end
end
end Dv

/-! Defs and their calls. -/
namespace Dv
open PySem PySem.Spec PyProof.Rows L2
variable {np : Nat}

/-- what a def does: from the parameters' contents to the result and the parameters' contents behind it -/
abbrev FD := List O → Option (O × List O)
inductive Arg where
  | d (x : D)
  | r (i : Nat)
  | o (x : O)
abbrev MArg := S → Option (Arg × S)
def aV (m : MV) : MArg := fun s => (m s).map fun p => (.d p.1, p.2)
def aO (m : MO) : MArg := fun s => (m s).map fun p => (.o p.1, p.2)
/-- a name handed over: the callee may change what is own there -/
def aR (i : Nat) : MArg := fun s => match s[i]? with
  | some (some _) => some (.r i, s)
  | _ => none
def ArgAt (K : PySem.W.Frag) (F H : Hp) (σ : L2.St) (v : V) : Arg → List Addr → Prop
  | .d x, as => Tr K F v x ∧ as = []
  | .r i, as => σ[i]? = some (some v) ∧ as = []
  | .o x, as => Own K F H v x as
def ArgAll (K : PySem.W.Frag) (F H : Hp) (σ : L2.St) : List V → List Arg → List (List Addr) → Prop
  | [], [], [] => True
  | v :: vs, a :: args, as :: ass => ArgAt K F H σ v a as ∧ ArgAll K F H σ vs args ass
  | _, _, _ => False
def evA : List MArg → S → Option (List Arg × S)
  | [], s => some ([], s)
  | m :: ms, s => (m s).bind fun p => (evA ms p.2).map fun q => (p.1 :: q.1, q.2)
def tArg (np : Nat) (K : PySem.W.Frag) (m : MArg) : TE := fun σ H Q => ∃ F G s ps, Rel np K F G s σ H ps ∧ ∃ a s', m s = some (a, s') ∧ ∀ v H' F' ps' as, Rel np K F' G s' σ H' ps' → Same F F' → ArgAt K F' H' σ v a as → as.Nodup →
  (∀ b ∈ as, F' b = none ∧ G.h b = none ∧ b ∉ ps'.flatten) → Q v H'
def tArgs (np : Nat) (K : PySem.W.Frag) (ms : List MArg) : TA := fun σ H Q => ∃ F G s ps, Rel np K F G s σ H ps ∧ ∃ args s', evA ms s = some (args, s') ∧ ∀ vs H' F' ps' ass, Rel np K F' G s' σ H' ps' → Same F F' → ArgAll K F' H' σ vs args ass → ass.flatten.Nodup →
  (∀ b ∈ ass.flatten, F' b = none ∧ G.h b = none ∧ b ∉ ps'.flatten) → Q vs H'
theorem ArgAt.mono {K : PySem.W.Frag} {F F' H H' : Hp} {σ : L2.St} {v : V} {a : Arg} {as : List Addr} (h : ArgAt K F H σ v a as) (sF : Same F F') (sH : ∀ b ∈ as, ∀ u, H b = some u → H' b = some u) : ArgAt K F' H' σ v a as := by
  cases a with
  | d x => exact ⟨dp_mono sF x h.1, h.2⟩
  | r i => exact h
  | o x => exact Own.mono sF h sH
theorem ArgAt.there {K : PySem.W.Frag} {F H : Hp} {σ : L2.St} {v : V} {a : Arg} {as : List Addr} (h : ArgAt K F H σ v a as) : ∀ b ∈ as, ∃ u, H b = some u := by
  cases a with
  | d x =>
    obtain ⟨_, rfl⟩ := h
    intro b hb
    cases hb
  | r i =>
    obtain ⟨_, rfl⟩ := h
    intro b hb
    cases hb
  | o x => exact Own.there h
section
variable {X : Cx} {e : Expr} {es : List Expr}
theorem r_v {m : MV} (h : PE X e (tV np X.K m)) : PE X e (tArg np X.K (aV m)) := pe_imp h fun σ H Q ⟨F, G, s, ps, R, a, s', hm, q⟩ => by
  obtain ⟨⟨d, s1⟩, h1, h2⟩ := map_some hm
  cases h2
  exact ⟨F, G, s, ps, R, d, s1, h1, fun v H1 F1 ps1 R1 s01 hv => q v H1 F1 ps1 [] R1 s01 ⟨hv, rfl⟩ List.nodup_nil fun b hb => nomatch hb⟩
theorem r_o {m : MO} (h : PE X e (tO np X.K m)) : PE X e (tArg np X.K (aO m)) := pe_imp h fun σ H Q ⟨F, G, s, ps, R, a, s', hm, q⟩ => by
  obtain ⟨⟨o, s1⟩, h1, h2⟩ := map_some hm
  cases h2
  exact ⟨F, G, s, ps, R, o, s1, h1, fun v H1 F1 ps1 as R1 s01 own nd new => q v H1 F1 ps1 as R1 s01 own nd new⟩
theorem r_r {i : Nat} (h : PE X e (tVar i)) : PE X e (tArg np X.K (aR i)) := pe_imp h fun σ H Q ⟨F, G, s, ps, R, a, s', hm, q⟩ => by
  obtain ⟨o, e1, e2⟩ := slot_some hm
  cases e2
  obtain ⟨v, as, h1, _, _⟩ := R.at_ i o e1
  exact ⟨v, h1, q v H F ps [] R (Same.refl F) ⟨h1, rfl⟩ List.nodup_nil fun b hb => nomatch hb⟩
theorem as_nil : PA X [] (tArgs np X.K []) := pa_imp pa_nil fun σ H Q ⟨F, G, s, ps, R, os, s', hm, q⟩ => by
  cases hm
  exact q [] H F ps [] R (Same.refl F) trivial List.nodup_nil fun a ha => nomatch ha
theorem as_cons {m : MArg} {ms : List MArg} (he : PE X e (tArg np X.K m)) (hs : PA X es (tArgs np X.K ms)) (hst : starEach (e :: es) X.env = (false, eval e X.env) :: starEach es X.env := by rfl) : PA X (e :: es) (tArgs np X.K (m :: ms)) :=
  pa_imp (pa_cons he hs hst) fun σ H Q ⟨F, G, s, ps, R, os, s', hm, q⟩ => by
    obtain ⟨⟨o, s1⟩, h1, h2⟩ := bind_some hm
    obtain ⟨⟨os', s2⟩, h3, h4⟩ := map_some h2
    cases h4
    refine ⟨F, G, s, ps, R, o, s1, h1, fun v H1 F1 ps1 as R1 s01 own nd new => ⟨F1, G.add H1 as, s1, ps1, R1.hold new, os', s2, h3, fun vs H2 F2 ps2 ass R2 s12 owns nds news => ?_⟩⟩
    have hG : ∀ a ∈ as, G.h a = none ∧ ∃ u, H1 a = some u := fun a ha => ⟨(new a ha).2.1, own.there a ha⟩
    obtain ⟨R3, keep⟩ := Rel.unhold hG R2
    have apart : ∀ a ∈ as, a ∉ ass.flatten := fun a ha z => by
      have z2 := (news a z).2.1
      obtain ⟨u, e⟩ := (hG a ha).2
      rw [show (G.add H1 as).h a = H1 a from if_pos ha, e] at z2
      cases z2
    refine q (v :: vs) H2 F2 ps2 (as :: ass) R3 (s01.trans s12) ⟨own.mono s12 fun a ha u eu => (keep a ha).2.2 u eu, owns⟩ ?_ fun a ha => ?_
    · rw [List.flatten_cons, List.nodup_append]
      exact ⟨nd, nds, fun x hx y hy e => apart x hx (by rw [e]; exact hy)⟩
    · rw [List.flatten_cons] at ha
      rcases List.mem_append.mp ha with ha | ha
      · exact ⟨(keep a ha).1, (new a ha).2.1, (keep a ha).2.1⟩
      · obtain ⟨n1, n2, n3⟩ := news a ha
        refine ⟨n1, ?_, n3⟩
        have n2' : (if a ∈ as then H1 a else G.h a) = none := n2
        rw [if_neg fun z => apart a z ha] at n2'
        exact n2'
end

/-! ### the contents of the arguments -/
def slotO (s : S) (i : Nat) : Option O := match s[i]? with
  | some (some y) => some y
  | _ => none
theorem slotO_some {s : S} {i : Nat} {o : O} (h : slotO s i = some o) : s[i]? = some (some o) := by
  unfold slotO at h
  split at h
  · rename_i y e
    cases h
    exact e
  · cases h
def Arg.look (s : S) : Arg → Option O
  | .d x => some (.val x)
  | .o x => some x
  | .r i => slotO s i
def conts (s : S) : List Arg → Option (List O)
  | [] => some []
  | a :: as => (a.look s).bind fun o => (conts s as).map fun os => o :: os
def O.isVal : O → Bool
  | .val _ => true
  | _ => false
/-- the slots whose own things are handed over -/
def ownRefs (s : S) : List Arg → List Nat
  | [] => []
  | .r i :: as => (match s[i]? with
    | some (some o) => if o.isVal = true then ownRefs s as else i :: ownRefs s as
    | _ => ownRefs s as)
  | _ :: as => ownRefs s as
def dropRefs : List Arg → S → S
  | [], s => s
  | .r i :: as, s => (dropRefs as s).set i none
  | _ :: as, s => dropRefs as s
def setRefs : List Arg → List O → S → Option S
  | [], [], s => some s
  | .r i :: as, o :: os, s => if i < s.length then setRefs as os (s.set i (some o)) else none
  | _ :: as, _ :: os, s => setRefs as os s
  | _, _, _ => none
def mCall (f : FD) (ms : List MArg) : MO := fun s => (evA ms s).bind fun p => (conts p.2 p.1).bind fun cs => if (ownRefs p.2 p.1).Nodup then (f cs).bind fun r => (setRefs p.1 r.2 (dropRefs p.1 p.2)).map fun s' => (r.1, s') else none
/-- the promise of a def that does f -/
def spOf (K : PySem.W.Frag) (f : FD) : Sp := fun vs H Q _ => ∃ (F G : Hp) (cs : List O) (ass : List (List Addr)), Same F H ∧ Same G H ∧ (∀ a u, G a = some u → F a = none) ∧ OwnAll K F H vs cs ass ∧ ass.flatten.Nodup ∧ (∀ a ∈ ass.flatten, F a = none ∧ G a = none) ∧
  ∃ r outs, f cs = some (r, outs) ∧ ∀ v H' F' as ass', Same F F' → Same F' H' → Same G H' → (∀ a u, G a = some u → F' a = none) → Own K F' H' v r as → OwnAll K F' H' vs outs ass' → (as ++ ass'.flatten).Nodup → (∀ a ∈ as ++ ass'.flatten, F' a = none ∧ G a = none) → Q v H'
section
variable {K : PySem.W.Frag} {F F' H H' : Hp} {G : Gd} {s : S} {σ : L2.St} {ps : List (List Addr)}
theorem Own.nil_of_val {v : V} {o : O} {as : List Addr} (h : Own K F H v o as) (hv : o.isVal = true) : as = [] := by
  cases o with
  | val d => exact h.2
  | lst xs => cases hv
  | dct kvs => cases hv
  | obj C fs => cases hv
  | hole => cases hv
/-- the arguments' own things: those of the slots, those made for the call -/
theorem args_own (R : Rel np K F G s σ H ps) : ∀ {args : List Arg} {vs : List V} {ass : List (List Addr)} {cs : List O}, ArgAll K F H σ vs args ass → ass.flatten.Nodup → (∀ b ∈ ass.flatten, F b = none ∧ G.h b = none ∧ b ∉ ps.flatten) → conts s args = some cs → (ownRefs s args).Nodup →
    ∃ bss, OwnAll K F H vs cs bss ∧ bss.flatten.Nodup ∧ (∀ b ∈ bss.flatten, F b = none ∧ G.h b = none) ∧ (∀ b ∈ bss.flatten, b ∈ ass.flatten ∨ ∃ i ∈ ownRefs s args, ∃ as, ps[i]? = some as ∧ b ∈ as) ∧ ∀ i ∈ ownRefs s args, ∀ as, ps[i]? = some as → ∀ b ∈ as, b ∈ bss.flatten
  | [], vs, ass, cs, h, _, _, hc, _ => by
    cases hc
    match vs, ass, h with
    | [], [], _ => exact ⟨[], trivial, List.nodup_nil, (fun b hb => nomatch hb), (fun b hb => nomatch hb), fun i hi => nomatch hi⟩
    | _ :: _, _, h => exact h.elim
    | [], _ :: _, h => exact h.elim
  | a :: args, vs, ass, cs, h, nd, new, hc, nr => by
    match vs, ass, h with
    | [], _, h => exact h.elim
    | _ :: _, [], h => exact h.elim
    | v :: vs, as :: ass, h =>
      obtain ⟨o, h1, h2⟩ := bind_some hc
      obtain ⟨os, h3, h4⟩ := map_some h2
      cases h4
      rw [List.flatten_cons, List.nodup_append] at nd
      have new2 : ∀ b ∈ ass.flatten, F b = none ∧ G.h b = none ∧ b ∉ ps.flatten := fun b hb => new b (by rw [List.flatten_cons]; exact List.mem_append_right _ hb)
      cases a with
      | d x =>
        obtain ⟨bss, g1, g2, g3, g4, g5⟩ := args_own R h.2 nd.2.1 new2 h3 nr
        obtain ⟨t, rfl⟩ := h.1
        cases h1
        exact ⟨[] :: bss, ⟨⟨t, rfl⟩, g1⟩, by rw [List.flatten_cons, List.nil_append]; exact g2, by rw [List.flatten_cons, List.nil_append]; exact g3, by rw [List.flatten_cons, List.nil_append]; exact g4, by rw [List.flatten_cons, List.nil_append]; exact g5⟩
      | o x =>
        obtain ⟨bss, g1, g2, g3, g4, g5⟩ := args_own R h.2 nd.2.1 new2 h3 nr
        cases h1
        have newA : ∀ b ∈ as, F b = none ∧ G.h b = none ∧ b ∉ ps.flatten := fun b hb => new b (by rw [List.flatten_cons]; exact List.mem_append_left _ hb)
        refine ⟨as :: bss, ⟨h.1, g1⟩, ?_, fun b hb => ?_, fun b hb => ?_, fun i hi as' ha b hb => ?_⟩
        · rw [List.flatten_cons, List.nodup_append]
          refine ⟨nd.1, g2, fun x hx y hy e => ?_⟩
          rcases g4 y hy with z | ⟨i, hi, as', ha, hb⟩
          · exact nd.2.2 x hx y z e
          · exact (newA x hx).2.2 (mem_flat ha (by rw [e]; exact hb))
        · rw [List.flatten_cons] at hb
          rcases List.mem_append.mp hb with hb | hb
          · exact ⟨(newA b hb).1, (newA b hb).2.1⟩
          · exact g3 b hb
        · rw [List.flatten_cons] at hb ⊢
          rcases List.mem_append.mp hb with hb | hb
          · exact .inl (List.mem_append_left _ hb)
          · exact (g4 b hb).imp (List.mem_append_right _) id
        · rw [List.flatten_cons]
          exact List.mem_append_right _ (g5 i hi as' ha b hb)
      | r i =>
        obtain ⟨e1, rfl⟩ := h.1
        rw [List.flatten_cons, List.nil_append] at new
        have e2 : s[i]? = some (some o) := slotO_some h1
        obtain ⟨v', as', k1, k2, k3⟩ := R.at_ i o e2
        have ev : v' = v := by
          rw [e1] at k1
          exact (Option.some.inj (Option.some.inj k1)).symm
        subst ev
        have er : ownRefs s (.r i :: args) = if o.isVal = true then ownRefs s args else i :: ownRefs s args := by
          show (match s[i]? with | some (some o) => if o.isVal = true then ownRefs s args else i :: ownRefs s args | _ => ownRefs s args) = _
          rw [e2]
        rw [er] at nr
        by_cases hv : o.isVal = true
        · rw [if_pos hv] at nr
          have en := k3.nil_of_val hv
          subst en
          obtain ⟨bss, g1, g2, g3, g4, g5⟩ := args_own R h.2 nd.2.1 new2 h3 nr
          rw [er, if_pos hv]
          exact ⟨[] :: bss, ⟨k3, g1⟩, by rw [List.flatten_cons, List.nil_append]; exact g2, by rw [List.flatten_cons, List.nil_append]; exact g3, by rw [List.flatten_cons, List.nil_append]; exact g4, by rw [List.flatten_cons, List.nil_append]; exact g5⟩
        · rw [if_neg hv] at nr
          obtain ⟨n1, n2⟩ := List.nodup_cons.mp nr
          obtain ⟨bss, g1, g2, g3, g4, g5⟩ := args_own R h.2 nd.2.1 new2 h3 n2
          rw [er, if_neg hv]
          refine ⟨as' :: bss, ⟨k3, g1⟩, ?_, fun b hb => ?_, fun b hb => ?_, fun j hj as2 ha b hb => ?_⟩
          · rw [List.flatten_cons, List.nodup_append]
            refine ⟨nodup_at R.nd k2, g2, fun x hx y hy e => ?_⟩
            subst e
            rcases g4 x hy with z | ⟨j, hj, as2, ha, hb⟩
            · exact (new2 x z).2.2 (mem_flat k2 hx)
            · exact flat_apart R.nd k2 ha (fun z => n1 (by rw [← z]; exact hj)) hx hb
          · rw [List.flatten_cons] at hb
            rcases List.mem_append.mp hb with hb | hb
            · exact ⟨(R.apart b (mem_flat k2 hb)).1, (R.apart b (mem_flat k2 hb)).2.1⟩
            · exact g3 b hb
          · rw [List.flatten_cons] at hb
            rw [List.flatten_cons, List.nil_append]
            rcases List.mem_append.mp hb with hb | hb
            · exact .inr ⟨i, List.mem_cons_self, as', k2, hb⟩
            · rcases g4 b hb with z | ⟨j, hj, as2, ha, hb⟩
              · exact .inl z
              · exact .inr ⟨j, List.mem_cons_of_mem _ hj, as2, ha, hb⟩
          · rw [List.flatten_cons]
            rcases List.mem_cons.mp hj with e | hj
            · subst e
              rw [k2] at ha
              cases ha
              exact List.mem_append_left _ hb
            · exact List.mem_append_right _ (g5 j hj as2 ha b hb)
def dropPs : List Arg → List (List Addr) → List (List Addr)
  | [], ps => ps
  | .r i :: as, ps => (dropPs as ps).set i []
  | _ :: as, ps => dropPs as ps
theorem Rel.drops (R : Rel np K F G s σ H ps) : ∀ args : List Arg, Rel np K F G (dropRefs args s) σ H (dropPs args ps)
  | [] => R
  | .r i :: args => (Rel.drops R args).drop i rfl R.pin fun _ _ => rfl
  | .d _ :: args => Rel.drops R args
  | .o _ :: args => Rel.drops R args
/-- what is left there of the slots' addresses -/
theorem dropPs_at {args : List Arg} {i : Nat} {as : List Addr} {b : Addr} (h : (dropPs args ps)[i]? = some as) (hb : b ∈ as) : ps[i]? = some as ∧ Arg.r i ∉ args := by
  induction args generalizing as with
  | nil => exact ⟨h, by simp⟩
  | cons a args ih =>
    cases a with
    | r j =>
      have h' : ((dropPs args ps).set j [])[i]? = some as := h
      by_cases c : j = i
      · subst c
        by_cases hl : j < (dropPs args ps).length
        · rw [List.getElem?_set_self hl] at h'
          cases h'
          cases hb
        · rw [List.getElem?_eq_none (by rw [List.length_set]; omega)] at h'
          cases h'
      · rw [List.getElem?_set_ne c] at h'
        obtain ⟨h1, h2⟩ := ih h' hb
        exact ⟨h1, by simp only [List.mem_cons, not_or]; exact ⟨(fun z => by cases z; exact c rfl), h2⟩⟩
    | d x =>
      obtain ⟨h1, h2⟩ := ih h hb
      exact ⟨h1, by simp only [List.mem_cons, not_or]; exact ⟨(fun z => by cases z), h2⟩⟩
    | o x =>
      obtain ⟨h1, h2⟩ := ih h hb
      exact ⟨h1, by simp only [List.mem_cons, not_or]; exact ⟨(fun z => by cases z), h2⟩⟩
/-- the same slots over a later heap -/
theorem Rel.over (R : Rel np K F G s σ H ps) (sF : Same F F') (sF' : Same F' H') (sG : Same G.h H') (fg : ∀ a u, G.h a = some u → F' a = none) (keep : ∀ b ∈ ps.flatten, F' b = none ∧ ∀ u, H b = some u → H' b = some u) : Rel np K F' G s σ H' ps where
  sF := sF'
  sG := sG
  pin := R.pin
  few := R.few
  fg := fg
  lenP := R.lenP
  lenS := R.lenS
  at_ := fun i o e => by
    obtain ⟨v, as, h1, h2, h3⟩ := R.at_ i o e
    exact ⟨v, as, h1, h2, h3.mono sF fun a ha u eu => (keep a (mem_flat h2 ha)).2 u eu⟩
  nd := R.nd
  apart := fun a ha => by
    obtain ⟨_, h2, u, h3⟩ := R.apart a ha
    exact ⟨(keep a ha).1, h2, u, (keep a ha).2 u h3⟩
/-- a slot stored, at its own value -/
theorem Rel.fill (R : Rel np K F G s σ H ps) {i : Nat} {o : O} {v : V} {as : List Addr} (hi : i < s.length) (hv : σ[i]? = some (some v)) (own : Own K F H v o as) (nd : as.Nodup) (new : ∀ a ∈ as, F a = none ∧ G.h a = none ∧ a ∉ ps.flatten) : Rel np K F G (s.set i (some o)) σ H (ps.set i as) := by
  have hσ : σ = σ.set i (some v) := by
    apply List.ext_getElem?
    intro j
    by_cases c : i = j
    · subst c
      rw [List.getElem?_set_self (by rw [R.lenS]; exact hi), hv]
    · rw [List.getElem?_set_ne c]
  exact R.put hi (Same.refl F) R.sF R.sG hσ R.pin R.fg own nd (fun a ha => ⟨(new a ha).1, (new a ha).2.1, fun j bs hj hb z => (new a ha).2.2 (mem_flat hb z)⟩) fun j bs hj hb a ha => ⟨(R.apart a (mem_flat hb ha)).1, fun u eu => eu⟩
theorem Rel.fills : ∀ {args : List Arg} {os : List O} {vs : List V} {ass ass0 : List (List Addr)} {s s' : S} {ps : List (List Addr)} {F0 H0 : Hp}, Rel np K F G s σ H ps → ArgAll K F0 H0 σ vs args ass0 → OwnAll K F H vs os ass → ass.flatten.Nodup → (∀ a ∈ ass.flatten, F a = none ∧ G.h a = none ∧ a ∉ ps.flatten) → setRefs args os s = some s' →
    ∃ ps', Rel np K F G s' σ H ps' ∧ ∀ a ∈ ps'.flatten, a ∈ ps.flatten ∨ a ∈ ass.flatten
  | [], [], vs, ass, ass0, s, s', ps, F0, H0, R, _, _, _, _, h => by
    cases h
    exact ⟨ps, R, fun a ha => .inl ha⟩
  | a :: args, o :: os, vs, ass, ass0, s, s', ps, F0, H0, R, ar, own, nd, new, h => by
    match vs, ass, ass0, ar, own with
    | v :: vs, as :: ass, as0 :: ass0, ar, own =>
      rw [List.flatten_cons, List.nodup_append] at nd
      have new2 : ∀ b ∈ ass.flatten, F b = none ∧ G.h b = none ∧ b ∉ ps.flatten := fun b hb => new b (by rw [List.flatten_cons]; exact List.mem_append_right _ hb)
      have newA : ∀ b ∈ as, F b = none ∧ G.h b = none ∧ b ∉ ps.flatten := fun b hb => new b (by rw [List.flatten_cons]; exact List.mem_append_left _ hb)
      cases a with
      | r i =>
        have h' : (if i < s.length then setRefs args os (s.set i (some o)) else none) = some s' := h
        split at h'
        · rename_i hi
          have R1 := R.fill hi ar.1.1 own.1 nd.1 newA
          obtain ⟨ps', R2, k⟩ := Rel.fills R1 ar.2 own.2 nd.2.1 (fun b hb => ⟨(new2 b hb).1, (new2 b hb).2.1, fun z => by
            rcases mem_set_flat z with z | z
            · exact nd.2.2 b z b hb rfl
            · exact (new2 b hb).2.2 z⟩) h'
          refine ⟨ps', R2, fun b hb => ?_⟩
          rw [List.flatten_cons]
          rcases k b hb with z | z
          · rcases mem_set_flat z with z | z
            · exact .inr (List.mem_append_left _ z)
            · exact .inl z
          · exact .inr (List.mem_append_right _ z)
        · cases h'
      | d x =>
        obtain ⟨ps', R2, k⟩ := Rel.fills R ar.2 own.2 nd.2.1 new2 h
        refine ⟨ps', R2, fun b hb => ?_⟩
        rw [List.flatten_cons]
        exact (k b hb).imp id (List.mem_append_right _)
      | o x =>
        obtain ⟨ps', R2, k⟩ := Rel.fills R ar.2 own.2 nd.2.1 new2 h
        refine ⟨ps', R2, fun b hb => ?_⟩
        rw [List.flatten_cons]
        exact (k b hb).imp id (List.mem_append_right _)
    | [], _, _, ar, _ => exact ar.elim
    | _ :: _, [], _, _, own => exact own.elim
    | _ :: _, _ :: _, [], ar, _ => exact ar.elim
  | [], _ :: _, _, _, _, _, _, _, _, _, _, _, _, _, _, h => by cases h
  | a :: args, [], _, _, _, _, _, _, _, _, _, _, _, _, _, h => by cases a <;> cases h
theorem ownRefs_mem {args : List Arg} {i : Nat} (h : i ∈ ownRefs s args) : Arg.r i ∈ args := by
  induction args with
  | nil => cases h
  | cons a args ih =>
    cases a with
    | r j =>
      have h' : i ∈ (match s[j]? with | some (some o) => if o.isVal = true then ownRefs s args else j :: ownRefs s args | _ => ownRefs s args) := h
      split at h'
      · split at h'
        · exact List.mem_cons_of_mem _ (ih h')
        · rcases List.mem_cons.mp h' with e | h'
          · rw [e]; exact List.mem_cons_self
          · exact List.mem_cons_of_mem _ (ih h')
      · exact List.mem_cons_of_mem _ (ih h')
    | d x => exact List.mem_cons_of_mem _ (ih h)
    | o x => exact List.mem_cons_of_mem _ (ih h)
end
/-- a call done -/
theorem call_done {K : PySem.W.Frag} {f : FD} {ms : List MArg} {σ : L2.St} {H : Hp} {Q : VK} {E : XK} (h : tO np K (mCall f ms) σ H Q) : tCall (spOf K f) [] E (tArgs np K ms) σ H Q := by
  obtain ⟨F, G, s, ps, R, o, s', hm, q⟩ := h
  obtain ⟨⟨args, s1⟩, h1, h2⟩ := bind_some hm
  obtain ⟨cs, h3, h4⟩ := bind_some h2
  dsimp only at h3 h4
  split at h4
  · rename_i nr
    obtain ⟨⟨r, outs⟩, h5, h6⟩ := bind_some h4
    obtain ⟨s2, h7, h8⟩ := map_some h6
    cases h8
    refine ⟨F, G, s, ps, R, args, s1, h1, fun vs H1 F1 ps1 ass R1 s01 al nd new => ?_⟩
    show spOf K f (vs ++ []) H1 Q E
    rw [List.append_nil]
    obtain ⟨bss, g1, g2, g3, g4, g5⟩ := args_own R1 al nd new h3 nr
    -- what the callee must keep
    have gat : ∀ b u, (if b ∈ bss.flatten then none else if b ∈ ps1.flatten then H1 b else G.h b) = some u → b ∉ bss.flatten ∧ H1 b = some u := fun b u e => by
      split at e
      · cases e
      · rename_i hb
        split at e
        · exact ⟨hb, e⟩
        · exact ⟨hb, R1.sG b u e⟩
    refine ⟨F1, fun b => if b ∈ bss.flatten then none else if b ∈ ps1.flatten then H1 b else G.h b, cs, bss, R1.sF, fun b u e => (gat b u e).2, fun b u e => ?_, g1, g2, fun b hb => ⟨(g3 b hb).1, if_pos hb⟩, r, outs, h5, fun v H2 F2 as ass' s12 sF2 sG2 fg2 own owns nd2 new2 => ?_⟩
    · have e' : (if b ∈ bss.flatten then none else if b ∈ ps1.flatten then H1 b else G.h b) = some u := e
      split at e'
      · cases e'
      · split at e'
        · rename_i hb
          exact (R1.apart b hb).1
        · exact R1.fg b u e'
    · rw [List.nodup_append] at nd2
      -- the slots that weren't handed over
      have Rd := R1.drops args
      have keep : ∀ b ∈ (dropPs args ps1).flatten, b ∉ bss.flatten ∧ b ∈ ps1.flatten := fun b hb => by
        obtain ⟨bs, hbs, hy⟩ := List.mem_flatten.mp hb
        obtain ⟨j, hj⟩ := List.getElem?_of_mem hbs
        obtain ⟨k1, k2⟩ := dropPs_at hj hy
        refine ⟨fun z => ?_, mem_flat k1 hy⟩
        rcases g4 b z with z | ⟨i, hi, as', ha, hb'⟩
        · exact (new b z).2.2 (mem_flat k1 hy)
        · by_cases c : i = j
          · subst c
            exact k2 (ownRefs_mem hi)
          · exact flat_apart R1.nd ha k1 (Ne.symm c) hb' hy
      have gin : ∀ b ∈ (dropPs args ps1).flatten, ∀ u, H1 b = some u → (if b ∈ bss.flatten then none else if b ∈ ps1.flatten then H1 b else G.h b) = some u := fun b hb u eu => by
        rw [if_neg (keep b hb).1, if_pos (keep b hb).2]
        exact eu
      have gG : ∀ b u, G.h b = some u → (if b ∈ bss.flatten then none else if b ∈ ps1.flatten then H1 b else G.h b) = some u := fun b u eu => by
        rw [if_neg fun z => by rw [(g3 b z).2] at eu; cases eu]
        split
        · exact R1.sG b u eu
        · exact eu
      have R2 := Rd.over (F' := F2) (H' := H2) s12 sF2 (fun b u eu => sG2 b u (gG b u eu)) (fun b u eu => fg2 b u (gG b u eu)) fun b hb => by
        obtain ⟨_, _, u, eu⟩ := Rd.apart b hb
        exact ⟨fg2 b u (gin b hb u eu), fun u' eu' => sG2 b u' (gin b hb u' eu')⟩
      have hnew : ∀ a ∈ as ++ ass'.flatten, F2 a = none ∧ G.h a = none ∧ a ∉ (dropPs args ps1).flatten := fun a ha => by
        obtain ⟨n1, n2⟩ := new2 a ha
        refine ⟨n1, ?_, fun z => ?_⟩
        · cases e : G.h a with
          | none => rfl
          | some u => exact nomatch (gG a u e).symm.trans n2
        · obtain ⟨_, _, u, eu⟩ := Rd.apart a z
          exact nomatch (gin a z u eu).symm.trans n2
      obtain ⟨ps2, R3, k⟩ := R2.fills al owns nd2.2.1 (fun a ha => hnew a (List.mem_append_right _ ha)) h7
      refine q v H2 F2 ps2 as R3 (s01.trans s12) own nd2.1 fun a ha => ?_
      obtain ⟨n1, n2, n3⟩ := hnew a (List.mem_append_left _ ha)
      refine ⟨n1, n2, fun z => ?_⟩
      rcases k a z with z | z
      · exact n3 z
      · exact nd2.2.2 a ha a z rfl
  · cases h4
section
variable {X : Cx} {k : Nat} {f : Addr} {fd : FuncData} {ps : List Str} {x : Str} {p pos : Pos} {e : Expr} {es : List Expr} {ms : List MArg} {df : FD} {E : XK}
theorem e_call (F : FnOk X.prog X.w X.K X.mg X.base CX0 k f fd ps (spOf X.K df)) (hr : Room k X.A) (hg : Gl X x) (hm : X.mg x = some (.ref f)) (hk : PySem.W.keepIn X.K (.ref f) = true) (hb : Binds X.K fd ps []) (ha : PA X (e :: es) (tArgs np X.K ms))
    (hdb : (x == ("__debug__" : Str)) = false := by decide) (he : starEach (e :: es) X.env = (false, eval e X.env) :: starEach es X.env := by rfl) (hpl : (backTo pos (starEach es X.env)).any (·.1) = false := by rfl) : PE X (.Call (.Name x p) (e :: es) [] pos) (tO np X.K (mCall df ms)) :=
  pe_imp (pe_call F hr hg hm hk hb .nil pass0 ha hdb he hpl) fun _ _ _ => call_done
end
end Dv

/-! A def by its body. -/
namespace Dv
open PySem PySem.Spec PyProof.Rows L2
variable {np : Nat}
/-- what the parameters' slots hold at the end -/
def outsOf : Nat → S → Option (List O)
  | 0, _ => some []
  | n + 1, some o :: s => (outsOf n s).map fun os => o :: os
  | _, _ => none
/-- the def of n slots, np of them parameters -/
def runDef (n np : Nat) (m : MS) : FD := fun cs => if cs.length = np then (m (cs.map some ++ List.replicate (n - np) none)).bind fun p => (outsOf np p.2).bind fun outs => match p.1 with
    | .nx => some (.val .none, outs)
    | .rt o => some (o, outs)
    | _ => none
  else none
section
variable {K : PySem.W.Frag} {F H : Hp}
theorem ownAll_at : ∀ {vs : List V} {os : List O} {ass : List (List Addr)} {i : Nat} {o : O}, OwnAll K F H vs os ass → os[i]? = some o → ∃ v as, vs[i]? = some v ∧ ass[i]? = some as ∧ Own K F H v o as
  | v :: vs, o :: os, as :: ass, 0, o', h, e => by
    cases e
    exact ⟨v, as, rfl, rfl, h.1⟩
  | v :: vs, o :: os, as :: ass, i + 1, o', h, e => by
    obtain ⟨v', as', h1, h2, h3⟩ := ownAll_at (i := i) (o := o') h.2 (by simpa using e)
    exact ⟨v', as', by simpa using h1, by simpa using h2, h3⟩
  | [], [], _, _, _, _, e => by simp at e
  | [], _ :: _, _, _, _, h, _ => h.elim
  | _ :: _, [], _, _, _, h, _ => h.elim
  | _ :: _, _ :: _, [], _, _, h, _ => h.elim
theorem ownAll_there : ∀ {vs : List V} {os : List O} {ass : List (List Addr)}, OwnAll K F H vs os ass → ∀ a ∈ ass.flatten, ∃ u, H a = some u
  | [], [], [], _, a, ha => nomatch ha
  | v :: vs, o :: os, as :: ass, h, a, ha => by
    rw [List.flatten_cons] at ha
    rcases List.mem_append.mp ha with ha | ha
    · exact h.1.there a ha
    · exact ownAll_there h.2 a ha
  | [], _ :: _, _, h, _, _ => h.elim
  | [], [], _ :: _, h, _, _ => h.elim
  | _ :: _, [], _, h, _, _ => h.elim
  | _ :: _, _ :: _, [], h, _, _ => h.elim
theorem outs_own : ∀ {vs : List V} {s : S} {σ : L2.St} {ps : List (List Addr)} {outs : List O}, (∀ (i : Nat) (o : O), s[i]? = some (some o) → ∃ v as, σ[i]? = some (some v) ∧ ps[i]? = some as ∧ Own K F H v o as) → σ.take vs.length = vs.map some → outsOf vs.length s = some outs → OwnAll K F H vs outs (ps.take vs.length)
  | [], s, σ, ps, outs, _, _, h => by
    cases h
    exact trivial
  | v :: vs, [], σ, ps, outs, _, _, h => by cases h
  | v :: vs, none :: s, σ, ps, outs, _, _, h => by cases h
  | v :: vs, some o :: s, σ, ps, outs, at_, hp, h => by
    obtain ⟨os, h1, h2⟩ := map_some h
    cases h2
    obtain ⟨v', as, e1, e2, own⟩ := at_ 0 o rfl
    match σ, ps, e1, e2 with
    | x :: σ, bs :: ps, e1, e2 =>
      cases e2
      have e1' : x = some v' := Option.some.inj e1
      subst e1'
      have hp' : some v' :: σ.take vs.length = some v :: vs.map some := hp
      obtain ⟨g1, g2⟩ := List.cons.inj hp'
      cases g1
      exact ⟨own, outs_own (σ := σ) (fun i o' e => by
        obtain ⟨v2, as2, k1, k2, k3⟩ := at_ (i + 1) o' (by simpa using e)
        exact ⟨v2, as2, by simpa using k1, by simpa using k2, k3⟩) g2 h1⟩
theorem flat_nils : ∀ n : Nat, (List.replicate n ([] : List Addr)).flatten = []
  | 0 => rfl
  | n + 1 => by
    rw [List.replicate_succ, List.flatten_cons, List.nil_append]
    exact flat_nils n
end
section
variable {P : Program} {w : World} {K : PySem.W.Frag} {mg : Str → Option Value} {base : Heap}
theorem def_tS {m : MS} {N : List Str} {vs : List V} {H : Hp} {Q : VK} {E : XK} (hle : np ≤ N.length) (h : spOf K (runDef N.length np m) vs H Q E) : tS np K m { nx := fun _ H' => Q .non H', rt := Q } (L2.start N vs) H := by
  obtain ⟨F, G, cs, ass, sF, sG, fg, own, nd, new, r, outs, hf, q⟩ := h
  obtain ⟨l1, l2⟩ := ownAll_len own
  unfold runDef at hf
  split at hf
  · rename_i hc
    obtain ⟨⟨f, s'⟩, h1, h2⟩ := bind_some hf
    obtain ⟨outs', h3, h4⟩ := bind_some h2
    have hv : vs.length = np := l1.trans hc
    have fin : ∀ {v : V} {o : O} {σ' : L2.St} {H' F' : Hp} {ps' : List (List Addr)} {as : List Addr}, Rel np K F' ⟨G, vs.map some⟩ s' σ' H' ps' → Same F F' → Own K F' H' v o as → as.Nodup → (∀ a ∈ as, F' a = none ∧ G a = none ∧ a ∉ ps'.flatten) → r = o → outs = outs' → Q v H' := by
      intro v o σ' H' F' ps' as R sFF ow ndA newA e1 e2
      subst e1
      subst e2
      have hp : σ'.take vs.length = vs.map some := by
        have := R.pin
        rwa [List.length_map] at this
      have sub : ∀ a ∈ (ps'.take vs.length).flatten, a ∈ ps'.flatten := fun a ha => by
        have e : ps'.flatten = (ps'.take vs.length).flatten ++ (ps'.drop vs.length).flatten := by rw [← List.flatten_append, List.take_append_drop]
        rw [e]
        exact List.mem_append_left _ ha
      have ndT : (ps'.take vs.length).flatten.Nodup := by
        have e : ps'.flatten = (ps'.take vs.length).flatten ++ (ps'.drop vs.length).flatten := by rw [← List.flatten_append, List.take_append_drop]
        have := R.nd
        rw [e, List.nodup_append] at this
        exact this.1
      refine q v H' F' as (ps'.take vs.length) sFF R.sF R.sG R.fg ow (outs_own R.at_ hp (by rw [hv]; exact h3)) ?_ fun a ha => ?_
      · rw [List.nodup_append]
        exact ⟨ndA, ndT, fun x hx y hy e => (newA x hx).2.2 (by rw [e]; exact sub y hy)⟩
      · rcases List.mem_append.mp ha with ha | ha
        · exact ⟨(newA a ha).1, (newA a ha).2.1⟩
        · exact ⟨(R.apart a (sub a ha)).1, (R.apart a (sub a ha)).2.1⟩
    have efl : (ass ++ List.replicate (N.length - np) ([] : List Addr)).flatten = ass.flatten := by rw [List.flatten_append, flat_nils, List.append_nil]
    refine ⟨F, ⟨G, vs.map some⟩, cs.map some ++ List.replicate (N.length - np) none, ass ++ List.replicate (N.length - np) [], ⟨sF, sG, ?_, ?_, fg, ?_, ?_, fun i o e => ?_, ?_, fun a ha => ?_⟩, f, s', h1, ?_⟩
    · show (L2.start N vs).take (vs.map some).length = vs.map some
      unfold L2.start
      rw [List.take_left]
    · show (vs.map some).length ≤ np
      rw [List.length_map, hv]
      exact Nat.le_refl _
    · rw [List.length_append, List.length_append, List.length_map, List.length_replicate, List.length_replicate, l2]
    · unfold L2.start
      rw [List.length_append, List.length_append, List.length_map, List.length_map, List.length_replicate, List.length_replicate, hv, hc]
    · by_cases hi : i < cs.length
      · rw [List.getElem?_append_left (by rw [List.length_map]; exact hi), List.getElem?_map] at e
        obtain ⟨o', e1, e2⟩ := map_some e
        cases e2
        obtain ⟨v, as, k1, k2, k3⟩ := ownAll_at own e1
        refine ⟨v, as, ?_, ?_, k3⟩
        · unfold L2.start
          rw [List.getElem?_append_left (by rw [List.length_map, l1]; exact hi), List.getElem?_map, k1]
          rfl
        · rw [List.getElem?_append_left (by rw [l2]; exact hi)]
          exact k2
      · rw [List.getElem?_append_right (by rw [List.length_map]; omega), List.getElem?_replicate] at e
        split at e
        · cases e
        · cases e
    · rw [efl]
      exact nd
    · rw [efl] at ha
      exact ⟨(new a ha).1, (new a ha).2, ownAll_there own a ha⟩
    · cases f with
      | nx =>
        cases h4
        exact fun σ' H' F' ps' R s01 => fin R s01 (o := .val .none) (as := []) ⟨.non, rfl⟩ List.nodup_nil (fun a ha => nomatch ha) rfl rfl
      | rt o =>
        cases h4
        exact fun v σ' H' F' ps' as R s01 ow ndA newA => fin R s01 ow ndA newA rfl rfl
      | bk => cases h4
      | ct => cases h4
  · cases hf
theorem def_ok {m : MS} {x qual : Str} {st : Stmt} {f : Addr} {fd : FuncData} {N ps : List Str} {k : Nat} (F : Fun K x qual st f fd) (S : FnScope N ps (defScope st)) (hp : ps.length = np)
    (body : ∀ (cdv : Value) (A : Around) (outer : List Env) (s : Shared) (H : Hp) (E : XK), Room k (A.deeper (envOfC qual (defScope st) s.heap.objs.size f cdv)) → PSs (cxOf CX0 P w K mg base N qual (defScope st) f cdv A outer s H E).nox (defBody st) (tS np K m)) : FnOk P w K mg base CX0 (k + 1) f fd ps (spOf K (runDef N.length np m)) :=
  F.ok S (fun vs H Q E h => by
    obtain ⟨F, G, cs, ass, _, _, _, own, _, _, r, outs, hf, _⟩ := h
    unfold runDef at hf
    split at hf
    · rename_i hc
      rw [(ownAll_len own).1, hc, hp]
    · cases hf) fun cdv A outer s H vs Q E hr h => ⟨_, body cdv A outer s H E hr, def_tS (by
      have := congrArg List.length S.pre
      rw [List.length_take] at this
      omega) h⟩
end
end Dv

/-! What is walked over; for, while. -/
namespace Dv
open PySem PySem.Spec PyProof.Rows L2
variable {np : Nat}
abbrev MI := S → Option (List D × S)
/-- the walk gives the items ds, one after the other -/
structure WalkD (K : PySem.W.Frag) (F : Hp) (J : It) (ds : List D) : Prop where
  goes : ∀ (i : Nat) (H : Hp), i < ds.length → Same F H → J.go i H
  stops : ∀ H : Hp, Same F H → J.stop ds.length H
  yields : ∀ (i : Nat) (d : D) (H : Hp) (x : V) (H' : Hp), ds[i]? = some d → Same F H → J.yld i H x H' → (H' = H ∧ Tr K F x d) ∨ ∃ T u, H T = none ∧ H' = upd H T u ∧ ∀ F', Same F F' → F' T = none → Tr K (upd F' T u) x d
def tI (np : Nat) (K : PySem.W.Frag) (m : MI) : TI := fun σ H R => ∃ F G s ps, Rel np K F G s σ H ps ∧ ∃ ds s', m s = some (ds, s') ∧ ∀ J H' F' ps', Rel np K F' G s' σ H' ps' → Same F F' → WalkD K F' J ds → R J H'
section
variable {K : PySem.W.Frag} {F F0 H H' : Hp} {G : Gd} {s : S} {σ : L2.St} {ps : List (List Addr)} {J : It} {ds : List D}
theorem WalkD.step (w : WalkD K F0 J ds) {i : Nat} {d : D} {x : V} (hd : ds[i]? = some d) (R : Rel np K F G s σ H ps) (s0 : Same F0 F) (y : J.yld i H x H') : ∃ F', Rel np K F' G s σ H' ps ∧ Same F F' ∧ Tr K F' x d := by
  rcases w.yields i d H x H' hd (s0.trans R.sF) y with ⟨rfl, t⟩ | ⟨T, u, hT, rfl, t⟩
  · exact ⟨F, R, Same.refl F, dp_mono s0 d t⟩
  · obtain ⟨R1, s1⟩ := R.laid (o := u) hT
    exact ⟨_, R1, s1, t F s0 (R.sF.free hT)⟩
theorem walkD_list {a : Addr} {xs : List V} (h1 : SqL K F a xs) (h2 : TrAll K F xs ds) : WalkD K F (Itl K a) ds where
  goes := fun i H hi sH => ⟨xs, xs[i]'(by rw [da_length h2]; exact hi), sH.seq h1, List.getElem?_eq_getElem _⟩
  stops := fun H sH => ⟨xs, sH.seq h1, Nat.le_of_eq (da_length h2)⟩
  yields := fun i d H x H' hd sH ⟨e, y⟩ => by
    obtain ⟨v, e1, e2⟩ := da_get h2 hd
    have e3 := (y xs (sH.seq h1)).symm.trans e1
    cases e3
    exact .inl ⟨e, e2⟩
theorem walkD_tup {a : Addr} {xs : List V} (h1 : SqT K F a xs) (h2 : TrAll K F xs ds) : WalkD K F (Itt K a) ds where
  goes := fun i H hi sH => ⟨xs, xs[i]'(by rw [da_length h2]; exact hi), same_tup sH h1, List.getElem?_eq_getElem _⟩
  stops := fun H sH => ⟨xs, same_tup sH h1, Nat.le_of_eq (da_length h2)⟩
  yields := fun i d H x H' hd sH ⟨e, y⟩ => by
    obtain ⟨v, e1, e2⟩ := da_get h2 hd
    have e3 := (y xs (same_tup sH h1)).symm.trans e1
    cases e3
    exact .inl ⟨e, e2⟩
end
def chrs (x : Str) : List D := x.cps.toList.map fun c => .str ⟨#[c]⟩
def itemsD : D → Option (List D)
  | .list ds => some ds
  | .tuple ds => some ds
  | .str x => some (chrs x)
  | _ => none
def iVal (m : MV) : MI := fun s => (m s).bind fun p => (itemsD p.1).map fun ds => (ds, p.2)
theorem walkD_str {K : PySem.W.Frag} {F : Hp} {x : Str} : WalkD K F (Its x) (chrs x) where
  goes := fun i H hi _ => by
    unfold chrs at hi
    rw [List.length_map, Array.length_toList] at hi
    exact hi
  stops := fun H _ => by
    show x.cps.size ≤ (chrs x).length
    unfold chrs
    rw [List.length_map, Array.length_toList]
    exact Nat.le_refl _
  yields := fun i d H v H' hd _ ⟨e, c, hc, ev⟩ => by
    subst ev
    unfold chrs at hd
    rw [List.getElem?_map, Array.getElem?_toList, hc] at hd
    cases hd
    exact .inl ⟨e, .str _⟩
section
variable {X : Cx} {tg e : Expr} {es : List Expr} {p pos : Pos}
theorem i_val {m : MV} (h : PE X e (tV np X.K m)) : PI X tg e (tI np X.K (iVal m)) := ⟨fun pins s σ H R I ⟨F, G, s0, ps, R0, ds, s', hm, q⟩ => by
  obtain ⟨⟨d, s1⟩, h1, h2⟩ := bind_some hm
  obtain ⟨ds', h3, h4⟩ := map_some h2
  cases h4
  cases d with
  | list ys =>
    cases h3
    exact (pi_list h).run pins s σ H R I ⟨F, G, s0, ps, R0, _, s1, h1, fun v H1 F1 ps1 R1 s01 t => by
      cases t with
      | @lst a xs _ g1 g2 => exact ⟨a, rfl, ⟨xs, (lsk_mono R1.sF g1).sq⟩, q _ H1 F1 ps1 R1 s01 (walkD_list g1.sq g2)⟩⟩
  | tuple ys =>
    cases h3
    exact (pi_tup h).run pins s σ H R I ⟨F, G, s0, ps, R0, _, s1, h1, fun v H1 F1 ps1 R1 s01 t => by
      cases t with
      | @tup a xs _ g1 g2 => exact ⟨a, rfl, ⟨xs, same_tup R1.sF g1⟩, q _ H1 F1 ps1 R1 s01 (walkD_tup g1 g2)⟩⟩
  | str x =>
    cases h3
    exact (pi_str h).run pins s σ H R I ⟨F, G, s0, ps, R0, .str x, s1, h1, fun v H1 F1 ps1 R1 s01 t => by
      cases t
      exact ⟨x, rfl, q _ H1 F1 ps1 R1 s01 walkD_str⟩⟩
  | none => cases h3
  | bool b => cases h3
  | int i => cases h3
  | dict kvs => cases h3⟩
def rng (lo : Int) (n : Nat) : List D := (List.range n).map fun i => .int (lo + (i : Nat))
theorem walkD_rng {K : PySem.W.Frag} {F : Hp} {lo : Int} {n : Nat} : WalkD K F (Itr lo n) (rng lo n) where
  goes := fun i H hi _ => by
    unfold rng at hi
    rw [List.length_map, List.length_range] at hi
    exact hi
  stops := fun H _ => by
    show n ≤ (rng lo n).length
    unfold rng
    rw [List.length_map, List.length_range]
    exact Nat.le_refl _
  yields := fun i d H v H' hd _ ⟨e, ev⟩ => by
    subst ev
    unfold rng at hd
    rw [List.getElem?_map] at hd
    obtain ⟨j, h1, h2⟩ := map_some hd
    obtain ⟨h3, h4⟩ := List.getElem?_eq_some_iff.mp h1
    rw [List.getElem_range] at h4
    subst h4
    subst h2
    exact .inl ⟨e, .int _⟩
def inW (i : Int) : Bool := decide (-(2 ^ 62) ≤ i) && decide (i < 2 ^ 62)
theorem inW_iff {i : Int} (h : inW i = true) : -(2 ^ 62) ≤ i ∧ i < 2 ^ 62 := by
  unfold inW at h
  rw [Bool.and_eq_true, decide_eq_true_eq, decide_eq_true_eq] at h
  exact h
def gRng : List D → Option (List D)
  | [.int j] => if inW j = true then some (rng 0 j.toNat) else none
  | [.int i, .int j] => if inW i = true ∧ inW j = true then some (rng i (j - i).toNat) else none
  | _ => none
def iOp (g : List D → Option (List D)) (ms : List MR) : MI := fun s => (evR ms s).bind fun p => (looks p.2 p.1).bind fun ds => (g ds).map fun xs => (xs, p.2)
theorem gRng_one {d : D} {xs : List D} (h : gRng [d] = some xs) : ∃ j, d = .int j ∧ inW j = true ∧ xs = rng 0 j.toNat := by
  unfold gRng at h
  split at h
  · rename_i j e
    cases e
    obtain ⟨h1, h2⟩ := if_some h
    exact ⟨j, rfl, h1, h2.symm⟩
  · rename_i e
    cases e
  · cases h
theorem pi_imp {iter : Expr} {t t' : TI} (h : PI X tg iter t) (i : ∀ σ H R, t' σ H R → t σ H R) : PI X tg iter t' := ⟨fun pins s σ H R I q => h.run pins s σ H R I (i σ H R q)⟩
theorem lnt_list1 {K : PySem.W.Frag} {F H : Hp} {vs : List V} {d : D} (h : LntAll K F H vs [d]) : ∃ v, vs = [v] ∧ Lnt K F H v d := by
  match vs, h with
  | [v], h => exact ⟨v, rfl, h.1⟩
  | _ :: _ :: _, h => exact h.2.elim
theorem looks_len {s : S} : ∀ {rs : List Rf} {ds : List D}, looks s rs = some ds → ds.length = rs.length
  | [], ds, h => by
    cases h
    rfl
  | r :: rs, ds, h => by
    obtain ⟨x, h1, h2⟩ := bind_some h
    obtain ⟨y, h3, h4⟩ := map_some h2
    cases h4
    exact congrArg (· + 1) (looks_len h3)
theorem len_one {α : Type} {l : List α} (h : l.length = 1) : ∃ a, l = [a] := List.length_eq_one_iff.mp h
theorem i_rng1 {m : MR} (hg : Gl X "range") (hm : X.mg "range" = none) (ha : PA X [e] (tA np X.K [m])) (hs : starEach [e] X.env = [(false, eval e X.env)] := by rfl) : PI X tg (.Call (.Name "range" p) [e] [] pos) (tI np X.K (iOp gRng [m])) :=
  pi_imp (pi_range1 hg hm ha hs) fun σ H R ⟨F, G, s, ps, R0, ds, s', hm, q⟩ => by
    obtain ⟨⟨rs, s1⟩, h1, h2⟩ := bind_some hm
    obtain ⟨ds', h3, h4⟩ := bind_some h2
    obtain ⟨xs, h5, h6⟩ := map_some h4
    cases h6
    refine ⟨F, G, s, ps, R0, rs, s1, h1, fun vs H1 F1 ps1 R1 s01 hv => ?_⟩
    have l := looks_lnt R1 hv h3
    obtain ⟨d, rfl⟩ := len_one ((looks_len h3).trans (evR_len h1))
    obtain ⟨v, rfl, l1⟩ := lnt_list1 l
    obtain ⟨j, rfl, h7, rfl⟩ := gRng_one h5
    exact ⟨j, by rw [lnt_int l1], (inW_iff h7).1, (inW_iff h7).2, q _ H1 F1 ps1 R1 s01 walkD_rng⟩
/-! ### pairs -/
def gZip : List Rf → Option (List D)
  | [.d (.list xs), .d (.list ys)] => some (List.zipWith (fun x y => .tuple [x, y]) xs ys)
  | [.d (.tuple xs), .d (.tuple ys)] => some (List.zipWith (fun x y => .tuple [x, y]) xs ys)
  | _ => none
def enumD : Nat → List D → List D
  | _, [] => []
  | n, d :: ds => .tuple [.int (n : Nat), d] :: enumD (n + 1) ds
def gEnum : List Rf → Option (List D)
  | [.d (.list xs)] => some (enumD 0 xs)
  | _ => none
def iPr (g : List Rf → Option (List D)) (ms : List MR) : MI := fun s => (evR ms s).bind fun p => (g p.1).map fun xs => (xs, p.2)
theorem zip_at {xs ys : List D} {i : Nat} {d : D} (h : (List.zipWith (fun x y => PyData.tuple [x, y]) xs ys)[i]? = some d) : ∃ x y, xs[i]? = some x ∧ ys[i]? = some y ∧ d = .tuple [x, y] := by
  rw [List.getElem?_zipWith] at h
  split at h
  · rename_i x y e1 e2
    cases h
    exact ⟨x, y, e1, e2, rfl⟩
  · cases h
theorem enumD_len : ∀ (n : Nat) (ds : List D), (enumD n ds).length = ds.length
  | _, [] => rfl
  | n, d :: ds => congrArg (· + 1) (enumD_len (n + 1) ds)
theorem enumD_at : ∀ {n : Nat} {ds : List D} {i : Nat} {d : D}, (enumD n ds)[i]? = some d → ∃ x, ds[i]? = some x ∧ d = .tuple [.int ((n + i : Nat) : Int), x]
  | n, [], i, d, h => by
    unfold enumD at h
    simp at h
  | n, d :: ds, 0, d', h => by
    cases h
    exact ⟨d, rfl, rfl⟩
  | n, d :: ds, i + 1, d', h => by
    have h' : (enumD (n + 1) ds)[i]? = some d' := by
      unfold enumD at h
      simpa using h
    obtain ⟨x, e1, e2⟩ := enumD_at h'
    exact ⟨x, by simpa using e1, by rw [e2, show n + 1 + i = n + (i + 1) by omega]⟩
theorem pair_tr {K : PySem.W.Frag} {F : Hp} {T : Addr} {x y : V} {d d' : D} (h1 : Tr K F x d) (h2 : Tr K F y d') (hT : F T = none) : Tr K (upd F T (.tup [x, y])) (.ref T) (.tuple [d, d']) :=
  .tup (.inl (.inl upd_same)) (.cons (dp_mono (same_of_fresh hT) d h1) (.cons (dp_mono (same_of_fresh hT) d' h2) .nil))
theorem i_zip {e' : Expr} {m m' : MR} {elts : List Expr} {kk : Nat} {tpos : Pos} (hg : Gl X "zip") (hm : X.mg "zip" = none) (ha : PA X [e, e'] (tA np X.K [m, m'])) (hs : starEach [e, e'] X.env = (false, eval e X.env) :: starEach [e'] X.env := by rfl) (hpl : (backTo pos (starEach [e'] X.env)).any (·.1) = false := by rfl) :
    PI X (.Tuple elts kk tpos) (.Call (.Name "zip" p) [e, e'] [] pos) (tI np X.K (iPr gZip [m, m'])) :=
  pi_imp (RZ.pi_zipA hg hm ha hs hpl) fun σ H R ⟨F, G, s, ps, R0, ds, s', hm, q⟩ => by
    obtain ⟨⟨rs, s1⟩, h1, h2⟩ := bind_some hm
    obtain ⟨xs, h5, h6⟩ := map_some h2
    cases h6
    refine ⟨F, G, s, ps, R0, rs, s1, h1, fun vs H1 F1 ps1 R1 s01 hv => ?_⟩
    unfold gZip at h5
    split at h5
    · rename_i xs ys e
      dsimp only at e
      subst e
      cases h5
      match vs, hv with
      | [v, w], hv =>
        obtain ⟨t1, t2, _⟩ := hv
        cases t1 with
        | @lst a us _ g1 g2 =>
          cases t2 with
          | @lst b ws _ g3 g4 =>
            refine ⟨a, b, us, ws, rfl, .inl ⟨(lsk_mono R1.sF g1).sq, (lsk_mono R1.sF g3).sq, q _ H1 F1 ps1 R1 s01 ⟨fun i H hi sH => ?_, fun H sH => ?_, fun i d H x H' hd sH hy => ?_⟩⟩⟩
            · rw [List.length_zipWith] at hi
              exact ⟨us, ws, us[i]'(by rw [da_length g2]; omega), ws[i]'(by rw [da_length g4]; omega), (lsk_mono sH g1).sq, (lsk_mono sH g3).sq, List.getElem?_eq_getElem _, List.getElem?_eq_getElem _⟩
            · refine ⟨us, ws, (lsk_mono sH g1).sq, (lsk_mono sH g3).sq, ?_⟩
              rw [List.length_zipWith, da_length g2, da_length g4]
              omega
            · obtain ⟨T, x1, y1, e1, e2, e3, e4, e5⟩ := hy
              obtain ⟨dx, dy, k1, k2, rfl⟩ := zip_at hd
              obtain ⟨v1, k3, k4⟩ := da_get g2 k1
              obtain ⟨v2, k5, k6⟩ := da_get g4 k2
              have z1 := (e4 us ((lsk_mono sH g1).sq)).symm.trans k3
              cases z1
              have z2 := (e5 ws ((lsk_mono sH g3).sq)).symm.trans k5
              cases z2
              subst e1
              exact .inr ⟨T, _, e2, e3, fun F' sF' nF => pair_tr (dp_mono sF' dx k4) (dp_mono sF' dy k6) nF⟩
      | [], hv => exact hv.elim
      | [_], hv => exact hv.2.elim
      | _ :: _ :: _ :: _, hv => exact hv.2.2.elim
    · rename_i xs ys e
      dsimp only at e
      subst e
      cases h5
      match vs, hv with
      | [v, w], hv =>
        obtain ⟨t1, t2, _⟩ := hv
        cases t1 with
        | @tup a us _ g1 g2 =>
          cases t2 with
          | @tup b ws _ g3 g4 =>
            refine ⟨a, b, us, ws, rfl, .inr ⟨same_tup R1.sF g1, same_tup R1.sF g3, q _ H1 F1 ps1 R1 s01 ⟨fun i H hi sH => ?_, fun H sH => ?_, fun i d H x H' hd sH hy => ?_⟩⟩⟩
            · rw [List.length_zipWith] at hi
              exact ⟨us, ws, us[i]'(by rw [da_length g2]; omega), ws[i]'(by rw [da_length g4]; omega), same_tup sH g1, same_tup sH g3, List.getElem?_eq_getElem _, List.getElem?_eq_getElem _⟩
            · refine ⟨us, ws, same_tup sH g1, same_tup sH g3, ?_⟩
              rw [List.length_zipWith, da_length g2, da_length g4]
              omega
            · obtain ⟨T, x1, y1, e1, e2, e3, e4, e5⟩ := hy
              obtain ⟨dx, dy, k1, k2, rfl⟩ := zip_at hd
              obtain ⟨v1, k3, k4⟩ := da_get g2 k1
              obtain ⟨v2, k5, k6⟩ := da_get g4 k2
              have z1 := (e4 us (same_tup sH g1)).symm.trans k3
              cases z1
              have z2 := (e5 ws (same_tup sH g3)).symm.trans k5
              cases z2
              subst e1
              exact .inr ⟨T, _, e2, e3, fun F' sF' nF => pair_tr (dp_mono sF' dx k4) (dp_mono sF' dy k6) nF⟩
      | [], hv => exact hv.elim
      | [_], hv => exact hv.2.elim
      | _ :: _ :: _ :: _, hv => exact hv.2.2.elim
    · cases h5
theorem i_enum {m : MR} {elts : List Expr} {kk : Nat} {tpos : Pos} (hg : Gl X "enumerate") (hm : X.mg "enumerate" = none) (ha : PA X [e] (tA np X.K [m])) (hs : starEach [e] X.env = [(false, eval e X.env)] := by rfl) :
    PI X (.Tuple elts kk tpos) (.Call (.Name "enumerate" p) [e] [] pos) (tI np X.K (iPr gEnum [m])) :=
  pi_imp (pi_enum hg hm ha hs) fun σ H R ⟨F, G, s, ps, R0, ds, s', hm, q⟩ => by
    obtain ⟨⟨rs, s1⟩, h1, h2⟩ := bind_some hm
    obtain ⟨xs, h5, h6⟩ := map_some h2
    cases h6
    refine ⟨F, G, s, ps, R0, rs, s1, h1, fun vs H1 F1 ps1 R1 s01 hv => ?_⟩
    unfold gEnum at h5
    split at h5
    · rename_i xs e
      dsimp only at e
      subst e
      cases h5
      match vs, hv with
      | [v], hv =>
        obtain ⟨t1, _⟩ := hv
        cases t1 with
        | @lst a us _ g1 g2 =>
          refine ⟨a, us, rfl, (lsk_mono R1.sF g1).sq, q _ H1 F1 ps1 R1 s01 ⟨fun i H hi sH => ?_, fun H sH => ?_, fun i d H x H' hd sH hy => ?_⟩⟩
          · rw [enumD_len] at hi
            exact ⟨us, us[i]'(by rw [da_length g2]; omega), (lsk_mono sH g1).sq, List.getElem?_eq_getElem _⟩
          · exact ⟨us, (lsk_mono sH g1).sq, by rw [enumD_len, da_length g2]; exact Nat.le_refl _⟩
          · obtain ⟨T, x1, e1, e2, e3, e4⟩ := hy
            obtain ⟨dx, k1, rfl⟩ := enumD_at hd
            obtain ⟨v1, k3, k4⟩ := da_get g2 k1
            have z1 := (e4 us ((lsk_mono sH g1).sq)).symm.trans k3
            cases z1
            subst e1
            rw [Nat.zero_add]
            exact .inr ⟨T, _, e2, e3, fun F' sF' nF => pair_tr (.int _) (dp_mono sF' dx k4) nF⟩
      | [], hv => exact hv.elim
      | _ :: _ :: _, hv => exact hv.2.elim
    · cases h5

/-! ### for -/
def forGo (g : MG) (b : MS) : List D → S → Option (Fl × S)
  | [], s => some (.nx, s)
  | d :: ds, s => (g (.val d) s).bind fun s1 => (b s1).bind fun p => match p.1 with
    | .nx => forGo g b ds p.2
    | .ct => forGo g b ds p.2
    | .bk => some (.nx, p.2)
    | .rt o => some (.rt o, p.2)
def sFor (m : MI) (g : MG) (b : MS) : MS := fun s => (m s).bind fun p => forGo g b p.1 p.2
theorem s_for {iter : Expr} {body : List Stmt} {m : MI} {g : MG} {b : MS} (hp : PassesOwn (model X.prog X.w) X.A X.env X.xe) (hi : PI X tg iter (tI np X.K m)) (hg : PG X tg (tG np X.K g)) (hb : PSs X body (tS np X.K b)) (hc : X.calm = true := by rfl)
    (hs : ∀ x, foldedSetIterable iter X.env x = pure x := by intro _; rfl) : PS X (.For tg iter body [] pos) (tS np X.K (sFor m g b)) :=
  ps_imp (ps_for hp hc hi hg hb hs) fun E σ H ⟨F, G, s, ps, R, f, s', hm, q⟩ => by
    obtain ⟨⟨ds, s1⟩, h1, h2⟩ := bind_some hm
    refine ⟨F, G, s, ps, R, ds, s1, h1, fun J H1 F1 ps1 R1 s01 w => ?_⟩
    refine ⟨fun i k σ' H' => ∃ F' s2 ps', Rel np X.K F' G s2 σ' H' ps' ∧ Same F1 F' ∧ i ≤ ds.length ∧ k = ds.length - i ∧ forGo g b (ds.drop i) s2 = some (f, s'), ⟨ds.length, F1, s1, ps1, R1, Same.refl F1, Nat.zero_le _, rfl, h2⟩, fun i k σ2 H2 hW => ?_⟩
    obtain ⟨F2, s2, ps2, R2, s12, hi, rfl, hgo⟩ := hW
    by_cases hlt : i < ds.length
    · refine .inr ⟨w.goes i H2 hlt (s12.trans R2.sF), fun σ' H' => ∃ F' s3 ps', Rel np X.K F' G s3 σ' H' ps' ∧ Same F1 F' ∧ forGo g b (ds.drop (i + 1)) s3 = some (f, s'), fun σ' H' hN => ?_, fun x H3 hy => ?_⟩
      · obtain ⟨F', s3, ps', R3, s13, h3⟩ := hN
        exact ⟨ds.length - (i + 1), by omega, F', s3, ps', R3, s13, hlt, rfl, h3⟩
      · have hd : ds[i]? = some ds[i] := List.getElem?_eq_getElem hlt
        obtain ⟨F3, R3, s23, t⟩ := w.step hd R2 s12 hy
        rw [List.drop_eq_getElem_cons hlt] at hgo
        obtain ⟨s3, h3, h4⟩ := bind_some hgo
        obtain ⟨⟨f1, s4⟩, h5, h6⟩ := bind_some h4
        refine ⟨F3, G, s2, ps2, R3, .val ds[i], s3, [], ⟨t, rfl⟩, List.nodup_nil, (fun a ha => nomatch ha), h3, fun σ4 H4 F4 ps4 R4 s34 => ⟨F4, G, s3, ps4, R4, f1, s4, h5, ?_⟩⟩
        have s14 : Same F1 F4 := s12.trans (s23.trans s34)
        cases f1 with
        | nx => exact fun σ5 H5 F5 ps5 R5 s45 => ⟨F5, s4, ps5, R5, s14.trans s45, h6⟩
        | ct => exact fun σ5 H5 F5 ps5 R5 s45 => ⟨F5, s4, ps5, R5, s14.trans s45, h6⟩
        | bk =>
          cases h6
          exact fun σ5 H5 F5 ps5 R5 s45 => q σ5 H5 F5 ps5 R5 (s01.trans (s14.trans s45))
        | rt o =>
          cases h6
          exact fun v σ5 H5 F5 ps5 as R5 s45 => q v σ5 H5 F5 ps5 as R5 (s01.trans (s14.trans s45))
    · have ei : i = ds.length := by omega
      subst ei
      rw [List.drop_length] at hgo
      cases hgo
      exact .inl ⟨w.stops H2 (s12.trans R2.sF), q σ2 H2 F2 ps2 R2 (s01.trans s12)⟩

/-! ### while: fuel, a function of the slots at the start -/
end
end Dv

/-! Comprehensions. -/
namespace Dv
open PySem PySem.Spec PyProof.Rows L2
variable {np : Nat}
/-! ### the block's own slots -/
def wS (s : S) : List Nat → S
  | [] => s
  | v :: vs => (wS s vs).set v none
/-- nothing stands in the slots vs -/
def Nn (vs : List Nat) (s : S) : Prop := ∀ v ∈ vs, ∀ o, s[v]? ≠ some (some o)
theorem nn_set {s : S} {v : Nat} : ∀ o : O, (s.set v none)[v]? ≠ some (some o) := fun o e => by
  by_cases h : v < s.length
  · rw [List.getElem?_set_self h] at e
    cases e
  · rw [List.getElem?_eq_none (by rw [List.length_set]; omega)] at e
    cases e
theorem wS_nn (s : S) : ∀ vs : List Nat, Nn vs (wS s vs)
  | [], v, hv, _, _ => nomatch hv
  | v :: vs, u, hu, o, e => by
    by_cases c : v = u
    · subst c
      exact nn_set o e
    · have e' : ((wS s vs).set v none)[u]? = some (some o) := e
      rw [List.getElem?_set_ne c] at e'
      rcases List.mem_cons.mp hu with z | z
      · exact c z.symm
      · exact wS_nn s vs u z o e'
theorem wipe_in {σ : L2.St} {i : Nat} : ∀ {vs : List Nat}, i ∈ vs → (wipe σ vs)[i]? = if i < σ.length then some none else none
  | v :: vs, h => by
    unfold wipe
    by_cases c : v = i
    · subst c
      by_cases hl : v < σ.length
      · rw [List.getElem?_set_self (by rw [wipe_length]; exact hl), if_pos hl]
      · rw [List.getElem?_eq_none (by rw [List.length_set, wipe_length]; omega), if_neg hl]
    · rw [List.getElem?_set_ne c]
      rcases List.mem_cons.mp h with z | z
      · exact absurd z.symm c
      · exact wipe_in z
theorem wipe_ext {σ σ' : L2.St} {vs : List Nat} (hl : σ'.length = σ.length) (h : ∀ i, i ∉ vs → σ'[i]? = σ[i]?) : wipe σ' vs = wipe σ vs := by
  apply List.ext_getElem?
  intro i
  by_cases c : i ∈ vs
  · rw [wipe_in c, wipe_in c, hl]
  · rw [wipe_out c, wipe_out c]
    exact h i c
theorem wipe_wipe {σ : L2.St} {vs : List Nat} : wipe (wipe σ vs) vs = wipe σ vs := wipe_ext (wipe_length σ vs) fun i h => wipe_out h
theorem wipe_set {σ : L2.St} {i : Nat} {x : Option V} {vs : List Nat} (h : i ∈ vs) : wipe (σ.set i x) vs = wipe σ vs :=
  wipe_ext List.length_set fun j hj => List.getElem?_set_ne fun e => hj (by rw [← e]; exact h)
theorem wipe_len_eq {σ σ' : L2.St} {vs : List Nat} (h : wipe σ' vs = wipe σ vs) : σ'.length = σ.length := by
  have := congrArg List.length h
  rwa [wipe_length, wipe_length] at this
theorem wipe_at {σ σ' : L2.St} {vs : List Nat} (h : wipe σ' vs = wipe σ vs) {i : Nat} (hi : i ∉ vs) : σ'[i]? = σ[i]? := by
  rw [← wipe_out (σ := σ') hi, h, wipe_out hi]
section
variable {K : PySem.W.Frag} {F F' H H' : Hp} {G : Gd} {s : S} {σ σ' : L2.St} {ps : List (List Addr)} {vs : List Nat}
theorem Rel.wipe (R : Rel np K F G s σ H ps) : ∀ vs : List Nat, ∃ ps', Rel np K F G (wS s vs) σ H ps' ∧ ∀ a ∈ ps'.flatten, a ∈ ps.flatten
  | [] => ⟨ps, R, fun a h => h⟩
  | v :: vs => by
    obtain ⟨ps', R', h⟩ := Rel.wipe R vs
    refine ⟨_, R'.drop v rfl R.pin fun _ _ => rfl, fun a ha => ?_⟩
    rcases mem_set_flat ha with z | z
    · cases z
    · exact h a z
/-- other values in slots where nothing stands -/
theorem Rel.sw (R : Rel np K F G s σ H ps) (hn : Nn vs s) (hv : ∀ v ∈ vs, np ≤ v) (hw : L2.wipe σ' vs = L2.wipe σ vs) : Rel np K F G s σ' H ps := by
  refine R.vals (wipe_len_eq hw) ?_ fun i o e => wipe_at hw fun z => hn i z o e
  refine Eq.trans ?_ R.pin
  apply List.ext_getElem?
  intro i
  rw [List.getElem?_take, List.getElem?_take]
  split
  · rename_i hi
    exact wipe_at hw fun z => by
      have h1 := hv i z
      have h2 := R.few
      omega
  · rfl
/-- the list under construction -/
structure CI (np : Nat) (K : PySem.W.Frag) (G : Gd) (σ : L2.St) (D : Addr) (F : Hp) (accV : List V) (H : Hp) (s : S) (acc : List PyData) (ps : List (List Addr)) : Prop where
  rel : Rel np K F G s σ H ps
  at_ : H D = some (.lst accV)
  tr : TrAll K F accV acc
  f : F D = none
  g : G.h D = none
  p : D ∉ ps.flatten
theorem CI.held {D : Addr} {accV : List V} {acc : List PyData} (c : CI np K G σ D F accV H s acc ps) : Rel np K F (G.add H [D]) s σ H ps :=
  c.rel.hold fun a ha => by
    rw [List.mem_singleton.mp ha]
    exact ⟨c.f, c.g, c.p⟩
theorem CI.back {D : Addr} {accV : List V} {acc : List PyData} {H0 F0 : Hp} {s0 : S} {σ0 : L2.St} {ps0 : List (List Addr)} (c : CI np K G σ0 D F0 accV H0 s0 acc ps0) (R : Rel np K F (G.add H0 [D]) s σ' H ps) (s01 : Same F0 F) (hv : ∀ v ∈ vs, np ≤ v) (hw : L2.wipe σ' vs = L2.wipe σ vs) :
    ∃ ps', CI np K G σ D F accV H (wS s vs) acc ps' := by
  obtain ⟨R1, keep⟩ := Rel.unhold (as := [D]) (H0 := H0) (fun a ha => by
    rw [List.mem_singleton.mp ha]
    exact ⟨c.g, _, c.at_⟩) R
  obtain ⟨k1, k2, k3⟩ := keep D List.mem_cons_self
  obtain ⟨ps', R2, sub⟩ := R1.wipe vs
  exact ⟨ps', R2.sw (wS_nn s vs) hv hw.symm, k3 _ c.at_, dpAll_mono s01 acc c.tr, k1, c.g, fun z => k2 (sub D z)⟩
theorem CI.push {D : Addr} {accV : List V} {acc : List PyData} (c : CI np K G σ D F accV H s acc ps) {v : V} {d : PyData} (t : Tr K F v d) : CI np K G σ D F (accV ++ [v]) (upd H D (.lst (accV ++ [v]))) s (acc ++ [d]) ps where
  rel := c.rel.over (Same.refl F) (fun b u e => by
      rw [upd_ne fun z => by rw [z, c.f] at e; cases e]
      exact c.rel.sF b u e) (fun b u e => by
      rw [upd_ne fun z => by rw [z, c.g] at e; cases e]
      exact c.rel.sG b u e) c.rel.fg fun b hb => ⟨(c.rel.apart b hb).1, fun u e => by
      rw [upd_ne fun z => c.p (by rw [← z]; exact hb)]
      exact e⟩
  at_ := upd_same
  tr := da_append c.tr (.cons t .nil)
  f := c.f
  g := c.g
  p := c.p
end
/-! ### targets of a block -/
def tGw (np : Nat) (K : PySem.W.Frag) (vs : List Nat) (g : MG) : TG := fun v σ H Q => ∃ F G s ps, Rel np K F G s σ H ps ∧ ∃ d s', Tr K F v d ∧ g (.val d) s = some s' ∧ ∀ σ' H' F' ps', Rel np K F' G s' σ' H' ps' → Same F F' → wipe σ' vs = wipe σ vs → Q σ' H'
def tGsw (np : Nat) (K : PySem.W.Frag) (ws : List Nat) (gs : List MG) : TGs := fun vs σ H Q => ∃ F G s ps, Rel np K F G s σ H ps ∧ ∃ ds s', TrAll K F vs ds ∧ gAllT gs ds s = some s' ∧
  ∀ σ' H' F' ps', Rel np K F' G s' σ' H' ps' → Same F F' → wipe σ' ws = wipe σ ws → Q σ' H'
section
variable {X : Cx} {e : Expr} {es : List Expr} {pos : Pos} {ws : List Nat}
theorem gw_name {i : Nat} {x : Str} (hi : X.N[i]? = some x) (hN : X.N.Nodup) (hx : Loc X.env.scope x) (hp : np ≤ i := by decide) (hw : i ∈ ws := by decide) (hf : X.fn x = true ∨ X.env.scope.names.lookup x = some .local := by first | exact .inl rfl | exact .inr rfl | assumption) :
    PG X (.Name x pos) (tGw np X.K ws (gNm i)) :=
  pg_imp (pg_name hN hi hx hf) fun v σ H Q ⟨F, G, s, ps, R, d, s', t, hg, q⟩ => by
    obtain ⟨h1, h2⟩ := if_some hg
    subst h2
    exact q _ H F _ (R.store h1 hp (o := .val d) (as := []) ⟨t, rfl⟩ List.nodup_nil fun a ha => nomatch ha) (Same.refl F) (wipe_set hw)
theorem gw_nil : PGs X [] (tGsw np X.K ws []) := pgs_imp pgs_nil fun vs σ H Q ⟨F, G, s, ps, R, ds, s', t, hm, q⟩ => by
  cases ds with
  | nil =>
    cases t
    cases hm
    exact ⟨rfl, q σ H F ps R (Same.refl F) rfl⟩
  | cons d ds => cases hm
theorem gw_cons {g : MG} {gs : List MG} (h1 : PG X e (tGw np X.K ws g)) (h2 : PGs X es (tGsw np X.K ws gs)) (hs : (assignEach (e :: es) X.env).map (·.2) = assign e X.env :: (assignEach es X.env).map (·.2) := by rfl) : PGs X (e :: es) (tGsw np X.K ws (g :: gs)) :=
  pgs_imp (pgs_cons h1 h2 hs) fun vs σ H Q ⟨F, G, s, ps, R, ds, s', t, hm, q⟩ => by
    cases t with
    | nil => cases hm
    | @cons v vs d ds t1 t2 =>
      obtain ⟨s1, h3, h4⟩ := bind_some hm
      exact ⟨v, vs, rfl, F, G, s, ps, R, d, s1, t1, h3, fun σ1 H1 F1 ps1 R1 s01 w1 => ⟨F1, G, s1, ps1, R1, ds, s', dpAll_mono s01 ds t2, h4, fun σ2 H2 F2 ps2 R2 s12 w2 => q σ2 H2 F2 ps2 R2 (s01.trans s12) (w2.trans w1)⟩⟩
theorem gw_tup {k : Nat} {gs : List MG} (h : PGs X es (tGsw np X.K ws gs)) (hc : X.calm = true := by rfl) (hn : (assignEach es X.env).length = gs.length := by rfl) (hst : (assignEach es X.env).findIdx? (·.1) = none := by rfl) : PG X (.Tuple es k pos) (tGw np X.K ws (gTp gs)) :=
  pg_imp (pg_tup hc h hn hst) fun v σ H Q ⟨F, G, s, ps, R, d, s', t, hg, q⟩ => by
    unfold gTp at hg
    split at hg
    · rename_i ds e
      cases e
      cases t with
      | @tup a vs _ h1 h2 => exact ⟨a, vs, rfl, same_tup R.sF h1, by rw [da_length h2]; exact gAllT_len hg, F, G, s, ps, R, ds, s', h2, hg, q⟩
    · cases hg
end
/-! ### [e for t in i if c] -/
def tYs : MB := fun s => some (true, s)
def compGo (vs : List Nat) (g : MG) (t : MB) (e : MV) : List D → S → Option (List D × S)
  | [], s => some ([], s)
  | d :: ds, s => (g (.val d) s).bind fun s1 => (t s1).bind fun p => if p.1 = true then (e p.2).bind fun q => (compGo vs g t e ds (wS q.2 vs)).map fun r => (q.1 :: r.1, r.2) else compGo vs g t e ds (wS p.2 vs)
def oLc (vs : List Nat) (m : MI) (g : MG) (t : MB) (e : MV) : MO := fun s => (m s).bind fun p => (compGo vs g t e p.1 (wS p.2 vs)).bind fun r => if r.1.length ≤ sizeLine then some (.lst r.1, r.2) else none
section
variable {X : Cx}
theorem pts_imp {ifs : List Expr} {t t' : TT} (h : PTs X ifs t) (i : ∀ σ H Q, t' σ H Q → t σ H Q) : PTs X ifs t' := ⟨fun pins s σ H Q I q => h.run pins s σ H Q I (i σ H Q q)⟩
theorem ts_nil : PTs X [] (tB np X.K tYs) := pts_imp pts_nil fun σ H Q ⟨F, G, s, ps, R, b, s', hm, q⟩ => by
  cases hm
  exact q H F ps R (Same.refl F)
/-- the core: a comprehension by its parts -/
theorem lc_done {vs : List Nat} {m : MI} {g : MG} {t : MB} {e : MV} {K : PySem.W.Frag} {σ : L2.St} {H : Hp} {Q : VK} (hv : ∀ v ∈ vs, np ≤ v) (h : tO np K (oLc vs m g t e) σ H Q) : tLc (tI np K m) (tGw np K vs g) (tB np K t) (tV np K e) vs σ H Q := by
  obtain ⟨F, G, s, ps, R, o, s', hm, q⟩ := h
  obtain ⟨⟨ds, s1⟩, h1, h2⟩ := bind_some hm
  obtain ⟨⟨ys, s2⟩, h3, h4⟩ := bind_some h2
  obtain ⟨hlen, h5⟩ := if_some h4
  cases h5
  refine ⟨F, G, s, ps, R, ds, s1, h1, fun J H1 F1 ps1 R1 s01 w D hD => ?_⟩
  refine ⟨fun i k H' => ∃ F' accV sx acc ps', CI np K G σ D F' accV H' sx acc ps' ∧ Same F1 F' ∧ Nn vs sx ∧ i ≤ ds.length ∧ k = ds.length - i ∧ ∃ rest, compGo vs g t e (ds.drop i) sx = some (rest, s2) ∧ acc ++ rest = ys, ⟨ds.length, ?_⟩, fun i k H2 hW => ?_⟩
  · obtain ⟨R2, n1, n2, n3⟩ := R1.new (o := .lst []) hD
    obtain ⟨ps2, R3, sub⟩ := R2.wipe vs
    exact ⟨F1, [], wS s1 vs, [], ps2, ⟨R3, upd_same, .nil, n1, n2, fun z => n3 (sub D z)⟩, Same.refl F1, wS_nn s1 vs, Nat.zero_le _, rfl, ys, h3, rfl⟩
  · obtain ⟨F2, accV, sx, acc, ps2, c, s12, nn, hi, rfl, rest, hgo, hacc⟩ := hW
    by_cases hlt : i < ds.length
    · have hd : ds[i]? = some ds[i] := List.getElem?_eq_getElem hlt
      refine .inr ⟨w.goes i H2 hlt (s12.trans c.rel.sF), fun H' => ∃ F' accV sx acc ps', CI np K G σ D F' accV H' sx acc ps' ∧ Same F1 F' ∧ Nn vs sx ∧ ∃ rest, compGo vs g t e (ds.drop (i + 1)) sx = some (rest, s2) ∧ acc ++ rest = ys, fun H' hN => ?_, fun x H3 hy => ?_⟩
      · obtain ⟨F', a1, a2, a3, a4, a5, a6, a7, a8⟩ := hN
        exact ⟨ds.length - (i + 1), by omega, F', a1, a2, a3, a4, a5, a6, a7, hlt, rfl, a8⟩
      · obtain ⟨F3, R3, s23, tx⟩ := w.step hd c.held s12 hy
        rw [List.drop_eq_getElem_cons hlt] at hgo
        obtain ⟨s3, e1, e2⟩ := bind_some hgo
        obtain ⟨⟨b, s4⟩, e3, e4⟩ := bind_some e2
        refine ⟨F3, _, sx, ps2, R3.sw nn hv wipe_wipe, ds[i], s3, tx, e1, fun σ4 H4 F4 ps4 R4 s34 hw => ?_⟩
        have hw' : wipe σ4 vs = wipe σ vs := hw.trans wipe_wipe
        refine ⟨hw', F4, _, s3, ps4, R4, b, s4, e3, fun H5 F5 ps5 R5 s45 => ?_⟩
        have s25 : Same F2 F5 := s23.trans (s34.trans s45)
        rcases if_split e4 with ⟨rfl, e5⟩ | ⟨rfl, e5⟩
        · obtain ⟨⟨d, s5⟩, e6, e7⟩ := bind_some e5
          obtain ⟨⟨rs, s6⟩, e8, e9⟩ := map_some e7
          cases e9
          refine iteT ⟨F5, _, s4, ps5, R5, d, s5, e6, fun v H6 F6 ps6 R6 s56 tv => ?_⟩
          obtain ⟨ps7, c7⟩ := c.back R6 (s25.trans s56) hv hw'
          refine ⟨accV, c7.at_, ?_, F6, _, _, _, ps7, c7.push tv, s12.trans (s25.trans s56), wS_nn s5 vs, rs, e8, ?_⟩
          · have hl := congrArg List.length hacc
            rw [List.length_append, List.length_cons] at hl
            rw [da_length c.tr]
            dsimp only at hlen
            omega
          · rw [← hacc, List.append_assoc]
            rfl
        · obtain ⟨ps7, c7⟩ := c.back R5 s25 hv hw'
          exact iteF ⟨F5, accV, _, acc, ps7, c7, s12.trans s25, wS_nn s4 vs, rest, e5, hacc⟩
    · have ei : i = ds.length := by omega
      subst ei
      rw [List.drop_length] at hgo
      cases hgo
      rw [List.append_nil] at hacc
      subst hacc
      refine .inl ⟨w.stops H2 (s12.trans c.rel.sF), q (.ref D) H2 F2 ps2 [D] c.rel (s01.trans s12) ⟨D, accV, rfl, c.at_, c.tr, rfl⟩ (by simp) fun a ha => ?_⟩
      rw [List.mem_singleton.mp ha]
      exact ⟨c.f, c.g, c.p⟩
variable {elt tg iter : Expr} {ifs : List Expr} {scope : Scope} {own : List (Str × Nat)} {pos : Pos} {m : MI} {g : MG} {t : MB} {e : MV}
theorem e_lc (hN : X.N.Nodup) (hi : PI X tg iter (tI np X.K m)) (ok : BlkOk X.N X.env.scope scope own)
    (hg : ∀ (s : Shared) (H : Hp) (C : Addr) (cl : List (Str × Addr)) (fp : List Addr), PG (X.blk s H scope (compEnvC scope cl C X.env) fp) tg (tGw np X.K (own.map (·.2)) g)) (ht : ∀ (s : Shared) (H : Hp) (C : Addr) (cl : List (Str × Addr)) (fp : List Addr), PTs (X.blk s H scope (compEnvC scope cl C X.env) fp) ifs (tB np X.K t))
    (he : ∀ (s : Shared) (H : Hp) (C : Addr) (cl : List (Str × Addr)) (fp : List Addr), PE (X.blk s H scope (compEnvC scope cl C X.env) fp) elt (tV np X.K e)) (hv : ∀ v ∈ own.map (·.2), np ≤ v := by decide) (hc : X.calm = true := by rfl) (hs : ∀ x, foldedSetIterable iter X.env x = pure x := by intro _; rfl) :
    PE X (.ListComp elt [⟨tg, iter, ifs, 0⟩] scope pos) (tO np X.K (oLc (own.map (·.2)) m g t e)) :=
  pe_imp (pe_lc hc hN hi ok hg ht he hs) fun _ _ _ h => lc_done hv h
end
/-! ### two clauses -/
def compGo2 (vs : List Nat) (g : MG) (t : MB) (m1 : MI) (vs1 : List Nat) (g1 : MG) (t1 : MB) (e : MV) : List D → S → Option (List D × S)
  | [], s => some ([], s)
  | d :: ds, s => (g (.val d) s).bind fun s1 => (t s1).bind fun p => if p.1 = true then (m1 p.2).bind fun q => (compGo vs1 g1 t1 e q.1 (wS q.2 vs1)).bind fun r => (compGo2 vs g t m1 vs1 g1 t1 e ds (wS r.2 vs)).map fun u => (r.1 ++ u.1, u.2)
    else compGo2 vs g t m1 vs1 g1 t1 e ds (wS p.2 vs)
def oLc2 (vs : List Nat) (m : MI) (g : MG) (t : MB) (m1 : MI) (vs1 : List Nat) (g1 : MG) (t1 : MB) (e : MV) : MO := fun s => (m s).bind fun p => (compGo2 vs g t m1 vs1 g1 t1 e p.1 (wS p.2 vs)).bind fun r => if r.1.length ≤ sizeLine then some (.lst r.1, r.2) else none
section
variable {X : Cx}
variable {elt tg iter tg1 iter1 : Expr} {ifs ifs1 : List Expr} {scope : Scope} {own : List (Str × Nat)} {vs1 : List Nat} {pos : Pos} {m m1 : MI} {g g1 : MG} {t t1 : MB} {e : MV}
end
end Dv

/-! Comparisons as tests, chains, calls by keywords, constants of the module. -/
namespace Dv
open PySem PySem.Spec PyProof.Rows L2
variable {np : Nat}
/-- a bool as a test -/
def mBo (m : MO) : MB := fun s => (m s).bind fun p => match p.1 with
  | .val (.bool b) => some (b, p.2)
  | _ => none
def oBl : O → Option Bool
  | .val (.bool b) => some b
  | _ => none
section
variable {X : Cx} {e a b c : Expr} {ma mb mc : MR} {pos : Pos}
theorem bo_split {m : MO} {s : S} {r : Bool × S} (h : mBo m s = some r) : m s = some (.val (.bool r.1), r.2) := by
  obtain ⟨⟨o, s1⟩, h1, h2⟩ := bind_some h
  rw [h1]
  cases o with
  | lst xs => cases h2
  | dct kvs => cases h2
  | obj C fs => cases h2
  | hole => cases h2
  | val d =>
    cases d with
    | bool b =>
      cases h2
      rfl
    | none => cases h2
    | int i => cases h2
    | str x => cases h2
    | list xs => cases h2
    | tuple xs => cases h2
    | dict kvs => cases h2
theorem bo_done {K : PySem.W.Frag} {m : MO} {t : TE} {σ : L2.St} {H : Hp} {Q : Bool → Hp → Prop} (ht : ∀ {Q : VK}, tO np K m σ H Q → t σ H Q) (h : tB np K (mBo m) σ H Q) : tTest t σ H Q := by
  obtain ⟨F, G, s, ps, R, k, s', hm, q⟩ := h
  exact ht ⟨F, G, s, ps, R, .val (.bool k), s', bo_split hm, fun v H1 F1 ps1 as R1 s01 own nd new => by
    obtain ⟨t, _⟩ := own
    cases t
    exact ⟨k, rfl, q H1 F1 ps1 R1 s01⟩⟩
theorem t_of_w {t : TT} (h : PW X e t) : PT X e t := ⟨fun pins s σ H Q I q => h.run _ pins s σ H Q I q⟩
theorem t_cmp {op : CmpOp} {g : List D → Option O} (ho : OpR X (compareOp op) (r2 X.K g)) (ha : PE X a (tR np X.K ma)) (hb : PE X b (tR np X.K mb)) (hm : behindInMarks op b = false := by first | exact nomark _ | rfl) : PT X (.Compare a [op] [b] pos) (tB np X.K (mBo (mOp g [ma, mb]))) :=
  pt_imp (pt_cmpR ho ha hb hm) fun _ _ _ => bo_done op2_done
theorem is_done {K : PySem.W.Frag} {g : List D → Option O} {σ : L2.St} {H : Hp} {Q : VK} (h : tO np K (mOp g [ma]) σ H Q) : tOp (fun x y H Q => y = .non ∧ rG K g [x] H Q) (tR np K ma) (tC .non) σ H Q := by
  obtain ⟨F, G, s, ps, R, o, s', hm, q⟩ := h
  obtain ⟨⟨rs, s1⟩, h1, h2⟩ := bind_some hm
  obtain ⟨ds, h3, h4⟩ := bind_some h2
  obtain ⟨o', h5, h6⟩ := map_some h4
  cases h6
  obtain ⟨⟨ra, sa⟩, e1, e2⟩ := bind_some h1
  obtain ⟨⟨rs', sb⟩, e3, e4⟩ := map_some e2
  cases e3
  cases e4
  refine ⟨F, G, s, ps, R, ra, sa, e1, fun v H1 F1 ps1 R1 s01 hv => ⟨rfl, F1, ds, o, R1.sF, looks_lnt R1 (rfAll1 hv) h3, h5, fun z H3 out => ?_⟩⟩
  obtain ⟨F3, as, R3, s23, own, nd, new⟩ := out.rel R1
  exact q z H3 F3 ps1 as R3 (s01.trans s23) own nd new
theorem t_isN {p : Pos} {j : Nat} (ha : PE X a (tR np X.K ma)) : PT X (.Compare a [.Is] [.Constant .none j p] pos) (tB np X.K (mBo (mOp gIsN [ma]))) :=
  pt_imp (pt_cmpR o_isN ha pe_non (nomark _)) fun _ _ _ => bo_done is_done
theorem oBl_some {o : O} {k : Bool} (h : oBl o = some k) : o = .val (.bool k) := by
  cases o with
  | lst xs => cases h
  | dct kvs => cases h
  | obj C fs => cases h
  | hole => cases h
  | val d => cases d <;> cases h <;> rfl
end
/-! ### keywords -/
section
variable {X : Cx} {e : Expr} {kws : List Keyword} {nm : Option Str} {kpos : Pos}
theorem pk_imp {t t' : TA} (h : PK X kws t) (i : ∀ σ H Q, t' σ H Q → t σ H Q) : PK X kws t' := ⟨fun pos pins s σ H Q I q => h.run pos pins s σ H Q I (i σ H Q q)⟩
/-- the keywords, in the parameters' order, bind -/
structure KwB (fd : FuncData) (ps : List Str) : Prop where
  to : ∀ (s : Shared) (ws : List Value), ws.length = ps.length → BindsTo s fd ⟨[], ps.zip ws⟩ (ps.zip ws)
end
/-! ### the module's own constants -/
section
variable {X : Cx}
end
end Dv

/-! Sets whose members are keys (ints, texts) or tuples of keys: what stands in the heap; adding. -/
namespace Dv
open PySem PySem.Spec PyProof.Rows L2
/-- a member: a key, or a tuple of keys -/
inductive SK where
  | k (x : Key)
  | t (xs : List Key)
  deriving DecidableEq
def SK.tup : SK → Bool
  | .k _ => false
  | .t _ => true
def SK.hsh (P : Program) (w : World) : SK → Int
  | .k x => (mixKind P w).hash x
  | .t xs => tupleKeyHash (mixKind P w) xs
/-- v is the member, in the heap h -/
def SK.sd (P : Program) (w : World) (h : Heap) : SK → Value → Prop
  | .k x, v => (mixKind P w).is x v = true
  | .t xs, v => ∃ b, v = .ref b ∧ IsTupleKey (mixKind P w) h xs b
def ent (P : Program) (w : World) (p : Value × SK) : Int × Value := (p.2.hsh P w, p.1)
/-- the table of the members L, in the order of the table -/
structure GTab (P : Program) (w : World) (m : Bool) (L : List (Value × SK)) (es : Array (Int × Value)) (t : SetTable) : Prop where
  rows : es.toList = L.map (ent P w)
  fit : t.fits es.size = true
  ris : Ris t.place.toList
  led : w.params.followText "set-order" = true ∨ t.led = true
  tab : m = true → TabOk t (L.map fun p => p.2.hsh P w) ∧ L.length * 5 < t.mask * 3
structure GSet (P : Program) (w : World) (h : Heap) (a : Addr) (m : Bool) (L : List (Value × SK)) : Prop where
  ex : ∃ o es ep t, h.get? a = some o ∧ o.ExactSet ∧ o.data = .set es ep t ∧ GTab P w m L es t
  nd : (L.map (·.2)).Nodup
  few : L.length < 64
  st : ∀ p ∈ L, p.2.sd P w h p.1
  md : ∀ p ∈ L, p.2.tup = m
section
variable {P : Program} {w : World}
theorem perm_lift {α β : Type} {f : α → β} {l l' : List β} (h : l.Perm l') : ∀ {L0 : List α}, l' = L0.map f → ∃ L1 : List α, l = L1.map f ∧ L1.Perm L0 := by
  induction h with
  | nil =>
    intro L0 e
    cases L0 with
    | nil => exact ⟨[], rfl, .nil⟩
    | cons _ _ => cases e
  | cons x _ ih =>
    intro L0 e
    cases L0 with
    | nil => cases e
    | cons y L0 =>
      rw [List.map_cons] at e
      cases e
      obtain ⟨L1, e1, p1⟩ := ih rfl
      exact ⟨y :: L1, by rw [e1, List.map_cons], p1.cons y⟩
  | swap x y l =>
    intro L0 e
    match L0, e with
    | u :: v :: L0, e =>
      rw [List.map_cons, List.map_cons] at e
      cases e
      exact ⟨v :: u :: L0, rfl, .swap u v L0⟩
    | [_], e => cases e
    | [], e => cases e
  | trans _ _ ih1 ih2 =>
    intro L0 e
    obtain ⟨L2, e2, p2⟩ := ih2 e
    obtain ⟨L1, e1, p1⟩ := ih1 e2
    exact ⟨L1, e1, p1.trans p2⟩
theorem SK.keep {h h' : Heap} {x : SK} {v : Value} (e : x.sd P w h v) (k : ∀ b o, h.get? b = some o → h'.get? b = some o) : x.sd P w h' v := by
  cases x with
  | k x => exact e
  | t xs =>
    obtain ⟨b, e1, o, its, n, e2, r⟩ := e
    exact ⟨b, e1, o, its, n, k b o e2, r⟩
/-- the set itself is no member -/
theorem SK.but {h h' : Heap} {x : SK} {v : Value} {a : Addr} {o : Obj} {es : Array (Int × Value)} {ep : Nat} {t : SetTable} (e : x.sd P w h v) (ho : h.get? a = some o) (hd : o.data = .set es ep t) (k : Heap.SameBut a h h') : x.sd P w h' v := by
  cases x with
  | k x => exact e
  | t xs =>
    obtain ⟨b, e1, u, its, n, e2, c, d, r⟩ := e
    have ne : b ≠ a := fun z => by
      rw [z, ho] at e2
      cases e2
      rw [hd] at d
      cases d
    exact ⟨b, e1, u, its, n, (k.2 b ne).trans e2, c, d, r⟩
section
variable {m : Bool} {L : List (Value × SK)} {es : Array (Int × Value)} {t : SetTable}
theorem GTab.size (T : GTab P w m L es t) : es.size = L.length := by
  have e := congrArg List.length T.rows
  rwa [Array.length_toList, List.length_map] at e
theorem GTab.at (T : GTab P w m L es t) {i : Nat} {p : Value × SK} (e : L[i]? = some p) : es[i]? = some (ent P w p) := by
  rw [← Array.getElem?_toList, T.rows, List.getElem?_map, e]
  rfl
end
theorem GSet.keep {h h' : Heap} {a : Addr} {m : Bool} {L : List (Value × SK)} (R : GSet P w h a m L) (ka : ∀ o, h.get? a = some o → h'.get? a = some o) (st : ∀ p ∈ L, p.2.sd P w h' p.1) : GSet P w h' a m L := by
  obtain ⟨o, es, ep, t, e, r⟩ := R.ex
  exact ⟨⟨o, es, ep, t, ka o e, r⟩, R.nd, R.few, st, R.md⟩
/-- a set just made -/
abbrev setObj (w : World) : Obj := { cls := .type "set", dict := none, data := .set #[] 0 (.fresh 0 0 (!w.params.followText "set-order")) }
theorem gset_new {h : Heap} {a : Addr} (m : Bool) (e : h.get? a = some (setObj w)) : GSet P w h a m [] where
  ex := by
    refine ⟨_, _, _, _, e, ⟨rfl, rfl, rfl⟩, rfl, rfl, rfl, List.Pairwise.nil, ?_, fun _ => ⟨⟨List.Pairwise.nil, rfl, rfl, .inl rfl, (fun x hx => by cases hx), fun i h j hi => by simp at hi⟩, show 0 * 5 < 7 * 3 by decide⟩⟩
    show _ ∨ (!w.params.followText "set-order") = true
    cases w.params.followText "set-order"
    · exact .inr rfl
    · exact .inl rfl
  nd := List.nodup_nil
  few := by decide
  st := fun p hp => nomatch hp
  md := fun p hp => nomatch hp
end
section
variable {P : Program} {w : World} {A : Around} {E : Value → Shared → Prop} {s : Shared} {a : Addr}
/-! ### by scan -/
theorem key_sc {x : Key} {v : Value} (h : (mixKind P w).is x v = true) : v.scannable = true := by
  rcases keyIs_shape h with ⟨i, t, _, rfl⟩ | ⟨y, t, _, rfl⟩ <;> rfl
theorem elems_of {L : List (Value × SK)} (st : ∀ p ∈ L, p.2.sd P w s.heap p.1) (md : ∀ p ∈ L, p.2.tup = false) : ElemsOf (mixKind P w) (L.map (ent P w)) := fun e he => by
  obtain ⟨p, hp, rfl⟩ := List.mem_map.mp he
  obtain ⟨v, x⟩ := p
  cases x with
  | k x => exact ⟨⟨x, st _ hp, rfl⟩, key_sc (st _ hp)⟩
  | t xs => cases md _ hp
theorem few_scan {n : Nat} (h : n < 64) : n < scanBound := by unfold scanBound; omega
/-- the table stored, perhaps laid anew -/
theorem scan_tail {g : Bool → Sem Unit} (hg : ∀ (b : Bool) (s1 : Shared) (Q' : Unit → Shared → Prop), Q' () s1 → wpAny (model P w) A (g b) Q' E s1) {o : Obj} {es0 es : Array (Int × Value)} {ep : Nat} {t0 t : SetTable} (ho : s.heap.get? a = some o) (hex : o.ExactSet) (hd : o.data = .set es0 ep t0)
    {L : List (Value × SK)} (nd : (L.map (·.2)).Nodup) (few : L.length < 64) (st : ∀ p ∈ L, p.2.sd P w s.heap p.1) (md : ∀ p ∈ L, p.2.tup = false) (rows : es.toList = L.map (ent P w)) (fit : t.fits es.size = true) (ris : Ris t.place.toList) (led : w.params.followText "set-order" = true ∨ t.led = true) {dm : Bool} {R : Option Bool → Shared → Prop}
    (hR : ∀ h' L', Heap.SameBut a s.heap h' → GSet P w h' a false L' → L'.Perm L → R (some true) { s with heap := h' }) :
    wpAny (model P w) A (do
        storeSet a es t
        if (!dm && t.tooFull) = true then do
            g (relayAll t es (SetTable.grown es.size)).2.2
            storeSet a (relayAll t es (SetTable.grown es.size)).1 (relayAll t es (SetTable.grown es.size)).2.1
            pure (some true)
          else pure (some true)) R E s := by
  have hsz : es.size = L.length := by
    have e := congrArg List.length rows
    rwa [Array.length_toList, List.length_map] at e
  refine wpAny_bind (wpAny_storeSet_of ho hd ?_ (fits_of_scanBound (few_scan (by omega))))
  have o1 := store_at (es' := es) (t' := t) ho hd
  have sb := Heap.SameBut.update s.heap a (Obj.putSet es t)
  split
  · have pm := relayAll_perm t es (SetTable.grown es.size)
    have f2 := relayAll_fits t es (SetTable.grown es.size)
    have r2 := relayAll_ris t es (SetTable.grown es.size)
    have l2 := relayAll_led t es (SetTable.grown es.size)
    generalize relayAll t es (SetTable.grown es.size) = Z at pm f2 r2 l2 ⊢
    obtain ⟨es2, t2, gave⟩ := Z
    dsimp only at pm f2 r2 l2 ⊢
    obtain ⟨L2, e2, p2⟩ := perm_lift pm rows
    have hs2 : es2.size = L.length := by
      have e := congrArg List.length e2
      rw [Array.length_toList, List.length_map, p2.length_eq] at e
      exact e
    refine wpAny_bind (hg _ _ _ (wpAny_bind (wpAny_storeSet_of o1 rfl ?_ (fits_of_scanBound (few_scan (by omega))))))
    have o2 := store_at (es' := es2) (t' := t2) o1 rfl
    have sb2 := sb.trans (Heap.SameBut.update _ a (Obj.putSet es2 t2))
    refine wpAny_pure (hR _ L2 sb2 ⟨⟨_, _, _, _, o2, hex, rfl, e2, f2, r2, led.imp id fun z => l2.trans z, fun z => nomatch z⟩, (p2.map (·.2)).nodup_iff.mpr nd, by rw [p2.length_eq]; exact few, fun p hp => SK.but (st p (p2.mem_iff.mp hp)) ho hd sb2, fun p hp => md p (p2.mem_iff.mp hp)⟩ p2)
  · exact wpAny_pure (hR _ L sb ⟨⟨_, _, _, _, o1, hex, rfl, rows, fit, ris, led, fun z => nomatch z⟩, nd, few, fun p hp => SK.but (st p hp) ho hd sb, md⟩ (.refl _))
theorem scan_add {L : List (Value × SK)} {v : Value} {x : Key} {Q : Bool → Shared → Prop} (R : GSet P w s.heap a false L) (hv : (mixKind P w).is x v = true) (room : L.length + 1 < 64)
    (hQ : ∀ b h' L', Heap.SameBut a s.heap h' → GSet P w h' a false L' → (SK.k x ∈ L.map (·.2) → L' = L) → (SK.k x ∉ L.map (·.2) → L'.Perm ((v, SK.k x) :: L)) → Q b { s with heap := h' }) :
    wpAny (model P w) A (setAddHashed a v ((mixKind P w).hash x)) Q E s := by
  obtain ⟨o, es, ep, t, ho, hex, hd, T⟩ := R.ex
  have hsz := T.size
  have hel : ElemsOf (mixKind P w) es.toList := by
    rw [T.rows]
    exact elems_of R.st R.md
  have hsc := key_sc hv
  have hmem : ∀ e ∈ es.toList, (mixKind P w).is x e.2 = true → SK.k x ∈ L.map (·.2) := fun e he q => by
    rw [T.rows] at he
    obtain ⟨p, hp, rfl⟩ := List.mem_map.mp he
    have s1 := R.st p hp
    have m1 := R.md p hp
    refine List.mem_map.mpr ⟨p, hp, ?_⟩
    cases e2 : p.2 with
    | k y =>
      rw [e2] at s1
      rw [(mixKind P w).inj p.1 y x s1 q]
    | t ys =>
      rw [e2] at m1
      cases m1
  unfold setAddHashed setAddHashedIn
  refine wpAny_holding (wpAny_bind (wpAny_setState_of ho hd T.fit ?_))
  dsimp only
  rw [byScan_of hsc (few_scan (by have := R.few; omega)) hel]
  simp only [↓reduceIte]
  unfold setAddByScan
  refine wpAny_bind (wpAny_bind (wpAny_rule (wpAny_bind (wpAny_setScan_of hv ho hd T.fit hel ?_))))
  cases hfi : List.findIdx? (fun e => (mixKind P w).is x e.2) es.toList with
  | some j =>
    dsimp only
    obtain ⟨hj, pj, _⟩ := List.findIdx?_eq_some_iff_getElem.mp hfi
    have hm := hmem _ (List.getElem_mem hj) pj
    exact wpAny_pure (wpAny_pure (hQ false s.heap L (Heap.SameBut.refl a s.heap) R (fun _ => rfl) fun z => absurd hm z))
  | none =>
    dsimp only
    have hm : SK.k x ∉ L.map (·.2) := fun z => by
      obtain ⟨p, hp, e⟩ := List.mem_map.mp z
      have c := List.findIdx?_eq_none_iff.mp hfi (ent P w p) (by rw [T.rows]; exact List.mem_map.mpr ⟨p, hp, rfl⟩)
      have s1 := R.st p hp
      rw [e] at s1
      have s2 : (mixKind P w).is x (ent P w p).2 = true := s1
      rw [s2] at c
      cases c
    have hgw : ∀ (b : Bool) {s1 : Shared} {Q' : Unit → Shared → Prop}, Q' () s1 → wpAny (model P w) A (match b with | true => rule "set.scan.the-table-gave-way" | false => pure ()) Q' E s1 :=
      fun b s1 Q' q => by cases b <;> first | exact wpAny_pure q | exact wpAny_rule q
    have pm := layNew_perm t es ((mixKind P w).hash x) v
    have f1 := layNew_fits t es ((mixKind P w).hash x) v
    have r1 := layNew_ris t es ((mixKind P w).hash x) v T.ris
    have l1 := layNew_led t es ((mixKind P w).hash x) v
    generalize layNew t es ((mixKind P w).hash x) v = Z at pm f1 r1 l1 ⊢
    obtain ⟨es1, t1, dm, gave⟩ := Z
    dsimp only at pm f1 r1 l1 ⊢
    rw [Array.toList_push] at pm
    obtain ⟨L1, e1, p1⟩ := perm_lift (L0 := (v, SK.k x) :: L) (f := ent P w) (pm.trans (List.perm_append_singleton _ _)) (by rw [List.map_cons, T.rows]; rfl)
    have nd1 : (L1.map (·.2)).Nodup := (p1.map (·.2)).nodup_iff.mpr (List.nodup_cons.mpr ⟨hm, R.nd⟩)
    have few1 : L1.length < 64 := by rw [p1.length_eq]; exact room
    have st1 : ∀ p ∈ L1, p.2.sd P w s.heap p.1 := fun p hp => by
      rcases List.mem_cons.mp (p1.mem_iff.mp hp) with z | z
      · rw [z]; exact hv
      · exact R.st p z
    have md1 : ∀ p ∈ L1, p.2.tup = false := fun p hp => by
      rcases List.mem_cons.mp (p1.mem_iff.mp hp) with z | z
      · rw [z]; rfl
      · exact R.md p z
    have ld1 : w.params.followText "set-order" = true ∨ t1.led = true := T.led.imp id fun z => l1.trans z
    have fin : ∀ h' L', Heap.SameBut a s.heap h' → GSet P w h' a false L' → L'.Perm L1 → Q true { s with heap := h' } := fun h' L' sb R' p' => hQ true h' L' sb R' (fun z => absurd z hm) fun _ => p'.trans p1
    refine wpAny_bind (hgw _ ?_)
    split
    · refine wpAny_bind ?_
      rw [hashByValue_scannable 8 hsc]
      refine wpAny_pure ?_
      refine scan_tail ?_ ho hex hd nd1 few1 st1 md1 e1 ?_ ?_ ?_ ?_
      · intro b s1 Q' q; cases b <;> first | exact wpAny_pure q | exact wpAny_rule q
      · first | (split <;> first | exact f1 | exact SetTable.fits_plain_off f1) | exact f1
      · first | (split <;> exact r1) | exact r1
      · first | (split <;> exact ld1) | exact ld1
      · intro h' L' sb r p'; dsimp only; exact wpAny_pure (fin h' L' sb r p')
    · refine wpAny_bind (wpAny_pure ?_)
      simp only [↓reduceIte]
      refine scan_tail ?_ ho hex hd nd1 few1 st1 md1 e1 f1 r1 ld1 ?_
      · intro b s1 Q' q; cases b <;> first | exact wpAny_pure q | exact wpAny_rule q
      · intro h' L' sb r p'; dsimp only; exact wpAny_pure (fin h' L' sb r p')
end
end Dv

/-! A tuple of keys sought in a set of such tuples, and put in. -/
namespace Dv
open PySem PySem.Spec PyProof.Rows L2
section
variable {P : Program} {w : World} {A : Around} {E : Value → Shared → Prop} {s : Shared} {a : Addr}
theorem key_items {h : Heap} {xs : List Key} {vs : List Value} (e : ItemsAre (mixKind P w) xs vs) : ∀ v ∈ vs, (∃ i t, v = Value.int i t) ∨ ∃ x t, v = Value.str x t := by
  induction e with
  | nil => exact fun v hv => nomatch hv
  | cons h1 _ ih =>
    intro v hv
    rcases List.mem_cons.mp hv with z | z
    · subst z
      rcases keyIs_shape h1 with ⟨i, t, _, e⟩ | ⟨x, t, _, e⟩
      · exact .inl ⟨i, t, e⟩
      · exact .inr ⟨x, t, e⟩
    · exact ih v z
theorem stmt_key {v : Value} (h : (∃ i t, v = Value.int i t) ∨ ∃ x t, v = Value.str x t) (n : Nat) : ofAClassStatement n v = pure false := by
  rcases h with ⟨i, t, rfl⟩ | ⟨x, t, rfl⟩ <;> cases n <;> rfl
theorem hbv_key {v : Value} (h : (∃ i t, v = Value.int i t) ∨ ∃ x t, v = Value.str x t) (n : Nat) : ∃ b, hashByValue n v = pure b := by
  rcases h with ⟨i, t, rfl⟩ | ⟨x, t, rfl⟩
  · exact ⟨true, by cases n <;> rfl⟩
  · exact ⟨false, by cases n <;> rfl⟩
/-- no tuple of keys is of a class statement -/
theorem stmt_tup {xs : List Key} {b : Addr} {Q : Bool → Shared → Prop} (hk : IsTupleKey (mixKind P w) s.heap xs b) (h : Q false s) : wpAny (model P w) A (ofAClassStatement 8 (.ref b)) Q E s := by
  have hT := hk.typeIs
  obtain ⟨o, its, n, ho, _, hd, hi⟩ := hk
  have hv := key_items (h := s.heap) hi
  unfold ofAClassStatement
  refine wpAny_bind (wpAny_typeOf hT ?_)
  dsimp only
  simp only [show (("tuple" : String) == "tuple") = true by decide, if_true, Bool.not_true, Bool.false_eq_true, if_false]
  try refine wpAny_bind (wpAny_pure ?_)
  try simp only [Bool.not_true, Bool.false_eq_true, if_false]
  show wpAny _ _ (seqItems? (.ref b) >>= _) _ _ s
  refine wpAny_bind (wpAny_seqItems ho hd ?_)
  dsimp only
  refine wpAny_bind ?_
  show wpAny _ _ (forIn its _ _) _ _ s
  rw [← Array.forIn_toList]
  refine wpAny_forIn_list _ (fun rest r s' => (r.1 = none ∧ s' = s) ∧ ∀ v ∈ rest, (∃ i t, v = Value.int i t) ∨ ∃ x t, v = Value.str x t) _ ?_ ?_ _ _ ⟨⟨rfl, rfl⟩, hv⟩
  · rintro v rest r s' ⟨⟨hr, rfl⟩, hall⟩
    rw [stmt_key (hall v List.mem_cons_self)]
    refine wpAny_bind (wpAny_pure ?_)
    simp only [Bool.false_eq_true, if_false]
    exact wpAny_pure ⟨⟨rfl, rfl⟩, fun u hu => hall u (List.mem_cons_of_mem _ hu)⟩
  · rintro ⟨r1, r2⟩ s' ⟨⟨hr, rfl⟩, _⟩
    simp only at hr
    subst hr
    exact wpAny_pure h
theorem hbv_tup {xs : List Key} {b : Addr} {Q : Bool → Shared → Prop} (hk : IsTupleKey (mixKind P w) s.heap xs b) (h : ∀ c, Q c s) : wpAny (model P w) A (hashByValue 8 (.ref b)) Q E s := by
  have hT := hk.typeIs
  obtain ⟨o, its, n, ho, _, hd, hi⟩ := hk
  have hv := key_items (h := s.heap) hi
  unfold hashByValue
  refine wpAny_bind (wpAny_specialOf hT F.slot_tuple_hash.lookup ?_)
  show wpAny _ _ (seqItems? (.ref b) >>= _) _ _ s
  refine wpAny_bind (wpAny_seqItems ho hd ?_)
  refine wpAny_bind ?_
  show wpAny _ _ (forIn its _ _) _ _ s
  rw [← Array.forIn_toList]
  refine wpAny_forIn_list _ (fun rest r s' => s' = s ∧ ∀ v ∈ rest, (∃ i t, v = Value.int i t) ∨ ∃ x t, v = Value.str x t) _ ?_ ?_ _ _ ⟨rfl, hv⟩
  · rintro v rest r s' ⟨rfl, hall⟩
    obtain ⟨c, e⟩ := hbv_key (hall v List.mem_cons_self) 7
    rw [e]
    refine wpAny_bind (wpAny_pure ?_)
    cases c with
    | true =>
      simp only [Bool.not_true, Bool.false_eq_true, if_false]
      exact wpAny_pure ⟨rfl, fun u hu => hall u (List.mem_cons_of_mem _ hu)⟩
    | false =>
      simp only [Bool.not_false, if_true]
      exact wpAny_pure (wpAny_pure (h _))
  · rintro ⟨r1, r2⟩ s' ⟨rfl, _⟩
    cases r1 with
    | none => exact wpAny_pure (h _)
    | some c => exact wpAny_pure (h _)
/-- a search among tuples of keys can't be seen -/
theorem unseen_tup {xs : List Key} {b : Addr} {Q : Bool → Shared → Prop} (hk : IsTupleKey (mixKind P w) s.heap xs b) {ys : List Value} (hy : ∀ y ∈ ys, ∃ zs c, y = Value.ref c ∧ IsTupleKey (mixKind P w) s.heap zs c) (h : Q false s) :
    wpAny (model P w) A (searchCouldBeSeen (.ref b) ys) Q E s := by
  unfold searchCouldBeSeen
  refine wpAny_bind ?_
  refine wpAny_forIn_list _ (fun rest r s' => (r.1 = none ∧ s' = s) ∧ ∀ y ∈ rest, ∃ zs c, y = Value.ref c ∧ IsTupleKey (mixKind P w) s.heap zs c) _ ?_ ?_ _ _ ⟨⟨rfl, rfl⟩, hy⟩
  · rintro v rest r s' ⟨⟨hr, rfl⟩, hall⟩
    obtain ⟨zs, c, rfl, hc⟩ := hall v List.mem_cons_self
    have more : ∀ y ∈ rest, ∃ zs c, y = Value.ref c ∧ IsTupleKey (mixKind P w) s'.heap zs c := fun u hu => hall u (List.mem_cons_of_mem _ hu)
    dsimp only
    by_cases hv : (b == c || (carriedByValue (.ref b) && carriedByValue (.ref c))) = true
    · exact wp_if_pos hv (wpAny_pure ⟨⟨rfl, rfl⟩, more⟩)
    · refine wp_if_neg hv (wpAny_bind (wpAny_eqIsQuiet_tuple hk ?_))
      simp only [Bool.not_true, Bool.false_eq_true, if_false]
      refine wpAny_bind (wpAny_eqIsQuiet_tuple hc ?_)
      simp only [Bool.not_true, Bool.false_eq_true, if_false]
      refine wpAny_bind (stmt_tup hk ?_)
      simp only [Bool.false_eq_true, if_false]
      refine wpAny_bind (stmt_tup hc ?_)
      simp only [Bool.false_eq_true, if_false]
      exact wpAny_pure ⟨⟨rfl, rfl⟩, more⟩
  · rintro ⟨r1, r2⟩ s' ⟨⟨hr, rfl⟩, _⟩
    simp only at hr
    subst hr
    exact wpAny_pure h
/-! ### the search -/
/-- the c-th place of the way of the hash h -/
abbrev stp (m : Nat) (h : Int) (c : Nat) : SetTable.Probe := nth m (runAt m (SetTable.bits h % (m + 1)) (SetTable.bits h)) c
theorem stp_dm (m : Nat) (h : Int) (c : Nat) : (stp m h c).dummy = none := by
  have go : ∀ (n : Nat) (p : SetTable.Probe), p.dummy = none → (nth m p n).dummy = none := fun n => by
    induction n with
    | zero => exact fun p e => e
    | succ n ih =>
      intro p e
      refine ih (adv m p) ?_
      unfold adv
      split <;> exact e
  exact go c _ rfl
theorem stp_add (m : Nat) (h : Int) (c q : Nat) : nth m (stp m h c) q = stp m h (c + q) := (nth_add m c _ q).symm
theorem odd_gw {t : SetTable} (h : MaskOk t.mask) : ¬ t.gaveWay = true := by
  unfold SetTable.gaveWay
  rw [mask_odd h]
  decide
variable {L : List (Value × SK)} {es : Array (Int × Value)} {ep : Nat} {t : SetTable} {o : Obj} {b : Addr} {xs : List Key}
theorem seek (ho : s.heap.get? a = some o) (hd : o.data = .set es ep t) (T : GTab P w true L es t) (st : ∀ p ∈ L, p.2.sd P w s.heap p.1) (md : ∀ p ∈ L, p.2.tup = true) (hx : IsTupleKey (mixKind P w) s.heap xs b) (hu : A.units < cLine) {h : Int} (hh : h = tupleKeyHash (mixKind P w) xs) {K : Nat}
    (hKf : K < 10 * SetTable.turns t.mask) (hK : (stp t.mask h K).j ∉ t.place.toList) (hKb : ∀ c, c < K → (stp t.mask h c).j ∈ t.place.toList) {Q : SetFound → Shared → Prop} (hin : SK.t xs ∈ L.map (·.2) → Q (.there none) s) (hout : SK.t xs ∉ L.map (·.2) → Q (.free (stp t.mask h K).j false) s) :
    ∀ (f c : Nat) (stand : Option SetTable.Probe), stand.getD (t.probeStart h) = stp t.mask h c → c ≤ K → K - c < f → (∀ (i : Nat) p, L[i]? = some p → p.2 = SK.t xs → ∃ d, c ≤ d ∧ d < K ∧ t.place.toList[i]? = some (stp t.mask h d).j) →
      wpAny (model P w) A (setSearchFrom a (.ref b) h true f stand) Q E s
  | 0, c, stand, _, _, hf, _ => absurd hf (Nat.not_lt_zero _)
  | f + 1, c, stand, hst, hc, hf, hre => by
    obtain ⟨tab, _⟩ := T.tab rfl
    rw [setSearchFrom_succ]
    refine wpAny_bind (wpAny_setState_of ho hd T.fit ?_)
    dsimp only
    refine wp_if_neg (odd_gw tab.mok) ?_
    try refine wpAny_bind (wpAny_pure ?_)
    have pl : ∀ q, (nth t.mask (stp t.mask h c) q).j = (stp t.mask h (c + q)).j := fun q => by rw [stp_add]
    have spec := go_spec t tab.ris tab.dm (fun i => (es[i]?.map (·.1)).getD 0) h (10 * SetTable.turns t.mask) (K - c) _ (stp_dm t.mask h c) (by omega) (fun q hq => by
      rw [pl]
      exact hKb (c + q) (by omega)) (by
      rw [pl, show c + (K - c) = K by omega]
      exact hK)
    have hat : ∀ (i : Nat) p, L[i]? = some p → p.2 = SK.t xs → (es[i]?.map (·.1)).getD 0 = h := fun i p hp e => by
      rw [T.at hp]
      show p.2.hsh P w = h
      rw [e, hh]
      rfl
    rcases spec with ⟨q, i, hq, hi, hhi, hno, hpr⟩ | ⟨hno, hpr⟩
    · rw [hst, show t.probe (fun i => (es[i]?.map (·.1)).getD 0) h (stp t.mask h c) = _ from hpr, stp_add, stp_add]
      rw [pl] at hi
      dsimp only
      have hil : i < L.length := by
        have h1 : i < t.place.toList.length := (List.getElem?_eq_some_iff.mp hi).1
        have h2 := tab.sz
        rw [List.length_map] at h2
        rw [Array.length_toList] at h1
        omega
      obtain ⟨p, hp⟩ : ∃ p, L[i]? = some p := ⟨_, List.getElem?_eq_getElem hil⟩
      have hpm := List.mem_of_getElem? hp
      obtain ⟨y, hy⟩ : ∃ y, p = y := ⟨p, rfl⟩
      obtain ⟨zs, c2, e1, e2, e3⟩ : ∃ zs c2, p.1 = Value.ref c2 ∧ p.2 = SK.t zs ∧ IsTupleKey (mixKind P w) s.heap zs c2 := by
        have s1 := st p hpm
        have m1 := md p hpm
        cases e : p.2 with
        | k x =>
          rw [e] at m1
          cases m1
        | t zs =>
          rw [e] at s1
          obtain ⟨c2, g1, g2⟩ := s1
          exact ⟨zs, c2, g1, rfl, g2⟩
      have rest : wpAny (model P w) A (searchRest a (.ref b) h true f es t (stp t.mask h (c + q)).j i (stp t.mask h (c + (q + 1)))) Q E s := by
        unfold searchRest
        rw [T.at hp]
        show wpAny _ _ (holding [p.1] (eqBool p.1 (.ref b)) >>= _) _ _ s
        rw [e1]
        refine wpAny_bind (wpAny_holding (wpAny_eqBool_tuple hu e3 hx (wpAny_bind (wpAny_setState_of ho hd T.fit ?_))))
        dsimp only
        by_cases hk : zs = xs
        · refine wp_if_pos (by simp [hk]) (wpAny_pure (hin (List.mem_map.mpr ⟨p, hpm, by rw [e2, hk]⟩)))
        · refine wp_if_neg (by simp [hk]) ?_
          try refine wpAny_bind (wpAny_pure ?_)
          rw [sameMem]
          dsimp only
          have hsl : t.slot (stp t.mask h (c + q)).j = .live i := slot_live tab.ris hi
          have hen : es[i]? = some (p.2.hsh P w, Value.ref c2) := by
            rw [T.at hp, ← e1]
            rfl
          simp only [if_true, hsl, hen]
          refine wpAny_bind (wpAny_isSame_ref_self (wpAny_bind (wpAny_pure ?_)))
          simp only [if_true]
          refine wp_if_neg (by simp [hk]) ?_
          refine seek ho hd T st md hx hu hh hKf hK hKb hin hout f (c + (q + 1)) _ rfl (by omega) (by omega) fun i0 p0 h0 k0 => ?_
          obtain ⟨d, a1, a2, a3⟩ := hre i0 p0 h0 k0
          refine ⟨d, ?_, a2, a3⟩
          rcases Nat.lt_trichotomy d (c + q) with z | z | z
          · exact (hno (d - c) i0 (by omega) (by rw [pl, show c + (d - c) = d by omega]; exact a3) (hat i0 p0 h0 k0)).elim
          · rw [z] at a3
            have s0 := slot_live tab.ris a3
            rw [hsl] at s0
            injection s0 with s0
            rw [← s0, hp] at h0
            cases h0
            rw [e2] at k0
            injection k0 with k0
            exact absurd k0 hk
          · omega
      by_cases hl : t.led = true
      · refine wp_if_neg (by simp [hl]) ?_
        try refine wpAny_bind (wpAny_pure ?_)
        exact rest
      · refine wp_if_pos (by simp [hl]) (wpAny_bind (unseen_tup hx (fun y hy => ?_) ?_))
        · obtain ⟨e, he, ee⟩ := List.mem_map.mp hy
          have he1 : e ∈ es ∧ e.1 = h := by simpa using he
          have he2 : e ∈ es.toList := by simpa using he1.1
          rw [T.rows] at he2
          obtain ⟨p2, hp2, rfl⟩ := List.mem_map.mp he2
          have s1 := st p2 hp2
          have m1 := md p2 hp2
          cases e : p2.2 with
          | k x =>
            rw [e] at m1
            cases m1
          | t zs =>
            rw [e] at s1
            obtain ⟨c2, g1, g2⟩ := s1
            exact ⟨zs, c2, by rw [← ee]; exact g1, g2⟩
        · refine wp_if_neg (by decide) ?_
          try refine wpAny_bind (wpAny_pure ?_)
          exact rest
    · rw [hst, show t.probe (fun i => (es[i]?.map (·.1)).getD 0) h (stp t.mask h c) = _ from hpr, pl, show c + (K - c) = K by omega]
      dsimp only
      refine wpAny_pure (hout fun hm => ?_)
      obtain ⟨p0, h0, k0⟩ := List.mem_map.mp hm
      obtain ⟨i0, hi0⟩ := List.getElem?_of_mem h0
      obtain ⟨d, a1, a2, a3⟩ := hre i0 p0 hi0 k0
      exact hno (d - c) i0 (by omega) (by rw [pl, show c + (d - c) = d by omega]; exact a3) (hat i0 p0 hi0 k0)
/-- the search that adding does -/
theorem seek_add (ho : s.heap.get? a = some o) (hd : o.data = .set es ep t) (T : GTab P w true L es t) (st : ∀ p ∈ L, p.2.sd P w s.heap p.1) (md : ∀ p ∈ L, p.2.tup = true) (hx : IsTupleKey (mixKind P w) s.heap xs b) (hu : A.units < cLine) {h : Int} (hh : h = tupleKeyHash (mixKind P w) xs)
    {Q : SetFound → Shared → Prop} (hin : SK.t xs ∈ L.map (·.2) → Q (.there none) s) (hout : ∀ K, SK.t xs ∉ L.map (·.2) → (stp t.mask h K).j ∉ t.place.toList → (∀ c, c < K → (stp t.mask h c).j ∈ t.place.toList) → Q (.free (stp t.mask h K).j false) s) :
    wpAny (model P w) A (setSearch a (.ref b) h true) Q E s := by
  obtain ⟨tab, room⟩ := T.tab rfl
  obtain ⟨K, hKf, hK, hKb⟩ := tab.first (by rw [List.length_map]; omega) h
  have big : K < 100000 := by
    have : 10 * SetTable.turns t.mask ≤ 1420 := by
      unfold SetTable.turns
      rcases tab.mok with e | e | e <;> omega
    omega
  unfold setSearch
  refine seek ho hd T st md hx hu hh hKf hK hKb hin (fun hn => hout K hn hK hKb) 100000 0 none rfl (Nat.zero_le _) (by omega) fun i p hp hk => ?_
  have hi : (L.map fun p => p.2.hsh P w)[i]? = some h := by
    rw [List.getElem?_map, hp]
    show some (p.2.hsh P w) = some h
    rw [hk, hh]
    rfl
  have hil : i < t.place.toList.length := by
    have h1 : i < L.length := (List.getElem?_eq_some_iff.mp hp).1
    have h2 := tab.sz
    rw [List.length_map] at h2
    rw [Array.length_toList]
    omega
  have hj := List.getElem?_eq_getElem hil
  obtain ⟨c, hc, e⟩ := tab.before hK hi hj
  exact ⟨c, Nat.zero_le _, hc, by rw [hj, ← e]⟩
end
end Dv

/-! Sets of keys or of tuples of keys: made of a list or a tuple; walked. -/
namespace Dv
open PySem PySem.Spec PyProof.Rows L2
section
variable {P : Program} {w : World} {A : Around} {E : Value → Shared → Prop} {s : Shared} {a : Addr}
theorem ex_of {n : Nat} (h : n < 64) : n ≤ sizeLine := by rw [sizeLine_eq]; omega
/-- the table laid anew, larger -/
theorem relay_tup {o : Obj} {es : Array (Int × Value)} {ep : Nat} {t : SetTable} {L : List (Value × SK)} (ho : s.heap.get? a = some o) (hex : o.ExactSet) (hd : o.data = .set es ep t) (rows : es.toList = L.map (ent P w)) (fit : t.fits es.size = true) (nd : (L.map (·.2)).Nodup) (st : ∀ p ∈ L, p.2.sd P w s.heap p.1) (md : ∀ p ∈ L, p.2.tup = true)
    (led : w.params.followText "set-order" = true ∨ t.led = true) (few : L.length < 64) {wanted M : Nat} (hw : SetTable.sizeAbove wanted - 1 = M) (hM : MaskOk M) (hw2 : SetTable.sizeAbove wanted ≤ 128) (hn : L.length * 5 < M * 3) {Q : Unit → Shared → Prop}
    (hQ : ∀ h' L', Heap.SameBut a s.heap h' → GSet P w h' a true L' → L'.Perm L → Q () { s with heap := h' }) : wpAny (model P w) A (setRelay a wanted) Q E s := by
  have hsz : es.size = L.length := by
    have e := congrArg List.length rows
    rwa [Array.length_toList, List.length_map] at e
  obtain ⟨t', order, e, hp, T, em, el, _, ed⟩ := relaid_ok t (hs := es.map (·.1)) (wanted := wanted) hw hM (by rw [Array.size_map, hsz]; omega)
  rw [Array.size_map, hsz] at hp
  -- the entries in the new order
  have pick : ∀ l : List Nat, (∀ i ∈ l, i < L.length) → (l.filterMap fun i => es[i]?).map (·.1) = l.map fun i => (es.map (·.1)).getD i 0 := by
    intro l hl
    induction l with
    | nil => rfl
    | cons i l ih =>
      have hi : i < es.size := by rw [hsz]; exact hl i List.mem_cons_self
      have hi2 : i < (es.map (·.1)).size := by rw [Array.size_map]; exact hi
      rw [List.filterMap_cons_some (Array.getElem?_eq_getElem hi), List.map_cons, List.map_cons, ih fun j hj => hl j (List.mem_cons_of_mem _ hj)]
      congr 1
      rw [Array.getD_eq_getD_getElem?, Array.getElem?_eq_getElem hi2, Array.getElem_map]
      rfl
  have allof : ((List.range L.length).filterMap fun i => es[i]?) = es.toList := by
    have h := List.filterMap_getElem?_range_length es.toList
    rw [Array.length_toList, hsz] at h
    rw [← h]
    congr 1
    funext i
    exact Array.getElem?_toList.symm
  have e1 : (order.filterMap (es[·]?)).toList = order.toList.filterMap fun i => es[i]? := by first | exact Array.toList_filterMap | simp
  have pm : (order.filterMap (es[·]?)).toList.Perm es.toList := by
    rw [e1, ← allof]
    exact hp.filterMap _
  obtain ⟨L2, r1, r2⟩ := perm_lift pm rows
  have hsh : L2.map (fun p => p.2.hsh P w) = order.toList.map fun i => (es.map (·.1)).getD i 0 := by
    rw [← pick order.toList fun i hi => List.mem_range.mp (hp.mem_iff.mp hi), ← e1, r1, List.map_map]
    rfl
  rw [← hsh] at T
  have hs2 : (order.filterMap (es[·]?)).size = es.size := by
    have e := pm.length_eq
    rwa [Array.length_toList, Array.length_toList] at e
  rw [setRelay_eq]
  refine wpAny_bind (wpAny_setState_of ho hd fit ?_)
  dsimp only
  refine wp_if_neg (by rw [sizeLine_eq]; omega) ?_
  try refine wpAny_bind (wpAny_pure ?_)
  rw [e]
  dsimp only
  refine wpAny_bind (wp_if_neg (by rw [hs2]; simp) ?_)
  try refine wpAny_bind (wpAny_pure ?_)
  refine wpAny_pure ?_
  dsimp only
  refine wpAny_storeSet_of ho hd ?_ (by rw [hs2, hsz]; exact ex_of few)
  have sb : Heap.SameBut a s.heap (s.heap.update a (Obj.putSet (order.filterMap (es[·]?)) t')) := Heap.SameBut.update ..
  have hf2 : t'.fits (order.filterMap (es[·]?)).size = true := by
    have h1 := T.sz
    rw [List.length_map] at h1
    have h2 := r2.length_eq
    unfold SetTable.fits SetTable.fill
    rw [T.dm, Bool.and_eq_true, beq_iff_eq, decide_eq_true_eq, hs2, hsz]
    show t'.place.size = L.length ∧ t'.place.size + 0 ≤ t'.mask
    omega
  exact hQ _ L2 sb ⟨⟨_, _, _, _, store_at ho hd, ⟨hex.1, hex.2.1, hex.2.2⟩, rfl, r1, hf2, T.ris, led.imp id fun z => el.trans z, fun _ => ⟨T, by rw [r2.length_eq, em]; exact hn⟩⟩, (r2.map (·.2)).nodup_iff.mpr nd, by rw [r2.length_eq]; exact few, fun p hpm => SK.but (st p (r2.mem_iff.mp hpm)) ho hd sb, fun p hpm => md p (r2.mem_iff.mp hpm)⟩ r2
theorem tup_add {L : List (Value × SK)} {b : Addr} {xs : List Key} {Q : Bool → Shared → Prop} (R : GSet P w s.heap a true L) (hx : IsTupleKey (mixKind P w) s.heap xs b) (hu : A.units < cLine) (room : L.length + 1 < 64)
    (hQ : ∀ c h' L', Heap.SameBut a s.heap h' → GSet P w h' a true L' → (SK.t xs ∈ L.map (·.2) → L' = L) → (SK.t xs ∉ L.map (·.2) → L'.Perm ((Value.ref b, SK.t xs) :: L)) → Q c { s with heap := h' }) :
    wpAny (model P w) A (setAddHashed a (.ref b) (tupleKeyHash (mixKind P w) xs)) Q E s := by
  obtain ⟨o, es, ep, t, ho, hex, hd, T⟩ := R.ex
  have hsz := T.size
  obtain ⟨tab, rm⟩ := T.tab rfl
  unfold setAddHashed
  rw [show (100000 : Nat) = 99999 + 1 from rfl]
  refine wpAny_holding ?_
  rw [setAddHashedIn_succ]
  refine wpAny_bind (wpAny_setState_of ho hd T.fit ?_)
  dsimp only
  refine wp_if_neg (by simp [byScan, Value.scannable]) ?_
  try refine wpAny_bind (wpAny_pure ?_)
  refine wpAny_bind (seek_add ho hd T R.st R.md hx hu rfl (fun hm => wpAny_pure (hQ false s.heap L (Heap.SameBut.refl a s.heap) R (fun _ => rfl) fun z => absurd hm z)) fun K hm hK hb => ?_)
  dsimp only
  refine wpAny_bind (wpAny_setState_of ho hd T.fit ?_)
  dsimp only
  obtain ⟨q1, q2, q3, q4, q5, _, _, _, q9⟩ := tab.put hK hb
  generalize hpt : t.put (stp t.mask (tupleKeyHash (mixKind P w) xs) K).j = pt at q1 q3 q4 q5 q9 ⊢
  obtain ⟨t1, p⟩ := pt
  dsimp only at q1 q3 q4 q5 q9 ⊢
  subst q1
  generalize hpp : SetTable.below t.place (stp t.mask (tupleKeyHash (mixKind P w) xs) K).j = p at q2 q3 ⊢
  -- what is told of the new table, whatever becomes of its mark
  have rest : ∀ t2 : SetTable, TabOk t2 ((L.map fun p => p.2.hsh P w).take p ++ tupleKeyHash (mixKind P w) xs :: (L.map fun p => p.2.hsh P w).drop p) → t2.mask = t.mask → t2.led = t.led → t2.fill = L.length + 1 →
      wpAny (model P w) A (do
        storeSet a (SetTable.insertAt es p (tupleKeyHash (mixKind P w) xs, Value.ref b)) t2
        if (!false && t2.tooFull) = true then do
            setRelay a (SetTable.grown (es.size + 1))
            pure true
          else pure true) Q E s := by
    intro t2 T2 m2 l2 f2
    have hin : (SetTable.insertAt es p (tupleKeyHash (mixKind P w) xs, Value.ref b)).toList = (L.take p ++ (Value.ref b, SK.t xs) :: L.drop p).map (ent P w) := by
      rw [SetTable.toList_insertAt, T.rows, List.map_append, List.map_cons, List.map_take, List.map_drop]
      rfl
    have pm : (L.take p ++ (Value.ref b, SK.t xs) :: L.drop p).Perm ((Value.ref b, SK.t xs) :: L) := put_perm L p (Value.ref b, SK.t xs)
    have hhs : (L.take p ++ (Value.ref b, SK.t xs) :: L.drop p).map (fun p => p.2.hsh P w) = (L.map fun p => p.2.hsh P w).take p ++ tupleKeyHash (mixKind P w) xs :: (L.map fun p => p.2.hsh P w).drop p := by
      rw [List.map_append, List.map_cons, List.map_take, List.map_drop]
      rfl
    rw [← hhs] at T2
    generalize L.take p ++ (Value.ref b, SK.t xs) :: L.drop p = L1 at pm T2 hin
    have hln : L1.length = L.length + 1 := pm.length_eq
    have hes : (SetTable.insertAt es p (tupleKeyHash (mixKind P w) xs, Value.ref b)).size = L.length + 1 := by
      have e := congrArg List.length hin
      rw [Array.length_toList, List.length_map, hln] at e
      exact e
    generalize SetTable.insertAt es p (tupleKeyHash (mixKind P w) xs, Value.ref b) = es1 at hin hes ⊢
    have nd1 : (L1.map (·.2)).Nodup := (pm.map (·.2)).nodup_iff.mpr (List.nodup_cons.mpr ⟨hm, R.nd⟩)
    refine wpAny_bind (wpAny_storeSet_of ho hd ?_ (by rw [hes]; exact ex_of (by omega)))
    have sb : Heap.SameBut a s.heap (s.heap.update a (Obj.putSet es1 t2)) := Heap.SameBut.update ..
    have o1 := store_at (es' := es1) (t' := t2) ho hd
    have hf1 : t2.fits es1.size = true := by
      have h1 := T2.sz
      rw [List.length_map, hln] at h1
      unfold SetTable.fits SetTable.fill
      rw [T2.dm, Bool.and_eq_true, beq_iff_eq, decide_eq_true_eq, hes]
      show t2.place.size = L.length + 1 ∧ t2.place.size + 0 ≤ t2.mask
      omega
    have st1 : ∀ p ∈ L1, p.2.sd P w s.heap p.1 := fun p hp => by
      rcases List.mem_cons.mp (pm.mem_iff.mp hp) with z | z
      · rw [z]
        exact ⟨b, rfl, hx⟩
      · exact R.st p z
    have md1 : ∀ p ∈ L1, p.2.tup = true := fun p hp => by
      rcases List.mem_cons.mp (pm.mem_iff.mp hp) with z | z
      · rw [z]
        rfl
      · exact R.md p z
    have ld1 : w.params.followText "set-order" = true ∨ t2.led = true := T.led.imp id fun z => l2.trans z
    generalize s.heap.update a (Obj.putSet es1 t2) = h1 at sb o1 ⊢
    by_cases hf : t2.tooFull = true
    · have full : (L.length + 1) * 5 ≥ t2.mask * 3 := by
        have h := hf
        unfold SetTable.tooFull at h
        rwa [decide_eq_true_eq, f2] at h
      have two : (t.mask = 7 ∧ L.length = 4) ∨ (t.mask = 31 ∧ L.length = 18) := by
        rw [m2] at full
        rcases tab.mok with e | e | e
        · rw [e] at full rm
          exact .inl ⟨e, by omega⟩
        · rw [e] at full rm
          exact .inr ⟨e, by omega⟩
        · rw [e] at full
          omega
      have go : ∀ M, SetTable.sizeAbove (SetTable.grown (L.length + 1)) - 1 = M → MaskOk M → SetTable.sizeAbove (SetTable.grown (L.length + 1)) ≤ 128 → (L.length + 1) * 5 < M * 3 → wpAny (model P w) A (setRelay a (SetTable.grown (L.length + 1))) (fun _ s' => wpAny (model P w) A (pure true) Q E s') E { s with heap := h1 } := fun M g1 g2 g3 g4 =>
        relay_tup (s := { s with heap := h1 }) o1 ⟨hex.1, hex.2.1, hex.2.2⟩ rfl hin hf1 nd1 (fun p hp => SK.but (st1 p hp) ho hd sb) md1 ld1 (by rw [hln]; exact room) g1 g2 g3 (by rw [hln]; exact g4) fun h2 L2 sb2 R2 pm2 => wpAny_pure (hQ true h2 L2 (sb.trans sb2) R2 (fun z => absurd z hm) fun _ => pm2.trans pm)
      refine wp_if_pos (by simp [hf]) (wpAny_bind ?_)
      rw [hsz]
      rcases two with ⟨_, e2⟩ | ⟨_, e2⟩
      · exact go 31 (by rw [e2, size_20]) (.inr (.inl rfl)) (by rw [e2, size_20]; decide) (by omega)
      · exact go 127 (by rw [e2, size_76]) (.inr (.inr rfl)) (by rw [e2, size_76]; decide) (by omega)
    · refine wp_if_neg (by simp [hf]) (wpAny_pure (hQ true h1 L1 sb ⟨⟨_, _, _, _, o1, ⟨hex.1, hex.2.1, hex.2.2⟩, rfl, hin, hf1, T2.ris, ld1, fun _ => ⟨T2, ?_⟩⟩, nd1, by rw [hln]; exact room, fun p hp => SK.but (st1 p hp) ho hd sb, md1⟩ (fun z => absurd z hm) fun _ => pm))
      have h := hf
      unfold SetTable.tooFull at h
      rw [decide_eq_true_eq, f2] at h
      omega
  have off : ∀ {t2 : SetTable} {hs : List Int}, TabOk t2 hs → TabOk { t2 with plain := false } hs := fun T => ⟨T.ris, T.dm, T.sz, T.mok, T.bd, T.reach⟩
  have fl : t1.fill = L.length + 1 := by rw [q9, List.length_map]
  by_cases hpl : t1.plain = true
  · first
      | (refine wpAny_bind ?_; refine wp_if_pos hpl ?_; refine hbv_tup hx fun c => ?_)
      | refine wp_if_pos hpl (wpAny_bind (hbv_tup hx fun c => ?_))
    cases c with
    | true => exact rest t1 q3 q4 q5 fl
    | false => exact rest { t1 with plain := false } (off q3) q4 q5 fl
  · first
      | (refine wpAny_bind ?_; refine wp_if_neg hpl ?_; refine wpAny_pure ?_)
      | refine wp_if_neg hpl (wpAny_bind (wpAny_pure ?_))
    exact rest t1 q3 q4 q5 fl
theorem g_add {m : Bool} {L : List (Value × SK)} {v : Value} {x : SK} {Q : Bool → Shared → Prop} (R : GSet P w s.heap a m L) (hx : x.sd P w s.heap v) (hm : x.tup = m) (hu : A.units < cLine) (room : L.length + 1 < 64)
    (hQ : ∀ c h' L', Heap.SameBut a s.heap h' → GSet P w h' a m L' → (x ∈ L.map (·.2) → L' = L) → (x ∉ L.map (·.2) → L'.Perm ((v, x) :: L)) → Q c { s with heap := h' }) : wpAny (model P w) A (setAddHashed a v (x.hsh P w)) Q E s := by
  cases x with
  | k x =>
    subst hm
    exact scan_add R hx room hQ
  | t xs =>
    subst hm
    obtain ⟨b, rfl, hb⟩ := hx
    exact tup_add R hb hu room hQ
theorem g_hash {v : Value} {x : SK} {Q : Int → Shared → Prop} (hx : x.sd P w s.heap v) (hu : A.units < cLine) (h : ∀ n, s.toks ≤ n → Q (x.hsh P w) { s with toks := n }) : wpAny (model P w) A (pyHash v) Q E s := by
  cases x with
  | k x => exact (mixKind P w).pyHash hx (h _ (Nat.le_succ _))
  | t xs =>
    obtain ⟨b, rfl, hb⟩ := hx
    exact wpAny_pyHash_tuple hu hb (h _ (Nat.le_add_right _ _))
/-! ### all items put in -/
/-- L: what the first i of ks have brought -/
structure Brought (ks : List (Value × SK)) (i : Nat) (L : List (Value × SK)) : Prop where
  sub : ∀ p ∈ L, p ∈ ks.take i
  all : ∀ p ∈ ks.take i, p.2 ∈ L.map (·.2)
  len : L.length ≤ i
theorem brought_zero (ks : List (Value × SK)) : Brought ks 0 [] := ⟨(fun p hp => nomatch hp), (fun p hp => by rw [List.take_zero] at hp; cases hp), Nat.le_refl _⟩
theorem brought_next {ks L L' : List (Value × SK)} {i : Nat} {p : Value × SK} (g : Brought ks i L) (h : ks[i]? = some p) (c1 : p.2 ∈ L.map (·.2) → L' = L) (c2 : p.2 ∉ L.map (·.2) → L'.Perm (p :: L)) : Brought ks (i + 1) L' := by
  have tk : ks.take (i + 1) = ks.take i ++ [p] := by rw [List.take_add_one, h]; rfl
  rcases Classical.em (p.2 ∈ L.map (·.2)) with c | c
  · rw [c1 c]
    refine ⟨fun q hq => by rw [tk]; exact List.mem_append_left _ (g.sub q hq), fun q hq => ?_, Nat.le_succ_of_le g.len⟩
    rw [tk] at hq
    rcases List.mem_append.mp hq with z | z
    · exact g.all q z
    · rw [List.mem_singleton.mp z]
      exact c
  · have pm := c2 c
    refine ⟨fun q hq => ?_, fun q hq => ?_, by rw [pm.length_eq]; exact Nat.succ_le_succ g.len⟩
    · rw [tk]
      rcases List.mem_cons.mp (pm.mem_iff.mp hq) with z | z
      · rw [z]
        exact List.mem_append_right _ List.mem_cons_self
      · exact List.mem_append_left _ (g.sub q z)
    · rw [tk] at hq
      rw [(pm.map (·.2)).mem_iff, List.map_cons, List.mem_cons]
      rcases List.mem_append.mp hq with z | z
      · exact .inr (g.all q z)
      · rw [List.mem_singleton.mp z]
        exact .inl rfl
theorem nd_le {α : Type} : ∀ {a b : List α}, a.Nodup → (∀ x ∈ a, x ∈ b) → a.length ≤ b.length
  | [], _, _, _ => Nat.zero_le _
  | x :: a, b, h, hs => by
    obtain ⟨h1, h2⟩ := List.nodup_cons.mp h
    obtain ⟨l, r, rfl⟩ := List.append_of_mem (hs x List.mem_cons_self)
    have := nd_le (a := a) (b := l ++ r) h2 fun y hy => by
      have hm := hs y (List.mem_cons_of_mem _ hy)
      rw [List.mem_append, List.mem_cons] at hm
      rw [List.mem_append]
      rcases hm with z | z | z
      · exact .inl z
      · exact absurd (z ▸ hy) h1
      · exact .inr z
    rw [List.length_append] at this
    rw [List.length_cons, List.length_append, List.length_cons]
    omega
/-- few items, or few different ones -/
def FewS (ks : List (Value × SK)) : Prop := ks.length < 64 ∨ ∀ L : List SK, L.Nodup → (∀ x ∈ L, x ∈ ks.map (·.2)) → L.length < 63
theorem FewS.room {P : Program} {w : World} {h : Heap} {S : Addr} {m : Bool} {ks L : List (Value × SK)} {i : Nat} (few : FewS ks) (g : GSet P w h S m L) (br : Brought ks i L) (hi : i < ks.length) : L.length + 1 < 64 := by
  rcases few with few | few
  · have := br.len
    omega
  · have h1 := few (L.map (·.2)) g.nd fun x hx => by
      obtain ⟨p, hp, rfl⟩ := List.mem_map.mp hx
      exact List.mem_map.mpr ⟨p, List.mem_of_mem_take (br.sub p hp), rfl⟩
    rw [List.length_map] at h1
    omega
/-- what stays through the loop -/
structure Thru (P : Program) (w : World) (m : Bool) (S : Addr) (ks : List (Value × SK)) (h0 : Heap) (i : Nat) (h : Heap) : Prop where
  kp : ∀ b o, h0.get? b = some o → h.get? b = some o
  gs : ∃ L, GSet P w h S m L ∧ Brought ks i L
theorem update_all {I : Addr} {fp wr : List Addr} {G : Array GenState → Array GenState → Prop} {n : Nat} {Pv : Nat → Value → Prop} {St : Nat → Shared → Prop} {R : Result → Shared → Prop} (W : WalksS P w A.in1 I fp wr G n Pv St) (m : Bool) (S : Addr) (hSf : S ∉ fp) (ks : List (Value × SK)) (hn : n = ks.length) (few : FewS ks)
    (hval : ∀ i v, Pv i v → ∃ p, ks[i]? = some p ∧ v = p.1) (h0 : Heap) (hk : ∀ p ∈ ks, p.2.sd P w h0 p.1) (hm : ∀ p ∈ ks, p.2.tup = m) (hS0 : h0.get? S = none) (hw0 : ∀ b ∈ wr, h0.get? b = none) (hu : A.in1.units < cLine) :
    ∀ (k i : Nat) (s : Shared), n - i = k → i ≤ n → St i s → Thru P w m S ks h0 i s.heap → (∀ s', Moved (S :: wr) G s s' → Thru P w m S ks h0 n s'.heap → R (.ok (.ret .none)) s') →
      codeAny (model P w) A (.builtin "set.update.loop" ⟨[.ref S, .ref I], []⟩) R s := by
  have hSw : S ∉ wr := fun h => hSf (W.sub _ h)
  have hsub : ∀ b ∈ wr, b ∈ S :: wr := fun b hb => List.mem_cons_of_mem _ hb
  -- the set and the things behind its members, over a step of the walk
  have thru : ∀ {i : Nat} {s s' : Shared}, Moved wr G s s' → Thru P w m S ks h0 i s.heap → Thru P w m S ks h0 i s'.heap := fun {i s s'} mv T => by
    have kp : ∀ b o, h0.get? b = some o → s'.heap.get? b = some o := fun b o e => mv.heap b o (fun hb => by rw [hw0 b hb] at e; cases e) (T.kp b o e)
    obtain ⟨L, g, br⟩ := T.gs
    exact ⟨kp, L, g.keep (fun o e => mv.heap S o hSw e) fun p hp => SK.keep (hk p (List.mem_of_mem_take (br.sub p hp))) kp, br⟩
  intro k
  induction k with
  | zero =>
    intro i s hk' hi hst T hR
    have hin : i = n := by omega
    subst hin
    refine codeAny_builtin F.entry_set_update_loop ?_
    rw [Around.under_plainId F.plain_set_update_loop _]
    show wpAny _ A.in1 (pyNext (.ref I) >>= _) _ _ s
    refine wpAny_bind (W.done s _ _ hst fun s' mv => ?_)
    show wpAny _ A.in1 (ret Value.none) _ _ s'
    exact wpAny_pure (hR s' (mv.mono hsub) (thru mv T))
  | succ k ih =>
    intro i s hk' hi hst T hR
    have hlt : i < n := by omega
    refine codeAny_builtin F.entry_set_update_loop ?_
    rw [Around.under_plainId F.plain_set_update_loop _]
    show wpAny _ A.in1 (pyNext (.ref I) >>= _) _ _ s
    refine wpAny_bind (W.item i s _ _ hlt hst fun v s' hP hst' mv => ?_)
    obtain ⟨p, hp, rfl⟩ := hval i v hP
    have T' := thru mv T
    obtain ⟨L, g, br⟩ := T'.gs
    have hpm := List.mem_of_getElem? hp
    have hx : p.2.sd P w s'.heap p.1 := SK.keep (hk p hpm) T'.kp
    show wpAny _ A.in1 (holding [p.1] (setAdd S p.1) >>= _) _ _ s'
    refine wpAny_bind (wpAny_holding ?_)
    unfold setAdd
    refine wpAny_holding (wpAny_bind (g_hash hx hu fun tk htk => ?_))
    refine g_add (s := { s' with toks := tk }) g hx (hm p hpm) hu (few.room g br (by omega)) fun c h' L' hsb g' c1 c2 => ?_
    have hkp2 : ∀ b o, h0.get? b = some o → h'.get? b = some o := fun b o e => (hsb.2 b fun z => by rw [z, hS0] at e; cases e).trans (T'.kp b o e)
    refine wpAny_pure ⟨plainId_quiet F.plain_set_update_loop _, ih (i + 1) _ (by omega) hlt (W.frame _ s' _ _ hst' htk fun b hb o e => ?_) ⟨hkp2, L', g', brought_next br hp c1 c2⟩ fun s'' mv' T'' => ?_⟩
    · rw [hsb.2 b fun h : b = S => hSf (by rw [← h]; exact hb)]
      exact e
    · refine hR s'' (Moved.trans W.gtrans ((mv.mono hsub).then_heap htk fun b o hb e => ?_) mv') T''
      rw [hsb.2 b fun h : b = S => hb (by rw [h]; exact List.mem_cons_self)]
      exact e

set_option maxHeartbeats 3200000 in
/-- set(xs), xs a list -/
theorem set_of_list {l : Addr} {items : Array Value} (m : Bool) (ks : List (Value × SK)) {Q : Value → Shared → Prop} (hh : A.handled = none) (hl : s.heap.IsList l items) (hit : items.toList = ks.map (·.1)) (hk : ∀ p ∈ ks, p.2.sd P w s.heap p.1) (hm : ∀ p ∈ ks, p.2.tup = m) (few : FewS ks) (hu : A.units + 3 < cLine)
    (h : ∀ (h' : Heap) (tk : Nat) L, GSet P w h' s.heap.objs.size m L → Brought ks ks.length L → (∀ b o, s.heap.get? b = some o → h'.get? b = some o) → Q (.ref s.heap.objs.size) { s with heap := h', toks := tk }) :
    wpAny (model P w) A (call (.type "set") [.ref l]) Q E s := by
  have isz : items.size = ks.length := by
    have e := congrArg List.length hit
    rwa [Array.length_toList, List.length_map] at e
  have m1 := F.called_set.made
  have m2 := F.called_set.sub
  have m3 := F.called_set.notType
  have m4 := F.called_set.canCreate
  have m5 := F.typeCall_set_1 (.ref l)
  obtain ⟨c, tl, m6⟩ := F.called_set.mro
  refine wpAny_call (codeAny_of_tree ?_)
  show wpAny _ _ (callAny (.type "set") _) _ _ _
  refine wpAny_pure ⟨Code.quiet_builtin _ (by decide +kernel), codeAny_builtin F.entry_type_call ?_⟩
  rw [Around.under_plain (weight_type_call_type "set" [.ref l] []) rfl]
  repeat (any_goals (first | assumption | wp_step))
  refine codeAny_mono (code_set_led1 (.ref l) (E := E) (Q₁ := fun ob s1 => ob = .ref s.heap.objs.size ∧ s1 = { s with heap := s.heap.push (setObj w) }) ⟨rfl, rfl⟩) fun r s1 hr => ?_
  cases r with
  | error e => exact hr
  | ok fl =>
    cases fl with
    | ret ob =>
      obtain ⟨rfl, rfl⟩ := hr
      have hS : (s.heap.push (setObj w)).get? s.heap.objs.size = some (setObj w) := Heap.get?_push_size _ rfl
      have hT : Shared.TypeIs { s with heap := s.heap.push (setObj w) } (.ref s.heap.objs.size) "set" := ⟨_, hS, rfl⟩
      have i1 := F.called_set.init.lookup
      have i2 := F.called_set.init.bind (.ref s.heap.objs.size)
      repeat (any_goals (first | assumption | wp_step))
      refine codeAny_mono (codeAny_call_builtin (R := wants (fun r s2 => r = .none ∧ ∃ h' tk L, s2 = { s with heap := h', toks := tk } ∧ GSet P w h' s.heap.objs.size m L ∧ Brought ks ks.length L ∧ ∀ b o, s.heap.get? b = some o → h'.get? b = some o) E) F.called_set.init.plain F.entry_set_init (check_set_init_1 hT ?_)) fun r2 s2 hr2 => ?_
      · obtain ⟨ol, hol, hcl, nl, hdl⟩ := hl
        obtain ⟨oc, od, odat, osl⟩ := ol
        dsimp only at hcl hdl
        subst hcl; subst hdl
        have j1 : (s.heap.push (setObj w)).get? l = some { cls := .type "list", dict := od, data := .seq items nl, slots := osl } := Heap.get?_push_of_some _ hol
        have j2 := F.sub_list_set
        have j3 := F.sub_list_frozenset
        have j4 : (Value.type "list" == Value.type "dict") = false := by decide
        have hl1 : (s.heap.push (setObj w)).IsList l items := ⟨_, j1, rfl, nl, rfl⟩
        unfold Builtin.«set.__init__» noKeywords Builtin.Frozenset.updateFrom
        generalize hPI : pyIter = PI
        wp_walk
        subst hPI
        refine wpAny_pyIter_list hl1 (wpAny_bind (wpAny_runValue ?_))
        have hlS : l < s.heap.objs.size := Heap.lt_size hol
        have h3 : A.in1.in1.in1.handled = none := by simp [hh]
        have hz : (s.heap.push (setObj w)).objs.size = s.heap.objs.size + 1 := Heap.size_push ..
        have neI : l ≠ (s.heap.push (setObj w)).objs.size := by rw [hz]; exact Nat.ne_of_lt (Nat.lt_succ_of_lt hlS)
        have out : s.heap.objs.size ∉ [(s.heap.push (setObj w)).objs.size, l] := by
          rw [hz]
          simp only [List.mem_cons, List.not_mem_nil, or_false, not_or]
          exact ⟨Nat.ne_of_lt (Nat.lt_succ_self _), Nat.ne_of_gt hlS⟩
        have val : ∀ (i : Nat) (v : Value), items[i]? = some v → ∃ p, ks[i]? = some p ∧ v = p.1 := fun i v hv => by
          have e : items.toList[i]? = some v := by rw [Array.getElem?_toList]; exact hv
          rw [hit, List.getElem?_map] at e
          obtain ⟨p, e1, e2⟩ := map_some e
          exact ⟨p, e1, e2.symm⟩
        have new : ∀ b, s.heap.objs.size ≤ b → s.heap.get? b = none := fun b hb => by
          cases e : s.heap.get? b with
          | none => rfl
          | some o => exact absurd (Nat.lt_of_lt_of_le (Heap.lt_size e) hb) (Nat.lt_irrefl _)
        refine update_all ((Walks.list h3 _ l neI items).toS) m s.heap.objs.size out ks isz few val s.heap hk hm (new _ (Nat.le_refl _)) (fun b hb => new b (by
          rw [List.mem_singleton.mp hb, hz]
          exact Nat.le_succ _)) hu (items.size - 0) 0 _ (by omega) (Nat.zero_le _) ⟨⟨_, Heap.get?_push_size _ rfl, rfl, rfl⟩, (hl1.push _)⟩ ⟨fun b o e => Heap.get?_push_of_some _ (Heap.get?_push_of_some _ e), [], gset_new m (Heap.get?_push_of_some _ hS), brought_zero ks⟩ ?fin
        case fin =>
          intro s' mv T'
          obtain ⟨h', g2, d', tk', os'⟩ := s'
          have e1 : g2 = s.gens := mv.gens
          have e2 : d' = s.drawn := mv.drawn
          have e3 : os' = s.os := mv.os
          subst e1; subst e2; subst e3
          obtain ⟨kp, L, g, br⟩ := T'
          rw [isz] at br
          show wpAny _ _ _ _ _ _
          refine wpAny_pure ?_
          show wpAny _ _ (ret Value.none) _ _ _
          exact wpAny_pure ⟨rfl, h', tk', L, rfl, g, br, kp⟩
      · cases r2 with
        | error e => exact hr2
        | ok fl2 =>
          cases fl2 with
          | ret r =>
            obtain ⟨rfl, h', tk, L, rfl, g, br, kp⟩ := hr2
            repeat (any_goals (first | assumption | wp_step))
            exact h _ _ _ g br kp
          | _ => exact hr2.elim
    | _ => exact hr.elim

set_option maxHeartbeats 3200000 in
/-- set(xs), xs a tuple -/
theorem set_of_tuple {l : Addr} {items : Array Value} (m : Bool) (ks : List (Value × SK)) {Q : Value → Shared → Prop} (hh : A.handled = none) (hl : s.heap.IsTuple l items) (hit : items.toList = ks.map (·.1)) (hk : ∀ p ∈ ks, p.2.sd P w s.heap p.1) (hm : ∀ p ∈ ks, p.2.tup = m) (few : FewS ks) (hu : A.units + 3 < cLine)
    (h : ∀ (h' : Heap) (tk : Nat) L, GSet P w h' s.heap.objs.size m L → Brought ks ks.length L → (∀ b o, s.heap.get? b = some o → h'.get? b = some o) → Q (.ref s.heap.objs.size) { s with heap := h', toks := tk }) :
    wpAny (model P w) A (call (.type "set") [.ref l]) Q E s := by
  have isz : items.size = ks.length := by
    have e := congrArg List.length hit
    rwa [Array.length_toList, List.length_map] at e
  have m1 := F.called_set.made
  have m2 := F.called_set.sub
  have m3 := F.called_set.notType
  have m4 := F.called_set.canCreate
  have m5 := F.typeCall_set_1 (.ref l)
  obtain ⟨c, tl, m6⟩ := F.called_set.mro
  refine wpAny_call (codeAny_of_tree ?_)
  show wpAny _ _ (callAny (.type "set") _) _ _ _
  refine wpAny_pure ⟨Code.quiet_builtin _ (by decide +kernel), codeAny_builtin F.entry_type_call ?_⟩
  rw [Around.under_plain (weight_type_call_type "set" [.ref l] []) rfl]
  repeat (any_goals (first | assumption | wp_step))
  refine codeAny_mono (code_set_led1 (.ref l) (E := E) (Q₁ := fun ob s1 => ob = .ref s.heap.objs.size ∧ s1 = { s with heap := s.heap.push (setObj w) }) ⟨rfl, rfl⟩) fun r s1 hr => ?_
  cases r with
  | error e => exact hr
  | ok fl =>
    cases fl with
    | ret ob =>
      obtain ⟨rfl, rfl⟩ := hr
      have hS : (s.heap.push (setObj w)).get? s.heap.objs.size = some (setObj w) := Heap.get?_push_size _ rfl
      have hT : Shared.TypeIs { s with heap := s.heap.push (setObj w) } (.ref s.heap.objs.size) "set" := ⟨_, hS, rfl⟩
      have i1 := F.called_set.init.lookup
      have i2 := F.called_set.init.bind (.ref s.heap.objs.size)
      repeat (any_goals (first | assumption | wp_step))
      refine codeAny_mono (codeAny_call_builtin (R := wants (fun r s2 => r = .none ∧ ∃ h' tk L, s2 = { s with heap := h', toks := tk } ∧ GSet P w h' s.heap.objs.size m L ∧ Brought ks ks.length L ∧ ∀ b o, s.heap.get? b = some o → h'.get? b = some o) E) F.called_set.init.plain F.entry_set_init (check_set_init_1 hT ?_)) fun r2 s2 hr2 => ?_
      · obtain ⟨ol, hol, hcl, nl, hdl⟩ := hl
        obtain ⟨oc, od, odat, osl⟩ := ol
        dsimp only at hcl hdl
        subst hcl; subst hdl
        have j1 : (s.heap.push (setObj w)).get? l = some { cls := .type "tuple", dict := od, data := .seq items nl, slots := osl } := Heap.get?_push_of_some _ hol
        have j2 := F.sub_tuple_set
        have j3 := F.sub_tuple_frozenset
        have j4 : (Value.type "tuple" == Value.type "dict") = false := by decide
        have hl1 : (s.heap.push (setObj w)).IsTuple l items := ⟨_, j1, rfl, nl, rfl⟩
        unfold Builtin.«set.__init__» noKeywords Builtin.Frozenset.updateFrom
        generalize hPI : pyIter = PI
        wp_walk
        subst hPI
        refine wpAny_pyIter_tuple hl1 (wpAny_bind (wpAny_runValue ?_))
        have hlS : l < s.heap.objs.size := Heap.lt_size hol
        have h3 : A.in1.in1.in1.handled = none := by simp [hh]
        have hz : (s.heap.push (setObj w)).objs.size = s.heap.objs.size + 1 := Heap.size_push ..
        have neI : l ≠ (s.heap.push (setObj w)).objs.size := by rw [hz]; exact Nat.ne_of_lt (Nat.lt_succ_of_lt hlS)
        have out : s.heap.objs.size ∉ [(s.heap.push (setObj w)).objs.size, l] := by
          rw [hz]
          simp only [List.mem_cons, List.not_mem_nil, or_false, not_or]
          exact ⟨Nat.ne_of_lt (Nat.lt_succ_self _), Nat.ne_of_gt hlS⟩
        have val : ∀ (i : Nat) (v : Value), items[i]? = some v → ∃ p, ks[i]? = some p ∧ v = p.1 := fun i v hv => by
          have e : items.toList[i]? = some v := by rw [Array.getElem?_toList]; exact hv
          rw [hit, List.getElem?_map] at e
          obtain ⟨p, e1, e2⟩ := map_some e
          exact ⟨p, e1, e2.symm⟩
        have new : ∀ b, s.heap.objs.size ≤ b → s.heap.get? b = none := fun b hb => by
          cases e : s.heap.get? b with
          | none => rfl
          | some o => exact absurd (Nat.lt_of_lt_of_le (Heap.lt_size e) hb) (Nat.lt_irrefl _)
        refine update_all ((Walks.tuple h3 _ l neI items).toS) m s.heap.objs.size out ks isz few val s.heap hk hm (new _ (Nat.le_refl _)) (fun b hb => new b (by
          rw [List.mem_singleton.mp hb, hz]
          exact Nat.le_succ _)) hu (items.size - 0) 0 _ (by omega) (Nat.zero_le _) ⟨⟨_, Heap.get?_push_size _ rfl, rfl, rfl⟩, (hl1.push _)⟩ ⟨fun b o e => Heap.get?_push_of_some _ (Heap.get?_push_of_some _ e), [], gset_new m (Heap.get?_push_of_some _ hS), brought_zero ks⟩ ?fin
        case fin =>
          intro s' mv T'
          obtain ⟨h', g2, d', tk', os'⟩ := s'
          have e1 : g2 = s.gens := mv.gens
          have e2 : d' = s.drawn := mv.drawn
          have e3 : os' = s.os := mv.os
          subst e1; subst e2; subst e3
          obtain ⟨kp, L, g, br⟩ := T'
          rw [isz] at br
          show wpAny _ _ _ _ _ _
          refine wpAny_pure ?_
          show wpAny _ _ (ret Value.none) _ _ _
          exact wpAny_pure ⟨rfl, h', tk', L, rfl, g, br, kp⟩
      · cases r2 with
        | error e => exact hr2
        | ok fl2 =>
          cases fl2 with
          | ret r =>
            obtain ⟨rfl, h', tk, L, rfl, g, br, kp⟩ := hr2
            repeat (any_goals (first | assumption | wp_step))
            exact h _ _ _ g br kp
          | _ => exact hr2.elim
    | _ => exact hr.elim
end
end Dv

/-! sorted(set(..)), in plain Lean. -/
namespace Dv
open PySem PySem.Spec PyProof.Rows L2
/-! ### members as data -/
def keyD : Key → D
  | .inl i => .int i
  | .inr x => .str x
def SK.d : SK → D
  | .k x => keyD x
  | .t xs => .tuple (xs.map keyD)
def toKey : D → Option Key
  | .int i => some (.inl i)
  | .str x => some (.inr x)
  | _ => none
def toKeys : List D → Option (List Key)
  | [] => some []
  | d :: ds => (toKey d).bind fun x => (toKeys ds).map fun xs => x :: xs
def toSK : D → Option SK
  | .int i => some (.k (.inl i))
  | .str x => some (.k (.inr x))
  | .tuple ds => (toKeys ds).map .t
  | _ => none
def toSKs : List D → Option (List SK)
  | [] => some []
  | d :: ds => (toSK d).bind fun x => (toSKs ds).map fun xs => x :: xs
theorem toKey_d {d : D} {x : Key} (h : toKey d = some x) : d = keyD x := by
  cases d <;> cases h <;> rfl
theorem toKeys_d : ∀ {ds : List D} {xs : List Key}, toKeys ds = some xs → ds = xs.map keyD
  | [], _, h => by cases h; rfl
  | d :: ds, xs, h => by
    obtain ⟨x, h1, h2⟩ := bind_some h
    obtain ⟨ys, h3, h4⟩ := map_some h2
    cases h4
    rw [List.map_cons, toKey_d h1, toKeys_d h3]
theorem toSK_d {d : D} {x : SK} (h : toSK d = some x) : d = x.d := by
  cases d with
  | tuple ds =>
    obtain ⟨xs, h1, h2⟩ := map_some h
    cases h2
    rw [toKeys_d h1]
    rfl
  | int i => cases h; rfl
  | str y => cases h; rfl
  | none => cases h
  | bool b => cases h
  | list ds => cases h
  | dict kvs => cases h
theorem toSKs_d : ∀ {ds : List D} {xs : List SK}, toSKs ds = some xs → ds = xs.map SK.d
  | [], _, h => by cases h; rfl
  | d :: ds, xs, h => by
    obtain ⟨x, h1, h2⟩ := bind_some h
    obtain ⟨ys, h3, h4⟩ := map_some h2
    cases h4
    rw [List.map_cons, toSK_d h1, toSKs_d h3]
/-! ### distinct ones, sorted -/
def ddS {α : Type} [DecidableEq α] : List α → List α
  | [] => []
  | x :: xs => if x ∈ xs then ddS xs else x :: ddS xs
theorem ddS_mem {α : Type} [DecidableEq α] {x : α} : ∀ {l : List α}, x ∈ ddS l ↔ x ∈ l
  | [] => Iff.rfl
  | y :: l => by
    unfold ddS
    split
    · rename_i h
      rw [ddS_mem (l := l), List.mem_cons]
      exact ⟨.inr, fun z => z.elim (fun e => by rw [e]; exact h) id⟩
    · rw [List.mem_cons, List.mem_cons, ddS_mem (l := l)]
theorem ddS_nodup {α : Type} [DecidableEq α] : ∀ l : List α, (ddS l).Nodup
  | [] => List.nodup_nil
  | y :: l => by
    unfold ddS
    split
    · exact ddS_nodup l
    · rename_i h
      exact List.nodup_cons.mpr ⟨fun z => h (ddS_mem.mp z), ddS_nodup l⟩
/-- the keys of the new list -/
def ssetK (ks : List SK) : List D := sortD ((ddS ks).map SK.d)
def setOk (xs : List D) (ks : List SK) : Bool := (decide (xs.length < 64) || decide ((ddS ks).length < 63)) && (ks.all (fun x => !x.tup) || ks.all SK.tup) && sortOk xs
def ssetD (xs : List D) : Option (List D) := (toSKs xs).bind fun ks => if setOk xs ks = true then some (ssetK ks) else none
def gSSet : List D → Option O
  | [.list xs] => (ssetD xs).map .lst
  | [.tuple xs] => (ssetD xs).map .lst
  | _ => none
/-! ### the order of members is one -/
theorem nat_list_tri : ∀ {x y : List Nat}, ¬ x < y → ¬ y < x → x = y := fun {x y} h1 h2 => List.le_antisymm (List.not_lt.mp h2) (List.not_lt.mp h1)
theorem key_anti : ∀ {x y : Key}, PySem.W.alike (keyD x) (keyD y) = true → PySem.W.dataLt (keyD x) (keyD y) = false → PySem.W.dataLt (keyD y) (keyD x) = false → x = y
  | .inl i, .inl j, _, h1, h2 => by
    have h1' : PySem.W.dataLt (.int i) (.int j) = false := h1
    have h2' : PySem.W.dataLt (.int j) (.int i) = false := h2
    rw [PySem.W.dataLt_int, decide_eq_false_iff_not] at h1' h2'
    rw [show i = j by omega]
  | .inr x, .inr y, _, h1, h2 => by
    have h1' : PySem.W.dataLt (.str x) (.str y) = false := h1
    have h2' : PySem.W.dataLt (.str y) (.str x) = false := h2
    rw [PySem.W.dataLt_str, decide_eq_false_iff_not] at h1' h2'
    rw [PySem.W.str_of_cps (nat_list_tri h1' h2')]
  | .inl i, .inr y, h, _, _ => by cases (show PySem.W.alike (.int i) (.str y) = true from h)
  | .inr x, .inl j, h, _, _ => by cases (show PySem.W.alike (.str x) (.int j) = true from h)
theorem keys_anti : ∀ {xs ys : List Key}, PySem.W.alikeAll (xs.map keyD) (ys.map keyD) = true → PyProof.Rows.lexLt itemOrd (PySem.W.keyToksAll (xs.map keyD)) (PySem.W.keyToksAll (ys.map keyD)) = false → PyProof.Rows.lexLt itemOrd (PySem.W.keyToksAll (ys.map keyD)) (PySem.W.keyToksAll (xs.map keyD)) = false → xs = ys
  | [], [], _, _, _ => rfl
  | x :: xs, y :: ys, h, h1, h2 => by
    rw [List.map_cons, List.map_cons] at h h1 h2
    obtain ⟨a1, a2⟩ := PySem.W.alike_all_cons h
    have a3 : PySem.W.alike (keyD y) (keyD x) = true := by
      cases x <;> cases y <;> first | rfl | cases a1
    cases e : PyData.eqv (keyD x) (keyD y) with
    | true =>
      have exy : x = y := by
        cases x with
        | inl i =>
          cases y with
          | inl j =>
            have e' : PyData.eqv (.int i) (.int j) = true := e
            rw [PyData.eqv, beq_iff_eq] at e'
            rw [e']
          | inr y => cases a1
        | inr x =>
          cases y with
          | inl j => cases a1
          | inr y =>
            have e' : PyData.eqv (.str x) (.str y) = true := e
            rw [PyData.eqv, beq_iff_eq] at e'
            rw [e']
      subst exy
      rw [PySem.W.dataLt_all_yes a1 e] at h1 h2
      rw [keys_anti a2 h1 h2]
    | false =>
      have e2 : PyData.eqv (keyD y) (keyD x) = false := by
        cases e3 : PyData.eqv (keyD y) (keyD x) with
        | false => rfl
        | true =>
          rw [← e]
          cases x with
          | inl i =>
            cases y with
            | inl j =>
              have e' : PyData.eqv (.int j) (.int i) = true := e3
              rw [PyData.eqv, beq_iff_eq] at e'
              rw [e']
              show true = PyData.eqv (.int i) (.int i)
              rw [PyData.eqv, beq_self_eq_true]
            | inr y => cases a1
          | inr x =>
            cases y with
            | inl j => cases a1
            | inr y =>
              have e' : PyData.eqv (.str y) (.str x) = true := e3
              rw [PyData.eqv, beq_iff_eq] at e'
              rw [e']
              show true = PyData.eqv (.str x) (.str x)
              rw [PyData.eqv, beq_self_eq_true]
      rw [PySem.W.dataLt_all_no a1 e] at h1
      rw [PySem.W.dataLt_all_no a3 e2] at h2
      have exy := key_anti a1 h1 h2
      subst exy
      rw [PySem.W.eqv_refl_alike _ a1] at e
      cases e
  | [], y :: ys, _, h1, _ => by
    rw [List.map_cons, PySem.W.toks_all_cons] at h1
    exact absurd h1 (by rw [List.map_nil, PySem.W.keyToksAll]; exact Bool.noConfusion)
  | x :: xs, [], _, _, h2 => by
    rw [List.map_cons, PySem.W.toks_all_cons] at h2
    exact absurd h2 (by rw [List.map_nil, PySem.W.keyToksAll]; exact Bool.noConfusion)
theorem sk_anti : ∀ {x y : SK}, PySem.W.alike x.d y.d = true → dLe x.d y.d = true → dLe y.d x.d = true → x = y := by
  intro x y h h1 h2
  unfold dLe at h1 h2
  rw [Bool.not_eq_true'] at h1 h2
  cases x with
  | k x =>
    cases y with
    | k y => rw [key_anti h h2 h1]
    | t ys => cases x <;> cases h
  | t xs =>
    cases y with
    | k y => cases y <;> cases h
    | t ys =>
      have h' : PySem.W.alike (.tuple (xs.map keyD)) (.tuple (ys.map keyD)) = true := h
      have h1' : PySem.W.dataLt (.tuple (ys.map keyD)) (.tuple (xs.map keyD)) = false := h1
      have h2' : PySem.W.dataLt (.tuple (xs.map keyD)) (.tuple (ys.map keyD)) = false := h2
      rw [PySem.W.dataLt_tuple] at h1' h2'
      rw [PySem.W.alike] at h'
      rw [keys_anti h' h2' h1']
theorem isort_perm {α : Type} (le : α → α → Bool) (l : List α) (h : PySem.W.TotalLe le) : (isort le l).Perm l := by
  rw [isort_merge h]
  exact List.mergeSort_perm l le
/-- one list of distinct members, however it came -/
theorem sset_one {ks : List SK} {L : List SK} (al : ∀ x ∈ ks, ∀ y ∈ ks, PySem.W.alike x.d y.d = true) (nd : L.Nodup) (hm : ∀ x, x ∈ L ↔ x ∈ ks) : sortD (L.map SK.d) = ssetK ks := by
  unfold ssetK
  have pm : L.Perm (ddS ks) := (List.perm_ext_iff_of_nodup nd (ddS_nodup ks)).mpr fun x => (hm x).trans ddS_mem.symm
  refine List.Perm.eq_of_pairwise (le := fun a b => dLe a b = true) (fun a b ha hb h1 h2 => ?_) (isort_pw dLe_total _) (isort_pw dLe_total _) (((isort_perm dLe _ dLe_total).trans (pm.map SK.d)).trans (isort_perm dLe _ dLe_total).symm)
  obtain ⟨x, hx, rfl⟩ := List.mem_map.mp (isort_mem.mp ha)
  obtain ⟨y, hy, rfl⟩ := List.mem_map.mp (isort_mem.mp hb)
  rw [sk_anti (al x ((hm x).mp hx) y (ddS_mem.mp hy)) h1 h2]
end Dv

/-! sorted(set(e)), len(set(e)). -/
namespace Dv
open PySem PySem.Spec PyProof.Rows L2
variable {np : Nat}
def O.toList : O → List D
  | .lst xs => xs
  | _ => []
section
variable {X : Cx} {pins : List (Addr × Obj)} {σ : L2.St} {H F : Hp} {s : Shared}
theorem sk_plain : ∀ x : SK, x.d.plain = true
  | .k (.inl _) => rfl
  | .k (.inr _) => rfl
  | .t ks => by
    show PyData.plain (.tuple _) = true
    rw [PyData.plain, plainAll_iff]
    intro d hd
    obtain ⟨k, _, rfl⟩ := List.mem_map.mp hd
    cases k <;> rfl
theorem key_of {K : PySem.W.Frag} {v : V} {u : Value} {d : D} {x : Key} (t : Tr K F v d) (e : toKey d = some x) (r : RelV v u) : keyIs x u = true := by
  cases d with
  | int i =>
    cases e
    cases t
    obtain ⟨tk, rfl⟩ := r
    show (i == i) = true
    exact beq_self_eq_true i
  | str y =>
    cases e
    cases t
    obtain ⟨tk, rfl⟩ := r
    show Value.isStrOf y (.str y tk) = true
    simp [Value.isStrOf]
  | none => cases e
  | bool b => cases e
  | list ds => cases e
  | tuple ds => cases e
  | dict kvs => cases e
theorem keys_of {K : PySem.W.Frag} {P : Program} {w : World} : ∀ {vs : List V} {us : List Value} {ds : List D} {xs : List Key}, TrAll K F vs ds → toKeys ds = some xs → Vals vs us → ItemsAre (mixKind P w) xs us
  | _, _, _, _, .nil, e, .nil => by
    cases e
    exact .nil
  | _, _, d :: ds, xs, .cons t ts, e, .cons r rs => by
    obtain ⟨x, h1, h2⟩ := bind_some e
    obtain ⟨ys, h3, h4⟩ := map_some h2
    cases h4
    exact .cons (key_of t h1 r) (keys_of ts h3 rs)
theorem sk_of (I : Inv X pins σ H s) (sF : Same F H) {v : V} {u : Value} {d : D} {x : SK} (t : Tr X.K F v d) (e : toSK d = some x) (r : RelV v u) : x.sd X.prog X.w s.heap u := by
  cases d with
  | int i =>
    cases e
    exact key_of (x := .inl i) t rfl r
  | str y =>
    cases e
    exact key_of (x := .inr y) t rfl r
  | tuple ds =>
    obtain ⟨xs, h1, h2⟩ := map_some e
    cases h2
    cases t with
    | @tup a vs _ g1 g2 =>
      cases r
      obtain ⟨its, rv, ⟨o, ho, hc, n, hd⟩, _⟩ := I.tuple (same_tup sF g1)
      exact ⟨a, rfl, o, its.toArray, n, ho, hc, hd, keys_of g2 h1 rv⟩
  | none => cases e
  | bool b => cases e
  | list ds => cases e
  | dict kvs => cases e
/-- the items with their members -/
theorem members (I : Inv X pins σ H s) (sF : Same F H) : ∀ {vs : List V} {us : List Value} {ds : List D} {xs : List SK}, TrAll X.K F vs ds → toSKs ds = some xs → Vals vs us →
    ∃ ks : List (Value × SK), us = ks.map (·.1) ∧ xs = ks.map (·.2) ∧ ∀ p ∈ ks, p.2.sd X.prog X.w s.heap p.1 ∧ ∃ v, RelV v p.1 ∧ Tr X.K F v p.2.d
  | _, _, _, _, .nil, e, .nil => by
    cases e
    exact ⟨[], rfl, rfl, fun p hp => nomatch hp⟩
  | v :: vs, u :: us, d :: ds, xs, .cons t ts, e, .cons r rs => by
    obtain ⟨x, h1, h2⟩ := bind_some e
    obtain ⟨ys, h3, h4⟩ := map_some h2
    cases h4
    obtain ⟨ks, e1, e2, e3⟩ := members I sF ts h3 rs
    refine ⟨(u, x) :: ks, by rw [e1, List.map_cons], by rw [e2, List.map_cons], fun p hp => ?_⟩
    rcases List.mem_cons.mp hp with z | z
    · subst z
      exact ⟨sk_of I sF t h1 r, v, r, by rw [← toSK_d h1]; exact t⟩
    · exact e3 p z
end
section
variable {P : Program} {w : World} {A : Around} {E : Value → Shared → Prop} {s : Shared}
/-- list.sort of the list at a, whose items read as ds while it is sorted -/
theorem sort_here {a : Addr} {n : Nat} {vs : List Value} {ds : List D} {R : Value → D → Prop} {Q : Value → Shared → Prop} (ho : s.heap.get? a = some (seqObj "list" vs.toArray n)) (e : PySem.W.EachIs R vs ds) (er : PySem.W.EachIs (fun u d => ∃ as, Reads (PySem.W.sortingHeap s.heap a vs) u d as) vs ds)
    (al : PySem.W.AllAlike ds) (so : PySem.W.Sortable ds) (hl : ds.length ≤ sizeLine) (hu : ∀ d ∈ ds, A.units + 1 + d.depth < cLine) (h : ∀ out : List Value, PySem.W.EachIs R out (sortD ds) → Q .none { s with heap := sortedHeap s.heap a vs out.toArray }) :
    wpAny (model P w) A (call (.builtin "list.sort") [.ref a]) Q E s := by
  have em : ds.map (fun d => d) = ds := List.map_id' ds
  refine PySem.wpAny_call_entry slot_list_sort ⟨_, ho, rfl⟩ entry_list_sort (PySem.W.list_sort_vals (κ := PySem.W.dataKind (PySem.W.sortingHeap s.heap a vs) ds) ho (PySem.W.SortsAt.data (s := { s with heap := PySem.W.sortingHeap s.heap a vs }) er al so fun d hd => hu d hd) (by rw [e.length]; exact hl) ⟨.none, rfl, ?_⟩) (args_list_sort _)
  refine h _ ?_
  have q := PySem.W.sortVals_data (h' := PySem.W.sortingHeap s.heap a vs) (enc := fun d : D => d) false e er (by rw [em]; exact al)
  rw [em, ← dLe_eq, ← isort_merge dLe_total] at q
  exact q
end
section
variable {X : Cx} {a : Expr} {p p2 q pos : Pos}
/-- sorted of a set just made -/
theorem sorted_new {pins : List (Addr × Obj)} {σ : L2.St} {H F : Hp} {s : Shared} {m : Bool} {S : Addr} {L : List (Value × SK)} {Q : VK} (I : Inv X pins σ H s) (sF : Same F H) (hc : X.calm = true) (hu : X.A.units + 100 < cLine) (g : GSet X.prog X.w s.heap S m L) (tr : ∀ p ∈ L, ∃ v, RelV v p.1 ∧ Tr X.K F v p.2.d)
    (al : PySem.W.AllAlike (L.map fun p => p.2.d)) (so : PySem.W.Sortable (L.map fun p => p.2.d)) (dp : ∀ p ∈ L, p.2.d.depth ≤ 64) (one : ∀ L1 : List (Value × SK), L1.Perm L → sortD (L1.map fun p => p.2.d) = sortD (L.map fun p => p.2.d))
    (q : ∀ pl vs, H pl = none → TrAll X.K F vs (sortD (L.map fun p => p.2.d)) → Q (.ref pl) (upd H pl (.lst vs))) :
    wpAny (model X.prog X.w) X.A (call (.builtin "sorted") [.ref S]) (EP X pins σ Q) X.xe s := by
  obtain ⟨o, es, ep, t, ho, hex, hd, T⟩ := g.ex
  have few := g.few
  have hsz := T.size
  refine Calls.call_function_entry kind_sorted plain_sorted entry_sorted (args_sorted1 _) ?_
  unfold Builtin.«sorted»
  refine wpAny_bind (m := checkCount "sorted" 1 1 _) (wpAny_pure ?_)
  refine wpAny_bind (collect_set (A := X.A.in1) (I.ok.hd hc) ⟨o, ho, hex.1, hd⟩ T.fit (few_scan (by omega)) T.ris T.led fun s1 vs k1 hz g1 o1 pm => ?_)
  rw [T.rows, List.map_map] at pm
  obtain ⟨L1, e1, p1⟩ := perm_lift (f := fun p : Value × SK => p.1) pm (L0 := L) rfl
  have hl1 : L1.length < 64 := by rw [p1.length_eq]; exact few
  have hvl : vs.length = L1.length := by rw [e1, List.length_map]
  refine wpAny_bind (wpAny_newList ?_ (by rw [sizeLine_eq]; omega))
  have hoL : (s1.heap.push (seqObj "list" vs.toArray 0)).get? s1.heap.objs.size = some (seqObj "list" vs.toArray 0) := Heap.get?_push_size _ rfl
  have ea : ∀ M : List (Value × SK), (∀ p ∈ M, p ∈ L) → PySem.W.EachIs (fun u d => ∃ v, RelV v u ∧ Tr X.K F v d) (M.map (·.1)) (M.map fun p => p.2.d) := by
    intro M
    induction M with
    | nil => exact fun _ => .nil
    | cons p M ih => exact fun hM => .cons (tr p (hM p List.mem_cons_self)) (ih fun r hr => hM r (List.mem_cons_of_mem _ hr))
  have e2 : PySem.W.EachIs (fun u d => ∃ v, RelV v u ∧ Tr X.K F v d) vs (L1.map fun p => p.2.d) := by
    rw [e1]
    exact ea L1 fun r hr => p1.mem_iff.mp hr
  have pmd : (L1.map fun p => p.2.d).Perm (L.map fun p => p.2.d) := p1.map _
  refine wpAny_bind (wpAny_holding (sort_here (s := { s1 with heap := s1.heap.push (seqObj "list" vs.toArray 0) }) hoL e2 ?_ ?_ ?_ ?_ ?_ fun out eo => ?_))
  · refine (each_reads I sF (fun d hd => by
      obtain ⟨p, _, rfl⟩ := List.mem_map.mp hd
      exact sk_plain p.2) e2).mono fun u d ⟨as, r⟩ => ⟨as, PyProof.Rows.Reads.keeps (fun b ob eb => ?_) r⟩
    exact PySem.W.sortingHeap_old (Nat.ne_of_lt (Heap.lt_size (k1 b ob eb))) (Heap.get?_push_of_some _ (k1 b ob eb))
  · exact fun d hd e he => al d (pmd.mem_iff.mp hd) e (pmd.mem_iff.mp he)
  · exact so.imp (fun h d hd => h d (pmd.mem_iff.mp hd)) fun h d hd => h d (pmd.mem_iff.mp hd)
  · rw [List.length_map, sizeLine_eq]
    omega
  · intro d hd
    obtain ⟨r, hr, rfl⟩ := List.mem_map.mp hd
    have := dp r (p1.mem_iff.mp hr)
    have h1 : X.A.in1.units ≤ X.A.units + 1 := by first | exact Nat.le_refl _ | exact Nat.le_succ _ | simp
    show X.A.in1.units + 1 + r.2.d.depth < cLine
    omega
  · rw [one L1 p1] at eo
    obtain ⟨ws, r2, t2⟩ := each_vals eo
    obtain ⟨c, hcc⟩ := sortedHeap_at (vs := vs) (out := out.toArray) hoL
    have k2 : ∀ b u, s.heap.get? b = some u → (sortedHeap (s1.heap.push (seqObj "list" vs.toArray 0)) s1.heap.objs.size vs out.toArray).get? b = some u := fun b u eb => by
      have hlt := Heap.lt_size (k1 b u eb)
      rw [sortedHeap_old (Nat.ne_of_lt hlt) (by rw [size_push']; exact Nat.lt_succ_of_lt hlt)]
      exact Heap.get?_push_of_some _ (k1 b u eb)
    have hn : H s1.heap.objs.size = none := I.hok.fresh hz
    have hlen : ws.length ≤ sizeLine := by
      rw [da_length t2]
      unfold sortD
      rw [isort_len, List.length_map, sizeLine_eq]
      omega
    have J : Inv X pins σ (upd H s1.heap.objs.size (.lst ws)) { s1 with heap := sortedHeap (s1.heap.push (seqObj "list" vs.toArray 0)) s1.heap.objs.size vs out.toArray } :=
      I.call' (ch := []) o1 (Un.laid k2 hz hn) (I.hok.laid k2 hz ⟨hlen, out, c, r2, hcc⟩) (by rw [show ({ s1 with heap := sortedHeap (s1.heap.push (seqObj "list" vs.toArray 0)) s1.heap.objs.size vs out.toArray } : Shared).gens = s.gens from g1]; exact I.bare) (fun _ z => nomatch z)
    exact wpAny_pure ⟨_, rfl, .ref s1.heap.objs.size, _, J, rfl, q _ ws hn t2⟩

/-- the set of a list or a tuple -/
theorem set_new {pins : List (Addr × Obj)} {σ : L2.St} {H F : Hp} {s : Shared} {v : V} {u : Value} {d : D} {xs : List D} {ks : List SK} {Q : Value → Shared → Prop} {E : Value → Shared → Prop} (I : Inv X pins σ H s) (sF : Same F H) (hc : X.calm = true) (hu : X.A.units + 100 < cLine) (l : Lnt X.K F H v d) (hd : d = .list xs ∨ d = .tuple xs) (r : RelV v u) (hk : toSKs xs = some ks) (ok : setOk xs ks = true)
    (q : ∀ (s' : Shared) (m : Bool) (S : Addr) (L : List (Value × SK)), Inv X pins σ H s' → GSet X.prog X.w s'.heap S m L → (∀ p ∈ L, ∃ v, RelV v p.1 ∧ Tr X.K F v p.2.d) → (∀ x, x ∈ L.map (·.2) ↔ x ∈ ks) → Q (.ref S) s') :
    wpAny (model X.prog X.w) X.A (call (.type "set") [u]) Q E s := by
  unfold setOk at ok
  rw [Bool.and_eq_true, Bool.and_eq_true, Bool.or_eq_true, Bool.or_eq_true, decide_eq_true_eq, decide_eq_true_eq] at ok
  obtain ⟨⟨few, md⟩, _⟩ := ok
  have mode : ∃ m, ∀ x ∈ ks, x.tup = m := by
    rcases md with h | h
    · refine ⟨false, fun x hx => ?_⟩
      have e := List.all_eq_true.mp h x hx
      rwa [Bool.not_eq_true'] at e
    · exact ⟨true, fun x hx => List.all_eq_true.mp h x hx⟩
  obtain ⟨m, hm⟩ := mode
  have fin : ∀ {vs : List V} {its : List Value}, TrAll X.K F vs xs → Vals vs its → ∃ zs : List (Value × SK), its = zs.map (·.1) ∧ ks = zs.map (·.2) ∧ (∀ p ∈ zs, p.2.sd X.prog X.w s.heap p.1) ∧ (∀ p ∈ zs, p.2.tup = m) ∧ FewS zs ∧
      ∀ (h' : Heap) (tk : Nat) (L : List (Value × SK)), GSet X.prog X.w h' s.heap.objs.size m L → Brought zs zs.length L → (∀ b o, s.heap.get? b = some o → h'.get? b = some o) → Q (.ref s.heap.objs.size) { s with heap := h', toks := tk } := fun {vs its} t rv => by
    obtain ⟨zs, e1, e2, e3⟩ := members I sF t hk rv
    refine ⟨zs, e1, e2, fun p hp => (e3 p hp).1, fun p hp => hm p.2 (by rw [e2]; exact List.mem_map.mpr ⟨p, hp, rfl⟩), ?_, fun h' tk L g br kp => q _ m _ L (I.kept kp) g (fun p hp => (e3 p (List.mem_of_mem_take (br.sub p hp))).2) fun x => ?_⟩
    · rcases few with few | few
      · have h1 := congrArg List.length e1
        rw [List.length_map, ← rv.length, da_length t] at h1
        exact .inl (by omega)
      · refine .inr fun L hn hL => Nat.lt_of_le_of_lt (nd_le hn fun x hx => ddS_mem.mpr ?_) few
        rw [e2]
        exact hL x hx
    · rw [e2]
      constructor
      · intro hx
        obtain ⟨p, hp, rfl⟩ := List.mem_map.mp hx
        exact List.mem_map.mpr ⟨p, List.mem_of_mem_take (br.sub p hp), rfl⟩
      · intro hx
        obtain ⟨p, hp, rfl⟩ := List.mem_map.mp hx
        exact br.all p (by rw [List.take_length]; exact hp)
  rcases hd with rfl | rfl
  · obtain ⟨a, ws, rfl, h1, t1⟩ := lnt_list sF l
    cases r
    obtain ⟨z, its, n, r1, hl, o1⟩ := rd_list I h1
    obtain ⟨zs, e1, _, e3, e4, e5, e6⟩ := fin t1 r1
    exact set_of_list m zs (I.ok.hd hc) ⟨_, o1, rfl, n, rfl⟩ (by simpa using e1) e3 e4 e5 (by omega) e6
  · rcases l with l | ⟨a, ws, ds, _, e, _⟩ | ⟨a, ws, ds, _, e, _⟩
    · cases l with
      | @tup a ws _ g1 g2 =>
        cases r
        obtain ⟨its, rv, hT, _⟩ := I.tuple (same_tup sF g1)
        obtain ⟨zs, e1, _, e3, e4, e5, e6⟩ := fin g2 rv
        exact set_of_tuple m zs (I.ok.hd hc) (show s.heap.IsTuple a its.toArray from hT) (by simpa using e1) e3 e4 e5 (by omega) e6
    · cases e
    · cases e
theorem sset_parts {xs : List D} {ks : List SK} (hk : toSKs xs = some ks) (ok : setOk xs ks = true) : PySem.W.AllAlike xs ∧ PySem.W.Sortable xs ∧ (∀ d ∈ xs, d.depth ≤ 64) ∧ ∀ {L : List SK}, (∀ x, x ∈ L ↔ x ∈ ks) → ∀ d, d ∈ L.map SK.d → d ∈ xs := by
  unfold setOk at ok
  rw [Bool.and_eq_true] at ok
  obtain ⟨al, so, dp, _⟩ := sortOk_is ok.2
  refine ⟨al, so, dp, fun {L} hL d hd => ?_⟩
  obtain ⟨x, hx, rfl⟩ := List.mem_map.mp hd
  rw [toSKs_d hk]
  exact List.mem_map.mpr ⟨x, (hL x).mp hx, rfl⟩
/-- the operand of the inner call -/
theorem set_arg {m : MR} {g : List D → Option O} {σ : L2.St} {H : Hp} {Q : VK} (h : tO np X.K (mOp g [m]) σ H Q) (hg : ∀ ds o, g ds = some o → ∃ d xs, ds = [d] ∧ (d = .list xs ∨ d = .tuple xs)) : tR np X.K m σ H fun v H1 => ∃ F1 G s1 ps1 d xs o, Rel np X.K F1 G s1 σ H1 ps1 ∧ Lnt X.K F1 H1 v d ∧ (d = .list xs ∨ d = .tuple xs) ∧ g [d] = some o ∧
    ∀ v H' F' ps' as, Rel np X.K F' G s1 σ H' ps' → Same F1 F' → Own X.K F' H' v o as → as.Nodup → (∀ a ∈ as, F' a = none ∧ G.h a = none ∧ a ∉ ps'.flatten) → Q v H' := by
  obtain ⟨F, G, s, ps, R, o, s', hm, q⟩ := h
  obtain ⟨⟨rs, s1⟩, h1, h2⟩ := bind_some hm
  obtain ⟨ds, h3, h4⟩ := bind_some h2
  obtain ⟨o', h5, h6⟩ := map_some h4
  cases h6
  obtain ⟨⟨r, s2⟩, e1, e2⟩ := bind_some h1
  obtain ⟨⟨rs', s3⟩, e3, e4⟩ := map_some e2
  cases e3
  cases e4
  obtain ⟨d, xs, rfl, hd⟩ := hg _ _ h5
  obtain ⟨d', k1, k2⟩ := bind_some h3
  obtain ⟨ds', k3, k4⟩ := map_some k2
  cases k3
  cases k4
  exact ⟨F, G, s, ps, R, r, s2, e1, fun v H1 F1 ps1 R1 s01 hv => ⟨F1, G, s2, ps1, d, xs, o, R1, look_lnt R1 hv k1, hd, h5, fun v' H' F' ps' as R' sF own nd new => q v' H' F' ps' as R' (s01.trans sF) own nd new⟩⟩
theorem e_sset {m : MR} (hc : X.calm = true) (hu : X.A.units + 100 < cLine) (hg : Gl X "sorted") (hm : X.mg "sorted" = none) (hg2 : Gl X "set") (hm2 : X.mg "set" = none) (ha : PE X a (tR np X.K m))
    (na : starEach [a] X.env = (false, eval a X.env) :: starEach [] X.env := by rfl) : PE X (.Call (.Name "sorted" p) [.Call (.Name "set" p2) [a] [] q] [] pos) (tO np X.K (mOp gSSet [m])) := by
  refine ⟨fun pins s σ H Q I h => ?_⟩
  have ht := set_arg h fun ds o e => by
    unfold gSSet at e
    split at e
    · exact ⟨_, _, rfl, .inl rfl⟩
    · exact ⟨_, _, rfl, .inr rfl⟩
    · cases e
  refine Call_ (ld_blt I hg hm PyProof.Rows.boot_sorted ?_)
  refine PyProof.Rows.callWith_builtin1 (PyProof.Rows.args_cons ?_ rfl) rfl rfl
  refine Call_ (ld_blt I hg2 hm2 PyProof.Rows.boot_set ?_)
  refine PyProof.Rows.callWith_type1 (PyProof.Rows.args_cons (thn (ha.run pins s σ H _ I ht) fun u s1 ⟨v, H1, I1, r1, F1, G, s2, ps1, d, xs, o, R1, l, hd, ho, q1⟩ => PyProof.Rows.args_nil ?_) na) na rfl
  have ho' : ssetD xs = some o.toList ∧ o = .lst o.toList := by
    rcases hd with rfl | rfl
    · obtain ⟨ys, e1, e2⟩ := map_some (show (ssetD xs).map O.lst = some o from ho)
      subst e2
      exact ⟨e1, rfl⟩
    · obtain ⟨ys, e1, e2⟩ := map_some (show (ssetD xs).map O.lst = some o from ho)
      subst e2
      exact ⟨e1, rfl⟩
  obtain ⟨e1, e2⟩ := ho'
  obtain ⟨ks, hk, e3⟩ := bind_some e1
  obtain ⟨ok, e4⟩ := if_some e3
  refine set_new I1 R1.sF hc hu l hd r1 hk ok fun s' mm S L I2 g tr hL => PyProof.Rows.args_nil ?_
  obtain ⟨al, so, dp, sub⟩ := sset_parts hk ok
  have hLs : ∀ d, d ∈ L.map (fun p => p.2.d) → d ∈ xs := fun d hd => sub hL d (by rwa [List.map_map])
  have alk : ∀ x ∈ ks, ∀ y ∈ ks, PySem.W.alike x.d y.d = true := fun x hx y hy => al _ (by rw [toSKs_d hk]; exact List.mem_map.mpr ⟨x, hx, rfl⟩) _ (by rw [toSKs_d hk]; exact List.mem_map.mpr ⟨y, hy, rfl⟩)
  have one : ∀ L1 : List (Value × SK), L1.Perm L → sortD (L1.map fun p => p.2.d) = ssetK ks := fun L1 p1 => by
    have e := sset_one (L := L1.map (·.2)) alk ((p1.map (·.2)).nodup_iff.mpr g.nd) fun x => (p1.map (·.2)).mem_iff.trans (hL x)
    rwa [List.map_map] at e
  refine sorted_new I2 R1.sF hc hu g tr (fun d hd e he => al d (hLs d hd) e (hLs e he)) (so.imp (fun h d hd => h d (hLs d hd)) fun h d hd => h d (hLs d hd)) (fun p hp => dp _ (hLs _ (List.mem_map.mpr ⟨p, hp, rfl⟩))) (fun L1 p1 => (one L1 p1).trans (one L (.refl L)).symm) fun pl vs hn t => ?_
  rw [one L (.refl L), e4] at t
  obtain ⟨R2, n1, n2, n3⟩ := R1.new (o := .lst vs) hn
  rw [e2] at q1
  refine q1 (.ref pl) _ F1 ps1 [pl] R2 (Same.refl F1) ⟨pl, vs, rfl, upd_same, t, rfl⟩ (by simp) fun b hb => ?_
  rw [List.mem_singleton.mp hb]
  exact ⟨n1, n2, n3⟩
end
end Dv

/-! Small words for the printed texts. -/
namespace Dv
open PySem PySem.Spec PyProof.Rows L2
theorem room_u {k : Nat} {A : Around} (hr : Room k A) : A.units + 100 < cLine := by
  have := hr.un
  omega
theorem fn_none {P : Program} {w : World} {K : PySem.W.Frag} {mg : Str → Option Value} {base : Heap} {k : Nat} {f : Addr} {fd : FuncData} {ps : List Str} : FnOk P w K mg base CX0 k f fd ps (spOf K fun _ => none) :=
  ⟨(fun vs H Q E ⟨_, _, _, _, _, _, _, _, _, _, _, _, h, _⟩ => nomatch h), (fun A outer s H args us vs Q E _ _ _ _ ⟨_, _, _, _, _, _, _, _, _, _, _, _, h, _⟩ => nomatch h)⟩
theorem le_line {n : Nat} (h : Nat.ble n 1000 = true) : n ≤ sizeLine := by
  have := Nat.le_of_ble_eq_true h
  rw [sizeLine_eq]
  omega
/-- a or b, what is own stays own -/
def oOr (a b : MO) : MO := fun s => (a s).bind fun p => (if p.1.fz = true then truthD p.1.toD else none).bind fun k => if k = true then some p else b p.2
theorem own_lnt {K : PySem.W.Frag} {F H : Hp} {v : V} {o : O} {as : List Addr} (h : Own K F H v o as) (hz : o.fz = true) : Lnt K F H v o.toD := by
  cases o with
  | val d => exact .inl h.1
  | lst ds =>
    obtain ⟨a, vs, rfl, e, t, _⟩ := h
    exact .inr (.inl ⟨a, vs, ds, rfl, rfl, e, t⟩)
  | dct ds =>
    obtain ⟨a, vs, rfl, e, t, _⟩ := h
    exact .inr (.inr ⟨a, vs, ds, rfl, rfl, e, t⟩)
  | obj C fs => cases hz
  | hole => cases hz
theorem e_oro {np : Nat} {X : Cx} {a b : Expr} {rest : List Expr} {pos : Pos} {m n : MO} (h : PE X a (tO np X.K m)) (h' : PE X (.BoolOp .Or (b :: rest) pos) (tO np X.K n)) : PE X (.BoolOp .Or (a :: b :: rest) pos) (tO np X.K (oOr m n)) :=
  pe_imp (pe_orT h h') fun σ H Q ⟨F, G, s, ps, R, d, s', hm, q⟩ => by
    obtain ⟨⟨o1, s1⟩, h1, h2⟩ := bind_some hm
    obtain ⟨k, h3, h4⟩ := bind_some h2
    obtain ⟨hz, h3⟩ := if_someO h3
    refine ⟨F, G, s, ps, R, o1, s1, h1, fun v H1 F1 ps1 as R1 s01 own nd new => ⟨k, truV_is R1.sF (own_lnt own hz) h3, ?_⟩⟩
    cases k with
    | false =>
      rw [if_neg Bool.false_ne_true]
      exact ⟨F1, G, s1, ps1, R1, d, s', by rw [if_neg Bool.false_ne_true] at h4; exact h4, fun w' H2 F2 ps2 as2 R2 s12 hw n2 nw2 => q w' H2 F2 ps2 as2 R2 (s01.trans s12) hw n2 nw2⟩
    | true =>
      rw [if_pos rfl]
      rw [if_pos rfl] at h4
      cases h4
      exact q v H1 F1 ps1 as R1 s01 own nd new
theorem e_ono {np : Nat} {X : Cx} {a : Expr} {op : BoolOp} {pos : Pos} {m : MO} (h : PE X a (tO np X.K m)) : PE X (.BoolOp op [a] pos) (tO np X.K m) := pe_one h
end Dv

/-! Calls by keywords in any order. -/
namespace Dv
open PySem PySem.Spec PyProof.Rows L2
variable {np : Nat}
def pick {α : Type} (xs : List α) : List Nat → Option (List α)
  | [] => some []
  | i :: is => (xs[i]?).bind fun x => (pick xs is).map fun ys => x :: ys
theorem pick_vals {vs : List V} {ws : List Value} (r : Vals vs ws) : ∀ {is : List Nat} {vs' : List V}, pick vs is = some vs' → ∃ ws', pick ws is = some ws' ∧ Vals vs' ws'
  | [], vs', h => by
    cases h
    exact ⟨[], rfl, .nil⟩
  | i :: is, vs', h => by
    obtain ⟨v, h1, h2⟩ := bind_some h
    obtain ⟨zs, h3, h4⟩ := map_some h2
    cases h4
    obtain ⟨u, e1, e2⟩ := r.get h1
    obtain ⟨ws', f1, f2⟩ := pick_vals r h3
    exact ⟨u :: ws', by show (ws[i]?).bind _ = _; rw [e1, Option.bind_some, f1]; rfl, .cons e2 f2⟩
/-- the keywords ks bind as the parameters, is: where -/
structure KwP (fd : FuncData) (ps ks : List Str) (is : List Nat) : Prop where
  to : ∀ (s : Shared) (ws ws' : List Value), ws.length = ks.length → pick ws is = some ws' → BindsTo s fd ⟨[], ks.zip ws⟩ (ps.zip ws')
theorem kwp_of {K : PySem.W.Frag} {x qual : Str} {st : Stmt} {f : Addr} {fd : FuncData} {ps ks : List Str} {is : List Nat} (F : Fun K x qual st f fd)
    (h : ∀ (kV doc pm : Value) (an : Option Addr) (cdv ct : Value) (ws ws' : List Value), ws.length = ks.length → pick ws is = some ws' → bindArgs (PySem.W.fnOf x qual (defArgs st) (defBody st) (defScope st) .none kV doc pm an cdv ct) ⟨[], ks.zip ws⟩ = pure (ps.zip ws')) : KwP fd ps ks is := by
  obtain ⟨oc, od, kV, doc, pm, an, cdv, ct, osl, rfl, lk, hcd⟩ := F.ex
  exact ⟨fun s ws ws' hl hp => .of_eq (h kV doc pm an cdv ct ws ws' hl hp)⟩
end Dv

/-! Expressions that leave the slots as they are. -/
namespace Dv
open PySem PySem.Spec PyProof.Rows L2
variable {np : Nat}
abbrev WV := S → Option D
abbrev WO := S → Option O
abbrev WB := S → Option Bool
def tPV (np : Nat) (K : PySem.W.Frag) (m : WV) : TE := fun σ H Q => ∃ F G s ps, Rel np K F G s σ H ps ∧ ∃ d, m s = some d ∧ ∀ v H' F' p', Rel np K F' G s σ H' p' → Same F F' → Same H H' → Tr K F' v d → Q v H'
def tPR (np : Nat) (K : PySem.W.Frag) (m : WV) : TE := fun σ H Q => ∃ F G s ps, Rel np K F G s σ H ps ∧ ∃ d, m s = some d ∧ ∀ v H' F' p', Rel np K F' G s σ H' p' → Same F F' → Same H H' → Lnt K F' H' v d → Q v H'
def tPO (np : Nat) (K : PySem.W.Frag) (m : WO) : TE := fun σ H Q => ∃ F G s ps, Rel np K F G s σ H ps ∧ ∃ o, m s = some o ∧ ∀ v H' F' p' as, Rel np K F' G s σ H' p' → Same F F' → Same H H' → Own K F' H' v o as → as.Nodup →
  (∀ a ∈ as, F' a = none ∧ G.h a = none ∧ a ∉ p'.flatten ∧ H a = none) → Q v H'
def tPB (np : Nat) (K : PySem.W.Frag) (m : WB) : TT := fun σ H Q => ∃ F G s ps, Rel np K F G s σ H ps ∧ ∃ b, m s = some b ∧ ∀ H' F' p', Rel np K F' G s σ H' p' → Same F F' → Same H H' → Q b H'
theorem Lnt.mono {K : PySem.W.Frag} {F F' H H' : Hp} {v : V} {d : D} (h : Lnt K F H v d) (sF : Same F F') (sH : Same H H') : Lnt K F' H' v d := by
  rcases h with h | ⟨a, vs, ds, rfl, rfl, e, t⟩ | ⟨a, vs, ds, rfl, rfl, e, t⟩
  · exact .inl (dp_mono sF d h)
  · exact .inr (.inl ⟨a, vs, ds, rfl, rfl, sH _ _ e, dpAll_mono sF ds t⟩)
  · exact .inr (.inr ⟨a, vs, ds, rfl, rfl, sH _ _ e, dpKv_mono sF ds t⟩)
theorem Out.relP {K : PySem.W.Frag} {F H : Hp} {G : Gd} {s : S} {σ : L2.St} {ps : List (List Addr)} {o : O} {v : V} {H' : Hp} (h : Out K F H o v H') (R : Rel np K F G s σ H ps) : ∃ F' as, Rel np K F' G s σ H' ps ∧ Same F F' ∧ Same H H' ∧ Own K F' H' v o as ∧ as.Nodup ∧ ∀ a ∈ as, F' a = none ∧ G.h a = none ∧ a ∉ ps.flatten ∧ H a = none := by
  cases h with
  | old hd => exact ⟨F, [], R, Same.refl F, Same.refl H, ⟨hd, rfl⟩, List.nodup_nil, fun a ha => nomatch ha⟩
  | @tup ds vs p hp hd =>
    obtain ⟨R', sF⟩ := R.laid (o := .tup vs) hp
    exact ⟨_, [], R', sF, same_of_fresh hp, ⟨.tup (SqT.of upd_same) (dpAll_mono sF ds hd), rfl⟩, List.nodup_nil, fun a ha => nomatch ha⟩
  | @lst ds vs p hp hd =>
    obtain ⟨R', h1, h2, h3⟩ := R.new (o := .lst vs) hp
    refine ⟨F, [p], R', Same.refl F, same_of_fresh hp, ⟨p, vs, rfl, upd_same, hd, rfl⟩, by simp, fun a ha => ?_⟩
    rw [List.mem_singleton.mp ha]
    exact ⟨h1, h2, h3, hp⟩
/-! ### from one to another -/
def lO (m : WO) : MO := fun s => (m s).map fun o => (o, s)
def lV (m : WV) : MV := fun s => (m s).map fun o => (o, s)
def lB (m : WB) : MB := fun s => (m s).map fun o => (o, s)
def wV (m : WV) : WO := fun s => (m s).map .val
def wF (m : WO) : WV := fun s => (m s).bind fun o => if o.fz = true then some o.toD else none
section
variable {X : Cx} {e : Expr}
theorem l_o {m : WO} (h : PE X e (tPO np X.K m)) : PE X e (tO np X.K (lO m)) := pe_imp h fun σ H Q ⟨F, G, s, ps, R, o, s', hm, q⟩ => by
  obtain ⟨o', h1, h2⟩ := map_some hm
  cases h2
  exact ⟨F, G, s, ps, R, o, h1, fun v H' F' p' as R' sF sH own nd new => q v H' F' p' as R' sF own nd fun a ha => ⟨(new a ha).1, (new a ha).2.1, (new a ha).2.2.1⟩⟩
theorem l_v {m : WV} (h : PE X e (tPV np X.K m)) : PE X e (tV np X.K (lV m)) := pe_imp h fun σ H Q ⟨F, G, s, ps, R, o, s', hm, q⟩ => by
  obtain ⟨o', h1, h2⟩ := map_some hm
  cases h2
  exact ⟨F, G, s, ps, R, o, h1, fun v H' F' p' R' sF sH t => q v H' F' p' R' sF t⟩
theorem l_b {m : WB} (h : PT X e (tPB np X.K m)) : PT X e (tB np X.K (lB m)) := pt_imp h fun σ H Q ⟨F, G, s, ps, R, o, s', hm, q⟩ => by
  obtain ⟨o', h1, h2⟩ := map_some hm
  cases h2
  exact ⟨F, G, s, ps, R, o, h1, fun H' F' p' R' sF sH => q H' F' p' R' sF⟩
theorem w_v {m : WV} (h : PE X e (tPV np X.K m)) : PE X e (tPO np X.K (wV m)) := pe_imp h fun σ H Q ⟨F, G, s, ps, R, o, hm, q⟩ => by
  obtain ⟨d, h1, h2⟩ := map_some hm
  subst h2
  exact ⟨F, G, s, ps, R, d, h1, fun v H' F' p' R' sF sH t => q v H' F' p' [] R' sF sH ⟨t, rfl⟩ List.nodup_nil fun a ha => nomatch ha⟩
theorem w_f {m : WO} (h : PE X e (tPO np X.K m)) : PE X e (tPV np X.K (wF m)) := ⟨fun pins s0 σ H Q I ⟨F, G, s, ps, R, d, hm, q⟩ => by
  obtain ⟨o, h1, h2⟩ := bind_some hm
  obtain ⟨hz, h2⟩ := if_some h2
  subst h2
  refine thn (h.run pins s0 σ H (fun v H' => ∃ F' p' as, Rel np X.K F' G s σ H' p' ∧ Same F F' ∧ Same H H' ∧ Own X.K F' H' v o as ∧ as.Nodup ∧ ∀ a ∈ as, F' a = none ∧ G.h a = none ∧ a ∉ p'.flatten ∧ H a = none) I ⟨F, G, s, ps, R, o, h1, fun v H' F' p' as R' sF sH own nd new => ⟨F', p', as, R', sF, sH, own, nd, new⟩⟩) fun u s1 ⟨v, H', I', r, F', p', as, R', sF, sH, own, nd, new⟩ => ?_
  obtain ⟨F2, H2, I2, f1, f2, f3, f4, f5⟩ := own.freeze I' hz R'.sF fun a ha => (new a ha).1
  refine ⟨v, H2, I2, r, q v H2 F2 p' (R'.over2 f1 f2 (fun a u eu => ?_) (fun a u eu => ?_) fun a ha => ?_) (sF.trans f1) (fun a u eu => ?_) f4⟩
  · rw [(f3 a fun z => by rw [(new a z).2.1] at eu; cases eu).2]
    exact R'.sG a u eu
  · rw [(f3 a fun z => by rw [(new a z).2.1] at eu; cases eu).1]
    exact R'.fg a u eu
  · have hn : a ∉ as := fun z => (new a z).2.2.1 ha
    exact ⟨by rw [(f3 a hn).1]; exact (R'.apart a ha).1, fun u eu => by rw [(f3 a hn).2]; exact eu⟩
  · rw [(f3 a fun z => by rw [(new a z).2.2.2] at eu; cases eu).2]
    exact sH a u eu⟩
theorem r_ofV {m : WV} (h : PE X e (tPV np X.K m)) : PE X e (tPR np X.K m) := pe_imp h fun σ H Q ⟨F, G, s, ps, R, d, hm, q⟩ => ⟨F, G, s, ps, R, d, hm, fun v H' F' p' R' sF sH t => q v H' F' p' R' sF sH (.inl t)⟩
/-! ### names, constants -/
def gv (i : Nat) : WV := fun s => match s[i]? with
  | some (some (.val d)) => some d
  | _ => none
def gr (i : Nat) : WV := fun s => match s[i]? with
  | some (some o) => if o.fz = true then some o.toD else none
  | _ => none
theorem gv_some {i : Nat} {s : S} {d : D} (h : gv i s = some d) : s[i]? = some (some (.val d)) := by
  unfold gv at h
  split at h
  · rename_i e
    cases h
    exact e
  · cases h
theorem w_gv {i : Nat} (h : PE X e (tVar i)) : PE X e (tPV np X.K (gv i)) := pe_imp h fun σ H Q ⟨F, G, s, ps, R, d, hm, q⟩ => by
  obtain ⟨v, as, h1, _, h3⟩ := R.at_ i _ (gv_some hm)
  exact ⟨v, h1, q v H F ps R (Same.refl F) (Same.refl H) h3.1⟩
theorem w_gr {i : Nat} (h : PE X e (tVar i)) : PE X e (tPR np X.K (gr i)) := pe_imp h fun σ H Q ⟨F, G, s, ps, R, d, hm, q⟩ => by
  obtain ⟨o, e1, e2⟩ := slot_some (s := s) (i := i) (f := fun o => if o.fz = true then some o.toD else none) hm
  obtain ⟨hz, e2⟩ := if_some e2
  subst e2
  obtain ⟨v, as, h1, _, h3⟩ := R.at_ i o e1
  exact ⟨v, h1, q v H F ps R (Same.refl F) (Same.refl H) (own_lnt h3 hz)⟩
def wC (d : D) : WV := fun _ => some d
theorem w_con {v : V} {d : D} (h : PE X e (tC v)) (hd : ∀ F, Tr X.K F v d) : PE X e (tPV np X.K (wC d)) := pe_imp h fun σ H Q ⟨F, G, s, ps, R, d', hm, q⟩ => by
  cases hm
  exact q v H F ps R (Same.refl F) (Same.refl H) (hd F)
theorem w_int {i : Int} {j : Nat} {pos : Pos} : PE X (.Constant (.int i) j pos) (tPV np X.K (wC (.int i))) := w_con pe_int fun _ => .int i
theorem w_bl {b : Bool} {j : Nat} {pos : Pos} : PE X (.Constant (.bool b) j pos) (tPV np X.K (wC (.bool b))) := w_con pe_bl fun _ => .bl b
theorem w_non {j : Nat} {pos : Pos} : PE X (.Constant .none j pos) (tPV np X.K (wC .none)) := w_con pe_non fun _ => .non
theorem w_str {x : Str} {j : Nat} {pos : Pos} : PE X (.Constant (.str x) j pos) (tPV np X.K (wC (.str x))) := w_con pe_str fun _ => .str x
theorem w_gint {x : Str} {i : Int} {pos : Pos} (hg : Gl X x) (hm : ∃ t : Tok, X.mg x = some (.int i t)) (hd : (x == ("__debug__" : Str)) = false := by decide) : PE X (.Name x pos) (tPV np X.K (wC (.int i))) := let ⟨t, ht⟩ := hm; w_con (pe_glob (v := V.int i) hg ht ⟨t, rfl⟩ hd) fun _ => .int i
theorem w_gstr {x y : Str} {pos : Pos} (hg : Gl X x) (hm : ∃ t : Tok, X.mg x = some (.str y t)) (hd : (x == ("__debug__" : Str)) = false := by decide) : PE X (.Name x pos) (tPV np X.K (wC (.str y))) := let ⟨t, ht⟩ := hm; w_con (pe_glob (v := V.str y) hg ht ⟨t, rfl⟩ hd) fun _ => .str y
/-! ### operands in a row -/
def evP : List WV → S → Option (List D)
  | [], _ => some []
  | m :: ms, s => (m s).bind fun d => (evP ms s).map fun ds => d :: ds
/-- looked at -/
def tPA (np : Nat) (K : PySem.W.Frag) (ms : List WV) : TA := fun σ H Q => ∃ F G s ps, Rel np K F G s σ H ps ∧ ∃ ds, evP ms s = some ds ∧ ∀ vs H' F' p', Rel np K F' G s σ H' p' → Same F F' → Same H H' → LntAll K F' H' vs ds → Q vs H'
/-- frozen, spliced -/
def evS : List (S → Option (List D)) → S → Option (List D)
  | [], _ => some []
  | m :: ms, s => (m s).bind fun d => (evS ms s).map fun ds => d ++ ds
def tPS (np : Nat) (K : PySem.W.Frag) (ms : List (S → Option (List D))) : TA := fun σ H Q => ∃ F G s ps, Rel np K F G s σ H ps ∧ ∃ ds, evS ms s = some ds ∧ ∀ vs H' F' p', Rel np K F' G s σ H' p' → Same F F' → Same H H' → TrAll K F' vs ds → Q vs H'
def s1 (m : WV) : S → Option (List D) := fun s => (m s).map fun d => [d]
variable {es : List Expr}
theorem q_nil : PA X [] (tPA np X.K []) := pa_imp pa_nil fun σ H Q ⟨F, G, s, ps, R, ds, hm, q⟩ => by
  cases hm
  exact q [] H F ps R (Same.refl F) (Same.refl H) trivial
theorem q_cons {m : WV} {ms : List WV} (he : PE X e (tPR np X.K m)) (hs : PA X es (tPA np X.K ms)) (hst : starEach (e :: es) X.env = (false, eval e X.env) :: starEach es X.env := by rfl) : PA X (e :: es) (tPA np X.K (m :: ms)) :=
  pa_imp (pa_cons he hs hst) fun σ H Q ⟨F, G, s, ps, R, ds, hm, q⟩ => by
    obtain ⟨d, h1, h2⟩ := bind_some hm
    obtain ⟨ds', h3, h4⟩ := map_some h2
    subst h4
    exact ⟨F, G, s, ps, R, d, h1, fun v H1 F1 p1 R1 s01 k01 l => ⟨F1, G, s, p1, R1, ds', h3, fun vs H2 F2 p2 R2 s12 k12 ls => q (v :: vs) H2 F2 p2 R2 (s01.trans s12) (k01.trans k12) ⟨l.mono s12 k12, ls⟩⟩⟩
theorem z_nil : PA X [] (tPS np X.K []) := pa_imp pa_nil fun σ H Q ⟨F, G, s, ps, R, ds, hm, q⟩ => by
  cases hm
  exact q [] H F ps R (Same.refl F) (Same.refl H) .nil
theorem z_cons {m : WV} {ms : List (S → Option (List D))} (he : PE X e (tPV np X.K m)) (hs : PA X es (tPS np X.K ms)) (hst : starEach (e :: es) X.env = (false, eval e X.env) :: starEach es X.env := by rfl) : PA X (e :: es) (tPS np X.K (s1 m :: ms)) :=
  pa_imp (pa_cons he hs hst) fun σ H Q ⟨F, G, s, ps, R, ds, hm, q⟩ => by
    obtain ⟨d, h1, h2⟩ := bind_some hm
    obtain ⟨ds', h3, h4⟩ := map_some h2
    subst h4
    obtain ⟨d', h5, h6⟩ := map_some h1
    subst h6
    exact ⟨F, G, s, ps, R, d', h5, fun v H1 F1 p1 R1 s01 k01 l => ⟨F1, G, s, p1, R1, ds', h3, fun vs H2 F2 p2 R2 s12 k12 ls => q (v :: vs) H2 F2 p2 R2 (s01.trans s12) (k01.trans k12) (.cons (dp_mono s12 _ l) ls)⟩⟩
end
/-! ### operations -/
def wOp (g : List D → Option O) (ms : List WV) : WO := fun s => (evP ms s).bind g
section
variable {X : Cx} {a b c e : Expr} {es : List Expr} {ma mb mc : WV} {pos : Pos}
theorem w_opA {K : PySem.W.Frag} {g : List D → Option O} {ms : List WV} {σ : L2.St} {H : Hp} {Q : VK} (h : tPO np K (wOp g ms) σ H Q) : tCB (rG K g) (tPA np K ms) σ H Q := by
  obtain ⟨F, G, s, ps, R, o, hm, q⟩ := h
  obtain ⟨ds, h1, h2⟩ := bind_some hm
  exact ⟨F, G, s, ps, R, ds, h1, fun vs H1 F1 p1 R1 s01 k01 ls => ⟨F1, ds, o, R1.sF, ls, h2, fun v H2 out => by
    obtain ⟨F2, as, R2, s12, k12, own, nd, new⟩ := out.relP R1
    refine q v H2 F2 _ as R2 (s01.trans s12) (k01.trans k12) own nd fun a ha => ?_
    obtain ⟨n1, n2, n3, n4⟩ := new a ha
    exact ⟨n1, n2, n3, k01.free n4⟩⟩⟩
theorem w_op2 {K : PySem.W.Frag} {g : List D → Option O} {σ : L2.St} {H : Hp} {Q : VK} (h : tPO np K (wOp g [ma, mb]) σ H Q) : tOp (r2 K g) (tPR np K ma) (tPR np K mb) σ H Q := by
  obtain ⟨F, G, s, ps, R, o, hm, q⟩ := h
  obtain ⟨ds, h1, h2⟩ := bind_some hm
  obtain ⟨d1, e1, h3⟩ := bind_some h1
  obtain ⟨ds', h4, h5⟩ := map_some h3
  obtain ⟨d2, e2, h6⟩ := bind_some h4
  obtain ⟨ds2, h7, h8⟩ := map_some h6
  cases h7
  subst h8
  subst h5
  refine ⟨F, G, s, ps, R, d1, e1, fun v H1 F1 p1 R1 s01 k01 l1 => ⟨F1, G, s, p1, R1, d2, e2, fun w H2 F2 p2 R2 s12 k12 l2 => ⟨F2, [d1, d2], o, R2.sF, ⟨l1.mono s12 k12, l2, trivial⟩, h2, fun z H3 out => ?_⟩⟩⟩
  obtain ⟨F3, as, R3, s23, k23, own, nd, new⟩ := out.relP R2
  refine q z H3 F3 _ as R3 ((s01.trans s12).trans s23) ((k01.trans k12).trans k23) own nd fun a ha => ?_
  obtain ⟨n1, n2, n3, n4⟩ := new a ha
  exact ⟨n1, n2, n3, (k01.trans k12).free n4⟩
theorem w_bin {op : Operator} {g : List D → Option O} (ho : OpR X (binaryOp op) (r2 X.K g)) (ha : PE X a (tPR np X.K ma)) (hb : PE X b (tPR np X.K mb)) : PE X (.BinOp a op b pos) (tPO np X.K (wOp g [ma, mb])) :=
  pe_imp (pe_op ho ha hb) fun _ _ _ => w_op2
theorem w_cmp {op : CmpOp} {g : List D → Option O} (ho : OpR X (compareOp op) (r2 X.K g)) (ha : PE X a (tPR np X.K ma)) (hb : PE X b (tPR np X.K mb)) (hm : behindInMarks op b = false := by first | exact nomark _ | rfl) : PE X (.Compare a [op] [b] pos) (tPO np X.K (wOp g [ma, mb])) :=
  pe_imp (pe_cmpR ho ha hb hm) fun _ _ _ => w_op2
/-! ### as tests -/
def wBo (m : WO) : WB := fun s => (m s).bind oBl
theorem w_bo {K : PySem.W.Frag} {m : WO} {t : TE} {σ : L2.St} {H : Hp} {Q : Bool → Hp → Prop} (ht : ∀ {Q : VK}, tPO np K m σ H Q → t σ H Q) (h : tPB np K (wBo m) σ H Q) : tTest t σ H Q := by
  obtain ⟨F, G, s, ps, R, k, hm, q⟩ := h
  obtain ⟨o, h1, h2⟩ := bind_some hm
  have eo := oBl_some h2
  subst eo
  exact ht ⟨F, G, s, ps, R, .val (.bool k), h1, fun v H1 F1 p1 as R1 s01 k01 own nd new => by
    obtain ⟨t, _⟩ := own
    cases t
    exact ⟨k, rfl, q H1 F1 p1 R1 s01 k01⟩⟩
theorem b_cmp {op : CmpOp} {g : List D → Option O} (ho : OpR X (compareOp op) (r2 X.K g)) (ha : PE X a (tPR np X.K ma)) (hb : PE X b (tPR np X.K mb)) (hm : behindInMarks op b = false := by first | exact nomark _ | rfl) : PT X (.Compare a [op] [b] pos) (tPB np X.K (wBo (wOp g [ma, mb]))) :=
  pt_imp (pt_cmpR ho ha hb hm) fun _ _ _ => w_bo w_op2
/-- a op b op' c -/
def wChain (g g' : List D → Option O) (ma mb mc : WV) : WO := fun s => (evP [ma, mb] s).bind fun ds => (g ds).bind fun o => (oBl o).bind fun k => if k = true then (evP [mb, mc] s).bind g' else some (.val (.bool false))
theorem ev2 {s : S} {ds : List D} (h : evP [ma, mb] s = some ds) : ∃ d1 d2, ma s = some d1 ∧ mb s = some d2 ∧ ds = [d1, d2] := by
  obtain ⟨d1, e1, h3⟩ := bind_some h
  obtain ⟨ds', h4, h5⟩ := map_some h3
  obtain ⟨d2, e2, h6⟩ := bind_some h4
  obtain ⟨ds2, h7, h8⟩ := map_some h6
  cases h7
  subst h8
  subst h5
  exact ⟨d1, d2, e1, e2, rfl⟩
theorem chainP_done {K : PySem.W.Frag} {g g' : List D → Option O} {σ : L2.St} {H : Hp} {Q : VK} (h : tPO np K (wChain g g' ma mb mc) σ H Q) : tChain (r2 K g) (r2 K g') (tPR np K ma) (tPR np K mb) (tPR np K mc) σ H Q := by
  obtain ⟨F, G, s, ps, R, o, hm, q⟩ := h
  obtain ⟨ds, h1, h2⟩ := bind_some hm
  obtain ⟨o1, h3, h4⟩ := bind_some h2
  obtain ⟨k, h5, h6⟩ := bind_some h4
  have eo := oBl_some h5
  subst eo
  obtain ⟨d1, d2, e1, e2, rfl⟩ := ev2 h1
  refine ⟨F, G, s, ps, R, d1, e1, fun v H1 F1 p1 R1 s01 k01 l1 => ⟨F1, G, s, p1, R1, d2, e2, fun w H2 F2 p2 R2 s12 k12 l2 => ⟨F2, [d1, d2], .val (.bool k), R2.sF, ⟨l1.mono s12 k12, l2, trivial⟩, h3, fun z H3 out => ?_⟩⟩⟩
  obtain ⟨F3, as, R3, s23, k23, own, nd, new⟩ := out.relP R2
  obtain ⟨t, rfl⟩ := own
  cases t
  refine ⟨k, rfl, ?_⟩
  rcases if_split h6 with ⟨rfl, h7⟩ | ⟨rfl, h7⟩
  · obtain ⟨es, h8, h9⟩ := bind_some h7
    obtain ⟨d2', d3, e2', e3, rfl⟩ := ev2 h8
    rw [e2] at e2'
    cases e2'
    refine iteT ⟨F3, G, s, _, R3, d3, e3, fun u H4 F4 p4 R4 s34 k34 l3 => ⟨F4, [d2, d3], o, R4.sF, ⟨l2.mono (s23.trans s34) (k23.trans k34), l3, trivial⟩, h9, fun z H5 out => ?_⟩⟩
    obtain ⟨F5, as, R5, s45, k45, own, nd, new⟩ := out.relP R4
    refine q z H5 F5 _ as R5 (s01.trans (s12.trans (s23.trans (s34.trans s45)))) (k01.trans (k12.trans (k23.trans (k34.trans k45)))) own nd fun a ha => ?_
    obtain ⟨n1, n2, n3, n4⟩ := new a ha
    exact ⟨n1, n2, n3, (k01.trans (k12.trans (k23.trans k34))).free n4⟩
  · cases h7
    exact iteF (q _ H3 F3 _ [] R3 (s01.trans (s12.trans s23)) (k01.trans (k12.trans k23)) ⟨.bl _, rfl⟩ List.nodup_nil fun a ha => nomatch ha)
theorem w_chain {op op' : CmpOp} {g g' : List D → Option O} (ho : OpR X (compareOp op) (r2 X.K g)) (ho' : OpR X (compareOp op') (r2 X.K g')) (ha : PE X a (tPR np X.K ma)) (hb : PE X b (tPR np X.K mb)) (hc : PE X c (tPR np X.K mc)) (hm : lastMarks [op, op'] [b, c] = false := by with_unfolding_all rfl) :
    PE X (.Compare a [op, op'] [b, c] pos) (tPO np X.K (wChain g g' ma mb mc)) := pe_imp (pe_chain ho ho' ha hb hc hm) fun _ _ _ => chainP_done
theorem b_chain {op op' : CmpOp} {g g' : List D → Option O} (ho : OpR X (compareOp op) (r2 X.K g)) (ho' : OpR X (compareOp op') (r2 X.K g')) (ha : PE X a (tPR np X.K ma)) (hb : PE X b (tPR np X.K mb)) (hc : PE X c (tPR np X.K mc)) (hm : lastMarks [op, op'] [b, c] = false := by with_unfolding_all rfl) :
    PT X (.Compare a [op, op'] [b, c] pos) (tPB np X.K (wBo (wChain g g' ma mb mc))) := pt_imp (pt_chain ho ho' ha hb hc hm) fun _ _ _ => w_bo chainP_done
def wTru (m : WV) : WB := fun s => (m s).bind truthD
def wAnd (a b : WB) : WB := fun s => (a s).bind fun k => if k = true then b s else some false
def wOr (a b : WB) : WB := fun s => (a s).bind fun k => if k = true then some true else b s
def wNot (a : WB) : WB := fun s => (a s).map (!·)
theorem b_tru {m : WV} (h : PE X e (tPR np X.K m)) (he : ∀ whole, isTrue e X.env whole = (do let v ← whole; standAt e.pos; holding [v] (truthy v)) := by intro _; rfl) : PT X e (tPB np X.K (wTru m)) :=
  pt_imp (pt_truth h he) fun σ H Q ⟨F, G, s, ps, R, k, hm, q⟩ => by
    obtain ⟨d, h1, h2⟩ := bind_some hm
    exact ⟨F, G, s, ps, R, d, h1, fun v H1 F1 p1 R1 s01 k01 l => ⟨k, truV_is R1.sF l h2, q H1 F1 p1 R1 s01 k01⟩⟩
theorem b_not {m : WB} (h : PT X a (tPB np X.K m)) : PT X (.UnaryOp .Not a pos) (tPB np X.K (wNot m)) :=
  pt_imp (pt_not h) fun σ H Q ⟨F, G, s, ps, R, k, hm, q⟩ => by
    obtain ⟨k', h1, h2⟩ := map_some hm
    subst h2
    exact ⟨F, G, s, ps, R, k', h1, fun H1 F1 p1 R1 s01 k01 => q H1 F1 p1 R1 s01 k01⟩
variable {rest : List Expr}
theorem b_and1 {m : WB} (h : PT X a (tPB np X.K m)) : PW X (.BoolOp .And [a] pos) (tPB np X.K m) := pw_and1 h
theorem b_or1 {m : WB} (h : PT X a (tPB np X.K m)) : PW X (.BoolOp .Or [a] pos) (tPB np X.K m) := pw_or1 h
theorem b_and {m n : WB} (h : PT X a (tPB np X.K m)) (h' : PW X (.BoolOp .And (b :: rest) pos) (tPB np X.K n)) : PW X (.BoolOp .And (a :: b :: rest) pos) (tPB np X.K (wAnd m n)) :=
  pw_imp (pw_and h h') fun σ H Q ⟨F, G, s, ps, R, k, hm, q⟩ => by
    obtain ⟨k1, h1, h2⟩ := bind_some hm
    refine ⟨F, G, s, ps, R, k1, h1, fun H1 F1 p1 R1 s01 k01 => ?_⟩
    rcases if_split h2 with ⟨rfl, h3⟩ | ⟨rfl, h3⟩
    · exact iteT ⟨F1, G, s, p1, R1, k, h3, fun H2 F2 p2 R2 s12 k12 => q H2 F2 p2 R2 (s01.trans s12) (k01.trans k12)⟩
    · cases h3
      exact iteF (q H1 F1 p1 R1 s01 k01)
theorem b_or {m n : WB} (h : PT X a (tPB np X.K m)) (h' : PW X (.BoolOp .Or (b :: rest) pos) (tPB np X.K n)) : PW X (.BoolOp .Or (a :: b :: rest) pos) (tPB np X.K (wOr m n)) :=
  pw_imp (pw_or h h') fun σ H Q ⟨F, G, s, ps, R, k, hm, q⟩ => by
    obtain ⟨k1, h1, h2⟩ := bind_some hm
    refine ⟨F, G, s, ps, R, k1, h1, fun H1 F1 p1 R1 s01 k01 => ?_⟩
    rcases if_split h2 with ⟨rfl, h3⟩ | ⟨rfl, h3⟩
    · cases h3
      exact iteT (q H1 F1 p1 R1 s01 k01)
    · exact iteF ⟨F1, G, s, p1, R1, k, h3, fun H2 F2 p2 R2 s12 k12 => q H2 F2 p2 R2 (s01.trans s12) (k01.trans k12)⟩
theorem b_of_w {t : TT} (h : PW X e t) : PT X e t := t_of_w h
/-! ### and, or, not, if as values -/
def wvAnd (a b : WV) : WV := fun s => (a s).bind fun d => (truthD d).bind fun k => if k = true then b s else some d
def wvNot (a : WV) : WV := fun s => (a s).bind fun d => (truthD d).map fun k => .bool (!k)
theorem w_one {op : BoolOp} {m : WV} (h : PE X a (tPV np X.K m)) : PE X (.BoolOp op [a] pos) (tPV np X.K m) := pe_one h
theorem w_andv {m n : WV} (h : PE X a (tPV np X.K m)) (h' : PE X (.BoolOp .And (b :: rest) pos) (tPV np X.K n)) : PE X (.BoolOp .And (a :: b :: rest) pos) (tPV np X.K (wvAnd m n)) :=
  pe_imp (pe_andT h h') fun σ H Q ⟨F, G, s, ps, R, d, hm, q⟩ => by
    obtain ⟨d1, h1, h2⟩ := bind_some hm
    obtain ⟨k, h3, h4⟩ := bind_some h2
    refine ⟨F, G, s, ps, R, d1, h1, fun v H1 F1 p1 R1 s01 k01 hv => ⟨k, truV_is R1.sF (.inl hv) h3, ?_⟩⟩
    rcases if_split h4 with ⟨rfl, h5⟩ | ⟨rfl, h5⟩
    · exact iteT ⟨F1, G, s, p1, R1, d, h5, fun w' H2 F2 p2 R2 s12 k12 hw => q w' H2 F2 p2 R2 (s01.trans s12) (k01.trans k12) hw⟩
    · cases h5
      exact iteF (q v H1 F1 p1 R1 s01 k01 hv)
theorem w_not {m : WV} (h : PE X a (tPR np X.K m)) : PE X (.UnaryOp .Not a pos) (tPV np X.K (wvNot m)) :=
  pe_imp (pe_notT h) fun σ H Q ⟨F, G, s, ps, R, d, hm, q⟩ => by
    obtain ⟨d1, h1, h2⟩ := bind_some hm
    obtain ⟨k, h5, h6⟩ := map_some h2
    subst h6
    exact ⟨F, G, s, ps, R, d1, h1, fun v H1 F1 p1 R1 s01 k01 hv => ⟨k, truV_is R1.sF hv h5, q _ H1 F1 p1 R1 s01 k01 (.bl _)⟩⟩
/-! ### displays -/
def wTup (ms : List (S → Option (List D))) : WV := fun s => (evS ms s).bind fun ds => if ds.length ≤ sizeLine then some (.tuple ds) else none
def wLst (ms : List (S → Option (List D))) : WO := fun s => (evS ms s).bind fun ds => if ds.length ≤ sizeLine then some (.lst ds) else none
theorem w_tup {x1 : Nat} {ms : List (S → Option (List D))} (h : PA X es (tPS np X.K ms)) : PE X (.Tuple es x1 pos) (tPV np X.K (wTup ms)) :=
  pe_imp (pe_tup h) fun σ H Q ⟨F, G, s, ps, R, d, hm, q⟩ => by
    obtain ⟨ds, h1, h2⟩ := bind_some hm
    obtain ⟨hl, h2⟩ := if_some h2
    subst h2
    refine ⟨F, G, s, ps, R, ds, h1, fun vs H1 F1 p1 R1 s01 k01 t => ⟨by rw [da_length t]; exact hl, fun p hp => ?_⟩⟩
    obtain ⟨R2, s12⟩ := R1.laid (o := .tup vs) hp
    exact q _ _ _ _ R2 (s01.trans s12) (k01.trans (same_of_fresh hp)) (.tup (SqT.of upd_same) (dpAll_mono s12 ds t))
theorem w_lst {ms : List (S → Option (List D))} (h : PA X es (tPS np X.K ms)) : PE X (.List es pos) (tPO np X.K (wLst ms)) :=
  pe_imp (pe_lst h) fun σ H Q ⟨F, G, s, ps, R, o, hm, q⟩ => by
    obtain ⟨ds, h1, h2⟩ := bind_some hm
    obtain ⟨hl, h2⟩ := if_some h2
    subst h2
    refine ⟨F, G, s, ps, R, ds, h1, fun vs H1 F1 p1 R1 s01 k01 t => ⟨by rw [da_length t]; exact hl, fun p hp => ?_⟩⟩
    obtain ⟨R2, n1, n2, n3⟩ := R1.new (o := .lst vs) hp
    refine q _ _ _ p1 [p] R2 s01 (k01.trans (same_of_fresh hp)) ⟨p, vs, rfl, upd_same, t, rfl⟩ (by simp) fun a ha => ?_
    rw [List.mem_singleton.mp ha]
    exact ⟨n1, n2, n3, k01.free hp⟩
end
end Dv

/-! Dicts by trees: what is read. -/
namespace Dv
open PySem PySem.Spec PyProof.Rows L2
variable {np : Nat}
/-! ### pairs -/
theorem toKey_kD : ∀ k : Key, toKey (kD k) = some k
  | .inl _ => rfl
  | .inr _ => rfl
theorem toKey_kV {d : D} {k : Key} (h : toKey d = some k) : d = kD k := by
  cases d <;> cases h <;> rfl
def getK (k : Key) : List (D × D) → Option D
  | [] => none
  | (a, b) :: r => if toKey a = some k then some b else getK k r
def hasK (k : Key) (ds : List (D × D)) : Bool := (getK k ds).isSome
def setK (k : Key) (d : D) : List (D × D) → List (D × D)
  | [] => [(kD k, d)]
  | (a, b) :: r => if toKey a = some k then (a, d) :: r else (a, b) :: setK k d r
section
variable {K : PySem.W.Frag} {F H : Hp}
theorem getK_tr {k : Key} : ∀ {kvs : List (Key × V)} {ds : List (D × D)}, TrKv K F kvs ds → (valV kvs k = none ∧ getK k ds = none) ∨ ∃ v d, valV kvs k = some v ∧ getK k ds = some d ∧ Tr K F v d
  | _, _, .nil => .inl ⟨rfl, rfl⟩
  | _, _, .cons (k := j) (v := v) (d := d) t r => by
    by_cases c : j = k
    · subst c
      refine .inr ⟨v, d, valV_pos rfl, ?_, t⟩
      unfold getK
      rw [if_pos (toKey_kD j)]
    · have hn : ¬ toKey (kD j) = some k := fun z => c (by rw [toKey_kD] at z; exact Option.some.inj z)
      unfold getK
      rw [if_neg hn, valV_neg c]
      exact getK_tr r
theorem dkv_len : ∀ {kvs : List (Key × V)} {ds : List (D × D)}, TrKv K F kvs ds → kvs.length = ds.length
  | _, _, .nil => rfl
  | _, _, .cons _ r => congrArg (· + 1) (dkv_len r)
theorem dkv_keys : ∀ {kvs : List (Key × V)} {ds : List (D × D)}, TrKv K F kvs ds → TrAll K F (kvs.map fun kv => kV kv.1) (ds.map (·.1))
  | _, _, .nil => .nil
  | _, _, .cons (k := k) t r => .cons (by cases k <;> first | exact .int _ | exact .str _) (dkv_keys r)
theorem putK_one {k : Key} {v : V} : ∀ {kvs : List (Key × V)}, (kvs.map (·.1)).Nodup → putK kvs k v = match kvs with
    | [] => [(k, v)]
    | (j, u) :: r => if j = k then (j, v) :: r else (j, u) :: putK r k v
  | [], _ => by simp [putK]
  | (j, u) :: r, nd => by
    rw [List.map_cons, List.nodup_cons] at nd
    by_cases c : j = k
    · subst c
      have hr : ∀ p ∈ r, ¬ p.1 = j := fun p hp e => nd.1 (by rw [← e]; exact List.mem_map.mpr ⟨p, hp, rfl⟩)
      have hm : (r.map fun kv => if kv.1 = j then (kv.1, v) else kv) = r := by
        refine (List.map_congr_left fun p hp => if_neg (hr p hp)).trans (List.map_id' r)
      simp [putK, hm]
    · have e1 : (((j, u) :: r).any fun kv => decide (kv.1 = k)) = r.any fun kv => decide (kv.1 = k) := by
        rw [List.any_cons, decide_eq_false c, Bool.false_or]
      dsimp only
      rw [if_neg c]
      unfold putK
      rw [e1]
      by_cases h : (r.any fun kv => decide (kv.1 = k)) = true
      · rw [if_pos h, if_pos h, List.map_cons, if_neg c]
      · rw [if_neg h, if_neg h]
        rfl
theorem setK_tr {k : Key} {v : V} {d : D} (t : Tr K F v d) : ∀ {kvs : List (Key × V)} {ds : List (D × D)}, TrKv K F kvs ds → (kvs.map (·.1)).Nodup → TrKv K F (putK kvs k v) (setK k d ds)
  | _, _, .nil, nd => by
    rw [putK_one nd]
    exact .cons t .nil
  | _, _, .cons (k := j) (v := u) (d := b) tb r, nd => by
    rw [putK_one nd]
    have nd' := nd
    rw [List.map_cons, List.nodup_cons] at nd'
    by_cases c : j = k
    · subst c
      unfold setK
      rw [if_pos (toKey_kD j)]
      dsimp only
      rw [if_pos rfl]
      exact .cons t r
    · have hn : ¬ toKey (kD j) = some k := fun z => c (by rw [toKey_kD] at z; exact Option.some.inj z)
      unfold setK
      rw [if_neg hn]
      dsimp only
      rw [if_neg c]
      exact .cons tb (setK_tr t r nd'.2)
end
section
variable {X : Cx} {pins : List (Addr × Obj)} {σ : L2.St} {H F : Hp} {s : Shared}
end
/-! ### d[k], k in d, len(d), list(d), d.get(k), d.get(k, x) -/
def gIxW : List D → Option O
  | [.dict ds, k] => (toKey k).bind fun x => (getK x ds).map O.val
  | ds => gIx ds
def gInW : List D → Option O
  | [k, .dict ds] => (toKey k).map fun x => .val (.bool (hasK x ds))
  | ds => gIn ds
def gNotInW : List D → Option O
  | [k, .dict ds] => (toKey k).map fun x => .val (.bool (!hasK x ds))
  | ds => gNotIn ds
def gLenW : List D → Option O
  | [.dict ds] => some (.val (.int ds.length))
  | ds => gLen ds
def gListW : List D → Option O
  | [.dict ds] => some (.lst (ds.map (·.1)))
  | ds => gList ds
section
variable {X : Cx}
theorem tr_key {K : PySem.W.Frag} {F H : Hp} {v : V} {d : D} {k : Key} (h : toKey d = some k) (l : Lnt K F H v d) : v = kV k := by
  rw [toKey_kV h] at l
  cases k with
  | inl i => exact lnt_int l
  | inr x => exact lnt_str l
theorem dget_of {K : PySem.W.Frag} {F H : Hp} {a : Addr} {kvs : List (Key × V)} {k : Key} (h : Rd H a (.dK kvs)) : DGet H a (kV k) (valV kvs k) := .inl ⟨kvs, k, h, rfl, rfl⟩
theorem o_ixW (hu : X.A.units + 100 < cLine) : IxR X (r2 X.K gIxW) := by
  intro value slice pins s σ H x y v u Q I rx ry ⟨F, ds, o, sF, l, e, q⟩ hs
  unfold gIxW at e
  split at e
  · rename_i ks k
    obtain ⟨d1, d2, ed, l1, l2⟩ := lnt2 l
    cases ed
    obtain ⟨key, h1, h2⟩ := bind_some e
    obtain ⟨d, h3, h4⟩ := map_some h2
    subst h4
    obtain ⟨a, kvs, rfl, h5, t⟩ := lnt_dict sF l1
    have ey := tr_key h1 l2
    subst ey
    obtain rfl : v = Value.ref a := rx
    rcases getK_tr (k := key) t with ⟨_, z⟩ | ⟨w', d', z1, z2, z3⟩
    · rw [z] at h3
      cases h3
    · rw [z2] at h3
      cases h3
      have g : DGet H a (kV key) (some w') := by rw [← z1]; exact dget_of (K := X.K) (F := F) h5
      have hT := dict_typeIs I g
      unfold subscriptTail
      refine wpAny_bind ?_
      rw [getitemInPython_of_ne hT.not_modules]
      refine wpAny_bind (wpAny_specialOf hT PySem.F.slot_dict_getitem.lookup ?_)
      have fin : wpAny (model X.prog X.w) X.A (subscripted slice false (.ref a) u) (fun r s₃ => wpAny (model X.prog X.w) X.A (letTemporaryGo value (.ref a) r >>= fun _ => pure r) (EP X pins σ Q) X.xe s₃) X.xe s := by
        rw [hs]
        exact wpAny_operating (wpAny_mono (d_getItem (by omega) I g ry fun w2 s' I' rw' => ⟨w', H, I', rw', q _ H (.old z3)⟩) (fun r s₃ h₃ => wpAny_bind (wpAny_letTemporaryGo (wpAny_pure h₃))) fun _ _ x => x)
      first
        | exact wpAny_pure (wpAny_bind fin)
        | exact wpAny_bind (wpAny_pure (wpAny_bind fin))
        | exact wpAny_bind fin
  · exact o_ix value slice pins s σ H x y v u Q I rx ry ⟨F, _, o, sF, l, e, q⟩ hs
theorem o_inW (hu : X.A.units + 100 < cLine) : OpR X (compareOp .In) (r2 X.K gInW) := by
  intro pins s σ H x y v u Q I rx ry ⟨F, ds, o, sF, l, e, q⟩
  unfold gInW at e
  split at e
  · rename_i k ks
    obtain ⟨d1, d2, ed, l1, l2⟩ := lnt2 l
    cases ed
    obtain ⟨key, h1, h2⟩ := map_some e
    subst h2
    obtain ⟨a, kvs, rfl, h5, t⟩ := lnt_dict sF l2
    have ey := tr_key h1 l1
    subst ey
    obtain rfl : u = Value.ref a := ry
    have eb : (valV kvs key).isSome = hasK key ks := by
      unfold hasK
      rcases getK_tr (k := key) t with ⟨z1, z2⟩ | ⟨w', d', z1, z2, _⟩ <;> rw [z1, z2] <;> rfl
    refine d_in (by omega) I (dget_of (K := X.K) (F := F) h5) rx fun s' I' => ⟨.bl _, H, I', rfl, ?_⟩
    rw [eb]
    exact q _ H (.old (.bl _))
  · exact o_in hu pins s σ H x y v u Q I rx ry ⟨F, _, o, sF, l, e, q⟩
theorem o_notInW (hu : X.A.units + 100 < cLine) : OpR X (compareOp .NotIn) (r2 X.K gNotInW) := by
  intro pins s σ H x y v u Q I rx ry ⟨F, ds, o, sF, l, e, q⟩
  unfold gNotInW at e
  split at e
  · rename_i k ks
    obtain ⟨d1, d2, ed, l1, l2⟩ := lnt2 l
    cases ed
    obtain ⟨key, h1, h2⟩ := map_some e
    subst h2
    obtain ⟨a, kvs, rfl, h5, t⟩ := lnt_dict sF l2
    have ey := tr_key h1 l1
    subst ey
    obtain rfl : u = Value.ref a := ry
    have eb : (!(valV kvs key).isSome) = !hasK key ks := by
      unfold hasK
      rcases getK_tr (k := key) t with ⟨z1, z2⟩ | ⟨w', d', z1, z2, _⟩ <;> rw [z1, z2] <;> rfl
    refine d_notIn (by omega) I (dget_of (K := X.K) (F := F) h5) rx fun s' I' => ⟨.bl _, H, I', rfl, ?_⟩
    rw [eb]
    exact q _ H (.old (.bl _))
  · exact o_notIn hu pins s σ H x y v u Q I rx ry ⟨F, _, o, sF, l, e, q⟩
theorem c_lenW : CallR X (.builtin "len") (rG X.K gLenW) := by
  intro pins s σ H vs us Q I r ⟨F, ds, o, sF, l, e, q⟩
  unfold gLenW at e
  split at e
  · rename_i ks
    cases e
    obtain ⟨v, rfl, l1⟩ := one_arg l
    obtain ⟨a, kvs, rfl, h5, t⟩ := lnt_dict sF l1
    rw [Vals.ref1 r]
    refine d_len I h5 fun tk s' I' => ⟨.int kvs.length, H, I', ⟨tk, rfl⟩, ?_⟩
    rw [dkv_len t]
    exact q _ H (.old (.int _))
  · exact c_len pins s σ H vs us Q I r ⟨F, _, o, sF, l, e, q⟩
theorem c_listW (hc : X.calm = true) : CallR X (.type "list") (rG X.K gListW) := by
  intro pins s σ H vs us Q I r ⟨F, ds, o, sF, l, e, q⟩
  unfold gListW at e
  split at e
  · rename_i ks
    cases e
    obtain ⟨v, rfl, l1⟩ := one_arg l
    obtain ⟨a, kvs, rfl, h5, t⟩ := lnt_dict sF l1
    exact call_listD hc pins s σ H _ us Q I r ⟨a, kvs, rfl, h5, fun p hp => q _ _ (.lst hp (dkv_keys t))⟩
  · exact c_list pins s σ H vs us Q I r ⟨F, _, o, sF, l, e, q⟩
end
/-! ### min of two -/
section
variable {prog : Program} {w : World} {A : Around} {E : Value → Shared → Prop} {s : Shared}
open PySem.W PySem.SeqAt in
theorem min_two_data {a b : Value} {x y : D} {as bs : List Addr} {Q : Value → Shared → Prop} (hh : A.handled = none) (ra : Reads s.heap a x as) (rb : Reads s.heap b y bs) (ha : PySem.W.AlikeAll [x, y]) (hu : A.units + 1 + PyData.depthAll [x, y] < cLine)
    (h : ∀ h' tk, (∀ c o, s.heap.get? c = some o → h'.get? c = some o) → Q (if PySem.W.dataLt y x = true then b else a) { s with heap := h', toks := tk }) : wpAny (model prog w) A (call (.builtin "min") [a, b]) Q E s := by
  have hname : (toString "min" ++ toString ".loop" : String) = "min.loop" := by decide
  have hT : (s.heap.push { cls := .type "tuple", data := .seq #[a, b] }).IsTuple s.heap.objs.size #[a, b] := ⟨_, Heap.get?_push_size _ rfl, rfl, 0, rfl⟩
  refine call_function_tree F.kind_min F.plain_min F.entry_min (F.args_min2 _ _) ?_
  show wpAny _ A.in1 (Builtin.Builtins.bindParams "min" ["key", "default"] 0 ⟨[], []⟩ >>= _) _ _ s
  refine wpAny_bind (wpAny_of_eq (show Builtin.Builtins.bindParams "min" ["key", "default"] 0 ⟨[], []⟩ = pure [none, none] from rfl) ?_)
  show wpAny _ A.in1 (newTuple [a, b] >>= _) _ _ s
  refine wpAny_bind (wpAny_newObj_type ?_)
  have k1 : ∀ c o, s.heap.get? c = some o → (s.heap.push { cls := .type "tuple", data := .seq #[a, b] }).get? c = some o := fun c o e => Heap.get?_push_of_some _ e
  have hr : ReadsAll (s.heap.push { cls := .type "tuple", data := .seq #[a, b] }) (#[a, b] : Array Value).toList [x, y] (as ++ (bs ++ [])) := .cons (Reads.keeps k1 ra) (.cons (Reads.keeps k1 rb) .nil)
  refine wpAny_bind (iter_tupleW (s := { s with heap := s.heap.push { cls := .type "tuple", data := .seq #[a, b] } }) (A := A.in1) hh hT fun s₂ e W st hfp hw hk => ?_)
  refine wpAny_bind (wpAny_newObj_type ?_)
  have hSf : s₂.heap.objs.size ∉ [(s.heap.push { cls := .type "tuple", data := .seq #[a, b] }).objs.size, s.heap.objs.size] := fun hm => Nat.lt_irrefl _ (hfp _ hm)
  rw [hname]
  refine wpAny_pure ⟨plainId_quiet F.plain_min_loop _, codeAny_min_loop_firstH W (s.heap.push { cls := .type "tuple", data := .seq #[a, b] }) hw _ (cmpIn_lt (s := { s with heap := s.heap.push { cls := .type "tuple", data := .seq #[a, b] } }) (A := A.in1) hr ha (by show A.units + 1 + _ < _; exact hu)) s₂.heap.objs.size hSf (fresh_in hk) _ (Nat.succ_pos 1) (fun b o e => Heap.get?_push_of_some _ (hk b o e)) (W.frame 0 s₂ _ s₂.toks st (Nat.le_refl _) fun b _ o e => Heap.get?_push_of_some _ e) (Heap.get?_push_size _ rfl) fun v s' hP hm => ?_⟩
  obtain ⟨h', tk, rfl, hk'⟩ := moved_old (s := { s with heap := s.heap.push { cls := .type "tuple", data := .seq #[a, b] } }) e rfl (Moved.drop_new (tk := s₂.toks) hm (Nat.le_refl _))
  have q := h h' tk fun c o e => hk' c o (k1 c o e)
  have hv : v = if PySem.W.dataLt y x = true then b else a := by
    have hP' : (#[a, b] : Array Value)[argBest (fun i j => PySem.W.dataLt ([x, y].getD i .none) ([x, y].getD j .none)) 1]? = some v := hP
    by_cases hb : PySem.W.dataLt y x = true
    · have e2 : argBest (fun i j => PySem.W.dataLt ([x, y].getD i .none) ([x, y].getD j .none)) 1 = 1 := if_pos hb
      rw [e2] at hP'
      rw [if_pos hb]
      exact (Option.some.inj hP').symm
    · have e2 : argBest (fun i j => PySem.W.dataLt ([x, y].getD i .none) ([x, y].getD j .none)) 1 = 0 := if_neg hb
      rw [e2] at hP'
      rw [if_neg hb]
      exact (Option.some.inj hP').symm
  rw [hv]
  exact q
end
section
variable {X : Cx}
end
end Dv

/-! Subscripts, slices, built-ins, calls of defs that leave the slots. -/
namespace Dv
open PySem PySem.Spec PyProof.Rows L2
variable {np : Nat}
section
variable {X : Cx} {a b e : Expr} {es : List Expr} {ma mb m : WV} {ms : List WV} {pos p2 p : Pos} {x : Str} {g : List D → Option O} {id T : String}
theorem w_ix (hu : X.A.units + 100 < cLine) (ha : PE X a (tPR np X.K ma)) (hb : PE X b (tPR np X.K mb)) (hs : PlainIx b := by exact fun _ _ => rfl) : PE X (.Subscript a b pos) (tPO np X.K (wOp gIxW [ma, mb])) :=
  pe_imp (pe_ix (o_ixW hu) ha hb hs) fun _ _ _ => w_op2
/-- a part of a slice -/
abbrev WP := S → Option (Option Int)
def wNo : WP := fun _ => some none
def wSo (m : WV) : WP := fun s => (m s).bind fun d => match d with
  | .int i => some (some i)
  | _ => none
def tPP (np : Nat) (K : PySem.W.Frag) (m : WP) : TO := fun σ H Q => ∃ F G s ps, Rel np K F G s σ H ps ∧ ∃ i, m s = some i ∧ ∀ H' F' p', Rel np K F' G s σ H' p' → Same F F' → Same H H' → Q i H'
def wSl (m : WV) (lo hi : WP) : WO := fun s => (m s).bind fun d => (lo s).bind fun a => (hi s).bind fun b => gSl a b d
theorem n_no : PO X none (tPP np X.K wNo) := po_imp po_none fun σ H Q ⟨F, G, s, ps, R, i, hm, q⟩ => by
  cases hm
  exact q H F ps R (Same.refl F) (Same.refl H)
theorem n_so (h : PE X e (tPV np X.K m)) : PO X (some e) (tPP np X.K (wSo m)) := po_imp (po_some h) fun σ H Q ⟨F, G, s, ps, R, i, hm, q⟩ => by
  obtain ⟨d, h1, h2⟩ := bind_some hm
  cases d with
  | int k =>
    cases h2
    refine ⟨F, G, s, ps, R, _, h1, fun v H1 F1 p1 R1 s01 k01 hv => ⟨k, ?_, q H1 F1 p1 R1 s01 k01⟩⟩
    cases hv
    rfl
  | _ => cases h2
theorem w_sl {lo hi : Option Expr} {ml mh : WP} (h : PE X e (tPR np X.K m)) (hl : PO X lo (tPP np X.K ml)) (hh : PO X hi (tPP np X.K mh)) : PE X (.Subscript e (.Slice lo hi none p2) pos) (tPO np X.K (wSl m ml mh)) :=
  pe_imp (pe_slice o_sl h hl hh) fun σ H Q ⟨F, G, s, ps, R, o, hm, q⟩ => by
    obtain ⟨d, h1, h2⟩ := bind_some hm
    obtain ⟨a, h3, h4⟩ := bind_some h2
    obtain ⟨b, h5, h6⟩ := bind_some h4
    refine ⟨F, G, s, ps, R, d, h1, fun v H1 F1 p1 R1 s01 k01 l => ⟨F1, G, s, p1, R1, a, h3, fun H2 F2 p2 R2 s12 k12 => ⟨F2, G, s, p2, R2, b, h5, fun H3 F3 p3 R3 s23 k23 => ?_⟩⟩⟩
    refine ⟨F3, d, o, R3.sF, l.mono (s12.trans s23) (k12.trans k23), h6, fun w H4 out => ?_⟩
    obtain ⟨F4, as, R4, s34, k34, own, nd, new⟩ := out.relP R3
    refine q w H4 F4 _ as R4 (((s01.trans s12).trans s23).trans s34) (((k01.trans k12).trans k23).trans k34) own nd fun a ha => ?_
    obtain ⟨n1, n2, n3, n4⟩ := new a ha
    exact ⟨n1, n2, n3, ((k01.trans k12).trans k23).free n4⟩
theorem w_callB (hc : CallR X (.builtin id) (rG X.K g)) (hg : Gl X x) (hm : X.mg x = none) (hv : bootBuiltins x = some (.builtin id)) (ha : PA X (e :: es) (tPA np X.K ms)) (hn : x ≠ "__name__" := by decide) (hdb : (x == ("__debug__" : Str)) = false := by decide)
    (he : starEach (e :: es) X.env = (false, eval e X.env) :: starEach es X.env := by rfl) (hpl : (backTo pos (starEach es X.env)).any (·.1) = false := by rfl) : PE X (.Call (.Name x p) (e :: es) [] pos) (tPO np X.K (wOp g ms)) :=
  pe_imp (pe_callB hc hg hm hv ha hn hdb he hpl) fun _ _ _ => w_opA
theorem w_callT (hc : CallR X (.type T) (rG X.K g)) (hg : Gl X x) (hm : X.mg x = none) (hv : bootBuiltins x = some (.type T)) (ha : PA X (e :: es) (tPA np X.K ms)) (hn : x ≠ "__name__" := by decide) (hdb : (x == ("__debug__" : Str)) = false := by decide)
    (he : starEach (e :: es) X.env = (false, eval e X.env) :: starEach es X.env := by rfl) (hpl : (backTo pos (starEach es X.env)).any (·.1) = false := by rfl) : PE X (.Call (.Name x p) (e :: es) [] pos) (tPO np X.K (wOp g ms)) :=
  pe_imp (pe_callTy hc hg hm hv ha hn hdb he hpl) fun _ _ _ => w_opA
/-- -a -/
theorem w_neg (h : PE X a (tPR np X.K ma)) : PE X (.UnaryOp .USub a pos) (tPO np X.K (wOp gNeg [ma])) :=
  pe_imp (pe_un un_neg h) fun σ H Q ⟨F, G, s, ps, R, o, hm, q⟩ => by
    obtain ⟨ds, h1, h2⟩ := bind_some hm
    obtain ⟨d1, e1, h3⟩ := bind_some h1
    obtain ⟨ds2, h7, h8⟩ := map_some h3
    cases h7
    subst h8
    refine ⟨F, G, s, ps, R, d1, e1, fun v H1 F1 p1 R1 s01 k01 l => ?_⟩
    unfold gNeg at h2
    split at h2
    · rename_i i e
      cases e
      cases h2
      exact ⟨i, lnt_int l, q _ H1 F1 p1 [] R1 s01 k01 ⟨.int _, rfl⟩ List.nodup_nil fun a ha => nomatch ha⟩
    · cases h2
/-! ### d.get -/
variable {o f : Expr} {apos cpos : Pos} {mo me mf : WV}
end
/-! ### isinstance -/
def wIs (T : Ty) (m : WV) : WV := fun s => (m s).bind fun d => if nd d = true then some (.bool (isTy T d)) else none
section
variable {X : Cx}
theorem w_isi {e : Expr} (T : Ty) {x y : Str} {p p2 pos : Pos} {m : WV} (h : PE X e (tPR np X.K m)) (hg : Gl X x) (hm : X.mg x = none) (hv : bootBuiltins x = some (.builtin "isinstance")) (hg2 : Gl X y) (hm2 : X.mg y = none) (hv2 : bootBuiltins y = some (.type T.nm))
    (hn : x ≠ "__name__" := by decide) (hdb : (x == ("__debug__" : Str)) = false := by decide) (hn2 : y ≠ "__name__" := by decide) (hdb2 : (y == ("__debug__" : Str)) = false := by decide)
    (he : starEach (e :: [.Name y p2]) X.env = (false, eval e X.env) :: starEach [.Name y p2] X.env := by rfl) (he2 : starEach [.Name y p2] X.env = (false, eval (.Name y p2) X.env) :: starEach [] X.env := by rfl) (hpl : (backTo pos (starEach [.Name y p2] X.env)).any (·.1) = false := by rfl) :
    PE X (.Call (.Name x p) [e, .Name y p2] [] pos) (tPV np X.K (wIs T m)) :=
  pe_imp (pe_callB (c_isi T) hg hm hv (pa_cons h (pa_cons (pe_bltn (v := .ty T.nm) hg2 hm2 hv2 rfl hn2 hdb2) pa_nil he2) he) hn hdb he hpl) fun σ H Q ⟨F, G, s, ps, R, d, hm', q⟩ => by
    obtain ⟨d', h1, h2⟩ := bind_some hm'
    obtain ⟨hnd, h4⟩ := if_some h2
    subst h4
    exact ⟨F, G, s, ps, R, d', h1, fun v H1 F1 p1 R1 s01 k01 l => ⟨v, d', F1, rfl, R1.sF, hnd, l, q _ H1 F1 p1 R1 s01 k01 (.bl _)⟩⟩
end
/-! ### calls -/
theorem own_vals {K : PySem.W.Frag} {F H : Hp} : ∀ {vs : List V} {ds : List D}, TrAll K F vs ds → OwnAll K F H vs (ds.map O.val) (ds.map fun _ => [])
  | _, _, .nil => trivial
  | _, _, .cons t r => ⟨⟨t, rfl⟩, own_vals r⟩
theorem flat_nil {α β : Type} : ∀ xs : List α, (xs.map fun _ => ([] : List β)).flatten = []
  | [] => rfl
  | x :: xs => by
    rw [List.map_cons, List.flatten_cons, List.nil_append]
    exact flat_nil xs
section
variable {K : PySem.W.Frag} {F H : Hp} {G : Gd} {s : S} {σ : L2.St} {ps : List (List Addr)} {f : FD} {ds : List D} {vs : List V} {r : O} {outs : List O} {Q : VK} {E : XK}
/-- all arguments frozen -/
theorem sp_look (R : Rel np K F G s σ H ps) (t : TrAll K F vs ds) (hf : f (ds.map O.val) = some (r, outs)) (q : ∀ v H2 F2 p2 as, Rel np K F2 G s σ H2 p2 → Same F F2 → Same H H2 → Own K F2 H2 v r as → as.Nodup → (∀ a ∈ as, F2 a = none ∧ G.h a = none ∧ a ∉ p2.flatten ∧ H a = none) → Q v H2) : spOf K f vs H Q E := by
  have gat : ∀ b u, (if F b = none then H b else none) = some u → F b = none ∧ H b = some u := fun b u e => by
    split at e
    · rename_i hb
      exact ⟨hb, e⟩
    · cases e
  refine ⟨F, fun b => if F b = none then H b else none, ds.map O.val, ds.map fun _ => [], R.sF, fun b u e => (gat b u e).2, fun b u e => (gat b u e).1, own_vals t, by rw [flat_nil]; exact List.nodup_nil, (fun b hb => by rw [flat_nil] at hb; cases hb), r, outs, hf, fun v H2 F2 as ass' sFF sF2 sG2 fg2 own owns nd2 new2 => ?_⟩
  have gin : ∀ b u, H b = some u → F b = none → (if F b = none then H b else none) = some u := fun b u e hb => by
    rw [if_pos hb]
    exact e
  have sH : Same H H2 := fun b u e => by
    cases hb : F b with
    | none => exact sG2 b u (gin b u e hb)
    | some u' =>
      have e2 := R.sF b u' hb
      rw [e] at e2
      cases e2
      exact sF2 b u (sFF b u hb)
  have sGG : ∀ b u, G.h b = some u → F b = none ∧ H b = some u := fun b u e => ⟨R.fg b u e, R.sG b u e⟩
  rw [List.nodup_append] at nd2
  refine q v H2 F2 ps as (R.over2 sFF sF2 (fun b u e => sH b u (sGG b u e).2) (fun b u e => fg2 b u (gin b u (sGG b u e).2 (sGG b u e).1)) fun b hb => ?_) sFF sH own nd2.1 fun a ha => ?_
  · obtain ⟨n1, _, u, eu⟩ := R.apart b hb
    exact ⟨fg2 b u (gin b u eu n1), fun u' eu' => sH b u' eu'⟩
  · obtain ⟨n1, n2⟩ := new2 a (List.mem_append_left _ ha)
    have hF : F a = none := by
      cases e : F a with
      | none => rfl
      | some u => exact nomatch (sFF a u e).symm.trans n1
    have n2' : (if F a = none then H a else none) = none := n2
    rw [if_pos hF] at n2'
    refine ⟨n1, R.sG.free n2', fun z => ?_, n2'⟩
    obtain ⟨_, _, u, eu⟩ := R.apart a z
    exact nomatch eu.symm.trans n2'
end
def wCall (f : FD) (ms : List (S → Option (List D))) : WO := fun s => (evS ms s).bind fun ds => (f (ds.map O.val)).map (·.1)
def wCallP (f : FD) (is : List Nat) (ms : List (S → Option (List D))) : WO := fun s => (evS ms s).bind fun ds => if ds.length = is.length then (pick ds is).bind fun es => (f (es.map O.val)).map (·.1) else none
theorem wCall_done {K : PySem.W.Frag} {f : FD} {ms : List (S → Option (List D))} {σ : L2.St} {H : Hp} {Q : VK} {E : XK} (h : tPO np K (wCall f ms) σ H Q) : tCall (spOf K f) [] E (tPS np K ms) σ H Q := by
  obtain ⟨F, G, s, ps, R, o, hm, q⟩ := h
  obtain ⟨ds, h1, h2⟩ := bind_some hm
  obtain ⟨⟨r, outs⟩, h3, h4⟩ := map_some h2
  subst h4
  refine ⟨F, G, s, ps, R, ds, h1, fun vs H1 F1 p1 R1 s01 k01 t => ?_⟩
  show spOf K f (vs ++ []) H1 Q E
  rw [List.append_nil]
  exact sp_look R1 t h3 fun v H2 F2 p2 as R2 s12 k12 own nd new => q v H2 F2 p2 as R2 (s01.trans s12) (k01.trans k12) own nd fun a ha => ⟨(new a ha).1, (new a ha).2.1, (new a ha).2.2.1, k01.free (new a ha).2.2.2⟩
section
variable {X : Cx} {k : Nat} {f : Addr} {fd : FuncData} {ps : List Str} {x : Str} {p pos : Pos} {e : Expr} {es : List Expr} {ms : List (S → Option (List D))} {ns : List WV} {df : FD} {E : XK}
theorem w_call (F : FnOk X.prog X.w X.K X.mg X.base CX0 k f fd ps (spOf X.K df)) (hr : Room k X.A) (hg : Gl X x) (hm : X.mg x = some (.ref f)) (hk : PySem.W.keepIn X.K (.ref f) = true) (hb : Binds X.K fd ps []) (ha : PA X (e :: es) (tPS np X.K ms))
    (hdb : (x == ("__debug__" : Str)) = false := by decide) (he : starEach (e :: es) X.env = (false, eval e X.env) :: starEach es X.env := by rfl) (hpl : (backTo pos (starEach es X.env)).any (·.1) = false := by rfl) : PE X (.Call (.Name x p) (e :: es) [] pos) (tPO np X.K (wCall df ms)) :=
  pe_imp (pe_call F hr hg hm hk hb .nil pass0 ha hdb he hpl) fun _ _ _ => wCall_done
theorem w_call0 (F : FnOk X.prog X.w X.K X.mg X.base CX0 k f fd ps (spOf X.K df)) (hr : Room k X.A) (hg : Gl X x) (hm : X.mg x = some (.ref f)) (hk : PySem.W.keepIn X.K (.ref f) = true) (hb : Binds X.K fd ps []) (hdb : (x == ("__debug__" : Str)) = false := by decide) : PE X (.Call (.Name x p) [] [] pos) (tPO np X.K (wCall df [])) :=
  pe_imp (pe_call0 F hr hg hm hk hb .nil pass0 hdb) fun σ H Q h => by
    obtain ⟨F, G, s, ps, R, os, hm, q⟩ := wCall_done (E := E0) h
    cases hm
    exact q [] H F ps R (Same.refl F) (Same.refl H) .nil
variable {kws : List Keyword} {nm : Option Str} {kpos : Pos}
theorem y_nil : PK X [] (tPS np X.K []) := pk_imp pk_nil fun σ H Q ⟨F, G, s, ps, R, ds, hm, q⟩ => by
  cases hm
  exact q [] H F ps R (Same.refl F) (Same.refl H) .nil
theorem y_cons {m : WV} (he : PE X e (tPV np X.K m)) (hs : PK X kws (tPS np X.K ms)) : PK X (⟨nm, e, kpos⟩ :: kws) (tPS np X.K (s1 m :: ms)) := pk_imp (pk_cons he hs) fun σ H Q ⟨F, G, s, ps, R, ds, hm, q⟩ => by
  obtain ⟨d, h1, h2⟩ := bind_some hm
  obtain ⟨ds', h3, h4⟩ := map_some h2
  subst h4
  obtain ⟨d', h5, h6⟩ := map_some h1
  subst h6
  exact ⟨F, G, s, ps, R, d', h5, fun v H1 F1 p1 R1 s01 k01 l => ⟨F1, G, s, p1, R1, ds', h3, fun vs H2 F2 p2 R2 s12 k12 ls => q (v :: vs) H2 F2 p2 R2 (s01.trans s12) (k01.trans k12) (.cons (dp_mono s12 _ l) ls)⟩⟩
theorem pick_tr {K : PySem.W.Frag} {F : Hp} {vs : List V} {ds : List D} (t : TrAll K F vs ds) : ∀ {is : List Nat} {es : List D}, pick ds is = some es → ∃ us, pick vs is = some us ∧ TrAll K F us es
  | [], es, h => by
    cases h
    exact ⟨[], rfl, .nil⟩
  | i :: is, es, h => by
    obtain ⟨d, h1, h2⟩ := bind_some h
    obtain ⟨es', h3, h4⟩ := map_some h2
    subst h4
    obtain ⟨v, g1, g2⟩ := da_get t h1
    obtain ⟨us, g3, g4⟩ := pick_tr t h3
    exact ⟨v :: us, by show (vs[i]?).bind _ = _; rw [g1]; show (pick vs is).map _ = _; rw [g3]; rfl, .cons g2 g4⟩
theorem w_callK {is : List Nat} {ks : List Str} (F : FnOk X.prog X.w X.K X.mg X.base CX0 k f fd ps (spOf X.K df)) (hr : Room k X.A) (hg : Gl X x) (hm : X.mg x = some (.ref f)) (hk : PySem.W.keepIn X.K (.ref f) = true) (hb : KwP fd ps ks is) (ha : PK X kws (tPS np X.K ms))
    (hdb : (x == ("__debug__" : Str)) = false := by decide) (hall : (backToKw pos (keywordEach kws X.env)).all (·.1.isSome) = true := by rfl) (hks : (backToKw pos (keywordEach kws X.env)).filterMap (·.1) = ks := by rfl)
    (hil : is.length = ks.length := by rfl)
    (hpl : ((backTo pos (starEach [] X.env)).any (·.1) || (backToKw pos (keywordEach kws X.env)).any (·.1.isNone)) = false := by rfl) : PE X (.Call (.Name x p) [] kws pos) (tPO np X.K (wCallP df is ms)) := by
  refine ⟨fun pins s σ H Q I h => ?_⟩
  obtain ⟨F0, G, sl, sps, R, o, hmm, q⟩ := h
  obtain ⟨ds, h1, h2⟩ := bind_some hmm
  obtain ⟨hlen, h2⟩ := if_someO h2
  obtain ⟨es', h3, h4⟩ := bind_some h2
  obtain ⟨⟨r0, outs⟩, h5, h6⟩ := map_some h4
  subst h6
  have ta : tPS np X.K ms σ H fun vs H1 => vs.length = ks.length ∧ ∃ vs', pick vs is = some vs' ∧ spOf X.K df vs' H1 Q E0 := by
    refine ⟨F0, G, sl, sps, R, ds, h1, fun vs H1 F1 p1 R1 s01 k01 t => ?_⟩
    obtain ⟨us, g1, g2⟩ := pick_tr t h3
    exact ⟨by rw [da_length t, hlen, hil], us, g1, sp_look R1 g2 h5 fun v H2 F2 p2 as R2 s12 k12 own nd new => q v H2 F2 p2 as R2 (s01.trans s12) (k01.trans k12) own nd fun a ha => ⟨(new a ha).1, (new a ha).2.1, (new a ha).2.2.1, k01.free (new a ha).2.2.2⟩⟩
  refine wpAny_Call_Name_kw (ld_glob I hg hm ?_ hdb)
  refine PySem.W.callWith_KW0 (h₀ := X.base) I.ok.mod.kin hk hall (thn (ha.run pos pins s σ H _ I ta) fun ws s2 ⟨vs, H1, I1, r, hvl, vs', g1, q1⟩ => ⟨I1.kIn, ?_⟩) hpl
  rw [hks]
  obtain ⟨ws', e1, r'⟩ := pick_vals r g1
  refine wpAny_call (codeAny_mono (F.run X.A X.stack s2 H1 ⟨[], ks.zip ws⟩ ws' vs' Q E0 hr I1.env0 (hb.to s2 ws ws' (r.length.symm.trans hvl) e1) r' q1) fun r2 s' hq => ?_)
  cases r2 with
  | error e => exact (pass0 pins σ H1 s2 e s' I1 hq)
  | ok fl =>
    cases fl with
    | ret u => exact I1.after hq
    | next => exact False.elim hq
    | brk => exact False.elim hq
    | cont => exact False.elim hq
end
end Dv

/-! What is walked over, comprehensions. -/
namespace Dv
open PySem PySem.Spec PyProof.Rows L2
variable {np : Nat}
abbrev WI := S → Option (List D)
def tPI (np : Nat) (K : PySem.W.Frag) (m : WI) : TI := fun σ H R => ∃ F G s ps, Rel np K F G s σ H ps ∧ ∃ ds, m s = some ds ∧ ∀ J H' F' p', Rel np K F' G s σ H' p' → Same F F' → Same H H' → WalkD K F' J ds → R J H'
def lI (m : WI) : MI := fun s => (m s).map fun d => (d, s)
theorem WalkD.stepP {K : PySem.W.Frag} {F F0 H H' : Hp} {G : Gd} {s : S} {σ : L2.St} {ps : List (List Addr)} {J : It} {ds : List D} (w : WalkD K F0 J ds) {i : Nat} {d : D} {x : V} (hd : ds[i]? = some d) (R : Rel np K F G s σ H ps) (s0 : Same F0 F) (y : J.yld i H x H') : ∃ F', Rel np K F' G s σ H' ps ∧ Same F F' ∧ Same H H' ∧ Tr K F' x d := by
  rcases w.yields i d H x H' hd (s0.trans R.sF) y with ⟨rfl, t⟩ | ⟨T, u, hT, rfl, t⟩
  · exact ⟨F, R, Same.refl F, Same.refl _, dp_mono s0 d t⟩
  · obtain ⟨R1, s1⟩ := R.laid (o := u) hT
    exact ⟨_, R1, s1, same_of_fresh hT, t F s0 (R.sF.free hT)⟩
theorem walkD_keys {K : PySem.W.Frag} {F : Hp} {a : Addr} {od : Obj} {kvs : List (Key × V)} {ds : List (D × D)} (h : F a = some (.frz od (.dK kvs))) (t : TrKv K F kvs ds) : WalkD K F (Itk a od kvs) (ds.map (·.1)) where
  goes := fun i H hi sH => ⟨sH _ _ h, by rw [List.length_map] at hi; rw [dkv_len t]; exact hi⟩
  stops := fun H sH => ⟨sH _ _ h, by rw [List.length_map, dkv_len t]; exact Nat.le_refl _⟩
  yields := fun i d H x H' hd sH ⟨e, k, v, e1, e2⟩ => by
    obtain ⟨w, e3, e4⟩ := da_get (dkv_keys t) hd
    rw [List.getElem?_map, e1] at e3
    have e5 : kV k = w := Option.some.inj e3
    exact .inl ⟨e, by rw [e2, e5]; exact e4⟩
def itemsW : D → Option (List D)
  | .dict ds => some (ds.map (·.1))
  | d => itemsD d
def jV (m : WV) : WI := fun s => (m s).bind itemsW
section
variable {X : Cx} {tg e : Expr} {es : List Expr} {p pos : Pos}
theorem l_i {iter : Expr} {m : WI} (h : PI X tg iter (tPI np X.K m)) : PI X tg iter (tI np X.K (lI m)) := pi_imp h fun σ H Q ⟨F, G, s, ps, R, ds, s', hm, q⟩ => by
  obtain ⟨ds', h1, h2⟩ := map_some hm
  cases h2
  exact ⟨F, G, s, ps, R, ds, h1, fun J H' F' p' R' sF sH w => q J H' F' p' R' sF w⟩
theorem j_val {m : WV} (h : PE X e (tPV np X.K m)) : PI X tg e (tPI np X.K (jV m)) := ⟨fun pins s σ H R I ⟨F, G, s0, ps, R0, ds, hm, q⟩ => by
  obtain ⟨d, h1, h3⟩ := bind_some hm
  cases d with
  | list ys =>
    cases h3
    exact (pi_list h).run pins s σ H R I ⟨F, G, s0, ps, R0, _, h1, fun v H1 F1 p1 R1 s01 k01 t => by
      cases t with
      | @lst a xs _ g1 g2 => exact ⟨a, rfl, ⟨xs, (lsk_mono R1.sF g1).sq⟩, q _ H1 F1 p1 R1 s01 k01 (walkD_list g1.sq g2)⟩⟩
  | tuple ys =>
    cases h3
    exact (pi_tup h).run pins s σ H R I ⟨F, G, s0, ps, R0, _, h1, fun v H1 F1 p1 R1 s01 k01 t => by
      cases t with
      | @tup a xs _ g1 g2 => exact ⟨a, rfl, ⟨xs, same_tup R1.sF g1⟩, q _ H1 F1 p1 R1 s01 k01 (walkD_tup g1 g2)⟩⟩
  | str x =>
    cases h3
    exact (pi_str h).run pins s σ H R I ⟨F, G, s0, ps, R0, .str x, h1, fun v H1 F1 p1 R1 s01 k01 t => by
      cases t
      exact ⟨x, rfl, q _ H1 F1 p1 R1 s01 k01 walkD_str⟩⟩
  | dict kvs =>
    cases h3
    exact (pi_keys h).run pins s σ H R I ⟨F, G, s0, ps, R0, .dict kvs, h1, fun v H1 F1 p1 R1 s01 k01 t => by
      cases t with
      | @dct a od ks _ g1 g2 => exact ⟨a, od, rfl, .inl ⟨ks, R1.sF _ _ g1, q _ H1 F1 p1 R1 s01 k01 (walkD_keys g1 g2)⟩⟩⟩
  | none => cases h3
  | bool b => cases h3
  | int i => cases h3⟩
def jOp (g : List D → Option (List D)) (ms : List WV) : WI := fun s => (evP ms s).bind g
theorem j_rng1 {m : WV} (hg : Gl X "range") (hm : X.mg "range" = none) (ha : PA X [e] (tPA np X.K [m])) (hs : starEach [e] X.env = [(false, eval e X.env)] := by rfl) : PI X tg (.Call (.Name "range" p) [e] [] pos) (tPI np X.K (jOp gRng [m])) :=
  pi_imp (pi_range1 hg hm ha hs) fun σ H R ⟨F, G, s, ps, R0, ds, hm, q⟩ => by
    obtain ⟨ds', h1, h5⟩ := bind_some hm
    obtain ⟨d1, e1, h3⟩ := bind_some h1
    obtain ⟨ds2, h7, h8⟩ := map_some h3
    cases h7
    subst h8
    refine ⟨F, G, s, ps, R0, [d1], h1, fun vs H1 F1 p1 R1 s01 k01 l => ?_⟩
    obtain ⟨v, rfl, l1⟩ := lnt_list1 l
    obtain ⟨j, rfl, h7, rfl⟩ := gRng_one h5
    exact ⟨j, by rw [lnt_int l1], (inW_iff h7).1, (inW_iff h7).2, q _ H1 F1 p1 R1 s01 k01 walkD_rng⟩
/-! zip, enumerate, items -/
def wZip : List D → Option (List D)
  | [.list xs, .list ys] => some (List.zipWith (fun x y => .tuple [x, y]) xs ys)
  | [.tuple xs, .tuple ys] => some (List.zipWith (fun x y => .tuple [x, y]) xs ys)
  | _ => none
def jS (g : List D → Option (List D)) (ms : List (S → Option (List D))) : WI := fun s => (evS ms s).bind g
theorem j_zip {e' : Expr} {ms : List (S → Option (List D))} {elts : List Expr} {kk : Nat} {tpos : Pos} (hg : Gl X "zip") (hm : X.mg "zip" = none) (ha : PA X [e, e'] (tPS np X.K ms)) (hs : starEach [e, e'] X.env = (false, eval e X.env) :: starEach [e'] X.env := by rfl) (hpl : (backTo pos (starEach [e'] X.env)).any (·.1) = false := by rfl) :
    PI X (.Tuple elts kk tpos) (.Call (.Name "zip" p) [e, e'] [] pos) (tPI np X.K (jS wZip ms)) :=
  pi_imp (RZ.pi_zipA hg hm ha hs hpl) fun σ H R ⟨F, G, s, ps, R0, ds, hm, q⟩ => by
    obtain ⟨xs, h1, h5⟩ := bind_some hm
    refine ⟨F, G, s, ps, R0, xs, h1, fun vs H1 F1 p1 R1 s01 k01 hv => ?_⟩
    unfold wZip at h5
    split at h5
    · rename_i xs ys
      cases h5
      cases hv with
      | cons t1 hv =>
        cases hv with
        | cons t2 hv =>
          cases hv
          cases t1 with
          | @lst a us _ g1 g2 =>
            cases t2 with
            | @lst b ws _ g3 g4 =>
              refine ⟨a, b, us, ws, rfl, .inl ⟨(lsk_mono R1.sF g1).sq, (lsk_mono R1.sF g3).sq, q _ H1 F1 p1 R1 s01 k01 ⟨fun i H hi sH => ?_, fun H sH => ?_, fun i d H x H' hd sH hy => ?_⟩⟩⟩
              · rw [List.length_zipWith] at hi
                exact ⟨us, ws, us[i]'(by rw [da_length g2]; omega), ws[i]'(by rw [da_length g4]; omega), (lsk_mono sH g1).sq, (lsk_mono sH g3).sq, List.getElem?_eq_getElem _, List.getElem?_eq_getElem _⟩
              · refine ⟨us, ws, (lsk_mono sH g1).sq, (lsk_mono sH g3).sq, ?_⟩
                rw [List.length_zipWith, da_length g2, da_length g4]
                omega
              · obtain ⟨T, x1, y1, e1, e2, e3, e4, e5⟩ := hy
                obtain ⟨dx, dy, k1, k2, rfl⟩ := zip_at hd
                obtain ⟨v1, k3, k4⟩ := da_get g2 k1
                obtain ⟨v2, k5, k6⟩ := da_get g4 k2
                have z1 := (e4 us ((lsk_mono sH g1).sq)).symm.trans k3
                cases z1
                have z2 := (e5 ws ((lsk_mono sH g3).sq)).symm.trans k5
                cases z2
                subst e1
                exact .inr ⟨T, _, e2, e3, fun F' sF' nF => pair_tr (dp_mono sF' dx k4) (dp_mono sF' dy k6) nF⟩
    · rename_i xs ys
      cases h5
      cases hv with
      | cons t1 hv =>
        cases hv with
        | cons t2 hv =>
          cases hv
          cases t1 with
          | @tup a us _ g1 g2 =>
            cases t2 with
            | @tup b ws _ g3 g4 =>
              refine ⟨a, b, us, ws, rfl, .inr ⟨same_tup R1.sF g1, same_tup R1.sF g3, q _ H1 F1 p1 R1 s01 k01 ⟨fun i H hi sH => ?_, fun H sH => ?_, fun i d H x H' hd sH hy => ?_⟩⟩⟩
              · rw [List.length_zipWith] at hi
                exact ⟨us, ws, us[i]'(by rw [da_length g2]; omega), ws[i]'(by rw [da_length g4]; omega), same_tup sH g1, same_tup sH g3, List.getElem?_eq_getElem _, List.getElem?_eq_getElem _⟩
              · refine ⟨us, ws, same_tup sH g1, same_tup sH g3, ?_⟩
                rw [List.length_zipWith, da_length g2, da_length g4]
                omega
              · obtain ⟨T, x1, y1, e1, e2, e3, e4, e5⟩ := hy
                obtain ⟨dx, dy, k1, k2, rfl⟩ := zip_at hd
                obtain ⟨v1, k3, k4⟩ := da_get g2 k1
                obtain ⟨v2, k5, k6⟩ := da_get g4 k2
                have z1 := (e4 us (same_tup sH g1)).symm.trans k3
                cases z1
                have z2 := (e5 ws (same_tup sH g3)).symm.trans k5
                cases z2
                subst e1
                exact .inr ⟨T, _, e2, e3, fun F' sF' nF => pair_tr (dp_mono sF' dx k4) (dp_mono sF' dy k6) nF⟩
    · cases h5
end
/-! ### targets of a block -/
def tGp (np : Nat) (K : PySem.W.Frag) (vs : List Nat) (g : MG) : TG := fun v σ H Q => ∃ F G s ps, Rel np K F G s σ H ps ∧ ∃ d s', Tr K F v d ∧ g (.val d) s = some s' ∧ ∀ σ' H' F' ps', Rel np K F' G s' σ' H' ps' → Same F F' → Same H H' → wipe σ' vs = wipe σ vs → Q σ' H'
def tGsp (np : Nat) (K : PySem.W.Frag) (ws : List Nat) (gs : List MG) : TGs := fun vs σ H Q => ∃ F G s ps, Rel np K F G s σ H ps ∧ ∃ ds s', TrAll K F vs ds ∧ gAllT gs ds s = some s' ∧
  ∀ σ' H' F' ps', Rel np K F' G s' σ' H' ps' → Same F F' → Same H H' → wipe σ' ws = wipe σ ws → Q σ' H'
section
variable {X : Cx} {e : Expr} {es : List Expr} {pos : Pos} {ws : List Nat}
theorem gp_name {i : Nat} {x : Str} (hi : X.N[i]? = some x) (hN : X.N.Nodup) (hx : Loc X.env.scope x) (hp : np ≤ i := by decide) (hw : i ∈ ws := by decide) (hf : X.fn x = true ∨ X.env.scope.names.lookup x = some .local := by first | exact .inl rfl | exact .inr rfl | assumption) :
    PG X (.Name x pos) (tGp np X.K ws (gNm i)) :=
  pg_imp (pg_name hN hi hx hf) fun v σ H Q ⟨F, G, s, ps, R, d, s', t, hg, q⟩ => by
    obtain ⟨h1, h2⟩ := if_some hg
    subst h2
    exact q _ H F _ (R.store h1 hp (o := .val d) (as := []) ⟨t, rfl⟩ List.nodup_nil fun a ha => nomatch ha) (Same.refl F) (Same.refl H) (wipe_set hw)
theorem gp_nil : PGs X [] (tGsp np X.K ws []) := pgs_imp pgs_nil fun vs σ H Q ⟨F, G, s, ps, R, ds, s', t, hm, q⟩ => by
  cases ds with
  | nil =>
    cases t
    cases hm
    exact ⟨rfl, q σ H F ps R (Same.refl F) (Same.refl H) rfl⟩
  | cons d ds => cases hm
theorem gp_cons {g : MG} {gs : List MG} (h1 : PG X e (tGp np X.K ws g)) (h2 : PGs X es (tGsp np X.K ws gs)) (hs : (assignEach (e :: es) X.env).map (·.2) = assign e X.env :: (assignEach es X.env).map (·.2) := by rfl) : PGs X (e :: es) (tGsp np X.K ws (g :: gs)) :=
  pgs_imp (pgs_cons h1 h2 hs) fun vs σ H Q ⟨F, G, s, ps, R, ds, s', t, hm, q⟩ => by
    cases t with
    | nil => cases hm
    | @cons v vs d ds t1 t2 =>
      obtain ⟨s1, h3, h4⟩ := bind_some hm
      exact ⟨v, vs, rfl, F, G, s, ps, R, d, s1, t1, h3, fun σ1 H1 F1 ps1 R1 s01 k01 w1 => ⟨F1, G, s1, ps1, R1, ds, s', dpAll_mono s01 ds t2, h4, fun σ2 H2 F2 ps2 R2 s12 k12 w2 => q σ2 H2 F2 ps2 R2 (s01.trans s12) (k01.trans k12) (w2.trans w1)⟩⟩
theorem gp_tup {k : Nat} {gs : List MG} (h : PGs X es (tGsp np X.K ws gs)) (hc : X.calm = true := by rfl) (hn : (assignEach es X.env).length = gs.length := by rfl) (hst : (assignEach es X.env).findIdx? (·.1) = none := by rfl) : PG X (.Tuple es k pos) (tGp np X.K ws (gTp gs)) :=
  pg_imp (pg_tup hc h hn hst) fun v σ H Q ⟨F, G, s, ps, R, d, s', t, hg, q⟩ => by
    unfold gTp at hg
    split at hg
    · rename_i ds e
      cases e
      cases t with
      | @tup a vs _ h1 h2 => exact ⟨a, vs, rfl, same_tup R.sF h1, by rw [da_length h2]; exact gAllT_len hg, F, G, s, ps, R, ds, s', h2, hg, q⟩
    · cases hg
end
/-- only the block's own slots -/
def GOnly (vs : List Nat) (g : MG) : Prop := ∀ o s s', g o s = some s' → wS s' vs = wS s vs
theorem wS_set {s : S} {i : Nat} {x : Option O} {vs : List Nat} (h : i ∈ vs) : wS (s.set i x) vs = wS s vs := by
  induction vs with
  | nil => cases h
  | cons v vs ih =>
    unfold wS
    by_cases c : i = v
    · subst c
      have com : ∀ (ws : List Nat) (s : S), wS (s.set i x) ws = if i ∈ ws then wS s ws else (wS s ws).set i x := by
        intro ws
        induction ws with
        | nil => exact fun _ => rfl
        | cons w ws ih2 =>
          intro s
          unfold wS
          rw [ih2]
          by_cases c1 : i ∈ ws
          · rw [if_pos c1, if_pos (List.mem_cons_of_mem _ c1)]
          · rw [if_neg c1]
            by_cases c2 : i = w
            · subst c2
              rw [if_pos List.mem_cons_self, List.set_set]
            · rw [if_neg (by simp only [List.mem_cons, not_or]; exact ⟨c2, c1⟩), List.set_comm _ _ c2]
      rw [com]
      by_cases c1 : i ∈ vs
      · rw [if_pos c1]
      · rw [if_neg c1, List.set_set]
    · rcases List.mem_cons.mp h with z | z
      · exact absurd z c
      · rw [ih z]
theorem only_nm {vs : List Nat} {i : Nat} (h : i ∈ vs) : GOnly vs (gNm i) := fun o s s' e => by
  obtain ⟨_, rfl⟩ := if_some e
  exact wS_set h
theorem only_all {vs : List Nat} : ∀ {gs : List MG}, (∀ g ∈ gs, GOnly vs g) → ∀ (ds : List D) (s s' : S), gAllT gs ds s = some s' → wS s' vs = wS s vs
  | [], _, [], s, s', e => by
    cases e
    rfl
  | g :: gs, h, d :: ds, s, s', e => by
    obtain ⟨s1, e1, e2⟩ := bind_some e
    exact (only_all (fun g hg => h g (List.mem_cons_of_mem _ hg)) ds s1 s' e2).trans (h g List.mem_cons_self _ _ _ e1)
  | [], _, _ :: _, _, _, e => by cases e
  | _ :: _, _, [], _, _, e => by cases e
theorem only_tp {vs : List Nat} {gs : List MG} (h : ∀ g ∈ gs, GOnly vs g) : GOnly vs (gTp gs) := fun o s s' e => by
  unfold gTp at e
  split at e
  · exact only_all h _ _ _ e
  · cases e
theorem only_nil {vs : List Nat} : ∀ g ∈ ([] : List MG), GOnly vs g := fun g h => nomatch h
theorem only_cons {vs : List Nat} {g : MG} {gs : List MG} (h : GOnly vs g) (h2 : ∀ g ∈ gs, GOnly vs g) : ∀ g' ∈ g :: gs, GOnly vs g' := fun g' hg => by
  rcases List.mem_cons.mp hg with z | z
  · rw [z]
    exact h
  · exact h2 g' z
/-- the block's slots stand empty -/
def clr (vs : List Nat) (s : S) : Bool := vs.all fun v => match s[v]? with
  | some none => true
  | _ => false
theorem clr_at {vs : List Nat} {s : S} (h : clr vs s = true) {v : Nat} (hv : v ∈ vs) : s[v]? = some none := by
  have q := List.all_eq_true.mp h v hv
  split at q
  · assumption
  · cases q
theorem clr_nn {vs : List Nat} {s : S} (h : clr vs s = true) : Nn vs s := fun v hv o e => by
  rw [clr_at h hv] at e
  cases e
theorem clr_wS {s : S} : ∀ {vs : List Nat}, clr vs s = true → wS s vs = s
  | [], _ => rfl
  | v :: vs, h => by
    have h2 : clr vs s = true := by
      unfold clr at h ⊢
      rw [List.all_cons, Bool.and_eq_true] at h
      exact h.2
    unfold wS
    rw [clr_wS h2]
    have e := clr_at h List.mem_cons_self
    apply List.ext_getElem?
    intro j
    by_cases c : v = j
    · subst c
      rw [List.getElem?_set_self (List.getElem?_eq_some_iff.mp e).1, e]
    · rw [List.getElem?_set_ne c]
/-! ### [e for t in i if c] -/
def wYs : WB := fun _ => some true
def compW (g : MG) (t : WB) (e : WV) : List D → S → Option (List D)
  | [], _ => some []
  | d :: ds, s => (g (.val d) s).bind fun s1 => (t s1).bind fun k => if k = true then (e s1).bind fun y => (compW g t e ds s).map fun r => y :: r else compW g t e ds s
def wLc (vs : List Nat) (m : WI) (g : MG) (t : WB) (e : WV) : WO := fun s => if clr vs s = true then (m s).bind fun ds => (compW g t e ds s).bind fun ys => if ys.length ≤ sizeLine then some (.lst ys) else none else none
section
variable {X : Cx}
theorem us_nil : PTs X [] (tPB np X.K wYs) := pts_imp pts_nil fun σ H Q ⟨F, G, s, ps, R, b, hm, q⟩ => by
  cases hm
  exact q H F ps R (Same.refl F) (Same.refl H)
theorem us_one {c : Expr} {m : WB} (h : PT X c (tPB np X.K m)) : PTs X [c] (tPB np X.K m) := pts_one h
theorem lcP_done {vs : List Nat} {m : WI} {g : MG} {t : WB} {e : WV} {K : PySem.W.Frag} {σ : L2.St} {H : Hp} {Q : VK} (hv : ∀ v ∈ vs, np ≤ v) (ho : GOnly vs g) (h : tPO np K (wLc vs m g t e) σ H Q) : tLc (tPI np K m) (tGp np K vs g) (tPB np K t) (tPV np K e) vs σ H Q := by
  obtain ⟨F, G, s, ps, R, o, hm, q⟩ := h
  obtain ⟨hcl, hm⟩ := bool_some hm
  obtain ⟨ds, h1, h2⟩ := bind_some hm
  obtain ⟨ys, h3, h4⟩ := bind_some h2
  obtain ⟨hlen, h5⟩ := if_some h4
  subst h5
  have nn := clr_nn hcl
  refine ⟨F, G, s, ps, R, ds, h1, fun J H1 F1 p1 R1 s01 k01 w D hD => ?_⟩
  refine ⟨fun i k H' => ∃ F' accV acc p', CI np K G σ D F' accV H' s acc p' ∧ Same F1 F' ∧ Same H1 H' ∧ i ≤ ds.length ∧ k = ds.length - i ∧ ∃ rest, compW g t e (ds.drop i) s = some rest ∧ acc ++ rest = ys, ⟨ds.length, ?_⟩, fun i k H2 hW => ?_⟩
  · obtain ⟨R2, n1, n2, n3⟩ := R1.new (o := .lst []) hD
    exact ⟨F1, [], [], p1, ⟨R2, upd_same, .nil, n1, n2, n3⟩, Same.refl F1, same_of_fresh hD, Nat.zero_le _, rfl, ys, h3, rfl⟩
  · obtain ⟨F2, accV, acc, p2, c, s12, k12, hi, rfl, rest, hgo, hacc⟩ := hW
    by_cases hlt : i < ds.length
    · have hd : ds[i]? = some ds[i] := List.getElem?_eq_getElem hlt
      refine .inr ⟨w.goes i H2 hlt (s12.trans c.rel.sF), fun H' => ∃ F' accV acc p', CI np K G σ D F' accV H' s acc p' ∧ Same F1 F' ∧ Same H1 H' ∧ ∃ rest, compW g t e (ds.drop (i + 1)) s = some rest ∧ acc ++ rest = ys, fun H' hN => ?_, fun x H3 hy => ?_⟩
      · obtain ⟨F', a1, a2, a3, a4, a5, a6, a7⟩ := hN
        exact ⟨ds.length - (i + 1), by omega, F', a1, a2, a3, a4, a5, a6, hlt, rfl, a7⟩
      · obtain ⟨F3, R3, s23, k23, tx⟩ := w.stepP hd c.held s12 hy
        rw [List.drop_eq_getElem_cons hlt] at hgo
        obtain ⟨s3, e1, e2⟩ := bind_some hgo
        obtain ⟨b, e3, e4⟩ := bind_some e2
        refine ⟨F3, _, s, p2, R3.sw nn hv wipe_wipe, ds[i], s3, tx, e1, fun σ4 H4 F4 p4 R4 s34 k34 hw => ?_⟩
        have hw' : wipe σ4 vs = wipe σ vs := hw.trans wipe_wipe
        refine ⟨hw', F4, _, s3, p4, R4, b, e3, fun H5 F5 p5 R5 s45 k45 => ?_⟩
        have s25 : Same F2 F5 := s23.trans (s34.trans s45)
        have k15 : Same H1 H5 := k12.trans (k23.trans (k34.trans k45))
        have es : wS s3 vs = s := (ho _ _ _ e1).trans (clr_wS hcl)
        rcases if_split e4 with ⟨rfl, e5⟩ | ⟨rfl, e5⟩
        · obtain ⟨d, e6, e7⟩ := bind_some e5
          obtain ⟨rs, e8, e9⟩ := map_some e7
          subst e9
          refine iteT ⟨F5, _, s3, p5, R5, d, e6, fun v H6 F6 p6 R6 s56 k56 tv => ?_⟩
          obtain ⟨p7, c7⟩ := c.back R6 (s25.trans s56) hv hw'
          rw [es] at c7
          refine ⟨accV, c7.at_, ?_, F6, _, _, p7, c7.push tv, s12.trans (s25.trans s56), fun a u ea => ?_, rs, e8, ?_⟩
          · have hl := congrArg List.length hacc
            rw [List.length_append, List.length_cons] at hl
            rw [da_length c.tr]
            omega
          · rw [upd_ne (ne_of_none ea hD)]
            exact k56 a u (k15 a u ea)
          · rw [← hacc, List.append_assoc]
            rfl
        · obtain ⟨p7, c7⟩ := c.back R5 s25 hv hw'
          rw [es] at c7
          exact iteF ⟨F5, accV, acc, p7, c7, s12.trans s25, k15, rest, e5, hacc⟩
    · have ei : i = ds.length := by omega
      subst ei
      rw [List.drop_length] at hgo
      cases hgo
      rw [List.append_nil] at hacc
      subst hacc
      refine .inl ⟨w.stops H2 (s12.trans c.rel.sF), q (.ref D) H2 F2 p2 [D] c.rel (s01.trans s12) (k01.trans k12) ⟨D, accV, rfl, c.at_, c.tr, rfl⟩ (by simp) fun a ha => ?_⟩
      rw [List.mem_singleton.mp ha]
      exact ⟨c.f, c.g, c.p, k01.free hD⟩
variable {elt tg iter : Expr} {ifs : List Expr} {scope : Scope} {own : List (Str × Nat)} {pos : Pos} {m : WI} {g : MG} {t : WB} {e : WV}
theorem w_lc (hN : X.N.Nodup) (hi : PI X tg iter (tPI np X.K m)) (ok : BlkOk X.N X.env.scope scope own)
    (hg : ∀ (s : Shared) (H : Hp) (C : Addr) (cl : List (Str × Addr)) (fp : List Addr), PG (X.blk s H scope (compEnvC scope cl C X.env) fp) tg (tGp np X.K (own.map (·.2)) g)) (ht : ∀ (s : Shared) (H : Hp) (C : Addr) (cl : List (Str × Addr)) (fp : List Addr), PTs (X.blk s H scope (compEnvC scope cl C X.env) fp) ifs (tPB np X.K t))
    (he : ∀ (s : Shared) (H : Hp) (C : Addr) (cl : List (Str × Addr)) (fp : List Addr), PE (X.blk s H scope (compEnvC scope cl C X.env) fp) elt (tPV np X.K e)) (ho : GOnly (own.map (·.2)) g) (hv : ∀ v ∈ own.map (·.2), np ≤ v := by decide) (hc : X.calm = true := by rfl) (hs : ∀ x, foldedSetIterable iter X.env x = pure x := by intro _; rfl) :
    PE X (.ListComp elt [⟨tg, iter, ifs, 0⟩] scope pos) (tPO np X.K (wLc (own.map (·.2)) m g t e)) :=
  pe_imp (pe_lc hc hN hi ok hg ht he hs) fun _ _ _ h => lcP_done hv ho h
end
end Dv

/-! Dict comprehensions; dicts of one's own changed. -/
namespace Dv
open PySem PySem.Spec PyProof.Rows L2
variable {np : Nat}
/-! ### {k: e for t in i if c} -/
theorem putK_nodup {k : Key} {v : V} : ∀ {kvs : List (Key × V)}, (kvs.map (·.1)).Nodup → ((putK kvs k v).map (·.1)).Nodup ∧ ∀ j ∈ (putK kvs k v).map (·.1), j = k ∨ j ∈ kvs.map (·.1)
  | [], nd => by
    rw [putK_one nd]
    exact ⟨by simp, fun j hj => .inl (by simpa using hj)⟩
  | (j, u) :: r, nd => by
    rw [putK_one nd]
    dsimp only
    have nd' := nd
    rw [List.map_cons, List.nodup_cons] at nd'
    by_cases c : j = k
    · rw [if_pos c]
      exact ⟨nd, fun i hi => .inr hi⟩
    · rw [if_neg c]
      obtain ⟨h1, h2⟩ := putK_nodup (k := k) (v := v) nd'.2
      refine ⟨?_, fun i hi => ?_⟩
      · rw [List.map_cons, List.nodup_cons]
        refine ⟨fun z => ?_, h1⟩
        rcases h2 j z with e | e
        · exact c e
        · exact nd'.1 e
      · rw [List.map_cons] at hi
        rcases List.mem_cons.mp hi with e | e
        · exact .inr (by rw [List.map_cons, e]; exact List.mem_cons_self)
        · rcases h2 i e with e | e
          · exact .inl e
          · exact .inr (by rw [List.map_cons]; exact List.mem_cons_of_mem _ e)
/-- the dict under construction -/
structure CD (np : Nat) (K : PySem.W.Frag) (G : Gd) (σ : L2.St) (D : Addr) (F : Hp) (accV : List (Key × V)) (H : Hp) (s : S) (acc : List (PyData × PyData)) (ps : List (List Addr)) : Prop where
  rel : Rel np K F G s σ H ps
  at_ : H D = some (.dK accV)
  tr : TrKv K F accV acc
  nd : (accV.map (·.1)).Nodup
  f : F D = none
  g : G.h D = none
  p : D ∉ ps.flatten
section
variable {K : PySem.W.Frag} {F F' H H' : Hp} {G : Gd} {s : S} {σ σ' : L2.St} {ps : List (List Addr)} {vs : List Nat} {D : Addr} {accV : List (Key × V)} {acc : List (PyData × PyData)}
theorem CD.held (c : CD np K G σ D F accV H s acc ps) : Rel np K F (G.add H [D]) s σ H ps :=
  c.rel.hold fun a ha => by
    rw [List.mem_singleton.mp ha]
    exact ⟨c.f, c.g, c.p⟩
theorem CD.back {H0 F0 : Hp} {s0 : S} {σ0 : L2.St} {ps0 : List (List Addr)} (c : CD np K G σ0 D F0 accV H0 s0 acc ps0) (R : Rel np K F (G.add H0 [D]) s σ' H ps) (s01 : Same F0 F) (hv : ∀ v ∈ vs, np ≤ v) (hw : L2.wipe σ' vs = L2.wipe σ vs) :
    ∃ ps', CD np K G σ D F accV H (wS s vs) acc ps' := by
  obtain ⟨R1, keep⟩ := Rel.unhold (as := [D]) (H0 := H0) (fun a ha => by
    rw [List.mem_singleton.mp ha]
    exact ⟨c.g, _, c.at_⟩) R
  obtain ⟨k1, k2, k3⟩ := keep D List.mem_cons_self
  obtain ⟨ps', R2, sub⟩ := R1.wipe vs
  exact ⟨ps', R2.sw (wS_nn s vs) hv hw.symm, k3 _ c.at_, dpKv_mono s01 acc c.tr, c.nd, k1, c.g, fun z => k2 (sub D z)⟩
theorem CD.push (c : CD np K G σ D F accV H s acc ps) {k : Key} {v : V} {d : PyData} (t : Tr K F v d) : CD np K G σ D F (putK accV k v) (upd H D (.dK (putK accV k v))) s (setK k d acc) ps where
  rel := c.rel.over (Same.refl F) (fun b u e => by
      rw [upd_ne fun z => by rw [z, c.f] at e; cases e]
      exact c.rel.sF b u e) (fun b u e => by
      rw [upd_ne fun z => by rw [z, c.g] at e; cases e]
      exact c.rel.sG b u e) c.rel.fg fun b hb => ⟨(c.rel.apart b hb).1, fun u e => by
      rw [upd_ne fun z => c.p (by rw [← z]; exact hb)]
      exact e⟩
  at_ := upd_same
  tr := setK_tr t c.tr c.nd
  nd := (putK_nodup c.nd).1
  f := c.f
  g := c.g
  p := c.p
end
section
variable {X : Cx}
variable {kx vx tg iter : Expr} {ifs : List Expr} {scope : Scope} {own : List (Str × Nat)} {pos : Pos} {m : WI} {g : MG} {t : WB} {kk e : WV}
end
end Dv

/-! Instances with slots: fields read, stored; dicts changed where they stand. -/
namespace Dv
open PySem PySem.Spec PyProof.Rows L2
variable {np : Nat}
/-! ### the slots of an instance -/
section
variable {K : PySem.W.Frag} {F H : Hp}
end
/-! ### e.f, e a name -/
section
variable {X : Cx} {e : Expr} {pos : Pos} {i j : Nat} {C p : Addr} {x f cn : Str}
end
/-! ### e.f = m -/
section
variable {X : Cx} {o value : Expr} {pos pos' : Pos} {i j : Nat} {C p : Addr} {f cn : Str} {m : MO}
end
/-! ### d[k] = m, d a name -/
/-- slot i's own dict -/
theorem Rel.dct {K : PySem.W.Frag} {F H : Hp} {G : Gd} {s : S} {σ : L2.St} {ps : List (List Addr)} (R : Rel np K F G s σ H ps) {i : Nat} {xs : List (D × D)} (e : s[i]? = some (some (.dct xs))) :
    ∃ a vs, σ[i]? = some (some (.ref a)) ∧ H a = some (.dK vs) ∧ TrKv K F vs xs ∧ F a = none ∧ ∀ vs' xs', TrKv K F vs' xs' → Rel np K F G (s.set i (some (.dct xs'))) σ (upd H a (.dK vs')) ps := by
  obtain ⟨v, as, h1, h2, a, vs, rfl, e2, t, rfl⟩ := R.at_ i _ e
  obtain ⟨n1, n2, _⟩ := R.apart a (mem_flat h2 List.mem_cons_self)
  refine ⟨a, vs, h1, e2, t, n1, fun vs' xs' t' => ?_⟩
  have hi : i < s.length := (List.getElem?_eq_some_iff.mp e).1
  have hσ : σ = σ.set i (some (.ref a)) := by
    apply List.ext_getElem?
    intro j
    by_cases c : i = j
    · subst c
      rw [List.getElem?_set_self (by rw [R.lenS]; exact hi), h1]
    · rw [List.getElem?_set_ne c]
  have hps : ps = ps.set i [a] := by
    apply List.ext_getElem?
    intro j
    by_cases c : i = j
    · subst c
      rw [List.getElem?_set_self (by rw [R.lenP]; exact hi), h2]
    · rw [List.getElem?_set_ne c]
  have key := R.put (F' := F) (H' := upd H a (.dK vs')) (v' := .ref a) (as' := [a]) (o' := .dct xs') hi (Same.refl F) (fun b u eb => by rw [upd_ne (fun z => by rw [z, n1] at eb; cases eb)]; exact R.sF b u eb) (fun b u eb => by rw [upd_ne (fun z => by rw [z, n2] at eb; cases eb)]; exact R.sG b u eb)
    hσ R.pin R.fg ⟨a, vs', rfl, upd_same, t', rfl⟩ (by simp) (fun b hb => by
      rw [List.mem_singleton.mp hb]
      exact ⟨n1, n2, fun j bs hj hbs => flat_apart R.nd h2 hbs hj List.mem_cons_self⟩) fun j bs hj hbs b hb => ⟨(R.apart b (mem_flat hbs hb)).1, fun u eu => by
        rw [upd_ne fun z => ?_]
        · exact eu
        · rw [z] at hb
          exact flat_apart R.nd h2 hbs hj List.mem_cons_self hb⟩
  rw [← hps] at key
  exact key
end Dv

/-! Instances made, their methods; dicts stored into, put together. -/
namespace Dv
open PySem PySem.Spec PyProof.Rows L2
variable {np : Nat}
section
variable {X : Cx} {e o ix : Expr} {pos spos : Pos} {i : Nat} {k m : WV}
end
/-! ### d.update(e) -/
section
variable {X : Cx}
end
section
variable {X : Cx} {o e : Expr} {fpos apos cpos : Pos} {i j k : Nat} {C p : Addr} {f cn : Str}
end
/-! ### a dict of a field, frozen ahead of a suite -/
/-! ### C(e, ..), o.m() -/
section
variable {K : PySem.W.Frag} {F H : Hp} {G : Gd} {s : S} {σ : L2.St} {ps : List (List Addr)} {f : FD} {Q : VK} {E : XK}
end
section
variable {X : Cx} {k : Nat} {C f : Addr} {fd : FuncData} {ps : List Str} {x m cn : Str} {p pos apos : Pos} {e o : Expr} {es : List Expr} {ms : List (S → Option (List D))} {df : FD} {mo : WO}
end
end Dv

/-! The law's end. -/
namespace Dv
open PySem PySem.Spec PyProof.Rows L2
theorem ints_tr {K : PySem.W.Frag} {F : Hp} : ∀ ns : List Int, TrAll K F (ns.map V.int) (ns.map PyData.int)
  | [] => .nil
  | n :: ns => .cons (.int n) (ints_tr ns)
/-- what is asked of the law's def -/
theorem sp_law {K : PySem.W.Frag} {f : FD} {H : Hp} {a : Addr} {ns : List Int} {E : XK} (hS : LsK K H a (ns.map V.int)) (hf : ∃ outs, f [.val (.list (ns.map PyData.int))] = some (.val (.bool true), outs)) : spOf K f [.ref a] H (fun v _ => v = .bl true) E := by
  obtain ⟨outs, hf⟩ := hf
  refine ⟨H, fun _ => none, [.val (.list (ns.map PyData.int))], [[]], Same.refl H, (fun b u e => nomatch e), (fun b u e => nomatch e), ⟨⟨.lst hS (ints_tr ns), rfl⟩, trivial⟩, List.nodup_nil, (fun b hb => nomatch hb), .val (.bool true), outs, hf, fun v H' F' as ass' _ _ _ _ own _ _ _ => ?_⟩
  obtain ⟨t, _⟩ := own
  cases t
  rfl
end Dv

/-! sorted(set(..)), len(set(..)); own things unpacked; the end with classes. -/
namespace Dv
open PySem PySem.Spec PyProof.Rows L2
variable {np : Nat}
section
variable {X : Cx} {a : Expr} {p p2 q pos : Pos} {m : WV}
theorem set_argP {g : List D → Option O} {σ : L2.St} {H : Hp} {Q : VK} (h : tPO np X.K (wOp g [m]) σ H Q) (hg : ∀ ds o, g ds = some o → ∃ d xs, ds = [d] ∧ (d = .list xs ∨ d = .tuple xs)) : tPR np X.K m σ H fun v H1 => ∃ F1 G s1 ps1 d xs o, Rel np X.K F1 G s1 σ H1 ps1 ∧ Lnt X.K F1 H1 v d ∧ (d = .list xs ∨ d = .tuple xs) ∧ g [d] = some o ∧
    ∀ v H' F' ps' as, Rel np X.K F' G s1 σ H' ps' → Same F1 F' → Same H1 H' → Own X.K F' H' v o as → as.Nodup → (∀ a ∈ as, F' a = none ∧ G.h a = none ∧ a ∉ ps'.flatten ∧ H1 a = none) → Q v H' := by
  obtain ⟨F, G, s, ps, R, o, hm, q⟩ := h
  obtain ⟨ds, h1, h2⟩ := bind_some hm
  obtain ⟨d1, e1, h3⟩ := bind_some h1
  obtain ⟨ds2, h7, h8⟩ := map_some h3
  cases h7
  subst h8
  obtain ⟨d, xs, ed, hd⟩ := hg _ _ h2
  cases ed
  exact ⟨F, G, s, ps, R, d1, e1, fun v H1 F1 p1 R1 s01 k01 l => ⟨F1, G, s, p1, d1, xs, o, R1, l, hd, h2, fun v' H' F' ps' as R' sF sH own nd new => q v' H' F' ps' as R' (s01.trans sF) (k01.trans sH) own nd fun a ha => ⟨(new a ha).1, (new a ha).2.1, (new a ha).2.2.1, k01.free (new a ha).2.2.2⟩⟩⟩
theorem w_sset (hc : X.calm = true) (hu : X.A.units + 100 < cLine) (hg : Gl X "sorted") (hm : X.mg "sorted" = none) (hg2 : Gl X "set") (hm2 : X.mg "set" = none) (ha : PE X a (tPR np X.K m))
    (na : starEach [a] X.env = (false, eval a X.env) :: starEach [] X.env := by rfl) : PE X (.Call (.Name "sorted" p) [.Call (.Name "set" p2) [a] [] q] [] pos) (tPO np X.K (wOp gSSet [m])) := by
  refine ⟨fun pins s σ H Q I h => ?_⟩
  have ht := set_argP h fun ds o e => by
    unfold gSSet at e
    split at e
    · exact ⟨_, _, rfl, .inl rfl⟩
    · exact ⟨_, _, rfl, .inr rfl⟩
    · cases e
  refine Call_ (ld_blt I hg hm PyProof.Rows.boot_sorted ?_)
  refine PyProof.Rows.callWith_builtin1 (PyProof.Rows.args_cons ?_ rfl) rfl rfl
  refine Call_ (ld_blt I hg2 hm2 PyProof.Rows.boot_set ?_)
  refine PyProof.Rows.callWith_type1 (PyProof.Rows.args_cons (thn (ha.run pins s σ H _ I ht) fun u s1 ⟨v, H1, I1, r1, F1, G, s2, ps1, d, xs, o, R1, l, hd, ho, q1⟩ => PyProof.Rows.args_nil ?_) na) na rfl
  have ho' : ssetD xs = some o.toList ∧ o = .lst o.toList := by
    rcases hd with rfl | rfl
    · obtain ⟨ys, e1, e2⟩ := map_some (show (ssetD xs).map O.lst = some o from ho)
      subst e2
      exact ⟨e1, rfl⟩
    · obtain ⟨ys, e1, e2⟩ := map_some (show (ssetD xs).map O.lst = some o from ho)
      subst e2
      exact ⟨e1, rfl⟩
  obtain ⟨e1, e2⟩ := ho'
  obtain ⟨ks, hk, e3⟩ := bind_some e1
  obtain ⟨ok, e4⟩ := if_some e3
  refine set_new I1 R1.sF hc hu l hd r1 hk ok fun s' mm S L I2 g tr hL => PyProof.Rows.args_nil ?_
  obtain ⟨al, so, dp, sub⟩ := sset_parts hk ok
  have hLs : ∀ d, d ∈ L.map (fun p => p.2.d) → d ∈ xs := fun d hd => sub hL d (by rwa [List.map_map])
  have alk : ∀ x ∈ ks, ∀ y ∈ ks, PySem.W.alike x.d y.d = true := fun x hx y hy => al _ (by rw [toSKs_d hk]; exact List.mem_map.mpr ⟨x, hx, rfl⟩) _ (by rw [toSKs_d hk]; exact List.mem_map.mpr ⟨y, hy, rfl⟩)
  have one : ∀ L1 : List (Value × SK), L1.Perm L → sortD (L1.map fun p => p.2.d) = ssetK ks := fun L1 p1 => by
    have e := sset_one (L := L1.map (·.2)) alk ((p1.map (·.2)).nodup_iff.mpr g.nd) fun x => (p1.map (·.2)).mem_iff.trans (hL x)
    rwa [List.map_map] at e
  refine sorted_new I2 R1.sF hc hu g tr (fun d hd e he => al d (hLs d hd) e (hLs e he)) (so.imp (fun h d hd => h d (hLs d hd)) fun h d hd => h d (hLs d hd)) (fun p hp => dp _ (hLs _ (List.mem_map.mpr ⟨p, hp, rfl⟩))) (fun L1 p1 => (one L1 p1).trans (one L (.refl L)).symm) fun pl vs hn t => ?_
  rw [one L (.refl L), e4] at t
  obtain ⟨R2, n1, n2, n3⟩ := R1.new (o := .lst vs) hn
  rw [e2] at q1
  refine q1 (.ref pl) _ F1 ps1 [pl] R2 (Same.refl F1) (same_of_fresh hn) ⟨pl, vs, rfl, upd_same, t, rfl⟩ (by simp) fun b hb => ?_
  rw [List.mem_singleton.mp hb]
  exact ⟨n1, n2, n3, hn⟩
/-! ### a, b, c, d = .., their things own -/
def tGO (np : Nat) (K : PySem.W.Frag) (is : List Nat) : TGs := fun vs σ H Q => ∃ F G s ps, Rel np K F G s σ H ps ∧ ∃ os ass s', OwnAll K F H vs os ass ∧ ass.flatten.Nodup ∧ (∀ a ∈ ass.flatten, F a = none ∧ G.h a = none ∧ a ∉ ps.flatten) ∧ setAll is os s = some s' ∧
  ∀ σ' H' F' ps', Rel np K F' G s' σ' H' ps' → Same F F' → Q σ' H'
theorem go_nil : PGs X [] (tGO np X.K []) := pgs_imp pgs_nil fun vs σ H Q ⟨F, G, s, ps, R, os, ass, s', own, nd, new, hm, q⟩ => by
  match vs, os, ass, own, hm with
  | [], [], [], _, hm =>
    cases hm
    exact ⟨rfl, q σ H F ps R (Same.refl F)⟩
  | [], [], _ :: _, own, _ => exact own.elim
  | _ :: _, [], _, own, _ => exact own.elim
  | _, _ :: _, _, _, hm => cases hm
theorem go_cons {es : List Expr} {i : Nat} {is : List Nat} {x : Str} (hi : X.N[i]? = some x) (hN : X.N.Nodup) (hx : Loc X.env.scope x) (h2 : PGs X es (tGO np X.K is)) (hp : np ≤ i := by decide) (hf : X.fn x = true ∨ X.env.scope.names.lookup x = some .local := by first | exact .inl rfl | exact .inr rfl | assumption)
    (hs : (assignEach (.Name x pos :: es) X.env).map (·.2) = assign (.Name x pos) X.env :: (assignEach es X.env).map (·.2) := by rfl) : PGs X (.Name x pos :: es) (tGO np X.K (i :: is)) :=
  pgs_imp (pgs_cons (pg_name hN hi hx hf) h2 hs) fun vs σ H Q ⟨F, G, s, ps, R, os, ass, s', own, nd, new, hm, q⟩ => by
    match vs, os, ass, own, hm with
    | v :: vs, o :: os, as :: ass, own, hm =>
      have hm' : (if i < s.length then setAll is os (s.set i (some o)) else none) = some s' := hm
      obtain ⟨hl, hm'⟩ := if_someO hm'
      rw [List.flatten_cons, List.nodup_append] at nd
      have newA : ∀ b ∈ as, F b = none ∧ G.h b = none ∧ b ∉ ps.flatten := fun b hb => new b (by rw [List.flatten_cons]; exact List.mem_append_left _ hb)
      have new2 : ∀ b ∈ ass.flatten, F b = none ∧ G.h b = none ∧ b ∉ ps.flatten := fun b hb => new b (by rw [List.flatten_cons]; exact List.mem_append_right _ hb)
      have R1 := R.store hl hp own.1 nd.1 newA
      exact ⟨v, vs, rfl, F, G, _, _, R1, os, ass, s', own.2, nd.2.1, fun b hb => ⟨(new2 b hb).1, (new2 b hb).2.1, fun z => by
        rcases mem_set_flat z with z | z
        · exact nd.2.2 b z b hb rfl
        · exact (new2 b hb).2.2 z⟩, hm', q⟩
    | _ :: _, _ :: _, [], own, _ => exact own.elim
    | [], _ :: _, _, own, _ => exact own.elim
    | _, [], _, _, hm => cases hm
theorem s_parN {es ts : List Expr} {x1 x2 : Nat} {tpos vpos spos : Pos} {is : List Nat} {ms : List MO} (ha : PA X es (tAO np X.K ms)) (hg : PGs X ts (tGO np X.K is)) (hlen : ms.length ≤ sizeLine) (hc : X.calm = true := by rfl) (hn : (assignEach ts X.env).length = ms.length := by rfl) (hst : (assignEach ts X.env).findIdx? (·.1) = none := by rfl)
    (hs : swapsWithSole [.Tuple ts x1 tpos] (.Tuple es x2 vpos) spos.line X.env = pure false := by rfl) (hw : swappedStores [.Tuple ts x1 tpos] (.Tuple es x2 vpos) X.env = pure none := by rfl) (h1 : (assignEach [.Tuple ts x1 tpos] X.env).map (·.2) = [assign (.Tuple ts x1 tpos) X.env] := by rfl) :
    PS X (.Assign [.Tuple ts x1 tpos] (.Tuple es x2 vpos) spos) (tS np X.K (sPar is ms)) :=
  ps_imp (ps_asg (pe_tup ha) (pg_tup hc hg hn hst) hs hw h1) fun D σ H ⟨F, G, s, ps, R, f, s', hm, q⟩ => by
    obtain ⟨⟨os, s1⟩, g1, g2⟩ := bind_some hm
    obtain ⟨s2, g3, g4⟩ := map_some g2
    cases g4
    have hl : os.length = ms.length := by
      have go : ∀ {ms : List MO} {s s' : S} {os : List O}, evO ms s = some (os, s') → os.length = ms.length := fun {ms} => by
        induction ms with
        | nil =>
          intro s s' os h
          cases h
          rfl
        | cons m ms ih =>
          intro s s' os h
          obtain ⟨x, h1, h2⟩ := bind_some h
          obtain ⟨y, h3, h4⟩ := map_some h2
          cases h4
          exact congrArg (· + 1) (ih h3)
      exact go g1
    refine ⟨F, G, s, ps, R, os, s1, g1, fun vs H1 F1 p1 ass R1 s01 own nd new => ?_⟩
    have hvl : vs.length = ms.length := (ownAll_len own).1.trans hl
    refine ⟨by rw [hvl]; exact hlen, fun p hp => ?_⟩
    obtain ⟨R2, s12⟩ := R1.laid (o := .tup vs) hp
    have np2 : ∀ a ∈ ass.flatten, a ≠ p := fun a ha z => by
      obtain ⟨u, eu⟩ := ownAll_there own a ha
      rw [z, hp] at eu
      cases eu
    refine ⟨p, vs, rfl, SqT.of upd_same, hvl, _, G, s1, p1, R2, os, ass, _, ?_, nd, fun a ha => ⟨by rw [upd_ne (np2 a ha)]; exact (new a ha).1, (new a ha).2⟩, g3, fun σ2 H2 F2 p2 R3 s23 => q σ2 H2 F2 p2 R3 (s01.trans (s12.trans s23))⟩
    have go : ∀ {vs : List V} {os : List O} {ass : List (List Addr)}, OwnAll X.K F1 H1 vs os ass → (∀ a ∈ ass.flatten, a ≠ p) → OwnAll X.K (upd F1 p (.tup (vs ++ []))) H1 vs os ass → True := fun _ _ _ => trivial
    have mono : ∀ {vs' : List V} {os : List O} {ass : List (List Addr)}, OwnAll X.K F1 H1 vs' os ass → (∀ a ∈ ass.flatten, a ≠ p) → OwnAll X.K (upd F1 p (.tup vs)) (upd H1 p (.tup vs)) vs' os ass := fun {vs'} => by
      induction vs' with
      | nil =>
        intro os ass h _
        match os, ass, h with
        | [], [], _ => exact trivial
        | _ :: _, _, h => exact h.elim
        | [], _ :: _, h => exact h.elim
      | cons v vs' ih =>
        intro os ass h hn
        match os, ass, h with
        | o :: os, as :: ass, h =>
          exact ⟨h.1.mono s12 fun a ha u eu => by rw [upd_ne (hn a (by rw [List.flatten_cons]; exact List.mem_append_left _ ha))]; exact eu, ih h.2 fun a ha => hn a (by rw [List.flatten_cons]; exact List.mem_append_right _ ha)⟩
        | [], _, h => exact h.elim
        | _ :: _, [], h => exact h.elim
    exact mono own np2
end
/-! ### the law's end, whatever the classes' addresses -/
end Dv

/-! set(d), d a dict of keys. -/
namespace Dv
open PySem PySem.Spec PyProof.Rows L2
section
variable {P : Program} {w : World} {A : Around} {E : Value → Shared → Prop} {s : Shared}
end
end Dv

/-! sorted(set(x)), x a list, a tuple or a dict. -/
namespace Dv
open PySem PySem.Spec PyProof.Rows L2
variable {np : Nat}
section
variable {X : Cx} {a : Expr} {p p2 q pos : Pos} {m : WV}
/-! ### a, b, c, d = .., their things own -/
end
end Dv

/-! sorted(d), d a dict of keys. -/
namespace Dv
open PySem PySem.Spec PyProof.Rows L2
section
variable {X : Cx}
end
end Dv

/-! {k: e for x in xs for y in f(x)}: the kit's hand layer has dict comprehensions of one clause. -/
namespace Dv
open PySem PySem.Spec PyProof.Rows L2
variable {np : Nat}
section
variable {prog : Program} {w : World} {A : Around} {R : Result → Shared → Prop} {s : Shared} {kx vx a ia b ib : Expr} {sc : Scope} {p : Pos} {it : Value} {D : Addr} {env : Env}
end
section
variable {Y : Cx} {pn : List (Addr × Obj)} {kx vx a ia b ib : Expr} {sc : Scope} {p : Pos} {D it1 : Addr} {fp : List Addr} {tn : Nat → Heap → Prop} {J : It} {g1 : TG} {tk tv : TE} {ws : List Nat} {τ : L2.St} {Nx : Hp → Prop}
end
section
variable {X : Cx} {kx vx a ia b ib : Expr} {sc : Scope} {own : List (Str × Nat)} {ws : List Nat} {pos : Pos} {wi wi1 : TI} {g g1 : TG} {tk tv : TE}
/-- what is known of the block's parts -/
structure Blk2 (X : Cx) (kx vx a b ib : Expr) (sc : Scope) (g : TG) (wi1 : TI) (g1 : TG) (tk tv : TE) : Prop where
  ta : ∀ (s : Shared) (H : Hp) (C : Addr) (cl : List (Str × Addr)) (fp : List Addr), PG (X.blk s H sc (compEnvC sc cl C X.env) fp) a g
  src : ∀ (s : Shared) (H : Hp) (C : Addr) (cl : List (Str × Addr)) (fp : List Addr), PI (X.blk s H sc (compEnvC sc cl C X.env) fp) b ib wi1
  tb : ∀ (s : Shared) (H : Hp) (C : Addr) (cl : List (Str × Addr)) (fp : List Addr), PG (X.blk s H sc (compEnvC sc cl C X.env) fp) b g1
  key : ∀ (s : Shared) (H : Hp) (C : Addr) (cl : List (Str × Addr)) (fp : List Addr), PE (X.blk s H sc (compEnvC sc cl C X.env) fp) kx tk
  vlu : ∀ (s : Shared) (H : Hp) (C : Addr) (cl : List (Str × Addr)) (fp : List Addr), PE (X.blk s H sc (compEnvC sc cl C X.env) fp) vx tv
end
/-! ### by trees -/
section
variable {X : Cx}
variable {kx vx tg iter tg1 iter1 : Expr} {scope : Scope} {own : List (Str × Nat)} {ws : List Nat} {pos : Pos} {m m1 : WI} {g g1 : MG} {kk e : WV}
end
end Dv

/-! a, b = a tuple or a list. -/
namespace Dv
open PySem PySem.Spec PyProof.Rows L2
variable {np : Nat}
section
variable {X : Cx} {pos : Pos}
end
end Dv

/-! o.m(e, ..), o a new instance. -/
namespace Dv
open PySem PySem.Spec PyProof.Rows L2
variable {np : Nat}
section
variable {X : Cx} {o e : Expr} {es : List Expr} {m cn : Str} {pos apos : Pos} {C : Addr} {mo : WO} {ms : List (S → Option (List D))} {df : FD} {fd : FuncData} {ps : List Str} {k : Nat}
end
end Dv

/-! a whole number in d.values(), d a dict of whole numbers. -/
namespace Dv
open PySem PySem.Spec PyProof.Rows L2
section
variable {P : Program} {w : World} {A : Around} {E : Value → Shared → Prop}
end
section
variable {X : Cx} {e : Expr} {td : TE} {apos cpos : Pos}
variable {np : Nat} {a : Expr} {pos : Pos} {ma me : WV}
end
end Dv

/-! ahead of a statement: a slot frozen, slots forgotten. -/
namespace Dv
open PySem PySem.Spec PyProof.Rows L2
variable {np : Nat} {X : Cx} {st : Stmt} {m : MS}
end Dv

/-! len(set(..)) that leaves the slots. -/
namespace Dv
open PySem PySem.Spec PyProof.Rows L2
variable {np : Nat}
section
variable {X : Cx} {a : Expr} {p p2 q pos : Pos} {m : WV}
end
end Dv

/-! sorted of a tuple. -/
namespace Dv
open PySem PySem.Spec PyProof.Rows L2
section
variable {prog : Program} {w : World} {A : Around} {E : Value → Shared → Prop} {s : Shared}
end
section
variable {X : Cx}
end
end Dv

/-! list(range(n)). -/
namespace Dv
open PySem PySem.Spec PyProof.Rows L2
section
variable {np : Nat} {X : Cx} {a : Expr} {p p2 q pos : Pos} {ma : WV}
end
end Dv

/-! min(xs), xs a list of texts. -/
namespace Dv
open PySem PySem.Spec PyProof.Rows L2
section
variable {X : Cx}
end
end Dv

/-! a | b of two sets of keys: the tables laid clean. -/
namespace Dv
open PySem PySem.Spec PyProof.Rows L2
/-- the masks that a copy can have -/
def MaskW (m : Nat) : Prop := m = 7 ∨ m = 15 ∨ m = 31 ∨ m = 63
/-- who sits where -/
structure OwnW (m n : Nat) (owner : Array (Option Nat)) : Prop where
  sz : owner.size = m + 1
  lt : ∀ j k, j ≤ m → oAt owner j = some k → k < n
  inj : ∀ j j' k, j ≤ m → j' ≤ m → oAt owner j = some k → oAt owner j' = some k → j = j'
  all : ∀ k, k < n → ∃ j, j ≤ m ∧ oAt owner j = some k
theorem OwnW.init (m : Nat) : OwnW m 0 (Array.replicate (m + 1) none) where
  sz := by simp
  lt := fun j k hj e => by
    rw [oAt_init hj] at e
    cases e
  inj := fun j j' k hj _ e => by
    rw [oAt_init hj] at e
    cases e
  all := fun k hk => absurd hk (Nat.not_lt_zero _)
theorem OwnW.hole {m n : Nat} {owner : Array (Option Nat)} (W : OwnW m n owner) (h : n ≤ m) : ∃ j, j ≤ m ∧ oAt owner j = none := by
  refine Classical.byContradiction fun no => ?_
  have full : ∀ j, j ≤ m → ∃ k, oAt owner j = some k := fun j hj => by
    cases e : oAt owner j with
    | none => exact absurd ⟨j, hj, e⟩ no
    | some k => exact ⟨k, rfl⟩
  have l1 : ((List.range (m + 1)).map fun j => (oAt owner j).getD 0).Nodup := by
    refine List.pairwise_map.mpr (List.Pairwise.imp_of_mem (fun {a b} ha hb hab => ?_) List.nodup_range)
    have ha' := Nat.le_of_lt_succ (List.mem_range.mp ha)
    have hb' := Nat.le_of_lt_succ (List.mem_range.mp hb)
    obtain ⟨k, ek⟩ := full a ha'
    obtain ⟨k', ek'⟩ := full b hb'
    rw [ek, ek']
    intro e
    have e : k = k' := e
    subst e
    exact hab (W.inj a b k ha' hb' ek ek')
  have := nd_le l1 (b := List.range n) fun x hx => by
    obtain ⟨j, hj, rfl⟩ := List.mem_map.mp hx
    obtain ⟨k, ek⟩ := full j (Nat.le_of_lt_succ (List.mem_range.mp hj))
    rw [ek]
    exact List.mem_range.mpr (W.lt j k (Nat.le_of_lt_succ (List.mem_range.mp hj)) ek)
  rw [List.length_map, List.length_range, List.length_range] at this
  omega
theorem OwnW.put {m n j : Nat} {owner : Array (Option Nat)} (W : OwnW m n owner) (hj : j ≤ m) (hn : oAt owner j = none) : OwnW m (n + 1) (owner.setIfInBounds j (some n)) := by
  have hjs : j < owner.size := by rw [W.sz]; omega
  have hs := oAt_set_self (some n) hjs
  refine ⟨by rw [Array.size_setIfInBounds]; exact W.sz, fun i k hi e => ?_, fun i i' k hi hi' e e' => ?_, fun k hk => ?_⟩
  · by_cases c : i = j
    · rw [c, hs] at e
      cases e
      omega
    · rw [oAt_set_ne _ c] at e
      have := W.lt i k hi e
      omega
  · by_cases c : i = j
    · rw [c, hs] at e
      cases e
      by_cases c' : i' = j
      · rw [c, c']
      · rw [oAt_set_ne _ c'] at e'
        exact absurd (W.lt i' n hi' e') (Nat.lt_irrefl _)
    · rw [oAt_set_ne _ c] at e
      by_cases c' : i' = j
      · rw [c', hs] at e'
        cases e'
        exact absurd (W.lt i n hi e) (Nat.lt_irrefl _)
      · rw [oAt_set_ne _ c'] at e'
        exact W.inj i i' k hi hi' e e'
  · by_cases c : k < n
    · obtain ⟨i, hi, e⟩ := W.all k c
      refine ⟨i, hi, ?_⟩
      rw [oAt_set_ne _ (fun z => by rw [z, hn] at e; cases e)]
      exact e
    · exact ⟨j, hj, by rw [hs]; congr 1; omega⟩
end Dv

/-! a | b of two sets of keys: room, the merge into a new set. -/
namespace Dv
open PySem PySem.Spec PyProof.Rows L2
instance (m : Nat) : Decidable (MaskW m) := by unfold MaskW; infer_instance
section
variable {P : Program} {w : World} {A : Around} {E : Value → Shared → Prop} {s : Shared} {a b : Addr}
theorem GTab.full {L : List (Value × SK)} {es : Array (Int × Value)} {t : SetTable} (T : GTab P w false L es t) : t.place.size = L.length := by
  have f := T.fit
  unfold SetTable.fits at f
  rw [Bool.and_eq_true, beq_iff_eq] at f
  rw [f.1, T.size]
end
end Dv

/-! a | b of two sets of keys: the merge one by one. -/
namespace Dv
open PySem PySem.Spec PyProof.Rows L2
section
variable {P : Program} {w : World} {A : Around} {E : Value → Shared → Prop} {s : Shared} {a b : Addr}
end
end Dv

/-! a | b of two sets of keys: the call. -/
namespace Dv
open PySem PySem.Spec PyProof.Rows L2
section
variable {P : Program} {w : World} {A : Around} {E : Value → Shared → Prop} {s : Shared}
theorem GSet.ty {a : Addr} {m : Bool} {L : List (Value × SK)} (R : GSet P w s.heap a m L) : s.TypeIs (.ref a) "set" := by
  obtain ⟨o, es, ep, t, ho, hex, _⟩ := R.ex
  exact ⟨o, ho, hex.1⟩
end
end Dv

/-! sorted(set(a) | set(b)), a and b pure. -/
namespace Dv
open PySem PySem.Spec PyProof.Rows L2
theorem GSet.keys {P : Program} {w : World} {h : Heap} {a : Addr} {m : Bool} {L : List (Value × SK)} (R : GSet P w h a m L) (hm : ∀ p ∈ L, p.2.tup = false) : GSet P w h a false L := by
  obtain ⟨o, es, ep, t, ho, hex, hd, T⟩ := R.ex
  exact ⟨⟨o, es, ep, t, ho, hex, hd, T.rows, T.fit, T.ris, T.led, fun z => nomatch z⟩, R.nd, R.few, R.st, hm⟩
theorem GSet.stay {P : Program} {w : World} {h h' : Heap} {a : Addr} {L : List (Value × SK)} (R : GSet P w h a false L) (k : ∀ o, h.get? a = some o → h'.get? a = some o) : GSet P w h' a false L := R.keep k fun p hp => by
  have e := R.st p hp
  have m := R.md p hp
  cases hp2 : p.2 with
  | k x => rw [hp2] at e; exact e
  | t xs => rw [hp2] at m; cases m
theorem GSet.val {P : Program} {w : World} {h : Heap} {a : Addr} {L : List (Value × SK)} (R : GSet P w h a false L) {K : PySem.W.Frag} {F : Hp} : ∀ p ∈ L, ∃ v, RelV v p.1 ∧ Tr K F v p.2.d := fun p hp => by
  have e := R.st p hp
  have m := R.md p hp
  cases hp2 : p.2 with
  | t xs => rw [hp2] at m; cases m
  | k x =>
    rw [hp2] at e
    rcases keyIs_shape e with ⟨i, t, rfl, e2⟩ | ⟨y, t, rfl, e2⟩
    · exact ⟨.int i, ⟨t, e2⟩, .int i⟩
    · exact ⟨.str y, ⟨t, e2⟩, .str y⟩
variable {np : Nat}
section
variable {X : Cx} {a b : Expr} {p p2 p3 q q2 bp pos : Pos} {ma mb : WV}
end
end Dv

/-! sorted({a for ..} | {b for ..}), pure: set comprehensions of keys. -/
namespace Dv
open PySem PySem.Spec PyProof.Rows L2
/-- the set of the keys ks at a -/
def SKO (P : Program) (w : World) (a : Addr) (ks : List SK) : HO := .ext fun h => ∃ L, GSet P w h a false L ∧ ∀ x, x ∈ L.map (·.2) ↔ x ∈ ks
section
variable {X : Cx}
end
section
variable {X : Cx}
end
variable {np : Nat}
/-- the set under construction -/
structure CKs (P : Program) (w : World) (np : Nat) (K : PySem.W.Frag) (G : Gd) (σ : L2.St) (D : Addr) (F : Hp) (H : Hp) (s : S) (ks : List SK) (ps : List (List Addr)) : Prop where
  rel : Rel np K F G s σ H ps
  at_ : H D = some (SKO P w D ks)
  f : F D = none
  g : G.h D = none
  p : D ∉ ps.flatten
section
variable {P : Program} {w : World} {K : PySem.W.Frag} {F F' H H' : Hp} {G : Gd} {s : S} {σ σ' : L2.St} {ps : List (List Addr)} {vs : List Nat}
theorem CKs.held {D : Addr} {ks : List SK} (c : CKs P w np K G σ D F H s ks ps) : Rel np K F (G.add H [D]) s σ H ps :=
  c.rel.hold fun a ha => by
    rw [List.mem_singleton.mp ha]
    exact ⟨c.f, c.g, c.p⟩
theorem CKs.back {D : Addr} {ks : List SK} {H0 F0 : Hp} {s0 : S} {σ0 : L2.St} {ps0 : List (List Addr)} (c : CKs P w np K G σ0 D F0 H0 s0 ks ps0) (R : Rel np K F (G.add H0 [D]) s σ' H ps) (hv : ∀ v ∈ vs, np ≤ v) (hw : L2.wipe σ' vs = L2.wipe σ vs) :
    ∃ ps', CKs P w np K G σ D F H (wS s vs) ks ps' := by
  obtain ⟨R1, keep⟩ := Rel.unhold (as := [D]) (H0 := H0) (fun a ha => by
    rw [List.mem_singleton.mp ha]
    exact ⟨c.g, _, c.at_⟩) R
  obtain ⟨k1, k2, k3⟩ := keep D List.mem_cons_self
  obtain ⟨ps', R2, sub⟩ := R1.wipe vs
  exact ⟨ps', R2.sw (wS_nn s vs) hv hw.symm, k3 _ c.at_, k1, c.g, fun z => k2 (sub D z)⟩
theorem CKs.push {D : Addr} {ks ls : List SK} (c : CKs P w np K G σ D F H s ks ps) : CKs P w np K G σ D F (upd H D (SKO P w D ls)) s ls ps where
  rel := c.rel.over (Same.refl F) (fun b u e => by
      rw [upd_ne fun z => by rw [z, c.f] at e; cases e]
      exact c.rel.sF b u e) (fun b u e => by
      rw [upd_ne fun z => by rw [z, c.g] at e; cases e]
      exact c.rel.sG b u e) c.rel.fg fun b hb => ⟨(c.rel.apart b hb).1, fun u e => by
      rw [upd_ne fun z => c.p (by rw [← z]; exact hb)]
      exact e⟩
  at_ := upd_same
  f := c.f
  g := c.g
  p := c.p
end
section
variable {X : Cx} {elt tg iter : Expr} {ifs : List Expr} {scope : Scope} {own : List (Str × Nat)} {pos : Pos} {m : WI} {g : MG} {t : WB} {e : WV}
end
/-! ### the two put together -/
section
variable {X : Cx} {a b : Expr} {p bp pos : Pos} {ma mb : S → Option (List D)}
end
end Dv

/-! repr: what is known of the guards around. -/
namespace Dv
open PySem PySem.Spec PyProof.Rows L2
/-- as FnOk, wherever no guard stands around -/
structure FnG (P : Program) (w : World) (K : PySem.W.Frag) (mg : Str → Option Value) (base : Heap) (k : Nat) (f : Addr) (fd : FuncData) (ps : List Str) (sp : Sp) : Prop where
  arity : ∀ vs H Q E, sp vs H Q E → vs.length = ps.length
  go : ∀ (B : Around) (stk : List Env) (st : Shared) (G : Hp) (ar : Args) (us : List Value) (vs : List V) (Q : VK) (E : XK), B.guards = some [] → Room k B → Env0 P w K mg base B stk st G → BindsTo st fd ar (ps.zip us) → Vals vs us → sp vs G Q E →
    codeAny (model P w) B (.call (.ref f) ar) (CR CX0 stk P w G st Q E) st
section
variable {X : Cx} {k : Nat} {f : Addr} {fd : FuncData} {ps : List Str} {sp : Sp} {E : XK} {x : Str} {p pos : Pos} {e : Expr} {es : List Expr} {t : TA}
theorem run_fnG {pn : List (Addr × Obj)} {sg : L2.St} {G : Hp} {st : Shared} {Q : VK} {us : List Value} {vs : List V} (F : FnG X.prog X.w X.K X.mg X.base k f fd ps sp) (gd : X.A.guards = some []) (room : Room k X.A) (bn : Binds X.K fd ps []) (J : Inv X pn sg G st) (rv : Vals vs us) (hs : sp vs G Q E) :
    wpAny (model X.prog X.w) X.A (call (.ref f) us) (EP X pn sg Q) X.xe st := by
  have lu : (us ++ ([] : List Value)).length = ps.length := by
    rw [List.append_nil, ← rv.length]
    exact F.arity vs G Q E hs
  have bd := bn st us J.kIn lu
  rw [List.append_nil] at bd
  refine wpAny_call (codeAny_mono (F.go X.A X.stack st G ⟨us, []⟩ us vs Q E gd room J.env0 bd rv hs) fun res st' hres => ?_)
  match res, hres with
  | .error e, hres => exact hres.elim
  | .ok (.ret u), hres => exact J.after hres
  | .ok .next, hres => exact hres.elim
  | .ok .brk, hres => exact hres.elim
  | .ok .cont, hres => exact hres.elim
theorem pe_callG (F : FnG X.prog X.w X.K X.mg X.base k f fd ps sp) (gd : X.A.guards = some []) (room : Room k X.A) (gx : Gl X x) (mx : X.mg x = some (.ref f)) (kp : PySem.W.keepIn X.K (.ref f) = true) (bn : Binds X.K fd ps []) (ha : PA X (e :: es) t)
    (hdb : (x == ("__debug__" : Str)) = false := by decide) (hst : starEach (e :: es) X.env = (false, eval e X.env) :: starEach es X.env := by rfl) (hp2 : (backTo pos (starEach es X.env)).any (·.1) = false := by rfl) :
    PE X (.Call (.Name x p) (e :: es) [] pos) (tCall sp [] E t) := by
  refine ⟨fun pn sg st G Q J hyp => wpAny_Call_Name_kw (ld_glob J gx mx ?_ hdb)⟩
  refine PySem.W.callWith_K (h₀ := X.base) J.ok.mod.kin kp (thn (ha.run pos pn sg st G _ J hyp) fun us s1 ⟨vs, G1, J1, rv, q⟩ => ⟨J1.kIn, ?_⟩) hst hp2
  have q2 : sp (vs ++ []) G1 Q E := q
  rw [List.append_nil] at q2
  exact run_fnG F gd room bn J1 rv q2
theorem e_callG {np : Nat} {df : FD} {ms : List MArg} (F : FnG X.prog X.w X.K X.mg X.base k f fd ps (spOf X.K df)) (gd : X.A.guards = some []) (room : Room k X.A) (gx : Gl X x) (mx : X.mg x = some (.ref f)) (kp : PySem.W.keepIn X.K (.ref f) = true) (bn : Binds X.K fd ps []) (ha : PA X (e :: es) (tArgs np X.K ms))
    (hdb : (x == ("__debug__" : Str)) = false := by decide) (hst : starEach (e :: es) X.env = (false, eval e X.env) :: starEach es X.env := by rfl) (hp2 : (backTo pos (starEach es X.env)).any (·.1) = false := by rfl) : PE X (.Call (.Name x p) (e :: es) [] pos) (tO np X.K (mCall df ms)) :=
  pe_imp (pe_callG F gd room gx mx kp bn ha hdb hst hp2) fun _ _ _ => call_done (E := E0)
end
/-! repr of a value -/
def gRepr : List D → Option O
  | [d] => if d.plain = true ∧ d.showable = true ∧ d.hasDict = false ∧ d.depth ≤ 64 ∧ d.shown.length ≤ 1000000 then some (.val (.str d.shown)) else none
  | _ => none
theorem c_repr {X : Cx} (hc : X.calm = true) (gd : X.A.guards = some []) (hu : X.A.units + 100 < cLine) : CallR X (.builtin "repr") (rG X.K gRepr) := by
  intro pn st sg G vs us Q J rv ⟨F, ds, o, sF, l, e, q⟩
  unfold gRepr at e
  split at e
  · rename_i d
    obtain ⟨⟨h1, h2, h3, h4, h5⟩, rfl⟩ := if_some e
    obtain ⟨v, rfl, l1⟩ := one_arg l
    obtain ⟨u, rfl, r1⟩ := rv.one
    obtain ⟨⟨as, ra⟩, _⟩ := lnt_reads J sF h1 l1 r1
    have hz : d.shown.length ≤ sizeLine := by
      rw [sizeLine_eq]
      omega
    have fin : ∀ (t : Tok) (h' : Heap) (tk : Tok), (∀ b o, st.heap.get? b = some o → h'.get? b = some o) → EP X pn sg Q (.str d.shown t) { st with heap := h', toks := tk } := fun t h' tk hk => ⟨.str d.shown, G, J.kept hk, ⟨t, rfl⟩, q _ G (.old (.str _))⟩
    cases d with
    | none =>
      cases ra
      exact PySem.P.repr_of_none (fin _ _ _ fun _ _ h => h)
    | bool b =>
      cases ra
      exact PySem.P.repr_of_bool (fin _ _ _ fun _ _ h => h)
    | int i =>
      cases ra
      exact PySem.P.repr_of_int (by simpa [PyData.showable] using h2) (fin _ _ _ fun _ _ h => h)
    | str s =>
      cases ra
      exact PySem.P.repr_of_str (fin _ _ _ fun _ _ h => h) hz
    | list xs =>
      have hr : ∃ a, u = .ref a := by cases ra; exact ⟨_, rfl⟩
      obtain ⟨a, rfl⟩ := hr
      exact repr_of_reads' ra h2 (fun z => by rw [h3] at z; cases z) gd (by omega) (fun _ _ h => h) (fun h' u tk hk => fin u h' tk hk) hz
    | tuple xs =>
      have hr : ∃ a, u = .ref a := by cases ra; exact ⟨_, rfl⟩
      obtain ⟨a, rfl⟩ := hr
      exact repr_of_reads' ra h2 (fun z => by rw [h3] at z; cases z) gd (by omega) (fun _ _ h => h) (fun h' u tk hk => fin u h' tk hk) hz
    | dict kvs => simp [PyData.hasDict] at h3
  · cases e
end Dv

/-! t[::-1], t a tuple. -/
namespace Dv
open PySem PySem.Spec PyProof.Rows L2
section
variable {prog : Program} {w : World} {A : Around} {E : Value → Shared → Prop} {s : Shared}
theorem sl_back {sl : Addr} {vl vu vs : Value} {n : Nat} {Q : Int × Int × Nat → Shared → Prop} (hs : s.heap.IsSliceOf sl vl vu vs) (pl : IsPart vl none) (pu : IsPart vu none) (ps : IsPart vs (some (-1)))
    (h : Q (((n : Nat) : Int) - 1, -1, n) s) : wpAny (model prog w) A (Builtin.Slice.sliceApplied (.ref sl) (pure (n : Int))) Q E s := by
  obtain ⟨ob, h1, h2, h3⟩ := id hs
  unfold Builtin.Slice.sliceApplied Builtin.Slice.sliceFields
  refine wpAny_bind (wpAny_bind (wpAny_field h1 h3 (x := vl) rfl (wpAny_bind (wpAny_field h1 h3 (x := vu) rfl (wpAny_bind (wpAny_field h1 h3 (x := vs) rfl (wpAny_pure ?_)))))))
  refine wpAny_bind (HT.slicePart_ ps ?_)
  show wpAny _ _ (if ((-1 : Int) == 0) = true then _ else _) _ _ s
  rw [if_neg (by decide)]
  refine wpAny_bind (HT.slicePart_ pl (wpAny_bind (HT.slicePart_ pu (wpAny_bind (wpAny_pure ?_)))))
  have e1 : Builtin.Slice.sliceAdjust none none (-1) (n : Int) = ((n : Int) - 1, -1) := by
    unfold Builtin.Slice.sliceAdjust
    simp
  have e2 : Builtin.Slice.slicePlaces ((n : Int) - 1) (-1) (-1) = n := by
    unfold Builtin.Slice.slicePlaces
    simp
    split <;> omega
  show wpAny _ _ (match Builtin.Slice.sliceAdjust none none (-1) (n : Int) with | (lo, hi) => pure (lo, (-1 : Int), Builtin.Slice.slicePlaces lo hi (-1))) _ _ s
  rw [e1]
  show wpAny _ _ (pure ((n : Int) - 1, (-1 : Int), Builtin.Slice.slicePlaces ((n : Int) - 1) (-1) (-1))) _ _ s
  rw [e2]
  exact wpAny_pure h
theorem fm_range {α : Type} (l : List α) (g : Nat → Option α) (hg : ∀ m, m < l.length → g m = l[m]?) : ∀ n, n ≤ l.length → (List.range n).filterMap g = l.take n
  | 0, _ => by simp
  | n + 1, h => by
    have e : l.take (n + 1) = l.take n ++ [l[n]] := List.take_succ_eq_append_getElem (by omega)
    rw [List.range_succ, List.filterMap_append, fm_range l g hg n (by omega), e, List.filterMap_cons, hg n (by omega), List.getElem?_eq_getElem (by omega)]
    rfl
theorem pick_back (xs : Array Value) : ((List.range xs.size).filterMap fun (m : Nat) => xs[(((xs.size : Nat) : Int) - 1 + (m : Int) * (-1)).toNat]?).toArray = xs.toList.reverse.toArray := by
  congr 1
  have hl : xs.toList.reverse.length = xs.size := by rw [List.length_reverse, Array.length_toList]
  have := fm_range xs.toList.reverse (fun m => xs[(((xs.size : Nat) : Int) - 1 + (m : Int) * (-1)).toNat]?) (fun m hm => by
    rw [hl] at hm
    rw [List.getElem?_reverse (by rw [Array.length_toList]; exact hm), Array.length_toList, Array.getElem?_toList]
    congr 1
    omega) xs.size (by rw [hl]; exact Nat.le_refl _)
  rw [this, List.take_of_length_le (by rw [hl]; exact Nat.le_refl _)]
theorem get_back {t sl : Addr} {items : Array Value} {vl vu vs : Value} {Q : Value → Shared → Prop} (ht : IsTup s.heap t items) (hs : s.heap.IsSliceOf sl vl vu vs) (pl : IsPart vl none) (pu : IsPart vu none) (ps : IsPart vs (some (-1)))
    (h : Q (.ref s.heap.objs.size) { s with heap := s.heap.push { cls := .type "tuple", data := .seq items.toList.reverse.toArray } }) (hz : items.size ≤ sizeLine) : wpAny (model prog w) A (getItem (.ref t) (.ref sl)) Q E s := by
  have hk : sizeOk (.seq items.toList.reverse.toArray) := by
    show items.toList.reverse.toArray.size ≤ sizeLine
    rw [List.size_toArray, List.length_reverse, Array.length_toList]
    exact hz
  obtain ⟨ob, h1, h2, h3⟩ := id hs
  have hty : s.TypeIs (.ref sl) "slice" := ⟨ob, h1, h2⟩
  unfold getItem
  try with_reducible refine wpAny_holding ?_
  first | refine wpAny_bind (wpAny_pure ?_) | skip
  refine wpAny_bind (wpAny_sequenceKey ht.typeIs (by decide) ?_)
  refine wpAny_bind (wpAny_callSpecial?_slot (name := Str.ofString "__getitem__") ht.typeIs PyProof.Rows.slot_tuple_getitem (wpAny_call_entry PyProof.Rows.slot_tuple_getitem ht.typeIs PyProof.Rows.entry_tuple_getitem ?_ (PyProof.Rows.args_tuple_getitem _ _)))
  show wpAny _ _ (Builtin.Tuple.tupleItemsOf (.ref t) >>= _) _ _ s
  refine wpAny_bind (tupleItemsOf_ ht ?_)
  refine wpAny_bind (wpAny_typeOf hty ?_)
  rw [if_pos (by decide)]
  refine wpAny_bind (sl_back hs pl pu ps ?_)
  show wpAny _ _ (if ((((items.size : Nat) : Int) - 1) == 0 && (-1 : Int) == 1 && items.size == items.size) = true then _ else _) _ _ s
  rw [if_neg (by simp), pick_back]
  first
    | exact wpAny_bind (m := Builtin.Tuple.tupleExact _) (wpAny_newObj_type (wpAny_pure ⟨_, rfl, wpAny_pure h⟩) hk)
    | exact wpAny_bind (m := Builtin.Tuple.tupleExact _) (wpAny_newObj_type (wpAny_bind (wpAny_pure (wpAny_pure ⟨_, rfl, wpAny_pure h⟩))) hk)
    | exact wpAny_bind (wpAny_bind (m := Builtin.Tuple.tupleExact _) (wpAny_newObj_type (wpAny_pure (wpAny_pure ⟨_, rfl, wpAny_pure h⟩)) hk))
    | exact wpAny_bind (wpAny_bind (m := Builtin.Tuple.tupleExact _) (wpAny_newObj_type (wpAny_pure ⟨_, rfl, wpAny_pure h⟩) hk))
end
def tRevT (K : PySem.W.Frag) (te : TE) : TE := fun σ H Q => te σ H fun x G => ∃ a xs, x = .ref a ∧ SqT K G a xs ∧ ∀ p, G p = none → Q (.ref p) (upd G p (.tup xs.reverse))
section
variable {X : Cx}
theorem pe_revT {e : Expr} {te : TE} {k : Nat} {q1 q2 q3 q4 : Pos} (he : PE X e te) : PE X (.Subscript e (.Slice none none (some (.UnaryOp .USub (.Constant (.int 1) k q1) q2)) q3) q4) (tRevT X.K te) := by
  refine ⟨fun pn sh st G Q J hyp => Subscript_ (thn (he.run pn sh st G _ J hyp) fun v s1 ⟨x, G1, J1, rx, hx⟩ => ?_)⟩
  obtain ⟨a, xs, ex, hT, q⟩ := hx
  subst ex
  cases rx
  have part : PO X (some (.UnaryOp .USub (.Constant (.int 1) k q1) q2)) (tPart (tUn (rU fun i => .int (-i)) (tC (.int 1)))) := po_some (pe_un un_neg pe_int)
  refine wpAny_Slice (thn (po_none.run pn s1 st G1 (fun o Y => o = none ∧ Y = G1) J1 ⟨rfl, rfl⟩) fun vl s2 ⟨l, G2, J2, pl, el, e2⟩ => ?_)
  subst el e2
  refine thn (po_none.run pn s2 st G2 (fun o Y => o = none ∧ Y = G2) J2 ⟨rfl, rfl⟩) fun vu s3 ⟨u, G3, J3, pu, eu, e3⟩ => ?_
  subst eu e3
  refine thn (part.run pn s3 st G3 (fun o Y => o = some (-1) ∧ Y = G3) J3 ⟨1, rfl, -1, rfl, rfl, rfl⟩) fun vs s4 ⟨o, G4, J4, pS, eo, e4⟩ => ?_
  subst eo e4
  have J5 : Inv X pn st G4 { s4 with heap := s4.heap.push { cls := .type "slice", data := .fields #[vl, vu, vs] } } := J4.kept (t' := s4.toks) fun _ _ z => Heap.get?_push_of_some _ z
  obtain ⟨its, rv, ht, hz⟩ := J5.tuple hT
  have hl := rv.length
  show wpAny (model X.prog X.w) X.A (subscriptTail e (.Slice none none (some (.UnaryOp .USub (.Constant (.int 1) k q1) q2)) q3) (.ref a) (.ref s4.heap.objs.size)) (EP X pn st Q) X.xe { s4 with heap := s4.heap.push { cls := .type "slice", data := .fields #[vl, vu, vs] } }
  refine tail_any (ops := [.ref a, .ref s4.heap.objs.size]) ht.typeIs PyProof.Rows.slot_tuple_getitem.lookup ?_ (by with_unfolding_all rfl)
  refine get_back ht (Heap.IsSliceOf.new _ vl vu vs) pl pu pS ?_ (by rw [List.size_toArray]; omega)
  refine ⟨.ref _, _, J5.laid (t' := s4.toks) (o := .tup xs.reverse) (fun _ _ z => Heap.get?_push_of_some _ z) (Nat.le_refl _) ?_, rfl, q _ (J5.hok.fresh (Nat.le_refl _))⟩
  exact ⟨by rw [List.length_reverse]; exact hz, _, rv.reverse, IsTup.new _ _⟩
end
def gRevT : List D → Option O
  | [.tuple xs] => some (.val (.tuple xs.reverse))
  | _ => none
theorem da_rev {K : PySem.W.Frag} {F : Hp} {vs : List V} {ds : List D} (h : TrAll K F vs ds) : TrAll K F vs.reverse ds.reverse := by
  have app : ∀ {as bs : List V} {cs es : List D}, TrAll K F as cs → TrAll K F bs es → TrAll K F (as ++ bs) (cs ++ es) := fun {as} => by
    induction as with
    | nil =>
      intro bs cs es h1 h2
      cases h1
      exact h2
    | cons a as ih =>
      intro bs cs es h1 h2
      cases h1 with
      | cons x y => exact .cons x (ih y h2)
  induction vs generalizing ds with
  | nil =>
    cases h
    exact .nil
  | cons v vs ih =>
    cases h with
    | cons x y =>
      rw [List.reverse_cons, List.reverse_cons]
      exact app (ih y) (.cons x .nil)
section
variable {X : Cx} {np : Nat} {a : Expr} {ma : WV} {k : Nat} {p1 p2 p3 pos : Pos}
theorem w_revT (h : PE X a (tPR np X.K ma)) : PE X (.Subscript a (.Slice none none (some (.UnaryOp .USub (.Constant (.int 1) k p1) p2)) p3) pos) (tPO np X.K (wOp gRevT [ma])) :=
  pe_imp (pe_revT h) fun σ H Q ⟨F, G, s, ps, R, o, hm, q⟩ => by
    obtain ⟨ds, h1, h2⟩ := bind_some hm
    obtain ⟨d1, e1, h3⟩ := bind_some h1
    obtain ⟨ds2, h7, h8⟩ := map_some h3
    cases h7
    subst h8
    refine ⟨F, G, s, ps, R, d1, e1, fun v H1 F1 p1 R1 s01 k01 l => ?_⟩
    unfold gRevT at h2
    split at h2
    · rename_i xs e
      cases e
      cases h2
      obtain ⟨b, vs, rfl, hl, t⟩ := lnt_tuple l
      refine ⟨b, vs, rfl, same_tup R1.sF hl, fun p hp => ?_⟩
      obtain ⟨F2, as, R2, s12, k12, own, nd, new⟩ := (Out.tup (K := X.K) hp (da_rev t)).relP R1
      refine q _ _ F2 _ as R2 (s01.trans s12) (k01.trans k12) own nd fun a ha => ?_
      obtain ⟨n1, n2, n3, n4⟩ := new a ha
      exact ⟨n1, n2, n3, k01.free n4⟩
    · cases h2
end
end Dv

/-! A def wherever no guard stands around; the law's end for such a def. -/
namespace Dv
open PySem PySem.Spec PyProof.Rows L2
variable {P : Program} {w : World} {K : PySem.W.Frag} {mg : Str → Option Value} {base : Heap}
theorem fn_noneG {k : Nat} {f : Addr} {fd : FuncData} {ps : List Str} : FnG P w K mg base k f fd ps (spOf K fun _ => none) :=
  ⟨(fun vs H Q E ⟨_, _, _, _, _, _, _, _, _, _, _, _, h, _⟩ => nomatch h), (fun B stk st G ar us vs Q E _ _ _ _ _ ⟨_, _, _, _, _, _, _, _, _, _, _, _, h, _⟩ => nomatch h)⟩
theorem def_okG {np : Nat} {m : MS} {x qual : Str} {dst : Stmt} {f : Addr} {fd : FuncData} {N ps : List Str} {k : Nat} (F : Fun K x qual dst f fd) (S : FnScope N ps (defScope dst)) (hp : ps.length = np)
    (body : ∀ (cdv : Value) (B : Around) (stk : List Env) (st : Shared) (G : Hp) (E : XK), Room k (B.deeper (envOfC qual (defScope dst) st.heap.objs.size f cdv)) → B.guards = some [] → PSs (cxOf CX0 P w K mg base N qual (defScope dst) f cdv B stk st G E).nox (defBody dst) (tS np K m)) : FnG P w K mg base (k + 1) f fd ps (spOf K (runDef N.length np m)) := by
  have ar : ∀ vs G Q E, spOf K (runDef N.length np m) vs G Q E → vs.length = ps.length := fun vs G Q E h => by
    obtain ⟨F, G, cs, ass, _, _, _, own, _, _, r, outs, hf, _⟩ := h
    unfold runDef at hf
    split at hf
    · rename_i hc
      rw [(ownAll_len own).1, hc, hp]
    · cases hf
  obtain ⟨z1, z2, z3, z4, z5, z6, cdv, z8, z9, rfl, lk, cd⟩ := F.ex
  refine ⟨ar, fun B stk st G args us vs Q E gd room e0 bnd rv hsp => ?_⟩
  have eq1 := ar vs G Q E hsp
  have hold : ∀ b o, base.get? b = some o → st.heap.get? b = some o := fun b o z => (e0.bs b o z).1
  have kin : K.In st.heap := e0.mod.kin.keeps hold
  have nol : st.heap.NoLimit := e0.mod.nolimit.keeps hold
  have kinds : ∀ y ∈ ps.zip us, (defScope dst).names.lookup y.1 = some .local ∨ ((defScope dst).names.lookup y.1 = some .cell ∧ ((cellsFrom (st.heap.objs.size + 1) (defScope dst).names []).lookup y.1).isSome = true) := fun ⟨nm, vl⟩ hy =>
    (S.par nm (List.of_mem_zip hy).1).imp id fun z => ⟨z, PySem.W.cellsFrom_some _ _ _ (.inl z)⟩
  refine codeAny_call_function room.depth (kin _ _ lk) rfl S.co S.gen rfl (PySem.W.codeRec_of kin cd) (bnd _ _ _ _ (wpAny_newFunctionEnv_cells S.kind kinds fun env he s1 y => ?_))
  subst he
  refine ⟨nol.keeps y.toInCall.keep, codeAny_func ?_⟩
  have room' := room.deeper (envOfC qual (defScope dst) st.heap.objs.size f cdv)
  have J : Inv (cxOf CX0 P w K mg base N qual (defScope dst) f cdv B stk st G E) [] (start N vs) G s1 := inv_start S room.hd e0 eq1 rv y
  have tq := def_tS (K := K) (N := N) (np := np) (m := m) (by
    have := congrArg List.length S.pre
    rw [List.length_take] at this
    omega) hsp
  refine wpAny_mono ((body cdv B stk st G E room' gd).nox.run [] s1 (start N vs) G _ J tq) (fun fl s' hs => ?_) fun e s' hs => hs
  have fin : ∀ {σ' : L2.St} {G' : Hp} {v : V} {u : Value}, Inv (cxOf CX0 P w K mg base N qual (defScope dst) f cdv B stk st G E) [] σ' G' s' → RelV v u → Q v G' → CE stk P w G st Q u s' := fun {σ' G' v u} J' rv' qq => ⟨v, G', J'.os, J'.bare, J'.base, J'.hok, rv', qq⟩
  match fl, hs with
  | .ret u, hs =>
    obtain ⟨v, σ', G', J', rv', qq⟩ := hs
    exact fin J' rv' qq
  | .next, hs =>
    obtain ⟨σ', G', J', qq⟩ := hs
    exact fin (v := V.non) (u := Value.none) J' rfl qq
  | .brk, hs => exact hs.elim fun _ h => h.elim fun _ h => h.elim fun _ z => z.elim
  | .cont, hs => exact hs.elim fun _ h => h.elim fun _ h => h.elim fun _ z => z.elim
theorem law_callG {mb : Str → Option Value} {k : Nat} {fa a : Addr} {fd : FuncData} {x : Str} {sp : Sp} {st : Shared} {vs : List Value} {ns : List Int}
    (kin : K.In st.heap) (hn : st.heap.Ns mainGlobals mg) (hb : st.heap.Ns builtinsNs mb) (hbb : ∀ x : Str, x ≠ "__name__" → mb x = bootBuiltins x) (nol : st.heap.NoLimit) (ng : st.gens = #[])
    (ho : st.heap.get? a = some { cls := .type "list", data := .seq vs.toArray }) (hints : IntsAre vs ns) (hlen : ns.length ≤ sizeLine) (room : Room k callerA)
    (F : ∀ bs : Heap, K.In bs → bs.Ns mainGlobals mg → FnG P w K mg bs k fa fd [x] sp) (bnd : ∀ (s : Shared) (u : Value), BindsTo s fd ⟨[u], []⟩ [(x, u)])
    (hsp : ∀ G : Hp, Only G → SqL K G a (ns.map V.int) → sp [.ref a] G (fun v _ => v = .bl true) fun _ _ _ => False) :
    codeAny (model P w) callerA (.call (.ref fa) ⟨[.ref a], []⟩) (fun r s' => r = .ok (.ret (.bool true)) ∧ OldK st.heap s'.heap ∧ s'.os = st.os ∧ AllBare s'.gens) st := by
  have rvs := vals_ints hints
  have eqn := hints.length
  have main : ∀ G : Hp, Only G → SqL K G a (ns.map V.int) → HOk P w G st.heap → (∀ b, G b ≠ none → b = a) → (G a ≠ none → K.lookup a = none) → codeAny (model P w) callerA (.call (.ref fa) ⟨[.ref a], []⟩) (fun r s' => r = .ok (.ret (.bool true)) ∧ OldK st.heap s'.heap ∧ s'.os = st.os ∧ AllBare s'.gens) st := by
    intro G only sq okG onlyA notK
    have isA : ∀ {b : Addr} {u : HO}, G b = some u → b = a := fun {b u} z => onlyA b (by rw [z]; simp)
    have free : ∀ {b : Addr} {o : Obj} {es : Array DictEntry} {ep : Nat}, st.heap.get? b = some o → o.data = .dict es ep → G b = none := fun {b o es ep} z1 z2 => by
      cases z3 : G b with
      | none => rfl
      | some u =>
        have z4 := isA z3
        subst z4
        rw [ho] at z1
        cases z1
        cases (show Data.seq vs.toArray _ = Data.dict es ep from z2)
    have nsG : ∀ {b : Addr} {m : Str → Option Value}, st.heap.Ns b m → (hidT st.heap G).Ns b m := fun {b m} ⟨o, es, ep, z1, z2, z3⟩ => ⟨o, es, ep, hidT_get z1 (free z1 z2), z2, z3⟩
    have kinG : K.In (hidT st.heap G) := fun b o z => hidT_get (kin b o z) (by
      cases z3 : G b with
      | none => rfl
      | some u =>
        have z4 := isA z3
        subst z4
        rw [notK (by rw [z3]; simp)] at z
        cases z)
    have md : Mod K mg (hidT st.heap G) := ⟨kinG, nsG hn, ⟨mb, nsG hb, hbb⟩, let ⟨mc, z1, z2⟩ := nol; ⟨mc, nsG z1, z2⟩⟩
    have e0 : Env0 P w K mg (hidT st.heap G) callerA [] st G := ⟨rfl, md, fun b o z => of_hidT z, Nat.le_of_eq (hidT_size _ _), trivial, (fun b z => nomatch (show b ∈ ([] : List Addr) from z)), okG, .of_eq ng⟩
    refine codeAny_mono ((F _ kinG (nsG hn)).go callerA [] st G ⟨[.ref a], []⟩ [.ref a] [.ref a] _ _ rfl room e0 (bnd st (.ref a)) (.cons rfl .nil) (hsp G only sq)) fun r s' hr => ?_
    match r, hr with
    | .error e, hr => exact hr.elim
    | .ok .next, hr => exact hr.elim
    | .ok .brk, hr => exact hr.elim
    | .ok .cont, hr => exact hr.elim
    | .ok (.ret u), hr =>
      obtain ⟨v, G', os, bare, un, okG', rv, qv⟩ := hr
      have qv' : v = .bl true := qv
      subst qv'
      obtain rfl : u = Value.bool true := rv
      refine ⟨rfl, OldK.of_keep fun b o z => ?_, os, bare⟩
      cases z3 : G b with
      | none => exact un.keep b o z z3 (fun y => nomatch (show b ∈ ([] : List Addr) from y)) (by simp)
      | some u =>
        rcases only b with y | ⟨ob, xs, y⟩
        · rw [z3] at y
          cases y
        · obtain ⟨y1, _⟩ := okG b _ y
          obtain ⟨y2, _⟩ := okG' b _ (un.frzs b ob _ y)
          rw [z] at y1
          cases y1
          exact y2
  cases hk : K.lookup a with
  | some o =>
    have z := kin a o hk
    rw [ho] at z
    cases z
    exact main (fun _ => none) (fun _ => .inl rfl) (.inr ⟨_, vs.toArray, _, hk, rfl, rfl, rfl, by rw [List.size_toArray, eqn]; exact hlen, by simpa using rvs⟩) (fun b u z => by cases (show (none : Option HO) = some u from z)) (fun b z => absurd rfl z) fun z => absurd rfl z
  | none =>
    have at_ : ∀ b : Addr, b ≠ a → (if b = a then some (HO.frz { cls := .type "list", data := .seq vs.toArray } (.lst (ns.map V.int))) else none) = none := fun b z => if_neg z
    refine main (fun b => if b = a then some (.frz { cls := .type "list", data := .seq vs.toArray } (.lst (ns.map V.int))) else none) (fun b => ?_) (.inl (.inr ⟨{ cls := .type "list", data := .seq vs.toArray }, if_pos rfl⟩)) (fun b u z => ?_) (fun b z => ?_) fun _ => hk
    · by_cases c : b = a
      · exact .inr ⟨_, _, if_pos c⟩
      · exact .inl (at_ b c)
    · by_cases c : b = a
      · have z2 := (if_pos c).symm.trans z
        cases z2
        subst c
        exact ⟨ho, by rw [List.length_map]; exact hlen, vs, _, rvs, ho⟩
      · have z2 := (at_ b c).symm.trans z
        cases z2
    · exact Classical.byContradiction fun c => z (at_ b c)
theorem walk_ofG {l : PySem.W.OpenLaw} {n k : Nat} {q : Program} {loose : List Str} {XP : (Str → Option Value) → Heap → Prop} {YP : World → Heap → Prop} {d : DefRec} {K : Params → PySem.W.Frag} {sp : World → Sp} {x : Str} (hn : l.most = some n) (hn2 : n ≤ sizeLine) (hdf : d.params.defaults = []) (hr : Room k callerA)
    (hY : ∀ (w : World) (h : Heap), YP w h → (K w.params).In h)
    (F : ∀ (w : World) (mg : Str → Option Value) (fa : Addr) (h : Heap), (K w.params).In h → h.Ns mainGlobals mg → mg d.name = some (.ref fa) → ∃ fd : FuncData, (∀ (s : Shared) (u : Value), BindsTo s fd ⟨[u], []⟩ [(x, u)]) ∧ ∀ base : Heap, (K w.params).In base → base.Ns mainGlobals mg → FnG l.prog w (K w.params) mg base k fa fd [x] (sp w))
    (hsp : ∀ (w : World) (H : Hp) (a : Addr) (ns : List Int), ns.length ≤ n → (∀ z ∈ ns, Builtin.Int.intBits z ≤ 1048576) → LsK (K w.params) H a (ns.map V.int) → sp w [.ref a] H (fun v _ => v = .bl true) fun _ _ _ => False) :
    PySem.W.WalkO q loose XP YP l.row.toRowW d [] (fun f vs => PySem.call f vs) := by
  refine Att.attach_callB hn hdf fun w s0 s1 mg mb fa o pm cd doc a vs ns G Y ho hd hcd hmg hobj hints hlen hbits hg => ?_
  have KX := hY w _ Y
  obtain ⟨fd, hb, hF⟩ := F w mg fa _ KX G.T.g hmg
  refine law_callG KX G.T.g G.T.b G.T.builtins G.T.nolimit hg hobj hints (Nat.le_trans hlen hn2) hr hF hb (fun H _ hS => hsp w H a ns hlen hbits ?_)
  rcases hS with h | ⟨u, its, m, e, _, _, _, h5, h6⟩
  · exact .inl h
  · have e2 := KX _ _ e
    rw [hobj] at e2
    cases e2
    cases (show Data.seq vs.toArray 0 = Data.seq its m by assumption)
    exact .inr ⟨vs.toArray, 0, e, h5, h6⟩
end Dv

namespace Dv.G
open PySem PySem.Spec PyProof.Rows L2
def fuel : Nat := 100000
/-- is_tuple -/
def m0 (c : Nat → FD) : MS := sRet (lO (wV (wvAnd (wIs .tuple (gr 0)) (wF (wOp gEq [wF (wOp gLenW [gr 0]), gr 1])))))
/-- is_number -/
def m1 (c : Nat → FD) : MS := sRet (lO (wV (wvAnd (wIs .int (gr 0)) (wvAnd (wvNot (wIs .bool (gr 0))) (wF (wOp gGe [gr 0, gr 1]))))))
/-- is_name -/
def m2 (c : Nat → FD) : MS := sRet (lO (wV (wvAnd (wIs .str (gr 0)) (wvAnd (wF (wChain gLe gLe (wC (.int 1)) (wF (wOp gLenW [gr 0])) (wC (.int 8)))) (wF (wOp gAll [wF (wLc [1] (jV (gv 0)) (gNm 1) (wYs) (wF (wOp gInW [gr 1, wC (.str "abcdefghijklmnopqrstuvwxyz")])))]))))))
/-- rises -/
def m3 (c : Nat → FD) : MS := sRet (lO (wOp gAll [wF (wLc [1, 2] (jS wZip [s1 (gv 0), s1 (wF (wSl (gr 0) (wSo (wC (.int 1))) wNo))]) (gTp [gNm 1, gNm 2]) (wYs) (wF (wOp gLt [gr 1, gr 2])))]))
/-- is_entry -/
def m4 (c : Nat → FD) : MS := sSeq (sIf (lB (wOr (wNot (wTru (wF (wCall (c 0) [s1 (gv 0), s1 (gv 1)])))) (wNot (wTru (wF (wOp gAll [wF (wLc [2] (jV (wF (wSl (gr 0) wNo (wSo (wF (wOp gNeg [wC (.int 2)])))))) (gNm 2) (wYs) (wF (wCall (c 2) [s1 (gv 2)])))])))))) (sRet (lO (wV (wC (.bool false))))) (sNx)) (sRet (lO (wV (wvAnd (wF (wOp gAll [wF (wLc [2] (jV (wF (wSl (gr 0) (wSo (wF (wOp gNeg [wC (.int 2)]))) wNo))) (gNm 2) (wYs) (wF (wCall (c 1) [s1 (gv 2), s1 (wC (.int 0))])))])) (wF (wOp gLe [wF (wOp gIxW [gr 0, wF (wOp gNeg [wC (.int 2)])]), wF (wOp gIxW [gr 0, wF (wOp gNeg [wC (.int 1)])])]))))))
/-- are_entries -/
def m5 (c : Nat → FD) : MS := sRet (lO (wV (wvAnd (wIs .tuple (gr 0)) (wvAnd (wF (wOp gAll [wF (wLc [2] (jV (gv 0)) (gNm 2) (wYs) (wF (wCall (c 4) [s1 (gv 2), s1 (gv 1)])))])) (wF (wCall (c 3) [s1 (gv 0)]))))))
/-- is_book -/
def m6 (c : Nat → FD) : MS := sSeq (sIf (lB (wOr (wNot (wTru (wF (wCall (c 0) [s1 (gv 0), s1 (wC (.int 3))])))) (wOr (wNot (wTru (wF (wCall (c 5) [s1 (wF (wOp gIxW [gr 0, wC (.int 0)])), s1 (wC (.int 4))])))) (wNot (wTru (wF (wCall (c 5) [s1 (wF (wOp gIxW [gr 0, wC (.int 1)])), s1 (wC (.int 3))]))))))) (sRet (lO (wV (wC (.bool false))))) (sNx)) (sRet (lO (wV (wvAnd (wF (wCall (c 5) [s1 (wF (wOp gIxW [gr 0, wC (.int 2)])), s1 (wC (.int 5))])) (wF (wOp gAll [wF (wLc [1] (jV (wF (wOp gIxW [gr 0, wC (.int 2)]))) (gNm 1) (wYs) (wF (wOp gNe [wF (wOp gIxW [gr 1, wC (.int 1)]), wF (wOp gIxW [gr 1, wC (.int 2)])])))]))))))
/-- _law_box -/
def m7 (c : Nat → FD) : MS := sSeq (sAsg (gNm 2) (oIf (mBo (mOp gLt [rB 1, rO (mOp gLen [rB 0])])) (mOp gIx [rB 0, rB 1]) (oV (vCon (.int 0))))) (sRet (oLst [rV (frz (mOp gMul [rO (mOp gAbs [rB 2]), rO (mOp gInt [rO (mOp gGe [rO (mOp gAbs [rB 2]), rO (mOp gPow [rV (vCon (.int 10)), rV (vCon (.int 18))])])])])), rV (frz (mOp gAdd [rO (mOp gAdd [rO (mOp gMod [rO (mOp gInt [rB 2]), rV (vCon (.int 2305843009213693951))]), rO (mOp gMul [rV (vCon (.int 39373)), rB 1])]), rV (vCon (.int 712))])), rV (vCon (.int 0))]))
/-- _law_take -/
def m8 (c : Nat → FD) : MS := sSeq (sIf (mBo (mOp gGt [rO (mOp gIx [rB 0, rV (vCon (.int 0))]), rV (vCon (.int 0))])) (sSeq (sAsg (gNm 2) (mOp gMod [rO (mOp gInt [rO (mOp gIx [rB 0, rV (vCon (.int 0))])]), rB 1])) (sSeq (sSetIx 0 (vCon (.int 0)) (frz (mOp gFdiv [rO (mOp gIx [rB 0, rV (vCon (.int 0))]), rB 1]))) (sRet (oMove 2)))) (sNx)) (sSeq (sSetIx 0 (vCon (.int 2)) (frz (mOp gAdd [rO (mOp gIx [rB 0, rV (vCon (.int 2))]), rV (vCon (.int 1))]))) (sSeq (sAsg (gNm 3) (mOp gMod [rO (mOp gInt [rO (mOp gMul [rO (mOp gAdd [rO (mOp gIx [rB 0, rV (vCon (.int 1))]), rO (mOp gMul [rV (vCon (.int 48271)), rO (mOp gIx [rB 0, rV (vCon (.int 2))])])]), rO (mOp gAdd [rV (vCon (.int 39373)), rO (mOp gIx [rB 0, rV (vCon (.int 2))])])])]), rV (vCon (.int 2147483647))])) (sSeq (sAsg (gNm 4) (mOp gAdd [rO (mOp gMod [rO (mOp gInt [rB 3]), rV (vCon (.int 40009))]), rV (vCon (.int 7))])) (sSeq (sAsg (gNm 5) (mOp gMod [rO (mOp gInt [rO (mOp gMul [rO (mOp gAdd [rO (mOp gAdd [rB 3, rO (mOp gIx [rB 0, rV (vCon (.int 2))])]), rO (mOp gFdiv [rO (mOp gIx [rB 0, rV (vCon (.int 1))]), rV (vCon (.int 1000003))])]), rB 4])]), rV (vCon (.int 2147483629))])) (sRet (mOp gMod [rO (mOp gInt [rO (mOp gFdiv [rO (mOp gMod [rO (mOp gInt [rO (mOp gAdd [rO (mOp gMul [rB 5, rV (vCon (.int 48271))]), rB 3])]), rV (vCon (.int 2147483587))]), rV (vCon (.int 64))])]), rB 1]))))))
/-- _law_cells -/
def m9 (c : Nat → FD) : MS := sSeq (sAsg (gNm 2) (oOr (mOp gList [rO (oSl (rB 0) pNo (pSome (vVar 1)))]) (oLst [rV (vCon (.int 0))]))) (sSeq (sFor (iPr gEnum [rV (frz (oSl (rB 0) (pSome (vVar 1)) (pSome (vCon (.int 63)))))]) (gTp [gNm 3, gNm 4]) (sSeq (sAsg (gNm 5) (mOp gMod [rO (mOp gInt [rB 3]), rB 1])) (sSetIx 2 (vVar 5) (frz (mOp gAdd [rO (mOp gIx [rB 2, rB 5]), rO (mOp gMul [rB 4, rO (mOp gAdd [rB 3, rV (vCon (.int 2))])])]))))) (sRet (oMove 2)))
/-- _law_of -/
def m10 (c : Nat → FD) : MS := sRet (mOp gIx [rB 1, rO (mCall (c 8) [aR 0, aO (mOp gLen [rB 1])])])
/-- _law_same -/
def m11 (c : Nat → FD) : MS := sSeq (sIf (mTru (rV (vIsi2 .list .tuple (rB 1)))) (sSeq (sIf (bOr (mBo (mOp gNe [rV (vIsi .list (rB 0)), rV (vIsi .list (rB 1))])) (mBo (mOp gNe [rV (vIsi .tuple (rB 0)), rV (vIsi .tuple (rB 1))]))) (sRet (oV (vCon (.bool false)))) (sNx)) (sRet (oV (vAnd (frz (mOp gEq [rO (mOp gLen [rB 0]), rO (mOp gLen [rB 1])])) (frz (mOp gAll [rO (oLc [2, 3] (iPr gZip [rV (vVar 0), rV (vVar 1)]) (gTp [gNm 2, gNm 3]) (tYs) (frz (mCall (c 11) [aR 2, aR 3])))])))))) (sNx)) (sSeq (sIf (bOr (mBo (mOp gIsN [rB 1])) (mTru (rV (vIsi2 .bool .str (rB 1))))) (sRet (oV (vAnd (frz (mOp gEq [rB 0, rB 1])) (vAnd (frz (mOp gEq [rV (vIsi .bool (rB 0)), rV (vIsi .bool (rB 1))])) (frz (mOp gEq [rO (mOp gIsN [rB 0]), rO (mOp gIsN [rB 1])])))))) (sNx)) (sRet (oV (vAnd (vIsi .int (rB 0)) (vAnd (vNot (rV (vIsi .bool (rB 0)))) (frz (mOp gEq [rB 0, rB 1])))))))
/-- _law_is_nr -/
def m12 (c : Nat → FD) : MS := sRet (lO (wV (wvAnd (wIs .int (gr 0)) (wvAnd (wvNot (wIs .bool (gr 0))) (wF (wOp gGe [gr 0, wC (.int 0)]))))))
/-- _law_stretch -/
def m13 (c : Nat → FD) : MS := sSeq (sAsg (gNm 2) (mCall (c 8) [aR 0, aO (mOp gAdd [rB 1, rV (vCon (.int 1))])])) (sRet (oV (vTup [rV (vVar 2), rV (frz (mOp gAdd [rB 2, rO (mCall (c 8) [aR 0, aO (mOp gSub [rO (mOp gAdd [rB 1, rV (vCon (.int 1))]), rB 2])])]))])))
/-- _law_tome -/
def m14 (c : Nat → FD) : MS := sSeq (sPar [3, 4] [oSl (rO (oLst [rV (vCon (.str "ann")), rV (vCon (.str "bob")), rV (vCon (.str "cat")), rV (vCon (.str "dan")), rV (vCon (.str "eve")), rV (vCon (.str "fay")), rV (vCon (.str "a")), rV (vCon (.str "zzzzzzzz"))])) pNo (pSome (vVar 1)), oLst [rV (vCon (.str "bob")), rV (vCon (.str "pay")), rV (vCon (.str "x"))]]) (sSeq (sPar [5, 6, 7] [oLst [], oLst [], oLst []]) (sSeq (sFor (iOp gRng [rO (mOp gAdd [rV (vCon (.int 1)), rO (mCall (c 8) [aR 0, aV (vCon (.int 6))])])]) (gNm 8) (sExp (oApp 5 (frz (mOp gAdd [rV (vTup [rV (frz (mCall (c 10) [aR 0, aR 4])), rV (frz (mCall (c 10) [aR 0, aR 3]))]), rO (mCall (c 13) [aR 0, aR 2])]))))) (sSeq (sFor (iOp gRng [rO (mCall (c 8) [aR 0, aV (vCon (.int 6))])]) (gNm 8) (sExp (oApp 6 (frz (mOp gAdd [rV (vTup [rV (frz (mCall (c 10) [aR 0, aR 3]))]), rO (mCall (c 13) [aR 0, aR 2])]))))) (sSeq (sFor (iOp gRng [rO (mCall (c 8) [aR 0, aV (vCon (.int 9))])]) (gNm 8) (sSeq (sAsg (gNm 9) (mCall (c 8) [aR 0, aR 1])) (sSeq (sAsg (gNm 10) (mOp gMod [rO (mOp gInt [rO (mOp gAdd [rO (mOp gAdd [rB 9, rV (vCon (.int 1))]), rO (mCall (c 8) [aR 0, aO (mOp gSub [rB 1, rV (vCon (.int 1))])])])]), rB 1])) (sExp (oApp 7 (frz (mOp gAdd [rV (vTup [rV (frz (mCall (c 10) [aR 0, aR 4])), rV (frz (mOp gIx [rB 3, rB 9])), rV (frz (mOp gIx [rB 3, rB 10]))]), rO (mCall (c 13) [aR 0, aR 2])]))))))) (sRet (oV (vTup [rV (frz (mOp gTuple [rO (mOp gSSet [rB 5])])), rV (frz (mOp gTuple [rO (mOp gSSet [rB 6])])), rV (frz (mOp gTuple [rO (mOp gSSet [rB 7])]))])))))))
/-- _law_is_word -/
def m15 (c : Nat → FD) : MS := sSeq (sIf (lB (wOr (wNot (wTru (wIs .str (gr 0)))) (wNot (wBo (wChain gLt gLt (wC (.int 0)) (wF (wOp gLenW [gr 0])) (wC (.int 9))))))) (sRet (lO (wV (wC (.bool false))))) (sNx)) (sRet (lO (wOp gEq [wF (wLc [1] (jV (gv 0)) (gNm 1) (wBo (wOp gNotInW [gr 1, wC (.str "abcdefghijklmnopqrstuvwxyz")])) (gv 1)), wF (wLst [])])))
/-- _law_are_lines -/
def m16 (c : Nat → FD) : MS := sSeq (sIf (lB (wNot (wTru (wIs .tuple (gr 0))))) (sRet (lO (wV (wC (.bool false))))) (sNx)) (sSeq (sFor (lI (jV (gv 0))) (gNm 2) (sSeq (sIf (lB (wOr (wNot (wTru (wIs .tuple (gr 2)))) (wBo (wOp gNe [wF (wOp gLenW [gr 2]), wF (wOp gAdd [gr 1, wC (.int 2)])])))) (sRet (lO (wV (wC (.bool false))))) (sNx)) (sSeq (sAsg (gNm 3) (oV (lV (wF (wOp gAdd [wF (wLc [4] (jV (wF (wSl (gr 2) wNo (wSo (gv 1))))) (gNm 4) (wYs) (wF (wCall (c 15) [s1 (gv 4)]))), wF (wLc [4] (jV (wF (wSl (gr 2) (wSo (gv 1)) wNo))) (gNm 4) (wYs) (wF (wCall (c 12) [s1 (gv 4)])))]))))) (sSeq (sIf (lB (wNot (wTru (wF (wOp gAll [gr 3]))))) (sRet (lO (wV (wC (.bool false))))) (sNx)) (sIf (lB (wOr (wBo (wOp gGt [wF (wOp gIxW [gr 2, gr 1]), wF (wOp gIxW [gr 2, wF (wOp gAdd [gr 1, wC (.int 1)])])])) (wAnd (wBo (wOp gEq [gr 1, wC (.int 3)])) (wBo (wOp gEq [wF (wOp gIxW [gr 2, wC (.int 1)]), wF (wOp gIxW [gr 2, wC (.int 2)])]))))) (sRet (lO (wV (wC (.bool false))))) (sNx)))))) (sRet (lO (wOp gEq [wF (wOp gListW [gr 0]), wF (wOp gSSet [gr 0])]))))
/-- _law_is_tome -/
def m17 (c : Nat → FD) : MS := sSeq (sIf (lB (wOr (wNot (wTru (wIs .tuple (gr 0)))) (wBo (wOp gNe [wF (wOp gLenW [gr 0]), wC (.int 3)])))) (sRet (lO (wV (wC (.bool false))))) (sNx)) (sRet (lO (wV (wvAnd (wF (wCall (c 16) [s1 (wF (wOp gIxW [gr 0, wC (.int 0)])), s1 (wC (.int 2))])) (wvAnd (wF (wCall (c 16) [s1 (wF (wOp gIxW [gr 0, wC (.int 1)])), s1 (wC (.int 1))])) (wF (wCall (c 16) [s1 (wF (wOp gIxW [gr 0, wC (.int 2)])), s1 (wC (.int 3))])))))))
/-- _law_kinds -/
def m18 (c : Nat → FD) : MS := sSeq (sPar [0, 1, 2] [oV (lV (wTup [s1 (wC (.str "pay")), s1 (wC (.str "ann")), s1 (wC (.int 0)), s1 (wC (.int 9))])), oV (lV (wTup [s1 (wC (.str "ann")), s1 (wC (.int 2)), s1 (wC (.int 5))])), oV (lV (wTup [s1 (wC (.str "pay")), s1 (wC (.str "ann")), s1 (wC (.str "bob")), s1 (wC (.int 0)), s1 (wC (.int 9))]))]) (sSeq (sAsg (gNm 3) (lO (wLst [s1 (wTup [s1 (wTup []), s1 (wTup []), s1 (wTup [])]), s1 (wTup [s1 (wTup [s1 (gv 0)]), s1 (wTup [s1 (gv 1)]), s1 (wTup [s1 (gv 2)])]), s1 (wTup [s1 (wTup [s1 (gv 0)]), s1 (wTup []), s1 (wTup [])]), s1 (wTup [s1 (wTup []), s1 (wTup [s1 (gv 1)]), s1 (wTup [])])]))) (sSeq (sAsg (gNm 3) (lO (wOp gAdd [gr 3, wF (wLst [s1 (wTup [s1 (wTup []), s1 (wTup []), s1 (wTup [s1 (gv 2)])]), s1 (wTup []), s1 (wTup [s1 (wTup []), s1 (wTup [])])])]))) (sSeq (sAsg (gNm 3) (lO (wOp gAdd [gr 3, wF (wLst [s1 (wTup [s1 (wTup []), s1 (wTup []), s1 (wTup []), s1 (wTup [])]), s1 (wF (wLst [s1 (wTup []), s1 (wTup []), s1 (wTup [])])), s1 (wTup [s1 (wF (wLst [])), s1 (wTup []), s1 (wTup [])]), s1 (wTup [s1 (wTup []), s1 (wF (wLst [])), s1 (wTup [])]), s1 (wTup [s1 (wTup []), s1 (wTup []), s1 (wF (wLst []))])])]))) (sSeq (sAsg (gNm 3) (lO (wOp gAdd [gr 3, wF (wLst [s1 (wTup [s1 (wTup [s1 (gv 0), s1 (gv 0)]), s1 (wTup []), s1 (wTup [])])])]))) (sSeq (sAsg (gNm 3) (lO (wOp gAdd [gr 3, wF (wLst [s1 (wTup [s1 (wTup [s1 (gv 0), s1 (wTup [s1 (wC (.str "check")), s1 (wC (.str "ann")), s1 (wC (.int 0)), s1 (wC (.int 9))])]), s1 (wTup []), s1 (wTup [])]), s1 (wTup [s1 (wTup [s1 (wTup [s1 (wC (.str "check")), s1 (wC (.str "ann")), s1 (wC (.int 0)), s1 (wC (.int 9))]), s1 (gv 0)]), s1 (wTup []), s1 (wTup [])]), s1 (wC .none)])]))) (sSeq (sAsg (gNm 3) (lO (wOp gAdd [gr 3, wF (wLst [s1 (wC (.int 0)), s1 (wC (.str "")), s1 (wC (.bool true))])]))) (sSeq (sAsg (gNm 3) (lO (wOp gAdd [gr 3, wF (wLst [s1 (wTup [s1 (wTup [s1 (wTup [s1 (wC (.str "pay")), s1 (wC (.str "ann")), s1 (wC (.int 5)), s1 (wC (.int 4))])]), s1 (wTup []), s1 (wTup [])]), s1 (wTup [s1 (wTup [s1 (wTup [s1 (wC (.str "pay")), s1 (wC (.str "ann")), s1 (wC (.int 5)), s1 (wC (.int 5))])]), s1 (wTup []), s1 (wTup [])])])]))) (sSeq (sAsg (gNm 3) (lO (wOp gAdd [gr 3, wF (wLst [s1 (wTup [s1 (wTup [s1 (wTup [s1 (wC (.str "pay")), s1 (wC (.str "ann")), s1 (wF (wOp gNeg [wC (.int 1)])), s1 (wC (.int 4))])]), s1 (wTup []), s1 (wTup [])])])]))) (sSeq (sAsg (gNm 3) (lO (wOp gAdd [gr 3, wF (wLst [s1 (wTup [s1 (wTup [s1 (wTup [s1 (wC (.str "pay")), s1 (wC (.str "ann")), s1 (wC (.bool false)), s1 (wC (.int 4))])]), s1 (wTup []), s1 (wTup [])]), s1 (wTup [s1 (wTup [s1 (wTup [s1 (wC (.str "pay")), s1 (wC (.str "ann")), s1 (wC (.int 0)), s1 (wC (.bool true))])]), s1 (wTup []), s1 (wTup [])])])]))) (sSeq (sAsg (gNm 3) (lO (wOp gAdd [gr 3, wF (wLst [s1 (wTup [s1 (wTup [s1 (wTup [s1 (wC (.str "pay")), s1 (wC (.str "ann")), s1 (wC (.int 0))])]), s1 (wTup []), s1 (wTup [])])])]))) (sSeq (sAsg (gNm 3) (lO (wOp gAdd [gr 3, wF (wLst [s1 (wTup [s1 (wTup [s1 (wTup [s1 (wC (.str "pay")), s1 (wC (.str "")), s1 (wC (.int 0)), s1 (wC (.int 4))])]), s1 (wTup []), s1 (wTup [])]), s1 (wTup [s1 (wTup [s1 (wTup [s1 (wC (.str "Pay")), s1 (wC (.str "ann")), s1 (wC (.int 0)), s1 (wC (.int 4))])]), s1 (wTup []), s1 (wTup [])])])]))) (sSeq (sAsg (gNm 3) (lO (wOp gAdd [gr 3, wF (wLst [s1 (wTup [s1 (wTup [s1 (wTup [s1 (wC (.str "abcdefghi")), s1 (wC (.str "ann")), s1 (wC (.int 0)), s1 (wC (.int 4))])]), s1 (wTup []), s1 (wTup [])])])]))) (sSeq (sAsg (gNm 3) (lO (wOp gAdd [gr 3, wF (wLst [s1 (wTup [s1 (wTup [s1 (wF (wLst [s1 (wC (.str "pay")), s1 (wC (.str "ann")), s1 (wC (.int 0)), s1 (wC (.int 4))]))]), s1 (wTup []), s1 (wTup [])]), s1 (wTup [s1 (wTup [s1 (wC (.str "pay")), s1 (wC (.str "ann")), s1 (wC (.int 0)), s1 (wC (.int 4))]), s1 (wTup []), s1 (wTup [])]), s1 (wTup [s1 (wTup [s1 (wTup [s1 (wC (.int 1)), s1 (wC (.str "ann")), s1 (wC (.int 0)), s1 (wC (.int 4))])]), s1 (wTup []), s1 (wTup [])])])]))) (sSeq (sAsg (gNm 3) (lO (wOp gAdd [gr 3, wF (wLst [s1 (wTup [s1 (wTup []), s1 (wTup [s1 (wTup [s1 (wC (.str "ann")), s1 (wC (.int 0)), s1 (wC (.int 1))]), s1 (wTup [s1 (wC (.str "ann")), s1 (wC (.int 0)), s1 (wC (.int 2))])]), s1 (wTup [])]), s1 (wTup [s1 (wTup []), s1 (wTup [s1 (wTup [s1 (wC (.str "ann")), s1 (wC (.int 0)), s1 (wC (.int 2))]), s1 (wTup [s1 (wC (.str "ann")), s1 (wC (.int 0)), s1 (wC (.int 1))])]), s1 (wTup [])])])]))) (sSeq (sAsg (gNm 3) (lO (wOp gAdd [gr 3, wF (wLst [s1 (wTup [s1 (wTup []), s1 (wTup [s1 (gv 2)]), s1 (wTup [])])])]))) (sSeq (sAsg (gNm 3) (lO (wOp gAdd [gr 3, wF (wLst [s1 (wTup [s1 (wTup []), s1 (wTup []), s1 (wTup [s1 (wTup [s1 (wC (.str "pay")), s1 (wC (.str "ann")), s1 (wC (.str "ann")), s1 (wC (.int 0)), s1 (wC (.int 9))])])]), s1 (wTup [s1 (wTup []), s1 (wTup []), s1 (wTup [s1 (wTup [s1 (wC (.str "ann")), s1 (wC (.str "ann")), s1 (wC (.str "bob")), s1 (wC (.int 0)), s1 (wC (.int 9))])])])])]))) (sSeq (sAsg (gNm 3) (lO (wOp gAdd [gr 3, wF (wLst [s1 (wTup [s1 (wTup []), s1 (wTup []), s1 (wTup [s1 (gv 1)])])])]))) (sSeq (sAsg (gNm 3) (lO (wOp gAdd [gr 3, wF (wLst [s1 (wTup [s1 (wTup [s1 (gv 1)]), s1 (wTup []), s1 (wTup [])]), s1 (wTup [s1 (wTup []), s1 (wTup [s1 (gv 0)]), s1 (wTup [])]), s1 (wTup [s1 (wTup []), s1 (wTup [s1 (wTup [s1 (wC (.str "ann")), s1 (wF (wOp gPow [wC (.int 10), wC (.int 30)])), s1 (wF (wOp gPow [wC (.int 10), wC (.int 31)]))])]), s1 (wTup [])])])]))) (sSeq (sAsg (gNm 3) (lO (wOp gAdd [gr 3, wF (wLst [s1 (wTup [s1 (wTup []), s1 (wTup [s1 (wTup [s1 (wC (.str "ann")), s1 (wC (.str "0")), s1 (wC (.int 1))])]), s1 (wTup [])])])]))) (sSeq (sAsg (gNm 4) (oV (lV (wTup [])))) (sSeq (sFor (lI (jOp gRng [wC (.int 19)])) (gNm 5) (sAsg (gNm 4) (oV (lV (wTup [s1 (gv 4), s1 (wTup []), s1 (wTup [])]))))) (sSeq (sAsg (gNm 3) (lO (wOp gAdd [gr 3, wF (wLst [s1 (gv 4), s1 (wTup [s1 (wTup []), s1 (wTup [s1 (wTup [s1 (wC (.str "a1")), s1 (wC (.int 0)), s1 (wC (.int 1))])]), s1 (wTup [])]), s1 (wTup [s1 (wTup []), s1 (wTup [s1 (wTup [s1 (wC (.str "ann")), s1 (wC (.int 0)), s1 (wC (.int 1)), s1 (wC (.int 2))])]), s1 (wTup [])]), s1 (wTup [s1 (wTup []), s1 (wTup [s1 (wTup [s1 (wC .none), s1 (wC (.int 0)), s1 (wC (.int 1))])]), s1 (wTup [])])])]))) (sSeq (sAsg (gNm 3) (lO (wOp gAdd [gr 3, wF (wLst [s1 (wTup [s1 (wTup []), s1 (wTup [s1 (wTup [])]), s1 (wTup [])])])]))) (sRet (oMove 3)))))))))))))))))))))))))
/-- _law_bent -/
def m19 (c : Nat → FD) : MS := sSeq (sIf (bAnd (lB (wTru (wIs .tuple (gr 1)))) (bAnd (lB (wBo (wOp gNe [gr 1, wTup []]))) (mBo (mOp gGt [rO (mCall (c 8) [aR 0, aV (lV (wC (.int 6)))]), rV (lV (wC (.int 0)))])))) (sSeq (sAsg (gNm 2) (oV (frz (mCall (c 8) [aR 0, aO (lO (wOp gLenW [gr 1]))])))) (sRet (mOp gAdd [rO (mOp gAdd [rO (lO (wSl (gr 1) wNo (wSo (gv 2)))), rV (vTup [rV (frz (mCall (c 19) [aR 0, aO (lO (wOp gIxW [gr 1, gr 2]))]))])]), rO (lO (wSl (gr 1) (wSo (wF (wOp gAdd [gr 2, wC (.int 1)]))) wNo))]))) (sNx)) (sSeq (sAsg (gNm 3) (oV (lV (wF (wLst [s1 (wC (.str "ann")), s1 (wC (.str "bob")), s1 (wC (.str "")), s1 (wC (.str "A")), s1 (wC (.str "zzzzzzzzz")), s1 (wC (.int 0)), s1 (wC (.int 3)), s1 (wC (.int 40)), s1 (wF (wOp gNeg [wC (.int 1)])), s1 (wC .none), s1 (wC (.bool true)), s1 (wC (.bool false)), s1 (wTup []), s1 (wF (wLst [])), s1 (wTup [s1 (wC (.str "ann")), s1 (wC (.int 0)), s1 (wC (.int 1))]), s1 (wC (.str "pay"))]))))) (sSeq (sIf (lB (wAnd (wTru (wIs .tuple (gr 1))) (wBo (wOp gNe [gr 1, wTup []])))) (sAsg (gNm 3) (oV (lV (wF (wOp gAdd [gr 3, wF (wLst [s1 (wF (wOp gListW [gr 1])), s1 (wF (wOp gRevT [gr 1])), s1 (wF (wSl (gr 1) (wSo (wC (.int 1))) wNo)), s1 (wF (wSl (gr 1) wNo (wSo (wF (wOp gNeg [wC (.int 1)]))))), s1 (wF (wOp gAdd [gr 1, wF (wSl (gr 1) (wSo (wF (wOp gNeg [wC (.int 1)]))) wNo)])), s1 (wF (wOp gAdd [wF (wSl (gr 1) wNo (wSo (wC (.int 1)))), gr 1])), s1 (wF (wOp gIxW [gr 1, wC (.int 0)]))])]))))) (sNx)) (sRet (mCall (c 10) [aR 0, aR 3]))))
/-- _law_right -/
def m20 (c : Nat → FD) : MS := sSeq (sAsg (gNm 1) (lO (wCall (c 18) []))) (sSeq (sFor (lI (jOp gRng [wC (.int 12)])) (gNm 2) (sSeq (sAsg (gNm 3) (oV (frz (mCall (c 14) [aR 0, aO (mOp gAdd [rV (lV (wC (.int 2))), rO (mCall (c 8) [aR 0, aV (lV (wC (.int 7)))])]), aV (lV (wC (.int 40)))])))) (sSeq (sFor (iOp gRng [rO (mCall (c 8) [aR 0, aV (lV (wC (.int 4)))])]) (gNm 4) (sAsg (gNm 3) (oV (frz (mCall (c 19) [aR 0, aR 3]))))) (sExp (oApp 1 (vVar 3)))))) (sSeq (sFor (iVal (vVar 1)) (gNm 3) (sSeq (sPar [5, 6] [oV (lV (wF (wOp gRepr [gr 3]))), oV (lV (wF (wCall (c 17) [s1 (gv 3)])))]) (sIf (lB (wOr (wNot (wTru (wF (wCall (c 11) [s1 (wF (wLst [s1 (wF (wCall (c 6) [s1 (gv 3)])), s1 (wF (wCallP (c 6) [0] [s1 (gv 3)]))])), s1 (wF (wLst [s1 (gv 6), s1 (gv 6)]))])))) (wBo (wOp gNe [wF (wOp gRepr [gr 3]), gr 5])))) (sRet (lO (wV (wC (.bool false))))) (sNx)))) (sRet (lO (wV (wC (.bool true)))))))
/-- law -/
def m21 (c : Nat → FD) : MS := sSeq (sAsg (gNm 1) (mCall (c 9) [aR 0, aV (vCon (.int 3))])) (sSeq (sFor (iOp gRng [rO (mOp gLen [rB 1])]) (gNm 2) (sSeq (sAsg (gNm 3) (mCall (c 7) [aR 1, aR 2])) (sIf (bNot (mTru (rO (mOp gAll [rO (oLc [4] (iOp gRng [rV (vCon (.int 1))]) (gNm 4) (tYs) (frz (mCall (c 20) [aR 3])))])))) (sRet (oV (vCon (.bool false)))) (sNx)))) (sRet (oV (vCon (.bool true)))))
def body (c : Nat → FD) : Nat → FD
  | 0 => runDef 2 2 (m0 c)
  | 1 => runDef 2 2 (m1 c)
  | 2 => runDef 2 1 (m2 c)
  | 3 => runDef 3 1 (m3 c)
  | 4 => runDef 3 2 (m4 c)
  | 5 => runDef 3 2 (m5 c)
  | 6 => runDef 2 1 (m6 c)
  | 7 => runDef 3 2 (m7 c)
  | 8 => runDef 6 2 (m8 c)
  | 9 => runDef 6 2 (m9 c)
  | 10 => runDef 2 2 (m10 c)
  | 11 => runDef 4 2 (m11 c)
  | 12 => runDef 1 1 (m12 c)
  | 13 => runDef 3 2 (m13 c)
  | 14 => runDef 11 3 (m14 c)
  | 15 => runDef 2 1 (m15 c)
  | 16 => runDef 5 2 (m16 c)
  | 17 => runDef 1 1 (m17 c)
  | 18 => runDef 6 0 (m18 c)
  | 19 => runDef 4 2 (m19 c)
  | 20 => runDef 7 1 (m20 c)
  | 21 => runDef 5 1 (m21 c)
  | _ => fun _ => none
def C : Nat → Nat → FD
  | 0 => fun _ _ => none
  | n + 1 => body (C n)
theorem C_0 (n : Nat) : C (n + 1) 0 = runDef 2 2 (m0 (C n)) := rfl
theorem C_1 (n : Nat) : C (n + 1) 1 = runDef 2 2 (m1 (C n)) := rfl
theorem C_2 (n : Nat) : C (n + 1) 2 = runDef 2 1 (m2 (C n)) := rfl
theorem C_3 (n : Nat) : C (n + 1) 3 = runDef 3 1 (m3 (C n)) := rfl
theorem C_4 (n : Nat) : C (n + 1) 4 = runDef 3 2 (m4 (C n)) := rfl
theorem C_5 (n : Nat) : C (n + 1) 5 = runDef 3 2 (m5 (C n)) := rfl
theorem C_6 (n : Nat) : C (n + 1) 6 = runDef 2 1 (m6 (C n)) := rfl
theorem C_7 (n : Nat) : C (n + 1) 7 = runDef 3 2 (m7 (C n)) := rfl
theorem C_8 (n : Nat) : C (n + 1) 8 = runDef 6 2 (m8 (C n)) := rfl
theorem C_9 (n : Nat) : C (n + 1) 9 = runDef 6 2 (m9 (C n)) := rfl
theorem C_10 (n : Nat) : C (n + 1) 10 = runDef 2 2 (m10 (C n)) := rfl
theorem C_11 (n : Nat) : C (n + 1) 11 = runDef 4 2 (m11 (C n)) := rfl
theorem C_12 (n : Nat) : C (n + 1) 12 = runDef 1 1 (m12 (C n)) := rfl
theorem C_13 (n : Nat) : C (n + 1) 13 = runDef 3 2 (m13 (C n)) := rfl
theorem C_14 (n : Nat) : C (n + 1) 14 = runDef 11 3 (m14 (C n)) := rfl
theorem C_15 (n : Nat) : C (n + 1) 15 = runDef 2 1 (m15 (C n)) := rfl
theorem C_16 (n : Nat) : C (n + 1) 16 = runDef 5 2 (m16 (C n)) := rfl
theorem C_17 (n : Nat) : C (n + 1) 17 = runDef 1 1 (m17 (C n)) := rfl
theorem C_18 (n : Nat) : C (n + 1) 18 = runDef 6 0 (m18 (C n)) := rfl
theorem C_19 (n : Nat) : C (n + 1) 19 = runDef 4 2 (m19 (C n)) := rfl
theorem C_20 (n : Nat) : C (n + 1) 20 = runDef 7 1 (m20 (C n)) := rfl
theorem C_21 (n : Nat) : C (n + 1) 21 = runDef 5 1 (m21 (C n)) := rfl
end Dv.G

/-! Loops and comprehensions, in plain Lean. -/
namespace Dv
open PySem PySem.Spec PyProof.Rows L2
inductive All2 {α β : Type} (R : α → β → Prop) : List α → List β → Prop
  | nil : All2 R [] []
  | cons {a : α} {b : β} {as : List α} {bs : List β} : R a b → All2 R as bs → All2 R (a :: as) (b :: bs)
theorem All2.map {α β : Type} {f : α → β} : ∀ {as : List α} {bs : List β}, All2 (fun a b => b = f a) as bs → bs = as.map f
  | _, _, .nil => rfl
  | _, _, .cons h t => by rw [h, t.map]; rfl
theorem All2.imp {α β : Type} {R R' : α → β → Prop} (i : ∀ a b, R a b → R' a b) : ∀ {as : List α} {bs : List β}, All2 R as bs → All2 R' as bs
  | _, _, .nil => .nil
  | _, _, .cons h t => .cons (i _ _ h) (t.imp i)
theorem All2.len {α β : Type} {R : α → β → Prop} : ∀ {as : List α} {bs : List β}, All2 R as bs → bs.length = as.length
  | _, _, .nil => rfl
  | _, _, .cons _ t => congrArg (· + 1) t.len
theorem compGo_inv {vs : List Nat} {g : MG} {t : MB} {e : MV} (P : List D → S → Prop) (R : D → D → Prop) (h : ∀ d ds s, P (d :: ds) s → ∃ s1 s2 s3 d', g (.val d) s = some s1 ∧ t s1 = some (true, s2) ∧ e s2 = some (d', s3) ∧ R d d' ∧ P ds (wS s3 vs)) :
    ∀ (ds : List D) (s : S), P ds s → ∃ ys s', compGo vs g t e ds s = some (ys, s') ∧ P [] s' ∧ All2 R ds ys
  | [], s, p => ⟨[], s, rfl, p, .nil⟩
  | d :: ds, s, p => by
    obtain ⟨s1, s2, s3, d', e1, e2, e3, r, p'⟩ := h d ds s p
    obtain ⟨ys, s', e4, p2, a⟩ := compGo_inv P R h ds (wS s3 vs) p'
    refine ⟨d' :: ys, s', ?_, p2, .cons r a⟩
    unfold compGo
    rw [e1, Option.bind_some, e2, Option.bind_some, if_pos rfl, e3, Option.bind_some, e4]
    rfl
theorem forGo_inv {g : MG} {b : MS} (P : List D → S → Prop) (h : ∀ d ds s, P (d :: ds) s → ∃ s1 s2, g (.val d) s = some s1 ∧ b s1 = some (.nx, s2) ∧ P ds s2) : ∀ (ds : List D) (s : S), P ds s → ∃ s', forGo g b ds s = some (.nx, s') ∧ P [] s'
  | [], s, p => ⟨s, rfl, p⟩
  | d :: ds, s, p => by
    obtain ⟨s1, s2, e1, e2, p'⟩ := h d ds s p
    obtain ⟨s', e3, p2⟩ := forGo_inv P h ds s2 p'
    refine ⟨s', ?_, p2⟩
    unfold forGo
    rw [e1, Option.bind_some, e2, Option.bind_some]
    exact e3
/-! ### the drawing urn -/
/-- an urn that can still be drawn from m times -/
def Urn (m : Nat) (o : O) : Prop := ∃ a b c : Int, o = .lst [.int a, .int b, .int c] ∧ 0 ≤ c ∧ c + m ≤ 2 ^ 60
theorem Urn.le {m n : Nat} {o : O} (h : Urn m o) (hn : n ≤ m) : Urn n o := by
  obtain ⟨a, b, c, e, h1, h2⟩ := h
  exact ⟨a, b, c, e, h1, by omega⟩
def TakeOk (f : FD) : Prop := ∀ (m : Nat) (u : O) (k : Int), Urn (m + 1) u → 0 < k → k < 2 ^ 60 → ∃ r u', Urn m u' ∧ f [u, .val (.int k)] = some (.val (.int r), [u', .val (.int k)]) ∧ 0 ≤ r ∧ r < k
end Dv

/-! The combinators at a state: continuations by name. -/
namespace Dv
open PySem PySem.Spec PyProof.Rows L2
def bK {α β : Type} (f : α → S → Option β) : Option (α × S) → Option β
  | some (a, s) => f a s
  | none => none
theorem bK_some {α β : Type} (f : α → S → Option β) (a : α) (s : S) : bK f (some (a, s)) = f a s := rfl
theorem bK_bind {α β : Type} (x : Option (α × S)) (f : α → S → Option β) : (x.bind fun p => f p.1 p.2) = bK f x := by
  cases x <;> rfl
def ifF {α : Type} (a b : S → Option α) : Bool → S → Option α
  | true, s => a s
  | false, s => b s
def seqF (b : MS) : Fl → S → Option (Fl × S)
  | .nx, s => b s
  | f, s => some (f, s)
def asgG : Option S → Option (Fl × S)
  | some s => some (.nx, s)
  | none => none
def asgF (g : MG) (o : O) (s : S) : Option (Fl × S) := asgG (g o s)
def retF (o : O) (s : S) : Option (Fl × S) := some (.rt o, s)
def expF (_ : O) (s : S) : Option (Fl × S) := some (.nx, s)
def ret1 {α β : Type} (f : α → β) (a : α) (s : S) : Option (β × S) := some (f a, s)
def frzG : Bool → D → S → Option (D × S)
  | true, d, s => some (d, s)
  | false, _, _ => none
def frzF (o : O) (s : S) : Option (D × S) := frzG o.fz o.toD s
def lkS : Bool → D → Option D
  | true, d => some d
  | false, _ => none
def opH : Option O → S → Option (O × S)
  | some o, s => some (o, s)
  | none, _ => none
def opG (g : List D → Option O) : Option (List D) → S → Option (O × S)
  | some ds, s => opH (g ds) s
  | none, _ => none
def opF (g : List D → Option O) (rs : List Rf) (s : S) : Option (O × S) := opG g (looks s rs) s
def tupG : Option (List D) → S → Option (D × S)
  | some ds, s => some (.tuple ds, s)
  | none, _ => none
def tupF (rs : List Rf) (s : S) : Option (D × S) := tupG (dsOf rs) s
def lstG : Option (List D) → S → Option (O × S)
  | some ds, s => some (.lst ds, s)
  | none, _ => none
def lstF (rs : List Rf) (s : S) : Option (O × S) := lstG (dsOf rs) s
def boF : O → S → Option (Bool × S)
  | .val (.bool b), s => some (b, s)
  | _, _ => none
def truH : Option Bool → S → Option (Bool × S)
  | some b, s => some (b, s)
  | none, _ => none
def truG : Option D → S → Option (Bool × S)
  | some d, s => truH (truthD d) s
  | none, _ => none
def truF (r : Rf) (s : S) : Option (Bool × S) := truG (r.look s) s
def andF (b : MB) : Bool → S → Option (Bool × S)
  | true, s => b s
  | false, s => some (false, s)
def orF (b : MB) : Bool → S → Option (Bool × S)
  | true, s => some (true, s)
  | false, s => b s
def vandG (b : MV) : Option Bool → D → S → Option (D × S)
  | some true, _, s => b s
  | some false, d, s => some (d, s)
  | none, _, _ => none
def vandF (b : MV) (d : D) (s : S) : Option (D × S) := vandG b (truthD d) d s
def vorG (b : MV) : Option Bool → D → S → Option (D × S)
  | some true, d, s => some (d, s)
  | some false, _, s => b s
  | none, _, _ => none
def vorF (b : MV) (d : D) (s : S) : Option (D × S) := vorG b (truthD d) d s
def oorG (b : MO) : Option Bool → O → S → Option (O × S)
  | some true, o, s => some (o, s)
  | some false, _, s => b s
  | none, _, _ => none
def oorE (b : MO) (o : O) (s : S) : Bool → Option (O × S)
  | true => oorG b (truthD o.toD) o s
  | false => none
def oorF (b : MO) (o : O) (s : S) : Option (O × S) := oorE b o s o.fz
def notG : Option Bool → S → Option (D × S)
  | some b, s => some (.bool (!b), s)
  | none, _ => none
def notH : Option D → S → Option (D × S)
  | some d, s => notG (truthD d) s
  | none, _ => none
def notF (r : Rf) (s : S) : Option (D × S) := notH (r.look s) s
def isE (b : Bool) (s : S) : Bool → Option (D × S)
  | true => some (.bool b, s)
  | false => none
def isG (f : D → Bool) : Option D → S → Option (D × S)
  | some d, s => isE (f d) s (nd d)
  | none, _ => none
def isF (T : Ty) (r : Rf) (s : S) : Option (D × S) := isG (isTy T) (r.look s) s
def isTy2 (T U : Ty) (d : D) : Bool := isTy T d || isTy U d
def isF2 (T U : Ty) (r : Rf) (s : S) : Option (D × S) := isG (isTy2 T U) (r.look s) s
def evRG (r : Rf) : Option (List Rf × S) → Option (List Rf × S)
  | some (rs, s) => some (r :: rs, s)
  | none => none
def evRF (ms : List MR) (r : Rf) (s : S) : Option (List Rf × S) := evRG r (evR ms s)
def evAG (r : Arg) : Option (List Arg × S) → Option (List Arg × S)
  | some (rs, s) => some (r :: rs, s)
  | none => none
def evAF (ms : List MArg) (r : Arg) (s : S) : Option (List Arg × S) := evAG r (evA ms s)
def evOG (r : O) : Option (List O × S) → Option (List O × S)
  | some (rs, s) => some (r :: rs, s)
  | none => none
def evOF (ms : List MO) (r : O) (s : S) : Option (List O × S) := evOG r (evO ms s)
def chG (s : S) (i : Nat) : Option (O × List D) → Option (O × S)
  | some (o, xs) => some (o, s.set i (some (.lst xs)))
  | none => none
def chAt (s : S) (i : Nat) (f : List D → Option (O × List D)) : Option (Option O) → Option (O × S)
  | some (some (.lst xs)) => chG s i (f xs)
  | _ => none
def appL (d : D) (xs : List D) : Option (O × List D) := if xs.length < sizeLine then some (.val .none, xs ++ [d]) else none
def appF (i : Nat) (d : D) (s : S) : Option (O × S) := chAt s i (appL d) s[i]?
def gate {α : Type} : Bool → Option α → Option α
  | true, x => x
  | false, _ => none
def setL (j : Int) (d : D) (xs : List D) : Option (O × List D) := (ixN xs.length j).map fun n => (.val .none, xs.set n d)
def setF3 : Option (O × S) → Option (Fl × S)
  | some (_, s) => some (.nx, s)
  | none => none
def setF2 (i : Nat) (d : D) : D → S → Option (Fl × S)
  | .int j, s => setF3 (chAt s i (setL j d) s[i]?)
  | _, _ => none
def setF1 (i : Nat) (k : MV) (d : D) (s : S) : Option (Fl × S) := gate (ownL s i) (bK (setF2 i d) (k s))
def callI (r : O) : Option S → Option (O × S)
  | some s => some (r, s)
  | none => none
def callH (as : List Arg) (s : S) : Option (O × List O) → Option (O × S)
  | some (r, outs) => callI r (setRefs as outs (dropRefs as s))
  | none => none
def callG (f : FD) (as : List Arg) (s : S) : Option (List O) → Option (O × S)
  | some cs => gate (decide (ownRefs s as).Nodup) (callH as s (f cs))
  | none => none
def callF (f : FD) (as : List Arg) (s : S) : Option (O × S) := callG f as s (conts s as)
def itG : Option (List D) → S → Option (List D × S)
  | some ds, s => some (ds, s)
  | none, _ => none
def iopG (g : List D → Option (List D)) : Option (List D) → S → Option (List D × S)
  | some ds, s => itG (g ds) s
  | none, _ => none
def iopF (g : List D → Option (List D)) (rs : List Rf) (s : S) : Option (List D × S) := iopG g (looks s rs) s
def iprF (g : List Rf → Option (List D)) (rs : List Rf) (s : S) : Option (List D × S) := itG (g rs) s
def ivF (d : D) (s : S) : Option (List D × S) := itG (itemsD d) s
def lcG : Option (List D × S) → Option (O × S)
  | some (ys, s) => if ys.length ≤ sizeLine then some (.lst ys, s) else none
  | none => none
def lcF (vs : List Nat) (g : MG) (t : MB) (e : MV) (ds : List D) (s : S) : Option (O × S) := lcG (compGo vs g t e ds (wS s vs))
def lc2F (vs : List Nat) (g : MG) (t : MB) (m1 : MI) (vs1 : List Nat) (g1 : MG) (t1 : MB) (e : MV) (ds : List D) (s : S) : Option (O × S) := lcG (compGo2 vs g t m1 vs1 g1 t1 e ds (wS s vs))
def slI (a b : Option Int) : Option D → S → Option (O × S)
  | some d, s => opH (gSl a b d) s
  | none, _ => none
def slH (r : Rf) (a b : Option Int) (s : S) : Option (O × S) := slI a b (r.look s) s
def slG (hi : MP) (r : Rf) (a : Option Int) (s : S) : Option (O × S) := bK (slH r a) (hi s)
def slF (lo hi : MP) (r : Rf) (s : S) : Option (O × S) := bK (slG hi r) (lo s)
def psF : D → S → Option (Option Int × S)
  | .int i, s => some (some i, s)
  | _, _ => none
def parG (is : List Nat) (os : List O) (s : S) : Option (Fl × S) := asgG (setAll is os s)
def runG : Fl → Option (List O) → Option (O × List O)
  | .nx, some outs => some (.val .none, outs)
  | .rt o, some outs => some (o, outs)
  | _, _ => none
def runF (np : Nat) (f : Fl) (s : S) : Option (O × List O) := runG f (outsOf np s)
section
variable {α : Type} (a b : MS) (m n : MO) (u v : MV) (r : MR) (t t' : MB) (s : S)
theorem ap_runDef (n np : Nat) (cs : List O) : runDef n np a cs = gate (decide (cs.length = np)) (bK (runF np) (a (cs.map some ++ List.replicate (n - np) none))) := by
  unfold runDef
  by_cases h : cs.length = np
  · rw [if_pos h, decide_eq_true h]
    show _ = bK (runF np) _
    rw [← bK_bind]
    cases a (cs.map some ++ List.replicate (n - np) none) with
    | none => rfl
    | some p =>
      obtain ⟨f, s⟩ := p
      show (outsOf np s).bind _ = runF np f s
      unfold runF
      cases outsOf np s <;> cases f <;> rfl
  · rw [if_neg h, decide_eq_false h]
    rfl
theorem ap_sSeq : sSeq a b s = bK (seqF b) (a s) := by
  rw [← bK_bind]
  show (a s).bind _ = _
  cases a s with
  | none => rfl
  | some p =>
    obtain ⟨f, s⟩ := p
    cases f <;> rfl
theorem ap_sAsg (g : MG) : sAsg g m s = bK (asgF g) (m s) := by
  rw [← bK_bind]
  show (m s).bind _ = _
  cases m s with
  | none => rfl
  | some p =>
    obtain ⟨o, s⟩ := p
    show (g o s).map _ = asgG (g o s)
    cases g o s <;> rfl
theorem ap_sIf : sIf t a b s = bK (ifF a b) (t s) := by
  rw [← bK_bind]
  show (t s).bind _ = _
  cases t s with
  | none => rfl
  | some p =>
    obtain ⟨k, s⟩ := p
    cases k <;> rfl
theorem ap_vIf : vIf t u v s = bK (ifF u v) (t s) := by
  rw [← bK_bind]
  show (t s).bind _ = _
  cases t s with
  | none => rfl
  | some p =>
    obtain ⟨k, s⟩ := p
    cases k <;> rfl
theorem ap_oIf : oIf t m n s = bK (ifF m n) (t s) := by
  rw [← bK_bind]
  show (t s).bind _ = _
  cases t s with
  | none => rfl
  | some p =>
    obtain ⟨k, s⟩ := p
    cases k <;> rfl
theorem ap_sRet : sRet m s = bK retF (m s) := by
  show (m s).map _ = _
  cases m s <;> rfl
theorem ap_sExp : sExp m s = bK expF (m s) := by
  show (m s).map _ = _
  cases m s <;> rfl
theorem ap_sNx : sNx s = some (.nx, s) := rfl
theorem ap_sFor (i : MI) (g : MG) : sFor i g a s = bK (forGo g a) (i s) := by
  show (i s).bind _ = _
  cases i s <;> rfl
theorem ap_sPar (is : List Nat) (ms : List MO) : sPar is ms s = bK (parG is) (evO ms s) := by
  show (evO ms s).bind _ = _
  cases evO ms s with
  | none => rfl
  | some p =>
    obtain ⟨os, s⟩ := p
    show (setAll is os s).map _ = asgG (setAll is os s)
    cases setAll is os s <;> rfl
theorem ap_mOp (g : List D → Option O) (ms : List MR) : mOp g ms s = bK (opF g) (evR ms s) := by
  show (evR ms s).bind _ = _
  cases evR ms s with
  | none => rfl
  | some p =>
    obtain ⟨rs, s⟩ := p
    show (looks s rs).bind _ = opG g (looks s rs) s
    cases looks s rs with
    | none => rfl
    | some ds =>
      show (g ds).map _ = opH (g ds) s
      cases g ds <;> rfl
theorem ap_rV : rV u s = bK (ret1 Rf.d) (u s) := by
  show (u s).map _ = _
  cases u s <;> rfl
theorem ap_frz : frz m s = bK frzF (m s) := by
  show (m s).bind _ = _
  cases m s with
  | none => rfl
  | some p =>
    obtain ⟨o, s⟩ := p
    show (if o.fz = true then some (o.toD, s) else none) = frzG o.fz o.toD s
    cases o.fz <;> rfl
theorem ap_rO : rO m s = bK (ret1 Rf.d) (frz m s) := ap_rV (frz m) s
theorem ap_oV : oV u s = bK (ret1 O.val) (u s) := by
  show (u s).map _ = _
  cases u s <;> rfl
theorem ap_aV : aV u s = bK (ret1 Arg.d) (u s) := by
  show (u s).map _ = _
  cases u s <;> rfl
theorem ap_aO : aO m s = bK (ret1 Arg.o) (m s) := by
  show (m s).map _ = _
  cases m s <;> rfl
theorem ap_vCon (d : D) : vCon d s = some (d, s) := rfl
theorem ap_vTup (ms : List MR) : vTup ms s = bK tupF (evR ms s) := by
  show (evR ms s).bind _ = _
  cases evR ms s with
  | none => rfl
  | some p =>
    obtain ⟨rs, s⟩ := p
    show (dsOf rs).map _ = tupG (dsOf rs) s
    cases dsOf rs <;> rfl
theorem ap_oLst (ms : List MR) : oLst ms s = bK lstF (evR ms s) := by
  show (evR ms s).bind _ = _
  cases evR ms s with
  | none => rfl
  | some p =>
    obtain ⟨rs, s⟩ := p
    show (dsOf rs).map _ = lstG (dsOf rs) s
    cases dsOf rs <;> rfl
theorem ap_mBo : mBo m s = bK boF (m s) := by
  show (m s).bind _ = _
  cases m s with
  | none => rfl
  | some p =>
    obtain ⟨o, s⟩ := p
    cases o with
    | val d => cases d <;> rfl
    | _ => rfl
theorem ap_mTru : mTru r s = bK truF (r s) := by
  show (r s).bind _ = _
  cases r s with
  | none => rfl
  | some p =>
    obtain ⟨rf, s⟩ := p
    show (rf.look s).bind _ = truG (rf.look s) s
    cases rf.look s with
    | none => rfl
    | some d =>
      show (truthD d).map _ = truH (truthD d) s
      cases truthD d <;> rfl
theorem ap_bNot : bNot t s = bK (ret1 not) (t s) := by
  show (t s).map _ = _
  cases t s <;> rfl
theorem ap_bAnd : bAnd t t' s = bK (andF t') (t s) := by
  show (t s).bind _ = _
  cases t s with
  | none => rfl
  | some p =>
    obtain ⟨k, s⟩ := p
    cases k <;> rfl
theorem ap_bOr : bOr t t' s = bK (orF t') (t s) := by
  show (t s).bind _ = _
  cases t s with
  | none => rfl
  | some p =>
    obtain ⟨k, s⟩ := p
    cases k <;> rfl
theorem ap_vAnd : vAnd u v s = bK (vandF v) (u s) := by
  show (u s).bind _ = _
  cases u s with
  | none => rfl
  | some p =>
    obtain ⟨d, s⟩ := p
    show (truthD d).bind _ = vandG v (truthD d) d s
    cases truthD d with
    | none => rfl
    | some k => cases k <;> rfl
theorem ap_vOr : vOr u v s = bK (vorF v) (u s) := by
  show (u s).bind _ = _
  cases u s with
  | none => rfl
  | some p =>
    obtain ⟨d, s⟩ := p
    show (truthD d).bind _ = vorG v (truthD d) d s
    cases truthD d with
    | none => rfl
    | some k => cases k <;> rfl
theorem ap_oOr : oOr m n s = bK (oorF n) (m s) := by
  show (m s).bind _ = _
  cases m s with
  | none => rfl
  | some p =>
    obtain ⟨o, s⟩ := p
    show (if o.fz = true then truthD o.toD else none).bind (fun k => if k = true then some (o, s) else n s) = oorE n o s o.fz
    cases o.fz with
    | false => rfl
    | true =>
      show (truthD o.toD).bind _ = oorG n (truthD o.toD) o s
      cases truthD o.toD with
      | none => rfl
      | some k => cases k <;> rfl
theorem ap_vNot : vNot r s = bK notF (r s) := by
  show (r s).bind _ = _
  cases r s with
  | none => rfl
  | some p =>
    obtain ⟨rf, s⟩ := p
    show (rf.look s).bind _ = notH (rf.look s) s
    cases rf.look s with
    | none => rfl
    | some d =>
      show (truthD d).map _ = notG (truthD d) s
      cases truthD d <;> rfl
theorem ap_vIsi (T : Ty) : vIsi T r s = bK (isF T) (r s) := by
  show (r s).bind _ = _
  cases r s with
  | none => rfl
  | some p =>
    obtain ⟨rf, s⟩ := p
    show (rf.look s).bind _ = isG (isTy T) (rf.look s) s
    cases rf.look s with
    | none => rfl
    | some d =>
      show (if nd d = true then _ else none) = isE _ s (nd d)
      cases nd d <;> rfl
theorem ap_vIsi2 (T U : Ty) : vIsi2 T U r s = bK (isF2 T U) (r s) := by
  show (r s).bind _ = _
  cases r s with
  | none => rfl
  | some p =>
    obtain ⟨rf, s⟩ := p
    show (rf.look s).bind _ = isG (isTy2 T U) (rf.look s) s
    cases rf.look s with
    | none => rfl
    | some d =>
      show (if nd d = true then _ else none) = isE _ s (nd d)
      cases nd d <;> rfl
theorem ap_evR0 : evR [] s = some ([], s) := rfl
theorem ap_evR1 (ms : List MR) : evR (r :: ms) s = bK (evRF ms) (r s) := by
  show (r s).bind _ = _
  cases r s with
  | none => rfl
  | some p =>
    obtain ⟨x, s⟩ := p
    show (evR ms s).map _ = evRG x (evR ms s)
    cases evR ms s <;> rfl
theorem ap_evA0 : evA [] s = some ([], s) := rfl
theorem ap_evA1 (x : MArg) (ms : List MArg) : evA (x :: ms) s = bK (evAF ms) (x s) := by
  show (x s).bind _ = _
  cases x s with
  | none => rfl
  | some p =>
    obtain ⟨y, s⟩ := p
    show (evA ms s).map _ = evAG y (evA ms s)
    cases evA ms s <;> rfl
theorem ap_evO0 : evO [] s = some ([], s) := rfl
theorem ap_evO1 (ms : List MO) : evO (m :: ms) s = bK (evOF ms) (m s) := by
  show (m s).bind _ = _
  cases m s with
  | none => rfl
  | some p =>
    obtain ⟨y, s⟩ := p
    show (evO ms s).map _ = evOG y (evO ms s)
    cases evO ms s <;> rfl
theorem chL_at (i : Nat) (f : List D → Option (O × List D)) : chL i f s = chAt s i f s[i]? := by
  unfold chL
  cases h : s[i]? with
  | none => rfl
  | some x =>
    cases x with
    | none => rfl
    | some o =>
      cases o with
      | lst xs =>
        show (f xs).map _ = chG s i (f xs)
        cases f xs <;> rfl
      | _ => rfl
theorem ap_oApp (i : Nat) : oApp i u s = gate (ownL s i) (bK (appF i) (u s)) := by
  unfold oApp
  cases ownL s i with
  | false => rfl
  | true =>
    rw [if_pos rfl]
    show _ = bK (appF i) (u s)
    cases u s with
    | none => rfl
    | some p =>
      obtain ⟨d, s⟩ := p
      exact chL_at s i (appL d)
theorem ap_sSetIx (i : Nat) : sSetIx i u v s = bK (setF1 i u) (v s) := by
  show (v s).bind _ = _
  cases v s with
  | none => rfl
  | some p =>
    obtain ⟨d, s⟩ := p
    show (if ownL s i = true then _ else _) = gate (ownL s i) (bK (setF2 i d) (u s))
    cases ownL s i with
    | false => rfl
    | true =>
      rw [if_pos rfl]
      show _ = bK (setF2 i d) (u s)
      cases u s with
      | none => rfl
      | some q =>
        obtain ⟨k, s⟩ := q
        cases k with
        | int j =>
          show (chL i (setL j d) s).map _ = setF3 (chAt s i (setL j d) s[i]?)
          rw [chL_at]
          cases chAt s i (setL j d) s[i]? <;> rfl
        | _ => rfl
theorem ap_mCall (f : FD) (ms : List MArg) : mCall f ms s = bK (callF f) (evA ms s) := by
  show (evA ms s).bind _ = _
  cases evA ms s with
  | none => rfl
  | some p =>
    obtain ⟨as, s⟩ := p
    show (conts s as).bind _ = callG f as s (conts s as)
    cases conts s as with
    | none => rfl
    | some cs =>
      show (if (ownRefs s as).Nodup then _ else _) = gate (decide (ownRefs s as).Nodup) (callH as s (f cs))
      by_cases h : (ownRefs s as).Nodup
      · rw [if_pos h, decide_eq_true h]
        show (f cs).bind _ = callH as s (f cs)
        cases f cs with
        | none => rfl
        | some r =>
          obtain ⟨r, outs⟩ := r
          show (setRefs as outs (dropRefs as s)).map _ = callI r (setRefs as outs (dropRefs as s))
          cases setRefs as outs (dropRefs as s) <;> rfl
      · rw [if_neg h, decide_eq_false h]
        rfl
theorem ap_iVal : iVal u s = bK ivF (u s) := by
  show (u s).bind _ = _
  cases u s with
  | none => rfl
  | some p =>
    obtain ⟨d, s⟩ := p
    show (itemsD d).map _ = itG (itemsD d) s
    cases itemsD d <;> rfl
theorem ap_iOp (g : List D → Option (List D)) (ms : List MR) : iOp g ms s = bK (iopF g) (evR ms s) := by
  show (evR ms s).bind _ = _
  cases evR ms s with
  | none => rfl
  | some p =>
    obtain ⟨rs, s⟩ := p
    show (looks s rs).bind _ = iopG g (looks s rs) s
    cases looks s rs with
    | none => rfl
    | some ds =>
      show (g ds).map _ = itG (g ds) s
      cases g ds <;> rfl
theorem ap_iPr (g : List Rf → Option (List D)) (ms : List MR) : iPr g ms s = bK (iprF g) (evR ms s) := by
  show (evR ms s).bind _ = _
  cases evR ms s with
  | none => rfl
  | some p =>
    obtain ⟨rs, s⟩ := p
    show (g rs).map _ = itG (g rs) s
    cases g rs <;> rfl
theorem ap_oLc (vs : List Nat) (i : MI) (g : MG) : oLc vs i g t u s = bK (lcF vs g t u) (i s) := by
  show (i s).bind _ = _
  cases i s with
  | none => rfl
  | some p =>
    obtain ⟨ds, s⟩ := p
    show (compGo vs g t u ds (wS s vs)).bind _ = lcG (compGo vs g t u ds (wS s vs))
    cases compGo vs g t u ds (wS s vs) <;> rfl
theorem ap_oLc2 (vs : List Nat) (i : MI) (g : MG) (i1 : MI) (vs1 : List Nat) (g1 : MG) : oLc2 vs i g t i1 vs1 g1 t' u s = bK (lc2F vs g t i1 vs1 g1 t' u) (i s) := by
  show (i s).bind _ = _
  cases i s with
  | none => rfl
  | some p =>
    obtain ⟨ds, s⟩ := p
    show (compGo2 vs g t i1 vs1 g1 t' u ds (wS s vs)).bind _ = lcG (compGo2 vs g t i1 vs1 g1 t' u ds (wS s vs))
    cases compGo2 vs g t i1 vs1 g1 t' u ds (wS s vs) <;> rfl
theorem ap_pNo : pNo s = some (none, s) := rfl
theorem ap_pSome : pSome u s = bK psF (u s) := by
  show (u s).bind _ = _
  cases u s with
  | none => rfl
  | some p =>
    obtain ⟨d, s⟩ := p
    cases d <;> rfl
theorem ap_oSl (lo hi : MP) : oSl r lo hi s = bK (slF lo hi) (r s) := by
  show (r s).bind _ = _
  cases r s with
  | none => rfl
  | some p =>
    obtain ⟨x, s⟩ := p
    show (lo s).bind _ = bK (slG hi x) (lo s)
    cases lo s with
    | none => rfl
    | some p =>
      obtain ⟨a, s⟩ := p
      show (hi s).bind _ = bK (slH x a) (hi s)
      cases hi s with
      | none => rfl
      | some p =>
        obtain ⟨b, s⟩ := p
        show (x.look s).bind _ = slI a b (x.look s) s
        cases x.look s with
        | none => rfl
        | some d =>
          show (gSl a b d).map _ = opH (gSl a b d) s
          cases gSl a b d <;> rfl
end
theorem ap_rB {i : Nat} {s : S} {o : O} (h : s[i]? = some (some o)) : rB i s = some (.s i, s) := by unfold rB; rw [h]
theorem ap_vVar {i : Nat} {s : S} {o : O} (h : s[i]? = some (some o)) : vVar i s = frzG o.fz o.toD (s.set i (some (.val o.toD))) := by
  unfold vVar
  rw [h]
  show (if o.fz = true then _ else none) = _
  cases o.fz <;> rfl
theorem ap_oMove {i : Nat} {s : S} {o : O} (h : s[i]? = some (some o)) : oMove i s = some (o, s.set i none) := by unfold oMove; rw [h]
theorem ap_aR {i : Nat} {s : S} {o : O} (h : s[i]? = some (some o)) : aR i s = some (.r i, s) := by unfold aR; rw [h]
theorem ap_gNm (i : Nat) (o : O) (s : S) : gNm i o s = gate (decide (i < s.length)) (some (s.set i (some o))) := by
  unfold gNm
  by_cases h : i < s.length
  · rw [if_pos h, decide_eq_true h]
    rfl
  · rw [if_neg h, decide_eq_false h]
    rfl
theorem ap_gTp (gs : List MG) (ds : List D) (s : S) : gTp gs (.val (.tuple ds)) s = gAllT gs ds s := rfl
def gaF (gs : List MG) (ds : List D) : Option S → Option S
  | some s => gAllT gs ds s
  | none => none
theorem ap_gAll0 (s : S) : gAllT [] [] s = some s := rfl
theorem ap_gAll1 (g : MG) (gs : List MG) (d : D) (ds : List D) (s : S) : gAllT (g :: gs) (d :: ds) s = gaF gs ds (g (.val d) s) := by
  show (g (.val d) s).bind _ = _
  cases g (.val d) s <;> rfl
theorem look_d (d : D) (s : S) : (Rf.d d).look s = some d := rfl
theorem look_s {i : Nat} {s : S} {o : O} (h : s[i]? = some (some o)) : (Rf.s i).look s = lkS o.fz o.toD := by
  show (match s[i]? with | some (some o) => if o.fz = true then some o.toD else none | _ => none) = _
  rw [h]
  show (if o.fz = true then _ else none) = _
  cases o.fz <;> rfl
def lkG (r : Option D) (rs : Option (List D)) : Option (List D) := match r, rs with
  | some d, some ds => some (d :: ds)
  | _, _ => none
theorem ap_looks0 (s : S) : looks s [] = some [] := rfl
theorem ap_looks1 (s : S) (r : Rf) (rs : List Rf) : looks s (r :: rs) = lkG (r.look s) (looks s rs) := by
  show (r.look s).bind _ = _
  cases r.look s with
  | none => rfl
  | some d =>
    show (looks s rs).map _ = _
    cases looks s rs <;> rfl
def cnG (r : Option O) (rs : Option (List O)) : Option (List O) := match r, rs with
  | some d, some ds => some (d :: ds)
  | _, _ => none
theorem ap_conts0 (s : S) : conts s [] = some [] := rfl
theorem ap_conts1 (s : S) (r : Arg) (rs : List Arg) : conts s (r :: rs) = cnG (r.look s) (conts s rs) := by
  show (r.look s).bind _ = _
  cases r.look s with
  | none => rfl
  | some d =>
    show (conts s rs).map _ = _
    cases conts s rs <;> rfl
theorem alook_d (d : D) (s : S) : (Arg.d d).look s = some (.val d) := rfl
theorem alook_o (o : O) (s : S) : (Arg.o o).look s = some o := rfl
theorem alook_r {i : Nat} {s : S} {o : O} (h : s[i]? = some (some o)) : (Arg.r i).look s = some o := by
  show slotO s i = some o
  unfold slotO
  rw [h]
theorem own0 (s : S) : ownRefs s [] = [] := rfl
theorem own_d (s : S) (d : D) (as : List Arg) : ownRefs s (.d d :: as) = ownRefs s as := rfl
theorem own_o (s : S) (o : O) (as : List Arg) : ownRefs s (.o o :: as) = ownRefs s as := rfl
theorem own_r {s : S} {i : Nat} {o : O} (as : List Arg) (h : s[i]? = some (some o)) : ownRefs s (.r i :: as) = if o.isVal = true then ownRefs s as else i :: ownRefs s as := by
  show (match s[i]? with | some (some o) => if o.isVal = true then ownRefs s as else i :: ownRefs s as | _ => ownRefs s as) = _
  rw [h]
end Dv

/-! The operations on ints, texts, truths. -/
namespace Dv
open PySem PySem.Spec PyProof.Rows L2
theorem v_gt (a b : Int) : gGt [.int a, .int b] = some (.val (.bool (decide (b < a)))) := by
  refine (if_pos (e := (none : Option O)) (show ordOk (.int a) (.int b) = true from rfl)).trans ?_
  rw [PySem.W.dataLt_int]
theorem v_lt (a b : Int) : gLt [.int a, .int b] = some (.val (.bool (decide (a < b)))) := by
  refine (if_pos (e := (none : Option O)) (show ordOk (.int a) (.int b) = true from rfl)).trans ?_
  rw [PySem.W.dataLt_int]
theorem v_le (a b : Int) : gLe [.int a, .int b] = some (.val (.bool (decide (a ≤ b)))) := by
  refine (if_pos (e := (none : Option O)) (show ordOk (.int a) (.int b) = true from rfl)).trans ?_
  rw [PySem.W.dataLt_int]
  congr 3
  by_cases h : b < a
  · rw [decide_eq_true h, decide_eq_false (by omega)]
    rfl
  · rw [decide_eq_false h, decide_eq_true (by omega)]
    rfl
theorem v_ge (a b : Int) : gGe [.int a, .int b] = some (.val (.bool (decide (b ≤ a)))) := by
  refine (if_pos (e := (none : Option O)) (show ordOk (.int a) (.int b) = true from rfl)).trans ?_
  rw [PySem.W.dataLt_int]
  congr 3
  by_cases h : a < b
  · rw [decide_eq_true h, decide_eq_false (by omega)]
    rfl
  · rw [decide_eq_false h, decide_eq_true (by omega)]
    rfl
theorem eqv_int (a b : Int) : PyData.eqv (.int a) (.int b) = decide (a = b) := by
  rw [PyData.eqv]
  rfl
theorem v_eq (a b : Int) : gEq [.int a, .int b] = some (.val (.bool (decide (a = b)))) := by
  refine (if_pos (e := (none : Option O)) (show flat2 (.int a) (.int b) = true from rfl)).trans ?_
  rw [eqv_int]
theorem v_ne (a b : Int) : gNe [.int a, .int b] = some (.val (.bool (!decide (a = b)))) := by
  refine (if_pos (e := (none : Option O)) (show flat2 (.int a) (.int b) = true from rfl)).trans ?_
  rw [eqv_int]
theorem v_eqB (a b : Bool) : gEq [.bool a, .bool b] = some (.val (.bool (a == b))) := by
  refine (if_pos (e := (none : Option O)) (show flat2 (.bool a) (.bool b) = true from rfl)).trans ?_
  rw [PyData.eqv]
theorem v_neB (a b : Bool) : gNe [.bool a, .bool b] = some (.val (.bool (!(a == b)))) := by
  refine (if_pos (e := (none : Option O)) (show flat2 (.bool a) (.bool b) = true from rfl)).trans ?_
  rw [PyData.eqv]
theorem toD_val (d : D) : (O.val d).toD = d := rfl
theorem toD_lst (xs : List D) : (O.lst xs).toD = .list xs := rfl
theorem v_eqN : gEq [.none, .none] = some (.val (.bool true)) := by
  refine (if_pos (e := (none : Option O)) (show flat2 .none .none = true from rfl)).trans ?_
  rw [PyData.eqv]
theorem v_eqS (x : Str) : gEq [.str x, .str x] = some (.val (.bool true)) := by
  refine (if_pos (e := (none : Option O)) (show flat2 (.str x) (.str x) = true from rfl)).trans ?_
  rw [PyData.eqv, beq_self_eq_true]
theorem v_all (xs : List D) (h : ∀ d ∈ xs, d = .bool true) : gAll [.list xs] = some (.val (.bool true)) := by
  have tr : ∀ xs : List D, (∀ d ∈ xs, d = .bool true) → truths xs = some (xs.map fun _ => true) := fun xs => by
    induction xs with
    | nil => exact fun _ => rfl
    | cons x xs ih =>
      intro h
      have e := h x List.mem_cons_self
      subst e
      show (truths xs).map _ = _
      rw [ih fun d hd => h d (List.mem_cons_of_mem _ hd)]
      rfl
  have pl : ∀ xs : List D, (∀ d ∈ xs, d = .bool true) → PyData.plainAll xs = true := fun xs => by
    induction xs with
    | nil => exact fun _ => rfl
    | cons x xs ih =>
      intro h
      rw [h x List.mem_cons_self, PyData.plainAll, ih fun d hd => h d (List.mem_cons_of_mem _ hd)]
      rfl
  show (if PyData.plainAll xs = true then (truths xs).map _ else none) = _
  rw [if_pos (pl xs h), tr xs h, Option.map_some]
  congr 3
  simp
theorem v_add (a b : Int) : gAdd [.int a, .int b] = some (.val (.int (a + b))) := rfl
theorem v_sub (a b : Int) : gSub [.int a, .int b] = some (.val (.int (a - b))) := rfl
theorem v_mul (a b : Int) (h : a.natAbs < 2 ^ 64 ∨ b.natAbs < 2 ^ 64) : gMul [.int a, .int b] = some (.val (.int (a * b))) := by
  exact if_pos h
theorem v_fdiv (a b : Int) (h : 0 < b) (h2 : b < 2 ^ 100) : gFdiv [.int a, .int b] = some (.val (.int (a / b))) := by
  exact if_pos ⟨h, by omega⟩
theorem v_mod (a b : Int) (h : 0 < b) : gMod [.int a, .int b] = some (.val (.int (a % b))) := by
  exact if_pos h
theorem v_int (a : Int) : gInt [.int a] = some (.val (.int a)) := rfl
theorem v_intB (b : Bool) : gInt [.bool b] = some (.val (.int (if b then 1 else 0))) := rfl
theorem v_abs (a : Int) : gAbs [.int a] = some (.val (.int (if a < 0 then -a else a))) := rfl
theorem v_lenL (xs : List D) : gLen [.list xs] = some (.val (.int xs.length)) := rfl
theorem v_lenT (xs : List D) : gLen [.tuple xs] = some (.val (.int xs.length)) := rfl
theorem v_tupL (xs : List D) : gTuple [.list xs] = some (.val (.tuple xs)) := rfl
theorem v_tupT (xs : List D) : gTuple [.tuple xs] = some (.val (.tuple xs)) := rfl
theorem v_listL (xs : List D) : gList [.list xs] = some (.lst xs) := rfl
theorem v_ixL (xs : List D) (i : Int) : gIx [.list xs, .int i] = (atI xs i).map O.val := rfl
theorem v_ixT (xs : List D) (i : Int) : gIx [.tuple xs, .int i] = (atI xs i).map O.val := rfl
theorem v_setL (xs : List D) (j : Int) (d : D) : setL j d xs = (ixN xs.length j).map fun n => (.val .none, xs.set n d) := rfl
theorem v_isN (d : D) : gIsN [d] = some (.val (.bool (isNone d))) := rfl
theorem at_nat {α : Type} {xs : List α} {i : Int} {n : Nat} {a : α} (hi : i = (n : Int)) (h : xs[n]? = some a) : atI xs i = some a := by
  subst hi
  exact atI_nat h
theorem at_lt {α : Type} {xs : List α} {i : Int} (h0 : 0 ≤ i) (h1 : i < (xs.length : Int)) : ∃ a, atI xs i = some a ∧ a ∈ xs := by
  have hn : i.toNat < xs.length := by omega
  exact ⟨xs[i.toNat], at_nat (n := i.toNat) (by omega) (List.getElem?_eq_getElem hn), List.getElem_mem hn⟩
end Dv

/-! Data by levels; lists made tuples and tuples lists; sets of rows. -/
namespace Dv
open PySem PySem.Spec PyProof.Rows L2
def Lv : Nat → D → Prop
  | 0, _ => False
  | n + 1, .list ds => ds.length ≤ 1000 ∧ ∀ d ∈ ds, Lv n d
  | n + 1, .tuple ds => ds.length ≤ 1000 ∧ ∀ d ∈ ds, Lv n d
  | _ + 1, .dict _ => False
  | _ + 1, _ => True
mutual
def tupD : D → D
  | .list ds => .tuple (tupA ds)
  | .tuple ds => .tuple (tupA ds)
  | .none => .none
  | .bool b => .bool b
  | .int i => .int i
  | .str x => .str x
  | .dict kvs => .dict kvs
def tupA : List D → List D
  | [] => []
  | d :: ds => tupD d :: tupA ds
end
mutual
def lisD : D → D
  | .list ds => .list (lisA ds)
  | .tuple ds => .list (lisA ds)
  | .none => .none
  | .bool b => .bool b
  | .int i => .int i
  | .str x => .str x
  | .dict kvs => .dict kvs
def lisA : List D → List D
  | [] => []
  | d :: ds => lisD d :: lisA ds
end
mutual
theorem tup_lis : ∀ d : D, tupD (lisD d) = tupD d
  | .list ds => by rw [lisD, tupD, tupD, tup_lisA ds]
  | .tuple ds => by rw [lisD, tupD, tupD, tup_lisA ds]
  | .none => by rw [lisD]
  | .bool b => by rw [lisD]
  | .int i => by rw [lisD]
  | .str x => by rw [lisD]
  | .dict kvs => by rw [lisD]
theorem tup_lisA : ∀ ds : List D, tupA (lisA ds) = tupA ds
  | [] => by rw [lisA]
  | d :: ds => by rw [lisA, tupA, tupA, tup_lis d, tup_lisA ds]
end
mutual
/-- how often mixing draws -/
def szD : D → Nat
  | .list ds => szA ds + 1
  | .tuple ds => szA ds + 1
  | _ => 0
def szA : List D → Nat
  | [] => 0
  | d :: ds => szD d + szA ds
end
theorem lv_up : ∀ {n m : Nat} {d : D}, n ≤ m → Lv n d → Lv m d
  | n + 1, m + 1, .list ds, hm, h => ⟨h.1, fun d hd => lv_up (Nat.le_of_succ_le_succ hm) (h.2 d hd)⟩
  | n + 1, m + 1, .tuple ds, hm, h => ⟨h.1, fun d hd => lv_up (Nat.le_of_succ_le_succ hm) (h.2 d hd)⟩
  | n + 1, m + 1, .none, _, h => h
  | n + 1, m + 1, .bool _, _, h => h
  | n + 1, m + 1, .int _, _, h => h
  | n + 1, m + 1, .str _, _, h => h
  | n + 1, m + 1, .dict _, _, h => h.elim
  | 0, _, _, _, h => h.elim
  | n + 1, 0, _, hm, _ => absurd hm (by omega)
theorem line_of {n : Nat} (h : n ≤ 1000) : n ≤ sizeLine := by
  rw [sizeLine_eq]
  omega
/-! ### sets -/
theorem toSKs_of : ∀ {xs : List D}, (∀ d ∈ xs, ∃ x, toSK d = some x) → ∃ ks, toSKs xs = some ks ∧ ks.length = xs.length ∧ ∀ x, x ∈ ks ↔ ∃ d ∈ xs, toSK d = some x
  | [], _ => ⟨[], rfl, rfl, fun x => ⟨fun h => (nomatch h), fun ⟨d, h, _⟩ => (nomatch h)⟩⟩
  | d :: xs, h => by
    obtain ⟨x, e1⟩ := h d List.mem_cons_self
    obtain ⟨ks, e2, e3, e4⟩ := toSKs_of fun y hy => h y (List.mem_cons_of_mem _ hy)
    refine ⟨x :: ks, ?_, by rw [List.length_cons, List.length_cons, e3], fun y => ?_⟩
    · show (toSK d).bind _ = _
      rw [e1]
      show (toSKs xs).map _ = _
      rw [e2]
      rfl
    · rw [List.mem_cons, e4]
      constructor
      · rintro (rfl | ⟨z, h1, h2⟩)
        · exact ⟨d, List.mem_cons_self, e1⟩
        · exact ⟨z, List.mem_cons_of_mem _ h1, h2⟩
      · rintro ⟨z, h1, h2⟩
        rcases List.mem_cons.mp h1 with rfl | h1
        · rw [e1] at h2
          exact .inl (Option.some.inj h2).symm
        · exact .inr ⟨z, h1, h2⟩
/-- a kind of members: alike, of one mode -/
structure Kin (R : D → Prop) (m : Bool) : Prop where
  sk : ∀ d, R d → ∃ x, toSK d = some x ∧ x.tup = m
  al : ∀ d e, R d → R e → PySem.W.alike d e = true
  so : ∀ d, R d → (if m = true then isTup1 d else isAtom d) = true
  dp : ∀ d, R d → d.depth ≤ 64
  pl : ∀ d, R d → d.plain = true
theorem kin_sortOk {R : D → Prop} {m : Bool} (k : Kin R m) {xs : List D} (h : ∀ d ∈ xs, R d) : sortOk xs = true := by
  unfold sortOk
  rw [Bool.and_eq_true, Bool.and_eq_true]
  refine ⟨⟨List.all_eq_true.mpr fun d hd => List.all_eq_true.mpr fun e he => k.al d e (h d hd) (h e he), ?_⟩, List.all_eq_true.mpr fun d hd => by rw [decide_eq_true (k.dp d (h d hd)), k.pl d (h d hd)]; rfl⟩
  rw [Bool.or_eq_true]
  cases m with
  | true => exact .inl (List.all_eq_true.mpr fun d hd => by have := k.so d (h d hd); rwa [if_pos rfl] at this)
  | false => exact .inr (List.all_eq_true.mpr fun d hd => by have := k.so d (h d hd); rwa [if_neg Bool.false_ne_true] at this)
/-- sorted(set(xs)) of one kind -/
theorem kin_sset {R : D → Prop} {m : Bool} (k : Kin R m) {xs : List D} (h : ∀ d ∈ xs, R d) (hl : xs.length < 64) : ∃ ys, ssetD xs = some ys ∧ (∀ d, d ∈ ys ↔ d ∈ xs) ∧ ys.length ≤ xs.length ∧ ∀ zs : List D, (∀ d ∈ zs, R d) → zs.length < 64 → (∀ d, d ∈ zs ↔ d ∈ xs) → ssetD zs = some ys := by
  have tok : ∀ zs : List D, (∀ d ∈ zs, R d) → zs.length < 64 → ∃ ks, toSKs zs = some ks ∧ ks.length = zs.length ∧ (∀ x, x ∈ ks ↔ ∃ d ∈ zs, toSK d = some x) ∧ setOk zs ks = true := fun zs hz hzl => by
    obtain ⟨ks, e1, e2, e3⟩ := toSKs_of fun d hd => (k.sk d (hz d hd)).imp fun x hx => hx.1
    refine ⟨ks, e1, e2, e3, ?_⟩
    unfold setOk
    rw [Bool.and_eq_true, Bool.and_eq_true]
    refine ⟨⟨by rw [decide_eq_true hzl]; rfl, ?_⟩, kin_sortOk k hz⟩
    have md : ∀ x ∈ ks, x.tup = m := fun x hx => by
      obtain ⟨d, hd, e⟩ := (e3 x).mp hx
      obtain ⟨y, e4, e5⟩ := k.sk d (hz d hd)
      rw [e] at e4
      cases e4
      exact e5
    rw [Bool.or_eq_true]
    cases m with
    | true => exact .inr (List.all_eq_true.mpr fun x hx => md x hx)
    | false => exact .inl (List.all_eq_true.mpr fun x hx => by rw [md x hx]; rfl)
  obtain ⟨ks, e1, e2, e3, e4⟩ := tok xs h hl
  refine ⟨ssetK ks, ?_, fun d => ?_, ?_, fun zs hz hzl hm => ?_⟩
  · unfold ssetD
    rw [e1, Option.bind_some, if_pos e4]
  · unfold ssetK sortD
    rw [isort_mem, List.mem_map]
    constructor
    · rintro ⟨x, hx, rfl⟩
      obtain ⟨d, hd, e⟩ := (e3 x).mp (ddS_mem.mp hx)
      rw [← toSK_d e]
      exact hd
    · intro hd
      obtain ⟨x, hx, _⟩ := k.sk d (h d hd)
      exact ⟨x, ddS_mem.mpr ((e3 x).mpr ⟨d, hd, hx⟩), (toSK_d hx).symm⟩
  · unfold ssetK sortD
    rw [isort_len, List.length_map, ← e2]
    have le : ∀ l : List SK, (ddS l).length ≤ l.length := fun l => by
      induction l with
      | nil => exact Nat.le_refl _
      | cons x l ih =>
        unfold ddS
        split
        · exact Nat.le_succ_of_le ih
        · exact Nat.succ_le_succ ih
    exact le ks
  · obtain ⟨js, f1, f2, f3, f4⟩ := tok zs hz hzl
    unfold ssetD
    rw [f1, Option.bind_some, if_pos f4]
    congr 1
    have al : ∀ x ∈ ks, ∀ y ∈ ks, PySem.W.alike x.d y.d = true := fun x hx y hy => by
      obtain ⟨d, hd, e⟩ := (e3 x).mp hx
      obtain ⟨d', hd', e'⟩ := (e3 y).mp hy
      rw [← toSK_d e, ← toSK_d e']
      exact k.al d d' (h d hd) (h d' hd')
    have q := sset_one (ks := ks) (L := ddS js) al (ddS_nodup js) fun x => by
      rw [ddS_mem, f3, e3]
      constructor
      · rintro ⟨d, hd, e⟩
        exact ⟨d, (hm d).mp hd, e⟩
      · rintro ⟨d, hd, e⟩
        exact ⟨d, (hm d).mpr hd, e⟩
    exact q
def HRow (d : D) : Prop := ∃ r p a b, d = .tuple [.str r, .str p, .int a, .int b]
def GRow (d : D) : Prop := ∃ p a b, d = .tuple [.str p, .int a, .int b]
def DRow (d : D) : Prop := ∃ r p q a b, d = .tuple [.str r, .str p, .str q, .int a, .int b]
theorem h_kin : Kin HRow true where
  sk := fun d ⟨r, p, a, b, e⟩ => ⟨.t [.inr r, .inr p, .inl a, .inl b], by rw [e]; rfl, rfl⟩
  al := fun d e ⟨r, p, a, b, h1⟩ ⟨r', p', a', b', h2⟩ => by rw [h1, h2]; simp [PySem.W.alike, PySem.W.alikeAll]
  so := fun d ⟨r, p, a, b, e⟩ => by rw [e]; rfl
  dp := fun d ⟨r, p, a, b, e⟩ => by rw [e]; simp [PyData.depth, PyData.depthAll]
  pl := fun d ⟨r, p, a, b, e⟩ => by rw [e]; simp [PyData.plain, PyData.plainAll]
theorem g_kin : Kin GRow true where
  sk := fun d ⟨p, a, b, e⟩ => ⟨.t [.inr p, .inl a, .inl b], by rw [e]; rfl, rfl⟩
  al := fun d e ⟨p, a, b, h1⟩ ⟨p', a', b', h2⟩ => by rw [h1, h2]; simp [PySem.W.alike, PySem.W.alikeAll]
  so := fun d ⟨p, a, b, e⟩ => by rw [e]; rfl
  dp := fun d ⟨p, a, b, e⟩ => by rw [e]; simp [PyData.depth, PyData.depthAll]
  pl := fun d ⟨p, a, b, e⟩ => by rw [e]; simp [PyData.plain, PyData.plainAll]
theorem d_kin : Kin DRow true where
  sk := fun d ⟨r, p, q, a, b, e⟩ => ⟨.t [.inr r, .inr p, .inr q, .inl a, .inl b], by rw [e]; rfl, rfl⟩
  al := fun d e ⟨r, p, q, a, b, h1⟩ ⟨r', p', q', a', b', h2⟩ => by rw [h1, h2]; simp [PySem.W.alike, PySem.W.alikeAll]
  so := fun d ⟨r, p, q, a, b, e⟩ => by rw [e]; rfl
  dp := fun d ⟨r, p, q, a, b, e⟩ => by rw [e]; simp [PyData.depth, PyData.depthAll]
  pl := fun d ⟨r, p, q, a, b, e⟩ => by rw [e]; simp [PyData.plain, PyData.plainAll]
mutual
theorem lv_plain : ∀ (n : Nat) (d : D), Lv n d → d.plain = true
  | n + 1, .list ds, h => by rw [PyData.plain]; exact lv_plainA n ds h.2
  | n + 1, .tuple ds, h => by rw [PyData.plain]; exact lv_plainA n ds h.2
  | n + 1, .none, h => by rw [PyData.plain]
  | n + 1, .bool _, h => by rw [PyData.plain]
  | n + 1, .int _, h => by rw [PyData.plain]
  | n + 1, .str _, h => by rw [PyData.plain]
  | n + 1, .dict _, h => h.elim
theorem lv_plainA : ∀ (n : Nat) (ds : List D), (∀ d ∈ ds, Lv n d) → PyData.plainAll ds = true
  | n, [], h => by rw [PyData.plainAll]
  | n, d :: ds, h => by rw [PyData.plainAll, lv_plain n d (h d List.mem_cons_self), lv_plainA n ds fun x hx => h x (List.mem_cons_of_mem _ hx)]; rfl
end
end Dv

/-! Slices, enumerations, comprehensions of one field. -/
namespace Dv
open PySem PySem.Spec PyProof.Rows L2
theorem cut_to {α : Type} (xs : List α) (n : Nat) : cutG xs none (some (n : Int)) = xs.take n := by
  unfold cutG
  rw [HT.sIx_none, HT.sIx_nat, List.drop_zero, Nat.sub_zero]
  rcases Nat.le_total n xs.length with h | h
  · rw [Nat.min_eq_left h]
  · rw [Nat.min_eq_right h, List.take_length, List.take_of_length_le h]
theorem cut_of {α : Type} (xs : List α) (a b : Nat) : cutG xs (some (a : Int)) (some (b : Int)) = (xs.drop a).take (b - a) := by
  unfold cutG
  rw [HT.sIx_nat, HT.sIx_nat]
  rcases Nat.le_total a xs.length with h | h
  · rw [Nat.min_eq_left h]
    rcases Nat.le_total b xs.length with h2 | h2
    · rw [Nat.min_eq_left h2]
    · rw [Nat.min_eq_right h2, List.take_of_length_le (by rw [List.length_drop]; omega), List.take_of_length_le (by rw [List.length_drop]; omega)]
  · rw [Nat.min_eq_right h, List.drop_of_length_le h, List.drop_length, List.take_nil, List.take_nil]
theorem enum_mem {n : Nat} {ds : List D} {d : D} (h : d ∈ enumD n ds) : ∃ i x, x ∈ ds ∧ n ≤ i ∧ i < n + ds.length ∧ d = .tuple [.int ((i : Nat) : Int), x] := by
  obtain ⟨i, hi⟩ := List.getElem?_of_mem h
  obtain ⟨x, h1, h2⟩ := enumD_at hi
  have hl := (List.getElem?_eq_some_iff.mp h1).1
  exact ⟨n + i, x, List.mem_of_getElem? h1, by omega, by omega, h2⟩
end Dv

/-! Calls by keywords, chains, comprehensions with a body of any kind, sets of ints. -/
namespace Dv
open PySem PySem.Spec PyProof.Rows L2
theorem fz_val (d : D) : (O.val d).fz = true := rfl
theorem fz_lst (xs : List D) : (O.lst xs).fz = true := rfl
theorem fz_of {o : O} {d : D} (h : o.toD = d) (hd : nd d = true) : o.fz = true := by
  cases o with
  | obj c fs => subst h; cases hd
  | hole => subst h; cases hd
  | _ => rfl
end Dv

namespace Dv.G
open PySem PySem.Spec PyProof.Rows L2
theorem take_ok (c : Nat → FD) : TakeOk (runDef 6 2 (m8 c)) := by
  intro m u k ⟨a, b, n, e, h1, h2⟩ hk hk2
  subst e
  have hk3 : k < 2 ^ 100 := by omega
  by_cases h : 0 < a
  · refine ⟨a % k, .lst [.int (a / k), .int b, .int n], ⟨_, _, _, rfl, h1, by omega⟩, ?_, Int.emod_nonneg _ (by omega), Int.emod_lt_of_pos _ hk⟩
    simp [m8, bK_some, frzF, frzG, fz_val, fz_lst, lkS, oorE, isE, nd, ap_runDef, ap_sSeq, ap_sAsg, ap_sIf, ap_vIf, ap_oIf, ap_sRet, ap_sExp, ap_sNx, ap_sFor, ap_sPar, ap_mOp, ap_rV, ap_frz, ap_rO, ap_oV, ap_aV, ap_aO, ap_vCon, ap_vTup, ap_oLst, ap_mBo, ap_mTru, ap_bNot, ap_bAnd, ap_bOr, ap_vAnd, ap_vOr, ap_vNot, ap_vIsi, ap_vIsi2, ap_evR0, ap_evR1, ap_evA0, ap_evA1, ap_evO0, ap_evO1, ap_oApp, ap_sSetIx, ap_mCall, ap_iVal, ap_iOp, ap_iPr, ap_oLc, ap_oLc2, ap_pNo, ap_pSome, ap_oSl, ap_rB, ap_vVar, ap_oMove, ap_aR, ap_gNm, ap_gTp, ap_gAll0, ap_gAll1, look_d, look_s, ap_looks0, ap_looks1, ap_conts0, ap_conts1, alook_d, alook_o, alook_r, own0, own_d, own_o, own_r, ifF, seqF, asgG, asgF, retF, expF, ret1, opH, opG, opF, tupG, tupF, lstG, lstF, boF, truH, truG, truF, andF, orF, vandG, vandF, vorG, vorF, notG, notH, notF, isG, isF, isTy2, isF2, evRG, evRF, evAG, evAF, evOG, evOF, chG, chAt, appF, gate, setL, setF3, setF2, setF1, callI, callH, callG, callF, itG, iopG, iopF, iprF, ivF, slI, slH, slG, slF, psF, parG, runG, runF, gaF, lkG, cnG, dsOf, outsOf, setAll, truthD, O.toD, O.isVal, dropRefs, setRefs, ownL, isTy, wS, v_gt, v_lt, v_le, v_ge, v_eq, v_ne, v_eqB, v_neB, v_add, v_sub, v_int, v_intB, v_abs, v_lenL, v_lenT, v_tupL, v_tupT, v_listL, v_ixL, v_ixT, v_setL, v_isN, PyData.isList, PyData.isTuple, v_eqN, v_eqS, PyData.isBool, PyData.isStr, PyData.isInt, isNone, tYs, ap_oOr, oorG, oorF, v_mod _ _ hk, v_fdiv _ _ hk hk3, ixN, h, atI]
  · refine ⟨((((((b + 48271 * (n + 1)) * (39373 + (n + 1)) % 2147483647) + (n + 1) + b / 1000003) * (((b + 48271 * (n + 1)) * (39373 + (n + 1)) % 2147483647) % 40009 + 7) % 2147483629) * 48271 + ((b + 48271 * (n + 1)) * (39373 + (n + 1)) % 2147483647)) % 2147483587 / 64) % k, .lst [.int a, .int b, .int (n + 1)], ⟨_, _, _, rfl, by omega, by omega⟩, ?_, Int.emod_nonneg _ (by omega), Int.emod_lt_of_pos _ hk⟩
    have e1 : gMul [.int 48271, .int (n + 1)] = some (.val (.int (48271 * (n + 1)))) := v_mul _ _ (.inl (by decide))
    have e2 : gMul [.int (b + 48271 * (n + 1)), .int (39373 + (n + 1))] = some (.val (.int ((b + 48271 * (n + 1)) * (39373 + (n + 1))))) := v_mul _ _ (.inr (by omega))
    have e3 : ∀ x : Int, gMod [.int x, .int 2147483647] = some (.val (.int (x % 2147483647))) := fun x => v_mod _ _ (by decide)
    have e4 : ∀ x : Int, gMod [.int x, .int 40009] = some (.val (.int (x % 40009))) := fun x => v_mod _ _ (by decide)
    have e5 : ∀ x : Int, gMod [.int x, .int 2147483629] = some (.val (.int (x % 2147483629))) := fun x => v_mod _ _ (by decide)
    have e6 : ∀ x : Int, gMod [.int x, .int 2147483587] = some (.val (.int (x % 2147483587))) := fun x => v_mod _ _ (by decide)
    have e7 : ∀ x : Int, gFdiv [.int x, .int 1000003] = some (.val (.int (x / 1000003))) := fun x => v_fdiv _ _ (by decide) (by decide)
    have e8 : ∀ x : Int, gFdiv [.int x, .int 64] = some (.val (.int (x / 64))) := fun x => v_fdiv _ _ (by decide) (by decide)
    have e9 : ∀ x : Int, gMul [.int x, .int 48271] = some (.val (.int (x * 48271))) := fun x => v_mul _ _ (.inr (by decide))
    have e10 : ∀ x y : Int, gMul [.int x, .int (y % 40009 + 7)] = some (.val (.int (x * (y % 40009 + 7)))) := fun x y => v_mul _ _ (.inr (by omega))
    simp [m8, bK_some, frzF, frzG, fz_val, fz_lst, lkS, oorE, isE, nd, ap_runDef, ap_sSeq, ap_sAsg, ap_sIf, ap_vIf, ap_oIf, ap_sRet, ap_sExp, ap_sNx, ap_sFor, ap_sPar, ap_mOp, ap_rV, ap_frz, ap_rO, ap_oV, ap_aV, ap_aO, ap_vCon, ap_vTup, ap_oLst, ap_mBo, ap_mTru, ap_bNot, ap_bAnd, ap_bOr, ap_vAnd, ap_vOr, ap_vNot, ap_vIsi, ap_vIsi2, ap_evR0, ap_evR1, ap_evA0, ap_evA1, ap_evO0, ap_evO1, ap_oApp, ap_sSetIx, ap_mCall, ap_iVal, ap_iOp, ap_iPr, ap_oLc, ap_oLc2, ap_pNo, ap_pSome, ap_oSl, ap_rB, ap_vVar, ap_oMove, ap_aR, ap_gNm, ap_gTp, ap_gAll0, ap_gAll1, look_d, look_s, ap_looks0, ap_looks1, ap_conts0, ap_conts1, alook_d, alook_o, alook_r, own0, own_d, own_o, own_r, ifF, seqF, asgG, asgF, retF, expF, ret1, opH, opG, opF, tupG, tupF, lstG, lstF, boF, truH, truG, truF, andF, orF, vandG, vandF, vorG, vorF, notG, notH, notF, isG, isF, isTy2, isF2, evRG, evRF, evAG, evAF, evOG, evOF, chG, chAt, appF, gate, setL, setF3, setF2, setF1, callI, callH, callG, callF, itG, iopG, iopF, iprF, ivF, slI, slH, slG, slF, psF, parG, runG, runF, gaF, lkG, cnG, dsOf, outsOf, setAll, truthD, O.toD, O.isVal, dropRefs, setRefs, ownL, isTy, wS, v_gt, v_lt, v_le, v_ge, v_eq, v_ne, v_eqB, v_neB, v_add, v_sub, v_int, v_intB, v_abs, v_lenL, v_lenT, v_tupL, v_tupT, v_listL, v_ixL, v_ixT, v_setL, v_isN, PyData.isList, PyData.isTuple, v_eqN, v_eqS, PyData.isBool, PyData.isStr, PyData.isInt, isNone, tYs, ap_oOr, oorG, oorF, v_mod _ _ hk, e1, e2, e3, e4, e5, e6, e7, e8, e9, e10, ixN, h, atI]
end Dv.G

namespace Dv.G
open PySem PySem.Spec PyProof.Rows L2
end Dv.G

namespace Dv.G
open PySem PySem.Spec PyProof.Rows L2
theorem e_22 (n : Nat) : C (n + 1) 11 = runDef 4 2 (m11 (C n)) := rfl
theorem take_at (n : Nat) : TakeOk (C (n + 1) 8) := take_ok (C n)
def SameOk (n : Nat) (f : FD) : Prop := ∀ (o1 o2 : O), o1.toD = o2.toD → Lv n o2.toD → f [o1, o2] = some (.val (.bool true), [.val o2.toD, .val o2.toD])
theorem same_ok : ∀ n, SameOk n (C n 11)
  | 0 => fun o1 o2 _ h => h.elim
  | n + 1 => fun o1 o2 he h => by
    have ih := same_ok n
    have go : ∀ (d : D) (ds : List D), ds.length ≤ 1000 → (∀ x ∈ ds, Lv n x) → lcG (compGo [2, 3] (gTp [gNm 2, gNm 3]) tYs (frz (mCall (C n 11) [aR 2, aR 3])) (ds.map fun a => PyData.tuple [a, a]) [some (.val d), some (.val d), none, none]) = some (.lst (ds.map fun _ => .bool true), [some (.val d), some (.val d), none, none]) := fun d ds hn hl => by
      obtain ⟨ys, s', e1, e2, e3⟩ := compGo_inv (vs := [2, 3]) (g := gTp [gNm 2, gNm 3]) (t := tYs) (e := frz (mCall (C n 11) [aR 2, aR 3])) (fun ds s => s = [some (.val d), some (.val d), none, none] ∧ ∀ x ∈ ds, ∃ y, x = .tuple [y, y] ∧ Lv n y) (fun a b => b = .bool true) (fun x xs s ⟨e, hx⟩ => by
        subst e
        obtain ⟨y, rfl, hy⟩ := hx x List.mem_cons_self
        have hc : C n 11 [.val y, .val y] = some (.val (.bool true), [.val y, .val y]) := ih (.val y) (.val y) rfl hy
        refine ⟨[some (.val d), some (.val d), some (.val y), some (.val y)], _, [some (.val d), some (.val d), some (.val y), some (.val y)], .bool true, ?_, rfl, ?_, rfl, rfl, fun z hz => hx z (List.mem_cons_of_mem _ hz)⟩
        · simp [bK_some, frzF, frzG, fz_val, fz_lst, lkS, oorE, isE, nd, ap_runDef, ap_sSeq, ap_sAsg, ap_sIf, ap_vIf, ap_oIf, ap_sRet, ap_sExp, ap_sNx, ap_sFor, ap_sPar, ap_mOp, ap_rV, ap_frz, ap_rO, ap_oV, ap_aV, ap_aO, ap_vCon, ap_vTup, ap_oLst, ap_mBo, ap_mTru, ap_bNot, ap_bAnd, ap_bOr, ap_vAnd, ap_vOr, ap_vNot, ap_vIsi, ap_vIsi2, ap_evR0, ap_evR1, ap_evA0, ap_evA1, ap_evO0, ap_evO1, ap_oApp, ap_sSetIx, ap_mCall, ap_iVal, ap_iOp, ap_iPr, ap_oLc, ap_oLc2, ap_pNo, ap_pSome, ap_oSl, ap_rB, ap_vVar, ap_oMove, ap_aR, ap_gNm, ap_gTp, ap_gAll0, ap_gAll1, look_d, look_s, ap_looks0, ap_looks1, ap_conts0, ap_conts1, alook_d, alook_o, alook_r, own0, own_d, own_o, own_r, ifF, seqF, asgG, asgF, retF, expF, ret1, opH, opG, opF, tupG, tupF, lstG, lstF, boF, truH, truG, truF, andF, orF, vandG, vandF, vorG, vorF, notG, notH, notF, isG, isF, isTy2, isF2, evRG, evRF, evAG, evAF, evOG, evOF, chG, chAt, appF, gate, setL, setF3, setF2, setF1, callI, callH, callG, callF, itG, iopG, iopF, iprF, ivF, slI, slH, slG, slF, psF, parG, runG, runF, gaF, lkG, cnG, dsOf, outsOf, setAll, truthD, O.toD, O.isVal, dropRefs, setRefs, ownL, isTy, wS, v_gt, v_lt, v_le, v_ge, v_eq, v_ne, v_eqB, v_neB, v_add, v_sub, v_int, v_intB, v_abs, v_lenL, v_lenT, v_tupL, v_tupT, v_listL, v_ixL, v_ixT, v_setL, v_isN, PyData.isList, PyData.isTuple, v_eqN, v_eqS, PyData.isBool, PyData.isStr, PyData.isInt, isNone, tYs, ap_oOr, oorG, oorF]
        · simp [bK_some, frzF, frzG, fz_val, fz_lst, lkS, oorE, isE, nd, ap_runDef, ap_sSeq, ap_sAsg, ap_sIf, ap_vIf, ap_oIf, ap_sRet, ap_sExp, ap_sNx, ap_sFor, ap_sPar, ap_mOp, ap_rV, ap_frz, ap_rO, ap_oV, ap_aV, ap_aO, ap_vCon, ap_vTup, ap_oLst, ap_mBo, ap_mTru, ap_bNot, ap_bAnd, ap_bOr, ap_vAnd, ap_vOr, ap_vNot, ap_vIsi, ap_vIsi2, ap_evR0, ap_evR1, ap_evA0, ap_evA1, ap_evO0, ap_evO1, ap_oApp, ap_sSetIx, ap_mCall, ap_iVal, ap_iOp, ap_iPr, ap_oLc, ap_oLc2, ap_pNo, ap_pSome, ap_oSl, ap_rB, ap_vVar, ap_oMove, ap_aR, ap_gNm, ap_gTp, ap_gAll0, ap_gAll1, look_d, look_s, ap_looks0, ap_looks1, ap_conts0, ap_conts1, alook_d, alook_o, alook_r, own0, own_d, own_o, own_r, ifF, seqF, asgG, asgF, retF, expF, ret1, opH, opG, opF, tupG, tupF, lstG, lstF, boF, truH, truG, truF, andF, orF, vandG, vandF, vorG, vorF, notG, notH, notF, isG, isF, isTy2, isF2, evRG, evRF, evAG, evAF, evOG, evOF, chG, chAt, appF, gate, setL, setF3, setF2, setF1, callI, callH, callG, callF, itG, iopG, iopF, iprF, ivF, slI, slH, slG, slF, psF, parG, runG, runF, gaF, lkG, cnG, dsOf, outsOf, setAll, truthD, O.toD, O.isVal, dropRefs, setRefs, ownL, isTy, wS, v_gt, v_lt, v_le, v_ge, v_eq, v_ne, v_eqB, v_neB, v_add, v_sub, v_int, v_intB, v_abs, v_lenL, v_lenT, v_tupL, v_tupT, v_listL, v_ixL, v_ixT, v_setL, v_isN, PyData.isList, PyData.isTuple, v_eqN, v_eqS, PyData.isBool, PyData.isStr, PyData.isInt, isNone, tYs, ap_oOr, oorG, oorF, hc]) (ds.map fun x => .tuple [x, x]) _ ⟨rfl, fun x hx => by
          obtain ⟨y, hy, rfl⟩ := List.mem_map.mp hx
          exact ⟨y, rfl, hl y hy⟩⟩
      rw [e1, e2.1, e3.map, List.map_map]
      refine (if_pos (by rw [List.length_map]; exact line_of hn)).trans ?_
      rfl
    have ta : ∀ ds : List D, gAll [.list (ds.map fun _ => PyData.bool true)] = some (.val (.bool true)) := fun ds => v_all _ fun d hd => by
      obtain ⟨_, _, rfl⟩ := List.mem_map.mp hd
      rfl
    rw [e_22 n]
    have seqL : ∀ ds : List D, o1.toD = .list ds → o2.toD = .list ds → ds.length ≤ 1000 → (∀ x ∈ ds, Lv n x) → runDef 4 2 (m11 (C n)) [o1, o2] = some (.val (.bool true), [.val (.list ds), .val (.list ds)]) := fun ds h1 h2 hn hl => by
      have q := go (.list ds) ds hn hl
      simp [m11, bK_some, frzF, frzG, fz_val, fz_lst, lkS, oorE, isE, nd, ap_runDef, ap_sSeq, ap_sAsg, ap_sIf, ap_vIf, ap_oIf, ap_sRet, ap_sExp, ap_sNx, ap_sFor, ap_sPar, ap_mOp, ap_rV, ap_frz, ap_rO, ap_oV, ap_aV, ap_aO, ap_vCon, ap_vTup, ap_oLst, ap_mBo, ap_mTru, ap_bNot, ap_bAnd, ap_bOr, ap_vAnd, ap_vOr, ap_vNot, ap_vIsi, ap_vIsi2, ap_evR0, ap_evR1, ap_evA0, ap_evA1, ap_evO0, ap_evO1, ap_oApp, ap_sSetIx, ap_mCall, ap_iVal, ap_iOp, ap_iPr, ap_oLc, ap_oLc2, ap_pNo, ap_pSome, ap_oSl, ap_rB, ap_vVar, ap_oMove, ap_aR, ap_gNm, ap_gTp, ap_gAll0, ap_gAll1, look_d, look_s, ap_looks0, ap_looks1, ap_conts0, ap_conts1, alook_d, alook_o, alook_r, own0, own_d, own_o, own_r, ifF, seqF, asgG, asgF, retF, expF, ret1, opH, opG, opF, tupG, tupF, lstG, lstF, boF, truH, truG, truF, andF, orF, vandG, vandF, vorG, vorF, notG, notH, notF, isG, isF, isTy2, isF2, evRG, evRF, evAG, evAF, evOG, evOF, chG, chAt, appF, gate, setL, setF3, setF2, setF1, callI, callH, callG, callF, itG, iopG, iopF, iprF, ivF, slI, slH, slG, slF, psF, parG, runG, runF, gaF, lkG, cnG, dsOf, outsOf, setAll, truthD, dropRefs, setRefs, ownL, isTy, wS, v_gt, v_lt, v_le, v_ge, v_eq, v_ne, v_eqB, v_neB, v_add, v_sub, v_int, v_intB, v_abs, v_lenL, v_lenT, v_tupL, v_tupT, v_listL, v_ixL, v_ixT, v_setL, v_isN, PyData.isList, PyData.isTuple, v_eqN, v_eqS, PyData.isBool, PyData.isStr, PyData.isInt, isNone, tYs, ap_oOr, oorG, oorF, toD_val, toD_lst, dsOf, gZip, lcF, h1, h2, fz_of h1 rfl, fz_of h2 rfl, q, ta, O.isVal]
    have seqT : ∀ ds : List D, o1.toD = .tuple ds → o2.toD = .tuple ds → ds.length ≤ 1000 → (∀ x ∈ ds, Lv n x) → runDef 4 2 (m11 (C n)) [o1, o2] = some (.val (.bool true), [.val (.tuple ds), .val (.tuple ds)]) := fun ds h1 h2 hn hl => by
      have q := go (.tuple ds) ds hn hl
      simp [m11, bK_some, frzF, frzG, fz_val, fz_lst, lkS, oorE, isE, nd, ap_runDef, ap_sSeq, ap_sAsg, ap_sIf, ap_vIf, ap_oIf, ap_sRet, ap_sExp, ap_sNx, ap_sFor, ap_sPar, ap_mOp, ap_rV, ap_frz, ap_rO, ap_oV, ap_aV, ap_aO, ap_vCon, ap_vTup, ap_oLst, ap_mBo, ap_mTru, ap_bNot, ap_bAnd, ap_bOr, ap_vAnd, ap_vOr, ap_vNot, ap_vIsi, ap_vIsi2, ap_evR0, ap_evR1, ap_evA0, ap_evA1, ap_evO0, ap_evO1, ap_oApp, ap_sSetIx, ap_mCall, ap_iVal, ap_iOp, ap_iPr, ap_oLc, ap_oLc2, ap_pNo, ap_pSome, ap_oSl, ap_rB, ap_vVar, ap_oMove, ap_aR, ap_gNm, ap_gTp, ap_gAll0, ap_gAll1, look_d, look_s, ap_looks0, ap_looks1, ap_conts0, ap_conts1, alook_d, alook_o, alook_r, own0, own_d, own_o, own_r, ifF, seqF, asgG, asgF, retF, expF, ret1, opH, opG, opF, tupG, tupF, lstG, lstF, boF, truH, truG, truF, andF, orF, vandG, vandF, vorG, vorF, notG, notH, notF, isG, isF, isTy2, isF2, evRG, evRF, evAG, evAF, evOG, evOF, chG, chAt, appF, gate, setL, setF3, setF2, setF1, callI, callH, callG, callF, itG, iopG, iopF, iprF, ivF, slI, slH, slG, slF, psF, parG, runG, runF, gaF, lkG, cnG, dsOf, outsOf, setAll, truthD, dropRefs, setRefs, ownL, isTy, wS, v_gt, v_lt, v_le, v_ge, v_eq, v_ne, v_eqB, v_neB, v_add, v_sub, v_int, v_intB, v_abs, v_lenL, v_lenT, v_tupL, v_tupT, v_listL, v_ixL, v_ixT, v_setL, v_isN, PyData.isList, PyData.isTuple, v_eqN, v_eqS, PyData.isBool, PyData.isStr, PyData.isInt, isNone, tYs, ap_oOr, oorG, oorF, toD_val, toD_lst, dsOf, gZip, lcF, h1, h2, fz_of h1 rfl, fz_of h2 rfl, q, ta, O.isVal]
    cases o2 with
    | dct kvs => exact h.elim
    | obj a b => exact h.elim
    | hole => exact h.elim
    | lst ds =>
      have h1 : o1.toD = .list ds := he
      exact seqL ds h1 rfl h.1 h.2
    | val d =>
      cases d with
      | list ds =>
        have h1 : o1.toD = .list ds := he
        exact seqL ds h1 rfl h.1 h.2
      | tuple ds =>
        have h1 : o1.toD = .tuple ds := he
        exact seqT ds h1 rfl h.1 h.2
      | none =>
        cases o1 with
        | lst xs => cases he
        | dct kvs => cases he
        | obj a b => cases he
        | hole => cases he
        | val d =>
          cases (show d = .none from he)
          simp [m11, bK_some, frzF, frzG, fz_val, fz_lst, lkS, oorE, isE, nd, ap_runDef, ap_sSeq, ap_sAsg, ap_sIf, ap_vIf, ap_oIf, ap_sRet, ap_sExp, ap_sNx, ap_sFor, ap_sPar, ap_mOp, ap_rV, ap_frz, ap_rO, ap_oV, ap_aV, ap_aO, ap_vCon, ap_vTup, ap_oLst, ap_mBo, ap_mTru, ap_bNot, ap_bAnd, ap_bOr, ap_vAnd, ap_vOr, ap_vNot, ap_vIsi, ap_vIsi2, ap_evR0, ap_evR1, ap_evA0, ap_evA1, ap_evO0, ap_evO1, ap_oApp, ap_sSetIx, ap_mCall, ap_iVal, ap_iOp, ap_iPr, ap_oLc, ap_oLc2, ap_pNo, ap_pSome, ap_oSl, ap_rB, ap_vVar, ap_oMove, ap_aR, ap_gNm, ap_gTp, ap_gAll0, ap_gAll1, look_d, look_s, ap_looks0, ap_looks1, ap_conts0, ap_conts1, alook_d, alook_o, alook_r, own0, own_d, own_o, own_r, ifF, seqF, asgG, asgF, retF, expF, ret1, opH, opG, opF, tupG, tupF, lstG, lstF, boF, truH, truG, truF, andF, orF, vandG, vandF, vorG, vorF, notG, notH, notF, isG, isF, isTy2, isF2, evRG, evRF, evAG, evAF, evOG, evOF, chG, chAt, appF, gate, setL, setF3, setF2, setF1, callI, callH, callG, callF, itG, iopG, iopF, iprF, ivF, slI, slH, slG, slF, psF, parG, runG, runF, gaF, lkG, cnG, dsOf, outsOf, setAll, truthD, O.toD, O.isVal, dropRefs, setRefs, ownL, isTy, wS, v_gt, v_lt, v_le, v_ge, v_eq, v_ne, v_eqB, v_neB, v_add, v_sub, v_int, v_intB, v_abs, v_lenL, v_lenT, v_tupL, v_tupT, v_listL, v_ixL, v_ixT, v_setL, v_isN, PyData.isList, PyData.isTuple, v_eqN, v_eqS, PyData.isBool, PyData.isStr, PyData.isInt, isNone, tYs, ap_oOr, oorG, oorF]
      | bool b =>
        cases o1 with
        | lst xs => cases he
        | dct kvs => cases he
        | obj a b => cases he
        | hole => cases he
        | val d =>
          cases (show d = .bool b from he)
          simp [m11, bK_some, frzF, frzG, fz_val, fz_lst, lkS, oorE, isE, nd, ap_runDef, ap_sSeq, ap_sAsg, ap_sIf, ap_vIf, ap_oIf, ap_sRet, ap_sExp, ap_sNx, ap_sFor, ap_sPar, ap_mOp, ap_rV, ap_frz, ap_rO, ap_oV, ap_aV, ap_aO, ap_vCon, ap_vTup, ap_oLst, ap_mBo, ap_mTru, ap_bNot, ap_bAnd, ap_bOr, ap_vAnd, ap_vOr, ap_vNot, ap_vIsi, ap_vIsi2, ap_evR0, ap_evR1, ap_evA0, ap_evA1, ap_evO0, ap_evO1, ap_oApp, ap_sSetIx, ap_mCall, ap_iVal, ap_iOp, ap_iPr, ap_oLc, ap_oLc2, ap_pNo, ap_pSome, ap_oSl, ap_rB, ap_vVar, ap_oMove, ap_aR, ap_gNm, ap_gTp, ap_gAll0, ap_gAll1, look_d, look_s, ap_looks0, ap_looks1, ap_conts0, ap_conts1, alook_d, alook_o, alook_r, own0, own_d, own_o, own_r, ifF, seqF, asgG, asgF, retF, expF, ret1, opH, opG, opF, tupG, tupF, lstG, lstF, boF, truH, truG, truF, andF, orF, vandG, vandF, vorG, vorF, notG, notH, notF, isG, isF, isTy2, isF2, evRG, evRF, evAG, evAF, evOG, evOF, chG, chAt, appF, gate, setL, setF3, setF2, setF1, callI, callH, callG, callF, itG, iopG, iopF, iprF, ivF, slI, slH, slG, slF, psF, parG, runG, runF, gaF, lkG, cnG, dsOf, outsOf, setAll, truthD, O.toD, O.isVal, dropRefs, setRefs, ownL, isTy, wS, v_gt, v_lt, v_le, v_ge, v_eq, v_ne, v_eqB, v_neB, v_add, v_sub, v_int, v_intB, v_abs, v_lenL, v_lenT, v_tupL, v_tupT, v_listL, v_ixL, v_ixT, v_setL, v_isN, PyData.isList, PyData.isTuple, v_eqN, v_eqS, PyData.isBool, PyData.isStr, PyData.isInt, isNone, tYs, ap_oOr, oorG, oorF]
      | int i =>
        cases o1 with
        | lst xs => cases he
        | dct kvs => cases he
        | obj a b => cases he
        | hole => cases he
        | val d =>
          cases (show d = .int i from he)
          simp [m11, bK_some, frzF, frzG, fz_val, fz_lst, lkS, oorE, isE, nd, ap_runDef, ap_sSeq, ap_sAsg, ap_sIf, ap_vIf, ap_oIf, ap_sRet, ap_sExp, ap_sNx, ap_sFor, ap_sPar, ap_mOp, ap_rV, ap_frz, ap_rO, ap_oV, ap_aV, ap_aO, ap_vCon, ap_vTup, ap_oLst, ap_mBo, ap_mTru, ap_bNot, ap_bAnd, ap_bOr, ap_vAnd, ap_vOr, ap_vNot, ap_vIsi, ap_vIsi2, ap_evR0, ap_evR1, ap_evA0, ap_evA1, ap_evO0, ap_evO1, ap_oApp, ap_sSetIx, ap_mCall, ap_iVal, ap_iOp, ap_iPr, ap_oLc, ap_oLc2, ap_pNo, ap_pSome, ap_oSl, ap_rB, ap_vVar, ap_oMove, ap_aR, ap_gNm, ap_gTp, ap_gAll0, ap_gAll1, look_d, look_s, ap_looks0, ap_looks1, ap_conts0, ap_conts1, alook_d, alook_o, alook_r, own0, own_d, own_o, own_r, ifF, seqF, asgG, asgF, retF, expF, ret1, opH, opG, opF, tupG, tupF, lstG, lstF, boF, truH, truG, truF, andF, orF, vandG, vandF, vorG, vorF, notG, notH, notF, isG, isF, isTy2, isF2, evRG, evRF, evAG, evAF, evOG, evOF, chG, chAt, appF, gate, setL, setF3, setF2, setF1, callI, callH, callG, callF, itG, iopG, iopF, iprF, ivF, slI, slH, slG, slF, psF, parG, runG, runF, gaF, lkG, cnG, dsOf, outsOf, setAll, truthD, O.toD, O.isVal, dropRefs, setRefs, ownL, isTy, wS, v_gt, v_lt, v_le, v_ge, v_eq, v_ne, v_eqB, v_neB, v_add, v_sub, v_int, v_intB, v_abs, v_lenL, v_lenT, v_tupL, v_tupT, v_listL, v_ixL, v_ixT, v_setL, v_isN, PyData.isList, PyData.isTuple, v_eqN, v_eqS, PyData.isBool, PyData.isStr, PyData.isInt, isNone, tYs, ap_oOr, oorG, oorF]
      | str x =>
        cases o1 with
        | lst xs => cases he
        | dct kvs => cases he
        | obj a b => cases he
        | hole => cases he
        | val d =>
          cases (show d = .str x from he)
          simp [m11, bK_some, frzF, frzG, fz_val, fz_lst, lkS, oorE, isE, nd, ap_runDef, ap_sSeq, ap_sAsg, ap_sIf, ap_vIf, ap_oIf, ap_sRet, ap_sExp, ap_sNx, ap_sFor, ap_sPar, ap_mOp, ap_rV, ap_frz, ap_rO, ap_oV, ap_aV, ap_aO, ap_vCon, ap_vTup, ap_oLst, ap_mBo, ap_mTru, ap_bNot, ap_bAnd, ap_bOr, ap_vAnd, ap_vOr, ap_vNot, ap_vIsi, ap_vIsi2, ap_evR0, ap_evR1, ap_evA0, ap_evA1, ap_evO0, ap_evO1, ap_oApp, ap_sSetIx, ap_mCall, ap_iVal, ap_iOp, ap_iPr, ap_oLc, ap_oLc2, ap_pNo, ap_pSome, ap_oSl, ap_rB, ap_vVar, ap_oMove, ap_aR, ap_gNm, ap_gTp, ap_gAll0, ap_gAll1, look_d, look_s, ap_looks0, ap_looks1, ap_conts0, ap_conts1, alook_d, alook_o, alook_r, own0, own_d, own_o, own_r, ifF, seqF, asgG, asgF, retF, expF, ret1, opH, opG, opF, tupG, tupF, lstG, lstF, boF, truH, truG, truF, andF, orF, vandG, vandF, vorG, vorF, notG, notH, notF, isG, isF, isTy2, isF2, evRG, evRF, evAG, evAF, evOG, evOF, chG, chAt, appF, gate, setL, setF3, setF2, setF1, callI, callH, callG, callF, itG, iopG, iopF, iprF, ivF, slI, slH, slG, slF, psF, parG, runG, runF, gaF, lkG, cnG, dsOf, outsOf, setAll, truthD, O.toD, O.isVal, dropRefs, setRefs, ownL, isTy, wS, v_gt, v_lt, v_le, v_ge, v_eq, v_ne, v_eqB, v_neB, v_add, v_sub, v_int, v_intB, v_abs, v_lenL, v_lenT, v_tupL, v_tupT, v_listL, v_ixL, v_ixT, v_setL, v_isN, PyData.isList, PyData.isTuple, v_eqN, v_eqS, PyData.isBool, PyData.isStr, PyData.isInt, isNone, tYs, ap_oOr, oorG, oorF]
      | dict kvs => exact h.elim
end Dv.G

namespace Dv.G
open PySem PySem.Spec PyProof.Rows L2
def OfOk (f : FD) : Prop := ∀ (m : Nat) (u : O) (xs : List D), Urn (m + 1) u → xs ≠ [] → xs.length ≤ 1000 → ∃ d u', Urn m u' ∧ d ∈ xs ∧ f [u, .lst xs] = some (.val d, [u', .lst xs])
theorem of_ok {c : Nat → FD} (tk : TakeOk (c 8)) : OfOk (runDef 2 2 (m10 c)) := fun m u xs hu hx hl => by
  have h0 : 0 < xs.length := List.length_pos_iff.mpr hx
  obtain ⟨r, u', hu', hr, r0, r1⟩ := tk m u xs.length hu (by omega) (by omega)
  obtain ⟨d, e1, e2⟩ := at_lt r0 r1
  refine ⟨d, u', hu', e2, ?_⟩
  obtain ⟨a, b, n, rfl, _, _⟩ := hu
  obtain ⟨a', b', n', rfl, _, _⟩ := hu'
  simp [m10, bK_some, frzF, frzG, fz_val, fz_lst, lkS, oorE, isE, nd, ap_runDef, ap_sSeq, ap_sAsg, ap_sIf, ap_vIf, ap_oIf, ap_sRet, ap_sExp, ap_sNx, ap_sFor, ap_sPar, ap_mOp, ap_rV, ap_frz, ap_rO, ap_oV, ap_aV, ap_aO, ap_vCon, ap_vTup, ap_oLst, ap_mBo, ap_mTru, ap_bNot, ap_bAnd, ap_bOr, ap_vAnd, ap_vOr, ap_vNot, ap_vIsi, ap_vIsi2, ap_evR0, ap_evR1, ap_evA0, ap_evA1, ap_evO0, ap_evO1, ap_oApp, ap_sSetIx, ap_mCall, ap_iVal, ap_iOp, ap_iPr, ap_oLc, ap_oLc2, ap_pNo, ap_pSome, ap_oSl, ap_rB, ap_vVar, ap_oMove, ap_aR, ap_gNm, ap_gTp, ap_gAll0, ap_gAll1, look_d, look_s, ap_looks0, ap_looks1, ap_conts0, ap_conts1, alook_d, alook_o, alook_r, own0, own_d, own_o, own_r, ifF, seqF, asgG, asgF, retF, expF, ret1, opH, opG, opF, tupG, tupF, lstG, lstF, boF, truH, truG, truF, andF, orF, vandG, vandF, vorG, vorF, notG, notH, notF, isG, isF, isTy2, isF2, evRG, evRF, evAG, evAF, evOG, evOF, chG, chAt, appF, gate, setL, setF3, setF2, setF1, callI, callH, callG, callF, itG, iopG, iopF, iprF, ivF, slI, slH, slG, slF, psF, parG, runG, runF, gaF, lkG, cnG, dsOf, outsOf, setAll, truthD, O.toD, O.isVal, dropRefs, setRefs, ownL, isTy, wS, v_gt, v_lt, v_le, v_ge, v_eq, v_ne, v_eqB, v_neB, v_add, v_sub, v_int, v_intB, v_abs, v_lenL, v_lenT, v_tupL, v_tupT, v_listL, v_ixL, v_ixT, v_setL, v_isN, PyData.isList, PyData.isTuple, v_eqN, v_eqS, PyData.isBool, PyData.isStr, PyData.isInt, isNone, tYs, ap_oOr, oorG, oorF, hr, e1]
def StrOk (f : FD) : Prop := ∀ (m : Nat) (u : O) (top : Int), Urn (m + 2) u → 0 ≤ top → top < 2 ^ 50 → ∃ a b u', Urn m u' ∧ f [u, .val (.int top)] = some (.val (.tuple [.int a, .int b]), [u', .val (.int top)]) ∧ 0 ≤ a ∧ a ≤ top ∧ 0 ≤ b ∧ b ≤ top
theorem str_ok {c : Nat → FD} (tk : TakeOk (c 8)) : StrOk (runDef 3 2 (m13 c)) := fun m u top hu h0 h1 => by
  obtain ⟨r, u1, hu1, hr, r0, r1⟩ := tk (m + 1) u (top + 1) hu (by omega) (by omega)
  obtain ⟨q, u2, hu2, hq, q0, q1⟩ := tk m u1 (top + 1 - r) hu1 (by omega) (by omega)
  refine ⟨r, r + q, u2, hu2, ?_, by omega, by omega, by omega, by omega⟩
  obtain ⟨a, b, n, rfl, _, _⟩ := hu
  obtain ⟨a', b', n', rfl, _, _⟩ := hu1
  obtain ⟨a2, b2, n2, rfl, _, _⟩ := hu2
  simp [m13, bK_some, frzF, frzG, fz_val, fz_lst, lkS, oorE, isE, nd, ap_runDef, ap_sSeq, ap_sAsg, ap_sIf, ap_vIf, ap_oIf, ap_sRet, ap_sExp, ap_sNx, ap_sFor, ap_sPar, ap_mOp, ap_rV, ap_frz, ap_rO, ap_oV, ap_aV, ap_aO, ap_vCon, ap_vTup, ap_oLst, ap_mBo, ap_mTru, ap_bNot, ap_bAnd, ap_bOr, ap_vAnd, ap_vOr, ap_vNot, ap_vIsi, ap_vIsi2, ap_evR0, ap_evR1, ap_evA0, ap_evA1, ap_evO0, ap_evO1, ap_oApp, ap_sSetIx, ap_mCall, ap_iVal, ap_iOp, ap_iPr, ap_oLc, ap_oLc2, ap_pNo, ap_pSome, ap_oSl, ap_rB, ap_vVar, ap_oMove, ap_aR, ap_gNm, ap_gTp, ap_gAll0, ap_gAll1, look_d, look_s, ap_looks0, ap_looks1, ap_conts0, ap_conts1, alook_d, alook_o, alook_r, own0, own_d, own_o, own_r, ifF, seqF, asgG, asgF, retF, expF, ret1, opH, opG, opF, tupG, tupF, lstG, lstF, boF, truH, truG, truF, andF, orF, vandG, vandF, vorG, vorF, notG, notH, notF, isG, isF, isTy2, isF2, evRG, evRF, evAG, evAF, evOG, evOF, chG, chAt, appF, gate, setL, setF3, setF2, setF1, callI, callH, callG, callF, itG, iopG, iopF, iprF, ivF, slI, slH, slG, slF, psF, parG, runG, runF, gaF, lkG, cnG, dsOf, outsOf, setAll, truthD, O.toD, O.isVal, dropRefs, setRefs, ownL, isTy, wS, v_gt, v_lt, v_le, v_ge, v_eq, v_ne, v_eqB, v_neB, v_add, v_sub, v_int, v_intB, v_abs, v_lenL, v_lenT, v_tupL, v_tupT, v_listL, v_ixL, v_ixT, v_setL, v_isN, PyData.isList, PyData.isTuple, v_eqN, v_eqS, PyData.isBool, PyData.isStr, PyData.isInt, isNone, tYs, ap_oOr, oorG, oorF, hr, hq]
def BoxOk (f : FD) : Prop := ∀ (ns : List Int) (k : Nat), k < ns.length → ns.length ≤ 1000 → ∃ u, Urn (2 ^ 59) u ∧ f [.lst (ns.map PyData.int), .val (.int k)] = some (u, [.lst (ns.map PyData.int), .val (.int k)])
theorem box_ok {c : Nat → FD} : BoxOk (runDef 3 2 (m7 c)) := fun ns k hk hl => by
  have e1 : atI (ns.map PyData.int) (k : Int) = some (.int ns[k]) := at_nat (n := k) rfl (by rw [List.getElem?_map, List.getElem?_eq_getElem hk]; rfl)
  have e2 : ∀ x : Int, gMod [.int x, .int 2305843009213693951] = some (.val (.int (x % 2305843009213693951))) := fun x => v_mod _ _ (by decide)
  have e3 : ∀ x : Int, gMul [.int 39373, .int x] = some (.val (.int (39373 * x))) := fun x => v_mul _ _ (.inl (by decide))
  have e4 : gPow [.int 10, .int 18] = some (.val (.int 1000000000000000000)) := (if_pos (e := (none : Option O)) (show (0 : Int) ≤ 18 ∧ (18 : Int) ≤ 1000000 ∧ (10 : Int).natAbs < 2 ^ 64 by decide)).trans rfl
  have e5 : ∀ (x : Int) (p : Prop) [Decidable p], gMul [.int x, .int (if p then 1 else 0)] = some (.val (.int (x * (if p then 1 else 0)))) := fun x p _ => v_mul _ _ (.inr (by split <;> decide))
  have hk2 : decide ((k : Int) < (ns.length : Int)) = true := decide_eq_true (by omega)
  refine ⟨.lst [.int ((if ns[k] < 0 then -ns[k] else ns[k]) * (if decide (1000000000000000000 ≤ (if ns[k] < 0 then -ns[k] else ns[k])) then 1 else 0)), .int (ns[k] % 2305843009213693951 + 39373 * k + 712), .int 0], ⟨_, _, 0, rfl, by omega, by omega⟩, ?_⟩
  simp [m7, bK_some, frzF, frzG, fz_val, fz_lst, lkS, oorE, isE, nd, ap_runDef, ap_sSeq, ap_sAsg, ap_sIf, ap_vIf, ap_oIf, ap_sRet, ap_sExp, ap_sNx, ap_sFor, ap_sPar, ap_mOp, ap_rV, ap_frz, ap_rO, ap_oV, ap_aV, ap_aO, ap_vCon, ap_vTup, ap_oLst, ap_mBo, ap_mTru, ap_bNot, ap_bAnd, ap_bOr, ap_vAnd, ap_vOr, ap_vNot, ap_vIsi, ap_vIsi2, ap_evR0, ap_evR1, ap_evA0, ap_evA1, ap_evO0, ap_evO1, ap_oApp, ap_sSetIx, ap_mCall, ap_iVal, ap_iOp, ap_iPr, ap_oLc, ap_oLc2, ap_pNo, ap_pSome, ap_oSl, ap_rB, ap_vVar, ap_oMove, ap_aR, ap_gNm, ap_gTp, ap_gAll0, ap_gAll1, look_d, look_s, ap_looks0, ap_looks1, ap_conts0, ap_conts1, alook_d, alook_o, alook_r, own0, own_d, own_o, own_r, ifF, seqF, asgG, asgF, retF, expF, ret1, opH, opG, opF, tupG, tupF, lstG, lstF, boF, truH, truG, truF, andF, orF, vandG, vandF, vorG, vorF, notG, notH, notF, isG, isF, isTy2, isF2, evRG, evRF, evAG, evAF, evOG, evOF, chG, chAt, appF, gate, setL, setF3, setF2, setF1, callI, callH, callG, callF, itG, iopG, iopF, iprF, ivF, slI, slH, slG, slF, psF, parG, runG, runF, gaF, lkG, cnG, dsOf, outsOf, setAll, truthD, O.toD, O.isVal, dropRefs, setRefs, ownL, isTy, wS, v_gt, v_lt, v_le, v_ge, v_eq, v_ne, v_eqB, v_neB, v_add, v_sub, v_int, v_intB, v_abs, v_lenL, v_lenT, v_tupL, v_tupT, v_listL, v_ixL, v_ixT, v_setL, v_isN, PyData.isList, PyData.isTuple, v_eqN, v_eqS, PyData.isBool, PyData.isStr, PyData.isInt, isNone, tYs, ap_oOr, oorG, oorF, hk2, hk, e1, e2, e3, e4, e5]
end Dv.G

namespace Dv.G
open PySem PySem.Spec PyProof.Rows L2
def CellsOk (f : FD) : Prop := ∀ ns : List Int, ns.length ≤ 63 → ∃ cs : List Int, cs ≠ [] ∧ cs.length ≤ 3 ∧ f [.val (.list (ns.map PyData.int)), .val (.int 3)] = some (.lst (cs.map PyData.int), [.val (.list (ns.map PyData.int)), .val (.int 3)])
theorem cells_ok {c : Nat → FD} : CellsOk (runDef 6 2 (m9 c)) := fun ns hl => by
  have w1 : ∀ xs : List D, cutG xs none (some 3) = xs.take 3 := fun xs => cut_to xs 3
  have w2 : ∀ xs : List D, cutG xs (some 3) (some 63) = (xs.drop 3).take 60 := fun xs => cut_of xs 3 63
  -- the loop
  have loop : ∀ (ds : List D) (cs : List Int) (x : D), (∀ d ∈ ds, ∃ (i : Nat) (y : Int), i ≤ 1000 ∧ d = .tuple [.int i, .int y]) → (ds ≠ [] → cs.length = 3) → ∃ (cs' : List Int) (a b e : Option O), forGo (gTp [gNm 3, gNm 4]) (sSeq (sAsg (gNm 5) (mOp gMod [rO (mOp gInt [rB 3]), rB 1])) (sSetIx 2 (vVar 5) (frz (mOp gAdd [rO (mOp gIx [rB 2, rB 5]), rO (mOp gMul [rB 4, rO (mOp gAdd [rB 3, rV (vCon (.int 2))])])])))) ds
      [some (.val x), some (.val (.int 3)), some (.lst (cs.map PyData.int)), none, none, none] = some (.nx, [some (.val x), some (.val (.int 3)), some (.lst (cs'.map PyData.int)), a, b, e]) ∧ cs'.length = cs.length := fun ds cs x hd h3 => by
    obtain ⟨s', e1, cs', a, b, e, es, el, _⟩ := forGo_inv (g := gTp [gNm 3, gNm 4]) (b := sSeq (sAsg (gNm 5) (mOp gMod [rO (mOp gInt [rB 3]), rB 1])) (sSetIx 2 (vVar 5) (frz (mOp gAdd [rO (mOp gIx [rB 2, rB 5]), rO (mOp gMul [rB 4, rO (mOp gAdd [rB 3, rV (vCon (.int 2))])])])))) (fun ds s => ∃ (cs' : List Int) (a b e : Option O), s = [some (.val x), some (.val (.int 3)), some (.lst (cs'.map PyData.int)), a, b, e] ∧ cs'.length = cs.length ∧ (ds ≠ [] → cs'.length = 3) ∧ ∀ d ∈ ds, ∃ (i : Nat) (y : Int), i ≤ 1000 ∧ d = .tuple [.int i, .int y])
      (fun d ds s ⟨cs', a, b, e, es, el, h3, hd⟩ => by
        subst es
        obtain ⟨i, y, hi, rfl⟩ := hd d List.mem_cons_self
        have l3 := h3 (List.cons_ne_nil _ _)
        have j0 : (0 : Int) ≤ (i : Int) % 3 := Int.emod_nonneg _ (by decide)
        have j1 : (i : Int) % 3 < 3 := Int.emod_lt_of_pos _ (by decide)
        obtain ⟨j, hj⟩ : ∃ j : Nat, (i : Int) % 3 = j := ⟨((i : Int) % 3).toNat, by omega⟩
        have hjl : j < cs'.length := by omega
        have f1 : gMod [.int i, .int 3] = some (.val (.int j)) := by rw [v_mod _ _ (by decide), hj]
        have f2 : atI (cs'.map PyData.int) (j : Int) = some (.int cs'[j]) := at_nat (n := j) rfl (by rw [List.getElem?_map, List.getElem?_eq_getElem hjl]; rfl)
        have f3 : ixN (cs'.map PyData.int).length (j : Int) = some j := by
          unfold ixN
          rw [if_pos (by omega), if_pos (by rw [List.length_map]; omega)]
          rfl
        have f4 : gMul [.int y, .int ((i : Int) + 2)] = some (.val (.int (y * ((i : Int) + 2)))) := v_mul _ _ (.inr (by omega))
        have f5 : setL (j : Int) (.int (cs'[j] + y * ((i : Int) + 2))) (cs'.map PyData.int) = some (.val .none, (cs'.set j (cs'[j] + y * ((i : Int) + 2))).map PyData.int) := by
          unfold setL
          rw [f3, Option.map_some, List.map_set]
        refine ⟨[some (.val x), some (.val (.int 3)), some (.lst (cs'.map PyData.int)), some (.val (.int i)), some (.val (.int y)), e], [some (.val x), some (.val (.int 3)), some (.lst ((cs'.set j (cs'[j] + y * ((i : Int) + 2))).map PyData.int)), some (.val (.int i)), some (.val (.int y)), some (.val (.int j))], ?_, ?_, _, _, _, _, rfl, by rw [List.length_set]; exact el, fun _ => by rw [List.length_set]; exact l3, fun d hd' => hd d (List.mem_cons_of_mem _ hd')⟩
        · simp [bK_some, frzF, frzG, fz_val, fz_lst, lkS, oorE, isE, nd, ap_runDef, ap_sSeq, ap_sAsg, ap_sIf, ap_vIf, ap_oIf, ap_sRet, ap_sExp, ap_sNx, ap_sFor, ap_sPar, ap_mOp, ap_rV, ap_frz, ap_rO, ap_oV, ap_aV, ap_aO, ap_vCon, ap_vTup, ap_oLst, ap_mBo, ap_mTru, ap_bNot, ap_bAnd, ap_bOr, ap_vAnd, ap_vOr, ap_vNot, ap_vIsi, ap_vIsi2, ap_evR0, ap_evR1, ap_evA0, ap_evA1, ap_evO0, ap_evO1, ap_oApp, ap_sSetIx, ap_mCall, ap_iVal, ap_iOp, ap_iPr, ap_oLc, ap_oLc2, ap_pNo, ap_pSome, ap_oSl, ap_rB, ap_vVar, ap_oMove, ap_aR, ap_gNm, ap_gTp, ap_gAll0, ap_gAll1, look_d, look_s, ap_looks0, ap_looks1, ap_conts0, ap_conts1, alook_d, alook_o, alook_r, own0, own_d, own_o, own_r, ifF, seqF, asgG, asgF, retF, expF, ret1, opH, opG, opF, tupG, tupF, lstG, lstF, boF, truH, truG, truF, andF, orF, vandG, vandF, vorG, vorF, notG, notH, notF, isG, isF, isTy2, isF2, evRG, evRF, evAG, evAF, evOG, evOF, chG, chAt, appF, gate, setL, setF3, setF2, setF1, callI, callH, callG, callF, itG, iopG, iopF, iprF, ivF, slI, slH, slG, slF, psF, parG, runG, runF, gaF, lkG, cnG, dsOf, outsOf, setAll, truthD, O.toD, O.isVal, dropRefs, setRefs, ownL, isTy, wS, v_gt, v_lt, v_le, v_ge, v_eq, v_ne, v_eqB, v_neB, v_add, v_sub, v_int, v_intB, v_abs, v_lenL, v_lenT, v_tupL, v_tupT, v_listL, v_ixL, v_ixT, v_setL, v_isN, PyData.isList, PyData.isTuple, v_eqN, v_eqS, PyData.isBool, PyData.isStr, PyData.isInt, isNone, tYs, ap_oOr, oorG, oorF]
        · rw [List.length_map] at f3
          simp [bK_some, frzF, frzG, fz_val, fz_lst, lkS, oorE, isE, nd, ap_runDef, ap_sSeq, ap_sAsg, ap_sIf, ap_vIf, ap_oIf, ap_sRet, ap_sExp, ap_sNx, ap_sFor, ap_sPar, ap_mOp, ap_rV, ap_frz, ap_rO, ap_oV, ap_aV, ap_aO, ap_vCon, ap_vTup, ap_oLst, ap_mBo, ap_mTru, ap_bNot, ap_bAnd, ap_bOr, ap_vAnd, ap_vOr, ap_vNot, ap_vIsi, ap_vIsi2, ap_evR0, ap_evR1, ap_evA0, ap_evA1, ap_evO0, ap_evO1, ap_oApp, ap_sSetIx, ap_mCall, ap_iVal, ap_iOp, ap_iPr, ap_oLc, ap_oLc2, ap_pNo, ap_pSome, ap_oSl, ap_rB, ap_vVar, ap_oMove, ap_aR, ap_gNm, ap_gTp, ap_gAll0, ap_gAll1, look_d, look_s, ap_looks0, ap_looks1, ap_conts0, ap_conts1, alook_d, alook_o, alook_r, own0, own_d, own_o, own_r, ifF, seqF, asgG, asgF, retF, expF, ret1, opH, opG, opF, tupG, tupF, lstG, lstF, boF, truH, truG, truF, andF, orF, vandG, vandF, vorG, vorF, notG, notH, notF, isG, isF, isTy2, isF2, evRG, evRF, evAG, evAF, evOG, evOF, chG, chAt, appF, gate, setL, setF3, setF2, setF1, callI, callH, callG, callF, itG, iopG, iopF, iprF, ivF, slI, slH, slG, slF, psF, parG, runG, runF, gaF, lkG, cnG, dsOf, outsOf, setAll, truthD, O.toD, O.isVal, dropRefs, setRefs, ownL, isTy, wS, v_gt, v_lt, v_le, v_ge, v_eq, v_ne, v_eqB, v_neB, v_add, v_sub, v_int, v_intB, v_abs, v_lenL, v_lenT, v_tupL, v_tupT, v_listL, v_ixL, v_ixT, v_isN, PyData.isList, PyData.isTuple, v_eqN, v_eqS, PyData.isBool, PyData.isStr, PyData.isInt, isNone, tYs, ap_oOr, oorG, oorF, f1, f2, f3, f4]) ds _ ⟨cs, none, none, none, rfl, rfl, h3, hd⟩
    exact ⟨cs', a, b, e, by rw [e1, es], el⟩
  have items : ∀ d ∈ enumD 0 ((ns.map PyData.int).drop 3 |>.take 60), ∃ (i : Nat) (y : Int), i ≤ 1000 ∧ d = .tuple [.int i, .int y] := fun d hd => by
    obtain ⟨i, x, hx, _, hi, rfl⟩ := enum_mem hd
    have hx2 := List.mem_of_mem_drop (List.mem_of_mem_take hx)
    obtain ⟨y, _, rfl⟩ := List.mem_map.mp hx2
    rw [List.length_take] at hi
    exact ⟨i, y, by omega, rfl⟩
  by_cases h0 : ns = []
  · subst h0
    exact ⟨[0], by simp, by simp, by simp [m9, bK_some, frzF, frzG, fz_val, fz_lst, lkS, oorE, isE, nd, ap_runDef, ap_sSeq, ap_sAsg, ap_sIf, ap_vIf, ap_oIf, ap_sRet, ap_sExp, ap_sNx, ap_sFor, ap_sPar, ap_mOp, ap_rV, ap_frz, ap_rO, ap_oV, ap_aV, ap_aO, ap_vCon, ap_vTup, ap_oLst, ap_mBo, ap_mTru, ap_bNot, ap_bAnd, ap_bOr, ap_vAnd, ap_vOr, ap_vNot, ap_vIsi, ap_vIsi2, ap_evR0, ap_evR1, ap_evA0, ap_evA1, ap_evO0, ap_evO1, ap_oApp, ap_sSetIx, ap_mCall, ap_iVal, ap_iOp, ap_iPr, ap_oLc, ap_oLc2, ap_pNo, ap_pSome, ap_oSl, ap_rB, ap_vVar, ap_oMove, ap_aR, ap_gNm, ap_gTp, ap_gAll0, ap_gAll1, look_d, look_s, ap_looks0, ap_looks1, ap_conts0, ap_conts1, alook_d, alook_o, alook_r, own0, own_d, own_o, own_r, ifF, seqF, asgG, asgF, retF, expF, ret1, opH, opG, opF, tupG, tupF, lstG, lstF, boF, truH, truG, truF, andF, orF, vandG, vandF, vorG, vorF, notG, notH, notF, isG, isF, isTy2, isF2, evRG, evRF, evAG, evAF, evOG, evOF, chG, chAt, appF, gate, setL, setF3, setF2, setF1, callI, callH, callG, callF, itG, iopG, iopF, iprF, ivF, slI, slH, slG, slF, psF, parG, runG, runF, gaF, lkG, cnG, dsOf, outsOf, setAll, truthD, O.toD, O.isVal, dropRefs, setRefs, ownL, isTy, wS, v_gt, v_lt, v_le, v_ge, v_eq, v_ne, v_eqB, v_neB, v_add, v_sub, v_int, v_intB, v_abs, v_lenL, v_lenT, v_tupL, v_tupT, v_listL, v_ixL, v_ixT, v_setL, v_isN, PyData.isList, PyData.isTuple, v_eqN, v_eqS, PyData.isBool, PyData.isStr, PyData.isInt, isNone, tYs, ap_oOr, oorG, oorF, gSl, w1, w2, dsOf, gEnum, enumD, forGo]⟩
  · have ne : (ns.take 3) ≠ [] := by
      cases ns with
      | nil => exact absurd rfl h0
      | cons a r => simp
    obtain ⟨cs', a, b, e, lp, el⟩ := loop _ (ns.take 3) (.list (ns.map PyData.int)) items fun hne => by
      rw [List.length_take]
      rcases Nat.lt_or_ge ns.length 3 with h | h
      · refine absurd ?_ hne
        rw [List.drop_of_length_le (by rw [List.length_map]; omega)]
        rfl
      · omega
    have et : truthD (.list ((ns.map PyData.int).take 3)) = some true := by
      show some (!((ns.map PyData.int).take 3).isEmpty) = some true
      cases ns with
      | nil => exact absurd rfl h0
      | cons a r => rfl
    rw [List.map_take] at lp
    refine ⟨cs', fun z => ?_, by rw [el, List.length_take]; omega, ?_⟩
    · rw [z] at el
      exact ne (List.eq_nil_of_length_eq_zero el.symm)
    · simp only [m9, frzF, frzG, fz_val, fz_lst, lkS, oorE, isE, nd, ap_runDef, ap_sSeq, ap_sAsg, ap_oOr, ap_mOp, ap_evR1, ap_evR0, ap_rO, ap_frz, ap_oSl]
      simp [bK_some, frzF, frzG, fz_val, fz_lst, lkS, oorE, isE, nd, ap_runDef, ap_sSeq, ap_sAsg, ap_sIf, ap_vIf, ap_oIf, ap_sRet, ap_sExp, ap_sNx, ap_sFor, ap_sPar, ap_mOp, ap_rV, ap_frz, ap_rO, ap_oV, ap_aV, ap_aO, ap_vCon, ap_vTup, ap_oLst, ap_mBo, ap_mTru, ap_bNot, ap_bAnd, ap_bOr, ap_vAnd, ap_vOr, ap_vNot, ap_vIsi, ap_vIsi2, ap_evR0, ap_evR1, ap_evA0, ap_evA1, ap_evO0, ap_evO1, ap_oApp, ap_sSetIx, ap_mCall, ap_iVal, ap_iOp, ap_iPr, ap_oLc, ap_oLc2, ap_pNo, ap_pSome, ap_oSl, ap_rB, ap_vVar, ap_oMove, ap_aR, ap_gNm, ap_gTp, ap_gAll0, ap_gAll1, look_d, look_s, ap_looks0, ap_looks1, ap_conts0, ap_conts1, alook_d, alook_o, alook_r, own0, own_d, own_o, own_r, ifF, seqF, asgG, asgF, retF, expF, ret1, opH, opG, opF, tupG, tupF, lstG, lstF, boF, truH, truG, truF, andF, orF, vandG, vandF, vorG, vorF, notG, notH, notF, isG, isF, isTy2, isF2, evRG, evRF, evAG, evAF, evOG, evOF, chG, chAt, appF, gate, setL, setF3, setF2, setF1, callI, callH, callG, callF, itG, iopG, iopF, iprF, ivF, slI, slH, slG, slF, psF, parG, runG, runF, gaF, lkG, cnG, dsOf, outsOf, setAll, O.toD, O.isVal, dropRefs, setRefs, ownL, isTy, wS, v_gt, v_lt, v_le, v_ge, v_eq, v_ne, v_eqB, v_neB, v_add, v_sub, v_int, v_intB, v_abs, v_lenL, v_lenT, v_tupL, v_tupT, v_listL, v_ixL, v_ixT, v_setL, v_isN, PyData.isList, PyData.isTuple, v_eqN, v_eqS, PyData.isBool, PyData.isStr, PyData.isInt, isNone, tYs, ap_oOr, oorG, oorF, gSl, w1, w2, gEnum, et, lp]
end Dv.G

/-! Names and rows as Lean lists: what the pure combinators compute on them. -/
namespace Dv
open PySem PySem.Spec PyProof.Rows L2
def sD (xs : List Str) : List D := xs.map PyData.str
def nm : D → Str
  | .str x => x
  | _ => ⟨#[]⟩
theorem plain_sD : ∀ xs : List Str, PyData.plainAll (sD xs) = true
  | [] => rfl
  | x :: xs => by
    show PyData.plainAll (.str x :: sD xs) = true
    rw [PyData.plainAll, PyData.plain, plain_sD xs]
    rfl
theorem v_neSS (x y : Str) : gNe [.str x, .str y] = some (.val (.bool (!(x == y)))) := by
  refine (if_pos (e := (none : Option O)) (show flat2 (.str x) (.str y) = true from rfl)).trans ?_
  rw [PyData.eqv]
/-! ### a dict of names to rows of names -/
/-! ### the least of two rows of names -/
/-! ### sorted sets of names -/
/-! ### comprehensions -/
theorem compW_flt {α : Type} {g : MG} {t : WB} {e : WV} {s : S} {i : α → D} (k : α → Bool) (f : α → D) : ∀ {ds : List α}, (∀ d ∈ ds, ∃ s1, g (.val (i d)) s = some s1 ∧ t s1 = some (k d) ∧ (k d = true → e s1 = some (f d))) → compW g t e (ds.map i) s = some ((ds.filter k).map f)
  | [], _ => rfl
  | d :: ds, h => by
    obtain ⟨s1, e1, e2, e3⟩ := h d List.mem_cons_self
    have ih := compW_flt k f (ds := ds) fun x hx => h x (List.mem_cons_of_mem _ hx)
    rw [List.map_cons]
    unfold compW
    rw [e1, Option.bind_some, e2, Option.bind_some]
    cases hk : k d with
    | true =>
      rw [if_pos rfl, e3 hk, Option.bind_some, ih, List.filter_cons_of_pos (by simp [hk])]
      rfl
    | false => rw [if_neg Bool.false_ne_true, ih, List.filter_cons_of_neg (by simp [hk])]
theorem wLc_ok {α : Type} {vs : List Nat} {m : WI} {g : MG} {t : WB} {e : WV} {s : S} {i : α → D} (k : α → Bool) (f : α → D) {ds : List α} (hc : clr vs s = true) (hm : m s = some (ds.map i)) (hl : ds.length ≤ 1000) (h : ∀ d ∈ ds, ∃ s1, g (.val (i d)) s = some s1 ∧ t s1 = some (k d) ∧ (k d = true → e s1 = some (f d))) : wLc vs m g t e s = some (.lst ((ds.filter k).map f)) := by
  unfold wLc
  rw [if_pos hc, hm, Option.bind_some, compW_flt k f h, Option.bind_some]
  exact if_pos (by
    rw [List.length_map]
    exact line_of (Nat.le_trans (List.length_filter_le _ _) hl))
theorem gNm_at {i : Nat} {o : O} {s : S} (h : i < s.length) : gNm i o s = some (s.set i (some o)) := if_pos h
end Dv

/-! Comprehensions with tests that draw; ranges; small tuples put together. (k40 has these in R40J.) -/
namespace Dv
open PySem PySem.Spec PyProof.Rows L2
theorem rng_len (n : Nat) : (rng 0 n).length = n := by
  unfold rng
  rw [List.length_map, List.length_range]
theorem gRng1 {j : Int} (h0 : 0 ≤ j) (h1 : j ≤ 1000) : gRng [.int j] = some (rng 0 j.toNat) := if_pos (by
  unfold inW
  rw [Bool.and_eq_true, decide_eq_true_eq, decide_eq_true_eq]
  omega)
end Dv

/-! sorted(set(..)) of many things of which few are different. -/
namespace Dv
open PySem PySem.Spec PyProof.Rows L2
theorem sort_self {zs : List D} (h : zs.Pairwise fun a b => dLe a b = true) : sortD zs = zs := by
  unfold sortD
  rw [isort_merge dLe_total]
  exact List.mergeSort_of_pairwise h
theorem kin_big {R : D → Prop} {m : Bool} (k : Kin R m) {xs zs : List D} (hx : ∀ d ∈ xs, R d) (hp : zs.Pairwise fun a b => dLe a b = true) (hn : zs.Nodup) (hm : ∀ d, d ∈ zs ↔ d ∈ xs) (few : zs.length < 63) : ssetD xs = some zs := by
  obtain ⟨ks, e1, e2, e3⟩ := toSKs_of (xs := xs) fun d hd => (k.sk d (hx d hd)).imp fun x hx => hx.1
  obtain ⟨js, f1, f2, f3⟩ := toSKs_of (xs := zs) fun d hd => (k.sk d (hx d ((hm d).mp hd))).imp fun x hx => hx.1
  have ex := toSKs_d e1
  have ez := toSKs_d f1
  have jn : js.Nodup := by
    have h := hn
    rw [ez] at h
    exact List.Pairwise.of_map SK.d (fun a b h e => h (by rw [e])) h
  have jm : ∀ x, x ∈ js ↔ x ∈ ks := fun x => by
    rw [f3, e3]
    constructor
    · rintro ⟨d, hd, e⟩
      exact ⟨d, (hm d).mp hd, e⟩
    · rintro ⟨d, hd, e⟩
      exact ⟨d, (hm d).mpr hd, e⟩
  have fw : (ddS ks).length < 63 := Nat.lt_of_le_of_lt (nd_le (ddS_nodup ks) fun x hx => (jm x).mpr (ddS_mem.mp hx)) (by omega)
  have ok : setOk xs ks = true := by
    unfold setOk
    rw [Bool.and_eq_true, Bool.and_eq_true]
    refine ⟨⟨by rw [decide_eq_true fw, Bool.or_true], ?_⟩, kin_sortOk k hx⟩
    have md : ∀ x ∈ ks, x.tup = m := fun x hx' => by
      obtain ⟨d, hd, e⟩ := (e3 x).mp hx'
      obtain ⟨y, e4, e5⟩ := k.sk d (hx d hd)
      rw [e] at e4
      cases e4
      exact e5
    rw [Bool.or_eq_true]
    cases m with
    | true => exact .inr (List.all_eq_true.mpr fun x hx => md x hx)
    | false => exact .inl (List.all_eq_true.mpr fun x hx => by rw [md x hx]; rfl)
  have al : ∀ x ∈ ks, ∀ y ∈ ks, PySem.W.alike x.d y.d = true := fun x hx' y hy => by
    obtain ⟨d, hd, e⟩ := (e3 x).mp hx'
    obtain ⟨d', hd', e'⟩ := (e3 y).mp hy
    rw [← toSK_d e, ← toSK_d e']
    exact k.al d d' (hx d hd) (hx d' hd')
  have q := sset_one (ks := ks) (L := js) al jn jm
  rw [← ez, sort_self hp] at q
  unfold ssetD
  rw [e1, Option.bind_some, if_pos ok, ← q]
end Dv

/-! What an expression is worth, put together of what its parts are worth. -/
namespace Dv
open PySem PySem.Spec PyProof.Rows L2
section
variable {s : S} {d : D} {A : WO} {W V : WV}

theorem wF_v (h : A s = some (.val d)) : wF A s = some d := by
  unfold wF
  rw [h]
  rfl
theorem wF_l {ds : List D} (h : A s = some (.lst ds)) : wF A s = some (.list ds) := by
  unfold wF
  rw [h]
  rfl
theorem and_t {B : WV} (h : W s = some (.bool true)) : wvAnd W B s = B s := by
  unfold wvAnd
  rw [h]
  rfl
theorem and_f {B : WV} (h : W s = some (.bool false)) : wvAnd W B s = some (.bool false) := by
  unfold wvAnd
  rw [h]
  rfl
theorem nt_t (h : W s = some (.bool true)) : wNot (wTru W) s = some false := by
  unfold wNot wTru
  rw [h]
  rfl
theorem or_f {t u : WB} (h : t s = some false) : wOr t u s = u s := by
  unfold wOr
  rw [h]
  rfl
theorem if_no {t : WB} {a r : MS} (h : t s = some false) : sSeq (sIf (lB t) a sNx) r s = r s := by
  unfold sSeq sIf lB
  rw [h]
  rfl
theorem ret_v (h : W s = some d) : sRet (lO (wV W)) s = some (.rt (.val d), s) := by
  unfold sRet lO wV
  rw [h]
  rfl
theorem call_v {f : FD} {ms : List (S → Option (List D))} {ds : List D} {outs : List O} (he : evS ms s = some ds) (hf : f (ds.map O.val) = some (.val d, outs)) : wF (wCall f ms) s = some d := by
  refine wF_v ?_
  unfold wCall
  rw [he, Option.bind_some, hf]
  rfl
theorem op_v {g : List D → Option O} {ms : List WV} {ds : List D} (he : evP ms s = some ds) (hf : g ds = some (.val d)) : wF (wOp g ms) s = some d := by
  refine wF_v ?_
  unfold wOp
  rw [he]
  exact hf
theorem evP1 {a : D} (h : W s = some a) : evP [W] s = some [a] := by
  unfold evP
  rw [h]
  rfl
theorem evP2 {a b : D} (h : W s = some a) (h2 : V s = some b) : evP [W, V] s = some [a, b] := by
  unfold evP
  rw [h, evP1 h2]
  rfl
theorem evS0 : evS [] s = some [] := rfl
theorem evS1 {ms : List (S → Option (List D))} {ds : List D} (h : W s = some d) (t : evS ms s = some ds) : evS (s1 W :: ms) s = some (d :: ds) := by
  unfold evS s1
  rw [h, t]
  rfl
theorem tup_v {ms : List (S → Option (List D))} {ds : List D} (h : evS ms s = some ds) (hl : ds.length ≤ 1000) : wTup ms s = some (.tuple ds) := by
  unfold wTup
  rw [h]
  exact if_pos (line_of hl)
theorem lst_v {ms : List (S → Option (List D))} {ds : List D} (h : evS ms s = some ds) (hl : ds.length ≤ 1000) : wLst ms s = some (.lst ds) := by
  unfold wLst
  rw [h]
  exact if_pos (line_of hl)
theorem op_o {g : List D → Option O} {ms : List WV} {ds : List D} {o : O} (he : evP ms s = some ds) (hf : g ds = some o) : wOp g ms s = some o := by
  unfold wOp
  rw [he]
  exact hf
theorem op_l {g : List D → Option O} {ms : List WV} {ds es : List D} (he : evP ms s = some ds) (hf : g ds = some (.lst es)) : wF (wOp g ms) s = some (.list es) := wF_l (op_o he hf)
theorem bo_v {b : Bool} (h : A s = some (.val (.bool b))) : wBo A s = some b := by
  unfold wBo
  rw [h]
  rfl
theorem tru_b {b : Bool} (h : W s = some (.bool b)) : wTru W s = some b := by
  unfold wTru
  rw [h]
  rfl
theorem wand_v {t u : WB} {a b : Bool} (h : t s = some a) (h2 : a = true → u s = some b) : wAnd t u s = some (a && b) := by
  unfold wAnd
  rw [h, Option.bind_some]
  cases a with
  | true => exact (if_pos rfl).trans (h2 rfl)
  | false => exact if_neg Bool.false_ne_true
theorem vand_v {a b : Bool} (h : W s = some (.bool a)) (h2 : V s = some (.bool b)) : wvAnd W V s = some (.bool (a && b)) := by
  cases a with
  | true => exact (and_t h).trans h2
  | false => exact and_f h
theorem asg_v {i : Nat} (h : W s = some d) (hi : i < s.length) : sAsg (gNm i) (oV (lV W)) s = some (.nx, s.set i (some (.val d))) := by
  unfold sAsg oV lV
  rw [h]
  show (gNm i (.val d) s).map _ = _
  rw [gNm_at hi]
  rfl
theorem asg_o {i : Nat} {o : O} (h : A s = some o) (hi : i < s.length) : sAsg (gNm i) (lO A) s = some (.nx, s.set i (some o)) := by
  unfold sAsg lO
  rw [h]
  show (gNm i o s).map _ = _
  rw [gNm_at hi]
  rfl
theorem sif_t {t : WB} {a b : MS} (h : t s = some true) : sIf (lB t) a b s = a s := by
  unfold sIf lB
  rw [h]
  rfl
theorem sif_f {t : WB} {a b : MS} (h : t s = some false) : sIf (lB t) a b s = b s := by
  unfold sIf lB
  rw [h]
  rfl
theorem call_o {f : FD} {ms : List (S → Option (List D))} {ds : List D} {outs : List O} {o : O} (he : evS ms s = some ds) (hf : f (ds.map O.val) = some (o, outs)) : wCall f ms s = some o := by
  unfold wCall
  rw [he, Option.bind_some, hf]
  rfl
theorem gr_v (h : s[i]? = some (some (.val d))) : gr i s = some d := by
  unfold gr
  rw [h]
  rfl
theorem gv_v (h : s[i]? = some (some (.val d))) : gv i s = some d := by
  unfold gv
  rw [h]
theorem int_add {V W : WV} {a b : Int} (h1 : V s = some (.int a)) (h2 : W s = some (.int b)) : wF (wOp gAdd [V, W]) s = some (.int (a + b)) := op_v (evP2 h1 h2) (v_add a b)
theorem not_v {t : WB} {a : Bool} (h : t s = some a) : wNot t s = some (!a) := by
  show (t s).map _ = _
  rw [h]
  rfl
theorem ret_o {o : O} (h : A s = some o) : sRet (lO A) s = some (.rt o, s) := by
  rw [ap_sRet]
  show bK retF ((A s).map fun o => (o, s)) = _
  rw [h]
  rfl
end
end Dv

/-! What calls are worth, the arguments told. -/
namespace Dv
open PySem PySem.Spec PyProof.Rows L2
section
variable {s : S} {i : Nat}
theorem slot_at {o : O} (h : s[i]? = some (some o)) : slotO s i = some o := by
  unfold slotO
  rw [h]
theorem aR_at {o : O} (h : s[i]? = some (some o)) : aR i s = some (.r i, s) := by
  unfold aR
  rw [h]
theorem lt_at {x : Option O} (h : s[i]? = some x) : i < s.length := (List.getElem?_eq_some_iff.mp h).1
theorem ext_set {s t : S} (hl : s.length = t.length) (h : ∀ n, n < s.length → s[n]? = t[n]?) : s = t := List.ext_getElem? fun n => by
  by_cases c : n < s.length
  · exact h n c
  · rw [List.getElem?_eq_none (by omega), List.getElem?_eq_none (by omega)]
end
theorem frz_v {m : MO} {s s1 : S} {d : D} (h : m s = some (.val d, s1)) : frz m s = some (d, s1) := by
  unfold frz
  rw [h]
  rfl
theorem sl_o {m : WV} {lo hi : WP} {s : S} {d : D} {a b : Option Int} {o : O} (h : m s = some d) (h1 : lo s = some a) (h2 : hi s = some b) (e : gSl a b d = some o) : wSl m lo hi s = some o := by
  unfold wSl
  rw [h, Option.bind_some, h1, Option.bind_some, h2]
  exact e
theorem for_step {g : MG} {body : MS} {d : D} {ds : List D} {s s1 s2 : S} {r : Option (Fl × S)} (h : g (.val d) s = some s1) (h1 : body s1 = some (.nx, s2)) (h2 : forGo g body ds s2 = r) : forGo g body (d :: ds) s = r := by
  unfold forGo
  rw [h, Option.bind_some, h1, Option.bind_some]
  exact h2
inductive AV (s : S) : List MArg → List O → Prop
  | nil : AV s [] []
  | d {m : MArg} {ms : List MArg} {os : List O} {d : D} : m s = some (.d d, s) → AV s ms os → AV s (m :: ms) (.val d :: os)
  | o {m : MArg} {ms : List MArg} {os : List O} {x : O} : m s = some (.o x, s) → AV s ms os → AV s (m :: ms) (x :: os)
  | r {j : Nat} {ms : List MArg} {os : List O} {d : D} : s[j]? = some (some (.val d)) → AV s ms os → AV s (aR j :: ms) (.val d :: os)
def rfs : List Arg → List Nat
  | [] => []
  | .r j :: as => j :: rfs as
  | .d _ :: as => rfs as
  | .o _ :: as => rfs as
theorem drop_ok : ∀ (args : List Arg) (s : S), (dropRefs args s).length = s.length ∧ ∀ n, n ∉ rfs args → (dropRefs args s)[n]? = s[n]?
  | [], s => ⟨rfl, fun n _ => rfl⟩
  | .d _ :: as, s => drop_ok as s
  | .o _ :: as, s => drop_ok as s
  | .r j :: as, s => by
    obtain ⟨h1, h2⟩ := drop_ok as s
    refine ⟨by show ((dropRefs as s).set j none).length = _; rw [List.length_set, h1], fun n hn => ?_⟩
    show ((dropRefs as s).set j none)[n]? = _
    have hn' : n ≠ j ∧ n ∉ rfs as := ⟨fun e => hn (by rw [e]; exact List.mem_cons_self), fun h => hn (List.mem_cons_of_mem _ h)⟩
    rw [List.getElem?_set_ne (Ne.symm hn'.1), h2 n hn'.2]
theorem AV.ev {s : S} {ms : List MArg} {os : List O} (h : AV s ms os) : ∃ args, evA ms s = some (args, s) ∧ conts s args = some os ∧ ownRefs s args = [] ∧ (∀ j ∈ rfs args, ∃ d, s[j]? = some (some (.val d))) ∧ ∀ t : S, t.length = s.length → ∃ t', setRefs args os t = some t' ∧ t'.length = s.length ∧ ∀ n, t'[n]? = if n ∈ rfs args then s[n]? else t[n]? := by
  induction h with
  | nil => exact ⟨[], rfl, rfl, rfl, (fun j h => nomatch (show j ∈ ([] : List Nat) from h)), fun t ht => ⟨t, rfl, ht, fun n => (if_neg (c := n ∈ ([] : List Nat)) (by intro h; nomatch h)).symm⟩⟩
  | @d m ms os d h _ ih =>
    obtain ⟨args, e1, e2, e3, e4, e5⟩ := ih
    refine ⟨.d d :: args, ?_, ?_, e3, e4, e5⟩
    · unfold evA
      rw [h, Option.bind_some, e1]
      rfl
    · show (some (O.val d)).bind _ = _
      rw [Option.bind_some, e2]
      rfl
  | @o m ms os x h _ ih =>
    obtain ⟨args, e1, e2, e3, e4, e5⟩ := ih
    refine ⟨.o x :: args, ?_, ?_, e3, e4, e5⟩
    · unfold evA
      rw [h, Option.bind_some, e1]
      rfl
    · show (some x).bind _ = _
      rw [Option.bind_some, e2]
      rfl
  | @r j ms os d h _ ih =>
    obtain ⟨args, e1, e2, e3, e4, e5⟩ := ih
    refine ⟨.r j :: args, ?_, ?_, ?_, ?_, ?_⟩
    · unfold evA
      rw [aR_at h, Option.bind_some, e1]
      rfl
    · show (slotO s j).bind _ = _
      rw [slot_at h, Option.bind_some, e2]
      rfl
    · unfold ownRefs
      rw [h]
      exact e3
    · intro k hk
      rcases List.mem_cons.mp hk with e | hk
      · rw [e]; exact ⟨d, h⟩
      · exact e4 k hk
    · intro t ht
      have hj := lt_at h
      obtain ⟨t', f1, f2, f3⟩ := e5 (t.set j (some (.val d))) (by rw [List.length_set, ht])
      refine ⟨t', ?_, f2, fun n => ?_⟩
      · show (if j < t.length then setRefs args os (t.set j (some (.val d))) else none) = _
        rw [if_pos (by omega), f1]
      · rw [f3 n]
        show _ = if n ∈ j :: rfs args then s[n]? else t[n]?
        by_cases c1 : n ∈ rfs args
        · rw [if_pos c1, if_pos (List.mem_cons_of_mem _ c1)]
        · rw [if_neg c1]
          by_cases c2 : n = j
          · subst c2
            rw [if_pos List.mem_cons_self, List.getElem?_set_self (by omega), h]
          · rw [List.getElem?_set_ne (Ne.symm c2), if_neg]
            intro hm
            rcases List.mem_cons.mp hm with e | hm
            · exact c2 e
            · exact c1 hm
section
variable {s : S} {i : Nat} {ms : List MArg} {os : List O} {o o' r : O} {f : FD} {cn : Str} {fs fs' : List O}
theorem call_core (hi : s[i]? = some (some o)) (hv : o.isVal = false) (h : AV s ms os) : ∃ args, evA (aR i :: ms) s = some (args, s) ∧ conts s args = some (o :: os) ∧ (ownRefs s args).Nodup ∧ ∀ o', setRefs args (o' :: os) (dropRefs args s) = some (s.set i (some o')) := by
  obtain ⟨args, e1, e2, e3, e4, e5⟩ := h.ev
  have li := lt_at hi
  refine ⟨.r i :: args, ?_, ?_, ?_, fun o' => ?_⟩
  · unfold evA
    rw [aR_at hi, Option.bind_some, e1]
    rfl
  · show (slotO s i).bind _ = _
    rw [slot_at hi, Option.bind_some, e2]
    rfl
  · unfold ownRefs
    rw [hi]
    show (if o.isVal = true then _ else i :: ownRefs s args).Nodup
    rw [hv, if_neg Bool.false_ne_true, e3]
    simp
  · obtain ⟨d1, d2⟩ := drop_ok args s
    have ni : i ∉ rfs args := fun h => by
      obtain ⟨d, e⟩ := e4 i h
      rw [hi] at e
      cases e
      cases hv
    show (if i < ((dropRefs args s).set i none).length then setRefs args os (((dropRefs args s).set i none).set i (some o')) else none) = _
    rw [List.length_set, if_pos (by omega), List.set_set]
    obtain ⟨t', f1, f2, f3⟩ := e5 ((dropRefs args s).set i (some o')) (by rw [List.length_set, d1])
    rw [f1]
    refine congrArg some (ext_set (by rw [f2, List.length_set]) fun n _ => ?_)
    rw [f3 n]
    by_cases c1 : n ∈ rfs args
    · have : n ≠ i := fun e => ni (by rw [← e]; exact c1)
      rw [if_pos c1, List.getElem?_set_ne (Ne.symm this)]
    · rw [if_neg c1]
      by_cases c2 : n = i
      · subst c2
        rw [List.getElem?_set_self (by omega), List.getElem?_set_self li]
      · rw [List.getElem?_set_ne (Ne.symm c2), List.getElem?_set_ne (Ne.symm c2), d2 n c1]
theorem callC (hi : s[i]? = some (some o)) (hv : o.isVal = false) (h : AV s ms os) (hf : f (o :: os) = some (r, o' :: os)) : mCall f (aR i :: ms) s = some (r, s.set i (some o')) := by
  obtain ⟨args, e1, e2, e3, e4⟩ := call_core hi hv h
  unfold mCall
  rw [e1, Option.bind_some, e2, Option.bind_some, if_pos e3, hf, Option.bind_some, e4]
  rfl
end
section
variable {s s1 : S} {i : Nat} {d : D} {W : WV} {A : WO} {m : MO} {o : O}
theorem avV (h : W s = some d) : aV (lV W) s = some (.d d, s) := by
  unfold aV lV
  rw [h]
  rfl
theorem aoL (h : A s = some o) : aO (lO A) s = some (.o o, s) := by
  unfold aO lO
  rw [h]
  rfl
inductive RV (s : S) : List MR → List D → Prop
  | nil : RV s [] []
  | b {i : Nat} {o : O} {ms : List MR} {ds : List D} : s[i]? = some (some o) → o.fz = true → RV s ms ds → RV s (rB i :: ms) (o.toD :: ds)
  | d {m : MR} {ms : List MR} {ds : List D} {d : D} : m s = some (.d d, s) → RV s ms ds → RV s (m :: ms) (d :: ds)
theorem RV.ev {s : S} {ms : List MR} {ds : List D} (h : RV s ms ds) : ∃ rs, evR ms s = some (rs, s) ∧ looks s rs = some ds := by
  induction h with
  | nil => exact ⟨[], rfl, rfl⟩
  | @b i o ms ds h hz _ ih =>
    obtain ⟨rs, e1, e2⟩ := ih
    refine ⟨.s i :: rs, ?_, ?_⟩
    · have e0 : rB i s = some (.s i, s) := by unfold rB; rw [h]
      unfold evR
      rw [e0, Option.bind_some, e1]
      rfl
    · have e0 : Rf.look s (.s i) = some o.toD := by
        show (match s[i]? with
          | some (some o) => if o.fz = true then some o.toD else none
          | _ => none) = _
        rw [h]
        exact if_pos hz
      unfold looks
      rw [e0, Option.bind_some, e2]
      rfl
  | @d m ms ds d h _ ih =>
    obtain ⟨rs, e1, e2⟩ := ih
    refine ⟨.d d :: rs, ?_, ?_⟩
    · unfold evR
      rw [h, Option.bind_some, e1]
      rfl
    · unfold looks
      show (some d).bind _ = _
      rw [Option.bind_some, e2]
      rfl
theorem rvV (h : W s = some d) : rV (lV W) s = some (.d d, s) := by
  unfold rV lV
  rw [h]
  rfl
theorem roV (h : m s = some (.val d, s1)) : rO m s = some (.d d, s1) := by
  unfold rO rV
  rw [frz_v h]
  rfl
theorem loV (h : A s = some o) : lO A s = some (o, s) := by
  unfold lO
  rw [h]
  rfl
theorem mbo {b : Bool} (h : m s = some (.val (.bool b), s1)) : mBo m s = some (b, s1) := by
  unfold mBo
  rw [h]
  rfl
theorem mif_t {t : MB} {a b : MS} (h : t s = some (true, s1)) : sIf t a b s = a s1 := by
  unfold sIf
  rw [h, Option.bind_some]
  exact if_pos rfl
theorem mif_f {t : MB} {a b : MS} (h : t s = some (false, s1)) : sIf t a b s = b s1 := by
  unfold sIf
  rw [h, Option.bind_some]
  exact if_neg Bool.false_ne_true
theorem if_nx {t : MB} {a : MS} (h : t s = some (false, s1)) : sIf t a sNx s = some (.nx, s1) := mif_f h
theorem ret_m (h : m s = some (o, s1)) : sRet m s = some (.rt o, s1) := by
  unfold sRet
  rw [h]
  rfl
theorem asg_f (h : m s = some (.val d, s1)) (hi : i < s1.length) : sAsg (gNm i) (oV (frz m)) s = some (.nx, s1.set i (some (.val d))) := by
  unfold sAsg oV
  rw [frz_v h]
  show (gNm i (.val d) s1).map _ = _
  rw [gNm_at hi]
  rfl
end
theorem app_m {i : Nat} {xs ys : List D} {m : MV} {s s1 : S} {d : D} (h0 : s[i]? = some (some (.lst ys))) (h : m s = some (d, s1)) (hi : s1[i]? = some (some (.lst xs))) (hl : xs.length < sizeLine) : sExp (oApp i m) s = some (.nx, s1.set i (some (.lst (xs ++ [d])))) := by
  have o1 : ownL s i = true := by
    unfold ownL
    rw [h0]
  unfold sExp oApp
  rw [if_pos o1, h]
  show ((chL i _ s1).map _) = _
  unfold chL
  rw [hi]
  show (((if xs.length < sizeLine then some (O.val .none, xs ++ [d]) else none).map _).map _) = _
  rw [if_pos hl]
  rfl
theorem urn_nv {m : Nat} {u : O} (h : Urn m u) : u.isVal = false := by
  obtain ⟨_, _, _, rfl, _, _⟩ := h
  rfl
theorem run_rt {n np : Nat} {m : MS} {cs : List O} {o : O} {s : S} {outs : List O} (hl : cs.length = np) (e : m (cs.map some ++ List.replicate (n - np) none) = some (.rt o, s)) (ho : outsOf np s = some outs) : runDef n np m cs = some (o, outs) := by
  unfold runDef
  rw [if_pos hl, e]
  show (outsOf np s).bind _ = _
  rw [ho]
  rfl
end Dv

namespace Dv.G
open PySem PySem.Spec PyProof.Rows L2
def NMS : List Str := ["ann", "bob", "cat", "dan", "eve", "fay", "a", "zzzzzzzz", "pay", "x"]
def NmS (d : D) : Prop := ∃ x, d = .str x ∧ x ∈ NMS
def HRS (d : D) : Prop := ∃ (r p : Str) (a b : Int), d = .tuple [.str r, .str p, .int a, .int b] ∧ r ∈ NMS ∧ p ∈ NMS ∧ (0 ≤ a ∧ a ≤ 40) ∧ (0 ≤ b ∧ b ≤ 40)
def GRS (d : D) : Prop := ∃ (p : Str) (a b : Int), d = .tuple [.str p, .int a, .int b] ∧ p ∈ NMS ∧ (0 ≤ a ∧ a ≤ 40) ∧ (0 ≤ b ∧ b ≤ 40)
def DRS (d : D) : Prop := ∃ (r p q : Str) (a b : Int), d = .tuple [.str r, .str p, .str q, .int a, .int b] ∧ r ∈ NMS ∧ p ∈ NMS ∧ q ∈ NMS ∧ (0 ≤ a ∧ a ≤ 40) ∧ (0 ≤ b ∧ b ≤ 40)
theorem HRS.row {d : D} (h : HRS d) : HRow d := by
  obtain ⟨r, p, a, b, e, _⟩ := h
  exact ⟨r, p, a, b, e⟩
theorem GRS.row {d : D} (h : GRS d) : GRow d := by
  obtain ⟨p, a, b, e, _⟩ := h
  exact ⟨p, a, b, e⟩
theorem DRS.row {d : D} (h : DRS d) : DRow d := by
  obtain ⟨r, p, q, a, b, e, _⟩ := h
  exact ⟨r, p, q, a, b, e⟩
structure Book (hs gs ds : List D) : Prop where
  h : ∀ d ∈ hs, HRS d
  g : ∀ d ∈ gs, GRS d
  d : ∀ x ∈ ds, DRS x
  lh : hs.length ≤ 8
  lg : gs.length ≤ 8
  ld : ds.length ≤ 8
def enc (hs gs ds : List D) : D := .tuple [.tuple hs, .tuple gs, .tuple ds]
theorem add_tups {a b : List D} (h : a.length + b.length ≤ 1000) : gAdd [.tuple a, .tuple b] = some (.val (.tuple (a ++ b))) := if_pos (line_of h)
theorem rng_len (n : Nat) : (rng 0 n).length = n := by
  unfold rng
  rw [List.length_map, List.length_range]
theorem gRng1 {j : Int} (h0 : 0 ≤ j) (h1 : j ≤ 1000) : gRng [.int j] = some (rng 0 j.toNat) := if_pos (by
  unfold inW
  rw [Bool.and_eq_true, decide_eq_true_eq, decide_eq_true_eq]
  omega)
theorem small_line {n : Nat} (h : n < 1000) : n < sizeLine := by
  rw [sizeLine_eq]
  omega
section
variable {c : Nat → FD} {crew ranks : List D} {k : Nat} {top : Int}
structure Tm (c : Nat → FD) (crew ranks : List D) (k : Nat) (top : Int) : Prop where
  tk : TakeOk (c 8)
  of_ : OfOk (c 10)
  st : StrOk (c 13)
  cr : ∀ d ∈ crew, NmS d
  rk : ∀ d ∈ ranks, NmS d
  cl : crew.length = k
  rl : ranks.length = 3
  k2 : 2 ≤ k
  k8 : k ≤ 8
  t0 : 0 ≤ top
  t1 : top ≤ 40
theorem Tm.cne (M : Tm c crew ranks k top) : crew ≠ [] := fun z => by
  have h1 := M.cl
  have h2 := M.k2
  rw [z, List.length_nil] at h1
  omega
theorem Tm.rne (M : Tm c crew ranks k top) : ranks ≠ [] := fun z => by
  have h1 := M.rl
  rw [z] at h1
  cases h1
theorem Tm.cle (M : Tm c crew ranks k top) : crew.length ≤ 1000 := by
  have h1 := M.cl
  have h2 := M.k8
  omega
theorem Tm.rle (M : Tm c crew ranks k top) : ranks.length ≤ 1000 := by
  have h1 := M.rl
  omega
theorem tm_loop1 (M : Tm c crew ranks k top) (m : Nat) {t : Option O} : ∀ (ds : List D) (u : O), Urn (m + 4 * ds.length) u → ds.length ≤ 6 → ∃ s', forGo (gNm 8) (sExp (oApp 5 (frz (mOp gAdd [rV (vTup [rV (frz (mCall (c 10) [aR 0, aR 4])), rV (frz (mCall (c 10) [aR 0, aR 3]))]), rO (mCall (c 13) [aR 0, aR 2])])))) ds [some u, some (.val (.int k)), some (.val (.int top)), some (.lst crew), some (.lst ranks), some (.lst []), some (.lst []), some (.lst []), t, none, none] = some (.nx, s') ∧ ∃ u hs t, Urn m u ∧ s' = [some u, some (.val (.int k)), some (.val (.int top)), some (.lst crew), some (.lst ranks), some (.lst hs), some (.lst []), some (.lst []), t, none, none] ∧ (∀ d ∈ hs, HRS d) ∧ hs.length ≤ 6 := fun ds u hu hl => by
  obtain ⟨s', e1, u', hs, t', hu', es, hh, hln⟩ := forGo_inv (g := gNm 8) (b := (sExp (oApp 5 (frz (mOp gAdd [rV (vTup [rV (frz (mCall (c 10) [aR 0, aR 4])), rV (frz (mCall (c 10) [aR 0, aR 3]))]), rO (mCall (c 13) [aR 0, aR 2])]))))) (fun ds s => ∃ u hs t, Urn (m + 4 * ds.length) u ∧ s = [some u, some (.val (.int k)), some (.val (.int top)), some (.lst crew), some (.lst ranks), some (.lst hs), some (.lst []), some (.lst []), t, none, none] ∧ (∀ d ∈ hs, HRS d) ∧ hs.length + ds.length ≤ 6) (fun d ds s ⟨u, hs, t, hu, es, hh, hln⟩ => by
    subst es
    rw [List.length_cons] at hu hln
    obtain ⟨r, u1, hu1, r1, hr⟩ := M.of_ (m + 4 * ds.length + 3) u ranks (hu.le (by omega)) M.rne M.rle
    obtain ⟨p, u2, hu2, p1, hp⟩ := M.of_ (m + 4 * ds.length + 2) u1 crew (hu1.le (by omega)) M.cne M.cle
    obtain ⟨a, b, u3, hu3, hst, i0, i1, i2, i3⟩ := M.st (m + 4 * ds.length) u2 top hu2 M.t0 (by have := M.t1; omega)
    have mt := M.t1
    obtain ⟨rx, rfl, nrx⟩ := M.rk r r1
    obtain ⟨px, rfl, npx⟩ := M.cr p p1
    have f1 := add_tups (a := [.str rx, .str px]) (b := [.int a, .int b]) (by simp)
    have f2 : hs.length < sizeLine := small_line (by omega)
    obtain ⟨y1, y2, y3, rfl, _, _⟩ := hu
    obtain ⟨_, _, _, rfl, _, _⟩ := hu1
    obtain ⟨_, _, _, rfl, _, _⟩ := hu2
    obtain ⟨x1, x2, x3, rfl, x4, x5⟩ := hu3
    refine ⟨[some (.lst [.int y1, .int y2, .int y3]), some (.val (.int k)), some (.val (.int top)), some (.lst crew), some (.lst ranks), some (.lst hs), some (.lst []), some (.lst []), some (.val d), none, none], [some (.lst [.int x1, .int x2, .int x3]), some (.val (.int k)), some (.val (.int top)), some (.lst crew), some (.lst ranks), some (.lst (hs ++ [.tuple [.str rx, .str px, .int a, .int b]])), some (.lst []), some (.lst []), some (.val d), none, none], ?_, ?_, _, _, _, ⟨x1, x2, x3, rfl, x4, x5⟩, rfl, fun y hy => ?_, by rw [List.length_append, List.length_cons, List.length_nil]; omega⟩
    · simp [bK_some, ap_runDef, ap_sSeq, ap_sAsg, ap_sIf, ap_vIf, ap_oIf, ap_sRet, ap_sExp, ap_sNx, ap_sFor, ap_sPar, ap_mOp, ap_rV, ap_frz, ap_rO, ap_oV, ap_aV, ap_aO, ap_vCon, ap_vTup, ap_oLst, ap_mBo, ap_mTru, ap_bNot, ap_bAnd, ap_bOr, ap_vAnd, ap_vOr, ap_vNot, ap_vIsi, ap_vIsi2, ap_evR0, ap_evR1, ap_evA0, ap_evA1, ap_evO0, ap_evO1, ap_oApp, ap_sSetIx, ap_mCall, ap_iVal, ap_iOp, ap_iPr, ap_oLc, ap_oLc2, ap_pNo, ap_pSome, ap_oSl, ap_rB, ap_vVar, ap_oMove, ap_aR, ap_gNm, ap_gTp, ap_gAll0, ap_gAll1, look_d, look_s, ap_looks0, ap_looks1, ap_conts0, ap_conts1, alook_d, alook_o, alook_r, own0, own_d, own_o, own_r, ifF, seqF, asgG, asgF, retF, expF, ret1, opH, opG, opF, tupG, tupF, lstG, lstF, boF, truH, truG, truF, andF, orF, vandG, vandF, vorG, vorF, notG, notH, notF, isG, isF, isTy2, isF2, evRG, evRF, evAG, evAF, evOG, evOF, chG, chAt, appF, gate, setL, setF3, setF2, setF1, callI, callH, callG, callF, itG, iopG, iopF, iprF, ivF, slI, slH, slG, slF, psF, parG, runG, runF, gaF, lkG, cnG, dsOf, outsOf, setAll, truthD, dropRefs, setRefs, ownL, isTy, wS, v_gt, v_lt, v_le, v_ge, v_eq, v_ne, v_eqB, v_neB, v_add, v_sub, v_int, v_intB, v_abs, v_lenL, v_lenT, v_tupL, v_tupT, v_listL, v_ixL, v_ixT, v_setL, v_isN, PyData.isList, PyData.isTuple, v_eqN, v_eqS, PyData.isBool, PyData.isStr, PyData.isInt, isNone, tYs, ap_oOr, oorG, oorF, toD_val, toD_lst, frzF, frzG, fz_val, fz_lst, lkS, oorE, isE, nd, O.isVal, ap_oOr, oorG, oorF]
    · simp [bK_some, ap_runDef, ap_sSeq, ap_sAsg, ap_sIf, ap_vIf, ap_oIf, ap_sRet, ap_sExp, ap_sNx, ap_sFor, ap_sPar, ap_mOp, ap_rV, ap_frz, ap_rO, ap_oV, ap_aV, ap_aO, ap_vCon, ap_vTup, ap_oLst, ap_mBo, ap_mTru, ap_bNot, ap_bAnd, ap_bOr, ap_vAnd, ap_vOr, ap_vNot, ap_vIsi, ap_vIsi2, ap_evR0, ap_evR1, ap_evA0, ap_evA1, ap_evO0, ap_evO1, ap_oApp, ap_sSetIx, ap_mCall, ap_iVal, ap_iOp, ap_iPr, ap_oLc, ap_oLc2, ap_pNo, ap_pSome, ap_oSl, ap_rB, ap_vVar, ap_oMove, ap_aR, ap_gNm, ap_gTp, ap_gAll0, ap_gAll1, look_d, look_s, ap_looks0, ap_looks1, ap_conts0, ap_conts1, alook_d, alook_o, alook_r, own0, own_d, own_o, own_r, ifF, seqF, asgG, asgF, retF, expF, ret1, opH, opG, opF, tupG, tupF, lstG, lstF, boF, truH, truG, truF, andF, orF, vandG, vandF, vorG, vorF, notG, notH, notF, isG, isF, isTy2, isF2, evRG, evRF, evAG, evAF, evOG, evOF, chG, chAt, appF, gate, setL, setF3, setF2, setF1, callI, callH, callG, callF, itG, iopG, iopF, iprF, ivF, slI, slH, slG, slF, psF, parG, runG, runF, gaF, lkG, cnG, dsOf, outsOf, setAll, truthD, dropRefs, setRefs, ownL, isTy, wS, v_gt, v_lt, v_le, v_ge, v_eq, v_ne, v_eqB, v_neB, v_add, v_sub, v_int, v_intB, v_abs, v_lenL, v_lenT, v_tupL, v_tupT, v_listL, v_ixL, v_ixT, v_setL, v_isN, PyData.isList, PyData.isTuple, v_eqN, v_eqS, PyData.isBool, PyData.isStr, PyData.isInt, isNone, tYs, ap_oOr, oorG, oorF, toD_val, toD_lst, frzF, frzG, fz_val, fz_lst, lkS, oorE, isE, nd, O.isVal, ap_oOr, oorG, oorF, hr, hp, hst, f1, appL, f2]
    · rcases List.mem_append.mp hy with z | z
      · exact hh y z
      · rw [List.mem_singleton.mp z]
        exact ⟨_, _, _, _, rfl, nrx, npx, ⟨by omega, by omega⟩, ⟨by omega, by omega⟩⟩) ds _ ⟨u, [], t, hu, rfl, (fun d h => nomatch h), by rw [List.length_nil]; omega⟩
  exact ⟨s', e1, u', hs, t', hu', es, hh, by rw [List.length_nil] at hln; omega⟩
theorem tm_loop2 (M : Tm c crew ranks k top) (m : Nat) {t : Option O} {hs : List D} : ∀ (ds : List D) (u : O), Urn (m + 3 * ds.length) u → ds.length ≤ 6 → ∃ s', forGo (gNm 8) (sExp (oApp 6 (frz (mOp gAdd [rV (vTup [rV (frz (mCall (c 10) [aR 0, aR 3]))]), rO (mCall (c 13) [aR 0, aR 2])])))) ds [some u, some (.val (.int k)), some (.val (.int top)), some (.lst crew), some (.lst ranks), some (.lst hs), some (.lst []), some (.lst []), t, none, none] = some (.nx, s') ∧ ∃ u gs t, Urn m u ∧ s' = [some u, some (.val (.int k)), some (.val (.int top)), some (.lst crew), some (.lst ranks), some (.lst hs), some (.lst gs), some (.lst []), t, none, none] ∧ (∀ d ∈ gs, GRS d) ∧ gs.length ≤ 6 := fun ds u hu hl => by
  obtain ⟨s', e1, u', gs, t', hu', es, hh, hln⟩ := forGo_inv (g := gNm 8) (b := (sExp (oApp 6 (frz (mOp gAdd [rV (vTup [rV (frz (mCall (c 10) [aR 0, aR 3]))]), rO (mCall (c 13) [aR 0, aR 2])]))))) (fun ds s => ∃ u gs t, Urn (m + 3 * ds.length) u ∧ s = [some u, some (.val (.int k)), some (.val (.int top)), some (.lst crew), some (.lst ranks), some (.lst hs), some (.lst gs), some (.lst []), t, none, none] ∧ (∀ d ∈ gs, GRS d) ∧ gs.length + ds.length ≤ 6) (fun d ds s ⟨u, gs, t, hu, es, hh, hln⟩ => by
    subst es
    rw [List.length_cons] at hu hln
    obtain ⟨p, u2, hu2, p1, hp⟩ := M.of_ (m + 3 * ds.length + 2) u crew (hu.le (by omega)) M.cne M.cle
    obtain ⟨a, b, u3, hu3, hst, i0, i1, i2, i3⟩ := M.st (m + 3 * ds.length) u2 top hu2 M.t0 (by have := M.t1; omega)
    have mt := M.t1
    obtain ⟨px, rfl, npx⟩ := M.cr p p1
    have f1 := add_tups (a := [.str px]) (b := [.int a, .int b]) (by simp)
    have f2 : gs.length < sizeLine := small_line (by omega)
    obtain ⟨y1, y2, y3, rfl, _, _⟩ := hu
    obtain ⟨_, _, _, rfl, _, _⟩ := hu2
    obtain ⟨x1, x2, x3, rfl, x4, x5⟩ := hu3
    refine ⟨[some (.lst [.int y1, .int y2, .int y3]), some (.val (.int k)), some (.val (.int top)), some (.lst crew), some (.lst ranks), some (.lst hs), some (.lst gs), some (.lst []), some (.val d), none, none], [some (.lst [.int x1, .int x2, .int x3]), some (.val (.int k)), some (.val (.int top)), some (.lst crew), some (.lst ranks), some (.lst hs), some (.lst (gs ++ [.tuple [.str px, .int a, .int b]])), some (.lst []), some (.val d), none, none], ?_, ?_, _, _, _, ⟨x1, x2, x3, rfl, x4, x5⟩, rfl, fun y hy => ?_, by rw [List.length_append, List.length_cons, List.length_nil]; omega⟩
    · simp [bK_some, ap_runDef, ap_sSeq, ap_sAsg, ap_sIf, ap_vIf, ap_oIf, ap_sRet, ap_sExp, ap_sNx, ap_sFor, ap_sPar, ap_mOp, ap_rV, ap_frz, ap_rO, ap_oV, ap_aV, ap_aO, ap_vCon, ap_vTup, ap_oLst, ap_mBo, ap_mTru, ap_bNot, ap_bAnd, ap_bOr, ap_vAnd, ap_vOr, ap_vNot, ap_vIsi, ap_vIsi2, ap_evR0, ap_evR1, ap_evA0, ap_evA1, ap_evO0, ap_evO1, ap_oApp, ap_sSetIx, ap_mCall, ap_iVal, ap_iOp, ap_iPr, ap_oLc, ap_oLc2, ap_pNo, ap_pSome, ap_oSl, ap_rB, ap_vVar, ap_oMove, ap_aR, ap_gNm, ap_gTp, ap_gAll0, ap_gAll1, look_d, look_s, ap_looks0, ap_looks1, ap_conts0, ap_conts1, alook_d, alook_o, alook_r, own0, own_d, own_o, own_r, ifF, seqF, asgG, asgF, retF, expF, ret1, opH, opG, opF, tupG, tupF, lstG, lstF, boF, truH, truG, truF, andF, orF, vandG, vandF, vorG, vorF, notG, notH, notF, isG, isF, isTy2, isF2, evRG, evRF, evAG, evAF, evOG, evOF, chG, chAt, appF, gate, setL, setF3, setF2, setF1, callI, callH, callG, callF, itG, iopG, iopF, iprF, ivF, slI, slH, slG, slF, psF, parG, runG, runF, gaF, lkG, cnG, dsOf, outsOf, setAll, truthD, dropRefs, setRefs, ownL, isTy, wS, v_gt, v_lt, v_le, v_ge, v_eq, v_ne, v_eqB, v_neB, v_add, v_sub, v_int, v_intB, v_abs, v_lenL, v_lenT, v_tupL, v_tupT, v_listL, v_ixL, v_ixT, v_setL, v_isN, PyData.isList, PyData.isTuple, v_eqN, v_eqS, PyData.isBool, PyData.isStr, PyData.isInt, isNone, tYs, ap_oOr, oorG, oorF, toD_val, toD_lst, frzF, frzG, fz_val, fz_lst, lkS, oorE, isE, nd, O.isVal, ap_oOr, oorG, oorF]
    · simp [bK_some, ap_runDef, ap_sSeq, ap_sAsg, ap_sIf, ap_vIf, ap_oIf, ap_sRet, ap_sExp, ap_sNx, ap_sFor, ap_sPar, ap_mOp, ap_rV, ap_frz, ap_rO, ap_oV, ap_aV, ap_aO, ap_vCon, ap_vTup, ap_oLst, ap_mBo, ap_mTru, ap_bNot, ap_bAnd, ap_bOr, ap_vAnd, ap_vOr, ap_vNot, ap_vIsi, ap_vIsi2, ap_evR0, ap_evR1, ap_evA0, ap_evA1, ap_evO0, ap_evO1, ap_oApp, ap_sSetIx, ap_mCall, ap_iVal, ap_iOp, ap_iPr, ap_oLc, ap_oLc2, ap_pNo, ap_pSome, ap_oSl, ap_rB, ap_vVar, ap_oMove, ap_aR, ap_gNm, ap_gTp, ap_gAll0, ap_gAll1, look_d, look_s, ap_looks0, ap_looks1, ap_conts0, ap_conts1, alook_d, alook_o, alook_r, own0, own_d, own_o, own_r, ifF, seqF, asgG, asgF, retF, expF, ret1, opH, opG, opF, tupG, tupF, lstG, lstF, boF, truH, truG, truF, andF, orF, vandG, vandF, vorG, vorF, notG, notH, notF, isG, isF, isTy2, isF2, evRG, evRF, evAG, evAF, evOG, evOF, chG, chAt, appF, gate, setL, setF3, setF2, setF1, callI, callH, callG, callF, itG, iopG, iopF, iprF, ivF, slI, slH, slG, slF, psF, parG, runG, runF, gaF, lkG, cnG, dsOf, outsOf, setAll, truthD, dropRefs, setRefs, ownL, isTy, wS, v_gt, v_lt, v_le, v_ge, v_eq, v_ne, v_eqB, v_neB, v_add, v_sub, v_int, v_intB, v_abs, v_lenL, v_lenT, v_tupL, v_tupT, v_listL, v_ixL, v_ixT, v_setL, v_isN, PyData.isList, PyData.isTuple, v_eqN, v_eqS, PyData.isBool, PyData.isStr, PyData.isInt, isNone, tYs, ap_oOr, oorG, oorF, toD_val, toD_lst, frzF, frzG, fz_val, fz_lst, lkS, oorE, isE, nd, O.isVal, ap_oOr, oorG, oorF, hp, hst, f1, appL, f2]
    · rcases List.mem_append.mp hy with z | z
      · exact hh y z
      · rw [List.mem_singleton.mp z]
        exact ⟨_, _, _, rfl, npx, ⟨by omega, by omega⟩, ⟨by omega, by omega⟩⟩) ds _ ⟨u, [], t, hu, rfl, (fun d h => nomatch h), by rw [List.length_nil]; omega⟩
  exact ⟨s', e1, u', gs, t', hu', es, hh, by rw [List.length_nil] at hln; omega⟩
theorem tm_loop3 (M : Tm c crew ranks k top) (m : Nat) {t : Option O} {hs gs : List D} : ∀ (ds : List D) (u : O), Urn (m + 5 * ds.length) u → ds.length ≤ 8 → ∃ s', forGo (gNm 8) (sSeq (sAsg (gNm 9) (mCall (c 8) [aR 0, aR 1])) (sSeq (sAsg (gNm 10) (mOp gMod [rO (mOp gInt [rO (mOp gAdd [rO (mOp gAdd [rB 9, rV (vCon (.int 1))]), rO (mCall (c 8) [aR 0, aO (mOp gSub [rB 1, rV (vCon (.int 1))])])])]), rB 1])) (sExp (oApp 7 (frz (mOp gAdd [rV (vTup [rV (frz (mCall (c 10) [aR 0, aR 4])), rV (frz (mOp gIx [rB 3, rB 9])), rV (frz (mOp gIx [rB 3, rB 10]))]), rO (mCall (c 13) [aR 0, aR 2])])))))) ds [some u, some (.val (.int k)), some (.val (.int top)), some (.lst crew), some (.lst ranks), some (.lst hs), some (.lst gs), some (.lst []), t, none, none] = some (.nx, s') ∧ ∃ u zs t x y, Urn m u ∧ s' = [some u, some (.val (.int k)), some (.val (.int top)), some (.lst crew), some (.lst ranks), some (.lst hs), some (.lst gs), some (.lst zs), t, x, y] ∧ (∀ d ∈ zs, DRS d) ∧ zs.length ≤ 8 := fun ds u hu hl => by
  obtain ⟨s', e1, u', zs, t', x', y', hu', es, hh, hln⟩ := forGo_inv (g := gNm 8) (b := (sSeq (sAsg (gNm 9) (mCall (c 8) [aR 0, aR 1])) (sSeq (sAsg (gNm 10) (mOp gMod [rO (mOp gInt [rO (mOp gAdd [rO (mOp gAdd [rB 9, rV (vCon (.int 1))]), rO (mCall (c 8) [aR 0, aO (mOp gSub [rB 1, rV (vCon (.int 1))])])])]), rB 1])) (sExp (oApp 7 (frz (mOp gAdd [rV (vTup [rV (frz (mCall (c 10) [aR 0, aR 4])), rV (frz (mOp gIx [rB 3, rB 9])), rV (frz (mOp gIx [rB 3, rB 10]))]), rO (mCall (c 13) [aR 0, aR 2])]))))))) (fun ds s => ∃ u zs t x y, Urn (m + 5 * ds.length) u ∧ s = [some u, some (.val (.int k)), some (.val (.int top)), some (.lst crew), some (.lst ranks), some (.lst hs), some (.lst gs), some (.lst zs), t, x, y] ∧ (∀ d ∈ zs, DRS d) ∧ zs.length + ds.length ≤ 8) (fun d ds s ⟨u, zs, t, x, y, hu, es, hh, hln⟩ => by
    subst es
    rw [List.length_cons] at hu hln
    have k2 := M.k2
    have k8 := M.k8
    obtain ⟨r9, v1, hv1, hr9, a0, a1⟩ := M.tk (m + 5 * ds.length + 4) u k (hu.le (by omega)) (by omega) (by omega)
    obtain ⟨r10, v2, hv2, hr10, b0, b1⟩ := M.tk (m + 5 * ds.length + 3) v1 ((k : Int) - 1) hv1 (by omega) (by omega)
    obtain ⟨r, u1, hu1, r1, hr⟩ := M.of_ (m + 5 * ds.length + 2) v2 ranks hv2 M.rne M.rle
    obtain ⟨a, b, u3, hu3, hst, i0, i1, i2, i3⟩ := M.st (m + 5 * ds.length) u1 top hu1 M.t0 (by have := M.t1; omega)
    have mt := M.t1
    obtain ⟨rx, rfl, nrx⟩ := M.rk r r1
    have c0 : (0 : Int) ≤ (r9 + 1 + r10) % k := Int.emod_nonneg _ (by omega)
    have c1 : (r9 + 1 + r10) % k < k := Int.emod_lt_of_pos _ (by omega)
    obtain ⟨p, p1, p2⟩ := at_lt (xs := crew) a0 (by rw [M.cl]; exact a1)
    obtain ⟨q, q1, q2⟩ := at_lt (xs := crew) c0 (by rw [M.cl]; exact c1)
    obtain ⟨px, rfl, npx⟩ := M.cr p p2
    obtain ⟨qx, rfl, nqx⟩ := M.cr q q2
    have f0 : gMod [.int (r9 + 1 + r10), .int k] = some (.val (.int ((r9 + 1 + r10) % k))) := v_mod _ _ (by omega)
    have f1 := add_tups (a := [.str rx, .str px, .str qx]) (b := [.int a, .int b]) (by simp)
    have f2 : zs.length < sizeLine := small_line (by omega)
    obtain ⟨y1, y2, y3, rfl, _, _⟩ := hu
    obtain ⟨_, _, _, rfl, _, _⟩ := hv1
    obtain ⟨_, _, _, rfl, _, _⟩ := hv2
    obtain ⟨_, _, _, rfl, _, _⟩ := hu1
    obtain ⟨x1, x2, x3, rfl, x4, x5⟩ := hu3
    refine ⟨[some (.lst [.int y1, .int y2, .int y3]), some (.val (.int k)), some (.val (.int top)), some (.lst crew), some (.lst ranks), some (.lst hs), some (.lst gs), some (.lst zs), some (.val d), x, y], [some (.lst [.int x1, .int x2, .int x3]), some (.val (.int k)), some (.val (.int top)), some (.lst crew), some (.lst ranks), some (.lst hs), some (.lst gs), some (.lst (zs ++ [.tuple [.str rx, .str px, .str qx, .int a, .int b]])), some (.val d), some (.val (.int r9)), some (.val (.int ((r9 + 1 + r10) % k)))], ?_, ?_, _, _, _, _, _, ⟨x1, x2, x3, rfl, x4, x5⟩, rfl, fun y hy => ?_, by rw [List.length_append, List.length_cons, List.length_nil]; omega⟩
    · simp [bK_some, ap_runDef, ap_sSeq, ap_sAsg, ap_sIf, ap_vIf, ap_oIf, ap_sRet, ap_sExp, ap_sNx, ap_sFor, ap_sPar, ap_mOp, ap_rV, ap_frz, ap_rO, ap_oV, ap_aV, ap_aO, ap_vCon, ap_vTup, ap_oLst, ap_mBo, ap_mTru, ap_bNot, ap_bAnd, ap_bOr, ap_vAnd, ap_vOr, ap_vNot, ap_vIsi, ap_vIsi2, ap_evR0, ap_evR1, ap_evA0, ap_evA1, ap_evO0, ap_evO1, ap_oApp, ap_sSetIx, ap_mCall, ap_iVal, ap_iOp, ap_iPr, ap_oLc, ap_oLc2, ap_pNo, ap_pSome, ap_oSl, ap_rB, ap_vVar, ap_oMove, ap_aR, ap_gNm, ap_gTp, ap_gAll0, ap_gAll1, look_d, look_s, ap_looks0, ap_looks1, ap_conts0, ap_conts1, alook_d, alook_o, alook_r, own0, own_d, own_o, own_r, ifF, seqF, asgG, asgF, retF, expF, ret1, opH, opG, opF, tupG, tupF, lstG, lstF, boF, truH, truG, truF, andF, orF, vandG, vandF, vorG, vorF, notG, notH, notF, isG, isF, isTy2, isF2, evRG, evRF, evAG, evAF, evOG, evOF, chG, chAt, appF, gate, setL, setF3, setF2, setF1, callI, callH, callG, callF, itG, iopG, iopF, iprF, ivF, slI, slH, slG, slF, psF, parG, runG, runF, gaF, lkG, cnG, dsOf, outsOf, setAll, truthD, dropRefs, setRefs, ownL, isTy, wS, v_gt, v_lt, v_le, v_ge, v_eq, v_ne, v_eqB, v_neB, v_add, v_sub, v_int, v_intB, v_abs, v_lenL, v_lenT, v_tupL, v_tupT, v_listL, v_ixL, v_ixT, v_setL, v_isN, PyData.isList, PyData.isTuple, v_eqN, v_eqS, PyData.isBool, PyData.isStr, PyData.isInt, isNone, tYs, ap_oOr, oorG, oorF, toD_val, toD_lst, frzF, frzG, fz_val, fz_lst, lkS, oorE, isE, nd, O.isVal, ap_oOr, oorG, oorF]
    · simp [bK_some, ap_runDef, ap_sSeq, ap_sAsg, ap_sIf, ap_vIf, ap_oIf, ap_sRet, ap_sExp, ap_sNx, ap_sFor, ap_sPar, ap_mOp, ap_rV, ap_frz, ap_rO, ap_oV, ap_aV, ap_aO, ap_vCon, ap_vTup, ap_oLst, ap_mBo, ap_mTru, ap_bNot, ap_bAnd, ap_bOr, ap_vAnd, ap_vOr, ap_vNot, ap_vIsi, ap_vIsi2, ap_evR0, ap_evR1, ap_evA0, ap_evA1, ap_evO0, ap_evO1, ap_oApp, ap_sSetIx, ap_mCall, ap_iVal, ap_iOp, ap_iPr, ap_oLc, ap_oLc2, ap_pNo, ap_pSome, ap_oSl, ap_rB, ap_vVar, ap_oMove, ap_aR, ap_gNm, ap_gTp, ap_gAll0, ap_gAll1, look_d, look_s, ap_looks0, ap_looks1, ap_conts0, ap_conts1, alook_d, alook_o, alook_r, own0, own_d, own_o, own_r, ifF, seqF, asgG, asgF, retF, expF, ret1, opH, opG, opF, tupG, tupF, lstG, lstF, boF, truH, truG, truF, andF, orF, vandG, vandF, vorG, vorF, notG, notH, notF, isG, isF, isTy2, isF2, evRG, evRF, evAG, evAF, evOG, evOF, chG, chAt, appF, gate, setL, setF3, setF2, setF1, callI, callH, callG, callF, itG, iopG, iopF, iprF, ivF, slI, slH, slG, slF, psF, parG, runG, runF, gaF, lkG, cnG, dsOf, outsOf, setAll, truthD, dropRefs, setRefs, ownL, isTy, wS, v_gt, v_lt, v_le, v_ge, v_eq, v_ne, v_eqB, v_neB, v_add, v_sub, v_int, v_intB, v_abs, v_lenL, v_lenT, v_tupL, v_tupT, v_listL, v_ixL, v_ixT, v_setL, v_isN, PyData.isList, PyData.isTuple, v_eqN, v_eqS, PyData.isBool, PyData.isStr, PyData.isInt, isNone, tYs, ap_oOr, oorG, oorF, toD_val, toD_lst, frzF, frzG, fz_val, fz_lst, lkS, oorE, isE, nd, O.isVal, ap_oOr, oorG, oorF, hr9, hr10, hr, hst, f0, f1, appL, f2, p1, q1]
    · rcases List.mem_append.mp hy with z | z
      · exact hh y z
      · rw [List.mem_singleton.mp z]
        exact ⟨_, _, _, _, _, rfl, nrx, npx, nqx, ⟨by omega, by omega⟩, ⟨by omega, by omega⟩⟩) ds _ ⟨u, [], t, none, none, hu, rfl, (fun d h => nomatch h), by rw [List.length_nil]; omega⟩
  exact ⟨s', e1, u', zs, t', x', y', hu', es, hh, by rw [List.length_nil] at hln; omega⟩
def TomeOk (f : FD) : Prop := ∀ (m : Nat) (u : O) (k : Nat) (top : Int), Urn (m + 100) u → 2 ≤ k → k ≤ 8 → 0 ≤ top → top ≤ 40 → ∃ hs gs ds u', Urn m u' ∧ Book hs gs ds ∧ f [u, .val (.int k), .val (.int top)] = some (.val (enc hs gs ds), [u', .val (.int k), .val (.int top)])
theorem tome_ok (tk : TakeOk (c 8)) (of_ : OfOk (c 10)) (st : StrOk (c 13)) : TomeOk (runDef 11 3 (m14 c)) := fun m u k top hu k2 k8 t0 t1 => by
  have M : Tm c (([.str "ann", .str "bob", .str "cat", .str "dan", .str "eve", .str "fay", .str "a", .str "zzzzzzzz"] : List D).take k) [.str "bob", .str "pay", .str "x"] k top := ⟨tk, of_, st, fun d hd => by
    have h := List.mem_of_mem_take hd
    simp only [List.mem_cons, List.not_mem_nil, or_false] at h
    rcases h with h | h | h | h | h | h | h | h <;> exact ⟨_, h, by decide⟩, fun d h => by
    simp only [List.mem_cons, List.not_mem_nil, or_false] at h
    rcases h with h | h | h <;> exact ⟨_, h, by decide⟩, by rw [List.length_take]; simp; omega, rfl, k2, k8, t0, t1⟩
  have w : ∀ xs : List D, cutG xs none (some (k : Int)) = xs.take k := fun xs => cut_to xs k
  obtain ⟨n1, u1, hu1, hn1, a0, a1⟩ := tk (m + 99) u 6 hu (by decide) (by decide)
  obtain ⟨s1, e1, v1, hs, x1, hv1, es1, hh, lh⟩ := tm_loop1 M (m + 75) (t := none) (rng 0 (1 + n1).toNat) u1 (hu1.le (by rw [rng_len]; omega)) (by rw [rng_len]; omega)
  subst es1
  obtain ⟨n2, u2, hu2, hn2, b0, b1⟩ := tk (m + 74) v1 6 hv1 (by decide) (by decide)
  obtain ⟨s2, e2, v2, gs, x2, hv2, es2, hg, lg⟩ := tm_loop2 M (m + 50) (t := x1) (hs := hs) (rng 0 n2.toNat) u2 (hu2.le (by rw [rng_len]; omega)) (by rw [rng_len]; omega)
  subst es2
  obtain ⟨n3, u3, hu3, hn3, c0, c1⟩ := tk (m + 49) v2 9 hv2 (by decide) (by decide)
  obtain ⟨s3, e3, v3, zs, x3, x4, x5, hv3, es3, hz, lz⟩ := tm_loop3 M (m + 9) (t := x2) (hs := hs) (gs := gs) (rng 0 n3.toNat) u3 (hu3.le (by rw [rng_len]; omega)) (by rw [rng_len]; omega)
  subst es3
  obtain ⟨hs', q1, q2, q3, _⟩ := kin_sset h_kin (fun d hd => (hh d hd).row) (by omega)
  obtain ⟨gs', r1, r2, r3, _⟩ := kin_sset g_kin (fun d hd => (hg d hd).row) (by omega)
  obtain ⟨zs', z1, z2, z3, _⟩ := kin_sset d_kin (fun d hd => (hz d hd).row) (by omega)
  refine ⟨hs', gs', zs', v3, hv3.le (by omega), ⟨fun d hd => hh d ((q2 d).mp hd), fun d hd => hg d ((r2 d).mp hd), fun d hd => hz d ((z2 d).mp hd), by omega, by omega, by omega⟩, ?_⟩
  have g1 := gRng1 (j := 1 + n1) (by omega) (by omega)
  have g2 := gRng1 (j := n2) (by omega) (by omega)
  have g3 := gRng1 (j := n3) (by omega) (by omega)
  obtain ⟨_, _, _, rfl, _, _⟩ := hu
  obtain ⟨_, _, _, rfl, _, _⟩ := hu1
  obtain ⟨_, _, _, rfl, _, _⟩ := hv1
  obtain ⟨_, _, _, rfl, _, _⟩ := hu2
  obtain ⟨_, _, _, rfl, _, _⟩ := hv2
  obtain ⟨_, _, _, rfl, _, _⟩ := hu3
  obtain ⟨_, _, _, rfl, _, _⟩ := hv3
  simp [m14, bK_some, ap_runDef, ap_sSeq, ap_sAsg, ap_sIf, ap_vIf, ap_oIf, ap_sRet, ap_sExp, ap_sNx, ap_sFor, ap_sPar, ap_mOp, ap_rV, ap_frz, ap_rO, ap_oV, ap_aV, ap_aO, ap_vCon, ap_vTup, ap_oLst, ap_mBo, ap_mTru, ap_bNot, ap_bAnd, ap_bOr, ap_vAnd, ap_vOr, ap_vNot, ap_vIsi, ap_vIsi2, ap_evR0, ap_evR1, ap_evA0, ap_evA1, ap_evO0, ap_evO1, ap_oApp, ap_sSetIx, ap_mCall, ap_iVal, ap_iOp, ap_iPr, ap_oLc, ap_oLc2, ap_pNo, ap_pSome, ap_oSl, ap_rB, ap_vVar, ap_oMove, ap_aR, ap_gNm, ap_gTp, ap_gAll0, ap_gAll1, look_d, look_s, ap_looks0, ap_looks1, ap_conts0, ap_conts1, alook_d, alook_o, alook_r, own0, own_d, own_o, own_r, ifF, seqF, asgG, asgF, retF, expF, ret1, opH, opG, opF, tupG, tupF, lstG, lstF, boF, truH, truG, truF, andF, orF, vandG, vandF, vorG, vorF, notG, notH, notF, isG, isF, isTy2, isF2, evRG, evRF, evAG, evAF, evOG, evOF, chG, chAt, appF, gate, setL, setF3, setF2, setF1, callI, callH, callG, callF, itG, iopG, iopF, iprF, ivF, slI, slH, slG, slF, psF, parG, runG, runF, gaF, lkG, cnG, dsOf, outsOf, setAll, truthD, dropRefs, setRefs, ownL, isTy, wS, v_gt, v_lt, v_le, v_ge, v_eq, v_ne, v_eqB, v_neB, v_add, v_sub, v_int, v_intB, v_abs, v_lenL, v_lenT, v_tupL, v_tupT, v_listL, v_ixL, v_ixT, v_setL, v_isN, PyData.isList, PyData.isTuple, v_eqN, v_eqS, PyData.isBool, PyData.isStr, PyData.isInt, isNone, tYs, ap_oOr, oorG, oorF, toD_val, toD_lst, frzF, frzG, fz_val, fz_lst, lkS, oorE, isE, nd, O.isVal, ap_oOr, oorG, oorF, gSl, w, hn1, hn2, hn3, g1, g2, g3, e1, e2, e3, gSSet, q1, r1, z1, enc]
end
end Dv.G

/-! is_tuple, is_number, is_name, is_entry, of any value. -/
namespace Dv.G
open PySem PySem.Spec PyProof.Rows L2
variable {c : Nat → FD}
/-! values: the known texts and numbers, so wide, so deep -/
def STRS : List Str := ["ann", "bob", "cat", "dan", "eve", "fay", "a", "zzzzzzzz", "pay", "x", "check", "", "A", "zzzzzzzzz", "Pay", "abcdefghi", "a1", "0"]
def iOk (i : Int) : Prop := (-1 ≤ i ∧ i ≤ 100) ∨ i = 10 ^ 30 ∨ i = 10 ^ 31
def Sm (W : Nat) : Nat → D → Prop
  | 0, _ => False
  | n + 1, .list ds => ds.length ≤ W ∧ ∀ d ∈ ds, Sm W n d
  | n + 1, .tuple ds => ds.length ≤ W ∧ ∀ d ∈ ds, Sm W n d
  | _ + 1, .dict _ => False
  | _ + 1, .int i => iOk i
  | _ + 1, .str s => s ∈ STRS
  | _ + 1, _ => True
theorem sm_up {W V : Nat} (hv : W ≤ V) : ∀ {n m : Nat} {d : D}, n ≤ m → Sm W n d → Sm V m d
  | 0, _, _, _, h => h.elim
  | n + 1, 0, _, hn, _ => absurd hn (by omega)
  | n + 1, m + 1, .list ds, hn, h => ⟨Nat.le_trans h.1 hv, fun d hd => sm_up hv (by omega) (h.2 d hd)⟩
  | n + 1, m + 1, .tuple ds, hn, h => ⟨Nat.le_trans h.1 hv, fun d hd => sm_up hv (by omega) (h.2 d hd)⟩
  | n + 1, m + 1, .dict _, _, h => h.elim
  | n + 1, m + 1, .int i, _, h => h
  | n + 1, m + 1, .str s, _, h => h
  | n + 1, m + 1, .none, _, _ => trivial
  | n + 1, m + 1, .bool _, _, _ => trivial
theorem sm_lv {W : Nat} (hw : W ≤ 1000) : ∀ {n : Nat} {d : D}, Sm W n d → Lv n d
  | 0, _, h => h.elim
  | n + 1, .list ds, h => ⟨Nat.le_trans h.1 hw, fun d hd => sm_lv hw (h.2 d hd)⟩
  | n + 1, .tuple ds, h => ⟨Nat.le_trans h.1 hw, fun d hd => sm_lv hw (h.2 d hd)⟩
  | n + 1, .dict _, h => h.elim
  | n + 1, .int i, _ => trivial
  | n + 1, .str s, _ => trivial
  | n + 1, .none, _ => trivial
  | n + 1, .bool _, _ => trivial
theorem sm_nd {W n : Nat} {d : D} (h : Sm W n d) : nd d = true := by
  cases n with
  | zero => exact h.elim
  | succ n =>
    cases d with
    | dict _ => exact h.elim
    | _ => rfl
theorem sm_str {W n : Nat} {s : Str} (h : Sm W n (.str s)) : s ∈ STRS := by
  cases n with
  | zero => exact h.elim
  | succ n => exact h
theorem strs_len : ∀ s ∈ STRS, s.length ≤ 9 := by decide +kernel
theorem sm_tup {W n : Nat} {xs : List D} (h : Sm W n (.tuple xs)) : xs.length ≤ W ∧ ∀ x ∈ xs, Sm W n x := by
  cases n with
  | zero => exact h.elim
  | succ n => exact ⟨h.1, fun x hx => sm_up (Nat.le_refl _) (Nat.le_succ n) (h.2 x hx)⟩
/-! names -/
def LET : Str := "abcdefghijklmnopqrstuvwxyz"
def inL (c : Nat) : Bool := !(Builtin.Str.occurrences LET ⟨#[c]⟩ 0 LET.length 1).isEmpty
def chr (c : Nat) : Str := ⟨#[c]⟩
def tl (w : Str) : List Nat := w.cps.toList
theorem len_tl (w : Str) : (tl w).length = w.length := rfl
def goodW (w : Str) : Bool := (decide (1 ≤ (w.length : Int)) && decide ((w.length : Int) ≤ 8)) && (tl w).all inL
def nameB : D → Bool
  | .str w => goodW w
  | _ => false
def numB : D → Bool
  | .int i => decide (0 ≤ i)
  | _ => false
def tupB (k : Nat) : D → Bool
  | .tuple xs => decide (xs.length = k)
  | _ => false
theorem truths_b : ∀ bs : List Bool, truths (bs.map PyData.bool) = some bs
  | [] => rfl
  | b :: bs => by
    show (truthD (.bool b)).bind _ = _
    show (some b).bind (fun x => (truths (bs.map PyData.bool)).map fun xs => x :: xs) = _
    rw [truths_b bs]
    rfl
theorem plain_b : ∀ bs : List Bool, PyData.plainAll (bs.map PyData.bool) = true
  | [] => rfl
  | b :: bs => by
    rw [List.map_cons, PyData.plainAll, plain_b bs]
    rfl
theorem v_allB (bs : List Bool) : gAll [.list (bs.map PyData.bool)] = some (.val (.bool (bs.all id))) := by
  refine (if_pos (e := (none : Option O)) (plain_b bs)).trans ?_
  rw [truths_b]
  rfl
theorem vand_f {A B : WV} {s : S} (h : A s = some (.bool false)) : wvAnd A B s = some (.bool false) := by
  unfold wvAnd
  rw [h]
  rfl
theorem vand_t {A B : WV} {s : S} (h : A s = some (.bool true)) : wvAnd A B s = B s := by
  unfold wvAnd
  rw [h]
  rfl
theorem is_v {T : Ty} {W : WV} {s : S} {d : D} (h : W s = some d) (hn : nd d = true) : wIs T W s = some (.bool (isTy T d)) := by
  unfold wIs
  rw [h, Option.bind_some, if_pos hn]
theorem vnot_v {A : WV} {s : S} {b : Bool} (h : A s = some (.bool b)) : wvNot A s = some (.bool (!b)) := by
  unfold wvNot
  rw [h]
  rfl
/-- what all defs are told -/
def Tells (f : FD) (as : List D) (b : Bool) : Prop := f (as.map O.val) = some (.val (.bool b), as.map O.val)
theorem istup_ok {d : D} (hn : nd d = true) (k : Nat) : Tells (runDef 2 2 (m0 c)) [d, .int (k : Nat)] (tupB k d) := by
  have h1 : wIs .tuple (gr 0) [some (.val d), some (.val (.int (k : Nat)))] = some (.bool (isTy .tuple d)) := is_v (gr_v rfl) hn
  have key : ∀ b, wvAnd (wIs .tuple (gr 0)) (wF (wOp gEq [wF (wOp gLenW [gr 0]), gr 1])) [some (.val d), some (.val (.int (k : Nat)))] = some (.bool b) → Tells (runDef 2 2 (m0 c)) [d, .int (k : Nat)] b := fun b h => run_rt (s := [some (.val d), some (.val (.int (k : Nat)))]) rfl (show m0 c [some (.val d), some (.val (.int (k : Nat)))] = _ from ret_v h) rfl
  cases d with
  | tuple xs =>
    refine key _ ((vand_t h1).trans ?_)
    refine op_v (evP2 (op_v (evP1 (gr_v (i := 0) rfl)) (show gLenW [.tuple xs] = some (.val (.int (xs.length : Nat))) from rfl)) (gr_v (i := 1) rfl)) ?_
    have := v_eq (xs.length : Nat) (k : Nat)
    rw [this]
    have e : decide ((xs.length : Int) = (k : Int)) = decide (xs.length = k) := decide_eq_decide.mpr (by omega)
    rw [e]
    rfl
  | _ => exact key _ (vand_f h1)
theorem isnum_ok {d : D} (hn : nd d = true) : Tells (runDef 2 2 (m1 c)) [d, .int 0] (numB d) := by
  have h1 : wIs .int (gr 0) [some (.val d), some (.val (.int 0))] = some (.bool (isTy .int d)) := is_v (gr_v rfl) hn
  have h2 : wvNot (wIs .bool (gr 0)) [some (.val d), some (.val (.int 0))] = some (.bool (!isTy .bool d)) := vnot_v (is_v (gr_v rfl) hn)
  have key : ∀ b, wvAnd (wIs .int (gr 0)) (wvAnd (wvNot (wIs .bool (gr 0))) (wF (wOp gGe [gr 0, gr 1]))) [some (.val d), some (.val (.int 0))] = some (.bool b) → Tells (runDef 2 2 (m1 c)) [d, .int 0] b := fun b h => run_rt (s := [some (.val d), some (.val (.int 0))]) rfl (show m1 c [some (.val d), some (.val (.int 0))] = _ from ret_v h) rfl
  cases d with
  | int i => exact key _ ((vand_t h1).trans ((vand_t h2).trans (op_v (evP2 (gr_v (i := 0) rfl) (gr_v (i := 1) rfl)) (v_ge i 0))))
  | bool b => exact key _ ((vand_t h1).trans (vand_f h2))
  | _ => exact key _ (vand_f h1)
theorem lisnr_ok {d : D} (hn : nd d = true) : Tells (runDef 1 1 (m12 c)) [d] (numB d) := by
  have h1 : wIs .int (gr 0) [some (.val d)] = some (.bool (isTy .int d)) := is_v (gr_v rfl) hn
  have h2 : wvNot (wIs .bool (gr 0)) [some (.val d)] = some (.bool (!isTy .bool d)) := vnot_v (is_v (gr_v rfl) hn)
  have key : ∀ b, wvAnd (wIs .int (gr 0)) (wvAnd (wvNot (wIs .bool (gr 0))) (wF (wOp gGe [gr 0, wC (.int 0)]))) [some (.val d)] = some (.bool b) → Tells (runDef 1 1 (m12 c)) [d] b := fun b h => run_rt (s := [some (.val d)]) rfl (show m12 c [some (.val d)] = _ from ret_v h) rfl
  cases d with
  | int i => exact key _ ((vand_t h1).trans ((vand_t h2).trans (op_v (evP2 (gr_v (i := 0) rfl) (show wC (.int 0) _ = some (.int 0) from rfl)) (v_ge i 0))))
  | bool b => exact key _ ((vand_t h1).trans (vand_f h2))
  | _ => exact key _ (vand_f h1)
theorem chain_le {s : S} {n a b : Int} {i : Nat} (h : wF (wOp gLenW [gr i]) s = some (.int n)) : wF (wChain gLe gLe (wC (.int a)) (wF (wOp gLenW [gr i])) (wC (.int b))) s = some (.bool (decide (a ≤ n) && decide (n ≤ b))) := by
  have e1 : evP [wC (.int a), wF (wOp gLenW [gr i])] s = some [.int a, .int n] := evP2 rfl h
  have e2 : evP [wF (wOp gLenW [gr i]), wC (.int b)] s = some [.int n, .int b] := evP2 h rfl
  unfold wF wChain
  unfold wF at e1 e2
  rw [e1, Option.bind_some, v_le, Option.bind_some]
  show (Option.bind (if decide (a ≤ n) = true then _ else _) _) = _
  cases h1 : decide (a ≤ n) with
  | true =>
    rw [if_pos rfl, e2, Option.bind_some, v_le]
    rfl
  | false => rfl
theorem chain_lt {s : S} {n a b : Int} {i : Nat} (h : wF (wOp gLenW [gr i]) s = some (.int n)) : wChain gLt gLt (wC (.int a)) (wF (wOp gLenW [gr i])) (wC (.int b)) s = some (.val (.bool (decide (a < n) && decide (n < b)))) := by
  have e1 : evP [wC (.int a), wF (wOp gLenW [gr i])] s = some [.int a, .int n] := evP2 rfl h
  have e2 : evP [wF (wOp gLenW [gr i]), wC (.int b)] s = some [.int n, .int b] := evP2 h rfl
  unfold wChain
  rw [e1, Option.bind_some, v_lt, Option.bind_some]
  show (Option.bind (some (decide (a < n))) _) = _
  rw [Option.bind_some]
  cases h1 : decide (a < n) with
  | true =>
    rw [if_pos rfl, e2, Option.bind_some, v_lt]
    rfl
  | false => rfl
theorem len_w {s : S} {i : Nat} {w : Str} (h : s[i]? = some (some (.val (.str w)))) (hw : w.length ≤ 1000) : wF (wOp gLenW [gr i]) s = some (.int w.length) := op_v (evP1 (gr_v h)) (if_pos (line_of hw))
theorem name_str {w : Str} (hw : w.length ≤ 1000) : Tells (runDef 2 1 (m2 c)) [.str w] (goodW w) := by
  refine run_rt (s := [some (.val (.str w)), none]) rfl (?_ : m2 c [some (.val (.str w)), none] = _) rfl
  have q := wLc_ok (vs := [1]) (m := jV (gv 0)) (g := gNm 1) (t := wYs) (e := wF (wOp gInW [gr 1, wC (.str LET)])) (s := [some (.val (.str w)), none]) (i := fun c => PyData.str (chr c)) (fun _ => true) (fun c => PyData.bool (inL c)) (ds := tl w) rfl rfl (by rw [len_tl]; exact hw) fun d _ => ⟨[some (.val (.str w)), some (.val (.str (chr d)))], rfl, rfl, fun _ => op_v (evP2 (gr_v rfl) rfl) rfl⟩
  rw [List.filter_eq_self.mpr fun _ _ => rfl] at q
  have q : wLc [1] (jV (gv 0)) (gNm 1) wYs (wF (wOp gInW [gr 1, wC (.str LET)])) [some (.val (.str w)), none] = some (.lst (((tl w).map inL).map PyData.bool)) := by
    rw [List.map_map]
    exact q
  have ha := v_allB ((tl w).map inL)
  rw [List.all_map] at ha
  exact ret_v (vand_v (a := true) (b := goodW w) rfl (vand_v (chain_le (len_w rfl hw)) (op_v (evP1 (wF_l q)) ha)))
theorem name_ok {d : D} (hn : nd d = true) (hs : ∀ w, d = .str w → w.length ≤ 1000) : Tells (runDef 2 1 (m2 c)) [d] (nameB d) := by
  have h1 : wIs .str (gr 0) [some (.val d), none] = some (.bool (isTy .str d)) := is_v (gr_v rfl) hn
  have key : isTy .str d = false → Tells (runDef 2 1 (m2 c)) [d] false := fun h => run_rt (s := [some (.val d), none]) rfl (show m2 c [some (.val d), none] = _ from ret_v (vand_f (by rw [h1, h]))) rfl
  cases d with
  | str w => exact name_str (hs w rfl)
  | _ => exact key rfl
def isW (w : Str) : Bool := (decide (0 < (w.length : Int)) && decide ((w.length : Int) < 9)) && (tl w).all inL
theorem isW_good (w : Str) : isW w = goodW w := by
  unfold isW goodW
  have e1 : decide (0 < (w.length : Int)) = decide (1 ≤ (w.length : Int)) := decide_eq_decide.mpr (by omega)
  have e2 : decide ((w.length : Int) < 9) = decide ((w.length : Int) ≤ 8) := decide_eq_decide.mpr (by omega)
  rw [e1, e2]
theorem v_eqE (xs : List Str) : gEq [.list (sD xs), .list []] = some (.val (.bool xs.isEmpty)) := by
  have f : flat2 (.list (sD xs)) (.list []) = true := by
    unfold flat2
    rw [decide_eq_true (show (PyData.list []).depth ≤ 64 by simp [PyData.depth, PyData.depthAll]), Bool.or_true]
    show (true && (PyData.plainAll (sD xs) && PyData.plainAll [])) = true
    rw [plain_sD]
    rfl
  refine (if_pos (e := (none : Option O)) f).trans ?_
  cases xs with
  | nil => rfl
  | cons x xs =>
    show some (O.val (.bool (PyData.eqv (.list (.str x :: sD xs)) (.list [])))) = _
    rw [PyData.eqv, PyData.eqvAll]
    rfl
theorem flt_emp {α : Type} (p : α → Bool) (f : α → Str) : ∀ l : List α, ((l.filter fun x => !p x).map f).isEmpty = l.all p
  | [] => rfl
  | x :: l => by
    rw [List.all_cons]
    cases h : p x with
    | true =>
      rw [List.filter_cons_of_neg (by rw [h]; simp), flt_emp p f l]
      rfl
    | false =>
      rw [List.filter_cons_of_pos (by rw [h]; rfl)]
      rfl
theorem if_ret {t : WB} {A : WO} {r : MS} {s : S} {o : O} (h : t s = some true) (h2 : A s = some o) : sSeq (sIf (lB t) (sRet (lO A)) sNx) r s = some (.rt o, s) := by
  unfold sSeq sIf lB sRet lO
  rw [h]
  show ((((A s).map fun o => (o, s)).map fun p => (Fl.rt p.1, p.2)).bind _) = _
  rw [h2]
  rfl
theorem or_t {t u : WB} {s : S} (h : t s = some true) : wOr t u s = some true := by
  unfold wOr
  rw [h]
  rfl
theorem word_str {w : Str} (hw : w.length ≤ 1000) : Tells (runDef 2 1 (m15 c)) [.str w] (goodW w) := by
  rw [← isW_good]
  have q := wLc_ok (vs := [1]) (m := jV (gv 0)) (g := gNm 1) (t := wBo (wOp gNotInW [gr 1, wC (.str LET)])) (e := gv 1) (s := [some (.val (.str w)), none]) (i := fun c => PyData.str (chr c)) (fun c => !inL c) (fun c => PyData.str (chr c)) (ds := tl w) rfl rfl (by rw [len_tl]; exact hw) fun d _ => ⟨[some (.val (.str w)), some (.val (.str (chr d)))], rfl, bo_v (op_o (evP2 (gr_v rfl) rfl) rfl), fun _ => gv_v rfl⟩
  have q2 : wF (wLc [1] (jV (gv 0)) (gNm 1) (wBo (wOp gNotInW [gr 1, wC (.str LET)])) (gv 1)) [some (.val (.str w)), none] = some (.list (sD (((tl w).filter fun c => !inL c).map chr))) := by
    rw [wF_l q]
    unfold sD
    rw [List.map_map]
    rfl
  have he := v_eqE (((tl w).filter fun c => !inL c).map chr)
  rw [flt_emp] at he
  have t : wOr (wNot (wTru (wIs .str (gr 0)))) (wNot (wBo (wChain gLt gLt (wC (.int 0)) (wF (wOp gLenW [gr 0])) (wC (.int 9))))) [some (.val (.str w)), none] = some (!(decide (0 < (w.length : Int)) && decide ((w.length : Int) < 9))) := by
    rw [or_f rfl]
    unfold wNot
    rw [bo_v (chain_lt (len_w rfl hw))]
    rfl
  refine run_rt (s := [some (.val (.str w)), none]) rfl (?_ : m15 c [some (.val (.str w)), none] = _) rfl
  cases hb : (decide (0 < (w.length : Int)) && decide ((w.length : Int) < 9)) with
  | true =>
    rw [hb] at t
    have e : isW w = (tl w).all inL := by
      unfold isW
      rw [hb]
      rfl
    rw [e]
    exact (if_no t).trans (ret_o (op_o (evP2 q2 rfl) he))
  | false =>
    rw [hb] at t
    have e : isW w = false := by
      unfold isW
      rw [hb]
      rfl
    rw [e]
    exact if_ret t rfl
theorem word_ok {d : D} (hn : nd d = true) (hs : ∀ w, d = .str w → w.length ≤ 1000) : Tells (runDef 2 1 (m15 c)) [d] (nameB d) := by
  have h1 : wIs .str (gr 0) [some (.val d), none] = some (.bool (isTy .str d)) := is_v (gr_v rfl) hn
  have key : isTy .str d = false → Tells (runDef 2 1 (m15 c)) [d] false := fun h => run_rt (s := [some (.val d), none]) rfl (show m15 c [some (.val d), none] = _ from if_ret (or_t (not_v (a := false) (tru_b (by rw [h1, h])))) rfl) rfl
  cases d with
  | str w => exact word_str (hs w rfl)
  | _ => exact key rfl
end Dv.G

/-! is_entry, rises, are_entries, is_book, and the law's own judge. -/
namespace Dv.G
open PySem PySem.Spec PyProof.Rows L2
variable {c : Nat → FD}
/-! values: sixty wide, sixty-four deep -/
def T (d : D) : Prop := Sm 60 64 d
theorem t_nd {d : D} (h : T d) : nd d = true := sm_nd h
theorem t_str {d : D} (h : T d) : ∀ w, d = .str w → w.length ≤ 1000 := fun w e => by
  subst e
  exact Nat.le_trans (strs_len w (sm_str h)) (by decide)
theorem t_tup {xs : List D} (h : T (.tuple xs)) : xs.length ≤ 60 ∧ ∀ x ∈ xs, T x := sm_tup h
/-! orders of one kind -/
theorem k_anti {R : D → Prop} {m : Bool} (k : Kin R m) {a b : D} (ha : R a) (hb : R b) (h : dLe a b = true) (h2 : dLe b a = true) : a = b := by
  obtain ⟨x, hx, _⟩ := k.sk a ha
  obtain ⟨y, hy, _⟩ := k.sk b hb
  have al := k.al a b ha hb
  have ex := toSK_d hx
  have ey := toSK_d hy
  subst ex
  subst ey
  exact congrArg SK.d (sk_anti al h h2)
theorem k_lt {R : D → Prop} {m : Bool} (k : Kin R m) {a b : D} (ha : R a) (hb : R b) (h : dLe a b = true) (ne : a ≠ b) : PySem.W.dataLt a b = true := by
  cases e : PySem.W.dataLt a b with
  | true => rfl
  | false =>
    have h2 : dLe b a = true := by
      unfold dLe
      rw [e]
      rfl
    exact absurd (k_anti k ha hb h h2) ne
theorem k_ord {R : D → Prop} {m : Bool} (k : Kin R m) {a b : D} (ha : R a) (hb : R b) (hn : isNone a = false) : ordOk a b = true := by
  unfold ordOk flat2
  rw [k.al a b ha hb, decide_eq_true (k.dp a ha), k.pl a ha, k.pl b hb]
  cases a <;> first
    | rfl
    | cases hn
/-! ### all -/
theorem allW {i : Nat} {m : WI} {e : WV} {s : S} {xs : List D} (p : D → Bool) (hc : s[i]? = some none) (hm : m s = some xs) (hl : xs.length ≤ 1000) (h : ∀ x ∈ xs, e (s.set i (some (.val x))) = some (.bool (p x))) : wF (wOp gAll [wF (wLc [i] m (gNm i) wYs e)]) s = some (.bool (xs.all p)) := by
  have hi : i < s.length := (List.getElem?_eq_some_iff.mp hc).1
  have q := wLc_ok (vs := [i]) (m := m) (g := gNm i) (t := wYs) (e := e) (s := s) (i := fun x : D => x) (fun _ => true) (fun x => PyData.bool (p x)) (ds := xs) (by
    unfold clr
    rw [List.all_cons, hc]
    rfl) (by rw [hm, List.map_id']) hl fun d hd => ⟨_, gNm_at hi, rfl, fun _ => h d hd⟩
  rw [List.filter_eq_self.mpr fun _ _ => rfl] at q
  have ha := v_allB (xs.map p)
  rw [List.map_map, List.all_map] at ha
  exact op_v (evP1 (wF_l q)) ha
/-! ### is_entry -/
def leB : D → D → Bool
  | .int a, .int b => decide (a ≤ b)
  | _, _ => false
def entL (ns : List D) (x y : D) : Bool := ns.all nameB && ((numB x && numB y) && leB x y)
def entB : D → Bool
  | .tuple [a, x, y] => entL [a] x y
  | .tuple [a, b, x, y] => entL [a, b] x y
  | .tuple [a, b, e, x, y] => entL [a, b, e] x y
  | _ => false
def entK (k : Nat) (d : D) : Bool := tupB k d && entB d
def TupF (f : FD) : Prop := ∀ (d : D) (k : Nat), nd d = true → Tells f [d, .int (k : Nat)] (tupB k d)
def NumF (f : FD) : Prop := ∀ d : D, nd d = true → Tells f [d, .int 0] (numB d)
def NamF (f : FD) : Prop := ∀ d : D, T d → Tells f [d] (nameB d)
theorem tell_v {f : FD} {ms : List (S → Option (List D))} {s : S} {as : List D} {b : Bool} (he : evS ms s = some as) (h : Tells f as b) : wF (wCall f ms) s = some (.bool b) := call_v he h
theorem num_le {x y : D} (h : (numB x && numB y) = true) : gLe [x, y] = some (.val (.bool (leB x y))) := by
  rw [Bool.and_eq_true] at h
  cases x <;> first
    | cases h.1
    | skip
  cases y <;> first
    | cases h.2
    | skip
  exact v_le _ _
theorem entry_core (h0 : TupF (c 0)) (h1 : NumF (c 1)) (h2 : NamF (c 2)) {xs ns : List D} {x y : D} (e1 : gSl none (some (-2)) (.tuple xs) = some (.val (.tuple ns))) (e2 : gSl (some (-2)) none (.tuple xs) = some (.val (.tuple [x, y]))) (e3 : gIxW [.tuple xs, .int (-2)] = some (.val x)) (e4 : gIxW [.tuple xs, .int (-1)] = some (.val y)) (tn : ∀ z ∈ ns, T z) (tx : T x) (ty : T y) (hl : ns.length ≤ 1000) : Tells (runDef 3 2 (m4 c)) [.tuple xs, .int (xs.length : Nat)] (entL ns x y) := by
  have q0 : wF (wCall (c 0) [s1 (gv 0), s1 (gv 1)]) [some (.val (.tuple xs)), some (.val (.int (xs.length : Nat))), none] = some (.bool (tupB xs.length (.tuple xs))) := tell_v (evS1 (gv_v rfl) (evS1 (gv_v rfl) evS0)) (h0 _ _ rfl)
  have q1 : wF (wOp gAll [wF (wLc [2] (jV (wF (wSl (gr 0) wNo (wSo (wF (wOp gNeg [wC (.int 2)])))))) (gNm 2) (wYs) (wF (wCall (c 2) [s1 (gv 2)])))]) [some (.val (.tuple xs)), some (.val (.int (xs.length : Nat))), none] = some (.bool (ns.all nameB)) := allW nameB rfl (by
    show (wF _ _).bind itemsW = _
    rw [wF_v (sl_o (gr_v rfl) (show wNo _ = some none from rfl) (show wSo _ _ = some (some (-2)) from rfl) e1)]
    rfl) hl fun z hz => tell_v (evS1 (gv_v rfl) evS0) (h2 z (tn z hz))
  have q2 : wF (wOp gAll [wF (wLc [2] (jV (wF (wSl (gr 0) (wSo (wF (wOp gNeg [wC (.int 2)]))) wNo))) (gNm 2) (wYs) (wF (wCall (c 1) [s1 (gv 2), s1 (wC (.int 0))])))]) [some (.val (.tuple xs)), some (.val (.int (xs.length : Nat))), none] = some (.bool ([x, y].all numB)) := allW numB rfl (by
    show (wF _ _).bind itemsW = _
    rw [wF_v (sl_o (gr_v rfl) (show wSo _ _ = some (some (-2)) from rfl) (show wNo _ = some none from rfl) e2)]
    rfl) (by show (2 : Nat) ≤ 1000; decide) fun z hz => by
      have tz : T z := by
        rcases List.mem_cons.mp hz with rfl | hz
        · exact tx
        · rw [List.mem_singleton.mp hz]
          exact ty
      exact tell_v (evS1 (gv_v rfl) (evS1 rfl evS0)) (h1 z (t_nd tz))
  have eT : tupB xs.length (.tuple xs) = true := decide_eq_true rfl
  have en : ([x, y].all numB) = (numB x && numB y) := by simp
  rw [eT] at q0
  rw [en] at q2
  refine run_rt (s := [some (.val (.tuple xs)), some (.val (.int (xs.length : Nat))), none]) rfl (?_ : m4 c [some (.val (.tuple xs)), some (.val (.int (xs.length : Nat))), none] = _) rfl
  unfold entL
  cases hn : ns.all nameB with
  | false =>
    rw [hn] at q1
    exact if_ret ((or_f (nt_t q0)).trans (not_v (a := false) (tru_b q1))) rfl
  | true =>
    rw [hn] at q1
    refine (if_no ((or_f (nt_t q0)).trans (nt_t q1))).trans (ret_v ?_)
    cases hm : numB x && numB y with
    | false =>
      rw [hm] at q2
      exact vand_f q2
    | true =>
      rw [hm] at q2
      exact (vand_t q2).trans (op_v (evP2 (op_v (evP2 (gr_v rfl) rfl) e3) (op_v (evP2 (gr_v rfl) rfl) e4)) (num_le hm))
theorem entry_no (h0 : TupF (c 0)) {d : D} (t : T d) {k : Nat} (h : tupB k d = false) : Tells (runDef 3 2 (m4 c)) [d, .int (k : Nat)] false := by
  have q0 : wF (wCall (c 0) [s1 (gv 0), s1 (gv 1)]) [some (.val d), some (.val (.int (k : Nat))), none] = some (.bool (tupB k d)) := tell_v (evS1 (gv_v rfl) (evS1 (gv_v rfl) evS0)) (h0 _ _ (t_nd t))
  rw [h] at q0
  exact run_rt (s := [some (.val d), some (.val (.int (k : Nat))), none]) rfl (show m4 c [some (.val d), some (.val (.int (k : Nat))), none] = _ from if_ret (or_t (not_v (a := false) (tru_b q0))) rfl) rfl
def EntF (f : FD) : Prop := ∀ (d : D) (k : Nat), T d → k = 3 ∨ k = 4 ∨ k = 5 → Tells f [d, .int (k : Nat)] (entK k d)
theorem entry_ok (h0 : TupF (c 0)) (h1 : NumF (c 1)) (h2 : NamF (c 2)) : EntF (runDef 3 2 (m4 c)) := fun d k t hk => by
  cases ht : tupB k d with
  | false =>
    unfold entK
    rw [ht]
    exact entry_no h0 t ht
  | true =>
    cases d with
    | tuple xs =>
      have e : xs.length = k := of_decide_eq_true ht
      obtain ⟨_, tm⟩ := t_tup t
      have q : entK k (.tuple xs) = entB (.tuple xs) := by
        unfold entK
        rw [ht]
        rfl
      rw [q]
      subst e
      match xs, hk, tm with
      | [], hk, _ => exact absurd hk (by decide)
      | [_], hk, _ => exact absurd hk (by simp)
      | [_, _], hk, _ => exact absurd hk (by simp)
      | [a, x, y], _, tm => exact entry_core h0 h1 h2 (ns := [a]) rfl rfl rfl rfl (fun z hz => tm z (by simp at hz; simp [hz])) (tm x (by simp)) (tm y (by simp)) (by simp)
      | [a, b, x, y], _, tm => exact entry_core h0 h1 h2 (ns := [a, b]) rfl rfl rfl rfl (fun z hz => tm z (by simp at hz; rcases hz with h | h <;> simp [h])) (tm x (by simp)) (tm y (by simp)) (by simp)
      | [a, b, e, x, y], _, tm => exact entry_core h0 h1 h2 (ns := [a, b, e]) rfl rfl rfl rfl (fun z hz => tm z (by simp at hz; rcases hz with h | h | h <;> simp [h])) (tm x (by simp)) (tm y (by simp)) (by simp)
      | _ :: _ :: _ :: _ :: _ :: _ :: _, hk, _ => exact absurd hk (by simp)
    | _ => cases ht
/-- what a good row is -/
theorem name_str' {d : D} (h : nameB d = true) : ∃ w, d = .str w := by
  cases d with
  | str w => exact ⟨w, rfl⟩
  | _ => cases h
theorem num_int' {d : D} (h : numB d = true) : ∃ i, d = .int i := by
  cases d with
  | int i => exact ⟨i, rfl⟩
  | _ => cases h
theorem entL_of {ns : List D} {x y : D} (h : entL ns x y = true) : (∀ z ∈ ns, ∃ w, z = .str w) ∧ (∃ i, x = .int i) ∧ ∃ j, y = .int j := by
  unfold entL at h
  rw [Bool.and_eq_true, Bool.and_eq_true, Bool.and_eq_true] at h
  exact ⟨fun z hz => name_str' (List.all_eq_true.mp h.1 z hz), num_int' h.2.1.1, num_int' h.2.1.2⟩
def RowK (k : Nat) (d : D) : Prop := if k = 3 then GRow d else if k = 4 then HRow d else DRow d
theorem ent_row {k : Nat} {d : D} (h : entK k d = true) : RowK k d := by
  unfold entK at h
  rw [Bool.and_eq_true] at h
  obtain ⟨h1, h2⟩ := h
  cases d with
  | tuple xs =>
    have e : xs.length = k := of_decide_eq_true h1
    subst e
    match xs, h2 with
    | [a, x, y], h2 =>
      obtain ⟨hn, ⟨i, rfl⟩, ⟨j, rfl⟩⟩ := entL_of (show entL [a] x y = true from h2)
      obtain ⟨w, rfl⟩ := hn a (by simp)
      exact ⟨w, i, j, rfl⟩
    | [a, b, x, y], h2 =>
      obtain ⟨hn, ⟨i, rfl⟩, ⟨j, rfl⟩⟩ := entL_of (show entL [a, b] x y = true from h2)
      obtain ⟨w, rfl⟩ := hn a (by simp)
      obtain ⟨v, rfl⟩ := hn b (by simp)
      exact ⟨w, v, i, j, rfl⟩
    | [a, b, e, x, y], h2 =>
      obtain ⟨hn, ⟨i, rfl⟩, ⟨j, rfl⟩⟩ := entL_of (show entL [a, b, e] x y = true from h2)
      obtain ⟨w, rfl⟩ := hn a (by simp)
      obtain ⟨v, rfl⟩ := hn b (by simp)
      obtain ⟨u, rfl⟩ := hn e (by simp)
      exact ⟨w, v, u, i, j, rfl⟩
    | [], h2 => cases h2
    | [_], h2 => cases h2
    | [_, _], h2 => cases h2
    | _ :: _ :: _ :: _ :: _ :: _ :: _, h2 => cases h2
  | _ => cases h1
theorem row_kin {k : Nat} (hk : k = 3 ∨ k = 4 ∨ k = 5) : Kin (RowK k) true := by
  rcases hk with rfl | rfl | rfl
  · exact g_kin
  · exact h_kin
  · exact d_kin
theorem row_tup {k : Nat} {d : D} (h : RowK k d) : ∃ xs, d = .tuple xs := by
  unfold RowK at h
  split at h
  · obtain ⟨_, _, _, e⟩ := h
    exact ⟨_, e⟩
  · split at h
    · obtain ⟨_, _, _, _, e⟩ := h
      exact ⟨_, e⟩
    · obtain ⟨_, _, _, _, _, e⟩ := h
      exact ⟨_, e⟩
/-! ### rises -/
def risB (xs : List D) : Bool := (xs.zip (xs.drop 1)).all fun p => PySem.W.dataLt p.1 p.2
theorem zw : ∀ xs ys : List D, List.zipWith (fun x y => PyData.tuple [x, y]) xs ys = (xs.zip ys).map fun p => PyData.tuple [p.1, p.2]
  | [], _ => by simp
  | _ :: _, [] => by simp
  | x :: xs, y :: ys => by
    rw [List.zipWith_cons_cons, List.zip_cons_cons, List.map_cons, zw xs ys]
def RisF (f : FD) : Prop := ∀ (xs : List D) (k : Nat), xs.length ≤ 60 → k = 3 ∨ k = 4 ∨ k = 5 → (∀ x ∈ xs, RowK k x) → Tells f [.tuple xs] (risB xs)
theorem rises_ok : RisF (runDef 3 1 (m3 c)) := fun xs k hl hk hr => by
  have q := wLc_ok (vs := [1, 2]) (m := jS wZip [s1 (gv 0), s1 (wF (wSl (gr 0) (wSo (wC (.int 1))) wNo))]) (g := gTp [gNm 1, gNm 2]) (t := wYs) (e := wF (wOp gLt [gr 1, gr 2])) (s := [some (.val (.tuple xs)), none, none]) (i := fun p : D × D => PyData.tuple [p.1, p.2]) (fun _ => true) (fun p => PyData.bool (PySem.W.dataLt p.1 p.2)) (ds := xs.zip (xs.drop 1)) rfl (by
    have e : wF (wSl (gr 0) (wSo (wC (.int 1))) wNo) [some (.val (.tuple xs)), none, none] = some (.tuple (xs.drop 1)) := wF_v (sl_o (gr_v rfl) (show wSo _ _ = some (some 1) from rfl) (show wNo _ = some none from rfl) (by
      show some (O.val (.tuple (cutG xs (some 1) none))) = _
      rw [show cutG xs (some 1) none = xs.drop 1 from by unfold cutG; cases xs <;> simp [HT.sIx]]))
    show (evS _ _).bind wZip = _
    rw [evS1 (gv_v rfl) (evS1 e evS0)]
    show some (List.zipWith (fun x y => PyData.tuple [x, y]) xs (xs.drop 1)) = _
    rw [zw]) (by rw [List.length_zip]; omega) fun p hp => ⟨[some (.val (.tuple xs)), some (.val p.1), some (.val p.2)], rfl, rfl, fun _ => by
      have m1 : p.1 ∈ xs := (List.of_mem_zip hp).1
      have m2 : p.2 ∈ xs := List.mem_of_mem_drop (List.of_mem_zip hp).2
      obtain ⟨ys, ey⟩ := row_tup (hr _ m1)
      exact op_v (evP2 (gr_v rfl) (gr_v rfl)) (if_pos (k_ord (row_kin hk) (hr _ m1) (hr _ m2) (by rw [ey]; rfl)))⟩
  rw [List.filter_eq_self.mpr fun _ _ => rfl] at q
  have ha := v_allB ((xs.zip (xs.drop 1)).map fun p => PySem.W.dataLt p.1 p.2)
  rw [List.map_map, List.all_map] at ha
  exact run_rt (s := [some (.val (.tuple xs)), none, none]) rfl (show m3 c [some (.val (.tuple xs)), none, none] = _ from ret_o (op_o (evP1 (wF_l q)) ha)) rfl
/-! ### are_entries -/
def arB (k : Nat) : D → Bool
  | .tuple xs => xs.all (entK k) && risB xs
  | _ => false
def ArF (f : FD) : Prop := ∀ (d : D) (k : Nat), T d → k = 3 ∨ k = 4 ∨ k = 5 → Tells f [d, .int (k : Nat)] (arB k d)
theorem are_ok (h3 : RisF (c 3)) (h4 : EntF (c 4)) : ArF (runDef 3 2 (m5 c)) := fun d k t hk => by
  have h1 : wIs .tuple (gr 0) [some (.val d), some (.val (.int (k : Nat))), none] = some (.bool (isTy .tuple d)) := is_v (gr_v rfl) (t_nd t)
  have key : ∀ b, wvAnd (wIs .tuple (gr 0)) (wvAnd (wF (wOp gAll [wF (wLc [2] (jV (gv 0)) (gNm 2) (wYs) (wF (wCall (c 4) [s1 (gv 2), s1 (gv 1)])))])) (wF (wCall (c 3) [s1 (gv 0)]))) [some (.val d), some (.val (.int (k : Nat))), none] = some (.bool b) → Tells (runDef 3 2 (m5 c)) [d, .int (k : Nat)] b := fun b h => run_rt (s := [some (.val d), some (.val (.int (k : Nat))), none]) rfl (show m5 c [some (.val d), some (.val (.int (k : Nat))), none] = _ from ret_v h) rfl
  cases d with
  | tuple xs =>
    obtain ⟨hl, tm⟩ := t_tup t
    have q : wF (wOp gAll [wF (wLc [2] (jV (gv 0)) (gNm 2) (wYs) (wF (wCall (c 4) [s1 (gv 2), s1 (gv 1)])))]) [some (.val (.tuple xs)), some (.val (.int (k : Nat))), none] = some (.bool (xs.all (entK k))) := allW (entK k) rfl rfl (by omega) fun z hz => tell_v (evS1 (gv_v rfl) (evS1 (gv_v rfl) evS0)) (h4 z k (tm z hz) hk)
    refine key (xs.all (entK k) && risB xs) ((vand_t h1).trans ?_)
    cases hb : xs.all (entK k) with
    | false =>
      rw [hb] at q
      exact vand_f q
    | true =>
      rw [hb] at q
      exact (vand_t q).trans (tell_v (evS1 (gv_v rfl) evS0) (h3 xs k hl hk fun x hx => ent_row (List.all_eq_true.mp hb x hx)))
  | _ => exact key _ (vand_f h1)
/-! ### is_book -/
def neB : D → Bool
  | .tuple [_, .str p, .str q, _, _] => !(p == q)
  | _ => false
def nesB : D → Bool
  | .tuple xs => xs.all neB
  | _ => false
def bookB : D → Bool
  | .tuple [a, b, e] => arB 4 a && (arB 3 b && (arB 5 e && nesB e))
  | _ => false
def BookF (f : FD) : Prop := ∀ d, T d → Tells f [d] (bookB d)
theorem ne_ok {d : D} (h : RowK 5 d) {s : S} {i : Nat} (hs : s[i]? = some (some (.val d))) : wF (wOp gNe [wF (wOp gIxW [gr i, wC (.int 1)]), wF (wOp gIxW [gr i, wC (.int 2)])]) s = some (.bool (neB d)) := by
  obtain ⟨r, p, q, a, b, rfl⟩ := (show DRow d from h)
  exact op_v (evP2 (op_v (evP2 (gr_v hs) rfl) (show gIxW [.tuple [.str r, .str p, .str q, .int a, .int b], .int 1] = some (.val (.str p)) from rfl)) (op_v (evP2 (gr_v hs) rfl) (show gIxW [.tuple [.str r, .str p, .str q, .int a, .int b], .int 2] = some (.val (.str q)) from rfl))) (v_neSS p q)
theorem book_three (h0 : TupF (c 0)) (h5 : ArF (c 5)) {x y z : D} (tx : T x) (ty : T y) (tz : T z) : Tells (runDef 2 1 (m6 c)) [.tuple [x, y, z]] (bookB (.tuple [x, y, z])) := by
  have q0 : wF (wCall (c 0) [s1 (gv 0), s1 (wC (.int 3))]) [some (.val (.tuple [x, y, z])), none] = some (.bool true) := tell_v (evS1 (gv_v rfl) (evS1 rfl evS0)) (h0 (.tuple [x, y, z]) 3 rfl)
  have q1 : wF (wCall (c 5) [s1 (wF (wOp gIxW [gr 0, wC (.int 0)])), s1 (wC (.int 4))]) [some (.val (.tuple [x, y, z])), none] = some (.bool (arB 4 x)) := tell_v (evS1 (op_v (evP2 (gr_v rfl) rfl) (show gIxW [.tuple [x, y, z], .int 0] = some (.val x) from rfl)) (evS1 rfl evS0)) (h5 x 4 tx (by simp))
  have q2 : wF (wCall (c 5) [s1 (wF (wOp gIxW [gr 0, wC (.int 1)])), s1 (wC (.int 3))]) [some (.val (.tuple [x, y, z])), none] = some (.bool (arB 3 y)) := tell_v (evS1 (op_v (evP2 (gr_v rfl) rfl) (show gIxW [.tuple [x, y, z], .int 1] = some (.val y) from rfl)) (evS1 rfl evS0)) (h5 y 3 ty (by simp))
  have q3 : wF (wCall (c 5) [s1 (wF (wOp gIxW [gr 0, wC (.int 2)])), s1 (wC (.int 5))]) [some (.val (.tuple [x, y, z])), none] = some (.bool (arB 5 z)) := tell_v (evS1 (op_v (evP2 (gr_v rfl) rfl) (show gIxW [.tuple [x, y, z], .int 2] = some (.val z) from rfl)) (evS1 rfl evS0)) (h5 z 5 tz (by simp))
  refine run_rt (s := [some (.val (.tuple [x, y, z])), none]) rfl (?_ : m6 c [some (.val (.tuple [x, y, z])), none] = _) rfl
  show _ = some (Fl.rt (.val (.bool (arB 4 x && (arB 3 y && (arB 5 z && nesB z))))), _)
  have n0 := nt_t q0
  cases b1 : arB 4 x with
  | false =>
    rw [b1] at q1
    exact if_ret ((or_f n0).trans (or_t (not_v (a := false) (tru_b q1)))) rfl
  | true =>
    rw [b1] at q1
    cases b2 : arB 3 y with
    | false =>
      rw [b2] at q2
      exact if_ret ((or_f n0).trans ((or_f (nt_t q1)).trans (not_v (a := false) (tru_b q2)))) rfl
    | true =>
      rw [b2] at q2
      refine (if_no ((or_f n0).trans ((or_f (nt_t q1)).trans (nt_t q2)))).trans (ret_v ?_)
      cases b3 : arB 5 z with
      | false =>
        rw [b3] at q3
        exact vand_f q3
      | true =>
        rw [b3] at q3
        refine (vand_t q3).trans ?_
        cases z with
        | tuple zs =>
          have ha : zs.all (entK 5) = true := (Bool.and_eq_true _ _ ▸ b3 : _ ∧ _).1
          exact allW neB rfl (by
            show (wF _ _).bind itemsW = _
            rw [op_v (evP2 (gr_v rfl) rfl) (show gIxW [.tuple [x, y, .tuple zs], .int 2] = some (.val (.tuple zs)) from rfl)]
            rfl) (by have := (t_tup tz).1; omega) fun r hr => ne_ok (ent_row (List.all_eq_true.mp ha r hr)) rfl
        | _ => cases b3
theorem book_ok (h0 : TupF (c 0)) (h5 : ArF (c 5)) : BookF (runDef 2 1 (m6 c)) := fun d t => by
  cases ht : tupB 3 d with
  | false =>
    have q0 : wF (wCall (c 0) [s1 (gv 0), s1 (wC (.int 3))]) [some (.val d), none] = some (.bool (tupB 3 d)) := tell_v (evS1 (gv_v rfl) (evS1 rfl evS0)) (h0 d 3 (t_nd t))
    rw [ht] at q0
    have e : bookB d = false := by
      cases d with
      | tuple xs =>
        have := of_decide_eq_false ht
        match xs, this with
        | [], _ => rfl
        | [_], _ => rfl
        | [_, _], _ => rfl
        | [_, _, _], h => exact absurd rfl h
        | _ :: _ :: _ :: _ :: _, _ => rfl
      | _ => rfl
    rw [e]
    exact run_rt (s := [some (.val d), none]) rfl (show m6 c [some (.val d), none] = _ from if_ret (or_t (not_v (a := false) (tru_b q0))) rfl) rfl
  | true =>
    cases d with
    | tuple xs =>
      obtain ⟨_, tm⟩ := t_tup t
      match xs, of_decide_eq_true ht, tm with
      | [x, y, z], _, tm => exact book_three h0 h5 (tm x (by simp)) (tm y (by simp)) (tm z (by simp))
    | _ => cases ht
end Dv.G

/-! The law's own judge: are_lines, is_tome. -/
namespace Dv.G
open PySem PySem.Spec PyProof.Rows L2
variable {c : Nat → FD}
theorem is_t {s : S} {i : Nat} {xs : List D} (h : s[i]? = some (some (.val (.tuple xs)))) : wIs .tuple (gr i) s = some (.bool true) := is_v (T := .tuple) (d := .tuple xs) (gr_v h) rfl
/-! rows: equal or not -/
theorem eqv_str' (x y : Str) : PyData.eqv (.str x) (.str y) = true ↔ x = y := by
  rw [PyData.eqv]
  exact beq_iff_eq
theorem eqv_int' (x y : Int) : PyData.eqv (.int x) (.int y) = true ↔ x = y := by
  rw [eqv_int]
  exact decide_eq_true_iff
theorem row_eqv {k : Nat} {a b : D} (ha : RowK k a) (hb : RowK k b) : PyData.eqv a b = true ↔ a = b := by
  unfold RowK at ha hb
  split at ha
  · rename_i e
    rw [if_pos e] at hb
    obtain ⟨p, i, j, rfl⟩ := ha
    obtain ⟨p', i', j', rfl⟩ := hb
    rw [PyData.eqv]
    simp only [PyData.eqvAll, Bool.and_eq_true, eqv_str', eqv_int', PyData.tuple.injEq, List.cons.injEq, PyData.str.injEq, PyData.int.injEq, and_true]
  · rename_i e
    rw [if_neg e] at hb
    split at ha
    · rename_i e2
      rw [if_pos e2] at hb
      obtain ⟨r, p, i, j, rfl⟩ := ha
      obtain ⟨r', p', i', j', rfl⟩ := hb
      rw [PyData.eqv]
      simp only [PyData.eqvAll, Bool.and_eq_true, eqv_str', eqv_int', PyData.tuple.injEq, List.cons.injEq, PyData.str.injEq, PyData.int.injEq, and_true]
    · rename_i e2
      rw [if_neg e2] at hb
      obtain ⟨r, p, q, i, j, rfl⟩ := ha
      obtain ⟨r', p', q', i', j', rfl⟩ := hb
      rw [PyData.eqv]
      simp only [PyData.eqvAll, Bool.and_eq_true, eqv_str', eqv_int', PyData.tuple.injEq, List.cons.injEq, PyData.str.injEq, PyData.int.injEq, and_true]
theorem rows_eqv {k : Nat} : ∀ {xs ys : List D}, (∀ x ∈ xs, RowK k x) → (∀ x ∈ ys, RowK k x) → (PyData.eqvAll xs ys = true ↔ xs = ys)
  | [], [], _, _ => by simp [PyData.eqvAll]
  | [], _ :: _, _, _ => by simp [PyData.eqvAll]
  | _ :: _, [], _, _ => by simp [PyData.eqvAll]
  | x :: xs, y :: ys, hx, hy => by
    rw [PyData.eqvAll, Bool.and_eq_true, row_eqv (hx x List.mem_cons_self) (hy y List.mem_cons_self), rows_eqv (fun z hz => hx z (List.mem_cons_of_mem _ hz)) fun z hz => hy z (List.mem_cons_of_mem _ hz), List.cons.injEq]
/-! rising -/
theorem lt_le {a b : D} (h : PySem.W.dataLt a b = true) : dLe a b = true := by
  refine (dLe_total.total a b).resolve_right fun z => ?_
  unfold dLe at z
  rw [h] at z
  cases z
theorem lt_tr {a b e : D} (h : PySem.W.dataLt a b = true) (h2 : PySem.W.dataLt b e = true) : PySem.W.dataLt a e = true := by
  cases q : PySem.W.dataLt a e with
  | true => rfl
  | false =>
    have z : dLe e a = true := by
      unfold dLe
      rw [q]
      rfl
    have z2 := dLe_total.trans _ _ _ z (lt_le h)
    unfold dLe at z2
    rw [h2] at z2
    cases z2
theorem ris_cons (x y : D) (l : List D) : risB (x :: y :: l) = (PySem.W.dataLt x y && risB (y :: l)) := rfl
theorem ris_pw : ∀ {xs : List D}, risB xs = true → xs.Pairwise fun a b => PySem.W.dataLt a b = true
  | [], _ => .nil
  | [x], _ => List.pairwise_singleton ..
  | x :: y :: l, h => by
    rw [ris_cons, Bool.and_eq_true] at h
    have ih := ris_pw h.2
    refine .cons (fun z hz => ?_) ih
    rcases List.mem_cons.mp hz with rfl | hz
    · exact h.1
    · exact lt_tr h.1 ((List.pairwise_cons.mp ih).1 z hz)
theorem pw_ris : ∀ {xs : List D}, (xs.Pairwise fun a b => PySem.W.dataLt a b = true) → risB xs = true
  | [], _ => rfl
  | [x], _ => rfl
  | x :: y :: l, h => by
    obtain ⟨h1, h2⟩ := List.pairwise_cons.mp h
    rw [ris_cons, h1 y List.mem_cons_self, pw_ris h2]
    rfl
theorem ex_nd (xs : List D) : ∃ ys : List D, ys.Nodup ∧ ys.length ≤ xs.length ∧ ∀ d, d ∈ ys ↔ d ∈ xs := by
  induction xs with
  | nil => exact ⟨[], .nil, Nat.le_refl _, fun d => Iff.rfl⟩
  | cons x xs ih =>
    obtain ⟨ys, h1, h2, h3⟩ := ih
    by_cases hx : x ∈ ys
    · refine ⟨ys, h1, Nat.le_succ_of_le h2, fun d => ?_⟩
      rw [List.mem_cons, h3]
      exact ⟨.inr, fun z => z.elim (fun e => by rw [e]; exact (h3 x).mp hx) id⟩
    · exact ⟨x :: ys, List.nodup_cons.mpr ⟨hx, h1⟩, Nat.succ_le_succ h2, fun d => by rw [List.mem_cons, List.mem_cons, h3]⟩
/-- a list of rows is its own sorted set just if it rises -/
theorem ris_set {k : Nat} (hk : k = 3 ∨ k = 4 ∨ k = 5) {xs : List D} (hr : ∀ x ∈ xs, RowK k x) (hl : xs.length ≤ 60) : ∃ zs, ssetD xs = some zs ∧ gEq [.list xs, .list zs] = some (.val (.bool (risB xs))) := by
  have K := row_kin hk
  obtain ⟨ys, n1, n2, n3⟩ := ex_nd xs
  have pm : (sortD ys).Perm ys := isort_perm dLe ys dLe_total
  have hm : ∀ d, d ∈ sortD ys ↔ d ∈ xs := fun d => by
    rw [pm.mem_iff, n3]
  have nd2 : (sortD ys).Nodup := pm.nodup_iff.mpr n1
  have p1 : (sortD ys).Pairwise fun a b => dLe a b = true := isort_pw dLe_total ys
  have hz : ∀ d ∈ sortD ys, RowK k d := fun d hd => hr d ((hm d).mp hd)
  have e1 : ssetD xs = some (sortD ys) := kin_big K hr p1 nd2 hm (by rw [pm.length_eq]; omega)
  refine ⟨_, e1, ?_⟩
  have pl : ∀ l : List D, (∀ x ∈ l, RowK k x) → PyData.plainAll l = true := fun l => by
    induction l with
    | nil => intro _; rfl
    | cons x l ih =>
      intro h
      rw [PyData.plainAll, K.pl x (h x List.mem_cons_self), ih fun y hy => h y (List.mem_cons_of_mem _ hy)]
      rfl
  have dp : ∀ l : List D, (∀ x ∈ l, RowK k x) → PyData.depthAll l ≤ 2 := fun l => by
    induction l with
    | nil => intro _; rw [PyData.depthAll]; omega
    | cons x l ih =>
      intro h
      have h1 := ih fun y hy => h y (List.mem_cons_of_mem _ hy)
      have h2 : x.depth ≤ 2 := by
        have := h x List.mem_cons_self
        unfold RowK at this
        split at this
        · obtain ⟨_, _, _, rfl⟩ := this
          simp [PyData.depth, PyData.depthAll]
        · split at this
          · obtain ⟨_, _, _, _, rfl⟩ := this
            simp [PyData.depth, PyData.depthAll]
          · obtain ⟨_, _, _, _, _, rfl⟩ := this
            simp [PyData.depth, PyData.depthAll]
      rw [PyData.depthAll]
      omega
  have f : flat2 (.list xs) (.list (sortD ys)) = true := by
    unfold flat2
    have d1 : (PyData.list xs).depth ≤ 64 := by
      have := dp xs hr
      rw [PyData.depth]
      omega
    rw [decide_eq_true d1, PyData.plain, PyData.plain, pl xs hr, pl _ hz]
    rfl
  refine (if_pos (e := (none : Option O)) f).trans ?_
  rw [PyData.eqv]
  congr 3
  cases hb : risB xs with
  | true =>
    have p2 := ris_pw hb
    have e2 : ssetD xs = some xs := kin_big K hr (p2.imp lt_le) (p2.imp fun {a b} h e => by
      subst e
      have z := (dLe_total.total a a).elim id id
      unfold dLe at z
      rw [h] at z
      cases z) (fun d => Iff.rfl) (by omega)
    rw [e1] at e2
    exact (rows_eqv hr hz).mpr (Option.some.inj e2).symm
  | false =>
    have ne : xs ≠ sortD ys := fun e => by
      have p3 : (sortD ys).Pairwise fun a b => PySem.W.dataLt a b = true := (p1.and nd2).imp_of_mem fun {a b} ha hb ⟨h1, h2⟩ => k_lt K (hz a ha) (hz b hb) h1 h2
      rw [← e] at p3
      rw [pw_ris p3] at hb
      cases hb
    exact Bool.eq_false_iff.mpr fun z => ne ((rows_eqv hr hz).mp z)
/-! ### are_lines -/
theorem seq_nx {a b : MS} {s s1 : S} {r : Option (Fl × S)} (h : a s = some (.nx, s1)) (h2 : b s1 = r) : sSeq a b s = r := by
  unfold sSeq
  rw [h]
  exact h2
theorem for_nx {m : MI} {g : MG} {b : MS} {s s1 : S} {ds : List D} {r : Option (Fl × S)} (h : m s = some (ds, s1)) (h2 : forGo g b ds s1 = r) : sFor m g b s = r := by
  unfold sFor
  rw [h]
  exact h2
theorem seq_rt {a b : MS} {s s1 : S} {o : O} (h : a s = some (.rt o, s1)) : sSeq a b s = some (.rt o, s1) := by
  unfold sSeq
  rw [h]
  rfl
theorem forGo_all {g : MG} {b : MS} {P : S → Prop} {p : D → Bool} {o : O} : ∀ (ds : List D), (∀ d ∈ ds, ∀ s, P s → ∃ s1 s2, g (.val d) s = some s1 ∧ P s2 ∧ b s1 = some (if p d = true then .nx else .rt o, s2)) → ∀ s, P s → ∃ s', P s' ∧ forGo g b ds s = some (if ds.all p = true then .nx else .rt o, s')
  | [], _, s, hs => ⟨s, hs, rfl⟩
  | d :: ds, h, s, hs => by
    obtain ⟨s1, s2, e1, h2, e2⟩ := h d List.mem_cons_self s hs
    unfold forGo
    rw [e1, Option.bind_some, e2, Option.bind_some, List.all_cons]
    cases hp : p d with
    | true =>
      obtain ⟨s', h3, e3⟩ := forGo_all ds (fun x hx => h x (List.mem_cons_of_mem _ hx)) s2 h2
      exact ⟨s', h3, e3⟩
    | false => exact ⟨s2, h2, rfl⟩
def linB (m : Nat) (d : D) : Bool := entK (m + 2) d && (if m = 3 then neB d else true)
def NrF (f : FD) : Prop := ∀ d : D, nd d = true → Tells f [d] (numB d)
def lineB (c : Nat → FD) : MS := sSeq (sIf (lB (wOr (wNot (wTru (wIs .tuple (gr 2)))) (wBo (wOp gNe [wF (wOp gLenW [gr 2]), wF (wOp gAdd [gr 1, wC (.int 2)])])))) (sRet (lO (wV (wC (.bool false))))) (sNx)) (sSeq (sAsg (gNm 3) (oV (lV (wF (wOp gAdd [wF (wLc [4] (jV (wF (wSl (gr 2) wNo (wSo (gv 1))))) (gNm 4) (wYs) (wF (wCall (c 15) [s1 (gv 4)]))), wF (wLc [4] (jV (wF (wSl (gr 2) (wSo (gv 1)) wNo))) (gNm 4) (wYs) (wF (wCall (c 12) [s1 (gv 4)])))]))))) (sSeq (sIf (lB (wNot (wTru (wF (wOp gAll [gr 3]))))) (sRet (lO (wV (wC (.bool false))))) (sNx)) (sIf (lB (wOr (wBo (wOp gGt [wF (wOp gIxW [gr 2, gr 1]), wF (wOp gIxW [gr 2, wF (wOp gAdd [gr 1, wC (.int 1)])])])) (wAnd (wBo (wOp gEq [gr 1, wC (.int 3)])) (wBo (wOp gEq [wF (wOp gIxW [gr 2, wC (.int 1)]), wF (wOp gIxW [gr 2, wC (.int 2)])]))))) (sRet (lO (wV (wC (.bool false))))) (sNx))))
theorem tellLc {i : Nat} {m : WI} {e : WV} {s : S} {xs : List D} (p : D → Bool) (hc : s[i]? = some none) (hm : m s = some xs) (hl : xs.length ≤ 1000) (h : ∀ x ∈ xs, e (s.set i (some (.val x))) = some (.bool (p x))) : wF (wLc [i] m (gNm i) wYs e) s = some (.list (xs.map fun x => PyData.bool (p x))) := by
  have hi : i < s.length := (List.getElem?_eq_some_iff.mp hc).1
  have q := wLc_ok (vs := [i]) (m := m) (g := gNm i) (t := wYs) (e := e) (s := s) (i := fun x : D => x) (fun _ => true) (fun x => PyData.bool (p x)) (ds := xs) (by
    unfold clr
    rw [List.all_cons, hc]
    rfl) (by rw [hm, List.map_id']) hl fun d hd => ⟨_, gNm_at hi, rfl, fun _ => h d hd⟩
  rw [List.filter_eq_self.mpr fun _ _ => rfl] at q
  exact wF_l q
theorem if_nxB {t : WB} {A : MS} {s : S} (h : t s = some false) : sIf (lB t) A sNx s = some (.nx, s) := sif_f h
theorem if_rtB {t : WB} {A : WO} {s : S} {o : O} (h : t s = some true) (h2 : A s = some o) : sIf (lB t) (sRet (lO A)) sNx s = some (.rt o, s) := (sif_t h).trans (ret_o h2)
/-- the row is a tuple of the right length -/
theorem line_core (h12 : NrF (c 12)) (h15 : NamF (c 15)) {d0 : D} {m : Nat} {z3 : Option O} {xs ns : List D} {x y : D} (hlen : xs.length = m + 2) (e1 : gSl none (some (m : Nat)) (.tuple xs) = some (.val (.tuple ns))) (e2 : gSl (some (m : Nat)) none (.tuple xs) = some (.val (.tuple [x, y]))) (e3 : gIxW [.tuple xs, .int (m : Nat)] = some (.val x)) (e4 : gIxW [.tuple xs, .int ((m : Int) + 1)] = some (.val y)) (tn : ∀ z ∈ ns, T z) (tx : T x) (ty : T y) (hl : ns.length ≤ 60)
    (hq : m = 3 → entL ns x y = true → ∃ p q : Str, gIxW [.tuple xs, .int 1] = some (.val (.str p)) ∧ gIxW [.tuple xs, .int 2] = some (.val (.str q)) ∧ neB (.tuple xs) = !(p == q)) :
    ∃ z, lineB c [some (.val d0), some (.val (.int (m : Nat))), some (.val (.tuple xs)), z3, none] = some (if (entL ns x y && (if m = 3 then neB (.tuple xs) else true)) = true then .nx else .rt (.val (.bool false)), [some (.val d0), some (.val (.int (m : Nat))), some (.val (.tuple xs)), z, none]) := by
  have a1 : wIs .tuple (gr 2) [some (.val d0), some (.val (.int (m : Nat))), some (.val (.tuple xs)), z3, none] = some (.bool true) := is_t rfl
  have a2 : wBo (wOp gNe [wF (wOp gLenW [gr 2]), wF (wOp gAdd [gr 1, wC (.int 2)])]) [some (.val d0), some (.val (.int (m : Nat))), some (.val (.tuple xs)), z3, none] = some false := by
    refine (bo_v (op_o (evP2 (op_v (evP1 (gr_v rfl)) (show gLenW [.tuple xs] = some (.val (.int (xs.length : Nat))) from rfl)) (int_add (gr_v rfl) (show wC (.int 2) _ = some (.int 2) from rfl))) (v_ne _ _))).trans ?_
    rw [decide_eq_true (show (xs.length : Int) = (m : Int) + 2 by omega)]
    rfl
  have w1 : wF (wLc [4] (jV (wF (wSl (gr 2) wNo (wSo (gv 1))))) (gNm 4) (wYs) (wF (wCall (c 15) [s1 (gv 4)]))) [some (.val d0), some (.val (.int (m : Nat))), some (.val (.tuple xs)), z3, none] = some (.list (ns.map fun x => PyData.bool (nameB x))) := tellLc nameB rfl (by
    show (wF _ _).bind itemsW = _
    rw [wF_v (sl_o (gr_v rfl) (show wNo _ = some none from rfl) (show wSo (gv 1) _ = some (some (m : Int)) from rfl) e1)]
    rfl) (by omega) fun z hz => tell_v (evS1 (gv_v rfl) evS0) (h15 z (tn z hz))
  have w2 : wF (wLc [4] (jV (wF (wSl (gr 2) (wSo (gv 1)) wNo))) (gNm 4) (wYs) (wF (wCall (c 12) [s1 (gv 4)]))) [some (.val d0), some (.val (.int (m : Nat))), some (.val (.tuple xs)), z3, none] = some (.list ([x, y].map fun x => PyData.bool (numB x))) := tellLc numB rfl (by
    show (wF _ _).bind itemsW = _
    rw [wF_v (sl_o (gr_v rfl) (show wSo (gv 1) _ = some (some (m : Int)) from rfl) (show wNo _ = some none from rfl) e2)]
    rfl) (by show (2 : Nat) ≤ 1000; decide) fun z hz => by
      have tz : T z := by
        rcases List.mem_cons.mp hz with rfl | hz
        · exact tx
        · rw [List.mem_singleton.mp hz]
          exact ty
      exact tell_v (evS1 (gv_v rfl) evS0) (h12 z (t_nd tz))
  have w3 : wF (wOp gAdd [wF (wLc [4] (jV (wF (wSl (gr 2) wNo (wSo (gv 1))))) (gNm 4) (wYs) (wF (wCall (c 15) [s1 (gv 4)]))), wF (wLc [4] (jV (wF (wSl (gr 2) (wSo (gv 1)) wNo))) (gNm 4) (wYs) (wF (wCall (c 12) [s1 (gv 4)])))]) [some (.val d0), some (.val (.int (m : Nat))), some (.val (.tuple xs)), z3, none] = some (.list ((ns.map nameB ++ [numB x, numB y]).map PyData.bool)) := by
    refine op_l (evP2 w1 w2) ((if_pos (e := (none : Option O)) (line_of (by simp; omega))).trans ?_)
    simp
  have w4 : sAsg (gNm 3) (oV (lV (wF (wOp gAdd [wF (wLc [4] (jV (wF (wSl (gr 2) wNo (wSo (gv 1))))) (gNm 4) (wYs) (wF (wCall (c 15) [s1 (gv 4)]))), wF (wLc [4] (jV (wF (wSl (gr 2) (wSo (gv 1)) wNo))) (gNm 4) (wYs) (wF (wCall (c 12) [s1 (gv 4)])))])))) [some (.val d0), some (.val (.int (m : Nat))), some (.val (.tuple xs)), z3, none] = some (.nx, [some (.val d0), some (.val (.int (m : Nat))), some (.val (.tuple xs)), some (.val (.list ((ns.map nameB ++ [numB x, numB y]).map PyData.bool))), none]) := asg_v w3 (by show (3 : Nat) < 5; decide)
  have ea : (ns.map nameB ++ [numB x, numB y]).all id = (ns.all nameB && (numB x && numB y)) := by simp [List.all_append, List.all_map, Function.comp]
  have ha := v_allB (ns.map nameB ++ [numB x, numB y])
  rw [ea] at ha
  have w5 : wF (wOp gAll [gr 3]) [some (.val d0), some (.val (.int (m : Nat))), some (.val (.tuple xs)), some (.val (.list ((ns.map nameB ++ [numB x, numB y]).map PyData.bool))), none] = some (.bool (ns.all nameB && (numB x && numB y))) := op_v (evP1 (gr_v rfl)) ha
  unfold lineB
  refine ⟨some (.val (.list ((ns.map nameB ++ [numB x, numB y]).map PyData.bool))), (if_no ((or_f (nt_t a1)).trans a2)).trans (seq_nx w4 ?_)⟩
  cases hb : (ns.all nameB && (numB x && numB y)) with
  | false =>
    have en : entL ns x y = false := by
      unfold entL
      rw [← Bool.and_assoc, hb]
      rfl
    rw [en]
    rw [hb] at w5
    exact seq_rt (if_rtB (not_v (a := false) (tru_b w5)) rfl)
  | true =>
    rw [hb] at w5
    have hb2 := hb
    rw [Bool.and_eq_true, Bool.and_eq_true] at hb2
    obtain ⟨i, rfl⟩ := num_int' hb2.2.1
    obtain ⟨j, rfl⟩ := num_int' hb2.2.2
    have en : entL ns (.int i) (.int j) = decide (i ≤ j) := by
      unfold entL
      rw [← Bool.and_assoc, hb]
      rfl
    refine seq_nx (if_nxB (nt_t w5)) ?_
    have g1 : wBo (wOp gGt [wF (wOp gIxW [gr 2, gr 1]), wF (wOp gIxW [gr 2, wF (wOp gAdd [gr 1, wC (.int 1)])])]) [some (.val d0), some (.val (.int (m : Nat))), some (.val (.tuple xs)), some (.val (.list ((ns.map nameB ++ [numB (.int i), numB (.int j)]).map PyData.bool))), none] = some (decide (j < i)) := bo_v (op_o (evP2 (op_v (evP2 (gr_v rfl) (gr_v rfl)) e3) (op_v (evP2 (gr_v rfl) (int_add (gr_v rfl) (show wC (.int 1) _ = some (.int 1) from rfl))) e4)) (v_gt i j))
    cases hij : decide (j < i) with
    | true =>
      rw [hij] at g1
      have : entL ns (.int i) (.int j) = false := by
        rw [en]
        exact decide_eq_false (by have := of_decide_eq_true hij; omega)
      rw [this]
      exact if_rtB (or_t g1) rfl
    | false =>
      rw [hij] at g1
      have et : entL ns (.int i) (.int j) = true := by
        rw [en]
        exact decide_eq_true (by have := of_decide_eq_false hij; omega)
      rw [et]
      have g2 : wBo (wOp gEq [gr 1, wC (.int 3)]) [some (.val d0), some (.val (.int (m : Nat))), some (.val (.tuple xs)), some (.val (.list ((ns.map nameB ++ [numB (.int i), numB (.int j)]).map PyData.bool))), none] = some (decide ((m : Int) = 3)) := bo_v (op_o (evP2 (gr_v rfl) (show wC (.int 3) _ = some (.int 3) from rfl)) (v_eq _ _))
      by_cases h3 : m = 3
      · obtain ⟨p, q, p1, q1, hn⟩ := hq h3 et
        rw [decide_eq_true (show (m : Int) = 3 by omega)] at g2
        have g3 : wBo (wOp gEq [wF (wOp gIxW [gr 2, wC (.int 1)]), wF (wOp gIxW [gr 2, wC (.int 2)])]) [some (.val d0), some (.val (.int (m : Nat))), some (.val (.tuple xs)), some (.val (.list ((ns.map nameB ++ [numB (.int i), numB (.int j)]).map PyData.bool))), none] = some (p == q) := bo_v (op_o (evP2 (op_v (evP2 (gr_v rfl) (show wC (.int 1) _ = some (.int 1) from rfl)) p1) (op_v (evP2 (gr_v rfl) (show wC (.int 2) _ = some (.int 2) from rfl)) q1)) (by
          refine (if_pos (e := (none : Option O)) (show flat2 (.str p) (.str q) = true from rfl)).trans ?_
          rw [PyData.eqv]))
        rw [if_pos h3, hn]
        cases hpq : (p == q) with
        | true =>
          rw [hpq] at g3
          exact if_rtB ((or_f g1).trans (wand_v g2 fun _ => g3)) rfl
        | false =>
          rw [hpq] at g3
          exact if_nxB ((or_f g1).trans (wand_v g2 fun _ => g3))
      · rw [decide_eq_false (show ¬ (m : Int) = 3 by omega)] at g2
        rw [if_neg h3]
        exact if_nxB ((or_f g1).trans (wand_v (b := false) g2 fun z => nomatch z))
theorem line_no {d0 d : D} {m : Nat} {z3 : Option O} (hm : m ≤ 100) (t : T d) (h : tupB (m + 2) d = false) : lineB c [some (.val d0), some (.val (.int (m : Nat))), some (.val d), z3, none] = some (.rt (.val (.bool false)), [some (.val d0), some (.val (.int (m : Nat))), some (.val d), z3, none]) := by
  have a1 : wIs .tuple (gr 2) [some (.val d0), some (.val (.int (m : Nat))), some (.val d), z3, none] = some (.bool (isTy .tuple d)) := is_v (gr_v rfl) (t_nd t)
  have key : isTy .tuple d = false → lineB c [some (.val d0), some (.val (.int (m : Nat))), some (.val d), z3, none] = some (.rt (.val (.bool false)), [some (.val d0), some (.val (.int (m : Nat))), some (.val d), z3, none]) := fun h => by
    unfold lineB
    exact if_ret (or_t (not_v (a := false) (tru_b (by rw [a1, h])))) rfl
  cases d with
  | tuple xs =>
    have ne := of_decide_eq_false h
    have a2 : wBo (wOp gNe [wF (wOp gLenW [gr 2]), wF (wOp gAdd [gr 1, wC (.int 2)])]) [some (.val d0), some (.val (.int (m : Nat))), some (.val (.tuple xs)), z3, none] = some true := by
      refine (bo_v (op_o (evP2 (op_v (evP1 (gr_v rfl)) (show gLenW [.tuple xs] = some (.val (.int (xs.length : Nat))) from rfl)) (int_add (gr_v rfl) (show wC (.int 2) _ = some (.int 2) from rfl))) (v_ne _ _))).trans ?_
      rw [decide_eq_false (show ¬ (xs.length : Int) = (m : Int) + 2 by omega)]
      rfl
    unfold lineB
    exact if_ret ((or_f (nt_t a1)).trans a2) rfl
  | _ => exact key rfl
theorem line_step (h12 : NrF (c 12)) (h15 : NamF (c 15)) {d0 d : D} {m : Nat} (hm : m = 1 ∨ m = 2 ∨ m = 3) (t : T d) {z3 : Option O} : ∃ z, lineB c [some (.val d0), some (.val (.int (m : Nat))), some (.val d), z3, none] = some (if linB m d = true then .nx else .rt (.val (.bool false)), [some (.val d0), some (.val (.int (m : Nat))), some (.val d), z, none]) := by
  cases ht : tupB (m + 2) d with
  | false =>
    have e : linB m d = false := by
      unfold linB entK
      rw [ht]
      rfl
    rw [e]
    exact ⟨z3, line_no (by omega) t ht⟩
  | true =>
    cases d with
    | tuple xs =>
      have e : xs.length = m + 2 := of_decide_eq_true ht
      obtain ⟨_, tm⟩ := t_tup t
      have q : linB m (.tuple xs) = (entB (.tuple xs) && (if m = 3 then neB (.tuple xs) else true)) := by
        unfold linB entK
        rw [ht]
        rfl
      rw [q]
      rcases hm with rfl | rfl | rfl
      · match xs, e, tm with
        | [a, x, y], _, tm => exact line_core h12 h15 (m := 1) (ns := [a]) rfl rfl rfl rfl rfl (fun z hz => tm z (by simp at hz; simp [hz])) (tm x (by simp)) (tm y (by simp)) (by simp) fun z => absurd z (by decide)
      · match xs, e, tm with
        | [a, b, x, y], _, tm => exact line_core h12 h15 (m := 2) (ns := [a, b]) rfl rfl rfl rfl rfl (fun z hz => tm z (by simp at hz; rcases hz with h | h <;> simp [h])) (tm x (by simp)) (tm y (by simp)) (by simp) fun z => absurd z (by decide)
      · match xs, e, tm with
        | [a, b, e, x, y], _, tm =>
         exact line_core h12 h15 (m := 3) (ns := [a, b, e]) rfl rfl rfl rfl rfl (fun z hz => tm z (by simp at hz; rcases hz with h | h | h <;> simp [h])) (tm x (by simp)) (tm y (by simp)) (by simp) fun _ he => by
          obtain ⟨hn, _, _⟩ := entL_of he
          obtain ⟨p, rfl⟩ := hn b (by simp)
          obtain ⟨v, rfl⟩ := hn e (by simp)
          exact ⟨p, v, rfl, rfl, rfl⟩
    | _ => cases ht
def alB (m : Nat) : D → Bool
  | .tuple xs => xs.all (linB m) && risB xs
  | _ => false
def AlF (f : FD) : Prop := ∀ (d : D) (m : Nat), T d → m = 1 ∨ m = 2 ∨ m = 3 → Tells f [d, .int (m : Nat)] (alB m d)
theorem lines_ok (h12 : NrF (c 12)) (h15 : NamF (c 15)) : AlF (runDef 5 2 (m16 c)) := fun d m t hm => by
  have h1 : wIs .tuple (gr 0) [some (.val d), some (.val (.int (m : Nat))), none, none, none] = some (.bool (isTy .tuple d)) := is_v (gr_v rfl) (t_nd t)
  have key : isTy .tuple d = false → Tells (runDef 5 2 (m16 c)) [d, .int (m : Nat)] false := fun h => run_rt (s := [some (.val d), some (.val (.int (m : Nat))), none, none, none]) rfl (show m16 c [some (.val d), some (.val (.int (m : Nat))), none, none, none] = _ from if_ret (not_v (a := false) (tru_b (by rw [h1, h]))) rfl) rfl
  cases d with
  | tuple xs =>
    obtain ⟨hl, tm⟩ := t_tup t
    obtain ⟨s', ⟨z2, z3, rfl⟩, e1⟩ := forGo_all (g := gNm 2) (b := lineB c) (P := fun s => ∃ z2 z3, s = [some (.val (.tuple xs)), some (.val (.int (m : Nat))), z2, z3, none]) (p := linB m) (o := .val (.bool false)) xs (fun d hd s ⟨z2, z3, es⟩ => by
      subst es
      obtain ⟨z, e⟩ := line_step h12 h15 hm (tm d hd) (d0 := .tuple xs) (z3 := z3)
      exact ⟨_, _, rfl, ⟨_, _, rfl⟩, e⟩) [some (.val (.tuple xs)), some (.val (.int (m : Nat))), none, none, none] ⟨_, _, rfl⟩
    have hi : lI (jV (gv 0)) [some (.val (.tuple xs)), some (.val (.int (m : Nat))), none, none, none] = some (xs, [some (.val (.tuple xs)), some (.val (.int (m : Nat))), none, none, none]) := rfl
    have hf : sFor (lI (jV (gv 0))) (gNm 2) (lineB c) [some (.val (.tuple xs)), some (.val (.int (m : Nat))), none, none, none] = _ := for_nx hi e1
    refine run_rt (s := [some (.val (.tuple xs)), some (.val (.int (m : Nat))), z2, z3, none]) rfl (?_ : m16 c [some (.val (.tuple xs)), some (.val (.int (m : Nat))), none, none, none] = _) rfl
    show _ = some (Fl.rt (.val (.bool (xs.all (linB m) && risB xs))), _)
    unfold m16
    refine (if_no (nt_t h1)).trans ?_
    cases hb : xs.all (linB m) with
    | false =>
      rw [hb] at hf
      exact seq_rt hf
    | true =>
      rw [hb] at hf
      refine seq_nx hf ?_
      have hk : m + 2 = 3 ∨ m + 2 = 4 ∨ m + 2 = 5 := by omega
      obtain ⟨zs, z1, z2⟩ := ris_set hk (xs := xs) (fun x hx => ent_row (k := m + 2) (by
        have := List.all_eq_true.mp hb x hx
        unfold linB at this
        rw [Bool.and_eq_true] at this
        exact this.1)) hl
      refine ret_o (op_o (evP2 (op_l (evP1 (gr_v rfl)) (show gListW [.tuple xs] = some (.lst xs) from rfl)) (op_l (evP1 (gr_v rfl)) ?_)) z2)
      show (ssetD xs).map O.lst = _
      rw [z1]
      rfl
  | _ => exact key rfl
/-! ### is_tome -/
theorem all_lin {xs : List D} : xs.all (linB 3) = (xs.all (entK 5) && xs.all neB) := by
  induction xs with
  | nil => rfl
  | cons x xs ih =>
    rw [List.all_cons, List.all_cons, List.all_cons, ih]
    unfold linB
    rw [if_pos rfl]
    cases entK (3 + 2) x <;> cases neB x <;> simp
theorem al1 (d : D) : alB 1 d = arB 3 d := by
  cases d with
  | tuple xs =>
    show (xs.all (linB 1) && risB xs) = (xs.all (entK 3) && risB xs)
    have : linB 1 = entK 3 := funext fun x => by
      unfold linB
      rw [if_neg (by decide), Bool.and_true]
    rw [this]
  | _ => rfl
theorem al2 (d : D) : alB 2 d = arB 4 d := by
  cases d with
  | tuple xs =>
    show (xs.all (linB 2) && risB xs) = (xs.all (entK 4) && risB xs)
    have : linB 2 = entK 4 := funext fun x => by
      unfold linB
      rw [if_neg (by decide), Bool.and_true]
    rw [this]
  | _ => rfl
theorem al3 (d : D) : alB 3 d = (arB 5 d && nesB d) := by
  cases d with
  | tuple xs =>
    show (xs.all (linB 3) && risB xs) = ((xs.all (entK 5) && risB xs) && xs.all neB)
    rw [all_lin]
    cases xs.all (entK 5) <;> cases xs.all neB <;> cases risB xs <;> rfl
  | _ => rfl
theorem tome_three (h16 : AlF (c 16)) {x y z : D} (tx : T x) (ty : T y) (tz : T z) : Tells (runDef 1 1 (m17 c)) [.tuple [x, y, z]] (bookB (.tuple [x, y, z])) := by
  have a1 : wIs .tuple (gr 0) [some (.val (.tuple [x, y, z]))] = some (.bool true) := is_t rfl
  have q1 : wF (wCall (c 16) [s1 (wF (wOp gIxW [gr 0, wC (.int 0)])), s1 (wC (.int 2))]) [some (.val (.tuple [x, y, z]))] = some (.bool (alB 2 x)) := tell_v (evS1 (op_v (evP2 (gr_v rfl) rfl) (show gIxW [.tuple [x, y, z], .int 0] = some (.val x) from rfl)) (evS1 rfl evS0)) (h16 x 2 tx (by simp))
  have q2 : wF (wCall (c 16) [s1 (wF (wOp gIxW [gr 0, wC (.int 1)])), s1 (wC (.int 1))]) [some (.val (.tuple [x, y, z]))] = some (.bool (alB 1 y)) := tell_v (evS1 (op_v (evP2 (gr_v rfl) rfl) (show gIxW [.tuple [x, y, z], .int 1] = some (.val y) from rfl)) (evS1 rfl evS0)) (h16 y 1 ty (by simp))
  have q3 : wF (wCall (c 16) [s1 (wF (wOp gIxW [gr 0, wC (.int 2)])), s1 (wC (.int 3))]) [some (.val (.tuple [x, y, z]))] = some (.bool (alB 3 z)) := tell_v (evS1 (op_v (evP2 (gr_v rfl) rfl) (show gIxW [.tuple [x, y, z], .int 2] = some (.val z) from rfl)) (evS1 rfl evS0)) (h16 z 3 tz (by simp))
  rw [al2] at q1
  rw [al1] at q2
  rw [al3] at q3
  have e : bookB (.tuple [x, y, z]) = (arB 4 x && (arB 3 y && (arB 5 z && nesB z))) := rfl
  rw [e]
  exact run_rt (s := [some (.val (.tuple [x, y, z]))]) rfl (show m17 c [some (.val (.tuple [x, y, z]))] = _ from (if_no ((or_f (nt_t a1)).trans rfl)).trans (ret_v (vand_v q1 (vand_v q2 q3)))) rfl
theorem tome_ok2 (h16 : AlF (c 16)) : BookF (runDef 1 1 (m17 c)) := fun d t => by
  have a1 : wIs .tuple (gr 0) [some (.val d)] = some (.bool (isTy .tuple d)) := is_v (gr_v rfl) (t_nd t)
  have key : isTy .tuple d = false → Tells (runDef 1 1 (m17 c)) [d] false := fun h => run_rt (s := [some (.val d)]) rfl (show m17 c [some (.val d)] = _ from if_ret (or_t (not_v (a := false) (tru_b (by rw [a1, h])))) rfl) rfl
  cases d with
  | tuple xs =>
    obtain ⟨_, tm⟩ := t_tup t
    by_cases h3 : xs.length = 3
    · match xs, h3, tm with
      | [x, y, z], _, tm => exact tome_three h16 (tm x (by simp)) (tm y (by simp)) (tm z (by simp))
    · have e : bookB (.tuple xs) = false := by
        match xs, h3 with
        | [], _ => rfl
        | [_], _ => rfl
        | [_, _], _ => rfl
        | [_, _, _], h => exact absurd rfl h
        | _ :: _ :: _ :: _ :: _, _ => rfl
      have a2 : wBo (wOp gNe [wF (wOp gLenW [gr 0]), wC (.int 3)]) [some (.val (.tuple xs))] = some true := by
        refine (bo_v (op_o (evP2 (op_v (evP1 (gr_v rfl)) (show gLenW [.tuple xs] = some (.val (.int (xs.length : Nat))) from rfl)) (show wC (.int 3) _ = some (.int 3) from rfl)) (v_ne _ _))).trans ?_
        rw [decide_eq_false (show ¬ (xs.length : Int) = 3 by omega)]
        rfl
      rw [e]
      exact run_rt (s := [some (.val (.tuple xs))]) rfl (show m17 c [some (.val (.tuple xs))] = _ from if_ret ((or_f (nt_t a1)).trans a2) rfl) rfl
  | _ => exact key rfl
end Dv.G

namespace Dv.G
open PySem PySem.Spec PyProof.Rows L2
variable {c : Nat → FD}
def OfOk2 (f : FD) : Prop := ∀ (m : Nat) (u o : O) (xs : List D), (o = .lst xs ∨ o = .val (.list xs) ∨ o = .val (.tuple xs)) → Urn (m + 1) u → xs ≠ [] → xs.length ≤ 1000 → ∃ d u', Urn m u' ∧ d ∈ xs ∧ f [u, o] = some (.val d, [u', o])
theorem of_ok2 (tk : TakeOk (c 8)) : OfOk2 (runDef 2 2 (m10 c)) := fun m u o xs ho hu hx hl => by
  have h0 : 0 < xs.length := List.length_pos_iff.mpr hx
  obtain ⟨r, u', hu', hr, r0, r1⟩ := tk m u xs.length hu (by omega) (by omega)
  obtain ⟨d, e1, e2⟩ := at_lt r0 r1
  refine ⟨d, u', hu', e2, ?_⟩
  obtain ⟨a, b, n, rfl, _, _⟩ := hu
  obtain ⟨a', b', n', rfl, _, _⟩ := hu'
  generalize hj : ((xs.length : Nat) : Int) = j at *
  rcases ho with rfl | rfl | rfl
  · have hl : gLen [.list xs] = some (.val (.int j)) := by rw [v_lenL]; congr 3
    simp [m10, bK_some, ap_runDef, ap_sSeq, ap_sAsg, ap_sIf, ap_vIf, ap_oIf, ap_sRet, ap_sExp, ap_sNx, ap_sFor, ap_sPar, ap_mOp, ap_rV, ap_frz, ap_rO, ap_oV, ap_aV, ap_aO, ap_vCon, ap_vTup, ap_oLst, ap_mBo, ap_mTru, ap_bNot, ap_bAnd, ap_bOr, ap_vAnd, ap_vOr, ap_vNot, ap_vIsi, ap_vIsi2, ap_evR0, ap_evR1, ap_evA0, ap_evA1, ap_evO0, ap_evO1, ap_oApp, ap_sSetIx, ap_mCall, ap_iVal, ap_iOp, ap_iPr, ap_oLc, ap_oLc2, ap_pNo, ap_pSome, ap_oSl, ap_rB, ap_vVar, ap_oMove, ap_aR, ap_gNm, ap_gTp, ap_gAll0, ap_gAll1, look_d, look_s, ap_looks0, ap_looks1, ap_conts0, ap_conts1, alook_d, alook_o, alook_r, own0, own_d, own_o, own_r, ifF, seqF, asgG, asgF, retF, expF, ret1, opH, opG, opF, tupG, tupF, lstG, lstF, boF, truH, truG, truF, andF, orF, vandG, vandF, vorG, vorF, notG, notH, notF, isG, isF, isTy2, isF2, evRG, evRF, evAG, evAF, evOG, evOF, chG, chAt, appF, gate, setL, setF3, setF2, setF1, callI, callH, callG, callF, itG, iopG, iopF, iprF, ivF, slI, slH, slG, slF, psF, parG, runG, runF, gaF, lkG, cnG, dsOf, outsOf, setAll, truthD, dropRefs, setRefs, ownL, isTy, wS, v_gt, v_lt, v_le, v_ge, v_eq, v_ne, v_eqB, v_neB, v_add, v_sub, v_int, v_intB, v_abs, v_lenL, v_lenT, v_tupL, v_tupT, v_listL, v_ixL, v_ixT, v_setL, v_isN, PyData.isList, PyData.isTuple, v_eqN, v_eqS, PyData.isBool, PyData.isStr, PyData.isInt, isNone, tYs, ap_oOr, oorG, oorF, toD_val, toD_lst, frzF, frzG, fz_val, fz_lst, lkS, oorE, isE, nd, O.isVal, hr, e1, hl]
  · have hl : gLen [.list xs] = some (.val (.int j)) := by rw [v_lenL]; congr 3
    simp [m10, bK_some, ap_runDef, ap_sSeq, ap_sAsg, ap_sIf, ap_vIf, ap_oIf, ap_sRet, ap_sExp, ap_sNx, ap_sFor, ap_sPar, ap_mOp, ap_rV, ap_frz, ap_rO, ap_oV, ap_aV, ap_aO, ap_vCon, ap_vTup, ap_oLst, ap_mBo, ap_mTru, ap_bNot, ap_bAnd, ap_bOr, ap_vAnd, ap_vOr, ap_vNot, ap_vIsi, ap_vIsi2, ap_evR0, ap_evR1, ap_evA0, ap_evA1, ap_evO0, ap_evO1, ap_oApp, ap_sSetIx, ap_mCall, ap_iVal, ap_iOp, ap_iPr, ap_oLc, ap_oLc2, ap_pNo, ap_pSome, ap_oSl, ap_rB, ap_vVar, ap_oMove, ap_aR, ap_gNm, ap_gTp, ap_gAll0, ap_gAll1, look_d, look_s, ap_looks0, ap_looks1, ap_conts0, ap_conts1, alook_d, alook_o, alook_r, own0, own_d, own_o, own_r, ifF, seqF, asgG, asgF, retF, expF, ret1, opH, opG, opF, tupG, tupF, lstG, lstF, boF, truH, truG, truF, andF, orF, vandG, vandF, vorG, vorF, notG, notH, notF, isG, isF, isTy2, isF2, evRG, evRF, evAG, evAF, evOG, evOF, chG, chAt, appF, gate, setL, setF3, setF2, setF1, callI, callH, callG, callF, itG, iopG, iopF, iprF, ivF, slI, slH, slG, slF, psF, parG, runG, runF, gaF, lkG, cnG, dsOf, outsOf, setAll, truthD, dropRefs, setRefs, ownL, isTy, wS, v_gt, v_lt, v_le, v_ge, v_eq, v_ne, v_eqB, v_neB, v_add, v_sub, v_int, v_intB, v_abs, v_lenL, v_lenT, v_tupL, v_tupT, v_listL, v_ixL, v_ixT, v_setL, v_isN, PyData.isList, PyData.isTuple, v_eqN, v_eqS, PyData.isBool, PyData.isStr, PyData.isInt, isNone, tYs, ap_oOr, oorG, oorF, toD_val, toD_lst, frzF, frzG, fz_val, fz_lst, lkS, oorE, isE, nd, O.isVal, hr, e1, hl]
  · have hl : gLen [.tuple xs] = some (.val (.int j)) := by rw [v_lenT]; congr 3
    simp [m10, bK_some, ap_runDef, ap_sSeq, ap_sAsg, ap_sIf, ap_vIf, ap_oIf, ap_sRet, ap_sExp, ap_sNx, ap_sFor, ap_sPar, ap_mOp, ap_rV, ap_frz, ap_rO, ap_oV, ap_aV, ap_aO, ap_vCon, ap_vTup, ap_oLst, ap_mBo, ap_mTru, ap_bNot, ap_bAnd, ap_bOr, ap_vAnd, ap_vOr, ap_vNot, ap_vIsi, ap_vIsi2, ap_evR0, ap_evR1, ap_evA0, ap_evA1, ap_evO0, ap_evO1, ap_oApp, ap_sSetIx, ap_mCall, ap_iVal, ap_iOp, ap_iPr, ap_oLc, ap_oLc2, ap_pNo, ap_pSome, ap_oSl, ap_rB, ap_vVar, ap_oMove, ap_aR, ap_gNm, ap_gTp, ap_gAll0, ap_gAll1, look_d, look_s, ap_looks0, ap_looks1, ap_conts0, ap_conts1, alook_d, alook_o, alook_r, own0, own_d, own_o, own_r, ifF, seqF, asgG, asgF, retF, expF, ret1, opH, opG, opF, tupG, tupF, lstG, lstF, boF, truH, truG, truF, andF, orF, vandG, vandF, vorG, vorF, notG, notH, notF, isG, isF, isTy2, isF2, evRG, evRF, evAG, evAF, evOG, evOF, chG, chAt, appF, gate, setL, setF3, setF2, setF1, callI, callH, callG, callF, itG, iopG, iopF, iprF, ivF, slI, slH, slG, slF, psF, parG, runG, runF, gaF, lkG, cnG, dsOf, outsOf, setAll, truthD, dropRefs, setRefs, ownL, isTy, wS, v_gt, v_lt, v_le, v_ge, v_eq, v_ne, v_eqB, v_neB, v_add, v_sub, v_int, v_intB, v_abs, v_lenL, v_lenT, v_tupL, v_tupT, v_listL, v_ixL, v_ixT, v_setL, v_isN, PyData.isList, PyData.isTuple, v_eqN, v_eqS, PyData.isBool, PyData.isStr, PyData.isInt, isNone, tYs, ap_oOr, oorG, oorF, toD_val, toD_lst, frzF, frzG, fz_val, fz_lst, lkS, oorE, isE, nd, O.isVal, hr, e1, hl]
structure TK (c : Nat → FD) : Prop where
end Dv.G

/-! A value with one thing in it changed. -/
namespace Dv.G
open PySem PySem.Spec PyProof.Rows L2
variable {c : Nat → FD}
/-! weights -/
theorem wt_app : ∀ a b : List D, PyData.weightAll (a ++ b) = PyData.weightAll a + PyData.weightAll b
  | [], b => by rw [List.nil_append, PyData.weightAll, Nat.zero_add]
  | x :: a, b => by
    rw [List.cons_append, PyData.weightAll, PyData.weightAll, wt_app a b]
    omega
theorem wt_sub {a b : List D} (h : a.Sublist b) : PyData.weightAll a ≤ PyData.weightAll b := by
  induction h with
  | slnil => exact Nat.le_refl _
  | cons x _ ih =>
    rw [PyData.weightAll]
    omega
  | cons_cons x _ ih =>
    rw [PyData.weightAll, PyData.weightAll]
    omega
theorem wt_rev : ∀ a : List D, PyData.weightAll a.reverse = PyData.weightAll a
  | [] => rfl
  | x :: a => by
    rw [List.reverse_cons, wt_app, wt_rev a, PyData.weightAll, PyData.weightAll, PyData.weightAll]
    omega
theorem wt_mem {x : D} : ∀ {xs : List D}, x ∈ xs → x.weight + 1 ≤ PyData.weightAll xs
  | y :: xs, h => by
    rw [PyData.weightAll]
    rcases List.mem_cons.mp h with rfl | h
    · omega
    · have := wt_mem h
      omega
theorem wt_t (xs : List D) : (PyData.tuple xs).weight = PyData.weightAll xs := by rw [PyData.weight]
theorem wt_l (xs : List D) : (PyData.list xs).weight = PyData.weightAll xs := by rw [PyData.weight]
/-! slices -/
theorem cut_sub {α : Type} (xs : List α) (lo hi : Option Int) : (cutG xs lo hi).Sublist xs := by
  unfold cutG
  exact (List.take_sublist _ _).trans (List.drop_sublist _ _)
theorem cut_last {α : Type} (xs : List α) : (cutG xs (some (-1)) none).length ≤ 1 := by
  unfold cutG
  rw [List.length_take, List.length_drop]
  have e : HT.sIx xs.length 0 (some (-1)) = (-1 + (xs.length : Int)).toNat := by
    show (if (-1 : Int) < 0 then ((-1 : Int) + (xs.length : Int)).toNat else min (-1 : Int).toNat xs.length) = _
    rw [if_pos (by decide)]
  rw [e]
  omega
theorem cut_drop {α : Type} (xs : List α) (k : Nat) : cutG xs (some (k : Int)) none = xs.drop k := by
  unfold cutG
  rw [HT.sIx_none, HT.sIx_nat]
  rcases Nat.le_total k xs.length with h | h
  · rw [Nat.min_eq_left h]
    exact List.take_of_length_le (by rw [List.length_drop]; exact Nat.le_refl _)
  · rw [Nat.min_eq_right h, Nat.sub_self, List.take_zero, List.drop_of_length_le h]
/-! the ways -/
def WAYS : List D := [.str "ann", .str "bob", .str "", .str "A", .str "zzzzzzzzz", .int 0, .int 3, .int 40, .int (-1), .none, .bool true, .bool false, .tuple [], .list [], .tuple [.str "ann", .int 0, .int 1], .str "pay"]
def smB (W : Nat) : Nat → D → Bool
  | 0, _ => false
  | n + 1, .list ds => decide (ds.length ≤ W) && ds.all (smB W n)
  | n + 1, .tuple ds => decide (ds.length ≤ W) && ds.all (smB W n)
  | _ + 1, .dict _ => false
  | _ + 1, .int i => (decide (-1 ≤ i) && decide (i ≤ 100)) || (decide (i = 10 ^ 30) || decide (i = 10 ^ 31))
  | _ + 1, .str s => decide (s ∈ STRS)
  | _ + 1, .none => true
  | _ + 1, .bool _ => true
theorem smB_ok {W : Nat} : ∀ {n : Nat} {d : D}, smB W n d = true → Sm W n d
  | n + 1, .list ds, h => by
    rw [smB, Bool.and_eq_true] at h
    exact ⟨of_decide_eq_true h.1, fun d hd => smB_ok (List.all_eq_true.mp h.2 d hd)⟩
  | n + 1, .tuple ds, h => by
    rw [smB, Bool.and_eq_true] at h
    exact ⟨of_decide_eq_true h.1, fun d hd => smB_ok (List.all_eq_true.mp h.2 d hd)⟩
  | n + 1, .dict _, h => by cases h
  | n + 1, .int i, h => by
    rw [smB, Bool.or_eq_true, Bool.or_eq_true, Bool.and_eq_true] at h
    rcases h with ⟨h1, h2⟩ | h | h
    · exact .inl ⟨of_decide_eq_true h1, of_decide_eq_true h2⟩
    · exact .inr (.inl (of_decide_eq_true h))
    · exact .inr (.inr (of_decide_eq_true h))
  | n + 1, .str s, h => show s ∈ STRS from of_decide_eq_true h
  | n + 1, .none, _ => trivial
  | n + 1, .bool _, _ => trivial
theorem ways_sm : ∀ a ∈ WAYS, Sm 3 2 a := by
  have h : WAYS.all (smB 3 2) = true := by decide +kernel
  exact fun a ha => smB_ok (List.all_eq_true.mp h a ha)
theorem ways_wt : ∀ a ∈ WAYS, a.weight ≤ 100 := by
  have h : (WAYS.all fun a => decide (a.weight ≤ 100)) = true := by decide +kernel
  exact fun a ha => of_decide_eq_true (List.all_eq_true.mp h a ha)
/-! one step -/
theorem band_t {t u : MB} {s s1 : S} {r : Option (Bool × S)} (h : t s = some (true, s1)) (h2 : u s1 = r) : bAnd t u s = r := by
  unfold bAnd
  rw [h]
  exact h2
theorem band_f {t u : MB} {s s1 : S} (h : t s = some (false, s1)) : bAnd t u s = some (false, s1) := by
  unfold bAnd
  rw [h]
  rfl
theorem lb {W : WB} {s : S} {b : Bool} (h : W s = some b) : lB W s = some (b, s) := by
  unfold lB
  rw [h]
  rfl
theorem mop2 {g : List D → Option O} {m1 m2 : MR} {s s1 s2 : S} {a b : D} {o : O} (h1 : m1 s = some (.d a, s1)) (h2 : m2 s1 = some (.d b, s2)) (hg : g [a, b] = some o) : mOp g [m1, m2] s = some (o, s2) := by
  unfold mOp evR
  rw [h1, Option.bind_some]
  unfold evR
  rw [h2, Option.bind_some]
  show ((looks s2 [.d a, .d b]).bind fun ds => (g ds).map fun o => (o, s2)) = _
  show ((some [a, b]).bind fun ds => (g ds).map fun o => (o, s2)) = _
  rw [Option.bind_some, hg]
  rfl
theorem rvTup {m : MO} {s s1 : S} {d : D} (h : m s = some (.val d, s1)) : rV (vTup [rV (frz m)]) s = some (.d (.tuple [d]), s1) := by
  have h1 : rV (frz m) s = some (.d d, s1) := roV h
  have h2 : vTup [rV (frz m)] s = some (.tuple [d], s1) := by
    unfold vTup evR
    rw [h1, Option.bind_some]
    rfl
  unfold rV
  unfold rV at h2
  rw [h2]
  rfl
theorem v_neE {xs : List D} (hp : PyData.plainAll xs = true) : gNe [.tuple xs, .tuple []] = some (.val (.bool (!xs.isEmpty))) := by
  have f : flat2 (.tuple xs) (.tuple []) = true := by
    unfold flat2
    rw [decide_eq_true (show (PyData.tuple []).depth ≤ 64 by simp [PyData.depth, PyData.depthAll]), Bool.or_true]
    show (true && (PyData.plainAll xs && PyData.plainAll [])) = true
    rw [hp]
    rfl
  refine (if_pos (e := (none : Option O)) f).trans ?_
  cases xs with
  | nil => rfl
  | cons x xs =>
    show some (O.val (.bool (!PyData.eqv (.tuple (x :: xs)) (.tuple [])))) = _
    rw [PyData.eqv, PyData.eqvAll]
    rfl
theorem sm_plain {W n : Nat} (hw : W ≤ 1000) {xs : List D} (h : Sm W n (.tuple xs)) : PyData.plainAll xs = true := by
  have := lv_plain n _ (sm_lv hw h)
  rw [PyData.plain] at this
  exact this
/-! the last way -/
def MORE (xs : List D) (x : D) : List D := [.list xs, .tuple xs.reverse, .tuple (xs.drop 1), .tuple (cutG xs none (some (-1))), .tuple (xs ++ cutG xs (some (-1)) none), .tuple (xs.take 1 ++ xs), x]
theorem sm_t {W n : Nat} {xs : List D} (hl : xs.length ≤ W) (h : ∀ x ∈ xs, Sm W n x) : Sm W (n + 1) (.tuple xs) := ⟨hl, h⟩
theorem more_sm {W n : Nat} {xs : List D} {x : D} (h : Sm W n (.tuple xs)) (hx : x ∈ xs) : ∀ a ∈ MORE xs x, Sm (W + 1) (n + 1) a := by
  obtain ⟨hl, hm⟩ := sm_tup h
  have hm' : ∀ y ∈ xs, Sm (W + 1) n y := fun y hy => sm_up (Nat.le_succ W) (Nat.le_refl n) (hm y hy)
  have sub : ∀ {ys : List D}, ys.Sublist xs → Sm (W + 1) (n + 1) (.tuple ys) := fun {ys} hs => sm_t (by have := hs.length_le; omega) fun y hy => hm' y (hs.subset hy)
  intro a ha
  simp only [MORE, List.mem_cons, List.not_mem_nil, or_false] at ha
  rcases ha with rfl | rfl | rfl | rfl | rfl | rfl | ea
  · exact ⟨by omega, hm'⟩
  · exact sm_t (by rw [List.length_reverse]; omega) fun y hy => hm' y (List.mem_reverse.mp hy)
  · exact sub (List.drop_sublist _ _)
  · exact sub (cut_sub _ _ _)
  · refine sm_t ?_ fun y hy => hm' y ?_
    · have := cut_last xs
      rw [List.length_append]
      omega
    · rcases List.mem_append.mp hy with z | z
      · exact z
      · exact (cut_sub _ _ _).subset z
  · refine sm_t ?_ fun y hy => hm' y ?_
    · rw [List.length_append, List.length_take]
      omega
    · rcases List.mem_append.mp hy with z | z
      · exact List.mem_of_mem_take z
      · exact z
  · rw [ea]
    exact sm_up (Nat.le_refl _) (Nat.le_succ n) (hm' x hx)
theorem more_wt {xs : List D} {x : D} (hx : x ∈ xs) : ∀ a ∈ MORE xs x, a.weight ≤ 2 * PyData.weightAll xs := by
  intro a ha
  simp only [MORE, List.mem_cons, List.not_mem_nil, or_false] at ha
  rcases ha with rfl | rfl | rfl | rfl | rfl | rfl | ea
  · rw [wt_l]; omega
  · rw [wt_t, wt_rev]; omega
  · rw [wt_t]; have := wt_sub (List.drop_sublist 1 xs); omega
  · rw [wt_t]; have := wt_sub (cut_sub xs none (some (-1))); omega
  · rw [wt_t, wt_app]; have := wt_sub (cut_sub xs (some (-1)) none); omega
  · rw [wt_t, wt_app]; have := wt_sub (List.take_sublist 1 xs); omega
  · have := wt_mem hx; rw [ea]; omega
theorem more_ev {s : S} {i : Nat} {xs : List D} {x : D} (h : s[i]? = some (some (.val (.tuple xs)))) (hl : xs.length ≤ 60) (hx : gIxW [.tuple xs, .int 0] = some (.val x)) :
    wF (wLst [s1 (wF (wOp gListW [gr i])), s1 (wF (wOp gRevT [gr i])), s1 (wF (wSl (gr i) (wSo (wC (.int 1))) wNo)), s1 (wF (wSl (gr i) wNo (wSo (wF (wOp gNeg [wC (.int 1)]))))), s1 (wF (wOp gAdd [gr i, wF (wSl (gr i) (wSo (wF (wOp gNeg [wC (.int 1)]))) wNo)])), s1 (wF (wOp gAdd [wF (wSl (gr i) wNo (wSo (wC (.int 1)))), gr i])), s1 (wF (wOp gIxW [gr i, wC (.int 0)]))]) s = some (.list (MORE xs x)) := by
  have n1 : wSo (wF (wOp gNeg [wC (.int 1)])) s = some (some (-1)) := rfl
  have p1 : wSo (wC (.int 1)) s = some (some 1) := rfl
  have no : wNo s = some none := rfl
  have a1 : wF (wOp gListW [gr i]) s = some (.list xs) := op_l (evP1 (gr_v h)) (show gListW [.tuple xs] = some (.lst xs) from rfl)
  have a2 : wF (wOp gRevT [gr i]) s = some (.tuple xs.reverse) := op_v (evP1 (gr_v h)) rfl
  have a3 : wF (wSl (gr i) (wSo (wC (.int 1))) wNo) s = some (.tuple (xs.drop 1)) := wF_v (sl_o (gr_v h) p1 no (by
    show some (O.val (.tuple (cutG xs (some ((1 : Nat) : Int)) none))) = _
    rw [cut_drop]))
  have a4 : wF (wSl (gr i) wNo (wSo (wF (wOp gNeg [wC (.int 1)])))) s = some (.tuple (cutG xs none (some (-1)))) := wF_v (sl_o (gr_v h) no n1 rfl)
  have a5' : wF (wSl (gr i) (wSo (wF (wOp gNeg [wC (.int 1)]))) wNo) s = some (.tuple (cutG xs (some (-1)) none)) := wF_v (sl_o (gr_v h) n1 no rfl)
  have a5 : wF (wOp gAdd [gr i, wF (wSl (gr i) (wSo (wF (wOp gNeg [wC (.int 1)]))) wNo)]) s = some (.tuple (xs ++ cutG xs (some (-1)) none)) := op_v (evP2 (gr_v h) a5') (add_tups (by have := cut_last xs; omega))
  have a6' : wF (wSl (gr i) wNo (wSo (wC (.int 1)))) s = some (.tuple (xs.take 1)) := wF_v (sl_o (gr_v h) no p1 (by
    show some (O.val (.tuple (cutG xs none (some ((1 : Nat) : Int))))) = _
    rw [cut_to]))
  have a6 : wF (wOp gAdd [wF (wSl (gr i) wNo (wSo (wC (.int 1)))), gr i]) s = some (.tuple (xs.take 1 ++ xs)) := op_v (evP2 a6' (gr_v h)) (add_tups (by rw [List.length_take]; omega))
  have a7 : wF (wOp gIxW [gr i, wC (.int 0)]) s = some x := op_v (evP2 (gr_v h) rfl) hx
  exact wF_l (lst_v (evS1 a1 (evS1 a2 (evS1 a3 (evS1 a4 (evS1 a5 (evS1 a6 (evS1 a7 evS0))))))) (by show (7 : Nat) ≤ 1000; decide))
theorem add_lsts {a b : List D} (h : a.length + b.length ≤ 1000) : gAdd [.list a, .list b] = some (.lst (a ++ b)) := if_pos (line_of h)
/-- the walk's last part -/
def wayB (c : Nat → FD) : MS := sSeq (sAsg (gNm 3) (oV (lV (wF (wLst [s1 (wC (.str "ann")), s1 (wC (.str "bob")), s1 (wC (.str "")), s1 (wC (.str "A")), s1 (wC (.str "zzzzzzzzz")), s1 (wC (.int 0)), s1 (wC (.int 3)), s1 (wC (.int 40)), s1 (wF (wOp gNeg [wC (.int 1)])), s1 (wC .none), s1 (wC (.bool true)), s1 (wC (.bool false)), s1 (wTup []), s1 (wF (wLst [])), s1 (wTup [s1 (wC (.str "ann")), s1 (wC (.int 0)), s1 (wC (.int 1))]), s1 (wC (.str "pay"))]))))) (sSeq (sIf (lB (wAnd (wTru (wIs .tuple (gr 1))) (wBo (wOp gNe [gr 1, wTup []])))) (sAsg (gNm 3) (oV (lV (wF (wOp gAdd [gr 3, wF (wLst [s1 (wF (wOp gListW [gr 1])), s1 (wF (wOp gRevT [gr 1])), s1 (wF (wSl (gr 1) (wSo (wC (.int 1))) wNo)), s1 (wF (wSl (gr 1) wNo (wSo (wF (wOp gNeg [wC (.int 1)]))))), s1 (wF (wOp gAdd [gr 1, wF (wSl (gr 1) (wSo (wF (wOp gNeg [wC (.int 1)]))) wNo)])), s1 (wF (wOp gAdd [wF (wSl (gr 1) wNo (wSo (wC (.int 1)))), gr 1])), s1 (wF (wOp gIxW [gr 1, wC (.int 0)]))])]))))) (sNx)) (sRet (mCall (c 10) [aR 0, aR 3])))
theorem ways_ev (s : S) : wF (wLst [s1 (wC (.str "ann")), s1 (wC (.str "bob")), s1 (wC (.str "")), s1 (wC (.str "A")), s1 (wC (.str "zzzzzzzzz")), s1 (wC (.int 0)), s1 (wC (.int 3)), s1 (wC (.int 40)), s1 (wF (wOp gNeg [wC (.int 1)])), s1 (wC .none), s1 (wC (.bool true)), s1 (wC (.bool false)), s1 (wTup []), s1 (wF (wLst [])), s1 (wTup [s1 (wC (.str "ann")), s1 (wC (.int 0)), s1 (wC (.int 1))]), s1 (wC (.str "pay"))]) s = some (.list WAYS) := by
  have z1 : wTup [] s = some (.tuple []) := tup_v evS0 (by show (0 : Nat) ≤ 1000; decide)
  have z2 : wF (wLst []) s = some (.list []) := wF_l (lst_v evS0 (by show (0 : Nat) ≤ 1000; decide))
  have z3 : wTup [s1 (wC (.str "ann")), s1 (wC (.int 0)), s1 (wC (.int 1))] s = some (.tuple [.str "ann", .int 0, .int 1]) := tup_v (evS1 rfl (evS1 rfl (evS1 rfl evS0))) (by show (3 : Nat) ≤ 1000; decide)
  exact wF_l (lst_v (evS1 rfl (evS1 rfl (evS1 rfl (evS1 rfl (evS1 rfl (evS1 rfl (evS1 rfl (evS1 rfl (evS1 rfl (evS1 rfl (evS1 rfl (evS1 rfl (evS1 z1 (evS1 z2 (evS1 z3 (evS1 rfl evS0)))))))))))))))) (by show (16 : Nat) ≤ 1000; decide))
def longB : D → Bool
  | .tuple xs => !xs.isEmpty
  | _ => false
theorem long_w {s : S} {i W n : Nat} {d : D} (h : s[i]? = some (some (.val d))) (hw : W ≤ 1000) (hd : Sm W n d) : wAnd (wTru (wIs .tuple (gr i))) (wBo (wOp gNe [gr i, wTup []])) s = some (longB d) := by
  have h1 : wIs .tuple (gr i) s = some (.bool (isTy .tuple d)) := is_v (gr_v h) (sm_nd hd)
  cases d with
  | tuple xs => exact wand_v (a := true) (b := !xs.isEmpty) (tru_b h1) fun _ => bo_v (op_o (evP2 (gr_v h) (tup_v evS0 (by show (0 : Nat) ≤ 1000; decide))) (v_neE (sm_plain hw hd)))
  | _ => exact wand_v (a := false) (b := false) (tru_b h1) fun z => nomatch z
theorem way_ok (of : OfOk2 (c 10)) {W n m : Nat} {u : O} {d : D} {z2 : Option O} (hu : Urn (m + 1) u) (hW : 3 ≤ W) (hW2 : W ≤ 50) (hd : Sm W n d) : ∃ d' u' z3, Urn m u' ∧ wayB c [some u, some (.val d), z2, none] = some (.rt (.val d'), [some u', some (.val d), z2, z3]) ∧ Sm (W + 1) (n + 1) d' ∧ d'.weight ≤ 2 * d.weight + 100 := by
  have n1 : 1 ≤ n := by
    cases n with
    | zero => exact hd.elim
    | succ n => omega
  have wsm : ∀ a ∈ WAYS, Sm (W + 1) (n + 1) a := fun a ha => sm_up (by omega) (by omega) (ways_sm a ha)
  have g1 : sAsg (gNm 3) (oV (lV (wF (wLst [s1 (wC (.str "ann")), s1 (wC (.str "bob")), s1 (wC (.str "")), s1 (wC (.str "A")), s1 (wC (.str "zzzzzzzzz")), s1 (wC (.int 0)), s1 (wC (.int 3)), s1 (wC (.int 40)), s1 (wF (wOp gNeg [wC (.int 1)])), s1 (wC .none), s1 (wC (.bool true)), s1 (wC (.bool false)), s1 (wTup []), s1 (wF (wLst [])), s1 (wTup [s1 (wC (.str "ann")), s1 (wC (.int 0)), s1 (wC (.int 1))]), s1 (wC (.str "pay"))])))) [some u, some (.val d), z2, none] = some (.nx, [some u, some (.val d), z2, some (.val (.list WAYS))]) := asg_v (ways_ev _) (by show (3 : Nat) < 4; decide)
  have fin : ∀ ws : List D, ws ≠ [] → ws.length ≤ 1000 → (∀ a ∈ ws, Sm (W + 1) (n + 1) a ∧ a.weight ≤ 2 * d.weight + 100) → ∃ d' u' z3, Urn m u' ∧ sRet (mCall (c 10) [aR 0, aR 3]) [some u, some (.val d), z2, some (.val (.list ws))] = some (.rt (.val d'), [some u', some (.val d), z2, z3]) ∧ Sm (W + 1) (n + 1) d' ∧ d'.weight ≤ 2 * d.weight + 100 := fun ws hne hl ha => by
    obtain ⟨x, u', hu', hx, hf⟩ := of m u (.val (.list ws)) ws (.inr (.inl rfl)) hu hne hl
    exact ⟨x, u', _, hu', ret_m (callC (i := 0) (o := u) (o' := u') rfl (urn_nv hu) (.r rfl .nil) hf), (ha x hx).1, (ha x hx).2⟩
  have lw := long_w (s := [some u, some (.val d), z2, some (.val (.list WAYS))]) (i := 1) rfl (by omega) hd
  unfold wayB
  cases hb : longB d with
  | false =>
    rw [hb] at lw
    obtain ⟨d', u', z3, h1, h2, h3, h4⟩ := fin WAYS (by decide) (by decide) fun a ha => ⟨wsm a ha, by have := ways_wt a ha; omega⟩
    exact ⟨d', u', z3, h1, seq_nx g1 (seq_nx (if_nxB lw) h2), h3, h4⟩
  | true =>
    rw [hb] at lw
    cases d with
    | tuple xs =>
      obtain ⟨hl, hm⟩ := sm_tup hd
      cases xs with
      | nil => cases hb
      | cons x xs =>
        have e := more_ev (s := [some u, some (.val (.tuple (x :: xs))), z2, some (.val (.list WAYS))]) (i := 1) (xs := x :: xs) (x := x) rfl (by omega) (by
          show (atI (x :: xs) 0).map O.val = _
          rw [(at_nat (i := 0) (n := 0) (a := x) rfl rfl : atI (x :: xs) 0 = some x)]
          rfl)
        have g2 := asg_v (i := 3) (op_l (evP2 (gr_v (i := 3) (s := [some u, some (.val (.tuple (x :: xs))), z2, some (.val (.list WAYS))]) rfl) e) (show gAdd [.list WAYS, .list (MORE (x :: xs) x)] = some (.lst (WAYS ++ MORE (x :: xs) x)) from add_lsts (by show (23 : Nat) ≤ 1000; decide))) (by show (3 : Nat) < 4; decide)
        obtain ⟨d', u', z3, h1, h2, h3, h4⟩ := fin (WAYS ++ MORE (x :: xs) x) (by simp [WAYS]) (by show (23 : Nat) ≤ 1000; decide) fun a ha => by
          rcases List.mem_append.mp ha with ha | ha
          · exact ⟨wsm a ha, by have := ways_wt a ha; omega⟩
          · exact ⟨more_sm hd List.mem_cons_self a ha, by have := more_wt List.mem_cons_self a ha; rw [wt_t]; omega⟩
        exact ⟨d', u', z3, h1, seq_nx g1 (seq_nx ((sif_t lw).trans g2) h2), h3, h4⟩
    | _ => cases hb
/-! the walk -/
def BentOk (n : Nat) (f : FD) : Prop := ∀ (W m : Nat) (u : O) (d : D), Urn (m + (3 * n + 3)) u → 3 ≤ W → W ≤ 50 → Sm W n d → ∃ d' u', Urn m u' ∧ f [u, .val d] = some (.val d', [u', .val d]) ∧ Sm (W + 1) (n + 1) d' ∧ d'.weight ≤ 2 * d.weight + 100
theorem bent_run {u u' : O} {d d' : D} {z2 z3 : Option O} (h : m19 c [some u, some (.val d), none, none] = some (.rt (.val d'), [some u', some (.val d), z2, z3])) : runDef 4 2 (m19 c) [u, .val d] = some (.val d', [u', .val d]) := run_rt rfl h rfl
theorem bent_step {n : Nat} (tk : TakeOk (c 8)) (of : OfOk2 (c 10)) (ih : BentOk n (c 19)) : BentOk (n + 1) (runDef 4 2 (m19 c)) := fun W m u d hu hW hW2 hd => by
  have lt : lB (wTru (wIs .tuple (gr 1))) [some u, some (.val d), none, none] = some (isTy .tuple d, [some u, some (.val d), none, none]) := lb (tru_b (is_v (gr_v rfl) (sm_nd hd)))
  have short : ∀ {u1 : O} {k : Bool}, Urn (m + 1) u1 → bAnd (lB (wTru (wIs .tuple (gr 1)))) (bAnd (lB (wBo (wOp gNe [gr 1, wTup []]))) (mBo (mOp gGt [rO (mCall (c 8) [aR 0, aV (lV (wC (.int 6)))]), rV (lV (wC (.int 0)))]))) [some u, some (.val d), none, none] = some (false, [some u1, some (.val d), none, none]) → ∃ d' u', Urn m u' ∧ runDef 4 2 (m19 c) [u, .val d] = some (.val d', [u', .val d]) ∧ Sm (W + 1) (n + 1 + 1) d' ∧ d'.weight ≤ 2 * d.weight + 100 := fun {u1 k} h1 hc => by
    obtain ⟨d', u', z3, q1, q2, q3, q4⟩ := way_ok of h1 hW hW2 hd (z2 := none)
    exact ⟨d', u', q1, bent_run (z2 := none) (z3 := z3) (seq_nx (if_nx hc) q2), q3, q4⟩
  cases hb : longB d with
  | false =>
    refine short (k := true) (hu.le (by omega)) ?_
    cases d with
    | tuple xs =>
      have e : xs = [] := by
        cases xs with
        | nil => rfl
        | cons x xs => cases hb
      subst e
      exact band_t lt (band_f (lb (bo_v (op_o (evP2 (gr_v rfl) (tup_v evS0 (by show (0 : Nat) ≤ 1000; decide))) (v_neE rfl)))))
    | _ => exact band_f lt
  | true =>
    cases d with
    | tuple xs =>
      obtain ⟨hl, hm⟩ := sm_tup hd
      have hne : xs.isEmpty = false := by
        cases xs with
        | nil => cases hb
        | cons x xs => rfl
      have xne : xs ≠ [] := fun z => by rw [z] at hne; cases hne
      have l2 : lB (wBo (wOp gNe [gr 1, wTup []])) [some u, some (.val (.tuple xs)), none, none] = some (true, [some u, some (.val (.tuple xs)), none, none]) := lb (bo_v (op_o (evP2 (gr_v rfl) (tup_v evS0 (by show (0 : Nat) ≤ 1000; decide))) ((v_neE (sm_plain (by omega) hd)).trans (by rw [hne]; rfl))))
      obtain ⟨r, u1, hu1, hr, r0, r1⟩ := tk (m + (3 * (n + 1) + 2)) u 6 (hu.le (by omega)) (by decide) (by decide)
      have c1 : mCall (c 8) [aR 0, aV (lV (wC (.int 6)))] [some u, some (.val (.tuple xs)), none, none] = some (.val (.int r), [some u1, some (.val (.tuple xs)), none, none]) := callC (i := 0) (o := u) (o' := u1) rfl (urn_nv hu) (.d (avV rfl) .nil) hr
      have l3 : mBo (mOp gGt [rO (mCall (c 8) [aR 0, aV (lV (wC (.int 6)))]), rV (lV (wC (.int 0)))]) [some u, some (.val (.tuple xs)), none, none] = some (decide (0 < r), [some u1, some (.val (.tuple xs)), none, none]) := mbo (mop2 (roV c1) (rvV rfl) (v_gt r 0))
      cases hr0 : decide (0 < r) with
      | false =>
        rw [hr0] at l3
        exact short (k := true) (hu1.le (by omega)) (band_t lt (band_t l2 l3))
      | true =>
        rw [hr0] at l3
        have hpos : 0 < xs.length := List.length_pos_iff.mpr xne
        obtain ⟨i, u2, hu2, hi, i0, i1⟩ := tk (m + (3 * n + 3)) u1 xs.length (hu1.le (by omega)) (by omega) (by omega)
        obtain ⟨x, x1, x2⟩ := at_lt i0 i1
        obtain ⟨k, rfl⟩ : ∃ k : Nat, i = (k : Int) := ⟨i.toNat, by omega⟩
        have c2 : mCall (c 8) [aR 0, aO (lO (wOp gLenW [gr 1]))] [some u1, some (.val (.tuple xs)), none, none] = some (.val (.int k), [some u2, some (.val (.tuple xs)), none, none]) := callC (i := 0) (o := u1) (o' := u2) rfl (urn_nv hu1) (.o (aoL (op_o (evP1 (gr_v rfl)) (show gLenW [.tuple xs] = some (.val (.int (xs.length : Nat))) from rfl))) .nil) hi
        have a1 : sAsg (gNm 2) (oV (frz (mCall (c 8) [aR 0, aO (lO (wOp gLenW [gr 1]))]))) [some u1, some (.val (.tuple xs)), none, none] = some (.nx, [some u2, some (.val (.tuple xs)), some (.val (.int k)), none]) := asg_f c2 (by show (2 : Nat) < 4; decide)
        have hdx : Sm W n x := by
          have h2 := hd.2 x x2
          exact h2
        obtain ⟨x', u3, hu3, hf, sx, wx⟩ := ih W m u2 x hu2 hW hW2 hdx
        have ex : wOp gIxW [gr 1, gr 2] [some u2, some (.val (.tuple xs)), some (.val (.int k)), none] = some (.val x) := op_o (evP2 (gr_v rfl) (gr_v rfl)) (by
          show (atI xs k).map O.val = _
          rw [x1]
          rfl)
        have c3 : mCall (c 19) [aR 0, aO (lO (wOp gIxW [gr 1, gr 2]))] [some u2, some (.val (.tuple xs)), some (.val (.int k)), none] = some (.val x', [some u3, some (.val (.tuple xs)), some (.val (.int k)), none]) := callC (i := 0) (o := u2) (o' := u3) rfl (urn_nv hu2) (.o (aoL ex) .nil) hf
        have p1 : rO (lO (wSl (gr 1) wNo (wSo (gv 2)))) [some u2, some (.val (.tuple xs)), some (.val (.int k)), none] = some (.d (.tuple (xs.take k)), [some u2, some (.val (.tuple xs)), some (.val (.int k)), none]) := roV (loV (sl_o (gr_v rfl) (show wNo _ = some none from rfl) (show wSo (gv 2) _ = some (some (k : Int)) from rfl) (by
          show some (O.val (.tuple (cutG xs none (some (k : Int))))) = _
          rw [cut_to])))
        have p3 : rO (lO (wSl (gr 1) (wSo (wF (wOp gAdd [gr 2, wC (.int 1)]))) wNo)) [some u3, some (.val (.tuple xs)), some (.val (.int k)), none] = some (.d (.tuple (xs.drop (k + 1))), [some u3, some (.val (.tuple xs)), some (.val (.int k)), none]) := roV (loV (sl_o (gr_v rfl) (show wSo (wF (wOp gAdd [gr 2, wC (.int 1)])) _ = some (some ((k : Int) + 1)) from rfl) (show wNo _ = some none from rfl) (by
          show some (O.val (.tuple (cutG xs (some (((k + 1 : Nat)) : Int)) none))) = _
          rw [cut_drop])))
        have kl : k < xs.length := by omega
        have q1 : mOp gAdd [rO (lO (wSl (gr 1) wNo (wSo (gv 2)))), rV (vTup [rV (frz (mCall (c 19) [aR 0, aO (lO (wOp gIxW [gr 1, gr 2]))]))])] [some u2, some (.val (.tuple xs)), some (.val (.int k)), none] = some (.val (.tuple (xs.take k ++ [x'])), [some u3, some (.val (.tuple xs)), some (.val (.int k)), none]) := mop2 p1 (rvTup c3) (add_tups (by rw [List.length_take, List.length_cons, List.length_nil]; omega))
        have q2 : mOp gAdd [rO (mOp gAdd [rO (lO (wSl (gr 1) wNo (wSo (gv 2)))), rV (vTup [rV (frz (mCall (c 19) [aR 0, aO (lO (wOp gIxW [gr 1, gr 2]))]))])]), rO (lO (wSl (gr 1) (wSo (wF (wOp gAdd [gr 2, wC (.int 1)]))) wNo))] [some u2, some (.val (.tuple xs)), some (.val (.int k)), none] = some (.val (.tuple (xs.take k ++ [x'] ++ xs.drop (k + 1))), [some u3, some (.val (.tuple xs)), some (.val (.int k)), none]) := mop2 (roV q1) p3 (add_tups (by rw [List.length_append, List.length_take, List.length_cons, List.length_nil, List.length_drop]; omega))
        have sq : sSeq (sAsg (gNm 2) (oV (frz (mCall (c 8) [aR 0, aO (lO (wOp gLenW [gr 1]))])))) (sRet (mOp gAdd [rO (mOp gAdd [rO (lO (wSl (gr 1) wNo (wSo (gv 2)))), rV (vTup [rV (frz (mCall (c 19) [aR 0, aO (lO (wOp gIxW [gr 1, gr 2]))]))])]), rO (lO (wSl (gr 1) (wSo (wF (wOp gAdd [gr 2, wC (.int 1)]))) wNo))])) [some u1, some (.val (.tuple xs)), none, none] = some (.rt (.val (.tuple (xs.take k ++ [x'] ++ xs.drop (k + 1)))), [some u3, some (.val (.tuple xs)), some (.val (.int k)), none]) := seq_nx a1 (ret_m q2)
        refine ⟨_, u3, hu3, bent_run (seq_rt ((mif_t (band_t lt (band_t l2 l3))).trans sq)), ?_, ?_⟩
        · refine sm_t (by rw [List.length_append, List.length_append, List.length_take, List.length_cons, List.length_nil, List.length_drop]; omega) fun y hy => ?_
          rcases List.mem_append.mp hy with hy | hy
          · rcases List.mem_append.mp hy with hy | hy
            · exact sm_up (Nat.le_succ W) (Nat.le_refl _) (hm y (List.mem_of_mem_take hy))
            · rw [List.mem_singleton.mp hy]
              exact sx
          · exact sm_up (Nat.le_succ W) (Nat.le_refl _) (hm y (List.mem_of_mem_drop hy))
        · have e0 : xs = xs.take k ++ xs.drop k := (List.take_append_drop k xs).symm
          have e1 : xs.drop k = x :: xs.drop (k + 1) := by
            rw [List.drop_eq_getElem_cons kl]
            congr 1
            have z := at_nat (i := (k : Int)) (n := k) rfl (List.getElem?_eq_getElem kl)
            rw [z] at x1
            exact Option.some.inj x1
          have w0 : PyData.weightAll xs = PyData.weightAll (xs.take k) + (x.weight + 1 + PyData.weightAll (xs.drop (k + 1))) := by
            conv => lhs; rw [e0, wt_app, e1, PyData.weightAll]
          rw [wt_t, wt_t, wt_app, wt_app, w0]
          show _ + (x'.weight + 1 + PyData.weightAll []) + _ ≤ _
          rw [PyData.weightAll]
          omega
    | _ => cases hb
theorem bent_ok : ∀ n N, n + 3 ≤ N → BentOk n (C N 19)
  | 0, _, _ => fun W m u d _ _ _ hd => hd.elim
  | n + 1, N, h => by
    obtain ⟨M, rfl⟩ : ∃ M, N = M + 3 + 1 := ⟨N - 4, by omega⟩
    rw [C_19 (M + 3)]
    exact bent_step (take_at (M + 2)) (by rw [C_10 (M + 2)]; exact of_ok2 (take_at (M + 1))) (bent_ok n (M + 3) (by omega))
end Dv.G

/-! What is shown; the kinds; _law_right. -/
namespace Dv.G
open PySem PySem.Spec PyProof.Rows L2
variable {c : Nat → FD}
/-! ### repr -/
theorem iok_big {i : Int} (h : iOk i) : i.natAbs ≤ 10 ^ 31 := by
  unfold iOk at h
  omega
theorem int_shows {i : Int} (h : iOk i) : (PyData.int i).showable = true ∧ (PyData.int i).leavesShort 40 = true := by
  constructor
  · have hb := iok_big h
    rw [PyData.showable]
    refine decide_eq_true ?_
    by_cases z : i.natAbs = 0
    · rw [z]
      decide
    · rw [Nat.log2_lt z]
      exact Nat.lt_of_le_of_lt hb (by decide +kernel)
  · rw [PyData.leavesShort]
    refine decide_eq_true ?_
    rcases h with ⟨h1, h2⟩ | rfl | rfl
    · exact Nat.le_trans (PyData.shown_int_le (by omega)) (by decide)
    · decide +kernel
    · decide +kernel
theorem strs_shows : ∀ s ∈ STRS, (PyData.str s).leavesShort 40 = true := by decide +kernel
def Shows (d : D) : Prop := d.showable = true ∧ d.hasDict = false ∧ d.leavesShort 40 = true
theorem shows_all : ∀ {ds : List D}, (∀ d ∈ ds, Shows d) → PyData.showableAll ds = true ∧ PyData.hasDictAll ds = false ∧ PyData.leavesShortAll 40 ds = true
  | [], _ => ⟨rfl, rfl, rfl⟩
  | d :: ds, h => by
    obtain ⟨a1, a2, a3⟩ := h d List.mem_cons_self
    obtain ⟨b1, b2, b3⟩ := shows_all fun x hx => h x (List.mem_cons_of_mem _ hx)
    refine ⟨?_, ?_, ?_⟩
    · rw [PyData.showableAll, a1, b1]
      rfl
    · rw [PyData.hasDictAll, a2, b2]
      rfl
    · rw [PyData.leavesShortAll, a3, b3]
      rfl
theorem sm_shows {W : Nat} : ∀ {n : Nat} {d : D}, Sm W n d → Shows d
  | n + 1, .list ds, h => by
    obtain ⟨a1, a2, a3⟩ := shows_all fun d hd => sm_shows (h.2 d hd)
    exact ⟨by rw [PyData.showable]; exact a1, by rw [PyData.hasDict]; exact a2, by rw [PyData.leavesShort]; exact a3⟩
  | n + 1, .tuple ds, h => by
    obtain ⟨a1, a2, a3⟩ := shows_all fun d hd => sm_shows (h.2 d hd)
    exact ⟨by rw [PyData.showable]; exact a1, by rw [PyData.hasDict]; exact a2, by rw [PyData.leavesShort]; exact a3⟩
  | n + 1, .dict _, h => h.elim
  | n + 1, .int i, h => ⟨(int_shows h).1, by rw [PyData.hasDict], (int_shows h).2⟩
  | n + 1, .str s, h => ⟨by rw [PyData.showable], by rw [PyData.hasDict], strs_shows s h⟩
  | n + 1, .none, _ => ⟨by rw [PyData.showable], by rw [PyData.hasDict], by rw [PyData.leavesShort]⟩
  | n + 1, .bool _, _ => ⟨by rw [PyData.showable], by rw [PyData.hasDict], by rw [PyData.leavesShort]⟩
mutual
theorem lv_dep : ∀ (n : Nat) (d : D), Lv n d → d.depth ≤ n
  | n + 1, .list ds, h => by
    have := lv_depA n ds h.2
    simp only [PyData.depth]
    omega
  | n + 1, .tuple ds, h => by
    have := lv_depA n ds h.2
    simp only [PyData.depth]
    omega
  | n + 1, .none, _ => by simp [PyData.depth]
  | n + 1, .bool b, _ => by simp [PyData.depth]
  | n + 1, .int b, _ => by simp [PyData.depth]
  | n + 1, .str b, _ => by simp [PyData.depth]
  | n + 1, .dict _, h => h.elim
theorem lv_depA : ∀ (n : Nat) (ds : List D), (∀ d ∈ ds, Lv n d) → PyData.depthAll ds ≤ n
  | n, [], _ => by simp [PyData.depthAll]
  | n, d :: ds, h => by
    have h1 := lv_dep n d (h d List.mem_cons_self)
    have h2 := lv_depA n ds fun x hx => h x (List.mem_cons_of_mem _ hx)
    simp only [PyData.depthAll]
    omega
end
def Good (d : D) : Prop := T d ∧ d.weight ≤ 20000
theorem good_repr {d : D} (h : Good d) : gRepr [d] = some (.val (.str d.shown)) := by
  obtain ⟨t, hw⟩ := h
  obtain ⟨a1, a2, a3⟩ := sm_shows t
  have lv := sm_lv (by decide) t
  have hl := PyData.shown_le 40 (by decide) d a3
  exact if_pos (e := (none : Option O)) ⟨lv_plain _ d lv, a1, a2, lv_dep _ d lv, by omega⟩
/-! ### the kinds -/
def kindsB : Option (O × List O) → Bool
  | some (.lst ks, []) => decide (ks.length ≤ 80) && ks.all fun d => smB 60 64 d && decide (d.weight ≤ 20000)
  | _ => false
def KindsOk (f : FD) : Prop := ∃ ks, f [] = some (.lst ks, []) ∧ ks.length ≤ 80 ∧ ∀ d ∈ ks, Good d
theorem kinds_ok : KindsOk (runDef 6 0 (m18 c)) := by
  have h : kindsB (runDef 6 0 (m18 fun _ _ => none) []) = true := by decide +kernel
  have e : runDef 6 0 (m18 c) [] = runDef 6 0 (m18 fun _ _ => none) [] := rfl
  unfold KindsOk
  rw [e]
  generalize runDef 6 0 (m18 fun _ _ => none) [] = r at *
  unfold kindsB at h
  split at h
  · rename_i ks
    rw [Bool.and_eq_true] at h
    refine ⟨ks, rfl, of_decide_eq_true h.1, fun d hd => ?_⟩
    have := List.all_eq_true.mp h.2 d hd
    rw [Bool.and_eq_true] at this
    exact ⟨smB_ok this.1, of_decide_eq_true this.2⟩
  · cases h
/-! ### a drawn book -/
theorem wt_le {B : Nat} : ∀ {xs : List D}, (∀ x ∈ xs, x.weight ≤ B) → PyData.weightAll xs ≤ xs.length * (B + 1)
  | [], _ => by rw [PyData.weightAll]; exact Nat.zero_le _
  | x :: xs, h => by
    have h1 := h x List.mem_cons_self
    have h2 := wt_le fun y hy => h y (List.mem_cons_of_mem _ hy)
    rw [PyData.weightAll, List.length_cons, Nat.succ_mul]
    omega
theorem wt_int {a : Int} (h0 : 0 ≤ a) (h1 : a ≤ 40) : (PyData.int a).weight ≤ 6 := by
  rw [PyData.weight]
  split
  · exact Nat.zero_le _
  · rename_i h
    have z : a.natAbs ≠ 0 := fun z => h (by rw [Int.natAbs_eq_zero.mp z]; rfl)
    have := (Nat.log2_lt z (k := 6)).mpr (by omega)
    omega
theorem nms_len : ∀ s ∈ NMS, (PyData.str s).weight ≤ 8 := by decide +kernel
theorem nms_sub : ∀ s ∈ NMS, s ∈ STRS := by decide +kernel
theorem sm_nm {W n : Nat} {s : Str} (h : s ∈ NMS) : Sm W (n + 1) (.str s) := nms_sub s h
theorem sm_day {W n : Nat} {a : Int} (h : 0 ≤ a ∧ a ≤ 40) : Sm W (n + 1) (.int a) := .inl ⟨by omega, by omega⟩
theorem hrs_ok {d : D} (h : HRS d) : Sm 8 2 d ∧ d.weight ≤ 46 := by
  obtain ⟨r, p, a, b, rfl, hr, hp, ha, hb⟩ := h
  refine ⟨⟨by simp, fun x hx => ?_⟩, ?_⟩
  · simp only [List.mem_cons, List.not_mem_nil, or_false] at hx
    rcases hx with rfl | rfl | rfl | rfl
    · exact sm_nm hr
    · exact sm_nm hp
    · exact sm_day ha
    · exact sm_day hb
  · have := nms_len r hr; have := nms_len p hp; have := wt_int ha.1 ha.2; have := wt_int hb.1 hb.2
    simp only [wt_t, PyData.weightAll]
    omega
theorem grs_ok {d : D} (h : GRS d) : Sm 8 2 d ∧ d.weight ≤ 46 := by
  obtain ⟨p, a, b, rfl, hp, ha, hb⟩ := h
  refine ⟨⟨by simp, fun x hx => ?_⟩, ?_⟩
  · simp only [List.mem_cons, List.not_mem_nil, or_false] at hx
    rcases hx with rfl | rfl | rfl
    · exact sm_nm hp
    · exact sm_day ha
    · exact sm_day hb
  · have := nms_len p hp; have := wt_int ha.1 ha.2; have := wt_int hb.1 hb.2
    simp only [wt_t, PyData.weightAll]
    omega
theorem drs_ok {d : D} (h : DRS d) : Sm 8 2 d ∧ d.weight ≤ 46 := by
  obtain ⟨r, p, q, a, b, rfl, hr, hp, hq, ha, hb⟩ := h
  refine ⟨⟨by simp, fun x hx => ?_⟩, ?_⟩
  · simp only [List.mem_cons, List.not_mem_nil, or_false] at hx
    rcases hx with rfl | rfl | rfl | rfl | rfl
    · exact sm_nm hr
    · exact sm_nm hp
    · exact sm_nm hq
    · exact sm_day ha
    · exact sm_day hb
  · have := nms_len r hr; have := nms_len p hp; have := nms_len q hq; have := wt_int ha.1 ha.2; have := wt_int hb.1 hb.2
    simp only [wt_t, PyData.weightAll]
    omega
theorem rows_ok {R : D → Prop} (hR : ∀ {d}, R d → Sm 8 2 d ∧ d.weight ≤ 46) {xs : List D} (h : ∀ d ∈ xs, R d) (hl : xs.length ≤ 8) : Sm 8 3 (.tuple xs) ∧ (PyData.tuple xs).weight ≤ 376 := by
  refine ⟨⟨hl, fun x hx => (hR (h x hx)).1⟩, ?_⟩
  have := wt_le fun x hx => (hR (h x hx)).2
  rw [wt_t]
  have h2 : xs.length * (46 + 1) ≤ 8 * 47 := Nat.mul_le_mul hl (Nat.le_refl _)
  omega
theorem enc_ok {hs gs ds : List D} (B : Book hs gs ds) : Sm 8 4 (enc hs gs ds) ∧ (enc hs gs ds).weight ≤ 1131 := by
  obtain ⟨a1, a2⟩ := rows_ok hrs_ok B.h B.lh
  obtain ⟨b1, b2⟩ := rows_ok grs_ok B.g B.lg
  obtain ⟨c1, c2⟩ := rows_ok drs_ok B.d B.ld
  unfold enc
  refine ⟨⟨by simp, fun x hx => ?_⟩, ?_⟩
  · simp only [List.mem_cons, List.not_mem_nil, or_false] at hx
    rcases hx with rfl | rfl | rfl
    · exact a1
    · exact b1
    · exact c1
  · rw [wt_t, PyData.weightAll, PyData.weightAll, PyData.weightAll, PyData.weightAll]
    omega
/-! ### _law_right -/
structure R0 (c : Nat → FD) : Prop where
  tk : TakeOk (c 8)
  tome : TomeOk (c 14)
  bent : ∀ n, n ≤ 8 → BentOk n (c 19)
  kinds : KindsOk (c 18)
  same : ∀ o1 o2 : O, o1.toD = o2.toD → Lv 8 o2.toD → c 11 [o1, o2] = some (.val (.bool true), [.val o2.toD, .val o2.toD])
  book : BookF (c 6)
  tm : BookF (c 17)
theorem call_mv {f : FD} {i : Nat} {m : MO} {ms : List MArg} {s s1 : S} {x o0 o1 : O} (h0 : s[i]? = some (some o0)) (h1 : s1[i]? = some (some o1)) (h : m s = some (x, s1)) : mCall f (aR i :: aO m :: ms) s = mCall f (aR i :: aO (lO fun _ => some x) :: ms) s1 := by
  have a0 : aR i s = some (.r i, s) := aR_at h0
  have a1 : aR i s1 = some (.r i, s1) := aR_at h1
  have b0 : aO m s = some (.o x, s1) := by
    unfold aO
    rw [h]
    rfl
  have b1 : aO (lO fun _ => some x) s1 = some (.o x, s1) := rfl
  have e : evA (aR i :: aO m :: ms) s = evA (aR i :: aO (lO fun _ => some x) :: ms) s1 := by
    unfold evA
    rw [a0, a1, Option.bind_some, Option.bind_some]
    unfold evA
    rw [b0, b1]
  unfold mCall
  rw [e]
theorem iop1 {g : List D → Option (List D)} {m : MR} {s s1 : S} {a : D} {ds : List D} (h : m s = some (.d a, s1)) (hg : g [a] = some ds) : iOp g [m] s = some (ds, s1) := by
  unfold iOp evR
  rw [h, Option.bind_some]
  show ((some [a]).bind fun ds => (g ds).map fun xs => (xs, s1)) = _
  rw [Option.bind_some, hg]
  rfl
def lapB (c : Nat → FD) : MS := sAsg (gNm 3) (oV (frz (mCall (c 19) [aR 0, aR 3])))
theorem laps (Y : R0 c) {t : O} {x2 x5 x6 : Option O} : ∀ (ds : List D) (j m : Nat) (u : O) (d : D) (x4 : Option O), j + ds.length ≤ 3 → Urn (m + 30 * ds.length) u → Sm (8 + j) (4 + j) d → 2 ^ ds.length * (d.weight + 100) ≤ 20000 → ∃ u' d' x4', Urn m u' ∧ Good d' ∧ forGo (gNm 4) (lapB c) ds [some u, some t, x2, some (.val d), x4, x5, x6] = some (.nx, [some u', some t, x2, some (.val d'), x4', x5, x6])
  | [], j, m, u, d, x4, hj, hu, hs, hw => ⟨u, d, x4, hu, ⟨sm_up (by rw [List.length_nil] at hj; omega) (by rw [List.length_nil] at hj; omega) hs, by
      rw [List.length_nil, Nat.pow_zero, Nat.one_mul] at hw
      omega⟩, rfl⟩
  | e :: ds, j, m, u, d, x4, hj, hu, hs, hw => by
    rw [List.length_cons] at hj hu
    obtain ⟨d1, u1, hu1, hf, s1, w1⟩ := Y.bent (4 + j) (by omega) (8 + j) (m + 30 * ds.length) u d (hu.le (by omega)) (by omega) (by omega) hs
    have hw1 : 2 ^ ds.length * (d1.weight + 100) ≤ 20000 := by
      rw [List.length_cons, Nat.pow_succ, Nat.mul_assoc] at hw
      exact Nat.le_trans (Nat.mul_le_mul (Nat.le_refl _) (by omega)) hw
    obtain ⟨u2, d2, x4', h1, h2, h3⟩ := laps Y ds (j + 1) m u1 d1 (some (.val e)) (by omega) hu1 (by
      rw [show 8 + (j + 1) = 8 + j + 1 from rfl, show 4 + (j + 1) = 4 + j + 1 from rfl]
      exact s1) hw1
    refine ⟨u2, d2, x4', h1, h2, ?_⟩
    have g1 : lapB c [some u, some t, x2, some (.val d), some (.val e), x5, x6] = some (.nx, [some u1, some t, x2, some (.val d1), some (.val e), x5, x6]) := asg_f (callC (i := 0) (o := u) (o' := u1) rfl (urn_nv hu) (.r rfl .nil) hf) (by show (3 : Nat) < 7; decide)
    exact for_step rfl g1 h3
def turnB (c : Nat → FD) : MS := sSeq (sAsg (gNm 3) (oV (frz (mCall (c 14) [aR 0, aO (mOp gAdd [rV (lV (wC (.int 2))), rO (mCall (c 8) [aR 0, aV (lV (wC (.int 7)))])]), aV (lV (wC (.int 40)))])))) (sSeq (sFor (iOp gRng [rO (mCall (c 8) [aR 0, aV (lV (wC (.int 4)))])]) (gNm 4) (lapB c)) (sExp (oApp 1 (vVar 3))))
theorem turn_ok (Y : R0 c) {m : Nat} {u : O} {told : List D} {x2 x3 x4 : Option O} (hu : Urn (m + 200) u) (hl : told.length ≤ 500) (hx : x3 = none ∨ ∃ d, x3 = some (.val d)) : ∃ u' d x4', Urn m u' ∧ Good d ∧ turnB c [some u, some (.lst told), x2, x3, x4, none, none] = some (.nx, [some u', some (.lst (told ++ [d])), x2, some (.val d), x4', none, none]) := by
  obtain ⟨r, u1, hu1, hr, r0, r1⟩ := Y.tk (m + 199) u 7 hu (by decide) (by decide)
  have c1 : mCall (c 8) [aR 0, aV (lV (wC (.int 7)))] [some u, some (.lst told), x2, x3, x4, none, none] = some (.val (.int r), [some u1, some (.lst told), x2, x3, x4, none, none]) := callC (i := 0) (o := u) (o' := u1) rfl (urn_nv hu) (.d (avV rfl) .nil) hr
  have c2 : mOp gAdd [rV (lV (wC (.int 2))), rO (mCall (c 8) [aR 0, aV (lV (wC (.int 7)))])] [some u, some (.lst told), x2, x3, x4, none, none] = some (.val (.int (2 + r)), [some u1, some (.lst told), x2, x3, x4, none, none]) := mop2 (rvV rfl) (roV c1) (v_add 2 r)
  obtain ⟨k, hk⟩ : ∃ k : Nat, (k : Int) = 2 + r := ⟨(2 + r).toNat, by omega⟩
  rw [← hk] at c2
  obtain ⟨hs, gs, ds, u2, hu2, B, ht⟩ := Y.tome (m + 99) u1 k 40 (hu1.le (by omega)) (by omega) (by omega) (by decide) (by decide)
  obtain ⟨e1, e2⟩ := enc_ok B
  have c3 : mCall (c 14) [aR 0, aO (mOp gAdd [rV (lV (wC (.int 2))), rO (mCall (c 8) [aR 0, aV (lV (wC (.int 7)))])]), aV (lV (wC (.int 40)))] [some u, some (.lst told), x2, x3, x4, none, none] = some (.val (enc hs gs ds), [some u2, some (.lst told), x2, x3, x4, none, none]) := (call_mv (o0 := u) (o1 := u1) rfl rfl c2).trans (callC (i := 0) (o := u1) (o' := u2) rfl (urn_nv hu1) (.o (aoL rfl) (.d (avV rfl) .nil)) ht)
  have a1 : sAsg (gNm 3) (oV (frz (mCall (c 14) [aR 0, aO (mOp gAdd [rV (lV (wC (.int 2))), rO (mCall (c 8) [aR 0, aV (lV (wC (.int 7)))])]), aV (lV (wC (.int 40)))]))) [some u, some (.lst told), x2, x3, x4, none, none] = some (.nx, [some u2, some (.lst told), x2, some (.val (enc hs gs ds)), x4, none, none]) := asg_f c3 (by show (3 : Nat) < 7; decide)
  obtain ⟨n, u3, hu3, hn, n0, n1⟩ := Y.tk (m + 98) u2 4 hu2 (by decide) (by decide)
  have c4 : mCall (c 8) [aR 0, aV (lV (wC (.int 4)))] [some u2, some (.lst told), x2, some (.val (enc hs gs ds)), x4, none, none] = some (.val (.int n), [some u3, some (.lst told), x2, some (.val (enc hs gs ds)), x4, none, none]) := callC (i := 0) (o := u2) (o' := u3) rfl (urn_nv hu2) (.d (avV rfl) .nil) hn
  have g1 := gRng1 (j := n) n0 (by omega)
  have i1 := iop1 (g := gRng) (roV c4) g1
  have hlen : (rng 0 n.toNat).length ≤ 3 := by rw [rng_len]; omega
  obtain ⟨u4, d, x4', hu4, hd, hf⟩ := laps Y (t := .lst told) (x2 := x2) (x5 := none) (x6 := none) (rng 0 n.toNat) 0 m u3 (enc hs gs ds) x4 (by omega) (hu3.le (by omega)) e1 (by
    have h8 : 2 ^ (rng 0 n.toNat).length ≤ 2 ^ 3 := Nat.pow_le_pow_right (by decide) hlen
    have := Nat.mul_le_mul h8 (show (enc hs gs ds).weight + 100 ≤ 1231 by omega)
    exact Nat.le_trans this (by decide))
  have a3 : sExp (oApp 1 (vVar 3)) [some u4, some (.lst told), x2, some (.val d), x4', none, none] = some (.nx, [some u4, some (.lst (told ++ [d])), x2, some (.val d), x4', none, none]) := app_m (ys := told) (xs := told) rfl (show vVar 3 _ = some (d, [some u4, some (.lst told), x2, some (.val d), x4', none, none]) from rfl) rfl (small_line (by omega))
  exact ⟨u4, d, x4', hu4, hd, seq_nx a1 (seq_nx (for_nx i1 hf) a3)⟩
theorem par2 {i j : Nat} {m1 m2 : MO} {s : S} {o1 o2 : O} (h1 : m1 s = some (o1, s)) (h2 : m2 s = some (o2, s)) (hi : i < s.length) (hj : j < s.length) : sPar [i, j] [m1, m2] s = some (.nx, (s.set i (some o1)).set j (some o2)) := by
  have e : evO [m1, m2] s = some ([o1, o2], s) := by
    unfold evO
    rw [h1, Option.bind_some]
    unfold evO
    rw [h2, Option.bind_some]
    rfl
  unfold sPar
  rw [e, Option.bind_some]
  show (setAll [i, j] [o1, o2] s).map _ = _
  unfold setAll
  rw [if_pos hi]
  unfold setAll
  rw [if_pos (by rw [List.length_set]; exact hj)]
  rfl
def seeB (c : Nat → FD) : MS := sSeq (sPar [5, 6] [oV (lV (wF (wOp gRepr [gr 3]))), oV (lV (wF (wCall (c 17) [s1 (gv 3)])))]) (sIf (lB (wOr (wNot (wTru (wF (wCall (c 11) [s1 (wF (wLst [s1 (wF (wCall (c 6) [s1 (gv 3)])), s1 (wF (wCallP (c 6) [0] [s1 (gv 3)]))])), s1 (wF (wLst [s1 (gv 6), s1 (gv 6)]))])))) (wBo (wOp gNe [wF (wOp gRepr [gr 3]), gr 5])))) (sRet (lO (wV (wC (.bool false))))) (sNx))
theorem see_ok (Y : R0 c) {u t : Option O} {d : D} {x2 x4 x5 x6 : Option O} (hd : Good d) : seeB c [u, t, x2, some (.val d), x4, x5, x6] = some (.nx, [u, t, x2, some (.val d), x4, some (.val (.str d.shown)), some (.val (.bool (bookB d)))]) := by
  have e0 : ∀ {y5 y6 : Option O}, wF (wOp gRepr [gr 3]) [u, t, x2, some (.val d), x4, y5, y6] = some (.str d.shown) := fun {y5 y6} => op_v (evP1 (gr_v rfl)) (good_repr hd)
  have e1 : wF (wCall (c 17) [s1 (gv 3)]) [u, t, x2, some (.val d), x4, x5, x6] = some (.bool (bookB d)) := tell_v (evS1 (gv_v rfl) evS0) (Y.tm d hd.1)
  have p : sPar [5, 6] [oV (lV (wF (wOp gRepr [gr 3]))), oV (lV (wF (wCall (c 17) [s1 (gv 3)])))] [u, t, x2, some (.val d), x4, x5, x6] = some (.nx, [u, t, x2, some (.val d), x4, some (.val (.str d.shown)), some (.val (.bool (bookB d)))]) := par2 (by
    unfold oV lV
    rw [e0]
    rfl) (by
    unfold oV lV
    rw [e1]
    rfl) (by show (5 : Nat) < 7; decide) (by show (6 : Nat) < 7; decide)
  have e2 : wF (wCall (c 6) [s1 (gv 3)]) [u, t, x2, some (.val d), x4, some (.val (.str d.shown)), some (.val (.bool (bookB d)))] = some (.bool (bookB d)) := tell_v (evS1 (gv_v rfl) evS0) (Y.book d hd.1)
  have e3 : wF (wCallP (c 6) [0] [s1 (gv 3)]) [u, t, x2, some (.val d), x4, some (.val (.str d.shown)), some (.val (.bool (bookB d)))] = some (.bool (bookB d)) := wF_v (by
    have hb : c 6 [.val d] = some (.val (.bool (bookB d)), [.val d]) := Y.book d hd.1
    unfold wCallP
    rw [evS1 (gv_v rfl) evS0, Option.bind_some, if_pos (show [d].length = [0].length from rfl)]
    show (c 6 [.val d]).map _ = _
    rw [hb]
    rfl)
  have e4 : wF (wLst [s1 (wF (wCall (c 6) [s1 (gv 3)])), s1 (wF (wCallP (c 6) [0] [s1 (gv 3)]))]) [u, t, x2, some (.val d), x4, some (.val (.str d.shown)), some (.val (.bool (bookB d)))] = some (.list [.bool (bookB d), .bool (bookB d)]) := wF_l (lst_v (evS1 e2 (evS1 e3 evS0)) (by show (2 : Nat) ≤ 1000; decide))
  have e5 : wF (wLst [s1 (gv 6), s1 (gv 6)]) [u, t, x2, some (.val d), x4, some (.val (.str d.shown)), some (.val (.bool (bookB d)))] = some (.list [.bool (bookB d), .bool (bookB d)]) := wF_l (lst_v (evS1 (gv_v rfl) (evS1 (gv_v rfl) evS0)) (by show (2 : Nat) ≤ 1000; decide))
  have lv : Lv 8 (.list [.bool (bookB d), .bool (bookB d)]) := ⟨by simp, fun x hx => by
    simp only [List.mem_cons, List.not_mem_nil, or_false] at hx
    rcases hx with rfl | rfl <;> trivial⟩
  have e6 : wF (wCall (c 11) [s1 (wF (wLst [s1 (wF (wCall (c 6) [s1 (gv 3)])), s1 (wF (wCallP (c 6) [0] [s1 (gv 3)]))])), s1 (wF (wLst [s1 (gv 6), s1 (gv 6)]))]) [u, t, x2, some (.val d), x4, some (.val (.str d.shown)), some (.val (.bool (bookB d)))] = some (.bool true) := call_v (evS1 e4 (evS1 e5 evS0)) (Y.same (.val (.list [.bool (bookB d), .bool (bookB d)])) (.val (.list [.bool (bookB d), .bool (bookB d)])) rfl lv)
  have e7 : wBo (wOp gNe [wF (wOp gRepr [gr 3]), gr 5]) [u, t, x2, some (.val d), x4, some (.val (.str d.shown)), some (.val (.bool (bookB d)))] = some false := (bo_v (op_o (evP2 e0 (gr_v rfl)) (v_neSS d.shown d.shown))).trans (by rw [beq_self_eq_true]; rfl)
  exact seq_nx p (if_nxB ((or_f (nt_t e6)).trans e7))
def RightOk (f : FD) : Prop := ∀ (m : Nat) (u : O), Urn (m + 3000) u → ∃ u', Urn m u' ∧ f [u] = some (.val (.bool true), [u'])
theorem right_ok (Y : R0 c) : RightOk (runDef 7 1 (m20 c)) := fun m u hu => by
  obtain ⟨ks, hk, kl, kg⟩ := Y.kinds
  have a0 : sAsg (gNm 1) (lO (wCall (c 18) [])) [some u, none, none, none, none, none, none] = some (.nx, [some u, some (.lst ks), none, none, none, none, none]) := asg_o (call_o evS0 hk) (by show (1 : Nat) < 7; decide)
  obtain ⟨s', e1, u', told, x2, x3, x4, hu', es, hl, hg, hx⟩ := forGo_inv (g := gNm 2) (b := turnB c) (fun ds s => ∃ u told x2 x3 x4, Urn (m + 200 * ds.length) u ∧ s = [some u, some (.lst told), x2, x3, x4, none, none] ∧ told.length + ds.length ≤ 92 ∧ (∀ d ∈ told, Good d) ∧ (x3 = none ∨ ∃ d, x3 = some (.val d))) (fun d ds s ⟨u, told, x2, x3, x4, hu, es, hl, hg, hx⟩ => by
    subst es
    rw [List.length_cons] at hu hl
    obtain ⟨u', d', x4', hu', hd', e⟩ := turn_ok Y (m := m + 200 * ds.length) (u := u) (told := told) (x2 := some (.val d)) (x3 := x3) (x4 := x4) (hu.le (by omega)) (by omega) hx
    exact ⟨_, _, rfl, e, u', _, _, _, _, hu', rfl, by rw [List.length_append, List.length_cons, List.length_nil]; omega, fun x hx => by
      rcases List.mem_append.mp hx with hx | hx
      · exact hg x hx
      · rw [List.mem_singleton.mp hx]
        exact hd', .inr ⟨_, rfl⟩⟩) (rng 0 12) [some u, some (.lst ks), none, none, none, none, none] ⟨u, ks, none, none, none, hu.le (by rw [rng_len]; omega), rfl, by rw [rng_len]; omega, kg, .inl rfl⟩
  subst es
  have hi : lI (jOp gRng [wC (.int 12)]) [some u, some (.lst ks), none, none, none, none, none] = some (rng 0 12, [some u, some (.lst ks), none, none, none, none, none]) := by
    unfold lI jOp
    rw [evP1 (show wC (.int 12) _ = some (.int 12) from rfl), Option.bind_some, show gRng [.int 12] = some (rng 0 12) from gRng1 (j := 12) (by decide) (by decide)]
    rfl
  have hi2 : iVal (vVar 1) [some u', some (.lst told), x2, x3, x4, none, none] = some (told, [some u', some (.val (.list told)), x2, x3, x4, none, none]) := rfl
  obtain ⟨s2, e2, ⟨y2, y3, y4, y5, y6, es2⟩, _⟩ := forGo_inv (g := gNm 3) (b := seeB c) (fun ds s => (∃ x2 x3 x4 x5 x6, s = [some u', some (.val (.list told)), x2, x3, x4, x5, x6]) ∧ ∀ d ∈ ds, Good d) (fun d ds s ⟨⟨x2, x3, x4, x5, x6, es⟩, hd⟩ => by
    subst es
    exact ⟨_, _, rfl, see_ok Y (hd d List.mem_cons_self), ⟨_, _, _, _, _, rfl⟩, fun x hx => hd x (List.mem_cons_of_mem _ hx)⟩) told [some u', some (.val (.list told)), x2, x3, x4, none, none] ⟨⟨_, _, _, _, _, rfl⟩, hg⟩
  subst es2
  refine ⟨u', hu'.le (by omega), ?_⟩
  have e : m20 c [some u, none, none, none, none, none, none] = _ := seq_nx a0 (seq_nx (for_nx hi e1) (seq_nx (for_nx hi2 e2) (show sRet (lO (wV (wC (.bool true)))) _ = some (.rt (.val (.bool true)), _) from rfl)))
  exact run_rt rfl e rfl
end Dv.G

namespace Dv.G
open PySem PySem.Spec PyProof.Rows L2
theorem ret_tr {s : S} : sRet (oV (vCon (.bool true))) s = some (.rt (.val (.bool true)), s) := Eq.refl _
theorem xA {c : Nat → FD} {xs cs : List D} (hc' : c 9 [.val (.list xs), .val (.int 3)] = some (.lst cs, [.val (.list xs), .val (.int 3)])) : sAsg (gNm 1) (mCall (c 9) [aR 0, aV (vCon (.int 3))]) [some (.val (.list xs)), none, none, none, none] = some (.nx, [some (.val (.list xs)), some (.lst cs), none, none, none]) := by
  simp [bK_some, frzF, frzG, fz_val, fz_lst, lkS, oorE, isE, nd, ap_runDef, ap_sSeq, ap_sAsg, ap_sIf, ap_vIf, ap_oIf, ap_sRet, ap_sExp, ap_sNx, ap_sFor, ap_sPar, ap_mOp, ap_rV, ap_frz, ap_rO, ap_oV, ap_aV, ap_aO, ap_vCon, ap_vTup, ap_oLst, ap_mBo, ap_mTru, ap_bNot, ap_bAnd, ap_bOr, ap_vAnd, ap_vOr, ap_vNot, ap_vIsi, ap_vIsi2, ap_evR0, ap_evR1, ap_evA0, ap_evA1, ap_evO0, ap_evO1, ap_oApp, ap_sSetIx, ap_mCall, ap_iVal, ap_iOp, ap_iPr, ap_oLc, ap_oLc2, ap_pNo, ap_pSome, ap_oSl, ap_rB, ap_vVar, ap_oMove, ap_aR, ap_gNm, ap_gTp, ap_gAll0, ap_gAll1, look_d, look_s, ap_looks0, ap_looks1, ap_conts0, ap_conts1, alook_d, alook_o, alook_r, own0, own_d, own_o, own_r, ifF, seqF, asgG, asgF, retF, expF, ret1, opH, opG, opF, tupG, tupF, lstG, lstF, boF, truH, truG, truF, andF, orF, vandG, vandF, vorG, vorF, notG, notH, notF, isG, isF, isTy2, isF2, evRG, evRF, evAG, evAF, evOG, evOF, chG, chAt, appF, gate, setL, setF3, setF2, setF1, callI, callH, callG, callF, itG, iopG, iopF, iprF, ivF, slI, slH, slG, slF, psF, parG, runG, runF, gaF, lkG, cnG, dsOf, outsOf, setAll, truthD, O.toD, O.isVal, dropRefs, setRefs, ownL, isTy, wS, v_gt, v_lt, v_le, v_ge, v_eq, v_ne, v_eqB, v_neB, v_add, v_sub, v_int, v_intB, v_abs, v_lenL, v_lenT, v_tupL, v_tupT, v_listL, v_ixL, v_ixT, v_setL, v_isN, PyData.isList, PyData.isTuple, v_eqN, v_eqS, PyData.isBool, PyData.isStr, PyData.isInt, isNone, tYs, ap_oOr, oorG, oorF, hc']
theorem xB {xs cs : List D} {r : List D} {j : Int} (hl : gLen [.list cs] = some (.val (.int j))) (g2 : gRng [.int j] = some r) : iOp gRng [rO (mOp gLen [rB 1])] [some (.val (.list xs)), some (.lst cs), none, none, none] = some (r, [some (.val (.list xs)), some (.lst cs), none, none, none]) := by
  simp [bK_some, frzF, frzG, fz_val, fz_lst, lkS, oorE, isE, nd, ap_runDef, ap_sSeq, ap_sAsg, ap_sIf, ap_vIf, ap_oIf, ap_sRet, ap_sExp, ap_sNx, ap_sFor, ap_sPar, ap_mOp, ap_rV, ap_frz, ap_rO, ap_oV, ap_aV, ap_aO, ap_vCon, ap_vTup, ap_oLst, ap_mBo, ap_mTru, ap_bNot, ap_bAnd, ap_bOr, ap_vAnd, ap_vOr, ap_vNot, ap_vIsi, ap_vIsi2, ap_evR0, ap_evR1, ap_evA0, ap_evA1, ap_evO0, ap_evO1, ap_oApp, ap_sSetIx, ap_mCall, ap_iVal, ap_iOp, ap_iPr, ap_oLc, ap_oLc2, ap_pNo, ap_pSome, ap_oSl, ap_rB, ap_vVar, ap_oMove, ap_aR, ap_gNm, ap_gTp, ap_gAll0, ap_gAll1, look_d, look_s, ap_looks0, ap_looks1, ap_conts0, ap_conts1, alook_d, alook_o, alook_r, own0, own_d, own_o, own_r, ifF, seqF, asgG, asgF, retF, expF, ret1, opH, opG, opF, tupG, tupF, lstG, lstF, boF, truH, truG, truF, andF, orF, vandG, vandF, vorG, vorF, notG, notH, notF, isG, isF, isTy2, isF2, evRG, evRF, evAG, evAF, evOG, evOF, chG, chAt, appF, gate, setL, setF3, setF2, setF1, callI, callH, callG, callF, itG, iopG, iopF, iprF, ivF, slI, slH, slG, slF, psF, parG, runG, runF, gaF, lkG, cnG, dsOf, outsOf, setAll, truthD, O.toD, O.isVal, dropRefs, setRefs, ownL, isTy, wS, v_gt, v_lt, v_le, v_ge, v_eq, v_ne, v_eqB, v_neB, v_add, v_sub, v_int, v_intB, v_abs, v_lenT, v_tupL, v_tupT, v_listL, v_ixL, v_ixT, v_setL, v_isN, PyData.isList, PyData.isTuple, v_eqN, v_eqS, PyData.isBool, PyData.isStr, PyData.isInt, isNone, tYs, ap_oOr, oorG, oorF, hl, g2]
theorem xM {c : Nat → FD} {xs cs r : List D} {j : Int} {y2 y3 : Option O} (hc' : c 9 [.val (.list xs), .val (.int 3)] = some (.lst cs, [.val (.list xs), .val (.int 3)])) (hl : gLen [.list cs] = some (.val (.int j))) (g2 : gRng [.int j] = some r) (e1 : forGo (gNm 2) (sSeq (sAsg (gNm 3) (mCall (c 7) [aR 1, aR 2])) (sIf (bNot (mTru (rO (mOp gAll [rO (oLc [4] (iOp gRng [rV (vCon (.int 1))]) (gNm 4) (tYs) (frz (mCall (c 20) [aR 3])))])))) (sRet (oV (vCon (.bool false)))) (sNx))) r [some (.val (.list xs)), some (.lst cs), none, none, none] = some (.nx, [some (.val (.list xs)), some (.lst cs), y2, y3, none])) : m21 c [some (.val (.list xs)), none, none, none, none] = some (.rt (.val (.bool true)), [some (.val (.list xs)), some (.lst cs), y2, y3, none]) := by
  unfold m21
  exact seq_nx (xA hc') (seq_nx (for_nx (xB hl g2) e1) ret_tr)
theorem xC {c : Nat → FD} {xs : List D} {cs : List D} {y2 y3 : Option O} (hm : m21 c [some (.val (.list xs)), none, none, none, none] = some (.rt (.val (.bool true)), [some (.val (.list xs)), some (.lst cs), y2, y3, none])) : runDef 5 1 (m21 c) [.val (.list xs)] = some (.val (.bool true), [.val (.list xs)]) := by
  rw [ap_runDef]
  simp [bK_some, frzF, frzG, fz_val, fz_lst, lkS, oorE, isE, nd, ap_runDef, ap_sSeq, ap_sAsg, ap_sIf, ap_vIf, ap_oIf, ap_sRet, ap_sExp, ap_sNx, ap_sFor, ap_sPar, ap_mOp, ap_rV, ap_frz, ap_rO, ap_oV, ap_aV, ap_aO, ap_vCon, ap_vTup, ap_oLst, ap_mBo, ap_mTru, ap_bNot, ap_bAnd, ap_bOr, ap_vAnd, ap_vOr, ap_vNot, ap_vIsi, ap_vIsi2, ap_evR0, ap_evR1, ap_evA0, ap_evA1, ap_evO0, ap_evO1, ap_oApp, ap_sSetIx, ap_mCall, ap_iVal, ap_iOp, ap_iPr, ap_oLc, ap_oLc2, ap_pNo, ap_pSome, ap_oSl, ap_rB, ap_vVar, ap_oMove, ap_aR, ap_gNm, ap_gTp, ap_gAll0, ap_gAll1, look_d, look_s, ap_looks0, ap_looks1, ap_conts0, ap_conts1, alook_d, alook_o, alook_r, own0, own_d, own_o, own_r, ifF, seqF, asgG, asgF, retF, expF, ret1, opH, opG, opF, tupG, tupF, lstG, lstF, boF, truH, truG, truF, andF, orF, vandG, vandF, vorG, vorF, notG, notH, notF, isG, isF, isTy2, isF2, evRG, evRF, evAG, evAF, evOG, evOF, chG, chAt, appF, gate, setL, setF3, setF2, setF1, callI, callH, callG, callF, itG, iopG, iopF, iprF, ivF, slI, slH, slG, slF, psF, parG, runG, runF, gaF, lkG, cnG, dsOf, outsOf, setAll, truthD, O.toD, O.isVal, dropRefs, setRefs, ownL, isTy, wS, v_gt, v_lt, v_le, v_ge, v_eq, v_ne, v_eqB, v_neB, v_add, v_sub, v_int, v_intB, v_abs, v_lenL, v_lenT, v_tupL, v_tupT, v_listL, v_ixL, v_ixT, v_setL, v_isN, PyData.isList, PyData.isTuple, v_eqN, v_eqS, PyData.isBool, PyData.isStr, PyData.isInt, isNone, tYs, ap_oOr, oorG, oorF, hm]
theorem law_ok {c : Nat → FD} (hbx : BoxOk (c 7)) (hce : CellsOk (c 9)) (hri : RightOk (c 20)) (ns : List Int) (hl : ns.length ≤ 63) : ∃ outs, runDef 5 1 (m21 c) [.val (.list (ns.map PyData.int))] = some (.val (.bool true), outs) := by
  obtain ⟨cs, c1, c2, hc'⟩ := hce ns hl
  have g1 : gRng [.int 1] = some [.int 0] := (gRng1 (j := 1) (by decide) (by decide)).trans rfl
  obtain ⟨s', e1, ⟨y2, y3, es⟩, _⟩ := forGo_inv (g := gNm 2) (b := sSeq (sAsg (gNm 3) (mCall (c 7) [aR 1, aR 2])) (sIf (bNot (mTru (rO (mOp gAll [rO (oLc [4] (iOp gRng [rV (vCon (.int 1))]) (gNm 4) (tYs) (frz (mCall (c 20) [aR 3])))])))) (sRet (oV (vCon (.bool false)))) (sNx)))
    (fun ds s => (∃ y2 y3, s = [some (.val (.list (ns.map PyData.int))), some (.lst (cs.map PyData.int)), y2, y3, none]) ∧ ∀ d ∈ ds, ∃ k : Nat, k < cs.length ∧ d = .int k) (fun d ds s ⟨⟨y2, y3, es⟩, hd⟩ => by
      subst es
      obtain ⟨k, hk, rfl⟩ := hd d List.mem_cons_self
      obtain ⟨u, hu, hb'⟩ := hbx cs k hk (by omega)
      obtain ⟨u', hu', hr⟩ := hri 0 u (hu.le (by decide))
      have ha : gAll [.list [.bool true]] = some (.val (.bool true)) := rfl
      obtain ⟨_, _, _, rfl, _, _⟩ := hu
      obtain ⟨x1, x2, x3, rfl, _, _⟩ := hu'
      have cg : ∀ {z1 z2 z3 : Option O} {w1 w2 w3 : Int}, c 20 [.lst [.int w1, .int w2, .int w3]] = some (.val (.bool true), [.lst [.int x1, .int x2, .int x3]]) → lcG (compGo [4] (gNm 4) tYs (frz (mCall (c 20) [aR 3])) [.int 0] [z1, z2, z3, some (.lst [.int w1, .int w2, .int w3]), none]) = some (.lst [.bool true], [z1, z2, z3, some (.lst [.int x1, .int x2, .int x3]), none]) := fun {z1 z2 z3 w1 w2 w3} hr => by
        have q : compGo [4] (gNm 4) tYs (frz (mCall (c 20) [aR 3])) [.int 0] [z1, z2, z3, some (.lst [.int w1, .int w2, .int w3]), none] = some ([.bool true], [z1, z2, z3, some (.lst [.int x1, .int x2, .int x3]), none]) := by simp [bK_some, frzF, frzG, fz_val, fz_lst, lkS, oorE, isE, nd, ap_runDef, ap_sSeq, ap_sAsg, ap_sIf, ap_vIf, ap_oIf, ap_sRet, ap_sExp, ap_sNx, ap_sFor, ap_sPar, ap_mOp, ap_rV, ap_frz, ap_rO, ap_oV, ap_aV, ap_aO, ap_vCon, ap_vTup, ap_oLst, ap_mBo, ap_mTru, ap_bNot, ap_bAnd, ap_bOr, ap_vAnd, ap_vOr, ap_vNot, ap_vIsi, ap_vIsi2, ap_evR0, ap_evR1, ap_evA0, ap_evA1, ap_evO0, ap_evO1, ap_oApp, ap_sSetIx, ap_mCall, ap_iVal, ap_iOp, ap_iPr, ap_oLc, ap_oLc2, ap_pNo, ap_pSome, ap_oSl, ap_rB, ap_vVar, ap_oMove, ap_aR, ap_gNm, ap_gTp, ap_gAll0, ap_gAll1, look_d, look_s, ap_looks0, ap_looks1, ap_conts0, ap_conts1, alook_d, alook_o, alook_r, own0, own_d, own_o, own_r, ifF, seqF, asgG, asgF, retF, expF, ret1, opH, opG, opF, tupG, tupF, lstG, lstF, boF, truH, truG, truF, andF, orF, vandG, vandF, vorG, vorF, notG, notH, notF, isG, isF, isTy2, isF2, evRG, evRF, evAG, evAF, evOG, evOF, chG, chAt, appF, gate, setL, setF3, setF2, setF1, callI, callH, callG, callF, itG, iopG, iopF, iprF, ivF, slI, slH, slG, slF, psF, parG, runG, runF, gaF, lkG, cnG, dsOf, outsOf, setAll, truthD, O.toD, O.isVal, dropRefs, setRefs, ownL, isTy, wS, v_gt, v_lt, v_le, v_ge, v_eq, v_ne, v_eqB, v_neB, v_add, v_sub, v_int, v_intB, v_abs, v_lenL, v_lenT, v_tupL, v_tupT, v_listL, v_ixL, v_ixT, v_setL, v_isN, PyData.isList, PyData.isTuple, v_eqN, v_eqS, PyData.isBool, PyData.isStr, PyData.isInt, isNone, tYs, ap_oOr, oorG, oorF, compGo, hr]
        rw [q]
        exact if_pos (e := (none : Option (O × S))) (line_of (n := 1) (by decide))
      refine ⟨[some (.val (.list (ns.map PyData.int))), some (.lst (cs.map PyData.int)), some (.val (.int k)), y3, none], [some (.val (.list (ns.map PyData.int))), some (.lst (cs.map PyData.int)), some (.val (.int k)), some (.lst [.int x1, .int x2, .int x3]), none], rfl, ?_, ⟨_, _, rfl⟩, fun x hx => hd x (List.mem_cons_of_mem _ hx)⟩
      simp [bK_some, frzF, frzG, fz_val, fz_lst, lkS, oorE, isE, nd, ap_runDef, ap_sSeq, ap_sAsg, ap_sIf, ap_vIf, ap_oIf, ap_sRet, ap_sExp, ap_sNx, ap_sFor, ap_sPar, ap_mOp, ap_rV, ap_frz, ap_rO, ap_oV, ap_aV, ap_aO, ap_vCon, ap_vTup, ap_oLst, ap_mBo, ap_mTru, ap_bNot, ap_bAnd, ap_bOr, ap_vAnd, ap_vOr, ap_vNot, ap_vIsi, ap_vIsi2, ap_evR0, ap_evR1, ap_evA0, ap_evA1, ap_evO0, ap_evO1, ap_oApp, ap_sSetIx, ap_mCall, ap_iVal, ap_iOp, ap_iPr, ap_oLc, ap_oLc2, ap_pNo, ap_pSome, ap_oSl, ap_rB, ap_vVar, ap_oMove, ap_aR, ap_gNm, ap_gTp, ap_gAll0, ap_gAll1, look_d, look_s, ap_looks0, ap_looks1, ap_conts0, ap_conts1, alook_d, alook_o, alook_r, own0, own_d, own_o, own_r, ifF, seqF, asgG, asgF, retF, expF, ret1, opH, opG, opF, tupG, tupF, lstG, lstF, boF, truH, truG, truF, andF, orF, vandG, vandF, vorG, vorF, notG, notH, notF, isG, isF, isTy2, isF2, evRG, evRF, evAG, evAF, evOG, evOF, chG, chAt, appF, gate, setL, setF3, setF2, setF1, callI, callH, callG, callF, itG, iopG, iopF, iprF, ivF, slI, slH, slG, slF, psF, parG, runG, runF, gaF, lkG, cnG, dsOf, outsOf, setAll, truthD, O.toD, O.isVal, dropRefs, setRefs, ownL, isTy, wS, v_gt, v_lt, v_le, v_ge, v_eq, v_ne, v_eqB, v_neB, v_add, v_sub, v_int, v_intB, v_abs, v_lenL, v_lenT, v_tupL, v_tupT, v_listL, v_ixL, v_ixT, v_setL, v_isN, PyData.isList, PyData.isTuple, v_eqN, v_eqS, PyData.isBool, PyData.isStr, PyData.isInt, isNone, tYs, ap_oOr, oorG, oorF, hb', g1, lcF, cg hr, ha]) (rng 0 cs.length) [some (.val (.list (ns.map PyData.int))), some (.lst (cs.map PyData.int)), none, none, none] ⟨⟨_, _, rfl⟩, fun d hd => by
      unfold rng at hd
      obtain ⟨k, hk, rfl⟩ := List.mem_map.mp hd
      exact ⟨k, List.mem_range.mp hk, by rw [Int.zero_add]⟩⟩
  have g2 : gRng [.int (cs.length : Int)] = some (rng 0 cs.length) := by rw [gRng1 (by omega) (by omega), Int.toNat_natCast]
  subst es
  obtain ⟨j, hj⟩ : ∃ j : Int, (cs.length : Int) = j := ⟨_, rfl⟩
  have hln : gLen [.list (cs.map PyData.int)] = some (.val (.int j)) := by rw [v_lenL, List.length_map, hj]
  rw [hj] at g2
  exact ⟨[.val (.list (ns.map PyData.int))], xC (xM hc' hln g2 e1)⟩
theorem str_at (n : Nat) : StrOk (C (n + 2) 13) := by rw [C_13 (n + 1)]; exact str_ok (take_at n)
theorem of_at (n : Nat) : OfOk (C (n + 2) 10) := by rw [C_10 (n + 1)]; exact of_ok (take_at n)
theorem tupf (n : Nat) : TupF (C (n + 1) 0) := fun d k h => by rw [C_0 n]; exact istup_ok h k
theorem numf (n : Nat) : NumF (C (n + 1) 1) := fun d h => by rw [C_1 n]; exact isnum_ok h
theorem namf (n : Nat) : NamF (C (n + 1) 2) := fun d h => by rw [C_2 n]; exact name_ok (t_nd h) (t_str h)
theorem nrf (n : Nat) : NrF (C (n + 1) 12) := fun d h => by rw [C_12 n]; exact lisnr_ok h
theorem wordf (n : Nat) : NamF (C (n + 1) 15) := fun d h => by rw [C_15 n]; exact word_ok (t_nd h) (t_str h)
theorem risf (n : Nat) : RisF (C (n + 1) 3) := by rw [C_3 n]; exact rises_ok
theorem entf (n : Nat) : EntF (C (n + 2) 4) := by rw [C_4 (n + 1)]; exact entry_ok (tupf n) (numf n) (namf n)
theorem arf (n : Nat) : ArF (C (n + 3) 5) := by rw [C_5 (n + 2)]; exact are_ok (risf (n + 1)) (entf n)
theorem bookf (n : Nat) : BookF (C (n + 4) 6) := by rw [C_6 (n + 3)]; exact book_ok (tupf (n + 2)) (arf n)
theorem alf (n : Nat) : AlF (C (n + 2) 16) := by rw [C_16 (n + 1)]; exact lines_ok (nrf n) (wordf n)
theorem tmf (n : Nat) : BookF (C (n + 3) 17) := by rw [C_17 (n + 2)]; exact tome_ok2 (alf n)
theorem r0 : R0 (C 28) where
  tk := take_at 27
  tome := by rw [C_14 27]; exact tome_ok (take_at 26) (of_at 25) (str_at 25)
  bent := fun n hn => bent_ok n 28 (by omega)
  kinds := by rw [C_18 27]; exact kinds_ok
  same := fun o1 o2 e h => same_ok 28 o1 o2 e (lv_up (by decide) h)
  book := bookf 24
  tm := tmf 25
theorem pure_law (ns : List Int) (hl : ns.length ≤ 63) : ∃ outs, C 30 21 [.val (.list (ns.map PyData.int))] = some (.val (.bool true), outs) := by
  rw [C_21 29]
  refine law_ok ?_ ?_ ?_ ns hl
  · rw [C_7 28]; exact box_ok
  · rw [C_9 28]; exact cells_ok
  · rw [C_20 28]; exact right_ok r0
end Dv.G

namespace Dv.G
open PySem PySem.Spec PyProof.Rows L2
abbrev t0 : Stmt := PySem.Challenge.pw_deputies_k00_books_or_none.main.body.getD 3 (.Pass ⟨0, 0, 0, 0⟩)
abbrev t1 : Stmt := PySem.Challenge.pw_deputies_k00_books_or_none.main.body.getD 4 (.Pass ⟨0, 0, 0, 0⟩)
abbrev t2 : Stmt := PySem.Challenge.pw_deputies_k00_books_or_none.main.body.getD 5 (.Pass ⟨0, 0, 0, 0⟩)
abbrev t3 : Stmt := PySem.Challenge.pw_deputies_k00_books_or_none.main.body.getD 6 (.Pass ⟨0, 0, 0, 0⟩)
abbrev t4 : Stmt := PySem.Challenge.pw_deputies_k00_books_or_none.main.body.getD 12 (.Pass ⟨0, 0, 0, 0⟩)
abbrev t5 : Stmt := PySem.Challenge.pw_deputies_k00_books_or_none.main.body.getD 13 (.Pass ⟨0, 0, 0, 0⟩)
abbrev t6 : Stmt := PySem.Challenge.pw_deputies_k00_books_or_none.main.body.getD 14 (.Pass ⟨0, 0, 0, 0⟩)
abbrev t7 : Stmt := PySem.Challenge.pw_deputies_k00_books_or_none.main.body.getD 16 (.Pass ⟨0, 0, 0, 0⟩)
abbrev t8 : Stmt := PySem.Challenge.pw_deputies_k00_books_or_none.main.body.getD 17 (.Pass ⟨0, 0, 0, 0⟩)
abbrev t9 : Stmt := PySem.Challenge.pw_deputies_k00_books_or_none.main.body.getD 18 (.Pass ⟨0, 0, 0, 0⟩)
abbrev t10 : Stmt := PySem.Challenge.pw_deputies_k00_books_or_none.main.body.getD 19 (.Pass ⟨0, 0, 0, 0⟩)
abbrev t11 : Stmt := PySem.Challenge.pw_deputies_k00_books_or_none.main.body.getD 20 (.Pass ⟨0, 0, 0, 0⟩)
abbrev t12 : Stmt := PySem.Challenge.pw_deputies_k00_books_or_none.main.body.getD 21 (.Pass ⟨0, 0, 0, 0⟩)
abbrev t13 : Stmt := PySem.Challenge.pw_deputies_k00_books_or_none.main.body.getD 22 (.Pass ⟨0, 0, 0, 0⟩)
abbrev t14 : Stmt := PySem.Challenge.pw_deputies_k00_books_or_none.main.body.getD 23 (.Pass ⟨0, 0, 0, 0⟩)
abbrev t15 : Stmt := PySem.Challenge.pw_deputies_k00_books_or_none.main.body.getD 24 (.Pass ⟨0, 0, 0, 0⟩)
abbrev t16 : Stmt := PySem.Challenge.pw_deputies_k00_books_or_none.main.body.getD 25 (.Pass ⟨0, 0, 0, 0⟩)
abbrev t17 : Stmt := PySem.Challenge.pw_deputies_k00_books_or_none.main.body.getD 26 (.Pass ⟨0, 0, 0, 0⟩)
abbrev t18 : Stmt := PySem.Challenge.pw_deputies_k00_books_or_none.main.body.getD 27 (.Pass ⟨0, 0, 0, 0⟩)
abbrev t19 : Stmt := PySem.Challenge.pw_deputies_k00_books_or_none.main.body.getD 28 (.Pass ⟨0, 0, 0, 0⟩)
abbrev t20 : Stmt := PySem.Challenge.pw_deputies_k00_books_or_none.main.body.getD 29 (.Pass ⟨0, 0, 0, 0⟩)
abbrev t21 : Stmt := PySem.Challenge.pw_deputies_k00_books_or_none.main.body.getD 30 (.Pass ⟨0, 0, 0, 0⟩)
section
variable {P : Program} {w : World} {K : PySem.W.Frag} {mg : Str → Option Value} {base : Heap} {fa : Nat → Addr} {fd : Nat → FuncData} {cl : Nat → Addr} {sa : Nat → Nat → Addr} {n : Nat}
structure MF (K : PySem.W.Frag) (mg : Str → Option Value) (fa : Nat → Addr) (fd : Nat → FuncData) (cl : Nat → Addr) (sa : Nat → Nat → Addr) : Prop where
  f0 : Fun K "is_tuple" "is_tuple" t0 (fa 0) (fd 0)
  g0 : mg "is_tuple" = some (.ref (fa 0))
  f1 : Fun K "is_number" "is_number" t1 (fa 1) (fd 1)
  g1 : mg "is_number" = some (.ref (fa 1))
  f2 : Fun K "is_name" "is_name" t2 (fa 2) (fd 2)
  g2 : mg "is_name" = some (.ref (fa 2))
  f3 : Fun K "rises" "rises" t3 (fa 3) (fd 3)
  g3 : mg "rises" = some (.ref (fa 3))
  f4 : Fun K "is_entry" "is_entry" t4 (fa 4) (fd 4)
  g4 : mg "is_entry" = some (.ref (fa 4))
  f5 : Fun K "are_entries" "are_entries" t5 (fa 5) (fd 5)
  g5 : mg "are_entries" = some (.ref (fa 5))
  f6 : Fun K "is_book" "is_book" t6 (fa 6) (fd 6)
  g6 : mg "is_book" = some (.ref (fa 6))
  f7 : Fun K "_law_box" "_law_box" t7 (fa 7) (fd 7)
  g7 : mg "_law_box" = some (.ref (fa 7))
  f8 : Fun K "_law_take" "_law_take" t8 (fa 8) (fd 8)
  g8 : mg "_law_take" = some (.ref (fa 8))
  f9 : Fun K "_law_cells" "_law_cells" t9 (fa 9) (fd 9)
  g9 : mg "_law_cells" = some (.ref (fa 9))
  f10 : Fun K "_law_of" "_law_of" t10 (fa 10) (fd 10)
  g10 : mg "_law_of" = some (.ref (fa 10))
  f11 : Fun K "_law_same" "_law_same" t11 (fa 11) (fd 11)
  g11 : mg "_law_same" = some (.ref (fa 11))
  f12 : Fun K "_law_is_nr" "_law_is_nr" t12 (fa 12) (fd 12)
  g12 : mg "_law_is_nr" = some (.ref (fa 12))
  f13 : Fun K "_law_stretch" "_law_stretch" t13 (fa 13) (fd 13)
  g13 : mg "_law_stretch" = some (.ref (fa 13))
  f14 : Fun K "_law_tome" "_law_tome" t14 (fa 14) (fd 14)
  g14 : mg "_law_tome" = some (.ref (fa 14))
  f15 : Fun K "_law_is_word" "_law_is_word" t15 (fa 15) (fd 15)
  g15 : mg "_law_is_word" = some (.ref (fa 15))
  f16 : Fun K "_law_are_lines" "_law_are_lines" t16 (fa 16) (fd 16)
  g16 : mg "_law_are_lines" = some (.ref (fa 16))
  f17 : Fun K "_law_is_tome" "_law_is_tome" t17 (fa 17) (fd 17)
  g17 : mg "_law_is_tome" = some (.ref (fa 17))
  f18 : Fun K "_law_kinds" "_law_kinds" t18 (fa 18) (fd 18)
  g18 : mg "_law_kinds" = some (.ref (fa 18))
  f19 : Fun K "_law_bent" "_law_bent" t19 (fa 19) (fd 19)
  g19 : mg "_law_bent" = some (.ref (fa 19))
  f20 : Fun K "_law_right" "_law_right" t20 (fa 20) (fd 20)
  g20 : mg "_law_right" = some (.ref (fa 20))
  f21 : Fun K "law" "law" t21 (fa 21) (fd 21)
  g21 : mg "law" = some (.ref (fa 21))
  z_abs : mg "abs" = none
  z_all : mg "all" = none
  z_bool : mg "bool" = none
  z_enumerate : mg "enumerate" = none
  z_int : mg "int" = none
  z_isinstance : mg "isinstance" = none
  z_len : mg "len" = none
  z_list : mg "list" = none
  z_range : mg "range" = none
  z_repr : mg "repr" = none
  z_set : mg "set" = none
  z_sorted : mg "sorted" = none
  z_str : mg "str" = none
  z_tuple : mg "tuple" = none
  z_zip : mg "zip" = none
  q_ABSENCE : ∃ t : Tok, mg "ABSENCE" = some (.int 3 t)
  q_DEPUTYSHIP : ∃ t : Tok, mg "DEPUTYSHIP" = some (.int 5 t)
  q_HOLDING : ∃ t : Tok, mg "HOLDING" = some (.int 4 t)
  q_LETTERS : ∃ t : Tok, mg "LETTERS" = some (.str "abcdefghijklmnopqrstuvwxyz" t)
  q_LONGEST : ∃ t : Tok, mg "LONGEST" = some (.int 8 t)
  q_TRIPLE : ∃ t : Tok, mg "TRIPLE" = some (.int 3 t)
theorem MF.b0 (M : MF K mg fa fd cl sa) : Binds K (fd 0) ["thing", "many"] [] := M.f0.binds (fun _ _ _ _ _ _ us hl => match us, hl with | [_, _], _ => rfl)
theorem MF.b1 (M : MF K mg fa fd cl sa) : Binds K (fd 1) ["thing", "bottom"] [] := M.f1.binds (fun _ _ _ _ _ _ us hl => match us, hl with | [_, _], _ => rfl)
theorem MF.b2 (M : MF K mg fa fd cl sa) : Binds K (fd 2) ["thing"] [] := M.f2.binds (fun _ _ _ _ _ _ us hl => match us, hl with | [_], _ => rfl)
theorem MF.b3 (M : MF K mg fa fd cl sa) : Binds K (fd 3) ["row"] [] := M.f3.binds (fun _ _ _ _ _ _ us hl => match us, hl with | [_], _ => rfl)
theorem MF.b4 (M : MF K mg fa fd cl sa) : Binds K (fd 4) ["thing", "many"] [] := M.f4.binds (fun _ _ _ _ _ _ us hl => match us, hl with | [_, _], _ => rfl)
theorem MF.b5 (M : MF K mg fa fd cl sa) : Binds K (fd 5) ["thing", "many"] [] := M.f5.binds (fun _ _ _ _ _ _ us hl => match us, hl with | [_, _], _ => rfl)
theorem MF.b6 (M : MF K mg fa fd cl sa) : Binds K (fd 6) ["thing"] [] := M.f6.binds (fun _ _ _ _ _ _ us hl => match us, hl with | [_], _ => rfl)
theorem MF.b7 (M : MF K mg fa fd cl sa) : Binds K (fd 7) ["_law_script", "_law_k"] [] := M.f7.binds (fun _ _ _ _ _ _ us hl => match us, hl with | [_, _], _ => rfl)
theorem MF.b8 (M : MF K mg fa fd cl sa) : Binds K (fd 8) ["_law_urn", "_law_low_so"] [] := M.f8.binds (fun _ _ _ _ _ _ us hl => match us, hl with | [_, _], _ => rfl)
theorem MF.b9 (M : MF K mg fa fd cl sa) : Binds K (fd 9) ["_law_script", "_law_top"] [] := M.f9.binds (fun _ _ _ _ _ _ us hl => match us, hl with | [_, _], _ => rfl)
theorem MF.b10 (M : MF K mg fa fd cl sa) : Binds K (fd 10) ["_law_urn", "_law_some"] [] := M.f10.binds (fun _ _ _ _ _ _ us hl => match us, hl with | [_, _], _ => rfl)
theorem MF.b11 (M : MF K mg fa fd cl sa) : Binds K (fd 11) ["_law_got", "_law_goal"] [] := M.f11.binds (fun _ _ _ _ _ _ us hl => match us, hl with | [_, _], _ => rfl)
theorem MF.b12 (M : MF K mg fa fd cl sa) : Binds K (fd 12) ["_law_matter"] [] := M.f12.binds (fun _ _ _ _ _ _ us hl => match us, hl with | [_], _ => rfl)
theorem MF.b13 (M : MF K mg fa fd cl sa) : Binds K (fd 13) ["_law_urn", "_law_top"] [] := M.f13.binds (fun _ _ _ _ _ _ us hl => match us, hl with | [_, _], _ => rfl)
theorem MF.b14 (M : MF K mg fa fd cl sa) : Binds K (fd 14) ["_law_urn", "_law_many_so", "_law_top"] [] := M.f14.binds (fun _ _ _ _ _ _ us hl => match us, hl with | [_, _, _], _ => rfl)
theorem MF.b15 (M : MF K mg fa fd cl sa) : Binds K (fd 15) ["_law_matter"] [] := M.f15.binds (fun _ _ _ _ _ _ us hl => match us, hl with | [_], _ => rfl)
theorem MF.b16 (M : MF K mg fa fd cl sa) : Binds K (fd 16) ["_law_matter", "_law_many_so"] [] := M.f16.binds (fun _ _ _ _ _ _ us hl => match us, hl with | [_, _], _ => rfl)
theorem MF.b17 (M : MF K mg fa fd cl sa) : Binds K (fd 17) ["_law_matter"] [] := M.f17.binds (fun _ _ _ _ _ _ us hl => match us, hl with | [_], _ => rfl)
theorem MF.b18 (M : MF K mg fa fd cl sa) : Binds K (fd 18) [] [] := M.f18.binds (fun _ _ _ _ _ _ us hl => match us, hl with | [], _ => rfl)
theorem MF.b19 (M : MF K mg fa fd cl sa) : Binds K (fd 19) ["_law_urn", "_law_part"] [] := M.f19.binds (fun _ _ _ _ _ _ us hl => match us, hl with | [_, _], _ => rfl)
theorem MF.b20 (M : MF K mg fa fd cl sa) : Binds K (fd 20) ["_law_urn"] [] := M.f20.binds (fun _ _ _ _ _ _ us hl => match us, hl with | [_], _ => rfl)
theorem MF.x6_0 (M : MF K mg fa fd cl sa) : KwP (fd 6) ["thing"] ["thing"] [0] := kwp_of M.f6 (fun _ _ _ _ _ _ ws ws2 hl hp => match ws, hl, hp with | [x0], _, hp => by obtain rfl : [x0] = ws2 := Option.some.inj hp; rfl)
structure AK (P : Program) (w : World) (K : PySem.W.Frag) (mg : Str → Option Value) (base : Heap) (fa : Nat → Addr) (fd : Nat → FuncData) (cl : Nat → Addr) (n : Nat) : Prop where
  a0 : FnOk P w K mg base CX0 (2 * n) (fa 0) (fd 0) ["thing", "many"] (spOf K (C n 0))
  a1 : FnOk P w K mg base CX0 (2 * n) (fa 1) (fd 1) ["thing", "bottom"] (spOf K (C n 1))
  a2 : FnOk P w K mg base CX0 (2 * n) (fa 2) (fd 2) ["thing"] (spOf K (C n 2))
  a3 : FnOk P w K mg base CX0 (2 * n) (fa 3) (fd 3) ["row"] (spOf K (C n 3))
  a4 : FnOk P w K mg base CX0 (2 * n) (fa 4) (fd 4) ["thing", "many"] (spOf K (C n 4))
  a5 : FnOk P w K mg base CX0 (2 * n) (fa 5) (fd 5) ["thing", "many"] (spOf K (C n 5))
  a6 : FnOk P w K mg base CX0 (2 * n) (fa 6) (fd 6) ["thing"] (spOf K (C n 6))
  a7 : FnOk P w K mg base CX0 (2 * n) (fa 7) (fd 7) ["_law_script", "_law_k"] (spOf K (C n 7))
  a8 : FnOk P w K mg base CX0 (2 * n) (fa 8) (fd 8) ["_law_urn", "_law_low_so"] (spOf K (C n 8))
  a9 : FnOk P w K mg base CX0 (2 * n) (fa 9) (fd 9) ["_law_script", "_law_top"] (spOf K (C n 9))
  a10 : FnOk P w K mg base CX0 (2 * n) (fa 10) (fd 10) ["_law_urn", "_law_some"] (spOf K (C n 10))
  a11 : FnOk P w K mg base CX0 (2 * n) (fa 11) (fd 11) ["_law_got", "_law_goal"] (spOf K (C n 11))
  a12 : FnOk P w K mg base CX0 (2 * n) (fa 12) (fd 12) ["_law_matter"] (spOf K (C n 12))
  a13 : FnOk P w K mg base CX0 (2 * n) (fa 13) (fd 13) ["_law_urn", "_law_top"] (spOf K (C n 13))
  a14 : FnOk P w K mg base CX0 (2 * n) (fa 14) (fd 14) ["_law_urn", "_law_many_so", "_law_top"] (spOf K (C n 14))
  a15 : FnOk P w K mg base CX0 (2 * n) (fa 15) (fd 15) ["_law_matter"] (spOf K (C n 15))
  a16 : FnOk P w K mg base CX0 (2 * n) (fa 16) (fd 16) ["_law_matter", "_law_many_so"] (spOf K (C n 16))
  a17 : FnOk P w K mg base CX0 (2 * n) (fa 17) (fd 17) ["_law_matter"] (spOf K (C n 17))
  a18 : FnOk P w K mg base CX0 (2 * n) (fa 18) (fd 18) [] (spOf K (C n 18))
  a19 : FnOk P w K mg base CX0 (2 * n) (fa 19) (fd 19) ["_law_urn", "_law_part"] (spOf K (C n 19))
  a20 : FnG P w K mg base (2 * n) (fa 20) (fd 20) ["_law_urn"] (spOf K (C n 20))
  a21 : FnG P w K mg base (2 * n) (fa 21) (fd 21) ["_law_script"] (spOf K (C n 21))
theorem s0 : FnScope ["thing", "many"] ["thing", "many"] (defScope t0) := ⟨rfl, rfl, rfl, by decide +kernel, rfl, by decide +kernel, by decide +kernel⟩
theorem p0 (M : MF K mg fa fd cl sa) (L : AK P w K mg base fa fd cl n) (f : Addr) (cdv : Value) (A : Around) (outer : List Env) (s : Shared) (H : Hp) (E : XK) (hr2 : Room (2 * n + 1) (A.deeper (envOfC "is_tuple" (defScope t0) s.heap.objs.size f cdv))) : PSs (cxOf CX0 P w K mg base ["thing", "many"] "is_tuple" (defScope t0) f cdv A outer s H E).nox (defBody t0) (tS 2 K (m0 (C n))) :=
  have S := s0
  have hr := hr2.mono (Nat.le_succ (2 * n))
  have hu := room_u hr
  s_one (s_ret (l_o (w_v (w_andv (w_isi .tuple (w_gr (pv 0)) (by rfl) M.z_isinstance (by boot_by_name) (by rfl) M.z_tuple (by boot_by_name)) (w_one (w_f (w_cmp (o_eq hu) (r_ofV (w_f (w_callB (c_lenW) (by rfl) M.z_len (by boot_by_name) (q_cons (w_gr (pv 0)) q_nil)))) (w_gr (pv 1)))))))))
theorem d0 (M : MF K mg fa fd cl sa) (L : AK P w K mg base fa fd cl n) : FnOk P w K mg base CX0 (2 * n + 1 + 1) (fa 0) (fd 0) ["thing", "many"] (spOf K (C (n + 1) 0)) := by
  rw [C_0]
  exact def_ok M.f0 s0 rfl fun cdv A outer s H E hr => p0 M L (fa 0) cdv A outer s H E hr
theorem s1 : FnScope ["thing", "bottom"] ["thing", "bottom"] (defScope t1) := ⟨rfl, rfl, rfl, by decide +kernel, rfl, by decide +kernel, by decide +kernel⟩
theorem p1 (M : MF K mg fa fd cl sa) (L : AK P w K mg base fa fd cl n) (f : Addr) (cdv : Value) (A : Around) (outer : List Env) (s : Shared) (H : Hp) (E : XK) (hr2 : Room (2 * n + 1) (A.deeper (envOfC "is_number" (defScope t1) s.heap.objs.size f cdv))) : PSs (cxOf CX0 P w K mg base ["thing", "bottom"] "is_number" (defScope t1) f cdv A outer s H E).nox (defBody t1) (tS 2 K (m1 (C n))) :=
  have S := s1
  have hr := hr2.mono (Nat.le_succ (2 * n))
  have hu := room_u hr
  s_one (s_ret (l_o (w_v (w_andv (w_isi .int (w_gr (pv 0)) (by rfl) M.z_isinstance (by boot_by_name) (by rfl) M.z_int (by boot_by_name)) (w_andv (w_not (r_ofV (w_isi .bool (w_gr (pv 0)) (by rfl) M.z_isinstance (by boot_by_name) (by rfl) M.z_bool (by boot_by_name)))) (w_one (w_f (w_cmp (o_ge hu) (w_gr (pv 0)) (w_gr (pv 1))))))))))
theorem d1 (M : MF K mg fa fd cl sa) (L : AK P w K mg base fa fd cl n) : FnOk P w K mg base CX0 (2 * n + 1 + 1) (fa 1) (fd 1) ["thing", "bottom"] (spOf K (C (n + 1) 1)) := by
  rw [C_1]
  exact def_ok M.f1 s1 rfl fun cdv A outer s H E hr => p1 M L (fa 1) cdv A outer s H E hr
theorem s2 : FnScope ["thing", "sign"] ["thing"] (defScope t2) := ⟨rfl, rfl, rfl, by decide +kernel, rfl, by decide +kernel, by decide +kernel⟩
theorem p2 (M : MF K mg fa fd cl sa) (L : AK P w K mg base fa fd cl n) (f : Addr) (cdv : Value) (A : Around) (outer : List Env) (s : Shared) (H : Hp) (E : XK) (hr2 : Room (2 * n + 1) (A.deeper (envOfC "is_name" (defScope t2) s.heap.objs.size f cdv))) : PSs (cxOf CX0 P w K mg base ["thing", "sign"] "is_name" (defScope t2) f cdv A outer s H E).nox (defBody t2) (tS 1 K (m2 (C n))) :=
  have S := s2
  have hr := hr2.mono (Nat.le_succ (2 * n))
  have hu := room_u hr
  s_one (s_ret (l_o (w_v (w_andv (w_isi .str (w_gr (pv 0)) (by rfl) M.z_isinstance (by boot_by_name) (by rfl) M.z_str (by boot_by_name)) (w_andv (w_f (w_chain (o_le hu) (o_le hu) (r_ofV (w_int)) (r_ofV (w_f (w_callB (c_lenW) (by rfl) M.z_len (by boot_by_name) (q_cons (w_gr (pv 0)) q_nil)))) (r_ofV (w_gint (by rfl) M.q_LONGEST)))) (w_one (w_f (w_callB (c_all rfl) (by rfl) M.z_all (by boot_by_name) (q_cons (r_ofV (w_f (w_lc (own := [("sign", 1)]) S.nd (j_val (w_gv (pv 0))) (blkOk_by (by kernel_rfl)) (fun _ _ _ _ _ => gp_name (i := 1) rfl S.nd (by first | exact Or.inl rfl | exact Or.inr rfl)) (fun _ _ _ _ _ => us_nil) (fun _ _ _ _ _ => w_f (w_cmp (o_inW hu) (w_gr (pv 1)) (r_ofV (w_gstr (by rfl) M.q_LETTERS)))) (only_nm (by decide))))) q_nil)))))))))
theorem d2 (M : MF K mg fa fd cl sa) (L : AK P w K mg base fa fd cl n) : FnOk P w K mg base CX0 (2 * n + 1 + 1) (fa 2) (fd 2) ["thing"] (spOf K (C (n + 1) 2)) := by
  rw [C_2]
  exact def_ok M.f2 s2 rfl fun cdv A outer s H E hr => p2 M L (fa 2) cdv A outer s H E hr
theorem s3 : FnScope ["row", "one", "other"] ["row"] (defScope t3) := ⟨rfl, rfl, rfl, by decide +kernel, rfl, by decide +kernel, by decide +kernel⟩
theorem p3 (M : MF K mg fa fd cl sa) (L : AK P w K mg base fa fd cl n) (f : Addr) (cdv : Value) (A : Around) (outer : List Env) (s : Shared) (H : Hp) (E : XK) (hr2 : Room (2 * n + 1) (A.deeper (envOfC "rises" (defScope t3) s.heap.objs.size f cdv))) : PSs (cxOf CX0 P w K mg base ["row", "one", "other"] "rises" (defScope t3) f cdv A outer s H E).nox (defBody t3) (tS 1 K (m3 (C n))) :=
  have S := s3
  have hr := hr2.mono (Nat.le_succ (2 * n))
  have hu := room_u hr
  s_one (s_ret (l_o (w_callB (c_all rfl) (by rfl) M.z_all (by boot_by_name) (q_cons (r_ofV (w_f (w_lc (own := [("one", 1), ("other", 2)]) S.nd (j_zip (by rfl) M.z_zip (z_cons (w_gv (pv 0)) (z_cons (w_f (w_sl (w_gr (pv 0)) (n_so (w_int)) n_no)) z_nil))) (blkOk_by (by kernel_rfl)) (fun _ _ _ _ _ => gp_tup (gp_cons (gp_name (i := 1) rfl S.nd (by first | exact Or.inl rfl | exact Or.inr rfl)) (gp_cons (gp_name (i := 2) rfl S.nd (by first | exact Or.inl rfl | exact Or.inr rfl)) (gp_nil)))) (fun _ _ _ _ _ => us_nil) (fun _ _ _ _ _ => w_f (w_cmp (o_lt hu) (w_gr (pv 1)) (w_gr (pv 2)))) (only_tp (only_cons (only_nm (by decide)) (only_cons (only_nm (by decide)) (only_nil))))))) q_nil))))
theorem d3 (M : MF K mg fa fd cl sa) (L : AK P w K mg base fa fd cl n) : FnOk P w K mg base CX0 (2 * n + 1 + 1) (fa 3) (fd 3) ["row"] (spOf K (C (n + 1) 3)) := by
  rw [C_3]
  exact def_ok M.f3 s3 rfl fun cdv A outer s H E hr => p3 M L (fa 3) cdv A outer s H E hr
theorem s4 : FnScope ["thing", "many", "part"] ["thing", "many"] (defScope t4) := ⟨rfl, rfl, rfl, by decide +kernel, rfl, by decide +kernel, by decide +kernel⟩
theorem p4 (M : MF K mg fa fd cl sa) (L : AK P w K mg base fa fd cl n) (f : Addr) (cdv : Value) (A : Around) (outer : List Env) (s : Shared) (H : Hp) (E : XK) (hr2 : Room (2 * n + 1) (A.deeper (envOfC "is_entry" (defScope t4) s.heap.objs.size f cdv))) : PSs (cxOf CX0 P w K mg base ["thing", "many", "part"] "is_entry" (defScope t4) f cdv A outer s H E).nox (defBody t4) (tS 2 K (m4 (C n))) :=
  have S := s4
  have hr := hr2.mono (Nat.le_succ (2 * n))
  have hu := room_u hr
  s_cons (s_if (l_b (b_of_w (b_or (b_not (b_tru (r_ofV (w_f (w_call L.a0 hr (by rfl) M.g0 M.f0.kp M.b0 (z_cons (w_gv (pv 0)) (z_cons (w_gv (pv 1)) z_nil))))))) (b_or1 (b_not (b_tru (r_ofV (w_f (w_callB (c_all rfl) (by rfl) M.z_all (by boot_by_name) (q_cons (r_ofV (w_f (w_lc (own := [("part", 2)]) S.nd (j_val (w_f (w_sl (w_gr (pv 0)) n_no (n_so (w_f (w_neg (r_ofV (w_int)))))))) (blkOk_by (by kernel_rfl)) (fun _ _ _ _ _ => gp_name (i := 2) rfl S.nd (by first | exact Or.inl rfl | exact Or.inr rfl)) (fun _ _ _ _ _ => us_nil) (fun _ _ _ _ _ => w_f (w_call L.a2 hr (by rfl) M.g2 M.f2.kp M.b2 (z_cons (w_gv (pv 2)) z_nil))) (only_nm (by decide))))) q_nil)))))))))) (s_one (s_ret (l_o (w_v (w_bl))))) (s_nil)) (s_one (s_ret (l_o (w_v (w_andv (w_f (w_callB (c_all rfl) (by rfl) M.z_all (by boot_by_name) (q_cons (r_ofV (w_f (w_lc (own := [("part", 2)]) S.nd (j_val (w_f (w_sl (w_gr (pv 0)) (n_so (w_f (w_neg (r_ofV (w_int))))) n_no))) (blkOk_by (by kernel_rfl)) (fun _ _ _ _ _ => gp_name (i := 2) rfl S.nd (by first | exact Or.inl rfl | exact Or.inr rfl)) (fun _ _ _ _ _ => us_nil) (fun _ _ _ _ _ => w_f (w_call L.a1 hr (by rfl) M.g1 M.f1.kp M.b1 (z_cons (w_gv (pv 2)) (z_cons (w_int) z_nil)))) (only_nm (by decide))))) q_nil))) (w_one (w_f (w_cmp (o_le hu) (r_ofV (w_f (w_ix hu (w_gr (pv 0)) (r_ofV (w_f (w_neg (r_ofV (w_int)))))))) (r_ofV (w_f (w_ix hu (w_gr (pv 0)) (r_ofV (w_f (w_neg (r_ofV (w_int))))))))))))))))
theorem d4 (M : MF K mg fa fd cl sa) (L : AK P w K mg base fa fd cl n) : FnOk P w K mg base CX0 (2 * n + 1 + 1) (fa 4) (fd 4) ["thing", "many"] (spOf K (C (n + 1) 4)) := by
  rw [C_4]
  exact def_ok M.f4 s4 rfl fun cdv A outer s H E hr => p4 M L (fa 4) cdv A outer s H E hr
theorem s5 : FnScope ["thing", "many", "part"] ["thing", "many"] (defScope t5) := ⟨rfl, rfl, rfl, by decide +kernel, rfl, by decide +kernel, by decide +kernel⟩
theorem p5 (M : MF K mg fa fd cl sa) (L : AK P w K mg base fa fd cl n) (f : Addr) (cdv : Value) (A : Around) (outer : List Env) (s : Shared) (H : Hp) (E : XK) (hr2 : Room (2 * n + 1) (A.deeper (envOfC "are_entries" (defScope t5) s.heap.objs.size f cdv))) : PSs (cxOf CX0 P w K mg base ["thing", "many", "part"] "are_entries" (defScope t5) f cdv A outer s H E).nox (defBody t5) (tS 2 K (m5 (C n))) :=
  have S := s5
  have hr := hr2.mono (Nat.le_succ (2 * n))
  have hu := room_u hr
  s_one (s_ret (l_o (w_v (w_andv (w_isi .tuple (w_gr (pv 0)) (by rfl) M.z_isinstance (by boot_by_name) (by rfl) M.z_tuple (by boot_by_name)) (w_andv (w_f (w_callB (c_all rfl) (by rfl) M.z_all (by boot_by_name) (q_cons (r_ofV (w_f (w_lc (own := [("part", 2)]) S.nd (j_val (w_gv (pv 0))) (blkOk_by (by kernel_rfl)) (fun _ _ _ _ _ => gp_name (i := 2) rfl S.nd (by first | exact Or.inl rfl | exact Or.inr rfl)) (fun _ _ _ _ _ => us_nil) (fun _ _ _ _ _ => w_f (w_call L.a4 hr (by rfl) M.g4 M.f4.kp M.b4 (z_cons (w_gv (pv 2)) (z_cons (w_gv (pv 1)) z_nil)))) (only_nm (by decide))))) q_nil))) (w_one (w_f (w_call L.a3 hr (by rfl) M.g3 M.f3.kp M.b3 (z_cons (w_gv (pv 0)) z_nil)))))))))
theorem d5 (M : MF K mg fa fd cl sa) (L : AK P w K mg base fa fd cl n) : FnOk P w K mg base CX0 (2 * n + 1 + 1) (fa 5) (fd 5) ["thing", "many"] (spOf K (C (n + 1) 5)) := by
  rw [C_5]
  exact def_ok M.f5 s5 rfl fun cdv A outer s H E hr => p5 M L (fa 5) cdv A outer s H E hr
theorem s6 : FnScope ["thing", "row"] ["thing"] (defScope t6) := ⟨rfl, rfl, rfl, by decide +kernel, rfl, by decide +kernel, by decide +kernel⟩
theorem p6 (M : MF K mg fa fd cl sa) (L : AK P w K mg base fa fd cl n) (f : Addr) (cdv : Value) (A : Around) (outer : List Env) (s : Shared) (H : Hp) (E : XK) (hr2 : Room (2 * n + 1) (A.deeper (envOfC "is_book" (defScope t6) s.heap.objs.size f cdv))) : PSs (cxOf CX0 P w K mg base ["thing", "row"] "is_book" (defScope t6) f cdv A outer s H E).nox (defBody t6) (tS 1 K (m6 (C n))) :=
  have S := s6
  have hr := hr2.mono (Nat.le_succ (2 * n))
  have hu := room_u hr
  s_cons (s_if (l_b (b_of_w (b_or (b_not (b_tru (r_ofV (w_f (w_call L.a0 hr (by rfl) M.g0 M.f0.kp M.b0 (z_cons (w_gv (pv 0)) (z_cons (w_gint (by rfl) M.q_TRIPLE) z_nil))))))) (b_or (b_not (b_tru (r_ofV (w_f (w_call L.a5 hr (by rfl) M.g5 M.f5.kp M.b5 (z_cons (w_f (w_ix hu (w_gr (pv 0)) (r_ofV (w_int)))) (z_cons (w_gint (by rfl) M.q_HOLDING) z_nil))))))) (b_or1 (b_not (b_tru (r_ofV (w_f (w_call L.a5 hr (by rfl) M.g5 M.f5.kp M.b5 (z_cons (w_f (w_ix hu (w_gr (pv 0)) (r_ofV (w_int)))) (z_cons (w_gint (by rfl) M.q_ABSENCE) z_nil)))))))))))) (s_one (s_ret (l_o (w_v (w_bl))))) (s_nil)) (s_one (s_ret (l_o (w_v (w_andv (w_f (w_call L.a5 hr (by rfl) M.g5 M.f5.kp M.b5 (z_cons (w_f (w_ix hu (w_gr (pv 0)) (r_ofV (w_int)))) (z_cons (w_gint (by rfl) M.q_DEPUTYSHIP) z_nil)))) (w_one (w_f (w_callB (c_all rfl) (by rfl) M.z_all (by boot_by_name) (q_cons (r_ofV (w_f (w_lc (own := [("row", 1)]) S.nd (j_val (w_f (w_ix hu (w_gr (pv 0)) (r_ofV (w_int))))) (blkOk_by (by kernel_rfl)) (fun _ _ _ _ _ => gp_name (i := 1) rfl S.nd (by first | exact Or.inl rfl | exact Or.inr rfl)) (fun _ _ _ _ _ => us_nil) (fun _ _ _ _ _ => w_f (w_cmp (o_ne hu) (r_ofV (w_f (w_ix hu (w_gr (pv 1)) (r_ofV (w_int))))) (r_ofV (w_f (w_ix hu (w_gr (pv 1)) (r_ofV (w_int))))))) (only_nm (by decide))))) q_nil)))))))))
theorem d6 (M : MF K mg fa fd cl sa) (L : AK P w K mg base fa fd cl n) : FnOk P w K mg base CX0 (2 * n + 1 + 1) (fa 6) (fd 6) ["thing"] (spOf K (C (n + 1) 6)) := by
  rw [C_6]
  exact def_ok M.f6 s6 rfl fun cdv A outer s H E hr => p6 M L (fa 6) cdv A outer s H E hr
theorem s7 : FnScope ["_law_script", "_law_k", "_law_cell"] ["_law_script", "_law_k"] (defScope t7) := ⟨rfl, rfl, rfl, by decide +kernel, rfl, by decide +kernel, by decide +kernel⟩
theorem p7 (M : MF K mg fa fd cl sa) (L : AK P w K mg base fa fd cl n) (f : Addr) (cdv : Value) (A : Around) (outer : List Env) (s : Shared) (H : Hp) (E : XK) (hr2 : Room (2 * n + 1) (A.deeper (envOfC "_law_box" (defScope t7) s.heap.objs.size f cdv))) : PSs (cxOf CX0 P w K mg base ["_law_script", "_law_k", "_law_cell"] "_law_box" (defScope t7) f cdv A outer s H E).nox (defBody t7) (tS 2 K (m7 (C n))) :=
  have S := s7
  have hr := hr2.mono (Nat.le_succ (2 * n))
  have hu := room_u hr
  s_cons (s_set (i := 2) rfl S.nd (by first | exact Or.inl rfl | exact Or.inr rfl) (e_ifo (t_cmp (o_lt hu) (e_rB (pv 1)) (e_rO (e_callB (c_len) (by rfl) M.z_len (by boot_by_name) (a_cons (e_rB (pv 0)) a_nil)))) (e_ix (e_rB (pv 0)) (e_rB (pv 1))) (e_oV (e_int)))) (s_one (s_ret (e_lst (a_cons (e_rV (e_frz (e_bin o_mul (e_rO (e_callB (c_abs) (by rfl) M.z_abs (by boot_by_name) (a_cons (e_rB (pv 2)) a_nil))) (e_rO (e_callT (c_int) (by rfl) M.z_int (by boot_by_name) (a_cons (e_rO (e_cmp (o_ge hu) (e_rO (e_callB (c_abs) (by rfl) M.z_abs (by boot_by_name) (a_cons (e_rB (pv 2)) a_nil))) (e_rO (e_bin o_pow (e_rV (e_int)) (e_rV (e_int)))))) a_nil)))))) (a_cons (e_rV (e_frz (e_bin o_add (e_rO (e_bin o_add (e_rO (e_bin o_mod (e_rO (e_callT (c_int) (by rfl) M.z_int (by boot_by_name) (a_cons (e_rB (pv 2)) a_nil))) (e_rV (e_int)))) (e_rO (e_bin o_mul (e_rV (e_int)) (e_rB (pv 1)))))) (e_rV (e_int))))) (a_cons (e_rV (e_int)) a_nil))) (le_line rfl))))
theorem d7 (M : MF K mg fa fd cl sa) (L : AK P w K mg base fa fd cl n) : FnOk P w K mg base CX0 (2 * n + 1 + 1) (fa 7) (fd 7) ["_law_script", "_law_k"] (spOf K (C (n + 1) 7)) := by
  rw [C_7]
  exact def_ok M.f7 s7 rfl fun cdv A outer s H E hr => p7 M L (fa 7) cdv A outer s H E hr
theorem s8 : FnScope ["_law_urn", "_law_low_so", "_law_drawn", "_law_once", "_law_far", "_law_twice"] ["_law_urn", "_law_low_so"] (defScope t8) := ⟨rfl, rfl, rfl, by decide +kernel, rfl, by decide +kernel, by decide +kernel⟩
theorem p8 (M : MF K mg fa fd cl sa) (L : AK P w K mg base fa fd cl n) (f : Addr) (cdv : Value) (A : Around) (outer : List Env) (s : Shared) (H : Hp) (E : XK) (hr2 : Room (2 * n + 1) (A.deeper (envOfC "_law_take" (defScope t8) s.heap.objs.size f cdv))) : PSs (cxOf CX0 P w K mg base ["_law_urn", "_law_low_so", "_law_drawn", "_law_once", "_law_far", "_law_twice"] "_law_take" (defScope t8) f cdv A outer s H E).nox (defBody t8) (tS 2 K (m8 (C n))) :=
  have S := s8
  have hr := hr2.mono (Nat.le_succ (2 * n))
  have hu := room_u hr
  s_cons (s_if (t_cmp (o_gt hu) (e_rO (e_ix (e_rB (pv 0)) (e_rV (e_int)))) (e_rV (e_int))) (s_cons (s_set (i := 2) rfl S.nd (by first | exact Or.inl rfl | exact Or.inr rfl) (e_bin o_mod (e_rO (e_callT (c_int) (by rfl) M.z_int (by boot_by_name) (a_cons (e_rO (e_ix (e_rB (pv 0)) (e_rV (e_int)))) a_nil))) (e_rB (pv 1)))) (s_cons (s_setIx (e_frz (e_bin o_fdiv (e_rO (e_ix (e_rB (pv 0)) (e_rV (e_int)))) (e_rB (pv 1)))) (pv 0) (e_int)) (s_one (s_ret (e_oMove (pv 2)))))) (s_nil)) (s_cons (s_setIx (e_frz (e_bin o_add (e_rO (e_ix (e_rB (pv 0)) (e_rV (e_int)))) (e_rV (e_int)))) (pv 0) (e_int)) (s_cons (s_set (i := 3) rfl S.nd (by first | exact Or.inl rfl | exact Or.inr rfl) (e_bin o_mod (e_rO (e_callT (c_int) (by rfl) M.z_int (by boot_by_name) (a_cons (e_rO (e_bin o_mul (e_rO (e_bin o_add (e_rO (e_ix (e_rB (pv 0)) (e_rV (e_int)))) (e_rO (e_bin o_mul (e_rV (e_int)) (e_rO (e_ix (e_rB (pv 0)) (e_rV (e_int)))))))) (e_rO (e_bin o_add (e_rV (e_int)) (e_rO (e_ix (e_rB (pv 0)) (e_rV (e_int)))))))) a_nil))) (e_rV (e_int)))) (s_cons (s_set (i := 4) rfl S.nd (by first | exact Or.inl rfl | exact Or.inr rfl) (e_bin o_add (e_rO (e_bin o_mod (e_rO (e_callT (c_int) (by rfl) M.z_int (by boot_by_name) (a_cons (e_rB (pv 3)) a_nil))) (e_rV (e_int)))) (e_rV (e_int)))) (s_cons (s_set (i := 5) rfl S.nd (by first | exact Or.inl rfl | exact Or.inr rfl) (e_bin o_mod (e_rO (e_callT (c_int) (by rfl) M.z_int (by boot_by_name) (a_cons (e_rO (e_bin o_mul (e_rO (e_bin o_add (e_rO (e_bin o_add (e_rB (pv 3)) (e_rO (e_ix (e_rB (pv 0)) (e_rV (e_int)))))) (e_rO (e_bin o_fdiv (e_rO (e_ix (e_rB (pv 0)) (e_rV (e_int)))) (e_rV (e_int)))))) (e_rB (pv 4)))) a_nil))) (e_rV (e_int)))) (s_one (s_ret (e_bin o_mod (e_rO (e_callT (c_int) (by rfl) M.z_int (by boot_by_name) (a_cons (e_rO (e_bin o_fdiv (e_rO (e_bin o_mod (e_rO (e_callT (c_int) (by rfl) M.z_int (by boot_by_name) (a_cons (e_rO (e_bin o_add (e_rO (e_bin o_mul (e_rB (pv 5)) (e_rV (e_int)))) (e_rB (pv 3)))) a_nil))) (e_rV (e_int)))) (e_rV (e_int)))) a_nil))) (e_rB (pv 1)))))))))
theorem d8 (M : MF K mg fa fd cl sa) (L : AK P w K mg base fa fd cl n) : FnOk P w K mg base CX0 (2 * n + 1 + 1) (fa 8) (fd 8) ["_law_urn", "_law_low_so"] (spOf K (C (n + 1) 8)) := by
  rw [C_8]
  exact def_ok M.f8 s8 rfl fun cdv A outer s H E hr => p8 M L (fa 8) cdv A outer s H E hr
theorem s9 : FnScope ["_law_script", "_law_top", "_law_cells_here", "_law_k", "_law_cell", "_law_at_so"] ["_law_script", "_law_top"] (defScope t9) := ⟨rfl, rfl, rfl, by decide +kernel, rfl, by decide +kernel, by decide +kernel⟩
theorem p9 (M : MF K mg fa fd cl sa) (L : AK P w K mg base fa fd cl n) (f : Addr) (cdv : Value) (A : Around) (outer : List Env) (s : Shared) (H : Hp) (E : XK) (hr2 : Room (2 * n + 1) (A.deeper (envOfC "_law_cells" (defScope t9) s.heap.objs.size f cdv))) : PSs (cxOf CX0 P w K mg base ["_law_script", "_law_top", "_law_cells_here", "_law_k", "_law_cell", "_law_at_so"] "_law_cells" (defScope t9) f cdv A outer s H E).nox (defBody t9) (tS 2 K (m9 (C n))) :=
  have S := s9
  have hr := hr2.mono (Nat.le_succ (2 * n))
  have hu := room_u hr
  s_cons (s_set (i := 2) rfl S.nd (by first | exact Or.inl rfl | exact Or.inr rfl) (e_oro (e_callT (c_list) (by rfl) M.z_list (by boot_by_name) (a_cons (e_rO (e_sl (e_rB (pv 0)) p_no (p_some (e_vVar (pv 1))))) a_nil)) (e_ono (e_lst (a_cons (e_rV (e_int)) a_nil) (le_line rfl))))) (s_cons (s_for PassesOwn.never (i_enum (by rfl) M.z_enumerate (a_cons (e_rV (e_frz (e_sl (e_rB (pv 0)) (p_some (e_vVar (pv 1))) (p_some (e_int))))) a_nil)) (g_tup (g_cons (g_name (i := 3) rfl S.nd (by first | exact Or.inl rfl | exact Or.inr rfl)) (g_cons (g_name (i := 4) rfl S.nd (by first | exact Or.inl rfl | exact Or.inr rfl)) (g_nil)))) (s_cons (s_set (i := 5) rfl S.nd (by first | exact Or.inl rfl | exact Or.inr rfl) (e_bin o_mod (e_rO (e_callT (c_int) (by rfl) M.z_int (by boot_by_name) (a_cons (e_rB (pv 3)) a_nil))) (e_rB (pv 1)))) (s_one (s_setIx (e_frz (e_bin o_add (e_rO (e_ix (e_rB (pv 2)) (e_rB (pv 5)))) (e_rO (e_bin o_mul (e_rB (pv 4)) (e_rO (e_bin o_add (e_rB (pv 3)) (e_rV (e_int)))))))) (pv 2) (e_vVar (pv 5)))))) (s_one (s_ret (e_oMove (pv 2)))))
theorem d9 (M : MF K mg fa fd cl sa) (L : AK P w K mg base fa fd cl n) : FnOk P w K mg base CX0 (2 * n + 1 + 1) (fa 9) (fd 9) ["_law_script", "_law_top"] (spOf K (C (n + 1) 9)) := by
  rw [C_9]
  exact def_ok M.f9 s9 rfl fun cdv A outer s H E hr => p9 M L (fa 9) cdv A outer s H E hr
theorem s10 : FnScope ["_law_urn", "_law_some"] ["_law_urn", "_law_some"] (defScope t10) := ⟨rfl, rfl, rfl, by decide +kernel, rfl, by decide +kernel, by decide +kernel⟩
theorem p10 (M : MF K mg fa fd cl sa) (L : AK P w K mg base fa fd cl n) (f : Addr) (cdv : Value) (A : Around) (outer : List Env) (s : Shared) (H : Hp) (E : XK) (hr2 : Room (2 * n + 1) (A.deeper (envOfC "_law_of" (defScope t10) s.heap.objs.size f cdv))) : PSs (cxOf CX0 P w K mg base ["_law_urn", "_law_some"] "_law_of" (defScope t10) f cdv A outer s H E).nox (defBody t10) (tS 2 K (m10 (C n))) :=
  have S := s10
  have hr := hr2.mono (Nat.le_succ (2 * n))
  have hu := room_u hr
  s_one (s_ret (e_ix (e_rB (pv 1)) (e_rO (e_call L.a8 hr (by rfl) M.g8 M.f8.kp M.b8 (as_cons (r_r (pv 0)) (as_cons (r_o (e_callB (c_len) (by rfl) M.z_len (by boot_by_name) (a_cons (e_rB (pv 1)) a_nil))) as_nil))))))
theorem d10 (M : MF K mg fa fd cl sa) (L : AK P w K mg base fa fd cl n) : FnOk P w K mg base CX0 (2 * n + 1 + 1) (fa 10) (fd 10) ["_law_urn", "_law_some"] (spOf K (C (n + 1) 10)) := by
  rw [C_10]
  exact def_ok M.f10 s10 rfl fun cdv A outer s H E hr => p10 M L (fa 10) cdv A outer s H E hr
theorem s11 : FnScope ["_law_got", "_law_goal", "_law_mine_so", "_law_own"] ["_law_got", "_law_goal"] (defScope t11) := ⟨rfl, rfl, rfl, by decide +kernel, rfl, by decide +kernel, by decide +kernel⟩
theorem p11 (M : MF K mg fa fd cl sa) (L : AK P w K mg base fa fd cl n) (f : Addr) (cdv : Value) (A : Around) (outer : List Env) (s : Shared) (H : Hp) (E : XK) (hr2 : Room (2 * n + 1) (A.deeper (envOfC "_law_same" (defScope t11) s.heap.objs.size f cdv))) : PSs (cxOf CX0 P w K mg base ["_law_got", "_law_goal", "_law_mine_so", "_law_own"] "_law_same" (defScope t11) f cdv A outer s H E).nox (defBody t11) (tS 2 K (m11 (C n))) :=
  have S := s11
  have hr := hr2.mono (Nat.le_succ (2 * n))
  have hu := room_u hr
  s_cons (s_if (t_tru (e_rV (e_isi2 .list .tuple (e_rB (pv 1)) (by rfl) M.z_isinstance (by boot_by_name) (by rfl) M.z_list (by boot_by_name) (by rfl) M.z_tuple (by boot_by_name)))) (s_cons (s_if (t_of_w (w_or (t_cmp (o_ne hu) (e_rV (e_isi .list (e_rB (pv 0)) (by rfl) M.z_isinstance (by boot_by_name) (by rfl) M.z_list (by boot_by_name))) (e_rV (e_isi .list (e_rB (pv 1)) (by rfl) M.z_isinstance (by boot_by_name) (by rfl) M.z_list (by boot_by_name)))) (w_or1 (t_cmp (o_ne hu) (e_rV (e_isi .tuple (e_rB (pv 0)) (by rfl) M.z_isinstance (by boot_by_name) (by rfl) M.z_tuple (by boot_by_name))) (e_rV (e_isi .tuple (e_rB (pv 1)) (by rfl) M.z_isinstance (by boot_by_name) (by rfl) M.z_tuple (by boot_by_name))))))) (s_one (s_ret (e_oV (e_bl)))) (s_nil)) (s_one (s_ret (e_oV (e_and (e_frz (e_cmp (o_eq hu) (e_rO (e_callB (c_len) (by rfl) M.z_len (by boot_by_name) (a_cons (e_rB (pv 0)) a_nil))) (e_rO (e_callB (c_len) (by rfl) M.z_len (by boot_by_name) (a_cons (e_rB (pv 1)) a_nil))))) (e_one (e_frz (e_callB (c_all rfl) (by rfl) M.z_all (by boot_by_name) (a_cons (e_rO (e_lc (own := [("_law_mine_so", 2), ("_law_own", 3)]) S.nd (i_zip (by rfl) M.z_zip (a_cons (e_rV (e_vVar (pv 0))) (a_cons (e_rV (e_vVar (pv 1))) a_nil))) (blkOk_by (by kernel_rfl)) (fun _ _ _ _ _ => gw_tup (gw_cons (gw_name (i := 2) rfl S.nd (by first | exact Or.inl rfl | exact Or.inr rfl)) (gw_cons (gw_name (i := 3) rfl S.nd (by first | exact Or.inl rfl | exact Or.inr rfl)) (gw_nil)))) (fun _ _ _ _ _ => ts_nil) (fun _ _ _ _ _ => e_frz (e_call L.a11 hr (by rfl) M.g11 M.f11.kp M.b11 (as_cons (r_r (pv 2)) (as_cons (r_r (pv 3)) as_nil)))))) a_nil))))))))) (s_nil)) (s_cons (s_if (t_of_w (w_or (t_isN (e_rB (pv 1))) (w_or1 (t_tru (e_rV (e_isi2 .bool .str (e_rB (pv 1)) (by rfl) M.z_isinstance (by boot_by_name) (by rfl) M.z_bool (by boot_by_name) (by rfl) M.z_str (by boot_by_name))))))) (s_one (s_ret (e_oV (e_and (e_frz (e_cmp (o_eq hu) (e_rB (pv 0)) (e_rB (pv 1)))) (e_and (e_frz (e_cmp (o_eq hu) (e_rV (e_isi .bool (e_rB (pv 0)) (by rfl) M.z_isinstance (by boot_by_name) (by rfl) M.z_bool (by boot_by_name))) (e_rV (e_isi .bool (e_rB (pv 1)) (by rfl) M.z_isinstance (by boot_by_name) (by rfl) M.z_bool (by boot_by_name))))) (e_one (e_frz (e_cmp (o_eq hu) (e_rO (e_isN (e_rB (pv 0)))) (e_rO (e_isN (e_rB (pv 1)))))))))))) (s_nil)) (s_one (s_ret (e_oV (e_and (e_isi .int (e_rB (pv 0)) (by rfl) M.z_isinstance (by boot_by_name) (by rfl) M.z_int (by boot_by_name)) (e_and (e_not (e_rV (e_isi .bool (e_rB (pv 0)) (by rfl) M.z_isinstance (by boot_by_name) (by rfl) M.z_bool (by boot_by_name)))) (e_one (e_frz (e_cmp (o_eq hu) (e_rB (pv 0)) (e_rB (pv 1)))))))))))
theorem d11 (M : MF K mg fa fd cl sa) (L : AK P w K mg base fa fd cl n) : FnOk P w K mg base CX0 (2 * n + 1 + 1) (fa 11) (fd 11) ["_law_got", "_law_goal"] (spOf K (C (n + 1) 11)) := by
  rw [C_11]
  exact def_ok M.f11 s11 rfl fun cdv A outer s H E hr => p11 M L (fa 11) cdv A outer s H E hr
theorem s12 : FnScope ["_law_matter"] ["_law_matter"] (defScope t12) := ⟨rfl, rfl, rfl, by decide +kernel, rfl, by decide +kernel, by decide +kernel⟩
theorem p12 (M : MF K mg fa fd cl sa) (L : AK P w K mg base fa fd cl n) (f : Addr) (cdv : Value) (A : Around) (outer : List Env) (s : Shared) (H : Hp) (E : XK) (hr2 : Room (2 * n + 1) (A.deeper (envOfC "_law_is_nr" (defScope t12) s.heap.objs.size f cdv))) : PSs (cxOf CX0 P w K mg base ["_law_matter"] "_law_is_nr" (defScope t12) f cdv A outer s H E).nox (defBody t12) (tS 1 K (m12 (C n))) :=
  have S := s12
  have hr := hr2.mono (Nat.le_succ (2 * n))
  have hu := room_u hr
  s_one (s_ret (l_o (w_v (w_andv (w_isi .int (w_gr (pv 0)) (by rfl) M.z_isinstance (by boot_by_name) (by rfl) M.z_int (by boot_by_name)) (w_andv (w_not (r_ofV (w_isi .bool (w_gr (pv 0)) (by rfl) M.z_isinstance (by boot_by_name) (by rfl) M.z_bool (by boot_by_name)))) (w_one (w_f (w_cmp (o_ge hu) (w_gr (pv 0)) (r_ofV (w_int))))))))))
theorem d12 (M : MF K mg fa fd cl sa) (L : AK P w K mg base fa fd cl n) : FnOk P w K mg base CX0 (2 * n + 1 + 1) (fa 12) (fd 12) ["_law_matter"] (spOf K (C (n + 1) 12)) := by
  rw [C_12]
  exact def_ok M.f12 s12 rfl fun cdv A outer s H E hr => p12 M L (fa 12) cdv A outer s H E hr
theorem s13 : FnScope ["_law_urn", "_law_top", "_law_front"] ["_law_urn", "_law_top"] (defScope t13) := ⟨rfl, rfl, rfl, by decide +kernel, rfl, by decide +kernel, by decide +kernel⟩
theorem p13 (M : MF K mg fa fd cl sa) (L : AK P w K mg base fa fd cl n) (f : Addr) (cdv : Value) (A : Around) (outer : List Env) (s : Shared) (H : Hp) (E : XK) (hr2 : Room (2 * n + 1) (A.deeper (envOfC "_law_stretch" (defScope t13) s.heap.objs.size f cdv))) : PSs (cxOf CX0 P w K mg base ["_law_urn", "_law_top", "_law_front"] "_law_stretch" (defScope t13) f cdv A outer s H E).nox (defBody t13) (tS 2 K (m13 (C n))) :=
  have S := s13
  have hr := hr2.mono (Nat.le_succ (2 * n))
  have hu := room_u hr
  s_cons (s_set (i := 2) rfl S.nd (by first | exact Or.inl rfl | exact Or.inr rfl) (e_call L.a8 hr (by rfl) M.g8 M.f8.kp M.b8 (as_cons (r_r (pv 0)) (as_cons (r_o (e_bin o_add (e_rB (pv 1)) (e_rV (e_int)))) as_nil)))) (s_one (s_ret (e_oV (e_tup (a_cons (e_rV (e_vVar (pv 2))) (a_cons (e_rV (e_frz (e_bin o_add (e_rB (pv 2)) (e_rO (e_call L.a8 hr (by rfl) M.g8 M.f8.kp M.b8 (as_cons (r_r (pv 0)) (as_cons (r_o (e_bin o_sub (e_rO (e_bin o_add (e_rB (pv 1)) (e_rV (e_int)))) (e_rB (pv 2)))) as_nil))))))) a_nil)) (le_line rfl)))))
theorem d13 (M : MF K mg fa fd cl sa) (L : AK P w K mg base fa fd cl n) : FnOk P w K mg base CX0 (2 * n + 1 + 1) (fa 13) (fd 13) ["_law_urn", "_law_top"] (spOf K (C (n + 1) 13)) := by
  rw [C_13]
  exact def_ok M.f13 s13 rfl fun cdv A outer s H E hr => p13 M L (fa 13) cdv A outer s H E hr
theorem s14 : FnScope ["_law_urn", "_law_many_so", "_law_top", "_law_crew", "_law_ranks", "_law_held", "_law_gone", "_law_deps", "_law_turn", "_law_k", "_law_far"] ["_law_urn", "_law_many_so", "_law_top"] (defScope t14) := ⟨rfl, rfl, rfl, by decide +kernel, rfl, by decide +kernel, by decide +kernel⟩
theorem p14 (M : MF K mg fa fd cl sa) (L : AK P w K mg base fa fd cl n) (f : Addr) (cdv : Value) (A : Around) (outer : List Env) (s : Shared) (H : Hp) (E : XK) (hr2 : Room (2 * n + 1) (A.deeper (envOfC "_law_tome" (defScope t14) s.heap.objs.size f cdv))) : PSs (cxOf CX0 P w K mg base ["_law_urn", "_law_many_so", "_law_top", "_law_crew", "_law_ranks", "_law_held", "_law_gone", "_law_deps", "_law_turn", "_law_k", "_law_far"] "_law_tome" (defScope t14) f cdv A outer s H E).nox (defBody t14) (tS 3 K (m14 (C n))) :=
  have S := s14
  have hr := hr2.mono (Nat.le_succ (2 * n))
  have hu := room_u hr
  s_cons (s_par2 (i := 3) (j := 4) rfl rfl S.nd (ao_cons (e_sl (e_rO (e_lst (a_cons (e_rV (e_str)) (a_cons (e_rV (e_str)) (a_cons (e_rV (e_str)) (a_cons (e_rV (e_str)) (a_cons (e_rV (e_str)) (a_cons (e_rV (e_str)) (a_cons (e_rV (e_str)) (a_cons (e_rV (e_str)) a_nil)))))))) (le_line rfl))) p_no (p_some (e_vVar (pv 1)))) (ao_cons (e_lst (a_cons (e_rV (e_str)) (a_cons (e_rV (e_str)) (a_cons (e_rV (e_str)) a_nil))) (le_line rfl)) (ao_nil)))) (s_cons (s_par3 (i := 5) (j := 6) (l := 7) rfl rfl rfl S.nd (ao_cons (e_lst (a_nil) (le_line rfl)) (ao_cons (e_lst (a_nil) (le_line rfl)) (ao_cons (e_lst (a_nil) (le_line rfl)) (ao_nil))))) (s_cons (s_for PassesOwn.never (i_rng1 (by rfl) M.z_range (a_cons (e_rO (e_bin o_add (e_rV (e_int)) (e_rO (e_call L.a8 hr (by rfl) M.g8 M.f8.kp M.b8 (as_cons (r_r (pv 0)) (as_cons (r_v (e_int)) as_nil)))))) a_nil)) (g_name (i := 8) rfl S.nd (by first | exact Or.inl rfl | exact Or.inr rfl)) (s_one (s_exp (e_app (pv 5) (e_frz (e_bin o_add (e_rV (e_tup (a_cons (e_rV (e_frz (e_call L.a10 hr (by rfl) M.g10 M.f10.kp M.b10 (as_cons (r_r (pv 0)) (as_cons (r_r (pv 4)) as_nil))))) (a_cons (e_rV (e_frz (e_call L.a10 hr (by rfl) M.g10 M.f10.kp M.b10 (as_cons (r_r (pv 0)) (as_cons (r_r (pv 3)) as_nil))))) a_nil)) (le_line rfl))) (e_rO (e_call L.a13 hr (by rfl) M.g13 M.f13.kp M.b13 (as_cons (r_r (pv 0)) (as_cons (r_r (pv 2)) as_nil)))))))))) (s_cons (s_for PassesOwn.never (i_rng1 (by rfl) M.z_range (a_cons (e_rO (e_call L.a8 hr (by rfl) M.g8 M.f8.kp M.b8 (as_cons (r_r (pv 0)) (as_cons (r_v (e_int)) as_nil)))) a_nil)) (g_name (i := 8) rfl S.nd (by first | exact Or.inl rfl | exact Or.inr rfl)) (s_one (s_exp (e_app (pv 6) (e_frz (e_bin o_add (e_rV (e_tup (a_cons (e_rV (e_frz (e_call L.a10 hr (by rfl) M.g10 M.f10.kp M.b10 (as_cons (r_r (pv 0)) (as_cons (r_r (pv 3)) as_nil))))) a_nil) (le_line rfl))) (e_rO (e_call L.a13 hr (by rfl) M.g13 M.f13.kp M.b13 (as_cons (r_r (pv 0)) (as_cons (r_r (pv 2)) as_nil)))))))))) (s_cons (s_for PassesOwn.never (i_rng1 (by rfl) M.z_range (a_cons (e_rO (e_call L.a8 hr (by rfl) M.g8 M.f8.kp M.b8 (as_cons (r_r (pv 0)) (as_cons (r_v (e_int)) as_nil)))) a_nil)) (g_name (i := 8) rfl S.nd (by first | exact Or.inl rfl | exact Or.inr rfl)) (s_cons (s_set (i := 9) rfl S.nd (by first | exact Or.inl rfl | exact Or.inr rfl) (e_call L.a8 hr (by rfl) M.g8 M.f8.kp M.b8 (as_cons (r_r (pv 0)) (as_cons (r_r (pv 1)) as_nil)))) (s_cons (s_set (i := 10) rfl S.nd (by first | exact Or.inl rfl | exact Or.inr rfl) (e_bin o_mod (e_rO (e_callT (c_int) (by rfl) M.z_int (by boot_by_name) (a_cons (e_rO (e_bin o_add (e_rO (e_bin o_add (e_rB (pv 9)) (e_rV (e_int)))) (e_rO (e_call L.a8 hr (by rfl) M.g8 M.f8.kp M.b8 (as_cons (r_r (pv 0)) (as_cons (r_o (e_bin o_sub (e_rB (pv 1)) (e_rV (e_int)))) as_nil)))))) a_nil))) (e_rB (pv 1)))) (s_one (s_exp (e_app (pv 7) (e_frz (e_bin o_add (e_rV (e_tup (a_cons (e_rV (e_frz (e_call L.a10 hr (by rfl) M.g10 M.f10.kp M.b10 (as_cons (r_r (pv 0)) (as_cons (r_r (pv 4)) as_nil))))) (a_cons (e_rV (e_frz (e_ix (e_rB (pv 3)) (e_rB (pv 9))))) (a_cons (e_rV (e_frz (e_ix (e_rB (pv 3)) (e_rB (pv 10))))) a_nil))) (le_line rfl))) (e_rO (e_call L.a13 hr (by rfl) M.g13 M.f13.kp M.b13 (as_cons (r_r (pv 0)) (as_cons (r_r (pv 2)) as_nil)))))))))))) (s_one (s_ret (e_oV (e_tup (a_cons (e_rV (e_frz (e_callT (c_tuple) (by rfl) M.z_tuple (by boot_by_name) (a_cons (e_rO (e_sset rfl hu (by rfl) M.z_sorted (by rfl) M.z_set (e_rB (pv 5)))) a_nil)))) (a_cons (e_rV (e_frz (e_callT (c_tuple) (by rfl) M.z_tuple (by boot_by_name) (a_cons (e_rO (e_sset rfl hu (by rfl) M.z_sorted (by rfl) M.z_set (e_rB (pv 6)))) a_nil)))) (a_cons (e_rV (e_frz (e_callT (c_tuple) (by rfl) M.z_tuple (by boot_by_name) (a_cons (e_rO (e_sset rfl hu (by rfl) M.z_sorted (by rfl) M.z_set (e_rB (pv 7)))) a_nil)))) a_nil))) (le_line rfl)))))))))
theorem d14 (M : MF K mg fa fd cl sa) (L : AK P w K mg base fa fd cl n) : FnOk P w K mg base CX0 (2 * n + 1 + 1) (fa 14) (fd 14) ["_law_urn", "_law_many_so", "_law_top"] (spOf K (C (n + 1) 14)) := by
  rw [C_14]
  exact def_ok M.f14 s14 rfl fun cdv A outer s H E hr => p14 M L (fa 14) cdv A outer s H E hr
theorem s15 : FnScope ["_law_matter", "_law_sign"] ["_law_matter"] (defScope t15) := ⟨rfl, rfl, rfl, by decide +kernel, rfl, by decide +kernel, by decide +kernel⟩
theorem p15 (M : MF K mg fa fd cl sa) (L : AK P w K mg base fa fd cl n) (f : Addr) (cdv : Value) (A : Around) (outer : List Env) (s : Shared) (H : Hp) (E : XK) (hr2 : Room (2 * n + 1) (A.deeper (envOfC "_law_is_word" (defScope t15) s.heap.objs.size f cdv))) : PSs (cxOf CX0 P w K mg base ["_law_matter", "_law_sign"] "_law_is_word" (defScope t15) f cdv A outer s H E).nox (defBody t15) (tS 1 K (m15 (C n))) :=
  have S := s15
  have hr := hr2.mono (Nat.le_succ (2 * n))
  have hu := room_u hr
  s_cons (s_if (l_b (b_of_w (b_or (b_not (b_tru (r_ofV (w_isi .str (w_gr (pv 0)) (by rfl) M.z_isinstance (by boot_by_name) (by rfl) M.z_str (by boot_by_name))))) (b_or1 (b_not (b_chain (o_lt hu) (o_lt hu) (r_ofV (w_int)) (r_ofV (w_f (w_callB (c_lenW) (by rfl) M.z_len (by boot_by_name) (q_cons (w_gr (pv 0)) q_nil)))) (r_ofV (w_int)))))))) (s_one (s_ret (l_o (w_v (w_bl))))) (s_nil)) (s_one (s_ret (l_o (w_cmp (o_eq hu) (r_ofV (w_f (w_lc (own := [("_law_sign", 1)]) S.nd (j_val (w_gv (pv 0))) (blkOk_by (by kernel_rfl)) (fun _ _ _ _ _ => gp_name (i := 1) rfl S.nd (by first | exact Or.inl rfl | exact Or.inr rfl)) (fun _ _ _ _ _ => us_one (b_cmp (o_notInW hu) (w_gr (pv 1)) (r_ofV (w_str)))) (fun _ _ _ _ _ => w_gv (pv 1)) (only_nm (by decide))))) (r_ofV (w_f (w_lst (z_nil))))))))
theorem d15 (M : MF K mg fa fd cl sa) (L : AK P w K mg base fa fd cl n) : FnOk P w K mg base CX0 (2 * n + 1 + 1) (fa 15) (fd 15) ["_law_matter"] (spOf K (C (n + 1) 15)) := by
  rw [C_15]
  exact def_ok M.f15 s15 rfl fun cdv A outer s H E hr => p15 M L (fa 15) cdv A outer s H E hr
theorem s16 : FnScope ["_law_matter", "_law_many_so", "_law_own", "_law_fine", "_law_bit"] ["_law_matter", "_law_many_so"] (defScope t16) := ⟨rfl, rfl, rfl, by decide +kernel, rfl, by decide +kernel, by decide +kernel⟩
theorem p16 (M : MF K mg fa fd cl sa) (L : AK P w K mg base fa fd cl n) (f : Addr) (cdv : Value) (A : Around) (outer : List Env) (s : Shared) (H : Hp) (E : XK) (hr2 : Room (2 * n + 1) (A.deeper (envOfC "_law_are_lines" (defScope t16) s.heap.objs.size f cdv))) : PSs (cxOf CX0 P w K mg base ["_law_matter", "_law_many_so", "_law_own", "_law_fine", "_law_bit"] "_law_are_lines" (defScope t16) f cdv A outer s H E).nox (defBody t16) (tS 2 K (m16 (C n))) :=
  have S := s16
  have hr := hr2.mono (Nat.le_succ (2 * n))
  have hu := room_u hr
  s_cons (s_if (l_b (b_not (b_tru (r_ofV (w_isi .tuple (w_gr (pv 0)) (by rfl) M.z_isinstance (by boot_by_name) (by rfl) M.z_tuple (by boot_by_name)))))) (s_one (s_ret (l_o (w_v (w_bl))))) (s_nil)) (s_cons (s_for PassesOwn.never (l_i (j_val (w_gv (pv 0)))) (g_name (i := 2) rfl S.nd (by first | exact Or.inl rfl | exact Or.inr rfl)) (s_cons (s_if (l_b (b_of_w (b_or (b_not (b_tru (r_ofV (w_isi .tuple (w_gr (pv 2)) (by rfl) M.z_isinstance (by boot_by_name) (by rfl) M.z_tuple (by boot_by_name))))) (b_or1 (b_cmp (o_ne hu) (r_ofV (w_f (w_callB (c_lenW) (by rfl) M.z_len (by boot_by_name) (q_cons (w_gr (pv 2)) q_nil)))) (r_ofV (w_f (w_bin o_add (w_gr (pv 1)) (r_ofV (w_int)))))))))) (s_one (s_ret (l_o (w_v (w_bl))))) (s_nil)) (s_cons (s_set (i := 3) rfl S.nd (by first | exact Or.inl rfl | exact Or.inr rfl) (e_oV (l_v (w_f (w_bin o_add (r_ofV (w_f (w_lc (own := [("_law_bit", 4)]) S.nd (j_val (w_f (w_sl (w_gr (pv 2)) n_no (n_so (w_gv (pv 1)))))) (blkOk_by (by kernel_rfl)) (fun _ _ _ _ _ => gp_name (i := 4) rfl S.nd (by first | exact Or.inl rfl | exact Or.inr rfl)) (fun _ _ _ _ _ => us_nil) (fun _ _ _ _ _ => w_f (w_call L.a15 hr (by rfl) M.g15 M.f15.kp M.b15 (z_cons (w_gv (pv 4)) z_nil))) (only_nm (by decide))))) (r_ofV (w_f (w_lc (own := [("_law_bit", 4)]) S.nd (j_val (w_f (w_sl (w_gr (pv 2)) (n_so (w_gv (pv 1))) n_no))) (blkOk_by (by kernel_rfl)) (fun _ _ _ _ _ => gp_name (i := 4) rfl S.nd (by first | exact Or.inl rfl | exact Or.inr rfl)) (fun _ _ _ _ _ => us_nil) (fun _ _ _ _ _ => w_f (w_call L.a12 hr (by rfl) M.g12 M.f12.kp M.b12 (z_cons (w_gv (pv 4)) z_nil))) (only_nm (by decide)))))))))) (s_cons (s_if (l_b (b_not (b_tru (r_ofV (w_f (w_callB (c_all rfl) (by rfl) M.z_all (by boot_by_name) (q_cons (w_gr (pv 3)) q_nil))))))) (s_one (s_ret (l_o (w_v (w_bl))))) (s_nil)) (s_one (s_if (l_b (b_of_w (b_or (b_cmp (o_gt hu) (r_ofV (w_f (w_ix hu (w_gr (pv 2)) (w_gr (pv 1))))) (r_ofV (w_f (w_ix hu (w_gr (pv 2)) (r_ofV (w_f (w_bin o_add (w_gr (pv 1)) (r_ofV (w_int))))))))) (b_or1 (b_of_w (b_and (b_cmp (o_eq hu) (w_gr (pv 1)) (r_ofV (w_int))) (b_and1 (b_cmp (o_eq hu) (r_ofV (w_f (w_ix hu (w_gr (pv 2)) (r_ofV (w_int))))) (r_ofV (w_f (w_ix hu (w_gr (pv 2)) (r_ofV (w_int))))))))))))) (s_one (s_ret (l_o (w_v (w_bl))))) (s_nil))))))) (s_one (s_ret (l_o (w_cmp (o_eq hu) (r_ofV (w_f (w_callT (c_listW rfl) (by rfl) M.z_list (by boot_by_name) (q_cons (w_gr (pv 0)) q_nil)))) (r_ofV (w_f (w_sset rfl hu (by rfl) M.z_sorted (by rfl) M.z_set (w_gr (pv 0))))))))))
theorem d16 (M : MF K mg fa fd cl sa) (L : AK P w K mg base fa fd cl n) : FnOk P w K mg base CX0 (2 * n + 1 + 1) (fa 16) (fd 16) ["_law_matter", "_law_many_so"] (spOf K (C (n + 1) 16)) := by
  rw [C_16]
  exact def_ok M.f16 s16 rfl fun cdv A outer s H E hr => p16 M L (fa 16) cdv A outer s H E hr
theorem s17 : FnScope ["_law_matter"] ["_law_matter"] (defScope t17) := ⟨rfl, rfl, rfl, by decide +kernel, rfl, by decide +kernel, by decide +kernel⟩
theorem p17 (M : MF K mg fa fd cl sa) (L : AK P w K mg base fa fd cl n) (f : Addr) (cdv : Value) (A : Around) (outer : List Env) (s : Shared) (H : Hp) (E : XK) (hr2 : Room (2 * n + 1) (A.deeper (envOfC "_law_is_tome" (defScope t17) s.heap.objs.size f cdv))) : PSs (cxOf CX0 P w K mg base ["_law_matter"] "_law_is_tome" (defScope t17) f cdv A outer s H E).nox (defBody t17) (tS 1 K (m17 (C n))) :=
  have S := s17
  have hr := hr2.mono (Nat.le_succ (2 * n))
  have hu := room_u hr
  s_cons (s_if (l_b (b_of_w (b_or (b_not (b_tru (r_ofV (w_isi .tuple (w_gr (pv 0)) (by rfl) M.z_isinstance (by boot_by_name) (by rfl) M.z_tuple (by boot_by_name))))) (b_or1 (b_cmp (o_ne hu) (r_ofV (w_f (w_callB (c_lenW) (by rfl) M.z_len (by boot_by_name) (q_cons (w_gr (pv 0)) q_nil)))) (r_ofV (w_int))))))) (s_one (s_ret (l_o (w_v (w_bl))))) (s_nil)) (s_one (s_ret (l_o (w_v (w_andv (w_f (w_call L.a16 hr (by rfl) M.g16 M.f16.kp M.b16 (z_cons (w_f (w_ix hu (w_gr (pv 0)) (r_ofV (w_int)))) (z_cons (w_int) z_nil)))) (w_andv (w_f (w_call L.a16 hr (by rfl) M.g16 M.f16.kp M.b16 (z_cons (w_f (w_ix hu (w_gr (pv 0)) (r_ofV (w_int)))) (z_cons (w_int) z_nil)))) (w_one (w_f (w_call L.a16 hr (by rfl) M.g16 M.f16.kp M.b16 (z_cons (w_f (w_ix hu (w_gr (pv 0)) (r_ofV (w_int)))) (z_cons (w_int) z_nil)))))))))))
theorem d17 (M : MF K mg fa fd cl sa) (L : AK P w K mg base fa fd cl n) : FnOk P w K mg base CX0 (2 * n + 1 + 1) (fa 17) (fd 17) ["_law_matter"] (spOf K (C (n + 1) 17)) := by
  rw [C_17]
  exact def_ok M.f17 s17 rfl fun cdv A outer s H E hr => p17 M L (fa 17) cdv A outer s H E hr
theorem s18 : FnScope ["_law_one_so", "_law_off", "_law_dep", "_law_some", "_law_deep", "_law_turn"] [] (defScope t18) := ⟨rfl, rfl, rfl, by decide +kernel, rfl, by decide +kernel, by decide +kernel⟩
theorem p18 (M : MF K mg fa fd cl sa) (L : AK P w K mg base fa fd cl n) (f : Addr) (cdv : Value) (A : Around) (outer : List Env) (s : Shared) (H : Hp) (E : XK) (hr2 : Room (2 * n + 1) (A.deeper (envOfC "_law_kinds" (defScope t18) s.heap.objs.size f cdv))) : PSs (cxOf CX0 P w K mg base ["_law_one_so", "_law_off", "_law_dep", "_law_some", "_law_deep", "_law_turn"] "_law_kinds" (defScope t18) f cdv A outer s H E).nox (defBody t18) (tS 0 K (m18 (C n))) :=
  have S := s18
  have hr := hr2.mono (Nat.le_succ (2 * n))
  have hu := room_u hr
  s_cons (s_parN (ao_cons (e_oV (l_v (w_tup (z_cons (w_str) (z_cons (w_str) (z_cons (w_int) (z_cons (w_int) z_nil))))))) (ao_cons (e_oV (l_v (w_tup (z_cons (w_str) (z_cons (w_int) (z_cons (w_int) z_nil)))))) (ao_cons (e_oV (l_v (w_tup (z_cons (w_str) (z_cons (w_str) (z_cons (w_str) (z_cons (w_int) (z_cons (w_int) z_nil)))))))) (ao_nil)))) (go_cons (i := 0) rfl S.nd (by first | exact Or.inl rfl | exact Or.inr rfl) (go_cons (i := 1) rfl S.nd (by first | exact Or.inl rfl | exact Or.inr rfl) (go_cons (i := 2) rfl S.nd (by first | exact Or.inl rfl | exact Or.inr rfl) (go_nil)))) (le_line rfl)) (s_cons (s_set (i := 3) rfl S.nd (by first | exact Or.inl rfl | exact Or.inr rfl) (l_o (w_lst (z_cons (w_tup (z_cons (w_tup (z_nil)) (z_cons (w_tup (z_nil)) (z_cons (w_tup (z_nil)) z_nil)))) (z_cons (w_tup (z_cons (w_tup (z_cons (w_gv (pv 0)) z_nil)) (z_cons (w_tup (z_cons (w_gv (pv 1)) z_nil)) (z_cons (w_tup (z_cons (w_gv (pv 2)) z_nil)) z_nil)))) (z_cons (w_tup (z_cons (w_tup (z_cons (w_gv (pv 0)) z_nil)) (z_cons (w_tup (z_nil)) (z_cons (w_tup (z_nil)) z_nil)))) (z_cons (w_tup (z_cons (w_tup (z_nil)) (z_cons (w_tup (z_cons (w_gv (pv 1)) z_nil)) (z_cons (w_tup (z_nil)) z_nil)))) z_nil))))))) (s_cons (s_set (i := 3) rfl S.nd (by first | exact Or.inl rfl | exact Or.inr rfl) (l_o (w_bin o_add (w_gr (pv 3)) (r_ofV (w_f (w_lst (z_cons (w_tup (z_cons (w_tup (z_nil)) (z_cons (w_tup (z_nil)) (z_cons (w_tup (z_cons (w_gv (pv 2)) z_nil)) z_nil)))) (z_cons (w_tup (z_nil)) (z_cons (w_tup (z_cons (w_tup (z_nil)) (z_cons (w_tup (z_nil)) z_nil))) z_nil))))))))) (s_cons (s_set (i := 3) rfl S.nd (by first | exact Or.inl rfl | exact Or.inr rfl) (l_o (w_bin o_add (w_gr (pv 3)) (r_ofV (w_f (w_lst (z_cons (w_tup (z_cons (w_tup (z_nil)) (z_cons (w_tup (z_nil)) (z_cons (w_tup (z_nil)) (z_cons (w_tup (z_nil)) z_nil))))) (z_cons (w_f (w_lst (z_cons (w_tup (z_nil)) (z_cons (w_tup (z_nil)) (z_cons (w_tup (z_nil)) z_nil))))) (z_cons (w_tup (z_cons (w_f (w_lst (z_nil))) (z_cons (w_tup (z_nil)) (z_cons (w_tup (z_nil)) z_nil)))) (z_cons (w_tup (z_cons (w_tup (z_nil)) (z_cons (w_f (w_lst (z_nil))) (z_cons (w_tup (z_nil)) z_nil)))) (z_cons (w_tup (z_cons (w_tup (z_nil)) (z_cons (w_tup (z_nil)) (z_cons (w_f (w_lst (z_nil))) z_nil)))) z_nil))))))))))) (s_cons (s_set (i := 3) rfl S.nd (by first | exact Or.inl rfl | exact Or.inr rfl) (l_o (w_bin o_add (w_gr (pv 3)) (r_ofV (w_f (w_lst (z_cons (w_tup (z_cons (w_tup (z_cons (w_gv (pv 0)) (z_cons (w_gv (pv 0)) z_nil))) (z_cons (w_tup (z_nil)) (z_cons (w_tup (z_nil)) z_nil)))) z_nil))))))) (s_cons (s_set (i := 3) rfl S.nd (by first | exact Or.inl rfl | exact Or.inr rfl) (l_o (w_bin o_add (w_gr (pv 3)) (r_ofV (w_f (w_lst (z_cons (w_tup (z_cons (w_tup (z_cons (w_gv (pv 0)) (z_cons (w_tup (z_cons (w_str) (z_cons (w_str) (z_cons (w_int) (z_cons (w_int) z_nil))))) z_nil))) (z_cons (w_tup (z_nil)) (z_cons (w_tup (z_nil)) z_nil)))) (z_cons (w_tup (z_cons (w_tup (z_cons (w_tup (z_cons (w_str) (z_cons (w_str) (z_cons (w_int) (z_cons (w_int) z_nil))))) (z_cons (w_gv (pv 0)) z_nil))) (z_cons (w_tup (z_nil)) (z_cons (w_tup (z_nil)) z_nil)))) (z_cons (w_non) z_nil))))))))) (s_cons (s_set (i := 3) rfl S.nd (by first | exact Or.inl rfl | exact Or.inr rfl) (l_o (w_bin o_add (w_gr (pv 3)) (r_ofV (w_f (w_lst (z_cons (w_int) (z_cons (w_str) (z_cons (w_bl) z_nil))))))))) (s_cons (s_set (i := 3) rfl S.nd (by first | exact Or.inl rfl | exact Or.inr rfl) (l_o (w_bin o_add (w_gr (pv 3)) (r_ofV (w_f (w_lst (z_cons (w_tup (z_cons (w_tup (z_cons (w_tup (z_cons (w_str) (z_cons (w_str) (z_cons (w_int) (z_cons (w_int) z_nil))))) z_nil)) (z_cons (w_tup (z_nil)) (z_cons (w_tup (z_nil)) z_nil)))) (z_cons (w_tup (z_cons (w_tup (z_cons (w_tup (z_cons (w_str) (z_cons (w_str) (z_cons (w_int) (z_cons (w_int) z_nil))))) z_nil)) (z_cons (w_tup (z_nil)) (z_cons (w_tup (z_nil)) z_nil)))) z_nil)))))))) (s_cons (s_set (i := 3) rfl S.nd (by first | exact Or.inl rfl | exact Or.inr rfl) (l_o (w_bin o_add (w_gr (pv 3)) (r_ofV (w_f (w_lst (z_cons (w_tup (z_cons (w_tup (z_cons (w_tup (z_cons (w_str) (z_cons (w_str) (z_cons (w_f (w_neg (r_ofV (w_int)))) (z_cons (w_int) z_nil))))) z_nil)) (z_cons (w_tup (z_nil)) (z_cons (w_tup (z_nil)) z_nil)))) z_nil))))))) (s_cons (s_set (i := 3) rfl S.nd (by first | exact Or.inl rfl | exact Or.inr rfl) (l_o (w_bin o_add (w_gr (pv 3)) (r_ofV (w_f (w_lst (z_cons (w_tup (z_cons (w_tup (z_cons (w_tup (z_cons (w_str) (z_cons (w_str) (z_cons (w_bl) (z_cons (w_int) z_nil))))) z_nil)) (z_cons (w_tup (z_nil)) (z_cons (w_tup (z_nil)) z_nil)))) (z_cons (w_tup (z_cons (w_tup (z_cons (w_tup (z_cons (w_str) (z_cons (w_str) (z_cons (w_int) (z_cons (w_bl) z_nil))))) z_nil)) (z_cons (w_tup (z_nil)) (z_cons (w_tup (z_nil)) z_nil)))) z_nil)))))))) (s_cons (s_set (i := 3) rfl S.nd (by first | exact Or.inl rfl | exact Or.inr rfl) (l_o (w_bin o_add (w_gr (pv 3)) (r_ofV (w_f (w_lst (z_cons (w_tup (z_cons (w_tup (z_cons (w_tup (z_cons (w_str) (z_cons (w_str) (z_cons (w_int) z_nil)))) z_nil)) (z_cons (w_tup (z_nil)) (z_cons (w_tup (z_nil)) z_nil)))) z_nil))))))) (s_cons (s_set (i := 3) rfl S.nd (by first | exact Or.inl rfl | exact Or.inr rfl) (l_o (w_bin o_add (w_gr (pv 3)) (r_ofV (w_f (w_lst (z_cons (w_tup (z_cons (w_tup (z_cons (w_tup (z_cons (w_str) (z_cons (w_str) (z_cons (w_int) (z_cons (w_int) z_nil))))) z_nil)) (z_cons (w_tup (z_nil)) (z_cons (w_tup (z_nil)) z_nil)))) (z_cons (w_tup (z_cons (w_tup (z_cons (w_tup (z_cons (w_str) (z_cons (w_str) (z_cons (w_int) (z_cons (w_int) z_nil))))) z_nil)) (z_cons (w_tup (z_nil)) (z_cons (w_tup (z_nil)) z_nil)))) z_nil)))))))) (s_cons (s_set (i := 3) rfl S.nd (by first | exact Or.inl rfl | exact Or.inr rfl) (l_o (w_bin o_add (w_gr (pv 3)) (r_ofV (w_f (w_lst (z_cons (w_tup (z_cons (w_tup (z_cons (w_tup (z_cons (w_str) (z_cons (w_str) (z_cons (w_int) (z_cons (w_int) z_nil))))) z_nil)) (z_cons (w_tup (z_nil)) (z_cons (w_tup (z_nil)) z_nil)))) z_nil))))))) (s_cons (s_set (i := 3) rfl S.nd (by first | exact Or.inl rfl | exact Or.inr rfl) (l_o (w_bin o_add (w_gr (pv 3)) (r_ofV (w_f (w_lst (z_cons (w_tup (z_cons (w_tup (z_cons (w_f (w_lst (z_cons (w_str) (z_cons (w_str) (z_cons (w_int) (z_cons (w_int) z_nil)))))) z_nil)) (z_cons (w_tup (z_nil)) (z_cons (w_tup (z_nil)) z_nil)))) (z_cons (w_tup (z_cons (w_tup (z_cons (w_str) (z_cons (w_str) (z_cons (w_int) (z_cons (w_int) z_nil))))) (z_cons (w_tup (z_nil)) (z_cons (w_tup (z_nil)) z_nil)))) (z_cons (w_tup (z_cons (w_tup (z_cons (w_tup (z_cons (w_int) (z_cons (w_str) (z_cons (w_int) (z_cons (w_int) z_nil))))) z_nil)) (z_cons (w_tup (z_nil)) (z_cons (w_tup (z_nil)) z_nil)))) z_nil))))))))) (s_cons (s_set (i := 3) rfl S.nd (by first | exact Or.inl rfl | exact Or.inr rfl) (l_o (w_bin o_add (w_gr (pv 3)) (r_ofV (w_f (w_lst (z_cons (w_tup (z_cons (w_tup (z_nil)) (z_cons (w_tup (z_cons (w_tup (z_cons (w_str) (z_cons (w_int) (z_cons (w_int) z_nil)))) (z_cons (w_tup (z_cons (w_str) (z_cons (w_int) (z_cons (w_int) z_nil)))) z_nil))) (z_cons (w_tup (z_nil)) z_nil)))) (z_cons (w_tup (z_cons (w_tup (z_nil)) (z_cons (w_tup (z_cons (w_tup (z_cons (w_str) (z_cons (w_int) (z_cons (w_int) z_nil)))) (z_cons (w_tup (z_cons (w_str) (z_cons (w_int) (z_cons (w_int) z_nil)))) z_nil))) (z_cons (w_tup (z_nil)) z_nil)))) z_nil)))))))) (s_cons (s_set (i := 3) rfl S.nd (by first | exact Or.inl rfl | exact Or.inr rfl) (l_o (w_bin o_add (w_gr (pv 3)) (r_ofV (w_f (w_lst (z_cons (w_tup (z_cons (w_tup (z_nil)) (z_cons (w_tup (z_cons (w_gv (pv 2)) z_nil)) (z_cons (w_tup (z_nil)) z_nil)))) z_nil))))))) (s_cons (s_set (i := 3) rfl S.nd (by first | exact Or.inl rfl | exact Or.inr rfl) (l_o (w_bin o_add (w_gr (pv 3)) (r_ofV (w_f (w_lst (z_cons (w_tup (z_cons (w_tup (z_nil)) (z_cons (w_tup (z_nil)) (z_cons (w_tup (z_cons (w_tup (z_cons (w_str) (z_cons (w_str) (z_cons (w_str) (z_cons (w_int) (z_cons (w_int) z_nil)))))) z_nil)) z_nil)))) (z_cons (w_tup (z_cons (w_tup (z_nil)) (z_cons (w_tup (z_nil)) (z_cons (w_tup (z_cons (w_tup (z_cons (w_str) (z_cons (w_str) (z_cons (w_str) (z_cons (w_int) (z_cons (w_int) z_nil)))))) z_nil)) z_nil)))) z_nil)))))))) (s_cons (s_set (i := 3) rfl S.nd (by first | exact Or.inl rfl | exact Or.inr rfl) (l_o (w_bin o_add (w_gr (pv 3)) (r_ofV (w_f (w_lst (z_cons (w_tup (z_cons (w_tup (z_nil)) (z_cons (w_tup (z_nil)) (z_cons (w_tup (z_cons (w_gv (pv 1)) z_nil)) z_nil)))) z_nil))))))) (s_cons (s_set (i := 3) rfl S.nd (by first | exact Or.inl rfl | exact Or.inr rfl) (l_o (w_bin o_add (w_gr (pv 3)) (r_ofV (w_f (w_lst (z_cons (w_tup (z_cons (w_tup (z_cons (w_gv (pv 1)) z_nil)) (z_cons (w_tup (z_nil)) (z_cons (w_tup (z_nil)) z_nil)))) (z_cons (w_tup (z_cons (w_tup (z_nil)) (z_cons (w_tup (z_cons (w_gv (pv 0)) z_nil)) (z_cons (w_tup (z_nil)) z_nil)))) (z_cons (w_tup (z_cons (w_tup (z_nil)) (z_cons (w_tup (z_cons (w_tup (z_cons (w_str) (z_cons (w_f (w_bin o_pow (r_ofV (w_int)) (r_ofV (w_int)))) (z_cons (w_f (w_bin o_pow (r_ofV (w_int)) (r_ofV (w_int)))) z_nil)))) z_nil)) (z_cons (w_tup (z_nil)) z_nil)))) z_nil))))))))) (s_cons (s_set (i := 3) rfl S.nd (by first | exact Or.inl rfl | exact Or.inr rfl) (l_o (w_bin o_add (w_gr (pv 3)) (r_ofV (w_f (w_lst (z_cons (w_tup (z_cons (w_tup (z_nil)) (z_cons (w_tup (z_cons (w_tup (z_cons (w_str) (z_cons (w_str) (z_cons (w_int) z_nil)))) z_nil)) (z_cons (w_tup (z_nil)) z_nil)))) z_nil))))))) (s_cons (s_set (i := 4) rfl S.nd (by first | exact Or.inl rfl | exact Or.inr rfl) (e_oV (l_v (w_tup (z_nil))))) (s_cons (s_for PassesOwn.never (l_i (j_rng1 (by rfl) M.z_range (q_cons (r_ofV (w_int)) q_nil))) (g_name (i := 5) rfl S.nd (by first | exact Or.inl rfl | exact Or.inr rfl)) (s_one (s_set (i := 4) rfl S.nd (by first | exact Or.inl rfl | exact Or.inr rfl) (e_oV (l_v (w_tup (z_cons (w_gv (pv 4)) (z_cons (w_tup (z_nil)) (z_cons (w_tup (z_nil)) z_nil))))))))) (s_cons (s_set (i := 3) rfl S.nd (by first | exact Or.inl rfl | exact Or.inr rfl) (l_o (w_bin o_add (w_gr (pv 3)) (r_ofV (w_f (w_lst (z_cons (w_gv (pv 4)) (z_cons (w_tup (z_cons (w_tup (z_nil)) (z_cons (w_tup (z_cons (w_tup (z_cons (w_str) (z_cons (w_int) (z_cons (w_int) z_nil)))) z_nil)) (z_cons (w_tup (z_nil)) z_nil)))) (z_cons (w_tup (z_cons (w_tup (z_nil)) (z_cons (w_tup (z_cons (w_tup (z_cons (w_str) (z_cons (w_int) (z_cons (w_int) (z_cons (w_int) z_nil))))) z_nil)) (z_cons (w_tup (z_nil)) z_nil)))) (z_cons (w_tup (z_cons (w_tup (z_nil)) (z_cons (w_tup (z_cons (w_tup (z_cons (w_non) (z_cons (w_int) (z_cons (w_int) z_nil)))) z_nil)) (z_cons (w_tup (z_nil)) z_nil)))) z_nil)))))))))) (s_cons (s_set (i := 3) rfl S.nd (by first | exact Or.inl rfl | exact Or.inr rfl) (l_o (w_bin o_add (w_gr (pv 3)) (r_ofV (w_f (w_lst (z_cons (w_tup (z_cons (w_tup (z_nil)) (z_cons (w_tup (z_cons (w_tup (z_nil)) z_nil)) (z_cons (w_tup (z_nil)) z_nil)))) z_nil))))))) (s_one (s_ret (e_oMove (pv 3)))))))))))))))))))))))))))
theorem d18 (M : MF K mg fa fd cl sa) (L : AK P w K mg base fa fd cl n) : FnOk P w K mg base CX0 (2 * n + 1 + 1) (fa 18) (fd 18) [] (spOf K (C (n + 1) 18)) := by
  rw [C_18]
  exact def_ok M.f18 s18 rfl fun cdv A outer s H E hr => p18 M L (fa 18) cdv A outer s H E hr
theorem s19 : FnScope ["_law_urn", "_law_part", "_law_k", "_law_some"] ["_law_urn", "_law_part"] (defScope t19) := ⟨rfl, rfl, rfl, by decide +kernel, rfl, by decide +kernel, by decide +kernel⟩
theorem p19 (M : MF K mg fa fd cl sa) (L : AK P w K mg base fa fd cl n) (f : Addr) (cdv : Value) (A : Around) (outer : List Env) (s : Shared) (H : Hp) (E : XK) (hr2 : Room (2 * n + 1) (A.deeper (envOfC "_law_bent" (defScope t19) s.heap.objs.size f cdv))) : PSs (cxOf CX0 P w K mg base ["_law_urn", "_law_part", "_law_k", "_law_some"] "_law_bent" (defScope t19) f cdv A outer s H E).nox (defBody t19) (tS 2 K (m19 (C n))) :=
  have S := s19
  have hr := hr2.mono (Nat.le_succ (2 * n))
  have hu := room_u hr
  s_cons (s_if (t_of_w (w_and (l_b (b_tru (r_ofV (w_isi .tuple (w_gr (pv 1)) (by rfl) M.z_isinstance (by boot_by_name) (by rfl) M.z_tuple (by boot_by_name))))) (w_and (l_b (b_cmp (o_ne hu) (w_gr (pv 1)) (r_ofV (w_tup (z_nil))))) (w_and1 (t_cmp (o_gt hu) (e_rO (e_call L.a8 hr (by rfl) M.g8 M.f8.kp M.b8 (as_cons (r_r (pv 0)) (as_cons (r_v (l_v (w_int))) as_nil)))) (e_rV (l_v (w_int)))))))) (s_cons (s_set (i := 2) rfl S.nd (by first | exact Or.inl rfl | exact Or.inr rfl) (e_oV (e_frz (e_call L.a8 hr (by rfl) M.g8 M.f8.kp M.b8 (as_cons (r_r (pv 0)) (as_cons (r_o (l_o (w_callB (c_lenW) (by rfl) M.z_len (by boot_by_name) (q_cons (w_gr (pv 1)) q_nil)))) as_nil)))))) (s_one (s_ret (e_bin o_add (e_rO (e_bin o_add (e_rO (l_o (w_sl (w_gr (pv 1)) n_no (n_so (w_gv (pv 2)))))) (e_rV (e_tup (a_cons (e_rV (e_frz (e_call L.a19 hr (by rfl) M.g19 M.f19.kp M.b19 (as_cons (r_r (pv 0)) (as_cons (r_o (l_o (w_ix hu (w_gr (pv 1)) (w_gr (pv 2))))) as_nil))))) a_nil) (le_line rfl))))) (e_rO (l_o (w_sl (w_gr (pv 1)) (n_so (w_f (w_bin o_add (w_gr (pv 2)) (r_ofV (w_int))))) n_no))))))) (s_nil)) (s_cons (s_set (i := 3) rfl S.nd (by first | exact Or.inl rfl | exact Or.inr rfl) (e_oV (l_v (w_f (w_lst (z_cons (w_str) (z_cons (w_str) (z_cons (w_str) (z_cons (w_str) (z_cons (w_str) (z_cons (w_int) (z_cons (w_int) (z_cons (w_int) (z_cons (w_f (w_neg (r_ofV (w_int)))) (z_cons (w_non) (z_cons (w_bl) (z_cons (w_bl) (z_cons (w_tup (z_nil)) (z_cons (w_f (w_lst (z_nil))) (z_cons (w_tup (z_cons (w_str) (z_cons (w_int) (z_cons (w_int) z_nil)))) (z_cons (w_str) z_nil))))))))))))))))))))) (s_cons (s_if (l_b (b_of_w (b_and (b_tru (r_ofV (w_isi .tuple (w_gr (pv 1)) (by rfl) M.z_isinstance (by boot_by_name) (by rfl) M.z_tuple (by boot_by_name)))) (b_and1 (b_cmp (o_ne hu) (w_gr (pv 1)) (r_ofV (w_tup (z_nil)))))))) (s_one (s_set (i := 3) rfl S.nd (by first | exact Or.inl rfl | exact Or.inr rfl) (e_oV (l_v (w_f (w_bin o_add (w_gr (pv 3)) (r_ofV (w_f (w_lst (z_cons (w_f (w_callT (c_listW rfl) (by rfl) M.z_list (by boot_by_name) (q_cons (w_gr (pv 1)) q_nil))) (z_cons (w_f (w_revT (w_gr (pv 1)))) (z_cons (w_f (w_sl (w_gr (pv 1)) (n_so (w_int)) n_no)) (z_cons (w_f (w_sl (w_gr (pv 1)) n_no (n_so (w_f (w_neg (r_ofV (w_int))))))) (z_cons (w_f (w_bin o_add (w_gr (pv 1)) (r_ofV (w_f (w_sl (w_gr (pv 1)) (n_so (w_f (w_neg (r_ofV (w_int))))) n_no))))) (z_cons (w_f (w_bin o_add (r_ofV (w_f (w_sl (w_gr (pv 1)) n_no (n_so (w_int))))) (w_gr (pv 1)))) (z_cons (w_f (w_ix hu (w_gr (pv 1)) (r_ofV (w_int)))) z_nil)))))))))))))))) (s_nil)) (s_one (s_ret (e_call L.a10 hr (by rfl) M.g10 M.f10.kp M.b10 (as_cons (r_r (pv 0)) (as_cons (r_r (pv 3)) as_nil)))))))
theorem d19 (M : MF K mg fa fd cl sa) (L : AK P w K mg base fa fd cl n) : FnOk P w K mg base CX0 (2 * n + 1 + 1) (fa 19) (fd 19) ["_law_urn", "_law_part"] (spOf K (C (n + 1) 19)) := by
  rw [C_19]
  exact def_ok M.f19 s19 rfl fun cdv A outer s H E hr => p19 M L (fa 19) cdv A outer s H E hr
theorem s20 : FnScope ["_law_urn", "_law_some", "_law_turn", "_law_part", "_law_lap", "_law_was", "_law_goal"] ["_law_urn"] (defScope t20) := ⟨rfl, rfl, rfl, by decide +kernel, rfl, by decide +kernel, by decide +kernel⟩
theorem p20 (M : MF K mg fa fd cl sa) (L : AK P w K mg base fa fd cl n) (f : Addr) (cdv : Value) (A : Around) (outer : List Env) (s : Shared) (H : Hp) (E : XK) (hr2 : Room (2 * n + 1) (A.deeper (envOfC "_law_right" (defScope t20) s.heap.objs.size f cdv))) (gd : A.guards = some []) : PSs (cxOf CX0 P w K mg base ["_law_urn", "_law_some", "_law_turn", "_law_part", "_law_lap", "_law_was", "_law_goal"] "_law_right" (defScope t20) f cdv A outer s H E).nox (defBody t20) (tS 1 K (m20 (C n))) :=
  have S := s20
  have hr := hr2.mono (Nat.le_succ (2 * n))
  have hu := room_u hr
  s_cons (s_set (i := 1) rfl S.nd (by first | exact Or.inl rfl | exact Or.inr rfl) (l_o (w_call0 L.a18 hr (by rfl) M.g18 M.f18.kp M.b18))) (s_cons (s_for PassesOwn.never (l_i (j_rng1 (by rfl) M.z_range (q_cons (r_ofV (w_int)) q_nil))) (g_name (i := 2) rfl S.nd (by first | exact Or.inl rfl | exact Or.inr rfl)) (s_cons (s_set (i := 3) rfl S.nd (by first | exact Or.inl rfl | exact Or.inr rfl) (e_oV (e_frz (e_call L.a14 hr (by rfl) M.g14 M.f14.kp M.b14 (as_cons (r_r (pv 0)) (as_cons (r_o (e_bin o_add (e_rV (l_v (w_int))) (e_rO (e_call L.a8 hr (by rfl) M.g8 M.f8.kp M.b8 (as_cons (r_r (pv 0)) (as_cons (r_v (l_v (w_int))) as_nil)))))) (as_cons (r_v (l_v (w_int))) as_nil))))))) (s_cons (s_for PassesOwn.never (i_rng1 (by rfl) M.z_range (a_cons (e_rO (e_call L.a8 hr (by rfl) M.g8 M.f8.kp M.b8 (as_cons (r_r (pv 0)) (as_cons (r_v (l_v (w_int))) as_nil)))) a_nil)) (g_name (i := 4) rfl S.nd (by first | exact Or.inl rfl | exact Or.inr rfl)) (s_one (s_set (i := 3) rfl S.nd (by first | exact Or.inl rfl | exact Or.inr rfl) (e_oV (e_frz (e_call L.a19 hr (by rfl) M.g19 M.f19.kp M.b19 (as_cons (r_r (pv 0)) (as_cons (r_r (pv 3)) as_nil)))))))) (s_one (s_exp (e_app (pv 1) (e_vVar (pv 3)))))))) (s_cons (s_for PassesOwn.never (i_val (e_vVar (pv 1))) (g_name (i := 3) rfl S.nd (by first | exact Or.inl rfl | exact Or.inr rfl)) (s_cons (s_par2 (i := 5) (j := 6) rfl rfl S.nd (ao_cons (e_oV (l_v (w_f (w_callB (c_repr rfl gd hu) (by rfl) M.z_repr (by boot_by_name) (q_cons (w_gr (pv 3)) q_nil))))) (ao_cons (e_oV (l_v (w_f (w_call L.a17 hr (by rfl) M.g17 M.f17.kp M.b17 (z_cons (w_gv (pv 3)) z_nil))))) (ao_nil)))) (s_one (s_if (l_b (b_of_w (b_or (b_not (b_tru (r_ofV (w_f (w_call L.a11 hr (by rfl) M.g11 M.f11.kp M.b11 (z_cons (w_f (w_lst (z_cons (w_f (w_call L.a6 hr (by rfl) M.g6 M.f6.kp M.b6 (z_cons (w_gv (pv 3)) z_nil))) (z_cons (w_f (w_callK L.a6 hr (by rfl) M.g6 M.f6.kp M.x6_0 (y_cons (w_gv (pv 3)) y_nil))) z_nil)))) (z_cons (w_f (w_lst (z_cons (w_gv (pv 6)) (z_cons (w_gv (pv 6)) z_nil)))) z_nil))))))) (b_or1 (b_cmp (o_ne hu) (r_ofV (w_f (w_callB (c_repr rfl gd hu) (by rfl) M.z_repr (by boot_by_name) (q_cons (w_gr (pv 3)) q_nil)))) (w_gr (pv 5))))))) (s_one (s_ret (l_o (w_v (w_bl))))) (s_nil))))) (s_one (s_ret (l_o (w_v (w_bl)))))))
theorem d20 (M : MF K mg fa fd cl sa) (L : AK P w K mg base fa fd cl n) : FnG P w K mg base (2 * n + 1 + 1) (fa 20) (fd 20) ["_law_urn"] (spOf K (C (n + 1) 20)) := by
  rw [C_20]
  exact def_okG M.f20 s20 rfl fun cdv A outer s H E hr gd => p20 M L (fa 20) cdv A outer s H E hr gd
theorem s21 : FnScope ["_law_script", "_law_cells_here", "_law_k", "_law_urn", "_law_turn"] ["_law_script"] (defScope t21) := ⟨rfl, rfl, rfl, by decide +kernel, rfl, by decide +kernel, by decide +kernel⟩
theorem p21 (M : MF K mg fa fd cl sa) (L : AK P w K mg base fa fd cl n) (f : Addr) (cdv : Value) (A : Around) (outer : List Env) (s : Shared) (H : Hp) (E : XK) (hr2 : Room (2 * n + 1) (A.deeper (envOfC "law" (defScope t21) s.heap.objs.size f cdv))) (gd : A.guards = some []) : PSs (cxOf CX0 P w K mg base ["_law_script", "_law_cells_here", "_law_k", "_law_urn", "_law_turn"] "law" (defScope t21) f cdv A outer s H E).nox (defBody t21) (tS 1 K (m21 (C n))) :=
  have S := s21
  have hr := hr2.mono (Nat.le_succ (2 * n))
  have hu := room_u hr
  s_cons (s_set (i := 1) rfl S.nd (by first | exact Or.inl rfl | exact Or.inr rfl) (e_call L.a9 hr (by rfl) M.g9 M.f9.kp M.b9 (as_cons (r_r (pv 0)) (as_cons (r_v (e_int)) as_nil)))) (s_cons (s_for PassesOwn.never (i_rng1 (by rfl) M.z_range (a_cons (e_rO (e_callB (c_len) (by rfl) M.z_len (by boot_by_name) (a_cons (e_rB (pv 1)) a_nil))) a_nil)) (g_name (i := 2) rfl S.nd (by first | exact Or.inl rfl | exact Or.inr rfl)) (s_cons (s_set (i := 3) rfl S.nd (by first | exact Or.inl rfl | exact Or.inr rfl) (e_call L.a7 hr (by rfl) M.g7 M.f7.kp M.b7 (as_cons (r_r (pv 1)) (as_cons (r_r (pv 2)) as_nil)))) (s_one (s_if (t_not (t_tru (e_rO (e_callB (c_all rfl) (by rfl) M.z_all (by boot_by_name) (a_cons (e_rO (e_lc (own := [("_law_turn", 4)]) S.nd (i_rng1 (by rfl) M.z_range (a_cons (e_rV (e_int)) a_nil)) (blkOk_by (by kernel_rfl)) (fun _ _ _ _ _ => gw_name (i := 4) rfl S.nd (by first | exact Or.inl rfl | exact Or.inr rfl)) (fun _ _ _ _ _ => ts_nil) (fun _ _ _ _ _ => e_frz (e_callG L.a20 gd hr (by rfl) M.g20 M.f20.kp M.b20 (as_cons (r_r (pv 3)) as_nil))))) a_nil))))) (s_one (s_ret (e_oV (e_bl)))) (s_nil))))) (s_one (s_ret (e_oV (e_bl)))))
theorem d21 (M : MF K mg fa fd cl sa) (L : AK P w K mg base fa fd cl n) : FnG P w K mg base (2 * n + 1 + 1) (fa 21) (fd 21) ["_law_script"] (spOf K (C (n + 1) 21)) := by
  rw [C_21]
  exact def_okG M.f21 s21 rfl fun cdv A outer s H E hr gd => p21 M L (fa 21) cdv A outer s H E hr gd
theorem all_ok (M : MF K mg fa fd cl sa) : ∀ n, AK P w K mg base fa fd cl n
  | 0 => ⟨fn_none, fn_none, fn_none, fn_none, fn_none, fn_none, fn_none, fn_none, fn_none, fn_none, fn_none, fn_none, fn_none, fn_none, fn_none, fn_none, fn_none, fn_none, fn_none, fn_none, fn_noneG, fn_noneG⟩
  | n + 1 => ⟨d0 M (all_ok M n), d1 M (all_ok M n), d2 M (all_ok M n), d3 M (all_ok M n), d4 M (all_ok M n), d5 M (all_ok M n), d6 M (all_ok M n), d7 M (all_ok M n), d8 M (all_ok M n), d9 M (all_ok M n), d10 M (all_ok M n), d11 M (all_ok M n), d12 M (all_ok M n), d13 M (all_ok M n), d14 M (all_ok M n), d15 M (all_ok M n), d16 M (all_ok M n), d17 M (all_ok M n), d18 M (all_ok M n), d19 M (all_ok M n), d20 M (all_ok M n), d21 M (all_ok M n)⟩
set_option maxHeartbeats 0 in
theorem all_mk {l : PySem.W.OpenLaw} {w : World} {K : PySem.W.Frag} {h : Heap} {mg : Str → Option Value} {fl : Addr} {n : Nat} (X : K.In h) (G : h.Ns mainGlobals mg) (hfa : mg "law" = some (.ref fl))
    {f0 : Addr} {od0 an0 : Option Addr} {sl0 : Array (Option Value)} {oc0 kV0 dc0 pm0 cd0 ct0 : Value} {f1 : Addr} {od1 an1 : Option Addr} {sl1 : Array (Option Value)} {oc1 kV1 dc1 pm1 cd1 ct1 : Value} {f2 : Addr} {od2 an2 : Option Addr} {sl2 : Array (Option Value)} {oc2 kV2 dc2 pm2 cd2 ct2 : Value} {f3 : Addr} {od3 an3 : Option Addr} {sl3 : Array (Option Value)} {oc3 kV3 dc3 pm3 cd3 ct3 : Value} {f4 : Addr} {od4 an4 : Option Addr} {sl4 : Array (Option Value)} {oc4 kV4 dc4 pm4 cd4 ct4 : Value} {f5 : Addr} {od5 an5 : Option Addr} {sl5 : Array (Option Value)} {oc5 kV5 dc5 pm5 cd5 ct5 : Value} {f6 : Addr} {od6 an6 : Option Addr} {sl6 : Array (Option Value)} {oc6 kV6 dc6 pm6 cd6 ct6 : Value} {f7 : Addr} {od7 an7 : Option Addr} {sl7 : Array (Option Value)} {oc7 kV7 dc7 pm7 cd7 ct7 : Value} {f8 : Addr} {od8 an8 : Option Addr} {sl8 : Array (Option Value)} {oc8 kV8 dc8 pm8 cd8 ct8 : Value} {f9 : Addr} {od9 an9 : Option Addr} {sl9 : Array (Option Value)} {oc9 kV9 dc9 pm9 cd9 ct9 : Value} {f10 : Addr} {od10 an10 : Option Addr} {sl10 : Array (Option Value)} {oc10 kV10 dc10 pm10 cd10 ct10 : Value} {f11 : Addr} {od11 an11 : Option Addr} {sl11 : Array (Option Value)} {oc11 kV11 dc11 pm11 cd11 ct11 : Value} {f12 : Addr} {od12 an12 : Option Addr} {sl12 : Array (Option Value)} {oc12 kV12 dc12 pm12 cd12 ct12 : Value} {f13 : Addr} {od13 an13 : Option Addr} {sl13 : Array (Option Value)} {oc13 kV13 dc13 pm13 cd13 ct13 : Value} {f14 : Addr} {od14 an14 : Option Addr} {sl14 : Array (Option Value)} {oc14 kV14 dc14 pm14 cd14 ct14 : Value} {f15 : Addr} {od15 an15 : Option Addr} {sl15 : Array (Option Value)} {oc15 kV15 dc15 pm15 cd15 ct15 : Value} {f16 : Addr} {od16 an16 : Option Addr} {sl16 : Array (Option Value)} {oc16 kV16 dc16 pm16 cd16 ct16 : Value} {f17 : Addr} {od17 an17 : Option Addr} {sl17 : Array (Option Value)} {oc17 kV17 dc17 pm17 cd17 ct17 : Value} {f18 : Addr} {od18 an18 : Option Addr} {sl18 : Array (Option Value)} {oc18 kV18 dc18 pm18 cd18 ct18 : Value} {f19 : Addr} {od19 an19 : Option Addr} {sl19 : Array (Option Value)} {oc19 kV19 dc19 pm19 cd19 ct19 : Value} {f20 : Addr} {od20 an20 : Option Addr} {sl20 : Array (Option Value)} {oc20 kV20 dc20 pm20 cd20 ct20 : Value} {f21 : Addr} {od21 an21 : Option Addr} {sl21 : Array (Option Value)} {oc21 kV21 dc21 pm21 cd21 ct21 : Value}
    (a0 : PySem.W.nsIn K mainGlobals "is_tuple" = some (some (.ref f0)))
    (l0 : K.lookup f0 = some ⟨oc0, od0, .func (PySem.W.fnOf "is_tuple" "is_tuple" (defArgs t0) (defBody t0) (defScope t0) .none kV0 dc0 pm0 an0 cd0 ct0), sl0⟩) (c0 : PySem.W.codeIn K cd0 "is_tuple" = true) (k0 : PySem.W.keepIn K (.ref f0) = true)
    (a1 : PySem.W.nsIn K mainGlobals "is_number" = some (some (.ref f1)))
    (l1 : K.lookup f1 = some ⟨oc1, od1, .func (PySem.W.fnOf "is_number" "is_number" (defArgs t1) (defBody t1) (defScope t1) .none kV1 dc1 pm1 an1 cd1 ct1), sl1⟩) (c1 : PySem.W.codeIn K cd1 "is_number" = true) (k1 : PySem.W.keepIn K (.ref f1) = true)
    (a2 : PySem.W.nsIn K mainGlobals "is_name" = some (some (.ref f2)))
    (l2 : K.lookup f2 = some ⟨oc2, od2, .func (PySem.W.fnOf "is_name" "is_name" (defArgs t2) (defBody t2) (defScope t2) .none kV2 dc2 pm2 an2 cd2 ct2), sl2⟩) (c2 : PySem.W.codeIn K cd2 "is_name" = true) (k2 : PySem.W.keepIn K (.ref f2) = true)
    (a3 : PySem.W.nsIn K mainGlobals "rises" = some (some (.ref f3)))
    (l3 : K.lookup f3 = some ⟨oc3, od3, .func (PySem.W.fnOf "rises" "rises" (defArgs t3) (defBody t3) (defScope t3) .none kV3 dc3 pm3 an3 cd3 ct3), sl3⟩) (c3 : PySem.W.codeIn K cd3 "rises" = true) (k3 : PySem.W.keepIn K (.ref f3) = true)
    (a4 : PySem.W.nsIn K mainGlobals "is_entry" = some (some (.ref f4)))
    (l4 : K.lookup f4 = some ⟨oc4, od4, .func (PySem.W.fnOf "is_entry" "is_entry" (defArgs t4) (defBody t4) (defScope t4) .none kV4 dc4 pm4 an4 cd4 ct4), sl4⟩) (c4 : PySem.W.codeIn K cd4 "is_entry" = true) (k4 : PySem.W.keepIn K (.ref f4) = true)
    (a5 : PySem.W.nsIn K mainGlobals "are_entries" = some (some (.ref f5)))
    (l5 : K.lookup f5 = some ⟨oc5, od5, .func (PySem.W.fnOf "are_entries" "are_entries" (defArgs t5) (defBody t5) (defScope t5) .none kV5 dc5 pm5 an5 cd5 ct5), sl5⟩) (c5 : PySem.W.codeIn K cd5 "are_entries" = true) (k5 : PySem.W.keepIn K (.ref f5) = true)
    (a6 : PySem.W.nsIn K mainGlobals "is_book" = some (some (.ref f6)))
    (l6 : K.lookup f6 = some ⟨oc6, od6, .func (PySem.W.fnOf "is_book" "is_book" (defArgs t6) (defBody t6) (defScope t6) .none kV6 dc6 pm6 an6 cd6 ct6), sl6⟩) (c6 : PySem.W.codeIn K cd6 "is_book" = true) (k6 : PySem.W.keepIn K (.ref f6) = true)
    (a7 : PySem.W.nsIn K mainGlobals "_law_box" = some (some (.ref f7)))
    (l7 : K.lookup f7 = some ⟨oc7, od7, .func (PySem.W.fnOf "_law_box" "_law_box" (defArgs t7) (defBody t7) (defScope t7) .none kV7 dc7 pm7 an7 cd7 ct7), sl7⟩) (c7 : PySem.W.codeIn K cd7 "_law_box" = true) (k7 : PySem.W.keepIn K (.ref f7) = true)
    (a8 : PySem.W.nsIn K mainGlobals "_law_take" = some (some (.ref f8)))
    (l8 : K.lookup f8 = some ⟨oc8, od8, .func (PySem.W.fnOf "_law_take" "_law_take" (defArgs t8) (defBody t8) (defScope t8) .none kV8 dc8 pm8 an8 cd8 ct8), sl8⟩) (c8 : PySem.W.codeIn K cd8 "_law_take" = true) (k8 : PySem.W.keepIn K (.ref f8) = true)
    (a9 : PySem.W.nsIn K mainGlobals "_law_cells" = some (some (.ref f9)))
    (l9 : K.lookup f9 = some ⟨oc9, od9, .func (PySem.W.fnOf "_law_cells" "_law_cells" (defArgs t9) (defBody t9) (defScope t9) .none kV9 dc9 pm9 an9 cd9 ct9), sl9⟩) (c9 : PySem.W.codeIn K cd9 "_law_cells" = true) (k9 : PySem.W.keepIn K (.ref f9) = true)
    (a10 : PySem.W.nsIn K mainGlobals "_law_of" = some (some (.ref f10)))
    (l10 : K.lookup f10 = some ⟨oc10, od10, .func (PySem.W.fnOf "_law_of" "_law_of" (defArgs t10) (defBody t10) (defScope t10) .none kV10 dc10 pm10 an10 cd10 ct10), sl10⟩) (c10 : PySem.W.codeIn K cd10 "_law_of" = true) (k10 : PySem.W.keepIn K (.ref f10) = true)
    (a11 : PySem.W.nsIn K mainGlobals "_law_same" = some (some (.ref f11)))
    (l11 : K.lookup f11 = some ⟨oc11, od11, .func (PySem.W.fnOf "_law_same" "_law_same" (defArgs t11) (defBody t11) (defScope t11) .none kV11 dc11 pm11 an11 cd11 ct11), sl11⟩) (c11 : PySem.W.codeIn K cd11 "_law_same" = true) (k11 : PySem.W.keepIn K (.ref f11) = true)
    (a12 : PySem.W.nsIn K mainGlobals "_law_is_nr" = some (some (.ref f12)))
    (l12 : K.lookup f12 = some ⟨oc12, od12, .func (PySem.W.fnOf "_law_is_nr" "_law_is_nr" (defArgs t12) (defBody t12) (defScope t12) .none kV12 dc12 pm12 an12 cd12 ct12), sl12⟩) (c12 : PySem.W.codeIn K cd12 "_law_is_nr" = true) (k12 : PySem.W.keepIn K (.ref f12) = true)
    (a13 : PySem.W.nsIn K mainGlobals "_law_stretch" = some (some (.ref f13)))
    (l13 : K.lookup f13 = some ⟨oc13, od13, .func (PySem.W.fnOf "_law_stretch" "_law_stretch" (defArgs t13) (defBody t13) (defScope t13) .none kV13 dc13 pm13 an13 cd13 ct13), sl13⟩) (c13 : PySem.W.codeIn K cd13 "_law_stretch" = true) (k13 : PySem.W.keepIn K (.ref f13) = true)
    (a14 : PySem.W.nsIn K mainGlobals "_law_tome" = some (some (.ref f14)))
    (l14 : K.lookup f14 = some ⟨oc14, od14, .func (PySem.W.fnOf "_law_tome" "_law_tome" (defArgs t14) (defBody t14) (defScope t14) .none kV14 dc14 pm14 an14 cd14 ct14), sl14⟩) (c14 : PySem.W.codeIn K cd14 "_law_tome" = true) (k14 : PySem.W.keepIn K (.ref f14) = true)
    (a15 : PySem.W.nsIn K mainGlobals "_law_is_word" = some (some (.ref f15)))
    (l15 : K.lookup f15 = some ⟨oc15, od15, .func (PySem.W.fnOf "_law_is_word" "_law_is_word" (defArgs t15) (defBody t15) (defScope t15) .none kV15 dc15 pm15 an15 cd15 ct15), sl15⟩) (c15 : PySem.W.codeIn K cd15 "_law_is_word" = true) (k15 : PySem.W.keepIn K (.ref f15) = true)
    (a16 : PySem.W.nsIn K mainGlobals "_law_are_lines" = some (some (.ref f16)))
    (l16 : K.lookup f16 = some ⟨oc16, od16, .func (PySem.W.fnOf "_law_are_lines" "_law_are_lines" (defArgs t16) (defBody t16) (defScope t16) .none kV16 dc16 pm16 an16 cd16 ct16), sl16⟩) (c16 : PySem.W.codeIn K cd16 "_law_are_lines" = true) (k16 : PySem.W.keepIn K (.ref f16) = true)
    (a17 : PySem.W.nsIn K mainGlobals "_law_is_tome" = some (some (.ref f17)))
    (l17 : K.lookup f17 = some ⟨oc17, od17, .func (PySem.W.fnOf "_law_is_tome" "_law_is_tome" (defArgs t17) (defBody t17) (defScope t17) .none kV17 dc17 pm17 an17 cd17 ct17), sl17⟩) (c17 : PySem.W.codeIn K cd17 "_law_is_tome" = true) (k17 : PySem.W.keepIn K (.ref f17) = true)
    (a18 : PySem.W.nsIn K mainGlobals "_law_kinds" = some (some (.ref f18)))
    (l18 : K.lookup f18 = some ⟨oc18, od18, .func (PySem.W.fnOf "_law_kinds" "_law_kinds" (defArgs t18) (defBody t18) (defScope t18) .none kV18 dc18 pm18 an18 cd18 ct18), sl18⟩) (c18 : PySem.W.codeIn K cd18 "_law_kinds" = true) (k18 : PySem.W.keepIn K (.ref f18) = true)
    (a19 : PySem.W.nsIn K mainGlobals "_law_bent" = some (some (.ref f19)))
    (l19 : K.lookup f19 = some ⟨oc19, od19, .func (PySem.W.fnOf "_law_bent" "_law_bent" (defArgs t19) (defBody t19) (defScope t19) .none kV19 dc19 pm19 an19 cd19 ct19), sl19⟩) (c19 : PySem.W.codeIn K cd19 "_law_bent" = true) (k19 : PySem.W.keepIn K (.ref f19) = true)
    (a20 : PySem.W.nsIn K mainGlobals "_law_right" = some (some (.ref f20)))
    (l20 : K.lookup f20 = some ⟨oc20, od20, .func (PySem.W.fnOf "_law_right" "_law_right" (defArgs t20) (defBody t20) (defScope t20) .none kV20 dc20 pm20 an20 cd20 ct20), sl20⟩) (c20 : PySem.W.codeIn K cd20 "_law_right" = true) (k20 : PySem.W.keepIn K (.ref f20) = true)
    (a21 : PySem.W.nsIn K mainGlobals "law" = some (some (.ref f21)))
    (l21 : K.lookup f21 = some ⟨oc21, od21, .func (PySem.W.fnOf "law" "law" (defArgs t21) (defBody t21) (defScope t21) .none kV21 dc21 pm21 an21 cd21 ct21), sl21⟩) (c21 : PySem.W.codeIn K cd21 "law" = true) (k21 : PySem.W.keepIn K (.ref f21) = true)
    (z_abs : PySem.W.nsIn K mainGlobals "abs" = some none)
    (z_all : PySem.W.nsIn K mainGlobals "all" = some none)
    (z_bool : PySem.W.nsIn K mainGlobals "bool" = some none)
    (z_enumerate : PySem.W.nsIn K mainGlobals "enumerate" = some none)
    (z_int : PySem.W.nsIn K mainGlobals "int" = some none)
    (z_isinstance : PySem.W.nsIn K mainGlobals "isinstance" = some none)
    (z_len : PySem.W.nsIn K mainGlobals "len" = some none)
    (z_list : PySem.W.nsIn K mainGlobals "list" = some none)
    (z_range : PySem.W.nsIn K mainGlobals "range" = some none)
    (z_repr : PySem.W.nsIn K mainGlobals "repr" = some none)
    (z_set : PySem.W.nsIn K mainGlobals "set" = some none)
    (z_sorted : PySem.W.nsIn K mainGlobals "sorted" = some none)
    (z_str : PySem.W.nsIn K mainGlobals "str" = some none)
    (z_tuple : PySem.W.nsIn K mainGlobals "tuple" = some none)
    (z_zip : PySem.W.nsIn K mainGlobals "zip" = some none)
    {tq_ABSENCE : Tok} (q_ABSENCE : PySem.W.nsIn K mainGlobals "ABSENCE" = some (some (.int 3 tq_ABSENCE)))
    {tq_DEPUTYSHIP : Tok} (q_DEPUTYSHIP : PySem.W.nsIn K mainGlobals "DEPUTYSHIP" = some (some (.int 5 tq_DEPUTYSHIP)))
    {tq_HOLDING : Tok} (q_HOLDING : PySem.W.nsIn K mainGlobals "HOLDING" = some (some (.int 4 tq_HOLDING)))
    {tq_LETTERS : Tok} (q_LETTERS : PySem.W.nsIn K mainGlobals "LETTERS" = some (some (.str "abcdefghijklmnopqrstuvwxyz" tq_LETTERS)))
    {tq_LONGEST : Tok} (q_LONGEST : PySem.W.nsIn K mainGlobals "LONGEST" = some (some (.int 8 tq_LONGEST)))
    {tq_TRIPLE : Tok} (q_TRIPLE : PySem.W.nsIn K mainGlobals "TRIPLE" = some (some (.int 3 tq_TRIPLE)))
    : ∃ fd : FuncData, (∀ (s : Shared) (v : Value), BindsTo s fd ⟨[v], []⟩ [("_law_script", v)]) ∧ ∀ base : Heap, K.In base → base.Ns mainGlobals mg → FnG l.prog w K mg base (2 * n) fl fd ["_law_script"] (spOf K (C n 21)) := by
  have e := hfa.symm.trans (PySem.W.mg_of X G a21)
  cases e
  have F0 := fun_mk (st := t0) l0 c0 k0
  have F1 := fun_mk (st := t1) l1 c1 k1
  have F2 := fun_mk (st := t2) l2 c2 k2
  have F3 := fun_mk (st := t3) l3 c3 k3
  have F4 := fun_mk (st := t4) l4 c4 k4
  have F5 := fun_mk (st := t5) l5 c5 k5
  have F6 := fun_mk (st := t6) l6 c6 k6
  have F7 := fun_mk (st := t7) l7 c7 k7
  have F8 := fun_mk (st := t8) l8 c8 k8
  have F9 := fun_mk (st := t9) l9 c9 k9
  have F10 := fun_mk (st := t10) l10 c10 k10
  have F11 := fun_mk (st := t11) l11 c11 k11
  have F12 := fun_mk (st := t12) l12 c12 k12
  have F13 := fun_mk (st := t13) l13 c13 k13
  have F14 := fun_mk (st := t14) l14 c14 k14
  have F15 := fun_mk (st := t15) l15 c15 k15
  have F16 := fun_mk (st := t16) l16 c16 k16
  have F17 := fun_mk (st := t17) l17 c17 k17
  have F18 := fun_mk (st := t18) l18 c18 k18
  have F19 := fun_mk (st := t19) l19 c19 k19
  have F20 := fun_mk (st := t20) l20 c20 k20
  have F21 := fun_mk (st := t21) l21 c21 k21
  let fa : Nat → Addr := fun j => [f0, f1, f2, f3, f4, f5, f6, f7, f8, f9, f10, f11, f12, f13, f14, f15, f16, f17, f18, f19, f20, fl].getD j fl
  let fd : Nat → FuncData := fun j => [PySem.W.fnOf "is_tuple" "is_tuple" (defArgs t0) (defBody t0) (defScope t0) .none kV0 dc0 pm0 an0 cd0 ct0, PySem.W.fnOf "is_number" "is_number" (defArgs t1) (defBody t1) (defScope t1) .none kV1 dc1 pm1 an1 cd1 ct1, PySem.W.fnOf "is_name" "is_name" (defArgs t2) (defBody t2) (defScope t2) .none kV2 dc2 pm2 an2 cd2 ct2, PySem.W.fnOf "rises" "rises" (defArgs t3) (defBody t3) (defScope t3) .none kV3 dc3 pm3 an3 cd3 ct3, PySem.W.fnOf "is_entry" "is_entry" (defArgs t4) (defBody t4) (defScope t4) .none kV4 dc4 pm4 an4 cd4 ct4, PySem.W.fnOf "are_entries" "are_entries" (defArgs t5) (defBody t5) (defScope t5) .none kV5 dc5 pm5 an5 cd5 ct5, PySem.W.fnOf "is_book" "is_book" (defArgs t6) (defBody t6) (defScope t6) .none kV6 dc6 pm6 an6 cd6 ct6, PySem.W.fnOf "_law_box" "_law_box" (defArgs t7) (defBody t7) (defScope t7) .none kV7 dc7 pm7 an7 cd7 ct7, PySem.W.fnOf "_law_take" "_law_take" (defArgs t8) (defBody t8) (defScope t8) .none kV8 dc8 pm8 an8 cd8 ct8, PySem.W.fnOf "_law_cells" "_law_cells" (defArgs t9) (defBody t9) (defScope t9) .none kV9 dc9 pm9 an9 cd9 ct9, PySem.W.fnOf "_law_of" "_law_of" (defArgs t10) (defBody t10) (defScope t10) .none kV10 dc10 pm10 an10 cd10 ct10, PySem.W.fnOf "_law_same" "_law_same" (defArgs t11) (defBody t11) (defScope t11) .none kV11 dc11 pm11 an11 cd11 ct11, PySem.W.fnOf "_law_is_nr" "_law_is_nr" (defArgs t12) (defBody t12) (defScope t12) .none kV12 dc12 pm12 an12 cd12 ct12, PySem.W.fnOf "_law_stretch" "_law_stretch" (defArgs t13) (defBody t13) (defScope t13) .none kV13 dc13 pm13 an13 cd13 ct13, PySem.W.fnOf "_law_tome" "_law_tome" (defArgs t14) (defBody t14) (defScope t14) .none kV14 dc14 pm14 an14 cd14 ct14, PySem.W.fnOf "_law_is_word" "_law_is_word" (defArgs t15) (defBody t15) (defScope t15) .none kV15 dc15 pm15 an15 cd15 ct15, PySem.W.fnOf "_law_are_lines" "_law_are_lines" (defArgs t16) (defBody t16) (defScope t16) .none kV16 dc16 pm16 an16 cd16 ct16, PySem.W.fnOf "_law_is_tome" "_law_is_tome" (defArgs t17) (defBody t17) (defScope t17) .none kV17 dc17 pm17 an17 cd17 ct17, PySem.W.fnOf "_law_kinds" "_law_kinds" (defArgs t18) (defBody t18) (defScope t18) .none kV18 dc18 pm18 an18 cd18 ct18, PySem.W.fnOf "_law_bent" "_law_bent" (defArgs t19) (defBody t19) (defScope t19) .none kV19 dc19 pm19 an19 cd19 ct19, PySem.W.fnOf "_law_right" "_law_right" (defArgs t20) (defBody t20) (defScope t20) .none kV20 dc20 pm20 an20 cd20 ct20, PySem.W.fnOf "law" "law" (defArgs t21) (defBody t21) (defScope t21) .none kV21 dc21 pm21 an21 cd21 ct21].getD j (PySem.W.fnOf "is_tuple" "is_tuple" (defArgs t0) (defBody t0) (defScope t0) .none kV0 dc0 pm0 an0 cd0 ct0)
  let cl : Nat → Addr := fun j => [].getD j fl
  let sa : Nat → Nat → Addr := fun j i => ([].getD j []).getD i fl
  have MM : MF K mg fa fd cl sa := ⟨F0, PySem.W.mg_of X G a0, F1, PySem.W.mg_of X G a1, F2, PySem.W.mg_of X G a2, F3, PySem.W.mg_of X G a3, F4, PySem.W.mg_of X G a4, F5, PySem.W.mg_of X G a5, F6, PySem.W.mg_of X G a6, F7, PySem.W.mg_of X G a7, F8, PySem.W.mg_of X G a8, F9, PySem.W.mg_of X G a9, F10, PySem.W.mg_of X G a10, F11, PySem.W.mg_of X G a11, F12, PySem.W.mg_of X G a12, F13, PySem.W.mg_of X G a13, F14, PySem.W.mg_of X G a14, F15, PySem.W.mg_of X G a15, F16, PySem.W.mg_of X G a16, F17, PySem.W.mg_of X G a17, F18, PySem.W.mg_of X G a18, F19, PySem.W.mg_of X G a19, F20, PySem.W.mg_of X G a20, F21, PySem.W.mg_of X G a21, PySem.W.mg_none_of X G z_abs, PySem.W.mg_none_of X G z_all, PySem.W.mg_none_of X G z_bool, PySem.W.mg_none_of X G z_enumerate, PySem.W.mg_none_of X G z_int, PySem.W.mg_none_of X G z_isinstance, PySem.W.mg_none_of X G z_len, PySem.W.mg_none_of X G z_list, PySem.W.mg_none_of X G z_range, PySem.W.mg_none_of X G z_repr, PySem.W.mg_none_of X G z_set, PySem.W.mg_none_of X G z_sorted, PySem.W.mg_none_of X G z_str, PySem.W.mg_none_of X G z_tuple, PySem.W.mg_none_of X G z_zip, ⟨_, PySem.W.mg_of X G q_ABSENCE⟩, ⟨_, PySem.W.mg_of X G q_DEPUTYSHIP⟩, ⟨_, PySem.W.mg_of X G q_HOLDING⟩, ⟨_, PySem.W.mg_of X G q_LETTERS⟩, ⟨_, PySem.W.mg_of X G q_LONGEST⟩, ⟨_, PySem.W.mg_of X G q_TRIPLE⟩⟩
  exact ⟨_, fun s v => .of_eq rfl, fun base _ _ => (all_ok (P := l.prog) (w := w) (base := base) MM n).a21⟩
end
end Dv.G
open PySem PySem.W PyProof.Rows
set_option maxHeartbeats 0 in
theorem PySem.Challenge.cw_deputies_k00_books_or_none_holds : PySem.Challenge.rw_deputies_k00_books_or_none.Holds := by
  w_on; o_law; k_head; (case hw => w_witness2)
  k_fill
  refine Dv.walk_ofG (l := PySem.Challenge.rw_deputies_k00_books_or_none) (n := 63) (k := 2 * 30) (x := "_law_script") (sp := fun w => Dv.spOf _ (Dv.G.C 30 21)) rfl (by decide) rfl ⟨rfl, by decide, by decide⟩ (fun w h Y => PySem.W.kIn_of Y) ?F (fun _ _ a ns hl hb hS => Dv.sp_law hS (Dv.G.pure_law ns hl))
  case F =>
    intro w mg fa h KX G hmg
    refine' Dv.G.all_mk KX G hmg ?a0 ?l0 ?c0 ?k0 ?a1 ?l1 ?c1 ?k1 ?a2 ?l2 ?c2 ?k2 ?a3 ?l3 ?c3 ?k3 ?a4 ?l4 ?c4 ?k4 ?a5 ?l5 ?c5 ?k5 ?a6 ?l6 ?c6 ?k6 ?a7 ?l7 ?c7 ?k7 ?a8 ?l8 ?c8 ?k8 ?a9 ?l9 ?c9 ?k9 ?a10 ?l10 ?c10 ?k10 ?a11 ?l11 ?c11 ?k11 ?a12 ?l12 ?c12 ?k12 ?a13 ?l13 ?c13 ?k13 ?a14 ?l14 ?c14 ?k14 ?a15 ?l15 ?c15 ?k15 ?a16 ?l16 ?c16 ?k16 ?a17 ?l17 ?c17 ?k17 ?a18 ?l18 ?c18 ?k18 ?a19 ?l19 ?c19 ?k19 ?a20 ?l20 ?c20 ?k20 ?a21 ?l21 ?c21 ?k21 ?z_abs ?z_all ?z_bool ?z_enumerate ?z_int ?z_isinstance ?z_len ?z_list ?z_range ?z_repr ?z_set ?z_sorted ?z_str ?z_tuple ?z_zip ?q_ABSENCE ?q_DEPUTYSHIP ?q_HOLDING ?q_LETTERS ?q_LONGEST ?q_TRIPLE
    (case a0 => k_is); (case l0 => k_is); (case c0 => k_is); (case k0 => k_is); (case a1 => k_is); (case l1 => k_is); (case c1 => k_is); (case k1 => k_is); (case a2 => k_is); (case l2 => k_is); (case c2 => k_is); (case k2 => k_is); (case a3 => k_is); (case l3 => k_is); (case c3 => k_is); (case k3 => k_is); (case a4 => k_is); (case l4 => k_is); (case c4 => k_is); (case k4 => k_is); (case a5 => k_is); (case l5 => k_is); (case c5 => k_is); (case k5 => k_is); (case a6 => k_is); (case l6 => k_is); (case c6 => k_is); (case k6 => k_is); (case a7 => k_is); (case l7 => k_is); (case c7 => k_is); (case k7 => k_is); (case a8 => k_is); (case l8 => k_is); (case c8 => k_is); (case k8 => k_is); (case a9 => k_is); (case l9 => k_is); (case c9 => k_is); (case k9 => k_is); (case a10 => k_is); (case l10 => k_is); (case c10 => k_is); (case k10 => k_is); (case a11 => k_is); (case l11 => k_is); (case c11 => k_is); (case k11 => k_is); (case a12 => k_is); (case l12 => k_is); (case c12 => k_is); (case k12 => k_is); (case a13 => k_is); (case l13 => k_is); (case c13 => k_is); (case k13 => k_is); (case a14 => k_is); (case l14 => k_is); (case c14 => k_is); (case k14 => k_is); (case a15 => k_is); (case l15 => k_is); (case c15 => k_is); (case k15 => k_is); (case a16 => k_is); (case l16 => k_is); (case c16 => k_is); (case k16 => k_is); (case a17 => k_is); (case l17 => k_is); (case c17 => k_is); (case k17 => k_is); (case a18 => k_is); (case l18 => k_is); (case c18 => k_is); (case k18 => k_is); (case a19 => k_is); (case l19 => k_is); (case c19 => k_is); (case k19 => k_is); (case a20 => k_is); (case l20 => k_is); (case c20 => k_is); (case k20 => k_is); (case a21 => k_is); (case l21 => k_is); (case c21 => k_is); (case k21 => k_is); (case z_abs => k_is); (case z_all => k_is); (case z_bool => k_is); (case z_enumerate => k_is); (case z_int => k_is); (case z_isinstance => k_is); (case z_len => k_is); (case z_list => k_is); (case z_range => k_is); (case z_repr => k_is); (case z_set => k_is); (case z_sorted => k_is); (case z_str => k_is); (case z_tuple => k_is); (case z_zip => k_is); (case q_ABSENCE => k_is); (case q_DEPUTYSHIP => k_is); (case q_HOLDING => k_is); (case q_LETTERS => k_is); (case q_LONGEST => k_is); (case q_TRIPLE => k_is)
