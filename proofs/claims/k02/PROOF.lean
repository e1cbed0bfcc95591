import PyProof.Rows.All
import Wide.All
import OpenK.AllK
import Wide.FinOn
import HandS.ForMost
import HandS.Wide
import KE.DataEq
import KE.DataCmp
import KE.DataIsa
import KE.DataAny
import KE.DataMinMax
import KE.DataFind
import KE.SortData
import HandS.TupAny
import HandS.TupMul
import PyProof.IsInstanceT
import PyProof.IsiTupleOf
import PyProof.Rows.FactsN_isinstance
import HandS.Flow
import HandS.Style
import HandS.Zip
import HandS.Set
import HandS.TupSets
import HandS.SetFor
import HandS.Ends
import HandS.EndBits
import PySem.Challenge.RW_deputies_k02_who_holds_and_who_is_away
set_option Elab.async false
set_option linter.all false
set_option maxRecDepth 100000
/-! Values as trees: what stands in a slot, and how the abstract heap bears it. -/
namespace Dv
open PySem PySem.Spec PyProof.Rows L2

abbrev D := PyData
/-- what a slot holds: a value that never changes any more, or a thing that only this slot knows -/
inductive O where
  | val (d : D)
  | lst (xs : List D)

def O.toD : O → D
  | .val d => d
  | .lst xs => .list xs

/-! ### the heap's part that is frozen -/
theorem same_of_fresh {H : Hp} {p : Addr} {o : HO} (h : H p = none) : Same H (upd H p o) := fun b u e => by
  rw [upd_ne (ne_of_none e h)]
  exact e
theorem same_both {F H : Hp} {p : Addr} {o : HO} (s : Same F H) : Same (upd F p o) (upd H p o) := fun b u e => by
  by_cases hb : b = p
  · subst hb
    rw [upd_same] at e ⊢
    exact e
  · rw [upd_ne hb] at e ⊢
    exact s b u e
theorem same_tup {K : PySem.W.Frag} {F H : Hp} {a : Addr} {xs : List V} (e : Same F H) (h : SqT K F a xs) : SqT K H a xs := by
  rcases h with (h | ⟨o, h⟩) | h
  · exact .inl (.inl (e _ _ h))
  · exact .inl (.inr ⟨o, e _ _ h⟩)
  · exact .inr h
/-- the list at a: in the heap, or one that the module has written -/
def LsK (K : PySem.W.Frag) (H : Hp) (a : Addr) (xs : List V) : Prop := Rd H a (.lst xs) ∨ ∃ (its : Array Value) (n : Nat), K.lookup a = some { cls := .type "list", data := .seq its n } ∧ its.size ≤ sizeLine ∧ Vals xs its.toList
theorem LsK.sq {K : PySem.W.Frag} {H : Hp} {a : Addr} {xs : List V} (h : LsK K H a xs) : SqL K H a xs := by
  rcases h with h | ⟨its, n, h1, h2, h3⟩
  · exact .inl h
  · exact .inr ⟨_, its, n, h1, rfl, rfl, rfl, h2, h3⟩
mutual
/-- the value v stands for the tree d, all of it in F (or in the module's own tuples) -/
inductive Tr (K : PySem.W.Frag) (F : Hp) : V → D → Prop
  | non : Tr K F .non .none
  | bl (b : Bool) : Tr K F (.bl b) (.bool b)
  | int (i : Int) : Tr K F (.int i) (.int i)
  | str (x : Str) : Tr K F (.str x) (.str x)
  | lst {a : Addr} {xs : List V} {ds : List D} : LsK K F a xs → TrAll K F xs ds → Tr K F (.ref a) (.list ds)
  | tup {a : Addr} {xs : List V} {ds : List D} : SqT K F a xs → TrAll K F xs ds → Tr K F (.ref a) (.tuple ds)
inductive TrAll (K : PySem.W.Frag) (F : Hp) : List V → List D → Prop
  | nil : TrAll K F [] []
  | cons {v : V} {vs : List V} {d : D} {ds : List D} : Tr K F v d → TrAll K F vs ds → TrAll K F (v :: vs) (d :: ds)
end
theorem rd_mono {F H : Hp} {a : Addr} {u : HO} (e : Same F H) (h : Rd F a u) : Rd H a u := by
  rcases h with h | ⟨o, h⟩
  · exact .inl (e _ _ h)
  · exact .inr ⟨o, e _ _ h⟩
theorem lsk_mono {K : PySem.W.Frag} {F H : Hp} {a : Addr} {xs : List V} (e : Same F H) (h : LsK K F a xs) : LsK K H a xs := by
  rcases h with h | h
  · exact .inl (rd_mono e h)
  · exact .inr h
mutual
theorem tr_dp {K : PySem.W.Frag} {F : Hp} : ∀ {v : V} (d : D), Tr K F v d → Dp K F v d
  | _, .none, h => by cases h; exact .non
  | _, .bool _, h => by cases h; exact .bl _
  | _, .int _, h => by cases h; exact .int _
  | _, .str _, h => by cases h; exact .str _
  | _, .list ds, h => by
    cases h with
    | lst h1 h2 => exact .lst h1.sq (trAll_dp ds h2)
  | _, .tuple ds, h => by
    cases h with
    | tup h1 h2 => exact .tup h1 (trAll_dp ds h2)
  | _, .dict _, h => by cases h
theorem trAll_dp {K : PySem.W.Frag} {F : Hp} : ∀ {vs : List V} (ds : List D), TrAll K F vs ds → DpAll K F vs ds
  | _, [], h => by cases h; exact .nil
  | _, d :: ds, h => by
    cases h with
    | cons h1 h2 => exact .cons (tr_dp d h1) (trAll_dp ds h2)
end
mutual
theorem dp_mono {K : PySem.W.Frag} {F H : Hp} (e : Same F H) : ∀ {v : V} (d : D), Tr K F v d → Tr K H v d
  | _, .none, h => by cases h; exact .non
  | _, .bool _, h => by cases h; exact .bl _
  | _, .int _, h => by cases h; exact .int _
  | _, .str _, h => by cases h; exact .str _
  | _, .list ds, h => by
    cases h with
    | lst h1 h2 => exact .lst (lsk_mono e h1) (dpAll_mono e ds h2)
  | _, .tuple ds, h => by
    cases h with
    | tup h1 h2 => exact .tup (same_tup e h1) (dpAll_mono e ds h2)
  | _, .dict _, h => by cases h
theorem dpAll_mono {K : PySem.W.Frag} {F H : Hp} (e : Same F H) : ∀ {vs : List V} (ds : List D), TrAll K F vs ds → TrAll K H vs ds
  | _, [], h => by cases h; exact .nil
  | _, d :: ds, h => by
    cases h with
    | cons h1 h2 => exact .cons (dp_mono e d h1) (dpAll_mono e ds h2)
end
section
variable {K : PySem.W.Frag} {F H : Hp}
theorem da_length : ∀ {vs : List V} {ds : List D}, TrAll K F vs ds → vs.length = ds.length
  | _, _, .nil => rfl
  | _, _, .cons _ t => congrArg (· + 1) (da_length t)
theorem da_get : ∀ {vs : List V} {ds : List D} {i : Nat} {d : D}, TrAll K F vs ds → ds[i]? = some d → ∃ v, vs[i]? = some v ∧ Tr K F v d
  | _, _, 0, d, .cons h _, e => by
    have e' := Option.some.inj e
    subst e'
    exact ⟨_, rfl, h⟩
  | _, _, i + 1, d, .cons _ t, e => by
    obtain ⟨v, h1, h2⟩ := da_get (i := i) (d := d) t (by simpa using e)
    exact ⟨v, by simpa using h1, h2⟩
theorem da_getV : ∀ {vs : List V} {ds : List D} {i : Nat} {v : V}, TrAll K F vs ds → vs[i]? = some v → ∃ d, ds[i]? = some d ∧ Tr K F v d
  | _, _, 0, v, .cons h _, e => by
    have e' := Option.some.inj e
    subst e'
    exact ⟨_, rfl, h⟩
  | _, _, i + 1, v, .cons _ t, e => by
    obtain ⟨d, h1, h2⟩ := da_getV (i := i) (v := v) t (by simpa using e)
    exact ⟨d, by simpa using h1, h2⟩
theorem da_append : ∀ {vs ws : List V} {ds es : List D}, TrAll K F vs ds → TrAll K F ws es → TrAll K F (vs ++ ws) (ds ++ es)
  | _, _, _, _, .nil, s => s
  | _, _, _, _, .cons h t, s => .cons h (da_append t s)
theorem da_take : ∀ {vs : List V} {ds : List D} (n : Nat), TrAll K F vs ds → TrAll K F (vs.take n) (ds.take n)
  | _, _, 0, _ => .nil
  | _, _, _ + 1, .nil => .nil
  | _, _, n + 1, .cons h t => .cons h (da_take n t)
theorem da_drop : ∀ {vs : List V} {ds : List D} (n : Nat), TrAll K F vs ds → TrAll K F (vs.drop n) (ds.drop n)
  | _, _, 0, h => h
  | _, _, _ + 1, .nil => .nil
  | _, _, n + 1, .cons _ t => da_drop n t
theorem da_set {v : V} {d : D} (h0 : Tr K F v d) : ∀ {vs : List V} {ds : List D} (i : Nat), TrAll K F vs ds → TrAll K F (vs.set i v) (ds.set i d)
  | _, _, _, .nil => .nil
  | _, _, 0, .cons _ t => .cons h0 t
  | _, _, i + 1, .cons h t => .cons h (da_set h0 i t)
theorem da_dropLast {vs : List V} {ds : List D} (h : TrAll K F vs ds) : TrAll K F vs.dropLast ds.dropLast := by
  rw [List.dropLast_eq_take, List.dropLast_eq_take, da_length h]
  exact da_take _ h
theorem da_erase : ∀ {vs : List V} {ds : List D} (i : Nat), TrAll K F vs ds → TrAll K F (vs.eraseIdx i) (ds.eraseIdx i)
  | _, _, _, .nil => .nil
  | _, _, 0, .cons _ t => t
  | _, _, i + 1, .cons h t => .cons h (da_erase i t)
theorem da_reverse {vs : List V} {ds : List D} (h : TrAll K F vs ds) : TrAll K F vs.reverse ds.reverse := by
  induction ds generalizing vs with
  | nil =>
    cases h
    exact .nil
  | cons d ds ih =>
    cases h with
    | cons h1 h2 =>
      rw [List.reverse_cons, List.reverse_cons]
      exact da_append (ih h2) (.cons h1 .nil)
theorem da_rep {vs : List V} {ds : List D} (h : TrAll K F vs ds) : ∀ n : Nat, TrAll K F (List.replicate n vs).flatten (List.replicate n ds).flatten
  | 0 => .nil
  | n + 1 => by
    rw [List.replicate_succ, List.replicate_succ, List.flatten_cons, List.flatten_cons]
    exact da_append h (da_rep h n)
end
mutual
theorem dp_plain {K : PySem.W.Frag} {F : Hp} : ∀ {v : V} (d : D), Tr K F v d → d.plain = true
  | _, .none, _ => by simp [PyData.plain]
  | _, .bool _, _ => by simp [PyData.plain]
  | _, .int _, _ => by simp [PyData.plain]
  | _, .str _, _ => by simp [PyData.plain]
  | _, .list ds, h => by
    cases h with
    | lst _ h2 => simpa [PyData.plain] using dpAll_plain ds h2
  | _, .tuple ds, h => by
    cases h with
    | tup _ h2 => simpa [PyData.plain] using dpAll_plain ds h2
  | _, .dict _, h => by cases h
theorem dpAll_plain {K : PySem.W.Frag} {F : Hp} : ∀ {vs : List V} (ds : List D), TrAll K F vs ds → PyData.plainAll ds = true
  | _, [], _ => by simp [PyData.plainAll]
  | _, d :: ds, h => by
    cases h with
    | cons h1 h2 => simp [PyData.plainAll, dp_plain d h1, dpAll_plain ds h2]
end

/-! ### what a slot holds -/
/-- v stands for o; as: the addresses that are o's own -/
def Own (K : PySem.W.Frag) (F H : Hp) (v : V) : O → List Addr → Prop
  | .val d, as => Tr K F v d ∧ as = []
  | .lst ds, as => ∃ a vs, v = .ref a ∧ H a = some (.lst vs) ∧ TrAll K F vs ds ∧ as = [a]
theorem Own.mono {K : PySem.W.Frag} {F F' H H' : Hp} {v : V} {o : O} {as : List Addr} (h : Own K F H v o as) (sF : Same F F') (sH : ∀ a ∈ as, ∀ u, H a = some u → H' a = some u) : Own K F' H' v o as := by
  cases o with
  | val d => exact ⟨dp_mono sF d h.1, h.2⟩
  | lst ds =>
    obtain ⟨a, vs, rfl, e, hd, rfl⟩ := h
    exact ⟨a, vs, rfl, sH a List.mem_cons_self _ e, dpAll_mono sF ds hd, rfl⟩
theorem Own.there {K : PySem.W.Frag} {F H : Hp} {v : V} {o : O} {as : List Addr} (h : Own K F H v o as) : ∀ a ∈ as, ∃ u, H a = some u := by
  cases o with
  | val d =>
    obtain ⟨_, rfl⟩ := h
    intro a ha
    cases ha
  | lst ds =>
    obtain ⟨a, vs, _, e, _, rfl⟩ := h
    intro b hb
    rw [List.mem_singleton.mp hb]
    exact ⟨_, e⟩
/-- o is frozen -/
theorem Own.freeze {K : PySem.W.Frag} {F H : Hp} {v : V} {o : O} {as : List Addr} (h : Own K F H v o as) (sF : Same F H) (ha : ∀ a ∈ as, F a = none) :
    ∃ F', Same F F' ∧ Same F' H ∧ (∀ a, a ∉ as → F' a = F a) ∧ Tr K F' v o.toD := by
  cases o with
  | val d => exact ⟨F, Same.refl F, sF, fun _ _ => rfl, h.1⟩
  | lst ds =>
    obtain ⟨a, vs, rfl, e, hd, rfl⟩ := h
    have hn : F a = none := ha a List.mem_cons_self
    refine ⟨upd F a (.lst vs), same_of_fresh hn, fun b u eb => ?_, fun b hb => upd_ne fun z => hb (by rw [z]; exact List.mem_cons_self), ?_⟩
    · by_cases hb : b = a
      · subst hb
        rw [upd_same] at eb
        rw [e]
        exact eb
      · rw [upd_ne hb] at eb
        exact sF b u eb
    · exact .lst (.inl (Rd.of upd_same)) (dpAll_mono (same_of_fresh hn) ds hd)

abbrev S := List (Option O)
variable {np : Nat}
/-- what stays through a def's body: the objects of others, the first slots -/
structure Gd where
  h : Hp
  p : L2.St
/-- the slots σ and the heap H bear S: F is frozen, G is kept as it is (F's, and what others own); ps: the addresses of each slot's own thing -/
structure Rel (np : Nat) (K : PySem.W.Frag) (F : Hp) (G : Gd) (S : S) (σ : L2.St) (H : Hp) (ps : List (List Addr)) : Prop where
  sF : Same F H
  sG : Same G.h H
  pin : σ.take G.p.length = G.p
  few : G.p.length ≤ np
  fg : ∀ a u, G.h a = some u → F a = none
  lenP : ps.length = S.length
  lenS : σ.length = S.length
  at_ : ∀ (i : Nat) (o : O), S[i]? = some (some o) → ∃ v as, σ[i]? = some (some v) ∧ ps[i]? = some as ∧ Own K F H v o as
  nd : ps.flatten.Nodup
  apart : ∀ a ∈ ps.flatten, F a = none ∧ G.h a = none ∧ ∃ u, H a = some u

section
variable {K : PySem.W.Frag} {F F' : Hp} {G : Gd} {s s' : S} {σ : L2.St} {H H' : Hp} {ps : List (List Addr)}
theorem mem_flat {ps : List (List Addr)} {i : Nat} {as : List Addr} {a : Addr} (h : ps[i]? = some as) (ha : a ∈ as) : a ∈ ps.flatten :=
  List.mem_flatten.mpr ⟨as, List.mem_of_getElem? h, ha⟩
/-- the heap grows, more is frozen: of what is new -/
theorem Rel.grow (R : Rel np K F G s σ H ps) (sF : Same F F') (sF' : Same F' H') (sH : Same H H') (new : ∀ a ∈ ps.flatten, F' a = none) (fg : ∀ a u, G.h a = some u → F' a = none) : Rel np K F' G s σ H' ps where
  sF := sF'
  sG := R.sG.trans sH
  pin := R.pin
  few := R.few
  fg := fg
  lenP := R.lenP
  lenS := R.lenS
  at_ := fun i o e => by
    obtain ⟨v, as, h1, h2, h3⟩ := R.at_ i o e
    exact ⟨v, as, h1, h2, h3.mono sF fun a _ u e => sH a u e⟩
  nd := R.nd
  apart := fun a ha => by
    obtain ⟨h1, h2, u, h3⟩ := R.apart a ha
    exact ⟨new a ha, h2, u, sH a u h3⟩
/-- a new object at p, frozen -/
theorem Rel.laid (R : Rel np K F G s σ H ps) {p : Addr} {o : HO} (hp : H p = none) : Rel np K (upd F p o) G s σ (upd H p o) ps ∧ Same F (upd F p o) := by
  have hF : F p = none := R.sF.free hp
  refine ⟨R.grow (same_of_fresh hF) (same_both R.sF) (same_of_fresh hp) (fun a ha => ?_) fun a u e => by rw [upd_ne (ne_of_none (R.sG a u e) hp)]; exact R.fg a u e, same_of_fresh hF⟩
  obtain ⟨h1, _, u, h3⟩ := R.apart a ha
  rw [upd_ne (ne_of_none h3 hp)]
  exact h1
/-- a new object at p, not frozen -/
theorem Rel.new (R : Rel np K F G s σ H ps) {p : Addr} {o : HO} (hp : H p = none) : Rel np K F G s σ (upd H p o) ps ∧ F p = none ∧ G.h p = none ∧ p ∉ ps.flatten := by
  have sH := same_of_fresh (o := o) hp
  refine ⟨R.grow (Same.refl F) (R.sF.trans sH) sH (fun a ha => (R.apart a ha).1) R.fg, R.sF.free hp, R.sG.free hp, fun hm => ?_⟩
  obtain ⟨_, _, u, e⟩ := R.apart p hm
  rw [hp] at e
  cases e
/-- other slots' values, the same things -/
theorem Rel.vals (R : Rel np K F G s σ H ps) {σ' : L2.St} (hl : σ'.length = σ.length) (hp : σ'.take G.p.length = G.p) (h : ∀ (i : Nat) (o : O), s[i]? = some (some o) → σ'[i]? = σ[i]?) : Rel np K F G s σ' H ps where
  sF := R.sF
  sG := R.sG
  pin := hp
  few := R.few
  fg := R.fg
  lenP := R.lenP
  lenS := hl.trans R.lenS
  at_ := fun i o e => by
    obtain ⟨v, as, h1, h2, h3⟩ := R.at_ i o e
    exact ⟨v, as, (h i o e).trans h1, h2, h3⟩
  nd := R.nd
  apart := R.apart
theorem nodup_set {ps : List (List Addr)} {i : Nat} {as : List Addr} (nd : ps.flatten.Nodup) (ha : as.Nodup) (hd : ∀ a ∈ as, ∀ (j : Nat) bs, j ≠ i → ps[j]? = some bs → a ∉ bs) : (ps.set i as).flatten.Nodup := by
  induction ps generalizing i with
  | nil => exact nd
  | cons b ps ih =>
    rw [List.flatten_cons, List.nodup_append] at nd
    obtain ⟨n1, n2, n3⟩ := nd
    cases i with
    | zero =>
      rw [List.set_cons_zero, List.flatten_cons, List.nodup_append]
      refine ⟨ha, n2, fun x hx y hy e => ?_⟩
      subst e
      obtain ⟨bs, hbs, hy⟩ := List.mem_flatten.mp hy
      obtain ⟨j, hj⟩ := List.getElem?_of_mem hbs
      exact hd x hx (j + 1) bs (by omega) (by simpa using hj) hy
    | succ i =>
      rw [List.set_cons_succ, List.flatten_cons, List.nodup_append]
      refine ⟨n1, ih n2 fun a ha' j bs hj hbs => hd a ha' (j + 1) bs (by omega) (by simpa using hbs), fun x hx y hy e => ?_⟩
      subst e
      obtain ⟨bs, hbs, hy⟩ := List.mem_flatten.mp hy
      obtain ⟨j, hj⟩ := List.getElem?_of_mem hbs
      by_cases c : j = i
      · subst c
        have hlt : j < ps.length := by
          have h1 : j < (ps.set j as).length := (List.getElem?_eq_some_iff.mp hj).1
          rwa [List.length_set] at h1
        rw [List.getElem?_set_self hlt] at hj
        have e' := Option.some.inj hj
        subst e'
        exact hd x hy 0 b (by omega) rfl hx
      · rw [List.getElem?_set_ne (Ne.symm c)] at hj
        exact n3 x hx x (mem_flat hj hy) rfl
theorem mem_set_flat {ps : List (List Addr)} {i : Nat} {as : List Addr} {a : Addr} (h : a ∈ (ps.set i as).flatten) : a ∈ as ∨ a ∈ ps.flatten := by
  obtain ⟨bs, hbs, hy⟩ := List.mem_flatten.mp h
  rcases List.mem_or_eq_of_mem_set hbs with z | z
  · exact .inr (List.mem_flatten.mpr ⟨bs, z, hy⟩)
  · subst z
    exact .inl hy
theorem flat_apart {ps : List (List Addr)} (nd : ps.flatten.Nodup) {i j : Nat} {as bs : List Addr} (hi : ps[i]? = some as) (hj : ps[j]? = some bs) (hij : j ≠ i) {a : Addr} (ha : a ∈ as) : a ∉ bs := by
  induction ps generalizing i j with
  | nil => simp at hi
  | cons b ps ih =>
    rw [List.flatten_cons, List.nodup_append] at nd
    obtain ⟨n1, n2, n3⟩ := nd
    intro hb
    cases i with
    | zero =>
      cases j with
      | zero => exact hij rfl
      | succ j =>
        have e := Option.some.inj hi
        subst e
        exact n3 a ha a (mem_flat (by simpa using hj) hb) rfl
    | succ i =>
      cases j with
      | zero =>
        have e := Option.some.inj hj
        subst e
        exact n3 a hb a (mem_flat (by simpa using hi) ha) rfl
      | succ j => exact ih n2 (by simpa using hi) (by simpa using hj) (by omega) hb
theorem nodup_at {ps : List (List Addr)} (nd : ps.flatten.Nodup) {i : Nat} {as : List Addr} (h : ps[i]? = some as) : as.Nodup := by
  induction ps generalizing i with
  | nil => simp at h
  | cons b ps ih =>
    rw [List.flatten_cons, List.nodup_append] at nd
    cases i with
    | zero =>
      have e := Option.some.inj h
      subst e
      exact nd.1
    | succ i => exact ih nd.2.1 (by simpa using h)
/-- slot i gets another thing, as': of i's addresses or of none's; the other slots' things are as they were -/
theorem Rel.put (R : Rel np K F G s σ H ps) {i : Nat} {o' : O} {v' : V} {as' : List Addr} {σ' : L2.St} (hi : i < s.length) (sF : Same F F') (sF' : Same F' H') (sG' : Same G.h H')
    (hσ : σ' = σ.set i (some v')) (hp : σ'.take G.p.length = G.p) (fg : ∀ a u, G.h a = some u → F' a = none) (own : Own K F' H' v' o' as') (nd' : as'.Nodup) (new : ∀ a ∈ as', F' a = none ∧ G.h a = none ∧ ∀ (j : Nat) bs, j ≠ i → ps[j]? = some bs → a ∉ bs)
    (keep : ∀ (j : Nat) bs, j ≠ i → ps[j]? = some bs → ∀ a ∈ bs, F' a = none ∧ ∀ u, H a = some u → H' a = some u) :
    Rel np K F' G (s.set i (some o')) σ' H' (ps.set i as') := by
  subst hσ
  refine ⟨sF', sG', hp, R.few, fg, by rw [List.length_set, List.length_set, R.lenP], by rw [List.length_set, List.length_set, R.lenS], fun j o e => ?_, nodup_set R.nd nd' fun a ha j bs hj hb => (new a ha).2.2 j bs hj hb, fun a ha => ?_⟩
  · by_cases c : j = i
    · subst c
      rw [List.getElem?_set_self hi] at e
      have e' := Option.some.inj (Option.some.inj e)
      subst e'
      exact ⟨v', as', List.getElem?_set_self (by rw [R.lenS]; exact hi), List.getElem?_set_self (by rw [R.lenP]; exact hi), own⟩
    · rw [List.getElem?_set_ne (Ne.symm c)] at e
      obtain ⟨v, as, h1, h2, h3⟩ := R.at_ j o e
      refine ⟨v, as, (List.getElem?_set_ne (Ne.symm c)).trans h1, (List.getElem?_set_ne (Ne.symm c)).trans h2, h3.mono sF fun a ha u eu => (keep j as c h2 a ha).2 u eu⟩
  · obtain ⟨bs, hbs, hy⟩ := List.mem_flatten.mp ha
    obtain ⟨j, hj⟩ := List.getElem?_of_mem hbs
    by_cases c : j = i
    · subst c
      rw [List.getElem?_set_self (by rw [R.lenP]; exact hi)] at hj
      have e := Option.some.inj hj
      subst e
      exact ⟨(new a hy).1, (new a hy).2.1, own.there a hy⟩
    · rw [List.getElem?_set_ne (Ne.symm c)] at hj
      obtain ⟨_, h2, u, h3⟩ := R.apart a (mem_flat hj hy)
      exact ⟨(keep j bs c hj a hy).1, h2, u, (keep j bs c hj a hy).2 u h3⟩
/-- slot i forgotten -/
theorem Rel.drop (R : Rel np K F G s σ H ps) (i : Nat) {σ' : L2.St} (hl : σ'.length = σ.length) (hp : σ'.take G.p.length = G.p) (h : ∀ j, j ≠ i → σ'[j]? = σ[j]?) : Rel np K F G (s.set i none) σ' H (ps.set i []) where
  sF := R.sF
  sG := R.sG
  pin := hp
  few := R.few
  fg := R.fg
  lenP := by rw [List.length_set, List.length_set, R.lenP]
  lenS := by rw [List.length_set, hl, R.lenS]
  at_ := fun j o e => by
    by_cases c : j = i
    · subst c
      by_cases hlt : j < s.length
      · rw [List.getElem?_set_self hlt] at e
        cases e
      · rw [List.getElem?_eq_none (by rw [List.length_set]; omega)] at e
        cases e
    · rw [List.getElem?_set_ne (Ne.symm c)] at e
      obtain ⟨v, as, h1, h2, h3⟩ := R.at_ j o e
      exact ⟨v, as, (h j c).trans h1, (List.getElem?_set_ne (Ne.symm c)).trans h2, h3⟩
  nd := nodup_set R.nd List.nodup_nil fun a ha => nomatch ha
  apart := fun a ha => by
    rcases mem_set_flat ha with z | z
    · cases z
    · exact R.apart a z
/-- further objects are to stay as they are -/
def Gd.add (G : Gd) (H : Hp) (as : List Addr) : Gd := ⟨fun b => if b ∈ as then H b else G.h b, G.p⟩
theorem Rel.hold (R : Rel np K F G s σ H ps) {as : List Addr} (h : ∀ a ∈ as, F a = none ∧ G.h a = none ∧ a ∉ ps.flatten) : Rel np K F (G.add H as) s σ H ps where
  sF := R.sF
  sG := fun b u e => by
    show H b = some u
    have e' : (if b ∈ as then H b else G.h b) = some u := e
    split at e'
    · exact e'
    · exact R.sG b u e'
  pin := R.pin
  few := R.few
  fg := fun b u e => by
    have e' : (if b ∈ as then H b else G.h b) = some u := e
    split at e'
    · rename_i hb
      exact (h b hb).1
    · exact R.fg b u e'
  lenP := R.lenP
  lenS := R.lenS
  at_ := R.at_
  nd := R.nd
  apart := fun a ha => by
    obtain ⟨h1, h2, h3⟩ := R.apart a ha
    refine ⟨h1, ?_, h3⟩
    show (if a ∈ as then H a else G.h a) = none
    rw [if_neg fun z => (h a z).2.2 ha]
    exact h2
theorem Rel.unhold {H0 : Hp} {as : List Addr} (hG : ∀ a ∈ as, G.h a = none ∧ ∃ u, H0 a = some u) (R : Rel np K F (G.add H0 as) s σ H ps) : Rel np K F G s σ H ps ∧ ∀ a ∈ as, F a = none ∧ a ∉ ps.flatten ∧ ∀ u, H0 a = some u → H a = some u := by
  have at0 : ∀ b, b ∈ as → (G.add H0 as).h b = H0 b := fun b hb => if_pos hb
  have at1 : ∀ b u, G.h b = some u → (G.add H0 as).h b = some u := fun b u e => by
    show (if b ∈ as then H0 b else G.h b) = some u
    rw [if_neg fun z => by rw [(hG b z).1] at e; cases e]
    exact e
  refine ⟨⟨R.sF, fun b u e => R.sG b u (at1 b u e), R.pin, R.few, fun b u e => R.fg b u (at1 b u e), R.lenP, R.lenS, R.at_, R.nd, fun a ha => ?_⟩, fun a ha => ?_⟩
  · obtain ⟨h1, h2, h3⟩ := R.apart a ha
    refine ⟨h1, ?_, h3⟩
    cases e : G.h a with
    | none => rfl
    | some u =>
      rw [at1 a u e] at h2
      cases h2
  · obtain ⟨u, e⟩ := (hG a ha).2
    refine ⟨R.fg a u ((at0 a ha).trans e), fun z => ?_, fun u' e' => R.sG a u' ((at0 a ha).trans e')⟩
    have h2 := (R.apart a z).2.1
    rw [at0 a ha, e] at h2
    cases h2
end
end Dv

/-! The judgements by trees. -/
namespace Dv
open PySem PySem.Spec PyProof.Rows L2
variable {np : Nat}

/-- an operand: a frozen value, or a slot that is looked at when the operation is done -/
inductive Rf where
  | d (x : D)
  | s (i : Nat)
abbrev MO := S → Option (O × S)
abbrev MV := S → Option (D × S)
abbrev MR := S → Option (Rf × S)
abbrev MB := S → Option (Bool × S)

/-- an expression whose result may be own -/
def tO (np : Nat) (K : PySem.W.Frag) (m : MO) : TE := fun σ H Q => ∃ F G s ps, Rel np K F G s σ H ps ∧ ∃ o s', m s = some (o, s') ∧ ∀ v H' F' ps' as, Rel np K F' G s' σ H' ps' → Same F F' → Own K F' H' v o as → as.Nodup →
  (∀ a ∈ as, F' a = none ∧ G.h a = none ∧ a ∉ ps'.flatten) → Q v H'
/-- one whose result is frozen -/
def tV (np : Nat) (K : PySem.W.Frag) (m : MV) : TE := fun σ H Q => ∃ F G s ps, Rel np K F G s σ H ps ∧ ∃ d s', m s = some (d, s') ∧ ∀ v H' F' ps', Rel np K F' G s' σ H' ps' → Same F F' → Tr K F' v d → Q v H'
/-- what an operand stands for -/
def RfAt (K : PySem.W.Frag) (F : Hp) (σ : L2.St) (v : V) : Rf → Prop
  | .d x => Tr K F v x
  | .s i => σ[i]? = some (some v)
def tR (np : Nat) (K : PySem.W.Frag) (m : MR) : TE := fun σ H Q => ∃ F G s ps, Rel np K F G s σ H ps ∧ ∃ r s', m s = some (r, s') ∧ ∀ v H' F' ps', Rel np K F' G s' σ H' ps' → Same F F' → RfAt K F' σ v r → Q v H'
def tB (np : Nat) (K : PySem.W.Frag) (m : MB) : TT := fun σ H Q => ∃ F G s ps, Rel np K F G s σ H ps ∧ ∃ b s', m s = some (b, s') ∧ ∀ H' F' ps', Rel np K F' G s' σ H' ps' → Same F F' → Q b H'

section
variable {X : Cx} {e : Expr}
theorem pe_imp {t t' : TE} (h : PE X e t) (i : ∀ σ H Q, t' σ H Q → t σ H Q) : PE X e t' := ⟨fun pins s σ H Q I q => h.run pins s σ H Q I (i σ H Q q)⟩
theorem pt_imp {t t' : TT} (h : PT X e t) (i : ∀ σ H Q, t' σ H Q → t σ H Q) : PT X e t' := ⟨fun pins s σ H Q I q => h.run pins s σ H Q I (i σ H Q q)⟩
theorem pw_imp {t t' : TT} (h : PW X e t) (i : ∀ σ H Q, t' σ H Q → t σ H Q) : PW X e t' := ⟨fun whole pins s σ H Q I q => h.run whole pins s σ H Q I (i σ H Q q)⟩
theorem pa_imp {es : List Expr} {t t' : TA} (h : PA X es t) (i : ∀ σ H Q, t' σ H Q → t σ H Q) : PA X es t' := ⟨fun pos pins s σ H Q I q => h.run pos pins s σ H Q I (i σ H Q q)⟩

/-! ### from one judgement to another -/
def frz (m : MO) : MV := fun s => (m s).map fun p => (p.1.toD, p.2)
def rV (m : MV) : MR := fun s => (m s).map fun p => (.d p.1, p.2)
def oV (m : MV) : MO := fun s => (m s).map fun p => (.val p.1, p.2)
theorem e_frz {m : MO} (h : PE X e (tO np X.K m)) : PE X e (tV np X.K (frz m)) := pe_imp h fun σ H Q ⟨F, G, s, ps, R, d, s', hm, q⟩ => by
  unfold frz at hm
  obtain ⟨⟨o, s2⟩, h1, h2⟩ := Option.map_eq_some_iff.mp hm
  cases h2
  refine ⟨F, G, s, ps, R, o, s2, h1, fun v H' F' ps' as R' sF own nd new => ?_⟩
  obtain ⟨F2, f1, f2, f3, f4⟩ := own.freeze R'.sF fun a ha => (new a ha).1
  refine q v H' F2 ps' (R'.grow f1 f2 (Same.refl H') (fun a ha => ?_) fun a u eu => ?_) (sF.trans f1) f4
  · rw [f3 a fun z => (new a z).2.2 ha]
    exact (R'.apart a ha).1
  · rw [f3 a fun z => by rw [(new a z).2.1] at eu; cases eu]
    exact R'.fg a u eu
theorem e_rV {m : MV} (h : PE X e (tV np X.K m)) : PE X e (tR np X.K (rV m)) := pe_imp h fun σ H Q ⟨F, G, s, ps, R, r, s', hm, q⟩ => by
  unfold rV at hm
  obtain ⟨⟨d, s2⟩, h1, h2⟩ := Option.map_eq_some_iff.mp hm
  cases h2
  exact ⟨F, G, s, ps, R, d, s2, h1, fun v H' F' ps' R' sF hd => q v H' F' ps' R' sF hd⟩
theorem e_oV {m : MV} (h : PE X e (tV np X.K m)) : PE X e (tO np X.K (oV m)) := pe_imp h fun σ H Q ⟨F, G, s, ps, R, o, s', hm, q⟩ => by
  unfold oV at hm
  obtain ⟨⟨d, s2⟩, h1, h2⟩ := Option.map_eq_some_iff.mp hm
  cases h2
  exact ⟨F, G, s, ps, R, d, s2, h1, fun v H' F' ps' R' sF hd => q v H' F' ps' [] R' sF ⟨hd, rfl⟩ List.nodup_nil fun a ha => nomatch ha⟩
/-- an own result as an operand -/
def rO (m : MO) : MR := rV (frz m)
theorem e_rO {m : MO} (h : PE X e (tO np X.K m)) : PE X e (tR np X.K (rO m)) := e_rV (e_frz h)

/-! ### names and constants -/
/-- a slot looked at where the operation is done -/
def rB (i : Nat) : MR := fun s => match s[i]? with
  | some (some _) => some (.s i, s)
  | _ => none
/-- a slot read: what is own there is frozen -/
def vVar (i : Nat) : MV := fun s => match s[i]? with
  | some (some o) => some (o.toD, s.set i (some (.val o.toD)))
  | _ => none
/-- an own thing of a slot handed away -/
def oMove (i : Nat) : MO := fun s => match s[i]? with
  | some (some o) => some (o, s.set i none)
  | _ => none
def vCon (d : D) : MV := fun s => some (d, s)
theorem slot_some {α : Type} {s : S} {i : Nat} {f : O → Option α} {r : α} (h : (match s[i]? with | some (some o) => f o | _ => none) = some r) : ∃ o, s[i]? = some (some o) ∧ f o = some r := by
  split at h
  · rename_i o e
    exact ⟨o, e, h⟩
  · cases h
theorem e_rB {i : Nat} (h : PE X e (tVar i)) : PE X e (tR np X.K (rB i)) := pe_imp h fun σ H Q ⟨F, G, s, ps, R, r, s', hm, q⟩ => by
  obtain ⟨o, e1, e2⟩ := slot_some hm
  cases e2
  obtain ⟨v, as, h1, _, _⟩ := R.at_ i o e1
  exact ⟨v, h1, q v H F ps R (Same.refl F) h1⟩
theorem e_vVar {i : Nat} (h : PE X e (tVar i)) : PE X e (tV np X.K (vVar i)) := pe_imp h fun σ H Q ⟨F, G, s, ps, R, d, s', hm, q⟩ => by
  obtain ⟨o, e1, e2⟩ := slot_some hm
  cases e2
  obtain ⟨v, as, h1, h2, h3⟩ := R.at_ i o e1
  obtain ⟨F2, f1, f2, f3, f4⟩ := h3.freeze R.sF fun a ha => (R.apart a (mem_flat h2 ha)).1
  have hi : i < s.length := (List.getElem?_eq_some_iff.mp e1).1
  have hσ : σ = σ.set i (some v) := by
    apply List.ext_getElem?
    intro j
    by_cases c : i = j
    · subst c
      rw [List.getElem?_set_self (by rw [R.lenS]; exact hi), h1]
    · rw [List.getElem?_set_ne c]
  refine ⟨v, h1, q v H F2 (ps.set i []) (R.put hi f1 f2 R.sG hσ R.pin (fun a u eu => by rw [f3 a fun z => by rw [(R.apart a (mem_flat h2 z)).2.1] at eu; cases eu]; exact R.fg a u eu) ⟨f4, rfl⟩ List.nodup_nil (fun a ha => nomatch ha) fun j bs hj hb a ha => ⟨?_, fun u eu => eu⟩) f1 f4⟩
  rw [f3 a fun z => flat_apart R.nd h2 hb hj z ha]
  exact (R.apart a (mem_flat hb ha)).1
theorem e_oMove {i : Nat} (h : PE X e (tVar i)) : PE X e (tO np X.K (oMove i)) := pe_imp h fun σ H Q ⟨F, G, s, ps, R, o, s', hm, q⟩ => by
  obtain ⟨o', e1, e2⟩ := slot_some hm
  cases e2
  obtain ⟨v, as, h1, h2, h3⟩ := R.at_ i o e1
  refine ⟨v, h1, q v H F (ps.set i []) as (R.drop i rfl R.pin fun _ _ => rfl) (Same.refl F) h3 ?_ fun a ha => ⟨(R.apart a (mem_flat h2 ha)).1, (R.apart a (mem_flat h2 ha)).2.1, fun z => ?_⟩⟩
  · exact nodup_at R.nd h2
  · obtain ⟨bs, hb, hy⟩ := List.mem_flatten.mp z
    obtain ⟨j, hj⟩ := List.getElem?_of_mem hb
    by_cases c : j = i
    · subst c
      have hlt : j < ps.length := (List.getElem?_eq_some_iff.mp h2).1
      rw [List.getElem?_set_self hlt] at hj
      cases hj
      cases hy
    · rw [List.getElem?_set_ne (Ne.symm c)] at hj
      exact flat_apart R.nd h2 hj c ha hy
theorem e_con {v : V} {d : D} (h : PE X e (tC v)) (hd : ∀ F, Tr X.K F v d) : PE X e (tV np X.K (vCon d)) := pe_imp h fun σ H Q ⟨F, G, s, ps, R, d', s', hm, q⟩ => by
  cases hm
  exact q v H F ps R (Same.refl F) (hd F)
theorem e_int {i : Int} {j : Nat} {pos : Pos} : PE X (.Constant (.int i) j pos) (tV np X.K (vCon (.int i))) := e_con pe_int fun _ => .int i
theorem e_bl {b : Bool} {j : Nat} {pos : Pos} : PE X (.Constant (.bool b) j pos) (tV np X.K (vCon (.bool b))) := e_con pe_bl fun _ => .bl b
theorem e_non {j : Nat} {pos : Pos} : PE X (.Constant .none j pos) (tV np X.K (vCon .none)) := e_con pe_non fun _ => .non
theorem e_str {x : Str} {j : Nat} {pos : Pos} : PE X (.Constant (.str x) j pos) (tV np X.K (vCon (.str x))) := e_con pe_str fun _ => .str x
end

/-! ### operands in a row -/
def evR : List MR → S → Option (List Rf × S)
  | [], s => some ([], s)
  | m :: ms, s => (m s).bind fun p => (evR ms p.2).map fun q => (p.1 :: q.1, q.2)
def RfAll (K : PySem.W.Frag) (F : Hp) (σ : L2.St) : List V → List Rf → Prop
  | [], [] => True
  | v :: vs, r :: rs => RfAt K F σ v r ∧ RfAll K F σ vs rs
  | _, _ => False
def tA (np : Nat) (K : PySem.W.Frag) (ms : List MR) : TA := fun σ H Q => ∃ F G s ps, Rel np K F G s σ H ps ∧ ∃ rs s', evR ms s = some (rs, s') ∧ ∀ vs H' F' ps', Rel np K F' G s' σ H' ps' → Same F F' → RfAll K F' σ vs rs → Q vs H'
theorem rfAt_mono {K : PySem.W.Frag} {F F' : Hp} {σ : L2.St} {v : V} {r : Rf} (s : Same F F') (h : RfAt K F σ v r) : RfAt K F' σ v r := by
  cases r with
  | d x => exact dp_mono s x h
  | s i => exact h
section
variable {X : Cx} {e : Expr} {es : List Expr}
theorem a_nil : PA X [] (tA np X.K []) := pa_imp pa_nil fun σ H Q ⟨F, G, s, ps, R, rs, s', hm, q⟩ => by
  cases hm
  exact q [] H F ps R (Same.refl F) trivial
theorem bind_some {α β : Type} {x : Option α} {f : α → Option β} {b : β} (h : x.bind f = some b) : ∃ a, x = some a ∧ f a = some b := Option.bind_eq_some_iff.mp h
theorem a_cons {m : MR} {ms : List MR} (he : PE X e (tR np X.K m)) (hs : PA X es (tA np X.K ms)) (hst : starEach (e :: es) X.env = (false, eval e X.env) :: starEach es X.env := by rfl) : PA X (e :: es) (tA np X.K (m :: ms)) :=
  pa_imp (pa_cons he hs hst) fun σ H Q ⟨F, G, s, ps, R, rs, s', hm, q⟩ => by
    obtain ⟨⟨r, s1⟩, h1, h2⟩ := bind_some hm
    obtain ⟨⟨rs', s2⟩, h3, h4⟩ := Option.map_eq_some_iff.mp h2
    cases h4
    refine ⟨F, G, s, ps, R, r, s1, h1, fun v H1 F1 ps1 R1 s01 hv => ⟨F1, G, s1, ps1, R1, rs', s2, h3, fun vs H2 F2 ps2 R2 s12 hvs => ?_⟩⟩
    exact q (v :: vs) H2 F2 ps2 R2 (s01.trans s12) ⟨rfAt_mono s12 hv, hvs⟩
end

/-! ### what an operation by data gives -/
/-- a value that is looked at: frozen, or a slot's own list -/
def Lnt (K : PySem.W.Frag) (F H : Hp) (v : V) (d : D) : Prop := Tr K F v d ∨ ∃ a vs ds, v = .ref a ∧ d = .list ds ∧ H a = some (.lst vs) ∧ TrAll K F vs ds
def LntAll (K : PySem.W.Frag) (F H : Hp) : List V → List D → Prop
  | [], [] => True
  | v :: vs, d :: ds => Lnt K F H v d ∧ LntAll K F H vs ds
  | _, _ => False
section
variable {K : PySem.W.Frag} {F H : Hp}
theorem lnt_dp (s : Same F H) {v : V} {d : D} (h : Lnt K F H v d) : Tr K H v d := by
  rcases h with h | ⟨a, vs, ds, rfl, rfl, e, h⟩
  · exact dp_mono s d h
  · exact .lst (.inl (Rd.of e)) (dpAll_mono s ds h)
theorem lnt_list (s : Same F H) {v : V} {ds : List D} (h : Lnt K F H v (.list ds)) : ∃ a vs, v = .ref a ∧ LsK K H a vs ∧ TrAll K F vs ds := by
  rcases h with h | ⟨a, vs, ds', rfl, e1, e, h⟩
  · cases h with
    | lst h1 h2 => exact ⟨_, _, rfl, lsk_mono s h1, h2⟩
  · cases e1
    exact ⟨a, vs, rfl, .inl (Rd.of e), h⟩
theorem lnt_tuple {v : V} {ds : List D} (h : Lnt K F H v (.tuple ds)) : ∃ a vs, v = .ref a ∧ SqT K F a vs ∧ TrAll K F vs ds := by
  rcases h with h | ⟨a, vs, ds', rfl, e1, e, h⟩
  · cases h with
    | tup h1 h2 => exact ⟨_, _, rfl, h1, h2⟩
  · cases e1
theorem lnt_int {v : V} {i : Int} (h : Lnt K F H v (.int i)) : v = .int i := by
  rcases h with h | ⟨a, vs, ds', rfl, e1, e, h⟩
  · cases h
    rfl
  · cases e1
theorem lnt_bool {v : V} {b : Bool} (h : Lnt K F H v (.bool b)) : v = .bl b := by
  rcases h with h | ⟨a, vs, ds', rfl, e1, e, h⟩
  · cases h
    rfl
  · cases e1
theorem lnt_str {v : V} {x : Str} (h : Lnt K F H v (.str x)) : v = .str x := by
  rcases h with h | ⟨a, vs, ds', rfl, e1, e, h⟩
  · cases h
    rfl
  · cases e1
theorem lnt_none {v : V} (h : Lnt K F H v .none) : v = .non := by
  rcases h with h | ⟨a, vs, ds', rfl, e1, e, h⟩
  · cases h
    rfl
  · cases e1
theorem lntAll_dp (s : Same F H) : ∀ {vs : List V} {ds : List D}, LntAll K F H vs ds → TrAll K H vs ds
  | [], [], _ => .nil
  | v :: vs, d :: ds, h => .cons (lnt_dp s h.1) (lntAll_dp s h.2)
  | [], _ :: _, h => h.elim
  | _ :: _, [], h => h.elim
end
/-- what an operation hands back: a frozen value that was there (or a plain one), a new tuple, a new list -/
inductive Out (K : PySem.W.Frag) (F H : Hp) : O → V → Hp → Prop
  | old {d : D} {v : V} : Tr K F v d → Out K F H (.val d) v H
  | tup {ds : List D} {vs : List V} {p : Addr} : H p = none → TrAll K F vs ds → Out K F H (.val (.tuple ds)) (.ref p) (upd H p (.tup vs))
  | lst {ds : List D} {vs : List V} {p : Addr} : H p = none → TrAll K F vs ds → Out K F H (.lst ds) (.ref p) (upd H p (.lst vs))
/-- an operation by data -/
def rG (K : PySem.W.Frag) (g : List D → Option O) : List V → Hp → VK → Prop := fun vs H Q => ∃ F ds o, Same F H ∧ LntAll K F H vs ds ∧ g ds = some o ∧ ∀ v H', Out K F H o v H' → Q v H'
def Rf.look (s : S) : Rf → Option D
  | .d x => some x
  | .s i => match s[i]? with
    | some (some o) => some o.toD
    | _ => none
def looks (s : S) : List Rf → Option (List D)
  | [] => some []
  | r :: rs => (r.look s).bind fun d => (looks s rs).map fun ds => d :: ds
def mOp (g : List D → Option O) (ms : List MR) : MO := fun s => (evR ms s).bind fun p => (looks p.2 p.1).bind fun ds => (g ds).map fun o => (o, p.2)
section
variable {K : PySem.W.Frag} {F H : Hp} {G : Gd} {s : S} {σ : L2.St} {ps : List (List Addr)}
theorem look_lnt (R : Rel np K F G s σ H ps) {v : V} {r : Rf} {d : D} (h : RfAt K F σ v r) (e : r.look s = some d) : Lnt K F H v d := by
  cases r with
  | d x =>
    cases e
    exact .inl h
  | s i =>
    obtain ⟨o, e1, e2⟩ := slot_some (s := s) (i := i) (f := fun o => some o.toD) e
    cases e2
    obtain ⟨v', as, h1, h2, h3⟩ := R.at_ i o e1
    have ev : v' = v := by
      rw [show σ[i]? = some (some v) from h] at h1
      exact (Option.some.inj (Option.some.inj h1)).symm
    subst ev
    cases o with
    | val d => exact .inl h3.1
    | lst ds =>
      obtain ⟨a, vs, e3, e4, hd, _⟩ := h3
      exact .inr ⟨a, vs, ds, e3, rfl, e4, hd⟩
theorem looks_lnt (R : Rel np K F G s σ H ps) : ∀ {vs : List V} {rs : List Rf} {ds : List D}, RfAll K F σ vs rs → looks s rs = some ds → LntAll K F H vs ds
  | [], [], ds, _, e => by
    cases e
    trivial
  | v :: vs, r :: rs, ds, h, e => by
    obtain ⟨d, h1, h2⟩ := bind_some e
    obtain ⟨ds', h3, h4⟩ := Option.map_eq_some_iff.mp h2
    cases h4
    exact ⟨look_lnt R h.1 h1, looks_lnt R h.2 h3⟩
  | [], _ :: _, _, h, _ => h.elim
  | _ :: _, [], _, h, _ => h.elim
theorem rfAll_len {K : PySem.W.Frag} {F : Hp} {σ : L2.St} : ∀ {vs : List V} {rs : List Rf}, RfAll K F σ vs rs → vs.length = rs.length
  | [], [], _ => rfl
  | v :: vs, r :: rs, h => congrArg (· + 1) (rfAll_len h.2)
  | [], _ :: _, h => h.elim
  | _ :: _, [], h => h.elim
/-- what came out, borne by the slots -/
theorem Out.rel {o : O} {v : V} {H' : Hp} (h : Out K F H o v H') (R : Rel np K F G s σ H ps) : ∃ F' as, Rel np K F' G s σ H' ps ∧ Same F F' ∧ Own K F' H' v o as ∧ as.Nodup ∧ ∀ a ∈ as, F' a = none ∧ G.h a = none ∧ a ∉ ps.flatten := by
  cases h with
  | old hd => exact ⟨F, [], R, Same.refl F, ⟨hd, rfl⟩, List.nodup_nil, fun a ha => nomatch ha⟩
  | @tup ds vs p hp hd =>
    obtain ⟨R', sF⟩ := R.laid (o := .tup vs) hp
    exact ⟨_, [], R', sF, ⟨.tup (SqT.of upd_same) (dpAll_mono sF ds hd), rfl⟩, List.nodup_nil, fun a ha => nomatch ha⟩
  | @lst ds vs p hp hd =>
    obtain ⟨R', h1, h2, h3⟩ := R.new (o := .lst vs) hp
    refine ⟨F, [p], R', Same.refl F, ⟨p, vs, rfl, upd_same, hd, rfl⟩, by simp, fun a ha => ?_⟩
    rw [List.mem_singleton.mp ha]
    exact ⟨h1, h2, h3⟩
end
theorem map_some {α β : Type} {x : Option α} {f : α → β} {b : β} (h : x.map f = some b) : ∃ a, x = some a ∧ f a = b := Option.map_eq_some_iff.mp h
/-- an operation done behind its operands -/
theorem op_done {K : PySem.W.Frag} {g : List D → Option O} {ms : List MR} {σ : L2.St} {H : Hp} {Q : VK} (h : tO np K (mOp g ms) σ H Q) : tCB (rG K g) (tA np K ms) σ H Q := by
  obtain ⟨F, G, s, ps, R, o, s', hm, q⟩ := h
  obtain ⟨⟨rs, s1⟩, h1, h2⟩ := bind_some hm
  obtain ⟨ds, h3, h4⟩ := bind_some h2
  obtain ⟨o', h5, h6⟩ := map_some h4
  cases h6
  refine ⟨F, G, s, ps, R, rs, s1, h1, fun vs H' F' ps' R' sF hv => ⟨F', ds, o, R'.sF, looks_lnt R' hv h3, h5, fun v H2 out => ?_⟩⟩
  obtain ⟨F2, as, R2, s2, own, nd, new⟩ := out.rel R'
  exact q v H2 F2 ps' as R2 (sF.trans s2) own nd new
end Dv

/-! Operations by trees: operators, comparisons, subscripts. -/
namespace Dv
open PySem PySem.Spec PyProof.Rows L2
variable {np : Nat}

theorem lnt1 {K : PySem.W.Frag} {F H : Hp} {x : V} {ds : List D} (h : LntAll K F H [x] ds) : ∃ d, ds = [d] ∧ Lnt K F H x d := by
  match ds, h with
  | [d], h => exact ⟨d, rfl, h.1⟩
  | [], h => exact h.elim
  | _ :: _ :: _, h => exact h.2.elim
theorem lnt2 {K : PySem.W.Frag} {F H : Hp} {x y : V} {ds : List D} (h : LntAll K F H [x, y] ds) : ∃ d e, ds = [d, e] ∧ Lnt K F H x d ∧ Lnt K F H y e := by
  match ds, h with
  | [d, e], h => exact ⟨d, e, rfl, h.1, h.2.1⟩
  | [], h => exact h.elim
  | [_], h => exact h.2.elim
  | _ :: _ :: _ :: _, h => exact h.2.2.elim
section
variable {X : Cx} {pins : List (Addr × Obj)} {σ : L2.St} {H F : Hp} {s : Shared}
/-- what is looked at reads as its tree -/
theorem lnt_reads (I : Inv X pins σ H s) (sF : Same F H) {v : V} {u : Value} {d : D} (h : Lnt X.K F H v d) (r : RelV v u) : (∃ as, Reads s.heap u d as) ∧ d.plain = true := by
  have hd := lnt_dp sF h
  obtain ⟨as, q⟩ := Dp.reads I d v u (tr_dp d hd) r
  exact ⟨⟨as, q⟩, dp_plain d hd⟩
/-- the exact list object -/
theorem rd_list (I : Inv X pins σ H s) {a : Addr} {vs : List V} (h : LsK X.K H a vs) : vs.length ≤ sizeLine ∧ ∃ (its : List Value) (n : Nat), Vals vs its ∧ vs.length = its.length ∧ s.heap.get? a = some { cls := .type "list", data := .seq its.toArray n } := by
  rcases h with h | ⟨its, n, e, z, r⟩
  · obtain ⟨z, its, n, r, e⟩ := h.ok I.hok
    exact ⟨z, its, n, r, r.length, e⟩
  · have hl : vs.length = its.size := r.length.trans Array.length_toList
    have hk := I.kIn _ _ e
    exact ⟨by rw [hl]; exact z, its.toList, n, r, r.length, by rw [Array.toArray_toList]; exact hk⟩
/-- a plain result -/
theorem fin_old {g : List D → Option O} {d : D} {v : V} {u : Value} {t' : Nat} {Q : VK} (I : Inv X pins σ H s) (hv : ∀ F, Tr X.K F v d) (r : RelV v u) (q : ∀ v H', Out X.K F H (.val d) v H' → Q v H') : EP X pins σ Q u { s with toks := t' } :=
  ⟨v, H, I.tok t', r, q v H (.old (hv F))⟩
theorem fin_bool {b : Bool} {Q : VK} (I : Inv X pins σ H s) (q : ∀ v H', Out X.K F H (.val (.bool b)) v H' → Q v H') : EP X pins σ Q (.bool b) s :=
  ⟨.bl b, H, I, rfl, q _ H (.old (.bl b))⟩
end

/-! ### + - * // % -/
def gAdd : List D → Option O
  | [.int a, .int b] => some (.val (.int (a + b)))
  | [.str a, .str b] => if a.length + b.length ≤ sizeLine then some (.val (.str (a ++ b))) else none
  | [.tuple a, .tuple b] => if a.length + b.length ≤ sizeLine then some (.val (.tuple (a ++ b))) else none
  | [.list a, .list b] => if a.length + b.length ≤ sizeLine then some (.lst (a ++ b)) else none
  | _ => none
def gSub : List D → Option O
  | [.int a, .int b] => some (.val (.int (a - b)))
  | _ => none
def gMul : List D → Option O
  | [.int a, .int b] => if a.natAbs < 2 ^ 64 ∨ b.natAbs < 2 ^ 64 then some (.val (.int (a * b))) else none
  | [.list a, .int b] => if b.natAbs < 2 ^ 62 ∧ a.length * b.toNat ≤ sizeLine then some (.lst (List.replicate b.toNat a).flatten) else none
  | [.tuple a, .int b] => if a.length ≤ 1000 ∧ 2 ≤ b ∧ b ≤ 1000 ∧ a ≠ [] then some (.val (.tuple (List.replicate b.toNat a).flatten)) else none
  | _ => none
def gFdiv : List D → Option O
  | [.int a, .int b] => if 0 < b ∧ b < 2 ^ 200 then some (.val (.int (a / b))) else none
  | _ => none
def gMod : List D → Option O
  | [.int a, .int b] => if 0 < b then some (.val (.int (a % b))) else none
  | _ => none
def gPow : List D → Option O
  | [.int a, .int b] => if 0 ≤ b ∧ b ≤ 1000000 ∧ a.natAbs < 2 ^ 64 then some (.val (.int (a ^ b.toNat))) else none
  | _ => none
def r2 (K : PySem.W.Frag) (g : List D → Option O) : R2 := fun x y H Q => rG K g [x, y] H Q
theorem if_some {α : Type} {c : Prop} [Decidable c] {a b : α} (h : (if c then some a else none) = some b) : c ∧ a = b := by
  split at h
  · rename_i hc
    exact ⟨hc, Option.some.inj h⟩
  · cases h
section
variable {X : Cx}
theorem trAll_nil {K : PySem.W.Frag} {F : Hp} {vs : List V} {ds : List D} (h : TrAll K F vs ds) : vs = [] ↔ ds = [] := by
  cases h with
  | nil => exact Iff.intro (fun _ => rfl) (fun _ => rfl)
  | cons _ _ => exact Iff.intro (fun z => by cases z) (fun z => by cases z)
theorem o_add : OpR X (binaryOp .Add) (r2 X.K gAdd) := by
  intro pins s σ H x y v u Q I rx ry ⟨F, ds, o, sF, l, e, q⟩
  obtain ⟨d1, d2, rfl, l1, l2⟩ := lnt2 l
  unfold gAdd at e
  split at e
  · rename_i a b ez
    cases ez
    cases e
    rw [lnt_int l1] at rx
    rw [lnt_int l2] at ry
    exact op_add pins s σ H _ _ v u Q I rx ry ⟨a, b, rfl, rfl, q _ H (.old (.int _))⟩
  · rename_i a b ez
    cases ez
    obtain ⟨hc, rfl⟩ := if_some e
    rw [lnt_str l1] at rx
    rw [lnt_str l2] at ry
    exact op_add_str pins s σ H _ _ v u Q I rx ry ⟨a, b, rfl, rfl, hc, q _ H (.old (.str _))⟩
  · rename_i a b ez
    cases ez
    obtain ⟨hc, rfl⟩ := if_some e
    obtain ⟨p1, v1, rfl, h1, t1⟩ := lnt_tuple l1
    obtain ⟨p2, v2, rfl, h2, t2⟩ := lnt_tuple l2
    refine op_catA pins s σ H _ _ v u Q I rx ry ⟨p1, p2, v1, v2, rfl, rfl, same_tup sF h1, same_tup sF h2, by rw [da_length t1, da_length t2]; exact hc, fun z => ?_, fun _ z => ?_, fun _ _ p hp => q _ _ (.tup hp (da_append t1 t2))⟩
    · have z' := (trAll_nil t1).mp z
      subst z'
      exact q _ H (.old (.tup h2 t2))
    · have z' := (trAll_nil t2).mp z
      subst z'
      rw [List.append_nil] at q
      exact q _ H (.old (.tup h1 t1))
  · rename_i a b ez
    cases ez
    obtain ⟨hc, rfl⟩ := if_some e
    obtain ⟨p1, v1, rfl, h1, t1⟩ := lnt_list sF l1
    obtain ⟨p2, v2, rfl, h2, t2⟩ := lnt_list sF l2
    cases rx
    cases ry
    obtain ⟨z1, its1, n1, r1, e1, o1⟩ := rd_list I h1
    obtain ⟨z2, its2, n2, r2, e2, o2⟩ := rd_list I h2
    have hl1 := da_length t1
    have hl2 := da_length t2
    refine PySem.P.add_list o1 o2 ?_ (by rw [List.size_toArray, List.size_toArray]; omega)
    have ea : its1.toArray ++ its2.toArray = (its1 ++ its2).toArray := by simp
    rw [ea]
    exact ⟨.ref _, _, I.lnew (t' := s.toks) (r1.append r2) (by rw [List.length_append]; omega), rfl, q _ _ (.lst I.fresh (da_append t1 t2))⟩
  · cases e
theorem o_sub : OpR X (binaryOp .Sub) (r2 X.K gSub) := by
  intro pins s σ H x y v u Q I rx ry ⟨F, ds, o, sF, l, e, q⟩
  obtain ⟨d1, d2, rfl, l1, l2⟩ := lnt2 l
  unfold gSub at e
  split at e
  · rename_i a b ez
    cases ez
    cases e
    rw [lnt_int l1] at rx
    rw [lnt_int l2] at ry
    exact op_sub pins s σ H _ _ v u Q I rx ry ⟨a, b, rfl, rfl, q _ H (.old (.int _))⟩
  · cases e
theorem o_mul : OpR X (binaryOp .Mult) (r2 X.K gMul) := by
  intro pins s σ H x y v u Q I rx ry ⟨F, ds, o, sF, l, e, q⟩
  obtain ⟨d1, d2, rfl, l1, l2⟩ := lnt2 l
  unfold gMul at e
  split at e
  · rename_i a b ez
    cases ez
    obtain ⟨hc, rfl⟩ := if_some e
    rw [lnt_int l1] at rx
    rw [lnt_int l2] at ry
    refine op_mul pins s σ H _ _ v u Q I rx ry ⟨a, b, rfl, rfl, ?_, q _ H (.old (.int _))⟩
    rcases hc with hc | hc
    · exact .inl (by omega)
    · exact .inr (by omega)
  · rename_i a b ez
    cases ez
    obtain ⟨hc, rfl⟩ := if_some e
    obtain ⟨hc, hz⟩ := hc
    obtain ⟨p1, v1, rfl, h1, t1⟩ := lnt_list sF l1
    rw [lnt_int l2] at ry
    cases rx
    obtain ⟨t, rfl⟩ := ry
    obtain ⟨z, its, n, r, hl, eo⟩ := rd_list I h1
    have hl1 := da_length t1
    have hlen : its.toArray.size * b.toNat ≤ sizeLine := by rw [List.size_toArray, ← hl, hl1]; exact hz
    have hcap : ¬ its.toArray.size * b.toNat > (2 ^ 63 - 1) / 8 := by
      have : (sizeLine : Nat) ≤ (2 ^ 63 - 1) / 8 := by decide
      omega
    have hfit : ¬ (!Builtin.List.listFitsIndex b) = true := by
      rw [fitsIndex_both (by omega) (by omega)]
      exact Bool.false_ne_true
    have hlong : ¬ Builtin.List.listTooLong (its.toArray.size * b.toNat) = true := by
      rw [notLongL hlen]
      exact Bool.false_ne_true
    have hnew : List.foldl (fun x1 x2 => x1 ++ x2) #[] (List.replicate (if its.toArray.isEmpty = true then 0 else b.toNat) its.toArray) = (List.replicate b.toNat its).flatten.toArray := by
      cases its with
      | nil => simp
      | cons i it2 =>
        have h0 : ((i :: it2).toArray.isEmpty) = false := rfl
        rw [h0]
        simp only [Bool.false_eq_true, if_false]
        exact size_rep _ _
    refine wpAny_binaryOp_repeat_ref (T := "list") (U := "int") (by decide) ⟨_, eo, rfl⟩ (fun s' => typeIs_int s' b t) noFill_list_mul PySem.F.fills_int_mul PySem.F.slot_int_rmul repeat_list PySem.F.slot_int_index.lookup
      (call_meets PySem.F.slot_int_rmul (typeIs_int s b t) PySem.F.entry_int_rmul (PySem.F.args_int_rmul_2 _ _) (int___rmul___int_list b t p1 its.toArray n)
        ⟨eo, rfl, ⟨_, eo, rfl⟩, call_meets PySem.F.slot_list_mul ⟨_, eo, rfl⟩ PySem.F.entry_list_mul (PySem.F.args_list_mul_2 _ _)
          (AutoListH.list___mul___list_int_3 p1 its.toArray n b t hfit hcap hlong) ⟨eo, ?_⟩⟩)
    rw [hnew]
    exact ⟨.ref _, _, I.lnew (t' := s.toks) (r.rep b.toNat) (by rw [lm_len_rep_flat, hl1, Nat.mul_comm]; exact hz), rfl, q _ _ (.lst I.fresh (da_rep t1 b.toNat))⟩
  · rename_i a b ez
    cases ez
    obtain ⟨hc, rfl⟩ := if_some e
    obtain ⟨ha, h2, h3, hn⟩ := hc
    obtain ⟨p1, v1, rfl, h1, t1⟩ := lnt_tuple l1
    rw [lnt_int l2] at ry
    refine op_repT pins s σ H _ _ v u Q I rx ry ⟨p1, b, v1, rfl, rfl, same_tup sF h1, fun z => hn ((trAll_nil t1).mp z), h2, h3, by rw [da_length t1]; exact ha, fun p hp => q _ _ (.tup hp (da_rep t1 _))⟩
  · cases e
theorem o_fdiv : OpR X (binaryOp .FloorDiv) (r2 X.K gFdiv) := by
  intro pins s σ H x y v u Q I rx ry ⟨F, ds, o, sF, l, e, q⟩
  obtain ⟨d1, d2, rfl, l1, l2⟩ := lnt2 l
  unfold gFdiv at e
  split at e
  · rename_i a b ez
    cases ez
    obtain ⟨hc, rfl⟩ := if_some e
    rw [lnt_int l1] at rx
    rw [lnt_int l2] at ry
    refine op_fdivW pins s σ H _ _ v u Q I rx ry ⟨a, b, rfl, rfl, wide_div (b := 200) hc.1 ?_ (by decide) (by decide), q _ H (.old (.int _))⟩
    have h0 : (b.natAbs : Int) = b := Int.natAbs_of_nonneg (by omega)
    have h1 : (b.natAbs : Int) < ((2 ^ 200 : Nat) : Int) := by
      rw [h0]
      exact_mod_cast hc.2
    exact_mod_cast h1
  · cases e
theorem o_mod : OpR X (binaryOp .Mod) (r2 X.K gMod) := by
  intro pins s σ H x y v u Q I rx ry ⟨F, ds, o, sF, l, e, q⟩
  obtain ⟨d1, d2, rfl, l1, l2⟩ := lnt2 l
  unfold gMod at e
  split at e
  · rename_i a b ez
    cases ez
    obtain ⟨hc, rfl⟩ := if_some e
    rw [lnt_int l1] at rx
    rw [lnt_int l2] at ry
    exact op_mod pins s σ H _ _ v u Q I rx ry ⟨a, b, rfl, rfl, hc, q _ H (.old (.int _))⟩
  · cases e
theorem o_pow : OpR X (binaryOp .Pow) (r2 X.K gPow) := by
  intro pins s σ H x y v u Q I rx ry ⟨F, ds, o, sF, l, e, q⟩
  obtain ⟨d1, d2, rfl, l1, l2⟩ := lnt2 l
  unfold gPow at e
  split at e
  · rename_i a b ez
    cases ez
    obtain ⟨hc, rfl⟩ := if_some e
    rw [lnt_int l1] at rx
    rw [lnt_int l2] at ry
    exact op_pow pins s σ H _ _ v u Q I rx ry ⟨a, b, rfl, rfl, hc, q _ H (.old (.int _))⟩
  · cases e
end

/-! ### comparisons -/
def flat2 (a b : D) : Bool := decide (a.depth ≤ 64) || decide (b.depth ≤ 64)
def gEq : List D → Option O
  | [a, b] => if flat2 a b = true then some (.val (.bool (PyData.eqv a b))) else none
  | _ => none
def gNe : List D → Option O
  | [a, b] => if flat2 a b = true then some (.val (.bool (!PyData.eqv a b))) else none
  | _ => none
def ordOk (a b : D) : Bool := flat2 a b && PySem.W.alike a b && (match a with | .none => false | _ => true)
def gLt : List D → Option O
  | [a, b] => if ordOk a b = true then some (.val (.bool (PySem.W.dataLt a b))) else none
  | _ => none
def gGt : List D → Option O
  | [a, b] => if ordOk a b = true then some (.val (.bool (PySem.W.dataLt b a))) else none
  | _ => none
def gLe : List D → Option O
  | [a, b] => if ordOk a b = true then some (.val (.bool (!PySem.W.dataLt b a))) else none
  | _ => none
def gGe : List D → Option O
  | [a, b] => if ordOk a b = true then some (.val (.bool (!PySem.W.dataLt a b))) else none
  | _ => none
def gIn : List D → Option O
  | [x, .list xs] => if (decide (PyData.depthAll xs ≤ 64) || decide (x.depth ≤ 64)) = true then some (.val (.bool (xs.any fun y => PyData.eqv y x))) else none
  | [x, .tuple xs] => if (decide (PyData.depthAll xs ≤ 64) || decide (x.depth ≤ 64)) = true then some (.val (.bool (xs.any fun y => PyData.eqv y x))) else none
  | [.str x, .str y] => some (.val (.bool (!(Builtin.Str.occurrences y x 0 y.length 1).isEmpty)))
  | _ => none
def gNotIn : List D → Option O
  | [x, .list xs] => if (decide (PyData.depthAll xs ≤ 64) || decide (x.depth ≤ 64)) = true then some (.val (.bool (!xs.any fun y => PyData.eqv y x))) else none
  | [x, .tuple xs] => if (decide (PyData.depthAll xs ≤ 64) || decide (x.depth ≤ 64)) = true then some (.val (.bool (!xs.any fun y => PyData.eqv y x))) else none
  | [.str x, .str y] => some (.val (.bool (!(!(Builtin.Str.occurrences y x 0 y.length 1).isEmpty))))
  | _ => none
def isNone : D → Bool
  | .none => true
  | _ => false
def gIsN : List D → Option O
  | [a] => some (.val (.bool (isNone a)))
  | _ => none
def gNotN : List D → Option O
  | [a] => some (.val (.bool (!isNone a)))
  | _ => none
section
variable {X : Cx}
theorem flat_le {a b : D} (h : flat2 a b = true) : min a.depth b.depth ≤ 64 := by
  unfold flat2 at h
  rw [Bool.or_eq_true, decide_eq_true_eq, decide_eq_true_eq] at h
  omega
theorem o_eq (hu : X.A.units + 100 < cLine) : OpR X (compareOp .Eq) (r2 X.K gEq) := by
  intro pins s σ H x y v u Q I rx ry ⟨F, ds, o, sF, l, e, q⟩
  obtain ⟨d1, d2, rfl, l1, l2⟩ := lnt2 l
  obtain ⟨hc, rfl⟩ := if_some e
  obtain ⟨⟨as, r1⟩, p1⟩ := lnt_reads I sF l1 rx
  obtain ⟨⟨bs, r2⟩, p2⟩ := lnt_reads I sF l2 ry
  have := flat_le hc
  exact SeqAt.eq_plain r1 r2 p1 p2 (by omega) (fin_bool I q)
theorem o_ne (hu : X.A.units + 100 < cLine) : OpR X (compareOp .NotEq) (r2 X.K gNe) := by
  intro pins s σ H x y v u Q I rx ry ⟨F, ds, o, sF, l, e, q⟩
  obtain ⟨d1, d2, rfl, l1, l2⟩ := lnt2 l
  obtain ⟨hc, rfl⟩ := if_some e
  obtain ⟨⟨as, r1⟩, p1⟩ := lnt_reads I sF l1 rx
  obtain ⟨⟨bs, r2⟩, p2⟩ := lnt_reads I sF l2 ry
  have := flat_le hc
  exact SeqAt.ne_plain r1 r2 p1 p2 (by omega) (fin_bool I q)
theorem ord_of {a b : D} (h : ordOk a b = true) : min a.depth b.depth ≤ 64 ∧ PySem.W.alike a b = true ∧ a ≠ .none := by
  unfold ordOk at h
  rw [Bool.and_eq_true, Bool.and_eq_true] at h
  obtain ⟨⟨h1, h2⟩, h3⟩ := h
  exact ⟨flat_le h1, h2, fun z => by rw [z] at h3; cases h3⟩
theorem o_lt (hu : X.A.units + 100 < cLine) : OpR X (compareOp .Lt) (r2 X.K gLt) := by
  intro pins s σ H x y v u Q I rx ry ⟨F, ds, o, sF, l, e, q⟩
  obtain ⟨d1, d2, rfl, l1, l2⟩ := lnt2 l
  obtain ⟨hc, rfl⟩ := if_some e
  obtain ⟨⟨as, r1⟩, p1⟩ := lnt_reads I sF l1 rx
  obtain ⟨⟨bs, r2⟩, p2⟩ := lnt_reads I sF l2 ry
  obtain ⟨h1, h2, h3⟩ := ord_of hc
  exact PySem.W.lt_data r1 r2 h2 h3 (by omega) (fin_bool I q)
theorem o_gt (hu : X.A.units + 100 < cLine) : OpR X (compareOp .Gt) (r2 X.K gGt) := by
  intro pins s σ H x y v u Q I rx ry ⟨F, ds, o, sF, l, e, q⟩
  obtain ⟨d1, d2, rfl, l1, l2⟩ := lnt2 l
  obtain ⟨hc, rfl⟩ := if_some e
  obtain ⟨⟨as, r1⟩, p1⟩ := lnt_reads I sF l1 rx
  obtain ⟨⟨bs, r2⟩, p2⟩ := lnt_reads I sF l2 ry
  obtain ⟨h1, h2, h3⟩ := ord_of hc
  exact PySem.W.gt_data r1 r2 h2 h3 (by omega) (fin_bool I q)
theorem o_le (hu : X.A.units + 100 < cLine) : OpR X (compareOp .LtE) (r2 X.K gLe) := by
  intro pins s σ H x y v u Q I rx ry ⟨F, ds, o, sF, l, e, q⟩
  obtain ⟨d1, d2, rfl, l1, l2⟩ := lnt2 l
  obtain ⟨hc, rfl⟩ := if_some e
  obtain ⟨⟨as, r1⟩, p1⟩ := lnt_reads I sF l1 rx
  obtain ⟨⟨bs, r2⟩, p2⟩ := lnt_reads I sF l2 ry
  obtain ⟨h1, h2, h3⟩ := ord_of hc
  exact PySem.W.le_data r1 r2 h2 h3 (by omega) (fin_bool I q)
theorem o_ge (hu : X.A.units + 100 < cLine) : OpR X (compareOp .GtE) (r2 X.K gGe) := by
  intro pins s σ H x y v u Q I rx ry ⟨F, ds, o, sF, l, e, q⟩
  obtain ⟨d1, d2, rfl, l1, l2⟩ := lnt2 l
  obtain ⟨hc, rfl⟩ := if_some e
  obtain ⟨⟨as, r1⟩, p1⟩ := lnt_reads I sF l1 rx
  obtain ⟨⟨bs, r2⟩, p2⟩ := lnt_reads I sF l2 ry
  obtain ⟨h1, h2, h3⟩ := ord_of hc
  exact PySem.W.ge_data r1 r2 h2 h3 (by omega) (fin_bool I q)
theorem o_in (hu : X.A.units + 100 < cLine) : OpR X (compareOp .In) (r2 X.K gIn) := by
  intro pins s σ H x y v u Q I rx ry ⟨F, ds, o, sF, l, e, q⟩
  obtain ⟨d1, d2, rfl, l1, l2⟩ := lnt2 l
  obtain ⟨⟨as, r1⟩, p1⟩ := lnt_reads I sF l1 rx
  obtain ⟨⟨bs, r2⟩, p2⟩ := lnt_reads I sF l2 ry
  unfold gIn at e
  split at e
  · rename_i a xs ez
    cases ez
    obtain ⟨hc, rfl⟩ := if_some e
    rw [Bool.or_eq_true, decide_eq_true_eq, decide_eq_true_eq] at hc
    rw [PyData.plain] at p2
    exact SeqAt.in_list_data r2 r1 p2 p1 (by omega) (fin_bool I q)
  · rename_i a xs ez
    cases ez
    obtain ⟨hc, rfl⟩ := if_some e
    rw [Bool.or_eq_true, decide_eq_true_eq, decide_eq_true_eq] at hc
    rw [PyData.plain] at p2
    exact SeqAt.in_tuple_data r2 r1 p2 p1 (by omega) (fin_bool I q)
  · rename_i a b ez
    cases ez
    cases e
    rw [lnt_str l1] at rx
    rw [lnt_str l2] at ry
    exact op_in_str pins s σ H _ _ v u Q I rx ry ⟨a, b, rfl, rfl, q _ H (.old (.bl _))⟩
  · cases e
theorem o_notIn (hu : X.A.units + 100 < cLine) : OpR X (compareOp .NotIn) (r2 X.K gNotIn) := by
  intro pins s σ H x y v u Q I rx ry ⟨F, ds, o, sF, l, e, q⟩
  obtain ⟨d1, d2, rfl, l1, l2⟩ := lnt2 l
  obtain ⟨⟨as, r1⟩, p1⟩ := lnt_reads I sF l1 rx
  obtain ⟨⟨bs, r2⟩, p2⟩ := lnt_reads I sF l2 ry
  unfold gNotIn at e
  split at e
  · rename_i a xs ez
    cases ez
    obtain ⟨hc, rfl⟩ := if_some e
    rw [Bool.or_eq_true, decide_eq_true_eq, decide_eq_true_eq] at hc
    rw [PyData.plain] at p2
    exact SeqAt.notIn_list_data r2 r1 p2 p1 (by omega) (fin_bool I q)
  · rename_i a xs ez
    cases ez
    obtain ⟨hc, rfl⟩ := if_some e
    rw [Bool.or_eq_true, decide_eq_true_eq, decide_eq_true_eq] at hc
    rw [PyData.plain] at p2
    exact SeqAt.notIn_tuple_data r2 r1 p2 p1 (by omega) (fin_bool I q)
  · rename_i a b ez
    cases ez
    cases e
    rw [lnt_str l1] at rx
    rw [lnt_str l2] at ry
    exact op_notIn_str pins s σ H _ _ v u Q I rx ry ⟨a, b, rfl, rfl, q _ H (.old (.bl _))⟩
  · cases e
/-- is None: the right side is written -/
theorem o_isN : OpR X (compareOp .Is) (fun x y H Q => y = .non ∧ rG X.K gIsN [x] H Q) := by
  intro pins s σ H x y v u Q I rx ry ⟨hy, F, ds, o, sF, l, e, q⟩
  obtain ⟨d1, rfl, l1⟩ := lnt1 l
  cases e
  refine op_isN pins s σ H x y v u Q I rx ry ⟨hy, ?_⟩
  have eb : decide (x = .non) = isNone d1 := by
    rcases l1 with l1 | ⟨a, vs, ds, rfl, rfl, _, _⟩
    · cases l1 <;> first | rfl | exact decide_eq_false (fun z => nomatch z)
    · exact decide_eq_false (fun z => nomatch z)
  rw [eb]
  exact q _ H (.old (.bl _))
theorem o_notN : OpR X (compareOp .IsNot) (fun x y H Q => y = .non ∧ rG X.K gNotN [x] H Q) := by
  intro pins s σ H x y v u Q I rx ry ⟨hy, F, ds, o, sF, l, e, q⟩
  obtain ⟨d1, rfl, l1⟩ := lnt1 l
  cases e
  refine op_notN pins s σ H x y v u Q I rx ry ⟨hy, ?_⟩
  have eb : (!decide (x = .non)) = !isNone d1 := by
    rcases l1 with l1 | ⟨a, vs, ds, rfl, rfl, _, _⟩
    · cases l1 <;> first | rfl | (rw [decide_eq_false (fun z => nomatch z)]; rfl)
    · rw [decide_eq_false (fun z => nomatch z)]
      rfl
  rw [eb]
  exact q _ H (.old (.bl _))
end

/-! ### the expressions -/
section
variable {X : Cx} {a b : Expr} {ma mb : MR} {pos : Pos}
theorem rfAll1 {K : PySem.W.Frag} {F : Hp} {σ : L2.St} {v : V} {r : Rf} (h : RfAt K F σ v r) : RfAll K F σ [v] [r] := ⟨h, trivial⟩
theorem rfAll2 {K : PySem.W.Frag} {F : Hp} {σ : L2.St} {v w : V} {r t : Rf} (h : RfAt K F σ v r) (h' : RfAt K F σ w t) : RfAll K F σ [v, w] [r, t] := ⟨h, h', trivial⟩
theorem op2_done {K : PySem.W.Frag} {g : List D → Option O} {σ : L2.St} {H : Hp} {Q : VK} (h : tO np K (mOp g [ma, mb]) σ H Q) : tOp (r2 K g) (tR np K ma) (tR np K mb) σ H Q := by
  obtain ⟨F, G, s, ps, R, o, s', hm, q⟩ := h
  obtain ⟨⟨rs, s1⟩, h1, h2⟩ := bind_some hm
  obtain ⟨ds, h3, h4⟩ := bind_some h2
  obtain ⟨o', h5, h6⟩ := map_some h4
  cases h6
  obtain ⟨⟨ra, sa⟩, e1, e2⟩ := bind_some h1
  obtain ⟨⟨rs', sb⟩, e3, e4⟩ := map_some e2
  cases e4
  obtain ⟨⟨rb, sb'⟩, e5, e6⟩ := bind_some e3
  obtain ⟨⟨rs'', sc⟩, e7, e8⟩ := map_some e6
  cases e7
  cases e8
  refine ⟨F, G, s, ps, R, ra, sa, e1, fun v H1 F1 ps1 R1 s01 hv => ⟨F1, G, sa, ps1, R1, rb, sb', e5, fun w H2 F2 ps2 R2 s12 hw => ⟨F2, ds, o, R2.sF, looks_lnt R2 (rfAll2 (rfAt_mono s12 hv) hw) h3, h5, fun z H3 out => ?_⟩⟩⟩
  obtain ⟨F3, as, R3, s23, own, nd, new⟩ := out.rel R2
  exact q z H3 F3 ps2 as R3 ((s01.trans s12).trans s23) own nd new
theorem e_bin {op : Operator} {g : List D → Option O} (ho : OpR X (binaryOp op) (r2 X.K g)) (ha : PE X a (tR np X.K ma)) (hb : PE X b (tR np X.K mb)) : PE X (.BinOp a op b pos) (tO np X.K (mOp g [ma, mb])) :=
  pe_imp (pe_op ho ha hb) fun _ _ _ => op2_done
theorem e_cmp {op : CmpOp} {g : List D → Option O} (ho : OpR X (compareOp op) (r2 X.K g)) (ha : PE X a (tR np X.K ma)) (hb : PE X b (tR np X.K mb)) (hm : behindInMarks op b = false := by first | exact nomark _ | rfl) : PE X (.Compare a [op] [b] pos) (tO np X.K (mOp g [ma, mb])) :=
  pe_imp (pe_cmpR ho ha hb hm) fun _ _ _ => op2_done
theorem e_isN {p : Pos} {j : Nat} (ha : PE X a (tR np X.K ma)) : PE X (.Compare a [.Is] [.Constant .none j p] pos) (tO np X.K (mOp gIsN [ma])) :=
  pe_imp (pe_cmpR o_isN ha pe_non (nomark _)) fun σ H Q ⟨F, G, s, ps, R, o, s', hm, q⟩ => by
    obtain ⟨⟨rs, s1⟩, h1, h2⟩ := bind_some hm
    obtain ⟨ds, h3, h4⟩ := bind_some h2
    obtain ⟨o', h5, h6⟩ := map_some h4
    cases h6
    obtain ⟨⟨ra, sa⟩, e1, e2⟩ := bind_some h1
    obtain ⟨⟨rs', sb⟩, e3, e4⟩ := map_some e2
    cases e3
    cases e4
    refine ⟨F, G, s, ps, R, ra, sa, e1, fun v H1 F1 ps1 R1 s01 hv => ⟨rfl, F1, ds, o, R1.sF, looks_lnt R1 (rfAll1 hv) h3, h5, fun z H3 out => ?_⟩⟩
    obtain ⟨F3, as, R3, s23, own, nd, new⟩ := out.rel R1
    exact q z H3 F3 ps1 as R3 (s01.trans s23) own nd new
theorem e_notN {p : Pos} {j : Nat} (ha : PE X a (tR np X.K ma)) : PE X (.Compare a [.IsNot] [.Constant .none j p] pos) (tO np X.K (mOp gNotN [ma])) :=
  pe_imp (pe_cmpR o_notN ha pe_non (nomark _)) fun σ H Q ⟨F, G, s, ps, R, o, s', hm, q⟩ => by
    obtain ⟨⟨rs, s1⟩, h1, h2⟩ := bind_some hm
    obtain ⟨ds, h3, h4⟩ := bind_some h2
    obtain ⟨o', h5, h6⟩ := map_some h4
    cases h6
    obtain ⟨⟨ra, sa⟩, e1, e2⟩ := bind_some h1
    obtain ⟨⟨rs', sb⟩, e3, e4⟩ := map_some e2
    cases e3
    cases e4
    refine ⟨F, G, s, ps, R, ra, sa, e1, fun v H1 F1 ps1 R1 s01 hv => ⟨rfl, F1, ds, o, R1.sF, looks_lnt R1 (rfAll1 hv) h3, h5, fun z H3 out => ?_⟩⟩
    obtain ⟨F3, as, R3, s23, own, nd, new⟩ := out.rel R1
    exact q z H3 F3 ps1 as R3 (s01.trans s23) own nd new
end
end Dv

/-! Displays, subscripts, slices, sorted, built-ins, tests. -/
namespace Dv
open PySem PySem.Spec PyProof.Rows L2
variable {np : Nat}

/-! ### displays -/
def dsOf : List Rf → Option (List D)
  | [] => some []
  | .d x :: rs => (dsOf rs).map fun ds => x :: ds
  | .s _ :: _ => none
def vTup (ms : List MR) : MV := fun s => (evR ms s).bind fun p => (dsOf p.1).map fun ds => (.tuple ds, p.2)
def oLst (ms : List MR) : MO := fun s => (evR ms s).bind fun p => (dsOf p.1).map fun ds => (.lst ds, p.2)
theorem dsOf_tr {K : PySem.W.Frag} {F : Hp} {σ : L2.St} : ∀ {vs : List V} {rs : List Rf} {ds : List D}, RfAll K F σ vs rs → dsOf rs = some ds → TrAll K F vs ds
  | [], [], ds, _, e => by
    cases e
    exact .nil
  | v :: vs, .d x :: rs, ds, h, e => by
    obtain ⟨ds', h3, h4⟩ := map_some e
    cases h4
    exact .cons h.1 (dsOf_tr h.2 h3)
  | v :: vs, .s i :: rs, ds, h, e => by cases e
  | [], _ :: _, _, h, _ => h.elim
  | _ :: _, [], _, h, _ => h.elim
theorem evR_len : ∀ {ms : List MR} {s : S} {rs : List Rf} {s' : S}, evR ms s = some (rs, s') → rs.length = ms.length
  | [], _, _, _, e => by
    cases e
    rfl
  | m :: ms, s, rs, s', e => by
    obtain ⟨⟨r, s1⟩, h1, h2⟩ := bind_some e
    obtain ⟨⟨rs', s2⟩, h3, h4⟩ := map_some h2
    cases h4
    exact congrArg (· + 1) (evR_len h3)
section
variable {X : Cx} {es : List Expr} {ms : List MR} {pos : Pos}
theorem e_tup {x1 : Nat} (h : PA X es (tA np X.K ms)) (hl : ms.length ≤ sizeLine := by decide) : PE X (.Tuple es x1 pos) (tV np X.K (vTup ms)) :=
  pe_imp (pe_tup h) fun σ H Q ⟨F, G, s, ps, R, d, s', hm, q⟩ => by
    obtain ⟨⟨rs, s1⟩, h1, h2⟩ := bind_some hm
    obtain ⟨ds, h3, h4⟩ := map_some h2
    cases h4
    refine ⟨F, G, s, ps, R, rs, s1, h1, fun vs H1 F1 ps1 R1 s01 hv => ⟨?_, fun p hp => ?_⟩⟩
    · rw [rfAll_len hv, evR_len h1]
      exact hl
    · obtain ⟨R2, s12⟩ := R1.laid (o := .tup vs) hp
      exact q _ _ _ ps1 R2 (s01.trans s12) (.tup (SqT.of upd_same) (dpAll_mono s12 ds (dsOf_tr hv h3)))
theorem e_lst (h : PA X es (tA np X.K ms)) (hl : ms.length ≤ sizeLine := by decide) : PE X (.List es pos) (tO np X.K (oLst ms)) :=
  pe_imp (pe_lst h) fun σ H Q ⟨F, G, s, ps, R, o, s', hm, q⟩ => by
    obtain ⟨⟨rs, s1⟩, h1, h2⟩ := bind_some hm
    obtain ⟨ds, h3, h4⟩ := map_some h2
    cases h4
    refine ⟨F, G, s, ps, R, rs, s1, h1, fun vs H1 F1 ps1 R1 s01 hv => ⟨?_, fun p hp => ?_⟩⟩
    · rw [rfAll_len hv, evR_len h1]
      exact hl
    · obtain ⟨R2, n1, n2, n3⟩ := R1.new (o := .lst vs) hp
      refine q _ _ _ ps1 [p] R2 s01 ⟨p, vs, rfl, upd_same, dsOf_tr hv h3, rfl⟩ (by simp) fun a ha => ?_
      rw [List.mem_singleton.mp ha]
      exact ⟨n1, n2, n3⟩
end

/-! ### subscripts -/
def gIx : List D → Option O
  | [.list xs, .int i] => (atI xs i).map O.val
  | [.tuple xs, .int i] => (atI xs i).map O.val
  | [.str x, .int i] => if x.length ≤ sizeLine then (atI x.cps.toList i).map fun c => O.val (.str ⟨#[c]⟩) else none
  | _ => none
theorem atI_tr {K : PySem.W.Frag} {F : Hp} {vs : List V} {ds : List D} {i : Int} {d : D} (h : TrAll K F vs ds) (e : atI ds i = some d) : ∃ v, atI vs i = some v ∧ Tr K F v d := by
  unfold atI at e ⊢
  obtain ⟨j, h1, h2⟩ := bind_some e
  obtain ⟨v, h3, h4⟩ := da_get h h2
  rw [da_length h, h1]
  exact ⟨v, h3, h4⟩
theorem o_ix {X : Cx} : IxR X (r2 X.K gIx) := by
  intro value slice pins s σ H x y v u Q I rx ry ⟨F, ds, o, sF, l, e, q⟩ hs
  obtain ⟨d1, d2, rfl, l1, l2⟩ := lnt2 l
  unfold gIx at e
  split at e
  · rename_i xs i ez
    cases ez
    obtain ⟨d, e1, rfl⟩ := map_some e
    obtain ⟨p, vs, rfl, h1, t1⟩ := lnt_list sF l1
    obtain ⟨w', h2, h3⟩ := atI_tr t1 e1
    exact ix_list value slice pins s σ H _ _ v u Q I rx ry ⟨p, vs, i, w', rfl, lnt_int l2, h1.sq, h2, q _ H (.old h3)⟩ hs
  · rename_i xs i ez
    cases ez
    obtain ⟨d, e1, rfl⟩ := map_some e
    obtain ⟨p, vs, rfl, h1, t1⟩ := lnt_tuple l1
    obtain ⟨w', h2, h3⟩ := atI_tr t1 e1
    exact ix_tup value slice pins s σ H _ _ v u Q I rx ry ⟨p, vs, i, w', rfl, lnt_int l2, same_tup sF h1, h2, q _ H (.old h3)⟩ hs
  · rename_i z i ez
    cases ez
    split at e
    · rename_i hz
      obtain ⟨c, e1, rfl⟩ := map_some e
      exact ix_str value slice pins s σ H _ _ v u Q I rx ry ⟨z, i, c, lnt_str l1, lnt_int l2, hz, e1, q _ H (.old (.str _))⟩ hs
    · cases e
  · cases e
section
variable {X : Cx} {a b : Expr} {ma mb : MR} {pos : Pos}
theorem e_ix (ha : PE X a (tR np X.K ma)) (hb : PE X b (tR np X.K mb)) (hs : PlainIx b := by exact fun _ _ => rfl) : PE X (.Subscript a b pos) (tO np X.K (mOp gIx [ma, mb])) :=
  pe_imp (pe_ix o_ix ha hb hs) fun _ _ _ => op2_done
end
/-- a slice, of any sequence -/
def cutG {α : Type} (xs : List α) (lo hi : Option Int) : List α := (xs.drop (HT.sIx xs.length 0 lo)).take (HT.sIx xs.length xs.length hi - HT.sIx xs.length 0 lo)
def gSl (lo hi : Option Int) : D → Option O
  | .list xs => some (.lst (cutG xs lo hi))
  | .tuple xs => some (.val (.tuple (cutG xs lo hi)))
  | _ => none
theorem cut_tr {K : PySem.W.Frag} {F : Hp} {vs : List V} {ds : List D} (h : TrAll K F vs ds) (lo hi : Option Int) : TrAll K F (cutV vs lo hi) (cutG ds lo hi) := by
  unfold cutV cutG
  rw [da_length h]
  exact da_take _ (da_drop _ h)
theorem cut_whole {α : Type} {xs : List α} {lo hi : Option Int} (h : HT.sIx xs.length 0 lo = 0 ∧ HT.sIx xs.length xs.length hi = xs.length) : cutG xs lo hi = xs := by
  unfold cutG
  rw [h.1, h.2, List.drop_zero, Nat.sub_zero, List.take_length]
def rSlG (K : PySem.W.Frag) : V → Option Int → Option Int → Hp → VK → Prop := fun x lo hi H Q => ∃ F d o, Same F H ∧ Lnt K F H x d ∧ gSl lo hi d = some o ∧ ∀ v H', Out K F H o v H' → Q v H'
theorem o_sl {X : Cx} : SlR X (rSlG X.K) := by
  intro pins s σ H x v vl vu lo hi sl Q I rx hs pl pu ⟨F, d, o, sF, l, e, q⟩
  unfold gSl at e
  split at e
  · cases e
    rename_i xs
    obtain ⟨p, vs, rfl, h1, t1⟩ := lnt_list sF l
    exact sl_list pins s σ H _ v vl vu lo hi sl Q I rx hs pl pu ⟨p, vs, rfl, h1.sq, fun p' hp => q _ _ (.lst hp (cut_tr t1 lo hi))⟩
  · cases e
    rename_i xs
    obtain ⟨p, vs, rfl, h1, t1⟩ := lnt_tuple l
    refine sl_tupA pins s σ H _ v vl vu lo hi sl Q I rx hs pl pu ⟨p, vs, rfl, same_tup sF h1, fun z => ?_, fun _ p' hp => q _ _ (.tup hp (cut_tr t1 lo hi))⟩
    rw [da_length t1] at z
    rw [cut_whole z] at q
    exact q _ H (.old (.tup h1 t1))
  · cases e
/-- a part of a slice -/
abbrev MP := S → Option (Option Int × S)
def pNo : MP := fun s => some (none, s)
def pSome (m : MV) : MP := fun s => (m s).bind fun p => match p.1 with
  | .int i => some (some i, p.2)
  | _ => none
def tP (np : Nat) (K : PySem.W.Frag) (m : MP) : TO := fun σ H Q => ∃ F G s ps, Rel np K F G s σ H ps ∧ ∃ i s', m s = some (i, s') ∧ ∀ H' F' ps', Rel np K F' G s' σ H' ps' → Same F F' → Q i H'
def oSl (m : MR) (lo hi : MP) : MO := fun s => (m s).bind fun p => (lo p.2).bind fun a => (hi a.2).bind fun b => (p.1.look b.2).bind fun d => (gSl a.1 b.1 d).map fun o => (o, b.2)
section
variable {X : Cx} {e : Expr} {pos p2 : Pos}
theorem po_imp {e : Option Expr} {t t' : TO} (h : PO X e t) (i : ∀ σ H Q, t' σ H Q → t σ H Q) : PO X e t' := ⟨fun pins s σ H Q I q => h.run pins s σ H Q I (i σ H Q q)⟩
theorem p_no : PO X none (tP np X.K pNo) := po_imp po_none fun σ H Q ⟨F, G, s, ps, R, i, s', hm, q⟩ => by
  cases hm
  exact q H F ps R (Same.refl F)
theorem p_some {m : MV} (h : PE X e (tV np X.K m)) : PO X (some e) (tP np X.K (pSome m)) := po_imp (po_some h) fun σ H Q ⟨F, G, s, ps, R, i, s', hm, q⟩ => by
  obtain ⟨⟨d, s1⟩, h1, h2⟩ := bind_some hm
  cases d with
  | int k =>
    cases h2
    refine ⟨F, G, s, ps, R, _, s1, h1, fun v H1 F1 ps1 R1 s01 hv => ⟨k, ?_, q H1 F1 ps1 R1 s01⟩⟩
    cases hv
    rfl
  | _ => cases h2
theorem e_sl {lo hi : Option Expr} {m : MR} {ml mh : MP} (h : PE X e (tR np X.K m)) (hl : PO X lo (tP np X.K ml)) (hh : PO X hi (tP np X.K mh)) : PE X (.Subscript e (.Slice lo hi none p2) pos) (tO np X.K (oSl m ml mh)) :=
  pe_imp (pe_slice o_sl h hl hh) fun σ H Q ⟨F, G, s, ps, R, o, s', hm, q⟩ => by
    obtain ⟨⟨r, s1⟩, h1, h2⟩ := bind_some hm
    obtain ⟨⟨a, s2⟩, h3, h4⟩ := bind_some h2
    obtain ⟨⟨b, s3⟩, h5, h6⟩ := bind_some h4
    obtain ⟨d, h7, h8⟩ := bind_some h6
    obtain ⟨o', h9, h10⟩ := map_some h8
    cases h10
    refine ⟨F, G, s, ps, R, r, s1, h1, fun v H1 F1 ps1 R1 s01 hv => ⟨F1, G, s1, ps1, R1, a, s2, h3, fun H2 F2 ps2 R2 s12 => ⟨F2, G, s2, ps2, R2, b, s3, h5, fun H3 F3 ps3 R3 s23 => ?_⟩⟩⟩
    refine ⟨F3, d, o, R3.sF, look_lnt R3 (rfAt_mono (s12.trans s23) hv) h7, h9, fun w H4 out => ?_⟩
    obtain ⟨F4, as, R4, s34, own, nd, new⟩ := out.rel R3
    exact q w H4 F4 ps3 as R4 (((s01.trans s12).trans s23).trans s34) own nd new
end

/-! ### sorted -/
def ins {α : Type} (le : α → α → Bool) (x : α) : List α → List α
  | [] => [x]
  | y :: ys => if le x y = true then x :: y :: ys else y :: ins le x ys
def isort {α : Type} (le : α → α → Bool) : List α → List α
  | [] => []
  | x :: xs => ins le x (isort le xs)
section
variable {α : Type} {le : α → α → Bool}
theorem ins_mem {x y : α} : ∀ {l : List α}, y ∈ ins le x l ↔ y = x ∨ y ∈ l
  | [] => by simp [ins]
  | z :: l => by
    unfold ins
    split
    · simp
    · rw [List.mem_cons, ins_mem (l := l), List.mem_cons]
      constructor
      · rintro (h | h | h)
        · exact .inr (.inl h)
        · exact .inl h
        · exact .inr (.inr h)
      · rintro (h | h | h)
        · exact .inr (.inl h)
        · exact .inl h
        · exact .inr (.inr h)
theorem ins_len (x : α) : ∀ l : List α, (ins le x l).length = l.length + 1
  | [] => rfl
  | y :: l => by
    unfold ins
    split
    · rfl
    · rw [List.length_cons, ins_len x l, List.length_cons]
theorem isort_len : ∀ l : List α, (isort le l).length = l.length
  | [] => rfl
  | x :: l => by
    unfold isort
    rw [ins_len, isort_len l, List.length_cons]
theorem isort_mem {y : α} : ∀ {l : List α}, y ∈ isort le l ↔ y ∈ l
  | [] => Iff.rfl
  | x :: l => by
    unfold isort
    rw [ins_mem, isort_mem (l := l), List.mem_cons]
theorem ins_pw (h : PySem.W.TotalLe le) (x : α) : ∀ l : List α, l.Pairwise (fun a b => le a b = true) → (ins le x l).Pairwise (fun a b => le a b = true)
  | [], _ => by simp [ins]
  | y :: l, hp => by
    obtain ⟨h1, h2⟩ := List.pairwise_cons.mp hp
    unfold ins
    split
    · rename_i hxy
      refine List.pairwise_cons.mpr ⟨fun z hz => ?_, hp⟩
      rcases List.mem_cons.mp hz with e | hz
      · rw [e]
        exact hxy
      · exact h.trans x y z hxy (h1 z hz)
    · rename_i hxy
      refine List.pairwise_cons.mpr ⟨fun z hz => ?_, ins_pw h x l h2⟩
      rcases ins_mem.mp hz with e | hz
      · rw [e]
        exact (h.total x y).resolve_left hxy
      · exact h1 z hz
theorem isort_pw (h : PySem.W.TotalLe le) : ∀ l : List α, (isort le l).Pairwise (fun a b => le a b = true)
  | [] => .nil
  | x :: l => ins_pw h x _ (isort_pw h l)
theorem ins_filter (h : PySem.W.TotalLe le) (c x : α) : ∀ l : List α, l.Pairwise (fun a b => le a b = true) → (ins le x l).filter (PySem.W.sameRank le c) = (x :: l).filter (PySem.W.sameRank le c)
  | [], _ => rfl
  | y :: l, hp => by
    obtain ⟨h1, h2⟩ := List.pairwise_cons.mp hp
    unfold ins
    split
    · rfl
    · rename_i hxy
      rw [List.filter_cons, ins_filter h c x l h2]
      by_cases cx : PySem.W.sameRank le c x = true
      · have cy : ¬ PySem.W.sameRank le c y = true := fun cy => by
          unfold PySem.W.sameRank at cx cy
          rw [Bool.and_eq_true] at cx cy
          exact hxy (h.trans x c y cx.2 cy.1)
        rw [if_neg cy, List.filter_cons, if_pos cx, List.filter_cons, if_pos cx, List.filter_cons, if_neg cy]
      · rw [List.filter_cons, if_neg cx, List.filter_cons, if_neg cx, List.filter_cons]
theorem isort_filter (h : PySem.W.TotalLe le) (c : α) : ∀ l : List α, (isort le l).filter (PySem.W.sameRank le c) = l.filter (PySem.W.sameRank le c)
  | [] => rfl
  | x :: l => by
    unfold isort
    rw [ins_filter h c x _ (isort_pw h l), List.filter_cons, isort_filter h c l, List.filter_cons]
theorem isort_merge (h : PySem.W.TotalLe le) (l : List α) : isort le l = l.mergeSort le := PySem.W.sort_unique h (isort_pw h l) fun c => isort_filter h c l
end
def dLe (a b : D) : Bool := !PySem.W.dataLt b a
theorem dLe_eq : dLe = PySem.W.dataLe false (fun d : D => d) := by
  rw [PySem.W.dataLe_eq]
  rfl
theorem dLe_total : PySem.W.TotalLe dLe := by
  rw [dLe_eq]
  exact PySem.W.sortLe_total _ _ _
def isTup1 : D → Bool
  | .tuple (_ :: _) => true
  | _ => false
def isAtom : D → Bool
  | .none => false
  | .tuple _ => false
  | _ => true
def sortOk (xs : List D) : Bool := (xs.all fun a => xs.all fun b => PySem.W.alike a b) && (xs.all isTup1 || xs.all isAtom) && (xs.all fun a => decide (a.depth ≤ 64))
def sortD (xs : List D) : List D := isort dLe xs
def gSorted : List D → Option O
  | [.list xs] => if sortOk xs = true then some (.lst (sortD xs)) else none
  | _ => none
theorem sortOk_is {xs : List D} (h : sortOk xs = true) : PySem.W.AllAlike xs ∧ PySem.W.Sortable xs ∧ ∀ d ∈ xs, d.depth ≤ 64 := by
  unfold sortOk at h
  rw [Bool.and_eq_true, Bool.and_eq_true] at h
  obtain ⟨⟨h1, h2⟩, h3⟩ := h
  refine ⟨fun d hd e he => List.all_eq_true.mp (List.all_eq_true.mp h1 d hd) e he, ?_, fun d hd => of_decide_eq_true (List.all_eq_true.mp h3 d hd)⟩
  rw [Bool.or_eq_true] at h2
  rcases h2 with h2 | h2
  · refine .inl fun d hd => ?_
    have q := List.all_eq_true.mp h2 d hd
    unfold isTup1 at q
    split at q
    · exact ⟨_, _, rfl⟩
    · cases q
  · refine .inr fun d hd => ?_
    have q := List.all_eq_true.mp h2 d hd
    refine ⟨fun e => ?_, fun xs e => ?_⟩
    · rw [e] at q
      cases q
    · rw [e] at q
      cases q
section
variable {X : Cx}
theorem vals_each {K : PySem.W.Frag} {F : Hp} : ∀ {vs : List V} {us : List Value} {ds : List D}, Vals vs us → TrAll K F vs ds → PySem.W.EachIs (fun u d => ∃ v, RelV v u ∧ Tr K F v d) us ds
  | [], _, _, .nil, .nil => .nil
  | _ :: _, _, _, .cons r t, .cons h q => .cons ⟨_, r, h⟩ (vals_each t q)
theorem each_vals {K : PySem.W.Frag} {F : Hp} : ∀ {us : List Value} {ds : List D}, PySem.W.EachIs (fun u d => ∃ v, RelV v u ∧ Tr K F v d) us ds → ∃ vs, Vals vs us ∧ TrAll K F vs ds
  | _, _, .nil => ⟨[], .nil, .nil⟩
  | _, _, .cons ⟨v, r, h⟩ t => by
    obtain ⟨vs, q1, q2⟩ := each_vals t
    exact ⟨v :: vs, .cons r q1, .cons h q2⟩
theorem each_reads {pins : List (Addr × Obj)} {σ : L2.St} {H F : Hp} {s : Shared} (I : Inv X pins σ H s) (sF : Same F H) : ∀ {us : List Value} {ds : List D}, PySem.W.EachIs (fun u d => ∃ v, RelV v u ∧ Tr X.K F v d) us ds → PySem.W.EachIs (fun u d => ∃ as, Reads s.heap u d as) us ds
  | _, _, .nil => .nil
  | _, _, .cons ⟨v, r, h⟩ t => .cons (Dp.reads I _ _ _ (tr_dp _ (dp_mono sF _ h)) r) (each_reads I sF t)
theorem c_sorted (hu : X.A.units + 100 < cLine) : CallR X (.builtin "sorted") (rG X.K gSorted) := by
  intro pins s σ H vs us Q I r ⟨F, ds, o, sF, l, e, q⟩
  unfold gSorted at e
  split at e
  · rename_i xs
    obtain ⟨hc, rfl⟩ := if_some e
    match vs, l with
    | [v], l =>
      obtain ⟨p, ws, rfl, h1, t1⟩ := lnt_list sF l.1
      rw [Vals.ref1 r]
      obtain ⟨z, its, n, r1, hl, o1⟩ := rd_list I h1
      obtain ⟨al, so, dp⟩ := sortOk_is hc
      have ev := vals_each r1 t1
      have hlen := da_length t1
      refine PySem.W.sorted_data (vs := its) (bs := xs) (enc := fun d => d) (R := fun u d => ∃ v, RelV v u ∧ Tr X.K F v d) ⟨_, o1, rfl, n, rfl⟩ ev (each_reads I sF ev) (by simpa using al) (by simpa using so) (by omega) (fun d hd => by have := dp d hd; omega) fun out hout eo => ?_
      rw [← dLe_eq, ← isort_merge dLe_total] at eo
      obtain ⟨ws', r2, t2⟩ := each_vals eo
      obtain ⟨n2, e2⟩ := PyProof.Rows.sortedAll_at s.heap its out.toArray
      have hf : H (s.heap.objs.size + 1) = none := I.hok.fresh (Nat.le_succ _)
      have hl2 : ws'.length = xs.length := by rw [da_length t2]; exact isort_len xs
      refine ⟨.ref (s.heap.objs.size + 1), _, I.laid (t' := s.toks) (o := .lst ws') (fun b u eb => PyProof.Rows.sortedAll_old eb) (Nat.le_succ _) ⟨by omega, out, n2, r2, e2⟩, rfl, q _ _ (.lst hf t2)⟩
    | [], l => exact l.elim
    | _ :: _ :: _, l => exact l.2.elim
  · cases e
end
end Dv

/-! Built-in calls, tests, and, or, not. -/
namespace Dv
open PySem PySem.Spec PyProof.Rows L2
variable {np : Nat}

/-! ### built-ins by data -/
def gLen : List D → Option O
  | [.list xs] => some (.val (.int xs.length))
  | [.tuple xs] => some (.val (.int xs.length))
  | [.str x] => if x.length ≤ sizeLine then some (.val (.int x.length)) else none
  | _ => none
def gInt : List D → Option O
  | [.int i] => some (.val (.int i))
  | [.bool b] => some (.val (.int (if b then 1 else 0)))
  | _ => none
def gAbs : List D → Option O
  | [.int i] => some (.val (.int (if i < 0 then -i else i)))
  | _ => none
def gList : List D → Option O
  | [.list xs] => some (.lst xs)
  | [.tuple xs] => some (.lst xs)
  | _ => none
def gTuple : List D → Option O
  | [.list xs] => some (.val (.tuple xs))
  | [.tuple xs] => some (.val (.tuple xs))
  | _ => none
/-- a value's truth, where the model serves it -/
def truthD : D → Option Bool
  | .none => some false
  | .bool b => some b
  | .int n => some (n != 0)
  | .str x => if x.length ≤ sizeLine then some ((x.length : Int) != 0) else none
  | .list xs => some (!xs.isEmpty)
  | .tuple xs => some (!xs.isEmpty)
  | .dict _ => none
def truths : List D → Option (List Bool)
  | [] => some []
  | d :: ds => (truthD d).bind fun b => (truths ds).map fun bs => b :: bs
def gAll : List D → Option O
  | [.list xs] => (truths xs).map fun bs => .val (.bool (bs.all id))
  | [.tuple xs] => (truths xs).map fun bs => .val (.bool (bs.all id))
  | _ => none
def gAny : List D → Option O
  | [.list xs] => (truths xs).map fun bs => .val (.bool (bs.any id))
  | [.tuple xs] => (truths xs).map fun bs => .val (.bool (bs.any id))
  | _ => none
def intsD : List D → Option (List Int)
  | [] => some []
  | .int i :: ds => (intsD ds).map fun is => i :: is
  | _ => none
def gSum : List D → Option O
  | [.list xs] => (intsD xs).map fun is => .val (.int is.sum)
  | _ => none
def gMax2 : List D → Option O
  | [.int a, .int b] => some (.val (.int (if b > a then b else a)))
  | _ => none
def gMin2 : List D → Option O
  | [.int a, .int b] => some (.val (.int (if b < a then b else a)))
  | _ => none
section
variable {X : Cx} {pins : List (Addr × Obj)} {σ : L2.St} {H F : Hp} {s : Shared}
theorem tr_len (I : Inv X pins σ H s) (sF : Same F H) {v : V} {d : D} (h : Tr X.K F v d) : (∀ xs, d = .list xs → xs.length ≤ sizeLine) ∧ ∀ xs, d = .tuple xs → xs.length ≤ sizeLine := by
  refine ⟨fun xs e => ?_, fun xs e => ?_⟩
  · subst e
    cases h with
    | lst h1 h2 =>
      obtain ⟨its, r, _, z⟩ := I.list (lsk_mono sF h1).sq
      rw [← da_length h2]
      exact z
  · subst e
    cases h with
    | tup h1 h2 =>
      obtain ⟨its, r, _, z⟩ := I.tuple (same_tup sF h1)
      rw [← da_length h2]
      exact z
theorem truthD_is (I : Inv X pins σ H s) (sF : Same F H) {v : V} {d : D} {b : Bool} (t : Tr X.K F v d) (h : truthD d = some b) : d.truthy = b ∧ d.fits63 := by
  obtain ⟨t1, t2⟩ := tr_len I sF t
  have := line63
  cases d with
  | str x =>
    obtain ⟨h1, h2⟩ := if_some h
    exact ⟨h2, by show (x.length : Int) < 2 ^ 63; omega⟩
  | list xs =>
    cases h
    have := t1 xs rfl
    exact ⟨rfl, by show (xs.length : Int) < 2 ^ 63; omega⟩
  | tuple xs =>
    cases h
    have := t2 xs rfl
    exact ⟨rfl, by show (xs.length : Int) < 2 ^ 63; omega⟩
  | none => cases h; exact ⟨rfl, trivial⟩
  | bool b => cases h; exact ⟨rfl, trivial⟩
  | int n => cases h; exact ⟨rfl, trivial⟩
  | dict _ => cases h
theorem truths_is (I : Inv X pins σ H s) (sF : Same F H) : ∀ {vs : List V} {ds : List D} {bs : List Bool}, TrAll X.K F vs ds → truths ds = some bs → ds.map PyData.truthy = bs ∧ ∀ d ∈ ds, d.fits63
  | _, [], _, _, e => by
    cases e
    exact ⟨rfl, fun d hd => nomatch hd⟩
  | _, d :: ds, bs, .cons t ts, e => by
    obtain ⟨b, h1, h2⟩ := bind_some e
    obtain ⟨bs', h3, h4⟩ := map_some h2
    cases h4
    obtain ⟨e1, f1⟩ := truthD_is I sF t h1
    obtain ⟨e2, f2⟩ := truths_is I sF ts h3
    refine ⟨by rw [List.map_cons, e1, e2], fun x hx => ?_⟩
    rcases List.mem_cons.mp hx with e | hx
    · rw [e]
      exact f1
    · exact f2 x hx
/-- a value's truth by the abstract heap -/
theorem truV_is (sF : Same F H) {v : V} {d : D} {b : Bool} (t : Lnt X.K F H v d) (h : truthD d = some b) : TruV X.K v H b := by
  cases d with
  | none =>
    rw [lnt_none t]
    cases h
    rfl
  | bool b =>
    rw [lnt_bool t]
    cases h
    rfl
  | int n =>
    rw [lnt_int t]
    cases h
    rfl
  | str x =>
    rw [lnt_str t]
    obtain ⟨h1, h2⟩ := if_some h
    exact ⟨h1, h2.symm⟩
  | list xs =>
    obtain ⟨p, vs, rfl, h1, t1⟩ := lnt_list sF t
    cases h
    refine .inl ⟨vs, h1.sq, ?_⟩
    cases t1 <;> rfl
  | tuple xs =>
    obtain ⟨p, vs, rfl, h1, t1⟩ := lnt_tuple t
    cases h
    refine .inr (.inl ⟨vs, same_tup sF h1, ?_⟩)
    cases t1 <;> rfl
  | dict _ => cases h
end
theorem intsD_is {K : PySem.W.Frag} {F : Hp} : ∀ {vs : List V} {ds : List D} {is : List Int}, TrAll K F vs ds → intsD ds = some is → vs = is.map V.int
  | _, [], _, h, e => by
    cases e
    cases h
    rfl
  | _, .int i :: ds, is, h, e => by
    obtain ⟨is', h3, h4⟩ := map_some e
    cases h4
    cases h with
    | cons t ts =>
      cases t
      rw [intsD_is ts h3]
      rfl
  | _, .none :: _, _, _, e => by cases e
  | _, .bool _ :: _, _, _, e => by cases e
  | _, .str _ :: _, _, _, e => by cases e
  | _, .list _ :: _, _, _, e => by cases e
  | _, .tuple _ :: _, _, _, e => by cases e
  | _, .dict _ :: _, _, _, e => by cases e
section
variable {X : Cx}
theorem one_arg {K : PySem.W.Frag} {F H : Hp} {vs : List V} {d : D} (l : LntAll K F H vs [d]) : ∃ v, vs = [v] ∧ Lnt K F H v d := by
  match vs, l with
  | [v], l => exact ⟨v, rfl, l.1⟩
  | [], l => exact l.elim
  | _ :: _ :: _, l => exact l.2.elim
theorem two_args {K : PySem.W.Frag} {F H : Hp} {vs : List V} {d e : D} (l : LntAll K F H vs [d, e]) : ∃ v w, vs = [v, w] ∧ Lnt K F H v d ∧ Lnt K F H w e := by
  match vs, l with
  | [v, w], l => exact ⟨v, w, rfl, l.1, l.2.1⟩
  | [], l => exact l.elim
  | [_], l => exact l.2.elim
  | _ :: _ :: _ :: _, l => exact l.2.2.elim
theorem c_len : CallR X (.builtin "len") (rG X.K gLen) := by
  intro pins s σ H vs us Q I r ⟨F, ds, o, sF, l, e, q⟩
  unfold gLen at e
  split at e
  · rename_i xs
    cases e
    obtain ⟨v, rfl, l1⟩ := one_arg l
    obtain ⟨p, ws, rfl, h1, t1⟩ := lnt_list sF l1
    exact call_len pins s σ H _ us Q I r ⟨_, xs.length, rfl, .inl ⟨ws, h1.sq, (da_length t1).symm⟩, q _ H (.old (.int _))⟩
  · rename_i xs
    cases e
    obtain ⟨v, rfl, l1⟩ := one_arg l
    obtain ⟨p, ws, rfl, h1, t1⟩ := lnt_tuple l1
    exact call_len pins s σ H _ us Q I r ⟨_, xs.length, rfl, .inr ⟨ws, same_tup sF h1, (da_length t1).symm⟩, q _ H (.old (.int _))⟩
  · rename_i x
    obtain ⟨hc, rfl⟩ := if_some e
    obtain ⟨v, rfl, l1⟩ := one_arg l
    rw [lnt_str l1] at r
    exact call_len pins s σ H _ us Q I r ⟨_, x.length, rfl, ⟨hc, rfl⟩, q _ H (.old (.int _))⟩
  · cases e
theorem c_int : CallR X (.type "int") (rG X.K gInt) := by
  intro pins s σ H vs us Q I r ⟨F, ds, o, sF, l, e, q⟩
  unfold gInt at e
  split at e
  · cases e
    obtain ⟨v, rfl, l1⟩ := one_arg l
    exact call_int1 pins s σ H _ us Q I r (.inl ⟨_, by rw [lnt_int l1], q _ H (.old (.int _))⟩)
  · cases e
    obtain ⟨v, rfl, l1⟩ := one_arg l
    exact call_int1 pins s σ H _ us Q I r (.inr ⟨_, by rw [lnt_bool l1], q _ H (.old (.int _))⟩)
  · cases e
theorem c_abs : CallR X (.builtin "abs") (rG X.K gAbs) := by
  intro pins s σ H vs us Q I r ⟨F, ds, o, sF, l, e, q⟩
  unfold gAbs at e
  split at e
  · cases e
    obtain ⟨v, rfl, l1⟩ := one_arg l
    exact call_abs pins s σ H _ us Q I r ⟨_, by rw [lnt_int l1], q _ H (.old (.int _))⟩
  · cases e
theorem c_list : CallR X (.type "list") (rG X.K gList) := by
  intro pins s σ H vs us Q I r ⟨F, ds, o, sF, l, e, q⟩
  unfold gList at e
  split at e
  · cases e
    obtain ⟨v, rfl, l1⟩ := one_arg l
    obtain ⟨p, ws, rfl, h1, t1⟩ := lnt_list sF l1
    exact call_list_of pins s σ H _ us Q I r ⟨p, ws, rfl, .inl h1.sq, fun p' hp => q _ _ (.lst hp t1)⟩
  · cases e
    obtain ⟨v, rfl, l1⟩ := one_arg l
    obtain ⟨p, ws, rfl, h1, t1⟩ := lnt_tuple l1
    exact call_list_of pins s σ H _ us Q I r ⟨p, ws, rfl, .inr (same_tup sF h1), fun p' hp => q _ _ (.lst hp t1)⟩
  · cases e
theorem c_tuple : CallR X (.type "tuple") (rG X.K gTuple) := by
  intro pins s σ H vs us Q I r ⟨F, ds, o, sF, l, e, q⟩
  unfold gTuple at e
  split at e
  · cases e
    obtain ⟨v, rfl, l1⟩ := one_arg l
    obtain ⟨p, ws, rfl, h1, t1⟩ := lnt_list sF l1
    exact call_tuple_of pins s σ H _ us Q I r ⟨p, ws, rfl, .inl ⟨h1.sq, fun p' hp => q _ _ (.tup hp t1)⟩⟩
  · cases e
    obtain ⟨v, rfl, l1⟩ := one_arg l
    obtain ⟨p, ws, rfl, h1, t1⟩ := lnt_tuple l1
    exact call_tuple_of pins s σ H _ us Q I r ⟨p, ws, rfl, .inr ⟨same_tup sF h1, q _ H (.old (.tup h1 t1))⟩⟩
  · cases e
/-- the items of a walked list, read -/
theorem reads_items (I : Inv X pins σ H s) : True := trivial
theorem rd_reads {pins : List (Addr × Obj)} {σ : L2.St} {H F : Hp} {s : Shared} (I : Inv X pins σ H s) (sF : Same F H) {ws : List V} {its : List Value} {xs : List D} (r : Vals ws its) (t : TrAll X.K F ws xs) : ∃ as, ReadsAll s.heap its xs as :=
  Dp.readsAll I xs ws its (trAll_dp xs (dpAll_mono sF xs t)) r
theorem c_all (hc : X.calm = true) : CallR X (.builtin "all") (rG X.K gAll) := by
  intro pins s σ H vs us Q I r ⟨F, ds, o, sF, l, e, q⟩
  unfold gAll at e
  split at e
  · rename_i xs
    obtain ⟨bs, e1, rfl⟩ := map_some e
    obtain ⟨v, rfl, l1⟩ := one_arg l
    obtain ⟨p, ws, rfl, h1, t1⟩ := lnt_list sF l1
    rw [Vals.ref1 r]
    obtain ⟨z, its, n, r1, hl, o1⟩ := rd_list I h1
    obtain ⟨as, rs⟩ := rd_reads I sF r1 t1
    obtain ⟨e2, f2⟩ := truths_is I sF t1 e1
    refine PySem.W.all_list_data (I.ok.hd hc) (vs := its.toArray) ⟨_, o1, rfl, n, rfl⟩ (by simpa using rs) (dpAll_plain xs t1) f2 fun h' tk hk => ?_
    refine ⟨.bl _, H, I.kept (t' := tk) hk, rfl, ?_⟩
    rw [show xs.all PyData.truthy = bs.all id by rw [← e2, List.all_map] <;> rfl]
    exact q _ H (.old (.bl _))
  · rename_i xs
    obtain ⟨bs, e1, rfl⟩ := map_some e
    obtain ⟨v, rfl, l1⟩ := one_arg l
    obtain ⟨p, ws, rfl, h1, t1⟩ := lnt_tuple l1
    rw [Vals.ref1 r]
    obtain ⟨its, r1, p1, z⟩ := I.tuple (same_tup sF h1)
    obtain ⟨as, rs⟩ := rd_reads I sF r1 t1
    obtain ⟨e2, f2⟩ := truths_is I sF t1 e1
    refine PySem.W.all_tuple_data (I.ok.hd hc) (vs := its.toArray) p1 (by simpa using rs) (dpAll_plain xs t1) f2 fun h' tk hk => ?_
    refine ⟨.bl _, H, I.kept (t' := tk) hk, rfl, ?_⟩
    rw [show xs.all PyData.truthy = bs.all id by rw [← e2, List.all_map] <;> rfl]
    exact q _ H (.old (.bl _))
  · cases e
theorem c_any (hc : X.calm = true) : CallR X (.builtin "any") (rG X.K gAny) := by
  intro pins s σ H vs us Q I r ⟨F, ds, o, sF, l, e, q⟩
  unfold gAny at e
  split at e
  · rename_i xs
    obtain ⟨bs, e1, rfl⟩ := map_some e
    obtain ⟨v, rfl, l1⟩ := one_arg l
    obtain ⟨p, ws, rfl, h1, t1⟩ := lnt_list sF l1
    rw [Vals.ref1 r]
    obtain ⟨z, its, n, r1, hl, o1⟩ := rd_list I h1
    obtain ⟨as, rs⟩ := rd_reads I sF r1 t1
    obtain ⟨e2, f2⟩ := truths_is I sF t1 e1
    refine PySem.W.any_list_data (I.ok.hd hc) (vs := its.toArray) ⟨_, o1, rfl, n, rfl⟩ (by simpa using rs) (dpAll_plain xs t1) f2 fun h' tk hk => ?_
    refine ⟨.bl _, H, I.kept (t' := tk) hk, rfl, ?_⟩
    rw [show xs.any PyData.truthy = bs.any id by rw [← e2, List.any_map] <;> rfl]
    exact q _ H (.old (.bl _))
  · rename_i xs
    obtain ⟨bs, e1, rfl⟩ := map_some e
    obtain ⟨v, rfl, l1⟩ := one_arg l
    obtain ⟨p, ws, rfl, h1, t1⟩ := lnt_tuple l1
    rw [Vals.ref1 r]
    obtain ⟨its, r1, p1, z⟩ := I.tuple (same_tup sF h1)
    obtain ⟨as, rs⟩ := rd_reads I sF r1 t1
    obtain ⟨e2, f2⟩ := truths_is I sF t1 e1
    refine PySem.W.any_tuple_data (I.ok.hd hc) (vs := its.toArray) p1 (by simpa using rs) (dpAll_plain xs t1) f2 fun h' tk hk => ?_
    refine ⟨.bl _, H, I.kept (t' := tk) hk, rfl, ?_⟩
    rw [show xs.any PyData.truthy = bs.any id by rw [← e2, List.any_map] <;> rfl]
    exact q _ H (.old (.bl _))
  · cases e
theorem c_sum (hc : X.calm = true) : CallR X (.builtin "sum") (rG X.K gSum) := by
  intro pins s σ H vs us Q I r ⟨F, ds, o, sF, l, e, q⟩
  unfold gSum at e
  split at e
  · rename_i xs
    obtain ⟨is, e1, rfl⟩ := map_some e
    obtain ⟨v, rfl, l1⟩ := one_arg l
    obtain ⟨p, ws, rfl, h1, t1⟩ := lnt_list sF l1
    exact cr_sum hc pins s σ H _ us Q I r ⟨p, is, rfl, by rw [← intsD_is t1 e1]; exact h1.sq, q _ H (.old (.int _))⟩
  · cases e
theorem c_max2 (hc : X.calm = true) : CallR X (.builtin "max") (rG X.K gMax2) := by
  intro pins s σ H vs us Q I r ⟨F, ds, o, sF, l, e, q⟩
  unfold gMax2 at e
  split at e
  · cases e
    obtain ⟨v, w', rfl, l1, l2⟩ := two_args l
    exact call_max2 hc pins s σ H _ us Q I r ⟨_, _, by rw [lnt_int l1, lnt_int l2], q _ H (.old (.int _))⟩
  · cases e
theorem c_min2 (hc : X.calm = true) : CallR X (.builtin "min") (rG X.K gMin2) := by
  intro pins s σ H vs us Q I r ⟨F, ds, o, sF, l, e, q⟩
  unfold gMin2 at e
  split at e
  · cases e
    obtain ⟨v, w', rfl, l1, l2⟩ := two_args l
    exact call_min2 hc pins s σ H _ us Q I r ⟨_, _, by rw [lnt_int l1, lnt_int l2], q _ H (.old (.int _))⟩
  · cases e
end

/-! ### a built-in called -/
section
variable {X : Cx} {x : Str} {p pos : Pos} {e : Expr} {es : List Expr} {ms : List MR} {id T : String} {g : List D → Option O}
theorem e_callB (hc : CallR X (.builtin id) (rG X.K g)) (hg : Gl X x) (hm : X.mg x = none) (hv : bootBuiltins x = some (.builtin id)) (ha : PA X (e :: es) (tA np X.K ms)) (hn : x ≠ "__name__" := by decide) (hdb : (x == ("__debug__" : Str)) = false := by decide)
    (he : starEach (e :: es) X.env = (false, eval e X.env) :: starEach es X.env := by rfl) (hpl : (backTo pos (starEach es X.env)).any (·.1) = false := by rfl) : PE X (.Call (.Name x p) (e :: es) [] pos) (tO np X.K (mOp g ms)) :=
  pe_imp (pe_callB hc hg hm hv ha hn hdb he hpl) fun _ _ _ => op_done
theorem e_callT (hc : CallR X (.type T) (rG X.K g)) (hg : Gl X x) (hm : X.mg x = none) (hv : bootBuiltins x = some (.type T)) (ha : PA X (e :: es) (tA np X.K ms)) (hn : x ≠ "__name__" := by decide) (hdb : (x == ("__debug__" : Str)) = false := by decide)
    (he : starEach (e :: es) X.env = (false, eval e X.env) :: starEach es X.env := by rfl) (hpl : (backTo pos (starEach es X.env)).any (·.1) = false := by rfl) : PE X (.Call (.Name x p) (e :: es) [] pos) (tO np X.K (mOp g ms)) :=
  pe_imp (pe_callTy hc hg hm hv ha hn hdb he hpl) fun _ _ _ => op_done
end

/-! ### isinstance -/
inductive Ty where
  | list | tuple | bool | str | int
def Ty.nm : Ty → String
  | .list => "list"
  | .tuple => "tuple"
  | .bool => "bool"
  | .str => "str"
  | .int => "int"
def isTy : Ty → D → Bool
  | .list, d => d.isList
  | .tuple, d => d.isTuple
  | .bool, d => d.isBool
  | .str, d => d.isStr
  | .int, d => d.isInt
def vIsi (T : Ty) (m : MR) : MV := fun s => (m s).bind fun p => (p.1.look p.2).map fun d => (.bool (isTy T d), p.2)
section
variable {X : Cx}
def rIsi (K : PySem.W.Frag) (T : Ty) : List V → Hp → VK → Prop := fun vs H Q => ∃ v d F, vs = [v, .ty T.nm] ∧ Same F H ∧ Lnt K F H v d ∧ Q (.bl (isTy T d)) H
theorem c_isi (T : Ty) : CallR X (.builtin "isinstance") (rIsi X.K T) := by
  intro pins s σ H vs us Q I r ⟨v, d, F, ev, sF, l, q⟩
  subst ev
  obtain ⟨u, w', rfl, r1, r2⟩ := r.two
  obtain rfl : w' = Value.type T.nm := r2
  obtain ⟨⟨as, rd⟩, _⟩ := lnt_reads I sF l r1
  have fin : ∀ tk, s.toks ≤ tk → EP X pins σ Q (.bool (isTy T d)) { s with toks := tk } := fun tk _ => ⟨.bl _, H, I.tok tk, rfl, q⟩
  cases T with
  | list => exact PySem.W.isinstance_list_data rd fin
  | tuple => exact PySem.W.isinstance_tuple_data rd fin
  | bool => exact PySem.W.isinstance_bool_data rd fin
  | str => exact PySem.W.isinstance_str_data rd fin
  | int => exact PySem.W.isinstance_int_data rd fin
theorem e_isi {e : Expr} (T : Ty) {x y : Str} {p p2 pos : Pos} {m : MR} (h : PE X e (tR np X.K m)) (hg : Gl X x) (hm : X.mg x = none) (hv : bootBuiltins x = some (.builtin "isinstance")) (hg2 : Gl X y) (hm2 : X.mg y = none) (hv2 : bootBuiltins y = some (.type T.nm))
    (hn : x ≠ "__name__" := by decide) (hdb : (x == ("__debug__" : Str)) = false := by decide) (hn2 : y ≠ "__name__" := by decide) (hdb2 : (y == ("__debug__" : Str)) = false := by decide)
    (he : starEach (e :: [.Name y p2]) X.env = (false, eval e X.env) :: starEach [.Name y p2] X.env := by rfl) (he2 : starEach [.Name y p2] X.env = (false, eval (.Name y p2) X.env) :: starEach [] X.env := by rfl) (hpl : (backTo pos (starEach [.Name y p2] X.env)).any (·.1) = false := by rfl) :
    PE X (.Call (.Name x p) [e, .Name y p2] [] pos) (tV np X.K (vIsi T m)) :=
  pe_imp (pe_callB (c_isi T) hg hm hv (pa_cons h (pa_cons (pe_bltn (v := .ty T.nm) hg2 hm2 hv2 rfl hn2 hdb2) pa_nil he2) he) hn hdb he hpl) fun σ H Q ⟨F, G, s, ps, R, d, s', hm', q⟩ => by
    obtain ⟨⟨r, s1⟩, h1, h2⟩ := bind_some hm'
    obtain ⟨d', h3, h4⟩ := map_some h2
    cases h4
    exact ⟨F, G, s, ps, R, r, s1, h1, fun v H1 F1 ps1 R1 s01 hv => ⟨v, d', F1, rfl, R1.sF, look_lnt R1 hv h3, q _ H1 F1 ps1 R1 s01 (.bl _)⟩⟩
/-- of two classes -/
def vIsi2 (T U : Ty) (m : MR) : MV := fun s => (m s).bind fun p => (p.1.look p.2).map fun d => (.bool (isTy T d || isTy U d), p.2)
def kindName : D → String
  | .none => "NoneType"
  | .bool _ => "bool"
  | .int _ => "int"
  | .str _ => "str"
  | .list _ => "list"
  | .tuple _ => "tuple"
  | .dict _ => "dict"
theorem kind_at {h : Heap} {u : Value} {d : D} {as : List Addr} (r : Reads h u d as) (pl : d.plain = true) (s : Shared) (k : ∀ a o, h.get? a = some o → s.heap.get? a = some o) : s.TypeIs u (kindName d) := by
  cases r with
  | none => first | rfl | trivial
  | bool b => first | rfl | trivial
  | int n t => exact typeIs_int s n t
  | str x t => first | rfl | trivial
  | list h1 h2 h3 h4 => exact ⟨_, k _ _ h1, h2⟩
  | tuple h1 h2 h3 h4 => exact ⟨_, k _ _ h1, h2⟩
  | dict _ _ _ _ _ => cases pl
theorem meta_ty (T : Ty) : typeOf (.type T.nm) = pure (.type "type") := by
  cases T
  · exact PySem.F.isi_meta_list
  · exact PySem.F.isi_meta_tuple
  · exact PySem.F.isi_meta_bool
  · exact PySem.F.isi_meta_str
  · exact PySem.F.isi_meta_int
open PySem in
theorem ne_ty {a b : String} (h : a ≠ b) : (Value.type a == Value.type b) = false := by
  cases e : (Value.type a == Value.type b) with
  | false => rfl
  | true =>
    have q := eq_of_beq e
    injection q with q
    exact absurd q h
theorem ans_NoneType  : ∀ T : Ty, PySem.Answers (fun s => s.TypeIs Value.none "NoneType") Value.none (.type T.nm) (isTy T .none)
  | .list => (show PySem.Answers _ _ (.type "list") false from PySem.Answers.of_false_none (ne_ty (by decide)) PySem.F.isi_meta_list PySem.F.sub_NoneType_list)
  | .tuple => (show PySem.Answers _ _ (.type "tuple") false from PySem.Answers.of_false_none (ne_ty (by decide)) PySem.F.isi_meta_tuple PySem.F.sub_NoneType_tuple)
  | .bool => (show PySem.Answers _ _ (.type "bool") false from PySem.Answers.of_false_none (ne_ty (by decide)) PySem.F.isi_meta_bool PySem.F.sub_NoneType_bool)
  | .str => (show PySem.Answers _ _ (.type "str") false from PySem.Answers.of_false_none (ne_ty (by decide)) PySem.F.isi_meta_str PySem.F.sub_NoneType_str)
  | .int => (show PySem.Answers _ _ (.type "int") false from PySem.Answers.of_false_none (ne_ty (by decide)) PySem.F.isi_meta_int PySem.F.sub_NoneType_int)
theorem ans_bool (b : Bool) : ∀ T : Ty, PySem.Answers (fun s => s.TypeIs (Value.bool b) "bool") (Value.bool b) (.type T.nm) (isTy T (.bool b))
  | .list => (show PySem.Answers _ _ (.type "list") false from PySem.Answers.of_false_bool (ne_ty (by decide)) PySem.F.isi_meta_list PySem.F.sub_bool_list)
  | .tuple => (show PySem.Answers _ _ (.type "tuple") false from PySem.Answers.of_false_bool (ne_ty (by decide)) PySem.F.isi_meta_tuple PySem.F.sub_bool_tuple)
  | .bool => (show PySem.Answers _ _ (.type "bool") true from PySem.Answers.of_true PySem.F.isi_meta_bool PySem.F.sub_bool_bool)
  | .str => (show PySem.Answers _ _ (.type "str") false from PySem.Answers.of_false_bool (ne_ty (by decide)) PySem.F.isi_meta_str PySem.F.sub_bool_str)
  | .int => (show PySem.Answers _ _ (.type "int") true from PySem.Answers.of_true PySem.F.isi_meta_int PySem.F.sub_bool_int)
theorem ans_int (n : Int) (t : Tok) : ∀ T : Ty, PySem.Answers (fun s => s.TypeIs (Value.int n t) "int") (Value.int n t) (.type T.nm) (isTy T (.int n))
  | .list => (show PySem.Answers _ _ (.type "list") false from PySem.Answers.of_false_int (ne_ty (by decide)) PySem.F.isi_meta_list PySem.F.sub_int_list)
  | .tuple => (show PySem.Answers _ _ (.type "tuple") false from PySem.Answers.of_false_int (ne_ty (by decide)) PySem.F.isi_meta_tuple PySem.F.sub_int_tuple)
  | .bool => (show PySem.Answers _ _ (.type "bool") false from PySem.Answers.of_false_int (ne_ty (by decide)) PySem.F.isi_meta_bool PySem.F.sub_int_bool)
  | .str => (show PySem.Answers _ _ (.type "str") false from PySem.Answers.of_false_int (ne_ty (by decide)) PySem.F.isi_meta_str PySem.F.sub_int_str)
  | .int => (show PySem.Answers _ _ (.type "int") true from PySem.Answers.of_true PySem.F.isi_meta_int PySem.F.sub_int_int)
theorem ans_str (x : Str) (t : Tok) : ∀ T : Ty, PySem.Answers (fun s => s.TypeIs (Value.str x t) "str") (Value.str x t) (.type T.nm) (isTy T (.str x))
  | .list => (show PySem.Answers _ _ (.type "list") false from PySem.Answers.of_false_str (ne_ty (by decide)) PySem.F.isi_meta_list PySem.F.sub_str_list)
  | .tuple => (show PySem.Answers _ _ (.type "tuple") false from PySem.Answers.of_false_str (ne_ty (by decide)) PySem.F.isi_meta_tuple PySem.F.sub_str_tuple)
  | .bool => (show PySem.Answers _ _ (.type "bool") false from PySem.Answers.of_false_str (ne_ty (by decide)) PySem.F.isi_meta_bool PySem.F.sub_str_bool)
  | .str => (show PySem.Answers _ _ (.type "str") true from PySem.Answers.of_true PySem.F.isi_meta_str PySem.F.sub_str_str)
  | .int => (show PySem.Answers _ _ (.type "int") false from PySem.Answers.of_false_str (ne_ty (by decide)) PySem.F.isi_meta_int PySem.F.sub_str_int)
theorem ans_list (a : Addr) (xs : List D) : ∀ T : Ty, PySem.Answers (fun s => s.TypeIs (Value.ref a) "list") (Value.ref a) (.type T.nm) (isTy T (.list xs))
  | .list => (show PySem.Answers _ _ (.type "list") true from PySem.Answers.of_true PySem.F.isi_meta_list PySem.F.sub_list_list)
  | .tuple => (show PySem.Answers _ _ (.type "tuple") false from PySem.Answers.of_false_list (ne_ty (by decide)) PySem.F.isi_meta_tuple PySem.F.sub_list_tuple)
  | .bool => (show PySem.Answers _ _ (.type "bool") false from PySem.Answers.of_false_list (ne_ty (by decide)) PySem.F.isi_meta_bool PySem.F.sub_list_bool)
  | .str => (show PySem.Answers _ _ (.type "str") false from PySem.Answers.of_false_list (ne_ty (by decide)) PySem.F.isi_meta_str PySem.F.sub_list_str)
  | .int => (show PySem.Answers _ _ (.type "int") false from PySem.Answers.of_false_list (ne_ty (by decide)) PySem.F.isi_meta_int PySem.F.sub_list_int)
theorem ans_tuple (a : Addr) (xs : List D) : ∀ T : Ty, PySem.Answers (fun s => s.TypeIs (Value.ref a) "tuple") (Value.ref a) (.type T.nm) (isTy T (.tuple xs))
  | .list => (show PySem.Answers _ _ (.type "list") false from PySem.Answers.of_false_tuple (ne_ty (by decide)) PySem.F.isi_meta_list PySem.F.sub_tuple_list)
  | .tuple => (show PySem.Answers _ _ (.type "tuple") true from PySem.Answers.of_true PySem.F.isi_meta_tuple PySem.F.sub_tuple_tuple)
  | .bool => (show PySem.Answers _ _ (.type "bool") false from PySem.Answers.of_false_tuple (ne_ty (by decide)) PySem.F.isi_meta_bool PySem.F.sub_tuple_bool)
  | .str => (show PySem.Answers _ _ (.type "str") false from PySem.Answers.of_false_tuple (ne_ty (by decide)) PySem.F.isi_meta_str PySem.F.sub_tuple_str)
  | .int => (show PySem.Answers _ _ (.type "int") false from PySem.Answers.of_false_tuple (ne_ty (by decide)) PySem.F.isi_meta_int PySem.F.sub_tuple_int)
theorem answers {h : Heap} {u : Value} {d : D} {as : List Addr} (r : Reads h u d as) (pl : d.plain = true) (T : Ty) : PySem.Answers (fun s => s.TypeIs u (kindName d)) u (.type T.nm) (isTy T d) := by
  cases r with
  | none => exact ans_NoneType T
  | bool b => exact ans_bool b T
  | int n t => exact ans_int n t T
  | str x t => exact ans_str x t T
  | list h1 h2 h3 h4 => exact ans_list _ _ T
  | tuple h1 h2 h3 h4 => exact ans_tuple _ _ T
  | dict _ _ _ _ _ => cases pl
theorem vals_ty2' {a b : String} {us : List Value} (r : Vals [V.ty a, V.ty b] us) : us = [Value.type a, Value.type b] := by
  obtain ⟨u, v, rfl, h1, h2⟩ := r.two
  obtain rfl : u = Value.type a := h1
  obtain rfl : v = Value.type b := h2
  rfl
theorem e_isi2 {e : Expr} (T U : Ty) {x y z : Str} {p p2 p3 tpos pos : Pos} {k : Nat} {m : MR} (h : PE X e (tR np X.K m)) (hg : Gl X x) (hm : X.mg x = none) (hv : bootBuiltins x = some (.builtin "isinstance")) (hg2 : Gl X y) (hm2 : X.mg y = none) (hv2 : bootBuiltins y = some (.type T.nm))
    (hg3 : Gl X z) (hm3 : X.mg z = none) (hv3 : bootBuiltins z = some (.type U.nm))
    (hn : x ≠ "__name__" := by decide) (hdb : (x == ("__debug__" : Str)) = false := by decide) (hn2 : y ≠ "__name__" := by decide) (hdb2 : (y == ("__debug__" : Str)) = false := by decide) (hn3 : z ≠ "__name__" := by decide) (hdb3 : (z == ("__debug__" : Str)) = false := by decide)
    (hs1 : starEach [e, .Tuple [.Name y p2, .Name z p3] k tpos] X.env = (false, eval e X.env) :: starEach [.Tuple [.Name y p2, .Name z p3] k tpos] X.env := by rfl)
    (hs2 : starEach [.Tuple [.Name y p2, .Name z p3] k tpos] X.env = (false, eval (.Tuple [.Name y p2, .Name z p3] k tpos) X.env) :: starEach [] X.env := by rfl)
    (hs3 : starEach [.Name y p2, .Name z p3] X.env = (false, eval (.Name y p2) X.env) :: starEach [.Name z p3] X.env := by rfl) (hs4 : starEach [.Name z p3] X.env = (false, eval (.Name z p3) X.env) :: starEach [] X.env := by rfl)
    (hpl : (backTo pos (starEach [.Tuple [.Name y p2, .Name z p3] k tpos] X.env)).any (·.1) = false := by rfl) :
    PE X (.Call (.Name x p) [e, .Tuple [.Name y p2, .Name z p3] k tpos] [] pos) (tV np X.K (vIsi2 T U m)) := by
  have hes : PA X [.Name y p2, .Name z p3] (tCons (tC (.ty T.nm)) (tCons (tC (.ty U.nm)) tNil)) := pa_cons (pe_bltn (v := .ty T.nm) hg2 hm2 hv2 rfl hn2 hdb2) (pa_cons (pe_bltn (v := .ty U.nm) hg3 hm3 hv3 rfl hn3 hdb3) pa_nil hs4) hs3
  refine ⟨fun pins s σ H Q I h0 => ?_⟩
  obtain ⟨F, G, s0, ps, R, d, s', hm', q⟩ := h0
  obtain ⟨⟨r, s1'⟩, h1, h2⟩ := bind_some hm'
  obtain ⟨d', h3, h4⟩ := map_some h2
  cases h4
  refine wpAny_Call_Name_kw (ld_blt I hg hm hv ?_ hn hdb)
  refine PyProof.Rows.callWith_builtin1 ?_ hs1 hpl
  rw [hs1]
  show wpAny _ _ (spliced ((false, eval e X.env) :: backTo pos (starEach [.Tuple [.Name y p2, .Name z p3] k tpos] X.env))) _ _ s
  refine Calls.spliced_cons (thn (h.run pins s σ H (fun v H1 => ∃ F1 ps1, Rel np X.K F1 G s1' σ H1 ps1 ∧ Same F F1 ∧ RfAt X.K F1 σ v r) I ⟨F, G, s0, ps, R, r, s1', h1, fun v H1 F1 ps1 R1 s01 hv => ⟨F1, ps1, R1, s01, hv⟩⟩) fun u st1 ⟨v, H1, I1, r1, F1, ps1, R1, s01, hv⟩ => ?_)
  have hl := look_lnt R1 hv h3
  rw [hs2]
  show wpAny _ _ (spliced ((false, eval (.Tuple [.Name y p2, .Name z p3] k tpos) X.env) :: backTo pos (starEach [] X.env))) _ _ st1
  refine Calls.spliced_cons (wpAny_Tuple_spliced (thn (hes.run tpos pins st1 σ H1 (fun ys H' => ys = [.ty T.nm, .ty U.nm] ∧ H' = H1) I1 ⟨rfl, rfl⟩) fun us st2 ⟨ys, H2, I2, r2, ey, eH⟩ => ?_))
  subst ey
  subst eH
  have eu := vals_ty2' r2
  subst eu
  obtain ⟨⟨as, rd⟩, pl⟩ := lnt_reads I2 R1.sF hl r1
  refine ⟨by show 2 ≤ sizeLine; rw [sizeLine_eq]; omega, ?_⟩
  have I3 : Inv X pins σ H2 { st2 with heap := st2.heap.push { cls := .type "tuple", data := .seq [Value.type T.nm, Value.type U.nm].toArray } } := I2.kept (t' := st2.toks) fun b u e => Heap.get?_push_of_some _ e
  refine Calls.spliced_nil ?_
  refine call_isinstance (isinstance_tuple (x := u) (Tx := kindName d') (tp := st2.heap.objs.size) (cs := [.type T.nm, .type U.nm]) (vs := [isTy T d', isTy U d']) ⟨answers rd pl T, answers rd pl U, True.intro⟩)
    ⟨kind_at rd pl _ fun b o e => Heap.get?_push_of_some _ e, Heap.get?_push_size _ rfl, fun tk => ⟨.bl (isTy T d' || isTy U d'), _, I3.tok tk, ?_, q _ H2 F1 ps1 R1 s01 (.bl _)⟩⟩
  show Value.bool _ = Value.bool _
  simp
end
end Dv

/-! Tests, and, or, not; statements. -/
namespace Dv
open PySem PySem.Spec PyProof.Rows L2
variable {np : Nat}

/-! ### tests -/
def mTru (m : MR) : MB := fun s => (m s).bind fun p => (p.1.look p.2).bind fun d => (truthD d).map fun b => (b, p.2)
def bAnd (a b : MB) : MB := fun s => (a s).bind fun p => if p.1 = true then b p.2 else some (false, p.2)
def bOr (a b : MB) : MB := fun s => (a s).bind fun p => if p.1 = true then some (true, p.2) else b p.2
def bNot (a : MB) : MB := fun s => (a s).map fun p => (!p.1, p.2)
def vAnd (a b : MV) : MV := fun s => (a s).bind fun p => (truthD p.1).bind fun k => if k = true then b p.2 else some p
def vOr (a b : MV) : MV := fun s => (a s).bind fun p => (truthD p.1).bind fun k => if k = true then some p else b p.2
def vNot (a : MR) : MV := fun s => (a s).bind fun p => (p.1.look p.2).bind fun d => (truthD d).map fun k => (.bool (!k), p.2)
def vIf (t : MB) (a b : MV) : MV := fun s => (t s).bind fun p => if p.1 = true then a p.2 else b p.2
def oIf (t : MB) (a b : MO) : MO := fun s => (t s).bind fun p => if p.1 = true then a p.2 else b p.2
section
variable {X : Cx} {e a b c : Expr} {rest : List Expr} {pos : Pos}
theorem t_tru {m : MR} (h : PE X e (tR np X.K m)) (he : ∀ whole, isTrue e X.env whole = (do let v ← whole; standAt e.pos; holding [v] (truthy v)) := by intro _; rfl) : PT X e (tB np X.K (mTru m)) :=
  pt_imp (pt_truth h he) fun σ H Q ⟨F, G, s, ps, R, k, s', hm, q⟩ => by
    obtain ⟨⟨r, s1⟩, h1, h2⟩ := bind_some hm
    obtain ⟨d, h3, h4⟩ := bind_some h2
    obtain ⟨k', h5, h6⟩ := map_some h4
    cases h6
    exact ⟨F, G, s, ps, R, r, s1, h1, fun v H1 F1 ps1 R1 s01 hv => ⟨k, truV_is R1.sF (look_lnt R1 hv h3) h5, q H1 F1 ps1 R1 s01⟩⟩
theorem t_not {m : MB} (h : PT X a (tB np X.K m)) : PT X (.UnaryOp .Not a pos) (tB np X.K (bNot m)) :=
  pt_imp (pt_not h) fun σ H Q ⟨F, G, s, ps, R, k, s', hm, q⟩ => by
    obtain ⟨⟨k', s1⟩, h1, h2⟩ := map_some hm
    cases h2
    exact ⟨F, G, s, ps, R, k', s1, h1, fun H1 F1 ps1 R1 s01 => q H1 F1 ps1 R1 s01⟩
theorem w_and1 {m : MB} (h : PT X a (tB np X.K m)) : PW X (.BoolOp .And [a] pos) (tB np X.K m) := pw_and1 h
theorem w_or1 {m : MB} (h : PT X a (tB np X.K m)) : PW X (.BoolOp .Or [a] pos) (tB np X.K m) := pw_or1 h
theorem w_and {m n : MB} (h : PT X a (tB np X.K m)) (h' : PW X (.BoolOp .And (b :: rest) pos) (tB np X.K n)) : PW X (.BoolOp .And (a :: b :: rest) pos) (tB np X.K (bAnd m n)) :=
  pw_imp (pw_and h h') fun σ H Q ⟨F, G, s, ps, R, k, s', hm, q⟩ => by
    obtain ⟨⟨k1, s1⟩, h1, h2⟩ := bind_some hm
    refine ⟨F, G, s, ps, R, k1, s1, h1, fun H1 F1 ps1 R1 s01 => ?_⟩
    cases k1 with
    | true =>
      rw [if_pos rfl]
      exact ⟨F1, G, s1, ps1, R1, k, s', by rw [if_pos rfl] at h2; exact h2, fun H2 F2 ps2 R2 s12 => q H2 F2 ps2 R2 (s01.trans s12)⟩
    | false =>
      rw [if_neg Bool.false_ne_true]
      rw [if_neg Bool.false_ne_true] at h2
      cases h2
      exact q H1 F1 ps1 R1 s01
theorem w_or {m n : MB} (h : PT X a (tB np X.K m)) (h' : PW X (.BoolOp .Or (b :: rest) pos) (tB np X.K n)) : PW X (.BoolOp .Or (a :: b :: rest) pos) (tB np X.K (bOr m n)) :=
  pw_imp (pw_or h h') fun σ H Q ⟨F, G, s, ps, R, k, s', hm, q⟩ => by
    obtain ⟨⟨k1, s1⟩, h1, h2⟩ := bind_some hm
    refine ⟨F, G, s, ps, R, k1, s1, h1, fun H1 F1 ps1 R1 s01 => ?_⟩
    cases k1 with
    | false =>
      rw [if_neg Bool.false_ne_true]
      exact ⟨F1, G, s1, ps1, R1, k, s', by rw [if_neg Bool.false_ne_true] at h2; exact h2, fun H2 F2 ps2 R2 s12 => q H2 F2 ps2 R2 (s01.trans s12)⟩
    | true =>
      rw [if_pos rfl]
      rw [if_pos rfl] at h2
      cases h2
      exact q H1 F1 ps1 R1 s01
theorem e_one {op : BoolOp} {m : MV} (h : PE X a (tV np X.K m)) : PE X (.BoolOp op [a] pos) (tV np X.K m) := pe_one h
theorem e_and {m n : MV} (h : PE X a (tV np X.K m)) (h' : PE X (.BoolOp .And (b :: rest) pos) (tV np X.K n)) : PE X (.BoolOp .And (a :: b :: rest) pos) (tV np X.K (vAnd m n)) :=
  pe_imp (pe_andT h h') fun σ H Q ⟨F, G, s, ps, R, d, s', hm, q⟩ => by
    obtain ⟨⟨d1, s1⟩, h1, h2⟩ := bind_some hm
    obtain ⟨k, h3, h4⟩ := bind_some h2
    refine ⟨F, G, s, ps, R, d1, s1, h1, fun v H1 F1 ps1 R1 s01 hv => ⟨k, truV_is R1.sF (.inl hv) h3, ?_⟩⟩
    cases k with
    | true =>
      rw [if_pos rfl]
      exact ⟨F1, G, s1, ps1, R1, d, s', by rw [if_pos rfl] at h4; exact h4, fun w' H2 F2 ps2 R2 s12 hw => q w' H2 F2 ps2 R2 (s01.trans s12) hw⟩
    | false =>
      rw [if_neg Bool.false_ne_true]
      rw [if_neg Bool.false_ne_true] at h4
      cases h4
      exact q v H1 F1 ps1 R1 s01 hv
theorem e_or {m n : MV} (h : PE X a (tV np X.K m)) (h' : PE X (.BoolOp .Or (b :: rest) pos) (tV np X.K n)) : PE X (.BoolOp .Or (a :: b :: rest) pos) (tV np X.K (vOr m n)) :=
  pe_imp (pe_orT h h') fun σ H Q ⟨F, G, s, ps, R, d, s', hm, q⟩ => by
    obtain ⟨⟨d1, s1⟩, h1, h2⟩ := bind_some hm
    obtain ⟨k, h3, h4⟩ := bind_some h2
    refine ⟨F, G, s, ps, R, d1, s1, h1, fun v H1 F1 ps1 R1 s01 hv => ⟨k, truV_is R1.sF (.inl hv) h3, ?_⟩⟩
    cases k with
    | false =>
      rw [if_neg Bool.false_ne_true]
      exact ⟨F1, G, s1, ps1, R1, d, s', by rw [if_neg Bool.false_ne_true] at h4; exact h4, fun w' H2 F2 ps2 R2 s12 hw => q w' H2 F2 ps2 R2 (s01.trans s12) hw⟩
    | true =>
      rw [if_pos rfl]
      rw [if_pos rfl] at h4
      cases h4
      exact q v H1 F1 ps1 R1 s01 hv
theorem e_not {m : MR} (h : PE X a (tR np X.K m)) : PE X (.UnaryOp .Not a pos) (tV np X.K (vNot m)) :=
  pe_imp (pe_notT h) fun σ H Q ⟨F, G, s, ps, R, d, s', hm, q⟩ => by
    obtain ⟨⟨r, s1⟩, h1, h2⟩ := bind_some hm
    obtain ⟨d1, h3, h4⟩ := bind_some h2
    obtain ⟨k, h5, h6⟩ := map_some h4
    cases h6
    exact ⟨F, G, s, ps, R, r, s1, h1, fun v H1 F1 ps1 R1 s01 hv => ⟨k, truV_is R1.sF (look_lnt R1 hv h3) h5, q _ H1 F1 ps1 R1 s01 (.bl _)⟩⟩
def gNeg : List D → Option O
  | [.int i] => some (.val (.int (-i)))
  | _ => none
theorem e_neg {m : MR} (h : PE X a (tR np X.K m)) : PE X (.UnaryOp .USub a pos) (tO np X.K (mOp gNeg [m])) :=
  pe_imp (pe_un un_neg h) fun σ H Q ⟨F, G, s, ps, R, o, s', hm, q⟩ => by
    obtain ⟨⟨rs, s1⟩, h1, h2⟩ := bind_some hm
    obtain ⟨ds, h3, h4⟩ := bind_some h2
    obtain ⟨o', h5, h6⟩ := map_some h4
    cases h6
    obtain ⟨⟨ra, sa⟩, e1, e2⟩ := bind_some h1
    obtain ⟨⟨rs', sb⟩, e3, e4⟩ := map_some e2
    cases e3
    cases e4
    refine ⟨F, G, s, ps, R, ra, sa, e1, fun v H1 F1 ps1 R1 s01 hv => ?_⟩
    have l := looks_lnt R1 (rfAll1 hv) h3
    unfold gNeg at h5
    split at h5
    · rename_i i
      cases h5
      exact ⟨i, lnt_int l.1, q _ H1 F1 ps1 [] R1 s01 ⟨.int _, rfl⟩ List.nodup_nil fun a ha => nomatch ha⟩
    · cases h5
theorem if_split {α : Type} {k : Bool} {x y : Option α} {r : α} (h : (if k = true then x else y) = some r) : (k = true ∧ x = some r) ∨ (k = false ∧ y = some r) := by
  cases k with
  | true => exact .inl ⟨rfl, by rw [if_pos rfl] at h; exact h⟩
  | false => exact .inr ⟨rfl, by rw [if_neg Bool.false_ne_true] at h; exact h⟩
theorem e_ifv {t : MB} {m n : MV} (h : PT X c (tB np X.K t)) (ha : PE X a (tV np X.K m)) (hb : PE X b (tV np X.K n)) : PE X (.IfExp c a b pos) (tV np X.K (vIf t m n)) :=
  pe_imp (pe_ifExp h ha hb) fun σ H Q ⟨F, G, s, ps, R, d, s', hm, q⟩ => by
    obtain ⟨⟨k, s1⟩, h1, h2⟩ := bind_some hm
    refine ⟨F, G, s, ps, R, k, s1, h1, fun H1 F1 ps1 R1 s01 => ?_⟩
    rcases if_split h2 with ⟨rfl, h3⟩ | ⟨rfl, h3⟩
    · exact iteT ⟨F1, G, s1, ps1, R1, d, s', h3, fun w' H2 F2 ps2 R2 s12 hw => q w' H2 F2 ps2 R2 (s01.trans s12) hw⟩
    · exact iteF ⟨F1, G, s1, ps1, R1, d, s', h3, fun w' H2 F2 ps2 R2 s12 hw => q w' H2 F2 ps2 R2 (s01.trans s12) hw⟩
theorem e_ifo {t : MB} {m n : MO} (h : PT X c (tB np X.K t)) (ha : PE X a (tO np X.K m)) (hb : PE X b (tO np X.K n)) : PE X (.IfExp c a b pos) (tO np X.K (oIf t m n)) :=
  pe_imp (pe_ifExp h ha hb) fun σ H Q ⟨F, G, s, ps, R, d, s', hm, q⟩ => by
    obtain ⟨⟨k, s1⟩, h1, h2⟩ := bind_some hm
    refine ⟨F, G, s, ps, R, k, s1, h1, fun H1 F1 ps1 R1 s01 => ?_⟩
    rcases if_split h2 with ⟨rfl, h3⟩ | ⟨rfl, h3⟩
    · exact iteT ⟨F1, G, s1, ps1, R1, d, s', h3, fun w' H2 F2 ps2 as R2 s12 own nd new => q w' H2 F2 ps2 as R2 (s01.trans s12) own nd new⟩
    · exact iteF ⟨F1, G, s1, ps1, R1, d, s', h3, fun w' H2 F2 ps2 as R2 s12 own nd new => q w' H2 F2 ps2 as R2 (s01.trans s12) own nd new⟩
end

/-! ### statements -/
inductive Fl where
  | nx
  | bk
  | ct
  | rt (o : O)
abbrev MS := S → Option (Fl × S)
def tS (np : Nat) (K : PySem.W.Frag) (m : MS) : TS := fun D σ H => ∃ F G s ps, Rel np K F G s σ H ps ∧ ∃ f s', m s = some (f, s') ∧ match f with
  | .nx => ∀ σ' H' F' ps', Rel np K F' G s' σ' H' ps' → Same F F' → D.nx σ' H'
  | .bk => ∀ σ' H' F' ps', Rel np K F' G s' σ' H' ps' → Same F F' → D.bk σ' H'
  | .ct => ∀ σ' H' F' ps', Rel np K F' G s' σ' H' ps' → Same F F' → D.ct σ' H'
  | .rt o => ∀ v σ' H' F' ps' as, Rel np K F' G s' σ' H' ps' → Same F F' → Own K F' H' v o as → as.Nodup → (∀ a ∈ as, F' a = none ∧ G.h a = none ∧ a ∉ ps'.flatten) → D.rt v H'
def sNx : MS := fun s => some (.nx, s)
def sBk : MS := fun s => some (.bk, s)
def sCt : MS := fun s => some (.ct, s)
def sSeq (a b : MS) : MS := fun s => (a s).bind fun p => match p.1 with
  | .nx => b p.2
  | f => some (f, p.2)
def sSet (i : Nat) (m : MO) : MS := fun s => (m s).bind fun p => if i < p.2.length then some (.nx, p.2.set i (some p.1)) else none
def sExp (m : MO) : MS := fun s => (m s).map fun p => (.nx, p.2)
def sRet (m : MO) : MS := fun s => (m s).map fun p => (.rt p.1, p.2)
def sRetN : MS := fun s => some (.rt (.val .none), s)
def sIf (t : MB) (a b : MS) : MS := fun s => (t s).bind fun p => if p.1 = true then a p.2 else b p.2
section
variable {X : Cx} {st : Stmt} {sts : List Stmt} {e : Expr} {pos : Pos}
theorem ps_imp {t t' : TS} (h : PS X st t) (i : ∀ D σ H, t' D σ H → t D σ H) : PS X st t' := ⟨fun pins s σ H D I q => h.run pins s σ H D I (i D σ H q)⟩
theorem pss_imp {t t' : TS} (h : PSs X sts t) (i : ∀ D σ H, t' D σ H → t D σ H) : PSs X sts t' := ⟨fun pins s σ H D I q => h.run pins s σ H D I (i D σ H q)⟩
theorem s_nil : PSs X [] (tS np X.K sNx) := pss_imp pss_nil fun D σ H ⟨F, G, s, ps, R, f, s', hm, q⟩ => by
  cases hm
  exact q σ H F ps R (Same.refl F)
theorem s_pass : PS X (.Pass pos) (tS np X.K sNx) := ps_imp ps_pass fun D σ H ⟨F, G, s, ps, R, f, s', hm, q⟩ => by
  cases hm
  exact q σ H F ps R (Same.refl F)
theorem s_break : PS X (.Break pos) (tS np X.K sBk) := ps_imp ps_break fun D σ H ⟨F, G, s, ps, R, f, s', hm, q⟩ => by
  cases hm
  exact q σ H F ps R (Same.refl F)
theorem s_cont : PS X (.Continue pos) (tS np X.K sCt) := ps_imp ps_continue fun D σ H ⟨F, G, s, ps, R, f, s', hm, q⟩ => by
  cases hm
  exact q σ H F ps R (Same.refl F)
theorem s_one {m : MS} (h : PS X st (tS np X.K m)) : PSs X [st] (tS np X.K m) := pss_one h
theorem s_cons {m n : MS} (h : PS X st (tS np X.K m)) (h' : PSs X sts (tS np X.K n)) : PSs X (st :: sts) (tS np X.K (sSeq m n)) :=
  pss_imp (pss_cons h h') fun D σ H ⟨F, G, s, ps, R, f, s', hm, q⟩ => by
    obtain ⟨⟨f1, s1⟩, h1, h2⟩ := bind_some hm
    cases f1 with
    | nx =>
      refine ⟨F, G, s, ps, R, .nx, s1, h1, fun σ1 H1 F1 ps1 R1 s01 => ⟨F1, G, s1, ps1, R1, f, s', h2, ?_⟩⟩
      cases f with
      | nx => exact fun σ2 H2 F2 ps2 R2 s12 => q σ2 H2 F2 ps2 R2 (s01.trans s12)
      | bk => exact fun σ2 H2 F2 ps2 R2 s12 => q σ2 H2 F2 ps2 R2 (s01.trans s12)
      | ct => exact fun σ2 H2 F2 ps2 R2 s12 => q σ2 H2 F2 ps2 R2 (s01.trans s12)
      | rt o => exact fun v σ2 H2 F2 ps2 as R2 s12 => q v σ2 H2 F2 ps2 as R2 (s01.trans s12)
    | bk =>
      cases h2
      exact ⟨F, G, s, ps, R, .bk, s1, h1, q⟩
    | ct =>
      cases h2
      exact ⟨F, G, s, ps, R, .ct, s1, h1, q⟩
    | rt o =>
      cases h2
      exact ⟨F, G, s, ps, R, .rt o, s1, h1, q⟩
theorem s_ret {m : MO} (h : PE X e (tO np X.K m)) : PS X (.Return (some e) pos) (tS np X.K (sRet m)) :=
  ps_imp (ps_ret h) fun D σ H ⟨F, G, s, ps, R, f, s', hm, q⟩ => by
    obtain ⟨⟨o, s1⟩, h1, h2⟩ := map_some hm
    cases h2
    exact ⟨F, G, s, ps, R, o, s1, h1, fun v H1 F1 ps1 as R1 s01 own nd new => q v σ H1 F1 ps1 as R1 s01 own nd new⟩
theorem s_retN : PS X (.Return none pos) (tS np X.K sRetN) := ps_imp ps_retN fun D σ H ⟨F, G, s, ps, R, f, s', hm, q⟩ => by
  cases hm
  exact q .non σ H F ps [] R (Same.refl F) ⟨.non, rfl⟩ List.nodup_nil fun a ha => nomatch ha
theorem s_exp {m : MO} (h : PE X e (tO np X.K m)) (hs : swapsWith e none pos.line X.env = pure false := by rfl) : PS X (.Expr e pos) (tS np X.K (sExp m)) :=
  ps_imp (ps_expr h hs) fun D σ H ⟨F, G, s, ps, R, f, s', hm, q⟩ => by
    obtain ⟨⟨o, s1⟩, h1, h2⟩ := map_some hm
    cases h2
    exact ⟨F, G, s, ps, R, o, s1, h1, fun v H1 F1 ps1 as R1 s01 own nd new => q σ H1 F1 ps1 R1 s01⟩
theorem s_if {c : Expr} {a b : List Stmt} {t : MB} {m n : MS} (h : PT X c (tB np X.K t)) (ha : PSs X a (tS np X.K m)) (hb : PSs X b (tS np X.K n)) : PS X (.If c a b pos) (tS np X.K (sIf t m n)) :=
  ps_imp (ps_if h ha hb) fun D σ H ⟨F, G, s, ps, R, f, s', hm, q⟩ => by
    obtain ⟨⟨k, s1⟩, h1, h2⟩ := bind_some hm
    refine ⟨F, G, s, ps, R, k, s1, h1, fun H1 F1 ps1 R1 s01 => ?_⟩
    have fin : ∀ {u : MS}, u s1 = some (f, s') → tS np X.K u D σ H1 := fun {u} hu => ⟨F1, G, s1, ps1, R1, f, s', hu, by
      cases f with
      | nx => exact fun σ2 H2 F2 ps2 R2 s12 => q σ2 H2 F2 ps2 R2 (s01.trans s12)
      | bk => exact fun σ2 H2 F2 ps2 R2 s12 => q σ2 H2 F2 ps2 R2 (s01.trans s12)
      | ct => exact fun σ2 H2 F2 ps2 R2 s12 => q σ2 H2 F2 ps2 R2 (s01.trans s12)
      | rt o => exact fun v σ2 H2 F2 ps2 as R2 s12 => q v σ2 H2 F2 ps2 as R2 (s01.trans s12)⟩
    rcases if_split h2 with ⟨rfl, h3⟩ | ⟨rfl, h3⟩
    · exact iteT (fin h3)
    · exact iteF (fin h3)
/-- a slot behind the pinned ones is stored -/
theorem Rel.store {K : PySem.W.Frag} {F H : Hp} {G : Gd} {s : S} {σ : L2.St} {ps : List (List Addr)} (R : Rel np K F G s σ H ps) {i : Nat} {o : O} {v : V} {as : List Addr} (hi : i < s.length) (hp : np ≤ i)
    (own : Own K F H v o as) (nd : as.Nodup) (new : ∀ a ∈ as, F a = none ∧ G.h a = none ∧ a ∉ ps.flatten) : Rel np K F G (s.set i (some o)) (σ.set i (some v)) H (ps.set i as) := by
  refine R.put hi (Same.refl F) R.sF R.sG rfl ?_ R.fg own nd (fun a ha => ⟨(new a ha).1, (new a ha).2.1, fun j bs hj hb z => (new a ha).2.2 (mem_flat hb z)⟩) fun j bs hj hb a ha => ⟨(R.apart a (mem_flat hb ha)).1, fun u eu => eu⟩
  rw [List.take_set_of_le (Nat.le_trans R.few hp)]
  exact R.pin
theorem set_len {m : MO} : True := trivial
/-- a target: what is stored where -/
abbrev MG := O → S → Option S
def tG (np : Nat) (K : PySem.W.Frag) (g : MG) : TG := fun v σ H Q => ∃ F G s ps, Rel np K F G s σ H ps ∧ ∃ o s' as, Own K F H v o as ∧ as.Nodup ∧ (∀ a ∈ as, F a = none ∧ G.h a = none ∧ a ∉ ps.flatten) ∧ g o s = some s' ∧
  ∀ σ' H' F' ps', Rel np K F' G s' σ' H' ps' → Same F F' → Q σ' H'
def gNm (i : Nat) : MG := fun o s => if i < s.length then some (s.set i (some o)) else none
theorem pg_imp {tg : Expr} {t t' : TG} (h : PG X tg t) (i : ∀ v σ H Q, t' v σ H Q → t v σ H Q) : PG X tg t' := ⟨fun pins s σ H v u Q I r q => h.run pins s σ H v u Q I r (i v σ H Q q)⟩
theorem g_name {i : Nat} {x : Str} (hi : X.N[i]? = some x) (hN : X.N.Nodup) (hx : Loc X.env.scope x) (hp : np ≤ i := by decide) (hf : X.fn x = true ∨ X.env.scope.names.lookup x = some .local := by first | exact .inl rfl | exact .inr rfl | assumption) :
    PG X (.Name x pos) (tG np X.K (gNm i)) :=
  pg_imp (pg_name hN hi hx hf) fun v σ H Q ⟨F, G, s, ps, R, o, s', as, own, nd, new, hg, q⟩ => by
    obtain ⟨h1, h2⟩ := if_some hg
    subst h2
    exact q _ H F _ (R.store h1 hp own nd new) (Same.refl F)
def sAsg (g : MG) (m : MO) : MS := fun s => (m s).bind fun p => (g p.1 p.2).map fun s' => (.nx, s')
theorem s_asg {tg : Expr} {m : MO} {g : MG} (he : PE X e (tO np X.K m)) (hg : PG X tg (tG np X.K g)) (hs : swapsWithSole [tg] e pos.line X.env = pure false := by rfl) (hw : swappedStores [tg] e X.env = pure none := by rfl) (h1 : (assignEach [tg] X.env).map (·.2) = [assign tg X.env] := by rfl) :
    PS X (.Assign [tg] e pos) (tS np X.K (sAsg g m)) :=
  ps_imp (ps_asg he hg hs hw h1) fun D σ H ⟨F, G, s, ps, R, f, s', hm, q⟩ => by
    obtain ⟨⟨o, s1⟩, h1, h2⟩ := bind_some hm
    obtain ⟨s2, h3, h4⟩ := map_some h2
    cases h4
    exact ⟨F, G, s, ps, R, o, s1, h1, fun v H1 F1 ps1 as R1 s01 own nd new => ⟨F1, G, s1, ps1, R1, o, _, as, own, nd, new, h3, fun σ2 H2 F2 ps2 R2 s12 => q σ2 H2 F2 ps2 R2 (s01.trans s12)⟩⟩
end
end Dv

/-! Stores: names, tuples of names, own lists changed. -/
namespace Dv
open PySem PySem.Spec PyProof.Rows L2
variable {np : Nat}

section
variable {X : Cx} {e : Expr} {pos : Pos}
/-- name = e -/
theorem s_set {i : Nat} {x : Str} {pos' : Pos} {m : MO} (hi : X.N[i]? = some x) (hN : X.N.Nodup) (hx : Loc X.env.scope x) (he : PE X e (tO np X.K m)) (hp : np ≤ i := by decide) (hs : swapsWith e (some (.Name x pos')) pos.line X.env = pure false := by rfl)
    (hf : X.fn x = true ∨ X.env.scope.names.lookup x = some .local := by first | exact .inl rfl | exact .inr rfl | assumption) : PS X (.Assign [.Name x pos'] e pos) (tS np X.K (sAsg (gNm i) m)) :=
  ps_imp (ps_set hN hi hx he hs hf) fun D σ H ⟨F, G, s, ps, R, f, s', hm, q⟩ => by
    obtain ⟨⟨o, s1⟩, h1, h2⟩ := bind_some hm
    obtain ⟨s2, h3, h4⟩ := map_some h2
    cases h4
    obtain ⟨h5, rfl⟩ := if_some h3
    exact ⟨F, G, s, ps, R, o, s1, h1, fun v H1 F1 ps1 as R1 s01 own nd new => q _ H1 F1 _ (R1.store h5 hp own nd new) s01⟩

/-! ### tuples of targets -/
def gAllT : List MG → List D → S → Option S
  | [], [], s => some s
  | g :: gs, d :: ds, s => (g (.val d) s).bind (gAllT gs ds)
  | _, _, _ => none
def tGs (np : Nat) (K : PySem.W.Frag) (gs : List MG) : TGs := fun vs σ H Q => ∃ F G s ps, Rel np K F G s σ H ps ∧ ∃ ds s', TrAll K F vs ds ∧ gAllT gs ds s = some s' ∧
  ∀ σ' H' F' ps', Rel np K F' G s' σ' H' ps' → Same F F' → Q σ' H'
def gTp (gs : List MG) : MG := fun o s => match o with
  | .val (.tuple ds) => gAllT gs ds s
  | _ => none
theorem pgs_imp {ts : List Expr} {t t' : TGs} (h : PGs X ts t) (i : ∀ v σ H Q, t' v σ H Q → t v σ H Q) : PGs X ts t' := ⟨fun pins s σ H v u Q I r q => h.run pins s σ H v u Q I r (i v σ H Q q)⟩
theorem g_nil : PGs X [] (tGs np X.K []) := pgs_imp pgs_nil fun vs σ H Q ⟨F, G, s, ps, R, ds, s', t, hm, q⟩ => by
  cases ds with
  | nil =>
    cases t
    cases hm
    exact ⟨rfl, q σ H F ps R (Same.refl F)⟩
  | cons d ds => cases hm
theorem g_cons {es : List Expr} {g : MG} {gs : List MG} (h1 : PG X e (tG np X.K g)) (h2 : PGs X es (tGs np X.K gs)) (hs : (assignEach (e :: es) X.env).map (·.2) = assign e X.env :: (assignEach es X.env).map (·.2) := by rfl) : PGs X (e :: es) (tGs np X.K (g :: gs)) :=
  pgs_imp (pgs_cons h1 h2 hs) fun vs σ H Q ⟨F, G, s, ps, R, ds, s', t, hm, q⟩ => by
    cases t with
    | nil => cases hm
    | @cons v vs d ds t1 t2 =>
      obtain ⟨s1, h3, h4⟩ := bind_some hm
      exact ⟨v, vs, rfl, F, G, s, ps, R, .val d, s1, [], ⟨t1, rfl⟩, List.nodup_nil, (fun a ha => nomatch ha), h3, fun σ1 H1 F1 ps1 R1 s01 => ⟨F1, G, s1, ps1, R1, ds, s', dpAll_mono s01 ds t2, h4, fun σ2 H2 F2 ps2 R2 s12 => q σ2 H2 F2 ps2 R2 (s01.trans s12)⟩⟩
theorem gAllT_len : ∀ {gs : List MG} {ds : List D} {s s' : S}, gAllT gs ds s = some s' → ds.length = gs.length
  | [], [], _, _, _ => rfl
  | g :: gs, d :: ds, s, s', h => by
    obtain ⟨s1, _, h4⟩ := bind_some h
    exact congrArg (· + 1) (gAllT_len h4)
  | [], _ :: _, _, _, h => by cases h
  | _ :: _, [], _, _, h => by cases h
theorem g_tup {es : List Expr} {k : Nat} {gs : List MG} (h : PGs X es (tGs np X.K gs)) (hc : X.calm = true := by rfl) (hn : (assignEach es X.env).length = gs.length := by rfl) (hst : (assignEach es X.env).findIdx? (·.1) = none := by rfl) : PG X (.Tuple es k pos) (tG np X.K (gTp gs)) :=
  pg_imp (pg_tup hc h hn hst) fun v σ H Q ⟨F, G, s, ps, R, o, s', as, own, nd, new, hg, q⟩ => by
    unfold gTp at hg
    split at hg
    · rename_i ds
      obtain ⟨t, rfl⟩ := own
      cases t with
      | @tup a vs _ h1 h2 => exact ⟨a, vs, rfl, same_tup R.sF h1, by rw [da_length h2]; exact gAllT_len hg, F, G, s, ps, R, ds, s', h2, hg, q⟩
    · cases hg

/-! ### several own results in a row -/
def evO : List MO → S → Option (List O × S)
  | [], s => some ([], s)
  | m :: ms, s => (m s).bind fun p => (evO ms p.2).map fun q => (p.1 :: q.1, q.2)
/-- values and the own things that they stand for, apart from one another -/
def OwnAll (K : PySem.W.Frag) (F H : Hp) : List V → List O → List (List Addr) → Prop
  | [], [], [] => True
  | v :: vs, o :: os, as :: ass => Own K F H v o as ∧ OwnAll K F H vs os ass
  | _, _, _ => False
def tAO (np : Nat) (K : PySem.W.Frag) (ms : List MO) : TA := fun σ H Q => ∃ F G s ps, Rel np K F G s σ H ps ∧ ∃ os s', evO ms s = some (os, s') ∧ ∀ vs H' F' ps' ass, Rel np K F' G s' σ H' ps' → Same F F' → OwnAll K F' H' vs os ass → ass.flatten.Nodup →
  (∀ a ∈ ass.flatten, F' a = none ∧ G.h a = none ∧ a ∉ ps'.flatten) → Q vs H'
theorem ao_nil : PA X [] (tAO np X.K []) := pa_imp pa_nil fun σ H Q ⟨F, G, s, ps, R, os, s', hm, q⟩ => by
  cases hm
  exact q [] H F ps [] R (Same.refl F) trivial List.nodup_nil fun a ha => nomatch ha
theorem ao_cons {es : List Expr} {m : MO} {ms : List MO} (he : PE X e (tO np X.K m)) (hs : PA X es (tAO np X.K ms)) (hst : starEach (e :: es) X.env = (false, eval e X.env) :: starEach es X.env := by rfl) : PA X (e :: es) (tAO np X.K (m :: ms)) :=
  pa_imp (pa_cons he hs hst) fun σ H Q ⟨F, G, s, ps, R, os, s', hm, q⟩ => by
    obtain ⟨⟨o, s1⟩, h1, h2⟩ := bind_some hm
    obtain ⟨⟨os', s2⟩, h3, h4⟩ := map_some h2
    cases h4
    refine ⟨F, G, s, ps, R, o, s1, h1, fun v H1 F1 ps1 as R1 s01 own nd new => ⟨F1, G.add H1 as, s1, ps1, R1.hold new, os', s2, h3, fun vs H2 F2 ps2 ass R2 s12 owns nds news => ?_⟩⟩
    have hG : ∀ a ∈ as, G.h a = none ∧ ∃ u, H1 a = some u := fun a ha => ⟨(new a ha).2.1, own.there a ha⟩
    obtain ⟨R3, keep⟩ := Rel.unhold hG R2
    have apart : ∀ a ∈ as, a ∉ ass.flatten := fun a ha z => by
      have z2 := (news a z).2.1
      obtain ⟨u, e⟩ := (hG a ha).2
      rw [show (G.add H1 as).h a = H1 a from if_pos ha, e] at z2
      cases z2
    refine q (v :: vs) H2 F2 ps2 (as :: ass) R3 (s01.trans s12) ⟨own.mono s12 fun a ha u eu => (keep a ha).2.2 u eu, owns⟩ ?_ fun a ha => ?_
    · rw [List.flatten_cons, List.nodup_append]
      exact ⟨nd, nds, fun x hx y hy e => apart x hx (by rw [e]; exact hy)⟩
    · rw [List.flatten_cons] at ha
      rcases List.mem_append.mp ha with ha | ha
      · exact ⟨(keep a ha).1, (new a ha).2.1, (keep a ha).2.1⟩
      · obtain ⟨n1, n2, n3⟩ := news a ha
        refine ⟨n1, ?_, n3⟩
        have n2' : (if a ∈ as then H1 a else G.h a) = none := n2
        rw [if_neg fun z => apart a z ha] at n2'
        exact n2'
/-- the names in a row get them -/
def setAll : List Nat → List O → S → Option S
  | [], [], s => some s
  | i :: is, o :: os, s => if i < s.length then setAll is os (s.set i (some o)) else none
  | _, _, _ => none
def sPar (is : List Nat) (ms : List MO) : MS := fun s => (evO ms s).bind fun p => (setAll is p.1 p.2).map fun s' => (.nx, s')
theorem Rel.stores {K : PySem.W.Frag} {F H : Hp} {G : Gd} : ∀ {is : List Nat} {os : List O} {s s' : S} {ps : List (List Addr)} {vs : List V} {ass : List (List Addr)} {σ : L2.St}, Rel np K F G s σ H ps → (∀ i ∈ is, np ≤ i) → OwnAll K F H vs os ass → ass.flatten.Nodup →
    (∀ a ∈ ass.flatten, F a = none ∧ G.h a = none ∧ a ∉ ps.flatten) → setAll is os s = some s' → ∃ ps', Rel np K F G s' ((is.zip vs).foldl (fun t p => t.set p.1 (some p.2)) σ) H ps'
  | [], [], s, s', ps, [], [], σ, R, _, _, _, _, h => by
    cases h
    exact ⟨ps, R⟩
  | i :: is, o :: os, s, s', ps, v :: vs, as :: ass, σ, R, hn, own, nd, new, h => by
    rw [List.flatten_cons, List.nodup_append] at nd
    unfold setAll at h
    split at h
    · rename_i hi
      have R1 := R.store hi (hn i List.mem_cons_self) own.1 nd.1 fun a ha => new a (by rw [List.flatten_cons]; exact List.mem_append_left _ ha)
      refine Rel.stores (is := is) (os := os) (vs := vs) (ass := ass) (σ := σ.set i (some v)) R1 (fun j hj => hn j (List.mem_cons_of_mem _ hj)) own.2 nd.2.1 (fun a ha => ?_) h
      obtain ⟨n1, n2, n3⟩ := new a (by rw [List.flatten_cons]; exact List.mem_append_right _ ha)
      refine ⟨n1, n2, fun z => ?_⟩
      rcases mem_set_flat z with z | z
      · exact nd.2.2 a z a ha rfl
      · exact n3 z
    · cases h
  | [], _ :: _, _, _, _, _, _, _, _, _, _, _, _, h => by cases h
  | _ :: _, [], _, _, _, _, _, _, _, _, _, _, _, h => by cases h
  | [], [], _, _, _, _ :: _, _, _, _, _, own, _, _, _ => own.elim
  | [], [], _, _, _, [], _ :: _, _, _, _, own, _, _, _ => own.elim
  | _ :: _, _ :: _, _, _, _, [], _, _, _, _, own, _, _, _ => own.elim
  | _ :: _, _ :: _, _, _, _, _ :: _, [], _, _, _, own, _, _, _ => own.elim
theorem ownAll_len {K : PySem.W.Frag} {F H : Hp} : ∀ {vs : List V} {os : List O} {ass : List (List Addr)}, OwnAll K F H vs os ass → vs.length = os.length ∧ ass.length = os.length
  | [], [], [], _ => ⟨rfl, rfl⟩
  | v :: vs, o :: os, as :: ass, h => by
    obtain ⟨h1, h2⟩ := ownAll_len h.2
    exact ⟨congrArg (· + 1) h1, congrArg (· + 1) h2⟩
  | [], [], _ :: _, h => h.elim
  | [], _ :: _, _, h => by cases h
  | _ :: _, [], _, h => by cases h
  | _ :: _, _ :: _, [], h => by cases h
theorem setAll_len : ∀ {is : List Nat} {os : List O} {s s' : S}, setAll is os s = some s' → os.length = is.length
  | [], [], _, _, _ => rfl
  | i :: is, o :: os, s, s', h => by
    unfold setAll at h
    split at h
    · exact congrArg (· + 1) (setAll_len h)
    · cases h
  | [], _ :: _, _, _, h => by cases h
  | _ :: _, [], _, _, h => by cases h
theorem s_par2 {i j : Nat} {x y : Str} {a b : Expr} {ma mb : MO} {px py pt : Pos} {kt k2 pt2} (hi : X.N[i]? = some x) (hj : X.N[j]? = some y) (hN : X.N.Nodup) (ha : PA X [a, b] (tAO np X.K [ma, mb])) (hij : i ≠ j := by decide) (hpi : np ≤ i := by decide) (hpj : np ≤ j := by decide) (hc : X.calm = true := by rfl)
    (hx : X.env.scope.names.lookup x = some .local := by rfl) (hy : X.env.scope.names.lookup y = some .local := by rfl)
    (hw : swappedStores [.Tuple [.Name x px, .Name y py] kt pt] (.Tuple [a, b] k2 pt2) X.env = pure (some [x, y]) := by rfl)
    (hs : swapsWithSole [.Tuple [.Name x px, .Name y py] kt pt] (.Tuple [a, b] k2 pt2) pos.line X.env = pure false := by rfl) : PS X (.Assign [.Tuple [.Name x px, .Name y py] kt pt] (.Tuple [a, b] k2 pt2) pos) (tS np X.K (sPar [i, j] [ma, mb])) :=
  ps_imp (ps_par hc hN hi hj hij hx hy ha hw hs) fun D σ H ⟨F, G, s, ps, R, f, s', hm, q⟩ => by
    obtain ⟨⟨os, s1⟩, h1, h2⟩ := bind_some hm
    obtain ⟨s2, h3, h4⟩ := map_some h2
    cases h4
    refine ⟨F, G, s, ps, R, os, s1, h1, fun vs H1 F1 ps1 ass R1 s01 owns nd new => ?_⟩
    obtain ⟨ps2, R2⟩ := R1.stores (is := [i, j]) (fun k hk => by rcases List.mem_cons.mp hk with e | hk; (rw [e]; exact hpi); (rw [List.mem_singleton.mp hk]; exact hpj)) owns nd new h3
    have hl := (ownAll_len owns).1.trans (setAll_len h3)
    match vs, hl, R2 with
    | [v, w'], _, R2 => exact ⟨v, w', rfl, q _ H1 F1 ps2 R2 s01⟩
theorem s_par3 {i j l : Nat} {x y z : Str} {a b c : Expr} {ma mb mc : MO} {px py pz pt : Pos} {kt k2 pt2} (hi : X.N[i]? = some x) (hj : X.N[j]? = some y) (hl : X.N[l]? = some z) (hN : X.N.Nodup) (ha : PA X [a, b, c] (tAO np X.K [ma, mb, mc]))
    (hij : i ≠ j := by decide) (hil : i ≠ l := by decide) (hjl : j ≠ l := by decide) (hpi : np ≤ i := by decide) (hpj : np ≤ j := by decide) (hpl : np ≤ l := by decide) (hc : X.calm = true := by rfl)
    (hx : X.env.scope.names.lookup x = some .local := by rfl) (hy : X.env.scope.names.lookup y = some .local := by rfl) (hz : X.env.scope.names.lookup z = some .local := by rfl)
    (hw : swappedStores [.Tuple [.Name x px, .Name y py, .Name z pz] kt pt] (.Tuple [a, b, c] k2 pt2) X.env = pure (some [x, y, z]) := by rfl)
    (hs : swapsWithSole [.Tuple [.Name x px, .Name y py, .Name z pz] kt pt] (.Tuple [a, b, c] k2 pt2) pos.line X.env = pure false := by rfl) : PS X (.Assign [.Tuple [.Name x px, .Name y py, .Name z pz] kt pt] (.Tuple [a, b, c] k2 pt2) pos) (tS np X.K (sPar [i, j, l] [ma, mb, mc])) :=
  ps_imp (ps_par3 hc hN hi hj hl hij hil hjl hx hy hz ha hw hs) fun D σ H ⟨F, G, s, ps, R, f, s', hm, q⟩ => by
    obtain ⟨⟨os, s1⟩, h1, h2⟩ := bind_some hm
    obtain ⟨s2, h3, h4⟩ := map_some h2
    cases h4
    refine ⟨F, G, s, ps, R, os, s1, h1, fun vs H1 F1 ps1 ass R1 s01 owns nd new => ?_⟩
    obtain ⟨ps2, R2⟩ := R1.stores (is := [i, j, l]) (fun k hk => by
      rcases List.mem_cons.mp hk with e | hk
      · rw [e]; exact hpi
      · rcases List.mem_cons.mp hk with e | hk
        · rw [e]; exact hpj
        · rw [List.mem_singleton.mp hk]; exact hpl) owns nd new h3
    have hl := (ownAll_len owns).1.trans (setAll_len h3)
    match vs, hl, R2 with
    | [v1, v2, v3], _, R2 => exact ⟨v1, v2, v3, rfl, q _ H1 F1 ps2 R2 s01⟩

/-! ### own lists changed -/
/-- slot i's own list -/
theorem Rel.lst {K : PySem.W.Frag} {F H : Hp} {G : Gd} {s : S} {σ : L2.St} {ps : List (List Addr)} (R : Rel np K F G s σ H ps) {i : Nat} {xs : List D} (e : s[i]? = some (some (.lst xs))) :
    ∃ a vs, σ[i]? = some (some (.ref a)) ∧ H a = some (.lst vs) ∧ TrAll K F vs xs ∧ F a = none ∧ ∀ vs' xs', TrAll K F vs' xs' → Rel np K F G (s.set i (some (.lst xs'))) σ (upd H a (.lst vs')) ps := by
  obtain ⟨v, as, h1, h2, a, vs, rfl, e2, t, rfl⟩ := R.at_ i _ e
  obtain ⟨n1, n2, _⟩ := R.apart a (mem_flat h2 List.mem_cons_self)
  refine ⟨a, vs, h1, e2, t, n1, fun vs' xs' t' => ?_⟩
  have hi : i < s.length := (List.getElem?_eq_some_iff.mp e).1
  have hσ : σ = σ.set i (some (.ref a)) := by
    apply List.ext_getElem?
    intro j
    by_cases c : i = j
    · subst c
      rw [List.getElem?_set_self (by rw [R.lenS]; exact hi), h1]
    · rw [List.getElem?_set_ne c]
  have hps : ps = ps.set i [a] := by
    apply List.ext_getElem?
    intro j
    by_cases c : i = j
    · subst c
      rw [List.getElem?_set_self (by rw [R.lenP]; exact hi), h2]
    · rw [List.getElem?_set_ne c]
  have key := R.put (F' := F) (H' := upd H a (.lst vs')) (v' := .ref a) (as' := [a]) (o' := .lst xs') hi (Same.refl F) (fun b u eb => by rw [upd_ne (fun z => by rw [z, n1] at eb; cases eb)]; exact R.sF b u eb) (fun b u eb => by rw [upd_ne (fun z => by rw [z, n2] at eb; cases eb)]; exact R.sG b u eb)
    hσ R.pin R.fg ⟨a, vs', rfl, upd_same, t', rfl⟩ (by simp) (fun b hb => by
      rw [List.mem_singleton.mp hb]
      exact ⟨n1, n2, fun j bs hj hbs => flat_apart R.nd h2 hbs hj List.mem_cons_self⟩) fun j bs hj hbs b hb => ⟨(R.apart b (mem_flat hbs hb)).1, fun u eu => by
        rw [upd_ne fun z => ?_]
        · exact eu
        · rw [z] at hb
          exact flat_apart R.nd h2 hbs hj List.mem_cons_self hb⟩
  rw [← hps] at key
  exact key
theorem lst_some {α : Type} {s : S} {i : Nat} {f : List D → Option α} {r : α} (h : (match s[i]? with | some (some (.lst xs)) => f xs | _ => none) = some r) : ∃ xs, s[i]? = some (some (.lst xs)) ∧ f xs = some r := by
  split at h
  · rename_i xs e
    exact ⟨xs, e, h⟩
  · cases h
/-- is a list of one's own there? -/
def ownL (s : S) (i : Nat) : Bool := match s[i]? with
  | some (some (.lst _)) => true
  | _ => false
def chL (i : Nat) (f : List D → Option (O × List D)) : MO := fun s => match s[i]? with
  | some (some (.lst xs)) => (f xs).map fun p => (p.1, s.set i (some (.lst p.2)))
  | _ => none
def oApp (i : Nat) (m : MV) : MO := fun s => if ownL s i = true then (m s).bind fun p => chL i (fun xs => if xs.length < sizeLine then some (.val .none, xs ++ [p.1]) else none) p.2 else none
def oExt (i : Nat) (m : MV) : MO := fun s => if ownL s i = true then (m s).bind fun p => chL i (fun xs => match p.1 with
  | .list ys => if xs.length + ys.length ≤ sizeLine then some (.val .none, xs ++ ys) else none
  | _ => none) p.2 else none
def oPop (i : Nat) : MO := chL i fun xs => (xs[xs.length - 1]?).map fun d => (.val d, xs.dropLast)
def oPopAt (i : Nat) (m : MV) : MO := fun s => if ownL s i = true then (m s).bind fun p => chL i (fun xs => match p.1 with
  | .int k => if k.natAbs < 2 ^ 62 then (seqIndex? k xs.length).bind fun j => (xs[j]?).map fun d => (.val d, xs.eraseIdx j) else none
  | _ => none) p.2 else none
theorem ownL_is {s : S} {i : Nat} (h : ownL s i = true) : ∃ xs, s[i]? = some (some (.lst xs)) := by
  unfold ownL at h
  split at h
  · rename_i xs e
    exact ⟨xs, e⟩
  · cases h
theorem bool_some {α : Type} {c : Bool} {x : Option α} {r : α} (h : (if c = true then x else none) = some r) : c = true ∧ x = some r := by
  split at h
  · rename_i hc
    exact ⟨hc, h⟩
  · cases h
section
variable {X : Cx} {e o : Expr} {es : List Expr} {apos cpos : Pos} {i : Nat}
theorem tyL {K : PySem.W.Frag} {H : Hp} {a : Addr} {vs : List V} (h : H a = some (.lst vs)) : tyV K "list" (.ref a) H := .inl ⟨rfl, _, SqL.of h⟩
/-- one argument -/
theorem tA1 {K : PySem.W.Frag} {m : MV} {σ : L2.St} {H : Hp} {Q : List V → Hp → Prop} (h : tV np K m σ H fun v H' => Q [v] H') : tA np K [rV m] σ H Q := by
  obtain ⟨F, G, s, ps, R, d, s', hm, q⟩ := h
  refine ⟨F, G, s, ps, R, [.d d], s', ?_, fun vs H1 F1 ps1 R1 s01 hv => ?_⟩
  · show (rV m s).bind _ = _
    unfold rV
    rw [hm]
    rfl
  · match vs, hv with
    | [v], hv => exact q v H1 F1 ps1 R1 s01 hv.1
    | [], hv => exact hv.elim
    | _ :: _ :: _, hv => exact hv.2.elim
theorem mt_extend' : MtM X "list.extend" (fun x vs H Q => ∃ l b xs zs, x = .ref l ∧ vs = [.ref b] ∧ H l = some (.lst xs) ∧ LsK X.K H b zs ∧ xs.length + zs.length ≤ sizeLine ∧ Q .non (upd H l (.lst (xs ++ zs)))) := by
  intro pins s σ H x vs v us Q I rx rv h
  obtain ⟨l, b, xs, zs, rfl, rfl, hH, hB, hz, q⟩ := h
  cases rx
  obtain ⟨u, rfl, ru⟩ := rv.one
  cases ru
  obtain ⟨z, its, n, r, hl, eo⟩ := I.lstM hH
  obtain ⟨z2, its2, n2, r2, hl2, e2⟩ := rd_list I hB
  have hsz : its.toArray.size + its2.toArray.size ≤ sizeLine := by rw [List.size_toArray, List.size_toArray]; omega
  have hlong : ¬ (!its.toArray.isEmpty && Builtin.List.listTooLong (its.toArray.size + its2.toArray.size)) = true := by
    rw [notLongL hsz, Bool.and_false]
    exact Bool.false_ne_true
  refine call_meets PySem.F.slot_list_extend ⟨_, eo, rfl⟩ PySem.F.entry_list_extend (PySem.F.args_list_extend_2 _ _) (AutoSeq1.list_extend_list_list_0 l its.toArray n b its2.toArray n2 hlong (by rw [List.size_toArray]; omega) (by omega)) ⟨eo, e2, ?_⟩
  refine ⟨.non, _, I.lset (its' := its ++ its2) hH eo (by simp) (r.append r2) ?_, rfl, q⟩
  rw [List.length_append]
  omega
/-- a method that changes slot i's own list, of one argument -/
theorem chL_done {r : V → List V → Hp → VK → Prop} {m : MV} {σ : L2.St} {H : Hp} {Q : VK} {f : D → List D → Option (O × List D)}
    (hr : ∀ {F H a vs xs v d o xs' Q}, Same F H → H a = some (.lst vs) → TrAll X.K F vs xs → Tr X.K F v d → f d xs = some (o, xs') → (∀ w vs', (∃ d', o = .val d' ∧ Tr X.K F w d') → TrAll X.K F vs' xs' → Q w (upd H a (.lst vs'))) → r (.ref a) [v] H Q)
    (h : tO np X.K (fun s => if ownL s i = true then (m s).bind fun p => chL i (f p.1) p.2 else none) σ H Q) : tBM X.K "list" r (tVar i) (tA np X.K [rV m]) σ H Q := by
  obtain ⟨F, G, s, ps, R, o, s', hm, q⟩ := h
  obtain ⟨h1, h2⟩ := bool_some hm
  obtain ⟨xs0, e0⟩ := ownL_is h1
  obtain ⟨a, vs0, g1, g2, _⟩ := R.lst e0
  obtain ⟨⟨d, s1⟩, h3, h4⟩ := bind_some h2
  obtain ⟨xs, e1, h5⟩ := lst_some h4
  obtain ⟨⟨o', xs'⟩, h6, h7⟩ := map_some h5
  cases h7
  refine ⟨.ref a, g1, tyL g2, tA1 ⟨F, G, s, ps, R, d, s1, h3, fun v H1 F1 ps1 R1 s01 hv => ?_⟩⟩
  obtain ⟨a', vs, k1, k2, t, kn, kr⟩ := R1.lst e1
  have ea : a' = a := by
    rw [g1] at k1
    have z := Option.some.inj (Option.some.inj k1)
    injection z with z
    exact z.symm
  subst ea
  refine hr R1.sF k2 t hv h6 fun w vs' hw tv' => ?_
  obtain ⟨d', rfl, tw⟩ := hw
  exact q w _ F1 ps1 [] (kr vs' xs' tv') s01 ⟨tw, rfl⟩ List.nodup_nil fun b hb => nomatch hb
theorem e_app {m : MV} (ho : PE X o (tVar i)) (he : PE X e (tV np X.K m)) (hbase : attributeBase o "append" X.env (eval o X.env) = eval o X.env := by rfl)
    (hfew : ((backTo cpos (starEach [e] X.env)).all (fun x => !x.1) && (backToKw cpos (keywordEach [] X.env)).all (fun x => x.1.isSome) && decide ([e].length + ([] : List Keyword).length + (if ([] : List Keyword).isEmpty then 0 else 1) < 30)) = true := by rfl)
    (hline : (apos.endLine == cpos.line) = true := by rfl) (hs : starEach [e] X.env = (false, eval e X.env) :: starEach [] X.env := by rfl) (hplain : (backTo cpos (starEach [] X.env)).any (·.1) = false := by rfl) :
    PE X (.Call (.Attribute o "append" apos) [e] [] cpos) (tO np X.K (oApp i m)) :=
  pe_imp (pe_bm PySem.F.plainAttrs_list PySem.F.slot_list_append PySem.F.type_list_append mt_append ho (a_cons (e_rV he) a_nil hs) hbase hfew hline hs hplain) fun σ H Q h =>
    chL_done (f := fun d xs => if xs.length < sizeLine then some (.val .none, xs ++ [d]) else none) (fun {F H a vs xs v d o xs' Q} sF e2 t tv hf q => by
      obtain ⟨h1, h2⟩ := if_some hf
      cases h2
      exact ⟨a, vs, v, rfl, rfl, e2, by rw [da_length t]; exact h1, q .non _ ⟨.none, rfl, .non⟩ (da_append t (.cons tv .nil))⟩) h
theorem e_ext {m : MV} (ho : PE X o (tVar i)) (he : PE X e (tV np X.K m)) (hbase : attributeBase o "extend" X.env (eval o X.env) = eval o X.env := by rfl)
    (hfew : ((backTo cpos (starEach [e] X.env)).all (fun x => !x.1) && (backToKw cpos (keywordEach [] X.env)).all (fun x => x.1.isSome) && decide ([e].length + ([] : List Keyword).length + (if ([] : List Keyword).isEmpty then 0 else 1) < 30)) = true := by rfl)
    (hline : (apos.endLine == cpos.line) = true := by rfl) (hs : starEach [e] X.env = (false, eval e X.env) :: starEach [] X.env := by rfl) (hplain : (backTo cpos (starEach [] X.env)).any (·.1) = false := by rfl) :
    PE X (.Call (.Attribute o "extend" apos) [e] [] cpos) (tO np X.K (oExt i m)) :=
  pe_imp (pe_bm PySem.F.plainAttrs_list PySem.F.slot_list_extend PySem.F.type_list_extend mt_extend' ho (a_cons (e_rV he) a_nil hs) hbase hfew hline hs hplain) fun σ H Q h =>
    chL_done (f := fun d xs => match d with
      | .list ys => if xs.length + ys.length ≤ sizeLine then some (.val .none, xs ++ ys) else none
      | _ => none) (fun {F H a vs xs v d o xs' Q} sF e2 t tv hf q => by
      cases d with
      | list ys =>
        obtain ⟨h1, h2⟩ := if_some hf
        cases h2
        cases tv with
        | lst r1 t2 => exact ⟨a, _, vs, _, rfl, rfl, e2, lsk_mono sF r1, by rw [da_length t, da_length t2]; exact h1, q .non _ ⟨.none, rfl, .non⟩ (da_append t t2)⟩
      | _ => cases hf) h
theorem e_popAt {m : MV} (ho : PE X o (tVar i)) (he : PE X e (tV np X.K m)) (hbase : attributeBase o "pop" X.env (eval o X.env) = eval o X.env := by rfl)
    (hfew : ((backTo cpos (starEach [e] X.env)).all (fun x => !x.1) && (backToKw cpos (keywordEach [] X.env)).all (fun x => x.1.isSome) && decide ([e].length + ([] : List Keyword).length + (if ([] : List Keyword).isEmpty then 0 else 1) < 30)) = true := by rfl)
    (hline : (apos.endLine == cpos.line) = true := by rfl) (hs : starEach [e] X.env = (false, eval e X.env) :: starEach [] X.env := by rfl) (hplain : (backTo cpos (starEach [] X.env)).any (·.1) = false := by rfl) :
    PE X (.Call (.Attribute o "pop" apos) [e] [] cpos) (tO np X.K (oPopAt i m)) :=
  pe_imp (pe_bm PySem.F.plainAttrs_list PySem.F.slot_list_pop PySem.F.type_list_pop mt_popAt ho (a_cons (e_rV he) a_nil hs) hbase hfew hline hs hplain) fun σ H Q h =>
    chL_done (f := fun d xs => match d with
      | .int k => if k.natAbs < 2 ^ 62 then (seqIndex? k xs.length).bind fun j => (xs[j]?).map fun d => (.val d, xs.eraseIdx j) else none
      | _ => none) (fun {F H a vs xs v d o xs' Q} sF e2 t tv hf q => by
      cases d with
      | int k =>
        cases tv
        dsimp only at hf
        split at hf
        · rename_i hk
          obtain ⟨j, h1, h2⟩ := bind_some hf
          obtain ⟨d', h3, h4⟩ := map_some h2
          cases h4
          obtain ⟨w', h5, h6⟩ := da_get t h3
          exact ⟨a, vs, k, j, w', rfl, rfl, e2, by omega, by omega, by rw [da_length t]; exact h1, h5, q w' _ ⟨d', rfl, h6⟩ (da_erase j t)⟩
        · cases hf
      | _ => cases hf) h
theorem e_pop (ho : PE X o (tVar i)) (hbase : attributeBase o "pop" X.env (eval o X.env) = eval o X.env := by rfl) (hline : (apos.endLine == cpos.line) = true := by rfl) : PE X (.Call (.Attribute o "pop" apos) [] [] cpos) (tO np X.K (oPop i)) :=
  pe_imp (pe_bm0 PySem.F.plainAttrs_list PySem.F.slot_list_pop PySem.F.type_list_pop mt_pop ho hbase hline) fun σ H Q ⟨F, G, s, ps, R, o, s', hm, q⟩ => by
    obtain ⟨xs, e1, h5⟩ := lst_some hm
    obtain ⟨⟨o', xs'⟩, h6, h7⟩ := map_some h5
    cases h7
    obtain ⟨d, h8, h9⟩ := map_some h6
    cases h9
    obtain ⟨a, vs, k1, k2, t, kn, kr⟩ := R.lst e1
    obtain ⟨w', h10, h11⟩ := da_get t h8
    exact ⟨.ref a, k1, tyL k2, a, vs, w', rfl, rfl, k2, by rw [da_length t]; exact h10, q w' _ F ps [] (kr _ _ (da_dropLast t)) (Same.refl F) ⟨h11, rfl⟩ List.nodup_nil fun b hb => nomatch hb⟩
/-- slot i's own list: place k gets a value; the value ahead of the place -/
def sSetIx (i : Nat) (k m : MV) : MS := fun s => (m s).bind fun p => if ownL p.2 i = true then (k p.2).bind fun q => match q.1 with
  | .int j => (chL i (fun xs => (ixN xs.length j).map fun n => (.val .none, xs.set n p.1)) q.2).map fun r => (.nx, r.2)
  | _ => none else none
theorem s_setIx {ix : Expr} {k m : MV} {pos spos : Pos} (he : PE X e (tV np X.K m)) (ho : PE X o (tVar i)) (hk : PE X ix (tV np X.K k))
    (ha : ∀ v, assign (.Subscript o ix spos) X.env v = (do
      let ov ← holding [v] (eval o X.env)
      let iv ← holding [v, ov] (eval ix X.env)
      standAt spos
      holding [v, ov, iv] (setItem ov iv v)
      release [v, ov, iv] []) := by intro _; rfl)
    (hs : swapsWithSole [.Subscript o ix spos] e pos.line X.env = pure false := by rfl) (hw : swappedStores [.Subscript o ix spos] e X.env = pure none := by rfl) (h1 : (assignEach [.Subscript o ix spos] X.env).map (·.2) = [assign (.Subscript o ix spos) X.env] := by rfl) :
    PS X (.Assign [.Subscript o ix spos] e pos) (tS np X.K (sSetIx i k m)) :=
  ps_imp (ps_asg he (pg_sub ho hk set_list ha) hs hw h1) fun D σ H ⟨F, G, s, ps, R, f, s', hm, q⟩ => by
    obtain ⟨⟨d, s1⟩, g1, g2⟩ := bind_some hm
    obtain ⟨g3, g4⟩ := bool_some g2
    obtain ⟨⟨dk, s2⟩, g5, g6⟩ := bind_some g4
    cases dk with
    | int j =>
      obtain ⟨⟨o', s3⟩, g7, g8⟩ := map_some g6
      cases g8
      obtain ⟨xs, e1, h5⟩ := lst_some g7
      obtain ⟨⟨o2, xs'⟩, h6, h7⟩ := map_some h5
      cases h7
      obtain ⟨n, h8, h9⟩ := map_some h6
      cases h9
      obtain ⟨xs0, e0⟩ := ownL_is g3
      refine ⟨F, G, s, ps, R, d, s1, g1, fun v H1 F1 ps1 R1 s01 hv => ?_⟩
      obtain ⟨a, vs0, c1, c2, _⟩ := R1.lst e0
      refine ⟨.ref a, c1, F1, G, s1, ps1, R1, .int j, s2, g5, fun w' H2 F2 ps2 R2 s12 hw' => ?_⟩
      obtain ⟨a', vs, k1, k2, t, kn, kr⟩ := R2.lst e1
      have ea : a' = a := by
        rw [c1] at k1
        have z := Option.some.inj (Option.some.inj k1)
        injection z with z
        exact z.symm
      subst ea
      cases hw'
      exact ⟨a', vs, j, n, rfl, rfl, k2, by rw [da_length t]; exact h8, q σ _ F2 ps2 (kr _ _ (da_set (dp_mono s12 d hv) n t)) (s01.trans s12)⟩
    | _ => cases g6
end
end
end Dv

/-! Defs and their calls. -/
namespace Dv
open PySem PySem.Spec PyProof.Rows L2
variable {np : Nat}

/-- what a def does: from the parameters' contents to the result and the parameters' contents behind it -/
abbrev FD := List O → Option (O × List O)
inductive Arg where
  | d (x : D)
  | r (i : Nat)
  | o (x : O)
abbrev MArg := S → Option (Arg × S)
def aV (m : MV) : MArg := fun s => (m s).map fun p => (.d p.1, p.2)
def aO (m : MO) : MArg := fun s => (m s).map fun p => (.o p.1, p.2)
/-- a name handed over: the callee may change what is own there -/
def aR (i : Nat) : MArg := fun s => match s[i]? with
  | some (some _) => some (.r i, s)
  | _ => none
def ArgAt (K : PySem.W.Frag) (F H : Hp) (σ : L2.St) (v : V) : Arg → List Addr → Prop
  | .d x, as => Tr K F v x ∧ as = []
  | .r i, as => σ[i]? = some (some v) ∧ as = []
  | .o x, as => Own K F H v x as
def ArgAll (K : PySem.W.Frag) (F H : Hp) (σ : L2.St) : List V → List Arg → List (List Addr) → Prop
  | [], [], [] => True
  | v :: vs, a :: args, as :: ass => ArgAt K F H σ v a as ∧ ArgAll K F H σ vs args ass
  | _, _, _ => False
def evA : List MArg → S → Option (List Arg × S)
  | [], s => some ([], s)
  | m :: ms, s => (m s).bind fun p => (evA ms p.2).map fun q => (p.1 :: q.1, q.2)
def tArg (np : Nat) (K : PySem.W.Frag) (m : MArg) : TE := fun σ H Q => ∃ F G s ps, Rel np K F G s σ H ps ∧ ∃ a s', m s = some (a, s') ∧ ∀ v H' F' ps' as, Rel np K F' G s' σ H' ps' → Same F F' → ArgAt K F' H' σ v a as → as.Nodup →
  (∀ b ∈ as, F' b = none ∧ G.h b = none ∧ b ∉ ps'.flatten) → Q v H'
def tArgs (np : Nat) (K : PySem.W.Frag) (ms : List MArg) : TA := fun σ H Q => ∃ F G s ps, Rel np K F G s σ H ps ∧ ∃ args s', evA ms s = some (args, s') ∧ ∀ vs H' F' ps' ass, Rel np K F' G s' σ H' ps' → Same F F' → ArgAll K F' H' σ vs args ass → ass.flatten.Nodup →
  (∀ b ∈ ass.flatten, F' b = none ∧ G.h b = none ∧ b ∉ ps'.flatten) → Q vs H'
theorem ArgAt.mono {K : PySem.W.Frag} {F F' H H' : Hp} {σ : L2.St} {v : V} {a : Arg} {as : List Addr} (h : ArgAt K F H σ v a as) (sF : Same F F') (sH : ∀ b ∈ as, ∀ u, H b = some u → H' b = some u) : ArgAt K F' H' σ v a as := by
  cases a with
  | d x => exact ⟨dp_mono sF x h.1, h.2⟩
  | r i => exact h
  | o x => exact Own.mono h sF sH
theorem ArgAt.there {K : PySem.W.Frag} {F H : Hp} {σ : L2.St} {v : V} {a : Arg} {as : List Addr} (h : ArgAt K F H σ v a as) : ∀ b ∈ as, ∃ u, H b = some u := by
  cases a with
  | d x =>
    obtain ⟨_, rfl⟩ := h
    intro b hb
    cases hb
  | r i =>
    obtain ⟨_, rfl⟩ := h
    intro b hb
    cases hb
  | o x => exact Own.there h
section
variable {X : Cx} {e : Expr} {es : List Expr}
theorem r_v {m : MV} (h : PE X e (tV np X.K m)) : PE X e (tArg np X.K (aV m)) := pe_imp h fun σ H Q ⟨F, G, s, ps, R, a, s', hm, q⟩ => by
  obtain ⟨⟨d, s1⟩, h1, h2⟩ := map_some hm
  cases h2
  exact ⟨F, G, s, ps, R, d, s1, h1, fun v H1 F1 ps1 R1 s01 hv => q v H1 F1 ps1 [] R1 s01 ⟨hv, rfl⟩ List.nodup_nil fun b hb => nomatch hb⟩
theorem r_o {m : MO} (h : PE X e (tO np X.K m)) : PE X e (tArg np X.K (aO m)) := pe_imp h fun σ H Q ⟨F, G, s, ps, R, a, s', hm, q⟩ => by
  obtain ⟨⟨o, s1⟩, h1, h2⟩ := map_some hm
  cases h2
  exact ⟨F, G, s, ps, R, o, s1, h1, fun v H1 F1 ps1 as R1 s01 own nd new => q v H1 F1 ps1 as R1 s01 own nd new⟩
theorem r_r {i : Nat} (h : PE X e (tVar i)) : PE X e (tArg np X.K (aR i)) := pe_imp h fun σ H Q ⟨F, G, s, ps, R, a, s', hm, q⟩ => by
  obtain ⟨o, e1, e2⟩ := slot_some hm
  cases e2
  obtain ⟨v, as, h1, _, _⟩ := R.at_ i o e1
  exact ⟨v, h1, q v H F ps [] R (Same.refl F) ⟨h1, rfl⟩ List.nodup_nil fun b hb => nomatch hb⟩
theorem as_nil : PA X [] (tArgs np X.K []) := pa_imp pa_nil fun σ H Q ⟨F, G, s, ps, R, os, s', hm, q⟩ => by
  cases hm
  exact q [] H F ps [] R (Same.refl F) trivial List.nodup_nil fun a ha => nomatch ha
theorem as_cons {m : MArg} {ms : List MArg} (he : PE X e (tArg np X.K m)) (hs : PA X es (tArgs np X.K ms)) (hst : starEach (e :: es) X.env = (false, eval e X.env) :: starEach es X.env := by rfl) : PA X (e :: es) (tArgs np X.K (m :: ms)) :=
  pa_imp (pa_cons he hs hst) fun σ H Q ⟨F, G, s, ps, R, os, s', hm, q⟩ => by
    obtain ⟨⟨o, s1⟩, h1, h2⟩ := bind_some hm
    obtain ⟨⟨os', s2⟩, h3, h4⟩ := map_some h2
    cases h4
    refine ⟨F, G, s, ps, R, o, s1, h1, fun v H1 F1 ps1 as R1 s01 own nd new => ⟨F1, G.add H1 as, s1, ps1, R1.hold new, os', s2, h3, fun vs H2 F2 ps2 ass R2 s12 owns nds news => ?_⟩⟩
    have hG : ∀ a ∈ as, G.h a = none ∧ ∃ u, H1 a = some u := fun a ha => ⟨(new a ha).2.1, own.there a ha⟩
    obtain ⟨R3, keep⟩ := Rel.unhold hG R2
    have apart : ∀ a ∈ as, a ∉ ass.flatten := fun a ha z => by
      have z2 := (news a z).2.1
      obtain ⟨u, e⟩ := (hG a ha).2
      rw [show (G.add H1 as).h a = H1 a from if_pos ha, e] at z2
      cases z2
    refine q (v :: vs) H2 F2 ps2 (as :: ass) R3 (s01.trans s12) ⟨own.mono s12 fun a ha u eu => (keep a ha).2.2 u eu, owns⟩ ?_ fun a ha => ?_
    · rw [List.flatten_cons, List.nodup_append]
      exact ⟨nd, nds, fun x hx y hy e => apart x hx (by rw [e]; exact hy)⟩
    · rw [List.flatten_cons] at ha
      rcases List.mem_append.mp ha with ha | ha
      · exact ⟨(keep a ha).1, (new a ha).2.1, (keep a ha).2.1⟩
      · obtain ⟨n1, n2, n3⟩ := news a ha
        refine ⟨n1, ?_, n3⟩
        have n2' : (if a ∈ as then H1 a else G.h a) = none := n2
        rw [if_neg fun z => apart a z ha] at n2'
        exact n2'
end

/-! ### the contents of the arguments -/
def slotO (s : S) (i : Nat) : Option O := match s[i]? with
  | some (some y) => some y
  | _ => none
theorem slotO_some {s : S} {i : Nat} {o : O} (h : slotO s i = some o) : s[i]? = some (some o) := by
  unfold slotO at h
  split at h
  · rename_i y e
    cases h
    exact e
  · cases h
def Arg.look (s : S) : Arg → Option O
  | .d x => some (.val x)
  | .o x => some x
  | .r i => slotO s i
def conts (s : S) : List Arg → Option (List O)
  | [] => some []
  | a :: as => (a.look s).bind fun o => (conts s as).map fun os => o :: os
def O.isVal : O → Bool
  | .val _ => true
  | _ => false
/-- the slots whose own things are handed over -/
def ownRefs (s : S) : List Arg → List Nat
  | [] => []
  | .r i :: as => (match s[i]? with
    | some (some o) => if o.isVal = true then ownRefs s as else i :: ownRefs s as
    | _ => ownRefs s as)
  | _ :: as => ownRefs s as
def dropRefs : List Arg → S → S
  | [], s => s
  | .r i :: as, s => (dropRefs as s).set i none
  | _ :: as, s => dropRefs as s
def setRefs : List Arg → List O → S → Option S
  | [], [], s => some s
  | .r i :: as, o :: os, s => if i < s.length then setRefs as os (s.set i (some o)) else none
  | _ :: as, _ :: os, s => setRefs as os s
  | _, _, _ => none
def mCall (f : FD) (ms : List MArg) : MO := fun s => (evA ms s).bind fun p => (conts p.2 p.1).bind fun cs => if (ownRefs p.2 p.1).Nodup then (f cs).bind fun r => (setRefs p.1 r.2 (dropRefs p.1 p.2)).map fun s' => (r.1, s') else none
/-- the promise of a def that does f -/
def spOf (K : PySem.W.Frag) (f : FD) : Sp := fun vs H Q _ => ∃ (F G : Hp) (cs : List O) (ass : List (List Addr)), Same F H ∧ Same G H ∧ (∀ a u, G a = some u → F a = none) ∧ OwnAll K F H vs cs ass ∧ ass.flatten.Nodup ∧ (∀ a ∈ ass.flatten, F a = none ∧ G a = none) ∧
  ∃ r outs, f cs = some (r, outs) ∧ ∀ v H' F' as ass', Same F F' → Same F' H' → Same G H' → (∀ a u, G a = some u → F' a = none) → Own K F' H' v r as → OwnAll K F' H' vs outs ass' → (as ++ ass'.flatten).Nodup → (∀ a ∈ as ++ ass'.flatten, F' a = none ∧ G a = none) → Q v H'
section
variable {K : PySem.W.Frag} {F F' H H' : Hp} {G : Gd} {s : S} {σ : L2.St} {ps : List (List Addr)}
theorem Own.nil_of_val {v : V} {o : O} {as : List Addr} (h : Own K F H v o as) (hv : o.isVal = true) : as = [] := by
  cases o with
  | val d => exact h.2
  | lst xs => cases hv
/-- the arguments' own things: those of the slots, those made for the call -/
theorem args_own (R : Rel np K F G s σ H ps) : ∀ {args : List Arg} {vs : List V} {ass : List (List Addr)} {cs : List O}, ArgAll K F H σ vs args ass → ass.flatten.Nodup → (∀ b ∈ ass.flatten, F b = none ∧ G.h b = none ∧ b ∉ ps.flatten) → conts s args = some cs → (ownRefs s args).Nodup →
    ∃ bss, OwnAll K F H vs cs bss ∧ bss.flatten.Nodup ∧ (∀ b ∈ bss.flatten, F b = none ∧ G.h b = none) ∧ (∀ b ∈ bss.flatten, b ∈ ass.flatten ∨ ∃ i ∈ ownRefs s args, ∃ as, ps[i]? = some as ∧ b ∈ as) ∧ ∀ i ∈ ownRefs s args, ∀ as, ps[i]? = some as → ∀ b ∈ as, b ∈ bss.flatten
  | [], vs, ass, cs, h, _, _, hc, _ => by
    cases hc
    match vs, ass, h with
    | [], [], _ => exact ⟨[], trivial, List.nodup_nil, (fun b hb => nomatch hb), (fun b hb => nomatch hb), fun i hi => nomatch hi⟩
    | _ :: _, _, h => exact h.elim
    | [], _ :: _, h => exact h.elim
  | a :: args, vs, ass, cs, h, nd, new, hc, nr => by
    match vs, ass, h with
    | [], _, h => exact h.elim
    | _ :: _, [], h => exact h.elim
    | v :: vs, as :: ass, h =>
      obtain ⟨o, h1, h2⟩ := bind_some hc
      obtain ⟨os, h3, h4⟩ := map_some h2
      cases h4
      rw [List.flatten_cons, List.nodup_append] at nd
      have new2 : ∀ b ∈ ass.flatten, F b = none ∧ G.h b = none ∧ b ∉ ps.flatten := fun b hb => new b (by rw [List.flatten_cons]; exact List.mem_append_right _ hb)
      cases a with
      | d x =>
        obtain ⟨bss, g1, g2, g3, g4, g5⟩ := args_own R h.2 nd.2.1 new2 h3 nr
        obtain ⟨t, rfl⟩ := h.1
        cases h1
        exact ⟨[] :: bss, ⟨⟨t, rfl⟩, g1⟩, by rw [List.flatten_cons, List.nil_append]; exact g2, by rw [List.flatten_cons, List.nil_append]; exact g3, by rw [List.flatten_cons, List.nil_append]; exact g4, by rw [List.flatten_cons, List.nil_append]; exact g5⟩
      | o x =>
        obtain ⟨bss, g1, g2, g3, g4, g5⟩ := args_own R h.2 nd.2.1 new2 h3 nr
        cases h1
        have newA : ∀ b ∈ as, F b = none ∧ G.h b = none ∧ b ∉ ps.flatten := fun b hb => new b (by rw [List.flatten_cons]; exact List.mem_append_left _ hb)
        refine ⟨as :: bss, ⟨h.1, g1⟩, ?_, fun b hb => ?_, fun b hb => ?_, fun i hi as' ha b hb => ?_⟩
        · rw [List.flatten_cons, List.nodup_append]
          refine ⟨nd.1, g2, fun x hx y hy e => ?_⟩
          rcases g4 y hy with z | ⟨i, hi, as', ha, hb⟩
          · exact nd.2.2 x hx y z e
          · exact (newA x hx).2.2 (mem_flat ha (by rw [e]; exact hb))
        · rw [List.flatten_cons] at hb
          rcases List.mem_append.mp hb with hb | hb
          · exact ⟨(newA b hb).1, (newA b hb).2.1⟩
          · exact g3 b hb
        · rw [List.flatten_cons] at hb ⊢
          rcases List.mem_append.mp hb with hb | hb
          · exact .inl (List.mem_append_left _ hb)
          · exact (g4 b hb).imp (List.mem_append_right _) id
        · rw [List.flatten_cons]
          exact List.mem_append_right _ (g5 i hi as' ha b hb)
      | r i =>
        obtain ⟨e1, rfl⟩ := h.1
        rw [List.flatten_cons, List.nil_append] at new
        have e2 : s[i]? = some (some o) := slotO_some h1
        obtain ⟨v', as', k1, k2, k3⟩ := R.at_ i o e2
        have ev : v' = v := by
          rw [e1] at k1
          exact (Option.some.inj (Option.some.inj k1)).symm
        subst ev
        have er : ownRefs s (.r i :: args) = if o.isVal = true then ownRefs s args else i :: ownRefs s args := by
          show (match s[i]? with | some (some o) => if o.isVal = true then ownRefs s args else i :: ownRefs s args | _ => ownRefs s args) = _
          rw [e2]
        rw [er] at nr
        by_cases hv : o.isVal = true
        · rw [if_pos hv] at nr
          have en := k3.nil_of_val hv
          subst en
          obtain ⟨bss, g1, g2, g3, g4, g5⟩ := args_own R h.2 nd.2.1 new2 h3 nr
          rw [er, if_pos hv]
          exact ⟨[] :: bss, ⟨k3, g1⟩, by rw [List.flatten_cons, List.nil_append]; exact g2, by rw [List.flatten_cons, List.nil_append]; exact g3, by rw [List.flatten_cons, List.nil_append]; exact g4, by rw [List.flatten_cons, List.nil_append]; exact g5⟩
        · rw [if_neg hv] at nr
          obtain ⟨n1, n2⟩ := List.nodup_cons.mp nr
          obtain ⟨bss, g1, g2, g3, g4, g5⟩ := args_own R h.2 nd.2.1 new2 h3 n2
          rw [er, if_neg hv]
          refine ⟨as' :: bss, ⟨k3, g1⟩, ?_, fun b hb => ?_, fun b hb => ?_, fun j hj as2 ha b hb => ?_⟩
          · rw [List.flatten_cons, List.nodup_append]
            refine ⟨nodup_at R.nd k2, g2, fun x hx y hy e => ?_⟩
            subst e
            rcases g4 x hy with z | ⟨j, hj, as2, ha, hb⟩
            · exact (new2 x z).2.2 (mem_flat k2 hx)
            · exact flat_apart R.nd k2 ha (fun z => n1 (by rw [← z]; exact hj)) hx hb
          · rw [List.flatten_cons] at hb
            rcases List.mem_append.mp hb with hb | hb
            · exact ⟨(R.apart b (mem_flat k2 hb)).1, (R.apart b (mem_flat k2 hb)).2.1⟩
            · exact g3 b hb
          · rw [List.flatten_cons] at hb
            rw [List.flatten_cons, List.nil_append]
            rcases List.mem_append.mp hb with hb | hb
            · exact .inr ⟨i, List.mem_cons_self, as', k2, hb⟩
            · rcases g4 b hb with z | ⟨j, hj, as2, ha, hb⟩
              · exact .inl z
              · exact .inr ⟨j, List.mem_cons_of_mem _ hj, as2, ha, hb⟩
          · rw [List.flatten_cons]
            rcases List.mem_cons.mp hj with e | hj
            · subst e
              rw [k2] at ha
              cases ha
              exact List.mem_append_left _ hb
            · exact List.mem_append_right _ (g5 j hj as2 ha b hb)
def dropPs : List Arg → List (List Addr) → List (List Addr)
  | [], ps => ps
  | .r i :: as, ps => (dropPs as ps).set i []
  | _ :: as, ps => dropPs as ps
theorem Rel.drops (R : Rel np K F G s σ H ps) : ∀ args : List Arg, Rel np K F G (dropRefs args s) σ H (dropPs args ps)
  | [] => R
  | .r i :: args => (Rel.drops R args).drop i rfl R.pin fun _ _ => rfl
  | .d _ :: args => Rel.drops R args
  | .o _ :: args => Rel.drops R args
/-- what is left there of the slots' addresses -/
theorem dropPs_at {args : List Arg} {i : Nat} {as : List Addr} {b : Addr} (h : (dropPs args ps)[i]? = some as) (hb : b ∈ as) : ps[i]? = some as ∧ Arg.r i ∉ args := by
  induction args generalizing as with
  | nil => exact ⟨h, by simp⟩
  | cons a args ih =>
    cases a with
    | r j =>
      have h' : ((dropPs args ps).set j [])[i]? = some as := h
      by_cases c : j = i
      · subst c
        by_cases hl : j < (dropPs args ps).length
        · rw [List.getElem?_set_self hl] at h'
          cases h'
          cases hb
        · rw [List.getElem?_eq_none (by rw [List.length_set]; omega)] at h'
          cases h'
      · rw [List.getElem?_set_ne c] at h'
        obtain ⟨h1, h2⟩ := ih h' hb
        exact ⟨h1, by simp only [List.mem_cons, not_or]; exact ⟨(fun z => by cases z; exact c rfl), h2⟩⟩
    | d x =>
      obtain ⟨h1, h2⟩ := ih h hb
      exact ⟨h1, by simp only [List.mem_cons, not_or]; exact ⟨(fun z => by cases z), h2⟩⟩
    | o x =>
      obtain ⟨h1, h2⟩ := ih h hb
      exact ⟨h1, by simp only [List.mem_cons, not_or]; exact ⟨(fun z => by cases z), h2⟩⟩
/-- the same slots over a later heap -/
theorem Rel.over (R : Rel np K F G s σ H ps) (sF : Same F F') (sF' : Same F' H') (sG : Same G.h H') (fg : ∀ a u, G.h a = some u → F' a = none) (keep : ∀ b ∈ ps.flatten, F' b = none ∧ ∀ u, H b = some u → H' b = some u) : Rel np K F' G s σ H' ps where
  sF := sF'
  sG := sG
  pin := R.pin
  few := R.few
  fg := fg
  lenP := R.lenP
  lenS := R.lenS
  at_ := fun i o e => by
    obtain ⟨v, as, h1, h2, h3⟩ := R.at_ i o e
    exact ⟨v, as, h1, h2, h3.mono sF fun a ha u eu => (keep a (mem_flat h2 ha)).2 u eu⟩
  nd := R.nd
  apart := fun a ha => by
    obtain ⟨_, h2, u, h3⟩ := R.apart a ha
    exact ⟨(keep a ha).1, h2, u, (keep a ha).2 u h3⟩
/-- a slot stored, at its own value -/
theorem Rel.fill (R : Rel np K F G s σ H ps) {i : Nat} {o : O} {v : V} {as : List Addr} (hi : i < s.length) (hv : σ[i]? = some (some v)) (own : Own K F H v o as) (nd : as.Nodup) (new : ∀ a ∈ as, F a = none ∧ G.h a = none ∧ a ∉ ps.flatten) : Rel np K F G (s.set i (some o)) σ H (ps.set i as) := by
  have hσ : σ = σ.set i (some v) := by
    apply List.ext_getElem?
    intro j
    by_cases c : i = j
    · subst c
      rw [List.getElem?_set_self (by rw [R.lenS]; exact hi), hv]
    · rw [List.getElem?_set_ne c]
  exact R.put hi (Same.refl F) R.sF R.sG hσ R.pin R.fg own nd (fun a ha => ⟨(new a ha).1, (new a ha).2.1, fun j bs hj hb z => (new a ha).2.2 (mem_flat hb z)⟩) fun j bs hj hb a ha => ⟨(R.apart a (mem_flat hb ha)).1, fun u eu => eu⟩
theorem Rel.fills : ∀ {args : List Arg} {os : List O} {vs : List V} {ass ass0 : List (List Addr)} {s s' : S} {ps : List (List Addr)} {F0 H0 : Hp}, Rel np K F G s σ H ps → ArgAll K F0 H0 σ vs args ass0 → OwnAll K F H vs os ass → ass.flatten.Nodup → (∀ a ∈ ass.flatten, F a = none ∧ G.h a = none ∧ a ∉ ps.flatten) → setRefs args os s = some s' →
    ∃ ps', Rel np K F G s' σ H ps' ∧ ∀ a ∈ ps'.flatten, a ∈ ps.flatten ∨ a ∈ ass.flatten
  | [], [], vs, ass, ass0, s, s', ps, F0, H0, R, _, _, _, _, h => by
    cases h
    exact ⟨ps, R, fun a ha => .inl ha⟩
  | a :: args, o :: os, vs, ass, ass0, s, s', ps, F0, H0, R, ar, own, nd, new, h => by
    match vs, ass, ass0, ar, own with
    | v :: vs, as :: ass, as0 :: ass0, ar, own =>
      rw [List.flatten_cons, List.nodup_append] at nd
      have new2 : ∀ b ∈ ass.flatten, F b = none ∧ G.h b = none ∧ b ∉ ps.flatten := fun b hb => new b (by rw [List.flatten_cons]; exact List.mem_append_right _ hb)
      have newA : ∀ b ∈ as, F b = none ∧ G.h b = none ∧ b ∉ ps.flatten := fun b hb => new b (by rw [List.flatten_cons]; exact List.mem_append_left _ hb)
      cases a with
      | r i =>
        have h' : (if i < s.length then setRefs args os (s.set i (some o)) else none) = some s' := h
        split at h'
        · rename_i hi
          have R1 := R.fill hi ar.1.1 own.1 nd.1 newA
          obtain ⟨ps', R2, k⟩ := Rel.fills R1 ar.2 own.2 nd.2.1 (fun b hb => ⟨(new2 b hb).1, (new2 b hb).2.1, fun z => by
            rcases mem_set_flat z with z | z
            · exact nd.2.2 b z b hb rfl
            · exact (new2 b hb).2.2 z⟩) h'
          refine ⟨ps', R2, fun b hb => ?_⟩
          rw [List.flatten_cons]
          rcases k b hb with z | z
          · rcases mem_set_flat z with z | z
            · exact .inr (List.mem_append_left _ z)
            · exact .inl z
          · exact .inr (List.mem_append_right _ z)
        · cases h'
      | d x =>
        obtain ⟨ps', R2, k⟩ := Rel.fills R ar.2 own.2 nd.2.1 new2 h
        refine ⟨ps', R2, fun b hb => ?_⟩
        rw [List.flatten_cons]
        exact (k b hb).imp id (List.mem_append_right _)
      | o x =>
        obtain ⟨ps', R2, k⟩ := Rel.fills R ar.2 own.2 nd.2.1 new2 h
        refine ⟨ps', R2, fun b hb => ?_⟩
        rw [List.flatten_cons]
        exact (k b hb).imp id (List.mem_append_right _)
    | [], _, _, ar, _ => exact ar.elim
    | _ :: _, [], _, _, own => exact own.elim
    | _ :: _, _ :: _, [], ar, _ => exact ar.elim
  | [], _ :: _, _, _, _, _, _, _, _, _, _, _, _, _, _, h => by cases h
  | a :: args, [], _, _, _, _, _, _, _, _, _, _, _, _, _, h => by cases a <;> cases h
theorem ownRefs_mem {args : List Arg} {i : Nat} (h : i ∈ ownRefs s args) : Arg.r i ∈ args := by
  induction args with
  | nil => cases h
  | cons a args ih =>
    cases a with
    | r j =>
      have h' : i ∈ (match s[j]? with | some (some o) => if o.isVal = true then ownRefs s args else j :: ownRefs s args | _ => ownRefs s args) := h
      split at h'
      · split at h'
        · exact List.mem_cons_of_mem _ (ih h')
        · rcases List.mem_cons.mp h' with e | h'
          · rw [e]; exact List.mem_cons_self
          · exact List.mem_cons_of_mem _ (ih h')
      · exact List.mem_cons_of_mem _ (ih h')
    | d x => exact List.mem_cons_of_mem _ (ih h)
    | o x => exact List.mem_cons_of_mem _ (ih h)
end
/-- a call done -/
theorem call_done {K : PySem.W.Frag} {f : FD} {ms : List MArg} {σ : L2.St} {H : Hp} {Q : VK} {E : XK} (h : tO np K (mCall f ms) σ H Q) : tCall (spOf K f) [] E (tArgs np K ms) σ H Q := by
  obtain ⟨F, G, s, ps, R, o, s', hm, q⟩ := h
  obtain ⟨⟨args, s1⟩, h1, h2⟩ := bind_some hm
  obtain ⟨cs, h3, h4⟩ := bind_some h2
  dsimp only at h3 h4
  split at h4
  · rename_i nr
    obtain ⟨⟨r, outs⟩, h5, h6⟩ := bind_some h4
    obtain ⟨s2, h7, h8⟩ := map_some h6
    cases h8
    refine ⟨F, G, s, ps, R, args, s1, h1, fun vs H1 F1 ps1 ass R1 s01 al nd new => ?_⟩
    show spOf K f (vs ++ []) H1 Q E
    rw [List.append_nil]
    obtain ⟨bss, g1, g2, g3, g4, g5⟩ := args_own R1 al nd new h3 nr
    -- what the callee must keep
    have gat : ∀ b u, (if b ∈ bss.flatten then none else if b ∈ ps1.flatten then H1 b else G.h b) = some u → b ∉ bss.flatten ∧ H1 b = some u := fun b u e => by
      split at e
      · cases e
      · rename_i hb
        split at e
        · exact ⟨hb, e⟩
        · exact ⟨hb, R1.sG b u e⟩
    refine ⟨F1, fun b => if b ∈ bss.flatten then none else if b ∈ ps1.flatten then H1 b else G.h b, cs, bss, R1.sF, fun b u e => (gat b u e).2, fun b u e => ?_, g1, g2, fun b hb => ⟨(g3 b hb).1, if_pos hb⟩, r, outs, h5, fun v H2 F2 as ass' s12 sF2 sG2 fg2 own owns nd2 new2 => ?_⟩
    · have e' : (if b ∈ bss.flatten then none else if b ∈ ps1.flatten then H1 b else G.h b) = some u := e
      split at e'
      · cases e'
      · split at e'
        · rename_i hb
          exact (R1.apart b hb).1
        · exact R1.fg b u e'
    · rw [List.nodup_append] at nd2
      -- the slots that weren't handed over
      have Rd := R1.drops args
      have keep : ∀ b ∈ (dropPs args ps1).flatten, b ∉ bss.flatten ∧ b ∈ ps1.flatten := fun b hb => by
        obtain ⟨bs, hbs, hy⟩ := List.mem_flatten.mp hb
        obtain ⟨j, hj⟩ := List.getElem?_of_mem hbs
        obtain ⟨k1, k2⟩ := dropPs_at hj hy
        refine ⟨fun z => ?_, mem_flat k1 hy⟩
        rcases g4 b z with z | ⟨i, hi, as', ha, hb'⟩
        · exact (new b z).2.2 (mem_flat k1 hy)
        · by_cases c : i = j
          · subst c
            exact k2 (ownRefs_mem hi)
          · exact flat_apart R1.nd ha k1 (Ne.symm c) hb' hy
      have gin : ∀ b ∈ (dropPs args ps1).flatten, ∀ u, H1 b = some u → (if b ∈ bss.flatten then none else if b ∈ ps1.flatten then H1 b else G.h b) = some u := fun b hb u eu => by
        rw [if_neg (keep b hb).1, if_pos (keep b hb).2]
        exact eu
      have gG : ∀ b u, G.h b = some u → (if b ∈ bss.flatten then none else if b ∈ ps1.flatten then H1 b else G.h b) = some u := fun b u eu => by
        rw [if_neg fun z => by rw [(g3 b z).2] at eu; cases eu]
        split
        · exact R1.sG b u eu
        · exact eu
      have R2 := Rd.over (F' := F2) (H' := H2) s12 sF2 (fun b u eu => sG2 b u (gG b u eu)) (fun b u eu => fg2 b u (gG b u eu)) fun b hb => by
        obtain ⟨_, _, u, eu⟩ := Rd.apart b hb
        exact ⟨fg2 b u (gin b hb u eu), fun u' eu' => sG2 b u' (gin b hb u' eu')⟩
      have hnew : ∀ a ∈ as ++ ass'.flatten, F2 a = none ∧ G.h a = none ∧ a ∉ (dropPs args ps1).flatten := fun a ha => by
        obtain ⟨n1, n2⟩ := new2 a ha
        refine ⟨n1, ?_, fun z => ?_⟩
        · cases e : G.h a with
          | none => rfl
          | some u => exact nomatch (gG a u e).symm.trans n2
        · obtain ⟨_, _, u, eu⟩ := Rd.apart a z
          exact nomatch (gin a z u eu).symm.trans n2
      obtain ⟨ps2, R3, k⟩ := R2.fills al owns nd2.2.1 (fun a ha => hnew a (List.mem_append_right _ ha)) h7
      refine q v H2 F2 ps2 as R3 (s01.trans s12) own nd2.1 fun a ha => ?_
      obtain ⟨n1, n2, n3⟩ := hnew a (List.mem_append_left _ ha)
      refine ⟨n1, n2, fun z => ?_⟩
      rcases k a z with z | z
      · exact n3 z
      · exact nd2.2.2 a ha a z rfl
  · cases h4
section
variable {X : Cx} {k : Nat} {f : Addr} {fd : FuncData} {ps : List Str} {x : Str} {p pos : Pos} {e : Expr} {es : List Expr} {ms : List MArg} {df : FD} {E : XK}
theorem e_call (F : FnOk X.prog X.w X.K X.mg X.base CX0 k f fd ps (spOf X.K df)) (hr : Room k X.A) (hg : Gl X x) (hm : X.mg x = some (.ref f)) (hk : PySem.W.keepIn X.K (.ref f) = true) (hb : Binds X.K fd ps []) (ha : PA X (e :: es) (tArgs np X.K ms))
    (hdb : (x == ("__debug__" : Str)) = false := by decide) (he : starEach (e :: es) X.env = (false, eval e X.env) :: starEach es X.env := by rfl) (hpl : (backTo pos (starEach es X.env)).any (·.1) = false := by rfl) : PE X (.Call (.Name x p) (e :: es) [] pos) (tO np X.K (mCall df ms)) :=
  pe_imp (pe_call F hr hg hm hk hb .nil pass0 ha hdb he hpl) fun _ _ _ => call_done
theorem e_call0 (F : FnOk X.prog X.w X.K X.mg X.base CX0 k f fd ps (spOf X.K df)) (hr : Room k X.A) (hg : Gl X x) (hm : X.mg x = some (.ref f)) (hk : PySem.W.keepIn X.K (.ref f) = true) (hb : Binds X.K fd ps []) (hdb : (x == ("__debug__" : Str)) = false := by decide) : PE X (.Call (.Name x p) [] [] pos) (tO np X.K (mCall df [])) :=
  pe_imp (pe_call0 F hr hg hm hk hb .nil pass0 hdb) fun σ H Q h => by
    obtain ⟨F, G, s, ps, R, os, s', hm, q⟩ := call_done (E := E0) h
    cases hm
    exact q [] H F ps [] R (Same.refl F) trivial List.nodup_nil fun a ha => nomatch ha
end
end Dv

/-! A def by its body. -/
namespace Dv
open PySem PySem.Spec PyProof.Rows L2
variable {np : Nat}
/-- what the parameters' slots hold at the end -/
def outsOf : Nat → S → Option (List O)
  | 0, _ => some []
  | n + 1, some o :: s => (outsOf n s).map fun os => o :: os
  | _, _ => none
/-- the def of n slots, np of them parameters -/
def runDef (n np : Nat) (m : MS) : FD := fun cs => if cs.length = np then (m (cs.map some ++ List.replicate (n - np) none)).bind fun p => (outsOf np p.2).bind fun outs => match p.1 with
    | .nx => some (.val .none, outs)
    | .rt o => some (o, outs)
    | _ => none
  else none
section
variable {K : PySem.W.Frag} {F H : Hp}
theorem ownAll_at : ∀ {vs : List V} {os : List O} {ass : List (List Addr)} {i : Nat} {o : O}, OwnAll K F H vs os ass → os[i]? = some o → ∃ v as, vs[i]? = some v ∧ ass[i]? = some as ∧ Own K F H v o as
  | v :: vs, o :: os, as :: ass, 0, o', h, e => by
    cases e
    exact ⟨v, as, rfl, rfl, h.1⟩
  | v :: vs, o :: os, as :: ass, i + 1, o', h, e => by
    obtain ⟨v', as', h1, h2, h3⟩ := ownAll_at (i := i) (o := o') h.2 (by simpa using e)
    exact ⟨v', as', by simpa using h1, by simpa using h2, h3⟩
  | [], [], _, _, _, _, e => by simp at e
  | [], _ :: _, _, _, _, h, _ => h.elim
  | _ :: _, [], _, _, _, h, _ => h.elim
  | _ :: _, _ :: _, [], _, _, h, _ => h.elim
theorem ownAll_there : ∀ {vs : List V} {os : List O} {ass : List (List Addr)}, OwnAll K F H vs os ass → ∀ a ∈ ass.flatten, ∃ u, H a = some u
  | [], [], [], _, a, ha => nomatch ha
  | v :: vs, o :: os, as :: ass, h, a, ha => by
    rw [List.flatten_cons] at ha
    rcases List.mem_append.mp ha with ha | ha
    · exact h.1.there a ha
    · exact ownAll_there h.2 a ha
  | [], _ :: _, _, h, _, _ => h.elim
  | [], [], _ :: _, h, _, _ => h.elim
  | _ :: _, [], _, h, _, _ => h.elim
  | _ :: _, _ :: _, [], h, _, _ => h.elim
theorem outs_own : ∀ {vs : List V} {s : S} {σ : L2.St} {ps : List (List Addr)} {outs : List O}, (∀ (i : Nat) (o : O), s[i]? = some (some o) → ∃ v as, σ[i]? = some (some v) ∧ ps[i]? = some as ∧ Own K F H v o as) → σ.take vs.length = vs.map some → outsOf vs.length s = some outs → OwnAll K F H vs outs (ps.take vs.length)
  | [], s, σ, ps, outs, _, _, h => by
    cases h
    exact trivial
  | v :: vs, [], σ, ps, outs, _, _, h => by cases h
  | v :: vs, none :: s, σ, ps, outs, _, _, h => by cases h
  | v :: vs, some o :: s, σ, ps, outs, at_, hp, h => by
    obtain ⟨os, h1, h2⟩ := map_some h
    cases h2
    obtain ⟨v', as, e1, e2, own⟩ := at_ 0 o rfl
    match σ, ps, e1, e2 with
    | x :: σ, bs :: ps, e1, e2 =>
      cases e2
      have e1' : x = some v' := Option.some.inj e1
      subst e1'
      have hp' : some v' :: σ.take vs.length = some v :: vs.map some := hp
      obtain ⟨g1, g2⟩ := List.cons.inj hp'
      cases g1
      exact ⟨own, outs_own (σ := σ) (fun i o' e => by
        obtain ⟨v2, as2, k1, k2, k3⟩ := at_ (i + 1) o' (by simpa using e)
        exact ⟨v2, as2, by simpa using k1, by simpa using k2, k3⟩) g2 h1⟩
theorem flat_nils : ∀ n : Nat, (List.replicate n ([] : List Addr)).flatten = []
  | 0 => rfl
  | n + 1 => by
    rw [List.replicate_succ, List.flatten_cons, List.nil_append]
    exact flat_nils n
end
section
variable {P : Program} {w : World} {K : PySem.W.Frag} {mg : Str → Option Value} {base : Heap}
theorem def_tS {m : MS} {N : List Str} {vs : List V} {H : Hp} {Q : VK} {E : XK} (hle : np ≤ N.length) (h : spOf K (runDef N.length np m) vs H Q E) : tS np K m { nx := fun _ H' => Q .non H', rt := Q } (L2.start N vs) H := by
  obtain ⟨F, G, cs, ass, sF, sG, fg, own, nd, new, r, outs, hf, q⟩ := h
  obtain ⟨l1, l2⟩ := ownAll_len own
  unfold runDef at hf
  split at hf
  · rename_i hc
    obtain ⟨⟨f, s'⟩, h1, h2⟩ := bind_some hf
    obtain ⟨outs', h3, h4⟩ := bind_some h2
    have hv : vs.length = np := l1.trans hc
    have fin : ∀ {v : V} {o : O} {σ' : L2.St} {H' F' : Hp} {ps' : List (List Addr)} {as : List Addr}, Rel np K F' ⟨G, vs.map some⟩ s' σ' H' ps' → Same F F' → Own K F' H' v o as → as.Nodup → (∀ a ∈ as, F' a = none ∧ G a = none ∧ a ∉ ps'.flatten) → r = o → outs = outs' → Q v H' := by
      intro v o σ' H' F' ps' as R sFF ow ndA newA e1 e2
      subst e1
      subst e2
      have hp : σ'.take vs.length = vs.map some := by
        have := R.pin
        rwa [List.length_map] at this
      have sub : ∀ a ∈ (ps'.take vs.length).flatten, a ∈ ps'.flatten := fun a ha => by
        have e : ps'.flatten = (ps'.take vs.length).flatten ++ (ps'.drop vs.length).flatten := by rw [← List.flatten_append, List.take_append_drop]
        rw [e]
        exact List.mem_append_left _ ha
      have ndT : (ps'.take vs.length).flatten.Nodup := by
        have e : ps'.flatten = (ps'.take vs.length).flatten ++ (ps'.drop vs.length).flatten := by rw [← List.flatten_append, List.take_append_drop]
        have := R.nd
        rw [e, List.nodup_append] at this
        exact this.1
      refine q v H' F' as (ps'.take vs.length) sFF R.sF R.sG R.fg ow (outs_own R.at_ hp (by rw [hv]; exact h3)) ?_ fun a ha => ?_
      · rw [List.nodup_append]
        exact ⟨ndA, ndT, fun x hx y hy e => (newA x hx).2.2 (by rw [e]; exact sub y hy)⟩
      · rcases List.mem_append.mp ha with ha | ha
        · exact ⟨(newA a ha).1, (newA a ha).2.1⟩
        · exact ⟨(R.apart a (sub a ha)).1, (R.apart a (sub a ha)).2.1⟩
    have efl : (ass ++ List.replicate (N.length - np) ([] : List Addr)).flatten = ass.flatten := by rw [List.flatten_append, flat_nils, List.append_nil]
    refine ⟨F, ⟨G, vs.map some⟩, cs.map some ++ List.replicate (N.length - np) none, ass ++ List.replicate (N.length - np) [], ⟨sF, sG, ?_, ?_, fg, ?_, ?_, fun i o e => ?_, ?_, fun a ha => ?_⟩, f, s', h1, ?_⟩
    · show (L2.start N vs).take (vs.map some).length = vs.map some
      unfold L2.start
      rw [List.take_left]
    · show (vs.map some).length ≤ np
      rw [List.length_map, hv]
      exact Nat.le_refl _
    · rw [List.length_append, List.length_append, List.length_map, List.length_replicate, List.length_replicate, l2]
    · unfold L2.start
      rw [List.length_append, List.length_append, List.length_map, List.length_map, List.length_replicate, List.length_replicate, hv, hc]
    · by_cases hi : i < cs.length
      · rw [List.getElem?_append_left (by rw [List.length_map]; exact hi), List.getElem?_map] at e
        obtain ⟨o', e1, e2⟩ := map_some e
        cases e2
        obtain ⟨v, as, k1, k2, k3⟩ := ownAll_at own e1
        refine ⟨v, as, ?_, ?_, k3⟩
        · unfold L2.start
          rw [List.getElem?_append_left (by rw [List.length_map, l1]; exact hi), List.getElem?_map, k1]
          rfl
        · rw [List.getElem?_append_left (by rw [l2]; exact hi)]
          exact k2
      · rw [List.getElem?_append_right (by rw [List.length_map]; omega), List.getElem?_replicate] at e
        split at e
        · cases e
        · cases e
    · rw [efl]
      exact nd
    · rw [efl] at ha
      exact ⟨(new a ha).1, (new a ha).2, ownAll_there own a ha⟩
    · cases f with
      | nx =>
        cases h4
        exact fun σ' H' F' ps' R s01 => fin R s01 (o := .val .none) (as := []) ⟨.non, rfl⟩ List.nodup_nil (fun a ha => nomatch ha) rfl rfl
      | rt o =>
        cases h4
        exact fun v σ' H' F' ps' as R s01 ow ndA newA => fin R s01 ow ndA newA rfl rfl
      | bk => cases h4
      | ct => cases h4
  · cases hf
theorem def_ok {m : MS} {x qual : Str} {st : Stmt} {f : Addr} {fd : FuncData} {N ps : List Str} {k : Nat} (F : Fun K x qual st f fd) (S : FnScope N ps (defScope st)) (hp : ps.length = np)
    (body : ∀ (cdv : Value) (A : Around) (outer : List Env) (s : Shared) (H : Hp) (E : XK), Room k (A.deeper (envOfC qual (defScope st) s.heap.objs.size f cdv)) → PSs (cxOf CX0 P w K mg base N qual (defScope st) f cdv A outer s H E).nox (defBody st) (tS np K m)) : FnOk P w K mg base CX0 (k + 1) f fd ps (spOf K (runDef N.length np m)) :=
  F.ok S (fun vs H Q E h => by
    obtain ⟨F, G, cs, ass, _, _, _, own, _, _, r, outs, hf, _⟩ := h
    unfold runDef at hf
    split at hf
    · rename_i hc
      rw [(ownAll_len own).1, hc, hp]
    · cases hf) fun cdv A outer s H vs Q E hr h => ⟨_, body cdv A outer s H E hr, def_tS (by
      have := congrArg List.length S.pre
      rw [List.length_take] at this
      omega) h⟩
end
end Dv

/-! What is walked over; for, while. -/
namespace Dv
open PySem PySem.Spec PyProof.Rows L2
variable {np : Nat}
abbrev MI := S → Option (List D × S)
/-- the walk gives the items ds, one after the other -/
structure WalkD (K : PySem.W.Frag) (F : Hp) (J : It) (ds : List D) : Prop where
  goes : ∀ (i : Nat) (H : Hp), i < ds.length → Same F H → J.go i H
  stops : ∀ H : Hp, Same F H → J.stop ds.length H
  yields : ∀ (i : Nat) (d : D) (H : Hp) (x : V) (H' : Hp), ds[i]? = some d → Same F H → J.yld i H x H' → (H' = H ∧ Tr K F x d) ∨ ∃ T u, H T = none ∧ H' = upd H T u ∧ ∀ F', Same F F' → F' T = none → Tr K (upd F' T u) x d
def tI (np : Nat) (K : PySem.W.Frag) (m : MI) : TI := fun σ H R => ∃ F G s ps, Rel np K F G s σ H ps ∧ ∃ ds s', m s = some (ds, s') ∧ ∀ J H' F' ps', Rel np K F' G s' σ H' ps' → Same F F' → WalkD K F' J ds → R J H'
section
variable {K : PySem.W.Frag} {F F0 H H' : Hp} {G : Gd} {s : S} {σ : L2.St} {ps : List (List Addr)} {J : It} {ds : List D}
theorem WalkD.step (w : WalkD K F0 J ds) {i : Nat} {d : D} {x : V} (hd : ds[i]? = some d) (R : Rel np K F G s σ H ps) (s0 : Same F0 F) (y : J.yld i H x H') : ∃ F', Rel np K F' G s σ H' ps ∧ Same F F' ∧ Tr K F' x d := by
  rcases w.yields i d H x H' hd (s0.trans R.sF) y with ⟨rfl, t⟩ | ⟨T, u, hT, rfl, t⟩
  · exact ⟨F, R, Same.refl F, dp_mono s0 d t⟩
  · obtain ⟨R1, s1⟩ := R.laid (o := u) hT
    exact ⟨_, R1, s1, t F s0 (R.sF.free hT)⟩
theorem walkD_list {a : Addr} {xs : List V} (h1 : SqL K F a xs) (h2 : TrAll K F xs ds) : WalkD K F (Itl K a) ds where
  goes := fun i H hi sH => ⟨xs, xs[i]'(by rw [da_length h2]; exact hi), sH.seq h1, List.getElem?_eq_getElem _⟩
  stops := fun H sH => ⟨xs, sH.seq h1, Nat.le_of_eq (da_length h2)⟩
  yields := fun i d H x H' hd sH ⟨e, y⟩ => by
    obtain ⟨v, e1, e2⟩ := da_get h2 hd
    have e3 := (y xs (sH.seq h1)).symm.trans e1
    cases e3
    exact .inl ⟨e, e2⟩
theorem walkD_tup {a : Addr} {xs : List V} (h1 : SqT K F a xs) (h2 : TrAll K F xs ds) : WalkD K F (Itt K a) ds where
  goes := fun i H hi sH => ⟨xs, xs[i]'(by rw [da_length h2]; exact hi), same_tup sH h1, List.getElem?_eq_getElem _⟩
  stops := fun H sH => ⟨xs, same_tup sH h1, Nat.le_of_eq (da_length h2)⟩
  yields := fun i d H x H' hd sH ⟨e, y⟩ => by
    obtain ⟨v, e1, e2⟩ := da_get h2 hd
    have e3 := (y xs (same_tup sH h1)).symm.trans e1
    cases e3
    exact .inl ⟨e, e2⟩
end
def chrs (x : Str) : List D := x.cps.toList.map fun c => .str ⟨#[c]⟩
def itemsD : D → Option (List D)
  | .list ds => some ds
  | .tuple ds => some ds
  | .str x => some (chrs x)
  | _ => none
def iVal (m : MV) : MI := fun s => (m s).bind fun p => (itemsD p.1).map fun ds => (ds, p.2)
theorem walkD_str {K : PySem.W.Frag} {F : Hp} {x : Str} : WalkD K F (Its x) (chrs x) where
  goes := fun i H hi _ => by
    unfold chrs at hi
    rw [List.length_map, Array.length_toList] at hi
    exact hi
  stops := fun H _ => by
    show x.cps.size ≤ (chrs x).length
    unfold chrs
    rw [List.length_map, Array.length_toList]
    exact Nat.le_refl _
  yields := fun i d H v H' hd _ ⟨e, c, hc, ev⟩ => by
    subst ev
    unfold chrs at hd
    rw [List.getElem?_map, Array.getElem?_toList, hc] at hd
    cases hd
    exact .inl ⟨e, .str _⟩
section
variable {X : Cx} {tg e : Expr} {es : List Expr} {p pos : Pos}
theorem i_val {m : MV} (h : PE X e (tV np X.K m)) : PI X tg e (tI np X.K (iVal m)) := ⟨fun pins s σ H R I ⟨F, G, s0, ps, R0, ds, s', hm, q⟩ => by
  obtain ⟨⟨d, s1⟩, h1, h2⟩ := bind_some hm
  obtain ⟨ds', h3, h4⟩ := map_some h2
  cases h4
  cases d with
  | list ys =>
    cases h3
    exact (pi_list h).run pins s σ H R I ⟨F, G, s0, ps, R0, _, s1, h1, fun v H1 F1 ps1 R1 s01 t => by
      cases t with
      | @lst a xs _ g1 g2 => exact ⟨a, rfl, ⟨xs, (lsk_mono R1.sF g1).sq⟩, q _ H1 F1 ps1 R1 s01 (walkD_list g1.sq g2)⟩⟩
  | tuple ys =>
    cases h3
    exact (pi_tup h).run pins s σ H R I ⟨F, G, s0, ps, R0, _, s1, h1, fun v H1 F1 ps1 R1 s01 t => by
      cases t with
      | @tup a xs _ g1 g2 => exact ⟨a, rfl, ⟨xs, same_tup R1.sF g1⟩, q _ H1 F1 ps1 R1 s01 (walkD_tup g1 g2)⟩⟩
  | str x =>
    cases h3
    exact (pi_str h).run pins s σ H R I ⟨F, G, s0, ps, R0, .str x, s1, h1, fun v H1 F1 ps1 R1 s01 t => by
      cases t
      exact ⟨x, rfl, q _ H1 F1 ps1 R1 s01 walkD_str⟩⟩
  | none => cases h3
  | bool b => cases h3
  | int i => cases h3
  | dict kvs => cases h3⟩
def rng (lo : Int) (n : Nat) : List D := (List.range n).map fun i => .int (lo + (i : Nat))
theorem walkD_rng {K : PySem.W.Frag} {F : Hp} {lo : Int} {n : Nat} : WalkD K F (Itr lo n) (rng lo n) where
  goes := fun i H hi _ => by
    unfold rng at hi
    rw [List.length_map, List.length_range] at hi
    exact hi
  stops := fun H _ => by
    show n ≤ (rng lo n).length
    unfold rng
    rw [List.length_map, List.length_range]
    exact Nat.le_refl _
  yields := fun i d H v H' hd _ ⟨e, ev⟩ => by
    subst ev
    unfold rng at hd
    rw [List.getElem?_map] at hd
    obtain ⟨j, h1, h2⟩ := map_some hd
    obtain ⟨h3, h4⟩ := List.getElem?_eq_some_iff.mp h1
    rw [List.getElem_range] at h4
    subst h4
    subst h2
    exact .inl ⟨e, .int _⟩
def inW (i : Int) : Bool := decide (-(2 ^ 62) ≤ i) && decide (i < 2 ^ 62)
theorem inW_iff {i : Int} (h : inW i = true) : -(2 ^ 62) ≤ i ∧ i < 2 ^ 62 := by
  unfold inW at h
  rw [Bool.and_eq_true, decide_eq_true_eq, decide_eq_true_eq] at h
  exact h
def gRng : List D → Option (List D)
  | [.int j] => if inW j = true then some (rng 0 j.toNat) else none
  | [.int i, .int j] => if inW i = true ∧ inW j = true then some (rng i (j - i).toNat) else none
  | _ => none
def iOp (g : List D → Option (List D)) (ms : List MR) : MI := fun s => (evR ms s).bind fun p => (looks p.2 p.1).bind fun ds => (g ds).map fun xs => (xs, p.2)
theorem gRng_one {d : D} {xs : List D} (h : gRng [d] = some xs) : ∃ j, d = .int j ∧ inW j = true ∧ xs = rng 0 j.toNat := by
  unfold gRng at h
  split at h
  · rename_i j e
    cases e
    obtain ⟨h1, h2⟩ := if_some h
    exact ⟨j, rfl, h1, h2.symm⟩
  · rename_i e
    cases e
  · cases h
theorem gRng_two {d d' : D} {xs : List D} (h : gRng [d, d'] = some xs) : ∃ i j, d = .int i ∧ d' = .int j ∧ inW i = true ∧ inW j = true ∧ xs = rng i (j - i).toNat := by
  unfold gRng at h
  split at h
  · rename_i e
    cases e
  · rename_i i j e
    cases e
    obtain ⟨h1, h2⟩ := if_some h
    exact ⟨i, j, rfl, rfl, h1.1, h1.2, h2.symm⟩
  · cases h
theorem pi_imp {iter : Expr} {t t' : TI} (h : PI X tg iter t) (i : ∀ σ H R, t' σ H R → t σ H R) : PI X tg iter t' := ⟨fun pins s σ H R I q => h.run pins s σ H R I (i σ H R q)⟩
theorem lnt_list1 {K : PySem.W.Frag} {F H : Hp} {vs : List V} {d : D} (h : LntAll K F H vs [d]) : ∃ v, vs = [v] ∧ Lnt K F H v d := by
  match vs, h with
  | [v], h => exact ⟨v, rfl, h.1⟩
  | _ :: _ :: _, h => exact h.2.elim
theorem lnt_list2 {K : PySem.W.Frag} {F H : Hp} {vs : List V} {d d' : D} (h : LntAll K F H vs [d, d']) : ∃ v w, vs = [v, w] ∧ Lnt K F H v d ∧ Lnt K F H w d' := by
  match vs, h with
  | [v, w], h => exact ⟨v, w, rfl, h.1, h.2.1⟩
  | [_], h => exact h.2.elim
  | _ :: _ :: _ :: _, h => exact h.2.2.elim
theorem looks_len {s : S} : ∀ {rs : List Rf} {ds : List D}, looks s rs = some ds → ds.length = rs.length
  | [], ds, h => by
    cases h
    rfl
  | r :: rs, ds, h => by
    obtain ⟨x, h1, h2⟩ := bind_some h
    obtain ⟨y, h3, h4⟩ := map_some h2
    cases h4
    exact congrArg (· + 1) (looks_len h3)
theorem len_one {α : Type} {l : List α} (h : l.length = 1) : ∃ a, l = [a] := List.length_eq_one_iff.mp h
theorem len_two {α : Type} : ∀ {l : List α}, l.length = 2 → ∃ a b, l = [a, b]
  | [a, b], _ => ⟨a, b, rfl⟩
theorem i_rng1 {m : MR} (hg : Gl X "range") (hm : X.mg "range" = none) (ha : PA X [e] (tA np X.K [m])) (hs : starEach [e] X.env = [(false, eval e X.env)] := by rfl) : PI X tg (.Call (.Name "range" p) [e] [] pos) (tI np X.K (iOp gRng [m])) :=
  pi_imp (pi_range1 hg hm ha hs) fun σ H R ⟨F, G, s, ps, R0, ds, s', hm, q⟩ => by
    obtain ⟨⟨rs, s1⟩, h1, h2⟩ := bind_some hm
    obtain ⟨ds', h3, h4⟩ := bind_some h2
    obtain ⟨xs, h5, h6⟩ := map_some h4
    cases h6
    refine ⟨F, G, s, ps, R0, rs, s1, h1, fun vs H1 F1 ps1 R1 s01 hv => ?_⟩
    have l := looks_lnt R1 hv h3
    obtain ⟨d, rfl⟩ := len_one ((looks_len h3).trans (evR_len h1))
    obtain ⟨v, rfl, l1⟩ := lnt_list1 l
    obtain ⟨j, rfl, h7, rfl⟩ := gRng_one h5
    exact ⟨j, by rw [lnt_int l1], (inW_iff h7).1, (inW_iff h7).2, q _ H1 F1 ps1 R1 s01 walkD_rng⟩
theorem i_rng2 {e' : Expr} {m m' : MR} (hg : Gl X "range") (hm : X.mg "range" = none) (ha : PA X [e, e'] (tA np X.K [m, m'])) (hs : starEach [e, e'] X.env = [(false, eval e X.env), (false, eval e' X.env)] := by rfl) (hs2 : starEach [e'] X.env = [(false, eval e' X.env)] := by rfl) :
    PI X tg (.Call (.Name "range" p) [e, e'] [] pos) (tI np X.K (iOp gRng [m, m'])) :=
  pi_imp (pi_range2 hg hm ha hs hs2) fun σ H R ⟨F, G, s, ps, R0, ds, s', hm, q⟩ => by
    obtain ⟨⟨rs, s1⟩, h1, h2⟩ := bind_some hm
    obtain ⟨ds', h3, h4⟩ := bind_some h2
    obtain ⟨xs, h5, h6⟩ := map_some h4
    cases h6
    refine ⟨F, G, s, ps, R0, rs, s1, h1, fun vs H1 F1 ps1 R1 s01 hv => ?_⟩
    have l := looks_lnt R1 hv h3
    obtain ⟨d, d', rfl⟩ := len_two ((looks_len h3).trans (evR_len h1))
    obtain ⟨v, w, rfl, l1, l2⟩ := lnt_list2 l
    obtain ⟨i, j, rfl, rfl, h7, h8, rfl⟩ := gRng_two h5
    exact ⟨i, j, by rw [lnt_int l1, lnt_int l2], ⟨(inW_iff h7).1, (inW_iff h7).2, (inW_iff h8).1, (inW_iff h8).2⟩, q _ H1 F1 ps1 R1 s01 walkD_rng⟩

/-! ### pairs -/
def gZip : List Rf → Option (List D)
  | [.d (.list xs), .d (.list ys)] => some (List.zipWith (fun x y => .tuple [x, y]) xs ys)
  | [.d (.tuple xs), .d (.tuple ys)] => some (List.zipWith (fun x y => .tuple [x, y]) xs ys)
  | _ => none
def enumD : Nat → List D → List D
  | _, [] => []
  | n, d :: ds => .tuple [.int (n : Nat), d] :: enumD (n + 1) ds
def gEnum : List Rf → Option (List D)
  | [.d (.list xs)] => some (enumD 0 xs)
  | _ => none
def iPr (g : List Rf → Option (List D)) (ms : List MR) : MI := fun s => (evR ms s).bind fun p => (g p.1).map fun xs => (xs, p.2)
theorem zip_at {xs ys : List D} {i : Nat} {d : D} (h : (List.zipWith (fun x y => PyData.tuple [x, y]) xs ys)[i]? = some d) : ∃ x y, xs[i]? = some x ∧ ys[i]? = some y ∧ d = .tuple [x, y] := by
  rw [List.getElem?_zipWith] at h
  split at h
  · rename_i x y e1 e2
    cases h
    exact ⟨x, y, e1, e2, rfl⟩
  · cases h
theorem enumD_len : ∀ (n : Nat) (ds : List D), (enumD n ds).length = ds.length
  | _, [] => rfl
  | n, d :: ds => congrArg (· + 1) (enumD_len (n + 1) ds)
theorem enumD_at : ∀ {n : Nat} {ds : List D} {i : Nat} {d : D}, (enumD n ds)[i]? = some d → ∃ x, ds[i]? = some x ∧ d = .tuple [.int ((n + i : Nat) : Int), x]
  | n, [], i, d, h => by
    unfold enumD at h
    simp at h
  | n, d :: ds, 0, d', h => by
    cases h
    exact ⟨d, rfl, rfl⟩
  | n, d :: ds, i + 1, d', h => by
    have h' : (enumD (n + 1) ds)[i]? = some d' := by
      unfold enumD at h
      simpa using h
    obtain ⟨x, e1, e2⟩ := enumD_at h'
    exact ⟨x, by simpa using e1, by rw [e2, show n + 1 + i = n + (i + 1) by omega]⟩
theorem pair_tr {K : PySem.W.Frag} {F : Hp} {T : Addr} {x y : V} {d d' : D} (h1 : Tr K F x d) (h2 : Tr K F y d') (hT : F T = none) : Tr K (upd F T (.tup [x, y])) (.ref T) (.tuple [d, d']) :=
  .tup (.inl (.inl upd_same)) (.cons (dp_mono (same_of_fresh hT) d h1) (.cons (dp_mono (same_of_fresh hT) d' h2) .nil))
theorem i_zip {e' : Expr} {m m' : MR} {elts : List Expr} {kk : Nat} {tpos : Pos} (hg : Gl X "zip") (hm : X.mg "zip" = none) (ha : PA X [e, e'] (tA np X.K [m, m'])) (hs : starEach [e, e'] X.env = (false, eval e X.env) :: starEach [e'] X.env := by rfl) (hpl : (backTo pos (starEach [e'] X.env)).any (·.1) = false := by rfl) :
    PI X (.Tuple elts kk tpos) (.Call (.Name "zip" p) [e, e'] [] pos) (tI np X.K (iPr gZip [m, m'])) :=
  pi_imp (RZ.pi_zipA hg hm ha hs hpl) fun σ H R ⟨F, G, s, ps, R0, ds, s', hm, q⟩ => by
    obtain ⟨⟨rs, s1⟩, h1, h2⟩ := bind_some hm
    obtain ⟨xs, h5, h6⟩ := map_some h2
    cases h6
    refine ⟨F, G, s, ps, R0, rs, s1, h1, fun vs H1 F1 ps1 R1 s01 hv => ?_⟩
    unfold gZip at h5
    split at h5
    · rename_i xs ys e
      dsimp only at e
      subst e
      cases h5
      match vs, hv with
      | [v, w], hv =>
        obtain ⟨t1, t2, _⟩ := hv
        cases t1 with
        | @lst a us _ g1 g2 =>
          cases t2 with
          | @lst b ws _ g3 g4 =>
            refine ⟨a, b, us, ws, rfl, .inl ⟨(lsk_mono R1.sF g1).sq, (lsk_mono R1.sF g3).sq, q _ H1 F1 ps1 R1 s01 ⟨fun i H hi sH => ?_, fun H sH => ?_, fun i d H x H' hd sH hy => ?_⟩⟩⟩
            · rw [List.length_zipWith] at hi
              exact ⟨us, ws, us[i]'(by rw [da_length g2]; omega), ws[i]'(by rw [da_length g4]; omega), (lsk_mono sH g1).sq, (lsk_mono sH g3).sq, List.getElem?_eq_getElem _, List.getElem?_eq_getElem _⟩
            · refine ⟨us, ws, (lsk_mono sH g1).sq, (lsk_mono sH g3).sq, ?_⟩
              rw [List.length_zipWith, da_length g2, da_length g4]
              omega
            · obtain ⟨T, x1, y1, e1, e2, e3, e4, e5⟩ := hy
              obtain ⟨dx, dy, k1, k2, rfl⟩ := zip_at hd
              obtain ⟨v1, k3, k4⟩ := da_get g2 k1
              obtain ⟨v2, k5, k6⟩ := da_get g4 k2
              have z1 := (e4 us ((lsk_mono sH g1).sq)).symm.trans k3
              cases z1
              have z2 := (e5 ws ((lsk_mono sH g3).sq)).symm.trans k5
              cases z2
              subst e1
              exact .inr ⟨T, _, e2, e3, fun F' sF' nF => pair_tr (dp_mono sF' dx k4) (dp_mono sF' dy k6) nF⟩
      | [], hv => exact hv.elim
      | [_], hv => exact hv.2.elim
      | _ :: _ :: _ :: _, hv => exact hv.2.2.elim
    · rename_i xs ys e
      dsimp only at e
      subst e
      cases h5
      match vs, hv with
      | [v, w], hv =>
        obtain ⟨t1, t2, _⟩ := hv
        cases t1 with
        | @tup a us _ g1 g2 =>
          cases t2 with
          | @tup b ws _ g3 g4 =>
            refine ⟨a, b, us, ws, rfl, .inr ⟨same_tup R1.sF g1, same_tup R1.sF g3, q _ H1 F1 ps1 R1 s01 ⟨fun i H hi sH => ?_, fun H sH => ?_, fun i d H x H' hd sH hy => ?_⟩⟩⟩
            · rw [List.length_zipWith] at hi
              exact ⟨us, ws, us[i]'(by rw [da_length g2]; omega), ws[i]'(by rw [da_length g4]; omega), same_tup sH g1, same_tup sH g3, List.getElem?_eq_getElem _, List.getElem?_eq_getElem _⟩
            · refine ⟨us, ws, same_tup sH g1, same_tup sH g3, ?_⟩
              rw [List.length_zipWith, da_length g2, da_length g4]
              omega
            · obtain ⟨T, x1, y1, e1, e2, e3, e4, e5⟩ := hy
              obtain ⟨dx, dy, k1, k2, rfl⟩ := zip_at hd
              obtain ⟨v1, k3, k4⟩ := da_get g2 k1
              obtain ⟨v2, k5, k6⟩ := da_get g4 k2
              have z1 := (e4 us (same_tup sH g1)).symm.trans k3
              cases z1
              have z2 := (e5 ws (same_tup sH g3)).symm.trans k5
              cases z2
              subst e1
              exact .inr ⟨T, _, e2, e3, fun F' sF' nF => pair_tr (dp_mono sF' dx k4) (dp_mono sF' dy k6) nF⟩
      | [], hv => exact hv.elim
      | [_], hv => exact hv.2.elim
      | _ :: _ :: _ :: _, hv => exact hv.2.2.elim
    · cases h5
theorem i_enum {m : MR} {elts : List Expr} {kk : Nat} {tpos : Pos} (hg : Gl X "enumerate") (hm : X.mg "enumerate" = none) (ha : PA X [e] (tA np X.K [m])) (hs : starEach [e] X.env = [(false, eval e X.env)] := by rfl) :
    PI X (.Tuple elts kk tpos) (.Call (.Name "enumerate" p) [e] [] pos) (tI np X.K (iPr gEnum [m])) :=
  pi_imp (pi_enum hg hm ha hs) fun σ H R ⟨F, G, s, ps, R0, ds, s', hm, q⟩ => by
    obtain ⟨⟨rs, s1⟩, h1, h2⟩ := bind_some hm
    obtain ⟨xs, h5, h6⟩ := map_some h2
    cases h6
    refine ⟨F, G, s, ps, R0, rs, s1, h1, fun vs H1 F1 ps1 R1 s01 hv => ?_⟩
    unfold gEnum at h5
    split at h5
    · rename_i xs e
      dsimp only at e
      subst e
      cases h5
      match vs, hv with
      | [v], hv =>
        obtain ⟨t1, _⟩ := hv
        cases t1 with
        | @lst a us _ g1 g2 =>
          refine ⟨a, us, rfl, (lsk_mono R1.sF g1).sq, q _ H1 F1 ps1 R1 s01 ⟨fun i H hi sH => ?_, fun H sH => ?_, fun i d H x H' hd sH hy => ?_⟩⟩
          · rw [enumD_len] at hi
            exact ⟨us, us[i]'(by rw [da_length g2]; omega), (lsk_mono sH g1).sq, List.getElem?_eq_getElem _⟩
          · exact ⟨us, (lsk_mono sH g1).sq, by rw [enumD_len, da_length g2]; exact Nat.le_refl _⟩
          · obtain ⟨T, x1, e1, e2, e3, e4⟩ := hy
            obtain ⟨dx, k1, rfl⟩ := enumD_at hd
            obtain ⟨v1, k3, k4⟩ := da_get g2 k1
            have z1 := (e4 us ((lsk_mono sH g1).sq)).symm.trans k3
            cases z1
            subst e1
            rw [Nat.zero_add]
            exact .inr ⟨T, _, e2, e3, fun F' sF' nF => pair_tr (.int _) (dp_mono sF' dx k4) nF⟩
      | [], hv => exact hv.elim
      | _ :: _ :: _, hv => exact hv.2.elim
    · cases h5

/-! ### for -/
def forGo (g : MG) (b : MS) : List D → S → Option (Fl × S)
  | [], s => some (.nx, s)
  | d :: ds, s => (g (.val d) s).bind fun s1 => (b s1).bind fun p => match p.1 with
    | .nx => forGo g b ds p.2
    | .ct => forGo g b ds p.2
    | .bk => some (.nx, p.2)
    | .rt o => some (.rt o, p.2)
def sFor (m : MI) (g : MG) (b : MS) : MS := fun s => (m s).bind fun p => forGo g b p.1 p.2
theorem s_for {iter : Expr} {body : List Stmt} {m : MI} {g : MG} {b : MS} (hp : PassesOwn (model X.prog X.w) X.A X.env X.xe) (hi : PI X tg iter (tI np X.K m)) (hg : PG X tg (tG np X.K g)) (hb : PSs X body (tS np X.K b)) (hc : X.calm = true := by rfl)
    (hs : ∀ x, foldedSetIterable iter X.env x = pure x := by intro _; rfl) : PS X (.For tg iter body [] pos) (tS np X.K (sFor m g b)) :=
  ps_imp (ps_for hp hc hi hg hb hs) fun E σ H ⟨F, G, s, ps, R, f, s', hm, q⟩ => by
    obtain ⟨⟨ds, s1⟩, h1, h2⟩ := bind_some hm
    refine ⟨F, G, s, ps, R, ds, s1, h1, fun J H1 F1 ps1 R1 s01 w => ?_⟩
    refine ⟨fun i k σ' H' => ∃ F' s2 ps', Rel np X.K F' G s2 σ' H' ps' ∧ Same F1 F' ∧ i ≤ ds.length ∧ k = ds.length - i ∧ forGo g b (ds.drop i) s2 = some (f, s'), ⟨ds.length, F1, s1, ps1, R1, Same.refl F1, Nat.zero_le _, rfl, h2⟩, fun i k σ2 H2 hW => ?_⟩
    obtain ⟨F2, s2, ps2, R2, s12, hi, rfl, hgo⟩ := hW
    by_cases hlt : i < ds.length
    · refine .inr ⟨w.goes i H2 hlt (s12.trans R2.sF), fun σ' H' => ∃ F' s3 ps', Rel np X.K F' G s3 σ' H' ps' ∧ Same F1 F' ∧ forGo g b (ds.drop (i + 1)) s3 = some (f, s'), fun σ' H' hN => ?_, fun x H3 hy => ?_⟩
      · obtain ⟨F', s3, ps', R3, s13, h3⟩ := hN
        exact ⟨ds.length - (i + 1), by omega, F', s3, ps', R3, s13, hlt, rfl, h3⟩
      · have hd : ds[i]? = some ds[i] := List.getElem?_eq_getElem hlt
        obtain ⟨F3, R3, s23, t⟩ := w.step hd R2 s12 hy
        rw [List.drop_eq_getElem_cons hlt] at hgo
        obtain ⟨s3, h3, h4⟩ := bind_some hgo
        obtain ⟨⟨f1, s4⟩, h5, h6⟩ := bind_some h4
        refine ⟨F3, G, s2, ps2, R3, .val ds[i], s3, [], ⟨t, rfl⟩, List.nodup_nil, (fun a ha => nomatch ha), h3, fun σ4 H4 F4 ps4 R4 s34 => ⟨F4, G, s3, ps4, R4, f1, s4, h5, ?_⟩⟩
        have s14 : Same F1 F4 := s12.trans (s23.trans s34)
        cases f1 with
        | nx => exact fun σ5 H5 F5 ps5 R5 s45 => ⟨F5, s4, ps5, R5, s14.trans s45, h6⟩
        | ct => exact fun σ5 H5 F5 ps5 R5 s45 => ⟨F5, s4, ps5, R5, s14.trans s45, h6⟩
        | bk =>
          cases h6
          exact fun σ5 H5 F5 ps5 R5 s45 => q σ5 H5 F5 ps5 R5 (s01.trans (s14.trans s45))
        | rt o =>
          cases h6
          exact fun v σ5 H5 F5 ps5 as R5 s45 => q v σ5 H5 F5 ps5 as R5 (s01.trans (s14.trans s45))
    · have ei : i = ds.length := by omega
      subst ei
      rw [List.drop_length] at hgo
      cases hgo
      exact .inl ⟨w.stops H2 (s12.trans R2.sF), q σ2 H2 F2 ps2 R2 (s01.trans s12)⟩

/-! ### while: fuel, a function of the slots at the start -/
def whGo (c : MB) (b : MS) : Nat → S → Option (Fl × S)
  | 0, _ => none
  | n + 1, s => (c s).bind fun p => if p.1 = true then (b p.2).bind fun r => match r.1 with
      | .nx => whGo c b n r.2
      | .ct => whGo c b n r.2
      | .bk => some (.nx, r.2)
      | .rt o => some (.rt o, r.2)
    else some (.nx, p.2)
def sWh (fuel : S → Nat) (c : MB) (b : MS) : MS := fun s => whGo c b (fuel s) s
theorem s_wh {fuel : S → Nat} {c : Expr} {body : List Stmt} {mc : MB} {b : MS} (hp : PassesOwn (model X.prog X.w) X.A X.env X.xe) (hc : PT X c (tB np X.K mc)) (hb : PSs X body (tS np X.K b)) : PS X (.While c body [] pos) (tS np X.K (sWh fuel mc b)) :=
  ps_imp (ps_while hp hc hb) fun E σ H ⟨F, G, s, ps, R, f, s', hm, q⟩ => by
    refine ⟨fun k σ' H' => ∃ F' s2 ps', Rel np X.K F' G s2 σ' H' ps' ∧ Same F F' ∧ whGo mc b k s2 = some (f, s'), ⟨fuel s, F, s, ps, R, Same.refl F, hm⟩, fun k σ1 H1 hW => ?_⟩
    obtain ⟨F1, s1, ps1, R1, s01, hgo⟩ := hW
    cases k with
    | zero => cases hgo
    | succ k =>
      obtain ⟨⟨t, s2⟩, h1, h2⟩ := bind_some hgo
      refine ⟨F1, G, s1, ps1, R1, t, s2, h1, fun H2 F2 ps2 R2 s12 => ?_⟩
      rcases if_split h2 with ⟨rfl, h3⟩ | ⟨rfl, h3⟩
      · refine iteT ⟨fun σ' H' => ∃ F' s3 ps', Rel np X.K F' G s3 σ' H' ps' ∧ Same F F' ∧ whGo mc b k s3 = some (f, s'), fun σ' H' hN => ⟨k, Nat.lt_succ_self k, hN⟩, ?_⟩
        obtain ⟨⟨f1, s3⟩, h4, h5⟩ := bind_some h3
        refine ⟨F2, G, s2, ps2, R2, f1, s3, h4, ?_⟩
        have s02 : Same F F2 := s01.trans s12
        cases f1 with
        | nx => exact fun σ5 H5 F5 ps5 R5 s45 => ⟨F5, s3, ps5, R5, s02.trans s45, h5⟩
        | ct => exact fun σ5 H5 F5 ps5 R5 s45 => ⟨F5, s3, ps5, R5, s02.trans s45, h5⟩
        | bk =>
          cases h5
          exact fun σ5 H5 F5 ps5 R5 s45 => q σ5 H5 F5 ps5 R5 (s02.trans s45)
        | rt o =>
          cases h5
          exact fun v σ5 H5 F5 ps5 as R5 s45 => q v σ5 H5 F5 ps5 as R5 (s02.trans s45)
      · cases h3
        exact iteF (q σ1 H2 F2 ps2 R2 (s01.trans s12))
end
end Dv

/-! Comprehensions. -/
namespace Dv
open PySem PySem.Spec PyProof.Rows L2
variable {np : Nat}
/-! ### the block's own slots -/
def wS (s : S) : List Nat → S
  | [] => s
  | v :: vs => (wS s vs).set v none
/-- nothing stands in the slots vs -/
def Nn (vs : List Nat) (s : S) : Prop := ∀ v ∈ vs, ∀ o, s[v]? ≠ some (some o)
theorem nn_set {s : S} {v : Nat} : ∀ o : O, (s.set v none)[v]? ≠ some (some o) := fun o e => by
  by_cases h : v < s.length
  · rw [List.getElem?_set_self h] at e
    cases e
  · rw [List.getElem?_eq_none (by rw [List.length_set]; omega)] at e
    cases e
theorem wS_nn (s : S) : ∀ vs : List Nat, Nn vs (wS s vs)
  | [], v, hv, _, _ => nomatch hv
  | v :: vs, u, hu, o, e => by
    by_cases c : v = u
    · subst c
      exact nn_set o e
    · have e' : ((wS s vs).set v none)[u]? = some (some o) := e
      rw [List.getElem?_set_ne c] at e'
      rcases List.mem_cons.mp hu with z | z
      · exact c z.symm
      · exact wS_nn s vs u z o e'
theorem wipe_in {σ : L2.St} {i : Nat} : ∀ {vs : List Nat}, i ∈ vs → (wipe σ vs)[i]? = if i < σ.length then some none else none
  | v :: vs, h => by
    unfold wipe
    by_cases c : v = i
    · subst c
      by_cases hl : v < σ.length
      · rw [List.getElem?_set_self (by rw [wipe_length]; exact hl), if_pos hl]
      · rw [List.getElem?_eq_none (by rw [List.length_set, wipe_length]; omega), if_neg hl]
    · rw [List.getElem?_set_ne c]
      rcases List.mem_cons.mp h with z | z
      · exact absurd z.symm c
      · exact wipe_in z
theorem wipe_ext {σ σ' : L2.St} {vs : List Nat} (hl : σ'.length = σ.length) (h : ∀ i, i ∉ vs → σ'[i]? = σ[i]?) : wipe σ' vs = wipe σ vs := by
  apply List.ext_getElem?
  intro i
  by_cases c : i ∈ vs
  · rw [wipe_in c, wipe_in c, hl]
  · rw [wipe_out c, wipe_out c]
    exact h i c
theorem wipe_wipe {σ : L2.St} {vs : List Nat} : wipe (wipe σ vs) vs = wipe σ vs := wipe_ext (wipe_length σ vs) fun i h => wipe_out h
theorem wipe_set {σ : L2.St} {i : Nat} {x : Option V} {vs : List Nat} (h : i ∈ vs) : wipe (σ.set i x) vs = wipe σ vs :=
  wipe_ext List.length_set fun j hj => List.getElem?_set_ne fun e => hj (by rw [← e]; exact h)
theorem wipe_len_eq {σ σ' : L2.St} {vs : List Nat} (h : wipe σ' vs = wipe σ vs) : σ'.length = σ.length := by
  have := congrArg List.length h
  rwa [wipe_length, wipe_length] at this
theorem wipe_at {σ σ' : L2.St} {vs : List Nat} (h : wipe σ' vs = wipe σ vs) {i : Nat} (hi : i ∉ vs) : σ'[i]? = σ[i]? := by
  rw [← wipe_out (σ := σ') hi, h, wipe_out hi]
section
variable {K : PySem.W.Frag} {F F' H H' : Hp} {G : Gd} {s : S} {σ σ' : L2.St} {ps : List (List Addr)} {vs : List Nat}
theorem Rel.wipe (R : Rel np K F G s σ H ps) : ∀ vs : List Nat, ∃ ps', Rel np K F G (wS s vs) σ H ps' ∧ ∀ a ∈ ps'.flatten, a ∈ ps.flatten
  | [] => ⟨ps, R, fun a h => h⟩
  | v :: vs => by
    obtain ⟨ps', R', h⟩ := Rel.wipe R vs
    refine ⟨_, R'.drop v rfl R.pin fun _ _ => rfl, fun a ha => ?_⟩
    rcases mem_set_flat ha with z | z
    · cases z
    · exact h a z
/-- other values in slots where nothing stands -/
theorem Rel.sw (R : Rel np K F G s σ H ps) (hn : Nn vs s) (hv : ∀ v ∈ vs, np ≤ v) (hw : L2.wipe σ' vs = L2.wipe σ vs) : Rel np K F G s σ' H ps := by
  refine R.vals (wipe_len_eq hw) ?_ fun i o e => wipe_at hw fun z => hn i z o e
  refine Eq.trans ?_ R.pin
  apply List.ext_getElem?
  intro i
  rw [List.getElem?_take, List.getElem?_take]
  split
  · rename_i hi
    exact wipe_at hw fun z => by
      have h1 := hv i z
      have h2 := R.few
      omega
  · rfl
/-- the list under construction -/
structure CI (np : Nat) (K : PySem.W.Frag) (G : Gd) (σ : L2.St) (D : Addr) (F : Hp) (accV : List V) (H : Hp) (s : S) (acc : List PyData) (ps : List (List Addr)) : Prop where
  rel : Rel np K F G s σ H ps
  at_ : H D = some (.lst accV)
  tr : TrAll K F accV acc
  f : F D = none
  g : G.h D = none
  p : D ∉ ps.flatten
theorem CI.held {D : Addr} {accV : List V} {acc : List PyData} (c : CI np K G σ D F accV H s acc ps) : Rel np K F (G.add H [D]) s σ H ps :=
  c.rel.hold fun a ha => by
    rw [List.mem_singleton.mp ha]
    exact ⟨c.f, c.g, c.p⟩
theorem CI.back {D : Addr} {accV : List V} {acc : List PyData} {H0 F0 : Hp} {s0 : S} {σ0 : L2.St} {ps0 : List (List Addr)} (c : CI np K G σ0 D F0 accV H0 s0 acc ps0) (R : Rel np K F (G.add H0 [D]) s σ' H ps) (s01 : Same F0 F) (hv : ∀ v ∈ vs, np ≤ v) (hw : L2.wipe σ' vs = L2.wipe σ vs) :
    ∃ ps', CI np K G σ D F accV H (wS s vs) acc ps' := by
  obtain ⟨R1, keep⟩ := Rel.unhold (as := [D]) (H0 := H0) (fun a ha => by
    rw [List.mem_singleton.mp ha]
    exact ⟨c.g, _, c.at_⟩) R
  obtain ⟨k1, k2, k3⟩ := keep D List.mem_cons_self
  obtain ⟨ps', R2, sub⟩ := R1.wipe vs
  exact ⟨ps', R2.sw (wS_nn s vs) hv hw.symm, k3 _ c.at_, dpAll_mono s01 acc c.tr, k1, c.g, fun z => k2 (sub D z)⟩
theorem CI.push {D : Addr} {accV : List V} {acc : List PyData} (c : CI np K G σ D F accV H s acc ps) {v : V} {d : PyData} (t : Tr K F v d) : CI np K G σ D F (accV ++ [v]) (upd H D (.lst (accV ++ [v]))) s (acc ++ [d]) ps where
  rel := c.rel.over (Same.refl F) (fun b u e => by
      rw [upd_ne fun z => by rw [z, c.f] at e; cases e]
      exact c.rel.sF b u e) (fun b u e => by
      rw [upd_ne fun z => by rw [z, c.g] at e; cases e]
      exact c.rel.sG b u e) c.rel.fg fun b hb => ⟨(c.rel.apart b hb).1, fun u e => by
      rw [upd_ne fun z => c.p (by rw [← z]; exact hb)]
      exact e⟩
  at_ := upd_same
  tr := da_append c.tr (.cons t .nil)
  f := c.f
  g := c.g
  p := c.p
end
/-! ### targets of a block -/
def tGw (np : Nat) (K : PySem.W.Frag) (vs : List Nat) (g : MG) : TG := fun v σ H Q => ∃ F G s ps, Rel np K F G s σ H ps ∧ ∃ d s', Tr K F v d ∧ g (.val d) s = some s' ∧ ∀ σ' H' F' ps', Rel np K F' G s' σ' H' ps' → Same F F' → wipe σ' vs = wipe σ vs → Q σ' H'
def tGsw (np : Nat) (K : PySem.W.Frag) (ws : List Nat) (gs : List MG) : TGs := fun vs σ H Q => ∃ F G s ps, Rel np K F G s σ H ps ∧ ∃ ds s', TrAll K F vs ds ∧ gAllT gs ds s = some s' ∧
  ∀ σ' H' F' ps', Rel np K F' G s' σ' H' ps' → Same F F' → wipe σ' ws = wipe σ ws → Q σ' H'
section
variable {X : Cx} {e : Expr} {es : List Expr} {pos : Pos} {ws : List Nat}
theorem gw_name {i : Nat} {x : Str} (hi : X.N[i]? = some x) (hN : X.N.Nodup) (hx : Loc X.env.scope x) (hp : np ≤ i := by decide) (hw : i ∈ ws := by decide) (hf : X.fn x = true ∨ X.env.scope.names.lookup x = some .local := by first | exact .inl rfl | exact .inr rfl | assumption) :
    PG X (.Name x pos) (tGw np X.K ws (gNm i)) :=
  pg_imp (pg_name hN hi hx hf) fun v σ H Q ⟨F, G, s, ps, R, d, s', t, hg, q⟩ => by
    obtain ⟨h1, h2⟩ := if_some hg
    subst h2
    exact q _ H F _ (R.store h1 hp (o := .val d) (as := []) ⟨t, rfl⟩ List.nodup_nil fun a ha => nomatch ha) (Same.refl F) (wipe_set hw)
theorem gw_nil : PGs X [] (tGsw np X.K ws []) := pgs_imp pgs_nil fun vs σ H Q ⟨F, G, s, ps, R, ds, s', t, hm, q⟩ => by
  cases ds with
  | nil =>
    cases t
    cases hm
    exact ⟨rfl, q σ H F ps R (Same.refl F) rfl⟩
  | cons d ds => cases hm
theorem gw_cons {g : MG} {gs : List MG} (h1 : PG X e (tGw np X.K ws g)) (h2 : PGs X es (tGsw np X.K ws gs)) (hs : (assignEach (e :: es) X.env).map (·.2) = assign e X.env :: (assignEach es X.env).map (·.2) := by rfl) : PGs X (e :: es) (tGsw np X.K ws (g :: gs)) :=
  pgs_imp (pgs_cons h1 h2 hs) fun vs σ H Q ⟨F, G, s, ps, R, ds, s', t, hm, q⟩ => by
    cases t with
    | nil => cases hm
    | @cons v vs d ds t1 t2 =>
      obtain ⟨s1, h3, h4⟩ := bind_some hm
      exact ⟨v, vs, rfl, F, G, s, ps, R, d, s1, t1, h3, fun σ1 H1 F1 ps1 R1 s01 w1 => ⟨F1, G, s1, ps1, R1, ds, s', dpAll_mono s01 ds t2, h4, fun σ2 H2 F2 ps2 R2 s12 w2 => q σ2 H2 F2 ps2 R2 (s01.trans s12) (w2.trans w1)⟩⟩
theorem gw_tup {k : Nat} {gs : List MG} (h : PGs X es (tGsw np X.K ws gs)) (hc : X.calm = true := by rfl) (hn : (assignEach es X.env).length = gs.length := by rfl) (hst : (assignEach es X.env).findIdx? (·.1) = none := by rfl) : PG X (.Tuple es k pos) (tGw np X.K ws (gTp gs)) :=
  pg_imp (pg_tup hc h hn hst) fun v σ H Q ⟨F, G, s, ps, R, d, s', t, hg, q⟩ => by
    unfold gTp at hg
    split at hg
    · rename_i ds e
      cases e
      cases t with
      | @tup a vs _ h1 h2 => exact ⟨a, vs, rfl, same_tup R.sF h1, by rw [da_length h2]; exact gAllT_len hg, F, G, s, ps, R, ds, s', h2, hg, q⟩
    · cases hg
end
/-! ### [e for t in i if c] -/
def tYs : MB := fun s => some (true, s)
def compGo (vs : List Nat) (g : MG) (t : MB) (e : MV) : List D → S → Option (List D × S)
  | [], s => some ([], s)
  | d :: ds, s => (g (.val d) s).bind fun s1 => (t s1).bind fun p => if p.1 = true then (e p.2).bind fun q => (compGo vs g t e ds (wS q.2 vs)).map fun r => (q.1 :: r.1, r.2) else compGo vs g t e ds (wS p.2 vs)
def oLc (vs : List Nat) (m : MI) (g : MG) (t : MB) (e : MV) : MO := fun s => (m s).bind fun p => (compGo vs g t e p.1 (wS p.2 vs)).bind fun r => if r.1.length ≤ sizeLine then some (.lst r.1, r.2) else none
section
variable {X : Cx}
theorem pts_imp {ifs : List Expr} {t t' : TT} (h : PTs X ifs t) (i : ∀ σ H Q, t' σ H Q → t σ H Q) : PTs X ifs t' := ⟨fun pins s σ H Q I q => h.run pins s σ H Q I (i σ H Q q)⟩
theorem ts_nil : PTs X [] (tB np X.K tYs) := pts_imp pts_nil fun σ H Q ⟨F, G, s, ps, R, b, s', hm, q⟩ => by
  cases hm
  exact q H F ps R (Same.refl F)
theorem ts_one {c : Expr} {m : MB} (h : PT X c (tB np X.K m)) : PTs X [c] (tB np X.K m) := pts_one h
/-- the core: a comprehension by its parts -/
theorem lc_done {vs : List Nat} {m : MI} {g : MG} {t : MB} {e : MV} {K : PySem.W.Frag} {σ : L2.St} {H : Hp} {Q : VK} (hv : ∀ v ∈ vs, np ≤ v) (h : tO np K (oLc vs m g t e) σ H Q) : tLc (tI np K m) (tGw np K vs g) (tB np K t) (tV np K e) vs σ H Q := by
  obtain ⟨F, G, s, ps, R, o, s', hm, q⟩ := h
  obtain ⟨⟨ds, s1⟩, h1, h2⟩ := bind_some hm
  obtain ⟨⟨ys, s2⟩, h3, h4⟩ := bind_some h2
  obtain ⟨hlen, h5⟩ := if_some h4
  cases h5
  refine ⟨F, G, s, ps, R, ds, s1, h1, fun J H1 F1 ps1 R1 s01 w D hD => ?_⟩
  refine ⟨fun i k H' => ∃ F' accV sx acc ps', CI np K G σ D F' accV H' sx acc ps' ∧ Same F1 F' ∧ Nn vs sx ∧ i ≤ ds.length ∧ k = ds.length - i ∧ ∃ rest, compGo vs g t e (ds.drop i) sx = some (rest, s2) ∧ acc ++ rest = ys, ⟨ds.length, ?_⟩, fun i k H2 hW => ?_⟩
  · obtain ⟨R2, n1, n2, n3⟩ := R1.new (o := .lst []) hD
    obtain ⟨ps2, R3, sub⟩ := R2.wipe vs
    exact ⟨F1, [], wS s1 vs, [], ps2, ⟨R3, upd_same, .nil, n1, n2, fun z => n3 (sub D z)⟩, Same.refl F1, wS_nn s1 vs, Nat.zero_le _, rfl, ys, h3, rfl⟩
  · obtain ⟨F2, accV, sx, acc, ps2, c, s12, nn, hi, rfl, rest, hgo, hacc⟩ := hW
    by_cases hlt : i < ds.length
    · have hd : ds[i]? = some ds[i] := List.getElem?_eq_getElem hlt
      refine .inr ⟨w.goes i H2 hlt (s12.trans c.rel.sF), fun H' => ∃ F' accV sx acc ps', CI np K G σ D F' accV H' sx acc ps' ∧ Same F1 F' ∧ Nn vs sx ∧ ∃ rest, compGo vs g t e (ds.drop (i + 1)) sx = some (rest, s2) ∧ acc ++ rest = ys, fun H' hN => ?_, fun x H3 hy => ?_⟩
      · obtain ⟨F', a1, a2, a3, a4, a5, a6, a7, a8⟩ := hN
        exact ⟨ds.length - (i + 1), by omega, F', a1, a2, a3, a4, a5, a6, a7, hlt, rfl, a8⟩
      · obtain ⟨F3, R3, s23, tx⟩ := w.step hd c.held s12 hy
        rw [List.drop_eq_getElem_cons hlt] at hgo
        obtain ⟨s3, e1, e2⟩ := bind_some hgo
        obtain ⟨⟨b, s4⟩, e3, e4⟩ := bind_some e2
        refine ⟨F3, _, sx, ps2, R3.sw nn hv wipe_wipe, ds[i], s3, tx, e1, fun σ4 H4 F4 ps4 R4 s34 hw => ?_⟩
        have hw' : wipe σ4 vs = wipe σ vs := hw.trans wipe_wipe
        refine ⟨hw', F4, _, s3, ps4, R4, b, s4, e3, fun H5 F5 ps5 R5 s45 => ?_⟩
        have s25 : Same F2 F5 := s23.trans (s34.trans s45)
        rcases if_split e4 with ⟨rfl, e5⟩ | ⟨rfl, e5⟩
        · obtain ⟨⟨d, s5⟩, e6, e7⟩ := bind_some e5
          obtain ⟨⟨rs, s6⟩, e8, e9⟩ := map_some e7
          cases e9
          refine iteT ⟨F5, _, s4, ps5, R5, d, s5, e6, fun v H6 F6 ps6 R6 s56 tv => ?_⟩
          obtain ⟨ps7, c7⟩ := c.back R6 (s25.trans s56) hv hw'
          refine ⟨accV, c7.at_, ?_, F6, _, _, _, ps7, c7.push tv, s12.trans (s25.trans s56), wS_nn s5 vs, rs, e8, ?_⟩
          · have hl := congrArg List.length hacc
            rw [List.length_append, List.length_cons] at hl
            rw [da_length c.tr]
            dsimp only at hlen
            omega
          · rw [← hacc, List.append_assoc]
            rfl
        · obtain ⟨ps7, c7⟩ := c.back R5 s25 hv hw'
          exact iteF ⟨F5, accV, _, acc, ps7, c7, s12.trans s25, wS_nn s4 vs, rest, e5, hacc⟩
    · have ei : i = ds.length := by omega
      subst ei
      rw [List.drop_length] at hgo
      cases hgo
      rw [List.append_nil] at hacc
      subst hacc
      refine .inl ⟨w.stops H2 (s12.trans c.rel.sF), q (.ref D) H2 F2 ps2 [D] c.rel (s01.trans s12) ⟨D, accV, rfl, c.at_, c.tr, rfl⟩ (by simp) fun a ha => ?_⟩
      rw [List.mem_singleton.mp ha]
      exact ⟨c.f, c.g, c.p⟩
variable {elt tg iter : Expr} {ifs : List Expr} {scope : Scope} {own : List (Str × Nat)} {pos : Pos} {m : MI} {g : MG} {t : MB} {e : MV}
theorem e_lc (hN : X.N.Nodup) (hi : PI X tg iter (tI np X.K m)) (ok : BlkOk X.N X.env.scope scope own)
    (hg : ∀ (s : Shared) (H : Hp) (C : Addr) (cl : List (Str × Addr)) (fp : List Addr), PG (X.blk s H scope (compEnvC scope cl C X.env) fp) tg (tGw np X.K (own.map (·.2)) g)) (ht : ∀ (s : Shared) (H : Hp) (C : Addr) (cl : List (Str × Addr)) (fp : List Addr), PTs (X.blk s H scope (compEnvC scope cl C X.env) fp) ifs (tB np X.K t))
    (he : ∀ (s : Shared) (H : Hp) (C : Addr) (cl : List (Str × Addr)) (fp : List Addr), PE (X.blk s H scope (compEnvC scope cl C X.env) fp) elt (tV np X.K e)) (hv : ∀ v ∈ own.map (·.2), np ≤ v := by decide) (hc : X.calm = true := by rfl) (hs : ∀ x, foldedSetIterable iter X.env x = pure x := by intro _; rfl) :
    PE X (.ListComp elt [⟨tg, iter, ifs, 0⟩] scope pos) (tO np X.K (oLc (own.map (·.2)) m g t e)) :=
  pe_imp (pe_lc hc hN hi ok hg ht he hs) fun _ _ _ h => lc_done hv h
/-- name = [..] -/
theorem s_setLc {i : Nat} {y : Str} {py spos : Pos} (hy : X.N[i]? = some y) (hN : X.N.Nodup) (hyl : X.env.scope.names.lookup y = some .local) (hi : PI X tg iter (tI np X.K m)) (ok : BlkOk X.N X.env.scope scope own)
    (hg : ∀ (s : Shared) (H : Hp) (C : Addr) (cl : List (Str × Addr)) (fp : List Addr), PG (X.blk s H scope (compEnvC scope cl C X.env) fp) tg (tGw np X.K (own.map (·.2)) g)) (ht : ∀ (s : Shared) (H : Hp) (C : Addr) (cl : List (Str × Addr)) (fp : List Addr), PTs (X.blk s H scope (compEnvC scope cl C X.env) fp) ifs (tB np X.K t))
    (he : ∀ (s : Shared) (H : Hp) (C : Addr) (cl : List (Str × Addr)) (fp : List Addr), PE (X.blk s H scope (compEnvC scope cl C X.env) fp) elt (tV np X.K e)) (hp : np ≤ i := by decide) (hv : ∀ v ∈ own.map (·.2), np ≤ v := by decide) (hc : X.calm = true := by rfl)
    (hsw : swapsWith (.ListComp elt [⟨tg, iter, ifs, 0⟩] scope pos) (some (.Name y py)) spos.line X.env = pure true := by rfl) (hs : ∀ x, foldedSetIterable iter X.env x = pure x := by intro _; rfl) :
    PS X (.Assign [.Name y py] (.ListComp elt [⟨tg, iter, ifs, 0⟩] scope pos) spos) (tS np X.K (sAsg (gNm i) (oLc (own.map (·.2)) m g t e))) :=
  ps_imp (ps_setLc hc hN hy hyl hsw hi ok hg ht he hs) fun E σ H ⟨F, G, s, ps, R, f, s', hm, q⟩ => by
    obtain ⟨⟨o, s1⟩, h1, h2⟩ := bind_some hm
    obtain ⟨s2, h3, h4⟩ := map_some h2
    cases h4
    obtain ⟨h5, rfl⟩ := if_some h3
    exact lc_done hv ⟨F, G, s, ps, R, o, s1, h1, fun v H1 F1 ps1 as R1 s01 own nd new => q _ H1 F1 _ (R1.store h5 hp own nd new) s01⟩
end
/-! ### two clauses -/
def compGo2 (vs : List Nat) (g : MG) (t : MB) (m1 : MI) (vs1 : List Nat) (g1 : MG) (t1 : MB) (e : MV) : List D → S → Option (List D × S)
  | [], s => some ([], s)
  | d :: ds, s => (g (.val d) s).bind fun s1 => (t s1).bind fun p => if p.1 = true then (m1 p.2).bind fun q => (compGo vs1 g1 t1 e q.1 (wS q.2 vs1)).bind fun r => (compGo2 vs g t m1 vs1 g1 t1 e ds (wS r.2 vs)).map fun u => (r.1 ++ u.1, u.2)
    else compGo2 vs g t m1 vs1 g1 t1 e ds (wS p.2 vs)
def oLc2 (vs : List Nat) (m : MI) (g : MG) (t : MB) (m1 : MI) (vs1 : List Nat) (g1 : MG) (t1 : MB) (e : MV) : MO := fun s => (m s).bind fun p => (compGo2 vs g t m1 vs1 g1 t1 e p.1 (wS p.2 vs)).bind fun r => if r.1.length ≤ sizeLine then some (.lst r.1, r.2) else none
section
variable {X : Cx}
theorem lc2_done {vs vs1 : List Nat} {m m1 : MI} {g g1 : MG} {t t1 : MB} {e : MV} {K : PySem.W.Frag} {σ : L2.St} {H : Hp} {Q : VK} (hv : ∀ v ∈ vs, np ≤ v) (hv1 : ∀ v ∈ vs1, np ≤ v) (h : tO np K (oLc2 vs m g t m1 vs1 g1 t1 e) σ H Q) :
    tLc2 (tI np K m) (tGw np K vs g) (tB np K t) (tI np K m1) (tGw np K vs1 g1) (tB np K t1) (tV np K e) vs vs1 σ H Q := by
  obtain ⟨F, G, s, ps, R, o, s', hm, q⟩ := h
  obtain ⟨⟨ds, s1⟩, h1, h2⟩ := bind_some hm
  obtain ⟨⟨ys, s2⟩, h3, h4⟩ := bind_some h2
  obtain ⟨hlen, h5⟩ := if_some h4
  cases h5
  dsimp only at hlen
  refine ⟨F, G, s, ps, R, ds, s1, h1, fun J H1 F1 ps1 R1 s01 w D hD => ?_⟩
  refine ⟨fun i k H' => ∃ F' accV sx acc ps', CI np K G σ D F' accV H' sx acc ps' ∧ Same F1 F' ∧ Nn vs sx ∧ i ≤ ds.length ∧ k = ds.length - i ∧ ∃ rest, compGo2 vs g t m1 vs1 g1 t1 e (ds.drop i) sx = some (rest, s2) ∧ acc ++ rest = ys, ⟨ds.length, ?_⟩, fun i k H2 hW => ?_⟩
  · obtain ⟨R2, n1, n2, n3⟩ := R1.new (o := .lst []) hD
    obtain ⟨ps2, R3, sub⟩ := R2.wipe vs
    exact ⟨F1, [], wS s1 vs, [], ps2, ⟨R3, upd_same, .nil, n1, n2, fun z => n3 (sub D z)⟩, Same.refl F1, wS_nn s1 vs, Nat.zero_le _, rfl, ys, h3, rfl⟩
  · obtain ⟨F2, accV, sx, acc, ps2, c, s12, nn, hi, rfl, rest, hgo, hacc⟩ := hW
    by_cases hlt : i < ds.length
    · have hd : ds[i]? = some ds[i] := List.getElem?_eq_getElem hlt
      refine .inr ⟨w.goes i H2 hlt (s12.trans c.rel.sF), fun H' => ∃ F' accV sx acc ps', CI np K G σ D F' accV H' sx acc ps' ∧ Same F1 F' ∧ Nn vs sx ∧ ∃ rest, compGo2 vs g t m1 vs1 g1 t1 e (ds.drop (i + 1)) sx = some (rest, s2) ∧ acc ++ rest = ys, fun H' hN => ?_, fun x H3 hy => ?_⟩
      · obtain ⟨F', a1, a2, a3, a4, a5, a6, a7, a8⟩ := hN
        exact ⟨ds.length - (i + 1), by omega, F', a1, a2, a3, a4, a5, a6, a7, hlt, rfl, a8⟩
      · obtain ⟨F3, R3, s23, tx⟩ := w.step hd c.held s12 hy
        rw [List.drop_eq_getElem_cons hlt] at hgo
        obtain ⟨s3, e1, e2⟩ := bind_some hgo
        obtain ⟨⟨b, s4⟩, e3, e4⟩ := bind_some e2
        refine ⟨F3, _, sx, ps2, R3.sw nn hv wipe_wipe, ds[i], s3, tx, e1, fun σ4 H4 F4 ps4 R4 s34 hw => ?_⟩
        have hw' : wipe σ4 vs = wipe σ vs := hw.trans wipe_wipe
        refine ⟨hw', F4, _, s3, ps4, R4, b, s4, e3, fun H5 F5 ps5 R5 s45 => ?_⟩
        have s25 : Same F2 F5 := s23.trans (s34.trans s45)
        rcases if_split e4 with ⟨rfl, e5⟩ | ⟨rfl, e5⟩
        · obtain ⟨⟨es, s5⟩, e6, e7⟩ := bind_some e5
          obtain ⟨⟨zs, s6⟩, e8, e9⟩ := bind_some e7
          obtain ⟨⟨rs, s7⟩, e10, e11⟩ := map_some e9
          cases e11
          refine iteT ⟨F5, _, s4, ps5, R5, es, s5, e6, fun J1 H6 F6 ps6 R6 s56 w1 => ?_⟩
          -- the inner loop, at the slots σ4
          obtain ⟨ps7, c7⟩ := c.back (vs := vs1) (σ := σ4) R6 (s25.trans s56) hv1 rfl
          refine ⟨fun j k H' => ∃ F' accV sy acc' ps', CI np K G σ4 D F' accV H' sy acc' ps' ∧ Same F6 F' ∧ Nn vs1 sy ∧ j ≤ es.length ∧ k = es.length - j ∧ ∃ rest, compGo vs1 g1 t1 e (es.drop j) sy = some (rest, s6) ∧ acc' ++ rest = acc ++ zs, ⟨es.length, F6, accV, _, acc, ps7, c7, Same.refl F6, wS_nn s5 vs1, Nat.zero_le _, rfl, zs, e8, rfl⟩, fun j k H7 hW1 => ?_⟩
          obtain ⟨F7, accV7, sy, acc7, ps7', c8, s67, nn1, hj, rfl, rest1, hgo1, hacc1⟩ := hW1
          have s17 : Same F1 F7 := s12.trans (s25.trans (s56.trans s67))
          by_cases hjl : j < es.length
          · have hdj : es[j]? = some es[j] := List.getElem?_eq_getElem hjl
            refine .inr ⟨w1.goes j H7 hjl (s67.trans c8.rel.sF), fun H' => ∃ F' accV sy acc' ps', CI np K G σ4 D F' accV H' sy acc' ps' ∧ Same F6 F' ∧ Nn vs1 sy ∧ ∃ rest, compGo vs1 g1 t1 e (es.drop (j + 1)) sy = some (rest, s6) ∧ acc' ++ rest = acc ++ zs, fun H' hN => ?_, fun x H8 hy => ?_⟩
            · obtain ⟨F', a1, a2, a3, a4, a5, a6, a7, a8⟩ := hN
              exact ⟨es.length - (j + 1), by omega, F', a1, a2, a3, a4, a5, a6, a7, hjl, rfl, a8⟩
            · obtain ⟨F8, R8, s78, tx8⟩ := w1.step hdj c8.held s67 hy
              rw [List.drop_eq_getElem_cons hjl] at hgo1
              obtain ⟨t3, k1, k2⟩ := bind_some hgo1
              obtain ⟨⟨b1, t4⟩, k3, k4⟩ := bind_some k2
              refine ⟨F8, _, sy, ps7', R8.sw nn1 hv1 wipe_wipe, es[j], t3, tx8, k1, fun σ9 H9 F9 ps9 R9 s89 hw9 => ?_⟩
              have hw9' : wipe σ9 vs1 = wipe σ4 vs1 := hw9.trans wipe_wipe
              refine ⟨hw9', F9, _, t3, ps9, R9, b1, t4, k3, fun H10 F10 ps10 R10 s910 => ?_⟩
              have s710 : Same F7 F10 := s78.trans (s89.trans s910)
              rcases if_split k4 with ⟨rfl, k5⟩ | ⟨rfl, k5⟩
              · obtain ⟨⟨d, t5⟩, k6, k7⟩ := bind_some k5
                obtain ⟨⟨us, t6⟩, k8, k9⟩ := map_some k7
                cases k9
                refine iteT ⟨F10, _, t4, ps10, R10, d, t5, k6, fun v H11 F11 ps11 R11 s1011 tv => ?_⟩
                obtain ⟨ps12, c12⟩ := c8.back R11 (s710.trans s1011) hv1 hw9'
                refine ⟨accV7, c12.at_, ?_, F11, _, _, _, ps12, c12.push tv, s67.trans (s710.trans s1011), wS_nn t5 vs1, us, k8, ?_⟩
                · dsimp only at hacc hacc1
                  have hl1 := congrArg List.length hacc1
                  have hl := congrArg List.length hacc
                  rw [List.length_append, List.length_cons, List.length_append] at hl1
                  rw [List.length_append, List.length_append] at hl
                  rw [da_length c8.tr]
                  omega
                · rw [← hacc1, List.append_assoc]
                  rfl
              · obtain ⟨ps12, c12⟩ := c8.back R10 s710 hv1 hw9'
                exact iteF ⟨F10, accV7, _, acc7, ps12, c12, s67.trans s710, wS_nn t4 vs1, rest1, k5, hacc1⟩
          · have ej : j = es.length := by omega
            subst ej
            rw [List.drop_length] at hgo1
            cases hgo1
            rw [List.append_nil] at hacc1
            subst hacc1
            obtain ⟨ps12, c12⟩ := c8.back (vs := vs) (σ := σ) c8.held (Same.refl F7) hv hw'
            exact .inl ⟨w1.stops H7 (s67.trans c8.rel.sF), F7, accV7, _, _, ps12, c12, s17, wS_nn _ vs, rs, e10, by rw [← hacc, List.append_assoc]⟩
        · obtain ⟨ps7, c7⟩ := c.back R5 s25 hv hw'
          exact iteF ⟨F5, accV, _, acc, ps7, c7, s12.trans s25, wS_nn s4 vs, rest, e5, hacc⟩
    · have ei : i = ds.length := by omega
      subst ei
      rw [List.drop_length] at hgo
      cases hgo
      rw [List.append_nil] at hacc
      subst hacc
      refine .inl ⟨w.stops H2 (s12.trans c.rel.sF), q (.ref D) H2 F2 ps2 [D] c.rel (s01.trans s12) ⟨D, accV, rfl, c.at_, c.tr, rfl⟩ (by simp) fun a ha => ?_⟩
      rw [List.mem_singleton.mp ha]
      exact ⟨c.f, c.g, c.p⟩
variable {elt tg iter tg1 iter1 : Expr} {ifs ifs1 : List Expr} {scope : Scope} {own : List (Str × Nat)} {vs1 : List Nat} {pos : Pos} {m m1 : MI} {g g1 : MG} {t t1 : MB} {e : MV}
theorem e_lc2 (hN : X.N.Nodup) (hi : PI X tg iter (tI np X.K m)) (ok : BlkOk X.N X.env.scope scope own)
    (hg : ∀ (s : Shared) (H : Hp) (C : Addr) (cl : List (Str × Addr)) (fp : List Addr), PG (X.blk s H scope (compEnvC scope cl C X.env) fp) tg (tGw np X.K (own.map (·.2)) g)) (ht : ∀ (s : Shared) (H : Hp) (C : Addr) (cl : List (Str × Addr)) (fp : List Addr), PTs (X.blk s H scope (compEnvC scope cl C X.env) fp) ifs (tB np X.K t))
    (hi1 : ∀ (s : Shared) (H : Hp) (C : Addr) (cl : List (Str × Addr)) (fp : List Addr), PI (X.blk s H scope (compEnvC scope cl C X.env) fp) tg1 iter1 (tI np X.K m1))
    (hg1 : ∀ (s : Shared) (H : Hp) (C : Addr) (cl : List (Str × Addr)) (fp : List Addr), PG (X.blk s H scope (compEnvC scope cl C X.env) fp) tg1 (tGw np X.K vs1 g1)) (ht1 : ∀ (s : Shared) (H : Hp) (C : Addr) (cl : List (Str × Addr)) (fp : List Addr), PTs (X.blk s H scope (compEnvC scope cl C X.env) fp) ifs1 (tB np X.K t1))
    (he : ∀ (s : Shared) (H : Hp) (C : Addr) (cl : List (Str × Addr)) (fp : List Addr), PE (X.blk s H scope (compEnvC scope cl C X.env) fp) elt (tV np X.K e)) (hvs : ∀ i ∈ vs1, i ∈ own.map (·.2) := by decide) (hv : ∀ v ∈ own.map (·.2), np ≤ v := by decide) (hc : X.calm = true := by rfl)
    (hs : ∀ x, foldedSetIterable iter X.env x = pure x := by intro _; rfl) (hs1 : ∀ env x, foldedSetIterable iter1 env x = pure x := by intro _ _; rfl) :
    PE X (.ListComp elt [⟨tg, iter, ifs, 0⟩, ⟨tg1, iter1, ifs1, 0⟩] scope pos) (tO np X.K (oLc2 (own.map (·.2)) m g t m1 vs1 g1 t1 e)) :=
  pe_imp (pe_lc2 hc hN hi ok hvs hg ht hi1 hg1 ht1 he hs hs1) fun _ _ _ h => lc2_done hv (fun v hv1 => hv v (hvs v hv1)) h
theorem s_setLc2 {i : Nat} {y : Str} {py spos : Pos} (hy : X.N[i]? = some y) (hN : X.N.Nodup) (hyl : X.env.scope.names.lookup y = some .local) (hi : PI X tg iter (tI np X.K m)) (ok : BlkOk X.N X.env.scope scope own)
    (hg : ∀ (s : Shared) (H : Hp) (C : Addr) (cl : List (Str × Addr)) (fp : List Addr), PG (X.blk s H scope (compEnvC scope cl C X.env) fp) tg (tGw np X.K (own.map (·.2)) g)) (ht : ∀ (s : Shared) (H : Hp) (C : Addr) (cl : List (Str × Addr)) (fp : List Addr), PTs (X.blk s H scope (compEnvC scope cl C X.env) fp) ifs (tB np X.K t))
    (hi1 : ∀ (s : Shared) (H : Hp) (C : Addr) (cl : List (Str × Addr)) (fp : List Addr), PI (X.blk s H scope (compEnvC scope cl C X.env) fp) tg1 iter1 (tI np X.K m1))
    (hg1 : ∀ (s : Shared) (H : Hp) (C : Addr) (cl : List (Str × Addr)) (fp : List Addr), PG (X.blk s H scope (compEnvC scope cl C X.env) fp) tg1 (tGw np X.K vs1 g1)) (ht1 : ∀ (s : Shared) (H : Hp) (C : Addr) (cl : List (Str × Addr)) (fp : List Addr), PTs (X.blk s H scope (compEnvC scope cl C X.env) fp) ifs1 (tB np X.K t1))
    (he : ∀ (s : Shared) (H : Hp) (C : Addr) (cl : List (Str × Addr)) (fp : List Addr), PE (X.blk s H scope (compEnvC scope cl C X.env) fp) elt (tV np X.K e)) (hp : np ≤ i := by decide) (hvs : ∀ i ∈ vs1, i ∈ own.map (·.2) := by decide) (hv : ∀ v ∈ own.map (·.2), np ≤ v := by decide) (hc : X.calm = true := by rfl)
    (hsw : swapsWith (.ListComp elt [⟨tg, iter, ifs, 0⟩, ⟨tg1, iter1, ifs1, 0⟩] scope pos) (some (.Name y py)) spos.line X.env = pure true := by rfl) (hs : ∀ x, foldedSetIterable iter X.env x = pure x := by intro _; rfl) (hs1 : ∀ env x, foldedSetIterable iter1 env x = pure x := by intro _ _; rfl) :
    PS X (.Assign [.Name y py] (.ListComp elt [⟨tg, iter, ifs, 0⟩, ⟨tg1, iter1, ifs1, 0⟩] scope pos) spos) (tS np X.K (sAsg (gNm i) (oLc2 (own.map (·.2)) m g t m1 vs1 g1 t1 e))) :=
  ps_imp (ps_setLc2 hc hN hy hyl hsw hi ok hvs hg ht hi1 hg1 ht1 he hs hs1) fun E σ H ⟨F, G, s, ps, R, f, s', hm, q⟩ => by
    obtain ⟨⟨o, s1⟩, h1, h2⟩ := bind_some hm
    obtain ⟨s2, h3, h4⟩ := map_some h2
    cases h4
    obtain ⟨h5, rfl⟩ := if_some h3
    exact lc2_done hv (fun v hv1 => hv v (hvs v hv1)) ⟨F, G, s, ps, R, o, s1, h1, fun v H1 F1 ps1 as R1 s01 own nd new => q _ H1 F1 _ (R1.store h5 hp own nd new) s01⟩
end
end Dv

/-! Comparisons as tests, chains, calls by keywords, constants of the module. -/
namespace Dv
open PySem PySem.Spec PyProof.Rows L2
variable {np : Nat}
/-- a bool as a test -/
def mBo (m : MO) : MB := fun s => (m s).bind fun p => match p.1 with
  | .val (.bool b) => some (b, p.2)
  | _ => none
def oBl : O → Option Bool
  | .val (.bool b) => some b
  | _ => none
/-- a op b op' c -/
def oChain (g g' : List D → Option O) (ma mb mc : MR) : MO := fun s => (ma s).bind fun p => (mb p.2).bind fun q => (looks q.2 [p.1, q.1]).bind fun ds => (g ds).bind fun o => (oBl o).bind fun k =>
  if k = true then (mc q.2).bind fun r => (looks r.2 [q.1, r.1]).bind fun es => (g' es).map fun o' => (o', r.2) else some (.val (.bool false), q.2)
section
variable {X : Cx} {e a b c : Expr} {ma mb mc : MR} {pos : Pos}
theorem bo_split {m : MO} {s : S} {r : Bool × S} (h : mBo m s = some r) : m s = some (.val (.bool r.1), r.2) := by
  obtain ⟨⟨o, s1⟩, h1, h2⟩ := bind_some h
  rw [h1]
  cases o with
  | lst xs => cases h2
  | val d =>
    cases d with
    | bool b =>
      cases h2
      rfl
    | none => cases h2
    | int i => cases h2
    | str x => cases h2
    | list xs => cases h2
    | tuple xs => cases h2
    | dict kvs => cases h2
theorem bo_done {K : PySem.W.Frag} {m : MO} {t : TE} {σ : L2.St} {H : Hp} {Q : Bool → Hp → Prop} (ht : ∀ {Q : VK}, tO np K m σ H Q → t σ H Q) (h : tB np K (mBo m) σ H Q) : tTest t σ H Q := by
  obtain ⟨F, G, s, ps, R, k, s', hm, q⟩ := h
  exact ht ⟨F, G, s, ps, R, .val (.bool k), s', bo_split hm, fun v H1 F1 ps1 as R1 s01 own nd new => by
    obtain ⟨t, _⟩ := own
    cases t
    exact ⟨k, rfl, q H1 F1 ps1 R1 s01⟩⟩
theorem t_of_w {t : TT} (h : PW X e t) : PT X e t := ⟨fun pins s σ H Q I q => h.run _ pins s σ H Q I q⟩
theorem t_cmp {op : CmpOp} {g : List D → Option O} (ho : OpR X (compareOp op) (r2 X.K g)) (ha : PE X a (tR np X.K ma)) (hb : PE X b (tR np X.K mb)) (hm : behindInMarks op b = false := by first | exact nomark _ | rfl) : PT X (.Compare a [op] [b] pos) (tB np X.K (mBo (mOp g [ma, mb]))) :=
  pt_imp (pt_cmpR ho ha hb hm) fun _ _ _ => bo_done op2_done
theorem is_done {K : PySem.W.Frag} {g : List D → Option O} {σ : L2.St} {H : Hp} {Q : VK} (h : tO np K (mOp g [ma]) σ H Q) : tOp (fun x y H Q => y = .non ∧ rG K g [x] H Q) (tR np K ma) (tC .non) σ H Q := by
  obtain ⟨F, G, s, ps, R, o, s', hm, q⟩ := h
  obtain ⟨⟨rs, s1⟩, h1, h2⟩ := bind_some hm
  obtain ⟨ds, h3, h4⟩ := bind_some h2
  obtain ⟨o', h5, h6⟩ := map_some h4
  cases h6
  obtain ⟨⟨ra, sa⟩, e1, e2⟩ := bind_some h1
  obtain ⟨⟨rs', sb⟩, e3, e4⟩ := map_some e2
  cases e3
  cases e4
  refine ⟨F, G, s, ps, R, ra, sa, e1, fun v H1 F1 ps1 R1 s01 hv => ⟨rfl, F1, ds, o, R1.sF, looks_lnt R1 (rfAll1 hv) h3, h5, fun z H3 out => ?_⟩⟩
  obtain ⟨F3, as, R3, s23, own, nd, new⟩ := out.rel R1
  exact q z H3 F3 ps1 as R3 (s01.trans s23) own nd new
theorem t_isN {p : Pos} {j : Nat} (ha : PE X a (tR np X.K ma)) : PT X (.Compare a [.Is] [.Constant .none j p] pos) (tB np X.K (mBo (mOp gIsN [ma]))) :=
  pt_imp (pt_cmpR o_isN ha pe_non (nomark _)) fun _ _ _ => bo_done is_done
theorem t_notN {p : Pos} {j : Nat} (ha : PE X a (tR np X.K ma)) : PT X (.Compare a [.IsNot] [.Constant .none j p] pos) (tB np X.K (mBo (mOp gNotN [ma]))) :=
  pt_imp (pt_cmpR o_notN ha pe_non (nomark _)) fun _ _ _ => bo_done is_done
theorem oBl_some {o : O} {k : Bool} (h : oBl o = some k) : o = .val (.bool k) := by
  cases o with
  | lst xs => cases h
  | val d => cases d <;> cases h <;> rfl
theorem chain_done {K : PySem.W.Frag} {g g' : List D → Option O} {σ : L2.St} {H : Hp} {Q : VK} (h : tO np K (oChain g g' ma mb mc) σ H Q) : tChain (r2 K g) (r2 K g') (tR np K ma) (tR np K mb) (tR np K mc) σ H Q := by
  obtain ⟨F, G, s, ps, R, o, s', hm, q⟩ := h
  obtain ⟨⟨ra, sa⟩, h1, h2⟩ := bind_some hm
  obtain ⟨⟨rb, sb⟩, h3, h4⟩ := bind_some h2
  obtain ⟨ds, h5, h6⟩ := bind_some h4
  obtain ⟨o1, h7, h8⟩ := bind_some h6
  obtain ⟨k, h9, h10⟩ := bind_some h8
  have eo := oBl_some h9
  subst eo
  refine ⟨F, G, s, ps, R, ra, sa, h1, fun v H1 F1 ps1 R1 s01 hv => ⟨F1, G, sa, ps1, R1, rb, sb, h3, fun w H2 F2 ps2 R2 s12 hw => ⟨F2, ds, .val (.bool k), R2.sF, looks_lnt R2 (rfAll2 (rfAt_mono s12 hv) hw) h5, h7, fun z H3 out => ?_⟩⟩⟩
  obtain ⟨F3, as, R3, s23, own, nd, new⟩ := out.rel R2
  obtain ⟨t, rfl⟩ := own
  cases t
  refine ⟨k, rfl, ?_⟩
  rcases if_split h10 with ⟨rfl, h11⟩ | ⟨rfl, h11⟩
  · obtain ⟨⟨rc, sc⟩, h12, h13⟩ := bind_some h11
    obtain ⟨es, h14, h15⟩ := bind_some h13
    obtain ⟨o', h16, h17⟩ := map_some h15
    cases h17
    refine iteT ⟨F3, G, sb, ps2, R3, rc, sc, h12, fun u H4 F4 ps4 R4 s34 hu => ⟨F4, es, o, R4.sF, looks_lnt R4 (rfAll2 (rfAt_mono (s23.trans s34) hw) hu) h14, h16, fun z H5 out => ?_⟩⟩
    obtain ⟨F5, as, R5, s45, own, nd, new⟩ := out.rel R4
    exact q z H5 F5 ps4 as R5 (s01.trans (s12.trans (s23.trans (s34.trans s45)))) own nd new
  · cases h11
    exact iteF (q _ H3 F3 ps2 [] R3 (s01.trans (s12.trans s23)) ⟨.bl _, rfl⟩ List.nodup_nil fun a ha => nomatch ha)
theorem e_chain {op op' : CmpOp} {g g' : List D → Option O} (ho : OpR X (compareOp op) (r2 X.K g)) (ho' : OpR X (compareOp op') (r2 X.K g')) (ha : PE X a (tR np X.K ma)) (hb : PE X b (tR np X.K mb)) (hc : PE X c (tR np X.K mc)) (hm : lastMarks [op, op'] [b, c] = false := by with_unfolding_all rfl) :
    PE X (.Compare a [op, op'] [b, c] pos) (tO np X.K (oChain g g' ma mb mc)) := pe_imp (pe_chain ho ho' ha hb hc hm) fun _ _ _ => chain_done
theorem t_chain {op op' : CmpOp} {g g' : List D → Option O} (ho : OpR X (compareOp op) (r2 X.K g)) (ho' : OpR X (compareOp op') (r2 X.K g')) (ha : PE X a (tR np X.K ma)) (hb : PE X b (tR np X.K mb)) (hc : PE X c (tR np X.K mc)) (hm : lastMarks [op, op'] [b, c] = false := by with_unfolding_all rfl) :
    PT X (.Compare a [op, op'] [b, c] pos) (tB np X.K (mBo (oChain g g' ma mb mc))) := pt_imp (pt_chain ho ho' ha hb hc hm) fun _ _ _ => bo_done chain_done
end
/-! ### keywords -/
section
variable {X : Cx} {e : Expr} {kws : List Keyword} {nm : Option Str} {kpos : Pos}
theorem pk_imp {t t' : TA} (h : PK X kws t) (i : ∀ σ H Q, t' σ H Q → t σ H Q) : PK X kws t' := ⟨fun pos pins s σ H Q I q => h.run pos pins s σ H Q I (i σ H Q q)⟩
theorem ks_nil : PK X [] (tArgs np X.K []) := pk_imp pk_nil fun σ H Q ⟨F, G, s, ps, R, os, s', hm, q⟩ => by
  cases hm
  exact q [] H F ps [] R (Same.refl F) trivial List.nodup_nil fun a ha => nomatch ha
theorem args_step {K : PySem.W.Frag} {m : MArg} {ms : List MArg} {σ : L2.St} {H : Hp} {Q : List V → Hp → Prop} (h : tArgs np K (m :: ms) σ H Q) : tCons (tArg np K m) (tArgs np K ms) σ H Q := by
  obtain ⟨F, G, s, ps, R, os, s', hm, q⟩ := h
  obtain ⟨⟨o, s1⟩, h1, h2⟩ := bind_some hm
  obtain ⟨⟨os', s2⟩, h3, h4⟩ := map_some h2
  cases h4
  refine ⟨F, G, s, ps, R, o, s1, h1, fun v H1 F1 ps1 as R1 s01 own nd new => ⟨F1, G.add H1 as, s1, ps1, R1.hold new, os', s2, h3, fun vs H2 F2 ps2 ass R2 s12 owns nds news => ?_⟩⟩
  have hG : ∀ a ∈ as, G.h a = none ∧ ∃ u, H1 a = some u := fun a ha => ⟨(new a ha).2.1, own.there a ha⟩
  obtain ⟨R3, keep⟩ := Rel.unhold hG R2
  have apart : ∀ a ∈ as, a ∉ ass.flatten := fun a ha z => by
    have z2 := (news a z).2.1
    obtain ⟨u, e⟩ := (hG a ha).2
    rw [show (G.add H1 as).h a = H1 a from if_pos ha, e] at z2
    cases z2
  refine q (v :: vs) H2 F2 ps2 (as :: ass) R3 (s01.trans s12) ⟨own.mono s12 fun a ha u eu => (keep a ha).2.2 u eu, owns⟩ ?_ fun a ha => ?_
  · rw [List.flatten_cons, List.nodup_append]
    exact ⟨nd, nds, fun x hx y hy e => apart x hx (by rw [e]; exact hy)⟩
  · rw [List.flatten_cons] at ha
    rcases List.mem_append.mp ha with ha | ha
    · exact ⟨(keep a ha).1, (new a ha).2.1, (keep a ha).2.1⟩
    · obtain ⟨n1, n2, n3⟩ := news a ha
      refine ⟨n1, ?_, n3⟩
      have n2' : (if a ∈ as then H1 a else G.h a) = none := n2
      rwa [if_neg fun z => apart a z ha] at n2'
theorem ks_cons {m : MArg} {ms : List MArg} (he : PE X e (tArg np X.K m)) (hs : PK X kws (tArgs np X.K ms)) : PK X (⟨nm, e, kpos⟩ :: kws) (tArgs np X.K (m :: ms)) := pk_imp (pk_cons he hs) fun _ _ _ => args_step
/-- the keywords, in the parameters' order, bind -/
structure KwB (fd : FuncData) (ps : List Str) : Prop where
  to : ∀ (s : Shared) (ws : List Value), ws.length = ps.length → BindsTo s fd ⟨[], ps.zip ws⟩ (ps.zip ws)
theorem kwb_of {K : PySem.W.Frag} {x qual : Str} {st : Stmt} {f : Addr} {fd : FuncData} {ps : List Str} (F : Fun K x qual st f fd)
    (h : ∀ (kV doc pm : Value) (an : Option Addr) (cdv ct : Value) (us : List Value), us.length = ps.length → bindArgs (PySem.W.fnOf x qual (defArgs st) (defBody st) (defScope st) .none kV doc pm an cdv ct) ⟨[], ps.zip us⟩ = pure (ps.zip us)) : KwB fd ps := by
  obtain ⟨oc, od, kV, doc, pm, an, cdv, ct, osl, rfl, lk, hcd⟩ := F.ex
  exact ⟨fun s ws hl => .of_eq (h kV doc pm an cdv ct ws hl)⟩
theorem e_callKw {k : Nat} {f : Addr} {fd : FuncData} {ps : List Str} {x : Str} {p pos : Pos} {ms : List MArg} {df : FD} (F : FnOk X.prog X.w X.K X.mg X.base CX0 k f fd ps (spOf X.K df)) (hr : Room k X.A) (hg : Gl X x) (hm : X.mg x = some (.ref f)) (hk : PySem.W.keepIn X.K (.ref f) = true) (hb : KwB fd ps) (ha : PK X kws (tArgs np X.K ms))
    (hdb : (x == ("__debug__" : Str)) = false := by decide) (hall : (backToKw pos (keywordEach kws X.env)).all (·.1.isSome) = true := by rfl) (hks : (backToKw pos (keywordEach kws X.env)).filterMap (·.1) = ps := by rfl)
    (hpl : ((backTo pos (starEach [] X.env)).any (·.1) || (backToKw pos (keywordEach kws X.env)).any (·.1.isNone)) = false := by rfl) : PE X (.Call (.Name x p) [] kws pos) (tO np X.K (mCall df ms)) := by
  refine ⟨fun pins s σ H Q I h => ?_⟩
  refine wpAny_Call_Name_kw (ld_glob I hg hm ?_ hdb)
  refine PySem.W.callWith_KW0 (h₀ := X.base) I.ok.mod.kin hk hall (thn (ha.run pos pins s σ H _ I (call_done (E := E0) h)) fun ws s1 ⟨vs, H1, I1, r, q⟩ => ⟨I1.kIn, ?_⟩) hpl
  rw [hks]
  have q' : spOf X.K df vs H1 Q E0 := by
    have q1 : spOf X.K df (vs ++ []) H1 Q E0 := q
    rwa [List.append_nil] at q1
  have hl : ws.length = ps.length := r.length.symm.trans (F.len _ _ _ _ q')
  refine wpAny_call (codeAny_mono (F.run X.A X.stack s1 H1 ⟨[], ps.zip ws⟩ ws vs Q E0 hr I1.env0 (hb.to s1 ws hl) r q') fun r2 s' hq => ?_)
  cases r2 with
  | error e => exact (pass0 pins σ H1 s1 e s' I1 hq)
  | ok fl =>
    cases fl with
    | ret u => exact I1.after hq
    | next => exact False.elim hq
    | brk => exact False.elim hq
    | cont => exact False.elim hq
end
/-! ### the module's own constants -/
section
variable {X : Cx}
theorem e_gint {x : Str} {i : Int} {t : Tok} {pos : Pos} (hg : Gl X x) (hm : X.mg x = some (.int i t)) (hd : (x == ("__debug__" : Str)) = false := by decide) : PE X (.Name x pos) (tV np X.K (vCon (.int i))) := e_con (pe_glob (v := V.int i) hg hm ⟨t, rfl⟩ hd) fun _ => .int i
theorem e_gstr {x y : Str} {t : Tok} {pos : Pos} (hg : Gl X x) (hm : X.mg x = some (.str y t)) (hd : (x == ("__debug__" : Str)) = false := by decide) : PE X (.Name x pos) (tV np X.K (vCon (.str y))) := e_con (pe_glob (v := V.str y) hg hm ⟨t, rfl⟩ hd) fun _ => .str y
end
end Dv

/-! Sets whose members are keys (ints, texts) or tuples of keys: what stands in the heap; adding. -/
namespace Dv
open PySem PySem.Spec PyProof.Rows L2
/-- a member: a key, or a tuple of keys -/
inductive SK where
  | k (x : Key)
  | t (xs : List Key)
  deriving DecidableEq
def SK.tup : SK → Bool
  | .k _ => false
  | .t _ => true
def SK.hsh (P : Program) (w : World) : SK → Int
  | .k x => (mixKind P w).hash x
  | .t xs => tupleKeyHash (mixKind P w) xs
/-- v is the member, in the heap h -/
def SK.sd (P : Program) (w : World) (h : Heap) : SK → Value → Prop
  | .k x, v => (mixKind P w).is x v = true
  | .t xs, v => ∃ b, v = .ref b ∧ IsTupleKey (mixKind P w) h xs b
def ent (P : Program) (w : World) (p : Value × SK) : Int × Value := (p.2.hsh P w, p.1)
/-- the table of the members L, in the order of the table -/
structure GTab (P : Program) (w : World) (m : Bool) (L : List (Value × SK)) (es : Array (Int × Value)) (t : SetTable) : Prop where
  rows : es.toList = L.map (ent P w)
  fit : t.fits es.size = true
  ris : Ris t.place.toList
  led : w.params.followText "set-order" = true ∨ t.led = true
  tab : m = true → TabOk t (L.map fun p => p.2.hsh P w) ∧ L.length * 5 < t.mask * 3
structure GSet (P : Program) (w : World) (h : Heap) (a : Addr) (m : Bool) (L : List (Value × SK)) : Prop where
  ex : ∃ o es ep t, h.get? a = some o ∧ o.ExactSet ∧ o.data = .set es ep t ∧ GTab P w m L es t
  nd : (L.map (·.2)).Nodup
  few : L.length < 64
  st : ∀ p ∈ L, p.2.sd P w h p.1
  md : ∀ p ∈ L, p.2.tup = m
section
variable {P : Program} {w : World}
theorem perm_lift {α β : Type} {f : α → β} {l l' : List β} (h : l.Perm l') : ∀ {L0 : List α}, l' = L0.map f → ∃ L1 : List α, l = L1.map f ∧ L1.Perm L0 := by
  induction h with
  | nil =>
    intro L0 e
    cases L0 with
    | nil => exact ⟨[], rfl, .nil⟩
    | cons _ _ => cases e
  | cons x _ ih =>
    intro L0 e
    cases L0 with
    | nil => cases e
    | cons y L0 =>
      rw [List.map_cons] at e
      cases e
      obtain ⟨L1, e1, p1⟩ := ih rfl
      exact ⟨y :: L1, by rw [e1, List.map_cons], p1.cons y⟩
  | swap x y l =>
    intro L0 e
    match L0, e with
    | u :: v :: L0, e =>
      rw [List.map_cons, List.map_cons] at e
      cases e
      exact ⟨v :: u :: L0, rfl, .swap u v L0⟩
    | [_], e => cases e
    | [], e => cases e
  | trans _ _ ih1 ih2 =>
    intro L0 e
    obtain ⟨L2, e2, p2⟩ := ih2 e
    obtain ⟨L1, e1, p1⟩ := ih1 e2
    exact ⟨L1, e1, p1.trans p2⟩
theorem SK.keep {h h' : Heap} {x : SK} {v : Value} (e : x.sd P w h v) (k : ∀ b o, h.get? b = some o → h'.get? b = some o) : x.sd P w h' v := by
  cases x with
  | k x => exact e
  | t xs =>
    obtain ⟨b, e1, o, its, n, e2, r⟩ := e
    exact ⟨b, e1, o, its, n, k b o e2, r⟩
/-- the set itself is no member -/
theorem SK.but {h h' : Heap} {x : SK} {v : Value} {a : Addr} {o : Obj} {es : Array (Int × Value)} {ep : Nat} {t : SetTable} (e : x.sd P w h v) (ho : h.get? a = some o) (hd : o.data = .set es ep t) (k : Heap.SameBut a h h') : x.sd P w h' v := by
  cases x with
  | k x => exact e
  | t xs =>
    obtain ⟨b, e1, u, its, n, e2, c, d, r⟩ := e
    have ne : b ≠ a := fun z => by
      rw [z, ho] at e2
      cases e2
      rw [hd] at d
      cases d
    exact ⟨b, e1, u, its, n, (k.2 b ne).trans e2, c, d, r⟩
section
variable {m : Bool} {L : List (Value × SK)} {es : Array (Int × Value)} {t : SetTable}
theorem GTab.size (T : GTab P w m L es t) : es.size = L.length := by
  have e := congrArg List.length T.rows
  rwa [Array.length_toList, List.length_map] at e
theorem GTab.at (T : GTab P w m L es t) {i : Nat} {p : Value × SK} (e : L[i]? = some p) : es[i]? = some (ent P w p) := by
  rw [← Array.getElem?_toList, T.rows, List.getElem?_map, e]
  rfl
end
theorem GSet.keep {h h' : Heap} {a : Addr} {m : Bool} {L : List (Value × SK)} (R : GSet P w h a m L) (ka : ∀ o, h.get? a = some o → h'.get? a = some o) (st : ∀ p ∈ L, p.2.sd P w h' p.1) : GSet P w h' a m L := by
  obtain ⟨o, es, ep, t, e, r⟩ := R.ex
  exact ⟨⟨o, es, ep, t, ka o e, r⟩, R.nd, R.few, st, R.md⟩
/-- a set just made -/
abbrev setObj (w : World) : Obj := { cls := .type "set", dict := none, data := .set #[] 0 (.fresh 0 0 (!w.params.followText "set-order")) }
theorem gset_new {h : Heap} {a : Addr} (m : Bool) (e : h.get? a = some (setObj w)) : GSet P w h a m [] where
  ex := by
    refine ⟨_, _, _, _, e, ⟨rfl, rfl, rfl⟩, rfl, rfl, rfl, List.Pairwise.nil, ?_, fun _ => ⟨⟨List.Pairwise.nil, rfl, rfl, .inl rfl, (fun x hx => by cases hx), fun i h j hi => by simp at hi⟩, show 0 * 5 < 7 * 3 by decide⟩⟩
    show _ ∨ (!w.params.followText "set-order") = true
    cases w.params.followText "set-order"
    · exact .inr rfl
    · exact .inl rfl
  nd := List.nodup_nil
  few := by decide
  st := fun p hp => nomatch hp
  md := fun p hp => nomatch hp
end
section
variable {P : Program} {w : World} {A : Around} {E : Value → Shared → Prop} {s : Shared} {a : Addr}
/-! ### by scan -/
theorem key_sc {x : Key} {v : Value} (h : (mixKind P w).is x v = true) : v.scannable = true := by
  rcases keyIs_shape h with ⟨i, t, _, rfl⟩ | ⟨y, t, _, rfl⟩ <;> rfl
theorem elems_of {L : List (Value × SK)} (st : ∀ p ∈ L, p.2.sd P w s.heap p.1) (md : ∀ p ∈ L, p.2.tup = false) : ElemsOf (mixKind P w) (L.map (ent P w)) := fun e he => by
  obtain ⟨p, hp, rfl⟩ := List.mem_map.mp he
  obtain ⟨v, x⟩ := p
  cases x with
  | k x => exact ⟨⟨x, st _ hp, rfl⟩, key_sc (st _ hp)⟩
  | t xs => cases md _ hp
theorem few_scan {n : Nat} (h : n < 64) : n < scanBound := by unfold scanBound; omega
/-- the table stored, perhaps laid anew -/
theorem scan_tail {g : Bool → Sem Unit} (hg : ∀ (b : Bool) (s1 : Shared) (Q' : Unit → Shared → Prop), Q' () s1 → wpAny (model P w) A (g b) Q' E s1) {o : Obj} {es0 es : Array (Int × Value)} {ep : Nat} {t0 t : SetTable} (ho : s.heap.get? a = some o) (hex : o.ExactSet) (hd : o.data = .set es0 ep t0)
    {L : List (Value × SK)} (nd : (L.map (·.2)).Nodup) (few : L.length < 64) (st : ∀ p ∈ L, p.2.sd P w s.heap p.1) (md : ∀ p ∈ L, p.2.tup = false) (rows : es.toList = L.map (ent P w)) (fit : t.fits es.size = true) (ris : Ris t.place.toList) (led : w.params.followText "set-order" = true ∨ t.led = true) {dm : Bool} {R : Option Bool → Shared → Prop}
    (hR : ∀ h' L', Heap.SameBut a s.heap h' → GSet P w h' a false L' → L'.Perm L → R (some true) { s with heap := h' }) :
    wpAny (model P w) A (do
        storeSet a es t
        if (!dm && t.tooFull) = true then do
            g (relayAll t es (SetTable.grown es.size)).2.2
            storeSet a (relayAll t es (SetTable.grown es.size)).1 (relayAll t es (SetTable.grown es.size)).2.1
            pure (some true)
          else pure (some true)) R E s := by
  have hsz : es.size = L.length := by
    have e := congrArg List.length rows
    rwa [Array.length_toList, List.length_map] at e
  refine wpAny_bind (wpAny_storeSet_of ho hd ?_ (fits_of_scanBound (few_scan (by omega))))
  have o1 := store_at (es' := es) (t' := t) ho hd
  have sb := Heap.SameBut.update s.heap a (Obj.putSet es t)
  split
  · have pm := relayAll_perm t es (SetTable.grown es.size)
    have f2 := relayAll_fits t es (SetTable.grown es.size)
    have r2 := relayAll_ris t es (SetTable.grown es.size)
    have l2 := relayAll_led t es (SetTable.grown es.size)
    generalize relayAll t es (SetTable.grown es.size) = Z at pm f2 r2 l2 ⊢
    obtain ⟨es2, t2, gave⟩ := Z
    dsimp only at pm f2 r2 l2 ⊢
    obtain ⟨L2, e2, p2⟩ := perm_lift pm rows
    have hs2 : es2.size = L.length := by
      have e := congrArg List.length e2
      rw [Array.length_toList, List.length_map, p2.length_eq] at e
      exact e
    refine wpAny_bind (hg _ _ _ (wpAny_bind (wpAny_storeSet_of o1 rfl ?_ (fits_of_scanBound (few_scan (by omega))))))
    have o2 := store_at (es' := es2) (t' := t2) o1 rfl
    have sb2 := sb.trans (Heap.SameBut.update _ a (Obj.putSet es2 t2))
    refine wpAny_pure (hR _ L2 sb2 ⟨⟨_, _, _, _, o2, hex, rfl, e2, f2, r2, led.imp id fun z => l2.trans z, fun z => nomatch z⟩, (p2.map (·.2)).nodup_iff.mpr nd, by rw [p2.length_eq]; exact few, fun p hp => SK.but (st p (p2.mem_iff.mp hp)) ho hd sb2, fun p hp => md p (p2.mem_iff.mp hp)⟩ p2)
  · exact wpAny_pure (hR _ L sb ⟨⟨_, _, _, _, o1, hex, rfl, rows, fit, ris, led, fun z => nomatch z⟩, nd, few, fun p hp => SK.but (st p hp) ho hd sb, md⟩ (.refl _))
theorem scan_add {L : List (Value × SK)} {v : Value} {x : Key} {Q : Bool → Shared → Prop} (R : GSet P w s.heap a false L) (hv : (mixKind P w).is x v = true) (room : L.length + 1 < 64)
    (hQ : ∀ b h' L', Heap.SameBut a s.heap h' → GSet P w h' a false L' → (SK.k x ∈ L.map (·.2) → L' = L) → (SK.k x ∉ L.map (·.2) → L'.Perm ((v, SK.k x) :: L)) → Q b { s with heap := h' }) :
    wpAny (model P w) A (setAddHashed a v ((mixKind P w).hash x)) Q E s := by
  obtain ⟨o, es, ep, t, ho, hex, hd, T⟩ := R.ex
  have hsz := T.size
  have hel : ElemsOf (mixKind P w) es.toList := by
    rw [T.rows]
    exact elems_of R.st R.md
  have hsc := key_sc hv
  have hmem : ∀ e ∈ es.toList, (mixKind P w).is x e.2 = true → SK.k x ∈ L.map (·.2) := fun e he q => by
    rw [T.rows] at he
    obtain ⟨p, hp, rfl⟩ := List.mem_map.mp he
    have s1 := R.st p hp
    have m1 := R.md p hp
    refine List.mem_map.mpr ⟨p, hp, ?_⟩
    cases e2 : p.2 with
    | k y =>
      rw [e2] at s1
      rw [(mixKind P w).inj p.1 y x s1 q]
    | t ys =>
      rw [e2] at m1
      cases m1
  unfold setAddHashed setAddHashedIn
  refine wpAny_holding (wpAny_bind (wpAny_setState_of ho hd T.fit ?_))
  dsimp only
  rw [byScan_of hsc (few_scan (by have := R.few; omega)) hel]
  simp only [↓reduceIte]
  unfold setAddByScan
  refine wpAny_bind (wpAny_bind (wpAny_rule (wpAny_bind (wpAny_setScan_of hv ho hd T.fit hel ?_))))
  cases hfi : List.findIdx? (fun e => (mixKind P w).is x e.2) es.toList with
  | some j =>
    dsimp only
    obtain ⟨hj, pj, _⟩ := List.findIdx?_eq_some_iff_getElem.mp hfi
    have hm := hmem _ (List.getElem_mem hj) pj
    exact wpAny_pure (wpAny_pure (hQ false s.heap L (Heap.SameBut.refl a s.heap) R (fun _ => rfl) fun z => absurd hm z))
  | none =>
    dsimp only
    have hm : SK.k x ∉ L.map (·.2) := fun z => by
      obtain ⟨p, hp, e⟩ := List.mem_map.mp z
      have c := List.findIdx?_eq_none_iff.mp hfi (ent P w p) (by rw [T.rows]; exact List.mem_map.mpr ⟨p, hp, rfl⟩)
      have s1 := R.st p hp
      rw [e] at s1
      have s2 : (mixKind P w).is x (ent P w p).2 = true := s1
      rw [s2] at c
      cases c
    have hgw : ∀ (b : Bool) {s1 : Shared} {Q' : Unit → Shared → Prop}, Q' () s1 → wpAny (model P w) A (match b with | true => rule "set.scan.the-table-gave-way" | false => pure ()) Q' E s1 :=
      fun b s1 Q' q => by cases b <;> first | exact wpAny_pure q | exact wpAny_rule q
    have pm := layNew_perm t es ((mixKind P w).hash x) v
    have f1 := layNew_fits t es ((mixKind P w).hash x) v
    have r1 := layNew_ris t es ((mixKind P w).hash x) v T.ris
    have l1 := layNew_led t es ((mixKind P w).hash x) v
    generalize layNew t es ((mixKind P w).hash x) v = Z at pm f1 r1 l1 ⊢
    obtain ⟨es1, t1, dm, gave⟩ := Z
    dsimp only at pm f1 r1 l1 ⊢
    rw [Array.toList_push] at pm
    obtain ⟨L1, e1, p1⟩ := perm_lift (L0 := (v, SK.k x) :: L) (f := ent P w) (pm.trans (List.perm_append_singleton _ _)) (by rw [List.map_cons, T.rows]; rfl)
    have nd1 : (L1.map (·.2)).Nodup := (p1.map (·.2)).nodup_iff.mpr (List.nodup_cons.mpr ⟨hm, R.nd⟩)
    have few1 : L1.length < 64 := by rw [p1.length_eq]; exact room
    have st1 : ∀ p ∈ L1, p.2.sd P w s.heap p.1 := fun p hp => by
      rcases List.mem_cons.mp (p1.mem_iff.mp hp) with z | z
      · rw [z]; exact hv
      · exact R.st p z
    have md1 : ∀ p ∈ L1, p.2.tup = false := fun p hp => by
      rcases List.mem_cons.mp (p1.mem_iff.mp hp) with z | z
      · rw [z]; rfl
      · exact R.md p z
    have ld1 : w.params.followText "set-order" = true ∨ t1.led = true := T.led.imp id fun z => l1.trans z
    have fin : ∀ h' L', Heap.SameBut a s.heap h' → GSet P w h' a false L' → L'.Perm L1 → Q true { s with heap := h' } := fun h' L' sb R' p' => hQ true h' L' sb R' (fun z => absurd z hm) fun _ => p'.trans p1
    refine wpAny_bind (hgw _ ?_)
    split
    · refine wpAny_bind ?_
      rw [hashByValue_scannable 8 hsc]
      refine wpAny_pure ?_
      refine scan_tail ?_ ho hex hd nd1 few1 st1 md1 e1 ?_ ?_ ?_ ?_
      · intro b s1 Q' q; cases b <;> first | exact wpAny_pure q | exact wpAny_rule q
      · first | (split <;> first | exact f1 | exact SetTable.fits_plain_off f1) | exact f1
      · first | (split <;> exact r1) | exact r1
      · first | (split <;> exact ld1) | exact ld1
      · intro h' L' sb r p'; dsimp only; exact wpAny_pure (fin h' L' sb r p')
    · refine wpAny_bind (wpAny_pure ?_)
      simp only [↓reduceIte]
      refine scan_tail ?_ ho hex hd nd1 few1 st1 md1 e1 f1 r1 ld1 ?_
      · intro b s1 Q' q; cases b <;> first | exact wpAny_pure q | exact wpAny_rule q
      · intro h' L' sb r p'; dsimp only; exact wpAny_pure (fin h' L' sb r p')
end
end Dv

/-! A tuple of keys sought in a set of such tuples, and put in. -/
namespace Dv
open PySem PySem.Spec PyProof.Rows L2
section
variable {P : Program} {w : World} {A : Around} {E : Value → Shared → Prop} {s : Shared} {a : Addr}
theorem key_items {h : Heap} {xs : List Key} {vs : List Value} (e : ItemsAre (mixKind P w) xs vs) : ∀ v ∈ vs, (∃ i t, v = Value.int i t) ∨ ∃ x t, v = Value.str x t := by
  induction e with
  | nil => exact fun v hv => nomatch hv
  | cons h1 _ ih =>
    intro v hv
    rcases List.mem_cons.mp hv with z | z
    · subst z
      rcases keyIs_shape h1 with ⟨i, t, _, e⟩ | ⟨x, t, _, e⟩
      · exact .inl ⟨i, t, e⟩
      · exact .inr ⟨x, t, e⟩
    · exact ih v z
theorem stmt_key {v : Value} (h : (∃ i t, v = Value.int i t) ∨ ∃ x t, v = Value.str x t) (n : Nat) : ofAClassStatement n v = pure false := by
  rcases h with ⟨i, t, rfl⟩ | ⟨x, t, rfl⟩ <;> cases n <;> rfl
theorem hbv_key {v : Value} (h : (∃ i t, v = Value.int i t) ∨ ∃ x t, v = Value.str x t) (n : Nat) : ∃ b, hashByValue n v = pure b := by
  rcases h with ⟨i, t, rfl⟩ | ⟨x, t, rfl⟩
  · exact ⟨true, by cases n <;> rfl⟩
  · exact ⟨false, by cases n <;> rfl⟩
/-- no tuple of keys is of a class statement -/
theorem stmt_tup {xs : List Key} {b : Addr} {Q : Bool → Shared → Prop} (hk : IsTupleKey (mixKind P w) s.heap xs b) (h : Q false s) : wpAny (model P w) A (ofAClassStatement 8 (.ref b)) Q E s := by
  have hT := hk.typeIs
  obtain ⟨o, its, n, ho, _, hd, hi⟩ := hk
  have hv := key_items (h := s.heap) hi
  unfold ofAClassStatement
  refine wpAny_bind (wpAny_typeOf hT ?_)
  dsimp only
  simp only [show (("tuple" : String) == "tuple") = true by decide, if_true, Bool.not_true, Bool.false_eq_true, if_false]
  try refine wpAny_bind (wpAny_pure ?_)
  try simp only [Bool.not_true, Bool.false_eq_true, if_false]
  show wpAny _ _ (seqItems? (.ref b) >>= _) _ _ s
  refine wpAny_bind (wpAny_seqItems ho hd ?_)
  dsimp only
  refine wpAny_bind ?_
  show wpAny _ _ (forIn its _ _) _ _ s
  rw [← Array.forIn_toList]
  refine wpAny_forIn_list _ (fun rest r s' => (r.1 = none ∧ s' = s) ∧ ∀ v ∈ rest, (∃ i t, v = Value.int i t) ∨ ∃ x t, v = Value.str x t) _ ?_ ?_ _ _ ⟨⟨rfl, rfl⟩, hv⟩
  · rintro v rest r s' ⟨⟨hr, rfl⟩, hall⟩
    rw [stmt_key (hall v List.mem_cons_self)]
    refine wpAny_bind (wpAny_pure ?_)
    simp only [Bool.false_eq_true, if_false]
    exact wpAny_pure ⟨⟨rfl, rfl⟩, fun u hu => hall u (List.mem_cons_of_mem _ hu)⟩
  · rintro ⟨r1, r2⟩ s' ⟨⟨hr, rfl⟩, _⟩
    simp only at hr
    subst hr
    exact wpAny_pure h
theorem hbv_tup {xs : List Key} {b : Addr} {Q : Bool → Shared → Prop} (hk : IsTupleKey (mixKind P w) s.heap xs b) (h : ∀ c, Q c s) : wpAny (model P w) A (hashByValue 8 (.ref b)) Q E s := by
  have hT := hk.typeIs
  obtain ⟨o, its, n, ho, _, hd, hi⟩ := hk
  have hv := key_items (h := s.heap) hi
  unfold hashByValue
  refine wpAny_bind (wpAny_specialOf hT F.slot_tuple_hash.lookup ?_)
  show wpAny _ _ (seqItems? (.ref b) >>= _) _ _ s
  refine wpAny_bind (wpAny_seqItems ho hd ?_)
  refine wpAny_bind ?_
  show wpAny _ _ (forIn its _ _) _ _ s
  rw [← Array.forIn_toList]
  refine wpAny_forIn_list _ (fun rest r s' => s' = s ∧ ∀ v ∈ rest, (∃ i t, v = Value.int i t) ∨ ∃ x t, v = Value.str x t) _ ?_ ?_ _ _ ⟨rfl, hv⟩
  · rintro v rest r s' ⟨rfl, hall⟩
    obtain ⟨c, e⟩ := hbv_key (hall v List.mem_cons_self) 7
    rw [e]
    refine wpAny_bind (wpAny_pure ?_)
    cases c with
    | true =>
      simp only [Bool.not_true, Bool.false_eq_true, if_false]
      exact wpAny_pure ⟨rfl, fun u hu => hall u (List.mem_cons_of_mem _ hu)⟩
    | false =>
      simp only [Bool.not_false, if_true]
      exact wpAny_pure (wpAny_pure (h _))
  · rintro ⟨r1, r2⟩ s' ⟨rfl, _⟩
    cases r1 with
    | none => exact wpAny_pure (h _)
    | some c => exact wpAny_pure (h _)
/-- a search among tuples of keys can't be seen -/
theorem unseen_tup {xs : List Key} {b : Addr} {Q : Bool → Shared → Prop} (hk : IsTupleKey (mixKind P w) s.heap xs b) {ys : List Value} (hy : ∀ y ∈ ys, ∃ zs c, y = Value.ref c ∧ IsTupleKey (mixKind P w) s.heap zs c) (h : Q false s) :
    wpAny (model P w) A (searchCouldBeSeen (.ref b) ys) Q E s := by
  unfold searchCouldBeSeen
  refine wpAny_bind ?_
  refine wpAny_forIn_list _ (fun rest r s' => (r.1 = none ∧ s' = s) ∧ ∀ y ∈ rest, ∃ zs c, y = Value.ref c ∧ IsTupleKey (mixKind P w) s.heap zs c) _ ?_ ?_ _ _ ⟨⟨rfl, rfl⟩, hy⟩
  · rintro v rest r s' ⟨⟨hr, rfl⟩, hall⟩
    obtain ⟨zs, c, rfl, hc⟩ := hall v List.mem_cons_self
    have more : ∀ y ∈ rest, ∃ zs c, y = Value.ref c ∧ IsTupleKey (mixKind P w) s'.heap zs c := fun u hu => hall u (List.mem_cons_of_mem _ hu)
    dsimp only
    by_cases hv : (b == c || (carriedByValue (.ref b) && carriedByValue (.ref c))) = true
    · exact wp_if_pos hv (wpAny_pure ⟨⟨rfl, rfl⟩, more⟩)
    · refine wp_if_neg hv (wpAny_bind (wpAny_eqIsQuiet_tuple hk ?_))
      simp only [Bool.not_true, Bool.false_eq_true, if_false]
      refine wpAny_bind (wpAny_eqIsQuiet_tuple hc ?_)
      simp only [Bool.not_true, Bool.false_eq_true, if_false]
      refine wpAny_bind (stmt_tup hk ?_)
      simp only [Bool.false_eq_true, if_false]
      refine wpAny_bind (stmt_tup hc ?_)
      simp only [Bool.false_eq_true, if_false]
      exact wpAny_pure ⟨⟨rfl, rfl⟩, more⟩
  · rintro ⟨r1, r2⟩ s' ⟨⟨hr, rfl⟩, _⟩
    simp only at hr
    subst hr
    exact wpAny_pure h
/-! ### the search -/
/-- the c-th place of the way of the hash h -/
abbrev stp (m : Nat) (h : Int) (c : Nat) : SetTable.Probe := nth m (runAt m (SetTable.bits h % (m + 1)) (SetTable.bits h)) c
theorem stp_dm (m : Nat) (h : Int) (c : Nat) : (stp m h c).dummy = none := by
  have go : ∀ (n : Nat) (p : SetTable.Probe), p.dummy = none → (nth m p n).dummy = none := fun n => by
    induction n with
    | zero => exact fun p e => e
    | succ n ih =>
      intro p e
      refine ih (adv m p) ?_
      unfold adv
      split <;> exact e
  exact go c _ rfl
theorem stp_add (m : Nat) (h : Int) (c q : Nat) : nth m (stp m h c) q = stp m h (c + q) := (nth_add m c _ q).symm
theorem odd_gw {t : SetTable} (h : MaskOk t.mask) : ¬ t.gaveWay = true := by
  unfold SetTable.gaveWay
  rw [mask_odd h]
  decide
variable {L : List (Value × SK)} {es : Array (Int × Value)} {ep : Nat} {t : SetTable} {o : Obj} {b : Addr} {xs : List Key}
theorem seek (ho : s.heap.get? a = some o) (hd : o.data = .set es ep t) (T : GTab P w true L es t) (st : ∀ p ∈ L, p.2.sd P w s.heap p.1) (md : ∀ p ∈ L, p.2.tup = true) (hx : IsTupleKey (mixKind P w) s.heap xs b) (hu : A.units < cLine) {h : Int} (hh : h = tupleKeyHash (mixKind P w) xs) {K : Nat}
    (hKf : K < 10 * SetTable.turns t.mask) (hK : (stp t.mask h K).j ∉ t.place.toList) (hKb : ∀ c, c < K → (stp t.mask h c).j ∈ t.place.toList) {Q : SetFound → Shared → Prop} (hin : SK.t xs ∈ L.map (·.2) → Q (.there none) s) (hout : SK.t xs ∉ L.map (·.2) → Q (.free (stp t.mask h K).j false) s) :
    ∀ (f c : Nat) (stand : Option SetTable.Probe), stand.getD (t.probeStart h) = stp t.mask h c → c ≤ K → K - c < f → (∀ (i : Nat) p, L[i]? = some p → p.2 = SK.t xs → ∃ d, c ≤ d ∧ d < K ∧ t.place.toList[i]? = some (stp t.mask h d).j) →
      wpAny (model P w) A (setSearchFrom a (.ref b) h true f stand) Q E s
  | 0, c, stand, _, _, hf, _ => absurd hf (Nat.not_lt_zero _)
  | f + 1, c, stand, hst, hc, hf, hre => by
    obtain ⟨tab, _⟩ := T.tab rfl
    rw [setSearchFrom_succ]
    refine wpAny_bind (wpAny_setState_of ho hd T.fit ?_)
    dsimp only
    refine wp_if_neg (odd_gw tab.mok) ?_
    try refine wpAny_bind (wpAny_pure ?_)
    have pl : ∀ q, (nth t.mask (stp t.mask h c) q).j = (stp t.mask h (c + q)).j := fun q => by rw [stp_add]
    have spec := go_spec t tab.ris tab.dm (fun i => (es[i]?.map (·.1)).getD 0) h (10 * SetTable.turns t.mask) (K - c) _ (stp_dm t.mask h c) (by omega) (fun q hq => by
      rw [pl]
      exact hKb (c + q) (by omega)) (by
      rw [pl, show c + (K - c) = K by omega]
      exact hK)
    have hat : ∀ (i : Nat) p, L[i]? = some p → p.2 = SK.t xs → (es[i]?.map (·.1)).getD 0 = h := fun i p hp e => by
      rw [T.at hp]
      show p.2.hsh P w = h
      rw [e, hh]
      rfl
    rcases spec with ⟨q, i, hq, hi, hhi, hno, hpr⟩ | ⟨hno, hpr⟩
    · rw [hst, show t.probe (fun i => (es[i]?.map (·.1)).getD 0) h (stp t.mask h c) = _ from hpr, stp_add, stp_add]
      rw [pl] at hi
      dsimp only
      have hil : i < L.length := by
        have h1 : i < t.place.toList.length := (List.getElem?_eq_some_iff.mp hi).1
        have h2 := tab.sz
        rw [List.length_map] at h2
        rw [Array.length_toList] at h1
        omega
      obtain ⟨p, hp⟩ : ∃ p, L[i]? = some p := ⟨_, List.getElem?_eq_getElem hil⟩
      have hpm := List.mem_of_getElem? hp
      obtain ⟨y, hy⟩ : ∃ y, p = y := ⟨p, rfl⟩
      obtain ⟨zs, c2, e1, e2, e3⟩ : ∃ zs c2, p.1 = Value.ref c2 ∧ p.2 = SK.t zs ∧ IsTupleKey (mixKind P w) s.heap zs c2 := by
        have s1 := st p hpm
        have m1 := md p hpm
        cases e : p.2 with
        | k x =>
          rw [e] at m1
          cases m1
        | t zs =>
          rw [e] at s1
          obtain ⟨c2, g1, g2⟩ := s1
          exact ⟨zs, c2, g1, rfl, g2⟩
      have rest : wpAny (model P w) A (searchRest a (.ref b) h true f es t (stp t.mask h (c + q)).j i (stp t.mask h (c + (q + 1)))) Q E s := by
        unfold searchRest
        rw [T.at hp]
        show wpAny _ _ (holding [p.1] (eqBool p.1 (.ref b)) >>= _) _ _ s
        rw [e1]
        refine wpAny_bind (wpAny_holding (wpAny_eqBool_tuple hu e3 hx (wpAny_bind (wpAny_setState_of ho hd T.fit ?_))))
        dsimp only
        by_cases hk : zs = xs
        · refine wp_if_pos (by simp [hk]) (wpAny_pure (hin (List.mem_map.mpr ⟨p, hpm, by rw [e2, hk]⟩)))
        · refine wp_if_neg (by simp [hk]) ?_
          try refine wpAny_bind (wpAny_pure ?_)
          rw [sameMem]
          dsimp only
          have hsl : t.slot (stp t.mask h (c + q)).j = .live i := slot_live tab.ris hi
          have hen : es[i]? = some (p.2.hsh P w, Value.ref c2) := by
            rw [T.at hp, ← e1]
            rfl
          simp only [if_true, hsl, hen]
          refine wpAny_bind (wpAny_isSame_ref_self (wpAny_bind (wpAny_pure ?_)))
          simp only [if_true]
          refine wp_if_neg (by simp [hk]) ?_
          refine seek ho hd T st md hx hu hh hKf hK hKb hin hout f (c + (q + 1)) _ rfl (by omega) (by omega) fun i0 p0 h0 k0 => ?_
          obtain ⟨d, a1, a2, a3⟩ := hre i0 p0 h0 k0
          refine ⟨d, ?_, a2, a3⟩
          rcases Nat.lt_trichotomy d (c + q) with z | z | z
          · exact (hno (d - c) i0 (by omega) (by rw [pl, show c + (d - c) = d by omega]; exact a3) (hat i0 p0 h0 k0)).elim
          · rw [z] at a3
            have s0 := slot_live tab.ris a3
            rw [hsl] at s0
            injection s0 with s0
            rw [← s0, hp] at h0
            cases h0
            rw [e2] at k0
            injection k0 with k0
            exact absurd k0 hk
          · omega
      by_cases hl : t.led = true
      · refine wp_if_neg (by simp [hl]) ?_
        try refine wpAny_bind (wpAny_pure ?_)
        exact rest
      · refine wp_if_pos (by simp [hl]) (wpAny_bind (unseen_tup hx (fun y hy => ?_) ?_))
        · obtain ⟨e, he, ee⟩ := List.mem_map.mp hy
          have he1 : e ∈ es ∧ e.1 = h := by simpa using he
          have he2 : e ∈ es.toList := by simpa using he1.1
          rw [T.rows] at he2
          obtain ⟨p2, hp2, rfl⟩ := List.mem_map.mp he2
          have s1 := st p2 hp2
          have m1 := md p2 hp2
          cases e : p2.2 with
          | k x =>
            rw [e] at m1
            cases m1
          | t zs =>
            rw [e] at s1
            obtain ⟨c2, g1, g2⟩ := s1
            exact ⟨zs, c2, by rw [← ee]; exact g1, g2⟩
        · refine wp_if_neg (by decide) ?_
          try refine wpAny_bind (wpAny_pure ?_)
          exact rest
    · rw [hst, show t.probe (fun i => (es[i]?.map (·.1)).getD 0) h (stp t.mask h c) = _ from hpr, pl, show c + (K - c) = K by omega]
      dsimp only
      refine wpAny_pure (hout fun hm => ?_)
      obtain ⟨p0, h0, k0⟩ := List.mem_map.mp hm
      obtain ⟨i0, hi0⟩ := List.getElem?_of_mem h0
      obtain ⟨d, a1, a2, a3⟩ := hre i0 p0 hi0 k0
      exact hno (d - c) i0 (by omega) (by rw [pl, show c + (d - c) = d by omega]; exact a3) (hat i0 p0 hi0 k0)
/-- the search that adding does -/
theorem seek_add (ho : s.heap.get? a = some o) (hd : o.data = .set es ep t) (T : GTab P w true L es t) (st : ∀ p ∈ L, p.2.sd P w s.heap p.1) (md : ∀ p ∈ L, p.2.tup = true) (hx : IsTupleKey (mixKind P w) s.heap xs b) (hu : A.units < cLine) {h : Int} (hh : h = tupleKeyHash (mixKind P w) xs)
    {Q : SetFound → Shared → Prop} (hin : SK.t xs ∈ L.map (·.2) → Q (.there none) s) (hout : ∀ K, SK.t xs ∉ L.map (·.2) → (stp t.mask h K).j ∉ t.place.toList → (∀ c, c < K → (stp t.mask h c).j ∈ t.place.toList) → Q (.free (stp t.mask h K).j false) s) :
    wpAny (model P w) A (setSearch a (.ref b) h true) Q E s := by
  obtain ⟨tab, room⟩ := T.tab rfl
  obtain ⟨K, hKf, hK, hKb⟩ := tab.first (by rw [List.length_map]; omega) h
  have big : K < 100000 := by
    have : 10 * SetTable.turns t.mask ≤ 1420 := by
      unfold SetTable.turns
      rcases tab.mok with e | e | e <;> omega
    omega
  unfold setSearch
  refine seek ho hd T st md hx hu hh hKf hK hKb hin (fun hn => hout K hn hK hKb) 100000 0 none rfl (Nat.zero_le _) (by omega) fun i p hp hk => ?_
  have hi : (L.map fun p => p.2.hsh P w)[i]? = some h := by
    rw [List.getElem?_map, hp]
    show some (p.2.hsh P w) = some h
    rw [hk, hh]
    rfl
  have hil : i < t.place.toList.length := by
    have h1 : i < L.length := (List.getElem?_eq_some_iff.mp hp).1
    have h2 := tab.sz
    rw [List.length_map] at h2
    rw [Array.length_toList]
    omega
  have hj := List.getElem?_eq_getElem hil
  obtain ⟨c, hc, e⟩ := tab.before hK hi hj
  exact ⟨c, Nat.zero_le _, hc, by rw [hj, ← e]⟩
end
end Dv

/-! Sets of keys or of tuples of keys: made of a list or a tuple; walked. -/
namespace Dv
open PySem PySem.Spec PyProof.Rows L2
section
variable {P : Program} {w : World} {A : Around} {E : Value → Shared → Prop} {s : Shared} {a : Addr}
theorem ex_of {n : Nat} (h : n < 64) : n ≤ sizeLine := by rw [sizeLine_eq]; omega
/-- the table laid anew, larger -/
theorem relay_tup {o : Obj} {es : Array (Int × Value)} {ep : Nat} {t : SetTable} {L : List (Value × SK)} (ho : s.heap.get? a = some o) (hex : o.ExactSet) (hd : o.data = .set es ep t) (rows : es.toList = L.map (ent P w)) (fit : t.fits es.size = true) (nd : (L.map (·.2)).Nodup) (st : ∀ p ∈ L, p.2.sd P w s.heap p.1) (md : ∀ p ∈ L, p.2.tup = true)
    (led : w.params.followText "set-order" = true ∨ t.led = true) (few : L.length < 64) {wanted M : Nat} (hw : SetTable.sizeAbove wanted - 1 = M) (hM : MaskOk M) (hw2 : SetTable.sizeAbove wanted ≤ 128) (hn : L.length * 5 < M * 3) {Q : Unit → Shared → Prop}
    (hQ : ∀ h' L', Heap.SameBut a s.heap h' → GSet P w h' a true L' → L'.Perm L → Q () { s with heap := h' }) : wpAny (model P w) A (setRelay a wanted) Q E s := by
  have hsz : es.size = L.length := by
    have e := congrArg List.length rows
    rwa [Array.length_toList, List.length_map] at e
  obtain ⟨t', order, e, hp, T, em, el, _, ed⟩ := relaid_ok t (hs := es.map (·.1)) (wanted := wanted) hw hM (by rw [Array.size_map, hsz]; omega)
  rw [Array.size_map, hsz] at hp
  -- the entries in the new order
  have pick : ∀ l : List Nat, (∀ i ∈ l, i < L.length) → (l.filterMap fun i => es[i]?).map (·.1) = l.map fun i => (es.map (·.1)).getD i 0 := by
    intro l hl
    induction l with
    | nil => rfl
    | cons i l ih =>
      have hi : i < es.size := by rw [hsz]; exact hl i List.mem_cons_self
      have hi2 : i < (es.map (·.1)).size := by rw [Array.size_map]; exact hi
      rw [List.filterMap_cons_some (Array.getElem?_eq_getElem hi), List.map_cons, List.map_cons, ih fun j hj => hl j (List.mem_cons_of_mem _ hj)]
      congr 1
      rw [Array.getD_eq_getD_getElem?, Array.getElem?_eq_getElem hi2, Array.getElem_map]
      rfl
  have allof : ((List.range L.length).filterMap fun i => es[i]?) = es.toList := by
    have h := List.filterMap_getElem?_range_length es.toList
    rw [Array.length_toList, hsz] at h
    rw [← h]
    congr 1
    funext i
    exact Array.getElem?_toList.symm
  have e1 : (order.filterMap (es[·]?)).toList = order.toList.filterMap fun i => es[i]? := by first | exact Array.toList_filterMap | simp
  have pm : (order.filterMap (es[·]?)).toList.Perm es.toList := by
    rw [e1, ← allof]
    exact hp.filterMap _
  obtain ⟨L2, r1, r2⟩ := perm_lift pm rows
  have hsh : L2.map (fun p => p.2.hsh P w) = order.toList.map fun i => (es.map (·.1)).getD i 0 := by
    rw [← pick order.toList fun i hi => List.mem_range.mp (hp.mem_iff.mp hi), ← e1, r1, List.map_map]
    rfl
  rw [← hsh] at T
  have hs2 : (order.filterMap (es[·]?)).size = es.size := by
    have e := pm.length_eq
    rwa [Array.length_toList, Array.length_toList] at e
  rw [setRelay_eq]
  refine wpAny_bind (wpAny_setState_of ho hd fit ?_)
  dsimp only
  refine wp_if_neg (by rw [sizeLine_eq]; omega) ?_
  try refine wpAny_bind (wpAny_pure ?_)
  rw [e]
  dsimp only
  refine wpAny_bind (wp_if_neg (by rw [hs2]; simp) ?_)
  try refine wpAny_bind (wpAny_pure ?_)
  refine wpAny_pure ?_
  dsimp only
  refine wpAny_storeSet_of ho hd ?_ (by rw [hs2, hsz]; exact ex_of few)
  have sb : Heap.SameBut a s.heap (s.heap.update a (Obj.putSet (order.filterMap (es[·]?)) t')) := Heap.SameBut.update ..
  have hf2 : t'.fits (order.filterMap (es[·]?)).size = true := by
    have h1 := T.sz
    rw [List.length_map] at h1
    have h2 := r2.length_eq
    unfold SetTable.fits SetTable.fill
    rw [T.dm, Bool.and_eq_true, beq_iff_eq, decide_eq_true_eq, hs2, hsz]
    show t'.place.size = L.length ∧ t'.place.size + 0 ≤ t'.mask
    omega
  exact hQ _ L2 sb ⟨⟨_, _, _, _, store_at ho hd, ⟨hex.1, hex.2.1, hex.2.2⟩, rfl, r1, hf2, T.ris, led.imp id fun z => el.trans z, fun _ => ⟨T, by rw [r2.length_eq, em]; exact hn⟩⟩, (r2.map (·.2)).nodup_iff.mpr nd, by rw [r2.length_eq]; exact few, fun p hpm => SK.but (st p (r2.mem_iff.mp hpm)) ho hd sb, fun p hpm => md p (r2.mem_iff.mp hpm)⟩ r2
theorem tup_add {L : List (Value × SK)} {b : Addr} {xs : List Key} {Q : Bool → Shared → Prop} (R : GSet P w s.heap a true L) (hx : IsTupleKey (mixKind P w) s.heap xs b) (hu : A.units < cLine) (room : L.length + 1 < 64)
    (hQ : ∀ c h' L', Heap.SameBut a s.heap h' → GSet P w h' a true L' → (SK.t xs ∈ L.map (·.2) → L' = L) → (SK.t xs ∉ L.map (·.2) → L'.Perm ((Value.ref b, SK.t xs) :: L)) → Q c { s with heap := h' }) :
    wpAny (model P w) A (setAddHashed a (.ref b) (tupleKeyHash (mixKind P w) xs)) Q E s := by
  obtain ⟨o, es, ep, t, ho, hex, hd, T⟩ := R.ex
  have hsz := T.size
  obtain ⟨tab, rm⟩ := T.tab rfl
  unfold setAddHashed
  rw [show (100000 : Nat) = 99999 + 1 from rfl]
  refine wpAny_holding ?_
  rw [setAddHashedIn_succ]
  refine wpAny_bind (wpAny_setState_of ho hd T.fit ?_)
  dsimp only
  refine wp_if_neg (by simp [byScan, Value.scannable]) ?_
  try refine wpAny_bind (wpAny_pure ?_)
  refine wpAny_bind (seek_add ho hd T R.st R.md hx hu rfl (fun hm => wpAny_pure (hQ false s.heap L (Heap.SameBut.refl a s.heap) R (fun _ => rfl) fun z => absurd hm z)) fun K hm hK hb => ?_)
  dsimp only
  refine wpAny_bind (wpAny_setState_of ho hd T.fit ?_)
  dsimp only
  obtain ⟨q1, q2, q3, q4, q5, _, _, _, q9⟩ := tab.put hK hb
  generalize hpt : t.put (stp t.mask (tupleKeyHash (mixKind P w) xs) K).j = pt at q1 q3 q4 q5 q9 ⊢
  obtain ⟨t1, p⟩ := pt
  dsimp only at q1 q3 q4 q5 q9 ⊢
  subst q1
  generalize hpp : SetTable.below t.place (stp t.mask (tupleKeyHash (mixKind P w) xs) K).j = p at q2 q3 ⊢
  -- what is told of the new table, whatever becomes of its mark
  have rest : ∀ t2 : SetTable, TabOk t2 ((L.map fun p => p.2.hsh P w).take p ++ tupleKeyHash (mixKind P w) xs :: (L.map fun p => p.2.hsh P w).drop p) → t2.mask = t.mask → t2.led = t.led → t2.fill = L.length + 1 →
      wpAny (model P w) A (do
        storeSet a (SetTable.insertAt es p (tupleKeyHash (mixKind P w) xs, Value.ref b)) t2
        if (!false && t2.tooFull) = true then do
            setRelay a (SetTable.grown (es.size + 1))
            pure true
          else pure true) Q E s := by
    intro t2 T2 m2 l2 f2
    have hin : (SetTable.insertAt es p (tupleKeyHash (mixKind P w) xs, Value.ref b)).toList = (L.take p ++ (Value.ref b, SK.t xs) :: L.drop p).map (ent P w) := by
      rw [SetTable.toList_insertAt, T.rows, List.map_append, List.map_cons, List.map_take, List.map_drop]
      rfl
    have pm : (L.take p ++ (Value.ref b, SK.t xs) :: L.drop p).Perm ((Value.ref b, SK.t xs) :: L) := put_perm L p (Value.ref b, SK.t xs)
    have hhs : (L.take p ++ (Value.ref b, SK.t xs) :: L.drop p).map (fun p => p.2.hsh P w) = (L.map fun p => p.2.hsh P w).take p ++ tupleKeyHash (mixKind P w) xs :: (L.map fun p => p.2.hsh P w).drop p := by
      rw [List.map_append, List.map_cons, List.map_take, List.map_drop]
      rfl
    rw [← hhs] at T2
    generalize L.take p ++ (Value.ref b, SK.t xs) :: L.drop p = L1 at pm T2 hin
    have hln : L1.length = L.length + 1 := pm.length_eq
    have hes : (SetTable.insertAt es p (tupleKeyHash (mixKind P w) xs, Value.ref b)).size = L.length + 1 := by
      have e := congrArg List.length hin
      rw [Array.length_toList, List.length_map, hln] at e
      exact e
    generalize SetTable.insertAt es p (tupleKeyHash (mixKind P w) xs, Value.ref b) = es1 at hin hes ⊢
    have nd1 : (L1.map (·.2)).Nodup := (pm.map (·.2)).nodup_iff.mpr (List.nodup_cons.mpr ⟨hm, R.nd⟩)
    refine wpAny_bind (wpAny_storeSet_of ho hd ?_ (by rw [hes]; exact ex_of (by omega)))
    have sb : Heap.SameBut a s.heap (s.heap.update a (Obj.putSet es1 t2)) := Heap.SameBut.update ..
    have o1 := store_at (es' := es1) (t' := t2) ho hd
    have hf1 : t2.fits es1.size = true := by
      have h1 := T2.sz
      rw [List.length_map, hln] at h1
      unfold SetTable.fits SetTable.fill
      rw [T2.dm, Bool.and_eq_true, beq_iff_eq, decide_eq_true_eq, hes]
      show t2.place.size = L.length + 1 ∧ t2.place.size + 0 ≤ t2.mask
      omega
    have st1 : ∀ p ∈ L1, p.2.sd P w s.heap p.1 := fun p hp => by
      rcases List.mem_cons.mp (pm.mem_iff.mp hp) with z | z
      · rw [z]
        exact ⟨b, rfl, hx⟩
      · exact R.st p z
    have md1 : ∀ p ∈ L1, p.2.tup = true := fun p hp => by
      rcases List.mem_cons.mp (pm.mem_iff.mp hp) with z | z
      · rw [z]
        rfl
      · exact R.md p z
    have ld1 : w.params.followText "set-order" = true ∨ t2.led = true := T.led.imp id fun z => l2.trans z
    generalize s.heap.update a (Obj.putSet es1 t2) = h1 at sb o1 ⊢
    by_cases hf : t2.tooFull = true
    · have full : (L.length + 1) * 5 ≥ t2.mask * 3 := by
        have h := hf
        unfold SetTable.tooFull at h
        rwa [decide_eq_true_eq, f2] at h
      have two : (t.mask = 7 ∧ L.length = 4) ∨ (t.mask = 31 ∧ L.length = 18) := by
        rw [m2] at full
        rcases tab.mok with e | e | e
        · rw [e] at full rm
          exact .inl ⟨e, by omega⟩
        · rw [e] at full rm
          exact .inr ⟨e, by omega⟩
        · rw [e] at full
          omega
      have go : ∀ M, SetTable.sizeAbove (SetTable.grown (L.length + 1)) - 1 = M → MaskOk M → SetTable.sizeAbove (SetTable.grown (L.length + 1)) ≤ 128 → (L.length + 1) * 5 < M * 3 → wpAny (model P w) A (setRelay a (SetTable.grown (L.length + 1))) (fun _ s' => wpAny (model P w) A (pure true) Q E s') E { s with heap := h1 } := fun M g1 g2 g3 g4 =>
        relay_tup (s := { s with heap := h1 }) o1 ⟨hex.1, hex.2.1, hex.2.2⟩ rfl hin hf1 nd1 (fun p hp => SK.but (st1 p hp) ho hd sb) md1 ld1 (by rw [hln]; exact room) g1 g2 g3 (by rw [hln]; exact g4) fun h2 L2 sb2 R2 pm2 => wpAny_pure (hQ true h2 L2 (sb.trans sb2) R2 (fun z => absurd z hm) fun _ => pm2.trans pm)
      refine wp_if_pos (by simp [hf]) (wpAny_bind ?_)
      rw [hsz]
      rcases two with ⟨_, e2⟩ | ⟨_, e2⟩
      · exact go 31 (by rw [e2, size_20]) (.inr (.inl rfl)) (by rw [e2, size_20]; decide) (by omega)
      · exact go 127 (by rw [e2, size_76]) (.inr (.inr rfl)) (by rw [e2, size_76]; decide) (by omega)
    · refine wp_if_neg (by simp [hf]) (wpAny_pure (hQ true h1 L1 sb ⟨⟨_, _, _, _, o1, ⟨hex.1, hex.2.1, hex.2.2⟩, rfl, hin, hf1, T2.ris, ld1, fun _ => ⟨T2, ?_⟩⟩, nd1, by rw [hln]; exact room, fun p hp => SK.but (st1 p hp) ho hd sb, md1⟩ (fun z => absurd z hm) fun _ => pm))
      have h := hf
      unfold SetTable.tooFull at h
      rw [decide_eq_true_eq, f2] at h
      omega
  have off : ∀ {t2 : SetTable} {hs : List Int}, TabOk t2 hs → TabOk { t2 with plain := false } hs := fun T => ⟨T.ris, T.dm, T.sz, T.mok, T.bd, T.reach⟩
  have fl : t1.fill = L.length + 1 := by rw [q9, List.length_map]
  by_cases hpl : t1.plain = true
  · first
      | (refine wpAny_bind ?_; refine wp_if_pos hpl ?_; refine hbv_tup hx fun c => ?_)
      | refine wp_if_pos hpl (wpAny_bind (hbv_tup hx fun c => ?_))
    cases c with
    | true => exact rest t1 q3 q4 q5 fl
    | false => exact rest { t1 with plain := false } (off q3) q4 q5 fl
  · first
      | (refine wpAny_bind ?_; refine wp_if_neg hpl ?_; refine wpAny_pure ?_)
      | refine wp_if_neg hpl (wpAny_bind (wpAny_pure ?_))
    exact rest t1 q3 q4 q5 fl
theorem g_add {m : Bool} {L : List (Value × SK)} {v : Value} {x : SK} {Q : Bool → Shared → Prop} (R : GSet P w s.heap a m L) (hx : x.sd P w s.heap v) (hm : x.tup = m) (hu : A.units < cLine) (room : L.length + 1 < 64)
    (hQ : ∀ c h' L', Heap.SameBut a s.heap h' → GSet P w h' a m L' → (x ∈ L.map (·.2) → L' = L) → (x ∉ L.map (·.2) → L'.Perm ((v, x) :: L)) → Q c { s with heap := h' }) : wpAny (model P w) A (setAddHashed a v (x.hsh P w)) Q E s := by
  cases x with
  | k x =>
    subst hm
    exact scan_add R hx room hQ
  | t xs =>
    subst hm
    obtain ⟨b, rfl, hb⟩ := hx
    exact tup_add R hb hu room hQ
theorem g_hash {v : Value} {x : SK} {Q : Int → Shared → Prop} (hx : x.sd P w s.heap v) (hu : A.units < cLine) (h : ∀ n, s.toks ≤ n → Q (x.hsh P w) { s with toks := n }) : wpAny (model P w) A (pyHash v) Q E s := by
  cases x with
  | k x => exact (mixKind P w).pyHash hx (h _ (Nat.le_succ _))
  | t xs =>
    obtain ⟨b, rfl, hb⟩ := hx
    exact wpAny_pyHash_tuple hu hb (h _ (Nat.le_add_right _ _))
/-! ### all items put in -/
/-- L: what the first i of ks have brought -/
structure Brought (ks : List (Value × SK)) (i : Nat) (L : List (Value × SK)) : Prop where
  sub : ∀ p ∈ L, p ∈ ks.take i
  all : ∀ p ∈ ks.take i, p.2 ∈ L.map (·.2)
  len : L.length ≤ i
theorem brought_zero (ks : List (Value × SK)) : Brought ks 0 [] := ⟨(fun p hp => nomatch hp), (fun p hp => by rw [List.take_zero] at hp; cases hp), Nat.le_refl _⟩
theorem brought_next {ks L L' : List (Value × SK)} {i : Nat} {p : Value × SK} (g : Brought ks i L) (h : ks[i]? = some p) (c1 : p.2 ∈ L.map (·.2) → L' = L) (c2 : p.2 ∉ L.map (·.2) → L'.Perm (p :: L)) : Brought ks (i + 1) L' := by
  have tk : ks.take (i + 1) = ks.take i ++ [p] := by rw [List.take_add_one, h]; rfl
  rcases Classical.em (p.2 ∈ L.map (·.2)) with c | c
  · rw [c1 c]
    refine ⟨fun q hq => by rw [tk]; exact List.mem_append_left _ (g.sub q hq), fun q hq => ?_, Nat.le_succ_of_le g.len⟩
    rw [tk] at hq
    rcases List.mem_append.mp hq with z | z
    · exact g.all q z
    · rw [List.mem_singleton.mp z]
      exact c
  · have pm := c2 c
    refine ⟨fun q hq => ?_, fun q hq => ?_, by rw [pm.length_eq]; exact Nat.succ_le_succ g.len⟩
    · rw [tk]
      rcases List.mem_cons.mp (pm.mem_iff.mp hq) with z | z
      · rw [z]
        exact List.mem_append_right _ List.mem_cons_self
      · exact List.mem_append_left _ (g.sub q z)
    · rw [tk] at hq
      rw [(pm.map (·.2)).mem_iff, List.map_cons, List.mem_cons]
      rcases List.mem_append.mp hq with z | z
      · exact .inr (g.all q z)
      · rw [List.mem_singleton.mp z]
        exact .inl rfl
/-- what stays through the loop -/
structure Thru (P : Program) (w : World) (m : Bool) (S : Addr) (ks : List (Value × SK)) (h0 : Heap) (i : Nat) (h : Heap) : Prop where
  kp : ∀ b o, h0.get? b = some o → h.get? b = some o
  gs : ∃ L, GSet P w h S m L ∧ Brought ks i L
theorem update_all {I : Addr} {fp wr : List Addr} {G : Array GenState → Array GenState → Prop} {n : Nat} {Pv : Nat → Value → Prop} {St : Nat → Shared → Prop} {R : Result → Shared → Prop} (W : WalksS P w A.in1 I fp wr G n Pv St) (m : Bool) (S : Addr) (hSf : S ∉ fp) (ks : List (Value × SK)) (hn : n = ks.length) (few : ks.length < 64)
    (hval : ∀ i v, Pv i v → ∃ p, ks[i]? = some p ∧ v = p.1) (h0 : Heap) (hk : ∀ p ∈ ks, p.2.sd P w h0 p.1) (hm : ∀ p ∈ ks, p.2.tup = m) (hS0 : h0.get? S = none) (hw0 : ∀ b ∈ wr, h0.get? b = none) (hu : A.in1.units < cLine) :
    ∀ (k i : Nat) (s : Shared), n - i = k → i ≤ n → St i s → Thru P w m S ks h0 i s.heap → (∀ s', Moved (S :: wr) G s s' → Thru P w m S ks h0 n s'.heap → R (.ok (.ret .none)) s') →
      codeAny (model P w) A (.builtin "set.update.loop" ⟨[.ref S, .ref I], []⟩) R s := by
  have hSw : S ∉ wr := fun h => hSf (W.sub _ h)
  have hsub : ∀ b ∈ wr, b ∈ S :: wr := fun b hb => List.mem_cons_of_mem _ hb
  -- the set and the things behind its members, over a step of the walk
  have thru : ∀ {i : Nat} {s s' : Shared}, Moved wr G s s' → Thru P w m S ks h0 i s.heap → Thru P w m S ks h0 i s'.heap := fun {i s s'} mv T => by
    have kp : ∀ b o, h0.get? b = some o → s'.heap.get? b = some o := fun b o e => mv.heap b o (fun hb => by rw [hw0 b hb] at e; cases e) (T.kp b o e)
    obtain ⟨L, g, br⟩ := T.gs
    exact ⟨kp, L, g.keep (fun o e => mv.heap S o hSw e) fun p hp => SK.keep (hk p (List.mem_of_mem_take (br.sub p hp))) kp, br⟩
  intro k
  induction k with
  | zero =>
    intro i s hk' hi hst T hR
    have hin : i = n := by omega
    subst hin
    refine codeAny_builtin F.entry_set_update_loop ?_
    rw [Around.under_plainId F.plain_set_update_loop _]
    show wpAny _ A.in1 (pyNext (.ref I) >>= _) _ _ s
    refine wpAny_bind (W.done s _ _ hst fun s' mv => ?_)
    show wpAny _ A.in1 (ret Value.none) _ _ s'
    exact wpAny_pure (hR s' (mv.mono hsub) (thru mv T))
  | succ k ih =>
    intro i s hk' hi hst T hR
    have hlt : i < n := by omega
    refine codeAny_builtin F.entry_set_update_loop ?_
    rw [Around.under_plainId F.plain_set_update_loop _]
    show wpAny _ A.in1 (pyNext (.ref I) >>= _) _ _ s
    refine wpAny_bind (W.item i s _ _ hlt hst fun v s' hP hst' mv => ?_)
    obtain ⟨p, hp, rfl⟩ := hval i v hP
    have T' := thru mv T
    obtain ⟨L, g, br⟩ := T'.gs
    have hpm := List.mem_of_getElem? hp
    have hx : p.2.sd P w s'.heap p.1 := SK.keep (hk p hpm) T'.kp
    show wpAny _ A.in1 (holding [p.1] (setAdd S p.1) >>= _) _ _ s'
    refine wpAny_bind (wpAny_holding ?_)
    unfold setAdd
    refine wpAny_holding (wpAny_bind (g_hash hx hu fun tk htk => ?_))
    refine g_add (s := { s' with toks := tk }) g hx (hm p hpm) hu (by have := br.len; omega) fun c h' L' hsb g' c1 c2 => ?_
    have hkp2 : ∀ b o, h0.get? b = some o → h'.get? b = some o := fun b o e => (hsb.2 b fun z => by rw [z, hS0] at e; cases e).trans (T'.kp b o e)
    refine wpAny_pure ⟨plainId_quiet F.plain_set_update_loop _, ih (i + 1) _ (by omega) hlt (W.frame _ s' _ _ hst' htk fun b hb o e => ?_) ⟨hkp2, L', g', brought_next br hp c1 c2⟩ fun s'' mv' T'' => ?_⟩
    · rw [hsb.2 b fun h : b = S => hSf (by rw [← h]; exact hb)]
      exact e
    · refine hR s'' (Moved.trans W.gtrans ((mv.mono hsub).then_heap htk fun b o hb e => ?_) mv') T''
      rw [hsb.2 b fun h : b = S => hb (by rw [h]; exact List.mem_cons_self)]
      exact e

set_option maxHeartbeats 3200000 in
/-- set(xs), xs a list -/
theorem set_of_list {l : Addr} {items : Array Value} (m : Bool) (ks : List (Value × SK)) {Q : Value → Shared → Prop} (hh : A.handled = none) (hl : s.heap.IsList l items) (hit : items.toList = ks.map (·.1)) (hk : ∀ p ∈ ks, p.2.sd P w s.heap p.1) (hm : ∀ p ∈ ks, p.2.tup = m) (few : ks.length < 64) (hu : A.units + 3 < cLine)
    (h : ∀ (h' : Heap) (tk : Nat) L, GSet P w h' s.heap.objs.size m L → Brought ks ks.length L → (∀ b o, s.heap.get? b = some o → h'.get? b = some o) → Q (.ref s.heap.objs.size) { s with heap := h', toks := tk }) :
    wpAny (model P w) A (call (.type "set") [.ref l]) Q E s := by
  have isz : items.size = ks.length := by
    have e := congrArg List.length hit
    rwa [Array.length_toList, List.length_map] at e
  have m1 := F.called_set.made
  have m2 := F.called_set.sub
  have m3 := F.called_set.notType
  have m4 := F.called_set.canCreate
  have m5 := F.typeCall_set_1 (.ref l)
  obtain ⟨c, tl, m6⟩ := F.called_set.mro
  refine wpAny_call (codeAny_of_tree ?_)
  show wpAny _ _ (callAny (.type "set") _) _ _ _
  refine wpAny_pure ⟨Code.quiet_builtin _ (by decide +kernel), codeAny_builtin F.entry_type_call ?_⟩
  rw [Around.under_plain (weight_type_call_type "set" [.ref l] []) rfl]
  repeat (any_goals (first | assumption | wp_step))
  refine codeAny_mono (code_set_led1 (.ref l) (E := E) (Q₁ := fun ob s1 => ob = .ref s.heap.objs.size ∧ s1 = { s with heap := s.heap.push (setObj w) }) ⟨rfl, rfl⟩) fun r s1 hr => ?_
  cases r with
  | error e => exact hr
  | ok fl =>
    cases fl with
    | ret ob =>
      obtain ⟨rfl, rfl⟩ := hr
      have hS : (s.heap.push (setObj w)).get? s.heap.objs.size = some (setObj w) := Heap.get?_push_size _ rfl
      have hT : Shared.TypeIs { s with heap := s.heap.push (setObj w) } (.ref s.heap.objs.size) "set" := ⟨_, hS, rfl⟩
      have i1 := F.called_set.init.lookup
      have i2 := F.called_set.init.bind (.ref s.heap.objs.size)
      repeat (any_goals (first | assumption | wp_step))
      refine codeAny_mono (codeAny_call_builtin (R := wants (fun r s2 => r = .none ∧ ∃ h' tk L, s2 = { s with heap := h', toks := tk } ∧ GSet P w h' s.heap.objs.size m L ∧ Brought ks ks.length L ∧ ∀ b o, s.heap.get? b = some o → h'.get? b = some o) E) F.called_set.init.plain F.entry_set_init (check_set_init_1 hT ?_)) fun r2 s2 hr2 => ?_
      · obtain ⟨ol, hol, hcl, nl, hdl⟩ := hl
        obtain ⟨oc, od, odat, osl⟩ := ol
        dsimp only at hcl hdl
        subst hcl; subst hdl
        have j1 : (s.heap.push (setObj w)).get? l = some { cls := .type "list", dict := od, data := .seq items nl, slots := osl } := Heap.get?_push_of_some _ hol
        have j2 := F.sub_list_set
        have j3 := F.sub_list_frozenset
        have j4 : (Value.type "list" == Value.type "dict") = false := by decide
        have hl1 : (s.heap.push (setObj w)).IsList l items := ⟨_, j1, rfl, nl, rfl⟩
        unfold Builtin.«set.__init__» noKeywords Builtin.Frozenset.updateFrom
        generalize hPI : pyIter = PI
        wp_walk
        subst hPI
        refine wpAny_pyIter_list hl1 (wpAny_bind (wpAny_runValue ?_))
        have hlS : l < s.heap.objs.size := Heap.lt_size hol
        have h3 : A.in1.in1.in1.handled = none := by simp [hh]
        have hz : (s.heap.push (setObj w)).objs.size = s.heap.objs.size + 1 := Heap.size_push ..
        have neI : l ≠ (s.heap.push (setObj w)).objs.size := by rw [hz]; exact Nat.ne_of_lt (Nat.lt_succ_of_lt hlS)
        have out : s.heap.objs.size ∉ [(s.heap.push (setObj w)).objs.size, l] := by
          rw [hz]
          simp only [List.mem_cons, List.not_mem_nil, or_false, not_or]
          exact ⟨Nat.ne_of_lt (Nat.lt_succ_self _), Nat.ne_of_gt hlS⟩
        have val : ∀ (i : Nat) (v : Value), items[i]? = some v → ∃ p, ks[i]? = some p ∧ v = p.1 := fun i v hv => by
          have e : items.toList[i]? = some v := by rw [Array.getElem?_toList]; exact hv
          rw [hit, List.getElem?_map] at e
          obtain ⟨p, e1, e2⟩ := map_some e
          exact ⟨p, e1, e2.symm⟩
        have new : ∀ b, s.heap.objs.size ≤ b → s.heap.get? b = none := fun b hb => by
          cases e : s.heap.get? b with
          | none => rfl
          | some o => exact absurd (Nat.lt_of_lt_of_le (Heap.lt_size e) hb) (Nat.lt_irrefl _)
        refine update_all ((Walks.list h3 _ l neI items).toS) m s.heap.objs.size out ks isz few val s.heap hk hm (new _ (Nat.le_refl _)) (fun b hb => new b (by
          rw [List.mem_singleton.mp hb, hz]
          exact Nat.le_succ _)) hu (items.size - 0) 0 _ (by omega) (Nat.zero_le _) ⟨⟨_, Heap.get?_push_size _ rfl, rfl, rfl⟩, (hl1.push _)⟩ ⟨fun b o e => Heap.get?_push_of_some _ (Heap.get?_push_of_some _ e), [], gset_new m (Heap.get?_push_of_some _ hS), brought_zero ks⟩ ?fin
        case fin =>
          intro s' mv T'
          obtain ⟨h', g2, d', tk', os'⟩ := s'
          have e1 : g2 = s.gens := mv.gens
          have e2 : d' = s.drawn := mv.drawn
          have e3 : os' = s.os := mv.os
          subst e1; subst e2; subst e3
          obtain ⟨kp, L, g, br⟩ := T'
          rw [isz] at br
          show wpAny _ _ _ _ _ _
          refine wpAny_pure ?_
          show wpAny _ _ (ret Value.none) _ _ _
          exact wpAny_pure ⟨rfl, h', tk', L, rfl, g, br, kp⟩
      · cases r2 with
        | error e => exact hr2
        | ok fl2 =>
          cases fl2 with
          | ret r =>
            obtain ⟨rfl, h', tk, L, rfl, g, br, kp⟩ := hr2
            repeat (any_goals (first | assumption | wp_step))
            exact h _ _ _ g br kp
          | _ => exact hr2.elim
    | _ => exact hr.elim

set_option maxHeartbeats 3200000 in
/-- set(xs), xs a tuple -/
theorem set_of_tuple {l : Addr} {items : Array Value} (m : Bool) (ks : List (Value × SK)) {Q : Value → Shared → Prop} (hh : A.handled = none) (hl : s.heap.IsTuple l items) (hit : items.toList = ks.map (·.1)) (hk : ∀ p ∈ ks, p.2.sd P w s.heap p.1) (hm : ∀ p ∈ ks, p.2.tup = m) (few : ks.length < 64) (hu : A.units + 3 < cLine)
    (h : ∀ (h' : Heap) (tk : Nat) L, GSet P w h' s.heap.objs.size m L → Brought ks ks.length L → (∀ b o, s.heap.get? b = some o → h'.get? b = some o) → Q (.ref s.heap.objs.size) { s with heap := h', toks := tk }) :
    wpAny (model P w) A (call (.type "set") [.ref l]) Q E s := by
  have isz : items.size = ks.length := by
    have e := congrArg List.length hit
    rwa [Array.length_toList, List.length_map] at e
  have m1 := F.called_set.made
  have m2 := F.called_set.sub
  have m3 := F.called_set.notType
  have m4 := F.called_set.canCreate
  have m5 := F.typeCall_set_1 (.ref l)
  obtain ⟨c, tl, m6⟩ := F.called_set.mro
  refine wpAny_call (codeAny_of_tree ?_)
  show wpAny _ _ (callAny (.type "set") _) _ _ _
  refine wpAny_pure ⟨Code.quiet_builtin _ (by decide +kernel), codeAny_builtin F.entry_type_call ?_⟩
  rw [Around.under_plain (weight_type_call_type "set" [.ref l] []) rfl]
  repeat (any_goals (first | assumption | wp_step))
  refine codeAny_mono (code_set_led1 (.ref l) (E := E) (Q₁ := fun ob s1 => ob = .ref s.heap.objs.size ∧ s1 = { s with heap := s.heap.push (setObj w) }) ⟨rfl, rfl⟩) fun r s1 hr => ?_
  cases r with
  | error e => exact hr
  | ok fl =>
    cases fl with
    | ret ob =>
      obtain ⟨rfl, rfl⟩ := hr
      have hS : (s.heap.push (setObj w)).get? s.heap.objs.size = some (setObj w) := Heap.get?_push_size _ rfl
      have hT : Shared.TypeIs { s with heap := s.heap.push (setObj w) } (.ref s.heap.objs.size) "set" := ⟨_, hS, rfl⟩
      have i1 := F.called_set.init.lookup
      have i2 := F.called_set.init.bind (.ref s.heap.objs.size)
      repeat (any_goals (first | assumption | wp_step))
      refine codeAny_mono (codeAny_call_builtin (R := wants (fun r s2 => r = .none ∧ ∃ h' tk L, s2 = { s with heap := h', toks := tk } ∧ GSet P w h' s.heap.objs.size m L ∧ Brought ks ks.length L ∧ ∀ b o, s.heap.get? b = some o → h'.get? b = some o) E) F.called_set.init.plain F.entry_set_init (check_set_init_1 hT ?_)) fun r2 s2 hr2 => ?_
      · obtain ⟨ol, hol, hcl, nl, hdl⟩ := hl
        obtain ⟨oc, od, odat, osl⟩ := ol
        dsimp only at hcl hdl
        subst hcl; subst hdl
        have j1 : (s.heap.push (setObj w)).get? l = some { cls := .type "tuple", dict := od, data := .seq items nl, slots := osl } := Heap.get?_push_of_some _ hol
        have j2 := F.sub_tuple_set
        have j3 := F.sub_tuple_frozenset
        have j4 : (Value.type "tuple" == Value.type "dict") = false := by decide
        have hl1 : (s.heap.push (setObj w)).IsTuple l items := ⟨_, j1, rfl, nl, rfl⟩
        unfold Builtin.«set.__init__» noKeywords Builtin.Frozenset.updateFrom
        generalize hPI : pyIter = PI
        wp_walk
        subst hPI
        refine wpAny_pyIter_tuple hl1 (wpAny_bind (wpAny_runValue ?_))
        have hlS : l < s.heap.objs.size := Heap.lt_size hol
        have h3 : A.in1.in1.in1.handled = none := by simp [hh]
        have hz : (s.heap.push (setObj w)).objs.size = s.heap.objs.size + 1 := Heap.size_push ..
        have neI : l ≠ (s.heap.push (setObj w)).objs.size := by rw [hz]; exact Nat.ne_of_lt (Nat.lt_succ_of_lt hlS)
        have out : s.heap.objs.size ∉ [(s.heap.push (setObj w)).objs.size, l] := by
          rw [hz]
          simp only [List.mem_cons, List.not_mem_nil, or_false, not_or]
          exact ⟨Nat.ne_of_lt (Nat.lt_succ_self _), Nat.ne_of_gt hlS⟩
        have val : ∀ (i : Nat) (v : Value), items[i]? = some v → ∃ p, ks[i]? = some p ∧ v = p.1 := fun i v hv => by
          have e : items.toList[i]? = some v := by rw [Array.getElem?_toList]; exact hv
          rw [hit, List.getElem?_map] at e
          obtain ⟨p, e1, e2⟩ := map_some e
          exact ⟨p, e1, e2.symm⟩
        have new : ∀ b, s.heap.objs.size ≤ b → s.heap.get? b = none := fun b hb => by
          cases e : s.heap.get? b with
          | none => rfl
          | some o => exact absurd (Nat.lt_of_lt_of_le (Heap.lt_size e) hb) (Nat.lt_irrefl _)
        refine update_all ((Walks.tuple h3 _ l neI items).toS) m s.heap.objs.size out ks isz few val s.heap hk hm (new _ (Nat.le_refl _)) (fun b hb => new b (by
          rw [List.mem_singleton.mp hb, hz]
          exact Nat.le_succ _)) hu (items.size - 0) 0 _ (by omega) (Nat.zero_le _) ⟨⟨_, Heap.get?_push_size _ rfl, rfl, rfl⟩, (hl1.push _)⟩ ⟨fun b o e => Heap.get?_push_of_some _ (Heap.get?_push_of_some _ e), [], gset_new m (Heap.get?_push_of_some _ hS), brought_zero ks⟩ ?fin
        case fin =>
          intro s' mv T'
          obtain ⟨h', g2, d', tk', os'⟩ := s'
          have e1 : g2 = s.gens := mv.gens
          have e2 : d' = s.drawn := mv.drawn
          have e3 : os' = s.os := mv.os
          subst e1; subst e2; subst e3
          obtain ⟨kp, L, g, br⟩ := T'
          rw [isz] at br
          show wpAny _ _ _ _ _ _
          refine wpAny_pure ?_
          show wpAny _ _ (ret Value.none) _ _ _
          exact wpAny_pure ⟨rfl, h', tk', L, rfl, g, br, kp⟩
      · cases r2 with
        | error e => exact hr2
        | ok fl2 =>
          cases fl2 with
          | ret r =>
            obtain ⟨rfl, h', tk, L, rfl, g, br, kp⟩ := hr2
            repeat (any_goals (first | assumption | wp_step))
            exact h _ _ _ g br kp
          | _ => exact hr2.elim
    | _ => exact hr.elim
end
end Dv

/-! sorted(set(..)), in plain Lean. -/
namespace Dv
open PySem PySem.Spec PyProof.Rows L2
/-! ### members as data -/
def keyD : Key → D
  | .inl i => .int i
  | .inr x => .str x
def SK.d : SK → D
  | .k x => keyD x
  | .t xs => .tuple (xs.map keyD)
def toKey : D → Option Key
  | .int i => some (.inl i)
  | .str x => some (.inr x)
  | _ => none
def toKeys : List D → Option (List Key)
  | [] => some []
  | d :: ds => (toKey d).bind fun x => (toKeys ds).map fun xs => x :: xs
def toSK : D → Option SK
  | .int i => some (.k (.inl i))
  | .str x => some (.k (.inr x))
  | .tuple ds => (toKeys ds).map .t
  | _ => none
def toSKs : List D → Option (List SK)
  | [] => some []
  | d :: ds => (toSK d).bind fun x => (toSKs ds).map fun xs => x :: xs
theorem toKey_d {d : D} {x : Key} (h : toKey d = some x) : d = keyD x := by
  cases d <;> cases h <;> rfl
theorem toKeys_d : ∀ {ds : List D} {xs : List Key}, toKeys ds = some xs → ds = xs.map keyD
  | [], _, h => by cases h; rfl
  | d :: ds, xs, h => by
    obtain ⟨x, h1, h2⟩ := bind_some h
    obtain ⟨ys, h3, h4⟩ := map_some h2
    cases h4
    rw [List.map_cons, toKey_d h1, toKeys_d h3]
theorem toSK_d {d : D} {x : SK} (h : toSK d = some x) : d = x.d := by
  cases d with
  | tuple ds =>
    obtain ⟨xs, h1, h2⟩ := map_some h
    cases h2
    rw [toKeys_d h1]
    rfl
  | int i => cases h; rfl
  | str y => cases h; rfl
  | none => cases h
  | bool b => cases h
  | list ds => cases h
  | dict kvs => cases h
theorem toSKs_d : ∀ {ds : List D} {xs : List SK}, toSKs ds = some xs → ds = xs.map SK.d
  | [], _, h => by cases h; rfl
  | d :: ds, xs, h => by
    obtain ⟨x, h1, h2⟩ := bind_some h
    obtain ⟨ys, h3, h4⟩ := map_some h2
    cases h4
    rw [List.map_cons, toSK_d h1, toSKs_d h3]
theorem keyD_inj : ∀ {x y : Key}, keyD x = keyD y → x = y
  | .inl i, .inl j, h => by cases h; rfl
  | .inr i, .inr j, h => by cases h; rfl
  | .inl i, .inr j, h => by cases h
  | .inr i, .inl j, h => by cases h
theorem keysD_inj : ∀ {xs ys : List Key}, xs.map keyD = ys.map keyD → xs = ys
  | [], [], _ => rfl
  | x :: xs, y :: ys, h => by
    rw [List.map_cons, List.map_cons] at h
    obtain ⟨h1, h2⟩ := List.cons.inj h
    rw [keyD_inj h1, keysD_inj h2]
  | [], _ :: _, h => by cases h
  | _ :: _, [], h => by cases h
theorem SK.d_inj : ∀ {x y : SK}, x.d = y.d → x = y
  | .k x, .k y, h => congrArg SK.k (keyD_inj h)
  | .t xs, .t ys, h => by
    injection h with h
    rw [keysD_inj h]
  | .k (.inl _), .t _, h => by cases h
  | .k (.inr _), .t _, h => by cases h
  | .t _, .k (.inl _), h => by cases h
  | .t _, .k (.inr _), h => by cases h
/-! ### distinct ones, sorted -/
def ddS {α : Type} [DecidableEq α] : List α → List α
  | [] => []
  | x :: xs => if x ∈ xs then ddS xs else x :: ddS xs
theorem ddS_mem {α : Type} [DecidableEq α] {x : α} : ∀ {l : List α}, x ∈ ddS l ↔ x ∈ l
  | [] => Iff.rfl
  | y :: l => by
    unfold ddS
    split
    · rename_i h
      rw [ddS_mem (l := l), List.mem_cons]
      exact ⟨.inr, fun z => z.elim (fun e => by rw [e]; exact h) id⟩
    · rw [List.mem_cons, List.mem_cons, ddS_mem (l := l)]
theorem ddS_nodup {α : Type} [DecidableEq α] : ∀ l : List α, (ddS l).Nodup
  | [] => List.nodup_nil
  | y :: l => by
    unfold ddS
    split
    · exact ddS_nodup l
    · rename_i h
      exact List.nodup_cons.mpr ⟨fun z => h (ddS_mem.mp z), ddS_nodup l⟩
/-- the keys of the new list -/
def ssetK (ks : List SK) : List D := sortD ((ddS ks).map SK.d)
def setOk (xs : List D) (ks : List SK) : Bool := decide (xs.length < 64) && (ks.all (fun x => !x.tup) || ks.all SK.tup) && sortOk xs
def ssetD (xs : List D) : Option (List D) := (toSKs xs).bind fun ks => if setOk xs ks = true then some (ssetK ks) else none
def gSSet : List D → Option O
  | [.list xs] => (ssetD xs).map .lst
  | [.tuple xs] => (ssetD xs).map .lst
  | _ => none
def gLenSet : List D → Option O
  | [.list xs] => (toSKs xs).bind fun ks => if setOk xs ks = true then some (.val (.int (ddS ks).length)) else none
  | [.tuple xs] => (toSKs xs).bind fun ks => if setOk xs ks = true then some (.val (.int (ddS ks).length)) else none
  | _ => none
/-! ### the order of members is one -/
theorem nat_list_tri : ∀ {x y : List Nat}, ¬ x < y → ¬ y < x → x = y := fun {x y} h1 h2 => List.le_antisymm (List.not_lt.mp h2) (List.not_lt.mp h1)
theorem key_anti : ∀ {x y : Key}, PySem.W.alike (keyD x) (keyD y) = true → PySem.W.dataLt (keyD x) (keyD y) = false → PySem.W.dataLt (keyD y) (keyD x) = false → x = y
  | .inl i, .inl j, _, h1, h2 => by
    have h1' : PySem.W.dataLt (.int i) (.int j) = false := h1
    have h2' : PySem.W.dataLt (.int j) (.int i) = false := h2
    rw [PySem.W.dataLt_int, decide_eq_false_iff_not] at h1' h2'
    rw [show i = j by omega]
  | .inr x, .inr y, _, h1, h2 => by
    have h1' : PySem.W.dataLt (.str x) (.str y) = false := h1
    have h2' : PySem.W.dataLt (.str y) (.str x) = false := h2
    rw [PySem.W.dataLt_str, decide_eq_false_iff_not] at h1' h2'
    rw [PySem.W.str_of_cps (nat_list_tri h1' h2')]
  | .inl i, .inr y, h, _, _ => by cases (show PySem.W.alike (.int i) (.str y) = true from h)
  | .inr x, .inl j, h, _, _ => by cases (show PySem.W.alike (.str x) (.int j) = true from h)
theorem keys_anti : ∀ {xs ys : List Key}, PySem.W.alikeAll (xs.map keyD) (ys.map keyD) = true → PyProof.Rows.lexLt itemOrd (PySem.W.keyToksAll (xs.map keyD)) (PySem.W.keyToksAll (ys.map keyD)) = false → PyProof.Rows.lexLt itemOrd (PySem.W.keyToksAll (ys.map keyD)) (PySem.W.keyToksAll (xs.map keyD)) = false → xs = ys
  | [], [], _, _, _ => rfl
  | x :: xs, y :: ys, h, h1, h2 => by
    rw [List.map_cons, List.map_cons] at h h1 h2
    obtain ⟨a1, a2⟩ := PySem.W.alike_all_cons h
    have a3 : PySem.W.alike (keyD y) (keyD x) = true := by
      cases x <;> cases y <;> first | rfl | cases a1
    cases e : PyData.eqv (keyD x) (keyD y) with
    | true =>
      have exy : x = y := by
        cases x with
        | inl i =>
          cases y with
          | inl j =>
            have e' : PyData.eqv (.int i) (.int j) = true := e
            rw [PyData.eqv, beq_iff_eq] at e'
            rw [e']
          | inr y => cases a1
        | inr x =>
          cases y with
          | inl j => cases a1
          | inr y =>
            have e' : PyData.eqv (.str x) (.str y) = true := e
            rw [PyData.eqv, beq_iff_eq] at e'
            rw [e']
      subst exy
      rw [PySem.W.dataLt_all_yes a1 e] at h1 h2
      rw [keys_anti a2 h1 h2]
    | false =>
      have e2 : PyData.eqv (keyD y) (keyD x) = false := by
        cases e3 : PyData.eqv (keyD y) (keyD x) with
        | false => rfl
        | true =>
          rw [← e]
          cases x with
          | inl i =>
            cases y with
            | inl j =>
              have e' : PyData.eqv (.int j) (.int i) = true := e3
              rw [PyData.eqv, beq_iff_eq] at e'
              rw [e']
              show true = PyData.eqv (.int i) (.int i)
              rw [PyData.eqv, beq_self_eq_true]
            | inr y => cases a1
          | inr x =>
            cases y with
            | inl j => cases a1
            | inr y =>
              have e' : PyData.eqv (.str y) (.str x) = true := e3
              rw [PyData.eqv, beq_iff_eq] at e'
              rw [e']
              show true = PyData.eqv (.str x) (.str x)
              rw [PyData.eqv, beq_self_eq_true]
      rw [PySem.W.dataLt_all_no a1 e] at h1
      rw [PySem.W.dataLt_all_no a3 e2] at h2
      have exy := key_anti a1 h1 h2
      subst exy
      rw [PySem.W.eqv_refl_alike _ a1] at e
      cases e
  | [], y :: ys, _, h1, _ => by
    rw [List.map_cons, PySem.W.toks_all_cons] at h1
    exact absurd h1 (by rw [List.map_nil, PySem.W.keyToksAll]; exact Bool.noConfusion)
  | x :: xs, [], _, _, h2 => by
    rw [List.map_cons, PySem.W.toks_all_cons] at h2
    exact absurd h2 (by rw [List.map_nil, PySem.W.keyToksAll]; exact Bool.noConfusion)
theorem sk_anti : ∀ {x y : SK}, PySem.W.alike x.d y.d = true → dLe x.d y.d = true → dLe y.d x.d = true → x = y := by
  intro x y h h1 h2
  unfold dLe at h1 h2
  rw [Bool.not_eq_true'] at h1 h2
  cases x with
  | k x =>
    cases y with
    | k y => rw [key_anti h h2 h1]
    | t ys => cases x <;> cases h
  | t xs =>
    cases y with
    | k y => cases y <;> cases h
    | t ys =>
      have h' : PySem.W.alike (.tuple (xs.map keyD)) (.tuple (ys.map keyD)) = true := h
      have h1' : PySem.W.dataLt (.tuple (ys.map keyD)) (.tuple (xs.map keyD)) = false := h1
      have h2' : PySem.W.dataLt (.tuple (xs.map keyD)) (.tuple (ys.map keyD)) = false := h2
      rw [PySem.W.dataLt_tuple] at h1' h2'
      rw [PySem.W.alike] at h'
      rw [keys_anti h' h2' h1']
theorem isort_perm {α : Type} (le : α → α → Bool) (l : List α) (h : PySem.W.TotalLe le) : (isort le l).Perm l := by
  rw [isort_merge h]
  exact List.mergeSort_perm l le
/-- one list of distinct members, however it came -/
theorem sset_one {ks : List SK} {L : List SK} (al : ∀ x ∈ ks, ∀ y ∈ ks, PySem.W.alike x.d y.d = true) (nd : L.Nodup) (hm : ∀ x, x ∈ L ↔ x ∈ ks) : sortD (L.map SK.d) = ssetK ks := by
  unfold ssetK
  have pm : L.Perm (ddS ks) := (List.perm_ext_iff_of_nodup nd (ddS_nodup ks)).mpr fun x => (hm x).trans ddS_mem.symm
  refine List.Perm.eq_of_pairwise (le := fun a b => dLe a b = true) (fun a b ha hb h1 h2 => ?_) (isort_pw dLe_total _) (isort_pw dLe_total _) (((isort_perm dLe _ dLe_total).trans (pm.map SK.d)).trans (isort_perm dLe _ dLe_total).symm)
  obtain ⟨x, hx, rfl⟩ := List.mem_map.mp (isort_mem.mp ha)
  obtain ⟨y, hy, rfl⟩ := List.mem_map.mp (isort_mem.mp hb)
  rw [sk_anti (al x ((hm x).mp hx) y (ddS_mem.mp hy)) h1 h2]
end Dv

/-! sorted(set(e)), len(set(e)). -/
namespace Dv
open PySem PySem.Spec PyProof.Rows L2
variable {np : Nat}
def O.toList : O → List D
  | .lst xs => xs
  | _ => []
section
variable {X : Cx} {pins : List (Addr × Obj)} {σ : L2.St} {H F : Hp} {s : Shared}
theorem key_of {K : PySem.W.Frag} {v : V} {u : Value} {d : D} {x : Key} (t : Tr K F v d) (e : toKey d = some x) (r : RelV v u) : keyIs x u = true := by
  cases d with
  | int i =>
    cases e
    cases t
    obtain ⟨tk, rfl⟩ := r
    show (i == i) = true
    exact beq_self_eq_true i
  | str y =>
    cases e
    cases t
    obtain ⟨tk, rfl⟩ := r
    show Value.isStrOf y (.str y tk) = true
    simp [Value.isStrOf]
  | none => cases e
  | bool b => cases e
  | list ds => cases e
  | tuple ds => cases e
  | dict kvs => cases e
theorem keys_of {K : PySem.W.Frag} {P : Program} {w : World} : ∀ {vs : List V} {us : List Value} {ds : List D} {xs : List Key}, TrAll K F vs ds → toKeys ds = some xs → Vals vs us → ItemsAre (mixKind P w) xs us
  | _, _, _, _, .nil, e, .nil => by
    cases e
    exact .nil
  | _, _, d :: ds, xs, .cons t ts, e, .cons r rs => by
    obtain ⟨x, h1, h2⟩ := bind_some e
    obtain ⟨ys, h3, h4⟩ := map_some h2
    cases h4
    exact .cons (key_of t h1 r) (keys_of ts h3 rs)
theorem sk_of (I : Inv X pins σ H s) (sF : Same F H) {v : V} {u : Value} {d : D} {x : SK} (t : Tr X.K F v d) (e : toSK d = some x) (r : RelV v u) : x.sd X.prog X.w s.heap u := by
  cases d with
  | int i =>
    cases e
    exact key_of (x := .inl i) t rfl r
  | str y =>
    cases e
    exact key_of (x := .inr y) t rfl r
  | tuple ds =>
    obtain ⟨xs, h1, h2⟩ := map_some e
    cases h2
    cases t with
    | @tup a vs _ g1 g2 =>
      cases r
      obtain ⟨its, rv, ⟨o, ho, hc, n, hd⟩, _⟩ := I.tuple (same_tup sF g1)
      exact ⟨a, rfl, o, its.toArray, n, ho, hc, hd, keys_of g2 h1 rv⟩
  | none => cases e
  | bool b => cases e
  | list ds => cases e
  | dict kvs => cases e
/-- the items with their members -/
theorem members (I : Inv X pins σ H s) (sF : Same F H) : ∀ {vs : List V} {us : List Value} {ds : List D} {xs : List SK}, TrAll X.K F vs ds → toSKs ds = some xs → Vals vs us →
    ∃ ks : List (Value × SK), us = ks.map (·.1) ∧ xs = ks.map (·.2) ∧ ∀ p ∈ ks, p.2.sd X.prog X.w s.heap p.1 ∧ ∃ v, RelV v p.1 ∧ Tr X.K F v p.2.d
  | _, _, _, _, .nil, e, .nil => by
    cases e
    exact ⟨[], rfl, rfl, fun p hp => nomatch hp⟩
  | v :: vs, u :: us, d :: ds, xs, .cons t ts, e, .cons r rs => by
    obtain ⟨x, h1, h2⟩ := bind_some e
    obtain ⟨ys, h3, h4⟩ := map_some h2
    cases h4
    obtain ⟨ks, e1, e2, e3⟩ := members I sF ts h3 rs
    refine ⟨(u, x) :: ks, by rw [e1, List.map_cons], by rw [e2, List.map_cons], fun p hp => ?_⟩
    rcases List.mem_cons.mp hp with z | z
    · subst z
      exact ⟨sk_of I sF t h1 r, v, r, by rw [← toSK_d h1]; exact t⟩
    · exact e3 p z
end
section
variable {P : Program} {w : World} {A : Around} {E : Value → Shared → Prop} {s : Shared}
/-- list.sort of the list at a, whose items read as ds while it is sorted -/
theorem sort_here {a : Addr} {n : Nat} {vs : List Value} {ds : List D} {R : Value → D → Prop} {Q : Value → Shared → Prop} (ho : s.heap.get? a = some (seqObj "list" vs.toArray n)) (e : PySem.W.EachIs R vs ds) (er : PySem.W.EachIs (fun u d => ∃ as, Reads (PySem.W.sortingHeap s.heap a vs) u d as) vs ds)
    (al : PySem.W.AllAlike ds) (so : PySem.W.Sortable ds) (hl : ds.length ≤ sizeLine) (hu : ∀ d ∈ ds, A.units + 1 + d.depth < cLine) (h : ∀ out : List Value, PySem.W.EachIs R out (sortD ds) → Q .none { s with heap := sortedHeap s.heap a vs out.toArray }) :
    wpAny (model P w) A (call (.builtin "list.sort") [.ref a]) Q E s := by
  have em : ds.map (fun d => d) = ds := List.map_id' ds
  refine PySem.wpAny_call_entry slot_list_sort ⟨_, ho, rfl⟩ entry_list_sort (PySem.W.list_sort_vals (κ := PySem.W.dataKind (PySem.W.sortingHeap s.heap a vs) ds) ho (PySem.W.SortsAt.data (s := { s with heap := PySem.W.sortingHeap s.heap a vs }) er al so fun d hd => hu d hd) (by rw [e.length]; exact hl) ⟨.none, rfl, ?_⟩) (args_list_sort _)
  refine h _ ?_
  have q := PySem.W.sortVals_data (h' := PySem.W.sortingHeap s.heap a vs) (enc := fun d : D => d) false e er (by rw [em]; exact al)
  rw [em, ← dLe_eq, ← isort_merge dLe_total] at q
  exact q
end
section
variable {X : Cx} {a : Expr} {p p2 q pos : Pos}
/-- sorted of a set just made -/
theorem sorted_new {pins : List (Addr × Obj)} {σ : L2.St} {H F : Hp} {s : Shared} {m : Bool} {S : Addr} {L : List (Value × SK)} {Q : VK} (I : Inv X pins σ H s) (sF : Same F H) (hc : X.calm = true) (hu : X.A.units + 100 < cLine) (g : GSet X.prog X.w s.heap S m L) (tr : ∀ p ∈ L, ∃ v, RelV v p.1 ∧ Tr X.K F v p.2.d)
    (al : PySem.W.AllAlike (L.map fun p => p.2.d)) (so : PySem.W.Sortable (L.map fun p => p.2.d)) (dp : ∀ p ∈ L, p.2.d.depth ≤ 64) (one : ∀ L1 : List (Value × SK), L1.Perm L → sortD (L1.map fun p => p.2.d) = sortD (L.map fun p => p.2.d))
    (q : ∀ pl vs, H pl = none → TrAll X.K F vs (sortD (L.map fun p => p.2.d)) → Q (.ref pl) (upd H pl (.lst vs))) :
    wpAny (model X.prog X.w) X.A (call (.builtin "sorted") [.ref S]) (EP X pins σ Q) X.xe s := by
  obtain ⟨o, es, ep, t, ho, hex, hd, T⟩ := g.ex
  have few := g.few
  have hsz := T.size
  refine Calls.call_function_entry kind_sorted plain_sorted entry_sorted (args_sorted1 _) ?_
  unfold Builtin.«sorted»
  refine wpAny_bind (m := checkCount "sorted" 1 1 _) (wpAny_pure ?_)
  refine wpAny_bind (collect_set (A := X.A.in1) (I.ok.hd hc) ⟨o, ho, hex.1, hd⟩ T.fit (few_scan (by omega)) T.ris T.led fun s1 vs k1 hz g1 o1 pm => ?_)
  rw [T.rows, List.map_map] at pm
  obtain ⟨L1, e1, p1⟩ := perm_lift (f := fun p : Value × SK => p.1) pm (L0 := L) rfl
  have hl1 : L1.length < 64 := by rw [p1.length_eq]; exact few
  have hvl : vs.length = L1.length := by rw [e1, List.length_map]
  refine wpAny_bind (wpAny_newList ?_ (by rw [sizeLine_eq]; omega))
  have hoL : (s1.heap.push (seqObj "list" vs.toArray 0)).get? s1.heap.objs.size = some (seqObj "list" vs.toArray 0) := Heap.get?_push_size _ rfl
  have ea : ∀ M : List (Value × SK), (∀ p ∈ M, p ∈ L) → PySem.W.EachIs (fun u d => ∃ v, RelV v u ∧ Tr X.K F v d) (M.map (·.1)) (M.map fun p => p.2.d) := by
    intro M
    induction M with
    | nil => exact fun _ => .nil
    | cons p M ih => exact fun hM => .cons (tr p (hM p List.mem_cons_self)) (ih fun r hr => hM r (List.mem_cons_of_mem _ hr))
  have e2 : PySem.W.EachIs (fun u d => ∃ v, RelV v u ∧ Tr X.K F v d) vs (L1.map fun p => p.2.d) := by
    rw [e1]
    exact ea L1 fun r hr => p1.mem_iff.mp hr
  have pmd : (L1.map fun p => p.2.d).Perm (L.map fun p => p.2.d) := p1.map _
  refine wpAny_bind (wpAny_holding (sort_here (s := { s1 with heap := s1.heap.push (seqObj "list" vs.toArray 0) }) hoL e2 ?_ ?_ ?_ ?_ ?_ fun out eo => ?_))
  · refine (each_reads I sF e2).mono fun u d ⟨as, r⟩ => ⟨as, PyProof.Rows.Reads.keeps (fun b ob eb => ?_) r⟩
    exact PySem.W.sortingHeap_old (Nat.ne_of_lt (Heap.lt_size (k1 b ob eb))) (Heap.get?_push_of_some _ (k1 b ob eb))
  · exact fun d hd e he => al d (pmd.mem_iff.mp hd) e (pmd.mem_iff.mp he)
  · exact so.imp (fun h d hd => h d (pmd.mem_iff.mp hd)) fun h d hd => h d (pmd.mem_iff.mp hd)
  · rw [List.length_map, sizeLine_eq]
    omega
  · intro d hd
    obtain ⟨r, hr, rfl⟩ := List.mem_map.mp hd
    have := dp r (p1.mem_iff.mp hr)
    have h1 : X.A.in1.units ≤ X.A.units + 1 := by first | exact Nat.le_refl _ | exact Nat.le_succ _ | simp
    show X.A.in1.units + 1 + r.2.d.depth < cLine
    omega
  · rw [one L1 p1] at eo
    obtain ⟨ws, r2, t2⟩ := each_vals eo
    obtain ⟨c, hcc⟩ := sortedHeap_at (vs := vs) (out := out.toArray) hoL
    have k2 : ∀ b u, s.heap.get? b = some u → (sortedHeap (s1.heap.push (seqObj "list" vs.toArray 0)) s1.heap.objs.size vs out.toArray).get? b = some u := fun b u eb => by
      have hlt := Heap.lt_size (k1 b u eb)
      rw [sortedHeap_old (Nat.ne_of_lt hlt) (by rw [size_push']; exact Nat.lt_succ_of_lt hlt)]
      exact Heap.get?_push_of_some _ (k1 b u eb)
    have hn : H s1.heap.objs.size = none := I.hok.fresh hz
    have hlen : ws.length ≤ sizeLine := by
      rw [da_length t2]
      unfold sortD
      rw [isort_len, List.length_map, sizeLine_eq]
      omega
    have J : Inv X pins σ (upd H s1.heap.objs.size (.lst ws)) { s1 with heap := sortedHeap (s1.heap.push (seqObj "list" vs.toArray 0)) s1.heap.objs.size vs out.toArray } :=
      I.call' (ch := []) o1 (Un.laid k2 hz hn) (I.hok.laid k2 hz ⟨hlen, out, c, r2, hcc⟩) (by rw [show ({ s1 with heap := sortedHeap (s1.heap.push (seqObj "list" vs.toArray 0)) s1.heap.objs.size vs out.toArray } : Shared).gens = s.gens from g1]; exact I.bare) (fun _ z => nomatch z)
    exact wpAny_pure ⟨_, rfl, .ref s1.heap.objs.size, _, J, rfl, q _ ws hn t2⟩

/-- the set of a list or a tuple -/
theorem set_new {pins : List (Addr × Obj)} {σ : L2.St} {H F : Hp} {s : Shared} {v : V} {u : Value} {d : D} {xs : List D} {ks : List SK} {Q : Value → Shared → Prop} {E : Value → Shared → Prop} (I : Inv X pins σ H s) (sF : Same F H) (hc : X.calm = true) (hu : X.A.units + 100 < cLine) (l : Lnt X.K F H v d) (hd : d = .list xs ∨ d = .tuple xs) (r : RelV v u) (hk : toSKs xs = some ks) (ok : setOk xs ks = true)
    (q : ∀ (s' : Shared) (m : Bool) (S : Addr) (L : List (Value × SK)), Inv X pins σ H s' → GSet X.prog X.w s'.heap S m L → (∀ p ∈ L, ∃ v, RelV v p.1 ∧ Tr X.K F v p.2.d) → (∀ x, x ∈ L.map (·.2) ↔ x ∈ ks) → Q (.ref S) s') :
    wpAny (model X.prog X.w) X.A (call (.type "set") [u]) Q E s := by
  unfold setOk at ok
  rw [Bool.and_eq_true, Bool.and_eq_true, decide_eq_true_eq, Bool.or_eq_true] at ok
  obtain ⟨⟨few, md⟩, _⟩ := ok
  have mode : ∃ m, ∀ x ∈ ks, x.tup = m := by
    rcases md with h | h
    · refine ⟨false, fun x hx => ?_⟩
      have e := List.all_eq_true.mp h x hx
      rwa [Bool.not_eq_true'] at e
    · exact ⟨true, fun x hx => List.all_eq_true.mp h x hx⟩
  obtain ⟨m, hm⟩ := mode
  have fin : ∀ {vs : List V} {its : List Value}, TrAll X.K F vs xs → Vals vs its → ∃ zs : List (Value × SK), its = zs.map (·.1) ∧ ks = zs.map (·.2) ∧ (∀ p ∈ zs, p.2.sd X.prog X.w s.heap p.1) ∧ (∀ p ∈ zs, p.2.tup = m) ∧ zs.length < 64 ∧
      ∀ (h' : Heap) (tk : Nat) (L : List (Value × SK)), GSet X.prog X.w h' s.heap.objs.size m L → Brought zs zs.length L → (∀ b o, s.heap.get? b = some o → h'.get? b = some o) → Q (.ref s.heap.objs.size) { s with heap := h', toks := tk } := fun {vs its} t rv => by
    obtain ⟨zs, e1, e2, e3⟩ := members I sF t hk rv
    refine ⟨zs, e1, e2, fun p hp => (e3 p hp).1, fun p hp => hm p.2 (by rw [e2]; exact List.mem_map.mpr ⟨p, hp, rfl⟩), ?_, fun h' tk L g br kp => q _ m _ L (I.kept kp) g (fun p hp => (e3 p (List.mem_of_mem_take (br.sub p hp))).2) fun x => ?_⟩
    · have h1 := congrArg List.length e1
      rw [List.length_map, ← rv.length, da_length t] at h1
      omega
    · rw [e2]
      constructor
      · intro hx
        obtain ⟨p, hp, rfl⟩ := List.mem_map.mp hx
        exact List.mem_map.mpr ⟨p, List.mem_of_mem_take (br.sub p hp), rfl⟩
      · intro hx
        obtain ⟨p, hp, rfl⟩ := List.mem_map.mp hx
        exact br.all p (by rw [List.take_length]; exact hp)
  rcases hd with rfl | rfl
  · obtain ⟨a, ws, rfl, h1, t1⟩ := lnt_list sF l
    cases r
    obtain ⟨z, its, n, r1, hl, o1⟩ := rd_list I h1
    obtain ⟨zs, e1, _, e3, e4, e5, e6⟩ := fin t1 r1
    exact set_of_list m zs (I.ok.hd hc) ⟨_, o1, rfl, n, rfl⟩ (by simpa using e1) e3 e4 e5 (by omega) e6
  · rcases l with l | ⟨a, ws, ds, _, e, _⟩
    · cases l with
      | @tup a ws _ g1 g2 =>
        cases r
        obtain ⟨its, rv, hT, _⟩ := I.tuple (same_tup sF g1)
        obtain ⟨zs, e1, _, e3, e4, e5, e6⟩ := fin g2 rv
        exact set_of_tuple m zs (I.ok.hd hc) (show s.heap.IsTuple a its.toArray from hT) (by simpa using e1) e3 e4 e5 (by omega) e6
    · cases e
theorem sset_parts {xs : List D} {ks : List SK} (hk : toSKs xs = some ks) (ok : setOk xs ks = true) : PySem.W.AllAlike xs ∧ PySem.W.Sortable xs ∧ (∀ d ∈ xs, d.depth ≤ 64) ∧ ∀ {L : List SK}, (∀ x, x ∈ L ↔ x ∈ ks) → ∀ d, d ∈ L.map SK.d → d ∈ xs := by
  unfold setOk at ok
  rw [Bool.and_eq_true] at ok
  obtain ⟨al, so, dp⟩ := sortOk_is ok.2
  refine ⟨al, so, dp, fun {L} hL d hd => ?_⟩
  obtain ⟨x, hx, rfl⟩ := List.mem_map.mp hd
  rw [toSKs_d hk]
  exact List.mem_map.mpr ⟨x, (hL x).mp hx, rfl⟩
/-- the operand of the inner call -/
theorem set_arg {m : MR} {g : List D → Option O} {σ : L2.St} {H : Hp} {Q : VK} (h : tO np X.K (mOp g [m]) σ H Q) (hg : ∀ ds o, g ds = some o → ∃ d xs, ds = [d] ∧ (d = .list xs ∨ d = .tuple xs)) : tR np X.K m σ H fun v H1 => ∃ F1 G s1 ps1 d xs o, Rel np X.K F1 G s1 σ H1 ps1 ∧ Lnt X.K F1 H1 v d ∧ (d = .list xs ∨ d = .tuple xs) ∧ g [d] = some o ∧
    ∀ v H' F' ps' as, Rel np X.K F' G s1 σ H' ps' → Same F1 F' → Own X.K F' H' v o as → as.Nodup → (∀ a ∈ as, F' a = none ∧ G.h a = none ∧ a ∉ ps'.flatten) → Q v H' := by
  obtain ⟨F, G, s, ps, R, o, s', hm, q⟩ := h
  obtain ⟨⟨rs, s1⟩, h1, h2⟩ := bind_some hm
  obtain ⟨ds, h3, h4⟩ := bind_some h2
  obtain ⟨o', h5, h6⟩ := map_some h4
  cases h6
  obtain ⟨⟨r, s2⟩, e1, e2⟩ := bind_some h1
  obtain ⟨⟨rs', s3⟩, e3, e4⟩ := map_some e2
  cases e3
  cases e4
  obtain ⟨d, xs, rfl, hd⟩ := hg _ _ h5
  obtain ⟨d', k1, k2⟩ := bind_some h3
  obtain ⟨ds', k3, k4⟩ := map_some k2
  cases k3
  cases k4
  exact ⟨F, G, s, ps, R, r, s2, e1, fun v H1 F1 ps1 R1 s01 hv => ⟨F1, G, s2, ps1, d, xs, o, R1, look_lnt R1 hv k1, hd, h5, fun v' H' F' ps' as R' sF own nd new => q v' H' F' ps' as R' (s01.trans sF) own nd new⟩⟩
theorem e_sset {m : MR} (hc : X.calm = true) (hu : X.A.units + 100 < cLine) (hg : Gl X "sorted") (hm : X.mg "sorted" = none) (hg2 : Gl X "set") (hm2 : X.mg "set" = none) (ha : PE X a (tR np X.K m))
    (na : starEach [a] X.env = (false, eval a X.env) :: starEach [] X.env := by rfl) : PE X (.Call (.Name "sorted" p) [.Call (.Name "set" p2) [a] [] q] [] pos) (tO np X.K (mOp gSSet [m])) := by
  refine ⟨fun pins s σ H Q I h => ?_⟩
  have ht := set_arg h fun ds o e => by
    unfold gSSet at e
    split at e
    · exact ⟨_, _, rfl, .inl rfl⟩
    · exact ⟨_, _, rfl, .inr rfl⟩
    · cases e
  refine Call_ (ld_blt I hg hm PyProof.Rows.boot_sorted ?_)
  refine PyProof.Rows.callWith_builtin1 (PyProof.Rows.args_cons ?_ rfl) rfl rfl
  refine Call_ (ld_blt I hg2 hm2 PyProof.Rows.boot_set ?_)
  refine PyProof.Rows.callWith_type1 (PyProof.Rows.args_cons (thn (ha.run pins s σ H _ I ht) fun u s1 ⟨v, H1, I1, r1, F1, G, s2, ps1, d, xs, o, R1, l, hd, ho, q1⟩ => PyProof.Rows.args_nil ?_) na) na rfl
  have ho' : ssetD xs = some o.toList ∧ o = .lst o.toList := by
    rcases hd with rfl | rfl
    · obtain ⟨ys, e1, e2⟩ := map_some (show (ssetD xs).map O.lst = some o from ho)
      subst e2
      exact ⟨e1, rfl⟩
    · obtain ⟨ys, e1, e2⟩ := map_some (show (ssetD xs).map O.lst = some o from ho)
      subst e2
      exact ⟨e1, rfl⟩
  obtain ⟨e1, e2⟩ := ho'
  obtain ⟨ks, hk, e3⟩ := bind_some e1
  obtain ⟨ok, e4⟩ := if_some e3
  refine set_new I1 R1.sF hc hu l hd r1 hk ok fun s' mm S L I2 g tr hL => PyProof.Rows.args_nil ?_
  obtain ⟨al, so, dp, sub⟩ := sset_parts hk ok
  have hLs : ∀ d, d ∈ L.map (fun p => p.2.d) → d ∈ xs := fun d hd => sub hL d (by rwa [List.map_map])
  have alk : ∀ x ∈ ks, ∀ y ∈ ks, PySem.W.alike x.d y.d = true := fun x hx y hy => al _ (by rw [toSKs_d hk]; exact List.mem_map.mpr ⟨x, hx, rfl⟩) _ (by rw [toSKs_d hk]; exact List.mem_map.mpr ⟨y, hy, rfl⟩)
  have one : ∀ L1 : List (Value × SK), L1.Perm L → sortD (L1.map fun p => p.2.d) = ssetK ks := fun L1 p1 => by
    have e := sset_one (L := L1.map (·.2)) alk ((p1.map (·.2)).nodup_iff.mpr g.nd) fun x => (p1.map (·.2)).mem_iff.trans (hL x)
    rwa [List.map_map] at e
  refine sorted_new I2 R1.sF hc hu g tr (fun d hd e he => al d (hLs d hd) e (hLs e he)) (so.imp (fun h d hd => h d (hLs d hd)) fun h d hd => h d (hLs d hd)) (fun p hp => dp _ (hLs _ (List.mem_map.mpr ⟨p, hp, rfl⟩))) (fun L1 p1 => (one L1 p1).trans (one L (.refl L)).symm) fun pl vs hn t => ?_
  rw [one L (.refl L), e4] at t
  obtain ⟨R2, n1, n2, n3⟩ := R1.new (o := .lst vs) hn
  rw [e2] at q1
  refine q1 (.ref pl) _ F1 ps1 [pl] R2 (Same.refl F1) ⟨pl, vs, rfl, upd_same, t, rfl⟩ (by simp) fun b hb => ?_
  rw [List.mem_singleton.mp hb]
  exact ⟨n1, n2, n3⟩
theorem e_lenset {m : MR} (hc : X.calm = true) (hu : X.A.units + 100 < cLine) (hg : Gl X "len") (hm : X.mg "len" = none) (hg2 : Gl X "set") (hm2 : X.mg "set" = none) (ha : PE X a (tR np X.K m))
    (na : starEach [a] X.env = (false, eval a X.env) :: starEach [] X.env := by rfl) : PE X (.Call (.Name "len" p) [.Call (.Name "set" p2) [a] [] q] [] pos) (tO np X.K (mOp gLenSet [m])) := by
  refine ⟨fun pins s σ H Q I h => ?_⟩
  have ht := set_arg h fun ds o e => by
    unfold gLenSet at e
    split at e
    · exact ⟨_, _, rfl, .inl rfl⟩
    · exact ⟨_, _, rfl, .inr rfl⟩
    · cases e
  refine Call_ (ld_blt I hg hm PySem.boot_len ?_)
  refine PyProof.Rows.callWith_builtin1 (PyProof.Rows.args_cons ?_ rfl) rfl rfl
  refine Call_ (ld_blt I hg2 hm2 PyProof.Rows.boot_set ?_)
  refine PyProof.Rows.callWith_type1 (PyProof.Rows.args_cons (thn (ha.run pins s σ H _ I ht) fun u s1 ⟨v, H1, I1, r1, F1, G, s2, ps1, d, xs, o, R1, l, hd, ho, q1⟩ => PyProof.Rows.args_nil ?_) na) na rfl
  have ho' : ((toSKs xs).bind fun ks => if setOk xs ks = true then some (O.val (.int (ddS ks).length)) else none) = some o := by
    rcases hd with rfl | rfl <;> exact ho
  obtain ⟨ks, hk, e3⟩ := bind_some ho'
  obtain ⟨ok, e4⟩ := if_some e3
  subst e4
  refine set_new I1 R1.sF hc hu l hd r1 hk ok fun s' mm S L I2 g tr hL => PyProof.Rows.args_nil ?_
  obtain ⟨ob, es, ep, t, hob, hex, hdat, T⟩ := g.ex
  have few := g.few
  have hsz := T.size
  have hln : L.length = (ddS ks).length := by
    have pm : (L.map (·.2)).Perm (ddS ks) := (List.perm_ext_iff_of_nodup g.nd (ddS_nodup ks)).mpr fun x => (hL x).trans ddS_mem.symm
    rw [← pm.length_eq, List.length_map]
  refine call_len_set hob hex hdat T.fit (by omega) ⟨.int (ddS ks).length, H1, I2.tok _, ⟨_, by rw [hsz, hln]⟩, q1 _ H1 F1 ps1 [] R1 (Same.refl F1) ⟨.int _, rfl⟩ List.nodup_nil fun b hb => nomatch hb⟩
end
end Dv

/-! Small words for the printed texts. -/
namespace Dv
open PySem PySem.Spec PyProof.Rows L2
theorem room_u {k : Nat} {A : Around} (hr : Room k A) : A.units + 100 < cLine := by
  have := hr.un
  omega
theorem fn_none {P : Program} {w : World} {K : PySem.W.Frag} {mg : Str → Option Value} {base : Heap} {k : Nat} {f : Addr} {fd : FuncData} {ps : List Str} : FnOk P w K mg base CX0 k f fd ps (spOf K fun _ => none) :=
  ⟨(fun vs H Q E ⟨_, _, _, _, _, _, _, _, _, _, _, _, h, _⟩ => nomatch h), (fun A outer s H args us vs Q E _ _ _ _ ⟨_, _, _, _, _, _, _, _, _, _, _, _, h, _⟩ => nomatch h)⟩
theorem le_line {n : Nat} (h : Nat.ble n 1000 = true) : n ≤ sizeLine := by
  have := Nat.le_of_ble_eq_true h
  rw [sizeLine_eq]
  omega
/-- a or b, what is own stays own -/
def oOr (a b : MO) : MO := fun s => (a s).bind fun p => (truthD p.1.toD).bind fun k => if k = true then some p else b p.2
theorem own_lnt {K : PySem.W.Frag} {F H : Hp} {v : V} {o : O} {as : List Addr} (h : Own K F H v o as) : Lnt K F H v o.toD := by
  cases o with
  | val d => exact .inl h.1
  | lst ds =>
    obtain ⟨a, vs, rfl, e, t, _⟩ := h
    exact .inr ⟨a, vs, ds, rfl, rfl, e, t⟩
theorem e_oro {np : Nat} {X : Cx} {a b : Expr} {rest : List Expr} {pos : Pos} {m n : MO} (h : PE X a (tO np X.K m)) (h' : PE X (.BoolOp .Or (b :: rest) pos) (tO np X.K n)) : PE X (.BoolOp .Or (a :: b :: rest) pos) (tO np X.K (oOr m n)) :=
  pe_imp (pe_orT h h') fun σ H Q ⟨F, G, s, ps, R, d, s', hm, q⟩ => by
    obtain ⟨⟨o1, s1⟩, h1, h2⟩ := bind_some hm
    obtain ⟨k, h3, h4⟩ := bind_some h2
    refine ⟨F, G, s, ps, R, o1, s1, h1, fun v H1 F1 ps1 as R1 s01 own nd new => ⟨k, truV_is R1.sF (own_lnt own) h3, ?_⟩⟩
    cases k with
    | false =>
      rw [if_neg Bool.false_ne_true]
      exact ⟨F1, G, s1, ps1, R1, d, s', by rw [if_neg Bool.false_ne_true] at h4; exact h4, fun w' H2 F2 ps2 as2 R2 s12 hw n2 nw2 => q w' H2 F2 ps2 as2 R2 (s01.trans s12) hw n2 nw2⟩
    | true =>
      rw [if_pos rfl]
      rw [if_pos rfl] at h4
      cases h4
      exact q v H1 F1 ps1 as R1 s01 own nd new
theorem e_ono {np : Nat} {X : Cx} {a : Expr} {op : BoolOp} {pos : Pos} {m : MO} (h : PE X a (tO np X.K m)) : PE X (.BoolOp op [a] pos) (tO np X.K m) := pe_one h
end Dv

/-! The law's end. -/
namespace Dv
open PySem PySem.Spec PyProof.Rows L2
theorem ints_tr {K : PySem.W.Frag} {F : Hp} : ∀ ns : List Int, TrAll K F (ns.map V.int) (ns.map PyData.int)
  | [] => .nil
  | n :: ns => .cons (.int n) (ints_tr ns)
/-- what is asked of the law's def -/
theorem sp_law {K : PySem.W.Frag} {f : FD} {H : Hp} {a : Addr} {ns : List Int} {E : XK} (hS : LsK K H a (ns.map V.int)) (hf : ∃ outs, f [.val (.list (ns.map PyData.int))] = some (.val (.bool true), outs)) : spOf K f [.ref a] H (fun v _ => v = .bl true) E := by
  obtain ⟨outs, hf⟩ := hf
  refine ⟨H, fun _ => none, [.val (.list (ns.map PyData.int))], [[]], Same.refl H, (fun b u e => nomatch e), (fun b u e => nomatch e), ⟨⟨.lst hS (ints_tr ns), rfl⟩, trivial⟩, List.nodup_nil, (fun b hb => nomatch hb), .val (.bool true), outs, hf, fun v H' F' as ass' _ _ _ _ own _ _ _ => ?_⟩
  obtain ⟨t, _⟩ := own
  cases t
  rfl
/-- as walk_of, the script told by its object -/
theorem walk_ofX {l : PySem.W.OpenLaw} {n k : Nat} {q : Program} {loose : List Str} {XP : (Str → Option Value) → Heap → Prop} {YP : World → Heap → Prop} {d : DefRec} {K : Params → PySem.W.Frag} {sp : World → Sp} {x : Str} (hn : l.most = some n) (hn2 : n ≤ sizeLine) (hdf : d.params.defaults = []) (hr : Room k callerA)
    (hY : ∀ (w : World) (h : Heap), YP w h → (K w.params).In h)
    (F : ∀ (w : World) (mg : Str → Option Value) (fa : Addr) (h : Heap), (K w.params).In h → h.Ns mainGlobals mg → mg d.name = some (.ref fa) → ∃ fd : FuncData, (∀ (s : Shared) (u : Value), BindsTo s fd ⟨[u], []⟩ [(x, u)]) ∧ ∀ base : Heap, (K w.params).In base → base.Ns mainGlobals mg → FnOk l.prog w (K w.params) mg base CX0 k fa fd [x] (sp w))
    (hsp : ∀ (w : World) (H : Hp) (a : Addr) (ns : List Int), ns.length ≤ n → (∀ z ∈ ns, Builtin.Int.intBits z ≤ 1048576) → LsK (K w.params) H a (ns.map V.int) → sp w [.ref a] H (fun v _ => v = .bl true) fun _ _ _ => False) :
    PySem.W.WalkO q loose XP YP l.row.toRowW d [] (fun f vs => PySem.call f vs) := by
  refine Att.attach_callB hn hdf fun w s0 s1 mg mb fa o pm cd doc a vs ns G Y ho hd hcd hmg hobj hints hlen hbits hg => ?_
  have KX := hY w _ Y
  obtain ⟨fd, hb, hF⟩ := F w mg fa _ KX G.T.g hmg
  refine law_call KX G.T.g G.T.b G.T.builtins G.T.nolimit hg hobj hints (Nat.le_trans hlen hn2) hr hF hb (fun H _ hS => hsp w H a ns hlen hbits ?_) fun H e s' h => h
  rcases hS with h | ⟨u, its, m, e, _, _, _, h5, h6⟩
  · exact .inl h
  · have e2 := KX _ _ e
    rw [hobj] at e2
    cases e2
    cases (show Data.seq vs.toArray 0 = Data.seq its m by assumption)
    exact .inr ⟨vs.toArray, 0, e, h5, h6⟩
end Dv

/-! Calls by keywords in any order. -/
namespace Dv
open PySem PySem.Spec PyProof.Rows L2
variable {np : Nat}
def pick {α : Type} (xs : List α) : List Nat → Option (List α)
  | [] => some []
  | i :: is => (xs[i]?).bind fun x => (pick xs is).map fun ys => x :: ys
def callM (f : FD) (as : List Arg) (s : S) : Option (O × S) := (conts s as).bind fun cs => if (ownRefs s as).Nodup then (f cs).bind fun r => (setRefs as r.2 (dropRefs as s)).map fun s' => (r.1, s') else none
/-- f(k = v, ..): is: for each parameter the place of its keyword -/
def mCallP (f : FD) (is : List Nat) (ms : List MArg) : MO := fun s => (evA ms s).bind fun p => (pick p.1 is).bind fun as => callM f as p.2
theorem argAll_at {K : PySem.W.Frag} {F H : Hp} {σ : L2.St} : ∀ {vs : List V} {args : List Arg} {ass : List (List Addr)} {i : Nat} {a : Arg}, ArgAll K F H σ vs args ass → args[i]? = some a → ∃ v as, vs[i]? = some v ∧ ass[i]? = some as ∧ ArgAt K F H σ v a as
  | v :: vs, a :: args, as :: ass, 0, a', h, e => by
    cases e
    exact ⟨v, as, rfl, rfl, h.1⟩
  | v :: vs, a :: args, as :: ass, i + 1, a', h, e => by
    obtain ⟨v', as', h1, h2, h3⟩ := argAll_at (i := i) (a := a') h.2 (by simpa using e)
    exact ⟨v', as', by simpa using h1, by simpa using h2, h3⟩
  | [], [], _, _, _, _, e => by simp at e
  | [], _ :: _, _, _, _, h, _ => h.elim
  | _ :: _, [], _, _, _, h, _ => h.elim
  | _ :: _, _ :: _, [], _, _, h, _ => h.elim
theorem pick_mem {α : Type} {xs : List α} : ∀ {is : List Nat} {ys : List α} {y : α}, pick xs is = some ys → y ∈ ys → ∃ i ∈ is, xs[i]? = some y
  | [], ys, y, h, hy => by
    cases h
    cases hy
  | i :: is, ys, y, h, hy => by
    obtain ⟨x, h1, h2⟩ := bind_some h
    obtain ⟨zs, h3, h4⟩ := map_some h2
    cases h4
    rcases List.mem_cons.mp hy with z | z
    · rw [z]
      exact ⟨i, List.mem_cons_self, h1⟩
    · obtain ⟨j, hj, e⟩ := pick_mem h3 z
      exact ⟨j, List.mem_cons_of_mem _ hj, e⟩
theorem pick_args {K : PySem.W.Frag} {F H : Hp} {σ : L2.St} {vs : List V} {args : List Arg} {ass : List (List Addr)} (al : ArgAll K F H σ vs args ass) (nd : ass.flatten.Nodup) : ∀ {is : List Nat} {as' : List Arg}, is.Nodup → pick args is = some as' → ∃ vs' ass', pick vs is = some vs' ∧ pick ass is = some ass' ∧ ArgAll K F H σ vs' as' ass' ∧ ass'.flatten.Nodup
  | [], as', _, h => by
    cases h
    exact ⟨[], [], rfl, rfl, trivial, List.nodup_nil⟩
  | i :: is, as', hi, h => by
    obtain ⟨a, h1, h2⟩ := bind_some h
    obtain ⟨zs, h3, h4⟩ := map_some h2
    cases h4
    obtain ⟨n1, n2⟩ := List.nodup_cons.mp hi
    obtain ⟨v, as, e1, e2, e3⟩ := argAll_at al h1
    obtain ⟨vs', ass', f1, f2, f3, f4⟩ := pick_args al nd n2 h3
    refine ⟨v :: vs', as :: ass', by show (vs[i]?).bind _ = _; rw [e1, Option.bind_some, f1]; rfl, by show (ass[i]?).bind _ = _; rw [e2, Option.bind_some, f2]; rfl, ⟨e3, f3⟩, ?_⟩
    rw [List.flatten_cons, List.nodup_append]
    refine ⟨nodup_at nd e2, f4, fun x hx y hy e => ?_⟩
    subst e
    obtain ⟨bs, hb, hy⟩ := List.mem_flatten.mp hy
    obtain ⟨j, hj, ej⟩ := pick_mem f2 hb
    exact flat_apart nd e2 ej (fun z => n1 (by rw [← z]; exact hj)) hx hy
theorem pick_sub {ass ass' : List (List Addr)} {is : List Nat} (h : pick ass is = some ass') {b : Addr} (hb : b ∈ ass'.flatten) : b ∈ ass.flatten := by
  obtain ⟨bs, h1, h2⟩ := List.mem_flatten.mp hb
  obtain ⟨i, _, e⟩ := pick_mem h h1
  exact mem_flat e h2
theorem pick_vals {vs : List V} {ws : List Value} (r : Vals vs ws) : ∀ {is : List Nat} {vs' : List V}, pick vs is = some vs' → ∃ ws', pick ws is = some ws' ∧ Vals vs' ws'
  | [], vs', h => by
    cases h
    exact ⟨[], rfl, .nil⟩
  | i :: is, vs', h => by
    obtain ⟨v, h1, h2⟩ := bind_some h
    obtain ⟨zs, h3, h4⟩ := map_some h2
    cases h4
    obtain ⟨u, e1, e2⟩ := r.get h1
    obtain ⟨ws', f1, f2⟩ := pick_vals r h3
    exact ⟨u :: ws', by show (ws[i]?).bind _ = _; rw [e1, Option.bind_some, f1]; rfl, .cons e2 f2⟩
theorem evA_const (s : S) : ∀ as : List Arg, evA (as.map fun a => fun s => some (a, s)) s = some (as, s)
  | [] => rfl
  | a :: as => by
    show (evA (as.map fun a => fun s => some (a, s)) s).map _ = _
    rw [evA_const s as]
    rfl
theorem call_here {K : PySem.W.Frag} {f : FD} {σ : L2.St} {H1 F1 : Hp} {G : Gd} {s1 s' : S} {ps1 ass : List (List Addr)} {vs : List V} {args : List Arg} {o : O} {Q : VK} {E : XK} (R1 : Rel np K F1 G s1 σ H1 ps1) (al : ArgAll K F1 H1 σ vs args ass) (nd : ass.flatten.Nodup) (new : ∀ b ∈ ass.flatten, F1 b = none ∧ G.h b = none ∧ b ∉ ps1.flatten) (hm : callM f args s1 = some (o, s'))
    (q : ∀ v H' F' ps' as, Rel np K F' G s' σ H' ps' → Same F1 F' → Own K F' H' v o as → as.Nodup → (∀ b ∈ as, F' b = none ∧ G.h b = none ∧ b ∉ ps'.flatten) → Q v H') : spOf K f vs H1 Q E := by
  obtain ⟨cs, h3, h4⟩ := bind_some hm
  split at h4
  · rename_i nr
    obtain ⟨⟨r, outs⟩, h5, h6⟩ := bind_some h4
    obtain ⟨s2, h7, h8⟩ := map_some h6
    cases h8
    obtain ⟨bss, g1, g2, g3, g4, g5⟩ := args_own R1 al nd new h3 nr
    -- what the callee must keep
    have gat : ∀ b u, (if b ∈ bss.flatten then none else if b ∈ ps1.flatten then H1 b else G.h b) = some u → b ∉ bss.flatten ∧ H1 b = some u := fun b u e => by
      split at e
      · cases e
      · rename_i hb
        split at e
        · exact ⟨hb, e⟩
        · exact ⟨hb, R1.sG b u e⟩
    refine ⟨F1, fun b => if b ∈ bss.flatten then none else if b ∈ ps1.flatten then H1 b else G.h b, cs, bss, R1.sF, fun b u e => (gat b u e).2, fun b u e => ?_, g1, g2, fun b hb => ⟨(g3 b hb).1, if_pos hb⟩, r, outs, h5, fun v H2 F2 as ass' s12 sF2 sG2 fg2 own owns nd2 new2 => ?_⟩
    · have e' : (if b ∈ bss.flatten then none else if b ∈ ps1.flatten then H1 b else G.h b) = some u := e
      split at e'
      · cases e'
      · split at e'
        · rename_i hb
          exact (R1.apart b hb).1
        · exact R1.fg b u e'
    · rw [List.nodup_append] at nd2
      -- the slots that weren't handed over
      have Rd := R1.drops args
      have keep : ∀ b ∈ (dropPs args ps1).flatten, b ∉ bss.flatten ∧ b ∈ ps1.flatten := fun b hb => by
        obtain ⟨bs, hbs, hy⟩ := List.mem_flatten.mp hb
        obtain ⟨j, hj⟩ := List.getElem?_of_mem hbs
        obtain ⟨k1, k2⟩ := dropPs_at hj hy
        refine ⟨fun z => ?_, mem_flat k1 hy⟩
        rcases g4 b z with z | ⟨i, hi, as', ha, hb'⟩
        · exact (new b z).2.2 (mem_flat k1 hy)
        · by_cases c : i = j
          · subst c
            exact k2 (ownRefs_mem hi)
          · exact flat_apart R1.nd ha k1 (Ne.symm c) hb' hy
      have gin : ∀ b ∈ (dropPs args ps1).flatten, ∀ u, H1 b = some u → (if b ∈ bss.flatten then none else if b ∈ ps1.flatten then H1 b else G.h b) = some u := fun b hb u eu => by
        rw [if_neg (keep b hb).1, if_pos (keep b hb).2]
        exact eu
      have gG : ∀ b u, G.h b = some u → (if b ∈ bss.flatten then none else if b ∈ ps1.flatten then H1 b else G.h b) = some u := fun b u eu => by
        rw [if_neg fun z => by rw [(g3 b z).2] at eu; cases eu]
        split
        · exact R1.sG b u eu
        · exact eu
      have R2 := Rd.over (F' := F2) (H' := H2) s12 sF2 (fun b u eu => sG2 b u (gG b u eu)) (fun b u eu => fg2 b u (gG b u eu)) fun b hb => by
        obtain ⟨_, _, u, eu⟩ := Rd.apart b hb
        exact ⟨fg2 b u (gin b hb u eu), fun u' eu' => sG2 b u' (gin b hb u' eu')⟩
      have hnew : ∀ a ∈ as ++ ass'.flatten, F2 a = none ∧ G.h a = none ∧ a ∉ (dropPs args ps1).flatten := fun a ha => by
        obtain ⟨n1, n2⟩ := new2 a ha
        refine ⟨n1, ?_, fun z => ?_⟩
        · cases e : G.h a with
          | none => rfl
          | some u => exact nomatch (gG a u e).symm.trans n2
        · obtain ⟨_, _, u, eu⟩ := Rd.apart a z
          exact nomatch (gin a z u eu).symm.trans n2
      obtain ⟨ps2, R3, k⟩ := R2.fills al owns nd2.2.1 (fun a ha => hnew a (List.mem_append_right _ ha)) h7
      refine q v H2 F2 ps2 as R3 s12 own nd2.1 fun a ha => ?_
      obtain ⟨n1, n2, n3⟩ := hnew a (List.mem_append_left _ ha)
      refine ⟨n1, n2, fun z => ?_⟩
      rcases k a z with z | z
      · exact n3 z
      · exact nd2.2.2 a ha a z rfl
  · cases h4
/-- the keywords ks bind as the parameters, is: where -/
structure KwP (fd : FuncData) (ps ks : List Str) (is : List Nat) : Prop where
  to : ∀ (s : Shared) (ws ws' : List Value), ws.length = ks.length → pick ws is = some ws' → BindsTo s fd ⟨[], ks.zip ws⟩ (ps.zip ws')
theorem kwp_of {K : PySem.W.Frag} {x qual : Str} {st : Stmt} {f : Addr} {fd : FuncData} {ps ks : List Str} {is : List Nat} (F : Fun K x qual st f fd)
    (h : ∀ (kV doc pm : Value) (an : Option Addr) (cdv ct : Value) (ws ws' : List Value), ws.length = ks.length → pick ws is = some ws' → bindArgs (PySem.W.fnOf x qual (defArgs st) (defBody st) (defScope st) .none kV doc pm an cdv ct) ⟨[], ks.zip ws⟩ = pure (ps.zip ws')) : KwP fd ps ks is := by
  obtain ⟨oc, od, kV, doc, pm, an, cdv, ct, osl, rfl, lk, hcd⟩ := F.ex
  exact ⟨fun s ws ws' hl hp => .of_eq (h kV doc pm an cdv ct ws ws' hl hp)⟩
theorem e_callKp {X : Cx} {kws : List Keyword} {k : Nat} {f : Addr} {fd : FuncData} {ps ks : List Str} {is : List Nat} {x : Str} {p pos : Pos} {ms : List MArg} {df : FD} (F : FnOk X.prog X.w X.K X.mg X.base CX0 k f fd ps (spOf X.K df)) (hr : Room k X.A) (hg : Gl X x) (hm : X.mg x = some (.ref f)) (hk : PySem.W.keepIn X.K (.ref f) = true) (hb : KwP fd ps ks is) (ha : PK X kws (tArgs np X.K ms)) (his : is.Nodup := by decide)
    (hlen : ms.length = ks.length := by rfl) (hdb : (x == ("__debug__" : Str)) = false := by decide) (hall : (backToKw pos (keywordEach kws X.env)).all (·.1.isSome) = true := by rfl) (hks : (backToKw pos (keywordEach kws X.env)).filterMap (·.1) = ks := by rfl)
    (hpl : ((backTo pos (starEach [] X.env)).any (·.1) || (backToKw pos (keywordEach kws X.env)).any (·.1.isNone)) = false := by rfl) : PE X (.Call (.Name x p) [] kws pos) (tO np X.K (mCallP df is ms)) := by
  refine ⟨fun pins s σ H Q I h => ?_⟩
  obtain ⟨F0, G, sl, sps, R, o, s', hmm, q⟩ := h
  obtain ⟨⟨args, s1⟩, h1, h2⟩ := bind_some hmm
  obtain ⟨as', h3, h4⟩ := bind_some h2
  have alen : ∀ {ms : List MArg} {s s' : S} {as : List Arg}, evA ms s = some (as, s') → as.length = ms.length := fun {ms} => by
    induction ms with
    | nil =>
      intro s s' as h
      cases h
      rfl
    | cons m ms ih =>
      intro s s' as h
      obtain ⟨x, h1, h2⟩ := bind_some h
      obtain ⟨y, h3, h4⟩ := map_some h2
      cases h4
      exact congrArg (· + 1) (ih h3)
  have ta : tArgs np X.K ms σ H fun vs H1 => vs.length = ks.length ∧ ∃ vs', pick vs is = some vs' ∧ spOf X.K df vs' H1 Q E0 := by
    refine ⟨F0, G, sl, sps, R, args, s1, h1, fun vs H1 F1 ps1 ass R1 s01 al nd new => ?_⟩
    have vlen : ∀ {vs : List V} {args : List Arg} {ass : List (List Addr)}, ArgAll X.K F1 H1 σ vs args ass → vs.length = args.length := fun {vs} => by
      induction vs with
      | nil =>
        intro args ass h
        match args, ass, h with
        | [], [], _ => rfl
        | _ :: _, _, h => exact h.elim
        | [], _ :: _, h => exact h.elim
      | cons v vs ih =>
        intro args ass h
        match args, ass, h with
        | a :: args, as :: ass, h => exact congrArg (· + 1) (ih h.2)
        | [], _, h => exact h.elim
        | _ :: _, [], h => exact h.elim
    obtain ⟨vs', ass', g1, g2, g3, g4⟩ := pick_args al nd his h3
    refine ⟨by rw [vlen al, alen h1, hlen], vs', g1, ?_⟩
    -- the arguments stand as they do: the call's own judgement at this very state
    exact call_here R1 g3 g4 (fun b hb => new b (pick_sub g2 hb)) h4 fun v H2 F2 ps2 as R2 s12 own nd2 new2 => q v H2 F2 ps2 as R2 (s01.trans s12) own nd2 new2
  refine wpAny_Call_Name_kw (ld_glob I hg hm ?_ hdb)
  refine PySem.W.callWith_KW0 (h₀ := X.base) I.ok.mod.kin hk hall (thn (ha.run pos pins s σ H _ I ta) fun ws s2 ⟨vs, H1, I1, r, hvl, vs', g1, q1⟩ => ⟨I1.kIn, ?_⟩) hpl
  rw [hks]
  obtain ⟨ws', e1, r'⟩ := pick_vals r g1
  refine wpAny_call (codeAny_mono (F.run X.A X.stack s2 H1 ⟨[], ks.zip ws⟩ ws' vs' Q E0 hr I1.env0 (hb.to s2 ws ws' (r.length.symm.trans hvl) e1) r' q1) fun r2 s' hq => ?_)
  cases r2 with
  | error e => exact (pass0 pins σ H1 s2 e s' I1 hq)
  | ok fl =>
    cases fl with
    | ret u => exact I1.after hq
    | next => exact False.elim hq
    | brk => exact False.elim hq
    | cont => exact False.elim hq
end Dv

/-! Loops and comprehensions, in plain Lean. -/
namespace Dv
open PySem PySem.Spec PyProof.Rows L2
inductive All2 {α β : Type} (R : α → β → Prop) : List α → List β → Prop
  | nil : All2 R [] []
  | cons {a : α} {b : β} {as : List α} {bs : List β} : R a b → All2 R as bs → All2 R (a :: as) (b :: bs)
theorem All2.map {α β : Type} {f : α → β} : ∀ {as : List α} {bs : List β}, All2 (fun a b => b = f a) as bs → bs = as.map f
  | _, _, .nil => rfl
  | _, _, .cons h t => by rw [h, t.map]; rfl
theorem All2.imp {α β : Type} {R R' : α → β → Prop} (i : ∀ a b, R a b → R' a b) : ∀ {as : List α} {bs : List β}, All2 R as bs → All2 R' as bs
  | _, _, .nil => .nil
  | _, _, .cons h t => .cons (i _ _ h) (t.imp i)
theorem All2.len {α β : Type} {R : α → β → Prop} : ∀ {as : List α} {bs : List β}, All2 R as bs → bs.length = as.length
  | _, _, .nil => rfl
  | _, _, .cons _ t => congrArg (· + 1) t.len
theorem compGo_inv {vs : List Nat} {g : MG} {t : MB} {e : MV} (P : List D → S → Prop) (R : D → D → Prop) (h : ∀ d ds s, P (d :: ds) s → ∃ s1 s2 s3 d', g (.val d) s = some s1 ∧ t s1 = some (true, s2) ∧ e s2 = some (d', s3) ∧ R d d' ∧ P ds (wS s3 vs)) :
    ∀ (ds : List D) (s : S), P ds s → ∃ ys s', compGo vs g t e ds s = some (ys, s') ∧ P [] s' ∧ All2 R ds ys
  | [], s, p => ⟨[], s, rfl, p, .nil⟩
  | d :: ds, s, p => by
    obtain ⟨s1, s2, s3, d', e1, e2, e3, r, p'⟩ := h d ds s p
    obtain ⟨ys, s', e4, p2, a⟩ := compGo_inv P R h ds (wS s3 vs) p'
    refine ⟨d' :: ys, s', ?_, p2, .cons r a⟩
    unfold compGo
    rw [e1, Option.bind_some, e2, Option.bind_some, if_pos rfl, e3, Option.bind_some, e4]
    rfl
/-- with tests: what is kept, by a word on the item -/
theorem compGo_flt {vs : List Nat} {g : MG} {t : MB} {e : MV} (P : List D → S → Prop) (k : D → Bool) (f : D → D) (h : ∀ d ds s, P (d :: ds) s → ∃ s1 s2, g (.val d) s = some s1 ∧ t s1 = some (k d, s2) ∧ (k d = true → ∃ s3, e s2 = some (f d, s3) ∧ P ds (wS s3 vs)) ∧ (k d = false → P ds (wS s2 vs))) :
    ∀ (ds : List D) (s : S), P ds s → ∃ s', compGo vs g t e ds s = some ((ds.filter k).map f, s') ∧ P [] s'
  | [], s, p => ⟨s, rfl, p⟩
  | d :: ds, s, p => by
    obtain ⟨s1, s2, e1, e2, yes, no⟩ := h d ds s p
    cases hk : k d with
    | true =>
      obtain ⟨s3, e3, p'⟩ := yes hk
      obtain ⟨s', e4, p2⟩ := compGo_flt P k f h ds (wS s3 vs) p'
      refine ⟨s', ?_, p2⟩
      unfold compGo
      rw [e1, Option.bind_some, e2, Option.bind_some, hk, if_pos rfl, e3, Option.bind_some, e4, List.filter_cons_of_pos (by simp [hk])]
      rfl
    | false =>
      obtain ⟨s', e4, p2⟩ := compGo_flt P k f h ds (wS s2 vs) (no hk)
      refine ⟨s', ?_, p2⟩
      unfold compGo
      rw [e1, Option.bind_some, e2, Option.bind_some, hk, if_neg Bool.false_ne_true, e4, List.filter_cons_of_neg (by simp [hk])]
theorem forGo_inv {g : MG} {b : MS} (P : List D → S → Prop) (h : ∀ d ds s, P (d :: ds) s → ∃ s1 s2, g (.val d) s = some s1 ∧ b s1 = some (.nx, s2) ∧ P ds s2) : ∀ (ds : List D) (s : S), P ds s → ∃ s', forGo g b ds s = some (.nx, s') ∧ P [] s'
  | [], s, p => ⟨s, rfl, p⟩
  | d :: ds, s, p => by
    obtain ⟨s1, s2, e1, e2, p'⟩ := h d ds s p
    obtain ⟨s', e3, p2⟩ := forGo_inv P h ds s2 p'
    refine ⟨s', ?_, p2⟩
    unfold forGo
    rw [e1, Option.bind_some, e2, Option.bind_some]
    exact e3
theorem compGo2_inv {vs vs1 : List Nat} {g g1 : MG} {t t1 : MB} {m1 : MI} {e : MV} (P : List D → S → Prop) (f : D → List D) (h : ∀ d ds s, P (d :: ds) s → ∃ s1 s2 es s3 s4, g (.val d) s = some s1 ∧ t s1 = some (true, s2) ∧ m1 s2 = some (es, s3) ∧ compGo vs1 g1 t1 e es (wS s3 vs1) = some (f d, s4) ∧ P ds (wS s4 vs)) :
    ∀ (ds : List D) (s : S), P ds s → ∃ s', compGo2 vs g t m1 vs1 g1 t1 e ds s = some (ds.flatMap f, s') ∧ P [] s'
  | [], s, p => ⟨s, rfl, p⟩
  | d :: ds, s, p => by
    obtain ⟨s1, s2, es, s3, s4, e1, e2, e3, e4, p'⟩ := h d ds s p
    obtain ⟨s', e5, p2⟩ := compGo2_inv P f h ds (wS s4 vs) p'
    refine ⟨s', ?_, p2⟩
    unfold compGo2
    rw [e1, Option.bind_some, e2, Option.bind_some, if_pos rfl, e3, Option.bind_some, e4, Option.bind_some, e5]
    rfl
/-! ### the drawing urn -/
/-- an urn that can still be drawn from m times -/
def Urn (m : Nat) (o : O) : Prop := ∃ a b c : Int, o = .lst [.int a, .int b, .int c] ∧ 0 ≤ c ∧ c + m ≤ 2 ^ 60
theorem Urn.le {m n : Nat} {o : O} (h : Urn m o) (hn : n ≤ m) : Urn n o := by
  obtain ⟨a, b, c, e, h1, h2⟩ := h
  exact ⟨a, b, c, e, h1, by omega⟩
def TakeOk (f : FD) : Prop := ∀ (m : Nat) (u : O) (k : Int), Urn (m + 1) u → 0 < k → k < 2 ^ 60 → ∃ r u', Urn m u' ∧ f [u, .val (.int k)] = some (.val (.int r), [u', .val (.int k)]) ∧ 0 ≤ r ∧ r < k
end Dv

/-! The combinators at a state: continuations by name. -/
namespace Dv
open PySem PySem.Spec PyProof.Rows L2
def bK {α β : Type} (f : α → S → Option β) : Option (α × S) → Option β
  | some (a, s) => f a s
  | none => none
theorem bK_some {α β : Type} (f : α → S → Option β) (a : α) (s : S) : bK f (some (a, s)) = f a s := rfl
theorem bK_bind {α β : Type} (x : Option (α × S)) (f : α → S → Option β) : (x.bind fun p => f p.1 p.2) = bK f x := by
  cases x <;> rfl
def ifF {α : Type} (a b : S → Option α) : Bool → S → Option α
  | true, s => a s
  | false, s => b s
def seqF (b : MS) : Fl → S → Option (Fl × S)
  | .nx, s => b s
  | f, s => some (f, s)
def asgG : Option S → Option (Fl × S)
  | some s => some (.nx, s)
  | none => none
def asgF (g : MG) (o : O) (s : S) : Option (Fl × S) := asgG (g o s)
def retF (o : O) (s : S) : Option (Fl × S) := some (.rt o, s)
def expF (_ : O) (s : S) : Option (Fl × S) := some (.nx, s)
def ret1 {α β : Type} (f : α → β) (a : α) (s : S) : Option (β × S) := some (f a, s)
def opH : Option O → S → Option (O × S)
  | some o, s => some (o, s)
  | none, _ => none
def opG (g : List D → Option O) : Option (List D) → S → Option (O × S)
  | some ds, s => opH (g ds) s
  | none, _ => none
def opF (g : List D → Option O) (rs : List Rf) (s : S) : Option (O × S) := opG g (looks s rs) s
def tupG : Option (List D) → S → Option (D × S)
  | some ds, s => some (.tuple ds, s)
  | none, _ => none
def tupF (rs : List Rf) (s : S) : Option (D × S) := tupG (dsOf rs) s
def lstG : Option (List D) → S → Option (O × S)
  | some ds, s => some (.lst ds, s)
  | none, _ => none
def lstF (rs : List Rf) (s : S) : Option (O × S) := lstG (dsOf rs) s
def boF : O → S → Option (Bool × S)
  | .val (.bool b), s => some (b, s)
  | _, _ => none
def truH : Option Bool → S → Option (Bool × S)
  | some b, s => some (b, s)
  | none, _ => none
def truG : Option D → S → Option (Bool × S)
  | some d, s => truH (truthD d) s
  | none, _ => none
def truF (r : Rf) (s : S) : Option (Bool × S) := truG (r.look s) s
def andF (b : MB) : Bool → S → Option (Bool × S)
  | true, s => b s
  | false, s => some (false, s)
def orF (b : MB) : Bool → S → Option (Bool × S)
  | true, s => some (true, s)
  | false, s => b s
def vandG (b : MV) : Option Bool → D → S → Option (D × S)
  | some true, _, s => b s
  | some false, d, s => some (d, s)
  | none, _, _ => none
def vandF (b : MV) (d : D) (s : S) : Option (D × S) := vandG b (truthD d) d s
def vorG (b : MV) : Option Bool → D → S → Option (D × S)
  | some true, d, s => some (d, s)
  | some false, _, s => b s
  | none, _, _ => none
def vorF (b : MV) (d : D) (s : S) : Option (D × S) := vorG b (truthD d) d s
def oorG (b : MO) : Option Bool → O → S → Option (O × S)
  | some true, o, s => some (o, s)
  | some false, _, s => b s
  | none, _, _ => none
def oorF (b : MO) (o : O) (s : S) : Option (O × S) := oorG b (truthD o.toD) o s
def notG : Option Bool → S → Option (D × S)
  | some b, s => some (.bool (!b), s)
  | none, _ => none
def notH : Option D → S → Option (D × S)
  | some d, s => notG (truthD d) s
  | none, _ => none
def notF (r : Rf) (s : S) : Option (D × S) := notH (r.look s) s
def isG (f : D → Bool) : Option D → S → Option (D × S)
  | some d, s => some (.bool (f d), s)
  | none, _ => none
def isF (T : Ty) (r : Rf) (s : S) : Option (D × S) := isG (isTy T) (r.look s) s
def isTy2 (T U : Ty) (d : D) : Bool := isTy T d || isTy U d
def isF2 (T U : Ty) (r : Rf) (s : S) : Option (D × S) := isG (isTy2 T U) (r.look s) s
def evRG (r : Rf) : Option (List Rf × S) → Option (List Rf × S)
  | some (rs, s) => some (r :: rs, s)
  | none => none
def evRF (ms : List MR) (r : Rf) (s : S) : Option (List Rf × S) := evRG r (evR ms s)
def evAG (r : Arg) : Option (List Arg × S) → Option (List Arg × S)
  | some (rs, s) => some (r :: rs, s)
  | none => none
def evAF (ms : List MArg) (r : Arg) (s : S) : Option (List Arg × S) := evAG r (evA ms s)
def evOG (r : O) : Option (List O × S) → Option (List O × S)
  | some (rs, s) => some (r :: rs, s)
  | none => none
def evOF (ms : List MO) (r : O) (s : S) : Option (List O × S) := evOG r (evO ms s)
def chG (s : S) (i : Nat) : Option (O × List D) → Option (O × S)
  | some (o, xs) => some (o, s.set i (some (.lst xs)))
  | none => none
def chAt (s : S) (i : Nat) (f : List D → Option (O × List D)) : Option (Option O) → Option (O × S)
  | some (some (.lst xs)) => chG s i (f xs)
  | _ => none
def appL (d : D) (xs : List D) : Option (O × List D) := if xs.length < sizeLine then some (.val .none, xs ++ [d]) else none
def appF (i : Nat) (d : D) (s : S) : Option (O × S) := chAt s i (appL d) s[i]?
def gate {α : Type} : Bool → Option α → Option α
  | true, x => x
  | false, _ => none
def setL (j : Int) (d : D) (xs : List D) : Option (O × List D) := (ixN xs.length j).map fun n => (.val .none, xs.set n d)
def setF3 : Option (O × S) → Option (Fl × S)
  | some (_, s) => some (.nx, s)
  | none => none
def setF2 (i : Nat) (d : D) : D → S → Option (Fl × S)
  | .int j, s => setF3 (chAt s i (setL j d) s[i]?)
  | _, _ => none
def setF1 (i : Nat) (k : MV) (d : D) (s : S) : Option (Fl × S) := gate (ownL s i) (bK (setF2 i d) (k s))
def callI (r : O) : Option S → Option (O × S)
  | some s => some (r, s)
  | none => none
def callH (as : List Arg) (s : S) : Option (O × List O) → Option (O × S)
  | some (r, outs) => callI r (setRefs as outs (dropRefs as s))
  | none => none
def callG (f : FD) (as : List Arg) (s : S) : Option (List O) → Option (O × S)
  | some cs => gate (decide (ownRefs s as).Nodup) (callH as s (f cs))
  | none => none
def callF (f : FD) (as : List Arg) (s : S) : Option (O × S) := callG f as s (conts s as)
def itG : Option (List D) → S → Option (List D × S)
  | some ds, s => some (ds, s)
  | none, _ => none
def iopG (g : List D → Option (List D)) : Option (List D) → S → Option (List D × S)
  | some ds, s => itG (g ds) s
  | none, _ => none
def iopF (g : List D → Option (List D)) (rs : List Rf) (s : S) : Option (List D × S) := iopG g (looks s rs) s
def iprF (g : List Rf → Option (List D)) (rs : List Rf) (s : S) : Option (List D × S) := itG (g rs) s
def ivF (d : D) (s : S) : Option (List D × S) := itG (itemsD d) s
def lcG : Option (List D × S) → Option (O × S)
  | some (ys, s) => if ys.length ≤ sizeLine then some (.lst ys, s) else none
  | none => none
def lcF (vs : List Nat) (g : MG) (t : MB) (e : MV) (ds : List D) (s : S) : Option (O × S) := lcG (compGo vs g t e ds (wS s vs))
def lc2F (vs : List Nat) (g : MG) (t : MB) (m1 : MI) (vs1 : List Nat) (g1 : MG) (t1 : MB) (e : MV) (ds : List D) (s : S) : Option (O × S) := lcG (compGo2 vs g t m1 vs1 g1 t1 e ds (wS s vs))
def slI (a b : Option Int) : Option D → S → Option (O × S)
  | some d, s => opH (gSl a b d) s
  | none, _ => none
def slH (r : Rf) (a b : Option Int) (s : S) : Option (O × S) := slI a b (r.look s) s
def slG (hi : MP) (r : Rf) (a : Option Int) (s : S) : Option (O × S) := bK (slH r a) (hi s)
def slF (lo hi : MP) (r : Rf) (s : S) : Option (O × S) := bK (slG hi r) (lo s)
def psF : D → S → Option (Option Int × S)
  | .int i, s => some (some i, s)
  | _, _ => none
def parG (is : List Nat) (os : List O) (s : S) : Option (Fl × S) := asgG (setAll is os s)
def runG : Fl → Option (List O) → Option (O × List O)
  | .nx, some outs => some (.val .none, outs)
  | .rt o, some outs => some (o, outs)
  | _, _ => none
def runF (np : Nat) (f : Fl) (s : S) : Option (O × List O) := runG f (outsOf np s)
def swF (g g' : List D → Option O) (mc : MR) (ra rb : Rf) (s : S) : Option (O × S) := (looks s [ra, rb]).bind fun ds => (g ds).bind fun o => (oBl o).bind fun k => if k = true then (mc s).bind fun r => (looks r.2 [rb, r.1]).bind fun es => (g' es).map fun o' => (o', r.2) else some (.val (.bool false), s)
section
variable {α : Type} (a b : MS) (m n : MO) (u v : MV) (r : MR) (t t' : MB) (s : S)
theorem ap_runDef (n np : Nat) (cs : List O) : runDef n np a cs = gate (decide (cs.length = np)) (bK (runF np) (a (cs.map some ++ List.replicate (n - np) none))) := by
  unfold runDef
  by_cases h : cs.length = np
  · rw [if_pos h, decide_eq_true h]
    show _ = bK (runF np) _
    rw [← bK_bind]
    cases a (cs.map some ++ List.replicate (n - np) none) with
    | none => rfl
    | some p =>
      obtain ⟨f, s⟩ := p
      show (outsOf np s).bind _ = runF np f s
      unfold runF
      cases outsOf np s <;> cases f <;> rfl
  · rw [if_neg h, decide_eq_false h]
    rfl
theorem ap_sSeq : sSeq a b s = bK (seqF b) (a s) := by
  rw [← bK_bind]
  show (a s).bind _ = _
  cases a s with
  | none => rfl
  | some p =>
    obtain ⟨f, s⟩ := p
    cases f <;> rfl
theorem ap_sAsg (g : MG) : sAsg g m s = bK (asgF g) (m s) := by
  rw [← bK_bind]
  show (m s).bind _ = _
  cases m s with
  | none => rfl
  | some p =>
    obtain ⟨o, s⟩ := p
    show (g o s).map _ = asgG (g o s)
    cases g o s <;> rfl
theorem ap_sIf : sIf t a b s = bK (ifF a b) (t s) := by
  rw [← bK_bind]
  show (t s).bind _ = _
  cases t s with
  | none => rfl
  | some p =>
    obtain ⟨k, s⟩ := p
    cases k <;> rfl
theorem ap_vIf : vIf t u v s = bK (ifF u v) (t s) := by
  rw [← bK_bind]
  show (t s).bind _ = _
  cases t s with
  | none => rfl
  | some p =>
    obtain ⟨k, s⟩ := p
    cases k <;> rfl
theorem ap_oIf : oIf t m n s = bK (ifF m n) (t s) := by
  rw [← bK_bind]
  show (t s).bind _ = _
  cases t s with
  | none => rfl
  | some p =>
    obtain ⟨k, s⟩ := p
    cases k <;> rfl
theorem ap_sRet : sRet m s = bK retF (m s) := by
  show (m s).map _ = _
  cases m s <;> rfl
theorem ap_sExp : sExp m s = bK expF (m s) := by
  show (m s).map _ = _
  cases m s <;> rfl
theorem ap_sNx : sNx s = some (.nx, s) := rfl
theorem ap_sFor (i : MI) (g : MG) : sFor i g a s = bK (forGo g a) (i s) := by
  show (i s).bind _ = _
  cases i s <;> rfl
theorem ap_sPar (is : List Nat) (ms : List MO) : sPar is ms s = bK (parG is) (evO ms s) := by
  show (evO ms s).bind _ = _
  cases evO ms s with
  | none => rfl
  | some p =>
    obtain ⟨os, s⟩ := p
    show (setAll is os s).map _ = asgG (setAll is os s)
    cases setAll is os s <;> rfl
theorem ap_mOp (g : List D → Option O) (ms : List MR) : mOp g ms s = bK (opF g) (evR ms s) := by
  show (evR ms s).bind _ = _
  cases evR ms s with
  | none => rfl
  | some p =>
    obtain ⟨rs, s⟩ := p
    show (looks s rs).bind _ = opG g (looks s rs) s
    cases looks s rs with
    | none => rfl
    | some ds =>
      show (g ds).map _ = opH (g ds) s
      cases g ds <;> rfl
theorem ap_rV : rV u s = bK (ret1 Rf.d) (u s) := by
  show (u s).map _ = _
  cases u s <;> rfl
theorem ap_frz : frz m s = bK (ret1 O.toD) (m s) := by
  show (m s).map _ = _
  cases m s <;> rfl
theorem ap_rO : rO m s = bK (ret1 Rf.d) (frz m s) := ap_rV (frz m) s
theorem ap_oV : oV u s = bK (ret1 O.val) (u s) := by
  show (u s).map _ = _
  cases u s <;> rfl
theorem ap_aV : aV u s = bK (ret1 Arg.d) (u s) := by
  show (u s).map _ = _
  cases u s <;> rfl
theorem ap_aO : aO m s = bK (ret1 Arg.o) (m s) := by
  show (m s).map _ = _
  cases m s <;> rfl
theorem ap_vCon (d : D) : vCon d s = some (d, s) := rfl
theorem ap_vTup (ms : List MR) : vTup ms s = bK tupF (evR ms s) := by
  show (evR ms s).bind _ = _
  cases evR ms s with
  | none => rfl
  | some p =>
    obtain ⟨rs, s⟩ := p
    show (dsOf rs).map _ = tupG (dsOf rs) s
    cases dsOf rs <;> rfl
theorem ap_oLst (ms : List MR) : oLst ms s = bK lstF (evR ms s) := by
  show (evR ms s).bind _ = _
  cases evR ms s with
  | none => rfl
  | some p =>
    obtain ⟨rs, s⟩ := p
    show (dsOf rs).map _ = lstG (dsOf rs) s
    cases dsOf rs <;> rfl
theorem ap_mBo : mBo m s = bK boF (m s) := by
  show (m s).bind _ = _
  cases m s with
  | none => rfl
  | some p =>
    obtain ⟨o, s⟩ := p
    cases o with
    | lst xs => rfl
    | val d => cases d <;> rfl
theorem ap_mTru : mTru r s = bK truF (r s) := by
  show (r s).bind _ = _
  cases r s with
  | none => rfl
  | some p =>
    obtain ⟨rf, s⟩ := p
    show (rf.look s).bind _ = truG (rf.look s) s
    cases rf.look s with
    | none => rfl
    | some d =>
      show (truthD d).map _ = truH (truthD d) s
      cases truthD d <;> rfl
theorem ap_bNot : bNot t s = bK (ret1 not) (t s) := by
  show (t s).map _ = _
  cases t s <;> rfl
theorem ap_bAnd : bAnd t t' s = bK (andF t') (t s) := by
  show (t s).bind _ = _
  cases t s with
  | none => rfl
  | some p =>
    obtain ⟨k, s⟩ := p
    cases k <;> rfl
theorem ap_bOr : bOr t t' s = bK (orF t') (t s) := by
  show (t s).bind _ = _
  cases t s with
  | none => rfl
  | some p =>
    obtain ⟨k, s⟩ := p
    cases k <;> rfl
theorem ap_vAnd : vAnd u v s = bK (vandF v) (u s) := by
  show (u s).bind _ = _
  cases u s with
  | none => rfl
  | some p =>
    obtain ⟨d, s⟩ := p
    show (truthD d).bind _ = vandG v (truthD d) d s
    cases truthD d with
    | none => rfl
    | some k => cases k <;> rfl
theorem ap_vOr : vOr u v s = bK (vorF v) (u s) := by
  show (u s).bind _ = _
  cases u s with
  | none => rfl
  | some p =>
    obtain ⟨d, s⟩ := p
    show (truthD d).bind _ = vorG v (truthD d) d s
    cases truthD d with
    | none => rfl
    | some k => cases k <;> rfl
theorem ap_oOr : oOr m n s = bK (oorF n) (m s) := by
  show (m s).bind _ = _
  cases m s with
  | none => rfl
  | some p =>
    obtain ⟨o, s⟩ := p
    show (truthD o.toD).bind _ = oorG n (truthD o.toD) o s
    cases truthD o.toD with
    | none => rfl
    | some k => cases k <;> rfl
theorem ap_vNot : vNot r s = bK notF (r s) := by
  show (r s).bind _ = _
  cases r s with
  | none => rfl
  | some p =>
    obtain ⟨rf, s⟩ := p
    show (rf.look s).bind _ = notH (rf.look s) s
    cases rf.look s with
    | none => rfl
    | some d =>
      show (truthD d).map _ = notG (truthD d) s
      cases truthD d <;> rfl
theorem ap_vIsi (T : Ty) : vIsi T r s = bK (isF T) (r s) := by
  show (r s).bind _ = _
  cases r s with
  | none => rfl
  | some p =>
    obtain ⟨rf, s⟩ := p
    show (rf.look s).map _ = isG (isTy T) (rf.look s) s
    cases rf.look s <;> rfl
theorem ap_vIsi2 (T U : Ty) : vIsi2 T U r s = bK (isF2 T U) (r s) := by
  show (r s).bind _ = _
  cases r s with
  | none => rfl
  | some p =>
    obtain ⟨rf, s⟩ := p
    show (rf.look s).map _ = isG (isTy2 T U) (rf.look s) s
    cases rf.look s <;> rfl
theorem ap_evR0 : evR [] s = some ([], s) := rfl
theorem ap_evR1 (ms : List MR) : evR (r :: ms) s = bK (evRF ms) (r s) := by
  show (r s).bind _ = _
  cases r s with
  | none => rfl
  | some p =>
    obtain ⟨x, s⟩ := p
    show (evR ms s).map _ = evRG x (evR ms s)
    cases evR ms s <;> rfl
theorem ap_evA0 : evA [] s = some ([], s) := rfl
theorem ap_evA1 (x : MArg) (ms : List MArg) : evA (x :: ms) s = bK (evAF ms) (x s) := by
  show (x s).bind _ = _
  cases x s with
  | none => rfl
  | some p =>
    obtain ⟨y, s⟩ := p
    show (evA ms s).map _ = evAG y (evA ms s)
    cases evA ms s <;> rfl
theorem ap_evO0 : evO [] s = some ([], s) := rfl
theorem ap_evO1 (ms : List MO) : evO (m :: ms) s = bK (evOF ms) (m s) := by
  show (m s).bind _ = _
  cases m s with
  | none => rfl
  | some p =>
    obtain ⟨y, s⟩ := p
    show (evO ms s).map _ = evOG y (evO ms s)
    cases evO ms s <;> rfl
theorem chL_at (i : Nat) (f : List D → Option (O × List D)) : chL i f s = chAt s i f s[i]? := by
  unfold chL
  cases h : s[i]? with
  | none => rfl
  | some x =>
    cases x with
    | none => rfl
    | some o =>
      cases o with
      | val d => rfl
      | lst xs =>
        show (f xs).map _ = chG s i (f xs)
        cases f xs <;> rfl
theorem ap_oApp (i : Nat) : oApp i u s = gate (ownL s i) (bK (appF i) (u s)) := by
  unfold oApp
  cases ownL s i with
  | false => rfl
  | true =>
    rw [if_pos rfl]
    show _ = bK (appF i) (u s)
    cases u s with
    | none => rfl
    | some p =>
      obtain ⟨d, s⟩ := p
      exact chL_at s i (appL d)
theorem ap_sSetIx (i : Nat) : sSetIx i u v s = bK (setF1 i u) (v s) := by
  show (v s).bind _ = _
  cases v s with
  | none => rfl
  | some p =>
    obtain ⟨d, s⟩ := p
    show (if ownL s i = true then _ else _) = gate (ownL s i) (bK (setF2 i d) (u s))
    cases ownL s i with
    | false => rfl
    | true =>
      rw [if_pos rfl]
      show _ = bK (setF2 i d) (u s)
      cases u s with
      | none => rfl
      | some q =>
        obtain ⟨k, s⟩ := q
        cases k with
        | int j =>
          show (chL i (setL j d) s).map _ = setF3 (chAt s i (setL j d) s[i]?)
          rw [chL_at]
          cases chAt s i (setL j d) s[i]? <;> rfl
        | _ => rfl
theorem ap_mCall (f : FD) (ms : List MArg) : mCall f ms s = bK (callF f) (evA ms s) := by
  show (evA ms s).bind _ = _
  cases evA ms s with
  | none => rfl
  | some p =>
    obtain ⟨as, s⟩ := p
    show (conts s as).bind _ = callG f as s (conts s as)
    cases conts s as with
    | none => rfl
    | some cs =>
      show (if (ownRefs s as).Nodup then _ else _) = gate (decide (ownRefs s as).Nodup) (callH as s (f cs))
      by_cases h : (ownRefs s as).Nodup
      · rw [if_pos h, decide_eq_true h]
        show (f cs).bind _ = callH as s (f cs)
        cases f cs with
        | none => rfl
        | some r =>
          obtain ⟨r, outs⟩ := r
          show (setRefs as outs (dropRefs as s)).map _ = callI r (setRefs as outs (dropRefs as s))
          cases setRefs as outs (dropRefs as s) <;> rfl
      · rw [if_neg h, decide_eq_false h]
        rfl
theorem ap_iVal : iVal u s = bK ivF (u s) := by
  show (u s).bind _ = _
  cases u s with
  | none => rfl
  | some p =>
    obtain ⟨d, s⟩ := p
    show (itemsD d).map _ = itG (itemsD d) s
    cases itemsD d <;> rfl
theorem ap_iOp (g : List D → Option (List D)) (ms : List MR) : iOp g ms s = bK (iopF g) (evR ms s) := by
  show (evR ms s).bind _ = _
  cases evR ms s with
  | none => rfl
  | some p =>
    obtain ⟨rs, s⟩ := p
    show (looks s rs).bind _ = iopG g (looks s rs) s
    cases looks s rs with
    | none => rfl
    | some ds =>
      show (g ds).map _ = itG (g ds) s
      cases g ds <;> rfl
theorem ap_iPr (g : List Rf → Option (List D)) (ms : List MR) : iPr g ms s = bK (iprF g) (evR ms s) := by
  show (evR ms s).bind _ = _
  cases evR ms s with
  | none => rfl
  | some p =>
    obtain ⟨rs, s⟩ := p
    show (g rs).map _ = itG (g rs) s
    cases g rs <;> rfl
theorem ap_oLc (vs : List Nat) (i : MI) (g : MG) : oLc vs i g t u s = bK (lcF vs g t u) (i s) := by
  show (i s).bind _ = _
  cases i s with
  | none => rfl
  | some p =>
    obtain ⟨ds, s⟩ := p
    show (compGo vs g t u ds (wS s vs)).bind _ = lcG (compGo vs g t u ds (wS s vs))
    cases compGo vs g t u ds (wS s vs) <;> rfl
theorem ap_oLc2 (vs : List Nat) (i : MI) (g : MG) (i1 : MI) (vs1 : List Nat) (g1 : MG) : oLc2 vs i g t i1 vs1 g1 t' u s = bK (lc2F vs g t i1 vs1 g1 t' u) (i s) := by
  show (i s).bind _ = _
  cases i s with
  | none => rfl
  | some p =>
    obtain ⟨ds, s⟩ := p
    show (compGo2 vs g t i1 vs1 g1 t' u ds (wS s vs)).bind _ = lcG (compGo2 vs g t i1 vs1 g1 t' u ds (wS s vs))
    cases compGo2 vs g t i1 vs1 g1 t' u ds (wS s vs) <;> rfl
theorem ap_pNo : pNo s = some (none, s) := rfl
theorem ap_pSome : pSome u s = bK psF (u s) := by
  show (u s).bind _ = _
  cases u s with
  | none => rfl
  | some p =>
    obtain ⟨d, s⟩ := p
    cases d <;> rfl
theorem ap_oSl (lo hi : MP) : oSl r lo hi s = bK (slF lo hi) (r s) := by
  show (r s).bind _ = _
  cases r s with
  | none => rfl
  | some p =>
    obtain ⟨x, s⟩ := p
    show (lo s).bind _ = bK (slG hi x) (lo s)
    cases lo s with
    | none => rfl
    | some p =>
      obtain ⟨a, s⟩ := p
      show (hi s).bind _ = bK (slH x a) (hi s)
      cases hi s with
      | none => rfl
      | some p =>
        obtain ⟨b, s⟩ := p
        show (x.look s).bind _ = slI a b (x.look s) s
        cases x.look s with
        | none => rfl
        | some d =>
          show (gSl a b d).map _ = opH (gSl a b d) s
          cases gSl a b d <;> rfl
end
theorem ap_rB {i : Nat} {s : S} {o : O} (h : s[i]? = some (some o)) : rB i s = some (.s i, s) := by unfold rB; rw [h]
theorem ap_vVar {i : Nat} {s : S} {o : O} (h : s[i]? = some (some o)) : vVar i s = some (o.toD, s.set i (some (.val o.toD))) := by unfold vVar; rw [h]
theorem ap_oMove {i : Nat} {s : S} {o : O} (h : s[i]? = some (some o)) : oMove i s = some (o, s.set i none) := by unfold oMove; rw [h]
theorem ap_aR {i : Nat} {s : S} {o : O} (h : s[i]? = some (some o)) : aR i s = some (.r i, s) := by unfold aR; rw [h]
theorem ap_gNm (i : Nat) (o : O) (s : S) : gNm i o s = gate (decide (i < s.length)) (some (s.set i (some o))) := by
  unfold gNm
  by_cases h : i < s.length
  · rw [if_pos h, decide_eq_true h]
    rfl
  · rw [if_neg h, decide_eq_false h]
    rfl
theorem ap_gTp (gs : List MG) (ds : List D) (s : S) : gTp gs (.val (.tuple ds)) s = gAllT gs ds s := rfl
def gaF (gs : List MG) (ds : List D) : Option S → Option S
  | some s => gAllT gs ds s
  | none => none
theorem ap_gAll0 (s : S) : gAllT [] [] s = some s := rfl
theorem ap_gAll1 (g : MG) (gs : List MG) (d : D) (ds : List D) (s : S) : gAllT (g :: gs) (d :: ds) s = gaF gs ds (g (.val d) s) := by
  show (g (.val d) s).bind _ = _
  cases g (.val d) s <;> rfl
theorem look_d (d : D) (s : S) : (Rf.d d).look s = some d := rfl
theorem look_s {i : Nat} {s : S} {o : O} (h : s[i]? = some (some o)) : (Rf.s i).look s = some o.toD := by
  show (match s[i]? with | some (some o) => some o.toD | _ => none) = _
  rw [h]
def lkG (r : Option D) (rs : Option (List D)) : Option (List D) := match r, rs with
  | some d, some ds => some (d :: ds)
  | _, _ => none
theorem ap_looks0 (s : S) : looks s [] = some [] := rfl
theorem ap_looks1 (s : S) (r : Rf) (rs : List Rf) : looks s (r :: rs) = lkG (r.look s) (looks s rs) := by
  show (r.look s).bind _ = _
  cases r.look s with
  | none => rfl
  | some d =>
    show (looks s rs).map _ = _
    cases looks s rs <;> rfl
def cnG (r : Option O) (rs : Option (List O)) : Option (List O) := match r, rs with
  | some d, some ds => some (d :: ds)
  | _, _ => none
theorem ap_conts0 (s : S) : conts s [] = some [] := rfl
theorem ap_conts1 (s : S) (r : Arg) (rs : List Arg) : conts s (r :: rs) = cnG (r.look s) (conts s rs) := by
  show (r.look s).bind _ = _
  cases r.look s with
  | none => rfl
  | some d =>
    show (conts s rs).map _ = _
    cases conts s rs <;> rfl
theorem alook_d (d : D) (s : S) : (Arg.d d).look s = some (.val d) := rfl
theorem alook_o (o : O) (s : S) : (Arg.o o).look s = some o := rfl
theorem alook_r {i : Nat} {s : S} {o : O} (h : s[i]? = some (some o)) : (Arg.r i).look s = some o := by
  show slotO s i = some o
  unfold slotO
  rw [h]
theorem own0 (s : S) : ownRefs s [] = [] := rfl
theorem own_d (s : S) (d : D) (as : List Arg) : ownRefs s (.d d :: as) = ownRefs s as := rfl
theorem own_o (s : S) (o : O) (as : List Arg) : ownRefs s (.o o :: as) = ownRefs s as := rfl
theorem own_r {s : S} {i : Nat} {o : O} (as : List Arg) (h : s[i]? = some (some o)) : ownRefs s (.r i :: as) = if o.isVal = true then ownRefs s as else i :: ownRefs s as := by
  show (match s[i]? with | some (some o) => if o.isVal = true then ownRefs s as else i :: ownRefs s as | _ => ownRefs s as) = _
  rw [h]
end Dv

/-! The operations on ints, texts, truths. -/
namespace Dv
open PySem PySem.Spec PyProof.Rows L2
theorem v_gt (a b : Int) : gGt [.int a, .int b] = some (.val (.bool (decide (b < a)))) := by
  refine (if_pos (e := (none : Option O)) (show ordOk (.int a) (.int b) = true from rfl)).trans ?_
  rw [PySem.W.dataLt_int]
theorem v_lt (a b : Int) : gLt [.int a, .int b] = some (.val (.bool (decide (a < b)))) := by
  refine (if_pos (e := (none : Option O)) (show ordOk (.int a) (.int b) = true from rfl)).trans ?_
  rw [PySem.W.dataLt_int]
theorem v_le (a b : Int) : gLe [.int a, .int b] = some (.val (.bool (decide (a ≤ b)))) := by
  refine (if_pos (e := (none : Option O)) (show ordOk (.int a) (.int b) = true from rfl)).trans ?_
  rw [PySem.W.dataLt_int]
  congr 3
  by_cases h : b < a
  · rw [decide_eq_true h, decide_eq_false (by omega)]
    rfl
  · rw [decide_eq_false h, decide_eq_true (by omega)]
    rfl
theorem v_ge (a b : Int) : gGe [.int a, .int b] = some (.val (.bool (decide (b ≤ a)))) := by
  refine (if_pos (e := (none : Option O)) (show ordOk (.int a) (.int b) = true from rfl)).trans ?_
  rw [PySem.W.dataLt_int]
  congr 3
  by_cases h : a < b
  · rw [decide_eq_true h, decide_eq_false (by omega)]
    rfl
  · rw [decide_eq_false h, decide_eq_true (by omega)]
    rfl
theorem eqv_int (a b : Int) : PyData.eqv (.int a) (.int b) = decide (a = b) := by
  rw [PyData.eqv]
  rfl
theorem v_eq (a b : Int) : gEq [.int a, .int b] = some (.val (.bool (decide (a = b)))) := by
  refine (if_pos (e := (none : Option O)) (show flat2 (.int a) (.int b) = true from rfl)).trans ?_
  rw [eqv_int]
theorem v_ne (a b : Int) : gNe [.int a, .int b] = some (.val (.bool (!decide (a = b)))) := by
  refine (if_pos (e := (none : Option O)) (show flat2 (.int a) (.int b) = true from rfl)).trans ?_
  rw [eqv_int]
theorem v_eqB (a b : Bool) : gEq [.bool a, .bool b] = some (.val (.bool (a == b))) := by
  refine (if_pos (e := (none : Option O)) (show flat2 (.bool a) (.bool b) = true from rfl)).trans ?_
  rw [PyData.eqv]
theorem v_neB (a b : Bool) : gNe [.bool a, .bool b] = some (.val (.bool (!(a == b)))) := by
  refine (if_pos (e := (none : Option O)) (show flat2 (.bool a) (.bool b) = true from rfl)).trans ?_
  rw [PyData.eqv]
theorem toD_val (d : D) : (O.val d).toD = d := rfl
theorem toD_lst (xs : List D) : (O.lst xs).toD = .list xs := rfl
theorem v_eqN : gEq [.none, .none] = some (.val (.bool true)) := by
  refine (if_pos (e := (none : Option O)) (show flat2 .none .none = true from rfl)).trans ?_
  rw [PyData.eqv]
theorem v_eqS (x : Str) : gEq [.str x, .str x] = some (.val (.bool true)) := by
  refine (if_pos (e := (none : Option O)) (show flat2 (.str x) (.str x) = true from rfl)).trans ?_
  rw [PyData.eqv, beq_self_eq_true]
theorem v_all (xs : List D) (h : ∀ d ∈ xs, d = .bool true) : gAll [.list xs] = some (.val (.bool true)) := by
  have tr : ∀ xs : List D, (∀ d ∈ xs, d = .bool true) → truths xs = some (xs.map fun _ => true) := fun xs => by
    induction xs with
    | nil => exact fun _ => rfl
    | cons x xs ih =>
      intro h
      have e := h x List.mem_cons_self
      subst e
      show (truths xs).map _ = _
      rw [ih fun d hd => h d (List.mem_cons_of_mem _ hd)]
      rfl
  show (truths xs).map _ = _
  rw [tr xs h, Option.map_some]
  congr 3
  simp
theorem v_add (a b : Int) : gAdd [.int a, .int b] = some (.val (.int (a + b))) := rfl
theorem v_sub (a b : Int) : gSub [.int a, .int b] = some (.val (.int (a - b))) := rfl
theorem v_mul (a b : Int) (h : a.natAbs < 2 ^ 64 ∨ b.natAbs < 2 ^ 64) : gMul [.int a, .int b] = some (.val (.int (a * b))) := by
  exact if_pos h
theorem v_fdiv (a b : Int) (h : 0 < b) (h2 : b < 2 ^ 100) : gFdiv [.int a, .int b] = some (.val (.int (a / b))) := by
  exact if_pos ⟨h, by omega⟩
theorem v_mod (a b : Int) (h : 0 < b) : gMod [.int a, .int b] = some (.val (.int (a % b))) := by
  exact if_pos h
theorem v_int (a : Int) : gInt [.int a] = some (.val (.int a)) := rfl
theorem v_intB (b : Bool) : gInt [.bool b] = some (.val (.int (if b then 1 else 0))) := rfl
theorem v_abs (a : Int) : gAbs [.int a] = some (.val (.int (if a < 0 then -a else a))) := rfl
theorem v_lenL (xs : List D) : gLen [.list xs] = some (.val (.int xs.length)) := rfl
theorem v_lenT (xs : List D) : gLen [.tuple xs] = some (.val (.int xs.length)) := rfl
theorem v_tupL (xs : List D) : gTuple [.list xs] = some (.val (.tuple xs)) := rfl
theorem v_tupT (xs : List D) : gTuple [.tuple xs] = some (.val (.tuple xs)) := rfl
theorem v_listL (xs : List D) : gList [.list xs] = some (.lst xs) := rfl
theorem v_ixL (xs : List D) (i : Int) : gIx [.list xs, .int i] = (atI xs i).map O.val := rfl
theorem v_ixT (xs : List D) (i : Int) : gIx [.tuple xs, .int i] = (atI xs i).map O.val := rfl
theorem v_setL (xs : List D) (j : Int) (d : D) : setL j d xs = (ixN xs.length j).map fun n => (.val .none, xs.set n d) := rfl
theorem v_isN (d : D) : gIsN [d] = some (.val (.bool (isNone d))) := rfl
theorem at_nat {α : Type} {xs : List α} {i : Int} {n : Nat} {a : α} (hi : i = (n : Int)) (h : xs[n]? = some a) : atI xs i = some a := by
  subst hi
  exact atI_nat h
theorem at_lt {α : Type} {xs : List α} {i : Int} (h0 : 0 ≤ i) (h1 : i < (xs.length : Int)) : ∃ a, atI xs i = some a ∧ a ∈ xs := by
  have hn : i.toNat < xs.length := by omega
  exact ⟨xs[i.toNat], at_nat (n := i.toNat) (by omega) (List.getElem?_eq_getElem hn), List.getElem_mem hn⟩
end Dv

/-! Data by levels; lists made tuples and tuples lists; sets of rows. -/
namespace Dv
open PySem PySem.Spec PyProof.Rows L2
def Lv : Nat → D → Prop
  | 0, _ => False
  | n + 1, .list ds => ds.length ≤ 1000 ∧ ∀ d ∈ ds, Lv n d
  | n + 1, .tuple ds => ds.length ≤ 1000 ∧ ∀ d ∈ ds, Lv n d
  | _ + 1, .dict _ => False
  | _ + 1, _ => True
mutual
def tupD : D → D
  | .list ds => .tuple (tupA ds)
  | .tuple ds => .tuple (tupA ds)
  | .none => .none
  | .bool b => .bool b
  | .int i => .int i
  | .str x => .str x
  | .dict kvs => .dict kvs
def tupA : List D → List D
  | [] => []
  | d :: ds => tupD d :: tupA ds
end
mutual
def lisD : D → D
  | .list ds => .list (lisA ds)
  | .tuple ds => .list (lisA ds)
  | .none => .none
  | .bool b => .bool b
  | .int i => .int i
  | .str x => .str x
  | .dict kvs => .dict kvs
def lisA : List D → List D
  | [] => []
  | d :: ds => lisD d :: lisA ds
end
theorem tupA_map : ∀ ds : List D, tupA ds = ds.map tupD
  | [] => by rw [tupA]; rfl
  | d :: ds => by rw [tupA, tupA_map ds]; rfl
theorem lisA_map : ∀ ds : List D, lisA ds = ds.map lisD
  | [] => by rw [lisA]; rfl
  | d :: ds => by rw [lisA, lisA_map ds]; rfl
mutual
theorem tup_lis : ∀ d : D, tupD (lisD d) = tupD d
  | .list ds => by rw [lisD, tupD, tupD, tup_lisA ds]
  | .tuple ds => by rw [lisD, tupD, tupD, tup_lisA ds]
  | .none => by rw [lisD]
  | .bool b => by rw [lisD]
  | .int i => by rw [lisD]
  | .str x => by rw [lisD]
  | .dict kvs => by rw [lisD]
theorem tup_lisA : ∀ ds : List D, tupA (lisA ds) = tupA ds
  | [] => by rw [lisA]
  | d :: ds => by rw [lisA, tupA, tupA, tup_lis d, tup_lisA ds]
end
mutual
/-- how often mixing draws -/
def szD : D → Nat
  | .list ds => szA ds + 1
  | .tuple ds => szA ds + 1
  | _ => 0
def szA : List D → Nat
  | [] => 0
  | d :: ds => szD d + szA ds
end
theorem lv_lis : ∀ (n : Nat) (d : D), Lv n d → Lv n (lisD d)
  | n + 1, .list ds, h => by
    rw [lisD, lisA_map]
    refine ⟨by rw [List.length_map]; exact h.1, fun d hd => ?_⟩
    obtain ⟨x, hx, rfl⟩ := List.mem_map.mp hd
    exact lv_lis n x (h.2 x hx)
  | n + 1, .tuple ds, h => by
    rw [lisD, lisA_map]
    refine ⟨by rw [List.length_map]; exact h.1, fun d hd => ?_⟩
    obtain ⟨x, hx, rfl⟩ := List.mem_map.mp hd
    exact lv_lis n x (h.2 x hx)
  | n + 1, .none, h => by rw [lisD]; exact h
  | n + 1, .bool _, h => by rw [lisD]; exact h
  | n + 1, .int _, h => by rw [lisD]; exact h
  | n + 1, .str _, h => by rw [lisD]; exact h
  | n + 1, .dict _, h => h.elim
theorem lv_up : ∀ {n m : Nat} {d : D}, n ≤ m → Lv n d → Lv m d
  | n + 1, m + 1, .list ds, hm, h => ⟨h.1, fun d hd => lv_up (Nat.le_of_succ_le_succ hm) (h.2 d hd)⟩
  | n + 1, m + 1, .tuple ds, hm, h => ⟨h.1, fun d hd => lv_up (Nat.le_of_succ_le_succ hm) (h.2 d hd)⟩
  | n + 1, m + 1, .none, _, h => h
  | n + 1, m + 1, .bool _, _, h => h
  | n + 1, m + 1, .int _, _, h => h
  | n + 1, m + 1, .str _, _, h => h
  | n + 1, m + 1, .dict _, _, h => h.elim
  | 0, _, _, _, h => h.elim
  | n + 1, 0, _, hm, _ => absurd hm (by omega)
theorem line_of {n : Nat} (h : n ≤ 1000) : n ≤ sizeLine := by
  rw [sizeLine_eq]
  omega
/-! ### sets -/
theorem toSKs_of : ∀ {xs : List D}, (∀ d ∈ xs, ∃ x, toSK d = some x) → ∃ ks, toSKs xs = some ks ∧ ks.length = xs.length ∧ ∀ x, x ∈ ks ↔ ∃ d ∈ xs, toSK d = some x
  | [], _ => ⟨[], rfl, rfl, fun x => ⟨fun h => (nomatch h), fun ⟨d, h, _⟩ => (nomatch h)⟩⟩
  | d :: xs, h => by
    obtain ⟨x, e1⟩ := h d List.mem_cons_self
    obtain ⟨ks, e2, e3, e4⟩ := toSKs_of fun y hy => h y (List.mem_cons_of_mem _ hy)
    refine ⟨x :: ks, ?_, by rw [List.length_cons, List.length_cons, e3], fun y => ?_⟩
    · show (toSK d).bind _ = _
      rw [e1]
      show (toSKs xs).map _ = _
      rw [e2]
      rfl
    · rw [List.mem_cons, e4]
      constructor
      · rintro (rfl | ⟨z, h1, h2⟩)
        · exact ⟨d, List.mem_cons_self, e1⟩
        · exact ⟨z, List.mem_cons_of_mem _ h1, h2⟩
      · rintro ⟨z, h1, h2⟩
        rcases List.mem_cons.mp h1 with rfl | h1
        · rw [e1] at h2
          exact .inl (Option.some.inj h2).symm
        · exact .inr ⟨z, h1, h2⟩
/-- a kind of members: alike, of one mode -/
structure Kin (R : D → Prop) (m : Bool) : Prop where
  sk : ∀ d, R d → ∃ x, toSK d = some x ∧ x.tup = m
  al : ∀ d e, R d → R e → PySem.W.alike d e = true
  so : ∀ d, R d → (if m = true then isTup1 d else isAtom d) = true
  dp : ∀ d, R d → d.depth ≤ 64
theorem kin_sortOk {R : D → Prop} {m : Bool} (k : Kin R m) {xs : List D} (h : ∀ d ∈ xs, R d) : sortOk xs = true := by
  unfold sortOk
  rw [Bool.and_eq_true, Bool.and_eq_true]
  refine ⟨⟨List.all_eq_true.mpr fun d hd => List.all_eq_true.mpr fun e he => k.al d e (h d hd) (h e he), ?_⟩, List.all_eq_true.mpr fun d hd => decide_eq_true (k.dp d (h d hd))⟩
  rw [Bool.or_eq_true]
  cases m with
  | true => exact .inl (List.all_eq_true.mpr fun d hd => by have := k.so d (h d hd); rwa [if_pos rfl] at this)
  | false => exact .inr (List.all_eq_true.mpr fun d hd => by have := k.so d (h d hd); rwa [if_neg Bool.false_ne_true] at this)
/-- sorted(set(xs)) of one kind -/
theorem kin_sset {R : D → Prop} {m : Bool} (k : Kin R m) {xs : List D} (h : ∀ d ∈ xs, R d) (hl : xs.length < 64) : ∃ ys, ssetD xs = some ys ∧ (∀ d, d ∈ ys ↔ d ∈ xs) ∧ ys.length ≤ xs.length ∧ ∀ zs : List D, (∀ d ∈ zs, R d) → zs.length < 64 → (∀ d, d ∈ zs ↔ d ∈ xs) → ssetD zs = some ys := by
  have tok : ∀ zs : List D, (∀ d ∈ zs, R d) → zs.length < 64 → ∃ ks, toSKs zs = some ks ∧ ks.length = zs.length ∧ (∀ x, x ∈ ks ↔ ∃ d ∈ zs, toSK d = some x) ∧ setOk zs ks = true := fun zs hz hzl => by
    obtain ⟨ks, e1, e2, e3⟩ := toSKs_of fun d hd => (k.sk d (hz d hd)).imp fun x hx => hx.1
    refine ⟨ks, e1, e2, e3, ?_⟩
    unfold setOk
    rw [Bool.and_eq_true, Bool.and_eq_true]
    refine ⟨⟨decide_eq_true hzl, ?_⟩, kin_sortOk k hz⟩
    have md : ∀ x ∈ ks, x.tup = m := fun x hx => by
      obtain ⟨d, hd, e⟩ := (e3 x).mp hx
      obtain ⟨y, e4, e5⟩ := k.sk d (hz d hd)
      rw [e] at e4
      cases e4
      exact e5
    rw [Bool.or_eq_true]
    cases m with
    | true => exact .inr (List.all_eq_true.mpr fun x hx => md x hx)
    | false => exact .inl (List.all_eq_true.mpr fun x hx => by rw [md x hx]; rfl)
  obtain ⟨ks, e1, e2, e3, e4⟩ := tok xs h hl
  refine ⟨ssetK ks, ?_, fun d => ?_, ?_, fun zs hz hzl hm => ?_⟩
  · unfold ssetD
    rw [e1, Option.bind_some, if_pos e4]
  · unfold ssetK sortD
    rw [isort_mem, List.mem_map]
    constructor
    · rintro ⟨x, hx, rfl⟩
      obtain ⟨d, hd, e⟩ := (e3 x).mp (ddS_mem.mp hx)
      rw [← toSK_d e]
      exact hd
    · intro hd
      obtain ⟨x, hx, _⟩ := k.sk d (h d hd)
      exact ⟨x, ddS_mem.mpr ((e3 x).mpr ⟨d, hd, hx⟩), (toSK_d hx).symm⟩
  · unfold ssetK sortD
    rw [isort_len, List.length_map, ← e2]
    have le : ∀ l : List SK, (ddS l).length ≤ l.length := fun l => by
      induction l with
      | nil => exact Nat.le_refl _
      | cons x l ih =>
        unfold ddS
        split
        · exact Nat.le_succ_of_le ih
        · exact Nat.succ_le_succ ih
    exact le ks
  · obtain ⟨js, f1, f2, f3, f4⟩ := tok zs hz hzl
    unfold ssetD
    rw [f1, Option.bind_some, if_pos f4]
    congr 1
    have al : ∀ x ∈ ks, ∀ y ∈ ks, PySem.W.alike x.d y.d = true := fun x hx y hy => by
      obtain ⟨d, hd, e⟩ := (e3 x).mp hx
      obtain ⟨d', hd', e'⟩ := (e3 y).mp hy
      rw [← toSK_d e, ← toSK_d e']
      exact k.al d d' (h d hd) (h d' hd')
    have q := sset_one (ks := ks) (L := ddS js) al (ddS_nodup js) fun x => by
      rw [ddS_mem, f3, e3]
      constructor
      · rintro ⟨d, hd, e⟩
        exact ⟨d, (hm d).mp hd, e⟩
      · rintro ⟨d, hd, e⟩
        exact ⟨d, (hm d).mpr hd, e⟩
    exact q
def NmD (d : D) : Prop := ∃ x, d = .str x
def HRow (d : D) : Prop := ∃ r p a b, d = .tuple [.str r, .str p, .int a, .int b]
def GRow (d : D) : Prop := ∃ p a b, d = .tuple [.str p, .int a, .int b]
def DRow (d : D) : Prop := ∃ r p q a b, d = .tuple [.str r, .str p, .str q, .int a, .int b]
theorem nm_kin : Kin NmD false where
  sk := fun d ⟨x, e⟩ => ⟨.k (.inr x), by rw [e]; rfl, rfl⟩
  al := fun d e ⟨x, h1⟩ ⟨y, h2⟩ => by rw [h1, h2]; rfl
  so := fun d ⟨x, e⟩ => by rw [e]; rfl
  dp := fun d ⟨x, e⟩ => by rw [e]; exact Nat.le_of_ble_eq_true rfl
theorem h_kin : Kin HRow true where
  sk := fun d ⟨r, p, a, b, e⟩ => ⟨.t [.inr r, .inr p, .inl a, .inl b], by rw [e]; rfl, rfl⟩
  al := fun d e ⟨r, p, a, b, h1⟩ ⟨r', p', a', b', h2⟩ => by rw [h1, h2]; simp [PySem.W.alike, PySem.W.alikeAll]
  so := fun d ⟨r, p, a, b, e⟩ => by rw [e]; rfl
  dp := fun d ⟨r, p, a, b, e⟩ => by rw [e]; simp [PyData.depth, PyData.depthAll]
theorem g_kin : Kin GRow true where
  sk := fun d ⟨p, a, b, e⟩ => ⟨.t [.inr p, .inl a, .inl b], by rw [e]; rfl, rfl⟩
  al := fun d e ⟨p, a, b, h1⟩ ⟨p', a', b', h2⟩ => by rw [h1, h2]; simp [PySem.W.alike, PySem.W.alikeAll]
  so := fun d ⟨p, a, b, e⟩ => by rw [e]; rfl
  dp := fun d ⟨p, a, b, e⟩ => by rw [e]; simp [PyData.depth, PyData.depthAll]
theorem d_kin : Kin DRow true where
  sk := fun d ⟨r, p, q, a, b, e⟩ => ⟨.t [.inr r, .inr p, .inr q, .inl a, .inl b], by rw [e]; rfl, rfl⟩
  al := fun d e ⟨r, p, q, a, b, h1⟩ ⟨r', p', q', a', b', h2⟩ => by rw [h1, h2]; simp [PySem.W.alike, PySem.W.alikeAll]
  so := fun d ⟨r, p, q, a, b, e⟩ => by rw [e]; rfl
  dp := fun d ⟨r, p, q, a, b, e⟩ => by rw [e]; simp [PyData.depth, PyData.depthAll]
end Dv

/-! Slices, enumerations, comprehensions of one field. -/
namespace Dv
open PySem PySem.Spec PyProof.Rows L2
theorem cut_to {α : Type} (xs : List α) (n : Nat) : cutG xs none (some (n : Int)) = xs.take n := by
  unfold cutG
  rw [HT.sIx_none, HT.sIx_nat, List.drop_zero, Nat.sub_zero]
  rcases Nat.le_total n xs.length with h | h
  · rw [Nat.min_eq_left h]
  · rw [Nat.min_eq_right h, List.take_length, List.take_of_length_le h]
theorem cut_of {α : Type} (xs : List α) (a b : Nat) : cutG xs (some (a : Int)) (some (b : Int)) = (xs.drop a).take (b - a) := by
  unfold cutG
  rw [HT.sIx_nat, HT.sIx_nat]
  rcases Nat.le_total a xs.length with h | h
  · rw [Nat.min_eq_left h]
    rcases Nat.le_total b xs.length with h2 | h2
    · rw [Nat.min_eq_left h2]
    · rw [Nat.min_eq_right h2, List.take_of_length_le (by rw [List.length_drop]; omega), List.take_of_length_le (by rw [List.length_drop]; omega)]
  · rw [Nat.min_eq_right h, List.drop_of_length_le h, List.drop_length, List.take_nil, List.take_nil]
theorem enum_mem {n : Nat} {ds : List D} {d : D} (h : d ∈ enumD n ds) : ∃ i x, x ∈ ds ∧ n ≤ i ∧ i < n + ds.length ∧ d = .tuple [.int ((i : Nat) : Int), x] := by
  obtain ⟨i, hi⟩ := List.getElem?_of_mem h
  obtain ⟨x, h1, h2⟩ := enumD_at hi
  have hl := (List.getElem?_eq_some_iff.mp h1).1
  exact ⟨n + i, x, List.mem_of_getElem? h1, by omega, by omega, h2⟩
theorem set_at {s : S} {i : Nat} {o : O} (hi : i < s.length) : (s.set i (some o))[i]? = some (some o) := List.getElem?_set_self hi
theorem set_back {s : S} {i : Nat} {x : Option O} (h : s[i]? = some none) : (s.set i x).set i none = s := by
  rw [List.set_set]
  apply List.ext_getElem?
  intro j
  by_cases c : i = j
  · subst c
    rw [List.getElem?_set_self (List.getElem?_eq_some_iff.mp h).1, h]
  · rw [List.getElem?_set_ne c]
/-- [row[k] for row in rows] -/
theorem comp_ix {i : Nat} {k : Int} {s : S} (f : D → D) (h : s[i]? = some none) : ∀ {ds : List D}, (∀ d ∈ ds, ∃ xs, d = .tuple xs ∧ atI xs k = some (f d)) → compGo [i] (gNm i) tYs (frz (mOp gIx [rB i, rV (vCon (.int k))])) ds s = some (ds.map f, s)
  | [], _ => rfl
  | d :: ds, hd => by
    have hi := (List.getElem?_eq_some_iff.mp h).1
    obtain ⟨xs, rfl, e⟩ := hd d List.mem_cons_self
    have e1 : gNm i (.val (.tuple xs)) s = some (s.set i (some (.val (.tuple xs)))) := if_pos hi
    have e2 : frz (mOp gIx [rB i, rV (vCon (.int k))]) (s.set i (some (.val (.tuple xs)))) = some (f (.tuple xs), s.set i (some (.val (.tuple xs)))) := by
      have a := set_at (s := s) (o := .val (.tuple xs)) hi
      simp only [ap_frz, ap_mOp, ap_evR1, ap_evR0, ap_rB a, ap_rV, ap_vCon, bK_some, ret1, evRF, evRG, opF, ap_looks1, ap_looks0, look_s a, look_d, lkG, opG, v_ixT, toD_val, e, Option.map_some, opH]
    unfold compGo
    rw [e1, Option.bind_some, show tYs (s.set i (some (.val (.tuple xs)))) = some (true, s.set i (some (.val (.tuple xs)))) from rfl, Option.bind_some, if_pos rfl, e2, Option.bind_some, show wS (s.set i (some (.val (.tuple xs)))) [i] = s from set_back h, comp_ix f h fun d hd' => hd d (List.mem_cons_of_mem _ hd')]
    rfl
/-- [x for row in rows for x in row[a:b]], the inner loop -/
theorem comp_id {i : Nat} {s : S} (h : s[i]? = some none) : ∀ {ds : List D}, compGo [i] (gNm i) tYs (vVar i) ds s = some (ds, s)
  | [] => rfl
  | d :: ds => by
    have hi := (List.getElem?_eq_some_iff.mp h).1
    have e1 : gNm i (.val d) s = some (s.set i (some (.val d))) := if_pos hi
    have a := set_at (s := s) (o := .val d) hi
    unfold compGo
    rw [e1, Option.bind_some, show tYs (s.set i (some (.val d))) = some (true, s.set i (some (.val d))) from rfl, Option.bind_some, if_pos rfl, ap_vVar a, Option.bind_some, List.set_set, show wS (s.set i (some (.val (O.toD (.val d))))) [i] = s from set_back h, comp_id h]
    rfl
end Dv

/-! Calls by keywords, chains, comprehensions with a body of any kind, sets of ints. -/
namespace Dv
open PySem PySem.Spec PyProof.Rows L2
def callPF (f : FD) (is : List Nat) (as : List Arg) (s : S) : Option (O × S) := match pick as is with
  | some as => callF f as s
  | none => none
theorem callM_F (f : FD) (as : List Arg) (s : S) : callM f as s = callF f as s := by
  have h := ap_mCall (s := s) f (as.map fun a => fun s => some (a, s))
  have e : mCall f (as.map fun a => fun s => some (a, s)) s = callM f as s := by
    show (evA _ s).bind _ = _
    rw [evA_const]
    rfl
  rw [← e, h, evA_const]
  rfl
theorem ap_mCallP {s : S} (f : FD) (is : List Nat) (ms : List MArg) : mCallP f is ms s = bK (callPF f is) (evA ms s) := by
  show (evA ms s).bind _ = _
  cases evA ms s with
  | none => rfl
  | some p =>
    obtain ⟨as, s⟩ := p
    show (pick as is).bind _ = callPF f is as s
    unfold callPF
    cases pick as is with
    | none => rfl
    | some as' => exact callM_F f as' s
theorem pick0 {α : Type} (xs : List α) : pick xs [] = some [] := rfl
def pickG {α : Type} : Option α → Option (List α) → Option (List α)
  | some x, some xs => some (x :: xs)
  | _, _ => none
theorem pick1 {α : Type} (xs : List α) (i : Nat) (is : List Nat) : pick xs (i :: is) = pickG xs[i]? (pick xs is) := by
  show (xs[i]?).bind _ = _
  cases xs[i]? with
  | none => rfl
  | some x =>
    show (pick xs is).map _ = _
    cases pick xs is <;> rfl
/-- a op b op' c of three things at hand -/
theorem ap_chain {g g' : List D → Option O} {ma mb mc : MR} {s s1 s2 s3 : S} {a b c : Rf} {da db dc : D} {k k' : Bool} (ha : ma s = some (a, s1)) (hb : mb s1 = some (b, s2)) (hl : looks s2 [a, b] = some [da, db]) (h1 : g [da, db] = some (.val (.bool k))) (hc : mc s2 = some (c, s3)) (hl2 : looks s3 [b, c] = some [db, dc]) (h2 : g' [db, dc] = some (.val (.bool k'))) (hs : s3 = s2) :
    oChain g g' ma mb mc s = some (.val (.bool (k && k')), s2) := by
  subst hs
  unfold oChain
  rw [ha, Option.bind_some]
  dsimp only
  rw [hb, Option.bind_some]
  dsimp only
  rw [hl, Option.bind_some, h1, Option.bind_some]
  show (if k = true then _ else _) = _
  cases k with
  | false => rfl
  | true =>
    rw [if_pos rfl, hc, Option.bind_some]
    dsimp only
    rw [hl2, Option.bind_some, h2]
    rfl
def lkB (g : List D → Option O) : Option (List D) → Option O
  | some ds => g ds
  | none => none
def chnI (g' : List D → Option O) (q r : Rf) (s : S) : Option (O × S) := opG g' (looks s [q, r]) s
def chnH (g' : List D → Option O) (mc : MR) (q : Rf) (s : S) : Option O → Option (O × S)
  | some (.val (.bool true)) => bK (chnI g' q) (mc s)
  | some (.val (.bool false)) => some (.val (.bool false), s)
  | _ => none
def chnG (g g' : List D → Option O) (mc : MR) (p q : Rf) (s : S) : Option (O × S) := chnH g' mc q s (lkB g (looks s [p, q]))
def chnF (g g' : List D → Option O) (mb mc : MR) (p : Rf) (s : S) : Option (O × S) := bK (chnG g g' mc p) (mb s)
theorem ap_oChain {s : S} (g g' : List D → Option O) (ma mb mc : MR) : oChain g g' ma mb mc s = bK (chnF g g' mb mc) (ma s) := by
  unfold oChain
  cases ma s with
  | none => rfl
  | some p =>
    obtain ⟨p, s1⟩ := p
    show (mb s1).bind _ = chnF g g' mb mc p s1
    unfold chnF
    cases mb s1 with
    | none => rfl
    | some q =>
      obtain ⟨q, s2⟩ := q
      show (looks s2 [p, q]).bind _ = chnH g' mc q s2 (lkB g (looks s2 [p, q]))
      cases looks s2 [p, q] with
      | none => rfl
      | some ds =>
        show (g ds).bind _ = chnH g' mc q s2 (g ds)
        cases g ds with
        | none => rfl
        | some o =>
          cases o with
          | lst xs => rfl
          | val d =>
            cases d with
            | bool k =>
              cases k with
              | false => rfl
              | true =>
                show (mc s2).bind _ = bK (chnI g' q) (mc s2)
                cases mc s2 with
                | none => rfl
                | some r =>
                  obtain ⟨r, s3⟩ := r
                  show (looks s3 [q, r]).bind _ = opG g' (looks s3 [q, r]) s3
                  cases looks s3 [q, r] with
                  | none => rfl
                  | some es =>
                    show (g' es).map _ = opH (g' es) s3
                    cases g' es <;> rfl
            | _ => rfl
theorem v_eqSS (x y : Str) : gEq [.str x, .str y] = some (.val (.bool (x == y))) := by
  refine (if_pos (e := (none : Option O)) (show flat2 (.str x) (.str y) = true from rfl)).trans ?_
  rw [PyData.eqv]
theorem v_neg (i : Int) : gNeg [.int i] = some (.val (.int (-i))) := rfl
/-- [e for x in xs if t] where slot i is x's and stands empty around -/
theorem comp_flt {i : Nat} {s : S} {t : MB} {e : MV} (k : D → Bool) (f : D → D) (h : s[i]? = some none) : ∀ {ds : List D}, (∀ d ∈ ds, t (s.set i (some (.val d))) = some (k d, s.set i (some (.val d))) ∧ (k d = true → e (s.set i (some (.val d))) = some (f d, s.set i (some (.val d))))) → compGo [i] (gNm i) t e ds s = some ((ds.filter k).map f, s)
  | [], _ => rfl
  | d :: ds, hd => by
    have hi := (List.getElem?_eq_some_iff.mp h).1
    obtain ⟨e1, e2⟩ := hd d List.mem_cons_self
    have e0 : gNm i (.val d) s = some (s.set i (some (.val d))) := if_pos hi
    have ih := comp_flt k f h (t := t) (e := e) fun x hx => hd x (List.mem_cons_of_mem _ hx)
    have eb : wS (s.set i (some (.val d))) [i] = s := set_back h
    unfold compGo
    rw [e0, Option.bind_some, e1, Option.bind_some]
    cases hk : k d with
    | true =>
      dsimp only
      rw [if_pos rfl, e2 hk, Option.bind_some, eb, ih, List.filter_cons_of_pos (by simp [hk])]
      rfl
    | false =>
      dsimp only
      rw [if_neg Bool.false_ne_true, eb, ih, List.filter_cons_of_neg (by simp [hk])]
theorem comp_map {i : Nat} {s : S} {e : MV} (f : D → D) (h : s[i]? = some none) {ds : List D} (hd : ∀ d ∈ ds, e (s.set i (some (.val d))) = some (f d, s.set i (some (.val d)))) : compGo [i] (gNm i) tYs e ds s = some (ds.map f, s) := by
  have q := comp_flt (t := tYs) (e := e) (fun _ => true) f h (ds := ds) fun d hd' => ⟨rfl, fun _ => hd d hd'⟩
  rw [q, List.filter_eq_self.mpr fun _ _ => rfl]
theorem lcG_ok {ys : List D} {s : S} (h : ys.length ≤ 1000) : lcG (some (ys, s)) = some (.lst ys, s) := if_pos (line_of h)
def InD (d : D) : Prop := ∃ x, d = .int x
theorem in_kin : Kin InD false where
  sk := fun d ⟨x, e⟩ => ⟨.k (.inl x), by rw [e]; rfl, rfl⟩
  al := fun d e ⟨x, h1⟩ ⟨y, h2⟩ => by rw [h1, h2]; rfl
  so := fun d ⟨x, e⟩ => by rw [e]; rfl
  dp := fun d ⟨x, e⟩ => by rw [e]; exact Nat.le_of_ble_eq_true rfl
end Dv

namespace Dv.G
open PySem PySem.Spec PyProof.Rows L2
def fuel : Nat := 100000
/-- tupled -/
def m0 (c : Nat → FD) : MS := sRet (oIf (mTru (rV (vIsi2 .list .tuple (rB 0)))) (mOp gTuple [rO (oLc [1] (iVal (vVar 0)) (gNm 1) (tYs) (frz (mCall (c 0) [aR 1])))]) (oV (vVar 0)))
/-- is_on -/
def m1 (c : Nat → FD) : MS := sRet (oChain gLe gLe (rO (mOp gIx [rB 0, rO (mOp gNeg [rV (vCon (.int 2))])])) (rB 1) (rO (mOp gIx [rB 0, rO (mOp gNeg [rV (vCon (.int 1))])])))
/-- as_set -/
def m2 (c : Nat → FD) : MS := sRet (mOp gTuple [rO (mOp gSSet [rB 0])])
/-- holders_of -/
def m3 (c : Nat → FD) : MS := sRet (mCall (c 2) [aO (oLc [3] (iVal (frz (mOp gIx [rO (mCall (c 0) [aR 0]), rV (vCon (.int 0))]))) (gNm 3) (bAnd (mBo (mOp gEq [rO (mOp gIx [rB 3, rV (vCon (.int 0))]), rB 1])) (mTru (rO (mCall (c 1) [aR 3, aR 2])))) (frz (mOp gIx [rB 3, rV (vCon (.int 1))])))])
/-- away_on -/
def m4 (c : Nat → FD) : MS := sRet (mCall (c 2) [aO (oLc [2] (iVal (frz (mOp gIx [rO (mCall (c 0) [aR 0]), rV (vCon (.int 1))]))) (gNm 2) (mTru (rO (mCall (c 1) [aR 2, aR 1]))) (frz (mOp gIx [rB 2, rV (vCon (.int 0))])))])
/-- _law_box -/
def m5 (c : Nat → FD) : MS := sSeq (sAsg (gNm 2) (oIf (mBo (mOp gLt [rB 1, rO (mOp gLen [rB 0])])) (mOp gIx [rB 0, rB 1]) (oV (vCon (.int 0))))) (sRet (oLst [rV (frz (mOp gMul [rO (mOp gAbs [rB 2]), rO (mOp gInt [rO (mOp gGe [rO (mOp gAbs [rB 2]), rO (mOp gPow [rV (vCon (.int 10)), rV (vCon (.int 18))])])])])), rV (frz (mOp gAdd [rO (mOp gAdd [rO (mOp gMod [rO (mOp gInt [rB 2]), rV (vCon (.int 2305843009213693951))]), rO (mOp gMul [rV (vCon (.int 39373)), rB 1])]), rV (vCon (.int 714))])), rV (vCon (.int 0))]))
/-- _law_take -/
def m6 (c : Nat → FD) : MS := sSeq (sIf (mBo (mOp gGt [rO (mOp gIx [rB 0, rV (vCon (.int 0))]), rV (vCon (.int 0))])) (sSeq (sAsg (gNm 2) (mOp gMod [rO (mOp gInt [rO (mOp gIx [rB 0, rV (vCon (.int 0))])]), rB 1])) (sSeq (sSetIx 0 (vCon (.int 0)) (frz (mOp gFdiv [rO (mOp gIx [rB 0, rV (vCon (.int 0))]), rB 1]))) (sRet (oMove 2)))) (sNx)) (sSeq (sSetIx 0 (vCon (.int 2)) (frz (mOp gAdd [rO (mOp gIx [rB 0, rV (vCon (.int 2))]), rV (vCon (.int 1))]))) (sSeq (sAsg (gNm 3) (mOp gMod [rO (mOp gInt [rO (mOp gMul [rO (mOp gAdd [rO (mOp gIx [rB 0, rV (vCon (.int 1))]), rO (mOp gMul [rV (vCon (.int 48271)), rO (mOp gIx [rB 0, rV (vCon (.int 2))])])]), rO (mOp gAdd [rV (vCon (.int 39373)), rO (mOp gIx [rB 0, rV (vCon (.int 2))])])])]), rV (vCon (.int 2147483647))])) (sSeq (sAsg (gNm 4) (mOp gAdd [rO (mOp gMod [rO (mOp gInt [rB 3]), rV (vCon (.int 40009))]), rV (vCon (.int 7))])) (sSeq (sAsg (gNm 5) (mOp gMod [rO (mOp gInt [rO (mOp gMul [rO (mOp gAdd [rO (mOp gAdd [rB 3, rO (mOp gIx [rB 0, rV (vCon (.int 2))])]), rO (mOp gFdiv [rO (mOp gIx [rB 0, rV (vCon (.int 1))]), rV (vCon (.int 1000003))])]), rB 4])]), rV (vCon (.int 2147483629))])) (sRet (mOp gMod [rO (mOp gInt [rO (mOp gFdiv [rO (mOp gMod [rO (mOp gInt [rO (mOp gAdd [rO (mOp gMul [rB 5, rV (vCon (.int 48271))]), rB 3])]), rV (vCon (.int 2147483587))]), rV (vCon (.int 64))])]), rB 1]))))))
/-- _law_cells -/
def m7 (c : Nat → FD) : MS := sSeq (sAsg (gNm 2) (oOr (mOp gList [rO (oSl (rB 0) pNo (pSome (vVar 1)))]) (oLst [rV (vCon (.int 0))]))) (sSeq (sFor (iPr gEnum [rV (frz (oSl (rB 0) (pSome (vVar 1)) (pSome (vCon (.int 63)))))]) (gTp [gNm 3, gNm 4]) (sSeq (sAsg (gNm 5) (mOp gMod [rO (mOp gInt [rB 3]), rB 1])) (sSetIx 2 (vVar 5) (frz (mOp gAdd [rO (mOp gIx [rB 2, rB 5]), rO (mOp gMul [rB 4, rO (mOp gAdd [rB 3, rV (vCon (.int 2))])])]))))) (sRet (oMove 2)))
/-- _law_of -/
def m8 (c : Nat → FD) : MS := sRet (mOp gIx [rB 1, rO (mCall (c 6) [aR 0, aO (mOp gLen [rB 1])])])
/-- _law_lists -/
def m9 (c : Nat → FD) : MS := sRet (oIf (mTru (rV (vIsi2 .list .tuple (rB 0)))) (oLc [1] (iVal (vVar 0)) (gNm 1) (tYs) (frz (mCall (c 9) [aR 1]))) (oV (vVar 0)))
/-- _law_same -/
def m10 (c : Nat → FD) : MS := sSeq (sIf (mTru (rV (vIsi2 .list .tuple (rB 1)))) (sSeq (sIf (bOr (mBo (mOp gNe [rV (vIsi .list (rB 0)), rV (vIsi .list (rB 1))])) (mBo (mOp gNe [rV (vIsi .tuple (rB 0)), rV (vIsi .tuple (rB 1))]))) (sRet (oV (vCon (.bool false)))) (sNx)) (sRet (oV (vAnd (frz (mOp gEq [rO (mOp gLen [rB 0]), rO (mOp gLen [rB 1])])) (frz (mOp gAll [rO (oLc [2, 3] (iPr gZip [rV (vVar 0), rV (vVar 1)]) (gTp [gNm 2, gNm 3]) (tYs) (frz (mCall (c 10) [aR 2, aR 3])))])))))) (sNx)) (sSeq (sIf (bOr (mBo (mOp gIsN [rB 1])) (mTru (rV (vIsi2 .bool .str (rB 1))))) (sRet (oV (vAnd (frz (mOp gEq [rB 0, rB 1])) (vAnd (frz (mOp gEq [rV (vIsi .bool (rB 0)), rV (vIsi .bool (rB 1))])) (frz (mOp gEq [rO (mOp gIsN [rB 0]), rO (mOp gIsN [rB 1])])))))) (sNx)) (sRet (oV (vAnd (vIsi .int (rB 0)) (vAnd (vNot (rV (vIsi .bool (rB 0)))) (frz (mOp gEq [rB 0, rB 1])))))))
/-- _law_stretch -/
def m11 (c : Nat → FD) : MS := sSeq (sAsg (gNm 2) (mCall (c 6) [aR 0, aO (mOp gAdd [rB 1, rV (vCon (.int 1))])])) (sRet (oV (vTup [rV (vVar 2), rV (frz (mOp gAdd [rB 2, rO (mCall (c 6) [aR 0, aO (mOp gSub [rO (mOp gAdd [rB 1, rV (vCon (.int 1))]), rB 2])])]))])))
/-- _law_tome -/
def m12 (c : Nat → FD) : MS := sSeq (sPar [3, 4] [oSl (rO (oLst [rV (vCon (.str "ann")), rV (vCon (.str "bob")), rV (vCon (.str "cat")), rV (vCon (.str "dan")), rV (vCon (.str "eve")), rV (vCon (.str "fay")), rV (vCon (.str "a")), rV (vCon (.str "zzzzzzzz"))])) pNo (pSome (vVar 1)), oLst [rV (vCon (.str "bob")), rV (vCon (.str "pay")), rV (vCon (.str "x"))]]) (sSeq (sPar [5, 6, 7] [oLst [], oLst [], oLst []]) (sSeq (sFor (iOp gRng [rO (mOp gAdd [rV (vCon (.int 1)), rO (mCall (c 6) [aR 0, aV (vCon (.int 6))])])]) (gNm 8) (sExp (oApp 5 (frz (mOp gAdd [rV (vTup [rV (frz (mCall (c 8) [aR 0, aR 4])), rV (frz (mCall (c 8) [aR 0, aR 3]))]), rO (mCall (c 11) [aR 0, aR 2])]))))) (sSeq (sFor (iOp gRng [rO (mCall (c 6) [aR 0, aV (vCon (.int 6))])]) (gNm 8) (sExp (oApp 6 (frz (mOp gAdd [rV (vTup [rV (frz (mCall (c 8) [aR 0, aR 3]))]), rO (mCall (c 11) [aR 0, aR 2])]))))) (sSeq (sFor (iOp gRng [rO (mCall (c 6) [aR 0, aV (vCon (.int 9))])]) (gNm 8) (sSeq (sAsg (gNm 9) (mCall (c 6) [aR 0, aR 1])) (sSeq (sAsg (gNm 10) (mOp gMod [rO (mOp gInt [rO (mOp gAdd [rO (mOp gAdd [rB 9, rV (vCon (.int 1))]), rO (mCall (c 6) [aR 0, aO (mOp gSub [rB 1, rV (vCon (.int 1))])])])]), rB 1])) (sExp (oApp 7 (frz (mOp gAdd [rV (vTup [rV (frz (mCall (c 8) [aR 0, aR 4])), rV (frz (mOp gIx [rB 3, rB 9])), rV (frz (mOp gIx [rB 3, rB 10]))]), rO (mCall (c 11) [aR 0, aR 2])]))))))) (sRet (oV (vTup [rV (frz (mOp gTuple [rO (mOp gSSet [rB 5])])), rV (frz (mOp gTuple [rO (mOp gSSet [rB 6])])), rV (frz (mOp gTuple [rO (mOp gSSet [rB 7])]))])))))))
/-- _law_held -/
def m13 (c : Nat → FD) : MS := sRet (mOp gTuple [rO (mOp gSSet [rO (oLc [3] (iVal (frz (mOp gIx [rB 0, rV (vCon (.int 0))]))) (gNm 3) (bAnd (mBo (mOp gEq [rO (mOp gIx [rB 3, rV (vCon (.int 0))]), rB 1])) (mBo (oChain gLe gLe (rO (mOp gIx [rB 3, rV (vCon (.int 2))])) (rB 2) (rO (mOp gIx [rB 3, rV (vCon (.int 3))]))))) (frz (mOp gIx [rB 3, rV (vCon (.int 1))])))])])
/-- _law_off -/
def m14 (c : Nat → FD) : MS := sRet (mOp gTuple [rO (mOp gSSet [rO (oLc [2] (iVal (frz (mOp gIx [rB 0, rV (vCon (.int 1))]))) (gNm 2) (mBo (oChain gLe gLe (rO (mOp gIx [rB 2, rV (vCon (.int 1))])) (rB 1) (rO (mOp gIx [rB 2, rV (vCon (.int 2))])))) (frz (mOp gIx [rB 2, rV (vCon (.int 0))])))])])
/-- _law_by_hand_right -/
def m15 (c : Nat → FD) : MS := sSeq (sAsg (gNm 0) (oV (vTup [rV (vTup [rV (vCon (.str "check")), rV (vCon (.str "bob")), rV (vCon (.int 0)), rV (vCon (.int 9))]), rV (vTup [rV (vCon (.str "pay")), rV (vCon (.str "ann")), rV (vCon (.int 0)), rV (vCon (.int 2))]), rV (vTup [rV (vCon (.str "pay")), rV (vCon (.str "ann")), rV (vCon (.int 2)), rV (vCon (.int 5))]), rV (vTup [rV (vCon (.str "pay")), rV (vCon (.str "cat")), rV (vCon (.int 0)), rV (vCon (.int 3))])]))) (sSeq (sAsg (gNm 0) (mOp gAdd [rB 0, rV (vTup [rV (vTup [rV (vCon (.str "pay")), rV (vCon (.str "pay")), rV (vCon (.int 4)), rV (vCon (.int 4))])])])) (sSeq (sAsg (gNm 1) (oV (vTup [rV (vVar 0), rV (vTup [rV (vTup [rV (vCon (.str "ann")), rV (vCon (.int 2)), rV (vCon (.int 5))]), rV (vTup [rV (vCon (.str "ann")), rV (vCon (.int 4)), rV (vCon (.int 7))]), rV (vTup [rV (vCon (.str "bob")), rV (vCon (.int 4)), rV (vCon (.int 4))]), rV (vTup [rV (vCon (.str "dan")), rV (vCon (.int 4)), rV (vCon (.int 6))])]), rV (vTup [rV (vTup [rV (vCon (.str "pay")), rV (vCon (.str "eve")), rV (vCon (.str "fay")), rV (vCon (.int 0)), rV (vCon (.int 40))])])]))) (sSeq (sAsg (gNm 2) (oLc [3] (iVal (vTup [rV (vCon (.int 0)), rV (vCon (.int 2)), rV (vCon (.int 3)), rV (vCon (.int 4)), rV (vCon (.int 5)), rV (vCon (.int 6))])) (gNm 3) (tYs) (frz (mCall (c 3) [aR 1, aV (vCon (.str "pay")), aR 3])))) (sSeq (sAsg (gNm 4) (oLst [rV (vTup [rV (vCon (.str "ann")), rV (vCon (.str "cat"))]), rV (vTup [rV (vCon (.str "ann")), rV (vCon (.str "cat"))]), rV (vTup [rV (vCon (.str "ann")), rV (vCon (.str "cat"))]), rV (vTup [rV (vCon (.str "ann")), rV (vCon (.str "pay"))]), rV (vTup [rV (vCon (.str "ann"))]), rV (vTup [])])) (sSeq (sAsg (gNm 2) (mOp gAdd [rB 2, rO (oLc [3] (iVal (vTup [rV (vCon (.int 1)), rV (vCon (.int 2)), rV (vCon (.int 4)), rV (vCon (.int 5)), rV (vCon (.int 7)), rV (vCon (.int 8))])) (gNm 3) (tYs) (frz (mCall (c 4) [aR 1, aR 3])))])) (sSeq (sAsg (gNm 4) (mOp gAdd [rB 4, rO (oLst [rV (vTup []), rV (vTup [rV (vCon (.str "ann"))]), rV (vTup [rV (vCon (.str "ann")), rV (vCon (.str "bob")), rV (vCon (.str "dan"))]), rV (vTup [rV (vCon (.str "ann")), rV (vCon (.str "dan"))]), rV (vTup [rV (vCon (.str "ann"))]), rV (vTup [])])])) (sSeq (sAsg (gNm 2) (mOp gAdd [rB 2, rO (oLst [rV (frz (mCall (c 3) [aR 1, aV (vCon (.str "bob")), aV (vCon (.int 0))])), rV (frz (mCall (c 3) [aR 1, aV (vCon (.str "check")), aV (vCon (.int 9))])), rV (frz (mCall (c 3) [aR 1, aV (vCon (.str "check")), aV (vCon (.int 10))]))])])) (sRet (mCall (c 10) [aO (mOp gAdd [rB 2, rO (oLst [rV (frz (mCall (c 4) [aV (vTup [rV (vTup []), rV (vTup []), rV (vTup [])]), aV (vCon (.int 0))]))])]), aO (mOp gAdd [rB 4, rO (oLst [rV (vTup []), rV (vTup [rV (vCon (.str "bob"))]), rV (vTup []), rV (vTup [])])])])))))))))
/-- _law_right -/
def m16 (c : Nat → FD) : MS := sSeq (sIf (bNot (mTru (rO (mCall (c 15) [])))) (sRet (oV (vCon (.bool false)))) (sNx)) (sSeq (sFor (iOp gRng [rV (vCon (.int 5))]) (gNm 1) (sSeq (sAsg (gNm 2) (mCall (c 12) [aR 0, aO (mOp gAdd [rV (vCon (.int 2)), rO (mCall (c 6) [aR 0, aV (vCon (.int 7))])]), aV (vCon (.int 38))])) (sSeq (sAsg (gNm 3) (mCall (c 9) [aR 2])) (sSeq (sAsg (gNm 4) (mOp gAdd [rO (mOp gAdd [rO (oLst [rV (vCon (.int 0)), rV (vCon (.int 40))]), rO (oLc [5] (iVal (frz (mOp gAdd [rO (mOp gIx [rB 2, rV (vCon (.int 0))]), rO (mOp gIx [rB 2, rV (vCon (.int 1))])]))) (gNm 5) (tYs) (frz (mOp gIx [rB 5, rO (mOp gNeg [rV (vCon (.int 2))])])))]), rO (oLc [5] (iVal (frz (mOp gAdd [rO (mOp gIx [rB 2, rV (vCon (.int 0))]), rO (mOp gIx [rB 2, rV (vCon (.int 1))])]))) (gNm 5) (tYs) (frz (mOp gIx [rB 5, rO (mOp gNeg [rV (vCon (.int 1))])])))])) (sSeq (sAsg (gNm 4) (mOp gAdd [rB 4, rO (oLc [5] (iVal (frz (mOp gAdd [rO (mOp gIx [rB 2, rV (vCon (.int 0))]), rO (mOp gIx [rB 2, rV (vCon (.int 1))])]))) (gNm 5) (tYs) (frz (mOp gAdd [rO (mOp gIx [rB 5, rO (mOp gNeg [rV (vCon (.int 1))])]), rV (vCon (.int 1))])))])) (sSeq (sFor (iVal (frz (mOp gSSet [rB 4]))) (gNm 6) (sSeq (sAsg (gNm 7) (mCall (c 14) [aR 2, aR 6])) (sSeq (sIf (bNot (mTru (rO (mCall (c 10) [aO (oLst [rV (frz (mCall (c 4) [aR 2, aR 6])), rV (frz (mCallP (c 4) [1, 0] [aR 6, aR 3]))]), aO (oLst [rV (vVar 7), rV (vVar 7)])])))) (sRet (oV (vCon (.bool false)))) (sNx)) (sFor (iVal (vTup [rV (vCon (.str "bob")), rV (vCon (.str "pay")), rV (vCon (.str "x")), rV (vCon (.str "ann")), rV (vCon (.str "none"))])) (gNm 8) (sSeq (sAsg (gNm 7) (mCall (c 13) [aR 2, aR 8, aR 6])) (sSeq (sAsg (gNm 9) (oLst [rV (frz (mCall (c 3) [aR 2, aR 8, aR 6])), rV (frz (mCallP (c 3) [2, 1, 0] [aR 6, aR 8, aR 3]))])) (sIf (bNot (mTru (rO (mCall (c 10) [aR 9, aO (oLst [rV (vVar 7), rV (vVar 7)])])))) (sRet (oV (vCon (.bool false)))) (sNx)))))))) (sIf (mBo (mOp gNe [rB 3, rO (mCall (c 9) [aR 2])])) (sRet (oV (vCon (.bool false)))) (sNx)))))))) (sRet (oV (vCon (.bool true)))))
/-- law -/
def m17 (c : Nat → FD) : MS := sSeq (sAsg (gNm 1) (mCall (c 7) [aR 0, aV (vCon (.int 3))])) (sSeq (sFor (iOp gRng [rO (mOp gLen [rB 1])]) (gNm 2) (sSeq (sAsg (gNm 3) (mCall (c 5) [aR 1, aR 2])) (sIf (bNot (mTru (rO (mOp gAll [rO (oLc [4] (iOp gRng [rV (vCon (.int 1))]) (gNm 4) (tYs) (frz (mCall (c 16) [aR 3])))])))) (sRet (oV (vCon (.bool false)))) (sNx)))) (sRet (oV (vCon (.bool true)))))
def body (c : Nat → FD) : Nat → FD
  | 0 => runDef 2 1 (m0 c)
  | 1 => runDef 2 2 (m1 c)
  | 2 => runDef 1 1 (m2 c)
  | 3 => runDef 4 3 (m3 c)
  | 4 => runDef 3 2 (m4 c)
  | 5 => runDef 3 2 (m5 c)
  | 6 => runDef 6 2 (m6 c)
  | 7 => runDef 6 2 (m7 c)
  | 8 => runDef 2 2 (m8 c)
  | 9 => runDef 2 1 (m9 c)
  | 10 => runDef 4 2 (m10 c)
  | 11 => runDef 3 2 (m11 c)
  | 12 => runDef 11 3 (m12 c)
  | 13 => runDef 4 3 (m13 c)
  | 14 => runDef 3 2 (m14 c)
  | 15 => runDef 5 0 (m15 c)
  | 16 => runDef 10 1 (m16 c)
  | 17 => runDef 5 1 (m17 c)
  | _ => fun _ => none
def C : Nat → Nat → FD
  | 0 => fun _ _ => none
  | n + 1 => body (C n)
end Dv.G

namespace Dv.G
open PySem PySem.Spec PyProof.Rows L2
abbrev t0 : Stmt := PySem.Challenge.pw_deputies_k02_who_holds_and_who_is_away.main.body.getD 1 (.Pass ⟨0, 0, 0, 0⟩)
abbrev t1 : Stmt := PySem.Challenge.pw_deputies_k02_who_holds_and_who_is_away.main.body.getD 3 (.Pass ⟨0, 0, 0, 0⟩)
abbrev t2 : Stmt := PySem.Challenge.pw_deputies_k02_who_holds_and_who_is_away.main.body.getD 4 (.Pass ⟨0, 0, 0, 0⟩)
abbrev t3 : Stmt := PySem.Challenge.pw_deputies_k02_who_holds_and_who_is_away.main.body.getD 5 (.Pass ⟨0, 0, 0, 0⟩)
abbrev t4 : Stmt := PySem.Challenge.pw_deputies_k02_who_holds_and_who_is_away.main.body.getD 6 (.Pass ⟨0, 0, 0, 0⟩)
abbrev t5 : Stmt := PySem.Challenge.pw_deputies_k02_who_holds_and_who_is_away.main.body.getD 8 (.Pass ⟨0, 0, 0, 0⟩)
abbrev t6 : Stmt := PySem.Challenge.pw_deputies_k02_who_holds_and_who_is_away.main.body.getD 9 (.Pass ⟨0, 0, 0, 0⟩)
abbrev t7 : Stmt := PySem.Challenge.pw_deputies_k02_who_holds_and_who_is_away.main.body.getD 10 (.Pass ⟨0, 0, 0, 0⟩)
abbrev t8 : Stmt := PySem.Challenge.pw_deputies_k02_who_holds_and_who_is_away.main.body.getD 11 (.Pass ⟨0, 0, 0, 0⟩)
abbrev t9 : Stmt := PySem.Challenge.pw_deputies_k02_who_holds_and_who_is_away.main.body.getD 12 (.Pass ⟨0, 0, 0, 0⟩)
abbrev t10 : Stmt := PySem.Challenge.pw_deputies_k02_who_holds_and_who_is_away.main.body.getD 13 (.Pass ⟨0, 0, 0, 0⟩)
abbrev t11 : Stmt := PySem.Challenge.pw_deputies_k02_who_holds_and_who_is_away.main.body.getD 14 (.Pass ⟨0, 0, 0, 0⟩)
abbrev t12 : Stmt := PySem.Challenge.pw_deputies_k02_who_holds_and_who_is_away.main.body.getD 15 (.Pass ⟨0, 0, 0, 0⟩)
abbrev t13 : Stmt := PySem.Challenge.pw_deputies_k02_who_holds_and_who_is_away.main.body.getD 16 (.Pass ⟨0, 0, 0, 0⟩)
abbrev t14 : Stmt := PySem.Challenge.pw_deputies_k02_who_holds_and_who_is_away.main.body.getD 17 (.Pass ⟨0, 0, 0, 0⟩)
abbrev t15 : Stmt := PySem.Challenge.pw_deputies_k02_who_holds_and_who_is_away.main.body.getD 18 (.Pass ⟨0, 0, 0, 0⟩)
abbrev t16 : Stmt := PySem.Challenge.pw_deputies_k02_who_holds_and_who_is_away.main.body.getD 19 (.Pass ⟨0, 0, 0, 0⟩)
abbrev t17 : Stmt := PySem.Challenge.pw_deputies_k02_who_holds_and_who_is_away.main.body.getD 20 (.Pass ⟨0, 0, 0, 0⟩)
section
variable {P : Program} {w : World} {K : PySem.W.Frag} {mg : Str → Option Value} {base : Heap} {fa : Nat → Addr} {fd : Nat → FuncData} {n : Nat}
structure MF (K : PySem.W.Frag) (mg : Str → Option Value) (fa : Nat → Addr) (fd : Nat → FuncData) : Prop where
  f0 : Fun K "tupled" "tupled" t0 (fa 0) (fd 0)
  g0 : mg "tupled" = some (.ref (fa 0))
  f1 : Fun K "is_on" "is_on" t1 (fa 1) (fd 1)
  g1 : mg "is_on" = some (.ref (fa 1))
  f2 : Fun K "as_set" "as_set" t2 (fa 2) (fd 2)
  g2 : mg "as_set" = some (.ref (fa 2))
  f3 : Fun K "holders_of" "holders_of" t3 (fa 3) (fd 3)
  g3 : mg "holders_of" = some (.ref (fa 3))
  f4 : Fun K "away_on" "away_on" t4 (fa 4) (fd 4)
  g4 : mg "away_on" = some (.ref (fa 4))
  f5 : Fun K "_law_box" "_law_box" t5 (fa 5) (fd 5)
  g5 : mg "_law_box" = some (.ref (fa 5))
  f6 : Fun K "_law_take" "_law_take" t6 (fa 6) (fd 6)
  g6 : mg "_law_take" = some (.ref (fa 6))
  f7 : Fun K "_law_cells" "_law_cells" t7 (fa 7) (fd 7)
  g7 : mg "_law_cells" = some (.ref (fa 7))
  f8 : Fun K "_law_of" "_law_of" t8 (fa 8) (fd 8)
  g8 : mg "_law_of" = some (.ref (fa 8))
  f9 : Fun K "_law_lists" "_law_lists" t9 (fa 9) (fd 9)
  g9 : mg "_law_lists" = some (.ref (fa 9))
  f10 : Fun K "_law_same" "_law_same" t10 (fa 10) (fd 10)
  g10 : mg "_law_same" = some (.ref (fa 10))
  f11 : Fun K "_law_stretch" "_law_stretch" t11 (fa 11) (fd 11)
  g11 : mg "_law_stretch" = some (.ref (fa 11))
  f12 : Fun K "_law_tome" "_law_tome" t12 (fa 12) (fd 12)
  g12 : mg "_law_tome" = some (.ref (fa 12))
  f13 : Fun K "_law_held" "_law_held" t13 (fa 13) (fd 13)
  g13 : mg "_law_held" = some (.ref (fa 13))
  f14 : Fun K "_law_off" "_law_off" t14 (fa 14) (fd 14)
  g14 : mg "_law_off" = some (.ref (fa 14))
  f15 : Fun K "_law_by_hand_right" "_law_by_hand_right" t15 (fa 15) (fd 15)
  g15 : mg "_law_by_hand_right" = some (.ref (fa 15))
  f16 : Fun K "_law_right" "_law_right" t16 (fa 16) (fd 16)
  g16 : mg "_law_right" = some (.ref (fa 16))
  f17 : Fun K "law" "law" t17 (fa 17) (fd 17)
  g17 : mg "law" = some (.ref (fa 17))
  z_abs : mg "abs" = none
  z_all : mg "all" = none
  z_bool : mg "bool" = none
  z_enumerate : mg "enumerate" = none
  z_int : mg "int" = none
  z_isinstance : mg "isinstance" = none
  z_len : mg "len" = none
  z_list : mg "list" = none
  z_range : mg "range" = none
  z_set : mg "set" = none
  z_sorted : mg "sorted" = none
  z_str : mg "str" = none
  z_tuple : mg "tuple" = none
  z_zip : mg "zip" = none
theorem MF.b0 (M : MF K mg fa fd) : Binds K (fd 0) ["thing"] [] := M.f0.binds (fun _ _ _ _ _ _ us hl => match us, hl with | [_], _ => rfl)
theorem MF.b1 (M : MF K mg fa fd) : Binds K (fd 1) ["row", "day"] [] := M.f1.binds (fun _ _ _ _ _ _ us hl => match us, hl with | [_, _], _ => rfl)
theorem MF.b2 (M : MF K mg fa fd) : Binds K (fd 2) ["some"] [] := M.f2.binds (fun _ _ _ _ _ _ us hl => match us, hl with | [_], _ => rfl)
theorem MF.b3 (M : MF K mg fa fd) : Binds K (fd 3) ["book", "role", "day"] [] := M.f3.binds (fun _ _ _ _ _ _ us hl => match us, hl with | [_, _, _], _ => rfl)
theorem MF.b4 (M : MF K mg fa fd) : Binds K (fd 4) ["book", "day"] [] := M.f4.binds (fun _ _ _ _ _ _ us hl => match us, hl with | [_, _], _ => rfl)
theorem MF.b5 (M : MF K mg fa fd) : Binds K (fd 5) ["_law_script", "_law_k"] [] := M.f5.binds (fun _ _ _ _ _ _ us hl => match us, hl with | [_, _], _ => rfl)
theorem MF.b6 (M : MF K mg fa fd) : Binds K (fd 6) ["_law_urn", "_law_low_so"] [] := M.f6.binds (fun _ _ _ _ _ _ us hl => match us, hl with | [_, _], _ => rfl)
theorem MF.b7 (M : MF K mg fa fd) : Binds K (fd 7) ["_law_script", "_law_top"] [] := M.f7.binds (fun _ _ _ _ _ _ us hl => match us, hl with | [_, _], _ => rfl)
theorem MF.b8 (M : MF K mg fa fd) : Binds K (fd 8) ["_law_urn", "_law_some"] [] := M.f8.binds (fun _ _ _ _ _ _ us hl => match us, hl with | [_, _], _ => rfl)
theorem MF.b9 (M : MF K mg fa fd) : Binds K (fd 9) ["_law_matter"] [] := M.f9.binds (fun _ _ _ _ _ _ us hl => match us, hl with | [_], _ => rfl)
theorem MF.b10 (M : MF K mg fa fd) : Binds K (fd 10) ["_law_got", "_law_goal"] [] := M.f10.binds (fun _ _ _ _ _ _ us hl => match us, hl with | [_, _], _ => rfl)
theorem MF.b11 (M : MF K mg fa fd) : Binds K (fd 11) ["_law_urn", "_law_top"] [] := M.f11.binds (fun _ _ _ _ _ _ us hl => match us, hl with | [_, _], _ => rfl)
theorem MF.b12 (M : MF K mg fa fd) : Binds K (fd 12) ["_law_urn", "_law_many_so", "_law_top"] [] := M.f12.binds (fun _ _ _ _ _ _ us hl => match us, hl with | [_, _, _], _ => rfl)
theorem MF.b13 (M : MF K mg fa fd) : Binds K (fd 13) ["_law_tome_here", "_law_rank", "_law_noon"] [] := M.f13.binds (fun _ _ _ _ _ _ us hl => match us, hl with | [_, _, _], _ => rfl)
theorem MF.b14 (M : MF K mg fa fd) : Binds K (fd 14) ["_law_tome_here", "_law_noon"] [] := M.f14.binds (fun _ _ _ _ _ _ us hl => match us, hl with | [_, _], _ => rfl)
theorem MF.b15 (M : MF K mg fa fd) : Binds K (fd 15) [] [] := M.f15.binds (fun _ _ _ _ _ _ us hl => match us, hl with | [], _ => rfl)
theorem MF.b16 (M : MF K mg fa fd) : Binds K (fd 16) ["_law_urn"] [] := M.f16.binds (fun _ _ _ _ _ _ us hl => match us, hl with | [_], _ => rfl)
theorem MF.b17 (M : MF K mg fa fd) : Binds K (fd 17) ["_law_script"] [] := M.f17.binds (fun _ _ _ _ _ _ us hl => match us, hl with | [_], _ => rfl)
theorem MF.x4_1_0 (M : MF K mg fa fd) : KwP (fd 4) ["book", "day"] ["day", "book"] [1, 0] := kwp_of M.f4 (fun _ _ _ _ _ _ ws ws2 hl hp => match ws, hl, hp with | [x0, x1], _, hp => by obtain rfl : [x1, x0] = ws2 := Option.some.inj hp; rfl)
theorem MF.x3_2_1_0 (M : MF K mg fa fd) : KwP (fd 3) ["book", "role", "day"] ["day", "role", "book"] [2, 1, 0] := kwp_of M.f3 (fun _ _ _ _ _ _ ws ws2 hl hp => match ws, hl, hp with | [x0, x1, x2], _, hp => by obtain rfl : [x2, x1, x0] = ws2 := Option.some.inj hp; rfl)
structure AK (P : Program) (w : World) (K : PySem.W.Frag) (mg : Str → Option Value) (base : Heap) (fa : Nat → Addr) (fd : Nat → FuncData) (n : Nat) : Prop where
  a0 : FnOk P w K mg base CX0 n (fa 0) (fd 0) ["thing"] (spOf K (C n 0))
  a1 : FnOk P w K mg base CX0 n (fa 1) (fd 1) ["row", "day"] (spOf K (C n 1))
  a2 : FnOk P w K mg base CX0 n (fa 2) (fd 2) ["some"] (spOf K (C n 2))
  a3 : FnOk P w K mg base CX0 n (fa 3) (fd 3) ["book", "role", "day"] (spOf K (C n 3))
  a4 : FnOk P w K mg base CX0 n (fa 4) (fd 4) ["book", "day"] (spOf K (C n 4))
  a5 : FnOk P w K mg base CX0 n (fa 5) (fd 5) ["_law_script", "_law_k"] (spOf K (C n 5))
  a6 : FnOk P w K mg base CX0 n (fa 6) (fd 6) ["_law_urn", "_law_low_so"] (spOf K (C n 6))
  a7 : FnOk P w K mg base CX0 n (fa 7) (fd 7) ["_law_script", "_law_top"] (spOf K (C n 7))
  a8 : FnOk P w K mg base CX0 n (fa 8) (fd 8) ["_law_urn", "_law_some"] (spOf K (C n 8))
  a9 : FnOk P w K mg base CX0 n (fa 9) (fd 9) ["_law_matter"] (spOf K (C n 9))
  a10 : FnOk P w K mg base CX0 n (fa 10) (fd 10) ["_law_got", "_law_goal"] (spOf K (C n 10))
  a11 : FnOk P w K mg base CX0 n (fa 11) (fd 11) ["_law_urn", "_law_top"] (spOf K (C n 11))
  a12 : FnOk P w K mg base CX0 n (fa 12) (fd 12) ["_law_urn", "_law_many_so", "_law_top"] (spOf K (C n 12))
  a13 : FnOk P w K mg base CX0 n (fa 13) (fd 13) ["_law_tome_here", "_law_rank", "_law_noon"] (spOf K (C n 13))
  a14 : FnOk P w K mg base CX0 n (fa 14) (fd 14) ["_law_tome_here", "_law_noon"] (spOf K (C n 14))
  a15 : FnOk P w K mg base CX0 n (fa 15) (fd 15) [] (spOf K (C n 15))
  a16 : FnOk P w K mg base CX0 n (fa 16) (fd 16) ["_law_urn"] (spOf K (C n 16))
  a17 : FnOk P w K mg base CX0 n (fa 17) (fd 17) ["_law_script"] (spOf K (C n 17))
theorem s0 : FnScope ["thing", "part"] ["thing"] (defScope t0) := ⟨rfl, rfl, rfl, by decide +kernel, rfl, by decide +kernel, by decide +kernel⟩
theorem p0 (M : MF K mg fa fd) (L : AK P w K mg base fa fd n) (f : Addr) (cdv : Value) (A : Around) (outer : List Env) (s : Shared) (H : Hp) (E : XK) (hr : Room n (A.deeper (envOfC "tupled" (defScope t0) s.heap.objs.size f cdv))) : PSs (cxOf CX0 P w K mg base ["thing", "part"] "tupled" (defScope t0) f cdv A outer s H E).nox (defBody t0) (tS 1 K (m0 (C n))) :=
  have S := s0
  have hu := room_u hr
  s_one (s_ret (e_ifo (t_tru (e_rV (e_isi2 .list .tuple (e_rB (pv 0)) (by rfl) M.z_isinstance (by boot_by_name) (by rfl) M.z_list (by boot_by_name) (by rfl) M.z_tuple (by boot_by_name)))) (e_callT (c_tuple) (by rfl) M.z_tuple (by boot_by_name) (a_cons (e_rO (e_lc (own := [("part", 1)]) S.nd (i_val (e_vVar (pv 0))) (blkOk_by (by kernel_rfl)) (fun _ _ _ _ _ => gw_name (i := 1) rfl S.nd (by first | exact Or.inl rfl | exact Or.inr rfl)) (fun _ _ _ _ _ => ts_nil) (fun _ _ _ _ _ => e_frz (e_call L.a0 hr (by rfl) M.g0 M.f0.kp M.b0 (as_cons (r_r (pv 1)) as_nil))))) a_nil)) (e_oV (e_vVar (pv 0)))))
theorem C_0 : C (n + 1) 0 = runDef 2 1 (m0 (C n)) := rfl
theorem d0 (M : MF K mg fa fd) (L : AK P w K mg base fa fd n) : FnOk P w K mg base CX0 (n + 1) (fa 0) (fd 0) ["thing"] (spOf K (C (n + 1) 0)) := by
  rw [C_0]
  exact def_ok M.f0 s0 rfl fun cdv A outer s H E hr => p0 M L (fa 0) cdv A outer s H E hr
theorem s1 : FnScope ["row", "day"] ["row", "day"] (defScope t1) := ⟨rfl, rfl, rfl, by decide +kernel, rfl, by decide +kernel, by decide +kernel⟩
theorem p1 (M : MF K mg fa fd) (L : AK P w K mg base fa fd n) (f : Addr) (cdv : Value) (A : Around) (outer : List Env) (s : Shared) (H : Hp) (E : XK) (hr : Room n (A.deeper (envOfC "is_on" (defScope t1) s.heap.objs.size f cdv))) : PSs (cxOf CX0 P w K mg base ["row", "day"] "is_on" (defScope t1) f cdv A outer s H E).nox (defBody t1) (tS 2 K (m1 (C n))) :=
  have S := s1
  have hu := room_u hr
  s_one (s_ret (e_chain (o_le hu) (o_le hu) (e_rO (e_ix (e_rB (pv 0)) (e_rO (e_neg (e_rV (e_int)))))) (e_rB (pv 1)) (e_rO (e_ix (e_rB (pv 0)) (e_rO (e_neg (e_rV (e_int))))))))
theorem C_1 : C (n + 1) 1 = runDef 2 2 (m1 (C n)) := rfl
theorem d1 (M : MF K mg fa fd) (L : AK P w K mg base fa fd n) : FnOk P w K mg base CX0 (n + 1) (fa 1) (fd 1) ["row", "day"] (spOf K (C (n + 1) 1)) := by
  rw [C_1]
  exact def_ok M.f1 s1 rfl fun cdv A outer s H E hr => p1 M L (fa 1) cdv A outer s H E hr
theorem s2 : FnScope ["some"] ["some"] (defScope t2) := ⟨rfl, rfl, rfl, by decide +kernel, rfl, by decide +kernel, by decide +kernel⟩
theorem p2 (M : MF K mg fa fd) (L : AK P w K mg base fa fd n) (f : Addr) (cdv : Value) (A : Around) (outer : List Env) (s : Shared) (H : Hp) (E : XK) (hr : Room n (A.deeper (envOfC "as_set" (defScope t2) s.heap.objs.size f cdv))) : PSs (cxOf CX0 P w K mg base ["some"] "as_set" (defScope t2) f cdv A outer s H E).nox (defBody t2) (tS 1 K (m2 (C n))) :=
  have S := s2
  have hu := room_u hr
  s_one (s_ret (e_callT (c_tuple) (by rfl) M.z_tuple (by boot_by_name) (a_cons (e_rO (e_sset rfl hu (by rfl) M.z_sorted (by rfl) M.z_set (e_rB (pv 0)))) a_nil)))
theorem C_2 : C (n + 1) 2 = runDef 1 1 (m2 (C n)) := rfl
theorem d2 (M : MF K mg fa fd) (L : AK P w K mg base fa fd n) : FnOk P w K mg base CX0 (n + 1) (fa 2) (fd 2) ["some"] (spOf K (C (n + 1) 2)) := by
  rw [C_2]
  exact def_ok M.f2 s2 rfl fun cdv A outer s H E hr => p2 M L (fa 2) cdv A outer s H E hr
theorem s3 : FnScope ["book", "role", "day", "row"] ["book", "role", "day"] (defScope t3) := ⟨rfl, rfl, rfl, by decide +kernel, rfl, by decide +kernel, by decide +kernel⟩
theorem p3 (M : MF K mg fa fd) (L : AK P w K mg base fa fd n) (f : Addr) (cdv : Value) (A : Around) (outer : List Env) (s : Shared) (H : Hp) (E : XK) (hr : Room n (A.deeper (envOfC "holders_of" (defScope t3) s.heap.objs.size f cdv))) : PSs (cxOf CX0 P w K mg base ["book", "role", "day", "row"] "holders_of" (defScope t3) f cdv A outer s H E).nox (defBody t3) (tS 3 K (m3 (C n))) :=
  have S := s3
  have hu := room_u hr
  s_one (s_ret (e_call L.a2 hr (by rfl) M.g2 M.f2.kp M.b2 (as_cons (r_o (e_lc (own := [("row", 3)]) S.nd (i_val (e_frz (e_ix (e_rO (e_call L.a0 hr (by rfl) M.g0 M.f0.kp M.b0 (as_cons (r_r (pv 0)) as_nil))) (e_rV (e_int))))) (blkOk_by (by kernel_rfl)) (fun _ _ _ _ _ => gw_name (i := 3) rfl S.nd (by first | exact Or.inl rfl | exact Or.inr rfl)) (fun _ _ _ _ _ => ts_one (t_of_w (w_and (t_cmp (o_eq hu) (e_rO (e_ix (e_rB (pv 3)) (e_rV (e_int)))) (e_rB (pv 1))) (w_and1 (t_tru (e_rO (e_call L.a1 hr (by rfl) M.g1 M.f1.kp M.b1 (as_cons (r_r (pv 3)) (as_cons (r_r (pv 2)) as_nil))))))))) (fun _ _ _ _ _ => e_frz (e_ix (e_rB (pv 3)) (e_rV (e_int)))))) as_nil)))
theorem C_3 : C (n + 1) 3 = runDef 4 3 (m3 (C n)) := rfl
theorem d3 (M : MF K mg fa fd) (L : AK P w K mg base fa fd n) : FnOk P w K mg base CX0 (n + 1) (fa 3) (fd 3) ["book", "role", "day"] (spOf K (C (n + 1) 3)) := by
  rw [C_3]
  exact def_ok M.f3 s3 rfl fun cdv A outer s H E hr => p3 M L (fa 3) cdv A outer s H E hr
theorem s4 : FnScope ["book", "day", "row"] ["book", "day"] (defScope t4) := ⟨rfl, rfl, rfl, by decide +kernel, rfl, by decide +kernel, by decide +kernel⟩
theorem p4 (M : MF K mg fa fd) (L : AK P w K mg base fa fd n) (f : Addr) (cdv : Value) (A : Around) (outer : List Env) (s : Shared) (H : Hp) (E : XK) (hr : Room n (A.deeper (envOfC "away_on" (defScope t4) s.heap.objs.size f cdv))) : PSs (cxOf CX0 P w K mg base ["book", "day", "row"] "away_on" (defScope t4) f cdv A outer s H E).nox (defBody t4) (tS 2 K (m4 (C n))) :=
  have S := s4
  have hu := room_u hr
  s_one (s_ret (e_call L.a2 hr (by rfl) M.g2 M.f2.kp M.b2 (as_cons (r_o (e_lc (own := [("row", 2)]) S.nd (i_val (e_frz (e_ix (e_rO (e_call L.a0 hr (by rfl) M.g0 M.f0.kp M.b0 (as_cons (r_r (pv 0)) as_nil))) (e_rV (e_int))))) (blkOk_by (by kernel_rfl)) (fun _ _ _ _ _ => gw_name (i := 2) rfl S.nd (by first | exact Or.inl rfl | exact Or.inr rfl)) (fun _ _ _ _ _ => ts_one (t_tru (e_rO (e_call L.a1 hr (by rfl) M.g1 M.f1.kp M.b1 (as_cons (r_r (pv 2)) (as_cons (r_r (pv 1)) as_nil)))))) (fun _ _ _ _ _ => e_frz (e_ix (e_rB (pv 2)) (e_rV (e_int)))))) as_nil)))
theorem C_4 : C (n + 1) 4 = runDef 3 2 (m4 (C n)) := rfl
theorem d4 (M : MF K mg fa fd) (L : AK P w K mg base fa fd n) : FnOk P w K mg base CX0 (n + 1) (fa 4) (fd 4) ["book", "day"] (spOf K (C (n + 1) 4)) := by
  rw [C_4]
  exact def_ok M.f4 s4 rfl fun cdv A outer s H E hr => p4 M L (fa 4) cdv A outer s H E hr
theorem s5 : FnScope ["_law_script", "_law_k", "_law_cell"] ["_law_script", "_law_k"] (defScope t5) := ⟨rfl, rfl, rfl, by decide +kernel, rfl, by decide +kernel, by decide +kernel⟩
theorem p5 (M : MF K mg fa fd) (L : AK P w K mg base fa fd n) (f : Addr) (cdv : Value) (A : Around) (outer : List Env) (s : Shared) (H : Hp) (E : XK) (hr : Room n (A.deeper (envOfC "_law_box" (defScope t5) s.heap.objs.size f cdv))) : PSs (cxOf CX0 P w K mg base ["_law_script", "_law_k", "_law_cell"] "_law_box" (defScope t5) f cdv A outer s H E).nox (defBody t5) (tS 2 K (m5 (C n))) :=
  have S := s5
  have hu := room_u hr
  s_cons (s_set (i := 2) rfl S.nd (by first | exact Or.inl rfl | exact Or.inr rfl) (e_ifo (t_cmp (o_lt hu) (e_rB (pv 1)) (e_rO (e_callB (c_len) (by rfl) M.z_len (by boot_by_name) (a_cons (e_rB (pv 0)) a_nil)))) (e_ix (e_rB (pv 0)) (e_rB (pv 1))) (e_oV (e_int)))) (s_one (s_ret (e_lst (a_cons (e_rV (e_frz (e_bin o_mul (e_rO (e_callB (c_abs) (by rfl) M.z_abs (by boot_by_name) (a_cons (e_rB (pv 2)) a_nil))) (e_rO (e_callT (c_int) (by rfl) M.z_int (by boot_by_name) (a_cons (e_rO (e_cmp (o_ge hu) (e_rO (e_callB (c_abs) (by rfl) M.z_abs (by boot_by_name) (a_cons (e_rB (pv 2)) a_nil))) (e_rO (e_bin o_pow (e_rV (e_int)) (e_rV (e_int)))))) a_nil)))))) (a_cons (e_rV (e_frz (e_bin o_add (e_rO (e_bin o_add (e_rO (e_bin o_mod (e_rO (e_callT (c_int) (by rfl) M.z_int (by boot_by_name) (a_cons (e_rB (pv 2)) a_nil))) (e_rV (e_int)))) (e_rO (e_bin o_mul (e_rV (e_int)) (e_rB (pv 1)))))) (e_rV (e_int))))) (a_cons (e_rV (e_int)) a_nil))) (le_line rfl))))
theorem C_5 : C (n + 1) 5 = runDef 3 2 (m5 (C n)) := rfl
theorem d5 (M : MF K mg fa fd) (L : AK P w K mg base fa fd n) : FnOk P w K mg base CX0 (n + 1) (fa 5) (fd 5) ["_law_script", "_law_k"] (spOf K (C (n + 1) 5)) := by
  rw [C_5]
  exact def_ok M.f5 s5 rfl fun cdv A outer s H E hr => p5 M L (fa 5) cdv A outer s H E hr
theorem s6 : FnScope ["_law_urn", "_law_low_so", "_law_drawn", "_law_once", "_law_far", "_law_twice"] ["_law_urn", "_law_low_so"] (defScope t6) := ⟨rfl, rfl, rfl, by decide +kernel, rfl, by decide +kernel, by decide +kernel⟩
theorem p6 (M : MF K mg fa fd) (L : AK P w K mg base fa fd n) (f : Addr) (cdv : Value) (A : Around) (outer : List Env) (s : Shared) (H : Hp) (E : XK) (hr : Room n (A.deeper (envOfC "_law_take" (defScope t6) s.heap.objs.size f cdv))) : PSs (cxOf CX0 P w K mg base ["_law_urn", "_law_low_so", "_law_drawn", "_law_once", "_law_far", "_law_twice"] "_law_take" (defScope t6) f cdv A outer s H E).nox (defBody t6) (tS 2 K (m6 (C n))) :=
  have S := s6
  have hu := room_u hr
  s_cons (s_if (t_cmp (o_gt hu) (e_rO (e_ix (e_rB (pv 0)) (e_rV (e_int)))) (e_rV (e_int))) (s_cons (s_set (i := 2) rfl S.nd (by first | exact Or.inl rfl | exact Or.inr rfl) (e_bin o_mod (e_rO (e_callT (c_int) (by rfl) M.z_int (by boot_by_name) (a_cons (e_rO (e_ix (e_rB (pv 0)) (e_rV (e_int)))) a_nil))) (e_rB (pv 1)))) (s_cons (s_setIx (e_frz (e_bin o_fdiv (e_rO (e_ix (e_rB (pv 0)) (e_rV (e_int)))) (e_rB (pv 1)))) (pv 0) (e_int)) (s_one (s_ret (e_oMove (pv 2)))))) (s_nil)) (s_cons (s_setIx (e_frz (e_bin o_add (e_rO (e_ix (e_rB (pv 0)) (e_rV (e_int)))) (e_rV (e_int)))) (pv 0) (e_int)) (s_cons (s_set (i := 3) rfl S.nd (by first | exact Or.inl rfl | exact Or.inr rfl) (e_bin o_mod (e_rO (e_callT (c_int) (by rfl) M.z_int (by boot_by_name) (a_cons (e_rO (e_bin o_mul (e_rO (e_bin o_add (e_rO (e_ix (e_rB (pv 0)) (e_rV (e_int)))) (e_rO (e_bin o_mul (e_rV (e_int)) (e_rO (e_ix (e_rB (pv 0)) (e_rV (e_int)))))))) (e_rO (e_bin o_add (e_rV (e_int)) (e_rO (e_ix (e_rB (pv 0)) (e_rV (e_int)))))))) a_nil))) (e_rV (e_int)))) (s_cons (s_set (i := 4) rfl S.nd (by first | exact Or.inl rfl | exact Or.inr rfl) (e_bin o_add (e_rO (e_bin o_mod (e_rO (e_callT (c_int) (by rfl) M.z_int (by boot_by_name) (a_cons (e_rB (pv 3)) a_nil))) (e_rV (e_int)))) (e_rV (e_int)))) (s_cons (s_set (i := 5) rfl S.nd (by first | exact Or.inl rfl | exact Or.inr rfl) (e_bin o_mod (e_rO (e_callT (c_int) (by rfl) M.z_int (by boot_by_name) (a_cons (e_rO (e_bin o_mul (e_rO (e_bin o_add (e_rO (e_bin o_add (e_rB (pv 3)) (e_rO (e_ix (e_rB (pv 0)) (e_rV (e_int)))))) (e_rO (e_bin o_fdiv (e_rO (e_ix (e_rB (pv 0)) (e_rV (e_int)))) (e_rV (e_int)))))) (e_rB (pv 4)))) a_nil))) (e_rV (e_int)))) (s_one (s_ret (e_bin o_mod (e_rO (e_callT (c_int) (by rfl) M.z_int (by boot_by_name) (a_cons (e_rO (e_bin o_fdiv (e_rO (e_bin o_mod (e_rO (e_callT (c_int) (by rfl) M.z_int (by boot_by_name) (a_cons (e_rO (e_bin o_add (e_rO (e_bin o_mul (e_rB (pv 5)) (e_rV (e_int)))) (e_rB (pv 3)))) a_nil))) (e_rV (e_int)))) (e_rV (e_int)))) a_nil))) (e_rB (pv 1)))))))))
theorem C_6 : C (n + 1) 6 = runDef 6 2 (m6 (C n)) := rfl
theorem d6 (M : MF K mg fa fd) (L : AK P w K mg base fa fd n) : FnOk P w K mg base CX0 (n + 1) (fa 6) (fd 6) ["_law_urn", "_law_low_so"] (spOf K (C (n + 1) 6)) := by
  rw [C_6]
  exact def_ok M.f6 s6 rfl fun cdv A outer s H E hr => p6 M L (fa 6) cdv A outer s H E hr
theorem s7 : FnScope ["_law_script", "_law_top", "_law_cells_here", "_law_k", "_law_cell", "_law_at_so"] ["_law_script", "_law_top"] (defScope t7) := ⟨rfl, rfl, rfl, by decide +kernel, rfl, by decide +kernel, by decide +kernel⟩
theorem p7 (M : MF K mg fa fd) (L : AK P w K mg base fa fd n) (f : Addr) (cdv : Value) (A : Around) (outer : List Env) (s : Shared) (H : Hp) (E : XK) (hr : Room n (A.deeper (envOfC "_law_cells" (defScope t7) s.heap.objs.size f cdv))) : PSs (cxOf CX0 P w K mg base ["_law_script", "_law_top", "_law_cells_here", "_law_k", "_law_cell", "_law_at_so"] "_law_cells" (defScope t7) f cdv A outer s H E).nox (defBody t7) (tS 2 K (m7 (C n))) :=
  have S := s7
  have hu := room_u hr
  s_cons (s_set (i := 2) rfl S.nd (by first | exact Or.inl rfl | exact Or.inr rfl) (e_oro (e_callT (c_list) (by rfl) M.z_list (by boot_by_name) (a_cons (e_rO (e_sl (e_rB (pv 0)) p_no (p_some (e_vVar (pv 1))))) a_nil)) (e_ono (e_lst (a_cons (e_rV (e_int)) a_nil) (le_line rfl))))) (s_cons (s_for PassesOwn.never (i_enum (by rfl) M.z_enumerate (a_cons (e_rV (e_frz (e_sl (e_rB (pv 0)) (p_some (e_vVar (pv 1))) (p_some (e_int))))) a_nil)) (g_tup (g_cons (g_name (i := 3) rfl S.nd (by first | exact Or.inl rfl | exact Or.inr rfl)) (g_cons (g_name (i := 4) rfl S.nd (by first | exact Or.inl rfl | exact Or.inr rfl)) (g_nil)))) (s_cons (s_set (i := 5) rfl S.nd (by first | exact Or.inl rfl | exact Or.inr rfl) (e_bin o_mod (e_rO (e_callT (c_int) (by rfl) M.z_int (by boot_by_name) (a_cons (e_rB (pv 3)) a_nil))) (e_rB (pv 1)))) (s_one (s_setIx (e_frz (e_bin o_add (e_rO (e_ix (e_rB (pv 2)) (e_rB (pv 5)))) (e_rO (e_bin o_mul (e_rB (pv 4)) (e_rO (e_bin o_add (e_rB (pv 3)) (e_rV (e_int)))))))) (pv 2) (e_vVar (pv 5)))))) (s_one (s_ret (e_oMove (pv 2)))))
theorem C_7 : C (n + 1) 7 = runDef 6 2 (m7 (C n)) := rfl
theorem d7 (M : MF K mg fa fd) (L : AK P w K mg base fa fd n) : FnOk P w K mg base CX0 (n + 1) (fa 7) (fd 7) ["_law_script", "_law_top"] (spOf K (C (n + 1) 7)) := by
  rw [C_7]
  exact def_ok M.f7 s7 rfl fun cdv A outer s H E hr => p7 M L (fa 7) cdv A outer s H E hr
theorem s8 : FnScope ["_law_urn", "_law_some"] ["_law_urn", "_law_some"] (defScope t8) := ⟨rfl, rfl, rfl, by decide +kernel, rfl, by decide +kernel, by decide +kernel⟩
theorem p8 (M : MF K mg fa fd) (L : AK P w K mg base fa fd n) (f : Addr) (cdv : Value) (A : Around) (outer : List Env) (s : Shared) (H : Hp) (E : XK) (hr : Room n (A.deeper (envOfC "_law_of" (defScope t8) s.heap.objs.size f cdv))) : PSs (cxOf CX0 P w K mg base ["_law_urn", "_law_some"] "_law_of" (defScope t8) f cdv A outer s H E).nox (defBody t8) (tS 2 K (m8 (C n))) :=
  have S := s8
  have hu := room_u hr
  s_one (s_ret (e_ix (e_rB (pv 1)) (e_rO (e_call L.a6 hr (by rfl) M.g6 M.f6.kp M.b6 (as_cons (r_r (pv 0)) (as_cons (r_o (e_callB (c_len) (by rfl) M.z_len (by boot_by_name) (a_cons (e_rB (pv 1)) a_nil))) as_nil))))))
theorem C_8 : C (n + 1) 8 = runDef 2 2 (m8 (C n)) := rfl
theorem d8 (M : MF K mg fa fd) (L : AK P w K mg base fa fd n) : FnOk P w K mg base CX0 (n + 1) (fa 8) (fd 8) ["_law_urn", "_law_some"] (spOf K (C (n + 1) 8)) := by
  rw [C_8]
  exact def_ok M.f8 s8 rfl fun cdv A outer s H E hr => p8 M L (fa 8) cdv A outer s H E hr
theorem s9 : FnScope ["_law_matter", "_law_bit"] ["_law_matter"] (defScope t9) := ⟨rfl, rfl, rfl, by decide +kernel, rfl, by decide +kernel, by decide +kernel⟩
theorem p9 (M : MF K mg fa fd) (L : AK P w K mg base fa fd n) (f : Addr) (cdv : Value) (A : Around) (outer : List Env) (s : Shared) (H : Hp) (E : XK) (hr : Room n (A.deeper (envOfC "_law_lists" (defScope t9) s.heap.objs.size f cdv))) : PSs (cxOf CX0 P w K mg base ["_law_matter", "_law_bit"] "_law_lists" (defScope t9) f cdv A outer s H E).nox (defBody t9) (tS 1 K (m9 (C n))) :=
  have S := s9
  have hu := room_u hr
  s_one (s_ret (e_ifo (t_tru (e_rV (e_isi2 .list .tuple (e_rB (pv 0)) (by rfl) M.z_isinstance (by boot_by_name) (by rfl) M.z_list (by boot_by_name) (by rfl) M.z_tuple (by boot_by_name)))) (e_lc (own := [("_law_bit", 1)]) S.nd (i_val (e_vVar (pv 0))) (blkOk_by (by kernel_rfl)) (fun _ _ _ _ _ => gw_name (i := 1) rfl S.nd (by first | exact Or.inl rfl | exact Or.inr rfl)) (fun _ _ _ _ _ => ts_nil) (fun _ _ _ _ _ => e_frz (e_call L.a9 hr (by rfl) M.g9 M.f9.kp M.b9 (as_cons (r_r (pv 1)) as_nil)))) (e_oV (e_vVar (pv 0)))))
theorem C_9 : C (n + 1) 9 = runDef 2 1 (m9 (C n)) := rfl
theorem d9 (M : MF K mg fa fd) (L : AK P w K mg base fa fd n) : FnOk P w K mg base CX0 (n + 1) (fa 9) (fd 9) ["_law_matter"] (spOf K (C (n + 1) 9)) := by
  rw [C_9]
  exact def_ok M.f9 s9 rfl fun cdv A outer s H E hr => p9 M L (fa 9) cdv A outer s H E hr
theorem s10 : FnScope ["_law_got", "_law_goal", "_law_mine_so", "_law_own"] ["_law_got", "_law_goal"] (defScope t10) := ⟨rfl, rfl, rfl, by decide +kernel, rfl, by decide +kernel, by decide +kernel⟩
theorem p10 (M : MF K mg fa fd) (L : AK P w K mg base fa fd n) (f : Addr) (cdv : Value) (A : Around) (outer : List Env) (s : Shared) (H : Hp) (E : XK) (hr : Room n (A.deeper (envOfC "_law_same" (defScope t10) s.heap.objs.size f cdv))) : PSs (cxOf CX0 P w K mg base ["_law_got", "_law_goal", "_law_mine_so", "_law_own"] "_law_same" (defScope t10) f cdv A outer s H E).nox (defBody t10) (tS 2 K (m10 (C n))) :=
  have S := s10
  have hu := room_u hr
  s_cons (s_if (t_tru (e_rV (e_isi2 .list .tuple (e_rB (pv 1)) (by rfl) M.z_isinstance (by boot_by_name) (by rfl) M.z_list (by boot_by_name) (by rfl) M.z_tuple (by boot_by_name)))) (s_cons (s_if (t_of_w (w_or (t_cmp (o_ne hu) (e_rV (e_isi .list (e_rB (pv 0)) (by rfl) M.z_isinstance (by boot_by_name) (by rfl) M.z_list (by boot_by_name))) (e_rV (e_isi .list (e_rB (pv 1)) (by rfl) M.z_isinstance (by boot_by_name) (by rfl) M.z_list (by boot_by_name)))) (w_or1 (t_cmp (o_ne hu) (e_rV (e_isi .tuple (e_rB (pv 0)) (by rfl) M.z_isinstance (by boot_by_name) (by rfl) M.z_tuple (by boot_by_name))) (e_rV (e_isi .tuple (e_rB (pv 1)) (by rfl) M.z_isinstance (by boot_by_name) (by rfl) M.z_tuple (by boot_by_name))))))) (s_one (s_ret (e_oV (e_bl)))) (s_nil)) (s_one (s_ret (e_oV (e_and (e_frz (e_cmp (o_eq hu) (e_rO (e_callB (c_len) (by rfl) M.z_len (by boot_by_name) (a_cons (e_rB (pv 0)) a_nil))) (e_rO (e_callB (c_len) (by rfl) M.z_len (by boot_by_name) (a_cons (e_rB (pv 1)) a_nil))))) (e_one (e_frz (e_callB (c_all rfl) (by rfl) M.z_all (by boot_by_name) (a_cons (e_rO (e_lc (own := [("_law_mine_so", 2), ("_law_own", 3)]) S.nd (i_zip (by rfl) M.z_zip (a_cons (e_rV (e_vVar (pv 0))) (a_cons (e_rV (e_vVar (pv 1))) a_nil))) (blkOk_by (by kernel_rfl)) (fun _ _ _ _ _ => gw_tup (gw_cons (gw_name (i := 2) rfl S.nd (by first | exact Or.inl rfl | exact Or.inr rfl)) (gw_cons (gw_name (i := 3) rfl S.nd (by first | exact Or.inl rfl | exact Or.inr rfl)) (gw_nil)))) (fun _ _ _ _ _ => ts_nil) (fun _ _ _ _ _ => e_frz (e_call L.a10 hr (by rfl) M.g10 M.f10.kp M.b10 (as_cons (r_r (pv 2)) (as_cons (r_r (pv 3)) as_nil)))))) a_nil))))))))) (s_nil)) (s_cons (s_if (t_of_w (w_or (t_isN (e_rB (pv 1))) (w_or1 (t_tru (e_rV (e_isi2 .bool .str (e_rB (pv 1)) (by rfl) M.z_isinstance (by boot_by_name) (by rfl) M.z_bool (by boot_by_name) (by rfl) M.z_str (by boot_by_name))))))) (s_one (s_ret (e_oV (e_and (e_frz (e_cmp (o_eq hu) (e_rB (pv 0)) (e_rB (pv 1)))) (e_and (e_frz (e_cmp (o_eq hu) (e_rV (e_isi .bool (e_rB (pv 0)) (by rfl) M.z_isinstance (by boot_by_name) (by rfl) M.z_bool (by boot_by_name))) (e_rV (e_isi .bool (e_rB (pv 1)) (by rfl) M.z_isinstance (by boot_by_name) (by rfl) M.z_bool (by boot_by_name))))) (e_one (e_frz (e_cmp (o_eq hu) (e_rO (e_isN (e_rB (pv 0)))) (e_rO (e_isN (e_rB (pv 1)))))))))))) (s_nil)) (s_one (s_ret (e_oV (e_and (e_isi .int (e_rB (pv 0)) (by rfl) M.z_isinstance (by boot_by_name) (by rfl) M.z_int (by boot_by_name)) (e_and (e_not (e_rV (e_isi .bool (e_rB (pv 0)) (by rfl) M.z_isinstance (by boot_by_name) (by rfl) M.z_bool (by boot_by_name)))) (e_one (e_frz (e_cmp (o_eq hu) (e_rB (pv 0)) (e_rB (pv 1)))))))))))
theorem C_10 : C (n + 1) 10 = runDef 4 2 (m10 (C n)) := rfl
theorem d10 (M : MF K mg fa fd) (L : AK P w K mg base fa fd n) : FnOk P w K mg base CX0 (n + 1) (fa 10) (fd 10) ["_law_got", "_law_goal"] (spOf K (C (n + 1) 10)) := by
  rw [C_10]
  exact def_ok M.f10 s10 rfl fun cdv A outer s H E hr => p10 M L (fa 10) cdv A outer s H E hr
theorem s11 : FnScope ["_law_urn", "_law_top", "_law_front"] ["_law_urn", "_law_top"] (defScope t11) := ⟨rfl, rfl, rfl, by decide +kernel, rfl, by decide +kernel, by decide +kernel⟩
theorem p11 (M : MF K mg fa fd) (L : AK P w K mg base fa fd n) (f : Addr) (cdv : Value) (A : Around) (outer : List Env) (s : Shared) (H : Hp) (E : XK) (hr : Room n (A.deeper (envOfC "_law_stretch" (defScope t11) s.heap.objs.size f cdv))) : PSs (cxOf CX0 P w K mg base ["_law_urn", "_law_top", "_law_front"] "_law_stretch" (defScope t11) f cdv A outer s H E).nox (defBody t11) (tS 2 K (m11 (C n))) :=
  have S := s11
  have hu := room_u hr
  s_cons (s_set (i := 2) rfl S.nd (by first | exact Or.inl rfl | exact Or.inr rfl) (e_call L.a6 hr (by rfl) M.g6 M.f6.kp M.b6 (as_cons (r_r (pv 0)) (as_cons (r_o (e_bin o_add (e_rB (pv 1)) (e_rV (e_int)))) as_nil)))) (s_one (s_ret (e_oV (e_tup (a_cons (e_rV (e_vVar (pv 2))) (a_cons (e_rV (e_frz (e_bin o_add (e_rB (pv 2)) (e_rO (e_call L.a6 hr (by rfl) M.g6 M.f6.kp M.b6 (as_cons (r_r (pv 0)) (as_cons (r_o (e_bin o_sub (e_rO (e_bin o_add (e_rB (pv 1)) (e_rV (e_int)))) (e_rB (pv 2)))) as_nil))))))) a_nil)) (le_line rfl)))))
theorem C_11 : C (n + 1) 11 = runDef 3 2 (m11 (C n)) := rfl
theorem d11 (M : MF K mg fa fd) (L : AK P w K mg base fa fd n) : FnOk P w K mg base CX0 (n + 1) (fa 11) (fd 11) ["_law_urn", "_law_top"] (spOf K (C (n + 1) 11)) := by
  rw [C_11]
  exact def_ok M.f11 s11 rfl fun cdv A outer s H E hr => p11 M L (fa 11) cdv A outer s H E hr
theorem s12 : FnScope ["_law_urn", "_law_many_so", "_law_top", "_law_crew", "_law_ranks", "_law_held_here", "_law_gone", "_law_deps", "_law_turn", "_law_k", "_law_far"] ["_law_urn", "_law_many_so", "_law_top"] (defScope t12) := ⟨rfl, rfl, rfl, by decide +kernel, rfl, by decide +kernel, by decide +kernel⟩
theorem p12 (M : MF K mg fa fd) (L : AK P w K mg base fa fd n) (f : Addr) (cdv : Value) (A : Around) (outer : List Env) (s : Shared) (H : Hp) (E : XK) (hr : Room n (A.deeper (envOfC "_law_tome" (defScope t12) s.heap.objs.size f cdv))) : PSs (cxOf CX0 P w K mg base ["_law_urn", "_law_many_so", "_law_top", "_law_crew", "_law_ranks", "_law_held_here", "_law_gone", "_law_deps", "_law_turn", "_law_k", "_law_far"] "_law_tome" (defScope t12) f cdv A outer s H E).nox (defBody t12) (tS 3 K (m12 (C n))) :=
  have S := s12
  have hu := room_u hr
  s_cons (s_par2 (i := 3) (j := 4) rfl rfl S.nd (ao_cons (e_sl (e_rO (e_lst (a_cons (e_rV (e_str)) (a_cons (e_rV (e_str)) (a_cons (e_rV (e_str)) (a_cons (e_rV (e_str)) (a_cons (e_rV (e_str)) (a_cons (e_rV (e_str)) (a_cons (e_rV (e_str)) (a_cons (e_rV (e_str)) a_nil)))))))) (le_line rfl))) p_no (p_some (e_vVar (pv 1)))) (ao_cons (e_lst (a_cons (e_rV (e_str)) (a_cons (e_rV (e_str)) (a_cons (e_rV (e_str)) a_nil))) (le_line rfl)) (ao_nil)))) (s_cons (s_par3 (i := 5) (j := 6) (l := 7) rfl rfl rfl S.nd (ao_cons (e_lst (a_nil) (le_line rfl)) (ao_cons (e_lst (a_nil) (le_line rfl)) (ao_cons (e_lst (a_nil) (le_line rfl)) (ao_nil))))) (s_cons (s_for PassesOwn.never (i_rng1 (by rfl) M.z_range (a_cons (e_rO (e_bin o_add (e_rV (e_int)) (e_rO (e_call L.a6 hr (by rfl) M.g6 M.f6.kp M.b6 (as_cons (r_r (pv 0)) (as_cons (r_v (e_int)) as_nil)))))) a_nil)) (g_name (i := 8) rfl S.nd (by first | exact Or.inl rfl | exact Or.inr rfl)) (s_one (s_exp (e_app (pv 5) (e_frz (e_bin o_add (e_rV (e_tup (a_cons (e_rV (e_frz (e_call L.a8 hr (by rfl) M.g8 M.f8.kp M.b8 (as_cons (r_r (pv 0)) (as_cons (r_r (pv 4)) as_nil))))) (a_cons (e_rV (e_frz (e_call L.a8 hr (by rfl) M.g8 M.f8.kp M.b8 (as_cons (r_r (pv 0)) (as_cons (r_r (pv 3)) as_nil))))) a_nil)) (le_line rfl))) (e_rO (e_call L.a11 hr (by rfl) M.g11 M.f11.kp M.b11 (as_cons (r_r (pv 0)) (as_cons (r_r (pv 2)) as_nil)))))))))) (s_cons (s_for PassesOwn.never (i_rng1 (by rfl) M.z_range (a_cons (e_rO (e_call L.a6 hr (by rfl) M.g6 M.f6.kp M.b6 (as_cons (r_r (pv 0)) (as_cons (r_v (e_int)) as_nil)))) a_nil)) (g_name (i := 8) rfl S.nd (by first | exact Or.inl rfl | exact Or.inr rfl)) (s_one (s_exp (e_app (pv 6) (e_frz (e_bin o_add (e_rV (e_tup (a_cons (e_rV (e_frz (e_call L.a8 hr (by rfl) M.g8 M.f8.kp M.b8 (as_cons (r_r (pv 0)) (as_cons (r_r (pv 3)) as_nil))))) a_nil) (le_line rfl))) (e_rO (e_call L.a11 hr (by rfl) M.g11 M.f11.kp M.b11 (as_cons (r_r (pv 0)) (as_cons (r_r (pv 2)) as_nil)))))))))) (s_cons (s_for PassesOwn.never (i_rng1 (by rfl) M.z_range (a_cons (e_rO (e_call L.a6 hr (by rfl) M.g6 M.f6.kp M.b6 (as_cons (r_r (pv 0)) (as_cons (r_v (e_int)) as_nil)))) a_nil)) (g_name (i := 8) rfl S.nd (by first | exact Or.inl rfl | exact Or.inr rfl)) (s_cons (s_set (i := 9) rfl S.nd (by first | exact Or.inl rfl | exact Or.inr rfl) (e_call L.a6 hr (by rfl) M.g6 M.f6.kp M.b6 (as_cons (r_r (pv 0)) (as_cons (r_r (pv 1)) as_nil)))) (s_cons (s_set (i := 10) rfl S.nd (by first | exact Or.inl rfl | exact Or.inr rfl) (e_bin o_mod (e_rO (e_callT (c_int) (by rfl) M.z_int (by boot_by_name) (a_cons (e_rO (e_bin o_add (e_rO (e_bin o_add (e_rB (pv 9)) (e_rV (e_int)))) (e_rO (e_call L.a6 hr (by rfl) M.g6 M.f6.kp M.b6 (as_cons (r_r (pv 0)) (as_cons (r_o (e_bin o_sub (e_rB (pv 1)) (e_rV (e_int)))) as_nil)))))) a_nil))) (e_rB (pv 1)))) (s_one (s_exp (e_app (pv 7) (e_frz (e_bin o_add (e_rV (e_tup (a_cons (e_rV (e_frz (e_call L.a8 hr (by rfl) M.g8 M.f8.kp M.b8 (as_cons (r_r (pv 0)) (as_cons (r_r (pv 4)) as_nil))))) (a_cons (e_rV (e_frz (e_ix (e_rB (pv 3)) (e_rB (pv 9))))) (a_cons (e_rV (e_frz (e_ix (e_rB (pv 3)) (e_rB (pv 10))))) a_nil))) (le_line rfl))) (e_rO (e_call L.a11 hr (by rfl) M.g11 M.f11.kp M.b11 (as_cons (r_r (pv 0)) (as_cons (r_r (pv 2)) as_nil)))))))))))) (s_one (s_ret (e_oV (e_tup (a_cons (e_rV (e_frz (e_callT (c_tuple) (by rfl) M.z_tuple (by boot_by_name) (a_cons (e_rO (e_sset rfl hu (by rfl) M.z_sorted (by rfl) M.z_set (e_rB (pv 5)))) a_nil)))) (a_cons (e_rV (e_frz (e_callT (c_tuple) (by rfl) M.z_tuple (by boot_by_name) (a_cons (e_rO (e_sset rfl hu (by rfl) M.z_sorted (by rfl) M.z_set (e_rB (pv 6)))) a_nil)))) (a_cons (e_rV (e_frz (e_callT (c_tuple) (by rfl) M.z_tuple (by boot_by_name) (a_cons (e_rO (e_sset rfl hu (by rfl) M.z_sorted (by rfl) M.z_set (e_rB (pv 7)))) a_nil)))) a_nil))) (le_line rfl)))))))))
theorem C_12 : C (n + 1) 12 = runDef 11 3 (m12 (C n)) := rfl
theorem d12 (M : MF K mg fa fd) (L : AK P w K mg base fa fd n) : FnOk P w K mg base CX0 (n + 1) (fa 12) (fd 12) ["_law_urn", "_law_many_so", "_law_top"] (spOf K (C (n + 1) 12)) := by
  rw [C_12]
  exact def_ok M.f12 s12 rfl fun cdv A outer s H E hr => p12 M L (fa 12) cdv A outer s H E hr
theorem s13 : FnScope ["_law_tome_here", "_law_rank", "_law_noon", "_law_own"] ["_law_tome_here", "_law_rank", "_law_noon"] (defScope t13) := ⟨rfl, rfl, rfl, by decide +kernel, rfl, by decide +kernel, by decide +kernel⟩
theorem p13 (M : MF K mg fa fd) (L : AK P w K mg base fa fd n) (f : Addr) (cdv : Value) (A : Around) (outer : List Env) (s : Shared) (H : Hp) (E : XK) (hr : Room n (A.deeper (envOfC "_law_held" (defScope t13) s.heap.objs.size f cdv))) : PSs (cxOf CX0 P w K mg base ["_law_tome_here", "_law_rank", "_law_noon", "_law_own"] "_law_held" (defScope t13) f cdv A outer s H E).nox (defBody t13) (tS 3 K (m13 (C n))) :=
  have S := s13
  have hu := room_u hr
  s_one (s_ret (e_callT (c_tuple) (by rfl) M.z_tuple (by boot_by_name) (a_cons (e_rO (e_sset rfl hu (by rfl) M.z_sorted (by rfl) M.z_set (e_rO (e_lc (own := [("_law_own", 3)]) S.nd (i_val (e_frz (e_ix (e_rB (pv 0)) (e_rV (e_int))))) (blkOk_by (by kernel_rfl)) (fun _ _ _ _ _ => gw_name (i := 3) rfl S.nd (by first | exact Or.inl rfl | exact Or.inr rfl)) (fun _ _ _ _ _ => ts_one (t_of_w (w_and (t_cmp (o_eq hu) (e_rO (e_ix (e_rB (pv 3)) (e_rV (e_int)))) (e_rB (pv 1))) (w_and1 (t_chain (o_le hu) (o_le hu) (e_rO (e_ix (e_rB (pv 3)) (e_rV (e_int)))) (e_rB (pv 2)) (e_rO (e_ix (e_rB (pv 3)) (e_rV (e_int))))))))) (fun _ _ _ _ _ => e_frz (e_ix (e_rB (pv 3)) (e_rV (e_int)))))))) a_nil)))
theorem C_13 : C (n + 1) 13 = runDef 4 3 (m13 (C n)) := rfl
theorem d13 (M : MF K mg fa fd) (L : AK P w K mg base fa fd n) : FnOk P w K mg base CX0 (n + 1) (fa 13) (fd 13) ["_law_tome_here", "_law_rank", "_law_noon"] (spOf K (C (n + 1) 13)) := by
  rw [C_13]
  exact def_ok M.f13 s13 rfl fun cdv A outer s H E hr => p13 M L (fa 13) cdv A outer s H E hr
theorem s14 : FnScope ["_law_tome_here", "_law_noon", "_law_own"] ["_law_tome_here", "_law_noon"] (defScope t14) := ⟨rfl, rfl, rfl, by decide +kernel, rfl, by decide +kernel, by decide +kernel⟩
theorem p14 (M : MF K mg fa fd) (L : AK P w K mg base fa fd n) (f : Addr) (cdv : Value) (A : Around) (outer : List Env) (s : Shared) (H : Hp) (E : XK) (hr : Room n (A.deeper (envOfC "_law_off" (defScope t14) s.heap.objs.size f cdv))) : PSs (cxOf CX0 P w K mg base ["_law_tome_here", "_law_noon", "_law_own"] "_law_off" (defScope t14) f cdv A outer s H E).nox (defBody t14) (tS 2 K (m14 (C n))) :=
  have S := s14
  have hu := room_u hr
  s_one (s_ret (e_callT (c_tuple) (by rfl) M.z_tuple (by boot_by_name) (a_cons (e_rO (e_sset rfl hu (by rfl) M.z_sorted (by rfl) M.z_set (e_rO (e_lc (own := [("_law_own", 2)]) S.nd (i_val (e_frz (e_ix (e_rB (pv 0)) (e_rV (e_int))))) (blkOk_by (by kernel_rfl)) (fun _ _ _ _ _ => gw_name (i := 2) rfl S.nd (by first | exact Or.inl rfl | exact Or.inr rfl)) (fun _ _ _ _ _ => ts_one (t_chain (o_le hu) (o_le hu) (e_rO (e_ix (e_rB (pv 2)) (e_rV (e_int)))) (e_rB (pv 1)) (e_rO (e_ix (e_rB (pv 2)) (e_rV (e_int)))))) (fun _ _ _ _ _ => e_frz (e_ix (e_rB (pv 2)) (e_rV (e_int)))))))) a_nil)))
theorem C_14 : C (n + 1) 14 = runDef 3 2 (m14 (C n)) := rfl
theorem d14 (M : MF K mg fa fd) (L : AK P w K mg base fa fd n) : FnOk P w K mg base CX0 (n + 1) (fa 14) (fd 14) ["_law_tome_here", "_law_noon"] (spOf K (C (n + 1) 14)) := by
  rw [C_14]
  exact def_ok M.f14 s14 rfl fun cdv A outer s H E hr => p14 M L (fa 14) cdv A outer s H E hr
theorem s15 : FnScope ["_law_held_here", "_law_tome_here", "_law_got", "_law_own", "_law_goal"] [] (defScope t15) := ⟨rfl, rfl, rfl, by decide +kernel, rfl, by decide +kernel, by decide +kernel⟩
theorem p15 (M : MF K mg fa fd) (L : AK P w K mg base fa fd n) (f : Addr) (cdv : Value) (A : Around) (outer : List Env) (s : Shared) (H : Hp) (E : XK) (hr : Room n (A.deeper (envOfC "_law_by_hand_right" (defScope t15) s.heap.objs.size f cdv))) : PSs (cxOf CX0 P w K mg base ["_law_held_here", "_law_tome_here", "_law_got", "_law_own", "_law_goal"] "_law_by_hand_right" (defScope t15) f cdv A outer s H E).nox (defBody t15) (tS 0 K (m15 (C n))) :=
  have S := s15
  have hu := room_u hr
  s_cons (s_set (i := 0) rfl S.nd (by first | exact Or.inl rfl | exact Or.inr rfl) (e_oV (e_tup (a_cons (e_rV (e_tup (a_cons (e_rV (e_str)) (a_cons (e_rV (e_str)) (a_cons (e_rV (e_int)) (a_cons (e_rV (e_int)) a_nil)))) (le_line rfl))) (a_cons (e_rV (e_tup (a_cons (e_rV (e_str)) (a_cons (e_rV (e_str)) (a_cons (e_rV (e_int)) (a_cons (e_rV (e_int)) a_nil)))) (le_line rfl))) (a_cons (e_rV (e_tup (a_cons (e_rV (e_str)) (a_cons (e_rV (e_str)) (a_cons (e_rV (e_int)) (a_cons (e_rV (e_int)) a_nil)))) (le_line rfl))) (a_cons (e_rV (e_tup (a_cons (e_rV (e_str)) (a_cons (e_rV (e_str)) (a_cons (e_rV (e_int)) (a_cons (e_rV (e_int)) a_nil)))) (le_line rfl))) a_nil)))) (le_line rfl)))) (s_cons (s_set (i := 0) rfl S.nd (by first | exact Or.inl rfl | exact Or.inr rfl) (e_bin o_add (e_rB (pv 0)) (e_rV (e_tup (a_cons (e_rV (e_tup (a_cons (e_rV (e_str)) (a_cons (e_rV (e_str)) (a_cons (e_rV (e_int)) (a_cons (e_rV (e_int)) a_nil)))) (le_line rfl))) a_nil) (le_line rfl))))) (s_cons (s_set (i := 1) rfl S.nd (by first | exact Or.inl rfl | exact Or.inr rfl) (e_oV (e_tup (a_cons (e_rV (e_vVar (pv 0))) (a_cons (e_rV (e_tup (a_cons (e_rV (e_tup (a_cons (e_rV (e_str)) (a_cons (e_rV (e_int)) (a_cons (e_rV (e_int)) a_nil))) (le_line rfl))) (a_cons (e_rV (e_tup (a_cons (e_rV (e_str)) (a_cons (e_rV (e_int)) (a_cons (e_rV (e_int)) a_nil))) (le_line rfl))) (a_cons (e_rV (e_tup (a_cons (e_rV (e_str)) (a_cons (e_rV (e_int)) (a_cons (e_rV (e_int)) a_nil))) (le_line rfl))) (a_cons (e_rV (e_tup (a_cons (e_rV (e_str)) (a_cons (e_rV (e_int)) (a_cons (e_rV (e_int)) a_nil))) (le_line rfl))) a_nil)))) (le_line rfl))) (a_cons (e_rV (e_tup (a_cons (e_rV (e_tup (a_cons (e_rV (e_str)) (a_cons (e_rV (e_str)) (a_cons (e_rV (e_str)) (a_cons (e_rV (e_int)) (a_cons (e_rV (e_int)) a_nil))))) (le_line rfl))) a_nil) (le_line rfl))) a_nil))) (le_line rfl)))) (s_cons (s_setLc (i := 2) (own := [("_law_own", 3)]) rfl S.nd rfl (i_val (e_tup (a_cons (e_rV (e_int)) (a_cons (e_rV (e_int)) (a_cons (e_rV (e_int)) (a_cons (e_rV (e_int)) (a_cons (e_rV (e_int)) (a_cons (e_rV (e_int)) a_nil)))))) (le_line rfl))) (blkOk_by (by kernel_rfl)) (fun _ _ _ _ _ => gw_name (i := 3) rfl S.nd (by first | exact Or.inl rfl | exact Or.inr rfl)) (fun _ _ _ _ _ => ts_nil) (fun _ _ _ _ _ => e_frz (e_call L.a3 hr (by rfl) M.g3 M.f3.kp M.b3 (as_cons (r_r (pv 1)) (as_cons (r_v (e_str)) (as_cons (r_r (pv 3)) as_nil)))))) (s_cons (s_set (i := 4) rfl S.nd (by first | exact Or.inl rfl | exact Or.inr rfl) (e_lst (a_cons (e_rV (e_tup (a_cons (e_rV (e_str)) (a_cons (e_rV (e_str)) a_nil)) (le_line rfl))) (a_cons (e_rV (e_tup (a_cons (e_rV (e_str)) (a_cons (e_rV (e_str)) a_nil)) (le_line rfl))) (a_cons (e_rV (e_tup (a_cons (e_rV (e_str)) (a_cons (e_rV (e_str)) a_nil)) (le_line rfl))) (a_cons (e_rV (e_tup (a_cons (e_rV (e_str)) (a_cons (e_rV (e_str)) a_nil)) (le_line rfl))) (a_cons (e_rV (e_tup (a_cons (e_rV (e_str)) a_nil) (le_line rfl))) (a_cons (e_rV (e_tup (a_nil) (le_line rfl))) a_nil)))))) (le_line rfl))) (s_cons (s_set (i := 2) rfl S.nd (by first | exact Or.inl rfl | exact Or.inr rfl) (e_bin o_add (e_rB (pv 2)) (e_rO (e_lc (own := [("_law_own", 3)]) S.nd (i_val (e_tup (a_cons (e_rV (e_int)) (a_cons (e_rV (e_int)) (a_cons (e_rV (e_int)) (a_cons (e_rV (e_int)) (a_cons (e_rV (e_int)) (a_cons (e_rV (e_int)) a_nil)))))) (le_line rfl))) (blkOk_by (by kernel_rfl)) (fun _ _ _ _ _ => gw_name (i := 3) rfl S.nd (by first | exact Or.inl rfl | exact Or.inr rfl)) (fun _ _ _ _ _ => ts_nil) (fun _ _ _ _ _ => e_frz (e_call L.a4 hr (by rfl) M.g4 M.f4.kp M.b4 (as_cons (r_r (pv 1)) (as_cons (r_r (pv 3)) as_nil)))))))) (s_cons (s_set (i := 4) rfl S.nd (by first | exact Or.inl rfl | exact Or.inr rfl) (e_bin o_add (e_rB (pv 4)) (e_rO (e_lst (a_cons (e_rV (e_tup (a_nil) (le_line rfl))) (a_cons (e_rV (e_tup (a_cons (e_rV (e_str)) a_nil) (le_line rfl))) (a_cons (e_rV (e_tup (a_cons (e_rV (e_str)) (a_cons (e_rV (e_str)) (a_cons (e_rV (e_str)) a_nil))) (le_line rfl))) (a_cons (e_rV (e_tup (a_cons (e_rV (e_str)) (a_cons (e_rV (e_str)) a_nil)) (le_line rfl))) (a_cons (e_rV (e_tup (a_cons (e_rV (e_str)) a_nil) (le_line rfl))) (a_cons (e_rV (e_tup (a_nil) (le_line rfl))) a_nil)))))) (le_line rfl))))) (s_cons (s_set (i := 2) rfl S.nd (by first | exact Or.inl rfl | exact Or.inr rfl) (e_bin o_add (e_rB (pv 2)) (e_rO (e_lst (a_cons (e_rV (e_frz (e_call L.a3 hr (by rfl) M.g3 M.f3.kp M.b3 (as_cons (r_r (pv 1)) (as_cons (r_v (e_str)) (as_cons (r_v (e_int)) as_nil)))))) (a_cons (e_rV (e_frz (e_call L.a3 hr (by rfl) M.g3 M.f3.kp M.b3 (as_cons (r_r (pv 1)) (as_cons (r_v (e_str)) (as_cons (r_v (e_int)) as_nil)))))) (a_cons (e_rV (e_frz (e_call L.a3 hr (by rfl) M.g3 M.f3.kp M.b3 (as_cons (r_r (pv 1)) (as_cons (r_v (e_str)) (as_cons (r_v (e_int)) as_nil)))))) a_nil))) (le_line rfl))))) (s_one (s_ret (e_call L.a10 hr (by rfl) M.g10 M.f10.kp M.b10 (as_cons (r_o (e_bin o_add (e_rB (pv 2)) (e_rO (e_lst (a_cons (e_rV (e_frz (e_call L.a4 hr (by rfl) M.g4 M.f4.kp M.b4 (as_cons (r_v (e_tup (a_cons (e_rV (e_tup (a_nil) (le_line rfl))) (a_cons (e_rV (e_tup (a_nil) (le_line rfl))) (a_cons (e_rV (e_tup (a_nil) (le_line rfl))) a_nil))) (le_line rfl))) (as_cons (r_v (e_int)) as_nil))))) a_nil) (le_line rfl))))) (as_cons (r_o (e_bin o_add (e_rB (pv 4)) (e_rO (e_lst (a_cons (e_rV (e_tup (a_nil) (le_line rfl))) (a_cons (e_rV (e_tup (a_cons (e_rV (e_str)) a_nil) (le_line rfl))) (a_cons (e_rV (e_tup (a_nil) (le_line rfl))) (a_cons (e_rV (e_tup (a_nil) (le_line rfl))) a_nil)))) (le_line rfl))))) as_nil))))))))))))
theorem C_15 : C (n + 1) 15 = runDef 5 0 (m15 (C n)) := rfl
theorem d15 (M : MF K mg fa fd) (L : AK P w K mg base fa fd n) : FnOk P w K mg base CX0 (n + 1) (fa 15) (fd 15) [] (spOf K (C (n + 1) 15)) := by
  rw [C_15]
  exact def_ok M.f15 s15 rfl fun cdv A outer s H E hr => p15 M L (fa 15) cdv A outer s H E hr
theorem s16 : FnScope ["_law_urn", "_law_turn", "_law_tome_here", "_law_soft", "_law_days_so", "_law_own", "_law_noon", "_law_goal", "_law_rank", "_law_got"] ["_law_urn"] (defScope t16) := ⟨rfl, rfl, rfl, by decide +kernel, rfl, by decide +kernel, by decide +kernel⟩
theorem p16 (M : MF K mg fa fd) (L : AK P w K mg base fa fd n) (f : Addr) (cdv : Value) (A : Around) (outer : List Env) (s : Shared) (H : Hp) (E : XK) (hr : Room n (A.deeper (envOfC "_law_right" (defScope t16) s.heap.objs.size f cdv))) : PSs (cxOf CX0 P w K mg base ["_law_urn", "_law_turn", "_law_tome_here", "_law_soft", "_law_days_so", "_law_own", "_law_noon", "_law_goal", "_law_rank", "_law_got"] "_law_right" (defScope t16) f cdv A outer s H E).nox (defBody t16) (tS 1 K (m16 (C n))) :=
  have S := s16
  have hu := room_u hr
  s_cons (s_if (t_not (t_tru (e_rO (e_call0 L.a15 hr (by rfl) M.g15 M.f15.kp M.b15)))) (s_one (s_ret (e_oV (e_bl)))) (s_nil)) (s_cons (s_for PassesOwn.never (i_rng1 (by rfl) M.z_range (a_cons (e_rV (e_int)) a_nil)) (g_name (i := 1) rfl S.nd (by first | exact Or.inl rfl | exact Or.inr rfl)) (s_cons (s_set (i := 2) rfl S.nd (by first | exact Or.inl rfl | exact Or.inr rfl) (e_call L.a12 hr (by rfl) M.g12 M.f12.kp M.b12 (as_cons (r_r (pv 0)) (as_cons (r_o (e_bin o_add (e_rV (e_int)) (e_rO (e_call L.a6 hr (by rfl) M.g6 M.f6.kp M.b6 (as_cons (r_r (pv 0)) (as_cons (r_v (e_int)) as_nil)))))) (as_cons (r_v (e_int)) as_nil))))) (s_cons (s_set (i := 3) rfl S.nd (by first | exact Or.inl rfl | exact Or.inr rfl) (e_call L.a9 hr (by rfl) M.g9 M.f9.kp M.b9 (as_cons (r_r (pv 2)) as_nil))) (s_cons (s_set (i := 4) rfl S.nd (by first | exact Or.inl rfl | exact Or.inr rfl) (e_bin o_add (e_rO (e_bin o_add (e_rO (e_lst (a_cons (e_rV (e_int)) (a_cons (e_rV (e_int)) a_nil)) (le_line rfl))) (e_rO (e_lc (own := [("_law_own", 5)]) S.nd (i_val (e_frz (e_bin o_add (e_rO (e_ix (e_rB (pv 2)) (e_rV (e_int)))) (e_rO (e_ix (e_rB (pv 2)) (e_rV (e_int))))))) (blkOk_by (by kernel_rfl)) (fun _ _ _ _ _ => gw_name (i := 5) rfl S.nd (by first | exact Or.inl rfl | exact Or.inr rfl)) (fun _ _ _ _ _ => ts_nil) (fun _ _ _ _ _ => e_frz (e_ix (e_rB (pv 5)) (e_rO (e_neg (e_rV (e_int)))))))))) (e_rO (e_lc (own := [("_law_own", 5)]) S.nd (i_val (e_frz (e_bin o_add (e_rO (e_ix (e_rB (pv 2)) (e_rV (e_int)))) (e_rO (e_ix (e_rB (pv 2)) (e_rV (e_int))))))) (blkOk_by (by kernel_rfl)) (fun _ _ _ _ _ => gw_name (i := 5) rfl S.nd (by first | exact Or.inl rfl | exact Or.inr rfl)) (fun _ _ _ _ _ => ts_nil) (fun _ _ _ _ _ => e_frz (e_ix (e_rB (pv 5)) (e_rO (e_neg (e_rV (e_int)))))))))) (s_cons (s_set (i := 4) rfl S.nd (by first | exact Or.inl rfl | exact Or.inr rfl) (e_bin o_add (e_rB (pv 4)) (e_rO (e_lc (own := [("_law_own", 5)]) S.nd (i_val (e_frz (e_bin o_add (e_rO (e_ix (e_rB (pv 2)) (e_rV (e_int)))) (e_rO (e_ix (e_rB (pv 2)) (e_rV (e_int))))))) (blkOk_by (by kernel_rfl)) (fun _ _ _ _ _ => gw_name (i := 5) rfl S.nd (by first | exact Or.inl rfl | exact Or.inr rfl)) (fun _ _ _ _ _ => ts_nil) (fun _ _ _ _ _ => e_frz (e_bin o_add (e_rO (e_ix (e_rB (pv 5)) (e_rO (e_neg (e_rV (e_int)))))) (e_rV (e_int)))))))) (s_cons (s_for PassesOwn.never (i_val (e_frz (e_sset rfl hu (by rfl) M.z_sorted (by rfl) M.z_set (e_rB (pv 4))))) (g_name (i := 6) rfl S.nd (by first | exact Or.inl rfl | exact Or.inr rfl)) (s_cons (s_set (i := 7) rfl S.nd (by first | exact Or.inl rfl | exact Or.inr rfl) (e_call L.a14 hr (by rfl) M.g14 M.f14.kp M.b14 (as_cons (r_r (pv 2)) (as_cons (r_r (pv 6)) as_nil)))) (s_cons (s_if (t_not (t_tru (e_rO (e_call L.a10 hr (by rfl) M.g10 M.f10.kp M.b10 (as_cons (r_o (e_lst (a_cons (e_rV (e_frz (e_call L.a4 hr (by rfl) M.g4 M.f4.kp M.b4 (as_cons (r_r (pv 2)) (as_cons (r_r (pv 6)) as_nil))))) (a_cons (e_rV (e_frz (e_callKp L.a4 hr (by rfl) M.g4 M.f4.kp M.x4_1_0 (ks_cons (r_r (pv 6)) (ks_cons (r_r (pv 3)) ks_nil))))) a_nil)) (le_line rfl))) (as_cons (r_o (e_lst (a_cons (e_rV (e_vVar (pv 7))) (a_cons (e_rV (e_vVar (pv 7))) a_nil)) (le_line rfl))) as_nil)))))) (s_one (s_ret (e_oV (e_bl)))) (s_nil)) (s_one (s_for PassesOwn.never (i_val (e_tup (a_cons (e_rV (e_str)) (a_cons (e_rV (e_str)) (a_cons (e_rV (e_str)) (a_cons (e_rV (e_str)) (a_cons (e_rV (e_str)) a_nil))))) (le_line rfl))) (g_name (i := 8) rfl S.nd (by first | exact Or.inl rfl | exact Or.inr rfl)) (s_cons (s_set (i := 7) rfl S.nd (by first | exact Or.inl rfl | exact Or.inr rfl) (e_call L.a13 hr (by rfl) M.g13 M.f13.kp M.b13 (as_cons (r_r (pv 2)) (as_cons (r_r (pv 8)) (as_cons (r_r (pv 6)) as_nil))))) (s_cons (s_set (i := 9) rfl S.nd (by first | exact Or.inl rfl | exact Or.inr rfl) (e_lst (a_cons (e_rV (e_frz (e_call L.a3 hr (by rfl) M.g3 M.f3.kp M.b3 (as_cons (r_r (pv 2)) (as_cons (r_r (pv 8)) (as_cons (r_r (pv 6)) as_nil)))))) (a_cons (e_rV (e_frz (e_callKp L.a3 hr (by rfl) M.g3 M.f3.kp M.x3_2_1_0 (ks_cons (r_r (pv 6)) (ks_cons (r_r (pv 8)) (ks_cons (r_r (pv 3)) ks_nil)))))) a_nil)) (le_line rfl))) (s_one (s_if (t_not (t_tru (e_rO (e_call L.a10 hr (by rfl) M.g10 M.f10.kp M.b10 (as_cons (r_r (pv 9)) (as_cons (r_o (e_lst (a_cons (e_rV (e_vVar (pv 7))) (a_cons (e_rV (e_vVar (pv 7))) a_nil)) (le_line rfl))) as_nil)))))) (s_one (s_ret (e_oV (e_bl)))) (s_nil)))))))))) (s_one (s_if (t_cmp (o_ne hu) (e_rB (pv 3)) (e_rO (e_call L.a9 hr (by rfl) M.g9 M.f9.kp M.b9 (as_cons (r_r (pv 2)) as_nil)))) (s_one (s_ret (e_oV (e_bl)))) (s_nil))))))))) (s_one (s_ret (e_oV (e_bl)))))
theorem C_16 : C (n + 1) 16 = runDef 10 1 (m16 (C n)) := rfl
theorem d16 (M : MF K mg fa fd) (L : AK P w K mg base fa fd n) : FnOk P w K mg base CX0 (n + 1) (fa 16) (fd 16) ["_law_urn"] (spOf K (C (n + 1) 16)) := by
  rw [C_16]
  exact def_ok M.f16 s16 rfl fun cdv A outer s H E hr => p16 M L (fa 16) cdv A outer s H E hr
theorem s17 : FnScope ["_law_script", "_law_cells_here", "_law_k", "_law_urn", "_law_turn"] ["_law_script"] (defScope t17) := ⟨rfl, rfl, rfl, by decide +kernel, rfl, by decide +kernel, by decide +kernel⟩
theorem p17 (M : MF K mg fa fd) (L : AK P w K mg base fa fd n) (f : Addr) (cdv : Value) (A : Around) (outer : List Env) (s : Shared) (H : Hp) (E : XK) (hr : Room n (A.deeper (envOfC "law" (defScope t17) s.heap.objs.size f cdv))) : PSs (cxOf CX0 P w K mg base ["_law_script", "_law_cells_here", "_law_k", "_law_urn", "_law_turn"] "law" (defScope t17) f cdv A outer s H E).nox (defBody t17) (tS 1 K (m17 (C n))) :=
  have S := s17
  have hu := room_u hr
  s_cons (s_set (i := 1) rfl S.nd (by first | exact Or.inl rfl | exact Or.inr rfl) (e_call L.a7 hr (by rfl) M.g7 M.f7.kp M.b7 (as_cons (r_r (pv 0)) (as_cons (r_v (e_int)) as_nil)))) (s_cons (s_for PassesOwn.never (i_rng1 (by rfl) M.z_range (a_cons (e_rO (e_callB (c_len) (by rfl) M.z_len (by boot_by_name) (a_cons (e_rB (pv 1)) a_nil))) a_nil)) (g_name (i := 2) rfl S.nd (by first | exact Or.inl rfl | exact Or.inr rfl)) (s_cons (s_set (i := 3) rfl S.nd (by first | exact Or.inl rfl | exact Or.inr rfl) (e_call L.a5 hr (by rfl) M.g5 M.f5.kp M.b5 (as_cons (r_r (pv 1)) (as_cons (r_r (pv 2)) as_nil)))) (s_one (s_if (t_not (t_tru (e_rO (e_callB (c_all rfl) (by rfl) M.z_all (by boot_by_name) (a_cons (e_rO (e_lc (own := [("_law_turn", 4)]) S.nd (i_rng1 (by rfl) M.z_range (a_cons (e_rV (e_int)) a_nil)) (blkOk_by (by kernel_rfl)) (fun _ _ _ _ _ => gw_name (i := 4) rfl S.nd (by first | exact Or.inl rfl | exact Or.inr rfl)) (fun _ _ _ _ _ => ts_nil) (fun _ _ _ _ _ => e_frz (e_call L.a16 hr (by rfl) M.g16 M.f16.kp M.b16 (as_cons (r_r (pv 3)) as_nil))))) a_nil))))) (s_one (s_ret (e_oV (e_bl)))) (s_nil))))) (s_one (s_ret (e_oV (e_bl)))))
theorem C_17 : C (n + 1) 17 = runDef 5 1 (m17 (C n)) := rfl
theorem d17 (M : MF K mg fa fd) (L : AK P w K mg base fa fd n) : FnOk P w K mg base CX0 (n + 1) (fa 17) (fd 17) ["_law_script"] (spOf K (C (n + 1) 17)) := by
  rw [C_17]
  exact def_ok M.f17 s17 rfl fun cdv A outer s H E hr => p17 M L (fa 17) cdv A outer s H E hr
theorem all_ok (M : MF K mg fa fd) : ∀ n, AK P w K mg base fa fd n
  | 0 => ⟨fn_none, fn_none, fn_none, fn_none, fn_none, fn_none, fn_none, fn_none, fn_none, fn_none, fn_none, fn_none, fn_none, fn_none, fn_none, fn_none, fn_none, fn_none⟩
  | n + 1 => ⟨d0 M (all_ok M n), d1 M (all_ok M n), d2 M (all_ok M n), d3 M (all_ok M n), d4 M (all_ok M n), d5 M (all_ok M n), d6 M (all_ok M n), d7 M (all_ok M n), d8 M (all_ok M n), d9 M (all_ok M n), d10 M (all_ok M n), d11 M (all_ok M n), d12 M (all_ok M n), d13 M (all_ok M n), d14 M (all_ok M n), d15 M (all_ok M n), d16 M (all_ok M n), d17 M (all_ok M n)⟩
theorem all_mk {l : PySem.W.OpenLaw} {w : World} {K : PySem.W.Frag} {h : Heap} {mg : Str → Option Value} {fl : Addr} {n : Nat} (X : K.In h) (G : h.Ns mainGlobals mg) (hfa : mg "law" = some (.ref fl))
    {f0 : Addr} {od0 an0 : Option Addr} {sl0 : Array (Option Value)} {oc0 kV0 dc0 pm0 cd0 ct0 : Value} {f1 : Addr} {od1 an1 : Option Addr} {sl1 : Array (Option Value)} {oc1 kV1 dc1 pm1 cd1 ct1 : Value} {f2 : Addr} {od2 an2 : Option Addr} {sl2 : Array (Option Value)} {oc2 kV2 dc2 pm2 cd2 ct2 : Value} {f3 : Addr} {od3 an3 : Option Addr} {sl3 : Array (Option Value)} {oc3 kV3 dc3 pm3 cd3 ct3 : Value} {f4 : Addr} {od4 an4 : Option Addr} {sl4 : Array (Option Value)} {oc4 kV4 dc4 pm4 cd4 ct4 : Value} {f5 : Addr} {od5 an5 : Option Addr} {sl5 : Array (Option Value)} {oc5 kV5 dc5 pm5 cd5 ct5 : Value} {f6 : Addr} {od6 an6 : Option Addr} {sl6 : Array (Option Value)} {oc6 kV6 dc6 pm6 cd6 ct6 : Value} {f7 : Addr} {od7 an7 : Option Addr} {sl7 : Array (Option Value)} {oc7 kV7 dc7 pm7 cd7 ct7 : Value} {f8 : Addr} {od8 an8 : Option Addr} {sl8 : Array (Option Value)} {oc8 kV8 dc8 pm8 cd8 ct8 : Value} {f9 : Addr} {od9 an9 : Option Addr} {sl9 : Array (Option Value)} {oc9 kV9 dc9 pm9 cd9 ct9 : Value} {f10 : Addr} {od10 an10 : Option Addr} {sl10 : Array (Option Value)} {oc10 kV10 dc10 pm10 cd10 ct10 : Value} {f11 : Addr} {od11 an11 : Option Addr} {sl11 : Array (Option Value)} {oc11 kV11 dc11 pm11 cd11 ct11 : Value} {f12 : Addr} {od12 an12 : Option Addr} {sl12 : Array (Option Value)} {oc12 kV12 dc12 pm12 cd12 ct12 : Value} {f13 : Addr} {od13 an13 : Option Addr} {sl13 : Array (Option Value)} {oc13 kV13 dc13 pm13 cd13 ct13 : Value} {f14 : Addr} {od14 an14 : Option Addr} {sl14 : Array (Option Value)} {oc14 kV14 dc14 pm14 cd14 ct14 : Value} {f15 : Addr} {od15 an15 : Option Addr} {sl15 : Array (Option Value)} {oc15 kV15 dc15 pm15 cd15 ct15 : Value} {f16 : Addr} {od16 an16 : Option Addr} {sl16 : Array (Option Value)} {oc16 kV16 dc16 pm16 cd16 ct16 : Value} {f17 : Addr} {od17 an17 : Option Addr} {sl17 : Array (Option Value)} {oc17 kV17 dc17 pm17 cd17 ct17 : Value}
    (a0 : PySem.W.nsIn K mainGlobals "tupled" = some (some (.ref f0))) (l0 : K.lookup f0 = some ⟨oc0, od0, .func (PySem.W.fnOf "tupled" "tupled" (defArgs t0) (defBody t0) (defScope t0) .none kV0 dc0 pm0 an0 cd0 ct0), sl0⟩) (c0 : PySem.W.codeIn K cd0 "tupled" = true) (k0 : PySem.W.keepIn K (.ref f0) = true)
    (a1 : PySem.W.nsIn K mainGlobals "is_on" = some (some (.ref f1))) (l1 : K.lookup f1 = some ⟨oc1, od1, .func (PySem.W.fnOf "is_on" "is_on" (defArgs t1) (defBody t1) (defScope t1) .none kV1 dc1 pm1 an1 cd1 ct1), sl1⟩) (c1 : PySem.W.codeIn K cd1 "is_on" = true) (k1 : PySem.W.keepIn K (.ref f1) = true)
    (a2 : PySem.W.nsIn K mainGlobals "as_set" = some (some (.ref f2))) (l2 : K.lookup f2 = some ⟨oc2, od2, .func (PySem.W.fnOf "as_set" "as_set" (defArgs t2) (defBody t2) (defScope t2) .none kV2 dc2 pm2 an2 cd2 ct2), sl2⟩) (c2 : PySem.W.codeIn K cd2 "as_set" = true) (k2 : PySem.W.keepIn K (.ref f2) = true)
    (a3 : PySem.W.nsIn K mainGlobals "holders_of" = some (some (.ref f3))) (l3 : K.lookup f3 = some ⟨oc3, od3, .func (PySem.W.fnOf "holders_of" "holders_of" (defArgs t3) (defBody t3) (defScope t3) .none kV3 dc3 pm3 an3 cd3 ct3), sl3⟩) (c3 : PySem.W.codeIn K cd3 "holders_of" = true) (k3 : PySem.W.keepIn K (.ref f3) = true)
    (a4 : PySem.W.nsIn K mainGlobals "away_on" = some (some (.ref f4))) (l4 : K.lookup f4 = some ⟨oc4, od4, .func (PySem.W.fnOf "away_on" "away_on" (defArgs t4) (defBody t4) (defScope t4) .none kV4 dc4 pm4 an4 cd4 ct4), sl4⟩) (c4 : PySem.W.codeIn K cd4 "away_on" = true) (k4 : PySem.W.keepIn K (.ref f4) = true)
    (a5 : PySem.W.nsIn K mainGlobals "_law_box" = some (some (.ref f5))) (l5 : K.lookup f5 = some ⟨oc5, od5, .func (PySem.W.fnOf "_law_box" "_law_box" (defArgs t5) (defBody t5) (defScope t5) .none kV5 dc5 pm5 an5 cd5 ct5), sl5⟩) (c5 : PySem.W.codeIn K cd5 "_law_box" = true) (k5 : PySem.W.keepIn K (.ref f5) = true)
    (a6 : PySem.W.nsIn K mainGlobals "_law_take" = some (some (.ref f6))) (l6 : K.lookup f6 = some ⟨oc6, od6, .func (PySem.W.fnOf "_law_take" "_law_take" (defArgs t6) (defBody t6) (defScope t6) .none kV6 dc6 pm6 an6 cd6 ct6), sl6⟩) (c6 : PySem.W.codeIn K cd6 "_law_take" = true) (k6 : PySem.W.keepIn K (.ref f6) = true)
    (a7 : PySem.W.nsIn K mainGlobals "_law_cells" = some (some (.ref f7))) (l7 : K.lookup f7 = some ⟨oc7, od7, .func (PySem.W.fnOf "_law_cells" "_law_cells" (defArgs t7) (defBody t7) (defScope t7) .none kV7 dc7 pm7 an7 cd7 ct7), sl7⟩) (c7 : PySem.W.codeIn K cd7 "_law_cells" = true) (k7 : PySem.W.keepIn K (.ref f7) = true)
    (a8 : PySem.W.nsIn K mainGlobals "_law_of" = some (some (.ref f8))) (l8 : K.lookup f8 = some ⟨oc8, od8, .func (PySem.W.fnOf "_law_of" "_law_of" (defArgs t8) (defBody t8) (defScope t8) .none kV8 dc8 pm8 an8 cd8 ct8), sl8⟩) (c8 : PySem.W.codeIn K cd8 "_law_of" = true) (k8 : PySem.W.keepIn K (.ref f8) = true)
    (a9 : PySem.W.nsIn K mainGlobals "_law_lists" = some (some (.ref f9))) (l9 : K.lookup f9 = some ⟨oc9, od9, .func (PySem.W.fnOf "_law_lists" "_law_lists" (defArgs t9) (defBody t9) (defScope t9) .none kV9 dc9 pm9 an9 cd9 ct9), sl9⟩) (c9 : PySem.W.codeIn K cd9 "_law_lists" = true) (k9 : PySem.W.keepIn K (.ref f9) = true)
    (a10 : PySem.W.nsIn K mainGlobals "_law_same" = some (some (.ref f10))) (l10 : K.lookup f10 = some ⟨oc10, od10, .func (PySem.W.fnOf "_law_same" "_law_same" (defArgs t10) (defBody t10) (defScope t10) .none kV10 dc10 pm10 an10 cd10 ct10), sl10⟩) (c10 : PySem.W.codeIn K cd10 "_law_same" = true) (k10 : PySem.W.keepIn K (.ref f10) = true)
    (a11 : PySem.W.nsIn K mainGlobals "_law_stretch" = some (some (.ref f11))) (l11 : K.lookup f11 = some ⟨oc11, od11, .func (PySem.W.fnOf "_law_stretch" "_law_stretch" (defArgs t11) (defBody t11) (defScope t11) .none kV11 dc11 pm11 an11 cd11 ct11), sl11⟩) (c11 : PySem.W.codeIn K cd11 "_law_stretch" = true) (k11 : PySem.W.keepIn K (.ref f11) = true)
    (a12 : PySem.W.nsIn K mainGlobals "_law_tome" = some (some (.ref f12))) (l12 : K.lookup f12 = some ⟨oc12, od12, .func (PySem.W.fnOf "_law_tome" "_law_tome" (defArgs t12) (defBody t12) (defScope t12) .none kV12 dc12 pm12 an12 cd12 ct12), sl12⟩) (c12 : PySem.W.codeIn K cd12 "_law_tome" = true) (k12 : PySem.W.keepIn K (.ref f12) = true)
    (a13 : PySem.W.nsIn K mainGlobals "_law_held" = some (some (.ref f13))) (l13 : K.lookup f13 = some ⟨oc13, od13, .func (PySem.W.fnOf "_law_held" "_law_held" (defArgs t13) (defBody t13) (defScope t13) .none kV13 dc13 pm13 an13 cd13 ct13), sl13⟩) (c13 : PySem.W.codeIn K cd13 "_law_held" = true) (k13 : PySem.W.keepIn K (.ref f13) = true)
    (a14 : PySem.W.nsIn K mainGlobals "_law_off" = some (some (.ref f14))) (l14 : K.lookup f14 = some ⟨oc14, od14, .func (PySem.W.fnOf "_law_off" "_law_off" (defArgs t14) (defBody t14) (defScope t14) .none kV14 dc14 pm14 an14 cd14 ct14), sl14⟩) (c14 : PySem.W.codeIn K cd14 "_law_off" = true) (k14 : PySem.W.keepIn K (.ref f14) = true)
    (a15 : PySem.W.nsIn K mainGlobals "_law_by_hand_right" = some (some (.ref f15))) (l15 : K.lookup f15 = some ⟨oc15, od15, .func (PySem.W.fnOf "_law_by_hand_right" "_law_by_hand_right" (defArgs t15) (defBody t15) (defScope t15) .none kV15 dc15 pm15 an15 cd15 ct15), sl15⟩) (c15 : PySem.W.codeIn K cd15 "_law_by_hand_right" = true) (k15 : PySem.W.keepIn K (.ref f15) = true)
    (a16 : PySem.W.nsIn K mainGlobals "_law_right" = some (some (.ref f16))) (l16 : K.lookup f16 = some ⟨oc16, od16, .func (PySem.W.fnOf "_law_right" "_law_right" (defArgs t16) (defBody t16) (defScope t16) .none kV16 dc16 pm16 an16 cd16 ct16), sl16⟩) (c16 : PySem.W.codeIn K cd16 "_law_right" = true) (k16 : PySem.W.keepIn K (.ref f16) = true)
    (a17 : PySem.W.nsIn K mainGlobals "law" = some (some (.ref f17))) (l17 : K.lookup f17 = some ⟨oc17, od17, .func (PySem.W.fnOf "law" "law" (defArgs t17) (defBody t17) (defScope t17) .none kV17 dc17 pm17 an17 cd17 ct17), sl17⟩) (c17 : PySem.W.codeIn K cd17 "law" = true) (k17 : PySem.W.keepIn K (.ref f17) = true)
    (z_abs : PySem.W.nsIn K mainGlobals "abs" = some none)
    (z_all : PySem.W.nsIn K mainGlobals "all" = some none)
    (z_bool : PySem.W.nsIn K mainGlobals "bool" = some none)
    (z_enumerate : PySem.W.nsIn K mainGlobals "enumerate" = some none)
    (z_int : PySem.W.nsIn K mainGlobals "int" = some none)
    (z_isinstance : PySem.W.nsIn K mainGlobals "isinstance" = some none)
    (z_len : PySem.W.nsIn K mainGlobals "len" = some none)
    (z_list : PySem.W.nsIn K mainGlobals "list" = some none)
    (z_range : PySem.W.nsIn K mainGlobals "range" = some none)
    (z_set : PySem.W.nsIn K mainGlobals "set" = some none)
    (z_sorted : PySem.W.nsIn K mainGlobals "sorted" = some none)
    (z_str : PySem.W.nsIn K mainGlobals "str" = some none)
    (z_tuple : PySem.W.nsIn K mainGlobals "tuple" = some none)
    (z_zip : PySem.W.nsIn K mainGlobals "zip" = some none)
    : ∃ fd : FuncData, (∀ (s : Shared) (v : Value), BindsTo s fd ⟨[v], []⟩ [("_law_script", v)]) ∧ ∀ base : Heap, K.In base → base.Ns mainGlobals mg → FnOk l.prog w K mg base CX0 n fl fd ["_law_script"] (spOf K (C n 17)) := by
  have e := hfa.symm.trans (PySem.W.mg_of X G a17)
  cases e
  have F0 := fun_mk (st := t0) l0 c0 k0
  have F1 := fun_mk (st := t1) l1 c1 k1
  have F2 := fun_mk (st := t2) l2 c2 k2
  have F3 := fun_mk (st := t3) l3 c3 k3
  have F4 := fun_mk (st := t4) l4 c4 k4
  have F5 := fun_mk (st := t5) l5 c5 k5
  have F6 := fun_mk (st := t6) l6 c6 k6
  have F7 := fun_mk (st := t7) l7 c7 k7
  have F8 := fun_mk (st := t8) l8 c8 k8
  have F9 := fun_mk (st := t9) l9 c9 k9
  have F10 := fun_mk (st := t10) l10 c10 k10
  have F11 := fun_mk (st := t11) l11 c11 k11
  have F12 := fun_mk (st := t12) l12 c12 k12
  have F13 := fun_mk (st := t13) l13 c13 k13
  have F14 := fun_mk (st := t14) l14 c14 k14
  have F15 := fun_mk (st := t15) l15 c15 k15
  have F16 := fun_mk (st := t16) l16 c16 k16
  have F17 := fun_mk (st := t17) l17 c17 k17
  let fa : Nat → Addr := fun j => [f0, f1, f2, f3, f4, f5, f6, f7, f8, f9, f10, f11, f12, f13, f14, f15, f16, fl].getD j fl
  let fd : Nat → FuncData := fun j => [PySem.W.fnOf "tupled" "tupled" (defArgs t0) (defBody t0) (defScope t0) .none kV0 dc0 pm0 an0 cd0 ct0, PySem.W.fnOf "is_on" "is_on" (defArgs t1) (defBody t1) (defScope t1) .none kV1 dc1 pm1 an1 cd1 ct1, PySem.W.fnOf "as_set" "as_set" (defArgs t2) (defBody t2) (defScope t2) .none kV2 dc2 pm2 an2 cd2 ct2, PySem.W.fnOf "holders_of" "holders_of" (defArgs t3) (defBody t3) (defScope t3) .none kV3 dc3 pm3 an3 cd3 ct3, PySem.W.fnOf "away_on" "away_on" (defArgs t4) (defBody t4) (defScope t4) .none kV4 dc4 pm4 an4 cd4 ct4, PySem.W.fnOf "_law_box" "_law_box" (defArgs t5) (defBody t5) (defScope t5) .none kV5 dc5 pm5 an5 cd5 ct5, PySem.W.fnOf "_law_take" "_law_take" (defArgs t6) (defBody t6) (defScope t6) .none kV6 dc6 pm6 an6 cd6 ct6, PySem.W.fnOf "_law_cells" "_law_cells" (defArgs t7) (defBody t7) (defScope t7) .none kV7 dc7 pm7 an7 cd7 ct7, PySem.W.fnOf "_law_of" "_law_of" (defArgs t8) (defBody t8) (defScope t8) .none kV8 dc8 pm8 an8 cd8 ct8, PySem.W.fnOf "_law_lists" "_law_lists" (defArgs t9) (defBody t9) (defScope t9) .none kV9 dc9 pm9 an9 cd9 ct9, PySem.W.fnOf "_law_same" "_law_same" (defArgs t10) (defBody t10) (defScope t10) .none kV10 dc10 pm10 an10 cd10 ct10, PySem.W.fnOf "_law_stretch" "_law_stretch" (defArgs t11) (defBody t11) (defScope t11) .none kV11 dc11 pm11 an11 cd11 ct11, PySem.W.fnOf "_law_tome" "_law_tome" (defArgs t12) (defBody t12) (defScope t12) .none kV12 dc12 pm12 an12 cd12 ct12, PySem.W.fnOf "_law_held" "_law_held" (defArgs t13) (defBody t13) (defScope t13) .none kV13 dc13 pm13 an13 cd13 ct13, PySem.W.fnOf "_law_off" "_law_off" (defArgs t14) (defBody t14) (defScope t14) .none kV14 dc14 pm14 an14 cd14 ct14, PySem.W.fnOf "_law_by_hand_right" "_law_by_hand_right" (defArgs t15) (defBody t15) (defScope t15) .none kV15 dc15 pm15 an15 cd15 ct15, PySem.W.fnOf "_law_right" "_law_right" (defArgs t16) (defBody t16) (defScope t16) .none kV16 dc16 pm16 an16 cd16 ct16, PySem.W.fnOf "law" "law" (defArgs t17) (defBody t17) (defScope t17) .none kV17 dc17 pm17 an17 cd17 ct17].getD j (PySem.W.fnOf "tupled" "tupled" (defArgs t0) (defBody t0) (defScope t0) .none kV0 dc0 pm0 an0 cd0 ct0)
  have MM : MF K mg fa fd := ⟨F0, PySem.W.mg_of X G a0, F1, PySem.W.mg_of X G a1, F2, PySem.W.mg_of X G a2, F3, PySem.W.mg_of X G a3, F4, PySem.W.mg_of X G a4, F5, PySem.W.mg_of X G a5, F6, PySem.W.mg_of X G a6, F7, PySem.W.mg_of X G a7, F8, PySem.W.mg_of X G a8, F9, PySem.W.mg_of X G a9, F10, PySem.W.mg_of X G a10, F11, PySem.W.mg_of X G a11, F12, PySem.W.mg_of X G a12, F13, PySem.W.mg_of X G a13, F14, PySem.W.mg_of X G a14, F15, PySem.W.mg_of X G a15, F16, PySem.W.mg_of X G a16, F17, PySem.W.mg_of X G a17, PySem.W.mg_none_of X G z_abs, PySem.W.mg_none_of X G z_all, PySem.W.mg_none_of X G z_bool, PySem.W.mg_none_of X G z_enumerate, PySem.W.mg_none_of X G z_int, PySem.W.mg_none_of X G z_isinstance, PySem.W.mg_none_of X G z_len, PySem.W.mg_none_of X G z_list, PySem.W.mg_none_of X G z_range, PySem.W.mg_none_of X G z_set, PySem.W.mg_none_of X G z_sorted, PySem.W.mg_none_of X G z_str, PySem.W.mg_none_of X G z_tuple, PySem.W.mg_none_of X G z_zip⟩
  exact ⟨_, fun s v => .of_eq rfl, fun base _ _ => (all_ok (P := l.prog) (w := w) (base := base) MM n).a17⟩
end
end Dv.G

namespace Dv.G
open PySem PySem.Spec PyProof.Rows L2
theorem take_ok (c : Nat → FD) : TakeOk (runDef 6 2 (m6 c)) := by
  intro m u k ⟨a, b, n, e, h1, h2⟩ hk hk2
  subst e
  have hk3 : k < 2 ^ 100 := by omega
  by_cases h : 0 < a
  · refine ⟨a % k, .lst [.int (a / k), .int b, .int n], ⟨_, _, _, rfl, h1, by omega⟩, ?_, Int.emod_nonneg _ (by omega), Int.emod_lt_of_pos _ hk⟩
    simp [m6, bK_some, ap_runDef, ap_sSeq, ap_sAsg, ap_sIf, ap_vIf, ap_oIf, ap_sRet, ap_sExp, ap_sNx, ap_sFor, ap_sPar, ap_mOp, ap_rV, ap_frz, ap_rO, ap_oV, ap_aV, ap_aO, ap_vCon, ap_vTup, ap_oLst, ap_mBo, ap_mTru, ap_bNot, ap_bAnd, ap_bOr, ap_vAnd, ap_vOr, ap_vNot, ap_vIsi, ap_vIsi2, ap_evR0, ap_evR1, ap_evA0, ap_evA1, ap_evO0, ap_evO1, ap_oApp, ap_sSetIx, ap_mCall, ap_iVal, ap_iOp, ap_iPr, ap_oLc, ap_oLc2, ap_pNo, ap_pSome, ap_oSl, ap_rB, ap_vVar, ap_oMove, ap_aR, ap_gNm, ap_gTp, ap_gAll0, ap_gAll1, look_d, look_s, ap_looks0, ap_looks1, ap_conts0, ap_conts1, alook_d, alook_o, alook_r, own0, own_d, own_o, own_r, ifF, seqF, asgG, asgF, retF, expF, ret1, opH, opG, opF, tupG, tupF, lstG, lstF, boF, truH, truG, truF, andF, orF, vandG, vandF, vorG, vorF, notG, notH, notF, isG, isF, isTy2, isF2, evRG, evRF, evAG, evAF, evOG, evOF, chG, chAt, appF, gate, setL, setF3, setF2, setF1, callI, callH, callG, callF, itG, iopG, iopF, iprF, ivF, slI, slH, slG, slF, psF, parG, runG, runF, gaF, lkG, cnG, dsOf, outsOf, setAll, truthD, O.toD, O.isVal, dropRefs, setRefs, ownL, isTy, wS, v_gt, v_lt, v_le, v_ge, v_eq, v_ne, v_eqB, v_neB, v_add, v_sub, v_int, v_intB, v_abs, v_lenL, v_lenT, v_tupL, v_tupT, v_listL, v_ixL, v_ixT, v_setL, v_isN, PyData.isList, PyData.isTuple, v_eqN, v_eqS, PyData.isBool, PyData.isStr, PyData.isInt, isNone, tYs, ap_oOr, oorG, oorF, v_mod _ _ hk, v_fdiv _ _ hk hk3, ixN, h, atI]
  · refine ⟨((((((b + 48271 * (n + 1)) * (39373 + (n + 1)) % 2147483647) + (n + 1) + b / 1000003) * (((b + 48271 * (n + 1)) * (39373 + (n + 1)) % 2147483647) % 40009 + 7) % 2147483629) * 48271 + ((b + 48271 * (n + 1)) * (39373 + (n + 1)) % 2147483647)) % 2147483587 / 64) % k, .lst [.int a, .int b, .int (n + 1)], ⟨_, _, _, rfl, by omega, by omega⟩, ?_, Int.emod_nonneg _ (by omega), Int.emod_lt_of_pos _ hk⟩
    have e1 : gMul [.int 48271, .int (n + 1)] = some (.val (.int (48271 * (n + 1)))) := v_mul _ _ (.inl (by decide))
    have e2 : gMul [.int (b + 48271 * (n + 1)), .int (39373 + (n + 1))] = some (.val (.int ((b + 48271 * (n + 1)) * (39373 + (n + 1))))) := v_mul _ _ (.inr (by omega))
    have e3 : ∀ x : Int, gMod [.int x, .int 2147483647] = some (.val (.int (x % 2147483647))) := fun x => v_mod _ _ (by decide)
    have e4 : ∀ x : Int, gMod [.int x, .int 40009] = some (.val (.int (x % 40009))) := fun x => v_mod _ _ (by decide)
    have e5 : ∀ x : Int, gMod [.int x, .int 2147483629] = some (.val (.int (x % 2147483629))) := fun x => v_mod _ _ (by decide)
    have e6 : ∀ x : Int, gMod [.int x, .int 2147483587] = some (.val (.int (x % 2147483587))) := fun x => v_mod _ _ (by decide)
    have e7 : ∀ x : Int, gFdiv [.int x, .int 1000003] = some (.val (.int (x / 1000003))) := fun x => v_fdiv _ _ (by decide) (by decide)
    have e8 : ∀ x : Int, gFdiv [.int x, .int 64] = some (.val (.int (x / 64))) := fun x => v_fdiv _ _ (by decide) (by decide)
    have e9 : ∀ x : Int, gMul [.int x, .int 48271] = some (.val (.int (x * 48271))) := fun x => v_mul _ _ (.inr (by decide))
    have e10 : ∀ x y : Int, gMul [.int x, .int (y % 40009 + 7)] = some (.val (.int (x * (y % 40009 + 7)))) := fun x y => v_mul _ _ (.inr (by omega))
    simp [m6, bK_some, ap_runDef, ap_sSeq, ap_sAsg, ap_sIf, ap_vIf, ap_oIf, ap_sRet, ap_sExp, ap_sNx, ap_sFor, ap_sPar, ap_mOp, ap_rV, ap_frz, ap_rO, ap_oV, ap_aV, ap_aO, ap_vCon, ap_vTup, ap_oLst, ap_mBo, ap_mTru, ap_bNot, ap_bAnd, ap_bOr, ap_vAnd, ap_vOr, ap_vNot, ap_vIsi, ap_vIsi2, ap_evR0, ap_evR1, ap_evA0, ap_evA1, ap_evO0, ap_evO1, ap_oApp, ap_sSetIx, ap_mCall, ap_iVal, ap_iOp, ap_iPr, ap_oLc, ap_oLc2, ap_pNo, ap_pSome, ap_oSl, ap_rB, ap_vVar, ap_oMove, ap_aR, ap_gNm, ap_gTp, ap_gAll0, ap_gAll1, look_d, look_s, ap_looks0, ap_looks1, ap_conts0, ap_conts1, alook_d, alook_o, alook_r, own0, own_d, own_o, own_r, ifF, seqF, asgG, asgF, retF, expF, ret1, opH, opG, opF, tupG, tupF, lstG, lstF, boF, truH, truG, truF, andF, orF, vandG, vandF, vorG, vorF, notG, notH, notF, isG, isF, isTy2, isF2, evRG, evRF, evAG, evAF, evOG, evOF, chG, chAt, appF, gate, setL, setF3, setF2, setF1, callI, callH, callG, callF, itG, iopG, iopF, iprF, ivF, slI, slH, slG, slF, psF, parG, runG, runF, gaF, lkG, cnG, dsOf, outsOf, setAll, truthD, O.toD, O.isVal, dropRefs, setRefs, ownL, isTy, wS, v_gt, v_lt, v_le, v_ge, v_eq, v_ne, v_eqB, v_neB, v_add, v_sub, v_int, v_intB, v_abs, v_lenL, v_lenT, v_tupL, v_tupT, v_listL, v_ixL, v_ixT, v_setL, v_isN, PyData.isList, PyData.isTuple, v_eqN, v_eqS, PyData.isBool, PyData.isStr, PyData.isInt, isNone, tYs, ap_oOr, oorG, oorF, v_mod _ _ hk, e1, e2, e3, e4, e5, e6, e7, e8, e9, e10, ixN, h, atI]
end Dv.G

namespace Dv.G
open PySem PySem.Spec PyProof.Rows L2
def TupOk (n : Nat) (f : FD) : Prop := ∀ (o : O), Lv n o.toD → f [o] = some (.val (tupD o.toD), [.val o.toD])
theorem tup_ok : ∀ n, TupOk n (C n 0)
  | 0 => fun o h => h.elim
  | n + 1 => fun o h => by
    have ih := tup_ok n
    have go : ∀ (d : D) (ds : List D), ds.length ≤ 1000 → (∀ x ∈ ds, Lv n x) → lcG (compGo [1] (gNm 1) tYs (frz (mCall (C n 0) [aR 1])) ds [some (.val d), none]) = some (.lst (tupA ds), [some (.val d), none]) := fun d ds hn hl => by
      obtain ⟨ys, s', e1, e2, e3⟩ := compGo_inv (vs := [1]) (g := gNm 1) (t := tYs) (e := frz (mCall (C n 0) [aR 1])) (fun ds s => s = [some (.val d), none] ∧ ∀ x ∈ ds, Lv n x) (fun a b => b = tupD a) (fun x xs s ⟨e, hx⟩ => by
        subst e
        have hc := ih (.val x) (hx x List.mem_cons_self)
        refine ⟨[some (.val d), some (.val x)], [some (.val d), some (.val x)], [some (.val d), some (.val x)], tupD x, ?_, rfl, ?_, rfl, rfl, fun y hy => hx y (List.mem_cons_of_mem _ hy)⟩
        · simp [bK_some, ap_runDef, ap_sSeq, ap_sAsg, ap_sIf, ap_vIf, ap_oIf, ap_sRet, ap_sExp, ap_sNx, ap_sFor, ap_sPar, ap_mOp, ap_rV, ap_frz, ap_rO, ap_oV, ap_aV, ap_aO, ap_vCon, ap_vTup, ap_oLst, ap_mBo, ap_mTru, ap_bNot, ap_bAnd, ap_bOr, ap_vAnd, ap_vOr, ap_vNot, ap_vIsi, ap_vIsi2, ap_evR0, ap_evR1, ap_evA0, ap_evA1, ap_evO0, ap_evO1, ap_oApp, ap_sSetIx, ap_mCall, ap_iVal, ap_iOp, ap_iPr, ap_oLc, ap_oLc2, ap_pNo, ap_pSome, ap_oSl, ap_rB, ap_vVar, ap_oMove, ap_aR, ap_gNm, ap_gTp, ap_gAll0, ap_gAll1, look_d, look_s, ap_looks0, ap_looks1, ap_conts0, ap_conts1, alook_d, alook_o, alook_r, own0, own_d, own_o, own_r, ifF, seqF, asgG, asgF, retF, expF, ret1, opH, opG, opF, tupG, tupF, lstG, lstF, boF, truH, truG, truF, andF, orF, vandG, vandF, vorG, vorF, notG, notH, notF, isG, isF, isTy2, isF2, evRG, evRF, evAG, evAF, evOG, evOF, chG, chAt, appF, gate, setL, setF3, setF2, setF1, callI, callH, callG, callF, itG, iopG, iopF, iprF, ivF, slI, slH, slG, slF, psF, parG, runG, runF, gaF, lkG, cnG, dsOf, outsOf, setAll, truthD, O.toD, O.isVal, dropRefs, setRefs, ownL, isTy, wS, v_gt, v_lt, v_le, v_ge, v_eq, v_ne, v_eqB, v_neB, v_add, v_sub, v_int, v_intB, v_abs, v_lenL, v_lenT, v_tupL, v_tupT, v_listL, v_ixL, v_ixT, v_setL, v_isN, PyData.isList, PyData.isTuple, v_eqN, v_eqS, PyData.isBool, PyData.isStr, PyData.isInt, isNone, tYs, ap_oOr, oorG, oorF]
        · have hc' : C n 0 [.val x] = some (.val (tupD x), [.val x]) := hc
          simp [bK_some, ap_runDef, ap_sSeq, ap_sAsg, ap_sIf, ap_vIf, ap_oIf, ap_sRet, ap_sExp, ap_sNx, ap_sFor, ap_sPar, ap_mOp, ap_rV, ap_frz, ap_rO, ap_oV, ap_aV, ap_aO, ap_vCon, ap_vTup, ap_oLst, ap_mBo, ap_mTru, ap_bNot, ap_bAnd, ap_bOr, ap_vAnd, ap_vOr, ap_vNot, ap_vIsi, ap_vIsi2, ap_evR0, ap_evR1, ap_evA0, ap_evA1, ap_evO0, ap_evO1, ap_oApp, ap_sSetIx, ap_mCall, ap_iVal, ap_iOp, ap_iPr, ap_oLc, ap_oLc2, ap_pNo, ap_pSome, ap_oSl, ap_rB, ap_vVar, ap_oMove, ap_aR, ap_gNm, ap_gTp, ap_gAll0, ap_gAll1, look_d, look_s, ap_looks0, ap_looks1, ap_conts0, ap_conts1, alook_d, alook_o, alook_r, own0, own_d, own_o, own_r, ifF, seqF, asgG, asgF, retF, expF, ret1, opH, opG, opF, tupG, tupF, lstG, lstF, boF, truH, truG, truF, andF, orF, vandG, vandF, vorG, vorF, notG, notH, notF, isG, isF, isTy2, isF2, evRG, evRF, evAG, evAF, evOG, evOF, chG, chAt, appF, gate, setL, setF3, setF2, setF1, callI, callH, callG, callF, itG, iopG, iopF, iprF, ivF, slI, slH, slG, slF, psF, parG, runG, runF, gaF, lkG, cnG, dsOf, outsOf, setAll, truthD, O.toD, O.isVal, dropRefs, setRefs, ownL, isTy, wS, v_gt, v_lt, v_le, v_ge, v_eq, v_ne, v_eqB, v_neB, v_add, v_sub, v_int, v_intB, v_abs, v_lenL, v_lenT, v_tupL, v_tupT, v_listL, v_ixL, v_ixT, v_setL, v_isN, PyData.isList, PyData.isTuple, v_eqN, v_eqS, PyData.isBool, PyData.isStr, PyData.isInt, isNone, tYs, ap_oOr, oorG, oorF, hc']) ds _ ⟨rfl, hl⟩
      rw [e1, e2.1, e3.map, tupA_map]
      exact if_pos (by rw [List.length_map]; exact line_of hn)
    show runDef 2 1 (m0 (C n)) [o] = _
    cases o with
    | lst ds =>
      have q := go (.list ds) ds h.1 h.2
      simp [m0, bK_some, ap_runDef, ap_sSeq, ap_sAsg, ap_sIf, ap_vIf, ap_oIf, ap_sRet, ap_sExp, ap_sNx, ap_sFor, ap_sPar, ap_mOp, ap_rV, ap_frz, ap_rO, ap_oV, ap_aV, ap_aO, ap_vCon, ap_vTup, ap_oLst, ap_mBo, ap_mTru, ap_bNot, ap_bAnd, ap_bOr, ap_vAnd, ap_vOr, ap_vNot, ap_vIsi, ap_vIsi2, ap_evR0, ap_evR1, ap_evA0, ap_evA1, ap_evO0, ap_evO1, ap_oApp, ap_sSetIx, ap_mCall, ap_iVal, ap_iOp, ap_iPr, ap_oLc, ap_oLc2, ap_pNo, ap_pSome, ap_oSl, ap_rB, ap_vVar, ap_oMove, ap_aR, ap_gNm, ap_gTp, ap_gAll0, ap_gAll1, look_d, look_s, ap_looks0, ap_looks1, ap_conts0, ap_conts1, alook_d, alook_o, alook_r, own0, own_d, own_o, own_r, ifF, seqF, asgG, asgF, retF, expF, ret1, opH, opG, opF, tupG, tupF, lstG, lstF, boF, truH, truG, truF, andF, orF, vandG, vandF, vorG, vorF, notG, notH, notF, isG, isF, isTy2, isF2, evRG, evRF, evAG, evAF, evOG, evOF, chG, chAt, appF, gate, setL, setF3, setF2, setF1, callI, callH, callG, callF, itG, iopG, iopF, iprF, ivF, slI, slH, slG, slF, psF, parG, runG, runF, gaF, lkG, cnG, dsOf, outsOf, setAll, truthD, O.toD, O.isVal, dropRefs, setRefs, ownL, isTy, wS, v_gt, v_lt, v_le, v_ge, v_eq, v_ne, v_eqB, v_neB, v_add, v_sub, v_int, v_intB, v_abs, v_lenL, v_lenT, v_tupL, v_tupT, v_listL, v_ixL, v_ixT, v_setL, v_isN, PyData.isList, PyData.isTuple, v_eqN, v_eqS, PyData.isBool, PyData.isStr, PyData.isInt, isNone, tYs, ap_oOr, oorG, oorF, itemsD, lcF, q, tupD]
    | val d =>
      cases d with
      | list ds =>
        have q := go (.list ds) ds h.1 h.2
        simp [m0, bK_some, ap_runDef, ap_sSeq, ap_sAsg, ap_sIf, ap_vIf, ap_oIf, ap_sRet, ap_sExp, ap_sNx, ap_sFor, ap_sPar, ap_mOp, ap_rV, ap_frz, ap_rO, ap_oV, ap_aV, ap_aO, ap_vCon, ap_vTup, ap_oLst, ap_mBo, ap_mTru, ap_bNot, ap_bAnd, ap_bOr, ap_vAnd, ap_vOr, ap_vNot, ap_vIsi, ap_vIsi2, ap_evR0, ap_evR1, ap_evA0, ap_evA1, ap_evO0, ap_evO1, ap_oApp, ap_sSetIx, ap_mCall, ap_iVal, ap_iOp, ap_iPr, ap_oLc, ap_oLc2, ap_pNo, ap_pSome, ap_oSl, ap_rB, ap_vVar, ap_oMove, ap_aR, ap_gNm, ap_gTp, ap_gAll0, ap_gAll1, look_d, look_s, ap_looks0, ap_looks1, ap_conts0, ap_conts1, alook_d, alook_o, alook_r, own0, own_d, own_o, own_r, ifF, seqF, asgG, asgF, retF, expF, ret1, opH, opG, opF, tupG, tupF, lstG, lstF, boF, truH, truG, truF, andF, orF, vandG, vandF, vorG, vorF, notG, notH, notF, isG, isF, isTy2, isF2, evRG, evRF, evAG, evAF, evOG, evOF, chG, chAt, appF, gate, setL, setF3, setF2, setF1, callI, callH, callG, callF, itG, iopG, iopF, iprF, ivF, slI, slH, slG, slF, psF, parG, runG, runF, gaF, lkG, cnG, dsOf, outsOf, setAll, truthD, O.toD, O.isVal, dropRefs, setRefs, ownL, isTy, wS, v_gt, v_lt, v_le, v_ge, v_eq, v_ne, v_eqB, v_neB, v_add, v_sub, v_int, v_intB, v_abs, v_lenL, v_lenT, v_tupL, v_tupT, v_listL, v_ixL, v_ixT, v_setL, v_isN, PyData.isList, PyData.isTuple, v_eqN, v_eqS, PyData.isBool, PyData.isStr, PyData.isInt, isNone, tYs, ap_oOr, oorG, oorF, itemsD, lcF, q, tupD]
      | tuple ds =>
        have q := go (.tuple ds) ds h.1 h.2
        simp [m0, bK_some, ap_runDef, ap_sSeq, ap_sAsg, ap_sIf, ap_vIf, ap_oIf, ap_sRet, ap_sExp, ap_sNx, ap_sFor, ap_sPar, ap_mOp, ap_rV, ap_frz, ap_rO, ap_oV, ap_aV, ap_aO, ap_vCon, ap_vTup, ap_oLst, ap_mBo, ap_mTru, ap_bNot, ap_bAnd, ap_bOr, ap_vAnd, ap_vOr, ap_vNot, ap_vIsi, ap_vIsi2, ap_evR0, ap_evR1, ap_evA0, ap_evA1, ap_evO0, ap_evO1, ap_oApp, ap_sSetIx, ap_mCall, ap_iVal, ap_iOp, ap_iPr, ap_oLc, ap_oLc2, ap_pNo, ap_pSome, ap_oSl, ap_rB, ap_vVar, ap_oMove, ap_aR, ap_gNm, ap_gTp, ap_gAll0, ap_gAll1, look_d, look_s, ap_looks0, ap_looks1, ap_conts0, ap_conts1, alook_d, alook_o, alook_r, own0, own_d, own_o, own_r, ifF, seqF, asgG, asgF, retF, expF, ret1, opH, opG, opF, tupG, tupF, lstG, lstF, boF, truH, truG, truF, andF, orF, vandG, vandF, vorG, vorF, notG, notH, notF, isG, isF, isTy2, isF2, evRG, evRF, evAG, evAF, evOG, evOF, chG, chAt, appF, gate, setL, setF3, setF2, setF1, callI, callH, callG, callF, itG, iopG, iopF, iprF, ivF, slI, slH, slG, slF, psF, parG, runG, runF, gaF, lkG, cnG, dsOf, outsOf, setAll, truthD, O.toD, O.isVal, dropRefs, setRefs, ownL, isTy, wS, v_gt, v_lt, v_le, v_ge, v_eq, v_ne, v_eqB, v_neB, v_add, v_sub, v_int, v_intB, v_abs, v_lenL, v_lenT, v_tupL, v_tupT, v_listL, v_ixL, v_ixT, v_setL, v_isN, PyData.isList, PyData.isTuple, v_eqN, v_eqS, PyData.isBool, PyData.isStr, PyData.isInt, isNone, tYs, ap_oOr, oorG, oorF, itemsD, lcF, q, tupD]
      | none => simp [m0, bK_some, ap_runDef, ap_sSeq, ap_sAsg, ap_sIf, ap_vIf, ap_oIf, ap_sRet, ap_sExp, ap_sNx, ap_sFor, ap_sPar, ap_mOp, ap_rV, ap_frz, ap_rO, ap_oV, ap_aV, ap_aO, ap_vCon, ap_vTup, ap_oLst, ap_mBo, ap_mTru, ap_bNot, ap_bAnd, ap_bOr, ap_vAnd, ap_vOr, ap_vNot, ap_vIsi, ap_vIsi2, ap_evR0, ap_evR1, ap_evA0, ap_evA1, ap_evO0, ap_evO1, ap_oApp, ap_sSetIx, ap_mCall, ap_iVal, ap_iOp, ap_iPr, ap_oLc, ap_oLc2, ap_pNo, ap_pSome, ap_oSl, ap_rB, ap_vVar, ap_oMove, ap_aR, ap_gNm, ap_gTp, ap_gAll0, ap_gAll1, look_d, look_s, ap_looks0, ap_looks1, ap_conts0, ap_conts1, alook_d, alook_o, alook_r, own0, own_d, own_o, own_r, ifF, seqF, asgG, asgF, retF, expF, ret1, opH, opG, opF, tupG, tupF, lstG, lstF, boF, truH, truG, truF, andF, orF, vandG, vandF, vorG, vorF, notG, notH, notF, isG, isF, isTy2, isF2, evRG, evRF, evAG, evAF, evOG, evOF, chG, chAt, appF, gate, setL, setF3, setF2, setF1, callI, callH, callG, callF, itG, iopG, iopF, iprF, ivF, slI, slH, slG, slF, psF, parG, runG, runF, gaF, lkG, cnG, dsOf, outsOf, setAll, truthD, O.toD, O.isVal, dropRefs, setRefs, ownL, isTy, wS, v_gt, v_lt, v_le, v_ge, v_eq, v_ne, v_eqB, v_neB, v_add, v_sub, v_int, v_intB, v_abs, v_lenL, v_lenT, v_tupL, v_tupT, v_listL, v_ixL, v_ixT, v_setL, v_isN, PyData.isList, PyData.isTuple, v_eqN, v_eqS, PyData.isBool, PyData.isStr, PyData.isInt, isNone, tYs, ap_oOr, oorG, oorF, tupD]
      | bool b => simp [m0, bK_some, ap_runDef, ap_sSeq, ap_sAsg, ap_sIf, ap_vIf, ap_oIf, ap_sRet, ap_sExp, ap_sNx, ap_sFor, ap_sPar, ap_mOp, ap_rV, ap_frz, ap_rO, ap_oV, ap_aV, ap_aO, ap_vCon, ap_vTup, ap_oLst, ap_mBo, ap_mTru, ap_bNot, ap_bAnd, ap_bOr, ap_vAnd, ap_vOr, ap_vNot, ap_vIsi, ap_vIsi2, ap_evR0, ap_evR1, ap_evA0, ap_evA1, ap_evO0, ap_evO1, ap_oApp, ap_sSetIx, ap_mCall, ap_iVal, ap_iOp, ap_iPr, ap_oLc, ap_oLc2, ap_pNo, ap_pSome, ap_oSl, ap_rB, ap_vVar, ap_oMove, ap_aR, ap_gNm, ap_gTp, ap_gAll0, ap_gAll1, look_d, look_s, ap_looks0, ap_looks1, ap_conts0, ap_conts1, alook_d, alook_o, alook_r, own0, own_d, own_o, own_r, ifF, seqF, asgG, asgF, retF, expF, ret1, opH, opG, opF, tupG, tupF, lstG, lstF, boF, truH, truG, truF, andF, orF, vandG, vandF, vorG, vorF, notG, notH, notF, isG, isF, isTy2, isF2, evRG, evRF, evAG, evAF, evOG, evOF, chG, chAt, appF, gate, setL, setF3, setF2, setF1, callI, callH, callG, callF, itG, iopG, iopF, iprF, ivF, slI, slH, slG, slF, psF, parG, runG, runF, gaF, lkG, cnG, dsOf, outsOf, setAll, truthD, O.toD, O.isVal, dropRefs, setRefs, ownL, isTy, wS, v_gt, v_lt, v_le, v_ge, v_eq, v_ne, v_eqB, v_neB, v_add, v_sub, v_int, v_intB, v_abs, v_lenL, v_lenT, v_tupL, v_tupT, v_listL, v_ixL, v_ixT, v_setL, v_isN, PyData.isList, PyData.isTuple, v_eqN, v_eqS, PyData.isBool, PyData.isStr, PyData.isInt, isNone, tYs, ap_oOr, oorG, oorF, tupD]
      | int i => simp [m0, bK_some, ap_runDef, ap_sSeq, ap_sAsg, ap_sIf, ap_vIf, ap_oIf, ap_sRet, ap_sExp, ap_sNx, ap_sFor, ap_sPar, ap_mOp, ap_rV, ap_frz, ap_rO, ap_oV, ap_aV, ap_aO, ap_vCon, ap_vTup, ap_oLst, ap_mBo, ap_mTru, ap_bNot, ap_bAnd, ap_bOr, ap_vAnd, ap_vOr, ap_vNot, ap_vIsi, ap_vIsi2, ap_evR0, ap_evR1, ap_evA0, ap_evA1, ap_evO0, ap_evO1, ap_oApp, ap_sSetIx, ap_mCall, ap_iVal, ap_iOp, ap_iPr, ap_oLc, ap_oLc2, ap_pNo, ap_pSome, ap_oSl, ap_rB, ap_vVar, ap_oMove, ap_aR, ap_gNm, ap_gTp, ap_gAll0, ap_gAll1, look_d, look_s, ap_looks0, ap_looks1, ap_conts0, ap_conts1, alook_d, alook_o, alook_r, own0, own_d, own_o, own_r, ifF, seqF, asgG, asgF, retF, expF, ret1, opH, opG, opF, tupG, tupF, lstG, lstF, boF, truH, truG, truF, andF, orF, vandG, vandF, vorG, vorF, notG, notH, notF, isG, isF, isTy2, isF2, evRG, evRF, evAG, evAF, evOG, evOF, chG, chAt, appF, gate, setL, setF3, setF2, setF1, callI, callH, callG, callF, itG, iopG, iopF, iprF, ivF, slI, slH, slG, slF, psF, parG, runG, runF, gaF, lkG, cnG, dsOf, outsOf, setAll, truthD, O.toD, O.isVal, dropRefs, setRefs, ownL, isTy, wS, v_gt, v_lt, v_le, v_ge, v_eq, v_ne, v_eqB, v_neB, v_add, v_sub, v_int, v_intB, v_abs, v_lenL, v_lenT, v_tupL, v_tupT, v_listL, v_ixL, v_ixT, v_setL, v_isN, PyData.isList, PyData.isTuple, v_eqN, v_eqS, PyData.isBool, PyData.isStr, PyData.isInt, isNone, tYs, ap_oOr, oorG, oorF, tupD]
      | str x => simp [m0, bK_some, ap_runDef, ap_sSeq, ap_sAsg, ap_sIf, ap_vIf, ap_oIf, ap_sRet, ap_sExp, ap_sNx, ap_sFor, ap_sPar, ap_mOp, ap_rV, ap_frz, ap_rO, ap_oV, ap_aV, ap_aO, ap_vCon, ap_vTup, ap_oLst, ap_mBo, ap_mTru, ap_bNot, ap_bAnd, ap_bOr, ap_vAnd, ap_vOr, ap_vNot, ap_vIsi, ap_vIsi2, ap_evR0, ap_evR1, ap_evA0, ap_evA1, ap_evO0, ap_evO1, ap_oApp, ap_sSetIx, ap_mCall, ap_iVal, ap_iOp, ap_iPr, ap_oLc, ap_oLc2, ap_pNo, ap_pSome, ap_oSl, ap_rB, ap_vVar, ap_oMove, ap_aR, ap_gNm, ap_gTp, ap_gAll0, ap_gAll1, look_d, look_s, ap_looks0, ap_looks1, ap_conts0, ap_conts1, alook_d, alook_o, alook_r, own0, own_d, own_o, own_r, ifF, seqF, asgG, asgF, retF, expF, ret1, opH, opG, opF, tupG, tupF, lstG, lstF, boF, truH, truG, truF, andF, orF, vandG, vandF, vorG, vorF, notG, notH, notF, isG, isF, isTy2, isF2, evRG, evRF, evAG, evAF, evOG, evOF, chG, chAt, appF, gate, setL, setF3, setF2, setF1, callI, callH, callG, callF, itG, iopG, iopF, iprF, ivF, slI, slH, slG, slF, psF, parG, runG, runF, gaF, lkG, cnG, dsOf, outsOf, setAll, truthD, O.toD, O.isVal, dropRefs, setRefs, ownL, isTy, wS, v_gt, v_lt, v_le, v_ge, v_eq, v_ne, v_eqB, v_neB, v_add, v_sub, v_int, v_intB, v_abs, v_lenL, v_lenT, v_tupL, v_tupT, v_listL, v_ixL, v_ixT, v_setL, v_isN, PyData.isList, PyData.isTuple, v_eqN, v_eqS, PyData.isBool, PyData.isStr, PyData.isInt, isNone, tYs, ap_oOr, oorG, oorF, tupD]
      | dict kvs => exact h.elim
def lisO : D → O
  | .list ds => .lst (lisA ds)
  | .tuple ds => .lst (lisA ds)
  | d => .val d
theorem lisO_toD (d : D) : (lisO d).toD = lisD d := by
  cases d <;> simp [lisO, lisD, O.toD]
def LisOk (n : Nat) (f : FD) : Prop := ∀ (o : O), Lv n o.toD → f [o] = some (lisO o.toD, [.val o.toD])
theorem lis_ok : ∀ n, LisOk n (C n 9)
  | 0 => fun o h => h.elim
  | n + 1 => fun o h => by
    have ih := lis_ok n
    have go : ∀ (d : D) (ds : List D), ds.length ≤ 1000 → (∀ x ∈ ds, Lv n x) → lcG (compGo [1] (gNm 1) tYs (frz (mCall (C n 9) [aR 1])) ds [some (.val d), none]) = some (.lst (lisA ds), [some (.val d), none]) := fun d ds hn hl => by
      obtain ⟨ys, s', e1, e2, e3⟩ := compGo_inv (vs := [1]) (g := gNm 1) (t := tYs) (e := frz (mCall (C n 9) [aR 1])) (fun ds s => s = [some (.val d), none] ∧ ∀ x ∈ ds, Lv n x) (fun a b => b = lisD a) (fun x xs s ⟨e, hx⟩ => by
        subst e
        have hc := ih (.val x) (hx x List.mem_cons_self)
        refine ⟨[some (.val d), some (.val x)], [some (.val d), some (.val x)], [some (.val d), some (.val x)], lisD x, ?_, rfl, ?_, rfl, rfl, fun y hy => hx y (List.mem_cons_of_mem _ hy)⟩
        · simp [bK_some, ap_runDef, ap_sSeq, ap_sAsg, ap_sIf, ap_vIf, ap_oIf, ap_sRet, ap_sExp, ap_sNx, ap_sFor, ap_sPar, ap_mOp, ap_rV, ap_frz, ap_rO, ap_oV, ap_aV, ap_aO, ap_vCon, ap_vTup, ap_oLst, ap_mBo, ap_mTru, ap_bNot, ap_bAnd, ap_bOr, ap_vAnd, ap_vOr, ap_vNot, ap_vIsi, ap_vIsi2, ap_evR0, ap_evR1, ap_evA0, ap_evA1, ap_evO0, ap_evO1, ap_oApp, ap_sSetIx, ap_mCall, ap_iVal, ap_iOp, ap_iPr, ap_oLc, ap_oLc2, ap_pNo, ap_pSome, ap_oSl, ap_rB, ap_vVar, ap_oMove, ap_aR, ap_gNm, ap_gTp, ap_gAll0, ap_gAll1, look_d, look_s, ap_looks0, ap_looks1, ap_conts0, ap_conts1, alook_d, alook_o, alook_r, own0, own_d, own_o, own_r, ifF, seqF, asgG, asgF, retF, expF, ret1, opH, opG, opF, tupG, tupF, lstG, lstF, boF, truH, truG, truF, andF, orF, vandG, vandF, vorG, vorF, notG, notH, notF, isG, isF, isTy2, isF2, evRG, evRF, evAG, evAF, evOG, evOF, chG, chAt, appF, gate, setL, setF3, setF2, setF1, callI, callH, callG, callF, itG, iopG, iopF, iprF, ivF, slI, slH, slG, slF, psF, parG, runG, runF, gaF, lkG, cnG, dsOf, outsOf, setAll, truthD, O.toD, O.isVal, dropRefs, setRefs, ownL, isTy, wS, v_gt, v_lt, v_le, v_ge, v_eq, v_ne, v_eqB, v_neB, v_add, v_sub, v_int, v_intB, v_abs, v_lenL, v_lenT, v_tupL, v_tupT, v_listL, v_ixL, v_ixT, v_setL, v_isN, PyData.isList, PyData.isTuple, v_eqN, v_eqS, PyData.isBool, PyData.isStr, PyData.isInt, isNone, tYs, ap_oOr, oorG, oorF]
        · have hc' : C n 9 [.val x] = some (lisO x, [.val x]) := hc
          have e : (lisO x).toD = lisD x := lisO_toD x
          simp [bK_some, ap_runDef, ap_sSeq, ap_sAsg, ap_sIf, ap_vIf, ap_oIf, ap_sRet, ap_sExp, ap_sNx, ap_sFor, ap_sPar, ap_mOp, ap_rV, ap_frz, ap_rO, ap_oV, ap_aV, ap_aO, ap_vCon, ap_vTup, ap_oLst, ap_mBo, ap_mTru, ap_bNot, ap_bAnd, ap_bOr, ap_vAnd, ap_vOr, ap_vNot, ap_vIsi, ap_vIsi2, ap_evR0, ap_evR1, ap_evA0, ap_evA1, ap_evO0, ap_evO1, ap_oApp, ap_sSetIx, ap_mCall, ap_iVal, ap_iOp, ap_iPr, ap_oLc, ap_oLc2, ap_pNo, ap_pSome, ap_oSl, ap_rB, ap_vVar, ap_oMove, ap_aR, ap_gNm, ap_gTp, ap_gAll0, ap_gAll1, look_d, look_s, ap_looks0, ap_looks1, ap_conts0, ap_conts1, alook_d, alook_o, alook_r, own0, own_d, own_o, own_r, ifF, seqF, asgG, asgF, retF, expF, ret1, opH, opG, opF, tupG, tupF, lstG, lstF, boF, truH, truG, truF, andF, orF, vandG, vandF, vorG, vorF, notG, notH, notF, isG, isF, isTy2, isF2, evRG, evRF, evAG, evAF, evOG, evOF, chG, chAt, appF, gate, setL, setF3, setF2, setF1, callI, callH, callG, callF, itG, iopG, iopF, iprF, ivF, slI, slH, slG, slF, psF, parG, runG, runF, gaF, lkG, cnG, dsOf, outsOf, setAll, truthD, O.isVal, dropRefs, setRefs, ownL, isTy, wS, v_gt, v_lt, v_le, v_ge, v_eq, v_ne, v_eqB, v_neB, v_add, v_sub, v_int, v_intB, v_abs, v_lenL, v_lenT, v_tupL, v_tupT, v_listL, v_ixL, v_ixT, v_setL, v_isN, PyData.isList, PyData.isTuple, v_eqN, v_eqS, PyData.isBool, PyData.isStr, PyData.isInt, isNone, tYs, ap_oOr, oorG, oorF, hc', e]) ds _ ⟨rfl, hl⟩
      rw [e1, e2.1, e3.map, lisA_map]
      exact if_pos (by rw [List.length_map]; exact line_of hn)
    show runDef 2 1 (m9 (C n)) [o] = _
    cases o with
    | lst ds =>
      have q := go (.list ds) ds h.1 h.2
      simp [m9, bK_some, ap_runDef, ap_sSeq, ap_sAsg, ap_sIf, ap_vIf, ap_oIf, ap_sRet, ap_sExp, ap_sNx, ap_sFor, ap_sPar, ap_mOp, ap_rV, ap_frz, ap_rO, ap_oV, ap_aV, ap_aO, ap_vCon, ap_vTup, ap_oLst, ap_mBo, ap_mTru, ap_bNot, ap_bAnd, ap_bOr, ap_vAnd, ap_vOr, ap_vNot, ap_vIsi, ap_vIsi2, ap_evR0, ap_evR1, ap_evA0, ap_evA1, ap_evO0, ap_evO1, ap_oApp, ap_sSetIx, ap_mCall, ap_iVal, ap_iOp, ap_iPr, ap_oLc, ap_oLc2, ap_pNo, ap_pSome, ap_oSl, ap_rB, ap_vVar, ap_oMove, ap_aR, ap_gNm, ap_gTp, ap_gAll0, ap_gAll1, look_d, look_s, ap_looks0, ap_looks1, ap_conts0, ap_conts1, alook_d, alook_o, alook_r, own0, own_d, own_o, own_r, ifF, seqF, asgG, asgF, retF, expF, ret1, opH, opG, opF, tupG, tupF, lstG, lstF, boF, truH, truG, truF, andF, orF, vandG, vandF, vorG, vorF, notG, notH, notF, isG, isF, isTy2, isF2, evRG, evRF, evAG, evAF, evOG, evOF, chG, chAt, appF, gate, setL, setF3, setF2, setF1, callI, callH, callG, callF, itG, iopG, iopF, iprF, ivF, slI, slH, slG, slF, psF, parG, runG, runF, gaF, lkG, cnG, dsOf, outsOf, setAll, truthD, O.toD, O.isVal, dropRefs, setRefs, ownL, isTy, wS, v_gt, v_lt, v_le, v_ge, v_eq, v_ne, v_eqB, v_neB, v_add, v_sub, v_int, v_intB, v_abs, v_lenL, v_lenT, v_tupL, v_tupT, v_listL, v_ixL, v_ixT, v_setL, v_isN, PyData.isList, PyData.isTuple, v_eqN, v_eqS, PyData.isBool, PyData.isStr, PyData.isInt, isNone, tYs, ap_oOr, oorG, oorF, itemsD, lcF, q, lisO]
    | val d =>
      cases d with
      | list ds =>
        have q := go (.list ds) ds h.1 h.2
        simp [m9, bK_some, ap_runDef, ap_sSeq, ap_sAsg, ap_sIf, ap_vIf, ap_oIf, ap_sRet, ap_sExp, ap_sNx, ap_sFor, ap_sPar, ap_mOp, ap_rV, ap_frz, ap_rO, ap_oV, ap_aV, ap_aO, ap_vCon, ap_vTup, ap_oLst, ap_mBo, ap_mTru, ap_bNot, ap_bAnd, ap_bOr, ap_vAnd, ap_vOr, ap_vNot, ap_vIsi, ap_vIsi2, ap_evR0, ap_evR1, ap_evA0, ap_evA1, ap_evO0, ap_evO1, ap_oApp, ap_sSetIx, ap_mCall, ap_iVal, ap_iOp, ap_iPr, ap_oLc, ap_oLc2, ap_pNo, ap_pSome, ap_oSl, ap_rB, ap_vVar, ap_oMove, ap_aR, ap_gNm, ap_gTp, ap_gAll0, ap_gAll1, look_d, look_s, ap_looks0, ap_looks1, ap_conts0, ap_conts1, alook_d, alook_o, alook_r, own0, own_d, own_o, own_r, ifF, seqF, asgG, asgF, retF, expF, ret1, opH, opG, opF, tupG, tupF, lstG, lstF, boF, truH, truG, truF, andF, orF, vandG, vandF, vorG, vorF, notG, notH, notF, isG, isF, isTy2, isF2, evRG, evRF, evAG, evAF, evOG, evOF, chG, chAt, appF, gate, setL, setF3, setF2, setF1, callI, callH, callG, callF, itG, iopG, iopF, iprF, ivF, slI, slH, slG, slF, psF, parG, runG, runF, gaF, lkG, cnG, dsOf, outsOf, setAll, truthD, O.toD, O.isVal, dropRefs, setRefs, ownL, isTy, wS, v_gt, v_lt, v_le, v_ge, v_eq, v_ne, v_eqB, v_neB, v_add, v_sub, v_int, v_intB, v_abs, v_lenL, v_lenT, v_tupL, v_tupT, v_listL, v_ixL, v_ixT, v_setL, v_isN, PyData.isList, PyData.isTuple, v_eqN, v_eqS, PyData.isBool, PyData.isStr, PyData.isInt, isNone, tYs, ap_oOr, oorG, oorF, itemsD, lcF, q, lisO]
      | tuple ds =>
        have q := go (.tuple ds) ds h.1 h.2
        simp [m9, bK_some, ap_runDef, ap_sSeq, ap_sAsg, ap_sIf, ap_vIf, ap_oIf, ap_sRet, ap_sExp, ap_sNx, ap_sFor, ap_sPar, ap_mOp, ap_rV, ap_frz, ap_rO, ap_oV, ap_aV, ap_aO, ap_vCon, ap_vTup, ap_oLst, ap_mBo, ap_mTru, ap_bNot, ap_bAnd, ap_bOr, ap_vAnd, ap_vOr, ap_vNot, ap_vIsi, ap_vIsi2, ap_evR0, ap_evR1, ap_evA0, ap_evA1, ap_evO0, ap_evO1, ap_oApp, ap_sSetIx, ap_mCall, ap_iVal, ap_iOp, ap_iPr, ap_oLc, ap_oLc2, ap_pNo, ap_pSome, ap_oSl, ap_rB, ap_vVar, ap_oMove, ap_aR, ap_gNm, ap_gTp, ap_gAll0, ap_gAll1, look_d, look_s, ap_looks0, ap_looks1, ap_conts0, ap_conts1, alook_d, alook_o, alook_r, own0, own_d, own_o, own_r, ifF, seqF, asgG, asgF, retF, expF, ret1, opH, opG, opF, tupG, tupF, lstG, lstF, boF, truH, truG, truF, andF, orF, vandG, vandF, vorG, vorF, notG, notH, notF, isG, isF, isTy2, isF2, evRG, evRF, evAG, evAF, evOG, evOF, chG, chAt, appF, gate, setL, setF3, setF2, setF1, callI, callH, callG, callF, itG, iopG, iopF, iprF, ivF, slI, slH, slG, slF, psF, parG, runG, runF, gaF, lkG, cnG, dsOf, outsOf, setAll, truthD, O.toD, O.isVal, dropRefs, setRefs, ownL, isTy, wS, v_gt, v_lt, v_le, v_ge, v_eq, v_ne, v_eqB, v_neB, v_add, v_sub, v_int, v_intB, v_abs, v_lenL, v_lenT, v_tupL, v_tupT, v_listL, v_ixL, v_ixT, v_setL, v_isN, PyData.isList, PyData.isTuple, v_eqN, v_eqS, PyData.isBool, PyData.isStr, PyData.isInt, isNone, tYs, ap_oOr, oorG, oorF, itemsD, lcF, q, lisO]
      | none => simp [m9, bK_some, ap_runDef, ap_sSeq, ap_sAsg, ap_sIf, ap_vIf, ap_oIf, ap_sRet, ap_sExp, ap_sNx, ap_sFor, ap_sPar, ap_mOp, ap_rV, ap_frz, ap_rO, ap_oV, ap_aV, ap_aO, ap_vCon, ap_vTup, ap_oLst, ap_mBo, ap_mTru, ap_bNot, ap_bAnd, ap_bOr, ap_vAnd, ap_vOr, ap_vNot, ap_vIsi, ap_vIsi2, ap_evR0, ap_evR1, ap_evA0, ap_evA1, ap_evO0, ap_evO1, ap_oApp, ap_sSetIx, ap_mCall, ap_iVal, ap_iOp, ap_iPr, ap_oLc, ap_oLc2, ap_pNo, ap_pSome, ap_oSl, ap_rB, ap_vVar, ap_oMove, ap_aR, ap_gNm, ap_gTp, ap_gAll0, ap_gAll1, look_d, look_s, ap_looks0, ap_looks1, ap_conts0, ap_conts1, alook_d, alook_o, alook_r, own0, own_d, own_o, own_r, ifF, seqF, asgG, asgF, retF, expF, ret1, opH, opG, opF, tupG, tupF, lstG, lstF, boF, truH, truG, truF, andF, orF, vandG, vandF, vorG, vorF, notG, notH, notF, isG, isF, isTy2, isF2, evRG, evRF, evAG, evAF, evOG, evOF, chG, chAt, appF, gate, setL, setF3, setF2, setF1, callI, callH, callG, callF, itG, iopG, iopF, iprF, ivF, slI, slH, slG, slF, psF, parG, runG, runF, gaF, lkG, cnG, dsOf, outsOf, setAll, truthD, O.toD, O.isVal, dropRefs, setRefs, ownL, isTy, wS, v_gt, v_lt, v_le, v_ge, v_eq, v_ne, v_eqB, v_neB, v_add, v_sub, v_int, v_intB, v_abs, v_lenL, v_lenT, v_tupL, v_tupT, v_listL, v_ixL, v_ixT, v_setL, v_isN, PyData.isList, PyData.isTuple, v_eqN, v_eqS, PyData.isBool, PyData.isStr, PyData.isInt, isNone, tYs, ap_oOr, oorG, oorF, lisO]
      | bool b => simp [m9, bK_some, ap_runDef, ap_sSeq, ap_sAsg, ap_sIf, ap_vIf, ap_oIf, ap_sRet, ap_sExp, ap_sNx, ap_sFor, ap_sPar, ap_mOp, ap_rV, ap_frz, ap_rO, ap_oV, ap_aV, ap_aO, ap_vCon, ap_vTup, ap_oLst, ap_mBo, ap_mTru, ap_bNot, ap_bAnd, ap_bOr, ap_vAnd, ap_vOr, ap_vNot, ap_vIsi, ap_vIsi2, ap_evR0, ap_evR1, ap_evA0, ap_evA1, ap_evO0, ap_evO1, ap_oApp, ap_sSetIx, ap_mCall, ap_iVal, ap_iOp, ap_iPr, ap_oLc, ap_oLc2, ap_pNo, ap_pSome, ap_oSl, ap_rB, ap_vVar, ap_oMove, ap_aR, ap_gNm, ap_gTp, ap_gAll0, ap_gAll1, look_d, look_s, ap_looks0, ap_looks1, ap_conts0, ap_conts1, alook_d, alook_o, alook_r, own0, own_d, own_o, own_r, ifF, seqF, asgG, asgF, retF, expF, ret1, opH, opG, opF, tupG, tupF, lstG, lstF, boF, truH, truG, truF, andF, orF, vandG, vandF, vorG, vorF, notG, notH, notF, isG, isF, isTy2, isF2, evRG, evRF, evAG, evAF, evOG, evOF, chG, chAt, appF, gate, setL, setF3, setF2, setF1, callI, callH, callG, callF, itG, iopG, iopF, iprF, ivF, slI, slH, slG, slF, psF, parG, runG, runF, gaF, lkG, cnG, dsOf, outsOf, setAll, truthD, O.toD, O.isVal, dropRefs, setRefs, ownL, isTy, wS, v_gt, v_lt, v_le, v_ge, v_eq, v_ne, v_eqB, v_neB, v_add, v_sub, v_int, v_intB, v_abs, v_lenL, v_lenT, v_tupL, v_tupT, v_listL, v_ixL, v_ixT, v_setL, v_isN, PyData.isList, PyData.isTuple, v_eqN, v_eqS, PyData.isBool, PyData.isStr, PyData.isInt, isNone, tYs, ap_oOr, oorG, oorF, lisO]
      | int i => simp [m9, bK_some, ap_runDef, ap_sSeq, ap_sAsg, ap_sIf, ap_vIf, ap_oIf, ap_sRet, ap_sExp, ap_sNx, ap_sFor, ap_sPar, ap_mOp, ap_rV, ap_frz, ap_rO, ap_oV, ap_aV, ap_aO, ap_vCon, ap_vTup, ap_oLst, ap_mBo, ap_mTru, ap_bNot, ap_bAnd, ap_bOr, ap_vAnd, ap_vOr, ap_vNot, ap_vIsi, ap_vIsi2, ap_evR0, ap_evR1, ap_evA0, ap_evA1, ap_evO0, ap_evO1, ap_oApp, ap_sSetIx, ap_mCall, ap_iVal, ap_iOp, ap_iPr, ap_oLc, ap_oLc2, ap_pNo, ap_pSome, ap_oSl, ap_rB, ap_vVar, ap_oMove, ap_aR, ap_gNm, ap_gTp, ap_gAll0, ap_gAll1, look_d, look_s, ap_looks0, ap_looks1, ap_conts0, ap_conts1, alook_d, alook_o, alook_r, own0, own_d, own_o, own_r, ifF, seqF, asgG, asgF, retF, expF, ret1, opH, opG, opF, tupG, tupF, lstG, lstF, boF, truH, truG, truF, andF, orF, vandG, vandF, vorG, vorF, notG, notH, notF, isG, isF, isTy2, isF2, evRG, evRF, evAG, evAF, evOG, evOF, chG, chAt, appF, gate, setL, setF3, setF2, setF1, callI, callH, callG, callF, itG, iopG, iopF, iprF, ivF, slI, slH, slG, slF, psF, parG, runG, runF, gaF, lkG, cnG, dsOf, outsOf, setAll, truthD, O.toD, O.isVal, dropRefs, setRefs, ownL, isTy, wS, v_gt, v_lt, v_le, v_ge, v_eq, v_ne, v_eqB, v_neB, v_add, v_sub, v_int, v_intB, v_abs, v_lenL, v_lenT, v_tupL, v_tupT, v_listL, v_ixL, v_ixT, v_setL, v_isN, PyData.isList, PyData.isTuple, v_eqN, v_eqS, PyData.isBool, PyData.isStr, PyData.isInt, isNone, tYs, ap_oOr, oorG, oorF, lisO]
      | str x => simp [m9, bK_some, ap_runDef, ap_sSeq, ap_sAsg, ap_sIf, ap_vIf, ap_oIf, ap_sRet, ap_sExp, ap_sNx, ap_sFor, ap_sPar, ap_mOp, ap_rV, ap_frz, ap_rO, ap_oV, ap_aV, ap_aO, ap_vCon, ap_vTup, ap_oLst, ap_mBo, ap_mTru, ap_bNot, ap_bAnd, ap_bOr, ap_vAnd, ap_vOr, ap_vNot, ap_vIsi, ap_vIsi2, ap_evR0, ap_evR1, ap_evA0, ap_evA1, ap_evO0, ap_evO1, ap_oApp, ap_sSetIx, ap_mCall, ap_iVal, ap_iOp, ap_iPr, ap_oLc, ap_oLc2, ap_pNo, ap_pSome, ap_oSl, ap_rB, ap_vVar, ap_oMove, ap_aR, ap_gNm, ap_gTp, ap_gAll0, ap_gAll1, look_d, look_s, ap_looks0, ap_looks1, ap_conts0, ap_conts1, alook_d, alook_o, alook_r, own0, own_d, own_o, own_r, ifF, seqF, asgG, asgF, retF, expF, ret1, opH, opG, opF, tupG, tupF, lstG, lstF, boF, truH, truG, truF, andF, orF, vandG, vandF, vorG, vorF, notG, notH, notF, isG, isF, isTy2, isF2, evRG, evRF, evAG, evAF, evOG, evOF, chG, chAt, appF, gate, setL, setF3, setF2, setF1, callI, callH, callG, callF, itG, iopG, iopF, iprF, ivF, slI, slH, slG, slF, psF, parG, runG, runF, gaF, lkG, cnG, dsOf, outsOf, setAll, truthD, O.toD, O.isVal, dropRefs, setRefs, ownL, isTy, wS, v_gt, v_lt, v_le, v_ge, v_eq, v_ne, v_eqB, v_neB, v_add, v_sub, v_int, v_intB, v_abs, v_lenL, v_lenT, v_tupL, v_tupT, v_listL, v_ixL, v_ixT, v_setL, v_isN, PyData.isList, PyData.isTuple, v_eqN, v_eqS, PyData.isBool, PyData.isStr, PyData.isInt, isNone, tYs, ap_oOr, oorG, oorF, lisO]
      | dict kvs => exact h.elim
end Dv.G

namespace Dv.G
open PySem PySem.Spec PyProof.Rows L2
theorem e_10 (n : Nat) : C (n + 1) 10 = runDef 4 2 (m10 (C n)) := rfl
theorem take_at (n : Nat) : TakeOk (C (n + 1) 6) := take_ok (C n)
def SameOk (n : Nat) (f : FD) : Prop := ∀ (o1 o2 : O), o1.toD = o2.toD → Lv n o2.toD → f [o1, o2] = some (.val (.bool true), [.val o2.toD, .val o2.toD])
theorem same_ok : ∀ n, SameOk n (C n 10)
  | 0 => fun o1 o2 _ h => h.elim
  | n + 1 => fun o1 o2 he h => by
    have ih := same_ok n
    have go : ∀ (d : D) (ds : List D), ds.length ≤ 1000 → (∀ x ∈ ds, Lv n x) → lcG (compGo [2, 3] (gTp [gNm 2, gNm 3]) tYs (frz (mCall (C n 10) [aR 2, aR 3])) (ds.map fun a => PyData.tuple [a, a]) [some (.val d), some (.val d), none, none]) = some (.lst (ds.map fun _ => .bool true), [some (.val d), some (.val d), none, none]) := fun d ds hn hl => by
      obtain ⟨ys, s', e1, e2, e3⟩ := compGo_inv (vs := [2, 3]) (g := gTp [gNm 2, gNm 3]) (t := tYs) (e := frz (mCall (C n 10) [aR 2, aR 3])) (fun ds s => s = [some (.val d), some (.val d), none, none] ∧ ∀ x ∈ ds, ∃ y, x = .tuple [y, y] ∧ Lv n y) (fun a b => b = .bool true) (fun x xs s ⟨e, hx⟩ => by
        subst e
        obtain ⟨y, rfl, hy⟩ := hx x List.mem_cons_self
        have hc : C n 10 [.val y, .val y] = some (.val (.bool true), [.val y, .val y]) := ih (.val y) (.val y) rfl hy
        refine ⟨[some (.val d), some (.val d), some (.val y), some (.val y)], _, [some (.val d), some (.val d), some (.val y), some (.val y)], .bool true, ?_, rfl, ?_, rfl, rfl, fun z hz => hx z (List.mem_cons_of_mem _ hz)⟩
        · simp [bK_some, ap_runDef, ap_sSeq, ap_sAsg, ap_sIf, ap_vIf, ap_oIf, ap_sRet, ap_sExp, ap_sNx, ap_sFor, ap_sPar, ap_mOp, ap_rV, ap_frz, ap_rO, ap_oV, ap_aV, ap_aO, ap_vCon, ap_vTup, ap_oLst, ap_mBo, ap_mTru, ap_bNot, ap_bAnd, ap_bOr, ap_vAnd, ap_vOr, ap_vNot, ap_vIsi, ap_vIsi2, ap_evR0, ap_evR1, ap_evA0, ap_evA1, ap_evO0, ap_evO1, ap_oApp, ap_sSetIx, ap_mCall, ap_iVal, ap_iOp, ap_iPr, ap_oLc, ap_oLc2, ap_pNo, ap_pSome, ap_oSl, ap_rB, ap_vVar, ap_oMove, ap_aR, ap_gNm, ap_gTp, ap_gAll0, ap_gAll1, look_d, look_s, ap_looks0, ap_looks1, ap_conts0, ap_conts1, alook_d, alook_o, alook_r, own0, own_d, own_o, own_r, ifF, seqF, asgG, asgF, retF, expF, ret1, opH, opG, opF, tupG, tupF, lstG, lstF, boF, truH, truG, truF, andF, orF, vandG, vandF, vorG, vorF, notG, notH, notF, isG, isF, isTy2, isF2, evRG, evRF, evAG, evAF, evOG, evOF, chG, chAt, appF, gate, setL, setF3, setF2, setF1, callI, callH, callG, callF, itG, iopG, iopF, iprF, ivF, slI, slH, slG, slF, psF, parG, runG, runF, gaF, lkG, cnG, dsOf, outsOf, setAll, truthD, O.toD, O.isVal, dropRefs, setRefs, ownL, isTy, wS, v_gt, v_lt, v_le, v_ge, v_eq, v_ne, v_eqB, v_neB, v_add, v_sub, v_int, v_intB, v_abs, v_lenL, v_lenT, v_tupL, v_tupT, v_listL, v_ixL, v_ixT, v_setL, v_isN, PyData.isList, PyData.isTuple, v_eqN, v_eqS, PyData.isBool, PyData.isStr, PyData.isInt, isNone, tYs, ap_oOr, oorG, oorF]
        · simp [bK_some, ap_runDef, ap_sSeq, ap_sAsg, ap_sIf, ap_vIf, ap_oIf, ap_sRet, ap_sExp, ap_sNx, ap_sFor, ap_sPar, ap_mOp, ap_rV, ap_frz, ap_rO, ap_oV, ap_aV, ap_aO, ap_vCon, ap_vTup, ap_oLst, ap_mBo, ap_mTru, ap_bNot, ap_bAnd, ap_bOr, ap_vAnd, ap_vOr, ap_vNot, ap_vIsi, ap_vIsi2, ap_evR0, ap_evR1, ap_evA0, ap_evA1, ap_evO0, ap_evO1, ap_oApp, ap_sSetIx, ap_mCall, ap_iVal, ap_iOp, ap_iPr, ap_oLc, ap_oLc2, ap_pNo, ap_pSome, ap_oSl, ap_rB, ap_vVar, ap_oMove, ap_aR, ap_gNm, ap_gTp, ap_gAll0, ap_gAll1, look_d, look_s, ap_looks0, ap_looks1, ap_conts0, ap_conts1, alook_d, alook_o, alook_r, own0, own_d, own_o, own_r, ifF, seqF, asgG, asgF, retF, expF, ret1, opH, opG, opF, tupG, tupF, lstG, lstF, boF, truH, truG, truF, andF, orF, vandG, vandF, vorG, vorF, notG, notH, notF, isG, isF, isTy2, isF2, evRG, evRF, evAG, evAF, evOG, evOF, chG, chAt, appF, gate, setL, setF3, setF2, setF1, callI, callH, callG, callF, itG, iopG, iopF, iprF, ivF, slI, slH, slG, slF, psF, parG, runG, runF, gaF, lkG, cnG, dsOf, outsOf, setAll, truthD, O.toD, O.isVal, dropRefs, setRefs, ownL, isTy, wS, v_gt, v_lt, v_le, v_ge, v_eq, v_ne, v_eqB, v_neB, v_add, v_sub, v_int, v_intB, v_abs, v_lenL, v_lenT, v_tupL, v_tupT, v_listL, v_ixL, v_ixT, v_setL, v_isN, PyData.isList, PyData.isTuple, v_eqN, v_eqS, PyData.isBool, PyData.isStr, PyData.isInt, isNone, tYs, ap_oOr, oorG, oorF, hc]) (ds.map fun x => .tuple [x, x]) _ ⟨rfl, fun x hx => by
          obtain ⟨y, hy, rfl⟩ := List.mem_map.mp hx
          exact ⟨y, rfl, hl y hy⟩⟩
      rw [e1, e2.1, e3.map, List.map_map]
      refine (if_pos (by rw [List.length_map]; exact line_of hn)).trans ?_
      rfl
    have ta : ∀ ds : List D, gAll [.list (ds.map fun _ => PyData.bool true)] = some (.val (.bool true)) := fun ds => v_all _ fun d hd => by
      obtain ⟨_, _, rfl⟩ := List.mem_map.mp hd
      rfl
    rw [e_10 n]
    have seqL : ∀ ds : List D, o1.toD = .list ds → o2.toD = .list ds → ds.length ≤ 1000 → (∀ x ∈ ds, Lv n x) → runDef 4 2 (m10 (C n)) [o1, o2] = some (.val (.bool true), [.val (.list ds), .val (.list ds)]) := fun ds h1 h2 hn hl => by
      have q := go (.list ds) ds hn hl
      simp [m10, bK_some, ap_runDef, ap_sSeq, ap_sAsg, ap_sIf, ap_vIf, ap_oIf, ap_sRet, ap_sExp, ap_sNx, ap_sFor, ap_sPar, ap_mOp, ap_rV, ap_frz, ap_rO, ap_oV, ap_aV, ap_aO, ap_vCon, ap_vTup, ap_oLst, ap_mBo, ap_mTru, ap_bNot, ap_bAnd, ap_bOr, ap_vAnd, ap_vOr, ap_vNot, ap_vIsi, ap_vIsi2, ap_evR0, ap_evR1, ap_evA0, ap_evA1, ap_evO0, ap_evO1, ap_oApp, ap_sSetIx, ap_mCall, ap_iVal, ap_iOp, ap_iPr, ap_oLc, ap_oLc2, ap_pNo, ap_pSome, ap_oSl, ap_rB, ap_vVar, ap_oMove, ap_aR, ap_gNm, ap_gTp, ap_gAll0, ap_gAll1, look_d, look_s, ap_looks0, ap_looks1, ap_conts0, ap_conts1, alook_d, alook_o, alook_r, own0, own_d, own_o, own_r, ifF, seqF, asgG, asgF, retF, expF, ret1, opH, opG, opF, tupG, tupF, lstG, lstF, boF, truH, truG, truF, andF, orF, vandG, vandF, vorG, vorF, notG, notH, notF, isG, isF, isTy2, isF2, evRG, evRF, evAG, evAF, evOG, evOF, chG, chAt, appF, gate, setL, setF3, setF2, setF1, callI, callH, callG, callF, itG, iopG, iopF, iprF, ivF, slI, slH, slG, slF, psF, parG, runG, runF, gaF, lkG, cnG, dsOf, outsOf, setAll, truthD, dropRefs, setRefs, ownL, isTy, wS, v_gt, v_lt, v_le, v_ge, v_eq, v_ne, v_eqB, v_neB, v_add, v_sub, v_int, v_intB, v_abs, v_lenL, v_lenT, v_tupL, v_tupT, v_listL, v_ixL, v_ixT, v_setL, v_isN, PyData.isList, PyData.isTuple, v_eqN, v_eqS, PyData.isBool, PyData.isStr, PyData.isInt, isNone, tYs, ap_oOr, oorG, oorF, toD_val, toD_lst, dsOf, gZip, lcF, h1, h2, q, ta, O.isVal]
    have seqT : ∀ ds : List D, o1.toD = .tuple ds → o2.toD = .tuple ds → ds.length ≤ 1000 → (∀ x ∈ ds, Lv n x) → runDef 4 2 (m10 (C n)) [o1, o2] = some (.val (.bool true), [.val (.tuple ds), .val (.tuple ds)]) := fun ds h1 h2 hn hl => by
      have q := go (.tuple ds) ds hn hl
      simp [m10, bK_some, ap_runDef, ap_sSeq, ap_sAsg, ap_sIf, ap_vIf, ap_oIf, ap_sRet, ap_sExp, ap_sNx, ap_sFor, ap_sPar, ap_mOp, ap_rV, ap_frz, ap_rO, ap_oV, ap_aV, ap_aO, ap_vCon, ap_vTup, ap_oLst, ap_mBo, ap_mTru, ap_bNot, ap_bAnd, ap_bOr, ap_vAnd, ap_vOr, ap_vNot, ap_vIsi, ap_vIsi2, ap_evR0, ap_evR1, ap_evA0, ap_evA1, ap_evO0, ap_evO1, ap_oApp, ap_sSetIx, ap_mCall, ap_iVal, ap_iOp, ap_iPr, ap_oLc, ap_oLc2, ap_pNo, ap_pSome, ap_oSl, ap_rB, ap_vVar, ap_oMove, ap_aR, ap_gNm, ap_gTp, ap_gAll0, ap_gAll1, look_d, look_s, ap_looks0, ap_looks1, ap_conts0, ap_conts1, alook_d, alook_o, alook_r, own0, own_d, own_o, own_r, ifF, seqF, asgG, asgF, retF, expF, ret1, opH, opG, opF, tupG, tupF, lstG, lstF, boF, truH, truG, truF, andF, orF, vandG, vandF, vorG, vorF, notG, notH, notF, isG, isF, isTy2, isF2, evRG, evRF, evAG, evAF, evOG, evOF, chG, chAt, appF, gate, setL, setF3, setF2, setF1, callI, callH, callG, callF, itG, iopG, iopF, iprF, ivF, slI, slH, slG, slF, psF, parG, runG, runF, gaF, lkG, cnG, dsOf, outsOf, setAll, truthD, dropRefs, setRefs, ownL, isTy, wS, v_gt, v_lt, v_le, v_ge, v_eq, v_ne, v_eqB, v_neB, v_add, v_sub, v_int, v_intB, v_abs, v_lenL, v_lenT, v_tupL, v_tupT, v_listL, v_ixL, v_ixT, v_setL, v_isN, PyData.isList, PyData.isTuple, v_eqN, v_eqS, PyData.isBool, PyData.isStr, PyData.isInt, isNone, tYs, ap_oOr, oorG, oorF, toD_val, toD_lst, dsOf, gZip, lcF, h1, h2, q, ta, O.isVal]
    cases o2 with
    | lst ds =>
      have h1 : o1.toD = .list ds := he
      exact seqL ds h1 rfl h.1 h.2
    | val d =>
      cases d with
      | list ds =>
        have h1 : o1.toD = .list ds := he
        exact seqL ds h1 rfl h.1 h.2
      | tuple ds =>
        have h1 : o1.toD = .tuple ds := he
        exact seqT ds h1 rfl h.1 h.2
      | none =>
        cases o1 with
        | lst xs => cases he
        | val d =>
          cases (show d = .none from he)
          simp [m10, bK_some, ap_runDef, ap_sSeq, ap_sAsg, ap_sIf, ap_vIf, ap_oIf, ap_sRet, ap_sExp, ap_sNx, ap_sFor, ap_sPar, ap_mOp, ap_rV, ap_frz, ap_rO, ap_oV, ap_aV, ap_aO, ap_vCon, ap_vTup, ap_oLst, ap_mBo, ap_mTru, ap_bNot, ap_bAnd, ap_bOr, ap_vAnd, ap_vOr, ap_vNot, ap_vIsi, ap_vIsi2, ap_evR0, ap_evR1, ap_evA0, ap_evA1, ap_evO0, ap_evO1, ap_oApp, ap_sSetIx, ap_mCall, ap_iVal, ap_iOp, ap_iPr, ap_oLc, ap_oLc2, ap_pNo, ap_pSome, ap_oSl, ap_rB, ap_vVar, ap_oMove, ap_aR, ap_gNm, ap_gTp, ap_gAll0, ap_gAll1, look_d, look_s, ap_looks0, ap_looks1, ap_conts0, ap_conts1, alook_d, alook_o, alook_r, own0, own_d, own_o, own_r, ifF, seqF, asgG, asgF, retF, expF, ret1, opH, opG, opF, tupG, tupF, lstG, lstF, boF, truH, truG, truF, andF, orF, vandG, vandF, vorG, vorF, notG, notH, notF, isG, isF, isTy2, isF2, evRG, evRF, evAG, evAF, evOG, evOF, chG, chAt, appF, gate, setL, setF3, setF2, setF1, callI, callH, callG, callF, itG, iopG, iopF, iprF, ivF, slI, slH, slG, slF, psF, parG, runG, runF, gaF, lkG, cnG, dsOf, outsOf, setAll, truthD, O.toD, O.isVal, dropRefs, setRefs, ownL, isTy, wS, v_gt, v_lt, v_le, v_ge, v_eq, v_ne, v_eqB, v_neB, v_add, v_sub, v_int, v_intB, v_abs, v_lenL, v_lenT, v_tupL, v_tupT, v_listL, v_ixL, v_ixT, v_setL, v_isN, PyData.isList, PyData.isTuple, v_eqN, v_eqS, PyData.isBool, PyData.isStr, PyData.isInt, isNone, tYs, ap_oOr, oorG, oorF]
      | bool b =>
        cases o1 with
        | lst xs => cases he
        | val d =>
          cases (show d = .bool b from he)
          simp [m10, bK_some, ap_runDef, ap_sSeq, ap_sAsg, ap_sIf, ap_vIf, ap_oIf, ap_sRet, ap_sExp, ap_sNx, ap_sFor, ap_sPar, ap_mOp, ap_rV, ap_frz, ap_rO, ap_oV, ap_aV, ap_aO, ap_vCon, ap_vTup, ap_oLst, ap_mBo, ap_mTru, ap_bNot, ap_bAnd, ap_bOr, ap_vAnd, ap_vOr, ap_vNot, ap_vIsi, ap_vIsi2, ap_evR0, ap_evR1, ap_evA0, ap_evA1, ap_evO0, ap_evO1, ap_oApp, ap_sSetIx, ap_mCall, ap_iVal, ap_iOp, ap_iPr, ap_oLc, ap_oLc2, ap_pNo, ap_pSome, ap_oSl, ap_rB, ap_vVar, ap_oMove, ap_aR, ap_gNm, ap_gTp, ap_gAll0, ap_gAll1, look_d, look_s, ap_looks0, ap_looks1, ap_conts0, ap_conts1, alook_d, alook_o, alook_r, own0, own_d, own_o, own_r, ifF, seqF, asgG, asgF, retF, expF, ret1, opH, opG, opF, tupG, tupF, lstG, lstF, boF, truH, truG, truF, andF, orF, vandG, vandF, vorG, vorF, notG, notH, notF, isG, isF, isTy2, isF2, evRG, evRF, evAG, evAF, evOG, evOF, chG, chAt, appF, gate, setL, setF3, setF2, setF1, callI, callH, callG, callF, itG, iopG, iopF, iprF, ivF, slI, slH, slG, slF, psF, parG, runG, runF, gaF, lkG, cnG, dsOf, outsOf, setAll, truthD, O.toD, O.isVal, dropRefs, setRefs, ownL, isTy, wS, v_gt, v_lt, v_le, v_ge, v_eq, v_ne, v_eqB, v_neB, v_add, v_sub, v_int, v_intB, v_abs, v_lenL, v_lenT, v_tupL, v_tupT, v_listL, v_ixL, v_ixT, v_setL, v_isN, PyData.isList, PyData.isTuple, v_eqN, v_eqS, PyData.isBool, PyData.isStr, PyData.isInt, isNone, tYs, ap_oOr, oorG, oorF]
      | int i =>
        cases o1 with
        | lst xs => cases he
        | val d =>
          cases (show d = .int i from he)
          simp [m10, bK_some, ap_runDef, ap_sSeq, ap_sAsg, ap_sIf, ap_vIf, ap_oIf, ap_sRet, ap_sExp, ap_sNx, ap_sFor, ap_sPar, ap_mOp, ap_rV, ap_frz, ap_rO, ap_oV, ap_aV, ap_aO, ap_vCon, ap_vTup, ap_oLst, ap_mBo, ap_mTru, ap_bNot, ap_bAnd, ap_bOr, ap_vAnd, ap_vOr, ap_vNot, ap_vIsi, ap_vIsi2, ap_evR0, ap_evR1, ap_evA0, ap_evA1, ap_evO0, ap_evO1, ap_oApp, ap_sSetIx, ap_mCall, ap_iVal, ap_iOp, ap_iPr, ap_oLc, ap_oLc2, ap_pNo, ap_pSome, ap_oSl, ap_rB, ap_vVar, ap_oMove, ap_aR, ap_gNm, ap_gTp, ap_gAll0, ap_gAll1, look_d, look_s, ap_looks0, ap_looks1, ap_conts0, ap_conts1, alook_d, alook_o, alook_r, own0, own_d, own_o, own_r, ifF, seqF, asgG, asgF, retF, expF, ret1, opH, opG, opF, tupG, tupF, lstG, lstF, boF, truH, truG, truF, andF, orF, vandG, vandF, vorG, vorF, notG, notH, notF, isG, isF, isTy2, isF2, evRG, evRF, evAG, evAF, evOG, evOF, chG, chAt, appF, gate, setL, setF3, setF2, setF1, callI, callH, callG, callF, itG, iopG, iopF, iprF, ivF, slI, slH, slG, slF, psF, parG, runG, runF, gaF, lkG, cnG, dsOf, outsOf, setAll, truthD, O.toD, O.isVal, dropRefs, setRefs, ownL, isTy, wS, v_gt, v_lt, v_le, v_ge, v_eq, v_ne, v_eqB, v_neB, v_add, v_sub, v_int, v_intB, v_abs, v_lenL, v_lenT, v_tupL, v_tupT, v_listL, v_ixL, v_ixT, v_setL, v_isN, PyData.isList, PyData.isTuple, v_eqN, v_eqS, PyData.isBool, PyData.isStr, PyData.isInt, isNone, tYs, ap_oOr, oorG, oorF]
      | str x =>
        cases o1 with
        | lst xs => cases he
        | val d =>
          cases (show d = .str x from he)
          simp [m10, bK_some, ap_runDef, ap_sSeq, ap_sAsg, ap_sIf, ap_vIf, ap_oIf, ap_sRet, ap_sExp, ap_sNx, ap_sFor, ap_sPar, ap_mOp, ap_rV, ap_frz, ap_rO, ap_oV, ap_aV, ap_aO, ap_vCon, ap_vTup, ap_oLst, ap_mBo, ap_mTru, ap_bNot, ap_bAnd, ap_bOr, ap_vAnd, ap_vOr, ap_vNot, ap_vIsi, ap_vIsi2, ap_evR0, ap_evR1, ap_evA0, ap_evA1, ap_evO0, ap_evO1, ap_oApp, ap_sSetIx, ap_mCall, ap_iVal, ap_iOp, ap_iPr, ap_oLc, ap_oLc2, ap_pNo, ap_pSome, ap_oSl, ap_rB, ap_vVar, ap_oMove, ap_aR, ap_gNm, ap_gTp, ap_gAll0, ap_gAll1, look_d, look_s, ap_looks0, ap_looks1, ap_conts0, ap_conts1, alook_d, alook_o, alook_r, own0, own_d, own_o, own_r, ifF, seqF, asgG, asgF, retF, expF, ret1, opH, opG, opF, tupG, tupF, lstG, lstF, boF, truH, truG, truF, andF, orF, vandG, vandF, vorG, vorF, notG, notH, notF, isG, isF, isTy2, isF2, evRG, evRF, evAG, evAF, evOG, evOF, chG, chAt, appF, gate, setL, setF3, setF2, setF1, callI, callH, callG, callF, itG, iopG, iopF, iprF, ivF, slI, slH, slG, slF, psF, parG, runG, runF, gaF, lkG, cnG, dsOf, outsOf, setAll, truthD, O.toD, O.isVal, dropRefs, setRefs, ownL, isTy, wS, v_gt, v_lt, v_le, v_ge, v_eq, v_ne, v_eqB, v_neB, v_add, v_sub, v_int, v_intB, v_abs, v_lenL, v_lenT, v_tupL, v_tupT, v_listL, v_ixL, v_ixT, v_setL, v_isN, PyData.isList, PyData.isTuple, v_eqN, v_eqS, PyData.isBool, PyData.isStr, PyData.isInt, isNone, tYs, ap_oOr, oorG, oorF]
      | dict kvs => exact h.elim
end Dv.G

namespace Dv.G
open PySem PySem.Spec PyProof.Rows L2
def OfOk (f : FD) : Prop := ∀ (m : Nat) (u : O) (xs : List D), Urn (m + 1) u → xs ≠ [] → xs.length ≤ 1000 → ∃ d u', Urn m u' ∧ d ∈ xs ∧ f [u, .lst xs] = some (.val d, [u', .lst xs])
theorem of_ok {c : Nat → FD} (tk : TakeOk (c 6)) : OfOk (runDef 2 2 (m8 c)) := fun m u xs hu hx hl => by
  have h0 : 0 < xs.length := List.length_pos_iff.mpr hx
  obtain ⟨r, u', hu', hr, r0, r1⟩ := tk m u xs.length hu (by omega) (by omega)
  obtain ⟨d, e1, e2⟩ := at_lt r0 r1
  refine ⟨d, u', hu', e2, ?_⟩
  obtain ⟨a, b, n, rfl, _, _⟩ := hu
  obtain ⟨a', b', n', rfl, _, _⟩ := hu'
  simp [m8, bK_some, ap_runDef, ap_sSeq, ap_sAsg, ap_sIf, ap_vIf, ap_oIf, ap_sRet, ap_sExp, ap_sNx, ap_sFor, ap_sPar, ap_mOp, ap_rV, ap_frz, ap_rO, ap_oV, ap_aV, ap_aO, ap_vCon, ap_vTup, ap_oLst, ap_mBo, ap_mTru, ap_bNot, ap_bAnd, ap_bOr, ap_vAnd, ap_vOr, ap_vNot, ap_vIsi, ap_vIsi2, ap_evR0, ap_evR1, ap_evA0, ap_evA1, ap_evO0, ap_evO1, ap_oApp, ap_sSetIx, ap_mCall, ap_iVal, ap_iOp, ap_iPr, ap_oLc, ap_oLc2, ap_pNo, ap_pSome, ap_oSl, ap_rB, ap_vVar, ap_oMove, ap_aR, ap_gNm, ap_gTp, ap_gAll0, ap_gAll1, look_d, look_s, ap_looks0, ap_looks1, ap_conts0, ap_conts1, alook_d, alook_o, alook_r, own0, own_d, own_o, own_r, ifF, seqF, asgG, asgF, retF, expF, ret1, opH, opG, opF, tupG, tupF, lstG, lstF, boF, truH, truG, truF, andF, orF, vandG, vandF, vorG, vorF, notG, notH, notF, isG, isF, isTy2, isF2, evRG, evRF, evAG, evAF, evOG, evOF, chG, chAt, appF, gate, setL, setF3, setF2, setF1, callI, callH, callG, callF, itG, iopG, iopF, iprF, ivF, slI, slH, slG, slF, psF, parG, runG, runF, gaF, lkG, cnG, dsOf, outsOf, setAll, truthD, O.toD, O.isVal, dropRefs, setRefs, ownL, isTy, wS, v_gt, v_lt, v_le, v_ge, v_eq, v_ne, v_eqB, v_neB, v_add, v_sub, v_int, v_intB, v_abs, v_lenL, v_lenT, v_tupL, v_tupT, v_listL, v_ixL, v_ixT, v_setL, v_isN, PyData.isList, PyData.isTuple, v_eqN, v_eqS, PyData.isBool, PyData.isStr, PyData.isInt, isNone, tYs, ap_oOr, oorG, oorF, hr, e1]
def StrOk (f : FD) : Prop := ∀ (m : Nat) (u : O) (top : Int), Urn (m + 2) u → 0 ≤ top → top < 2 ^ 50 → ∃ a b u', Urn m u' ∧ f [u, .val (.int top)] = some (.val (.tuple [.int a, .int b]), [u', .val (.int top)])
theorem str_ok {c : Nat → FD} (tk : TakeOk (c 6)) : StrOk (runDef 3 2 (m11 c)) := fun m u top hu h0 h1 => by
  obtain ⟨r, u1, hu1, hr, r0, r1⟩ := tk (m + 1) u (top + 1) hu (by omega) (by omega)
  obtain ⟨q, u2, hu2, hq, q0, q1⟩ := tk m u1 (top + 1 - r) hu1 (by omega) (by omega)
  refine ⟨r, r + q, u2, hu2, ?_⟩
  obtain ⟨a, b, n, rfl, _, _⟩ := hu
  obtain ⟨a', b', n', rfl, _, _⟩ := hu1
  obtain ⟨a2, b2, n2, rfl, _, _⟩ := hu2
  simp [m11, bK_some, ap_runDef, ap_sSeq, ap_sAsg, ap_sIf, ap_vIf, ap_oIf, ap_sRet, ap_sExp, ap_sNx, ap_sFor, ap_sPar, ap_mOp, ap_rV, ap_frz, ap_rO, ap_oV, ap_aV, ap_aO, ap_vCon, ap_vTup, ap_oLst, ap_mBo, ap_mTru, ap_bNot, ap_bAnd, ap_bOr, ap_vAnd, ap_vOr, ap_vNot, ap_vIsi, ap_vIsi2, ap_evR0, ap_evR1, ap_evA0, ap_evA1, ap_evO0, ap_evO1, ap_oApp, ap_sSetIx, ap_mCall, ap_iVal, ap_iOp, ap_iPr, ap_oLc, ap_oLc2, ap_pNo, ap_pSome, ap_oSl, ap_rB, ap_vVar, ap_oMove, ap_aR, ap_gNm, ap_gTp, ap_gAll0, ap_gAll1, look_d, look_s, ap_looks0, ap_looks1, ap_conts0, ap_conts1, alook_d, alook_o, alook_r, own0, own_d, own_o, own_r, ifF, seqF, asgG, asgF, retF, expF, ret1, opH, opG, opF, tupG, tupF, lstG, lstF, boF, truH, truG, truF, andF, orF, vandG, vandF, vorG, vorF, notG, notH, notF, isG, isF, isTy2, isF2, evRG, evRF, evAG, evAF, evOG, evOF, chG, chAt, appF, gate, setL, setF3, setF2, setF1, callI, callH, callG, callF, itG, iopG, iopF, iprF, ivF, slI, slH, slG, slF, psF, parG, runG, runF, gaF, lkG, cnG, dsOf, outsOf, setAll, truthD, O.toD, O.isVal, dropRefs, setRefs, ownL, isTy, wS, v_gt, v_lt, v_le, v_ge, v_eq, v_ne, v_eqB, v_neB, v_add, v_sub, v_int, v_intB, v_abs, v_lenL, v_lenT, v_tupL, v_tupT, v_listL, v_ixL, v_ixT, v_setL, v_isN, PyData.isList, PyData.isTuple, v_eqN, v_eqS, PyData.isBool, PyData.isStr, PyData.isInt, isNone, tYs, ap_oOr, oorG, oorF, hr, hq]
def BoxOk (f : FD) : Prop := ∀ (ns : List Int) (k : Nat), k < ns.length → ns.length ≤ 1000 → ∃ u, Urn (2 ^ 59) u ∧ f [.lst (ns.map PyData.int), .val (.int k)] = some (u, [.lst (ns.map PyData.int), .val (.int k)])
theorem box_ok {c : Nat → FD} : BoxOk (runDef 3 2 (m5 c)) := fun ns k hk hl => by
  have e1 : atI (ns.map PyData.int) (k : Int) = some (.int ns[k]) := at_nat (n := k) rfl (by rw [List.getElem?_map, List.getElem?_eq_getElem hk]; rfl)
  have e2 : ∀ x : Int, gMod [.int x, .int 2305843009213693951] = some (.val (.int (x % 2305843009213693951))) := fun x => v_mod _ _ (by decide)
  have e3 : ∀ x : Int, gMul [.int 39373, .int x] = some (.val (.int (39373 * x))) := fun x => v_mul _ _ (.inl (by decide))
  have e4 : gPow [.int 10, .int 18] = some (.val (.int 1000000000000000000)) := (if_pos (e := (none : Option O)) (show (0 : Int) ≤ 18 ∧ (18 : Int) ≤ 1000000 ∧ (10 : Int).natAbs < 2 ^ 64 by decide)).trans rfl
  have e5 : ∀ (x : Int) (p : Prop) [Decidable p], gMul [.int x, .int (if p then 1 else 0)] = some (.val (.int (x * (if p then 1 else 0)))) := fun x p _ => v_mul _ _ (.inr (by split <;> decide))
  have hk2 : decide ((k : Int) < (ns.length : Int)) = true := decide_eq_true (by omega)
  refine ⟨.lst [.int ((if ns[k] < 0 then -ns[k] else ns[k]) * (if decide (1000000000000000000 ≤ (if ns[k] < 0 then -ns[k] else ns[k])) then 1 else 0)), .int (ns[k] % 2305843009213693951 + 39373 * k + 714), .int 0], ⟨_, _, 0, rfl, by omega, by omega⟩, ?_⟩
  simp [m5, bK_some, ap_runDef, ap_sSeq, ap_sAsg, ap_sIf, ap_vIf, ap_oIf, ap_sRet, ap_sExp, ap_sNx, ap_sFor, ap_sPar, ap_mOp, ap_rV, ap_frz, ap_rO, ap_oV, ap_aV, ap_aO, ap_vCon, ap_vTup, ap_oLst, ap_mBo, ap_mTru, ap_bNot, ap_bAnd, ap_bOr, ap_vAnd, ap_vOr, ap_vNot, ap_vIsi, ap_vIsi2, ap_evR0, ap_evR1, ap_evA0, ap_evA1, ap_evO0, ap_evO1, ap_oApp, ap_sSetIx, ap_mCall, ap_iVal, ap_iOp, ap_iPr, ap_oLc, ap_oLc2, ap_pNo, ap_pSome, ap_oSl, ap_rB, ap_vVar, ap_oMove, ap_aR, ap_gNm, ap_gTp, ap_gAll0, ap_gAll1, look_d, look_s, ap_looks0, ap_looks1, ap_conts0, ap_conts1, alook_d, alook_o, alook_r, own0, own_d, own_o, own_r, ifF, seqF, asgG, asgF, retF, expF, ret1, opH, opG, opF, tupG, tupF, lstG, lstF, boF, truH, truG, truF, andF, orF, vandG, vandF, vorG, vorF, notG, notH, notF, isG, isF, isTy2, isF2, evRG, evRF, evAG, evAF, evOG, evOF, chG, chAt, appF, gate, setL, setF3, setF2, setF1, callI, callH, callG, callF, itG, iopG, iopF, iprF, ivF, slI, slH, slG, slF, psF, parG, runG, runF, gaF, lkG, cnG, dsOf, outsOf, setAll, truthD, O.toD, O.isVal, dropRefs, setRefs, ownL, isTy, wS, v_gt, v_lt, v_le, v_ge, v_eq, v_ne, v_eqB, v_neB, v_add, v_sub, v_int, v_intB, v_abs, v_lenL, v_lenT, v_tupL, v_tupT, v_listL, v_ixL, v_ixT, v_setL, v_isN, PyData.isList, PyData.isTuple, v_eqN, v_eqS, PyData.isBool, PyData.isStr, PyData.isInt, isNone, tYs, ap_oOr, oorG, oorF, hk2, hk, e1, e2, e3, e4, e5]
end Dv.G

namespace Dv.G
open PySem PySem.Spec PyProof.Rows L2
def CellsOk (f : FD) : Prop := ∀ ns : List Int, ns.length ≤ 63 → ∃ cs : List Int, cs ≠ [] ∧ cs.length ≤ 3 ∧ f [.val (.list (ns.map PyData.int)), .val (.int 3)] = some (.lst (cs.map PyData.int), [.val (.list (ns.map PyData.int)), .val (.int 3)])
theorem cells_ok {c : Nat → FD} : CellsOk (runDef 6 2 (m7 c)) := fun ns hl => by
  have w1 : ∀ xs : List D, cutG xs none (some 3) = xs.take 3 := fun xs => cut_to xs 3
  have w2 : ∀ xs : List D, cutG xs (some 3) (some 63) = (xs.drop 3).take 60 := fun xs => cut_of xs 3 63
  -- the loop
  have loop : ∀ (ds : List D) (cs : List Int) (x : D), (∀ d ∈ ds, ∃ (i : Nat) (y : Int), i ≤ 1000 ∧ d = .tuple [.int i, .int y]) → (ds ≠ [] → cs.length = 3) → ∃ (cs' : List Int) (a b e : Option O), forGo (gTp [gNm 3, gNm 4]) (sSeq (sAsg (gNm 5) (mOp gMod [rO (mOp gInt [rB 3]), rB 1])) (sSetIx 2 (vVar 5) (frz (mOp gAdd [rO (mOp gIx [rB 2, rB 5]), rO (mOp gMul [rB 4, rO (mOp gAdd [rB 3, rV (vCon (.int 2))])])])))) ds
      [some (.val x), some (.val (.int 3)), some (.lst (cs.map PyData.int)), none, none, none] = some (.nx, [some (.val x), some (.val (.int 3)), some (.lst (cs'.map PyData.int)), a, b, e]) ∧ cs'.length = cs.length := fun ds cs x hd h3 => by
    obtain ⟨s', e1, cs', a, b, e, es, el, _⟩ := forGo_inv (g := gTp [gNm 3, gNm 4]) (b := sSeq (sAsg (gNm 5) (mOp gMod [rO (mOp gInt [rB 3]), rB 1])) (sSetIx 2 (vVar 5) (frz (mOp gAdd [rO (mOp gIx [rB 2, rB 5]), rO (mOp gMul [rB 4, rO (mOp gAdd [rB 3, rV (vCon (.int 2))])])])))) (fun ds s => ∃ (cs' : List Int) (a b e : Option O), s = [some (.val x), some (.val (.int 3)), some (.lst (cs'.map PyData.int)), a, b, e] ∧ cs'.length = cs.length ∧ (ds ≠ [] → cs'.length = 3) ∧ ∀ d ∈ ds, ∃ (i : Nat) (y : Int), i ≤ 1000 ∧ d = .tuple [.int i, .int y])
      (fun d ds s ⟨cs', a, b, e, es, el, h3, hd⟩ => by
        subst es
        obtain ⟨i, y, hi, rfl⟩ := hd d List.mem_cons_self
        have l3 := h3 (List.cons_ne_nil _ _)
        have j0 : (0 : Int) ≤ (i : Int) % 3 := Int.emod_nonneg _ (by decide)
        have j1 : (i : Int) % 3 < 3 := Int.emod_lt_of_pos _ (by decide)
        obtain ⟨j, hj⟩ : ∃ j : Nat, (i : Int) % 3 = j := ⟨((i : Int) % 3).toNat, by omega⟩
        have hjl : j < cs'.length := by omega
        have f1 : gMod [.int i, .int 3] = some (.val (.int j)) := by rw [v_mod _ _ (by decide), hj]
        have f2 : atI (cs'.map PyData.int) (j : Int) = some (.int cs'[j]) := at_nat (n := j) rfl (by rw [List.getElem?_map, List.getElem?_eq_getElem hjl]; rfl)
        have f3 : ixN (cs'.map PyData.int).length (j : Int) = some j := by
          unfold ixN
          rw [if_pos (by omega), if_pos (by rw [List.length_map]; omega)]
          rfl
        have f4 : gMul [.int y, .int ((i : Int) + 2)] = some (.val (.int (y * ((i : Int) + 2)))) := v_mul _ _ (.inr (by omega))
        have f5 : setL (j : Int) (.int (cs'[j] + y * ((i : Int) + 2))) (cs'.map PyData.int) = some (.val .none, (cs'.set j (cs'[j] + y * ((i : Int) + 2))).map PyData.int) := by
          unfold setL
          rw [f3, Option.map_some, List.map_set]
        refine ⟨[some (.val x), some (.val (.int 3)), some (.lst (cs'.map PyData.int)), some (.val (.int i)), some (.val (.int y)), e], [some (.val x), some (.val (.int 3)), some (.lst ((cs'.set j (cs'[j] + y * ((i : Int) + 2))).map PyData.int)), some (.val (.int i)), some (.val (.int y)), some (.val (.int j))], ?_, ?_, _, _, _, _, rfl, by rw [List.length_set]; exact el, fun _ => by rw [List.length_set]; exact l3, fun d hd' => hd d (List.mem_cons_of_mem _ hd')⟩
        · simp [bK_some, ap_runDef, ap_sSeq, ap_sAsg, ap_sIf, ap_vIf, ap_oIf, ap_sRet, ap_sExp, ap_sNx, ap_sFor, ap_sPar, ap_mOp, ap_rV, ap_frz, ap_rO, ap_oV, ap_aV, ap_aO, ap_vCon, ap_vTup, ap_oLst, ap_mBo, ap_mTru, ap_bNot, ap_bAnd, ap_bOr, ap_vAnd, ap_vOr, ap_vNot, ap_vIsi, ap_vIsi2, ap_evR0, ap_evR1, ap_evA0, ap_evA1, ap_evO0, ap_evO1, ap_oApp, ap_sSetIx, ap_mCall, ap_iVal, ap_iOp, ap_iPr, ap_oLc, ap_oLc2, ap_pNo, ap_pSome, ap_oSl, ap_rB, ap_vVar, ap_oMove, ap_aR, ap_gNm, ap_gTp, ap_gAll0, ap_gAll1, look_d, look_s, ap_looks0, ap_looks1, ap_conts0, ap_conts1, alook_d, alook_o, alook_r, own0, own_d, own_o, own_r, ifF, seqF, asgG, asgF, retF, expF, ret1, opH, opG, opF, tupG, tupF, lstG, lstF, boF, truH, truG, truF, andF, orF, vandG, vandF, vorG, vorF, notG, notH, notF, isG, isF, isTy2, isF2, evRG, evRF, evAG, evAF, evOG, evOF, chG, chAt, appF, gate, setL, setF3, setF2, setF1, callI, callH, callG, callF, itG, iopG, iopF, iprF, ivF, slI, slH, slG, slF, psF, parG, runG, runF, gaF, lkG, cnG, dsOf, outsOf, setAll, truthD, O.toD, O.isVal, dropRefs, setRefs, ownL, isTy, wS, v_gt, v_lt, v_le, v_ge, v_eq, v_ne, v_eqB, v_neB, v_add, v_sub, v_int, v_intB, v_abs, v_lenL, v_lenT, v_tupL, v_tupT, v_listL, v_ixL, v_ixT, v_setL, v_isN, PyData.isList, PyData.isTuple, v_eqN, v_eqS, PyData.isBool, PyData.isStr, PyData.isInt, isNone, tYs, ap_oOr, oorG, oorF]
        · rw [List.length_map] at f3
          simp [bK_some, ap_runDef, ap_sSeq, ap_sAsg, ap_sIf, ap_vIf, ap_oIf, ap_sRet, ap_sExp, ap_sNx, ap_sFor, ap_sPar, ap_mOp, ap_rV, ap_frz, ap_rO, ap_oV, ap_aV, ap_aO, ap_vCon, ap_vTup, ap_oLst, ap_mBo, ap_mTru, ap_bNot, ap_bAnd, ap_bOr, ap_vAnd, ap_vOr, ap_vNot, ap_vIsi, ap_vIsi2, ap_evR0, ap_evR1, ap_evA0, ap_evA1, ap_evO0, ap_evO1, ap_oApp, ap_sSetIx, ap_mCall, ap_iVal, ap_iOp, ap_iPr, ap_oLc, ap_oLc2, ap_pNo, ap_pSome, ap_oSl, ap_rB, ap_vVar, ap_oMove, ap_aR, ap_gNm, ap_gTp, ap_gAll0, ap_gAll1, look_d, look_s, ap_looks0, ap_looks1, ap_conts0, ap_conts1, alook_d, alook_o, alook_r, own0, own_d, own_o, own_r, ifF, seqF, asgG, asgF, retF, expF, ret1, opH, opG, opF, tupG, tupF, lstG, lstF, boF, truH, truG, truF, andF, orF, vandG, vandF, vorG, vorF, notG, notH, notF, isG, isF, isTy2, isF2, evRG, evRF, evAG, evAF, evOG, evOF, chG, chAt, appF, gate, setL, setF3, setF2, setF1, callI, callH, callG, callF, itG, iopG, iopF, iprF, ivF, slI, slH, slG, slF, psF, parG, runG, runF, gaF, lkG, cnG, dsOf, outsOf, setAll, truthD, O.toD, O.isVal, dropRefs, setRefs, ownL, isTy, wS, v_gt, v_lt, v_le, v_ge, v_eq, v_ne, v_eqB, v_neB, v_add, v_sub, v_int, v_intB, v_abs, v_lenL, v_lenT, v_tupL, v_tupT, v_listL, v_ixL, v_ixT, v_isN, PyData.isList, PyData.isTuple, v_eqN, v_eqS, PyData.isBool, PyData.isStr, PyData.isInt, isNone, tYs, ap_oOr, oorG, oorF, f1, f2, f3, f4]) ds _ ⟨cs, none, none, none, rfl, rfl, h3, hd⟩
    exact ⟨cs', a, b, e, by rw [e1, es], el⟩
  have items : ∀ d ∈ enumD 0 ((ns.map PyData.int).drop 3 |>.take 60), ∃ (i : Nat) (y : Int), i ≤ 1000 ∧ d = .tuple [.int i, .int y] := fun d hd => by
    obtain ⟨i, x, hx, _, hi, rfl⟩ := enum_mem hd
    have hx2 := List.mem_of_mem_drop (List.mem_of_mem_take hx)
    obtain ⟨y, _, rfl⟩ := List.mem_map.mp hx2
    rw [List.length_take] at hi
    exact ⟨i, y, by omega, rfl⟩
  by_cases h0 : ns = []
  · subst h0
    exact ⟨[0], by simp, by simp, by simp [m7, bK_some, ap_runDef, ap_sSeq, ap_sAsg, ap_sIf, ap_vIf, ap_oIf, ap_sRet, ap_sExp, ap_sNx, ap_sFor, ap_sPar, ap_mOp, ap_rV, ap_frz, ap_rO, ap_oV, ap_aV, ap_aO, ap_vCon, ap_vTup, ap_oLst, ap_mBo, ap_mTru, ap_bNot, ap_bAnd, ap_bOr, ap_vAnd, ap_vOr, ap_vNot, ap_vIsi, ap_vIsi2, ap_evR0, ap_evR1, ap_evA0, ap_evA1, ap_evO0, ap_evO1, ap_oApp, ap_sSetIx, ap_mCall, ap_iVal, ap_iOp, ap_iPr, ap_oLc, ap_oLc2, ap_pNo, ap_pSome, ap_oSl, ap_rB, ap_vVar, ap_oMove, ap_aR, ap_gNm, ap_gTp, ap_gAll0, ap_gAll1, look_d, look_s, ap_looks0, ap_looks1, ap_conts0, ap_conts1, alook_d, alook_o, alook_r, own0, own_d, own_o, own_r, ifF, seqF, asgG, asgF, retF, expF, ret1, opH, opG, opF, tupG, tupF, lstG, lstF, boF, truH, truG, truF, andF, orF, vandG, vandF, vorG, vorF, notG, notH, notF, isG, isF, isTy2, isF2, evRG, evRF, evAG, evAF, evOG, evOF, chG, chAt, appF, gate, setL, setF3, setF2, setF1, callI, callH, callG, callF, itG, iopG, iopF, iprF, ivF, slI, slH, slG, slF, psF, parG, runG, runF, gaF, lkG, cnG, dsOf, outsOf, setAll, truthD, O.toD, O.isVal, dropRefs, setRefs, ownL, isTy, wS, v_gt, v_lt, v_le, v_ge, v_eq, v_ne, v_eqB, v_neB, v_add, v_sub, v_int, v_intB, v_abs, v_lenL, v_lenT, v_tupL, v_tupT, v_listL, v_ixL, v_ixT, v_setL, v_isN, PyData.isList, PyData.isTuple, v_eqN, v_eqS, PyData.isBool, PyData.isStr, PyData.isInt, isNone, tYs, ap_oOr, oorG, oorF, gSl, w1, w2, dsOf, gEnum, enumD, forGo]⟩
  · have ne : (ns.take 3) ≠ [] := by
      cases ns with
      | nil => exact absurd rfl h0
      | cons a r => simp
    obtain ⟨cs', a, b, e, lp, el⟩ := loop _ (ns.take 3) (.list (ns.map PyData.int)) items fun hne => by
      rw [List.length_take]
      rcases Nat.lt_or_ge ns.length 3 with h | h
      · refine absurd ?_ hne
        rw [List.drop_of_length_le (by rw [List.length_map]; omega)]
        rfl
      · omega
    have et : truthD (.list ((ns.map PyData.int).take 3)) = some true := by
      show some (!((ns.map PyData.int).take 3).isEmpty) = some true
      cases ns with
      | nil => exact absurd rfl h0
      | cons a r => rfl
    rw [List.map_take] at lp
    refine ⟨cs', fun z => ?_, by rw [el, List.length_take]; omega, ?_⟩
    · rw [z] at el
      exact ne (List.eq_nil_of_length_eq_zero el.symm)
    · simp only [m7, ap_runDef, ap_sSeq, ap_sAsg, ap_oOr, ap_mOp, ap_evR1, ap_evR0, ap_rO, ap_frz, ap_oSl]
      simp [bK_some, ap_runDef, ap_sSeq, ap_sAsg, ap_sIf, ap_vIf, ap_oIf, ap_sRet, ap_sExp, ap_sNx, ap_sFor, ap_sPar, ap_mOp, ap_rV, ap_frz, ap_rO, ap_oV, ap_aV, ap_aO, ap_vCon, ap_vTup, ap_oLst, ap_mBo, ap_mTru, ap_bNot, ap_bAnd, ap_bOr, ap_vAnd, ap_vOr, ap_vNot, ap_vIsi, ap_vIsi2, ap_evR0, ap_evR1, ap_evA0, ap_evA1, ap_evO0, ap_evO1, ap_oApp, ap_sSetIx, ap_mCall, ap_iVal, ap_iOp, ap_iPr, ap_oLc, ap_oLc2, ap_pNo, ap_pSome, ap_oSl, ap_rB, ap_vVar, ap_oMove, ap_aR, ap_gNm, ap_gTp, ap_gAll0, ap_gAll1, look_d, look_s, ap_looks0, ap_looks1, ap_conts0, ap_conts1, alook_d, alook_o, alook_r, own0, own_d, own_o, own_r, ifF, seqF, asgG, asgF, retF, expF, ret1, opH, opG, opF, tupG, tupF, lstG, lstF, boF, truH, truG, truF, andF, orF, vandG, vandF, vorG, vorF, notG, notH, notF, isG, isF, isTy2, isF2, evRG, evRF, evAG, evAF, evOG, evOF, chG, chAt, appF, gate, setL, setF3, setF2, setF1, callI, callH, callG, callF, itG, iopG, iopF, iprF, ivF, slI, slH, slG, slF, psF, parG, runG, runF, gaF, lkG, cnG, dsOf, outsOf, setAll, O.toD, O.isVal, dropRefs, setRefs, ownL, isTy, wS, v_gt, v_lt, v_le, v_ge, v_eq, v_ne, v_eqB, v_neB, v_add, v_sub, v_int, v_intB, v_abs, v_lenL, v_lenT, v_tupL, v_tupT, v_listL, v_ixL, v_ixT, v_setL, v_isN, PyData.isList, PyData.isTuple, v_eqN, v_eqS, PyData.isBool, PyData.isStr, PyData.isInt, isNone, tYs, ap_oOr, oorG, oorF, gSl, w1, w2, gEnum, et, lp]
end Dv.G

namespace Dv.G
open PySem PySem.Spec PyProof.Rows L2
def fld (k : Nat) : D → D
  | .tuple xs => xs.getD k .none
  | d => d
theorem sets_ok {c : Nat → FD} {xs ys : List D} (h : ssetD xs = some ys) : runDef 1 1 (m2 c) [.lst xs] = some (.val (.tuple ys), [.lst xs]) := by
  simp [m2, bK_some, ap_runDef, ap_sSeq, ap_sAsg, ap_sIf, ap_vIf, ap_oIf, ap_sRet, ap_sExp, ap_sNx, ap_sFor, ap_sPar, ap_mOp, ap_rV, ap_frz, ap_rO, ap_oV, ap_aV, ap_aO, ap_vCon, ap_vTup, ap_oLst, ap_mBo, ap_mTru, ap_bNot, ap_bAnd, ap_bOr, ap_vAnd, ap_vOr, ap_vNot, ap_vIsi, ap_vIsi2, ap_evR0, ap_evR1, ap_evA0, ap_evA1, ap_evO0, ap_evO1, ap_oApp, ap_sSetIx, ap_mCall, ap_iVal, ap_iOp, ap_iPr, ap_oLc, ap_oLc2, ap_pNo, ap_pSome, ap_oSl, ap_rB, ap_vVar, ap_oMove, ap_aR, ap_gNm, ap_gTp, ap_gAll0, ap_gAll1, look_d, look_s, ap_looks0, ap_looks1, ap_conts0, ap_conts1, alook_d, alook_o, alook_r, own0, own_d, own_o, own_r, ifF, seqF, asgG, asgF, retF, expF, ret1, opH, opG, opF, tupG, tupF, lstG, lstF, boF, truH, truG, truF, andF, orF, vandG, vandF, vorG, vorF, notG, notH, notF, isG, isF, isTy2, isF2, evRG, evRF, evAG, evAF, evOG, evOF, chG, chAt, appF, gate, setL, setF3, setF2, setF1, callI, callH, callG, callF, itG, iopG, iopF, iprF, ivF, slI, slH, slG, slF, psF, parG, runG, runF, gaF, lkG, cnG, dsOf, outsOf, setAll, truthD, O.toD, O.isVal, dropRefs, setRefs, ownL, isTy, wS, v_gt, v_lt, v_le, v_ge, v_eq, v_ne, v_eqB, v_neB, v_add, v_sub, v_int, v_intB, v_abs, v_lenL, v_lenT, v_tupL, v_tupT, v_listL, v_ixL, v_ixT, v_setL, v_isN, PyData.isList, PyData.isTuple, v_eqN, v_eqS, PyData.isBool, PyData.isStr, PyData.isInt, isNone, tYs, ap_oOr, oorG, oorF, gSSet, h]
theorem h_at {d : D} (h : HRow d) : (∃ xs, d = .tuple xs ∧ atI xs 1 = some (fld 1 d)) ∧ NmD (fld 1 d) ∧ Lv 2 d := by
  obtain ⟨r, p, a, b, rfl⟩ := h
  exact ⟨⟨_, rfl, rfl⟩, ⟨p, rfl⟩, by simp [Lv]⟩
theorem g_at {d : D} (h : GRow d) : (∃ xs, d = .tuple xs ∧ atI xs 0 = some (fld 0 d)) ∧ NmD (fld 0 d) ∧ Lv 2 d := by
  obtain ⟨p, a, b, rfl⟩ := h
  exact ⟨⟨_, rfl, rfl⟩, ⟨p, rfl⟩, by simp [Lv]⟩
theorem d_at {d : D} (h : DRow d) : (∃ xs, d = .tuple xs ∧ atI xs 1 = some (fld 1 d)) ∧ (∃ xs, d = .tuple xs ∧ atI xs 2 = some (fld 2 d)) ∧ NmD (fld 1 d) ∧ NmD (fld 2 d) ∧ Lv 2 d := by
  obtain ⟨r, p, q, a, b, rfl⟩ := h
  exact ⟨⟨_, rfl, rfl⟩, ⟨_, rfl, rfl⟩, ⟨p, rfl⟩, ⟨q, rfl⟩, by simp [Lv]⟩
structure Book (hs gs ds : List D) : Prop where
  h : ∀ d ∈ hs, HRow d
  g : ∀ d ∈ gs, GRow d
  d : ∀ x ∈ ds, DRow x
  lh : hs.length ≤ 8
  lg : gs.length ≤ 8
  ld : ds.length ≤ 8
def enc (hs gs ds : List D) : D := .tuple [.tuple hs, .tuple gs, .tuple ds]
theorem pairs_len (f g : D → D) : ∀ ds : List D, (ds.flatMap (fun d => [f d, g d])).length = 2 * ds.length
  | [] => rfl
  | d :: ds => by
    rw [List.flatMap_cons, List.length_append, pairs_len f g ds]
    simp only [List.length_cons, List.length_nil]
    omega
theorem add_lists {a b : List D} (h : a.length + b.length ≤ 1000) : gAdd [.list a, .list b] = some (.lst (a ++ b)) := if_pos (line_of h)
end Dv.G

namespace Dv.G
open PySem PySem.Spec PyProof.Rows L2
theorem add_tups {a b : List D} (h : a.length + b.length ≤ 1000) : gAdd [.tuple a, .tuple b] = some (.val (.tuple (a ++ b))) := if_pos (line_of h)
theorem rng_len (n : Nat) : (rng 0 n).length = n := by
  unfold rng
  rw [List.length_map, List.length_range]
theorem gRng1 {j : Int} (h0 : 0 ≤ j) (h1 : j ≤ 1000) : gRng [.int j] = some (rng 0 j.toNat) := if_pos (by
  unfold inW
  rw [Bool.and_eq_true, decide_eq_true_eq, decide_eq_true_eq]
  omega)
theorem small_line {n : Nat} (h : n < 1000) : n < sizeLine := by
  rw [sizeLine_eq]
  omega
section
variable {c : Nat → FD} {crew ranks : List D} {k : Nat} {top : Int}
structure Tm (c : Nat → FD) (crew ranks : List D) (k : Nat) (top : Int) : Prop where
  tk : TakeOk (c 6)
  of_ : OfOk (c 8)
  st : StrOk (c 11)
  cr : ∀ d ∈ crew, NmD d
  rk : ∀ d ∈ ranks, NmD d
  cl : crew.length = k
  rl : ranks.length = 3
  k2 : 2 ≤ k
  k8 : k ≤ 8
  t0 : 0 ≤ top
  t1 : top < 2 ^ 50
theorem Tm.cne (M : Tm c crew ranks k top) : crew ≠ [] := fun z => by
  have h1 := M.cl
  have h2 := M.k2
  rw [z, List.length_nil] at h1
  omega
theorem Tm.rne (M : Tm c crew ranks k top) : ranks ≠ [] := fun z => by
  have h1 := M.rl
  rw [z] at h1
  cases h1
theorem Tm.cle (M : Tm c crew ranks k top) : crew.length ≤ 1000 := by
  have h1 := M.cl
  have h2 := M.k8
  omega
theorem Tm.rle (M : Tm c crew ranks k top) : ranks.length ≤ 1000 := by
  have h1 := M.rl
  omega
theorem tm_loop1 (M : Tm c crew ranks k top) (m : Nat) {t : Option O} : ∀ (ds : List D) (u : O), Urn (m + 4 * ds.length) u → ds.length ≤ 6 → ∃ s', forGo (gNm 8) (sExp (oApp 5 (frz (mOp gAdd [rV (vTup [rV (frz (mCall (c 8) [aR 0, aR 4])), rV (frz (mCall (c 8) [aR 0, aR 3]))]), rO (mCall (c 11) [aR 0, aR 2])])))) ds [some u, some (.val (.int k)), some (.val (.int top)), some (.lst crew), some (.lst ranks), some (.lst []), some (.lst []), some (.lst []), t, none, none] = some (.nx, s') ∧ ∃ u hs t, Urn m u ∧ s' = [some u, some (.val (.int k)), some (.val (.int top)), some (.lst crew), some (.lst ranks), some (.lst hs), some (.lst []), some (.lst []), t, none, none] ∧ (∀ d ∈ hs, HRow d) ∧ hs.length ≤ 6 := fun ds u hu hl => by
  obtain ⟨s', e1, u', hs, t', hu', es, hh, hln⟩ := forGo_inv (g := gNm 8) (b := (sExp (oApp 5 (frz (mOp gAdd [rV (vTup [rV (frz (mCall (c 8) [aR 0, aR 4])), rV (frz (mCall (c 8) [aR 0, aR 3]))]), rO (mCall (c 11) [aR 0, aR 2])]))))) (fun ds s => ∃ u hs t, Urn (m + 4 * ds.length) u ∧ s = [some u, some (.val (.int k)), some (.val (.int top)), some (.lst crew), some (.lst ranks), some (.lst hs), some (.lst []), some (.lst []), t, none, none] ∧ (∀ d ∈ hs, HRow d) ∧ hs.length + ds.length ≤ 6) (fun d ds s ⟨u, hs, t, hu, es, hh, hln⟩ => by
    subst es
    rw [List.length_cons] at hu hln
    obtain ⟨r, u1, hu1, r1, hr⟩ := M.of_ (m + 4 * ds.length + 3) u ranks (hu.le (by omega)) M.rne M.rle
    obtain ⟨p, u2, hu2, p1, hp⟩ := M.of_ (m + 4 * ds.length + 2) u1 crew (hu1.le (by omega)) M.cne M.cle
    obtain ⟨a, b, u3, hu3, hst⟩ := M.st (m + 4 * ds.length) u2 top hu2 M.t0 M.t1
    obtain ⟨rx, rfl⟩ := M.rk r r1
    obtain ⟨px, rfl⟩ := M.cr p p1
    have f1 := add_tups (a := [.str rx, .str px]) (b := [.int a, .int b]) (by simp)
    have f2 : hs.length < sizeLine := small_line (by omega)
    obtain ⟨y1, y2, y3, rfl, _, _⟩ := hu
    obtain ⟨_, _, _, rfl, _, _⟩ := hu1
    obtain ⟨_, _, _, rfl, _, _⟩ := hu2
    obtain ⟨x1, x2, x3, rfl, x4, x5⟩ := hu3
    refine ⟨[some (.lst [.int y1, .int y2, .int y3]), some (.val (.int k)), some (.val (.int top)), some (.lst crew), some (.lst ranks), some (.lst hs), some (.lst []), some (.lst []), some (.val d), none, none], [some (.lst [.int x1, .int x2, .int x3]), some (.val (.int k)), some (.val (.int top)), some (.lst crew), some (.lst ranks), some (.lst (hs ++ [.tuple [.str rx, .str px, .int a, .int b]])), some (.lst []), some (.lst []), some (.val d), none, none], ?_, ?_, _, _, _, ⟨x1, x2, x3, rfl, x4, x5⟩, rfl, fun y hy => ?_, by rw [List.length_append, List.length_cons, List.length_nil]; omega⟩
    · simp [bK_some, ap_runDef, ap_sSeq, ap_sAsg, ap_sIf, ap_vIf, ap_oIf, ap_sRet, ap_sExp, ap_sNx, ap_sFor, ap_sPar, ap_mOp, ap_rV, ap_frz, ap_rO, ap_oV, ap_aV, ap_aO, ap_vCon, ap_vTup, ap_oLst, ap_mBo, ap_mTru, ap_bNot, ap_bAnd, ap_bOr, ap_vAnd, ap_vOr, ap_vNot, ap_vIsi, ap_vIsi2, ap_evR0, ap_evR1, ap_evA0, ap_evA1, ap_evO0, ap_evO1, ap_oApp, ap_sSetIx, ap_mCall, ap_iVal, ap_iOp, ap_iPr, ap_oLc, ap_oLc2, ap_pNo, ap_pSome, ap_oSl, ap_rB, ap_vVar, ap_oMove, ap_aR, ap_gNm, ap_gTp, ap_gAll0, ap_gAll1, look_d, look_s, ap_looks0, ap_looks1, ap_conts0, ap_conts1, alook_d, alook_o, alook_r, own0, own_d, own_o, own_r, ifF, seqF, asgG, asgF, retF, expF, ret1, opH, opG, opF, tupG, tupF, lstG, lstF, boF, truH, truG, truF, andF, orF, vandG, vandF, vorG, vorF, notG, notH, notF, isG, isF, isTy2, isF2, evRG, evRF, evAG, evAF, evOG, evOF, chG, chAt, appF, gate, setL, setF3, setF2, setF1, callI, callH, callG, callF, itG, iopG, iopF, iprF, ivF, slI, slH, slG, slF, psF, parG, runG, runF, gaF, lkG, cnG, dsOf, outsOf, setAll, truthD, O.toD, O.isVal, dropRefs, setRefs, ownL, isTy, wS, v_gt, v_lt, v_le, v_ge, v_eq, v_ne, v_eqB, v_neB, v_add, v_sub, v_int, v_intB, v_abs, v_lenL, v_lenT, v_tupL, v_tupT, v_listL, v_ixL, v_ixT, v_setL, v_isN, PyData.isList, PyData.isTuple, v_eqN, v_eqS, PyData.isBool, PyData.isStr, PyData.isInt, isNone, tYs, ap_oOr, oorG, oorF]
    · simp [bK_some, ap_runDef, ap_sSeq, ap_sAsg, ap_sIf, ap_vIf, ap_oIf, ap_sRet, ap_sExp, ap_sNx, ap_sFor, ap_sPar, ap_mOp, ap_rV, ap_frz, ap_rO, ap_oV, ap_aV, ap_aO, ap_vCon, ap_vTup, ap_oLst, ap_mBo, ap_mTru, ap_bNot, ap_bAnd, ap_bOr, ap_vAnd, ap_vOr, ap_vNot, ap_vIsi, ap_vIsi2, ap_evR0, ap_evR1, ap_evA0, ap_evA1, ap_evO0, ap_evO1, ap_oApp, ap_sSetIx, ap_mCall, ap_iVal, ap_iOp, ap_iPr, ap_oLc, ap_oLc2, ap_pNo, ap_pSome, ap_oSl, ap_rB, ap_vVar, ap_oMove, ap_aR, ap_gNm, ap_gTp, ap_gAll0, ap_gAll1, look_d, look_s, ap_looks0, ap_looks1, ap_conts0, ap_conts1, alook_d, alook_o, alook_r, own0, own_d, own_o, own_r, ifF, seqF, asgG, asgF, retF, expF, ret1, opH, opG, opF, tupG, tupF, lstG, lstF, boF, truH, truG, truF, andF, orF, vandG, vandF, vorG, vorF, notG, notH, notF, isG, isF, isTy2, isF2, evRG, evRF, evAG, evAF, evOG, evOF, chG, chAt, appF, gate, setL, setF3, setF2, setF1, callI, callH, callG, callF, itG, iopG, iopF, iprF, ivF, slI, slH, slG, slF, psF, parG, runG, runF, gaF, lkG, cnG, dsOf, outsOf, setAll, truthD, O.toD, O.isVal, dropRefs, setRefs, ownL, isTy, wS, v_gt, v_lt, v_le, v_ge, v_eq, v_ne, v_eqB, v_neB, v_add, v_sub, v_int, v_intB, v_abs, v_lenL, v_lenT, v_tupL, v_tupT, v_listL, v_ixL, v_ixT, v_setL, v_isN, PyData.isList, PyData.isTuple, v_eqN, v_eqS, PyData.isBool, PyData.isStr, PyData.isInt, isNone, tYs, ap_oOr, oorG, oorF, hr, hp, hst, f1, appL, f2]
    · rcases List.mem_append.mp hy with z | z
      · exact hh y z
      · rw [List.mem_singleton.mp z]
        exact ⟨_, _, _, _, rfl⟩) ds _ ⟨u, [], t, hu, rfl, (fun d h => nomatch h), by rw [List.length_nil]; omega⟩
  exact ⟨s', e1, u', hs, t', hu', es, hh, by rw [List.length_nil] at hln; omega⟩
theorem tm_loop2 (M : Tm c crew ranks k top) (m : Nat) {t : Option O} {hs : List D} : ∀ (ds : List D) (u : O), Urn (m + 3 * ds.length) u → ds.length ≤ 6 → ∃ s', forGo (gNm 8) (sExp (oApp 6 (frz (mOp gAdd [rV (vTup [rV (frz (mCall (c 8) [aR 0, aR 3]))]), rO (mCall (c 11) [aR 0, aR 2])])))) ds [some u, some (.val (.int k)), some (.val (.int top)), some (.lst crew), some (.lst ranks), some (.lst hs), some (.lst []), some (.lst []), t, none, none] = some (.nx, s') ∧ ∃ u gs t, Urn m u ∧ s' = [some u, some (.val (.int k)), some (.val (.int top)), some (.lst crew), some (.lst ranks), some (.lst hs), some (.lst gs), some (.lst []), t, none, none] ∧ (∀ d ∈ gs, GRow d) ∧ gs.length ≤ 6 := fun ds u hu hl => by
  obtain ⟨s', e1, u', gs, t', hu', es, hh, hln⟩ := forGo_inv (g := gNm 8) (b := (sExp (oApp 6 (frz (mOp gAdd [rV (vTup [rV (frz (mCall (c 8) [aR 0, aR 3]))]), rO (mCall (c 11) [aR 0, aR 2])]))))) (fun ds s => ∃ u gs t, Urn (m + 3 * ds.length) u ∧ s = [some u, some (.val (.int k)), some (.val (.int top)), some (.lst crew), some (.lst ranks), some (.lst hs), some (.lst gs), some (.lst []), t, none, none] ∧ (∀ d ∈ gs, GRow d) ∧ gs.length + ds.length ≤ 6) (fun d ds s ⟨u, gs, t, hu, es, hh, hln⟩ => by
    subst es
    rw [List.length_cons] at hu hln
    obtain ⟨p, u2, hu2, p1, hp⟩ := M.of_ (m + 3 * ds.length + 2) u crew (hu.le (by omega)) M.cne M.cle
    obtain ⟨a, b, u3, hu3, hst⟩ := M.st (m + 3 * ds.length) u2 top hu2 M.t0 M.t1
    obtain ⟨px, rfl⟩ := M.cr p p1
    have f1 := add_tups (a := [.str px]) (b := [.int a, .int b]) (by simp)
    have f2 : gs.length < sizeLine := small_line (by omega)
    obtain ⟨y1, y2, y3, rfl, _, _⟩ := hu
    obtain ⟨_, _, _, rfl, _, _⟩ := hu2
    obtain ⟨x1, x2, x3, rfl, x4, x5⟩ := hu3
    refine ⟨[some (.lst [.int y1, .int y2, .int y3]), some (.val (.int k)), some (.val (.int top)), some (.lst crew), some (.lst ranks), some (.lst hs), some (.lst gs), some (.lst []), some (.val d), none, none], [some (.lst [.int x1, .int x2, .int x3]), some (.val (.int k)), some (.val (.int top)), some (.lst crew), some (.lst ranks), some (.lst hs), some (.lst (gs ++ [.tuple [.str px, .int a, .int b]])), some (.lst []), some (.val d), none, none], ?_, ?_, _, _, _, ⟨x1, x2, x3, rfl, x4, x5⟩, rfl, fun y hy => ?_, by rw [List.length_append, List.length_cons, List.length_nil]; omega⟩
    · simp [bK_some, ap_runDef, ap_sSeq, ap_sAsg, ap_sIf, ap_vIf, ap_oIf, ap_sRet, ap_sExp, ap_sNx, ap_sFor, ap_sPar, ap_mOp, ap_rV, ap_frz, ap_rO, ap_oV, ap_aV, ap_aO, ap_vCon, ap_vTup, ap_oLst, ap_mBo, ap_mTru, ap_bNot, ap_bAnd, ap_bOr, ap_vAnd, ap_vOr, ap_vNot, ap_vIsi, ap_vIsi2, ap_evR0, ap_evR1, ap_evA0, ap_evA1, ap_evO0, ap_evO1, ap_oApp, ap_sSetIx, ap_mCall, ap_iVal, ap_iOp, ap_iPr, ap_oLc, ap_oLc2, ap_pNo, ap_pSome, ap_oSl, ap_rB, ap_vVar, ap_oMove, ap_aR, ap_gNm, ap_gTp, ap_gAll0, ap_gAll1, look_d, look_s, ap_looks0, ap_looks1, ap_conts0, ap_conts1, alook_d, alook_o, alook_r, own0, own_d, own_o, own_r, ifF, seqF, asgG, asgF, retF, expF, ret1, opH, opG, opF, tupG, tupF, lstG, lstF, boF, truH, truG, truF, andF, orF, vandG, vandF, vorG, vorF, notG, notH, notF, isG, isF, isTy2, isF2, evRG, evRF, evAG, evAF, evOG, evOF, chG, chAt, appF, gate, setL, setF3, setF2, setF1, callI, callH, callG, callF, itG, iopG, iopF, iprF, ivF, slI, slH, slG, slF, psF, parG, runG, runF, gaF, lkG, cnG, dsOf, outsOf, setAll, truthD, O.toD, O.isVal, dropRefs, setRefs, ownL, isTy, wS, v_gt, v_lt, v_le, v_ge, v_eq, v_ne, v_eqB, v_neB, v_add, v_sub, v_int, v_intB, v_abs, v_lenL, v_lenT, v_tupL, v_tupT, v_listL, v_ixL, v_ixT, v_setL, v_isN, PyData.isList, PyData.isTuple, v_eqN, v_eqS, PyData.isBool, PyData.isStr, PyData.isInt, isNone, tYs, ap_oOr, oorG, oorF]
    · simp [bK_some, ap_runDef, ap_sSeq, ap_sAsg, ap_sIf, ap_vIf, ap_oIf, ap_sRet, ap_sExp, ap_sNx, ap_sFor, ap_sPar, ap_mOp, ap_rV, ap_frz, ap_rO, ap_oV, ap_aV, ap_aO, ap_vCon, ap_vTup, ap_oLst, ap_mBo, ap_mTru, ap_bNot, ap_bAnd, ap_bOr, ap_vAnd, ap_vOr, ap_vNot, ap_vIsi, ap_vIsi2, ap_evR0, ap_evR1, ap_evA0, ap_evA1, ap_evO0, ap_evO1, ap_oApp, ap_sSetIx, ap_mCall, ap_iVal, ap_iOp, ap_iPr, ap_oLc, ap_oLc2, ap_pNo, ap_pSome, ap_oSl, ap_rB, ap_vVar, ap_oMove, ap_aR, ap_gNm, ap_gTp, ap_gAll0, ap_gAll1, look_d, look_s, ap_looks0, ap_looks1, ap_conts0, ap_conts1, alook_d, alook_o, alook_r, own0, own_d, own_o, own_r, ifF, seqF, asgG, asgF, retF, expF, ret1, opH, opG, opF, tupG, tupF, lstG, lstF, boF, truH, truG, truF, andF, orF, vandG, vandF, vorG, vorF, notG, notH, notF, isG, isF, isTy2, isF2, evRG, evRF, evAG, evAF, evOG, evOF, chG, chAt, appF, gate, setL, setF3, setF2, setF1, callI, callH, callG, callF, itG, iopG, iopF, iprF, ivF, slI, slH, slG, slF, psF, parG, runG, runF, gaF, lkG, cnG, dsOf, outsOf, setAll, truthD, O.toD, O.isVal, dropRefs, setRefs, ownL, isTy, wS, v_gt, v_lt, v_le, v_ge, v_eq, v_ne, v_eqB, v_neB, v_add, v_sub, v_int, v_intB, v_abs, v_lenL, v_lenT, v_tupL, v_tupT, v_listL, v_ixL, v_ixT, v_setL, v_isN, PyData.isList, PyData.isTuple, v_eqN, v_eqS, PyData.isBool, PyData.isStr, PyData.isInt, isNone, tYs, ap_oOr, oorG, oorF, hp, hst, f1, appL, f2]
    · rcases List.mem_append.mp hy with z | z
      · exact hh y z
      · rw [List.mem_singleton.mp z]
        exact ⟨_, _, _, rfl⟩) ds _ ⟨u, [], t, hu, rfl, (fun d h => nomatch h), by rw [List.length_nil]; omega⟩
  exact ⟨s', e1, u', gs, t', hu', es, hh, by rw [List.length_nil] at hln; omega⟩
theorem tm_loop3 (M : Tm c crew ranks k top) (m : Nat) {t : Option O} {hs gs : List D} : ∀ (ds : List D) (u : O), Urn (m + 5 * ds.length) u → ds.length ≤ 8 → ∃ s', forGo (gNm 8) (sSeq (sAsg (gNm 9) (mCall (c 6) [aR 0, aR 1])) (sSeq (sAsg (gNm 10) (mOp gMod [rO (mOp gInt [rO (mOp gAdd [rO (mOp gAdd [rB 9, rV (vCon (.int 1))]), rO (mCall (c 6) [aR 0, aO (mOp gSub [rB 1, rV (vCon (.int 1))])])])]), rB 1])) (sExp (oApp 7 (frz (mOp gAdd [rV (vTup [rV (frz (mCall (c 8) [aR 0, aR 4])), rV (frz (mOp gIx [rB 3, rB 9])), rV (frz (mOp gIx [rB 3, rB 10]))]), rO (mCall (c 11) [aR 0, aR 2])])))))) ds [some u, some (.val (.int k)), some (.val (.int top)), some (.lst crew), some (.lst ranks), some (.lst hs), some (.lst gs), some (.lst []), t, none, none] = some (.nx, s') ∧ ∃ u zs t x y, Urn m u ∧ s' = [some u, some (.val (.int k)), some (.val (.int top)), some (.lst crew), some (.lst ranks), some (.lst hs), some (.lst gs), some (.lst zs), t, x, y] ∧ (∀ d ∈ zs, DRow d) ∧ zs.length ≤ 8 := fun ds u hu hl => by
  obtain ⟨s', e1, u', zs, t', x', y', hu', es, hh, hln⟩ := forGo_inv (g := gNm 8) (b := (sSeq (sAsg (gNm 9) (mCall (c 6) [aR 0, aR 1])) (sSeq (sAsg (gNm 10) (mOp gMod [rO (mOp gInt [rO (mOp gAdd [rO (mOp gAdd [rB 9, rV (vCon (.int 1))]), rO (mCall (c 6) [aR 0, aO (mOp gSub [rB 1, rV (vCon (.int 1))])])])]), rB 1])) (sExp (oApp 7 (frz (mOp gAdd [rV (vTup [rV (frz (mCall (c 8) [aR 0, aR 4])), rV (frz (mOp gIx [rB 3, rB 9])), rV (frz (mOp gIx [rB 3, rB 10]))]), rO (mCall (c 11) [aR 0, aR 2])]))))))) (fun ds s => ∃ u zs t x y, Urn (m + 5 * ds.length) u ∧ s = [some u, some (.val (.int k)), some (.val (.int top)), some (.lst crew), some (.lst ranks), some (.lst hs), some (.lst gs), some (.lst zs), t, x, y] ∧ (∀ d ∈ zs, DRow d) ∧ zs.length + ds.length ≤ 8) (fun d ds s ⟨u, zs, t, x, y, hu, es, hh, hln⟩ => by
    subst es
    rw [List.length_cons] at hu hln
    have k2 := M.k2
    have k8 := M.k8
    obtain ⟨r9, v1, hv1, hr9, a0, a1⟩ := M.tk (m + 5 * ds.length + 4) u k (hu.le (by omega)) (by omega) (by omega)
    obtain ⟨r10, v2, hv2, hr10, b0, b1⟩ := M.tk (m + 5 * ds.length + 3) v1 ((k : Int) - 1) hv1 (by omega) (by omega)
    obtain ⟨r, u1, hu1, r1, hr⟩ := M.of_ (m + 5 * ds.length + 2) v2 ranks hv2 M.rne M.rle
    obtain ⟨a, b, u3, hu3, hst⟩ := M.st (m + 5 * ds.length) u1 top hu1 M.t0 M.t1
    obtain ⟨rx, rfl⟩ := M.rk r r1
    have c0 : (0 : Int) ≤ (r9 + 1 + r10) % k := Int.emod_nonneg _ (by omega)
    have c1 : (r9 + 1 + r10) % k < k := Int.emod_lt_of_pos _ (by omega)
    obtain ⟨p, p1, p2⟩ := at_lt (xs := crew) a0 (by rw [M.cl]; exact a1)
    obtain ⟨q, q1, q2⟩ := at_lt (xs := crew) c0 (by rw [M.cl]; exact c1)
    obtain ⟨px, rfl⟩ := M.cr p p2
    obtain ⟨qx, rfl⟩ := M.cr q q2
    have f0 : gMod [.int (r9 + 1 + r10), .int k] = some (.val (.int ((r9 + 1 + r10) % k))) := v_mod _ _ (by omega)
    have f1 := add_tups (a := [.str rx, .str px, .str qx]) (b := [.int a, .int b]) (by simp)
    have f2 : zs.length < sizeLine := small_line (by omega)
    obtain ⟨y1, y2, y3, rfl, _, _⟩ := hu
    obtain ⟨_, _, _, rfl, _, _⟩ := hv1
    obtain ⟨_, _, _, rfl, _, _⟩ := hv2
    obtain ⟨_, _, _, rfl, _, _⟩ := hu1
    obtain ⟨x1, x2, x3, rfl, x4, x5⟩ := hu3
    refine ⟨[some (.lst [.int y1, .int y2, .int y3]), some (.val (.int k)), some (.val (.int top)), some (.lst crew), some (.lst ranks), some (.lst hs), some (.lst gs), some (.lst zs), some (.val d), x, y], [some (.lst [.int x1, .int x2, .int x3]), some (.val (.int k)), some (.val (.int top)), some (.lst crew), some (.lst ranks), some (.lst hs), some (.lst gs), some (.lst (zs ++ [.tuple [.str rx, .str px, .str qx, .int a, .int b]])), some (.val d), some (.val (.int r9)), some (.val (.int ((r9 + 1 + r10) % k)))], ?_, ?_, _, _, _, _, _, ⟨x1, x2, x3, rfl, x4, x5⟩, rfl, fun y hy => ?_, by rw [List.length_append, List.length_cons, List.length_nil]; omega⟩
    · simp [bK_some, ap_runDef, ap_sSeq, ap_sAsg, ap_sIf, ap_vIf, ap_oIf, ap_sRet, ap_sExp, ap_sNx, ap_sFor, ap_sPar, ap_mOp, ap_rV, ap_frz, ap_rO, ap_oV, ap_aV, ap_aO, ap_vCon, ap_vTup, ap_oLst, ap_mBo, ap_mTru, ap_bNot, ap_bAnd, ap_bOr, ap_vAnd, ap_vOr, ap_vNot, ap_vIsi, ap_vIsi2, ap_evR0, ap_evR1, ap_evA0, ap_evA1, ap_evO0, ap_evO1, ap_oApp, ap_sSetIx, ap_mCall, ap_iVal, ap_iOp, ap_iPr, ap_oLc, ap_oLc2, ap_pNo, ap_pSome, ap_oSl, ap_rB, ap_vVar, ap_oMove, ap_aR, ap_gNm, ap_gTp, ap_gAll0, ap_gAll1, look_d, look_s, ap_looks0, ap_looks1, ap_conts0, ap_conts1, alook_d, alook_o, alook_r, own0, own_d, own_o, own_r, ifF, seqF, asgG, asgF, retF, expF, ret1, opH, opG, opF, tupG, tupF, lstG, lstF, boF, truH, truG, truF, andF, orF, vandG, vandF, vorG, vorF, notG, notH, notF, isG, isF, isTy2, isF2, evRG, evRF, evAG, evAF, evOG, evOF, chG, chAt, appF, gate, setL, setF3, setF2, setF1, callI, callH, callG, callF, itG, iopG, iopF, iprF, ivF, slI, slH, slG, slF, psF, parG, runG, runF, gaF, lkG, cnG, dsOf, outsOf, setAll, truthD, O.toD, O.isVal, dropRefs, setRefs, ownL, isTy, wS, v_gt, v_lt, v_le, v_ge, v_eq, v_ne, v_eqB, v_neB, v_add, v_sub, v_int, v_intB, v_abs, v_lenL, v_lenT, v_tupL, v_tupT, v_listL, v_ixL, v_ixT, v_setL, v_isN, PyData.isList, PyData.isTuple, v_eqN, v_eqS, PyData.isBool, PyData.isStr, PyData.isInt, isNone, tYs, ap_oOr, oorG, oorF]
    · simp [bK_some, ap_runDef, ap_sSeq, ap_sAsg, ap_sIf, ap_vIf, ap_oIf, ap_sRet, ap_sExp, ap_sNx, ap_sFor, ap_sPar, ap_mOp, ap_rV, ap_frz, ap_rO, ap_oV, ap_aV, ap_aO, ap_vCon, ap_vTup, ap_oLst, ap_mBo, ap_mTru, ap_bNot, ap_bAnd, ap_bOr, ap_vAnd, ap_vOr, ap_vNot, ap_vIsi, ap_vIsi2, ap_evR0, ap_evR1, ap_evA0, ap_evA1, ap_evO0, ap_evO1, ap_oApp, ap_sSetIx, ap_mCall, ap_iVal, ap_iOp, ap_iPr, ap_oLc, ap_oLc2, ap_pNo, ap_pSome, ap_oSl, ap_rB, ap_vVar, ap_oMove, ap_aR, ap_gNm, ap_gTp, ap_gAll0, ap_gAll1, look_d, look_s, ap_looks0, ap_looks1, ap_conts0, ap_conts1, alook_d, alook_o, alook_r, own0, own_d, own_o, own_r, ifF, seqF, asgG, asgF, retF, expF, ret1, opH, opG, opF, tupG, tupF, lstG, lstF, boF, truH, truG, truF, andF, orF, vandG, vandF, vorG, vorF, notG, notH, notF, isG, isF, isTy2, isF2, evRG, evRF, evAG, evAF, evOG, evOF, chG, chAt, appF, gate, setL, setF3, setF2, setF1, callI, callH, callG, callF, itG, iopG, iopF, iprF, ivF, slI, slH, slG, slF, psF, parG, runG, runF, gaF, lkG, cnG, dsOf, outsOf, setAll, truthD, O.toD, O.isVal, dropRefs, setRefs, ownL, isTy, wS, v_gt, v_lt, v_le, v_ge, v_eq, v_ne, v_eqB, v_neB, v_add, v_sub, v_int, v_intB, v_abs, v_lenL, v_lenT, v_tupL, v_tupT, v_listL, v_ixL, v_ixT, v_setL, v_isN, PyData.isList, PyData.isTuple, v_eqN, v_eqS, PyData.isBool, PyData.isStr, PyData.isInt, isNone, tYs, ap_oOr, oorG, oorF, hr9, hr10, hr, hst, f0, f1, appL, f2, p1, q1]
    · rcases List.mem_append.mp hy with z | z
      · exact hh y z
      · rw [List.mem_singleton.mp z]
        exact ⟨_, _, _, _, _, rfl⟩) ds _ ⟨u, [], t, none, none, hu, rfl, (fun d h => nomatch h), by rw [List.length_nil]; omega⟩
  exact ⟨s', e1, u', zs, t', x', y', hu', es, hh, by rw [List.length_nil] at hln; omega⟩
def TomeOk (f : FD) : Prop := ∀ (m : Nat) (u : O) (k : Nat) (top : Int), Urn (m + 100) u → 2 ≤ k → k ≤ 8 → 0 ≤ top → top < 2 ^ 50 → ∃ hs gs ds u', Urn m u' ∧ Book hs gs ds ∧ f [u, .val (.int k), .val (.int top)] = some (.val (enc hs gs ds), [u', .val (.int k), .val (.int top)])
theorem tome_ok (tk : TakeOk (c 6)) (of_ : OfOk (c 8)) (st : StrOk (c 11)) : TomeOk (runDef 11 3 (m12 c)) := fun m u k top hu k2 k8 t0 t1 => by
  have M : Tm c (([.str "ann", .str "bob", .str "cat", .str "dan", .str "eve", .str "fay", .str "a", .str "zzzzzzzz"] : List D).take k) [.str "bob", .str "pay", .str "x"] k top := ⟨tk, of_, st, fun d hd => by
    have h := List.mem_of_mem_take hd
    simp only [List.mem_cons, List.not_mem_nil, or_false] at h
    rcases h with h | h | h | h | h | h | h | h <;> exact ⟨_, h⟩, fun d h => by
    simp only [List.mem_cons, List.not_mem_nil, or_false] at h
    rcases h with h | h | h <;> exact ⟨_, h⟩, by rw [List.length_take]; simp; omega, rfl, k2, k8, t0, t1⟩
  have w : ∀ xs : List D, cutG xs none (some (k : Int)) = xs.take k := fun xs => cut_to xs k
  obtain ⟨n1, u1, hu1, hn1, a0, a1⟩ := tk (m + 99) u 6 hu (by decide) (by decide)
  obtain ⟨s1, e1, v1, hs, x1, hv1, es1, hh, lh⟩ := tm_loop1 M (m + 75) (t := none) (rng 0 (1 + n1).toNat) u1 (hu1.le (by rw [rng_len]; omega)) (by rw [rng_len]; omega)
  subst es1
  obtain ⟨n2, u2, hu2, hn2, b0, b1⟩ := tk (m + 74) v1 6 hv1 (by decide) (by decide)
  obtain ⟨s2, e2, v2, gs, x2, hv2, es2, hg, lg⟩ := tm_loop2 M (m + 50) (t := x1) (hs := hs) (rng 0 n2.toNat) u2 (hu2.le (by rw [rng_len]; omega)) (by rw [rng_len]; omega)
  subst es2
  obtain ⟨n3, u3, hu3, hn3, c0, c1⟩ := tk (m + 49) v2 9 hv2 (by decide) (by decide)
  obtain ⟨s3, e3, v3, zs, x3, x4, x5, hv3, es3, hz, lz⟩ := tm_loop3 M (m + 9) (t := x2) (hs := hs) (gs := gs) (rng 0 n3.toNat) u3 (hu3.le (by rw [rng_len]; omega)) (by rw [rng_len]; omega)
  subst es3
  obtain ⟨hs', q1, q2, q3, _⟩ := kin_sset h_kin hh (by omega)
  obtain ⟨gs', r1, r2, r3, _⟩ := kin_sset g_kin hg (by omega)
  obtain ⟨zs', z1, z2, z3, _⟩ := kin_sset d_kin hz (by omega)
  refine ⟨hs', gs', zs', v3, hv3.le (by omega), ⟨fun d hd => hh d ((q2 d).mp hd), fun d hd => hg d ((r2 d).mp hd), fun d hd => hz d ((z2 d).mp hd), by omega, by omega, by omega⟩, ?_⟩
  have g1 := gRng1 (j := 1 + n1) (by omega) (by omega)
  have g2 := gRng1 (j := n2) (by omega) (by omega)
  have g3 := gRng1 (j := n3) (by omega) (by omega)
  obtain ⟨_, _, _, rfl, _, _⟩ := hu
  obtain ⟨_, _, _, rfl, _, _⟩ := hu1
  obtain ⟨_, _, _, rfl, _, _⟩ := hv1
  obtain ⟨_, _, _, rfl, _, _⟩ := hu2
  obtain ⟨_, _, _, rfl, _, _⟩ := hv2
  obtain ⟨_, _, _, rfl, _, _⟩ := hu3
  obtain ⟨_, _, _, rfl, _, _⟩ := hv3
  simp [m12, bK_some, ap_runDef, ap_sSeq, ap_sAsg, ap_sIf, ap_vIf, ap_oIf, ap_sRet, ap_sExp, ap_sNx, ap_sFor, ap_sPar, ap_mOp, ap_rV, ap_frz, ap_rO, ap_oV, ap_aV, ap_aO, ap_vCon, ap_vTup, ap_oLst, ap_mBo, ap_mTru, ap_bNot, ap_bAnd, ap_bOr, ap_vAnd, ap_vOr, ap_vNot, ap_vIsi, ap_vIsi2, ap_evR0, ap_evR1, ap_evA0, ap_evA1, ap_evO0, ap_evO1, ap_oApp, ap_sSetIx, ap_mCall, ap_iVal, ap_iOp, ap_iPr, ap_oLc, ap_oLc2, ap_pNo, ap_pSome, ap_oSl, ap_rB, ap_vVar, ap_oMove, ap_aR, ap_gNm, ap_gTp, ap_gAll0, ap_gAll1, look_d, look_s, ap_looks0, ap_looks1, ap_conts0, ap_conts1, alook_d, alook_o, alook_r, own0, own_d, own_o, own_r, ifF, seqF, asgG, asgF, retF, expF, ret1, opH, opG, opF, tupG, tupF, lstG, lstF, boF, truH, truG, truF, andF, orF, vandG, vandF, vorG, vorF, notG, notH, notF, isG, isF, isTy2, isF2, evRG, evRF, evAG, evAF, evOG, evOF, chG, chAt, appF, gate, setL, setF3, setF2, setF1, callI, callH, callG, callF, itG, iopG, iopF, iprF, ivF, slI, slH, slG, slF, psF, parG, runG, runF, gaF, lkG, cnG, dsOf, outsOf, setAll, truthD, O.toD, O.isVal, dropRefs, setRefs, ownL, isTy, wS, v_gt, v_lt, v_le, v_ge, v_eq, v_ne, v_eqB, v_neB, v_add, v_sub, v_int, v_intB, v_abs, v_lenL, v_lenT, v_tupL, v_tupT, v_listL, v_ixL, v_ixT, v_setL, v_isN, PyData.isList, PyData.isTuple, v_eqN, v_eqS, PyData.isBool, PyData.isStr, PyData.isInt, isNone, tYs, ap_oOr, oorG, oorF, gSl, w, hn1, hn2, hn3, g1, g2, g3, e1, e2, e3, gSSet, q1, r1, z1, enc]
end
end Dv.G

namespace Dv.G
open PySem PySem.Spec PyProof.Rows L2
theorem of_at (n : Nat) : OfOk (C (n + 2) 8) := of_ok (take_at n)
theorem str_at (n : Nat) : StrOk (C (n + 2) 11) := str_ok (c := C (n + 1)) (take_at n)
theorem tome_at (n : Nat) : TomeOk (C (n + 3) 12) := tome_ok (c := C (n + 2)) (take_at (n + 1)) (of_at n) (str_at n)
mutual
theorem lv_eqv : ∀ (n : Nat) (d : D), Lv n d → PyData.eqv d d = true
  | n + 1, .list ds, h => by
    rw [PyData.eqv]
    exact lv_eqvA n ds h.2
  | n + 1, .tuple ds, h => by
    rw [PyData.eqv]
    exact lv_eqvA n ds h.2
  | n + 1, .none, _ => by rw [PyData.eqv]
  | n + 1, .bool b, _ => by rw [PyData.eqv]; exact beq_self_eq_true b
  | n + 1, .int b, _ => by rw [PyData.eqv]; exact beq_self_eq_true b
  | n + 1, .str b, _ => by rw [PyData.eqv]; exact beq_self_eq_true b
  | n + 1, .dict _, h => h.elim
theorem lv_eqvA : ∀ (n : Nat) (ds : List D), (∀ d ∈ ds, Lv n d) → PyData.eqvAll ds ds = true
  | n, [], _ => by rw [PyData.eqvAll]
  | n, d :: ds, h => by
    rw [PyData.eqvAll, lv_eqv n d (h d List.mem_cons_self), lv_eqvA n ds fun x hx => h x (List.mem_cons_of_mem _ hx)]
    rfl
end
mutual
theorem lv_dep : ∀ (n : Nat) (d : D), Lv n d → d.depth ≤ n
  | n + 1, .list ds, h => by
    have := lv_depA n ds h.2
    simp only [PyData.depth]
    omega
  | n + 1, .tuple ds, h => by
    have := lv_depA n ds h.2
    simp only [PyData.depth]
    omega
  | n + 1, .none, _ => by simp [PyData.depth]
  | n + 1, .bool b, _ => by simp [PyData.depth]
  | n + 1, .int b, _ => by simp [PyData.depth]
  | n + 1, .str b, _ => by simp [PyData.depth]
  | n + 1, .dict _, h => h.elim
theorem lv_depA : ∀ (n : Nat) (ds : List D), (∀ d ∈ ds, Lv n d) → PyData.depthAll ds ≤ n
  | n, [], _ => by simp [PyData.depthAll]
  | n, d :: ds, h => by
    have h1 := lv_dep n d (h d List.mem_cons_self)
    have h2 := lv_depA n ds fun x hx => h x (List.mem_cons_of_mem _ hx)
    simp only [PyData.depthAll]
    omega
end
theorem ne_self {n : Nat} {d : D} (h : Lv n d) (hn : n ≤ 60) : gNe [d, d] = some (.val (.bool false)) := by
  refine (if_pos (e := (none : Option O)) (show flat2 d d = true from ?_)).trans ?_
  · unfold flat2
    rw [decide_eq_true (show d.depth ≤ 64 by have := lv_dep n d h; omega)]
    rfl
  · rw [lv_eqv n d h]
    rfl
theorem rows_fix {R : D → Prop} (hr : ∀ d, R d → tupD d = d ∧ szD d = 1) : ∀ {ds : List D}, (∀ d ∈ ds, R d) → tupA ds = ds ∧ szA ds = ds.length
  | [], _ => ⟨by rw [tupA], by rw [szA]; rfl⟩
  | d :: ds, h => by
    obtain ⟨e1, e2⟩ := rows_fix hr fun x hx => h x (List.mem_cons_of_mem _ hx)
    obtain ⟨f1, f2⟩ := hr d (h d List.mem_cons_self)
    exact ⟨by rw [tupA, f1, e1], by rw [szA, f2, e2, List.length_cons]; omega⟩
theorem book_fix {hs gs ds : List D} (B : Book hs gs ds) : tupD (enc hs gs ds) = enc hs gs ds ∧ szD (enc hs gs ds) ≤ 40 ∧ Lv 4 (enc hs gs ds) := by
  obtain ⟨h1, h2⟩ := rows_fix (R := HRow) (fun d ⟨r, p, a, b, e⟩ => by rw [e]; simp [tupD, tupA, szD, szA]) B.h
  obtain ⟨g1, g2⟩ := rows_fix (R := GRow) (fun d ⟨p, a, b, e⟩ => by rw [e]; simp [tupD, tupA, szD, szA]) B.g
  obtain ⟨d1, d2⟩ := rows_fix (R := DRow) (fun d ⟨r, p, q, a, b, e⟩ => by rw [e]; simp [tupD, tupA, szD, szA]) B.d
  have lh := B.lh
  have lg := B.lg
  have ld := B.ld
  refine ⟨by unfold enc; simp [tupD, tupA, h1, g1, d1], by unfold enc; simp [szD, szA, h2, g2, d2]; omega, ?_⟩
  refine ⟨by simp, fun x hx => ?_⟩
  simp only [List.mem_cons, List.not_mem_nil, or_false] at hx
  rcases hx with rfl | rfl | rfl
  · exact ⟨by omega, fun y hy => (h_at (B.h y hy)).2.2⟩
  · exact ⟨by omega, fun y hy => (g_at (B.g y hy)).2.2⟩
  · exact ⟨by omega, fun y hy => (d_at (B.d y hy)).2.2.2.2⟩
end Dv.G

namespace Dv.G
open PySem PySem.Spec PyProof.Rows L2
theorem on_ok {c : Nat → FD} {xs : List D} {a b t : Int} (ha : atI xs (-2) = some (.int a)) (hb : atI xs (-1) = some (.int b)) : runDef 2 2 (m1 c) [.val (.tuple xs), .val (.int t)] = some (.val (.bool (decide (a ≤ t) && decide (t ≤ b))), [.val (.tuple xs), .val (.int t)]) := by
  by_cases h1 : a ≤ t <;> by_cases h2 : t ≤ b <;> simp [m1, bK_some, ap_runDef, ap_sSeq, ap_sAsg, ap_sIf, ap_vIf, ap_oIf, ap_sRet, ap_sExp, ap_sNx, ap_sFor, ap_sPar, ap_mOp, ap_rV, ap_frz, ap_rO, ap_oV, ap_aV, ap_aO, ap_vCon, ap_vTup, ap_oLst, ap_mBo, ap_mTru, ap_bNot, ap_bAnd, ap_bOr, ap_vAnd, ap_vOr, ap_vNot, ap_vIsi, ap_vIsi2, ap_evR0, ap_evR1, ap_evA0, ap_evA1, ap_evO0, ap_evO1, ap_oApp, ap_sSetIx, ap_mCall, ap_iVal, ap_iOp, ap_iPr, ap_oLc, ap_oLc2, ap_pNo, ap_pSome, ap_oSl, ap_rB, ap_vVar, ap_oMove, ap_aR, ap_gNm, ap_gTp, ap_gAll0, ap_gAll1, look_d, look_s, ap_looks0, ap_looks1, ap_conts0, ap_conts1, alook_d, alook_o, alook_r, own0, own_d, own_o, own_r, ifF, seqF, asgG, asgF, retF, expF, ret1, opH, opG, opF, tupG, tupF, lstG, lstF, boF, truH, truG, truF, andF, orF, vandG, vandF, vorG, vorF, notG, notH, notF, isG, isF, isTy2, isF2, evRG, evRF, evAG, evAF, evOG, evOF, chG, chAt, appF, gate, setL, setF3, setF2, setF1, callI, callH, callG, callF, itG, iopG, iopF, iprF, ivF, slI, slH, slG, slF, psF, parG, runG, runF, gaF, lkG, cnG, dsOf, outsOf, setAll, truthD, O.toD, O.isVal, dropRefs, setRefs, ownL, isTy, wS, v_gt, v_lt, v_le, v_ge, v_eq, v_ne, v_eqB, v_neB, v_add, v_sub, v_int, v_intB, v_abs, v_lenL, v_lenT, v_tupL, v_tupT, v_listL, v_ixL, v_ixT, v_setL, v_isN, PyData.isList, PyData.isTuple, v_eqN, v_eqS, PyData.isBool, PyData.isStr, PyData.isInt, isNone, tYs, ap_oOr, oorG, oorF, ap_mCallP, callPF, pick0, pick1, pickG, ap_oChain, chnF, chnG, chnH, chnI, lkB, v_neg, ha, hb, h1, h2]
def onH (r : Str) (t : Int) : D → Bool
  | .tuple [.str x, _, .int a, .int b] => x == r && (decide (a ≤ t) && decide (t ≤ b))
  | _ => false
def onG (t : Int) : D → Bool
  | .tuple [_, .int a, .int b] => decide (a ≤ t) && decide (t ≤ b)
  | _ => false
theorem e_1 (n : Nat) : C (n + 1) 1 = runDef 2 2 (m1 (C n)) := rfl
theorem e_2 (n : Nat) : C (n + 1) 2 = runDef 1 1 (m2 (C n)) := rfl
theorem e_3 (n : Nat) : C (n + 1) 3 = runDef 4 3 (m3 (C n)) := rfl
theorem e_4 (n : Nat) : C (n + 1) 4 = runDef 3 2 (m4 (C n)) := rfl
theorem e_13 (n : Nat) : C (n + 1) 13 = runDef 4 3 (m13 (C n)) := rfl
theorem e_14 (n : Nat) : C (n + 1) 14 = runDef 3 2 (m14 (C n)) := rfl
theorem holders_ok {n : Nat} {o : O} {hs gs ds ys : List D} {r : Str} {t : Int} (B : Book hs gs ds) (hl : Lv (n + 1) o.toD) (ht : tupD o.toD = enc hs gs ds) (hy : ssetD ((hs.filter (onH r t)).map (fld 1)) = some ys) : C (n + 2) 3 [o, .val (.str r), .val (.int t)] = some (.val (.tuple ys), [.val o.toD, .val (.str r), .val (.int t)]) := by
  have ht0 : C (n + 1) 0 [o] = some (.val (enc hs gs ds), [.val o.toD]) := by rw [tup_ok (n + 1) o hl, ht]
  obtain ⟨dd, hdd⟩ : ∃ dd, o.toD = dd := ⟨_, rfl⟩
  rw [hdd] at ht0 ⊢
  have c1 : lcG (compGo [3] (gNm 3) (bAnd (mBo (mOp gEq [rO (mOp gIx [rB 3, rV (vCon (.int 0))]), rB 1])) (mTru (rO (mCall (C (n + 1) 1) [aR 3, aR 2])))) (frz (mOp gIx [rB 3, rV (vCon (.int 1))])) hs [some (.val dd), some (.val (.str r)), some (.val (.int t)), none]) = some (.lst ((hs.filter (onH r t)).map (fld 1)), [some (.val dd), some (.val (.str r)), some (.val (.int t)), none]) := by
    rw [comp_flt (onH r t) (fld 1) rfl fun d hd => ?_]
    · exact lcG_ok (by rw [List.length_map]; have := B.lh; have := List.length_filter_le (onH r t) hs; omega)
    · obtain ⟨x, p, a, b, rfl⟩ := B.h d hd
      have e1 : C (n + 1) 1 [.val (.tuple [.str x, .str p, .int a, .int b]), .val (.int t)] = some (.val (.bool (decide (a ≤ t) && decide (t ≤ b))), [.val (.tuple [.str x, .str p, .int a, .int b]), .val (.int t)]) := by rw [e_1]; exact on_ok rfl rfl
      have e2 : atI [PyData.str x, .str p, .int a, .int b] 0 = some (.str x) := rfl
      have e3 : atI [PyData.str x, .str p, .int a, .int b] 1 = some (.str p) := rfl
      refine ⟨?_, fun _ => ?_⟩
      · cases hx : x == r with
        | false => simp [bK_some, ap_runDef, ap_sSeq, ap_sAsg, ap_sIf, ap_vIf, ap_oIf, ap_sRet, ap_sExp, ap_sNx, ap_sFor, ap_sPar, ap_mOp, ap_rV, ap_frz, ap_rO, ap_oV, ap_aV, ap_aO, ap_vCon, ap_vTup, ap_oLst, ap_mBo, ap_mTru, ap_bNot, ap_bAnd, ap_bOr, ap_vAnd, ap_vOr, ap_vNot, ap_vIsi, ap_vIsi2, ap_evR0, ap_evR1, ap_evA0, ap_evA1, ap_evO0, ap_evO1, ap_oApp, ap_sSetIx, ap_mCall, ap_iVal, ap_iOp, ap_iPr, ap_oLc, ap_oLc2, ap_pNo, ap_pSome, ap_oSl, ap_rB, ap_vVar, ap_oMove, ap_aR, ap_gNm, ap_gTp, ap_gAll0, ap_gAll1, look_d, look_s, ap_looks0, ap_looks1, ap_conts0, ap_conts1, alook_d, alook_o, alook_r, own0, own_d, own_o, own_r, ifF, seqF, asgG, asgF, retF, expF, ret1, opH, opG, opF, tupG, tupF, lstG, lstF, boF, truH, truG, truF, andF, orF, vandG, vandF, vorG, vorF, notG, notH, notF, isG, isF, isTy2, isF2, evRG, evRF, evAG, evAF, evOG, evOF, chG, chAt, appF, gate, setL, setF3, setF2, setF1, callI, callH, callG, callF, itG, iopG, iopF, iprF, ivF, slI, slH, slG, slF, psF, parG, runG, runF, gaF, lkG, cnG, dsOf, outsOf, setAll, truthD, O.toD, O.isVal, dropRefs, setRefs, ownL, isTy, wS, v_gt, v_lt, v_le, v_ge, v_eq, v_ne, v_eqB, v_neB, v_add, v_sub, v_int, v_intB, v_abs, v_lenL, v_lenT, v_tupL, v_tupT, v_listL, v_ixL, v_ixT, v_setL, v_isN, PyData.isList, PyData.isTuple, v_eqN, v_eqS, PyData.isBool, PyData.isStr, PyData.isInt, isNone, tYs, ap_oOr, oorG, oorF, ap_mCallP, callPF, pick0, pick1, pickG, ap_oChain, chnF, chnG, chnH, chnI, lkB, v_neg, e2, v_eqSS, hx, onH]
        | true => simp [bK_some, ap_runDef, ap_sSeq, ap_sAsg, ap_sIf, ap_vIf, ap_oIf, ap_sRet, ap_sExp, ap_sNx, ap_sFor, ap_sPar, ap_mOp, ap_rV, ap_frz, ap_rO, ap_oV, ap_aV, ap_aO, ap_vCon, ap_vTup, ap_oLst, ap_mBo, ap_mTru, ap_bNot, ap_bAnd, ap_bOr, ap_vAnd, ap_vOr, ap_vNot, ap_vIsi, ap_vIsi2, ap_evR0, ap_evR1, ap_evA0, ap_evA1, ap_evO0, ap_evO1, ap_oApp, ap_sSetIx, ap_mCall, ap_iVal, ap_iOp, ap_iPr, ap_oLc, ap_oLc2, ap_pNo, ap_pSome, ap_oSl, ap_rB, ap_vVar, ap_oMove, ap_aR, ap_gNm, ap_gTp, ap_gAll0, ap_gAll1, look_d, look_s, ap_looks0, ap_looks1, ap_conts0, ap_conts1, alook_d, alook_o, alook_r, own0, own_d, own_o, own_r, ifF, seqF, asgG, asgF, retF, expF, ret1, opH, opG, opF, tupG, tupF, lstG, lstF, boF, truH, truG, truF, andF, orF, vandG, vandF, vorG, vorF, notG, notH, notF, isG, isF, isTy2, isF2, evRG, evRF, evAG, evAF, evOG, evOF, chG, chAt, appF, gate, setL, setF3, setF2, setF1, callI, callH, callG, callF, itG, iopG, iopF, iprF, ivF, slI, slH, slG, slF, psF, parG, runG, runF, gaF, lkG, cnG, dsOf, outsOf, setAll, truthD, O.toD, O.isVal, dropRefs, setRefs, ownL, isTy, wS, v_gt, v_lt, v_le, v_ge, v_eq, v_ne, v_eqB, v_neB, v_add, v_sub, v_int, v_intB, v_abs, v_lenL, v_lenT, v_tupL, v_tupT, v_listL, v_ixL, v_ixT, v_setL, v_isN, PyData.isList, PyData.isTuple, v_eqN, v_eqS, PyData.isBool, PyData.isStr, PyData.isInt, isNone, tYs, ap_oOr, oorG, oorF, ap_mCallP, callPF, pick0, pick1, pickG, ap_oChain, chnF, chnG, chnH, chnI, lkB, v_neg, e2, v_eqSS, hx, onH, e1]
      · simp [bK_some, ap_runDef, ap_sSeq, ap_sAsg, ap_sIf, ap_vIf, ap_oIf, ap_sRet, ap_sExp, ap_sNx, ap_sFor, ap_sPar, ap_mOp, ap_rV, ap_frz, ap_rO, ap_oV, ap_aV, ap_aO, ap_vCon, ap_vTup, ap_oLst, ap_mBo, ap_mTru, ap_bNot, ap_bAnd, ap_bOr, ap_vAnd, ap_vOr, ap_vNot, ap_vIsi, ap_vIsi2, ap_evR0, ap_evR1, ap_evA0, ap_evA1, ap_evO0, ap_evO1, ap_oApp, ap_sSetIx, ap_mCall, ap_iVal, ap_iOp, ap_iPr, ap_oLc, ap_oLc2, ap_pNo, ap_pSome, ap_oSl, ap_rB, ap_vVar, ap_oMove, ap_aR, ap_gNm, ap_gTp, ap_gAll0, ap_gAll1, look_d, look_s, ap_looks0, ap_looks1, ap_conts0, ap_conts1, alook_d, alook_o, alook_r, own0, own_d, own_o, own_r, ifF, seqF, asgG, asgF, retF, expF, ret1, opH, opG, opF, tupG, tupF, lstG, lstF, boF, truH, truG, truF, andF, orF, vandG, vandF, vorG, vorF, notG, notH, notF, isG, isF, isTy2, isF2, evRG, evRF, evAG, evAF, evOG, evOF, chG, chAt, appF, gate, setL, setF3, setF2, setF1, callI, callH, callG, callF, itG, iopG, iopF, iprF, ivF, slI, slH, slG, slF, psF, parG, runG, runF, gaF, lkG, cnG, dsOf, outsOf, setAll, truthD, O.toD, O.isVal, dropRefs, setRefs, ownL, isTy, wS, v_gt, v_lt, v_le, v_ge, v_eq, v_ne, v_eqB, v_neB, v_add, v_sub, v_int, v_intB, v_abs, v_lenL, v_lenT, v_tupL, v_tupT, v_listL, v_ixL, v_ixT, v_setL, v_isN, PyData.isList, PyData.isTuple, v_eqN, v_eqS, PyData.isBool, PyData.isStr, PyData.isInt, isNone, tYs, ap_oOr, oorG, oorF, ap_mCallP, callPF, pick0, pick1, pickG, ap_oChain, chnF, chnG, chnH, chnI, lkB, v_neg, e3, fld]
  have s1 := sets_ok (c := C n) hy
  rw [← e_2 n] at s1
  have at0 : atI [PyData.tuple hs, .tuple gs, .tuple ds] 0 = some (.tuple hs) := rfl
  rw [e_3 (n + 1)]
  unfold enc at ht0
  cases o with
  | lst xs =>
    simp only [toD_lst] at hdd
    subst hdd
    simp [m3, bK_some, ap_runDef, ap_sSeq, ap_sAsg, ap_sIf, ap_vIf, ap_oIf, ap_sRet, ap_sExp, ap_sNx, ap_sFor, ap_sPar, ap_mOp, ap_rV, ap_frz, ap_rO, ap_oV, ap_aV, ap_aO, ap_vCon, ap_vTup, ap_oLst, ap_mBo, ap_mTru, ap_bNot, ap_bAnd, ap_bOr, ap_vAnd, ap_vOr, ap_vNot, ap_vIsi, ap_vIsi2, ap_evR0, ap_evR1, ap_evA0, ap_evA1, ap_evO0, ap_evO1, ap_oApp, ap_sSetIx, ap_mCall, ap_iVal, ap_iOp, ap_iPr, ap_oLc, ap_oLc2, ap_pNo, ap_pSome, ap_oSl, ap_rB, ap_vVar, ap_oMove, ap_aR, ap_gNm, ap_gTp, ap_gAll0, ap_gAll1, look_d, look_s, ap_looks0, ap_looks1, ap_conts0, ap_conts1, alook_d, alook_o, alook_r, own0, own_d, own_o, own_r, ifF, seqF, asgG, asgF, retF, expF, ret1, opH, opG, opF, tupG, tupF, lstG, lstF, boF, truH, truG, truF, andF, orF, vandG, vandF, vorG, vorF, notG, notH, notF, isG, isF, isTy2, isF2, evRG, evRF, evAG, evAF, evOG, evOF, chG, chAt, appF, gate, setL, setF3, setF2, setF1, callI, callH, callG, callF, itG, iopG, iopF, iprF, ivF, slI, slH, slG, slF, psF, parG, runG, runF, gaF, lkG, cnG, dsOf, outsOf, setAll, truthD, dropRefs, setRefs, ownL, isTy, wS, v_gt, v_lt, v_le, v_ge, v_eq, v_ne, v_eqB, v_neB, v_add, v_sub, v_int, v_intB, v_abs, v_lenL, v_lenT, v_tupL, v_tupT, v_listL, v_ixL, v_ixT, v_setL, v_isN, PyData.isList, PyData.isTuple, v_eqN, v_eqS, PyData.isBool, PyData.isStr, PyData.isInt, isNone, tYs, ap_oOr, oorG, oorF, ap_mCallP, callPF, pick0, pick1, pickG, ap_oChain, chnF, chnG, chnH, chnI, lkB, v_neg, toD_val, toD_lst, O.isVal, ht0, itemsD, lcF, at0, c1, s1]
  | val d =>
    simp only [toD_val] at hdd
    subst hdd
    simp [m3, bK_some, ap_runDef, ap_sSeq, ap_sAsg, ap_sIf, ap_vIf, ap_oIf, ap_sRet, ap_sExp, ap_sNx, ap_sFor, ap_sPar, ap_mOp, ap_rV, ap_frz, ap_rO, ap_oV, ap_aV, ap_aO, ap_vCon, ap_vTup, ap_oLst, ap_mBo, ap_mTru, ap_bNot, ap_bAnd, ap_bOr, ap_vAnd, ap_vOr, ap_vNot, ap_vIsi, ap_vIsi2, ap_evR0, ap_evR1, ap_evA0, ap_evA1, ap_evO0, ap_evO1, ap_oApp, ap_sSetIx, ap_mCall, ap_iVal, ap_iOp, ap_iPr, ap_oLc, ap_oLc2, ap_pNo, ap_pSome, ap_oSl, ap_rB, ap_vVar, ap_oMove, ap_aR, ap_gNm, ap_gTp, ap_gAll0, ap_gAll1, look_d, look_s, ap_looks0, ap_looks1, ap_conts0, ap_conts1, alook_d, alook_o, alook_r, own0, own_d, own_o, own_r, ifF, seqF, asgG, asgF, retF, expF, ret1, opH, opG, opF, tupG, tupF, lstG, lstF, boF, truH, truG, truF, andF, orF, vandG, vandF, vorG, vorF, notG, notH, notF, isG, isF, isTy2, isF2, evRG, evRF, evAG, evAF, evOG, evOF, chG, chAt, appF, gate, setL, setF3, setF2, setF1, callI, callH, callG, callF, itG, iopG, iopF, iprF, ivF, slI, slH, slG, slF, psF, parG, runG, runF, gaF, lkG, cnG, dsOf, outsOf, setAll, truthD, dropRefs, setRefs, ownL, isTy, wS, v_gt, v_lt, v_le, v_ge, v_eq, v_ne, v_eqB, v_neB, v_add, v_sub, v_int, v_intB, v_abs, v_lenL, v_lenT, v_tupL, v_tupT, v_listL, v_ixL, v_ixT, v_setL, v_isN, PyData.isList, PyData.isTuple, v_eqN, v_eqS, PyData.isBool, PyData.isStr, PyData.isInt, isNone, tYs, ap_oOr, oorG, oorF, ap_mCallP, callPF, pick0, pick1, pickG, ap_oChain, chnF, chnG, chnH, chnI, lkB, v_neg, toD_val, toD_lst, O.isVal, ht0, itemsD, lcF, at0, c1, s1]
theorem away_ok {n : Nat} {o : O} {hs gs ds ys : List D} {t : Int} (B : Book hs gs ds) (hl : Lv (n + 1) o.toD) (ht : tupD o.toD = enc hs gs ds) (hy : ssetD ((gs.filter (onG t)).map (fld 0)) = some ys) : C (n + 2) 4 [o, .val (.int t)] = some (.val (.tuple ys), [.val o.toD, .val (.int t)]) := by
  have ht0 : C (n + 1) 0 [o] = some (.val (enc hs gs ds), [.val o.toD]) := by rw [tup_ok (n + 1) o hl, ht]
  obtain ⟨dd, hdd⟩ : ∃ dd, o.toD = dd := ⟨_, rfl⟩
  rw [hdd] at ht0 ⊢
  have c1 : lcG (compGo [2] (gNm 2) (mTru (rO (mCall (C (n + 1) 1) [aR 2, aR 1]))) (frz (mOp gIx [rB 2, rV (vCon (.int 0))])) gs [some (.val dd), some (.val (.int t)), none]) = some (.lst ((gs.filter (onG t)).map (fld 0)), [some (.val dd), some (.val (.int t)), none]) := by
    rw [comp_flt (onG t) (fld 0) rfl fun d hd => ?_]
    · exact lcG_ok (by rw [List.length_map]; have := B.lg; have := List.length_filter_le (onG t) gs; omega)
    · obtain ⟨p, a, b, rfl⟩ := B.g d hd
      have e1 : C (n + 1) 1 [.val (.tuple [.str p, .int a, .int b]), .val (.int t)] = some (.val (.bool (decide (a ≤ t) && decide (t ≤ b))), [.val (.tuple [.str p, .int a, .int b]), .val (.int t)]) := by rw [e_1]; exact on_ok rfl rfl
      have e3 : atI [PyData.str p, .int a, .int b] 0 = some (.str p) := rfl
      refine ⟨?_, fun _ => ?_⟩
      · simp [bK_some, ap_runDef, ap_sSeq, ap_sAsg, ap_sIf, ap_vIf, ap_oIf, ap_sRet, ap_sExp, ap_sNx, ap_sFor, ap_sPar, ap_mOp, ap_rV, ap_frz, ap_rO, ap_oV, ap_aV, ap_aO, ap_vCon, ap_vTup, ap_oLst, ap_mBo, ap_mTru, ap_bNot, ap_bAnd, ap_bOr, ap_vAnd, ap_vOr, ap_vNot, ap_vIsi, ap_vIsi2, ap_evR0, ap_evR1, ap_evA0, ap_evA1, ap_evO0, ap_evO1, ap_oApp, ap_sSetIx, ap_mCall, ap_iVal, ap_iOp, ap_iPr, ap_oLc, ap_oLc2, ap_pNo, ap_pSome, ap_oSl, ap_rB, ap_vVar, ap_oMove, ap_aR, ap_gNm, ap_gTp, ap_gAll0, ap_gAll1, look_d, look_s, ap_looks0, ap_looks1, ap_conts0, ap_conts1, alook_d, alook_o, alook_r, own0, own_d, own_o, own_r, ifF, seqF, asgG, asgF, retF, expF, ret1, opH, opG, opF, tupG, tupF, lstG, lstF, boF, truH, truG, truF, andF, orF, vandG, vandF, vorG, vorF, notG, notH, notF, isG, isF, isTy2, isF2, evRG, evRF, evAG, evAF, evOG, evOF, chG, chAt, appF, gate, setL, setF3, setF2, setF1, callI, callH, callG, callF, itG, iopG, iopF, iprF, ivF, slI, slH, slG, slF, psF, parG, runG, runF, gaF, lkG, cnG, dsOf, outsOf, setAll, truthD, O.toD, O.isVal, dropRefs, setRefs, ownL, isTy, wS, v_gt, v_lt, v_le, v_ge, v_eq, v_ne, v_eqB, v_neB, v_add, v_sub, v_int, v_intB, v_abs, v_lenL, v_lenT, v_tupL, v_tupT, v_listL, v_ixL, v_ixT, v_setL, v_isN, PyData.isList, PyData.isTuple, v_eqN, v_eqS, PyData.isBool, PyData.isStr, PyData.isInt, isNone, tYs, ap_oOr, oorG, oorF, ap_mCallP, callPF, pick0, pick1, pickG, ap_oChain, chnF, chnG, chnH, chnI, lkB, v_neg, onG, e1]
      · simp [bK_some, ap_runDef, ap_sSeq, ap_sAsg, ap_sIf, ap_vIf, ap_oIf, ap_sRet, ap_sExp, ap_sNx, ap_sFor, ap_sPar, ap_mOp, ap_rV, ap_frz, ap_rO, ap_oV, ap_aV, ap_aO, ap_vCon, ap_vTup, ap_oLst, ap_mBo, ap_mTru, ap_bNot, ap_bAnd, ap_bOr, ap_vAnd, ap_vOr, ap_vNot, ap_vIsi, ap_vIsi2, ap_evR0, ap_evR1, ap_evA0, ap_evA1, ap_evO0, ap_evO1, ap_oApp, ap_sSetIx, ap_mCall, ap_iVal, ap_iOp, ap_iPr, ap_oLc, ap_oLc2, ap_pNo, ap_pSome, ap_oSl, ap_rB, ap_vVar, ap_oMove, ap_aR, ap_gNm, ap_gTp, ap_gAll0, ap_gAll1, look_d, look_s, ap_looks0, ap_looks1, ap_conts0, ap_conts1, alook_d, alook_o, alook_r, own0, own_d, own_o, own_r, ifF, seqF, asgG, asgF, retF, expF, ret1, opH, opG, opF, tupG, tupF, lstG, lstF, boF, truH, truG, truF, andF, orF, vandG, vandF, vorG, vorF, notG, notH, notF, isG, isF, isTy2, isF2, evRG, evRF, evAG, evAF, evOG, evOF, chG, chAt, appF, gate, setL, setF3, setF2, setF1, callI, callH, callG, callF, itG, iopG, iopF, iprF, ivF, slI, slH, slG, slF, psF, parG, runG, runF, gaF, lkG, cnG, dsOf, outsOf, setAll, truthD, O.toD, O.isVal, dropRefs, setRefs, ownL, isTy, wS, v_gt, v_lt, v_le, v_ge, v_eq, v_ne, v_eqB, v_neB, v_add, v_sub, v_int, v_intB, v_abs, v_lenL, v_lenT, v_tupL, v_tupT, v_listL, v_ixL, v_ixT, v_setL, v_isN, PyData.isList, PyData.isTuple, v_eqN, v_eqS, PyData.isBool, PyData.isStr, PyData.isInt, isNone, tYs, ap_oOr, oorG, oorF, ap_mCallP, callPF, pick0, pick1, pickG, ap_oChain, chnF, chnG, chnH, chnI, lkB, v_neg, e3, fld]
  have s1 := sets_ok (c := C n) hy
  rw [← e_2 n] at s1
  have at1 : atI [PyData.tuple hs, .tuple gs, .tuple ds] 1 = some (.tuple gs) := rfl
  rw [e_4 (n + 1)]
  unfold enc at ht0
  cases o with
  | lst xs =>
    simp only [toD_lst] at hdd
    subst hdd
    simp [m4, bK_some, ap_runDef, ap_sSeq, ap_sAsg, ap_sIf, ap_vIf, ap_oIf, ap_sRet, ap_sExp, ap_sNx, ap_sFor, ap_sPar, ap_mOp, ap_rV, ap_frz, ap_rO, ap_oV, ap_aV, ap_aO, ap_vCon, ap_vTup, ap_oLst, ap_mBo, ap_mTru, ap_bNot, ap_bAnd, ap_bOr, ap_vAnd, ap_vOr, ap_vNot, ap_vIsi, ap_vIsi2, ap_evR0, ap_evR1, ap_evA0, ap_evA1, ap_evO0, ap_evO1, ap_oApp, ap_sSetIx, ap_mCall, ap_iVal, ap_iOp, ap_iPr, ap_oLc, ap_oLc2, ap_pNo, ap_pSome, ap_oSl, ap_rB, ap_vVar, ap_oMove, ap_aR, ap_gNm, ap_gTp, ap_gAll0, ap_gAll1, look_d, look_s, ap_looks0, ap_looks1, ap_conts0, ap_conts1, alook_d, alook_o, alook_r, own0, own_d, own_o, own_r, ifF, seqF, asgG, asgF, retF, expF, ret1, opH, opG, opF, tupG, tupF, lstG, lstF, boF, truH, truG, truF, andF, orF, vandG, vandF, vorG, vorF, notG, notH, notF, isG, isF, isTy2, isF2, evRG, evRF, evAG, evAF, evOG, evOF, chG, chAt, appF, gate, setL, setF3, setF2, setF1, callI, callH, callG, callF, itG, iopG, iopF, iprF, ivF, slI, slH, slG, slF, psF, parG, runG, runF, gaF, lkG, cnG, dsOf, outsOf, setAll, truthD, dropRefs, setRefs, ownL, isTy, wS, v_gt, v_lt, v_le, v_ge, v_eq, v_ne, v_eqB, v_neB, v_add, v_sub, v_int, v_intB, v_abs, v_lenL, v_lenT, v_tupL, v_tupT, v_listL, v_ixL, v_ixT, v_setL, v_isN, PyData.isList, PyData.isTuple, v_eqN, v_eqS, PyData.isBool, PyData.isStr, PyData.isInt, isNone, tYs, ap_oOr, oorG, oorF, ap_mCallP, callPF, pick0, pick1, pickG, ap_oChain, chnF, chnG, chnH, chnI, lkB, v_neg, toD_val, toD_lst, O.isVal, ht0, itemsD, lcF, at1, c1, s1]
  | val d =>
    simp only [toD_val] at hdd
    subst hdd
    simp [m4, bK_some, ap_runDef, ap_sSeq, ap_sAsg, ap_sIf, ap_vIf, ap_oIf, ap_sRet, ap_sExp, ap_sNx, ap_sFor, ap_sPar, ap_mOp, ap_rV, ap_frz, ap_rO, ap_oV, ap_aV, ap_aO, ap_vCon, ap_vTup, ap_oLst, ap_mBo, ap_mTru, ap_bNot, ap_bAnd, ap_bOr, ap_vAnd, ap_vOr, ap_vNot, ap_vIsi, ap_vIsi2, ap_evR0, ap_evR1, ap_evA0, ap_evA1, ap_evO0, ap_evO1, ap_oApp, ap_sSetIx, ap_mCall, ap_iVal, ap_iOp, ap_iPr, ap_oLc, ap_oLc2, ap_pNo, ap_pSome, ap_oSl, ap_rB, ap_vVar, ap_oMove, ap_aR, ap_gNm, ap_gTp, ap_gAll0, ap_gAll1, look_d, look_s, ap_looks0, ap_looks1, ap_conts0, ap_conts1, alook_d, alook_o, alook_r, own0, own_d, own_o, own_r, ifF, seqF, asgG, asgF, retF, expF, ret1, opH, opG, opF, tupG, tupF, lstG, lstF, boF, truH, truG, truF, andF, orF, vandG, vandF, vorG, vorF, notG, notH, notF, isG, isF, isTy2, isF2, evRG, evRF, evAG, evAF, evOG, evOF, chG, chAt, appF, gate, setL, setF3, setF2, setF1, callI, callH, callG, callF, itG, iopG, iopF, iprF, ivF, slI, slH, slG, slF, psF, parG, runG, runF, gaF, lkG, cnG, dsOf, outsOf, setAll, truthD, dropRefs, setRefs, ownL, isTy, wS, v_gt, v_lt, v_le, v_ge, v_eq, v_ne, v_eqB, v_neB, v_add, v_sub, v_int, v_intB, v_abs, v_lenL, v_lenT, v_tupL, v_tupT, v_listL, v_ixL, v_ixT, v_setL, v_isN, PyData.isList, PyData.isTuple, v_eqN, v_eqS, PyData.isBool, PyData.isStr, PyData.isInt, isNone, tYs, ap_oOr, oorG, oorF, ap_mCallP, callPF, pick0, pick1, pickG, ap_oChain, chnF, chnG, chnH, chnI, lkB, v_neg, toD_val, toD_lst, O.isVal, ht0, itemsD, lcF, at1, c1, s1]
theorem held_ok {c : Nat → FD} {hs gs ds ys : List D} {r : Str} {t : Int} (B : Book hs gs ds) (hy : ssetD ((hs.filter (onH r t)).map (fld 1)) = some ys) : runDef 4 3 (m13 c) [.val (enc hs gs ds), .val (.str r), .val (.int t)] = some (.val (.tuple ys), [.val (enc hs gs ds), .val (.str r), .val (.int t)]) := by
  have at0 : atI [PyData.tuple hs, .tuple gs, .tuple ds] 0 = some (.tuple hs) := rfl
  have c1 : ∀ {dd : Option O}, lcG (compGo [3] (gNm 3) (bAnd (mBo (mOp gEq [rO (mOp gIx [rB 3, rV (vCon (.int 0))]), rB 1])) (mBo (oChain gLe gLe (rO (mOp gIx [rB 3, rV (vCon (.int 2))])) (rB 2) (rO (mOp gIx [rB 3, rV (vCon (.int 3))]))))) (frz (mOp gIx [rB 3, rV (vCon (.int 1))])) hs [dd, some (.val (.str r)), some (.val (.int t)), none]) = some (.lst ((hs.filter (onH r t)).map (fld 1)), [dd, some (.val (.str r)), some (.val (.int t)), none]) := fun {dd} => by
    rw [comp_flt (onH r t) (fld 1) rfl fun d hd => ?_]
    · exact lcG_ok (by rw [List.length_map]; have := B.lh; have := List.length_filter_le (onH r t) hs; omega)
    · obtain ⟨x, p, a, b, rfl⟩ := B.h d hd
      have e2 : atI [PyData.str x, .str p, .int a, .int b] 0 = some (.str x) := rfl
      have e3 : atI [PyData.str x, .str p, .int a, .int b] 1 = some (.str p) := rfl
      have e4 : atI [PyData.str x, .str p, .int a, .int b] 2 = some (.int a) := rfl
      have e5 : atI [PyData.str x, .str p, .int a, .int b] 3 = some (.int b) := rfl
      refine ⟨?_, fun _ => ?_⟩
      · cases hx : x == r with
        | false => simp [bK_some, ap_runDef, ap_sSeq, ap_sAsg, ap_sIf, ap_vIf, ap_oIf, ap_sRet, ap_sExp, ap_sNx, ap_sFor, ap_sPar, ap_mOp, ap_rV, ap_frz, ap_rO, ap_oV, ap_aV, ap_aO, ap_vCon, ap_vTup, ap_oLst, ap_mBo, ap_mTru, ap_bNot, ap_bAnd, ap_bOr, ap_vAnd, ap_vOr, ap_vNot, ap_vIsi, ap_vIsi2, ap_evR0, ap_evR1, ap_evA0, ap_evA1, ap_evO0, ap_evO1, ap_oApp, ap_sSetIx, ap_mCall, ap_iVal, ap_iOp, ap_iPr, ap_oLc, ap_oLc2, ap_pNo, ap_pSome, ap_oSl, ap_rB, ap_vVar, ap_oMove, ap_aR, ap_gNm, ap_gTp, ap_gAll0, ap_gAll1, look_d, look_s, ap_looks0, ap_looks1, ap_conts0, ap_conts1, alook_d, alook_o, alook_r, own0, own_d, own_o, own_r, ifF, seqF, asgG, asgF, retF, expF, ret1, opH, opG, opF, tupG, tupF, lstG, lstF, boF, truH, truG, truF, andF, orF, vandG, vandF, vorG, vorF, notG, notH, notF, isG, isF, isTy2, isF2, evRG, evRF, evAG, evAF, evOG, evOF, chG, chAt, appF, gate, setL, setF3, setF2, setF1, callI, callH, callG, callF, itG, iopG, iopF, iprF, ivF, slI, slH, slG, slF, psF, parG, runG, runF, gaF, lkG, cnG, dsOf, outsOf, setAll, truthD, O.toD, O.isVal, dropRefs, setRefs, ownL, isTy, wS, v_gt, v_lt, v_le, v_ge, v_eq, v_ne, v_eqB, v_neB, v_add, v_sub, v_int, v_intB, v_abs, v_lenL, v_lenT, v_tupL, v_tupT, v_listL, v_ixL, v_ixT, v_setL, v_isN, PyData.isList, PyData.isTuple, v_eqN, v_eqS, PyData.isBool, PyData.isStr, PyData.isInt, isNone, tYs, ap_oOr, oorG, oorF, ap_mCallP, callPF, pick0, pick1, pickG, ap_oChain, chnF, chnG, chnH, chnI, lkB, v_neg, e2, v_eqSS, hx, onH]
        | true => by_cases h1 : a ≤ t <;> by_cases h2 : t ≤ b <;> simp [bK_some, ap_runDef, ap_sSeq, ap_sAsg, ap_sIf, ap_vIf, ap_oIf, ap_sRet, ap_sExp, ap_sNx, ap_sFor, ap_sPar, ap_mOp, ap_rV, ap_frz, ap_rO, ap_oV, ap_aV, ap_aO, ap_vCon, ap_vTup, ap_oLst, ap_mBo, ap_mTru, ap_bNot, ap_bAnd, ap_bOr, ap_vAnd, ap_vOr, ap_vNot, ap_vIsi, ap_vIsi2, ap_evR0, ap_evR1, ap_evA0, ap_evA1, ap_evO0, ap_evO1, ap_oApp, ap_sSetIx, ap_mCall, ap_iVal, ap_iOp, ap_iPr, ap_oLc, ap_oLc2, ap_pNo, ap_pSome, ap_oSl, ap_rB, ap_vVar, ap_oMove, ap_aR, ap_gNm, ap_gTp, ap_gAll0, ap_gAll1, look_d, look_s, ap_looks0, ap_looks1, ap_conts0, ap_conts1, alook_d, alook_o, alook_r, own0, own_d, own_o, own_r, ifF, seqF, asgG, asgF, retF, expF, ret1, opH, opG, opF, tupG, tupF, lstG, lstF, boF, truH, truG, truF, andF, orF, vandG, vandF, vorG, vorF, notG, notH, notF, isG, isF, isTy2, isF2, evRG, evRF, evAG, evAF, evOG, evOF, chG, chAt, appF, gate, setL, setF3, setF2, setF1, callI, callH, callG, callF, itG, iopG, iopF, iprF, ivF, slI, slH, slG, slF, psF, parG, runG, runF, gaF, lkG, cnG, dsOf, outsOf, setAll, truthD, O.toD, O.isVal, dropRefs, setRefs, ownL, isTy, wS, v_gt, v_lt, v_le, v_ge, v_eq, v_ne, v_eqB, v_neB, v_add, v_sub, v_int, v_intB, v_abs, v_lenL, v_lenT, v_tupL, v_tupT, v_listL, v_ixL, v_ixT, v_setL, v_isN, PyData.isList, PyData.isTuple, v_eqN, v_eqS, PyData.isBool, PyData.isStr, PyData.isInt, isNone, tYs, ap_oOr, oorG, oorF, ap_mCallP, callPF, pick0, pick1, pickG, ap_oChain, chnF, chnG, chnH, chnI, lkB, v_neg, e2, e4, e5, v_eqSS, hx, onH, h1, h2]
      · simp [bK_some, ap_runDef, ap_sSeq, ap_sAsg, ap_sIf, ap_vIf, ap_oIf, ap_sRet, ap_sExp, ap_sNx, ap_sFor, ap_sPar, ap_mOp, ap_rV, ap_frz, ap_rO, ap_oV, ap_aV, ap_aO, ap_vCon, ap_vTup, ap_oLst, ap_mBo, ap_mTru, ap_bNot, ap_bAnd, ap_bOr, ap_vAnd, ap_vOr, ap_vNot, ap_vIsi, ap_vIsi2, ap_evR0, ap_evR1, ap_evA0, ap_evA1, ap_evO0, ap_evO1, ap_oApp, ap_sSetIx, ap_mCall, ap_iVal, ap_iOp, ap_iPr, ap_oLc, ap_oLc2, ap_pNo, ap_pSome, ap_oSl, ap_rB, ap_vVar, ap_oMove, ap_aR, ap_gNm, ap_gTp, ap_gAll0, ap_gAll1, look_d, look_s, ap_looks0, ap_looks1, ap_conts0, ap_conts1, alook_d, alook_o, alook_r, own0, own_d, own_o, own_r, ifF, seqF, asgG, asgF, retF, expF, ret1, opH, opG, opF, tupG, tupF, lstG, lstF, boF, truH, truG, truF, andF, orF, vandG, vandF, vorG, vorF, notG, notH, notF, isG, isF, isTy2, isF2, evRG, evRF, evAG, evAF, evOG, evOF, chG, chAt, appF, gate, setL, setF3, setF2, setF1, callI, callH, callG, callF, itG, iopG, iopF, iprF, ivF, slI, slH, slG, slF, psF, parG, runG, runF, gaF, lkG, cnG, dsOf, outsOf, setAll, truthD, O.toD, O.isVal, dropRefs, setRefs, ownL, isTy, wS, v_gt, v_lt, v_le, v_ge, v_eq, v_ne, v_eqB, v_neB, v_add, v_sub, v_int, v_intB, v_abs, v_lenL, v_lenT, v_tupL, v_tupT, v_listL, v_ixL, v_ixT, v_setL, v_isN, PyData.isList, PyData.isTuple, v_eqN, v_eqS, PyData.isBool, PyData.isStr, PyData.isInt, isNone, tYs, ap_oOr, oorG, oorF, ap_mCallP, callPF, pick0, pick1, pickG, ap_oChain, chnF, chnG, chnH, chnI, lkB, v_neg, e3, fld]
  unfold enc
  simp [m13, bK_some, ap_runDef, ap_sSeq, ap_sAsg, ap_sIf, ap_vIf, ap_oIf, ap_sRet, ap_sExp, ap_sNx, ap_sFor, ap_sPar, ap_mOp, ap_rV, ap_frz, ap_rO, ap_oV, ap_aV, ap_aO, ap_vCon, ap_vTup, ap_oLst, ap_mBo, ap_mTru, ap_bNot, ap_bAnd, ap_bOr, ap_vAnd, ap_vOr, ap_vNot, ap_vIsi, ap_vIsi2, ap_evR0, ap_evR1, ap_evA0, ap_evA1, ap_evO0, ap_evO1, ap_oApp, ap_sSetIx, ap_mCall, ap_iVal, ap_iOp, ap_iPr, ap_oLc, ap_oLc2, ap_pNo, ap_pSome, ap_oSl, ap_rB, ap_vVar, ap_oMove, ap_aR, ap_gNm, ap_gTp, ap_gAll0, ap_gAll1, look_d, look_s, ap_looks0, ap_looks1, ap_conts0, ap_conts1, alook_d, alook_o, alook_r, own0, own_d, own_o, own_r, ifF, seqF, asgG, asgF, retF, expF, ret1, opH, opG, opF, tupG, tupF, lstG, lstF, boF, truH, truG, truF, andF, orF, vandG, vandF, vorG, vorF, notG, notH, notF, isG, isF, isTy2, isF2, evRG, evRF, evAG, evAF, evOG, evOF, chG, chAt, appF, gate, setL, setF3, setF2, setF1, callI, callH, callG, callF, itG, iopG, iopF, iprF, ivF, slI, slH, slG, slF, psF, parG, runG, runF, gaF, lkG, cnG, dsOf, outsOf, setAll, truthD, O.toD, O.isVal, dropRefs, setRefs, ownL, isTy, wS, v_gt, v_lt, v_le, v_ge, v_eq, v_ne, v_eqB, v_neB, v_add, v_sub, v_int, v_intB, v_abs, v_lenL, v_lenT, v_tupL, v_tupT, v_listL, v_ixL, v_ixT, v_setL, v_isN, PyData.isList, PyData.isTuple, v_eqN, v_eqS, PyData.isBool, PyData.isStr, PyData.isInt, isNone, tYs, ap_oOr, oorG, oorF, ap_mCallP, callPF, pick0, pick1, pickG, ap_oChain, chnF, chnG, chnH, chnI, lkB, v_neg, at0, itemsD, lcF, c1, gSSet, hy]
theorem off_ok {c : Nat → FD} {hs gs ds ys : List D} {t : Int} (B : Book hs gs ds) (hy : ssetD ((gs.filter (onG t)).map (fld 0)) = some ys) : runDef 3 2 (m14 c) [.val (enc hs gs ds), .val (.int t)] = some (.val (.tuple ys), [.val (enc hs gs ds), .val (.int t)]) := by
  have at1 : atI [PyData.tuple hs, .tuple gs, .tuple ds] 1 = some (.tuple gs) := rfl
  have c1 : ∀ {dd : Option O}, lcG (compGo [2] (gNm 2) (mBo (oChain gLe gLe (rO (mOp gIx [rB 2, rV (vCon (.int 1))])) (rB 1) (rO (mOp gIx [rB 2, rV (vCon (.int 2))])))) (frz (mOp gIx [rB 2, rV (vCon (.int 0))])) gs [dd, some (.val (.int t)), none]) = some (.lst ((gs.filter (onG t)).map (fld 0)), [dd, some (.val (.int t)), none]) := fun {dd} => by
    rw [comp_flt (onG t) (fld 0) rfl fun d hd => ?_]
    · exact lcG_ok (by rw [List.length_map]; have := B.lg; have := List.length_filter_le (onG t) gs; omega)
    · obtain ⟨p, a, b, rfl⟩ := B.g d hd
      have e3 : atI [PyData.str p, .int a, .int b] 0 = some (.str p) := rfl
      have e4 : atI [PyData.str p, .int a, .int b] 1 = some (.int a) := rfl
      have e5 : atI [PyData.str p, .int a, .int b] 2 = some (.int b) := rfl
      refine ⟨?_, fun _ => ?_⟩
      · by_cases h1 : a ≤ t <;> by_cases h2 : t ≤ b <;> simp [bK_some, ap_runDef, ap_sSeq, ap_sAsg, ap_sIf, ap_vIf, ap_oIf, ap_sRet, ap_sExp, ap_sNx, ap_sFor, ap_sPar, ap_mOp, ap_rV, ap_frz, ap_rO, ap_oV, ap_aV, ap_aO, ap_vCon, ap_vTup, ap_oLst, ap_mBo, ap_mTru, ap_bNot, ap_bAnd, ap_bOr, ap_vAnd, ap_vOr, ap_vNot, ap_vIsi, ap_vIsi2, ap_evR0, ap_evR1, ap_evA0, ap_evA1, ap_evO0, ap_evO1, ap_oApp, ap_sSetIx, ap_mCall, ap_iVal, ap_iOp, ap_iPr, ap_oLc, ap_oLc2, ap_pNo, ap_pSome, ap_oSl, ap_rB, ap_vVar, ap_oMove, ap_aR, ap_gNm, ap_gTp, ap_gAll0, ap_gAll1, look_d, look_s, ap_looks0, ap_looks1, ap_conts0, ap_conts1, alook_d, alook_o, alook_r, own0, own_d, own_o, own_r, ifF, seqF, asgG, asgF, retF, expF, ret1, opH, opG, opF, tupG, tupF, lstG, lstF, boF, truH, truG, truF, andF, orF, vandG, vandF, vorG, vorF, notG, notH, notF, isG, isF, isTy2, isF2, evRG, evRF, evAG, evAF, evOG, evOF, chG, chAt, appF, gate, setL, setF3, setF2, setF1, callI, callH, callG, callF, itG, iopG, iopF, iprF, ivF, slI, slH, slG, slF, psF, parG, runG, runF, gaF, lkG, cnG, dsOf, outsOf, setAll, truthD, O.toD, O.isVal, dropRefs, setRefs, ownL, isTy, wS, v_gt, v_lt, v_le, v_ge, v_eq, v_ne, v_eqB, v_neB, v_add, v_sub, v_int, v_intB, v_abs, v_lenL, v_lenT, v_tupL, v_tupT, v_listL, v_ixL, v_ixT, v_setL, v_isN, PyData.isList, PyData.isTuple, v_eqN, v_eqS, PyData.isBool, PyData.isStr, PyData.isInt, isNone, tYs, ap_oOr, oorG, oorF, ap_mCallP, callPF, pick0, pick1, pickG, ap_oChain, chnF, chnG, chnH, chnI, lkB, v_neg, e4, e5, onG, h1, h2]
      · simp [bK_some, ap_runDef, ap_sSeq, ap_sAsg, ap_sIf, ap_vIf, ap_oIf, ap_sRet, ap_sExp, ap_sNx, ap_sFor, ap_sPar, ap_mOp, ap_rV, ap_frz, ap_rO, ap_oV, ap_aV, ap_aO, ap_vCon, ap_vTup, ap_oLst, ap_mBo, ap_mTru, ap_bNot, ap_bAnd, ap_bOr, ap_vAnd, ap_vOr, ap_vNot, ap_vIsi, ap_vIsi2, ap_evR0, ap_evR1, ap_evA0, ap_evA1, ap_evO0, ap_evO1, ap_oApp, ap_sSetIx, ap_mCall, ap_iVal, ap_iOp, ap_iPr, ap_oLc, ap_oLc2, ap_pNo, ap_pSome, ap_oSl, ap_rB, ap_vVar, ap_oMove, ap_aR, ap_gNm, ap_gTp, ap_gAll0, ap_gAll1, look_d, look_s, ap_looks0, ap_looks1, ap_conts0, ap_conts1, alook_d, alook_o, alook_r, own0, own_d, own_o, own_r, ifF, seqF, asgG, asgF, retF, expF, ret1, opH, opG, opF, tupG, tupF, lstG, lstF, boF, truH, truG, truF, andF, orF, vandG, vandF, vorG, vorF, notG, notH, notF, isG, isF, isTy2, isF2, evRG, evRF, evAG, evAF, evOG, evOF, chG, chAt, appF, gate, setL, setF3, setF2, setF1, callI, callH, callG, callF, itG, iopG, iopF, iprF, ivF, slI, slH, slG, slF, psF, parG, runG, runF, gaF, lkG, cnG, dsOf, outsOf, setAll, truthD, O.toD, O.isVal, dropRefs, setRefs, ownL, isTy, wS, v_gt, v_lt, v_le, v_ge, v_eq, v_ne, v_eqB, v_neB, v_add, v_sub, v_int, v_intB, v_abs, v_lenL, v_lenT, v_tupL, v_tupT, v_listL, v_ixL, v_ixT, v_setL, v_isN, PyData.isList, PyData.isTuple, v_eqN, v_eqS, PyData.isBool, PyData.isStr, PyData.isInt, isNone, tYs, ap_oOr, oorG, oorF, ap_mCallP, callPF, pick0, pick1, pickG, ap_oChain, chnF, chnG, chnH, chnI, lkB, v_neg, e3, fld]
  unfold enc
  simp [m14, bK_some, ap_runDef, ap_sSeq, ap_sAsg, ap_sIf, ap_vIf, ap_oIf, ap_sRet, ap_sExp, ap_sNx, ap_sFor, ap_sPar, ap_mOp, ap_rV, ap_frz, ap_rO, ap_oV, ap_aV, ap_aO, ap_vCon, ap_vTup, ap_oLst, ap_mBo, ap_mTru, ap_bNot, ap_bAnd, ap_bOr, ap_vAnd, ap_vOr, ap_vNot, ap_vIsi, ap_vIsi2, ap_evR0, ap_evR1, ap_evA0, ap_evA1, ap_evO0, ap_evO1, ap_oApp, ap_sSetIx, ap_mCall, ap_iVal, ap_iOp, ap_iPr, ap_oLc, ap_oLc2, ap_pNo, ap_pSome, ap_oSl, ap_rB, ap_vVar, ap_oMove, ap_aR, ap_gNm, ap_gTp, ap_gAll0, ap_gAll1, look_d, look_s, ap_looks0, ap_looks1, ap_conts0, ap_conts1, alook_d, alook_o, alook_r, own0, own_d, own_o, own_r, ifF, seqF, asgG, asgF, retF, expF, ret1, opH, opG, opF, tupG, tupF, lstG, lstF, boF, truH, truG, truF, andF, orF, vandG, vandF, vorG, vorF, notG, notH, notF, isG, isF, isTy2, isF2, evRG, evRF, evAG, evAF, evOG, evOF, chG, chAt, appF, gate, setL, setF3, setF2, setF1, callI, callH, callG, callF, itG, iopG, iopF, iprF, ivF, slI, slH, slG, slF, psF, parG, runG, runF, gaF, lkG, cnG, dsOf, outsOf, setAll, truthD, O.toD, O.isVal, dropRefs, setRefs, ownL, isTy, wS, v_gt, v_lt, v_le, v_ge, v_eq, v_ne, v_eqB, v_neB, v_add, v_sub, v_int, v_intB, v_abs, v_lenL, v_lenT, v_tupL, v_tupT, v_listL, v_ixL, v_ixT, v_setL, v_isN, PyData.isList, PyData.isTuple, v_eqN, v_eqS, PyData.isBool, PyData.isStr, PyData.isInt, isNone, tYs, ap_oOr, oorG, oorF, ap_mCallP, callPF, pick0, pick1, pickG, ap_oChain, chnF, chnG, chnH, chnI, lkB, v_neg, at1, itemsD, lcF, c1, gSSet, hy]
end Dv.G

namespace Dv.G
open PySem PySem.Spec PyProof.Rows L2
structure Facts (c : Nat → FD) (te : D) (ls : List D) : Prop where
  G : ∀ t : Int, ∃ y : D, c 14 [.val te, .val (.int t)] = some (.val y, [.val te, .val (.int t)]) ∧ c 4 [.val te, .val (.int t)] = some (.val y, [.val te, .val (.int t)]) ∧ c 4 [.lst ls, .val (.int t)] = some (.val y, [.val (.list ls), .val (.int t)]) ∧ c 4 [.val (.list ls), .val (.int t)] = some (.val y, [.val (.list ls), .val (.int t)]) ∧ c 10 [.lst [y, y], .lst [y, y]] = some (.val (.bool true), [.val (.list [y, y]), .val (.list [y, y])])
  H : ∀ (r : Str) (t : Int), ∃ y : D, c 13 [.val te, .val (.str r), .val (.int t)] = some (.val y, [.val te, .val (.str r), .val (.int t)]) ∧ c 3 [.val te, .val (.str r), .val (.int t)] = some (.val y, [.val te, .val (.str r), .val (.int t)]) ∧ c 3 [.val (.list ls), .val (.str r), .val (.int t)] = some (.val y, [.val (.list ls), .val (.str r), .val (.int t)]) ∧ c 10 [.lst [y, y], .lst [y, y]] = some (.val (.bool true), [.val (.list [y, y]), .val (.list [y, y])])
  L : c 9 [.val te] = some (.lst ls, [.val te])
  N : gNe [.list ls, .list ls] = some (.val (.bool false))
section
variable {c : Nat → FD} {te : D} {ls : List D}
theorem rank_step (F : Facts c te ls) {t : Int} {d : D} (hd : NmD d) {u x1 x4 x7 x8 x9 : Option O} : ∃ s1 s2, gNm 8 (.val d) [u, x1, some (.val te), some (.val (.list ls)), x4, none, some (.val (.int t)), x7, x8, x9] = some s1 ∧ (sSeq (sAsg (gNm 7) (mCall (c 13) [aR 2, aR 8, aR 6])) (sSeq (sAsg (gNm 9) (oLst [rV (frz (mCall (c 3) [aR 2, aR 8, aR 6])), rV (frz (mCallP (c 3) [2, 1, 0] [aR 6, aR 8, aR 3]))])) (sIf (bNot (mTru (rO (mCall (c 10) [aR 9, aO (oLst [rV (vVar 7), rV (vVar 7)])])))) (sRet (oV (vCon (.bool false)))) (sNx)))) s1 = some (.nx, s2) ∧ ∃ x7 x8 x9, s2 = [u, x1, some (.val te), some (.val (.list ls)), x4, none, some (.val (.int t)), x7, x8, x9] := by
  obtain ⟨r, rfl⟩ := hd
  obtain ⟨y, h1, h2, h3, h4⟩ := F.H r t
  refine ⟨[u, x1, some (.val te), some (.val (.list ls)), x4, none, some (.val (.int t)), x7, some (.val (.str r)), x9], [u, x1, some (.val te), some (.val (.list ls)), x4, none, some (.val (.int t)), some (.val y), some (.val (.str r)), some (.val (.list [y, y]))], rfl, ?_, _, _, _, rfl⟩
  simp [bK_some, ap_runDef, ap_sSeq, ap_sAsg, ap_sIf, ap_vIf, ap_oIf, ap_sRet, ap_sExp, ap_sNx, ap_sFor, ap_sPar, ap_mOp, ap_rV, ap_frz, ap_rO, ap_oV, ap_aV, ap_aO, ap_vCon, ap_vTup, ap_oLst, ap_mBo, ap_mTru, ap_bNot, ap_bAnd, ap_bOr, ap_vAnd, ap_vOr, ap_vNot, ap_vIsi, ap_vIsi2, ap_evR0, ap_evR1, ap_evA0, ap_evA1, ap_evO0, ap_evO1, ap_oApp, ap_sSetIx, ap_mCall, ap_iVal, ap_iOp, ap_iPr, ap_oLc, ap_oLc2, ap_pNo, ap_pSome, ap_oSl, ap_rB, ap_vVar, ap_oMove, ap_aR, ap_gNm, ap_gTp, ap_gAll0, ap_gAll1, look_d, look_s, ap_looks0, ap_looks1, ap_conts0, ap_conts1, alook_d, alook_o, alook_r, own0, own_d, own_o, own_r, ifF, seqF, asgG, asgF, retF, expF, ret1, opH, opG, opF, tupG, tupF, lstG, lstF, boF, truH, truG, truF, andF, orF, vandG, vandF, vorG, vorF, notG, notH, notF, isG, isF, isTy2, isF2, evRG, evRF, evAG, evAF, evOG, evOF, chG, chAt, appF, gate, setL, setF3, setF2, setF1, callI, callH, callG, callF, itG, iopG, iopF, iprF, ivF, slI, slH, slG, slF, psF, parG, runG, runF, gaF, lkG, cnG, dsOf, outsOf, setAll, truthD, O.toD, O.isVal, dropRefs, setRefs, ownL, isTy, wS, v_gt, v_lt, v_le, v_ge, v_eq, v_ne, v_eqB, v_neB, v_add, v_sub, v_int, v_intB, v_abs, v_lenL, v_lenT, v_tupL, v_tupT, v_listL, v_ixL, v_ixT, v_setL, v_isN, PyData.isList, PyData.isTuple, v_eqN, v_eqS, PyData.isBool, PyData.isStr, PyData.isInt, isNone, tYs, ap_oOr, oorG, oorF, ap_mCallP, callPF, pick0, pick1, pickG, ap_oChain, chnF, chnG, chnH, chnI, lkB, v_neg, h1, h2, h3, h4]
theorem ranks_ok (F : Facts c te ls) {t : Int} {u x1 x4 x7 x8 x9 : Option O} : ∃ y7 y8 y9, forGo (gNm 8) (sSeq (sAsg (gNm 7) (mCall (c 13) [aR 2, aR 8, aR 6])) (sSeq (sAsg (gNm 9) (oLst [rV (frz (mCall (c 3) [aR 2, aR 8, aR 6])), rV (frz (mCallP (c 3) [2, 1, 0] [aR 6, aR 8, aR 3]))])) (sIf (bNot (mTru (rO (mCall (c 10) [aR 9, aO (oLst [rV (vVar 7), rV (vVar 7)])])))) (sRet (oV (vCon (.bool false)))) (sNx)))) [.str "bob", .str "pay", .str "x", .str "ann", .str "none"] [u, x1, some (.val te), some (.val (.list ls)), x4, none, some (.val (.int t)), x7, x8, x9] = some (.nx, [u, x1, some (.val te), some (.val (.list ls)), x4, none, some (.val (.int t)), y7, y8, y9]) := by
  obtain ⟨s', e1, ⟨y7, y8, y9, es⟩, _⟩ := forGo_inv (g := gNm 8) (b := (sSeq (sAsg (gNm 7) (mCall (c 13) [aR 2, aR 8, aR 6])) (sSeq (sAsg (gNm 9) (oLst [rV (frz (mCall (c 3) [aR 2, aR 8, aR 6])), rV (frz (mCallP (c 3) [2, 1, 0] [aR 6, aR 8, aR 3]))])) (sIf (bNot (mTru (rO (mCall (c 10) [aR 9, aO (oLst [rV (vVar 7), rV (vVar 7)])])))) (sRet (oV (vCon (.bool false)))) (sNx))))) (fun ds s => (∃ x7 x8 x9, s = [u, x1, some (.val te), some (.val (.list ls)), x4, none, some (.val (.int t)), x7, x8, x9]) ∧ ∀ d ∈ ds, NmD d) (fun d ds s ⟨⟨x7, x8, x9, es⟩, hd⟩ => by
    subst es
    obtain ⟨s1, s2, e1, e2, e3⟩ := rank_step F (hd d List.mem_cons_self) (t := t) (u := u) (x1 := x1) (x4 := x4) (x7 := x7) (x8 := x8) (x9 := x9)
    exact ⟨s1, s2, e1, e2, e3, fun x hx => hd x (List.mem_cons_of_mem _ hx)⟩) [.str "bob", .str "pay", .str "x", .str "ann", .str "none"] [u, x1, some (.val te), some (.val (.list ls)), x4, none, some (.val (.int t)), x7, x8, x9] ⟨⟨_, _, _, rfl⟩, fun d hd => by
      simp only [List.mem_cons, List.not_mem_nil, or_false] at hd
      rcases hd with h | h | h | h | h <;> exact ⟨_, h⟩⟩
  subst es
  exact ⟨y7, y8, y9, e1⟩
theorem noon_step (F : Facts c te ls) {d : D} {so : O} (hso : so = .lst ls ∨ so = .val (.list ls)) (hd : InD d) {u x1 x4 x6 x7 x8 x9 : Option O} : ∃ s1 s2, gNm 6 (.val d) [u, x1, some (.val te), some so, x4, none, x6, x7, x8, x9] = some s1 ∧ (sSeq (sAsg (gNm 7) (mCall (c 14) [aR 2, aR 6])) (sSeq (sIf (bNot (mTru (rO (mCall (c 10) [aO (oLst [rV (frz (mCall (c 4) [aR 2, aR 6])), rV (frz (mCallP (c 4) [1, 0] [aR 6, aR 3]))]), aO (oLst [rV (vVar 7), rV (vVar 7)])])))) (sRet (oV (vCon (.bool false)))) (sNx)) (sFor (iVal (vTup [rV (vCon (.str "bob")), rV (vCon (.str "pay")), rV (vCon (.str "x")), rV (vCon (.str "ann")), rV (vCon (.str "none"))])) (gNm 8) (sSeq (sAsg (gNm 7) (mCall (c 13) [aR 2, aR 8, aR 6])) (sSeq (sAsg (gNm 9) (oLst [rV (frz (mCall (c 3) [aR 2, aR 8, aR 6])), rV (frz (mCallP (c 3) [2, 1, 0] [aR 6, aR 8, aR 3]))])) (sIf (bNot (mTru (rO (mCall (c 10) [aR 9, aO (oLst [rV (vVar 7), rV (vVar 7)])])))) (sRet (oV (vCon (.bool false)))) (sNx))))))) s1 = some (.nx, s2) ∧ ∃ x6 x7 x8 x9, s2 = [u, x1, some (.val te), some (.val (.list ls)), x4, none, x6, x7, x8, x9] := by
  obtain ⟨t, rfl⟩ := hd
  obtain ⟨y, h1, h2, h3, h4, h5⟩ := F.G t
  obtain ⟨y7, y8, y9, er⟩ := ranks_ok F (t := t) (u := u) (x1 := x1) (x4 := x4) (x7 := some (.val y)) (x8 := x8) (x9 := x9)
  refine ⟨[u, x1, some (.val te), some so, x4, none, some (.val (.int t)), x7, x8, x9], [u, x1, some (.val te), some (.val (.list ls)), x4, none, some (.val (.int t)), y7, y8, y9], rfl, ?_, _, _, _, _, rfl⟩
  rcases hso with rfl | rfl
  · simp [bK_some, ap_runDef, ap_sSeq, ap_sAsg, ap_sIf, ap_vIf, ap_oIf, ap_sRet, ap_sExp, ap_sNx, ap_sFor, ap_sPar, ap_mOp, ap_rV, ap_frz, ap_rO, ap_oV, ap_aV, ap_aO, ap_vCon, ap_vTup, ap_oLst, ap_mBo, ap_mTru, ap_bNot, ap_bAnd, ap_bOr, ap_vAnd, ap_vOr, ap_vNot, ap_vIsi, ap_vIsi2, ap_evR0, ap_evR1, ap_evA0, ap_evA1, ap_evO0, ap_evO1, ap_oApp, ap_sSetIx, ap_mCall, ap_iVal, ap_iOp, ap_iPr, ap_oLc, ap_oLc2, ap_pNo, ap_pSome, ap_oSl, ap_rB, ap_vVar, ap_oMove, ap_aR, ap_gNm, ap_gTp, ap_gAll0, ap_gAll1, look_d, look_s, ap_looks0, ap_looks1, ap_conts0, ap_conts1, alook_d, alook_o, alook_r, own0, own_d, own_o, own_r, ifF, seqF, asgG, asgF, retF, expF, ret1, opH, opG, opF, tupG, tupF, lstG, lstF, boF, truH, truG, truF, andF, orF, vandG, vandF, vorG, vorF, notG, notH, notF, isG, isF, isTy2, isF2, evRG, evRF, evAG, evAF, evOG, evOF, chG, chAt, appF, gate, setL, setF3, setF2, setF1, callI, callH, callG, callF, itG, iopG, iopF, iprF, ivF, slI, slH, slG, slF, psF, parG, runG, runF, gaF, lkG, cnG, dsOf, outsOf, setAll, truthD, O.toD, O.isVal, dropRefs, setRefs, ownL, isTy, wS, v_gt, v_lt, v_le, v_ge, v_eq, v_ne, v_eqB, v_neB, v_add, v_sub, v_int, v_intB, v_abs, v_lenL, v_lenT, v_tupL, v_tupT, v_listL, v_ixL, v_ixT, v_setL, v_isN, PyData.isList, PyData.isTuple, v_eqN, v_eqS, PyData.isBool, PyData.isStr, PyData.isInt, isNone, tYs, ap_oOr, oorG, oorF, ap_mCallP, callPF, pick0, pick1, pickG, ap_oChain, chnF, chnG, chnH, chnI, lkB, v_neg, h1, h2, h3, h5, itemsD, er]
  · simp [bK_some, ap_runDef, ap_sSeq, ap_sAsg, ap_sIf, ap_vIf, ap_oIf, ap_sRet, ap_sExp, ap_sNx, ap_sFor, ap_sPar, ap_mOp, ap_rV, ap_frz, ap_rO, ap_oV, ap_aV, ap_aO, ap_vCon, ap_vTup, ap_oLst, ap_mBo, ap_mTru, ap_bNot, ap_bAnd, ap_bOr, ap_vAnd, ap_vOr, ap_vNot, ap_vIsi, ap_vIsi2, ap_evR0, ap_evR1, ap_evA0, ap_evA1, ap_evO0, ap_evO1, ap_oApp, ap_sSetIx, ap_mCall, ap_iVal, ap_iOp, ap_iPr, ap_oLc, ap_oLc2, ap_pNo, ap_pSome, ap_oSl, ap_rB, ap_vVar, ap_oMove, ap_aR, ap_gNm, ap_gTp, ap_gAll0, ap_gAll1, look_d, look_s, ap_looks0, ap_looks1, ap_conts0, ap_conts1, alook_d, alook_o, alook_r, own0, own_d, own_o, own_r, ifF, seqF, asgG, asgF, retF, expF, ret1, opH, opG, opF, tupG, tupF, lstG, lstF, boF, truH, truG, truF, andF, orF, vandG, vandF, vorG, vorF, notG, notH, notF, isG, isF, isTy2, isF2, evRG, evRF, evAG, evAF, evOG, evOF, chG, chAt, appF, gate, setL, setF3, setF2, setF1, callI, callH, callG, callF, itG, iopG, iopF, iprF, ivF, slI, slH, slG, slF, psF, parG, runG, runF, gaF, lkG, cnG, dsOf, outsOf, setAll, truthD, O.toD, O.isVal, dropRefs, setRefs, ownL, isTy, wS, v_gt, v_lt, v_le, v_ge, v_eq, v_ne, v_eqB, v_neB, v_add, v_sub, v_int, v_intB, v_abs, v_lenL, v_lenT, v_tupL, v_tupT, v_listL, v_ixL, v_ixT, v_setL, v_isN, PyData.isList, PyData.isTuple, v_eqN, v_eqS, PyData.isBool, PyData.isStr, PyData.isInt, isNone, tYs, ap_oOr, oorG, oorF, ap_mCallP, callPF, pick0, pick1, pickG, ap_oChain, chnF, chnG, chnH, chnI, lkB, v_neg, h1, h2, h4, h5, itemsD, er]
theorem noons_ok (F : Facts c te ls) {ns : List D} (hns : ∀ d ∈ ns, InD d) {u x1 x4 x6 x7 x8 x9 : Option O} : ∃ so y6 y7 y8 y9, (so = O.lst ls ∨ so = .val (.list ls)) ∧ forGo (gNm 6) (sSeq (sAsg (gNm 7) (mCall (c 14) [aR 2, aR 6])) (sSeq (sIf (bNot (mTru (rO (mCall (c 10) [aO (oLst [rV (frz (mCall (c 4) [aR 2, aR 6])), rV (frz (mCallP (c 4) [1, 0] [aR 6, aR 3]))]), aO (oLst [rV (vVar 7), rV (vVar 7)])])))) (sRet (oV (vCon (.bool false)))) (sNx)) (sFor (iVal (vTup [rV (vCon (.str "bob")), rV (vCon (.str "pay")), rV (vCon (.str "x")), rV (vCon (.str "ann")), rV (vCon (.str "none"))])) (gNm 8) (sSeq (sAsg (gNm 7) (mCall (c 13) [aR 2, aR 8, aR 6])) (sSeq (sAsg (gNm 9) (oLst [rV (frz (mCall (c 3) [aR 2, aR 8, aR 6])), rV (frz (mCallP (c 3) [2, 1, 0] [aR 6, aR 8, aR 3]))])) (sIf (bNot (mTru (rO (mCall (c 10) [aR 9, aO (oLst [rV (vVar 7), rV (vVar 7)])])))) (sRet (oV (vCon (.bool false)))) (sNx))))))) ns [u, x1, some (.val te), some (.lst ls), x4, none, x6, x7, x8, x9] = some (.nx, [u, x1, some (.val te), some so, x4, none, y6, y7, y8, y9]) := by
  obtain ⟨s', e1, ⟨so, y6, y7, y8, y9, hso, es⟩, _⟩ := forGo_inv (g := gNm 6) (b := (sSeq (sAsg (gNm 7) (mCall (c 14) [aR 2, aR 6])) (sSeq (sIf (bNot (mTru (rO (mCall (c 10) [aO (oLst [rV (frz (mCall (c 4) [aR 2, aR 6])), rV (frz (mCallP (c 4) [1, 0] [aR 6, aR 3]))]), aO (oLst [rV (vVar 7), rV (vVar 7)])])))) (sRet (oV (vCon (.bool false)))) (sNx)) (sFor (iVal (vTup [rV (vCon (.str "bob")), rV (vCon (.str "pay")), rV (vCon (.str "x")), rV (vCon (.str "ann")), rV (vCon (.str "none"))])) (gNm 8) (sSeq (sAsg (gNm 7) (mCall (c 13) [aR 2, aR 8, aR 6])) (sSeq (sAsg (gNm 9) (oLst [rV (frz (mCall (c 3) [aR 2, aR 8, aR 6])), rV (frz (mCallP (c 3) [2, 1, 0] [aR 6, aR 8, aR 3]))])) (sIf (bNot (mTru (rO (mCall (c 10) [aR 9, aO (oLst [rV (vVar 7), rV (vVar 7)])])))) (sRet (oV (vCon (.bool false)))) (sNx)))))))) (fun ds s => (∃ so x6 x7 x8 x9, (so = O.lst ls ∨ so = .val (.list ls)) ∧ s = [u, x1, some (.val te), some so, x4, none, x6, x7, x8, x9]) ∧ ∀ d ∈ ds, InD d) (fun d ds s ⟨⟨so, x6, x7, x8, x9, hso, es⟩, hd⟩ => by
    subst es
    obtain ⟨s1, s2, e1, e2, y6, y7, y8, y9, e3⟩ := noon_step F hso (hd d List.mem_cons_self) (u := u) (x1 := x1) (x4 := x4) (x6 := x6) (x7 := x7) (x8 := x8) (x9 := x9)
    exact ⟨s1, s2, e1, e2, ⟨_, _, _, _, _, .inr rfl, e3⟩, fun x hx => hd x (List.mem_cons_of_mem _ hx)⟩) ns [u, x1, some (.val te), some (.lst ls), x4, none, x6, x7, x8, x9] ⟨⟨_, _, _, _, _, .inl rfl, rfl⟩, hns⟩
  subst es
  exact ⟨so, y6, y7, y8, y9, hso, e1⟩
end
/-! the days asked for -/
def l2 : D → D
  | .tuple xs => (atI xs (-2)).getD .none
  | d => d
def l1 : D → D
  | .tuple xs => (atI xs (-1)).getD .none
  | d => d
def up1 : D → D
  | .int b => .int (b + 1)
  | d => d
def Ends (d : D) : Prop := ∃ xs a b, d = .tuple xs ∧ atI xs (-2) = some (.int a) ∧ atI xs (-1) = some (.int b)
theorem ends_of {hs gs ds : List D} (B : Book hs gs ds) : ∀ d ∈ hs ++ gs, Ends d := fun d hd => by
  rcases List.mem_append.mp hd with h | h
  · obtain ⟨r, p, a, b, rfl⟩ := B.h d h
    exact ⟨_, a, b, rfl, rfl, rfl⟩
  · obtain ⟨p, a, b, rfl⟩ := B.g d h
    exact ⟨_, a, b, rfl, rfl, rfl⟩
def days (rs : List D) : List D := [.int 0, .int 40] ++ rs.map l2 ++ rs.map l1 ++ rs.map (fun d => up1 (l1 d))
theorem days_ok {rs : List D} (h : ∀ d ∈ rs, Ends d) (hl : rs.length ≤ 16) : ∃ ns, ssetD (days rs) = some ns ∧ ∀ d ∈ ns, InD d := by
  have n1 : ∀ d ∈ days rs, InD d := fun d hd => by
    simp only [days, List.mem_append, List.mem_map, List.mem_cons, List.not_mem_nil, or_false] at hd
    rcases hd with (((h1 | h1) | ⟨x, hx, rfl⟩) | ⟨x, hx, rfl⟩) | ⟨x, hx, rfl⟩
    · exact ⟨_, h1⟩
    · exact ⟨_, h1⟩
    · obtain ⟨xs, a, b, rfl, ha, hb⟩ := h x hx
      exact ⟨a, by simp [l2, ha]⟩
    · obtain ⟨xs, a, b, rfl, ha, hb⟩ := h x hx
      exact ⟨b, by simp [l1, hb]⟩
    · obtain ⟨xs, a, b, rfl, ha, hb⟩ := h x hx
      exact ⟨b + 1, by simp [l1, up1, hb]⟩
  obtain ⟨ys, e1, e2, _, _⟩ := kin_sset in_kin n1 (by simp [days]; omega)
  exact ⟨ys, e1, fun d hd => n1 d ((e2 d).mp hd)⟩
theorem facts_of {c : Nat → FD} (hc : c = C 18) {hs gs ds : List D} (B : Book hs gs ds) : Facts c (enc hs gs ds) (lisA [.tuple hs, .tuple gs, .tuple ds]) := by
  subst hc
  obtain ⟨f1, f2, f3⟩ := book_fix B
  have hlt : lisD (enc hs gs ds) = .list (lisA [.tuple hs, .tuple gs, .tuple ds]) := by unfold enc; rw [lisD]
  have lv1 : Lv 17 (enc hs gs ds) := lv_up (by decide) f3
  have lv2 : Lv 17 (.list (lisA [.tuple hs, .tuple gs, .tuple ds])) := by
    rw [← hlt]
    exact lv_lis 17 _ lv1
  have t2 : tupD (.list (lisA [.tuple hs, .tuple gs, .tuple ds])) = enc hs gs ds := by rw [← hlt, tup_lis, f1]
  have same : ∀ ys : List D, ys.length ≤ 1000 → (∀ d ∈ ys, NmD d) → C 18 10 [.lst [.tuple ys, .tuple ys], .lst [.tuple ys, .tuple ys]] = some (.val (.bool true), [.val (.list [.tuple ys, .tuple ys]), .val (.list [.tuple ys, .tuple ys])]) := fun ys hl hy => same_ok 18 (.lst _) (.lst _) rfl ⟨by simp, fun x hx => by
    simp only [List.mem_cons, List.not_mem_nil, or_false] at hx
    have e : x = .tuple ys := by rcases hx with h | h <;> exact h
    rw [e]
    refine ⟨hl, fun y hy' => ?_⟩
    obtain ⟨z, rfl⟩ := hy y hy'
    exact trivial⟩
  have lh := B.lh
  have lg := B.lg
  refine ⟨fun t => ?_, fun r t => ?_, lis_ok 18 (.val (enc hs gs ds)) (lv_up (by decide) f3), ?_⟩
  · have n1 : ∀ d ∈ (gs.filter (onG t)).map (fld 0), NmD d := fun d hd => by
      obtain ⟨x, hx, rfl⟩ := List.mem_map.mp hd
      exact (g_at (B.g x (List.mem_filter.mp hx).1)).2.1
    have n2 : ((gs.filter (onG t)).map (fld 0)).length ≤ 8 := by
      rw [List.length_map]
      have := List.length_filter_le (onG t) gs
      omega
    obtain ⟨ys, e1, e2, e3, _⟩ := kin_sset nm_kin n1 (by omega)
    refine ⟨.tuple ys, off_ok (c := C 17) B e1, away_ok (n := 16) (o := .val _) B lv1 f1 e1, away_ok (n := 16) (o := .lst _) B lv2 t2 e1, away_ok (n := 16) (o := .val _) B lv2 t2 e1, same ys (by omega) fun d hd => n1 d ((e2 d).mp hd)⟩
  · have n1 : ∀ d ∈ (hs.filter (onH r t)).map (fld 1), NmD d := fun d hd => by
      obtain ⟨x, hx, rfl⟩ := List.mem_map.mp hd
      exact (h_at (B.h x (List.mem_filter.mp hx).1)).2.1
    have n2 : ((hs.filter (onH r t)).map (fld 1)).length ≤ 8 := by
      rw [List.length_map]
      have := List.length_filter_le (onH r t) hs
      omega
    obtain ⟨ys, e1, e2, e3, _⟩ := kin_sset nm_kin n1 (by omega)
    refine ⟨.tuple ys, held_ok (c := C 17) B e1, holders_ok (n := 16) (o := .val _) B lv1 f1 e1, holders_ok (n := 16) (o := .val _) B lv2 t2 e1, same ys (by omega) fun d hd => n1 d ((e2 d).mp hd)⟩
  · rw [← hlt]
    exact ne_self (n := 4) (lv_lis 4 _ f3) (by decide)
theorem right_step {c : Nat → FD} (hc : c = C 18) (m : Nat) {d : D} {u : O} {x1 x2 x3 x4 x6 x7 x8 x9 : Option O} (hu : Urn (m + 200) u) : ∃ s1 s2, gNm 1 (.val d) [some u, x1, x2, x3, x4, none, x6, x7, x8, x9] = some s1 ∧ (sSeq (sAsg (gNm 2) (mCall (c 12) [aR 0, aO (mOp gAdd [rV (vCon (.int 2)), rO (mCall (c 6) [aR 0, aV (vCon (.int 7))])]), aV (vCon (.int 38))])) (sSeq (sAsg (gNm 3) (mCall (c 9) [aR 2])) (sSeq (sAsg (gNm 4) (mOp gAdd [rO (mOp gAdd [rO (oLst [rV (vCon (.int 0)), rV (vCon (.int 40))]), rO (oLc [5] (iVal (frz (mOp gAdd [rO (mOp gIx [rB 2, rV (vCon (.int 0))]), rO (mOp gIx [rB 2, rV (vCon (.int 1))])]))) (gNm 5) (tYs) (frz (mOp gIx [rB 5, rO (mOp gNeg [rV (vCon (.int 2))])])))]), rO (oLc [5] (iVal (frz (mOp gAdd [rO (mOp gIx [rB 2, rV (vCon (.int 0))]), rO (mOp gIx [rB 2, rV (vCon (.int 1))])]))) (gNm 5) (tYs) (frz (mOp gIx [rB 5, rO (mOp gNeg [rV (vCon (.int 1))])])))])) (sSeq (sAsg (gNm 4) (mOp gAdd [rB 4, rO (oLc [5] (iVal (frz (mOp gAdd [rO (mOp gIx [rB 2, rV (vCon (.int 0))]), rO (mOp gIx [rB 2, rV (vCon (.int 1))])]))) (gNm 5) (tYs) (frz (mOp gAdd [rO (mOp gIx [rB 5, rO (mOp gNeg [rV (vCon (.int 1))])]), rV (vCon (.int 1))])))])) (sSeq (sFor (iVal (frz (mOp gSSet [rB 4]))) (gNm 6) (sSeq (sAsg (gNm 7) (mCall (c 14) [aR 2, aR 6])) (sSeq (sIf (bNot (mTru (rO (mCall (c 10) [aO (oLst [rV (frz (mCall (c 4) [aR 2, aR 6])), rV (frz (mCallP (c 4) [1, 0] [aR 6, aR 3]))]), aO (oLst [rV (vVar 7), rV (vVar 7)])])))) (sRet (oV (vCon (.bool false)))) (sNx)) (sFor (iVal (vTup [rV (vCon (.str "bob")), rV (vCon (.str "pay")), rV (vCon (.str "x")), rV (vCon (.str "ann")), rV (vCon (.str "none"))])) (gNm 8) (sSeq (sAsg (gNm 7) (mCall (c 13) [aR 2, aR 8, aR 6])) (sSeq (sAsg (gNm 9) (oLst [rV (frz (mCall (c 3) [aR 2, aR 8, aR 6])), rV (frz (mCallP (c 3) [2, 1, 0] [aR 6, aR 8, aR 3]))])) (sIf (bNot (mTru (rO (mCall (c 10) [aR 9, aO (oLst [rV (vVar 7), rV (vVar 7)])])))) (sRet (oV (vCon (.bool false)))) (sNx)))))))) (sIf (mBo (mOp gNe [rB 3, rO (mCall (c 9) [aR 2])])) (sRet (oV (vCon (.bool false)))) (sNx))))))) s1 = some (.nx, s2) ∧ ∃ u y1 y2 y3 y4 y6 y7 y8 y9, Urn m u ∧ s2 = [some u, y1, y2, y3, y4, none, y6, y7, y8, y9] := by
  obtain ⟨r, u1, hu1, hr, r0, r1⟩ := take_at 17 (m + 199) u 7 hu (by decide) (by decide)
  obtain ⟨k, hk⟩ : ∃ k : Nat, 2 + r = (k : Int) := ⟨(2 + r).toNat, by omega⟩
  obtain ⟨hs, gs, ds, u2, hu2, B, ht⟩ := tome_at 15 (m + 99) u1 k 38 hu1 (by omega) (by omega) (by decide) (by decide)
  have F := facts_of hc B
  have lh := B.lh
  have lg := B.lg
  have hE := ends_of B
  have hlen : (hs ++ gs).length ≤ 16 := by rw [List.length_append]; omega
  obtain ⟨ns, q1, q2⟩ := days_ok hE hlen
  have at0 : atI [PyData.tuple hs, .tuple gs, .tuple ds] 0 = some (.tuple hs) := rfl
  have at1 : atI [PyData.tuple hs, .tuple gs, .tuple ds] 1 = some (.tuple gs) := rfl
  have ap := add_tups (a := hs) (b := gs) (by omega)
  have a1 := add_lists (a := [.int 0, .int 40]) (b := (hs ++ gs).map l2) (by rw [List.length_map]; simp only [List.length_cons, List.length_nil]; omega)
  have a2 := add_lists (a := [.int 0, .int 40] ++ (hs ++ gs).map l2) (b := (hs ++ gs).map l1) (by rw [List.length_append, List.length_map, List.length_map]; simp only [List.length_cons, List.length_nil]; omega)
  have a3 := add_lists (a := [.int 0, .int 40] ++ (hs ++ gs).map l2 ++ (hs ++ gs).map l1) (b := (hs ++ gs).map (fun d => up1 (l1 d))) (by rw [List.length_append, List.length_append, List.length_map, List.length_map, List.length_map]; simp only [List.length_cons, List.length_nil]; omega)
  unfold days at q1
  have hr' : c 6 [u, .val (.int 7)] = some (.val (.int r), [u1, .val (.int 7)]) := by rw [hc]; exact hr
  have ht' : c 12 [u1, .val (.int k), .val (.int 38)] = some (.val (enc hs gs ds), [u2, .val (.int k), .val (.int 38)]) := by rw [hc]; exact ht
  generalize hrs : hs ++ gs = rs at *
  generalize hls : lisA [.tuple hs, .tuple gs, .tuple ds] = ls at *
  unfold enc at ht' F
  have c2 : ∀ {y1 y2 y3 y4 y6 y7 y8 y9 yu : Option O}, lcG (compGo [5] (gNm 5) tYs (frz (mOp gIx [rB 5, rO (mOp gNeg [rV (vCon (.int 2))])])) rs [yu, y1, y2, y3, y4, none, y6, y7, y8, y9]) = some (.lst (rs.map l2), [yu, y1, y2, y3, y4, none, y6, y7, y8, y9]) := fun {y1 y2 y3 y4 y6 y7 y8 y9 yu} => by
    rw [comp_map l2 rfl fun d hd => ?_]
    · exact lcG_ok (by rw [List.length_map]; omega)
    · obtain ⟨xs, a, b, rfl, ha, hb⟩ := hE d hd
      simp [bK_some, ap_runDef, ap_sSeq, ap_sAsg, ap_sIf, ap_vIf, ap_oIf, ap_sRet, ap_sExp, ap_sNx, ap_sFor, ap_sPar, ap_mOp, ap_rV, ap_frz, ap_rO, ap_oV, ap_aV, ap_aO, ap_vCon, ap_vTup, ap_oLst, ap_mBo, ap_mTru, ap_bNot, ap_bAnd, ap_bOr, ap_vAnd, ap_vOr, ap_vNot, ap_vIsi, ap_vIsi2, ap_evR0, ap_evR1, ap_evA0, ap_evA1, ap_evO0, ap_evO1, ap_oApp, ap_sSetIx, ap_mCall, ap_iVal, ap_iOp, ap_iPr, ap_oLc, ap_oLc2, ap_pNo, ap_pSome, ap_oSl, ap_rB, ap_vVar, ap_oMove, ap_aR, ap_gNm, ap_gTp, ap_gAll0, ap_gAll1, look_d, look_s, ap_looks0, ap_looks1, ap_conts0, ap_conts1, alook_d, alook_o, alook_r, own0, own_d, own_o, own_r, ifF, seqF, asgG, asgF, retF, expF, ret1, opH, opG, opF, tupG, tupF, lstG, lstF, boF, truH, truG, truF, andF, orF, vandG, vandF, vorG, vorF, notG, notH, notF, isG, isF, isTy2, isF2, evRG, evRF, evAG, evAF, evOG, evOF, chG, chAt, appF, gate, setL, setF3, setF2, setF1, callI, callH, callG, callF, itG, iopG, iopF, iprF, ivF, slI, slH, slG, slF, psF, parG, runG, runF, gaF, lkG, cnG, dsOf, outsOf, setAll, truthD, O.toD, O.isVal, dropRefs, setRefs, ownL, isTy, wS, v_gt, v_lt, v_le, v_ge, v_eq, v_ne, v_eqB, v_neB, v_add, v_sub, v_int, v_intB, v_abs, v_lenL, v_lenT, v_tupL, v_tupT, v_listL, v_ixL, v_ixT, v_setL, v_isN, PyData.isList, PyData.isTuple, v_eqN, v_eqS, PyData.isBool, PyData.isStr, PyData.isInt, isNone, tYs, ap_oOr, oorG, oorF, ap_mCallP, callPF, pick0, pick1, pickG, ap_oChain, chnF, chnG, chnH, chnI, lkB, v_neg, ha, l2]
  have c1 : ∀ {y1 y2 y3 y4 y6 y7 y8 y9 yu : Option O}, lcG (compGo [5] (gNm 5) tYs (frz (mOp gIx [rB 5, rO (mOp gNeg [rV (vCon (.int 1))])])) rs [yu, y1, y2, y3, y4, none, y6, y7, y8, y9]) = some (.lst (rs.map l1), [yu, y1, y2, y3, y4, none, y6, y7, y8, y9]) := fun {y1 y2 y3 y4 y6 y7 y8 y9 yu} => by
    rw [comp_map l1 rfl fun d hd => ?_]
    · exact lcG_ok (by rw [List.length_map]; omega)
    · obtain ⟨xs, a, b, rfl, ha, hb⟩ := hE d hd
      simp [bK_some, ap_runDef, ap_sSeq, ap_sAsg, ap_sIf, ap_vIf, ap_oIf, ap_sRet, ap_sExp, ap_sNx, ap_sFor, ap_sPar, ap_mOp, ap_rV, ap_frz, ap_rO, ap_oV, ap_aV, ap_aO, ap_vCon, ap_vTup, ap_oLst, ap_mBo, ap_mTru, ap_bNot, ap_bAnd, ap_bOr, ap_vAnd, ap_vOr, ap_vNot, ap_vIsi, ap_vIsi2, ap_evR0, ap_evR1, ap_evA0, ap_evA1, ap_evO0, ap_evO1, ap_oApp, ap_sSetIx, ap_mCall, ap_iVal, ap_iOp, ap_iPr, ap_oLc, ap_oLc2, ap_pNo, ap_pSome, ap_oSl, ap_rB, ap_vVar, ap_oMove, ap_aR, ap_gNm, ap_gTp, ap_gAll0, ap_gAll1, look_d, look_s, ap_looks0, ap_looks1, ap_conts0, ap_conts1, alook_d, alook_o, alook_r, own0, own_d, own_o, own_r, ifF, seqF, asgG, asgF, retF, expF, ret1, opH, opG, opF, tupG, tupF, lstG, lstF, boF, truH, truG, truF, andF, orF, vandG, vandF, vorG, vorF, notG, notH, notF, isG, isF, isTy2, isF2, evRG, evRF, evAG, evAF, evOG, evOF, chG, chAt, appF, gate, setL, setF3, setF2, setF1, callI, callH, callG, callF, itG, iopG, iopF, iprF, ivF, slI, slH, slG, slF, psF, parG, runG, runF, gaF, lkG, cnG, dsOf, outsOf, setAll, truthD, O.toD, O.isVal, dropRefs, setRefs, ownL, isTy, wS, v_gt, v_lt, v_le, v_ge, v_eq, v_ne, v_eqB, v_neB, v_add, v_sub, v_int, v_intB, v_abs, v_lenL, v_lenT, v_tupL, v_tupT, v_listL, v_ixL, v_ixT, v_setL, v_isN, PyData.isList, PyData.isTuple, v_eqN, v_eqS, PyData.isBool, PyData.isStr, PyData.isInt, isNone, tYs, ap_oOr, oorG, oorF, ap_mCallP, callPF, pick0, pick1, pickG, ap_oChain, chnF, chnG, chnH, chnI, lkB, v_neg, hb, l1]
  have c3 : ∀ {y1 y2 y3 y4 y6 y7 y8 y9 yu : Option O}, lcG (compGo [5] (gNm 5) tYs (frz (mOp gAdd [rO (mOp gIx [rB 5, rO (mOp gNeg [rV (vCon (.int 1))])]), rV (vCon (.int 1))])) rs [yu, y1, y2, y3, y4, none, y6, y7, y8, y9]) = some (.lst (rs.map (fun d => up1 (l1 d))), [yu, y1, y2, y3, y4, none, y6, y7, y8, y9]) := fun {y1 y2 y3 y4 y6 y7 y8 y9 yu} => by
    rw [comp_map (fun d => up1 (l1 d)) rfl fun d hd => ?_]
    · exact lcG_ok (by rw [List.length_map]; omega)
    · obtain ⟨xs, a, b, rfl, ha, hb⟩ := hE d hd
      simp [bK_some, ap_runDef, ap_sSeq, ap_sAsg, ap_sIf, ap_vIf, ap_oIf, ap_sRet, ap_sExp, ap_sNx, ap_sFor, ap_sPar, ap_mOp, ap_rV, ap_frz, ap_rO, ap_oV, ap_aV, ap_aO, ap_vCon, ap_vTup, ap_oLst, ap_mBo, ap_mTru, ap_bNot, ap_bAnd, ap_bOr, ap_vAnd, ap_vOr, ap_vNot, ap_vIsi, ap_vIsi2, ap_evR0, ap_evR1, ap_evA0, ap_evA1, ap_evO0, ap_evO1, ap_oApp, ap_sSetIx, ap_mCall, ap_iVal, ap_iOp, ap_iPr, ap_oLc, ap_oLc2, ap_pNo, ap_pSome, ap_oSl, ap_rB, ap_vVar, ap_oMove, ap_aR, ap_gNm, ap_gTp, ap_gAll0, ap_gAll1, look_d, look_s, ap_looks0, ap_looks1, ap_conts0, ap_conts1, alook_d, alook_o, alook_r, own0, own_d, own_o, own_r, ifF, seqF, asgG, asgF, retF, expF, ret1, opH, opG, opF, tupG, tupF, lstG, lstF, boF, truH, truG, truF, andF, orF, vandG, vandF, vorG, vorF, notG, notH, notF, isG, isF, isTy2, isF2, evRG, evRF, evAG, evAF, evOG, evOF, chG, chAt, appF, gate, setL, setF3, setF2, setF1, callI, callH, callG, callF, itG, iopG, iopF, iprF, ivF, slI, slH, slG, slF, psF, parG, runG, runF, gaF, lkG, cnG, dsOf, outsOf, setAll, truthD, O.toD, O.isVal, dropRefs, setRefs, ownL, isTy, wS, v_gt, v_lt, v_le, v_ge, v_eq, v_ne, v_eqB, v_neB, v_add, v_sub, v_int, v_intB, v_abs, v_lenL, v_lenT, v_tupL, v_tupT, v_listL, v_ixL, v_ixT, v_setL, v_isN, PyData.isList, PyData.isTuple, v_eqN, v_eqS, PyData.isBool, PyData.isStr, PyData.isInt, isNone, tYs, ap_oOr, oorG, oorF, ap_mCallP, callPF, pick0, pick1, pickG, ap_oChain, chnF, chnG, chnH, chnI, lkB, v_neg, hb, l1, up1]
  obtain ⟨so, z6, z7, z8, z9, hso, en⟩ := noons_ok F q2 (u := some u2) (x1 := some (.val d)) (x4 := some (.lst ([.int 0, .int 40] ++ rs.map l2 ++ rs.map l1 ++ rs.map (fun d => up1 (l1 d))))) (x6 := x6) (x7 := x7) (x8 := x8) (x9 := x9)
  have itm : itemsD (.list ns) = some ns := rfl
  have fL := F.L
  have fN := F.N
  have a1' : gAdd [.list [.int 0, .int 40], .list (rs.map l2)] = some (.lst ([.int 0, .int 40] ++ rs.map l2)) := a1
  have qs : gSSet [.list ([.int 0, .int 40] ++ rs.map l2 ++ rs.map l1 ++ rs.map (fun d => up1 (l1 d)))] = some (.lst ns) := by
    show (ssetD _).map _ = _
    rw [q1]
    rfl
  clear hc hr ht F q1 a1 hE
  obtain ⟨dy, hdy⟩ : ∃ dy, [PyData.int 0, .int 40] ++ rs.map l2 = dy := ⟨_, rfl⟩
  rw [hdy] at a1' a2 a3 en qs
  obtain ⟨dz, hdz⟩ : ∃ dz, dy ++ rs.map l1 = dz := ⟨_, rfl⟩
  rw [hdz] at a2 a3 en qs
  obtain ⟨dw, hdw⟩ : ∃ dw, dz ++ rs.map (fun d => up1 (l1 d)) = dw := ⟨_, rfl⟩
  rw [hdw] at a3 en qs
  generalize rs.map l2 = r2 at *
  generalize rs.map l1 = r1' at *
  generalize rs.map (fun d => up1 (l1 d)) = r3 at *
  obtain ⟨_, _, _, rfl, _, _⟩ := hu
  obtain ⟨_, _, _, rfl, _, _⟩ := hu1
  obtain ⟨z1, z2, z3, rfl, z4, z5⟩ := hu2
  refine ⟨[some (.lst _), some (.val d), x2, x3, x4, none, x6, x7, x8, x9], [some (.lst [.int z1, .int z2, .int z3]), some (.val d), some (.val (.tuple [.tuple hs, .tuple gs, .tuple ds])), some so, some (.lst dw), none, z6, z7, z8, z9], rfl, ?_, _, _, _, _, _, _, _, _, _, (Urn.le ⟨z1, z2, z3, rfl, z4, z5⟩ (by omega)), rfl⟩
  rcases hso with rfl | rfl
  · simp [bK_some, ap_runDef, ap_sSeq, ap_sAsg, ap_sIf, ap_vIf, ap_oIf, ap_sRet, ap_sExp, ap_sNx, ap_sFor, ap_sPar, ap_mOp, ap_rV, ap_frz, ap_rO, ap_oV, ap_aV, ap_aO, ap_vCon, ap_vTup, ap_oLst, ap_mBo, ap_mTru, ap_bNot, ap_bAnd, ap_bOr, ap_vAnd, ap_vOr, ap_vNot, ap_vIsi, ap_vIsi2, ap_evR0, ap_evR1, ap_evA0, ap_evA1, ap_evO0, ap_evO1, ap_oApp, ap_sSetIx, ap_mCall, ap_iVal, ap_iOp, ap_iPr, ap_oLc, ap_oLc2, ap_pNo, ap_pSome, ap_oSl, ap_rB, ap_vVar, ap_oMove, ap_aR, ap_gNm, ap_gTp, ap_gAll0, ap_gAll1, look_d, look_s, ap_looks0, ap_looks1, ap_conts0, ap_conts1, alook_d, alook_o, alook_r, own0, own_d, own_o, own_r, ifF, seqF, asgG, asgF, retF, expF, ret1, opH, opG, opF, tupG, tupF, lstG, lstF, boF, truH, truG, truF, andF, orF, vandG, vandF, vorG, vorF, notG, notH, notF, isG, isF, isTy2, isF2, evRG, evRF, evAG, evAF, evOG, evOF, chG, chAt, appF, gate, setL, setF3, setF2, setF1, callI, callH, callG, callF, itG, iopG, iopF, iprF, ivF, slI, slH, slG, slF, psF, parG, runG, runF, gaF, lkG, cnG, dsOf, outsOf, setAll, truthD, O.toD, O.isVal, dropRefs, setRefs, ownL, isTy, wS, v_gt, v_lt, v_le, v_ge, v_eq, v_ne, v_eqB, v_neB, v_add, v_sub, v_int, v_intB, v_abs, v_lenL, v_lenT, v_tupL, v_tupT, v_listL, v_ixL, v_ixT, v_setL, v_isN, PyData.isList, PyData.isTuple, v_eqN, v_eqS, PyData.isBool, PyData.isStr, PyData.isInt, isNone, tYs, ap_oOr, oorG, oorF, ap_mCallP, callPF, pick0, pick1, pickG, ap_oChain, chnF, chnG, chnH, chnI, lkB, v_neg, hr', hk, ht', fL, at0, at1, ap, itemsD, lcF, c2, c1, c3, a1', a2, a3, qs, en, fN]
  · simp [bK_some, ap_runDef, ap_sSeq, ap_sAsg, ap_sIf, ap_vIf, ap_oIf, ap_sRet, ap_sExp, ap_sNx, ap_sFor, ap_sPar, ap_mOp, ap_rV, ap_frz, ap_rO, ap_oV, ap_aV, ap_aO, ap_vCon, ap_vTup, ap_oLst, ap_mBo, ap_mTru, ap_bNot, ap_bAnd, ap_bOr, ap_vAnd, ap_vOr, ap_vNot, ap_vIsi, ap_vIsi2, ap_evR0, ap_evR1, ap_evA0, ap_evA1, ap_evO0, ap_evO1, ap_oApp, ap_sSetIx, ap_mCall, ap_iVal, ap_iOp, ap_iPr, ap_oLc, ap_oLc2, ap_pNo, ap_pSome, ap_oSl, ap_rB, ap_vVar, ap_oMove, ap_aR, ap_gNm, ap_gTp, ap_gAll0, ap_gAll1, look_d, look_s, ap_looks0, ap_looks1, ap_conts0, ap_conts1, alook_d, alook_o, alook_r, own0, own_d, own_o, own_r, ifF, seqF, asgG, asgF, retF, expF, ret1, opH, opG, opF, tupG, tupF, lstG, lstF, boF, truH, truG, truF, andF, orF, vandG, vandF, vorG, vorF, notG, notH, notF, isG, isF, isTy2, isF2, evRG, evRF, evAG, evAF, evOG, evOF, chG, chAt, appF, gate, setL, setF3, setF2, setF1, callI, callH, callG, callF, itG, iopG, iopF, iprF, ivF, slI, slH, slG, slF, psF, parG, runG, runF, gaF, lkG, cnG, dsOf, outsOf, setAll, truthD, O.toD, O.isVal, dropRefs, setRefs, ownL, isTy, wS, v_gt, v_lt, v_le, v_ge, v_eq, v_ne, v_eqB, v_neB, v_add, v_sub, v_int, v_intB, v_abs, v_lenL, v_lenT, v_tupL, v_tupT, v_listL, v_ixL, v_ixT, v_setL, v_isN, PyData.isList, PyData.isTuple, v_eqN, v_eqS, PyData.isBool, PyData.isStr, PyData.isInt, isNone, tYs, ap_oOr, oorG, oorF, ap_mCallP, callPF, pick0, pick1, pickG, ap_oChain, chnF, chnG, chnH, chnI, lkB, v_neg, hr', hk, ht', fL, at0, at1, ap, itemsD, lcF, c2, c1, c3, a1', a2, a3, qs, en, fN]
end Dv.G

namespace Dv.G
open PySem PySem.Spec PyProof.Rows L2
def isT : Option (O × List O) → Bool
  | some (.val (.bool true), []) => true
  | _ => false
theorem isT_is {x : Option (O × List O)} (h : isT x = true) : x = some (.val (.bool true), []) := by
  unfold isT at h
  split at h
  · rfl
  · cases h
theorem by_hand : C 18 15 [] = some (.val (.bool true), []) := isT_is (by decide +kernel)
def RightOk (f : FD) : Prop := ∀ (m : Nat) (u : O), Urn (m + 3000) u → ∃ u', Urn m u' ∧ f [u] = some (.val (.bool true), [u'])
end Dv.G

namespace Dv.G
open PySem PySem.Spec PyProof.Rows L2
theorem right_ok : RightOk (C 19 16) := fun m u hu => by
  obtain ⟨s', e1, u', y1, y2, y3, y4, y6, y7, y8, y9, hu', es⟩ := forGo_inv (g := gNm 1) (b := (sSeq (sAsg (gNm 2) (mCall (C 18 12) [aR 0, aO (mOp gAdd [rV (vCon (.int 2)), rO (mCall (C 18 6) [aR 0, aV (vCon (.int 7))])]), aV (vCon (.int 38))])) (sSeq (sAsg (gNm 3) (mCall (C 18 9) [aR 2])) (sSeq (sAsg (gNm 4) (mOp gAdd [rO (mOp gAdd [rO (oLst [rV (vCon (.int 0)), rV (vCon (.int 40))]), rO (oLc [5] (iVal (frz (mOp gAdd [rO (mOp gIx [rB 2, rV (vCon (.int 0))]), rO (mOp gIx [rB 2, rV (vCon (.int 1))])]))) (gNm 5) (tYs) (frz (mOp gIx [rB 5, rO (mOp gNeg [rV (vCon (.int 2))])])))]), rO (oLc [5] (iVal (frz (mOp gAdd [rO (mOp gIx [rB 2, rV (vCon (.int 0))]), rO (mOp gIx [rB 2, rV (vCon (.int 1))])]))) (gNm 5) (tYs) (frz (mOp gIx [rB 5, rO (mOp gNeg [rV (vCon (.int 1))])])))])) (sSeq (sAsg (gNm 4) (mOp gAdd [rB 4, rO (oLc [5] (iVal (frz (mOp gAdd [rO (mOp gIx [rB 2, rV (vCon (.int 0))]), rO (mOp gIx [rB 2, rV (vCon (.int 1))])]))) (gNm 5) (tYs) (frz (mOp gAdd [rO (mOp gIx [rB 5, rO (mOp gNeg [rV (vCon (.int 1))])]), rV (vCon (.int 1))])))])) (sSeq (sFor (iVal (frz (mOp gSSet [rB 4]))) (gNm 6) (sSeq (sAsg (gNm 7) (mCall (C 18 14) [aR 2, aR 6])) (sSeq (sIf (bNot (mTru (rO (mCall (C 18 10) [aO (oLst [rV (frz (mCall (C 18 4) [aR 2, aR 6])), rV (frz (mCallP (C 18 4) [1, 0] [aR 6, aR 3]))]), aO (oLst [rV (vVar 7), rV (vVar 7)])])))) (sRet (oV (vCon (.bool false)))) (sNx)) (sFor (iVal (vTup [rV (vCon (.str "bob")), rV (vCon (.str "pay")), rV (vCon (.str "x")), rV (vCon (.str "ann")), rV (vCon (.str "none"))])) (gNm 8) (sSeq (sAsg (gNm 7) (mCall (C 18 13) [aR 2, aR 8, aR 6])) (sSeq (sAsg (gNm 9) (oLst [rV (frz (mCall (C 18 3) [aR 2, aR 8, aR 6])), rV (frz (mCallP (C 18 3) [2, 1, 0] [aR 6, aR 8, aR 3]))])) (sIf (bNot (mTru (rO (mCall (C 18 10) [aR 9, aO (oLst [rV (vVar 7), rV (vVar 7)])])))) (sRet (oV (vCon (.bool false)))) (sNx)))))))) (sIf (mBo (mOp gNe [rB 3, rO (mCall (C 18 9) [aR 2])])) (sRet (oV (vCon (.bool false)))) (sNx)))))))) (fun ds s => ∃ u y1 y2 y3 y4 y6 y7 y8 y9, Urn (m + 200 * ds.length) u ∧ s = [some u, y1, y2, y3, y4, none, y6, y7, y8, y9]) (fun d ds s ⟨u, y1, y2, y3, y4, y6, y7, y8, y9, hu, es⟩ => by
    subst es
    rw [List.length_cons] at hu
    exact right_step rfl (m + 200 * ds.length) (hu.le (by omega))) (rng 0 5) [some u, none, none, none, none, none, none, none, none, none] ⟨u, _, _, _, _, _, _, _, _, hu.le (by rw [rng_len]; omega), rfl⟩
  subst es
  refine ⟨u', hu'.le (by omega), ?_⟩
  have e0 : C 19 16 = runDef 10 1 (m16 (C 18)) := rfl
  have g1 : gRng [.int 5] = some (rng 0 5) := gRng1 (j := 5) (by decide) (by decide)
  rw [e0]
  simp [m16, bK_some, ap_runDef, ap_sSeq, ap_sAsg, ap_sIf, ap_vIf, ap_oIf, ap_sRet, ap_sExp, ap_sNx, ap_sFor, ap_sPar, ap_mOp, ap_rV, ap_frz, ap_rO, ap_oV, ap_aV, ap_aO, ap_vCon, ap_vTup, ap_oLst, ap_mBo, ap_mTru, ap_bNot, ap_bAnd, ap_bOr, ap_vAnd, ap_vOr, ap_vNot, ap_vIsi, ap_vIsi2, ap_evR0, ap_evR1, ap_evA0, ap_evA1, ap_evO0, ap_evO1, ap_oApp, ap_sSetIx, ap_mCall, ap_iVal, ap_iOp, ap_iPr, ap_oLc, ap_oLc2, ap_pNo, ap_pSome, ap_oSl, ap_rB, ap_vVar, ap_oMove, ap_aR, ap_gNm, ap_gTp, ap_gAll0, ap_gAll1, look_d, look_s, ap_looks0, ap_looks1, ap_conts0, ap_conts1, alook_d, alook_o, alook_r, own0, own_d, own_o, own_r, ifF, seqF, asgG, asgF, retF, expF, ret1, opH, opG, opF, tupG, tupF, lstG, lstF, boF, truH, truG, truF, andF, orF, vandG, vandF, vorG, vorF, notG, notH, notF, isG, isF, isTy2, isF2, evRG, evRF, evAG, evAF, evOG, evOF, chG, chAt, appF, gate, setL, setF3, setF2, setF1, callI, callH, callG, callF, itG, iopG, iopF, iprF, ivF, slI, slH, slG, slF, psF, parG, runG, runF, gaF, lkG, cnG, dsOf, outsOf, setAll, truthD, O.toD, O.isVal, dropRefs, setRefs, ownL, isTy, wS, v_gt, v_lt, v_le, v_ge, v_eq, v_ne, v_eqB, v_neB, v_add, v_sub, v_int, v_intB, v_abs, v_lenL, v_lenT, v_tupL, v_tupT, v_listL, v_ixL, v_ixT, v_setL, v_isN, PyData.isList, PyData.isTuple, v_eqN, v_eqS, PyData.isBool, PyData.isStr, PyData.isInt, isNone, tYs, ap_oOr, oorG, oorF, ap_mCallP, callPF, pick0, pick1, pickG, ap_oChain, chnF, chnG, chnH, chnI, lkB, v_neg, by_hand, g1, e1]
end Dv.G

namespace Dv.G
open PySem PySem.Spec PyProof.Rows L2
theorem e_5 (n : Nat) : C (n + 1) 5 = runDef 3 2 (m5 (C n)) := rfl
theorem e_7 (n : Nat) : C (n + 1) 7 = runDef 6 2 (m7 (C n)) := rfl
theorem e_17 (n : Nat) : C (n + 1) 17 = runDef 5 1 (m17 (C n)) := rfl
theorem seq_nx {a b : MS} {s s1 : S} {r : Option (Fl × S)} (h : a s = some (.nx, s1)) (h2 : b s1 = r) : sSeq a b s = r := by
  rw [ap_sSeq, h, bK_some]
  exact h2
theorem for_nx {m : MI} {g : MG} {b : MS} {s s1 : S} {ds : List D} {r : Option (Fl × S)} (h : m s = some (ds, s1)) (h2 : forGo g b ds s1 = r) : sFor m g b s = r := by
  rw [ap_sFor, h, bK_some]
  exact h2
theorem ret_tr {s : S} : sRet (oV (vCon (.bool true))) s = some (.rt (.val (.bool true)), s) := Eq.refl _
theorem xA {c : Nat → FD} {xs cs : List D} (hc' : c 7 [.val (.list xs), .val (.int 3)] = some (.lst cs, [.val (.list xs), .val (.int 3)])) : sAsg (gNm 1) (mCall (c 7) [aR 0, aV (vCon (.int 3))]) [some (.val (.list xs)), none, none, none, none] = some (.nx, [some (.val (.list xs)), some (.lst cs), none, none, none]) := by
  simp [bK_some, ap_runDef, ap_sSeq, ap_sAsg, ap_sIf, ap_vIf, ap_oIf, ap_sRet, ap_sExp, ap_sNx, ap_sFor, ap_sPar, ap_mOp, ap_rV, ap_frz, ap_rO, ap_oV, ap_aV, ap_aO, ap_vCon, ap_vTup, ap_oLst, ap_mBo, ap_mTru, ap_bNot, ap_bAnd, ap_bOr, ap_vAnd, ap_vOr, ap_vNot, ap_vIsi, ap_vIsi2, ap_evR0, ap_evR1, ap_evA0, ap_evA1, ap_evO0, ap_evO1, ap_oApp, ap_sSetIx, ap_mCall, ap_iVal, ap_iOp, ap_iPr, ap_oLc, ap_oLc2, ap_pNo, ap_pSome, ap_oSl, ap_rB, ap_vVar, ap_oMove, ap_aR, ap_gNm, ap_gTp, ap_gAll0, ap_gAll1, look_d, look_s, ap_looks0, ap_looks1, ap_conts0, ap_conts1, alook_d, alook_o, alook_r, own0, own_d, own_o, own_r, ifF, seqF, asgG, asgF, retF, expF, ret1, opH, opG, opF, tupG, tupF, lstG, lstF, boF, truH, truG, truF, andF, orF, vandG, vandF, vorG, vorF, notG, notH, notF, isG, isF, isTy2, isF2, evRG, evRF, evAG, evAF, evOG, evOF, chG, chAt, appF, gate, setL, setF3, setF2, setF1, callI, callH, callG, callF, itG, iopG, iopF, iprF, ivF, slI, slH, slG, slF, psF, parG, runG, runF, gaF, lkG, cnG, dsOf, outsOf, setAll, truthD, O.toD, O.isVal, dropRefs, setRefs, ownL, isTy, wS, v_gt, v_lt, v_le, v_ge, v_eq, v_ne, v_eqB, v_neB, v_add, v_sub, v_int, v_intB, v_abs, v_lenL, v_lenT, v_tupL, v_tupT, v_listL, v_ixL, v_ixT, v_setL, v_isN, PyData.isList, PyData.isTuple, v_eqN, v_eqS, PyData.isBool, PyData.isStr, PyData.isInt, isNone, tYs, ap_oOr, oorG, oorF, hc']
theorem xB {xs cs : List D} {r : List D} {j : Int} (hl : gLen [.list cs] = some (.val (.int j))) (g2 : gRng [.int j] = some r) : iOp gRng [rO (mOp gLen [rB 1])] [some (.val (.list xs)), some (.lst cs), none, none, none] = some (r, [some (.val (.list xs)), some (.lst cs), none, none, none]) := by
  simp [bK_some, ap_runDef, ap_sSeq, ap_sAsg, ap_sIf, ap_vIf, ap_oIf, ap_sRet, ap_sExp, ap_sNx, ap_sFor, ap_sPar, ap_mOp, ap_rV, ap_frz, ap_rO, ap_oV, ap_aV, ap_aO, ap_vCon, ap_vTup, ap_oLst, ap_mBo, ap_mTru, ap_bNot, ap_bAnd, ap_bOr, ap_vAnd, ap_vOr, ap_vNot, ap_vIsi, ap_vIsi2, ap_evR0, ap_evR1, ap_evA0, ap_evA1, ap_evO0, ap_evO1, ap_oApp, ap_sSetIx, ap_mCall, ap_iVal, ap_iOp, ap_iPr, ap_oLc, ap_oLc2, ap_pNo, ap_pSome, ap_oSl, ap_rB, ap_vVar, ap_oMove, ap_aR, ap_gNm, ap_gTp, ap_gAll0, ap_gAll1, look_d, look_s, ap_looks0, ap_looks1, ap_conts0, ap_conts1, alook_d, alook_o, alook_r, own0, own_d, own_o, own_r, ifF, seqF, asgG, asgF, retF, expF, ret1, opH, opG, opF, tupG, tupF, lstG, lstF, boF, truH, truG, truF, andF, orF, vandG, vandF, vorG, vorF, notG, notH, notF, isG, isF, isTy2, isF2, evRG, evRF, evAG, evAF, evOG, evOF, chG, chAt, appF, gate, setL, setF3, setF2, setF1, callI, callH, callG, callF, itG, iopG, iopF, iprF, ivF, slI, slH, slG, slF, psF, parG, runG, runF, gaF, lkG, cnG, dsOf, outsOf, setAll, truthD, O.toD, O.isVal, dropRefs, setRefs, ownL, isTy, wS, v_gt, v_lt, v_le, v_ge, v_eq, v_ne, v_eqB, v_neB, v_add, v_sub, v_int, v_intB, v_abs, v_lenT, v_tupL, v_tupT, v_listL, v_ixL, v_ixT, v_setL, v_isN, PyData.isList, PyData.isTuple, v_eqN, v_eqS, PyData.isBool, PyData.isStr, PyData.isInt, isNone, tYs, ap_oOr, oorG, oorF, hl, g2]
theorem xM {c : Nat → FD} {xs cs r : List D} {j : Int} {y2 y3 : Option O} (hc' : c 7 [.val (.list xs), .val (.int 3)] = some (.lst cs, [.val (.list xs), .val (.int 3)])) (hl : gLen [.list cs] = some (.val (.int j))) (g2 : gRng [.int j] = some r) (e1 : forGo (gNm 2) (sSeq (sAsg (gNm 3) (mCall (c 5) [aR 1, aR 2])) (sIf (bNot (mTru (rO (mOp gAll [rO (oLc [4] (iOp gRng [rV (vCon (.int 1))]) (gNm 4) (tYs) (frz (mCall (c 16) [aR 3])))])))) (sRet (oV (vCon (.bool false)))) (sNx))) r [some (.val (.list xs)), some (.lst cs), none, none, none] = some (.nx, [some (.val (.list xs)), some (.lst cs), y2, y3, none])) : m17 c [some (.val (.list xs)), none, none, none, none] = some (.rt (.val (.bool true)), [some (.val (.list xs)), some (.lst cs), y2, y3, none]) := by
  unfold m17
  exact seq_nx (xA hc') (seq_nx (for_nx (xB hl g2) e1) ret_tr)
theorem xC {c : Nat → FD} {xs : List D} {cs : List D} {y2 y3 : Option O} (hm : m17 c [some (.val (.list xs)), none, none, none, none] = some (.rt (.val (.bool true)), [some (.val (.list xs)), some (.lst cs), y2, y3, none])) : runDef 5 1 (m17 c) [.val (.list xs)] = some (.val (.bool true), [.val (.list xs)]) := by
  rw [ap_runDef]
  simp [bK_some, ap_runDef, ap_sSeq, ap_sAsg, ap_sIf, ap_vIf, ap_oIf, ap_sRet, ap_sExp, ap_sNx, ap_sFor, ap_sPar, ap_mOp, ap_rV, ap_frz, ap_rO, ap_oV, ap_aV, ap_aO, ap_vCon, ap_vTup, ap_oLst, ap_mBo, ap_mTru, ap_bNot, ap_bAnd, ap_bOr, ap_vAnd, ap_vOr, ap_vNot, ap_vIsi, ap_vIsi2, ap_evR0, ap_evR1, ap_evA0, ap_evA1, ap_evO0, ap_evO1, ap_oApp, ap_sSetIx, ap_mCall, ap_iVal, ap_iOp, ap_iPr, ap_oLc, ap_oLc2, ap_pNo, ap_pSome, ap_oSl, ap_rB, ap_vVar, ap_oMove, ap_aR, ap_gNm, ap_gTp, ap_gAll0, ap_gAll1, look_d, look_s, ap_looks0, ap_looks1, ap_conts0, ap_conts1, alook_d, alook_o, alook_r, own0, own_d, own_o, own_r, ifF, seqF, asgG, asgF, retF, expF, ret1, opH, opG, opF, tupG, tupF, lstG, lstF, boF, truH, truG, truF, andF, orF, vandG, vandF, vorG, vorF, notG, notH, notF, isG, isF, isTy2, isF2, evRG, evRF, evAG, evAF, evOG, evOF, chG, chAt, appF, gate, setL, setF3, setF2, setF1, callI, callH, callG, callF, itG, iopG, iopF, iprF, ivF, slI, slH, slG, slF, psF, parG, runG, runF, gaF, lkG, cnG, dsOf, outsOf, setAll, truthD, O.toD, O.isVal, dropRefs, setRefs, ownL, isTy, wS, v_gt, v_lt, v_le, v_ge, v_eq, v_ne, v_eqB, v_neB, v_add, v_sub, v_int, v_intB, v_abs, v_lenL, v_lenT, v_tupL, v_tupT, v_listL, v_ixL, v_ixT, v_setL, v_isN, PyData.isList, PyData.isTuple, v_eqN, v_eqS, PyData.isBool, PyData.isStr, PyData.isInt, isNone, tYs, ap_oOr, oorG, oorF, hm]
theorem law_ok {c : Nat → FD} (hbx : BoxOk (c 5)) (hce : CellsOk (c 7)) (hri : RightOk (c 16)) (ns : List Int) (hl : ns.length ≤ 63) : ∃ outs, runDef 5 1 (m17 c) [.val (.list (ns.map PyData.int))] = some (.val (.bool true), outs) := by
  obtain ⟨cs, c1, c2, hc'⟩ := hce ns hl
  have g1 : gRng [.int 1] = some [.int 0] := (gRng1 (j := 1) (by decide) (by decide)).trans rfl
  obtain ⟨s', e1, ⟨y2, y3, es⟩, _⟩ := forGo_inv (g := gNm 2) (b := sSeq (sAsg (gNm 3) (mCall (c 5) [aR 1, aR 2])) (sIf (bNot (mTru (rO (mOp gAll [rO (oLc [4] (iOp gRng [rV (vCon (.int 1))]) (gNm 4) (tYs) (frz (mCall (c 16) [aR 3])))])))) (sRet (oV (vCon (.bool false)))) (sNx)))
    (fun ds s => (∃ y2 y3, s = [some (.val (.list (ns.map PyData.int))), some (.lst (cs.map PyData.int)), y2, y3, none]) ∧ ∀ d ∈ ds, ∃ k : Nat, k < cs.length ∧ d = .int k) (fun d ds s ⟨⟨y2, y3, es⟩, hd⟩ => by
      subst es
      obtain ⟨k, hk, rfl⟩ := hd d List.mem_cons_self
      obtain ⟨u, hu, hb'⟩ := hbx cs k hk (by omega)
      obtain ⟨u', hu', hr⟩ := hri 0 u (hu.le (by decide))
      have ha : gAll [.list [.bool true]] = some (.val (.bool true)) := rfl
      obtain ⟨_, _, _, rfl, _, _⟩ := hu
      obtain ⟨x1, x2, x3, rfl, _, _⟩ := hu'
      have cg : ∀ {z1 z2 z3 : Option O} {w1 w2 w3 : Int}, c 16 [.lst [.int w1, .int w2, .int w3]] = some (.val (.bool true), [.lst [.int x1, .int x2, .int x3]]) → lcG (compGo [4] (gNm 4) tYs (frz (mCall (c 16) [aR 3])) [.int 0] [z1, z2, z3, some (.lst [.int w1, .int w2, .int w3]), none]) = some (.lst [.bool true], [z1, z2, z3, some (.lst [.int x1, .int x2, .int x3]), none]) := fun {z1 z2 z3 w1 w2 w3} hr => by
        have q : compGo [4] (gNm 4) tYs (frz (mCall (c 16) [aR 3])) [.int 0] [z1, z2, z3, some (.lst [.int w1, .int w2, .int w3]), none] = some ([.bool true], [z1, z2, z3, some (.lst [.int x1, .int x2, .int x3]), none]) := by simp [bK_some, ap_runDef, ap_sSeq, ap_sAsg, ap_sIf, ap_vIf, ap_oIf, ap_sRet, ap_sExp, ap_sNx, ap_sFor, ap_sPar, ap_mOp, ap_rV, ap_frz, ap_rO, ap_oV, ap_aV, ap_aO, ap_vCon, ap_vTup, ap_oLst, ap_mBo, ap_mTru, ap_bNot, ap_bAnd, ap_bOr, ap_vAnd, ap_vOr, ap_vNot, ap_vIsi, ap_vIsi2, ap_evR0, ap_evR1, ap_evA0, ap_evA1, ap_evO0, ap_evO1, ap_oApp, ap_sSetIx, ap_mCall, ap_iVal, ap_iOp, ap_iPr, ap_oLc, ap_oLc2, ap_pNo, ap_pSome, ap_oSl, ap_rB, ap_vVar, ap_oMove, ap_aR, ap_gNm, ap_gTp, ap_gAll0, ap_gAll1, look_d, look_s, ap_looks0, ap_looks1, ap_conts0, ap_conts1, alook_d, alook_o, alook_r, own0, own_d, own_o, own_r, ifF, seqF, asgG, asgF, retF, expF, ret1, opH, opG, opF, tupG, tupF, lstG, lstF, boF, truH, truG, truF, andF, orF, vandG, vandF, vorG, vorF, notG, notH, notF, isG, isF, isTy2, isF2, evRG, evRF, evAG, evAF, evOG, evOF, chG, chAt, appF, gate, setL, setF3, setF2, setF1, callI, callH, callG, callF, itG, iopG, iopF, iprF, ivF, slI, slH, slG, slF, psF, parG, runG, runF, gaF, lkG, cnG, dsOf, outsOf, setAll, truthD, O.toD, O.isVal, dropRefs, setRefs, ownL, isTy, wS, v_gt, v_lt, v_le, v_ge, v_eq, v_ne, v_eqB, v_neB, v_add, v_sub, v_int, v_intB, v_abs, v_lenL, v_lenT, v_tupL, v_tupT, v_listL, v_ixL, v_ixT, v_setL, v_isN, PyData.isList, PyData.isTuple, v_eqN, v_eqS, PyData.isBool, PyData.isStr, PyData.isInt, isNone, tYs, ap_oOr, oorG, oorF, compGo, hr]
        rw [q]
        exact if_pos (e := (none : Option (O × S))) (line_of (n := 1) (by decide))
      refine ⟨[some (.val (.list (ns.map PyData.int))), some (.lst (cs.map PyData.int)), some (.val (.int k)), y3, none], [some (.val (.list (ns.map PyData.int))), some (.lst (cs.map PyData.int)), some (.val (.int k)), some (.lst [.int x1, .int x2, .int x3]), none], rfl, ?_, ⟨_, _, rfl⟩, fun x hx => hd x (List.mem_cons_of_mem _ hx)⟩
      simp [bK_some, ap_runDef, ap_sSeq, ap_sAsg, ap_sIf, ap_vIf, ap_oIf, ap_sRet, ap_sExp, ap_sNx, ap_sFor, ap_sPar, ap_mOp, ap_rV, ap_frz, ap_rO, ap_oV, ap_aV, ap_aO, ap_vCon, ap_vTup, ap_oLst, ap_mBo, ap_mTru, ap_bNot, ap_bAnd, ap_bOr, ap_vAnd, ap_vOr, ap_vNot, ap_vIsi, ap_vIsi2, ap_evR0, ap_evR1, ap_evA0, ap_evA1, ap_evO0, ap_evO1, ap_oApp, ap_sSetIx, ap_mCall, ap_iVal, ap_iOp, ap_iPr, ap_oLc, ap_oLc2, ap_pNo, ap_pSome, ap_oSl, ap_rB, ap_vVar, ap_oMove, ap_aR, ap_gNm, ap_gTp, ap_gAll0, ap_gAll1, look_d, look_s, ap_looks0, ap_looks1, ap_conts0, ap_conts1, alook_d, alook_o, alook_r, own0, own_d, own_o, own_r, ifF, seqF, asgG, asgF, retF, expF, ret1, opH, opG, opF, tupG, tupF, lstG, lstF, boF, truH, truG, truF, andF, orF, vandG, vandF, vorG, vorF, notG, notH, notF, isG, isF, isTy2, isF2, evRG, evRF, evAG, evAF, evOG, evOF, chG, chAt, appF, gate, setL, setF3, setF2, setF1, callI, callH, callG, callF, itG, iopG, iopF, iprF, ivF, slI, slH, slG, slF, psF, parG, runG, runF, gaF, lkG, cnG, dsOf, outsOf, setAll, truthD, O.toD, O.isVal, dropRefs, setRefs, ownL, isTy, wS, v_gt, v_lt, v_le, v_ge, v_eq, v_ne, v_eqB, v_neB, v_add, v_sub, v_int, v_intB, v_abs, v_lenL, v_lenT, v_tupL, v_tupT, v_listL, v_ixL, v_ixT, v_setL, v_isN, PyData.isList, PyData.isTuple, v_eqN, v_eqS, PyData.isBool, PyData.isStr, PyData.isInt, isNone, tYs, ap_oOr, oorG, oorF, hb', g1, lcF, cg hr, ha]) (rng 0 cs.length) [some (.val (.list (ns.map PyData.int))), some (.lst (cs.map PyData.int)), none, none, none] ⟨⟨_, _, rfl⟩, fun d hd => by
      unfold rng at hd
      obtain ⟨k, hk, rfl⟩ := List.mem_map.mp hd
      exact ⟨k, List.mem_range.mp hk, by rw [Int.zero_add]⟩⟩
  have g2 : gRng [.int (cs.length : Int)] = some (rng 0 cs.length) := by rw [gRng1 (by omega) (by omega), Int.toNat_natCast]
  subst es
  obtain ⟨j, hj⟩ : ∃ j : Int, (cs.length : Int) = j := ⟨_, rfl⟩
  have hln : gLen [.list (cs.map PyData.int)] = some (.val (.int j)) := by rw [v_lenL, List.length_map, hj]
  rw [hj] at g2
  exact ⟨[.val (.list (ns.map PyData.int))], xC (xM hc' hln g2 e1)⟩
theorem pure_law (ns : List Int) (hl : ns.length ≤ 63) : ∃ outs, C 20 17 [.val (.list (ns.map PyData.int))] = some (.val (.bool true), outs) := by
  rw [e_17 19]
  refine law_ok (c := C 19) ?_ ?_ right_ok ns hl
  · rw [e_5 18]
    exact box_ok
  · rw [e_7 18]
    exact cells_ok
end Dv.G
open PySem PySem.W PyProof.Rows
set_option maxHeartbeats 0 in
theorem PySem.Challenge.cw_deputies_k02_who_holds_and_who_is_away_holds : PySem.Challenge.rw_deputies_k02_who_holds_and_who_is_away.Holds := by
  w_on; o_law; k_head; (case hw => w_witness2)
  k_fill
  refine Dv.walk_ofX (l := PySem.Challenge.rw_deputies_k02_who_holds_and_who_is_away) (n := 63) (k := 20) (x := "_law_script") (sp := fun w => Dv.spOf _ (Dv.G.C 20 17)) rfl (by decide) rfl ⟨rfl, by decide, by decide⟩ (fun w h Y => PySem.W.kIn_of Y) ?F (fun _ _ a ns hl hb hS => Dv.sp_law hS (Dv.G.pure_law ns hl))
  case F =>
    intro w mg fa h KX G hmg
    refine' Dv.G.all_mk KX G hmg ?a0 ?l0 ?c0 ?k0 ?a1 ?l1 ?c1 ?k1 ?a2 ?l2 ?c2 ?k2 ?a3 ?l3 ?c3 ?k3 ?a4 ?l4 ?c4 ?k4 ?a5 ?l5 ?c5 ?k5 ?a6 ?l6 ?c6 ?k6 ?a7 ?l7 ?c7 ?k7 ?a8 ?l8 ?c8 ?k8 ?a9 ?l9 ?c9 ?k9 ?a10 ?l10 ?c10 ?k10 ?a11 ?l11 ?c11 ?k11 ?a12 ?l12 ?c12 ?k12 ?a13 ?l13 ?c13 ?k13 ?a14 ?l14 ?c14 ?k14 ?a15 ?l15 ?c15 ?k15 ?a16 ?l16 ?c16 ?k16 ?a17 ?l17 ?c17 ?k17 ?z_abs ?z_all ?z_bool ?z_enumerate ?z_int ?z_isinstance ?z_len ?z_list ?z_range ?z_set ?z_sorted ?z_str ?z_tuple ?z_zip
    (case a0 => k_is); (case l0 => k_is); (case c0 => k_is); (case k0 => k_is); (case a1 => k_is); (case l1 => k_is); (case c1 => k_is); (case k1 => k_is); (case a2 => k_is); (case l2 => k_is); (case c2 => k_is); (case k2 => k_is); (case a3 => k_is); (case l3 => k_is); (case c3 => k_is); (case k3 => k_is); (case a4 => k_is); (case l4 => k_is); (case c4 => k_is); (case k4 => k_is); (case a5 => k_is); (case l5 => k_is); (case c5 => k_is); (case k5 => k_is); (case a6 => k_is); (case l6 => k_is); (case c6 => k_is); (case k6 => k_is); (case a7 => k_is); (case l7 => k_is); (case c7 => k_is); (case k7 => k_is); (case a8 => k_is); (case l8 => k_is); (case c8 => k_is); (case k8 => k_is); (case a9 => k_is); (case l9 => k_is); (case c9 => k_is); (case k9 => k_is); (case a10 => k_is); (case l10 => k_is); (case c10 => k_is); (case k10 => k_is); (case a11 => k_is); (case l11 => k_is); (case c11 => k_is); (case k11 => k_is); (case a12 => k_is); (case l12 => k_is); (case c12 => k_is); (case k12 => k_is); (case a13 => k_is); (case l13 => k_is); (case c13 => k_is); (case k13 => k_is); (case a14 => k_is); (case l14 => k_is); (case c14 => k_is); (case k14 => k_is); (case a15 => k_is); (case l15 => k_is); (case c15 => k_is); (case k15 => k_is); (case a16 => k_is); (case l16 => k_is); (case c16 => k_is); (case k16 => k_is); (case a17 => k_is); (case l17 => k_is); (case c17 => k_is); (case k17 => k_is); (case z_abs => k_is); (case z_all => k_is); (case z_bool => k_is); (case z_enumerate => k_is); (case z_int => k_is); (case z_isinstance => k_is); (case z_len => k_is); (case z_list => k_is); (case z_range => k_is); (case z_set => k_is); (case z_sorted => k_is); (case z_str => k_is); (case z_tuple => k_is); (case z_zip => k_is)
