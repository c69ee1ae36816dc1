import PyProof.Rows.All
import Wide.All
import OpenK.AllK
import Wide.FinOn
import HandS.ForMost
import HandS.Wide
import HandS.Star
import HandS.Walk
import HandS.IsInst
import HandS.Zip
import HandS.TupAny
import HandS.TupMul
import HandS.Conv
import HandS.Flow
import KE.GoesNew
import KE.KDictZip
import HandS.Defaults
import HandS.Head0
import HandS.Head1
import HandS.Head2
import HandS.HeadEnd
import HandS.HeadHook1
import HandS.HeadHook2
import HandS.HeadHook3
import HandS.HeadHook4
import PySem.Challenge.RW_spendtold_k56_potentials_of_what_is_put
set_option Elab.async false
set_option linter.all false
set_option maxRecDepth 100000
/-! MiniPy 1: plain data, what it is in the heap, a memory of lists that change. -/
namespace MP
open PySem PySem.Spec PyProof.Rows L2

/-- plain data; ref: a list that changes, by its place in the memory -/
inductive D where
  | non | bl (b : Bool) | int (i : Int) | str (x : Str)
  | tup (ds : List D) | lst (ds : List D) | fz (ds : List D) | ref (n : Nat)

mutual
inductive Den (K : PySem.W.Frag) (ρ : List Addr) (H : Hp) : D → V → Prop
  | non : Den K ρ H .non .non
  | bl (b : Bool) : Den K ρ H (.bl b) (.bl b)
  | int (i : Int) : Den K ρ H (.int i) (.int i)
  | str (x : Str) : Den K ρ H (.str x) (.str x)
  | tup {a : Addr} {vs : List V} {ds : List D} : SqT K H a vs → DenAll K ρ H ds vs → Den K ρ H (.tup ds) (.ref a)
  | lst {a : Addr} {vs : List V} {ds : List D} : H a = some (.lst vs) → DenAll K ρ H ds vs → Den K ρ H (.lst ds) (.ref a)
  | fz {a : Addr} {vs : List V} {ds : List D} : SqL K H a vs → DenAll K ρ H ds vs → Den K ρ H (.fz ds) (.ref a)
  | ref {n : Nat} {a : Addr} : ρ[n]? = some a → Den K ρ H (.ref n) (.ref a)
inductive DenAll (K : PySem.W.Frag) (ρ : List Addr) (H : Hp) : List D → List V → Prop
  | nil : DenAll K ρ H [] []
  | cons {d : D} {v : V} {ds : List D} {vs : List V} : Den K ρ H d v → DenAll K ρ H ds vs → DenAll K ρ H (d :: ds) (v :: vs)
end

theorem same_seqT {K : PySem.W.Frag} {H H' : Hp} {a : Addr} {xs : List V} (e : Same H H') (h : SqT K H a xs) : SqT K H' a xs := by
  rcases h with (h | ⟨o, h⟩) | h
  · exact .inl (.inl (e _ _ h))
  · exact .inl (.inr ⟨o, e _ _ h⟩)
  · exact .inr h

def Pre (ρ ρ' : List Addr) : Prop := ∃ r, ρ' = ρ ++ r
theorem Pre.refl (ρ : List Addr) : Pre ρ ρ := ⟨[], by simp⟩
theorem Pre.trans {a b c : List Addr} (h : Pre a b) (k : Pre b c) : Pre a c := by
  obtain ⟨r, rfl⟩ := h
  obtain ⟨t, rfl⟩ := k
  exact ⟨r ++ t, by simp⟩
theorem Pre.get {ρ ρ' : List Addr} (h : Pre ρ ρ') {n : Nat} {a : Addr} (e : ρ[n]? = some a) : ρ'[n]? = some a := by
  obtain ⟨r, rfl⟩ := h
  have hl : n < ρ.length := (List.getElem?_eq_some_iff.mp e).1
  rw [List.getElem?_append_left hl]
  exact e
theorem Pre.mem {ρ ρ' : List Addr} (h : Pre ρ ρ') {a : Addr} (e : a ∈ ρ) : a ∈ ρ' := by
  obtain ⟨r, rfl⟩ := h
  exact List.mem_append_left _ e

section
variable {K : PySem.W.Frag} {ρ ρ' : List Addr} {H H' : Hp}
mutual
theorem Den.mono (p : Pre ρ ρ') (e : Same H H') : ∀ {d : D} {v : V}, Den K ρ H d v → Den K ρ' H' d v
  | _, _, .non => .non
  | _, _, .bl b => .bl b
  | _, _, .int i => .int i
  | _, _, .str x => .str x
  | _, _, .tup h t => .tup (same_seqT e h) (DenAll.mono p e t)
  | _, _, .lst h t => .lst (e _ _ h) (DenAll.mono p e t)
  | _, _, .fz h t => .fz (e.seq h) (DenAll.mono p e t)
  | _, _, .ref h => .ref (p.get h)
theorem DenAll.mono (p : Pre ρ ρ') (e : Same H H') : ∀ {ds : List D} {vs : List V}, DenAll K ρ H ds vs → DenAll K ρ' H' ds vs
  | _, _, .nil => .nil
  | _, _, .cons h t => .cons (Den.mono p e h) (DenAll.mono p e t)
end
theorem DenAll.length : ∀ {ds : List D} {vs : List V}, DenAll K ρ H ds vs → ds.length = vs.length
  | _, _, .nil => rfl
  | _, _, .cons _ t => by rw [List.length_cons, List.length_cons, DenAll.length t]
theorem DenAll.get : ∀ {ds : List D} {vs : List V}, DenAll K ρ H ds vs → ∀ {i : Nat} {d : D}, ds[i]? = some d → ∃ v, vs[i]? = some v ∧ Den K ρ H d v
  | _, _, .nil, i, d, e => by simp at e
  | _, _, .cons h t, 0, d, e => by
    simp at e
    subst e
    exact ⟨_, rfl, h⟩
  | _, _, .cons h t, i + 1, d, e => by
    obtain ⟨v, e1, e2⟩ := DenAll.get t (i := i) (by simpa using e)
    exact ⟨v, by simpa using e1, e2⟩
theorem DenAll.append : ∀ {ds es : List D} {vs ws : List V}, DenAll K ρ H ds vs → DenAll K ρ H es ws → DenAll K ρ H (ds ++ es) (vs ++ ws)
  | _, _, _, _, .nil, s => s
  | _, _, _, _, .cons h t, s => .cons h (DenAll.append t s)
theorem DenAll.take (n : Nat) : ∀ {ds : List D} {vs : List V}, DenAll K ρ H ds vs → DenAll K ρ H (ds.take n) (vs.take n) := by
  induction n with
  | zero => intro _ _ _; exact .nil
  | succ n ih =>
    intro ds vs h
    cases h with
    | nil => exact .nil
    | cons h t => exact .cons h (ih t)
theorem DenAll.drop (n : Nat) : ∀ {ds : List D} {vs : List V}, DenAll K ρ H ds vs → DenAll K ρ H (ds.drop n) (vs.drop n) := by
  induction n with
  | zero => intro _ _ h; exact h
  | succ n ih =>
    intro ds vs h
    cases h with
    | nil => exact .nil
    | cons h t => exact ih t
theorem DenAll.set : ∀ {ds : List D} {vs : List V}, DenAll K ρ H ds vs → ∀ (i : Nat) {d : D} {v : V}, Den K ρ H d v → DenAll K ρ H (ds.set i d) (vs.set i v)
  | _, _, .nil, _, _, _, _ => .nil
  | _, _, .cons _ t, 0, _, _, k => .cons k t
  | _, _, .cons h t, i + 1, _, _, k => .cons h (DenAll.set t i k)
theorem DenAll.dropLast : ∀ {ds : List D} {vs : List V}, DenAll K ρ H ds vs → DenAll K ρ H ds.dropLast vs.dropLast
  | _, _, .nil => .nil
  | _, _, .cons h .nil => .nil
  | _, _, .cons h (.cons k t) => .cons h (DenAll.dropLast (.cons k t))
theorem DenAll.rep {ds : List D} {vs : List V} (h : DenAll K ρ H ds vs) : ∀ n : Nat, DenAll K ρ H (List.replicate n ds).flatten (List.replicate n vs).flatten
  | 0 => .nil
  | n + 1 => by
    rw [List.replicate_succ, List.replicate_succ, List.flatten_cons, List.flatten_cons]
    exact h.append (DenAll.rep h n)
theorem DenAll.getR : ∀ {ds : List D} {vs : List V}, DenAll K ρ H ds vs → ∀ {i : Nat} {v : V}, vs[i]? = some v → ∃ d, ds[i]? = some d ∧ Den K ρ H d v
  | _, _, .nil, i, d, e => by simp at e
  | _, _, .cons h t, 0, d, e => by
    simp at e
    subst e
    exact ⟨_, rfl, h⟩
  | _, _, .cons h t, i + 1, d, e => by
    obtain ⟨v, e1, e2⟩ := DenAll.getR t (i := i) (by simpa using e)
    exact ⟨v, by simpa using e1, e2⟩
end

/-! no reference within -/
mutual
def D.noRef : D → Bool
  | .non => true | .bl _ => true | .int _ => true | .str _ => true
  | .tup ds => D.noRefs ds | .lst ds => D.noRefs ds | .fz ds => D.noRefs ds
  | .ref _ => false
def D.noRefs : List D → Bool
  | [] => true
  | d :: ds => D.noRef d && D.noRefs ds
end
/-! no reference and no list within -/
mutual
def D.flat : D → Bool
  | .non => true | .bl _ => true | .int _ => true | .str _ => true
  | .tup ds => D.flats ds | .lst _ => false | .fz _ => false
  | .ref _ => false
def D.flats : List D → Bool
  | [] => true
  | d :: ds => D.flat d && D.flats ds
end

section
variable {K : PySem.W.Frag} {ρ ρ' : List Addr} {H H' : Hp}
mutual
/-- without references the memory does not matter -/
theorem Den.any (e : Same H H') : ∀ {d : D} {v : V}, d.noRef = true → Den K ρ H d v → Den K ρ' H' d v
  | _, _, _, .non => .non
  | _, _, _, .bl b => .bl b
  | _, _, _, .int i => .int i
  | _, _, _, .str x => .str x
  | _, _, n, .tup h t => .tup (same_seqT e h) (DenAll.any e (by simpa [D.noRef] using n) t)
  | _, _, n, .lst h t => .lst (e _ _ h) (DenAll.any e (by simpa [D.noRef] using n) t)
  | _, _, n, .fz h t => .fz (e.seq h) (DenAll.any e (by simpa [D.noRef] using n) t)
  | _, _, n, .ref h => by simp [D.noRef] at n
theorem DenAll.any (e : Same H H') : ∀ {ds : List D} {vs : List V}, D.noRefs ds = true → DenAll K ρ H ds vs → DenAll K ρ' H' ds vs
  | _, _, _, .nil => .nil
  | _, _, n, .cons h t => by
    rw [D.noRefs, Bool.and_eq_true] at n
    exact .cons (Den.any e n.1 h) (DenAll.any e n.2 t)
end
mutual
/-- flat data leans on tuples alone -/
theorem Den.onT (e : ∀ a xs, SqT K H a xs → SqT K H' a xs) : ∀ {d : D} {v : V}, d.flat = true → Den K ρ H d v → Den K ρ' H' d v
  | _, _, _, .non => .non
  | _, _, _, .bl b => .bl b
  | _, _, _, .int i => .int i
  | _, _, _, .str x => .str x
  | _, _, n, .tup h t => .tup (e _ _ h) (DenAll.onT e (by simpa [D.flat] using n) t)
  | _, _, n, .lst h t => by simp [D.flat] at n
  | _, _, n, .fz h t => by simp [D.flat] at n
  | _, _, n, .ref h => by simp [D.flat] at n
theorem DenAll.onT (e : ∀ a xs, SqT K H a xs → SqT K H' a xs) : ∀ {ds : List D} {vs : List V}, D.flats ds = true → DenAll K ρ H ds vs → DenAll K ρ' H' ds vs
  | _, _, _, .nil => .nil
  | _, _, n, .cons h t => by
    rw [D.flats, Bool.and_eq_true] at n
    exact .cons (Den.onT e n.1 h) (DenAll.onT e n.2 t)
end
end

/-! ### the memory -/
inductive Cell where
  | lst (ds : List D)
abbrev Mem := List Cell
def CellDen (K : PySem.W.Frag) (ρ : List Addr) (Hf : Hp) : Cell → Option HO → Prop
  | .lst ds, o => ∃ vs, o = some (.lst vs) ∧ DenAll K ρ Hf ds vs
theorem CellDen.mono {K : PySem.W.Frag} {ρ ρ' : List Addr} {H H' : Hp} (p : Pre ρ ρ') (e : Same H H') {c : Cell} {o : Option HO} (h : CellDen K ρ H c o) : CellDen K ρ' H' c o := by
  cases c with
  | lst ds =>
    obtain ⟨vs, h1, h2⟩ := h
    exact ⟨vs, h1, h2.mono p e⟩

/-- the world: ρ where the memory's cells stand, Hf what stays as it is, Fx what others hold (kept, not read), H the heap -/
structure Wd (K : PySem.W.Frag) (ρ : List Addr) (Hf Fx : Hp) (m : Mem) (H : Hp) : Prop where
  ex : Same Hf H
  fx : Same Fx H
  dj : ∀ a o, Fx a = some o → Hf a = none ∧ a ∉ ρ
  nd : ρ.Nodup
  fr : ∀ a ∈ ρ, Hf a = none
  len : ρ.length = m.length
  cell : ∀ (n : Nat) (a : Addr) (c : Cell), ρ[n]? = some a → m[n]? = some c → CellDen K ρ Hf c (H a)

/-- how a world grows -/
structure Gr (ρ : List Addr) (Hf : Hp) (ρ' : List Addr) (Hf' : Hp) : Prop where
  pre : Pre ρ ρ'
  ex : Same Hf Hf'
theorem Gr.refl (ρ : List Addr) (Hf : Hp) : Gr ρ Hf ρ Hf := ⟨Pre.refl ρ, Same.refl Hf⟩
theorem Gr.trans {a b c : List Addr} {H1 H2 H3 : Hp} (h : Gr a H1 b H2) (k : Gr b H2 c H3) : Gr a H1 c H3 := ⟨h.pre.trans k.pre, h.ex.trans k.ex⟩

section
variable {K : PySem.W.Frag} {ρ ρ' : List Addr} {Hf Hf' Fx H H' : Hp} {m : Mem}
theorem Wd.live (w : Wd K ρ Hf Fx m H) {a : Addr} (h : a ∈ ρ) : ∃ xs, H a = some (.lst xs) := by
  obtain ⟨n, hn, e⟩ := List.getElem_of_mem h
  have h1 : ρ[n]? = Option.some a := by rw [List.getElem?_eq_getElem hn, e]
  have h2 : n < m.length := by rw [← w.len]; exact hn
  have c := w.cell n a m[n] h1 (List.getElem?_eq_getElem h2)
  cases hc : m[n] with
  | lst ds =>
    rw [hc] at c
    obtain ⟨vs, e, _⟩ := c
    exact ⟨vs, e⟩
theorem Wd.fresh (w : Wd K ρ Hf Fx m H) {p : Addr} (h : H p = none) : Hf p = none ∧ Fx p = none ∧ p ∉ ρ := by
  refine ⟨w.ex.free h, w.fx.free h, fun z => ?_⟩
  obtain ⟨xs, e⟩ := w.live z
  rw [h] at e
  cases e
theorem same_upd {H : Hp} {p : Addr} {o : HO} (h : H p = none) : Same H (upd H p o) := fun b x e => by
  rw [upd_ne (ne_of_none e h)]
  exact e
theorem same_upd2 {H H' : Hp} {p : Addr} {o : HO} (e : Same H H') : Same (upd H p o) (upd H' p o) := fun b x h => by
  unfold upd at h ⊢
  split at h
  · rename_i hb
    rw [if_pos hb]
    exact h
  · rename_i hb
    rw [if_neg hb]
    exact e b x h
/-- a new thing that stays -/
theorem Wd.laid (w : Wd K ρ Hf Fx m H) {p : Addr} {o : HO} (h : H p = none) : Wd K ρ (upd Hf p o) Fx m (upd H p o) ∧ Gr ρ Hf ρ (upd Hf p o) := by
  obtain ⟨h1, h2, h3⟩ := w.fresh h
  refine ⟨⟨same_upd2 w.ex, w.fx.trans (same_upd h), fun a u e => ?_, w.nd, fun a ha => ?_, w.len, fun n a c e1 e2 => ?_⟩, Pre.refl ρ, same_upd h1⟩
  · have hne : a ≠ p := fun z => by
      rw [z, h2] at e
      cases e
    rw [upd_ne hne]
    exact w.dj a u e
  · have hne : a ≠ p := fun z => h3 (z ▸ ha)
    rw [upd_ne hne]
    exact w.fr a ha
  · have hne : a ≠ p := fun z => h3 (z ▸ List.mem_of_getElem? e1)
    rw [upd_ne hne]
    exact (w.cell n a c e1 e2).mono (Pre.refl ρ) (same_upd h1)
/-- a new cell of the memory -/
theorem Wd.alloc (w : Wd K ρ Hf Fx m H) {p : Addr} {ds : List D} {vs : List V} (h : H p = none) (t : DenAll K ρ Hf ds vs) : Wd K (ρ ++ [p]) Hf Fx (m ++ [.lst ds]) (upd H p (.lst vs)) ∧ Gr ρ Hf (ρ ++ [p]) Hf := by
  obtain ⟨h1, h2, h3⟩ := w.fresh h
  have pr : Pre ρ (ρ ++ [p]) := ⟨[p], rfl⟩
  refine ⟨⟨w.ex.trans (same_upd h), w.fx.trans (same_upd h), fun a u e => ?_, ?_, fun a ha => ?_, ?_, fun n a c e1 e2 => ?_⟩, pr, Same.refl Hf⟩
  · refine ⟨(w.dj a u e).1, fun z => ?_⟩
    rcases List.mem_append.mp z with z | z
    · exact (w.dj a u e).2 z
    · have : a = p := by simpa using z
      rw [this, h2] at e
      cases e
  · exact List.nodup_append.mpr ⟨w.nd, by simp, fun a ha b hb => by
      have : b = p := by simpa using hb
      rw [this]
      exact fun z => h3 (z ▸ ha)⟩
  · rcases List.mem_append.mp ha with z | z
    · exact w.fr a z
    · have : a = p := by simpa using z
      rw [this]
      exact h1
  · rw [List.length_append, List.length_append, w.len]; rfl
  · by_cases hn : n < ρ.length
    · rw [List.getElem?_append_left hn] at e1
      rw [List.getElem?_append_left (by rw [← w.len]; exact hn)] at e2
      have hne : a ≠ p := fun z => h3 (z ▸ List.mem_of_getElem? e1)
      rw [upd_ne hne]
      exact (w.cell n a c e1 e2).mono pr (Same.refl Hf)
    · have hl : n < (ρ ++ [p]).length := (List.getElem?_eq_some_iff.mp e1).1
      have hn' : n = ρ.length := by
        rw [List.length_append] at hl
        simp at hl
        omega
      subst hn'
      rw [List.getElem?_append_right (Nat.le_refl _)] at e1
      rw [w.len, List.getElem?_append_right (Nat.le_refl _)] at e2
      simp at e1 e2
      subst e1 e2
      exact ⟨vs, upd_same, t.mono pr (Same.refl Hf)⟩
/-- a cell written -/
theorem Wd.store (w : Wd K ρ Hf Fx m H) {n : Nat} {p : Addr} {ds : List D} {vs : List V} (hp : ρ[n]? = Option.some p) (t : DenAll K ρ Hf ds vs) : Wd K ρ Hf Fx (m.set n (.lst ds)) (upd H p (.lst vs)) := by
  have hm : p ∈ ρ := List.mem_of_getElem? hp
  have hf := w.fr p hm
  refine ⟨fun a u e => ?_, fun a u e => ?_, w.dj, w.nd, w.fr, by rw [List.length_set, w.len], fun k a c e1 e2 => ?_⟩
  · have hne : a ≠ p := fun z => by
      rw [z, hf] at e
      cases e
    rw [upd_ne hne]
    exact w.ex a u e
  · have hne : a ≠ p := fun z => (w.dj a u e).2 (z ▸ hm)
    rw [upd_ne hne]
    exact w.fx a u e
  · by_cases hk : k = n
    · subst hk
      have ha : a = p := Option.some.inj (e1.symm.trans hp)
      subst ha
      have hl : k < m.length := by rw [← w.len]; exact (List.getElem?_eq_some_iff.mp e1).1
      rw [List.getElem?_set_self hl] at e2
      cases e2
      exact ⟨vs, upd_same, t⟩
    · rw [List.getElem?_set_ne (Ne.symm hk)] at e2
      have hne : a ≠ p := fun z => hk (by
        subst z
        exact nd_ix w.nd e1 hp)
      rw [upd_ne hne]
      exact w.cell k a c e1 e2
theorem Wd.at (w : Wd K ρ Hf Fx m H) {n : Nat} {a : Addr} {ds : List D} (hp : ρ[n]? = Option.some a) (hm : m[n]? = Option.some (.lst ds)) : ∃ vs, H a = Option.some (.lst vs) ∧ DenAll K ρ Hf ds vs := w.cell n a _ hp hm
end
end MP
set_option Elab.async false
set_option linter.all false
set_option maxRecDepth 100000
/-! MiniPy 2: the terms and what they evaluate to. -/
namespace MP
open PySem PySem.Spec PyProof.Rows L2

inductive BOp where
  | add | sub | mul | fdiv | mod
inductive COp where
  | eq | ne | lt | le | gt | ge | isIn | notIn | isN | notN
inductive Ty where
  | non | bool | int | str | tup | lst
  deriving DecidableEq
inductive Blt where
  | len | abs | int | sum | max2 | min2 | any | all | list | tuple
inductive Pat where
  | name (i : Nat) | tup (p : Pat) | nil | cons (p r : Pat)

inductive E where
  | nil | cons (a r : E) | star (a r : E)
  | lit (d : D) | var (i : Nat)
  | bin (op : BOp) (a b : E) | neg (a : E)
  | cmp (op : COp) (a b : E) | chain (op1 op2 : COp) (a b c : E)
  | and (a b : E) | or (a b : E) | not (a : E) | ife (c a b : E)
  | tup (es : E) | lst (es : E) | lstH (es : E)
  | idx (a i : E) | slc (a : E) (fl fh : Bool) (lo hi : E)
  | callP (f : Nat) (es : E) | callB (f : Nat) (es : E) | callK (f : Nat) (es : E)
  | blt (b : Blt) (es : E) | isi (a : E) (ts : List Ty)
  | comp (elt : E) (p : Pat) (it : E) (c : E) (own : List Nat)
  | pop (o : E)
  | seq (a : E) | rng1 (es : E) | rng2 (es : E) | zip2 (es : E) | zip3 (es : E) | enum (es : E)
  | lzip (es : E)

inductive S where
  | nil
  | expr (e : E) (k : S)
  | asg (p : Pat) (e : E) (k : S)
  | par (i j : Nat) (a b : E) (k : S)
  | aug (i : Nat) (op : BOp) (e : E) (k : S)
  | setIx (o i e : E) (k : S)
  | augIx (o i : E) (op : BOp) (e : E) (k : S)
  | app (o e : E) (k : S) | ext (o e : E) (k : S)
  | ife (c : E) (a b k : S)
  | whl (c : E) (b k : S)
  | for (p : Pat) (it : E) (b k : S)
  | ret (e : E) | retN | brk | cont

abbrev Env := List (Option D)
abbrev Calls := Nat → List D → Mem → Option (D × Mem)

/-- at most a million -/
def sz (n : Nat) : Bool := Nat.ble n 1000000
theorem sz_line {n : Nat} (h : sz n = true) : n ≤ sizeLine := Nat.le_trans (Nat.le_of_ble_eq_true h) (by decide)
theorem sz_lt {n : Nat} (h : sz n = true) : n < sizeLine := Nat.lt_of_le_of_lt (Nat.le_of_ble_eq_true h) (by decide)
theorem sz_of {n : Nat} (h : n ≤ 1000000) : sz n = true := Nat.ble_eq_true_of_le h

/-! ### scalars and comparisons -/
/-- below 2 ^ 8000 -/
def fit (i : Int) : Bool := Nat.ble (i.natAbs.log2 + 1) 8000
def D.ty : D → Ty
  | .non => .non | .bl _ => .bool | .int _ => .int | .str _ => .str | .tup _ => .tup | .lst _ => .lst | .fz _ => .lst | .ref _ => .lst
def Ty.sub : Ty → Ty → Bool
  | .bool, .int => true
  | a, b => decide (a = b)

/-- a list in the memory as it stands -/
def deref (m : Mem) : D → Option D
  | .ref n => match m[n]? with
    | some (.lst ds) => if D.noRefs ds = true then some (.lst ds) else none
    | none => none
  | d => some d

mutual
def D.py : D → PyData
  | .non => .none | .bl b => .bool b | .int i => .int i | .str x => .str x
  | .tup ds => .tuple (D.pys ds) | .lst ds => .list (D.pys ds) | .fz ds => .list (D.pys ds) | .ref _ => .none
def D.pys : List D → List PyData
  | [] => []
  | d :: ds => D.py d :: D.pys ds
end
/-- == at any depth -/
def deq (x y : D) : Bool := PyData.eqv x.py y.py
/-- a scalar -/
def D.scal : D → Bool
  | .non => true | .bl _ => true | .int _ => true | .str _ => true
  | _ => false
def D.items? : D → Option (List D)
  | .tup ds => some ds | .lst ds => some ds | .fz ds => some ds
  | _ => none
def D.bool? : D → Option Bool
  | .bl b => some b
  | _ => none

/-- sizes of what is compared -/
def eqOk (x y : D) : Bool := x.noRef && y.noRef && x.py.canLay0 && y.py.canLay0 && Nat.ble (min x.py.depth y.py.depth) 64

def cmpD (m : Mem) (op : COp) (x y : D) : Option Bool :=
  match op with
  | .eq => (deref m x).bind fun x => (deref m y).bind fun y => if eqOk x y = true then some (deq x y) else none
  | .ne => (deref m x).bind fun x => (deref m y).bind fun y => if eqOk x y = true then some (!deq x y) else none
  | .lt => match x, y with | .int i, .int j => some (decide (i < j)) | _, _ => none
  | .le => match x, y with | .int i, .int j => some (decide (i ≤ j)) | _, _ => none
  | .gt => match x, y with | .int i, .int j => some (decide (j < i)) | _, _ => none
  | .ge => match x, y with | .int i, .int j => some (decide (j ≤ i)) | _, _ => none
  | .isIn => y.items?.bind fun ys => if (x.scal && ys.all D.scal) = true then some (ys.any fun y => deq y x) else none
  | .notIn => y.items?.bind fun ys => if (x.scal && ys.all D.scal) = true then some (!ys.any fun y => deq y x) else none
  | .isN => match y with | .non => some (match x with | .non => true | _ => false) | _ => none
  | .notN => match y with | .non => some (match x with | .non => false | _ => true) | _ => none

def addD : D → D → Option D
  | .int i, .int j => some (.int (i + j))
  | .tup xs, .tup ys => if sz (xs.length + ys.length) = true then some (.tup (xs ++ ys)) else none
  | .lst xs, .lst ys => if sz (xs.length + ys.length) = true then some (.lst (xs ++ ys)) else none
  | _, _ => none
def mulD : D → D → Option D
  | .int i, .int j => if (fit i && fit j) = true then some (.int (i * j)) else none
  | .tup xs, .int k => if (decide (1 ≤ k) && decide (k ≤ 1000) && Nat.ble 1 xs.length && Nat.ble xs.length 1000) = true then some (.tup (List.replicate k.toNat xs).flatten) else none
  | _, _ => none
def binD : BOp → D → D → Option D
  | .add, x, y => addD x y
  | .sub, .int i, .int j => some (.int (i - j))
  | .mul, x, y => mulD x y
  | .fdiv, .int i, .int j => if (decide (0 < j) && fit j) = true then some (.int (i / j)) else none
  | .mod, .int i, .int j => if decide (0 < j) = true then some (.int (i % j)) else none
  | _, _, _ => none

def cutD (xs : List D) (lo hi : Option Int) : List D := (xs.drop (HT.sIx xs.length 0 lo)).take (HT.sIx xs.length xs.length hi - HT.sIx xs.length 0 lo)
def part : Bool → D → Option (Option Int)
  | false, _ => some none
  | true, .int i => some (some i)
  | true, _ => none
def sliceD : D → Option Int → Option Int → Option D
  | .tup ds, lo, hi => some (.tup (cutD ds lo hi))
  | .lst ds, lo, hi => some (.lst (cutD ds lo hi))
  | .fz ds, lo, hi => some (.lst (cutD ds lo hi))
  | _, _, _ => none
def ints? : List D → Option (List Int)
  | [] => some []
  | .int i :: r => (ints? r).map (i :: ·)
  | _ => none
def bools? : List D → Option (List Bool)
  | [] => some []
  | .bl i :: r => (bools? r).map (i :: ·)
  | _ => none
/-- the items of a list or tuple, one in the memory too -/
def seqOf (m : Mem) : D → Option (List D)
  | .tup ds => some ds | .lst ds => some ds | .fz ds => some ds
  | .ref n => match m[n]? with
    | some (.lst ds) => some ds
    | none => none
  | _ => none
def idxD (m : Mem) (x : D) (i : D) : Option D := match i with
  | .int i => (seqOf m x).bind fun ds => atI ds i
  | _ => none
def bltD (m : Mem) : Blt → List D → Option D
  | .len, [x] => (seqOf m x).bind fun ds => some (.int (ds.length : Int))
  | .abs, [.int i] => some (.int (if i < 0 then -i else i))
  | .int, [.int i] => some (.int i)
  | .int, [.bl b] => some (.int (if b then 1 else 0))
  | .sum, [.lst ds] => (ints? ds).map fun ns => .int ns.sum
  | .max2, [.int i, .int j] => some (.int (if j > i then j else i))
  | .min2, [.int i, .int j] => some (.int (if j < i then j else i))
  | .any, [.lst ds] => (bools? ds).map fun bs => .bl (bs.any id)
  | .all, [.lst ds] => (bools? ds).map fun bs => .bl (bs.all id)
  | .list, [x] => (seqOf m x).map fun ds => .lst ds
  | .tuple, [.tup ds] => some (.tup ds)
  | .tuple, [x] => (seqOf m x).map fun ds => .tup ds
  | _, _ => none

/-- what is behind a call that leaves the memory alone: a list of its own becomes one that stays -/
def sealD (m : Mem) : D → Option D
  | .ref n => match m[n]? with
    | some (.lst ds) => if D.noRefs ds = true then some (.lst ds) else none
    | none => none
  | d => if d.noRef = true then some d else none
def callP (G : Calls) (f : Nat) (ds : List D) : Option D :=
  if D.noRefs ds = true then (G f ds []).bind fun r => sealD r.2 r.1 else none
def derefs (m : Mem) : List D → Option (List D)
  | [] => some []
  | d :: ds => (deref m d).bind fun d => if d.noRef = true then (derefs m ds).map (d :: ·) else none
def callB (G : Calls) (m : Mem) (f : Nat) (ds : List D) : Option D :=
  (derefs m ds).bind fun ds => (G f ds []).bind fun r => if r.1.flat = true then some r.1 else none

mutual
def bindP : Pat → D → Env → Option Env
  | .name i, d, env => some (env.set i (some d))
  | .tup p, .tup ds, env => bindPs p ds env
  | _, _, _ => none
def bindPs : Pat → List D → Env → Option Env
  | .nil, [], env => some env
  | .cons p r, d :: ds, env => (bindP p d env).bind fun env => bindPs r ds env
  | _, _, _ => none
end
def wipeE (env : Env) : List Nat → Env
  | [] => env
  | v :: vs => (wipeE env vs).set v none

/-- a comprehension's turns -/
def compF (b : D → Mem → Option (Bool × Mem)) (e : D → Mem → Option (D × Mem)) : List D → Mem → Option (List D × Mem)
  | [], m => some ([], m)
  | d :: ds, m => (b d m).bind fun r => if r.1 = true then (e d r.2).bind fun x => (compF b e ds x.2).map fun y => (x.1 :: y.1, y.2) else compF b e ds r.2

def rngD (lo hi : Int) : List D := (List.range (hi - lo).toNat).map fun (i : Nat) => D.int (lo + (i : Int))
def small (i : Int) : Bool := decide (-1000000 ≤ i) && decide (i ≤ 1000000)

def ev (G : Calls) : E → Env → Mem → Option (D × Mem)
  | .nil, _, m => some (.tup [], m)
  | .cons a r, env, m => (ev G a env m).bind fun x => (ev G r env x.2).bind fun y => match y.1 with
    | .tup ds => some (.tup (x.1 :: ds), y.2)
    | _ => none
  | .star a r, env, m => (ev G a env m).bind fun x => (ev G r env x.2).bind fun y => match y.1 with
    | .tup ds => (x.1.items?).bind fun xs => some (.tup (xs ++ ds), y.2)
    | _ => none
  | .lit d, _, m => some (d, m)
  | .var i, env, m => (env.getD i none).map fun d => (d, m)
  | .bin op a b, env, m => (ev G a env m).bind fun x => (ev G b env x.2).bind fun y => (binD op x.1 y.1).map fun d => (d, y.2)
  | .neg a, env, m => (ev G a env m).bind fun x => match x.1 with
    | .int i => some (.int (-i), x.2)
    | _ => none
  | .cmp op a b, env, m => (ev G a env m).bind fun x => (ev G b env x.2).bind fun y => (cmpD y.2 op x.1 y.1).map fun c => (.bl c, y.2)
  | .chain op1 op2 a b c, env, m => (ev G a env m).bind fun x => (ev G b env x.2).bind fun y => (cmpD y.2 op1 x.1 y.1).bind fun k =>
      if k = true then (ev G c env y.2).bind fun z => (cmpD z.2 op2 y.1 z.1).map fun c => (.bl c, z.2) else some (.bl false, y.2)
  | .and a b, env, m => (ev G a env m).bind fun x => x.1.bool?.bind fun k => if k = true then (ev G b env x.2).bind fun y => y.1.bool?.map fun c => (.bl c, y.2) else some (.bl false, x.2)
  | .or a b, env, m => (ev G a env m).bind fun x => x.1.bool?.bind fun k => if k = true then some (.bl true, x.2) else (ev G b env x.2).bind fun y => y.1.bool?.map fun c => (.bl c, y.2)
  | .not a, env, m => (ev G a env m).bind fun x => x.1.bool?.map fun k => (.bl (!k), x.2)
  | .ife c a b, env, m => (ev G c env m).bind fun x => x.1.bool?.bind fun k => if k = true then ev G a env x.2 else ev G b env x.2
  | .tup es, env, m => (ev G es env m).bind fun x => match x.1 with
    | .tup ds => if sz ds.length = true then some (.tup ds, x.2) else none
    | _ => none
  | .lst es, env, m => (ev G es env m).bind fun x => match x.1 with
    | .tup ds => if sz ds.length = true then some (.lst ds, x.2) else none
    | _ => none
  | .lstH es, env, m => (ev G es env m).bind fun x => match x.1 with
    | .tup ds => if sz ds.length = true then some (.ref x.2.length, x.2 ++ [.lst ds]) else none
    | _ => none
  | .idx a i, env, m => (ev G a env m).bind fun x => (ev G i env x.2).bind fun y => (idxD y.2 x.1 y.1).map fun d => (d, y.2)
  | .slc a fl fh lo hi, env, m => (ev G a env m).bind fun x => (ev G lo env x.2).bind fun y => (part fl y.1).bind fun l => (ev G hi env y.2).bind fun z => (part fh z.1).bind fun h => (sliceD x.1 l h).map fun d => (d, z.2)
  | .callP f es, env, m => (ev G es env m).bind fun x => match x.1 with
    | .tup ds => (callP G f ds).map fun d => (d, x.2)
    | _ => none
  | .callB f es, env, m => (ev G es env m).bind fun x => match x.1 with
    | .tup ds => (callB G x.2 f ds).map fun d => (d, x.2)
    | _ => none
  | .callK f es, env, m => (ev G es env m).bind fun x => match x.1 with
    | .tup ds => G f ds x.2
    | _ => none
  | .blt b es, env, m => (ev G es env m).bind fun x => match x.1 with
    | .tup ds => (bltD x.2 b ds).map fun d => (d, x.2)
    | _ => none
  | .isi a ts, env, m => (ev G a env m).bind fun x => some (.bl (ts.any fun t => Ty.sub x.1.ty t), x.2)
  | .comp elt p it c own, env, m => (ev G it env m).bind fun x => match x.1 with
    | .tup ds => if sz ds.length = true then (compF (fun d m => (bindP p d (wipeE env own)).bind fun env => (ev G c env m).bind fun y => y.1.bool?.map fun k => (k, y.2))
        (fun d m => (bindP p d (wipeE env own)).bind fun env => ev G elt env m) ds x.2).map fun y => (.lst y.1, y.2) else none
    | _ => none
  | .pop o, env, m => (ev G o env m).bind fun x => match x.1 with
    | .ref n => match x.2[n]? with
      | some (.lst ds) => (ds.getLast?).map fun d => (d, x.2.set n (.lst ds.dropLast))
      | none => none
    | _ => none
  | .seq a, env, m => (ev G a env m).bind fun x => (x.1.items?).map fun ds => (.tup ds, x.2)
  | .rng1 es, env, m => (ev G es env m).bind fun x => match x.1 with
    | .tup [.int n] => if small n = true then some (.tup (rngD 0 n), x.2) else none
    | _ => none
  | .rng2 es, env, m => (ev G es env m).bind fun x => match x.1 with
    | .tup [.int l, .int h] => if (small l && small h) = true then some (.tup (rngD l h), x.2) else none
    | _ => none
  | .zip2 es, env, m => (ev G es env m).bind fun x => match x.1 with
    | .tup [x', y'] => x'.items?.bind fun xs => y'.items?.map fun ys => (.tup (List.zipWith (fun x y => .tup [x, y]) xs ys), x.2)
    | _ => none
  | .zip3 es, env, m => (ev G es env m).bind fun x => match x.1 with
    | .tup [x', y', z'] => x'.items?.bind fun xs => y'.items?.bind fun ys => z'.items?.map fun zs => (.tup (List.zipWith (fun x (y : D × D) => .tup [x, y.1, y.2]) xs (List.zip ys zs)), x.2)
    | _ => none
  | .enum es, env, m => (ev G es env m).bind fun x => match x.1 with
    | .tup [x', .int k] => if small k = true then x'.items?.map fun xs => (.tup (xs.mapIdx fun i d => .tup [.int (k + (i : Int)), d]), x.2) else none
    | _ => none
  | .lzip es, env, m => (ev G es env m).bind fun x => match x.1 with
    | .tup [x', y'] => x'.items?.bind fun xs => y'.items?.bind fun ys => if sz xs.length = true then some (.lst (List.zipWith (fun x y => .tup [x, y]) xs ys), x.2) else none
    | _ => none

inductive Fl where
  | nx (env : Env) | rt (d : D) | bk (env : Env) | ct (env : Env)

def whlF (c : Env → Mem → Option (Bool × Mem)) (b : Env → Mem → Option (Fl × Mem)) : Nat → Env → Mem → Option (Fl × Mem)
  | 0, _, _ => none
  | n + 1, env, m => (c env m).bind fun r => if r.1 = true then (b env r.2).bind fun x => match x.1 with
      | .nx env => whlF c b n env x.2
      | .ct env => whlF c b n env x.2
      | .bk env => some (.nx env, x.2)
      | .rt d => some (.rt d, x.2)
    else some (.nx env, r.2)
def forF (b : D → Env → Mem → Option (Fl × Mem)) : List D → Env → Mem → Option (Fl × Mem)
  | [], env, m => some (.nx env, m)
  | d :: ds, env, m => (b d env m).bind fun x => match x.1 with
      | .nx env => forF b ds env x.2
      | .ct env => forF b ds env x.2
      | .bk env => some (.nx env, x.2)
      | .rt d => some (.rt d, x.2)
/-- what follows a statement -/
def thnF (r : Option (Fl × Mem)) (k : Env → Mem → Option (Fl × Mem)) : Option (Fl × Mem) := r.bind fun x => match x.1 with
  | .nx env => k env x.2
  | f => some (f, x.2)

def exec (G : Calls) (N : Nat) : S → Env → Mem → Option (Fl × Mem)
  | .nil, env, m => some (.nx env, m)
  | .expr e k, env, m => (ev G e env m).bind fun x => exec G N k env x.2
  | .asg p e k, env, m => (ev G e env m).bind fun x => (bindP p x.1 env).bind fun env => exec G N k env x.2
  | .par i j a b k, env, m => (ev G a env m).bind fun x => (ev G b env x.2).bind fun y => exec G N k ((env.set i (some x.1)).set j (some y.1)) y.2
  | .aug i op e k, env, m => (env.getD i none).bind fun d => (ev G e env m).bind fun x => match d, x.1 with
    | .int a, .int b => (binD op (.int a) (.int b)).bind fun r => exec G N k (env.set i (some r)) x.2
    | _, _ => none
  | .setIx o i e k, env, m => (ev G e env m).bind fun x => (ev G o env x.2).bind fun y => (ev G i env y.2).bind fun z => match y.1, z.1 with
    | .ref n, .int j => match z.2[n]? with
      | some (.lst ds) => (ixN ds.length j).bind fun j => exec G N k env (z.2.set n (.lst (ds.set j x.1)))
      | none => none
    | _, _ => none
  | .augIx o i op e k, env, m => (ev G o env m).bind fun y => (ev G i env y.2).bind fun z => match y.1, z.1 with
    | .ref n, .int j => (idxD z.2 (.ref n) (.int j)).bind fun old => (ev G e env z.2).bind fun x => match old, x.1 with
      | .int a, .int b => (binD op (.int a) (.int b)).bind fun r => match x.2[n]? with
        | some (.lst ds) => (ixN ds.length j).bind fun j => exec G N k env (x.2.set n (.lst (ds.set j r)))
        | none => none
      | _, _ => none
    | _, _ => none
  | .app o e k, env, m => (ev G o env m).bind fun y => (ev G e env y.2).bind fun x => match y.1 with
    | .ref n => match x.2[n]? with
      | some (.lst ds) => if sz ds.length = true then exec G N k env (x.2.set n (.lst (ds ++ [x.1]))) else none
      | none => none
    | _ => none
  | .ext o e k, env, m => (ev G o env m).bind fun y => (ev G e env y.2).bind fun x => match y.1, x.1 with
    | .ref n, .lst es => match x.2[n]? with
      | some (.lst ds) => if sz (ds.length + es.length) = true then exec G N k env (x.2.set n (.lst (ds ++ es))) else none
      | none => none
    | _, _ => none
  | .ife c a b k, env, m => (ev G c env m).bind fun x => x.1.bool?.bind fun t => thnF (if t = true then exec G N a env x.2 else exec G N b env x.2) (exec G N k)
  | .whl c b k, env, m => thnF (whlF (fun env m => (ev G c env m).bind fun x => x.1.bool?.map fun t => (t, x.2)) (exec G N b) N env m) (exec G N k)
  | .for p it b k, env, m => (ev G it env m).bind fun x => match x.1 with
    | .tup ds => thnF (forF (fun d env m => (bindP p d env).bind fun env => exec G N b env m) ds env x.2) (exec G N k)
    | _ => none
  | .ret e, env, m => (ev G e env m).bind fun x => some (.rt x.1, x.2)
  | .retN, env, m => some (.rt .non, m)
  | .brk, env, m => some (.bk env, m)
  | .cont, env, m => some (.ct env, m)

/-- a def: how many parameters, how many names, its body -/
structure Df where
  np : Nat
  nn : Nat
  body : S
/-- a call of the i-th def, k levels deep -/
def run (T : List Df) (N : Nat) : Nat → Calls
  | 0, _, _, _ => none
  | k + 1, f, ds, m => match T[f]? with
    | some d => if ds.length = d.np then (exec (run T N k) N d.body (ds.map some ++ List.replicate (d.nn - ds.length) none) m).bind fun x => match x.1 with
        | .rt r => some (r, x.2)
        | .nx _ => some (.non, x.2)
        | _ => none
      else none
    | none => none
end MP
set_option Elab.async false
set_option linter.all false
set_option maxRecDepth 100000
set_option maxHeartbeats 1000000
/-! MiniPy 3: the terms are what the program's expressions evaluate to. -/
namespace MP
open PySem PySem.Spec PyProof.Rows L2

structure EnvDen (K : PySem.W.Frag) (ρ : List Addr) (Hf : Hp) (env : Env) (σ : L2.St) : Prop where
  len : env.length = σ.length
  get : ∀ (i : Nat) (d : D), env[i]? = some (some d) → ∃ v, σ[i]? = some (some v) ∧ Den K ρ Hf d v
theorem EnvDen.mono {K : PySem.W.Frag} {ρ ρ' : List Addr} {Hf Hf' : Hp} {env : Env} {σ : L2.St} (e : EnvDen K ρ Hf env σ) (g : Gr ρ Hf ρ' Hf') : EnvDen K ρ' Hf' env σ :=
  ⟨e.len, fun i d h => let ⟨v, h1, h2⟩ := e.get i d h; ⟨v, h1, h2.mono g.pre g.ex⟩⟩
theorem EnvDen.set {K : PySem.W.Frag} {ρ : List Addr} {Hf : Hp} {env : Env} {σ : L2.St} (e : EnvDen K ρ Hf env σ) (i : Nat) {d : D} {v : V} (h : Den K ρ Hf d v) : EnvDen K ρ Hf (env.set i (some d)) (σ.set i (some v)) := by
  refine ⟨by rw [List.length_set, List.length_set, e.len], fun j x hj => ?_⟩
  by_cases hij : i = j
  · subst hij
    by_cases hl : i < env.length
    · rw [List.getElem?_set_self hl] at hj
      cases hj
      exact ⟨v, List.getElem?_set_self (by rw [← e.len]; exact hl), h⟩
    · rw [List.getElem?_eq_none (by rw [List.length_set]; omega)] at hj
      cases hj
  · rw [List.getElem?_set_ne hij] at hj
    obtain ⟨w, h1, h2⟩ := e.get j x hj
    exact ⟨w, by rw [List.getElem?_set_ne hij]; exact h1, h2⟩
theorem EnvDen.setN {K : PySem.W.Frag} {ρ : List Addr} {Hf : Hp} {env : Env} {σ : L2.St} (e : EnvDen K ρ Hf env σ) (i : Nat) : EnvDen K ρ Hf (env.set i none) (σ.set i none) := by
  refine ⟨by rw [List.length_set, List.length_set, e.len], fun j x hj => ?_⟩
  by_cases hij : i = j
  · subst hij
    by_cases hl : i < env.length
    · rw [List.getElem?_set_self hl] at hj
      cases hj
    · rw [List.getElem?_eq_none (by rw [List.length_set]; omega)] at hj
      cases hj
  · rw [List.getElem?_set_ne hij] at hj
    obtain ⟨w, h1, h2⟩ := e.get j x hj
    exact ⟨w, by rw [List.getElem?_set_ne hij]; exact h1, h2⟩
theorem EnvDen.wipe {K : PySem.W.Frag} {ρ : List Addr} {Hf : Hp} {env : Env} {σ : L2.St} (e : EnvDen K ρ Hf env σ) : ∀ own : List Nat, EnvDen K ρ Hf (wipeE env own) (L2.wipe σ own)
  | [] => e
  | v :: vs => (EnvDen.wipe e vs).setN v

def PostE (K : PySem.W.Frag) (ρ : List Addr) (Hf Fx : Hp) (d : D) (m : Mem) (Q : VK) : Prop :=
  ∀ ρ' Hf' H' v, Gr ρ Hf ρ' Hf' → Wd K ρ' Hf' Fx m H' → Den K ρ' Hf' d v → Q v H'
def PostB (K : PySem.W.Frag) (ρ : List Addr) (Hf Fx : Hp) (m : Mem) (Q : Hp → Prop) : Prop :=
  ∀ ρ' Hf' H', Gr ρ Hf ρ' Hf' → Wd K ρ' Hf' Fx m H' → Q H'
def PostA (K : PySem.W.Frag) (ρ : List Addr) (Hf Fx : Hp) (ds : List D) (m : Mem) (Q : List V → Hp → Prop) : Prop :=
  ∀ ρ' Hf' H' vs, Gr ρ Hf ρ' Hf' → Wd K ρ' Hf' Fx m H' → DenAll K ρ' Hf' ds vs → Q vs H'
theorem PostE.go {K : PySem.W.Frag} {ρ ρ' : List Addr} {Hf Hf' Fx : Hp} {d : D} {m : Mem} {Q : VK} (p : PostE K ρ Hf Fx d m Q) (g : Gr ρ Hf ρ' Hf') : PostE K ρ' Hf' Fx d m Q :=
  fun _ _ _ _ g' w h => p _ _ _ _ (g.trans g') w h

/-- an expression that evaluates so -/
def tS (K : PySem.W.Frag) (G : Calls) (e : E) : TE := fun σ H Q => ∃ env m d m' ρ Hf Fx, Wd K ρ Hf Fx m H ∧ EnvDen K ρ Hf env σ ∧ ev G e env m = some (d, m') ∧ PostE K ρ Hf Fx d m' Q
def tT (K : PySem.W.Frag) (G : Calls) (e : E) : TT := fun σ H Q => ∃ env m b m' ρ Hf Fx, Wd K ρ Hf Fx m H ∧ EnvDen K ρ Hf env σ ∧ ev G e env m = some (.bl b, m') ∧ PostB K ρ Hf Fx m' (Q b)
def tA (K : PySem.W.Frag) (G : Calls) (e : E) : TA := fun σ H Q => ∃ env m ds m' ρ Hf Fx, Wd K ρ Hf Fx m H ∧ EnvDen K ρ Hf env σ ∧ ev G e env m = some (.tup ds, m') ∧ PostA K ρ Hf Fx ds m' Q

abbrev EX (X : Cx) (G : Calls) (e : Expr) (t : E) : Prop := PE X e (tS X.K G t)
abbrev ET (X : Cx) (G : Calls) (e : Expr) (t : E) : Prop := PT X e (tT X.K G t)
abbrev EW (X : Cx) (G : Calls) (e : Expr) (t : E) : Prop := PW X e (tT X.K G t)
abbrev EA (X : Cx) (G : Calls) (es : List Expr) (t : E) : Prop := PA X es (tA X.K G t)

theorem bind_some {α β : Type} {o : Option α} {f : α → Option β} {y : β} (h : o.bind f = some y) : ∃ x, o = some x ∧ f x = some y := Option.bind_eq_some_iff.mp h
theorem map_some' {α β : Type} {o : Option α} {f : α → β} {y : β} (h : o.map f = some y) : ∃ x, o = some x ∧ f x = y := Option.map_eq_some_iff.mp h

section
variable {K : PySem.W.Frag} {G : Calls} {ρ : List Addr} {Hf Fx H : Hp} {m m1 m2 m3 : Mem} {env : Env} {σ : L2.St} {x y z : D} {a b c : E}
theorem one {R : V → Hp → Prop} (w : Wd K ρ Hf Fx m H) (e : EnvDen K ρ Hf env σ) (ha : ev G a env m = some (x, m1))
    (k : ∀ ρ1 Hf1 H1 vx, Gr ρ Hf ρ1 Hf1 → Wd K ρ1 Hf1 Fx m1 H1 → Den K ρ1 Hf1 x vx → R vx H1) : tS K G a σ H R :=
  ⟨env, m, x, m1, ρ, Hf, Fx, w, e, ha, k⟩
theorem two {R : V → V → Hp → Prop} (w : Wd K ρ Hf Fx m H) (e : EnvDen K ρ Hf env σ) (ha : ev G a env m = some (x, m1)) (hb : ev G b env m1 = some (y, m2))
    (k : ∀ ρ2 Hf2 H2 vx vy, Gr ρ Hf ρ2 Hf2 → Wd K ρ2 Hf2 Fx m2 H2 → Den K ρ2 Hf2 x vx → Den K ρ2 Hf2 y vy → R vx vy H2) : tS K G a σ H fun vx H1 => tS K G b σ H1 fun vy H2 => R vx vy H2 :=
  one w e ha fun ρ1 Hf1 H1 vx g1 w1 dx => one w1 (e.mono g1) hb fun ρ2 Hf2 H2 vy g2 w2 dy => k ρ2 Hf2 H2 vx vy (g1.trans g2) w2 (dx.mono g2.pre g2.ex) dy
theorem args {ds : List D} {R : List V → Hp → Prop} (w : Wd K ρ Hf Fx m H) (e : EnvDen K ρ Hf env σ) (ha : ev G a env m = some (.tup ds, m1))
    (k : ∀ ρ1 Hf1 H1 vs, Gr ρ Hf ρ1 Hf1 → Wd K ρ1 Hf1 Fx m1 H1 → DenAll K ρ1 Hf1 ds vs → R vs H1) : tA K G a σ H R :=
  ⟨env, m, ds, m1, ρ, Hf, Fx, w, e, ha, k⟩
end

/-- from another reading: what is evaluated leads there -/
theorem PE.via {X : Cx} {e : Expr} {t t' : TE} (h : PE X e t) (k : ∀ σ H Q, t' σ H Q → t σ H Q) : PE X e t' := ⟨fun pins s σ H Q I q => h.run pins s σ H Q I (k σ H Q q)⟩
theorem PT.via {X : Cx} {e : Expr} {t t' : TT} (h : PT X e t) (k : ∀ σ H Q, t' σ H Q → t σ H Q) : PT X e t' := ⟨fun pins s σ H Q I q => h.run pins s σ H Q I (k σ H Q q)⟩
theorem PW.via {X : Cx} {e : Expr} {t t' : TT} (h : PW X e t) (k : ∀ σ H Q, t' σ H Q → t σ H Q) : PW X e t' := ⟨fun wh pins s σ H Q I q => h.run wh pins s σ H Q I (k σ H Q q)⟩
theorem PA.via {X : Cx} {es : List Expr} {t t' : TA} (h : PA X es t) (k : ∀ σ H Q, t' σ H Q → t σ H Q) : PA X es t' := ⟨fun pos pins s σ H Q I q => h.run pos pins s σ H Q I (k σ H Q q)⟩
/-- a binary operation whose rule hangs on the values -/
def OpAny (X : Cx) (f : Value → Value → Sem Value) (R : R2) : Prop := OpR X f R
theorem opR_ex {X : Cx} {f : Value → Value → Sem Value} {ι : Type} {r : ι → R2} (h : ∀ i, OpR X f (r i)) : OpR X f (fun x y H Q => ∃ i, r i x y H Q) := by
  intro pins s σ H x y v u Q I rx ry q
  obtain ⟨i, q⟩ := q
  exact h i pins s σ H x y v u Q I rx ry q
theorem opR_or {X : Cx} {f : Value → Value → Sem Value} {r r' : R2} (h : OpR X f r) (h' : OpR X f r') : OpR X f (fun x y H Q => r x y H Q ∨ r' x y H Q) := by
  intro pins s σ H x y v u Q I rx ry q
  rcases q with q | q
  · exact h pins s σ H x y v u Q I rx ry q
  · exact h' pins s σ H x y v u Q I rx ry q

section
variable {X : Cx} {G : Calls} {a b c : Expr} {A B C : E} {pos : Pos}
theorem mb_var (i : Nat) {x : Str} (hN : X.N[i]? = some x := by rfl) (hv : Vis X.env.scope x := by first | exact Or.inl rfl | exact Or.inr (Or.inl rfl) | exact Or.inr (Or.inr rfl)) (hd : (x == ("__debug__" : Str)) = false := by decide)
    (hcd : (x == ("__classdict__" : Str)) = false := by decide) : EX X G (.Name x pos) (.var i) := by
  refine PE.via (pe_var (i := i) hN hv hd hcd) fun σ H Q h => ?_
  obtain ⟨env, m, d, m', ρ, Hf, Fx, w, e, h, k⟩ := h
  obtain ⟨d', h1, h2⟩ := map_some' h
  cases h2
  have hi : env[i]? = some (some d) := by
    rw [List.getD_eq_getElem?_getD] at h1
    cases q : env[i]? with
    | none => rw [q] at h1; cases h1
    | some o =>
      rw [q] at h1
      have h1 : o = some d := h1
      rw [h1]
  obtain ⟨v, h3, h4⟩ := e.get i d hi
  exact ⟨v, h3, k ρ Hf H v (Gr.refl ρ Hf) w h4⟩
theorem mb_const {t : D} {v : V} (h : PE X a (tC v)) (hd : ∀ ρ Hf, Den X.K ρ Hf t v) : EX X G a (.lit t) := by
  refine PE.via h fun σ H Q h => ?_
  obtain ⟨env, m, d, m', ρ, Hf, Fx, w, e, h, k⟩ := h
  cases h
  exact k ρ Hf H v (Gr.refl ρ Hf) w (hd ρ Hf)
theorem mb_int {i : Int} {j : Nat} : EX X G (.Constant (.int i) j pos) (.lit (.int i)) := mb_const pe_int fun _ _ => .int i
theorem mb_bl {i : Bool} {j : Nat} : EX X G (.Constant (.bool i) j pos) (.lit (.bl i)) := mb_const pe_bl fun _ _ => .bl i
theorem mb_non {j : Nat} : EX X G (.Constant .none j pos) (.lit .non) := mb_const pe_non fun _ _ => .non
theorem mb_str {i : Str} {j : Nat} : EX X G (.Constant (.str i) j pos) (.lit (.str i)) := mb_const pe_str fun _ _ => .str i
/-- a constant of the module -/
theorem mb_glob {x : Str} {t : D} {v : V} {u : Value} (hg : Gl X x) (hm : X.mg x = some u) (r : RelV v u) (hd : ∀ ρ Hf, Den X.K ρ Hf t v) (hdb : (x == ("__debug__" : Str)) = false := by decide) : EX X G (.Name x pos) (.lit t) :=
  mb_const (pe_glob hg hm r hdb) hd

/-! ### arithmetic -/
theorem fit_lt {i : Int} (h : fit i = true) : i.natAbs.log2 < 8000 := by
  have := Nat.le_of_ble_eq_true h
  omega
theorem bin_of {op : BOp} {o : Operator} {r : R2} (ho : OpR X (binaryOp o) r)
    (k : ∀ (ρ : List Addr) (Hf Fx H : Hp) (m : Mem) (x y d : D) (vx vy : V) (Q : VK), Wd X.K ρ Hf Fx m H → Den X.K ρ Hf x vx → Den X.K ρ Hf y vy → binD op x y = some d → PostE X.K ρ Hf Fx d m Q → r vx vy H Q)
    (ha : EX X G a A) (hb : EX X G b B) : EX X G (.BinOp a o b pos) (.bin op A B) := by
  refine PE.via (pe_op ho ha hb) fun σ H Q h => ?_
  obtain ⟨env, m, d, m', ρ, Hf, Fx, w, e, h, p⟩ := h
  obtain ⟨⟨x, m1⟩, h1, h⟩ := bind_some h
  obtain ⟨⟨y, m2⟩, h2, h⟩ := bind_some h
  obtain ⟨d', h3, h4⟩ := map_some' h
  cases h4
  exact two w e h1 h2 fun ρ2 Hf2 H2 vx vy g w2 dx dy => k ρ2 Hf2 Fx H2 _ x y d vx vy Q w2 dx dy h3 (p.go g)
def rAddAll (K : PySem.W.Frag) : R2 := fun x y H Q => rI0 (fun i j => .int (i + j)) x y H Q ∨ rCatA K x y H Q ∨ rCat x y H Q
theorem op_addAll : OpR X (binaryOp .Add) (rAddAll X.K) := opR_or op_add (opR_or op_catA op_cat)
theorem post_tup {K : PySem.W.Frag} {ρ : List Addr} {Hf Fx H : Hp} {m : Mem} {ds : List D} {vs : List V} {Q : VK} (p : PostE K ρ Hf Fx (.tup ds) m Q) (w : Wd K ρ Hf Fx m H) (t : DenAll K ρ Hf ds vs) {q : Addr} (hq : H q = none) : Q (.ref q) (upd H q (.tup vs)) := by
  obtain ⟨w', g⟩ := w.laid (o := .tup vs) hq
  exact p ρ _ _ _ g w' (.tup (.inl (.inl upd_same)) (t.mono g.pre g.ex))
theorem post_lst {K : PySem.W.Frag} {ρ : List Addr} {Hf Fx H : Hp} {m : Mem} {ds : List D} {vs : List V} {Q : VK} (p : PostE K ρ Hf Fx (.lst ds) m Q) (w : Wd K ρ Hf Fx m H) (t : DenAll K ρ Hf ds vs) {q : Addr} (hq : H q = none) : Q (.ref q) (upd H q (.lst vs)) := by
  obtain ⟨w', g⟩ := w.laid (o := .lst vs) hq
  exact p ρ _ _ _ g w' (.lst upd_same (t.mono g.pre g.ex))
theorem post_val {K : PySem.W.Frag} {ρ : List Addr} {Hf Fx H : Hp} {m : Mem} {d : D} {v : V} {Q : VK} (p : PostE K ρ Hf Fx d m Q) (w : Wd K ρ Hf Fx m H) (t : Den K ρ Hf d v) : Q v H := p ρ Hf H v (Gr.refl ρ Hf) w t
theorem nil_of {K : PySem.W.Frag} {ρ : List Addr} {Hf : Hp} {ds : List D} {vs : List V} (t : DenAll K ρ Hf ds vs) : vs = [] → ds = [] := fun e => by
  subst e
  cases t
  rfl
theorem mb_add (ha : EX X G a A) (hb : EX X G b B) : EX X G (.BinOp a .Add b pos) (.bin .add A B) := by
  refine bin_of op_addAll (fun ρ Hf Fx H m x y d vx vy Q w dx dy h p => ?_) ha hb
  have h : addD x y = some d := h
  cases dx with
  | int i =>
    cases dy with
    | int j => cases h; exact .inl ⟨i, j, rfl, rfl, post_val p w (.int _)⟩
    | _ => cases h
  | @tup p1 vs ds s1 t1 =>
    cases dy with
    | @tup p2 ws es s2 t2 =>
      have h : (if sz (ds.length + es.length) = true then some (D.tup (ds ++ es)) else none) = some d := h
      split at h
      · rename_i hs
        cases h
        refine .inr (.inl ⟨p1, p2, vs, ws, rfl, rfl, same_seqT w.ex s1, same_seqT w.ex s2, by rw [← t1.length, ← t2.length]; exact sz_line hs, fun e => ?_, fun _ e => ?_, fun _ _ q hq => ?_⟩)
        · have e1 := nil_of t1 e
          subst e1
          exact post_val p w (.tup s2 t2)
        · have e1 := nil_of t2 e
          subst e1
          rw [List.append_nil] at p
          exact post_val p w (.tup s1 t1)
        · exact post_tup p w (t1.append t2) hq
      · cases h
    | _ => cases h
  | @lst p1 vs ds s1 t1 =>
    cases dy with
    | @lst p2 ws es s2 t2 =>
      have h : (if sz (ds.length + es.length) = true then some (D.lst (ds ++ es)) else none) = some d := h
      split at h
      · rename_i hs
        cases h
        refine .inr (.inr ⟨p1, p2, vs, ws, rfl, rfl, w.ex _ _ s1, w.ex _ _ s2, by rw [← t1.length, ← t2.length]; exact sz_line hs, fun q hq => ?_⟩)
        exact post_lst p w (t1.append t2) hq
      · cases h
    | _ => cases h
  | _ => cases dy <;> cases h
theorem mb_sub (ha : EX X G a A) (hb : EX X G b B) : EX X G (.BinOp a .Sub b pos) (.bin .sub A B) := by
  refine bin_of op_sub (fun ρ Hf Fx H m x y d vx vy Q w dx dy h p => ?_) ha hb
  cases dx with
  | int i =>
    cases dy with
    | int j => cases h; exact ⟨i, j, rfl, rfl, post_val p w (.int _)⟩
    | _ => cases h
  | _ => cases dy <;> cases h
theorem mb_fdiv (ha : EX X G a A) (hb : EX X G b B) : EX X G (.BinOp a .FloorDiv b pos) (.bin .fdiv A B) := by
  refine bin_of op_fdivW (fun ρ Hf Fx H m x y d vx vy Q w dx dy h p => ?_) ha hb
  cases dx with
  | int i =>
    cases dy with
    | int j =>
      have h : (if (decide (0 < j) && fit j) = true then some (D.int (i / j)) else none) = some d := h
      split at h
      · rename_i hs
        cases h
        rw [Bool.and_eq_true] at hs
        exact ⟨i, j, rfl, rfl, ⟨of_decide_eq_true hs.1, by have := fit_lt hs.2; omega⟩, post_val p w (.int _)⟩
      · cases h
    | _ => cases h
  | _ => cases dy <;> cases h
theorem mb_mod (ha : EX X G a A) (hb : EX X G b B) : EX X G (.BinOp a .Mod b pos) (.bin .mod A B) := by
  refine bin_of op_mod (fun ρ Hf Fx H m x y d vx vy Q w dx dy h p => ?_) ha hb
  cases dx with
  | int i =>
    cases dy with
    | int j =>
      have h : (if decide (0 < j) = true then some (D.int (i % j)) else none) = some d := h
      split at h
      · rename_i hs
        cases h
        exact ⟨i, j, rfl, rfl, of_decide_eq_true hs, post_val p w (.int _)⟩
      · cases h
    | _ => cases h
  | _ => cases dy <;> cases h
theorem mb_neg (ha : EX X G a A) : EX X G (.UnaryOp .USub a pos) (.neg A) := by
  refine PE.via (pe_un un_neg ha) fun σ H Q h => ?_
  obtain ⟨env, m, d, m', ρ, Hf, Fx, w, e, h, p⟩ := h
  obtain ⟨⟨x, m1⟩, h1, h⟩ := bind_some h
  refine one w e h1 fun ρ1 Hf1 H1 vx g w1 dx => ?_
  cases dx with
  | int i =>
    cases h
    exact ⟨i, rfl, p ρ1 Hf1 H1 _ g w1 (.int _)⟩
  | _ => cases h
end
end MP
set_option Elab.async false
set_option linter.all false
set_option maxRecDepth 100000
set_option maxHeartbeats 1000000
/-! MiniPy 4: products, comparisons, truth, displays, subscripts. -/
namespace L2
open PySem PySem.Spec PyProof.Rows
theorem tuple_mulW1 (l : Addr) (items : Array Value) (n : Nat) (dd : Option Addr) (sl : Array (Option Value)) (u : Tok) :
    Meets (Builtin.«tuple.__mul__» ⟨[.ref l, .int 1 u], []⟩) (fun _ R s => s.heap.get? l = some { cls := .type "tuple", dict := dd, data := .seq items n, slots := sl } ∧
      R (.ok (.ret (Value.ref l))) s) :=
  .of_wp fun prog w A R s h => by
    obtain ⟨hp, g, d, tk, os⟩ := s
    obtain ⟨hl, h⟩ := h
    have f1 := AutoSeq1.idx_int
    wp_walk using wpAny_loadPart' hl
    repeat (first
      | (refine wpAny_ite_false (decide_eq_false (by decide)) ?_; wp_walk using wpAny_loadPart' hl)
      | (refine wpAny_ite_true (by simp) ?_; wp_walk using wpAny_loadPart' hl))
    exact ⟨_, rfl, h⟩
def rRepT1 (K : PySem.W.Frag) : R2 := fun x y H Q => ∃ l xs, x = .ref l ∧ y = .int 1 ∧ SqT K H l xs ∧ Q (.ref l) H
theorem op_repT1 {X : Cx} : OpR X (binaryOp .Mult) (rRepT1 X.K) := by
  intro pins s σ H x y v u Q I rx ry h
  obtain ⟨l, xs, rfl, rfl, hT, q⟩ := h
  cases rx
  obtain ⟨t, rfl⟩ := ry
  obtain ⟨its, r, ⟨⟨cls, dd, data, sl⟩, ho, hc, n, hd⟩, hs⟩ := I.tuple hT
  simp only at hc hd
  subst hc hd
  exact wpAny_binaryOp_repeat_ref (T := "tuple") (U := "int") (by decide) ⟨_, ho, rfl⟩ (fun s' => typeIs_int s' 1 t) noFill_tuple_mul F.fills_int_mul F.slot_int_rmul repeat_tuple F.slot_int_index.lookup
    (call_meets F.slot_int_rmul (typeIs_int s 1 t) F.entry_int_rmul (F.args_int_rmul_2 _ _) (int_rmul_tuple 1 t l its.toArray n dd sl)
      ⟨ho, rfl, ⟨_, ho, rfl⟩, call_meets F.slot_tuple_mul ⟨_, ho, rfl⟩ F.entry_tuple_mul (F.args_tuple_mul_2 _ _) (tuple_mulW1 l its.toArray n dd sl t) ⟨ho, ⟨.ref l, H, I, rfl, q⟩⟩⟩)
end L2
namespace MP
open PySem PySem.Spec PyProof.Rows L2

section
variable {X : Cx} {G : Calls} {a b c : Expr} {A B C : E} {pos : Pos}
def rMulAll (K : PySem.W.Frag) : R2 := fun x y H Q => rI CMulW (fun i j => .int (i * j)) x y H Q ∨ rRepT1 K x y H Q ∨ rRepT K x y H Q
theorem op_mulAll : OpR X (binaryOp .Mult) (rMulAll X.K) := opR_or op_mulW (opR_or op_repT1 op_repT)
theorem mb_mul (ha : EX X G a A) (hb : EX X G b B) : EX X G (.BinOp a .Mult b pos) (.bin .mul A B) := by
  refine bin_of op_mulAll (fun ρ Hf Fx H m x y d vx vy Q w dx dy h p => ?_) ha hb
  have h : mulD x y = some d := h
  cases dx with
  | int i =>
    cases dy with
    | int j =>
      have h : (if (fit i && fit j) = true then some (D.int (i * j)) else none) = some d := h
      split at h
      · rename_i hs
        cases h
        rw [Bool.and_eq_true] at hs
        have h1 := fit_lt hs.1
        have h2 := fit_lt hs.2
        exact .inl ⟨i, j, rfl, rfl, by unfold CMulW; omega, post_val p w (.int _)⟩
      · cases h
    | _ => cases h
  | @tup p1 vs ds s1 t1 =>
    cases dy with
    | int k =>
      have h : (if (decide (1 ≤ k) && decide (k ≤ 1000) && Nat.ble 1 ds.length && Nat.ble ds.length 1000) = true then some (D.tup (List.replicate k.toNat ds).flatten) else none) = some d := h
      split at h
      · rename_i hs
        cases h
        simp only [Bool.and_eq_true, decide_eq_true_eq] at hs
        obtain ⟨⟨⟨h1, h2⟩, h3⟩, h4⟩ := hs
        have h3 := Nat.le_of_ble_eq_true h3
        have h4 := Nat.le_of_ble_eq_true h4
        have hl := t1.length
        by_cases hk : k = 1
        · subst hk
          refine .inr (.inl ⟨p1, vs, rfl, rfl, same_seqT w.ex s1, ?_⟩)
          have e : (List.replicate (1 : Int).toNat ds).flatten = ds := by simp
          rw [e] at p
          exact post_val p w (.tup s1 t1)
        · refine .inr (.inr ⟨p1, k, vs, rfl, rfl, same_seqT w.ex s1, fun z => ?_, by omega, h2, by omega, fun q hq => post_tup p w (t1.rep k.toNat) hq⟩)
          subst z
          simp at hl
          rw [hl] at h3
          simp at h3
      · cases h
    | _ => cases h
  | _ => cases dy <;> cases h

/-! ### comparisons -/
theorem noref_deref {m : Mem} {x : D} (h : x.noRef = true) : deref m x = some x := by
  cases x with
  | ref n => simp [D.noRef] at h
  | _ => rfl
end
section
variable {K : PySem.W.Frag} {ρ : List Addr} {H : Hp}
mutual
theorem den_dp : ∀ {d : D} {v : V}, d.noRef = true → Den K ρ H d v → Dp K H v d.py
  | _, _, _, .non => .non
  | _, _, _, .bl b => .bl b
  | _, _, _, .int i => .int i
  | _, _, _, .str x => .str x
  | _, _, n, .tup h t => .tup h (den_dpAll (by simpa [D.noRef] using n) t)
  | _, _, n, .lst h t => .lst (.inl (.inl h)) (den_dpAll (by simpa [D.noRef] using n) t)
  | _, _, n, .fz h t => .lst h (den_dpAll (by simpa [D.noRef] using n) t)
  | _, _, n, .ref h => by simp [D.noRef] at n
theorem den_dpAll : ∀ {ds : List D} {vs : List V}, D.noRefs ds = true → DenAll K ρ H ds vs → DpAll K H vs (D.pys ds)
  | _, _, _, .nil => .nil
  | _, _, n, .cons h t => by
    rw [D.noRefs, Bool.and_eq_true] at n
    exact .cons (den_dp n.1 h) (den_dpAll n.2 t)
end
/-- what a reference stands for, at this moment -/
theorem deref_dp {Hf Fx : Hp} {m : Mem} {x x' : D} {v : V} (w : Wd K ρ Hf Fx m H) (h : deref m x = some x') (n : x'.noRef = true) (t : Den K ρ Hf x v) : Dp K H v x'.py := by
  cases t with
  | @ref k a e =>
    unfold deref at h
    simp only at h
    cases hm : m[k]? with
    | none => rw [hm] at h; cases h
    | some c =>
      cases c with
      | lst ds =>
        rw [hm] at h
        simp only at h
        split at h
        · rename_i hn
          cases h
          obtain ⟨vs, h1, h2⟩ := w.at e hm
          exact .lst (.inl (.inl h1)) (den_dpAll hn (h2.mono (Pre.refl ρ) w.ex))
        · cases h
  | tup a b => cases h; exact den_dp n ((Den.tup a b).mono (Pre.refl ρ) w.ex)
  | lst a b => cases h; exact den_dp n ((Den.lst a b).mono (Pre.refl ρ) w.ex)
  | fz a b => cases h; exact den_dp n ((Den.fz a b).mono (Pre.refl ρ) w.ex)
  | non => cases h; exact .non
  | bl b => cases h; exact .bl b
  | int i => cases h; exact .int i
  | str x => cases h; exact .str x
end
def rEqP (K : PySem.W.Frag) : R2 := fun x y H Q => ∃ d e, Dp K H x d ∧ Dp K H y e ∧ d.canLay0 = true ∧ e.canLay0 = true ∧ min d.depth e.depth ≤ 64 ∧ Q (.bl (PyData.eqv d e)) H
def rNeP (K : PySem.W.Frag) : R2 := fun x y H Q => ∃ d e, Dp K H x d ∧ Dp K H y e ∧ d.canLay0 = true ∧ e.canLay0 = true ∧ min d.depth e.depth ≤ 64 ∧ Q (.bl (!PyData.eqv d e)) H
section
variable {X : Cx}
theorem op_eqP (hu : X.A.units + 64 < cLine) : OpR X (compareOp .Eq) (rEqP X.K) := by
  intro pins s σ H x y v u Q I rx ry h
  obtain ⟨d, e, hd, he, sd, se, hm, q⟩ := h
  obtain ⟨as, r1⟩ := Dp.reads I d x v hd rx
  obtain ⟨bs, r2⟩ := Dp.reads I e y u he ry
  exact SeqAt.compareEq_reads r1 r2 sd se (by omega) ⟨.bl _, H, I, rfl, q⟩
theorem op_neP (hu : X.A.units + 64 < cLine) : OpR X (compareOp .NotEq) (rNeP X.K) := by
  intro pins s σ H x y v u Q I rx ry h
  obtain ⟨d, e, hd, he, sd, se, hm, q⟩ := h
  obtain ⟨as, r1⟩ := Dp.reads I d x v hd rx
  obtain ⟨bs, r2⟩ := Dp.reads I e y u he ry
  exact SeqAt.compareNe_reads r1 r2 sd se (by omega) ⟨.bl _, H, I, rfl, q⟩
end
/-- the rule of a comparison -/
structure CmpR (X : Cx) (op : COp) (f : Value → Value → Sem Value) where
  r : R2
  ok : OpR X f r
  k : ∀ (ρ : List Addr) (Hf Fx H : Hp) (m : Mem) (x y : D) (b : Bool) (vx vy : V) (Q : VK), Wd X.K ρ Hf Fx m H → Den X.K ρ Hf x vx → Den X.K ρ Hf y vy → cmpD m op x y = some b → Q (.bl b) H → r vx vy H Q
section
variable {X : Cx}
def cmp_eq (hu : X.A.units + 64 < cLine) : CmpR X .eq (compareOp .Eq) where
  r := rEqP X.K
  ok := op_eqP hu
  k := fun ρ Hf Fx H m x y b vx vy Q w dx dy h q => by
    obtain ⟨x', h1, h⟩ := bind_some h
    obtain ⟨y', h2, h⟩ := bind_some h
    split at h
    · rename_i hs
      cases h
      simp only [eqOk, Bool.and_eq_true] at hs
      obtain ⟨⟨⟨⟨n1, n2⟩, c1⟩, c2⟩, hm⟩ := hs
      exact ⟨x'.py, y'.py, deref_dp w h1 n1 dx, deref_dp w h2 n2 dy, c1, c2, Nat.le_of_ble_eq_true hm, q⟩
    · cases h
def cmp_ne (hu : X.A.units + 64 < cLine) : CmpR X .ne (compareOp .NotEq) where
  r := rNeP X.K
  ok := op_neP hu
  k := fun ρ Hf Fx H m x y b vx vy Q w dx dy h q => by
    obtain ⟨x', h1, h⟩ := bind_some h
    obtain ⟨y', h2, h⟩ := bind_some h
    split at h
    · rename_i hs
      cases h
      simp only [eqOk, Bool.and_eq_true] at hs
      obtain ⟨⟨⟨⟨n1, n2⟩, c1⟩, c2⟩, hm⟩ := hs
      exact ⟨x'.py, y'.py, deref_dp w h1 n1 dx, deref_dp w h2 n2 dy, c1, c2, Nat.le_of_ble_eq_true hm, q⟩
    · cases h
def cmp_lt : CmpR X .lt (compareOp .Lt) where
  r := rI0 fun i j => .bl (decide (i < j))
  ok := op_lt
  k := fun ρ Hf Fx H m x y b vx vy Q w dx dy h q => by
    cases dx with
    | int i =>
      cases dy with
      | int j => cases h; exact ⟨i, j, rfl, rfl, q⟩
      | _ => cases h
    | _ => cases dy <;> cases h
def cmp_le : CmpR X .le (compareOp .LtE) where
  r := rI0 fun i j => .bl (decide (i ≤ j))
  ok := op_le
  k := fun ρ Hf Fx H m x y b vx vy Q w dx dy h q => by
    cases dx with
    | int i =>
      cases dy with
      | int j => cases h; exact ⟨i, j, rfl, rfl, q⟩
      | _ => cases h
    | _ => cases dy <;> cases h
def cmp_gt : CmpR X .gt (compareOp .Gt) where
  r := rI0 fun i j => .bl (decide (j < i))
  ok := op_gt
  k := fun ρ Hf Fx H m x y b vx vy Q w dx dy h q => by
    cases dx with
    | int i =>
      cases dy with
      | int j => cases h; exact ⟨i, j, rfl, rfl, q⟩
      | _ => cases h
    | _ => cases dy <;> cases h
def cmp_ge : CmpR X .ge (compareOp .GtE) where
  r := rI0 fun i j => .bl (decide (j ≤ i))
  ok := op_ge
  k := fun ρ Hf Fx H m x y b vx vy Q w dx dy h q => by
    cases dx with
    | int i =>
      cases dy with
      | int j => cases h; exact ⟨i, j, rfl, rfl, q⟩
      | _ => cases h
    | _ => cases dy <;> cases h
theorem scal_flat {K : PySem.W.Frag} {ρ : List Addr} {H : Hp} {d : D} {v : V} (h : d.scal = true) (t : Den K ρ H d v) : flatV v = true := by
  cases t <;> first | rfl | cases h
theorem scal_eq {K : PySem.W.Frag} {ρ : List Addr} {H : Hp} {d e : D} {v u : V} (h : d.scal = true) (k : e.scal = true) (t : Den K ρ H d v) (s : Den K ρ H e u) : eqV v u = deq d e := by
  cases t <;> cases s <;> first | (with_unfolding_all rfl) | exact absurd h Bool.false_ne_true | exact absurd k Bool.false_ne_true
theorem in_scal {K : PySem.W.Frag} {ρ : List Addr} {H : Hp} {x : D} {v : V} (hx : x.scal = true) (tx : Den K ρ H x v) : ∀ {ds : List D} {vs : List V}, ds.all D.scal = true → DenAll K ρ H ds vs → vs.all flatV = true ∧ inV v vs = ds.any fun y => deq y x
  | _, _, _, .nil => ⟨rfl, rfl⟩
  | _, _, h, .cons h1 h2 => by
    rw [List.all_cons, Bool.and_eq_true] at h
    obtain ⟨a, b⟩ := in_scal hx tx h.2 h2
    refine ⟨?_, ?_⟩
    · rw [List.all_cons, scal_flat h.1 h1, a]; rfl
    · unfold inV at b ⊢
      rw [List.any_cons, List.any_cons, b, scal_eq h.1 hx h1 tx]
theorem items_seq {K : PySem.W.Frag} {ρ : List Addr} {Hf Fx H : Hp} {m : Mem} {x : D} {v : V} {ds : List D} (w : Wd K ρ Hf Fx m H) (t : Den K ρ Hf x v) (h : x.items? = some ds) : ∃ p vs, v = .ref p ∧ (SqL K H p vs ∨ SqT K H p vs) ∧ DenAll K ρ Hf ds vs := by
  cases t with
  | tup s t => cases h; exact ⟨_, _, rfl, .inr (same_seqT w.ex s), t⟩
  | lst s t => cases h; exact ⟨_, _, rfl, .inl (.inl (.inl (w.ex _ _ s))), t⟩
  | fz s t => cases h; exact ⟨_, _, rfl, .inl (w.ex.seq s), t⟩
  | _ => cases h
def cmp_in : CmpR X .isIn (compareOp .In) where
  r := rIn X.K false
  ok := op_in_seq
  k := fun ρ Hf Fx H m x y b vx vy Q w dx dy h q => by
    obtain ⟨ys, h1, h⟩ := bind_some h
    split at h
    · rename_i hs
      cases h
      rw [Bool.and_eq_true] at hs
      obtain ⟨p, vs, rfl, hq, t⟩ := items_seq w dy h1
      obtain ⟨f1, f2⟩ := in_scal hs.1 dx hs.2 t
      exact ⟨p, vs, rfl, hq, scal_flat hs.1 dx, f1, by rw [f2]; exact q⟩
    · cases h
def cmp_notIn : CmpR X .notIn (compareOp .NotIn) where
  r := rIn X.K true
  ok := op_notIn_seq
  k := fun ρ Hf Fx H m x y b vx vy Q w dx dy h q => by
    obtain ⟨ys, h1, h⟩ := bind_some h
    split at h
    · rename_i hs
      cases h
      rw [Bool.and_eq_true] at hs
      obtain ⟨p, vs, rfl, hq, t⟩ := items_seq w dy h1
      obtain ⟨f1, f2⟩ := in_scal hs.1 dx hs.2 t
      exact ⟨p, vs, rfl, hq, scal_flat hs.1 dx, f1, by rw [f2]; exact q⟩
    · cases h
def cmp_isN : CmpR X .isN (compareOp .Is) where
  r := fun x y H Q => y = .non ∧ Q (.bl (decide (x = .non))) H
  ok := op_isN
  k := fun ρ Hf Fx H m x y b vx vy Q w dx dy h q => by
    cases dy with
    | non =>
      refine ⟨rfl, ?_⟩
      cases dx <;> (cases h; exact q)
    | _ => cases h
def cmp_notN : CmpR X .notN (compareOp .IsNot) where
  r := fun x y H Q => y = .non ∧ Q (.bl (!decide (x = .non))) H
  ok := op_notN
  k := fun ρ Hf Fx H m x y b vx vy Q w dx dy h q => by
    cases dy with
    | non =>
      refine ⟨rfl, ?_⟩
      cases dx <;> (cases h; exact q)
    | _ => cases h
end
section
variable {X : Cx} {G : Calls} {a b c : Expr} {A B C : E} {pos : Pos}
theorem mb_cmp {op : COp} {o : CmpOp} (R : CmpR X op (compareOp o)) (ha : EX X G a A) (hb : EX X G b B) (hm : behindInMarks o b = false := by rfl) : EX X G (.Compare a [o] [b] pos) (.cmp op A B) := by
  refine PE.via (pe_cmpR R.ok ha hb hm) fun σ H Q h => ?_
  obtain ⟨env, m, d, m', ρ, Hf, Fx, w, e, h, p⟩ := h
  obtain ⟨⟨x, m1⟩, h1, h⟩ := bind_some h
  obtain ⟨⟨y, m2⟩, h2, h⟩ := bind_some h
  obtain ⟨k, h3, h4⟩ := map_some' h
  cases h4
  exact two w e h1 h2 fun ρ2 Hf2 H2 vx vy g w2 dx dy => R.k ρ2 Hf2 Fx H2 _ x y k vx vy Q w2 dx dy h3 (p ρ2 Hf2 H2 _ g w2 (.bl k))
theorem mt_cmp {op : COp} {o : CmpOp} (R : CmpR X op (compareOp o)) (ha : EX X G a A) (hb : EX X G b B) (hm : behindInMarks o b = false := by rfl) : ET X G (.Compare a [o] [b] pos) (.cmp op A B) := by
  refine PT.via (pt_cmpR R.ok ha hb hm) fun σ H Q h => ?_
  obtain ⟨env, m, d, m', ρ, Hf, Fx, w, e, h, p⟩ := h
  obtain ⟨⟨x, m1⟩, h1, h⟩ := bind_some h
  obtain ⟨⟨y, m2⟩, h2, h⟩ := bind_some h
  obtain ⟨k, h3, h4⟩ := map_some' h
  cases h4
  exact two w e h1 h2 fun ρ2 Hf2 H2 vx vy g w2 dx dy => R.k ρ2 Hf2 Fx H2 _ x y d vx vy _ w2 dx dy h3 ⟨d, rfl, p ρ2 Hf2 H2 g w2⟩
theorem chain_of {r r' : R2} {o1 o2 : COp} {f1 f2 : Value → Value → Sem Value} (R1 : CmpR X o1 f1) (R2' : CmpR X o2 f2) {ρ : List Addr} {Hf Fx H : Hp} {env : Env} {σ : L2.St} {m m' : Mem} {k : Bool} {Q : VK} (w : Wd X.K ρ Hf Fx m H) (e : EnvDen X.K ρ Hf env σ)
    (h : ev G (.chain o1 o2 A B C) env m = some (.bl k, m')) (p : ∀ ρ' Hf' H', Gr ρ Hf ρ' Hf' → Wd X.K ρ' Hf' Fx m' H' → Q (.bl k) H') : tChain R1.r R2'.r (tS X.K G A) (tS X.K G B) (tS X.K G C) σ H Q := by
  obtain ⟨⟨x, m1⟩, h1, h⟩ := bind_some h
  obtain ⟨⟨y, m2⟩, h2, h⟩ := bind_some h
  obtain ⟨k1, h3, h⟩ := bind_some h
  simp only at h
  refine two w e h1 h2 fun ρ2 Hf2 H2 vx vy g w2 dx dy => R1.k ρ2 Hf2 Fx H2 _ x y k1 vx vy _ w2 dx dy h3 ⟨k1, rfl, ?_⟩
  cases k1 with
  | false =>
    simp only [Bool.false_eq_true, if_false] at h ⊢
    cases h
    exact p ρ2 Hf2 H2 g w2
  | true =>
    simp only [if_true] at h ⊢
    obtain ⟨⟨z, m3⟩, h4, h⟩ := bind_some h
    obtain ⟨k2, h5, h6⟩ := map_some' h
    cases h6
    exact one w2 (e.mono g) h4 fun ρ3 Hf3 H3 vz g3 w3 dz => R2'.k ρ3 Hf3 Fx H3 _ y z k vy vz Q w3 (dy.mono g3.pre g3.ex) dz h5 (p ρ3 Hf3 H3 (g.trans g3) w3)
theorem ev_chain_bl {o1 o2 : COp} {env : Env} {m m' : Mem} {d : D} (h : ev G (.chain o1 o2 A B C) env m = some (d, m')) : ∃ k, d = .bl k := by
  obtain ⟨⟨x, m1⟩, h1, h⟩ := bind_some h
  obtain ⟨⟨y, m2⟩, h2, h⟩ := bind_some h
  obtain ⟨k1, h3, h⟩ := bind_some h
  simp only at h
  split at h
  · obtain ⟨⟨z, m3⟩, h4, h⟩ := bind_some h
    obtain ⟨k2, h5, h6⟩ := map_some' h
    cases h6
    exact ⟨_, rfl⟩
  · cases h
    exact ⟨_, rfl⟩
theorem mb_chain {o1 o2 : COp} {p1 p2 : CmpOp} (R1 : CmpR X o1 (compareOp p1)) (R2' : CmpR X o2 (compareOp p2)) (ha : EX X G a A) (hb : EX X G b B) (hc : EX X G c C)
    (hm : lastMarks [p1, p2] [b, c] = false := by with_unfolding_all rfl) : EX X G (.Compare a [p1, p2] [b, c] pos) (.chain o1 o2 A B C) := by
  refine PE.via (pe_chain R1.ok R2'.ok ha hb hc hm) fun σ H Q h => ?_
  obtain ⟨env, m, d, m', ρ, Hf, Fx, w, e, h, p⟩ := h
  obtain ⟨k, rfl⟩ := ev_chain_bl h
  exact chain_of (r := R1.r) (r' := R2'.r) R1 R2' w e h fun ρ' Hf' H' g w' => p ρ' Hf' H' _ g w' (.bl k)
theorem mt_chain {o1 o2 : COp} {p1 p2 : CmpOp} (R1 : CmpR X o1 (compareOp p1)) (R2' : CmpR X o2 (compareOp p2)) (ha : EX X G a A) (hb : EX X G b B) (hc : EX X G c C)
    (hm : lastMarks [p1, p2] [b, c] = false := by with_unfolding_all rfl) : ET X G (.Compare a [p1, p2] [b, c] pos) (.chain o1 o2 A B C) := by
  refine PT.via (pt_chain R1.ok R2'.ok ha hb hc hm) fun σ H Q h => ?_
  obtain ⟨env, m, k, m', ρ, Hf, Fx, w, e, h, p⟩ := h
  exact chain_of (r := R1.r) (r' := R2'.r) R1 R2' w e h fun ρ' Hf' H' g w' => ⟨k, rfl, p ρ' Hf' H' g w'⟩

/-! ### truth -/
theorem mt_val (h : EX X G a A) (he : ∀ whole, isTrue a X.env whole = (do let v ← whole; standAt a.pos; holding [v] (truthy v)) := by intro _; rfl) : ET X G a A := by
  refine PT.via (pt_val h he) fun σ H Q h => ?_
  obtain ⟨env, m, k, m', ρ, Hf, Fx, w, e, h, p⟩ := h
  exact one w e h fun ρ1 Hf1 H1 vx g w1 dx => by
    cases dx
    exact ⟨k, rfl, p ρ1 Hf1 H1 g w1⟩
theorem mt_not (h : ET X G a A) : ET X G (.UnaryOp .Not a pos) (.not A) := by
  refine PT.via (pt_not h) fun σ H Q h => ?_
  obtain ⟨env, m, k, m', ρ, Hf, Fx, w, e, h, p⟩ := h
  obtain ⟨⟨x, m1⟩, h1, h⟩ := bind_some h
  obtain ⟨k1, h2, h3⟩ := map_some' h
  cases x <;> cases h2
  cases h3
  exact ⟨env, m, k1, _, ρ, Hf, Fx, w, e, h1, p⟩
theorem mb_not (h : EX X G a A) : EX X G (.UnaryOp .Not a pos) (.not A) := by
  refine PE.via (pe_not h) fun σ H Q h => ?_
  obtain ⟨env, m, d, m', ρ, Hf, Fx, w, e, h, p⟩ := h
  obtain ⟨⟨x, m1⟩, h1, h⟩ := bind_some h
  obtain ⟨k1, h2, h3⟩ := map_some' h
  cases x <;> cases h2
  cases h3
  exact one w e h1 fun ρ1 Hf1 H1 vx g w1 dx => by
    cases dx
    exact ⟨k1, rfl, p ρ1 Hf1 H1 _ g w1 (.bl _)⟩
variable {rest : List Expr}
theorem mb_one {op : BoolOp} (h : EX X G a A) : EX X G (.BoolOp op [a] pos) A := pe_one h
theorem mb_and (ha : EX X G a A) (hb : EX X G (.BoolOp .And (b :: rest) pos) B) : EX X G (.BoolOp .And (a :: b :: rest) pos) (.and A B) := by
  refine PE.via (pe_and ha hb) fun σ H Q h => ?_
  obtain ⟨env, m, d, m', ρ, Hf, Fx, w, e, h, p⟩ := h
  obtain ⟨⟨x, m1⟩, h1, h⟩ := bind_some h
  obtain ⟨k1, h2, h⟩ := bind_some h
  cases x <;> cases h2
  refine one w e h1 fun ρ1 Hf1 H1 vx g w1 dx => ?_
  cases dx
  refine ⟨k1, rfl, ?_⟩
  cases k1 with
  | false =>
    simp only [Bool.false_eq_true, if_false] at h ⊢
    cases h
    exact p ρ1 Hf1 H1 _ g w1 (.bl _)
  | true =>
    simp only [if_true] at h ⊢
    obtain ⟨⟨y, m2⟩, h4, h⟩ := bind_some h
    obtain ⟨k2, h5, h6⟩ := map_some' h
    cases h6
    cases y <;> cases h5
    exact one w1 (e.mono g) h4 fun ρ2 Hf2 H2 vy g2 w2 dy => p ρ2 Hf2 H2 _ (g.trans g2) w2 dy
theorem mb_or (ha : EX X G a A) (hb : EX X G (.BoolOp .Or (b :: rest) pos) B) : EX X G (.BoolOp .Or (a :: b :: rest) pos) (.or A B) := by
  refine PE.via (pe_or ha hb) fun σ H Q h => ?_
  obtain ⟨env, m, d, m', ρ, Hf, Fx, w, e, h, p⟩ := h
  obtain ⟨⟨x, m1⟩, h1, h⟩ := bind_some h
  obtain ⟨k1, h2, h⟩ := bind_some h
  cases x <;> cases h2
  refine one w e h1 fun ρ1 Hf1 H1 vx g w1 dx => ?_
  cases dx
  refine ⟨k1, rfl, ?_⟩
  cases k1 with
  | true =>
    simp only [if_true] at h ⊢
    cases h
    exact p ρ1 Hf1 H1 _ g w1 (.bl _)
  | false =>
    simp only [Bool.false_eq_true, if_false] at h ⊢
    obtain ⟨⟨y, m2⟩, h4, h⟩ := bind_some h
    obtain ⟨k2, h5, h6⟩ := map_some' h
    cases h6
    cases y <;> cases h5
    exact one w1 (e.mono g) h4 fun ρ2 Hf2 H2 vy g2 w2 dy => p ρ2 Hf2 H2 _ (g.trans g2) w2 dy
theorem mw_and1 (h : ET X G a A) : EW X G (.BoolOp .And [a] pos) A := pw_and1 h
theorem mw_or1 (h : ET X G a A) : EW X G (.BoolOp .Or [a] pos) A := pw_or1 h
theorem mw_and (ha : ET X G a A) (hb : EW X G (.BoolOp .And (b :: rest) pos) B) : EW X G (.BoolOp .And (a :: b :: rest) pos) (.and A B) := by
  refine PW.via (pw_and ha hb) fun σ H Q h => ?_
  obtain ⟨env, m, k, m', ρ, Hf, Fx, w, e, h, p⟩ := h
  obtain ⟨⟨x, m1⟩, h1, h⟩ := bind_some h
  obtain ⟨k1, h2, h⟩ := bind_some h
  cases x <;> cases h2
  refine ⟨env, m, k1, m1, ρ, Hf, Fx, w, e, h1, fun ρ1 Hf1 H1 g w1 => ?_⟩
  cases k1 with
  | false =>
    simp only [Bool.false_eq_true, if_false] at h ⊢
    cases h
    exact p ρ1 Hf1 H1 g w1
  | true =>
    simp only [if_true] at h ⊢
    obtain ⟨⟨y, m2⟩, h4, h⟩ := bind_some h
    obtain ⟨k2, h5, h6⟩ := map_some' h
    cases h6
    cases y <;> cases h5
    exact ⟨env, m1, k, _, ρ1, Hf1, Fx, w1, e.mono g, h4, fun ρ2 Hf2 H2 g2 w2 => p ρ2 Hf2 H2 (g.trans g2) w2⟩
theorem mw_or (ha : ET X G a A) (hb : EW X G (.BoolOp .Or (b :: rest) pos) B) : EW X G (.BoolOp .Or (a :: b :: rest) pos) (.or A B) := by
  refine PW.via (pw_or ha hb) fun σ H Q h => ?_
  obtain ⟨env, m, k, m', ρ, Hf, Fx, w, e, h, p⟩ := h
  obtain ⟨⟨x, m1⟩, h1, h⟩ := bind_some h
  obtain ⟨k1, h2, h⟩ := bind_some h
  cases x <;> cases h2
  refine ⟨env, m, k1, m1, ρ, Hf, Fx, w, e, h1, fun ρ1 Hf1 H1 g w1 => ?_⟩
  cases k1 with
  | true =>
    simp only [if_true] at h ⊢
    cases h
    exact p ρ1 Hf1 H1 g w1
  | false =>
    simp only [Bool.false_eq_true, if_false] at h ⊢
    obtain ⟨⟨y, m2⟩, h4, h⟩ := bind_some h
    obtain ⟨k2, h5, h6⟩ := map_some' h
    cases h6
    cases y <;> cases h5
    exact ⟨env, m1, k, _, ρ1, Hf1, Fx, w1, e.mono g, h4, fun ρ2 Hf2 H2 g2 w2 => p ρ2 Hf2 H2 (g.trans g2) w2⟩
theorem mt_w (h : EW X G a A) : ET X G a A := h.pt
theorem mb_ife {t : E} (hc : ET X G c t) (ha : EX X G a A) (hb : EX X G b B) : EX X G (.IfExp c a b pos) (.ife t A B) := by
  refine PE.via (pe_ifExp hc ha hb) fun σ H Q h => ?_
  obtain ⟨env, m, d, m', ρ, Hf, Fx, w, e, h, p⟩ := h
  obtain ⟨⟨x, m1⟩, h1, h⟩ := bind_some h
  obtain ⟨k1, h2, h⟩ := bind_some h
  cases x <;> cases h2
  refine ⟨env, m, k1, m1, ρ, Hf, Fx, w, e, h1, fun ρ1 Hf1 H1 g w1 => ?_⟩
  cases k1 with
  | true =>
    simp only [if_true] at h ⊢
    exact ⟨env, m1, d, m', ρ1, Hf1, Fx, w1, e.mono g, h, p.go g⟩
  | false =>
    simp only [Bool.false_eq_true, if_false] at h ⊢
    exact ⟨env, m1, d, m', ρ1, Hf1, Fx, w1, e.mono g, h, p.go g⟩
end
end MP
set_option Elab.async false
set_option linter.all false
set_option maxRecDepth 100000
set_option maxHeartbeats 1000000
/-! MiniPy 5: displays, subscripts, built-ins, isinstance, calls of defs. -/
namespace MP
open PySem PySem.Spec PyProof.Rows L2

section
variable {X : Cx} {G : Calls} {a b c : Expr} {es : List Expr} {A B C : E} {pos : Pos}
/-! ### arguments, displays -/
theorem ma_nil : EA X G [] .nil := by
  refine PA.via pa_nil fun σ H Q h => ?_
  obtain ⟨env, m, ds, m', ρ, Hf, Fx, w, e, h, p⟩ := h
  cases h
  exact p ρ Hf H [] (Gr.refl ρ Hf) w .nil
theorem ma_cons (ha : EX X G a A) (hr : EA X G es B) (hs : starEach (a :: es) X.env = (false, eval a X.env) :: starEach es X.env := by rfl) : EA X G (a :: es) (.cons A B) := by
  refine PA.via (pa_cons ha hr hs) fun σ H Q h => ?_
  obtain ⟨env, m, ds, m', ρ, Hf, Fx, w, e, h, p⟩ := h
  obtain ⟨⟨x, m1⟩, h1, h⟩ := bind_some h
  obtain ⟨⟨y, m2⟩, h2, h⟩ := bind_some h
  cases y <;> cases h
  exact one w e h1 fun ρ1 Hf1 H1 vx g w1 dx => args w1 (e.mono g) h2 fun ρ2 Hf2 H2 vs g2 w2 dy => p ρ2 Hf2 H2 _ (g.trans g2) w2 (.cons (dx.mono g2.pre g2.ex) dy)
theorem items_eq {K : PySem.W.Frag} {ρ : List Addr} {Hf Fx H : Hp} {m : Mem} {x : D} {v : V} {ds : List D} (w : Wd K ρ Hf Fx m H) (t : Den K ρ Hf x v) (h : x.items? = some ds) : ∃ p vs, v = .ref p ∧ (SqT K H p vs ∨ SqL K H p vs) ∧ DenAll K ρ Hf ds vs := by
  obtain ⟨p, vs, e, q, t⟩ := items_seq w t h
  exact ⟨p, vs, e, q.symm, t⟩
theorem ma_star {p' : Pos} (ha : EX X G a A) (hr : EA X G es B) (hs : starEach (.Starred a p' :: es) X.env = (true, eval a X.env) :: starEach es X.env := by rfl) : EA X G (.Starred a p' :: es) (.star A B) := by
  refine PA.via (StX.pa_star ha hr hs) fun σ H Q h => ?_
  obtain ⟨env, m, ds, m', ρ, Hf, Fx, w, e, h, p⟩ := h
  obtain ⟨⟨x, m1⟩, h1, h⟩ := bind_some h
  obtain ⟨⟨y, m2⟩, h2, h⟩ := bind_some h
  cases y with
  | tup ys =>
    obtain ⟨xs, h3, h4⟩ := bind_some h
    cases h4
    refine one w e h1 fun ρ1 Hf1 H1 vx g w1 dx => ?_
    obtain ⟨q, vs, e1, hq, t⟩ := items_eq w1 dx h3
    exact ⟨q, vs, e1, hq, args w1 (e.mono g) h2 fun ρ2 Hf2 H2 ws g2 w2 dy => p ρ2 Hf2 H2 _ (g.trans g2) w2 ((t.mono g2.pre g2.ex).append dy)⟩
  | _ => cases h
theorem mb_tup {k : Nat} (h : EA X G es A) : EX X G (.Tuple es k pos) (.tup A) := by
  refine PE.via (pe_tup h) fun σ H Q h => ?_
  obtain ⟨env, m, d, m', ρ, Hf, Fx, w, e, h, p⟩ := h
  obtain ⟨⟨x, m1⟩, h1, h⟩ := bind_some h
  cases x with
  | tup ds =>
    have h : (if sz ds.length = true then some (D.tup ds, m1) else none) = some (d, m') := h
    split at h
    · rename_i hs
      cases h
      exact args w e h1 fun ρ1 Hf1 H1 vs g w1 t => ⟨by rw [← t.length]; exact sz_line hs, fun q hq => post_tup (p.go g) w1 t hq⟩
    · cases h
  | _ => cases h
theorem mb_lst (h : EA X G es A) : EX X G (.List es pos) (.lst A) := by
  refine PE.via (pe_lst h) fun σ H Q h => ?_
  obtain ⟨env, m, d, m', ρ, Hf, Fx, w, e, h, p⟩ := h
  obtain ⟨⟨x, m1⟩, h1, h⟩ := bind_some h
  cases x with
  | tup ds =>
    have h : (if sz ds.length = true then some (D.lst ds, m1) else none) = some (d, m') := h
    split at h
    · rename_i hs
      cases h
      exact args w e h1 fun ρ1 Hf1 H1 vs g w1 t => ⟨by rw [← t.length]; exact sz_line hs, fun q hq => post_lst (p.go g) w1 t hq⟩
    · cases h
  | _ => cases h
theorem mb_lstH (h : EA X G es A) : EX X G (.List es pos) (.lstH A) := by
  refine PE.via (pe_lst h) fun σ H Q h => ?_
  obtain ⟨env, m, d, m', ρ, Hf, Fx, w, e, h, p⟩ := h
  obtain ⟨⟨x, m1⟩, h1, h⟩ := bind_some h
  cases x with
  | tup ds =>
    have h : (if sz ds.length = true then some (D.ref m1.length, m1 ++ [.lst ds]) else none) = some (d, m') := h
    split at h
    · rename_i hs
      cases h
      refine args w e h1 fun ρ1 Hf1 H1 vs g w1 t => ⟨by rw [← t.length]; exact sz_line hs, fun q hq => ?_⟩
      obtain ⟨w2, g2⟩ := w1.alloc hq t
      exact p _ _ _ _ (g.trans g2) w2 (.ref (by rw [← w1.len, List.getElem?_append_right (Nat.le_refl _)]; simp))
    · cases h
  | _ => cases h

/-! ### subscripts -/
theorem seq_of {K : PySem.W.Frag} {ρ : List Addr} {Hf Fx H : Hp} {m : Mem} {x : D} {v : V} {ds : List D} (w : Wd K ρ Hf Fx m H) (t : Den K ρ Hf x v) (h : seqOf m x = some ds) : ∃ p vs, v = .ref p ∧ (SqL K H p vs ∨ SqT K H p vs) ∧ DenAll K ρ Hf ds vs := by
  cases t with
  | tup s t => cases h; exact ⟨_, _, rfl, .inr (same_seqT w.ex s), t⟩
  | lst s t => cases h; exact ⟨_, _, rfl, .inl (.inl (.inl (w.ex _ _ s))), t⟩
  | fz s t => cases h; exact ⟨_, _, rfl, .inl (w.ex.seq s), t⟩
  | @ref k q e =>
    unfold seqOf at h
    simp only at h
    cases hm : m[k]? with
    | none => rw [hm] at h; cases h
    | some c =>
      cases c with
      | lst es =>
        rw [hm] at h
        cases h
        obtain ⟨vs, h1, h2⟩ := w.at e hm
        exact ⟨q, vs, rfl, .inl (.inl (.inl h1)), h2⟩
  | _ => cases h
theorem atI_den {K : PySem.W.Frag} {ρ : List Addr} {Hf : Hp} {ds : List D} {vs : List V} {i : Int} {d : D} (t : DenAll K ρ Hf ds vs) (h : atI ds i = some d) : ∃ v, atI vs i = some v ∧ Den K ρ Hf d v := by
  unfold atI at h ⊢
  rw [← t.length]
  obtain ⟨j, h1, h2⟩ := bind_some h
  obtain ⟨v, h3, h4⟩ := t.get h2
  exact ⟨v, by rw [h1]; exact h3, h4⟩
theorem mb_idx (ha : EX X G a A) (hb : EX X G b B) (hs : PlainIx b := by exact fun _ _ => rfl) : EX X G (.Subscript a b pos) (.idx A B) := by
  refine PE.via (pe_ix ix_seq ha hb hs) fun σ H Q h => ?_
  obtain ⟨env, m, d, m', ρ, Hf, Fx, w, e, h, p⟩ := h
  obtain ⟨⟨x, m1⟩, h1, h⟩ := bind_some h
  obtain ⟨⟨y, m2⟩, h2, h⟩ := bind_some h
  obtain ⟨d', h3, h4⟩ := map_some' h
  cases h4
  refine two w e h1 h2 fun ρ2 Hf2 H2 vx vy g w2 dx dy => ?_
  cases dy with
  | int i =>
    obtain ⟨ds, h5, h6⟩ := bind_some h3
    obtain ⟨q, vs, rfl, hq, t⟩ := seq_of w2 dx h5
    obtain ⟨v, h7, h8⟩ := atI_den t h6
    rcases hq with hq | hq
    · exact .inl ⟨q, vs, i, v, rfl, rfl, hq, h7, post_val (p.go g) w2 h8⟩
    · exact .inr (.inl ⟨q, vs, i, v, rfl, rfl, hq, h7, post_val (p.go g) w2 h8⟩)
  | _ => cases h3
theorem cut_den {K : PySem.W.Frag} {ρ : List Addr} {Hf : Hp} {ds : List D} {vs : List V} (t : DenAll K ρ Hf ds vs) (lo hi : Option Int) : DenAll K ρ Hf (cutD ds lo hi) (cutV vs lo hi) := by
  unfold cutD cutV
  rw [← t.length]
  exact (t.drop _).take _
/-- a part of a slice -/
abbrev EO (X : Cx) (G : Calls) (e : Option Expr) (f : Bool) (t : E) : Prop := PO X e (fun σ H Q => ∃ env m d m' l ρ Hf Fx, Wd X.K ρ Hf Fx m H ∧ EnvDen X.K ρ Hf env σ ∧ ev G t env m = some (d, m') ∧ part f d = some l ∧ PostB X.K ρ Hf Fx m' (Q l))
theorem PO.via {X : Cx} {e : Option Expr} {t t' : TO} (h : PO X e t) (k : ∀ σ H Q, t' σ H Q → t σ H Q) : PO X e t' := ⟨fun pins s σ H Q I q => h.run pins s σ H Q I (k σ H Q q)⟩
theorem mo_none : EO X G none false (.lit .non) := by
  refine PO.via po_none fun σ H Q h => ?_
  obtain ⟨env, m, d, m', l, ρ, Hf, Fx, w, e, h, h2, p⟩ := h
  cases h
  cases h2
  exact p ρ Hf H (Gr.refl ρ Hf) w
theorem mo_some (h : EX X G a A) : EO X G (some a) true A := by
  refine PO.via (po_some h) fun σ H Q h => ?_
  obtain ⟨env, m, d, m', l, ρ, Hf, Fx, w, e, h, h2, p⟩ := h
  refine one w e h fun ρ1 Hf1 H1 vx g w1 dx => ?_
  cases dx with
  | int i => cases h2; exact ⟨i, rfl, p ρ1 Hf1 H1 g w1⟩
  | _ => cases h2
def rSlAny (K : PySem.W.Frag) : V → Option Int → Option Int → Hp → VK → Prop := fun x lo hi H Q => rSlA K x lo hi H Q ∨ rSlL K x lo hi H Q
theorem mb_slc {lo hi : Option Expr} {fl fh : Bool} {L R : E} {p2 : Pos} (ha : EX X G a A) (hl : EO X G lo fl L) (hh : EO X G hi fh R) : EX X G (.Subscript a (.Slice lo hi none p2) pos) (.slc A fl fh L R) := by
  refine PE.via (pe_slice (sl_tupA.or sl_list) ha hl hh) fun σ H Q h => ?_
  obtain ⟨env, m, d, m', ρ, Hf, Fx, w, e, h, p⟩ := h
  obtain ⟨⟨x, m1⟩, h1, h⟩ := bind_some h
  obtain ⟨⟨y, m2⟩, h2, h⟩ := bind_some h
  obtain ⟨l, h3, h⟩ := bind_some h
  obtain ⟨⟨z, m3⟩, h4, h⟩ := bind_some h
  obtain ⟨u, h5, h⟩ := bind_some h
  obtain ⟨d', h6, h7⟩ := map_some' h
  cases h7
  refine one w e h1 fun ρ1 Hf1 H1 vx g w1 dx => ⟨env, m1, y, m2, l, ρ1, Hf1, Fx, w1, e.mono g, h2, h3, fun ρ2 Hf2 H2 g2 w2 => ?_⟩
  refine ⟨env, m2, z, m3, u, ρ2, Hf2, Fx, w2, e.mono (g.trans g2), h4, h5, fun ρ3 Hf3 H3 g3 w3 => ?_⟩
  have dx := dx.mono (g2.trans g3).pre (g2.trans g3).ex
  have pp := p.go (g.trans (g2.trans g3))
  cases dx with
  | @tup q vs ds s t =>
    cases h6
    refine .inl ⟨q, vs, rfl, same_seqT w3.ex s, fun hw => ?_, fun _ r hr => post_tup pp w3 (cut_den t l u) hr⟩
    have e1 : cutD ds l u = ds := by
      unfold cutD
      rw [t.length, hw.1, hw.2, List.drop_zero, Nat.sub_zero]
      exact List.take_of_length_le (Nat.le_of_eq t.length)
    rw [e1] at pp
    exact post_val pp w3 (.tup s t)
  | @lst q vs ds s t =>
    cases h6
    exact .inr ⟨q, vs, rfl, .inl (.inl (w3.ex _ _ s)), fun r hr => post_lst pp w3 (cut_den t l u) hr⟩
  | @fz q vs ds s t =>
    cases h6
    exact .inr ⟨q, vs, rfl, w3.ex.seq s, fun r hr => post_lst pp w3 (cut_den t l u) hr⟩
  | _ => cases h6

/-! ### built-ins -/
theorem blt_of {b : Blt} {r : List V → Hp → VK → Prop} {e : Expr} {es : List Expr} (hp : PE X c (tCB r (tA X.K G A)))
    (k : ∀ (ρ : List Addr) (Hf Fx H : Hp) (m : Mem) (ds : List D) (d : D) (vs : List V) (Q : VK), Wd X.K ρ Hf Fx m H → DenAll X.K ρ Hf ds vs → bltD m b ds = some d → PostE X.K ρ Hf Fx d m Q → r vs H Q) : EX X G c (.blt b A) := by
  refine PE.via hp fun σ H Q h => ?_
  obtain ⟨env, m, d, m', ρ, Hf, Fx, w, e, h, p⟩ := h
  obtain ⟨⟨x, m1⟩, h1, h⟩ := bind_some h
  cases x with
  | tup ds =>
    obtain ⟨d', h3, h4⟩ := map_some' h
    cases h4
    exact args w e h1 fun ρ1 Hf1 H1 vs g w1 t => k ρ1 Hf1 Fx H1 _ ds d vs Q w1 t h3 (p.go g)
  | _ => cases h
theorem den1 {K : PySem.W.Frag} {ρ : List Addr} {Hf : Hp} {d : D} {vs : List V} (t : DenAll K ρ Hf [d] vs) : ∃ v, vs = [v] ∧ Den K ρ Hf d v := by
  cases t with
  | cons h t => cases t; exact ⟨_, rfl, h⟩
theorem den2 {K : PySem.W.Frag} {ρ : List Addr} {Hf : Hp} {d e : D} {vs : List V} (t : DenAll K ρ Hf [d, e] vs) : ∃ v u, vs = [v, u] ∧ Den K ρ Hf d v ∧ Den K ρ Hf e u := by
  cases t with
  | cons h t =>
    obtain ⟨u, rfl, k⟩ := den1 t
    exact ⟨_, _, rfl, h, k⟩
section
variable {es : List Expr} {p' : Pos} (hm : ∀ x : Str, True)
theorem k_len (ρ : List Addr) (Hf Fx H : Hp) (m : Mem) (ds : List D) (d : D) (vs : List V) (Q : VK) (w : Wd X.K ρ Hf Fx m H) (t : DenAll X.K ρ Hf ds vs) (h : bltD m .len ds = some d) (p : PostE X.K ρ Hf Fx d m Q) :
    ∃ q ys, vs = [V.ref q] ∧ (SqL X.K H q ys ∨ SqT X.K H q ys) ∧ Q (.int ys.length) H := by
  match ds, h with
  | [x], h =>
    obtain ⟨es, h1, h2⟩ := bind_some h
    cases h2
    obtain ⟨v, rfl, t1⟩ := den1 t
    obtain ⟨q, vs, rfl, hq, t2⟩ := seq_of w t1 h1
    exact ⟨q, vs, rfl, hq, by rw [← t2.length]; exact post_val p w (.int _)⟩
end
theorem mb_len {p' : Pos} (hg : Gl X "len") (hm : X.mg "len" = none) (ha : EA X G (a :: es) A)
    (he : starEach (a :: es) X.env = (false, eval a X.env) :: starEach es X.env := by rfl) (hpl : (backTo pos (starEach es X.env)).any (·.1) = false := by rfl) : EX X G (.Call (.Name "len" p') (a :: es) [] pos) (.blt .len A) :=
  blt_of (e := a) (es := es) (pe_callB call_len_seq hg hm PySem.boot_len ha (by decide) (by decide) he hpl) k_len
theorem mb_abs {p' : Pos} (hg : Gl X "abs") (hm : X.mg "abs" = none) (ha : EA X G (a :: es) A)
    (he : starEach (a :: es) X.env = (false, eval a X.env) :: starEach es X.env := by rfl) (hpl : (backTo pos (starEach es X.env)).any (·.1) = false := by rfl) : EX X G (.Call (.Name "abs" p') (a :: es) [] pos) (.blt .abs A) :=
  blt_of (e := a) (es := es) (pe_callB call_abs hg hm (by decide +kernel) ha (by decide) (by decide) he hpl) fun ρ Hf Fx H m ds d vs Q w t h p => by
    match ds, h with
    | [.int i], h =>
      cases h
      obtain ⟨v, rfl, t1⟩ := den1 t
      cases t1
      exact ⟨i, rfl, post_val p w (.int _)⟩
theorem mb_intc {p' : Pos} (hg : Gl X "int") (hm : X.mg "int" = none) (ha : EA X G (a :: es) A)
    (he : starEach (a :: es) X.env = (false, eval a X.env) :: starEach es X.env := by rfl) (hpl : (backTo pos (starEach es X.env)).any (·.1) = false := by rfl) : EX X G (.Call (.Name "int" p') (a :: es) [] pos) (.blt .int A) :=
  blt_of (e := a) (es := es) (pe_callTy call_int1 hg hm (by decide +kernel) ha (by decide) (by decide) he hpl) fun ρ Hf Fx H m ds d vs Q w t h p => by
    match ds, h with
    | [.int i], h =>
      cases h
      obtain ⟨v, rfl, t1⟩ := den1 t
      cases t1
      exact .inl ⟨i, rfl, post_val p w (.int _)⟩
    | [.bl i], h =>
      cases h
      obtain ⟨v, rfl, t1⟩ := den1 t
      cases t1
      exact .inr ⟨i, rfl, post_val p w (.int _)⟩
theorem ints_den {K : PySem.W.Frag} {ρ : List Addr} {Hf : Hp} : ∀ {ds : List D} {vs : List V} {ns : List Int}, DenAll K ρ Hf ds vs → ints? ds = some ns → vs = ns.map V.int
  | [], _, ns, .nil, h => by cases h; rfl
  | d :: ds, _, ns, .cons h1 t, h => by
    cases d with
    | int i =>
      obtain ⟨r, h2, h3⟩ := map_some' h
      subst h3
      cases h1
      rw [ints_den t h2]
      rfl
    | _ => cases h
theorem bools_den {K : PySem.W.Frag} {ρ : List Addr} {Hf : Hp} : ∀ {ds : List D} {vs : List V} {ns : List Bool}, DenAll K ρ Hf ds vs → bools? ds = some ns → vs = ns.map V.bl
  | [], _, ns, .nil, h => by cases h; rfl
  | d :: ds, _, ns, .cons h1 t, h => by
    cases d with
    | bl i =>
      obtain ⟨r, h2, h3⟩ := map_some' h
      subst h3
      cases h1
      rw [bools_den t h2]
      rfl
    | _ => cases h
theorem mb_sum {p' : Pos} (hc : X.calm = true) (hg : Gl X "sum") (hm : X.mg "sum" = none) (ha : EA X G (a :: es) A)
    (he : starEach (a :: es) X.env = (false, eval a X.env) :: starEach es X.env := by rfl) (hpl : (backTo pos (starEach es X.env)).any (·.1) = false := by rfl) : EX X G (.Call (.Name "sum" p') (a :: es) [] pos) (.blt .sum A) :=
  blt_of (e := a) (es := es) (pe_callB (cr_sum hc) hg hm (by decide +kernel) ha (by decide) (by decide) he hpl) fun ρ Hf Fx H m ds d vs Q w t h p => by
    match ds, h with
    | [.lst es], h =>
      obtain ⟨ns, h1, h2⟩ := map_some' h
      subst h2
      obtain ⟨v, rfl, t1⟩ := den1 t
      cases t1 with
      | @lst q ws _ s t2 =>
        have e := ints_den t2 h1
        subst e
        exact ⟨q, ns, rfl, .inl (.inl (w.ex _ _ s)), post_val p w (.int _)⟩
theorem mb_any {p' : Pos} (hc : X.calm = true) (hg : Gl X "any") (hm : X.mg "any" = none) (ha : EA X G (a :: es) A)
    (he : starEach (a :: es) X.env = (false, eval a X.env) :: starEach es X.env := by rfl) (hpl : (backTo pos (starEach es X.env)).any (·.1) = false := by rfl) : EX X G (.Call (.Name "any" p') (a :: es) [] pos) (.blt .any A) :=
  blt_of (e := a) (es := es) (pe_callB (cr_any hc) hg hm (by decide +kernel) ha (by decide) (by decide) he hpl) fun ρ Hf Fx H m ds d vs Q w t h p => by
    match ds, h with
    | [.lst es], h =>
      obtain ⟨ns, h1, h2⟩ := map_some' h
      subst h2
      obtain ⟨v, rfl, t1⟩ := den1 t
      cases t1 with
      | @lst q ws _ s t2 =>
        have e := bools_den t2 h1
        subst e
        exact ⟨q, ns, rfl, .inl (.inl (w.ex _ _ s)), post_val p w (.bl _)⟩
theorem mb_all {p' : Pos} (hc : X.calm = true) (hg : Gl X "all") (hm : X.mg "all" = none) (ha : EA X G (a :: es) A)
    (he : starEach (a :: es) X.env = (false, eval a X.env) :: starEach es X.env := by rfl) (hpl : (backTo pos (starEach es X.env)).any (·.1) = false := by rfl) : EX X G (.Call (.Name "all" p') (a :: es) [] pos) (.blt .all A) :=
  blt_of (e := a) (es := es) (pe_callB (cr_all hc) hg hm (by decide +kernel) ha (by decide) (by decide) he hpl) fun ρ Hf Fx H m ds d vs Q w t h p => by
    match ds, h with
    | [.lst es], h =>
      obtain ⟨ns, h1, h2⟩ := map_some' h
      subst h2
      obtain ⟨v, rfl, t1⟩ := den1 t
      cases t1 with
      | @lst q ws _ s t2 =>
        have e := bools_den t2 h1
        subst e
        exact ⟨q, ns, rfl, .inl (.inl (w.ex _ _ s)), post_val p w (.bl _)⟩
theorem mb_max {p' : Pos} (hc : X.calm = true) (hg : Gl X "max") (hm : X.mg "max" = none) (ha : EA X G (a :: es) A)
    (he : starEach (a :: es) X.env = (false, eval a X.env) :: starEach es X.env := by rfl) (hpl : (backTo pos (starEach es X.env)).any (·.1) = false := by rfl) : EX X G (.Call (.Name "max" p') (a :: es) [] pos) (.blt .max2 A) :=
  blt_of (e := a) (es := es) (pe_callB (call_max2 hc) hg hm (by decide +kernel) ha (by decide) (by decide) he hpl) fun ρ Hf Fx H m ds d vs Q w t h p => by
    match ds, h with
    | [.int i, .int j], h =>
      cases h
      obtain ⟨v, u, rfl, t1, t2⟩ := den2 t
      cases t1
      cases t2
      exact ⟨i, j, rfl, post_val p w (.int _)⟩
theorem mb_min {p' : Pos} (hc : X.calm = true) (hg : Gl X "min") (hm : X.mg "min" = none) (ha : EA X G (a :: es) A)
    (he : starEach (a :: es) X.env = (false, eval a X.env) :: starEach es X.env := by rfl) (hpl : (backTo pos (starEach es X.env)).any (·.1) = false := by rfl) : EX X G (.Call (.Name "min" p') (a :: es) [] pos) (.blt .min2 A) :=
  blt_of (e := a) (es := es) (pe_callB (call_min2 hc) hg hm (by decide +kernel) ha (by decide) (by decide) he hpl) fun ρ Hf Fx H m ds d vs Q w t h p => by
    match ds, h with
    | [.int i, .int j], h =>
      cases h
      obtain ⟨v, u, rfl, t1, t2⟩ := den2 t
      cases t1
      cases t2
      exact ⟨i, j, rfl, post_val p w (.int _)⟩
theorem mb_list {p' : Pos} (hg : Gl X "list") (hm : X.mg "list" = none) (ha : EA X G (a :: es) A)
    (he : starEach (a :: es) X.env = (false, eval a X.env) :: starEach es X.env := by rfl) (hpl : (backTo pos (starEach es X.env)).any (·.1) = false := by rfl) : EX X G (.Call (.Name "list" p') (a :: es) [] pos) (.blt .list A) :=
  blt_of (e := a) (es := es) (pe_callTy call_list_of hg hm (by decide +kernel) ha (by decide) (by decide) he hpl) fun ρ Hf Fx H m ds d vs Q w t h p => by
    match ds, h with
    | [x], h =>
      obtain ⟨es, h1, h2⟩ := map_some' h
      subst h2
      obtain ⟨v, rfl, t1⟩ := den1 t
      obtain ⟨q, ws, rfl, hq, t2⟩ := seq_of w t1 h1
      exact ⟨q, ws, rfl, hq, fun l hl => post_lst p w t2 hl⟩
    | _ :: _ :: _, h => simp [bltD] at h
theorem mb_tuple {p' : Pos} (hg : Gl X "tuple") (hm : X.mg "tuple" = none) (ha : EA X G (a :: es) A)
    (he : starEach (a :: es) X.env = (false, eval a X.env) :: starEach es X.env := by rfl) (hpl : (backTo pos (starEach es X.env)).any (·.1) = false := by rfl) : EX X G (.Call (.Name "tuple" p') (a :: es) [] pos) (.blt .tuple A) :=
  blt_of (e := a) (es := es) (pe_callTy call_tuple_of hg hm (by decide +kernel) ha (by decide) (by decide) he hpl) fun ρ Hf Fx H m ds d vs Q w t h p => by
    match ds, h with
    | [x], h =>
      obtain ⟨v, rfl, t1⟩ := den1 t
      have key : seqOf m x = none ∨ ∃ es, seqOf m x = some es := by
        cases seqOf m x with
        | none => exact .inl rfl
        | some es => exact .inr ⟨es, rfl⟩
      cases x with
      | tup es =>
        cases h
        cases t1 with
        | @tup q ws _ s t2 => exact ⟨q, ws, rfl, .inr ⟨same_seqT w.ex s, post_val p w (.tup s t2)⟩⟩
      | lst es =>
        cases h
        cases t1 with
        | @lst q ws _ s t2 => exact ⟨q, ws, rfl, .inl ⟨.inl (.inl (w.ex _ _ s)), fun l hl => post_tup p w t2 hl⟩⟩
      | fz es =>
        cases h
        cases t1 with
        | @fz q ws _ s t2 => exact ⟨q, ws, rfl, .inl ⟨w.ex.seq s, fun l hl => post_tup p w t2 hl⟩⟩
      | ref n =>
        obtain ⟨es, h1, h2⟩ := map_some' h
        subst h2
        cases t1 with
        | @ref n q e =>
          unfold seqOf at h1
          simp only at h1
          cases hm : m[n]? with
          | none => rw [hm] at h1; cases h1
          | some c =>
            cases c with
            | lst es =>
              rw [hm] at h1
              cases h1
              obtain ⟨ws, h3, h4⟩ := w.at e hm
              exact ⟨q, ws, rfl, .inl ⟨.inl (.inl h3), fun l hl => post_tup p w h4 hl⟩⟩
      | _ => cases h
    | _ :: _ :: _, h => simp [bltD] at h

/-! ### isinstance -/
def Ty.name : Ty → String
  | .non => "NoneType" | .bool => "bool" | .int => "int" | .str => "str" | .tup => "tuple" | .lst => "list"
theorem kit_sub : ∀ a b : Ty, b ≠ .non → kitB a.name b.name = some (Ty.sub a b) := by
  intro a b hb
  cases b with
  | non => exact absurd rfl hb
  | bool => cases a <;> decide +kernel
  | int => cases a <;> decide +kernel
  | str => cases a <;> decide +kernel
  | tup => cases a <;> decide +kernel
  | lst => cases a <;> decide +kernel
theorem den_ty {K : PySem.W.Frag} {ρ : List Addr} {Hf Fx H : Hp} {m : Mem} {x : D} {v : V} (w : Wd K ρ Hf Fx m H) (t : Den K ρ Hf x v) : TyX K H v (.type x.ty.name) := by
  cases t with
  | non => exact .base .non
  | bl b => exact .base (.bl b)
  | int i => exact .base (.int i)
  | str x => exact .base (.str x)
  | tup s t =>
    rcases same_seqT w.ex s with (h | ⟨o, h⟩) | ⟨o, its, n, h1, h2, _⟩
    · exact .base (.tup h)
    · exact .fTuple h
    · exact .kTuple h1 h2
  | lst s t => exact .base (.lst (w.ex _ _ s))
  | fz s t =>
    rcases w.ex.seq s with (h | ⟨o, h⟩) | ⟨o, its, n, h1, h2, _⟩
    · exact .base (.lst h)
    · exact .base (.frz h)
    · exact .kList h1 h2
  | ref e =>
    obtain ⟨xs, h⟩ := w.live (List.mem_of_getElem? e)
    exact .base (.lst h)
theorem mb_isi {p' q : Pos} {tn : Str} {ty : Ty} (hty : ty ≠ .non) (hg : Gl X "isinstance") (hm : X.mg "isinstance" = none) (hg2 : Gl X tn) (hm2 : X.mg tn = none) (hv : bootBuiltins tn = some (.type ty.name)) (ha : EX X G a A)
    (h1 : starEach [a, .Name tn q] X.env = (false, eval a X.env) :: starEach [.Name tn q] X.env := by rfl) (h2 : starEach [Expr.Name tn q] X.env = (false, eval (.Name tn q) X.env) :: starEach [] X.env := by rfl) (hn : tn ≠ "__name__" := by decide) (hd : (tn == ("__debug__" : Str)) = false := by decide)
    (hpl : (backTo pos (starEach [Expr.Name tn q] X.env)).any (·.1) = false := by rfl) :
    EX X G (.Call (.Name "isinstance" p') [a, .Name tn q] [] pos) (.isi A [ty]) := by
  refine PE.via (pe_callB call_isi hg hm (by decide +kernel) (pa_cons ha (pa_cons (pe_bltn (v := .ty ty.name) hg2 hm2 hv rfl hn hd) pa_nil h2) h1) (by decide) (by decide) h1 hpl) fun σ H Q h => ?_
  obtain ⟨env, m, d, m', ρ, Hf, Fx, w, e, h, p⟩ := h
  obtain ⟨⟨x, m1⟩, h1, h⟩ := bind_some h
  cases h
  refine one w e h1 fun ρ1 Hf1 H1 vx g w1 dx => ?_
  refine ⟨vx, .ty ty.name, _, _, Ty.sub x.ty ty, rfl, .ty _, den_ty w1 dx, kit_ty (kit_sub _ _ hty), ?_⟩
  have := p ρ1 Hf1 H1 (.bl (Ty.sub x.ty ty)) g w1 (by
    have e : ([ty].any fun t => Ty.sub x.ty t) = Ty.sub x.ty ty := by simp
    show Den _ _ _ (.bl ([ty].any fun t => Ty.sub x.ty t)) _
    rw [e]
    exact .bl _)
  exact this
/-- isinstance(x, (tuple, list)) -/
theorem mb_isi2 {p' q1 q2 q3 : Pos} {k : Nat} {tn un : Str} {ty uy : Ty} (hty : ty ≠ .non) (huy : uy ≠ .non) (hg : Gl X "isinstance") (hm : X.mg "isinstance" = none) (hg2 : Gl X tn) (hm2 : X.mg tn = none) (hv : bootBuiltins tn = some (.type ty.name))
    (hg3 : Gl X un) (hm3 : X.mg un = none) (hv3 : bootBuiltins un = some (.type uy.name)) (ha : EX X G a A)
    (h1 : starEach [a, .Tuple [.Name tn q1, .Name un q2] k q3] X.env = (false, eval a X.env) :: starEach [.Tuple [.Name tn q1, .Name un q2] k q3] X.env := by rfl)
    (h2 : starEach [Expr.Tuple [.Name tn q1, .Name un q2] k q3] X.env = (false, eval (.Tuple [.Name tn q1, .Name un q2] k q3) X.env) :: starEach [] X.env := by rfl)
    (h3 : starEach [Expr.Name tn q1, .Name un q2] X.env = (false, eval (.Name tn q1) X.env) :: starEach [.Name un q2] X.env := by rfl)
    (h4 : starEach [Expr.Name un q2] X.env = (false, eval (.Name un q2) X.env) :: starEach [] X.env := by rfl)
    (hn : tn ≠ "__name__" := by decide) (hd : (tn == ("__debug__" : Str)) = false := by decide) (hn3 : un ≠ "__name__" := by decide) (hd3 : (un == ("__debug__" : Str)) = false := by decide)
    (hpl : (backTo pos (starEach [Expr.Tuple [.Name tn q1, .Name un q2] k q3] X.env)).any (·.1) = false := by rfl) :
    EX X G (.Call (.Name "isinstance" p') [a, .Tuple [.Name tn q1, .Name un q2] k q3] [] pos) (.isi A [ty, uy]) := by
  refine PE.via (pe_callB call_isiT hg hm (by decide +kernel) (pa_cons ha (pa_cons (pe_tup (pa_cons (pe_bltn (v := .ty ty.name) hg2 hm2 hv rfl hn hd) (pa_cons (pe_bltn (v := .ty uy.name) hg3 hm3 hv3 rfl hn3 hd3) pa_nil h4) h3)) pa_nil h2) h1) (by decide) (by decide) h1 hpl) fun σ H Q h => ?_
  obtain ⟨env, m, d, m', ρ, Hf, Fx, w, e, h, p⟩ := h
  obtain ⟨⟨x, m1⟩, h1, h⟩ := bind_some h
  cases h
  refine one w e h1 fun ρ1 Hf1 H1 vx g w1 dx => ?_
  refine ⟨by show 2 ≤ sizeLine; decide, fun tp htp => ?_⟩
  obtain ⟨w2, g2⟩ := w1.laid (o := .tup [.ty ty.name, .ty uy.name]) htp
  refine ⟨vx, tp, [.ty ty.name, .ty uy.name], _, [.type ty.name, .type uy.name], Ty.sub x.ty ty || Ty.sub x.ty uy, rfl, upd_same, .cons (.ty _) (.cons (.ty _) .nil), den_ty w2 (dx.mono g2.pre g2.ex), ?_, ?_⟩
  · refine kitAny_cons (kit_ty (kit_sub _ _ hty)) (fun hf => ?_) fun ht => by rw [ht]; rfl
    rw [hf, Bool.false_or]
    refine kitAny_cons (kit_ty (kit_sub _ _ huy)) (fun hf => ?_) fun ht => by rw [ht]
    rw [hf]
    rfl
  · have := p ρ1 _ _ (.bl (Ty.sub x.ty ty || Ty.sub x.ty uy)) (g.trans g2) w2 (by
      have e : ([ty, uy].any fun t => Ty.sub x.ty t) = (Ty.sub x.ty ty || Ty.sub x.ty uy) := by simp
      show Den _ _ _ (.bl ([ty, uy].any fun t => Ty.sub x.ty t)) _
      rw [e]
      exact .bl _)
    exact this
end
end MP
set_option Elab.async false
set_option linter.all false
set_option maxRecDepth 100000
set_option maxHeartbeats 1000000
/-! MiniPy 6: calls of defs. -/
namespace MP
open PySem PySem.Spec PyProof.Rows L2

/-- what a def keeps: it does what F tells -/
def spK (K : PySem.W.Frag) (F : List D → Mem → Option (D × Mem)) : Sp := fun vs H Q _ => ∃ ds m d m' ρ Hf Fx, Wd K ρ Hf Fx m H ∧ DenAll K ρ Hf ds vs ∧ F ds m = some (d, m') ∧ PostE K ρ Hf Fx d m' Q
/-- the def called x, at most k levels deep -/
structure Callee (P : Program) (w : World) (K : PySem.W.Frag) (mg : Str → Option Value) (base : Heap) (k : Nat) (x : Str) (F : List D → Mem → Option (D × Mem)) : Prop where
  ex : ∃ f fd ps, mg x = some (.ref f) ∧ PySem.W.keepIn K (.ref f) = true ∧ Binds K fd ps [] ∧ FnOk P w K mg base CX0 k f fd ps (spK K F)

section
variable {K : PySem.W.Frag} {ρ ρ1 : List Addr} {Hf Hf1 Fx H H1 : Hp} {m m1 : Mem}
/-- a def is entered that gets no reference: the memory is a frame -/
theorem Wd.enter (w : Wd K ρ Hf Fx m H) : Wd K [] Hf (fun a => if a ∈ ρ then H a else Fx a) [] H := by
  refine ⟨w.ex, fun a o e => ?_, fun a o e => ⟨?_, by simp⟩, List.nodup_nil, fun a h => by simp at h, rfl, fun n a c e => by simp at e⟩
  · by_cases h : a ∈ ρ
    · simp only [h, if_true] at e
      exact e
    · simp only [h, if_false] at e
      exact w.fx a o e
  · by_cases h : a ∈ ρ
    · exact w.fr a h
    · simp only [h, if_false] at e
      exact (w.dj a o e).1
theorem Wd.leave (w : Wd K ρ Hf Fx m H) (w1 : Wd K ρ1 Hf1 (fun a => if a ∈ ρ then H a else Fx a) m1 H1) (g : Gr [] Hf ρ1 Hf1) :
    Wd K ρ (fun a => if a ∈ ρ1 then H1 a else Hf1 a) Fx m H1 ∧ Gr ρ Hf ρ (fun a => if a ∈ ρ1 then H1 a else Hf1 a) := by
  have s1 : Same Hf1 (fun a => if a ∈ ρ1 then H1 a else Hf1 a) := fun a o e => by
    have : a ∉ ρ1 := fun z => by rw [w1.fr a z] at e; cases e
    simp only [this, if_false]
    exact e
  have out : ∀ a ∈ ρ, a ∉ ρ1 ∧ H1 a = H a := fun a ha => by
    obtain ⟨xs, hx⟩ := w.live ha
    have hF : (fun a => if a ∈ ρ then H a else Fx a) a = some (.lst xs) := by simp only [ha, if_true]; exact hx
    exact ⟨(w1.dj a _ hF).2, (w1.fx a _ hF).trans hx.symm⟩
  have gg : Gr ρ Hf ρ (fun a => if a ∈ ρ1 then H1 a else Hf1 a) := ⟨Pre.refl ρ, g.ex.trans s1⟩
  refine ⟨⟨fun a o e => ?_, fun a o e => ?_, fun a o e => ?_, w.nd, fun a ha => ?_, w.len, fun n a c e1 e2 => ?_⟩, gg⟩
  · by_cases h : a ∈ ρ1
    · simp only [h, if_true] at e
      exact e
    · simp only [h, if_false] at e
      exact w1.ex a o e
  · have hn := (w.dj a o e).2
    exact w1.fx a o (by simp only [hn, if_false]; exact e)
  · have hn := (w.dj a o e).2
    have h2 := w1.dj a o (by simp only [hn, if_false]; exact e)
    refine ⟨?_, hn⟩
    simp only [h2.2, if_false]
    exact h2.1
  · have h2 := out a ha
    obtain ⟨xs, hx⟩ := w.live ha
    have hF : (fun a => if a ∈ ρ then H a else Fx a) a = some (.lst xs) := by simp only [ha, if_true]; exact hx
    simp only [h2.1, if_false]
    exact (w1.dj a _ hF).1
  · have ha := List.mem_of_getElem? e1
    rw [(out a ha).2]
    exact (w.cell n a c e1 e2).mono gg.pre gg.ex
theorem sealD_den (w1 : Wd K ρ1 Hf1 Fx m1 H1) {d r : D} {v : V} (h : sealD m1 d = some r) (t : Den K ρ1 Hf1 d v) : Den K ρ (fun a => if a ∈ ρ1 then H1 a else Hf1 a) r v := by
  have s1 : Same Hf1 (fun a => if a ∈ ρ1 then H1 a else Hf1 a) := fun a o e => by
    have : a ∉ ρ1 := fun z => by rw [w1.fr a z] at e; cases e
    simp only [this, if_false]
    exact e
  cases t with
  | @ref k q e =>
    unfold sealD at h
    simp only at h
    cases hm : m1[k]? with
    | none => rw [hm] at h; cases h
    | some c =>
      cases c with
      | lst ds =>
        rw [hm] at h
        simp only at h
        split at h
        · rename_i hn
          cases h
          obtain ⟨vs, h1, h2⟩ := w1.at e hm
          refine .lst ?_ (h2.any s1 hn)
          simp only [List.mem_of_getElem? e, if_true]
          exact h1
        · cases h
  | non => cases h; exact .non
  | bl b => cases h; exact .bl b
  | int i => cases h; exact .int i
  | str x => cases h; exact .str x
  | tup a b =>
    have h : (if (D.tup _).noRef = true then some (D.tup _) else none) = some r := h
    split at h
    · rename_i hn
      cases h
      exact (Den.tup a b).any s1 hn
    · cases h
  | lst a b =>
    have h : (if (D.lst _).noRef = true then some (D.lst _) else none) = some r := h
    split at h
    · rename_i hn
      cases h
      exact (Den.lst a b).any s1 hn
    · cases h
  | fz a b =>
    have h : (if (D.fz _).noRef = true then some (D.fz _) else none) = some r := h
    split at h
    · rename_i hn
      cases h
      exact (Den.fz a b).any s1 hn
    · cases h
/-- .. that gets the memory's lists to read alone -/
theorem Wd.enterB (w : Wd K ρ Hf Fx m H) : Wd K [] (fun a => if a ∈ ρ then H a else Hf a) Fx [] H := by
  refine ⟨fun a o e => ?_, w.fx, fun a o e => ⟨?_, by simp⟩, List.nodup_nil, fun a h => by simp at h, rfl, fun n a c e => by simp at e⟩
  · by_cases h : a ∈ ρ
    · simp only [h, if_true] at e
      exact e
    · simp only [h, if_false] at e
      exact w.ex a o e
  · have h := w.dj a o e
    simp only [h.2, if_false]
    exact h.1
theorem Wd.leaveB (w : Wd K ρ Hf Fx m H) (w1 : Wd K ρ1 Hf1 Fx m1 H1) (g : Gr [] (fun a => if a ∈ ρ then H a else Hf a) ρ1 Hf1) :
    Wd K ρ (fun a => if a ∈ ρ then none else Hf1 a) Fx m H1 ∧ Gr ρ Hf ρ (fun a => if a ∈ ρ then none else Hf1 a) ∧ ∀ a xs, SqT K Hf1 a xs → SqT K (fun a => if a ∈ ρ then none else Hf1 a) a xs := by
  have out : ∀ a ∈ ρ, ∃ xs, H a = some (.lst xs) ∧ Hf1 a = some (.lst xs) ∧ H1 a = some (.lst xs) := fun a ha => by
    obtain ⟨xs, hx⟩ := w.live ha
    have h2 := g.ex a _ (show (fun a => if a ∈ ρ then H a else Hf a) a = some (.lst xs) by simp only [ha, if_true]; exact hx)
    exact ⟨xs, hx, h2, w1.ex a _ h2⟩
  have gg : Gr ρ Hf ρ (fun a => if a ∈ ρ then none else Hf1 a) := ⟨Pre.refl ρ, fun a o e => by
    have : a ∉ ρ := fun z => by rw [w.fr a z] at e; cases e
    simp only [this, if_false]
    exact g.ex a o (by simp only [this, if_false]; exact e)⟩
  refine ⟨⟨fun a o e => ?_, w1.fx, fun a o e => ⟨?_, (w.dj a o e).2⟩, w.nd, fun a ha => ?_, w.len, fun n a c e1 e2 => ?_⟩, gg, fun a xs q => ?_⟩
  · by_cases h : a ∈ ρ
    · simp only [h, if_true] at e
      cases e
    · simp only [h, if_false] at e
      exact w1.ex a o e
  · simp only [(w.dj a o e).2, if_false]
    exact (w1.dj a o e).1
  · simp only [ha, if_true]
  · obtain ⟨xs, h1, _, h3⟩ := out a (List.mem_of_getElem? e1)
    have c1 := w.cell n a c e1 e2
    rw [h1] at c1
    rw [h3]
    exact c1.mono gg.pre gg.ex
  · have no : a ∈ ρ → ∀ o, Hf1 a = some o → (∃ xs, o = .lst xs) := fun ha o e => by
      obtain ⟨ys, _, h2, _⟩ := out a ha
      rw [h2] at e
      exact ⟨ys, (Option.some.inj e).symm⟩
    rcases q with (h | ⟨o, h⟩) | h
    · have : a ∉ ρ := fun z => by obtain ⟨ys, e⟩ := no z _ h; cases e
      exact .inl (.inl (by simp only [this, if_false]; exact h))
    · have : a ∉ ρ := fun z => by obtain ⟨ys, e⟩ := no z _ h; cases e
      exact .inl (.inr ⟨o, by simp only [this, if_false]; exact h⟩)
    · exact .inr h
theorem derefs_den (w : Wd K ρ Hf Fx m H) : ∀ {ds es : List D} {vs : List V}, derefs m ds = some es → DenAll K ρ Hf ds vs → DenAll K [] (fun a => if a ∈ ρ then H a else Hf a) es vs
  | [], _, _, h, .nil => by cases h; exact .nil
  | d :: ds, es, _, h, .cons t ts => by
    obtain ⟨d', h1, h⟩ := bind_some h
    have s1 : Same Hf (fun a => if a ∈ ρ then H a else Hf a) := fun a o e => by
      have : a ∉ ρ := fun z => by rw [w.fr a z] at e; cases e
      simp only [this, if_false]
      exact e
    split at h
    · rename_i hn
      obtain ⟨es', h2, h3⟩ := map_some' h
      subst h3
      refine .cons ?_ (derefs_den w h2 ts)
      cases t with
      | @ref k q e =>
        unfold deref at h1
        simp only at h1
        cases hm : m[k]? with
        | none => rw [hm] at h1; cases h1
        | some c =>
          cases c with
          | lst xs =>
            rw [hm] at h1
            simp only at h1
            split at h1
            · rename_i hn
              cases h1
              obtain ⟨vs, h4, h5⟩ := w.at e hm
              refine .lst ?_ (h5.any s1 hn)
              simp only [List.mem_of_getElem? e, if_true]
              exact h4
            · cases h1
      | non => cases h1; exact .non
      | bl b => cases h1; exact .bl b
      | int i => cases h1; exact .int i
      | str x => cases h1; exact .str x
      | tup a b => cases h1; exact (Den.tup a b).any s1 hn
      | lst a b => cases h1; exact (Den.lst a b).any s1 hn
      | fz a b => cases h1; exact (Den.fz a b).any s1 hn
    · cases h
end

section
variable {X : Cx} {G : Calls} {a : Expr} {es : List Expr} {A : E} {p pos : Pos} {k i : Nat} {x : Str}
theorem mb_callK (T : Callee X.prog X.w X.K X.mg X.base k x (G i)) (hr : Room k X.A) (hg : Gl X x) (ha : EA X G (a :: es) A) (hdb : (x == ("__debug__" : Str)) = false := by decide)
    (he : starEach (a :: es) X.env = (false, eval a X.env) :: starEach es X.env := by rfl) (hpl : (backTo pos (starEach es X.env)).any (·.1) = false := by rfl) : EX X G (.Call (.Name x p) (a :: es) [] pos) (.callK i A) := by
  obtain ⟨f, fd, ps, hm, hk, hb, F⟩ := T.ex
  refine PE.via (pe_call (E := E0) F hr hg hm hk hb .nil pass0 ha hdb he hpl) fun σ H Q h => ?_
  obtain ⟨env, m, d, m', ρ, Hf, Fx, w, e, h, q⟩ := h
  obtain ⟨⟨y, m1⟩, h1, h⟩ := bind_some h
  cases y with
  | tup ds =>
    refine args w e h1 fun ρ1 Hf1 H1 vs g w1 t => ?_
    rw [List.append_nil]
    exact ⟨ds, m1, d, m', ρ1, Hf1, Fx, w1, t, h, q.go g⟩
  | _ => cases h
theorem mb_callP (T : Callee X.prog X.w X.K X.mg X.base k x (G i)) (hr : Room k X.A) (hg : Gl X x) (ha : EA X G (a :: es) A) (hdb : (x == ("__debug__" : Str)) = false := by decide)
    (he : starEach (a :: es) X.env = (false, eval a X.env) :: starEach es X.env := by rfl) (hpl : (backTo pos (starEach es X.env)).any (·.1) = false := by rfl) : EX X G (.Call (.Name x p) (a :: es) [] pos) (.callP i A) := by
  obtain ⟨f, fd, ps, hm, hk, hb, F⟩ := T.ex
  refine PE.via (pe_call (E := E0) F hr hg hm hk hb .nil pass0 ha hdb he hpl) fun σ H Q h => ?_
  obtain ⟨env, m, d, m', ρ, Hf, Fx, w, e, h, q⟩ := h
  obtain ⟨⟨y, m1⟩, h1, h⟩ := bind_some h
  cases y with
  | tup ds =>
    obtain ⟨d', h2, h3⟩ := map_some' h
    cases h3
    refine args w e h1 fun ρ1 Hf1 H1 vs g w1 t => ?_
    rw [List.append_nil]
    unfold callP at h2
    split at h2
    · rename_i hn
      obtain ⟨⟨r, m2⟩, h4, h5⟩ := bind_some h2
      refine ⟨ds, [], r, m2, [], Hf1, _, w1.enter, t.any (Same.refl Hf1) hn, h4, fun ρ2 Hf2 H2 v g2 w2 t2 => ?_⟩
      obtain ⟨w3, g3⟩ := w1.leave w2 g2
      exact q _ _ _ v (g.trans g3) w3 (sealD_den w2 h5 t2)
    · cases h2
  | _ => cases h
theorem mb_callB (T : Callee X.prog X.w X.K X.mg X.base k x (G i)) (hr : Room k X.A) (hg : Gl X x) (ha : EA X G (a :: es) A) (hdb : (x == ("__debug__" : Str)) = false := by decide)
    (he : starEach (a :: es) X.env = (false, eval a X.env) :: starEach es X.env := by rfl) (hpl : (backTo pos (starEach es X.env)).any (·.1) = false := by rfl) : EX X G (.Call (.Name x p) (a :: es) [] pos) (.callB i A) := by
  obtain ⟨f, fd, ps, hm, hk, hb, F⟩ := T.ex
  refine PE.via (pe_call (E := E0) F hr hg hm hk hb .nil pass0 ha hdb he hpl) fun σ H Q h => ?_
  obtain ⟨env, m, d, m', ρ, Hf, Fx, w, e, h, q⟩ := h
  obtain ⟨⟨y, m1⟩, h1, h⟩ := bind_some h
  cases y with
  | tup ds =>
    obtain ⟨d', h2, h3⟩ := map_some' h
    cases h3
    refine args w e h1 fun ρ1 Hf1 H1 vs g w1 t => ?_
    rw [List.append_nil]
    obtain ⟨es', h4, h5⟩ := bind_some h2
    obtain ⟨⟨r, m2⟩, h6, h7⟩ := bind_some h5
    split at h7
    · rename_i hf
      cases h7
      refine ⟨es', [], r, m2, [], _, Fx, w1.enterB, derefs_den w1 h4 t, h6, fun ρ2 Hf2 H2 v g2 w2 t2 => ?_⟩
      obtain ⟨w3, g3, st⟩ := w1.leaveB w2 g2
      exact q _ _ _ v (g.trans g3) w3 (t2.onT st hf)
    · cases h7
  | _ => cases h
end
end MP
set_option Elab.async false
set_option linter.all false
set_option maxRecDepth 100000
set_option maxHeartbeats 1000000
/-! MiniPy 7: what is walked: lists, tuples, ranges, zip, enumerate. -/
namespace MP
open PySem PySem.Spec PyProof.Rows L2

/-- an iterator of new tuples: n turns, while G stands; yv i: what the i-th one holds -/
def Jt (n : Nat) (G : Hp → Prop) (yv : Nat → List V → Prop) : It :=
  ⟨fun i H => i < n ∧ G H, fun i H x H' => ∃ T vs, x = .ref T ∧ H T = none ∧ H' = upd H T (.tup vs) ∧ yv i vs, fun i H => i = n ∧ G H⟩
theorem turn_new {P : Program} {w : World} {K : PySem.W.Frag} {elts : List Expr} {kk : Nat} {tpos : Pos} {n : Nat} {G : Hp → Prop} {yv : Nat → List V → Prop} {fp : List Addr} {it : Addr} {tn : Nat → Heap → Prop}
    (mem : it ∈ fp) (obj : ∀ i h, tn i h → ∀ b ∈ fp, ∃ o, h.get? b = some o ∧ ∀ v, o.data ≠ .cell v) (keep : ∀ i h h', tn i h → (∀ b ∈ fp, ∀ o, h.get? b = some o → h'.get? b = some o) → tn i h')
    (src : ∀ (X : Cx), X.prog = P → X.w = w → X.K = K → X.calm = true → ∀ (pins : List (Addr × Obj)) (s : Shared) (σ : L2.St) (H : Hp) (i : Nat), Inv X pins σ H s → (∀ b ∈ fp, FpOk X pins H b) → G H → tn i s.heap →
      ∃ fpW wr Pt St Mid, WalksT P w X.A it fpW wr n Pt St Mid ∧ St i s.heap ∧ (∀ b ∈ wr, b ∈ fp) ∧ (∀ j h', St j h' → tn j h') ∧ ∀ j vals, j < n → Pt j vals → ∃ vs, Vals vs vals.toList ∧ yv j vs ∧ vs.length ≤ sizeLine)
    (self : ∀ (A : Around) (i : Nat) (s : Shared) (Q : Value → Shared → Prop) (E : Value → Shared → Prop), tn i s.heap → Q (.ref it) s → wpAny (model P w) A (pyIter (.ref it)) Q E s) :
    Turn P w K (.Tuple elts kk tpos) (Jt n G yv) fp it tn where
  mem := mem
  obj := obj
  keep := keep
  item := by
    intro X hP hw hK hc i pins s σ H E I hf st hg
    obtain ⟨hi, hG⟩ := hg
    obtain ⟨fpW, wr, Pt, St, Mid, W, hst, hwr, back, vals⟩ := src X hP hw hK hc pins s σ H i I hf hG st
    refine W.item i s _ _ hi hst fun T vs h' tk hp hT hIs hmid hk => ?_
    refine ⟨_, rfl, W.go elts kk tpos i T _ _ _ hmid fun h'' hst2 hk2 => ?_⟩
    obtain ⟨ys, r, hy, hz⟩ := vals i vs hi hp
    have hIs2 : h''.IsTuple T vs := hIs.at fun o e => hk2 T o (W.apart i T h' hmid) e
    obtain ⟨o, ho, hcl, c, hd⟩ := hIs2
    have hl : s.heap.objs.size ≤ T := hT
    have new : ObjOk X.prog X.w (upd H T (.tup ys)) h'' T (.tup ys) := ⟨hz, vs.toList, r, ⟨o, ho, hcl, c, by rw [hd]⟩⟩
    have I1 : Inv X pins σ (upd H T (.tup ys)) { s with heap := h'', toks := tk } :=
      I.turnedNew (ch := fp) (fun b ob hb q => hk2 b ob (fun z => hb (hwr b z)) (hk b ob (fun z => hb (hwr b z)) q)) hf hl new
    have hn : H T = none := I.hok.fresh hl
    refine ⟨.ref T, _, I1, rfl, ⟨T, ys, rfl, hn, rfl, hy⟩, back _ _ hst2, fun b hb => ?_⟩
    obtain ⟨ob, hob, _⟩ := obj i _ st b hb
    rw [upd_ne (Nat.ne_of_lt (Nat.lt_of_lt_of_le (Heap.lt_size hob) hl))]
    exact (hf b hb).1
  done := by
    intro X hP hw hK hc i pins s σ H E I hf st hg
    obtain ⟨rfl, hG⟩ := hg
    obtain ⟨fpW, wr, Pt, St, Mid, W, hst, hwr, back, vals⟩ := src X hP hw hK hc pins s σ H i I hf hG st
    exact W.done s _ _ hst fun h' tk hk => ⟨rfl, I.turnedL (ch := fp) (fun b o hb q => hk b o (fun z => hb (hwr b z)) q) hf⟩
  self := self

/-- a source: a list or a tuple -/
inductive Sk where
  | l | t
def Sk.seq (K : PySem.W.Frag) (H : Hp) (a : Addr) (xs : List V) : Sk → Prop
  | .l => SqL K H a xs
  | .t => SqT K H a xs
def Sk.it (h : Heap) (i a : Addr) (n : Nat) : Sk → Prop
  | .l => h.IsListIter i a n
  | .t => h.IsTupleIter i a n
def Sk.ob (a : Addr) : Sk → Obj
  | .l => { cls := .type "list_iterator", data := .fields #[.ref a, .int 0 0] }
  | .t => { cls := .type "tuple_iterator", data := .fields #[.ref a, .int 0 0] }
def Sk.hp (h : Heap) (a : Addr) (its : Array Value) : Sk → Prop
  | .l => h.IsList a its
  | .t => h.IsTuple a its
theorem Sk.begins (k : Sk) (a : Addr) (its : Array Value) : Begins (.ref a) (k.ob a) (fun h => k.hp h a its) := by
  cases k with
  | l => exact begins_list a its
  | t => exact begins_tuple a its
theorem Sk.draws {prog : Program} {w : World} {A : Around} (k : Sk) (hh : A.handled = none) (it a : Addr) (hne : a ≠ it) (its : Array Value) : Draws prog w A it [it, a] its.size (fun i v => its[i]? = some v) (fun i h => k.it h it a i ∧ k.hp h a its) := by
  cases k with
  | l => exact Draws.list hh it a hne its
  | t => exact Draws.tuple hh it a hne its
theorem Sk.itAt {k : Sk} {h h' : Heap} {i a : Addr} {n : Nat} (x : k.it h i a n) (e : ∀ o, h.get? i = some o → h'.get? i = some o) : k.it h' i a n := by
  cases k with
  | l => exact Heap.IsListIter.at x e
  | t => exact Heap.IsTupleIter.at x e
theorem Sk.itOb {k : Sk} {h : Heap} {i a : Addr} (e : h.get? i = some (k.ob a)) : k.it h i a 0 := by
  cases k with
  | l => exact ⟨_, e, rfl, rfl⟩
  | t => exact ⟨_, e, rfl, rfl⟩
theorem Sk.itObj {k : Sk} {h : Heap} {i a : Addr} {n : Nat} (x : k.it h i a n) : ∃ o, h.get? i = some o ∧ ∀ v, o.data ≠ .cell v := by
  cases k with
  | l =>
    obtain ⟨o, e, _, d⟩ := (show h.IsListIter i a n from x)
    exact ⟨o, e, fun v q => by rw [d] at q; cases q⟩
  | t =>
    obtain ⟨o, e, _, d⟩ := (show h.IsTupleIter i a n from x)
    exact ⟨o, e, fun v q => by rw [d] at q; cases q⟩
theorem Sk.look {X : Cx} {pins : List (Addr × Obj)} {σ : L2.St} {H : Hp} {s : Shared} {k : Sk} {a : Addr} {xs : List V} (I : Inv X pins σ H s) (q : k.seq X.K H a xs) : ∃ its : List Value, Vals xs its ∧ k.hp s.heap a its.toArray ∧ xs.length ≤ sizeLine ∧ a < s.heap.objs.size := by
  cases k with
  | l =>
    obtain ⟨its, rv, p, hz⟩ := I.list q
    exact ⟨its, rv, p.isList, hz, p.lt⟩
  | t =>
    obtain ⟨its, rv, p, hz⟩ := I.tuple q
    obtain ⟨o, ho, hr⟩ := id p
    exact ⟨its, rv, p, hz, Heap.lt_size ho⟩
/-- a tracked source is no object of the iterator -/
theorem Sk.apart {X : Cx} {pins : List (Addr × Obj)} {σ : L2.St} {H : Hp} {s : Shared} {k : Sk} {a b : Addr} {xs : List V} (I : Inv X pins σ H s) (q : k.seq X.K H a xs) (f : FpOk X pins H b) : a ≠ b := by
  rintro rfl
  have noK : ∀ o, X.K.lookup a = some o → False := fun o h => by
    have h1 : X.base.get? a = some o := I.ok.mod.kin a o h
    rcases f.2.2.2.1 with z | z
    · exact I.ok.noex a o h1 z
    · exact absurd (Nat.lt_of_lt_of_le (Heap.lt_size (I.ok.bs a o h1).1) z) (Nat.lt_irrefl _)
  cases k with
  | l =>
    rcases q with (h | ⟨o, h⟩) | ⟨o, its, n, h, _⟩
    · rw [f.1] at h; cases h
    · rw [f.1] at h; cases h
    · exact noK o h
  | t =>
    rcases q with (h | ⟨o, h⟩) | ⟨o, its, n, h, _⟩
    · rw [f.1] at h; cases h
    · rw [f.1] at h; cases h
    · exact noK o h

/-! ### zip of two, of three, enumerate -/
theorem hd_in1 {A : Around} (h : A.handled = none) : A.in1.handled = none := h
def It2 (K : PySem.W.Frag) (k1 k2 : Sk) (a b : Addr) (xs ys : List V) : It :=
  Jt (min xs.length ys.length) (fun H => k1.seq K H a xs ∧ k2.seq K H b ys) (fun i vs => ∃ x y, xs[i]? = some x ∧ ys[i]? = some y ∧ vs = [x, y])
theorem turn_zip2 {P : Program} {w : World} {K : PySem.W.Frag} {elts : List Expr} {kk : Nat} {tpos : Pos} {k1 k2 : Sk} {a b z TI TO i1 i2 : Addr} {xs ys : List V}
    (D : [z, TI, TO, i1, i2].Nodup) :
    Turn P w K (.Tuple elts kk tpos) (It2 K k1 k2 a b xs ys) [z, TI, TO, i1, i2] z
      (fun i h => IsZip h z TI TO .none ∧ IsTupOf2 h TI (.ref i1) (.ref i2) ∧ (∃ x y, IsTupOf2 h TO x y) ∧ k1.it h i1 a i ∧ k2.it h i2 b i) := by
  refine turn_new (by simp) (fun i h st c hc => ?_) (fun i h h' st k => ?_) (fun X hP hw hK hc pins s σ H i I hf hG st => ?_) (fun A i s Q E st h => wpAny_pyIter_zip st.1 h)
  · obtain ⟨hz, hTI, ⟨x, y, hTO⟩, h1, h2⟩ := st
    have e' : c = z ∨ c = TI ∨ c = TO ∨ c = i1 ∨ c = i2 := by simpa using hc
    rcases e' with q | q | q | q | q
    · rw [q]; exact ⟨_, hz, fun v q => nomatch q⟩
    · rw [q]; exact ⟨_, hTI, fun v q => nomatch q⟩
    · rw [q]; exact ⟨_, hTO, fun v q => nomatch q⟩
    · rw [q]; exact Sk.itObj h1
    · rw [q]; exact Sk.itObj h2
  · obtain ⟨hz, hTI, ⟨x, y, hTO⟩, h1, h2⟩ := st
    exact ⟨k z (by simp) _ hz, k TI (by simp) _ hTI, ⟨x, y, k TO (by simp) _ hTO⟩, Sk.itAt h1 fun o q => k i1 (by simp) o q, Sk.itAt h2 fun o q => k i2 (by simp) o q⟩
  · subst hP hw hK
    obtain ⟨hz, hTI, hTO, h1, h2⟩ := st
    obtain ⟨its, rv, p1, z1, _⟩ := Sk.look I hG.1
    obtain ⟨its2, rv2, p2, z2, _⟩ := Sk.look I hG.2
    have ap1 : ∀ c ∈ [z, TI, TO, i1, i2], a ≠ c := fun c hc => Sk.apart I hG.1 (hf c hc)
    have ap2 : ∀ c ∈ [z, TI, TO, i1, i2], b ≠ c := fun c hc => Sk.apart I hG.2 (hf c hc)
    simp only [List.nodup_cons, List.mem_cons, List.not_mem_nil, or_false, not_or] at D
    obtain ⟨⟨d1, d2, d3, d4⟩, ⟨d5, d6, d7⟩, ⟨d8, d9⟩, d10, _⟩ := D
    have S : ZipSep2 z TI TO i1 i2 [i1, a] [i2, b] := ⟨Ne.symm d1, Ne.symm d2, d5, d6, by simp, by simp [d3, Ne.symm (ap1 z (by simp))], by simp [d8, Ne.symm (ap1 TO (by simp))], d7, by simp, by simp [d4, Ne.symm (ap2 z (by simp))],
      by simp [d9, Ne.symm (ap2 TO (by simp))], by simp [d10, Ne.symm (ap2 i1 (by simp))], by simp [Ne.symm d10, Ne.symm (ap1 i2 (by simp))]⟩
    have W := WalksT.zipD2 (prog := X.prog) (w := X.w) (A := X.A) S (k1.draws (hd_in1 (I.ok.hd hc)) i1 a (ap1 i1 (by simp)) its.toArray) (k2.draws (hd_in1 (I.ok.hd hc)) i2 b (ap2 i2 (by simp)) its2.toArray)
    rw [List.size_toArray, List.size_toArray, ← rv.length, ← rv2.length] at W
    refine ⟨_, _, _, _, _, W, ⟨hz, hTI, hTO, ⟨h1, p1⟩, ⟨h2, p2⟩⟩, fun c hc => ?_, fun j h' st => ⟨st.1, st.2.1, st.2.2.1, st.2.2.2.1.1, st.2.2.2.2.1⟩, fun j vals hj hp => ?_⟩
    · have hc' : c = z ∨ c = TO ∨ c = i1 ∨ c = i2 := by simpa using hc
      rcases hc' with rfl | rfl | rfl | rfl <;> simp
    · obtain ⟨x, y, hx, hy, rfl⟩ := hp
      have hj1 : j < xs.length := by omega
      have hj2 : j < ys.length := by omega
      obtain ⟨u, hu, ru⟩ := rv.get (List.getElem?_eq_getElem hj1)
      obtain ⟨u2, hu2, ru2⟩ := rv2.get (List.getElem?_eq_getElem hj2)
      have ex : u = x := by
        have : its.toArray[j]? = some u := by simpa using hu
        exact Option.some.inj (this.symm.trans hx)
      have ey : u2 = y := by
        have : its2.toArray[j]? = some u2 := by simpa using hu2
        exact Option.some.inj (this.symm.trans hy)
      subst ex ey
      exact ⟨[xs[j], ys[j]], .cons ru (.cons ru2 .nil), ⟨_, _, List.getElem?_eq_getElem hj1, List.getElem?_eq_getElem hj2, rfl⟩, by show 2 ≤ sizeLine; decide⟩
def It3 (K : PySem.W.Frag) (k1 k2 k3 : Sk) (a b c : Addr) (xs ys zs : List V) : It :=
  Jt (min (min xs.length ys.length) zs.length) (fun H => k1.seq K H a xs ∧ k2.seq K H b ys ∧ k3.seq K H c zs) (fun i vs => ∃ x y z, xs[i]? = some x ∧ ys[i]? = some y ∧ zs[i]? = some z ∧ vs = [x, y, z])
theorem turn_zip3 {P : Program} {w : World} {K : PySem.W.Frag} {elts : List Expr} {kk : Nat} {tpos : Pos} {k1 k2 k3 : Sk} {a b e z TI TO i1 i2 i3 : Addr} {xs ys zs : List V}
    (D : [z, TI, TO, i1, i2, i3].Nodup) :
    Turn P w K (.Tuple elts kk tpos) (It3 K k1 k2 k3 a b e xs ys zs) [z, TI, TO, i1, i2, i3] z
      (fun i h => IsZip h z TI TO .none ∧ IsTupOf3 h TI (.ref i1) (.ref i2) (.ref i3) ∧ (∃ x y u, IsTupOf3 h TO x y u) ∧ k1.it h i1 a i ∧ k2.it h i2 b i ∧ k3.it h i3 e i) := by
  refine turn_new (by simp) (fun i h st c hc => ?_) (fun i h h' st k => ?_) (fun X hP hw hK hc pins s σ H i I hf hG st => ?_) (fun A i s Q E st h => wpAny_pyIter_zip st.1 h)
  · obtain ⟨hz, hTI, ⟨x, y, u, hTO⟩, h1, h2, h3⟩ := st
    have e' : c = z ∨ c = TI ∨ c = TO ∨ c = i1 ∨ c = i2 ∨ c = i3 := by simpa using hc
    rcases e' with q | q | q | q | q | q
    · rw [q]; exact ⟨_, hz, fun v q => nomatch q⟩
    · rw [q]; exact ⟨_, hTI, fun v q => nomatch q⟩
    · rw [q]; exact ⟨_, hTO, fun v q => nomatch q⟩
    · rw [q]; exact Sk.itObj h1
    · rw [q]; exact Sk.itObj h2
    · rw [q]; exact Sk.itObj h3
  · obtain ⟨hz, hTI, ⟨x, y, u, hTO⟩, h1, h2, h3⟩ := st
    exact ⟨k z (by simp) _ hz, k TI (by simp) _ hTI, ⟨x, y, u, k TO (by simp) _ hTO⟩, Sk.itAt h1 fun o q => k i1 (by simp) o q, Sk.itAt h2 fun o q => k i2 (by simp) o q, Sk.itAt h3 fun o q => k i3 (by simp) o q⟩
  · subst hP hw hK
    obtain ⟨hz, hTI, hTO, h1, h2, h3⟩ := st
    obtain ⟨its, rv, p1, z1, _⟩ := Sk.look I hG.1
    obtain ⟨its2, rv2, p2, z2, _⟩ := Sk.look I hG.2.1
    obtain ⟨its3, rv3, p3, z3, _⟩ := Sk.look I hG.2.2
    have ap1 : ∀ c ∈ [z, TI, TO, i1, i2, i3], a ≠ c := fun c hc => Sk.apart I hG.1 (hf c hc)
    have ap2 : ∀ c ∈ [z, TI, TO, i1, i2, i3], b ≠ c := fun c hc => Sk.apart I hG.2.1 (hf c hc)
    have ap3 : ∀ c ∈ [z, TI, TO, i1, i2, i3], e ≠ c := fun c hc => Sk.apart I hG.2.2 (hf c hc)
    simp only [List.nodup_cons, List.mem_cons, List.not_mem_nil, or_false, not_or] at D
    obtain ⟨⟨d1, d2, d3, d4, d11⟩, ⟨d5, d6, d7, d12⟩, ⟨d8, d9, d13⟩, ⟨d10, d14⟩, d15, _⟩ := D
    have n1 : ∀ c ∈ [z, TI, TO, i1, i2, i3], c ≠ a := fun c hc => Ne.symm (ap1 c hc)
    have n2 : ∀ c ∈ [z, TI, TO, i1, i2, i3], c ≠ b := fun c hc => Ne.symm (ap2 c hc)
    have n3 : ∀ c ∈ [z, TI, TO, i1, i2, i3], c ≠ e := fun c hc => Ne.symm (ap3 c hc)
    have S : ZipSep3 z TI TO i1 i2 i3 [i1, a] [i2, b] [i3, e] := by
      constructor <;> first
        | exact Ne.symm d1 | exact Ne.symm d2 | exact d5 | exact d6 | exact d7 | exact d12 | (simp; done)
        | (simp only [List.mem_cons, List.not_mem_nil, or_false, not_or]; refine ⟨?_, ?_⟩ <;> first | assumption | (apply Ne.symm; assumption) | (apply n1; simp; done) | (apply n2; simp; done) | (apply n3; simp; done))
    have W := WalksT.zipD3 (prog := X.prog) (w := X.w) (A := X.A) S (k1.draws (hd_in1 (I.ok.hd hc)) i1 a (ap1 i1 (by simp)) its.toArray) (k2.draws (hd_in1 (I.ok.hd hc)) i2 b (ap2 i2 (by simp)) its2.toArray) (k3.draws (hd_in1 (I.ok.hd hc)) i3 e (ap3 i3 (by simp)) its3.toArray)
    rw [List.size_toArray, List.size_toArray, List.size_toArray, ← rv.length, ← rv2.length, ← rv3.length] at W
    refine ⟨_, _, _, _, _, W, ⟨hz, hTI, hTO, ⟨h1, p1⟩, ⟨h2, p2⟩, ⟨h3, p3⟩⟩, fun c hc => ?_, fun j h' st => ⟨st.1, st.2.1, st.2.2.1, st.2.2.2.1.1, st.2.2.2.2.1.1, st.2.2.2.2.2.1⟩, fun j vals hj hp => ?_⟩
    · have hc' : c = z ∨ c = TO ∨ c = i1 ∨ c = i2 ∨ c = i3 := by simpa using hc
      rcases hc' with rfl | rfl | rfl | rfl | rfl <;> simp
    · obtain ⟨x, y, u, hx, hy, hu0, rfl⟩ := hp
      have hj1 : j < xs.length := by omega
      have hj2 : j < ys.length := by omega
      have hj3 : j < zs.length := by omega
      obtain ⟨v1, hu, ru⟩ := rv.get (List.getElem?_eq_getElem hj1)
      obtain ⟨v2, hu2, ru2⟩ := rv2.get (List.getElem?_eq_getElem hj2)
      obtain ⟨v3, hu3, ru3⟩ := rv3.get (List.getElem?_eq_getElem hj3)
      have ex : v1 = x := by
        have : its.toArray[j]? = some v1 := by simpa using hu
        exact Option.some.inj (this.symm.trans hx)
      have ey : v2 = y := by
        have : its2.toArray[j]? = some v2 := by simpa using hu2
        exact Option.some.inj (this.symm.trans hy)
      have ez : v3 = u := by
        have : its3.toArray[j]? = some v3 := by simpa using hu3
        exact Option.some.inj (this.symm.trans hu0)
      subst ex ey ez
      exact ⟨[xs[j], ys[j], zs[j]], .cons ru (.cons ru2 (.cons ru3 .nil)), ⟨_, _, _, List.getElem?_eq_getElem hj1, List.getElem?_eq_getElem hj2, List.getElem?_eq_getElem hj3, rfl⟩, by show 3 ≤ sizeLine; decide⟩
def ItE (K : PySem.W.Frag) (k1 : Sk) (a : Addr) (xs : List V) (k0 : Int) : It :=
  Jt xs.length (fun H => k1.seq K H a xs) (fun i vs => ∃ x, xs[i]? = some x ∧ vs = [.int (k0 + (i : Int)), x])
theorem turn_enumK {P : Program} {w : World} {K : PySem.W.Frag} {elts : List Expr} {kk : Nat} {tpos : Pos} {k1 : Sk} {a e it : Addr} {xs : List V} {k0 : Int} (D : e ≠ it) :
    Turn P w K (.Tuple elts kk tpos) (ItE K k1 a xs k0) [e, it] e (fun i h => (∃ old, IsEnum h e it (k0 + (i : Int)) old) ∧ k1.it h it a i) := by
  refine turn_new (by simp) (fun i h st c hc => ?_) (fun i h h' st k => ?_) (fun X hP hw hK hc pins s σ H i I hf hG st => ?_) (fun A i s Q E st h => wpAny_pyIter_enum st.1.choose_spec h)
  · obtain ⟨⟨old, he⟩, h1⟩ := st
    have e' : c = e ∨ c = it := by simpa using hc
    rcases e' with q | q
    · rw [q]; exact ⟨_, he, fun v q => nomatch q⟩
    · rw [q]; exact Sk.itObj h1
  · obtain ⟨⟨old, he⟩, h1⟩ := st
    exact ⟨⟨old, k e (by simp) _ he⟩, Sk.itAt h1 fun o q => k it (by simp) o q⟩
  · subst hP hw hK
    obtain ⟨he, h1⟩ := st
    obtain ⟨its, rv, p1, z1, _⟩ := Sk.look I hG
    have ap1 : ∀ c ∈ [e, it], a ≠ c := fun c hc => Sk.apart I hG (hf c hc)
    have W := WalksT.enumFrom (prog := X.prog) (w := X.w) (A := X.A) k0 (k1.draws (hd_in1 (I.ok.hd hc)) it a (ap1 it (by simp)) its.toArray) e D (by simp [D, Ne.symm (ap1 e (by simp))]) (by simp)
    rw [List.size_toArray, ← rv.length] at W
    refine ⟨_, _, _, _, _, W, ⟨he, h1, p1⟩, fun c hc => hc, fun j h' st => ⟨st.1, st.2.1⟩, fun j vals hj hp => ?_⟩
    obtain ⟨t, x, hx, rfl⟩ := hp
    obtain ⟨u, hu, ru⟩ := rv.get (List.getElem?_eq_getElem hj)
    have ex : u = x := by
      have : its.toArray[j]? = some u := by simpa using hu
      exact Option.some.inj (this.symm.trans hx)
    subst ex
    exact ⟨[.int (k0 + (j : Int)), xs[j]], .cons ⟨t, rfl⟩ (.cons ru .nil), ⟨_, List.getElem?_eq_getElem hj, rfl⟩, by show 2 ≤ sizeLine; decide⟩
end MP
set_option Elab.async false
set_option linter.all false
set_option maxRecDepth 100000
set_option maxHeartbeats 1000000
/-! MiniPy 8: iterators, targets, comprehensions. -/
namespace MP
open PySem PySem.Spec PyProof.Rows L2

/-- the iterator J gives ds, one by one, while what is frozen stays -/
def Real (K : PySem.W.Frag) (J : It) (ds : List D) (ρ : List Addr) (Hf : Hp) : Prop :=
  Walk J ds.length (fun H => Same Hf H) (fun i H x H' => ∃ d, ds[i]? = some d ∧ ((H' = H ∧ Den K ρ Hf d x) ∨ ∃ T es vs, H T = none ∧ x = .ref T ∧ H' = upd H T (.tup vs) ∧ d = .tup es ∧ DenAll K ρ Hf es vs))
theorem Real.mono {K : PySem.W.Frag} {J : It} {ds : List D} {ρ ρ' : List Addr} {Hf Hf' : Hp} (r : Real K J ds ρ Hf) (g : Gr ρ Hf ρ' Hf') : Real K J ds ρ' Hf' :=
  Walk.mono r (fun H h => g.ex.trans h) fun i H x H' _ _ y => by
    obtain ⟨d, e, h⟩ := y
    refine ⟨d, e, ?_⟩
    rcases h with ⟨h1, h2⟩ | ⟨T, es, vs, h1, h2, h3, h4, h5⟩
    · exact .inl ⟨h1, h2.mono g.pre g.ex⟩
    · exact .inr ⟨T, es, vs, h1, h2, h3, h4, h5.mono g.pre g.ex⟩
def tI (K : PySem.W.Frag) (G : Calls) (t : E) : TI := fun σ H R => ∃ env m ds m' ρ Hf Fx, Wd K ρ Hf Fx m H ∧ EnvDen K ρ Hf env σ ∧ ev G t env m = some (.tup ds, m') ∧
  ∀ ρ' Hf' H' J, Gr ρ Hf ρ' Hf' → Wd K ρ' Hf' Fx m' H' → Real K J ds ρ' Hf' → R J H'
abbrev IX (X : Cx) (G : Calls) (tg e : Expr) (t : E) : Prop := PI X tg e (tI X.K G t)
theorem PI.via {X : Cx} {tg e : Expr} {t t' : TI} (h : PI X tg e t) (k : ∀ σ H R, t' σ H R → t σ H R) : PI X tg e t' := ⟨fun pins s σ H R I q => h.run pins s σ H R I (k σ H R q)⟩

theorem real_seq {K : PySem.W.Frag} {ρ : List Addr} {Hf : Hp} {ds : List D} {vs : List V} {a : Addr} (k : Sk) (q : ∀ H, Same Hf H → k.seq K H a vs) (t : DenAll K ρ Hf ds vs) : Real K (match k with | .l => Itl K a | .t => Itt K a) ds ρ Hf := by
  unfold Real
  rw [t.length]
  have y : ∀ i H x H', i < vs.length → Same Hf H → YAt vs i H x H' → ∃ d, ds[i]? = some d ∧ ((H' = H ∧ Den K ρ Hf d x) ∨ ∃ T es vs, H T = none ∧ x = .ref T ∧ H' = upd H T (.tup vs) ∧ d = .tup es ∧ DenAll K ρ Hf es vs) := fun i H x H' hi hs y => by
    obtain ⟨d, h1, h2⟩ := t.getR y.2
    exact ⟨d, h1, .inl ⟨y.1, h2⟩⟩
  cases k with
  | l => exact Walk.mono (walk_list (K := K) (a := a) (xs := vs)) q y
  | t => exact Walk.mono (walk_tup (K := K) (a := a) (xs := vs)) q y
theorem src_of {K : PySem.W.Frag} {ρ : List Addr} {Hf : Hp} {x : D} {v : V} {ds : List D} (t : Den K ρ Hf x v) (h : x.items? = some ds) : ∃ (k : Sk) (p : Addr) (vs : List V), v = .ref p ∧ (∀ H, Same Hf H → k.seq K H p vs) ∧ DenAll K ρ Hf ds vs := by
  cases t with
  | tup s t => cases h; exact ⟨.t, _, _, rfl, fun H e => same_seqT e s, t⟩
  | lst s t => cases h; exact ⟨.l, _, _, rfl, fun H e => .inl (.inl (e _ _ s)), t⟩
  | fz s t => cases h; exact ⟨.l, _, _, rfl, fun H e => e.seq s, t⟩
  | _ => cases h

section
variable {X : Cx} {G : Calls} {tg a b c : Expr} {A B C : E} {p pos tpos : Pos} {elts : List Expr} {kk : Nat}
theorem mi_seq (ha : EX X G a A) : IX X G tg a (.seq A) := by
  refine ⟨fun pins s σ H R I h => ?_⟩
  obtain ⟨env, m, ds, m', ρ, Hf, Fx, w, e, h, k⟩ := h
  obtain ⟨⟨x, m1⟩, h1, h⟩ := bind_some h
  obtain ⟨ds', h2, h3⟩ := map_some' h
  cases h3
  refine thn (ha.run pins s σ H (fun v H1 => ∃ ρ1 Hf1, Gr ρ Hf ρ1 Hf1 ∧ Wd X.K ρ1 Hf1 Fx m1 H1 ∧ Den X.K ρ1 Hf1 x v) I (one w e h1 fun ρ1 Hf1 H1 vx g w1 dx => ⟨ρ1, Hf1, g, w1, dx⟩)) fun v s1 ⟨vx, H1, I1, r1, ρ1, Hf1, g, w1, dx⟩ => ?_
  obtain ⟨sk, q, vs, rfl, hq, t⟩ := src_of dx h2
  cases r1
  cases sk with
  | l =>
    obtain ⟨its, rv, pp, hz⟩ := I1.list (hq H1 w1.ex)
    refine wpAny_pyIter_list pp.isList ?_
    refine ⟨s1.heap.objs.size, [s1.heap.objs.size], _, _, H1, rfl, I1.kept (t' := s1.toks) fun b o e => Heap.get?_push_of_some _ e, turn_list q _, ⟨_, Heap.get?_push_size _ rfl, rfl, rfl⟩, fun b hb => ?_, k ρ1 Hf1 H1 _ g w1 (real_seq .l hq t)⟩
    have e : b = s1.heap.objs.size := by simpa using hb
    subst e
    exact I1.fpOk (Nat.le_refl _) (I1.hok.fresh (Nat.le_refl _))
  | t =>
    obtain ⟨its, rv, pp, hz⟩ := I1.tuple (hq H1 w1.ex)
    refine wpAny_pyIter_tuple (show s1.heap.IsTuple q its.toArray from pp) ?_
    refine ⟨s1.heap.objs.size, [s1.heap.objs.size], _, _, H1, rfl, I1.kept (t' := s1.toks) fun b o e => Heap.get?_push_of_some _ e, turn_tuple q _, ⟨_, Heap.get?_push_size _ rfl, rfl, rfl⟩, fun b hb => ?_, k ρ1 Hf1 H1 _ g w1 (real_seq .t hq t)⟩
    have e : b = s1.heap.objs.size := by simpa using hb
    subst e
    exact I1.fpOk (Nat.le_refl _) (I1.hok.fresh (Nat.le_refl _))
theorem real_rng {K : PySem.W.Frag} {ρ : List Addr} {Hf : Hp} {lo hi : Int} : Real K (Itr lo (hi - lo).toNat) (rngD lo hi) ρ Hf := by
  unfold Real rngD
  rw [List.length_map, List.length_range]
  refine Walk.mono walk_range (fun _ _ => trivial) fun i H x H' hi _ y => ⟨.int (lo + (i : Int)), ?_, .inl ⟨y.1, ?_⟩⟩
  · rw [List.getElem?_map, List.getElem?_range hi]
    rfl
  · rw [y.2]
    exact .int _
theorem small_le {i : Int} (h : small i = true) : -1000000 ≤ i ∧ i ≤ 1000000 := by
  unfold small at h
  rw [Bool.and_eq_true] at h
  exact ⟨of_decide_eq_true h.1, of_decide_eq_true h.2⟩
theorem mi_rng1 (hg : Gl X "range") (hm : X.mg "range" = none) (ha : EA X G [a] A) (hs : starEach [a] X.env = [(false, eval a X.env)] := by rfl) : IX X G tg (.Call (.Name "range" p) [a] [] pos) (.rng1 A) := by
  refine PI.via (pi_range1 hg hm ha hs) fun σ H R h => ?_
  obtain ⟨env, m, ds, m', ρ, Hf, Fx, w, e, h, k⟩ := h
  obtain ⟨⟨x, m1⟩, h1, h⟩ := bind_some h
  cases x with
  | tup xs =>
    refine args w e h1 fun ρ1 Hf1 H1 vs g w1 t => ?_
    match xs, h with
    | [.int n], h =>
      have h : (if small n = true then some (D.tup (rngD 0 n), m1) else none) = some (.tup ds, m') := h
      split at h
      · rename_i hs
        cases h
        obtain ⟨v, rfl, t1⟩ := den1 t
        cases t1
        have := small_le hs
        refine ⟨n, rfl, by omega, by omega, ?_⟩
        have q := k ρ1 Hf1 H1 (Itr 0 (n - 0).toNat) g w1 real_rng
        rw [Int.sub_zero] at q
        exact q
      · cases h
  | _ => cases h
theorem mi_rng2 (hg : Gl X "range") (hm : X.mg "range" = none) (ha : EA X G [a, b] A) (hs : starEach [a, b] X.env = [(false, eval a X.env), (false, eval b X.env)] := by rfl) (hs2 : starEach [b] X.env = [(false, eval b X.env)] := by rfl) :
    IX X G tg (.Call (.Name "range" p) [a, b] [] pos) (.rng2 A) := by
  refine PI.via (pi_range2 hg hm ha hs hs2) fun σ H R h => ?_
  obtain ⟨env, m, ds, m', ρ, Hf, Fx, w, e, h, k⟩ := h
  obtain ⟨⟨x, m1⟩, h1, h⟩ := bind_some h
  cases x with
  | tup xs =>
    refine args w e h1 fun ρ1 Hf1 H1 vs g w1 t => ?_
    match xs, h with
    | [.int l, .int u], h =>
      have h : (if (small l && small u) = true then some (D.tup (rngD l u), m1) else none) = some (.tup ds, m') := h
      split at h
      · rename_i hs
        cases h
        rw [Bool.and_eq_true] at hs
        obtain ⟨v, u', rfl, t1, t2⟩ := den2 t
        cases t1
        cases t2
        have a1 := small_le hs.1
        have a2 := small_le hs.2
        exact ⟨l, u, rfl, ⟨by omega, by omega, by omega, by omega⟩, k ρ1 Hf1 H1 _ g w1 real_rng⟩
      · cases h
  | _ => cases h

theorem zipW_get {α β γ : Type} {f : α → β → γ} : ∀ {xs : List α} {ys : List β} {i : Nat} {x : α} {y : β}, xs[i]? = some x → ys[i]? = some y → (List.zipWith f xs ys)[i]? = some (f x y) := by
  intro xs ys i x y h1 h2
  rw [List.getElem?_zipWith, h1, h2]
theorem real_zip2 {K : PySem.W.Frag} {ρ : List Addr} {Hf : Hp} {xs ys : List D} {vs us : List V} {a b : Addr} {k1 k2 : Sk} (q1 : ∀ H, Same Hf H → k1.seq K H a vs) (q2 : ∀ H, Same Hf H → k2.seq K H b us) (t1 : DenAll K ρ Hf xs vs) (t2 : DenAll K ρ Hf ys us) :
    Real K (It2 K k1 k2 a b vs us) (List.zipWith (fun x y => .tup [x, y]) xs ys) ρ Hf := by
  unfold Real It2 Jt
  rw [List.length_zipWith, t1.length, t2.length]
  refine ⟨fun i H hi hs => ⟨hi, q1 H hs, q2 H hs⟩, fun H hs => ⟨rfl, q1 H hs, q2 H hs⟩, fun i H x H' hi hs y => ?_⟩
  obtain ⟨T, ws, rfl, hT, rfl, x, y, hx, hy, rfl⟩ := y
  obtain ⟨d1, e1, n1⟩ := t1.getR hx
  obtain ⟨d2, e2, n2⟩ := t2.getR hy
  exact ⟨_, zipW_get e1 e2, .inr ⟨T, [d1, d2], _, hT, rfl, rfl, rfl, .cons n1 (.cons n2 .nil)⟩⟩
theorem real_zip3 {K : PySem.W.Frag} {ρ : List Addr} {Hf : Hp} {xs ys zs : List D} {vs us ts : List V} {a b c : Addr} {k1 k2 k3 : Sk} (q1 : ∀ H, Same Hf H → k1.seq K H a vs) (q2 : ∀ H, Same Hf H → k2.seq K H b us) (q3 : ∀ H, Same Hf H → k3.seq K H c ts)
    (t1 : DenAll K ρ Hf xs vs) (t2 : DenAll K ρ Hf ys us) (t3 : DenAll K ρ Hf zs ts) :
    Real K (It3 K k1 k2 k3 a b c vs us ts) (List.zipWith (fun x (y : D × D) => .tup [x, y.1, y.2]) xs (List.zip ys zs)) ρ Hf := by
  unfold Real It3 Jt
  rw [List.length_zipWith, List.length_zip, t1.length, t2.length, t3.length]
  have e : min (min vs.length us.length) ts.length = min vs.length (min us.length ts.length) := by omega
  rw [e]
  refine ⟨fun i H hi hs => ⟨hi, q1 H hs, q2 H hs, q3 H hs⟩, fun H hs => ⟨rfl, q1 H hs, q2 H hs, q3 H hs⟩, fun i H x H' hi hs y => ?_⟩
  obtain ⟨T, ws, rfl, hT, rfl, x, y, z, hx, hy, hz, rfl⟩ := y
  obtain ⟨d1, e1, n1⟩ := t1.getR hx
  obtain ⟨d2, e2, n2⟩ := t2.getR hy
  obtain ⟨d3, e3, n3⟩ := t3.getR hz
  have ez : (List.zip ys zs)[i]? = some (d2, d3) := by
    rw [List.zip, zipW_get e2 e3]
  exact ⟨_, zipW_get e1 ez, .inr ⟨T, [d1, d2, d3], _, hT, rfl, rfl, rfl, .cons n1 (.cons n2 (.cons n3 .nil))⟩⟩
theorem real_enum {K : PySem.W.Frag} {ρ : List Addr} {Hf : Hp} {xs : List D} {vs : List V} {a : Addr} {k1 : Sk} {k0 : Int} (q1 : ∀ H, Same Hf H → k1.seq K H a vs) (t1 : DenAll K ρ Hf xs vs) :
    Real K (ItE K k1 a vs k0) (xs.mapIdx fun i d => .tup [.int (k0 + (i : Int)), d]) ρ Hf := by
  unfold Real ItE Jt
  rw [List.length_mapIdx, t1.length]
  refine ⟨fun i H hi hs => ⟨hi, q1 H hs⟩, fun H hs => ⟨rfl, q1 H hs⟩, fun i H x H' hi hs y => ?_⟩
  obtain ⟨T, ws, rfl, hT, rfl, x, hx, rfl⟩ := y
  obtain ⟨d1, e1, n1⟩ := t1.getR hx
  exact ⟨.tup [.int (k0 + (i : Int)), d1], by rw [List.getElem?_mapIdx, e1]; rfl, .inr ⟨T, _, _, hT, rfl, rfl, rfl, .cons (.int _) (.cons n1 .nil)⟩⟩
theorem mi_zip2 (hg : Gl X "zip") (hm : X.mg "zip" = none) (ha : EA X G [a, b] A) (hs : starEach [a, b] X.env = (false, eval a X.env) :: starEach [b] X.env := by rfl) (hpl : (backTo pos (starEach [b] X.env)).any (·.1) = false := by rfl) :
    IX X G (.Tuple elts kk tpos) (.Call (.Name "zip" p) [a, b] [] pos) (.zip2 A) := by
  refine ⟨fun pins s σ H R I h => ?_⟩
  obtain ⟨env, m, ds, m', ρ, Hf, Fx, w, e, h, k⟩ := h
  obtain ⟨⟨x, m1⟩, h1, h⟩ := bind_some h
  cases x with
  | tup xs =>
    match xs, h with
    | [x', y'], h =>
      obtain ⟨xs, h2, h⟩ := bind_some h
      obtain ⟨ys, h3, h4⟩ := map_some' h
      cases h4
      refine Call_ (ld_blt I hg hm PyProof.Rows.boot_zip (PyProof.Rows.callWith_type1 (thn (ha.run pos pins s σ H (fun vs H1 => ∃ ρ1 Hf1, Gr ρ Hf ρ1 Hf1 ∧ Wd X.K ρ1 Hf1 Fx m1 H1 ∧ DenAll X.K ρ1 Hf1 [x', y'] vs) I
        (args w e h1 fun ρ1 Hf1 H1 vx g w1 dx => ⟨ρ1, Hf1, g, w1, dx⟩)) fun us s1 ⟨vs, H1, I1, r1, ρ1, Hf1, g, w1, dx⟩ => ?_) hs hpl))
      obtain ⟨v1, v2, rfl, d1, d2⟩ := den2 dx
      obtain ⟨k1, q1, ws1, rfl, s1', t1⟩ := src_of d1 h2
      obtain ⟨k2, q2, ws2, rfl, s2', t2⟩ := src_of d2 h3
      cases r1 with
      | cons r rr =>
        cases rr with
        | cons r' rr =>
          cases rr
          cases r
          cases r'
          obtain ⟨its, rv, p1, _, l1⟩ := Sk.look I1 (s1' H1 w1.ex)
          obtain ⟨its2, rv2, p2, _, l2⟩ := Sk.look I1 (s2' H1 w1.ex)
          refine zip_begins2 (k1.begins q1 its.toArray) (k2.begins q2 its2.toArray) p1 p2 fun h' hz hTI hTO o1 o2 hsz hk => wpAny_pyIter_zip hz ?_
          have I2 : Inv X pins σ H1 { s1 with heap := h' } := I1.kept (t' := s1.toks) hk
          refine ⟨s1.heap.objs.size + 4, [s1.heap.objs.size + 4, s1.heap.objs.size + 2, s1.heap.objs.size + 3, s1.heap.objs.size, s1.heap.objs.size + 1], _, _, H1, rfl, I2,
            turn_zip2 (k1 := k1) (k2 := k2) (a := q1) (b := q2) (xs := ws1) (ys := ws2) ?_, ⟨hz, hTI, ⟨_, _, hTO⟩, Sk.itOb o1, Sk.itOb o2⟩, fun c hcm => ?_, k ρ1 Hf1 H1 _ g w1 (real_zip2 s1' s2' t1 t2)⟩
          · generalize s1.heap.objs.size = N
            simp only [List.nodup_cons, List.mem_cons, List.not_mem_nil, or_false, not_or, List.nodup_nil, and_true, not_false_eq_true]
            refine ⟨⟨?_, ?_, ?_, ?_⟩, ⟨?_, ?_, ?_⟩, ⟨?_, ?_⟩, ?_⟩ <;> exact fun z => by have z : (_ : Nat) = _ := z; omega
          · have hle : s1.heap.objs.size ≤ c := by
              generalize s1.heap.objs.size = N at hcm ⊢
              have e' : c = N + 4 ∨ c = N + 2 ∨ c = N + 3 ∨ c = N ∨ c = N + 1 := by simpa using hcm
              rcases e' with z | z | z | z | z <;> (rw [z]; first | exact Nat.le_refl _ | exact Nat.le_add_right _ _)
            exact I1.fpOk hle (I1.hok.fresh hle)
  | _ => cases h
theorem mi_zip3 (hg : Gl X "zip") (hm : X.mg "zip" = none) (ha : EA X G [a, b, c] A) (hs : starEach [a, b, c] X.env = (false, eval a X.env) :: starEach [b, c] X.env := by rfl) (hpl : (backTo pos (starEach [b, c] X.env)).any (·.1) = false := by rfl) :
    IX X G (.Tuple elts kk tpos) (.Call (.Name "zip" p) [a, b, c] [] pos) (.zip3 A) := by
  refine ⟨fun pins s σ H R I h => ?_⟩
  obtain ⟨env, m, ds, m', ρ, Hf, Fx, w, e, h, k⟩ := h
  obtain ⟨⟨x, m1⟩, h1, h⟩ := bind_some h
  cases x with
  | tup xs =>
    match xs, h with
    | [x', y', z'], h =>
      obtain ⟨xs, h2, h⟩ := bind_some h
      obtain ⟨ys, h3, h⟩ := bind_some h
      obtain ⟨zs, h5, h4⟩ := map_some' h
      cases h4
      refine Call_ (ld_blt I hg hm PyProof.Rows.boot_zip (PyProof.Rows.callWith_type1 (thn (ha.run pos pins s σ H (fun vs H1 => ∃ ρ1 Hf1, Gr ρ Hf ρ1 Hf1 ∧ Wd X.K ρ1 Hf1 Fx m1 H1 ∧ DenAll X.K ρ1 Hf1 [x', y', z'] vs) I
        (args w e h1 fun ρ1 Hf1 H1 vx g w1 dx => ⟨ρ1, Hf1, g, w1, dx⟩)) fun us s1 ⟨vs, H1, I1, r1, ρ1, Hf1, g, w1, dx⟩ => ?_) hs hpl))
      cases dx with
      | cons d1 dx =>
        obtain ⟨v2, v3, rfl, d2, d3⟩ := den2 dx
        obtain ⟨k1, q1, ws1, rfl, s1', t1⟩ := src_of d1 h2
        obtain ⟨k2, q2, ws2, rfl, s2', t2⟩ := src_of d2 h3
        obtain ⟨k3, q3, ws3, rfl, s3', t3⟩ := src_of d3 h5
        cases r1 with
        | cons r rr =>
          cases rr with
          | cons r' rr =>
            cases rr with
            | cons r'' rr =>
              cases rr
              cases r
              cases r'
              cases r''
              obtain ⟨its, rv, p1, _, l1⟩ := Sk.look I1 (s1' H1 w1.ex)
              obtain ⟨its2, rv2, p2, _, l2⟩ := Sk.look I1 (s2' H1 w1.ex)
              obtain ⟨its3, rv3, p3, _, l3⟩ := Sk.look I1 (s3' H1 w1.ex)
              refine zip_begins3 (k1.begins q1 its.toArray) (k2.begins q2 its2.toArray) (k3.begins q3 its3.toArray) p1 p2 p3 fun h' hz hTI hTO o1 o2 o3 hsz hk => wpAny_pyIter_zip hz ?_
              have I2 : Inv X pins σ H1 { s1 with heap := h' } := I1.kept (t' := s1.toks) hk
              refine ⟨s1.heap.objs.size + 5, [s1.heap.objs.size + 5, s1.heap.objs.size + 3, s1.heap.objs.size + 4, s1.heap.objs.size, s1.heap.objs.size + 1, s1.heap.objs.size + 2], _, _, H1, rfl, I2,
                turn_zip3 (k1 := k1) (k2 := k2) (k3 := k3) (a := q1) (b := q2) (e := q3) (xs := ws1) (ys := ws2) (zs := ws3) ?_, ⟨hz, hTI, ⟨_, _, _, hTO⟩, Sk.itOb o1, Sk.itOb o2, Sk.itOb o3⟩, fun c hcm => ?_, k ρ1 Hf1 H1 _ g w1 (real_zip3 s1' s2' s3' t1 t2 t3)⟩
              · generalize s1.heap.objs.size = N
                simp only [List.nodup_cons, List.mem_cons, List.not_mem_nil, or_false, not_or, List.nodup_nil, and_true, not_false_eq_true]
                refine ⟨⟨?_, ?_, ?_, ?_, ?_⟩, ⟨?_, ?_, ?_, ?_⟩, ⟨?_, ?_, ?_⟩, ⟨?_, ?_⟩, ?_⟩ <;> exact fun z => by have z : (_ : Nat) = _ := z; omega
              · have hle : s1.heap.objs.size ≤ c := by
                  generalize s1.heap.objs.size = N at hcm ⊢
                  have e' : c = N + 5 ∨ c = N + 3 ∨ c = N + 4 ∨ c = N ∨ c = N + 1 ∨ c = N + 2 := by simpa using hcm
                  rcases e' with z | z | z | z | z | z <;> (rw [z]; first | exact Nat.le_refl _ | exact Nat.le_add_right _ _)
                exact I1.fpOk hle (I1.hok.fresh hle)
  | _ => cases h
theorem mi_enum (hg : Gl X "enumerate") (hm : X.mg "enumerate" = none) (ha : EA X G [a, b] A) (hs : starEach [a, b] X.env = (false, eval a X.env) :: starEach [b] X.env := by rfl) (hpl : (backTo pos (starEach [b] X.env)).any (·.1) = false := by rfl) :
    IX X G (.Tuple elts kk tpos) (.Call (.Name "enumerate" p) [a, b] [] pos) (.enum A) := by
  refine ⟨fun pins s σ H R I h => ?_⟩
  obtain ⟨env, m, ds, m', ρ, Hf, Fx, w, e, h, k⟩ := h
  obtain ⟨⟨x, m1⟩, h1, h⟩ := bind_some h
  cases x with
  | tup xs =>
    match xs, h with
    | [x', .int k0], h =>
      have h : (if small k0 = true then x'.items?.map fun xs => (D.tup (xs.mapIdx fun i d => .tup [.int (k0 + (i : Int)), d]), m1) else none) = some (.tup ds, m') := h
      split at h
      · rename_i hsm
        obtain ⟨ys, h3, h4⟩ := map_some' h
        cases h4
        refine Call_ (ld_blt I hg hm PyProof.Rows.boot_enumerate (PyProof.Rows.callWith_type1 (thn (ha.run pos pins s σ H (fun vs H1 => ∃ ρ1 Hf1, Gr ρ Hf ρ1 Hf1 ∧ Wd X.K ρ1 Hf1 Fx _ H1 ∧ DenAll X.K ρ1 Hf1 [x', .int k0] vs) I
          (args w e h1 fun ρ1 Hf1 H1 vx g w1 dx => ⟨ρ1, Hf1, g, w1, dx⟩)) fun us s1 ⟨vs, H1, I1, r1, ρ1, Hf1, g, w1, dx⟩ => ?_) hs hpl))
        obtain ⟨v1, v2, rfl, d1, d2⟩ := den2 dx
        obtain ⟨k1, q1, ws1, rfl, s1', t1⟩ := src_of d1 h3
        cases d2
        cases r1 with
        | cons r rr =>
          cases rr with
          | cons r' rr =>
            cases rr
            cases r
            obtain ⟨tk, rfl⟩ := r'
            obtain ⟨its, rv, p1, _, l1⟩ := Sk.look I1 (s1' H1 w1.ex)
            have hsm := small_le hsm
            refine enum_begins (k1.begins q1 its.toArray) p1 (by omega) (by omega) fun h' he o1 hsz hk => wpAny_pyIter_enum he ?_
            have I2 : Inv X pins σ H1 { s1 with heap := h' } := I1.kept (t' := s1.toks) hk
            refine ⟨s1.heap.objs.size + 1, [s1.heap.objs.size + 1, s1.heap.objs.size], _, _, H1, rfl, I2,
              turn_enumK (k1 := k1) (a := q1) (xs := ws1) (k0 := k0) (fun z => by have z : (_ : Nat) = _ := z; omega), ⟨⟨_, by rw [show k0 + ((0 : Nat) : Int) = k0 by omega]; exact he⟩, Sk.itOb o1⟩, fun c hcm => ?_, k ρ1 Hf1 H1 _ g w1 (real_enum s1' t1)⟩
            have hle : s1.heap.objs.size ≤ c := by
              generalize s1.heap.objs.size = N at hcm ⊢
              have e' : c = N + 1 ∨ c = N := by simpa using hcm
              rcases e' with z | z <;> (rw [z]; first | exact Nat.le_refl _ | exact Nat.le_add_right _ _)
            exact I1.fpOk hle (I1.hok.fresh hle)
      · cases h
  | _ => cases h
end
end MP
set_option Elab.async false
set_option linter.all false
set_option maxRecDepth 100000
set_option maxHeartbeats 1000000
/-! MiniPy 9: targets, list comprehensions. -/
namespace MP
open PySem PySem.Spec PyProof.Rows L2

/-- the slots that a pattern writes -/
def Pat.slots : Pat → List Nat
  | .name i => [i]
  | .tup p => p.slots
  | .nil => []
  | .cons p r => p.slots ++ r.slots
def Pat.len : Pat → Nat
  | .cons _ r => r.len + 1
  | _ => 0
theorem bindPs_len : ∀ {p : Pat} {ds : List D} {env env' : Env}, bindPs p ds env = some env' → ds.length = p.len
  | .nil, [], _, _, _ => rfl
  | .cons p r, d :: ds, env, env', h => by
    obtain ⟨e1, h1, h2⟩ := bind_some h
    rw [List.length_cons, bindPs_len h2]
    rfl
  | .nil, _ :: _, _, _, h => by simp [bindPs] at h
  | .cons _ _, [], _, _, h => by simp [bindPs] at h
  | .name _, _, _, _, h => by simp [bindPs] at h
  | .tup _, _, _, _, h => by simp [bindPs] at h

def tG (K : PySem.W.Frag) (p : Pat) : TG := fun v σ H Q => ∃ env d env2 ρ Hf Fx m, Wd K ρ Hf Fx m H ∧ EnvDen K ρ Hf env σ ∧ Den K ρ Hf d v ∧ bindP p d env = some env2 ∧
  ∀ σ2, EnvDen K ρ Hf env2 σ2 → (∀ own : List Nat, (∀ i ∈ p.slots, i ∈ own) → wipe σ2 own = wipe σ own) → Q σ2 H
def tGs (K : PySem.W.Frag) (p : Pat) : TGs := fun vs σ H Q => ∃ env ds env2 ρ Hf Fx m, Wd K ρ Hf Fx m H ∧ EnvDen K ρ Hf env σ ∧ DenAll K ρ Hf ds vs ∧ bindPs p ds env = some env2 ∧
  ∀ σ2, EnvDen K ρ Hf env2 σ2 → (∀ own : List Nat, (∀ i ∈ p.slots, i ∈ own) → wipe σ2 own = wipe σ own) → Q σ2 H
abbrev GX (X : Cx) (e : Expr) (p : Pat) : Prop := PG X e (tG X.K p)
abbrev GXs (X : Cx) (e : List Expr) (p : Pat) : Prop := PGs X e (tGs X.K p)
theorem PG.via {X : Cx} {e : Expr} {t t' : TG} (h : PG X e t) (k : ∀ v σ H Q, t' v σ H Q → t v σ H Q) : PG X e t' := ⟨fun pins s σ H v u Q I r q => h.run pins s σ H v u Q I r (k v σ H Q q)⟩
theorem PGs.via {X : Cx} {e : List Expr} {t t' : TGs} (h : PGs X e t) (k : ∀ v σ H Q, t' v σ H Q → t v σ H Q) : PGs X e t' := ⟨fun pins s σ H v u Q I r q => h.run pins s σ H v u Q I r (k v σ H Q q)⟩
theorem wipe_put {σ : L2.St} {i : Nat} {x : Option V} : ∀ {own : List Nat}, i ∈ own → wipe (σ.set i x) own = wipe σ own
  | [], h => by simp at h
  | v :: vs, h => by
    show (wipe (σ.set i x) vs).set v none = (wipe σ vs).set v none
    by_cases hv : i ∈ vs
    · rw [wipe_put hv]
    · have e : i = v := by
        rcases List.mem_cons.mp h with z | z
        · exact z
        · exact absurd z hv
      subst e
      refine List.ext_getElem? fun j => ?_
      by_cases hj : i = j
      · subst hj
        rw [List.getElem?_set_self', List.getElem?_set_self']
        cases q : (wipe (σ.set i x) vs)[i]? with
        | none =>
          have : (wipe σ vs)[i]? = none := by
            rw [List.getElem?_eq_none_iff, wipe_length] at q ⊢
            rw [List.length_set] at q
            exact q
          rw [this]
        | some y =>
          have : i < (wipe σ vs).length := by
            have z := (List.getElem?_eq_some_iff.mp q).1
            rw [wipe_length, List.length_set] at z
            rw [wipe_length]
            exact z
          rw [List.getElem?_eq_getElem this]
          rfl
      · rw [List.getElem?_set_ne hj, List.getElem?_set_ne hj]
        exact wipe_other hj
where
  wipe_other {σ : L2.St} {i j : Nat} {x : Option V} (hj : i ≠ j) : ∀ {own : List Nat}, (wipe (σ.set i x) own)[j]? = (wipe σ own)[j]?
    | [] => List.getElem?_set_ne hj
    | v :: vs => by
      show ((wipe (σ.set i x) vs).set v none)[j]? = ((wipe σ vs).set v none)[j]?
      by_cases h : v = j
      · subst h
        rw [List.getElem?_set_self', List.getElem?_set_self', wipe_other hj]
      · rw [List.getElem?_set_ne h, List.getElem?_set_ne h]
        exact wipe_other hj
section
variable {X : Cx} {pos : Pos} {e : Expr} {es : List Expr}
theorem mg_name {i : Nat} {x : Str} (hN : X.N.Nodup) (hi : X.N[i]? = some x := by rfl) (hx : Loc X.env.scope x := by first | exact Or.inl rfl | exact Or.inr rfl) (hf : X.fn x = true ∨ X.env.scope.names.lookup x = some .local := by first | exact .inl rfl | exact .inr rfl) : GX X (.Name x pos) (.name i) := by
  refine PG.via (pg_name (i := i) hN hi hx hf) fun v σ H Q h => ?_
  obtain ⟨env, d, env2, ρ, Hf, Fx, m, w, e, t, h, k⟩ := h
  cases h
  exact k _ (e.set i t) fun own ho => wipe_put (ho i (by simp [Pat.slots]))
theorem mg_nil : GXs X [] .nil := by
  refine PGs.via pgs_nil fun vs σ H Q h => ?_
  obtain ⟨env, ds, env2, ρ, Hf, Fx, m, w, e, t, h, k⟩ := h
  cases t with
  | nil =>
    cases h
    exact ⟨rfl, k _ e fun _ _ => rfl⟩
  | cons a b => cases h
theorem mg_cons {p r : Pat} (h1 : GX X e p) (h2 : GXs X es r) (hs : (assignEach (e :: es) X.env).map (·.2) = assign e X.env :: (assignEach es X.env).map (·.2) := by rfl) : GXs X (e :: es) (.cons p r) := by
  refine PGs.via (pgs_cons h1 h2 hs) fun vs σ H Q h => ?_
  obtain ⟨env, ds, env2, ρ, Hf, Fx, m, w, e, t, h, k⟩ := h
  cases t with
  | nil => cases h
  | cons a b =>
    obtain ⟨env1, h1, h2⟩ := bind_some h
    refine ⟨_, _, rfl, env, _, env1, ρ, Hf, Fx, m, w, e, a, h1, fun σ1 e1 w1 => ⟨env1, _, env2, ρ, Hf, Fx, m, w, e1, b, h2, fun σ2 e2 w2 => k σ2 e2 fun own ho => ?_⟩⟩
    rw [w2 own fun i hi => ho i (List.mem_append_right _ hi), w1 own fun i hi => ho i (List.mem_append_left _ hi)]
theorem mg_tup {k : Nat} {p : Pat} (hc : X.calm = true) (h : GXs X es p) (hn : (assignEach es X.env).length = p.len := by rfl) (hst : (assignEach es X.env).findIdx? (·.1) = none := by rfl) : GX X (.Tuple es k pos) (.tup p) := by
  refine PG.via (pg_tup hc h hn hst) fun v σ H Q h => ?_
  obtain ⟨env, d, env2, ρ, Hf, Fx, m, w, e, t, h, k⟩ := h
  cases t with
  | tup s t => exact ⟨_, _, rfl, same_seqT w.ex s, by rw [← t.length]; exact bindPs_len h, env, _, env2, ρ, Hf, Fx, m, w, e, t, h, k⟩
  | _ => cases h
end

/-! ### a list that is being made -/
section
variable {K : PySem.W.Frag} {ρ : List Addr} {Hf Fx H : Hp} {m : Mem} {Dq : Addr} {o o' : HO}
theorem Wd.keep (w : Wd K ρ Hf Fx m H) (h : H Dq = none) : Wd K ρ Hf (upd Fx Dq o) m (upd H Dq o) := by
  obtain ⟨h1, h2, h3⟩ := w.fresh h
  refine ⟨w.ex.trans (same_upd h), same_upd2 w.fx, fun a u e => ?_, w.nd, w.fr, w.len, fun n a c e1 e2 => ?_⟩
  · by_cases ha : a = Dq
    · subst ha
      exact ⟨h1, h3⟩
    · rw [upd_ne ha] at e
      exact w.dj a u e
  · have hne : a ≠ Dq := fun z => h3 (z ▸ List.mem_of_getElem? e1)
    rw [upd_ne hne]
    exact w.cell n a c e1 e2
theorem Wd.put (w : Wd K ρ Hf (upd Fx Dq o) m H) : Wd K ρ Hf (upd Fx Dq o') m (upd H Dq o') := by
  obtain ⟨h1, h3⟩ := w.dj Dq o upd_same
  refine ⟨fun a u e => ?_, fun a u e => ?_, fun a u e => ?_, w.nd, w.fr, w.len, fun n a c e1 e2 => ?_⟩
  · have hne : a ≠ Dq := fun z => by
      rw [z, h1] at e
      cases e
    rw [upd_ne hne]
    exact w.ex a u e
  · by_cases ha : a = Dq
    · subst ha
      rw [upd_same] at e ⊢
      exact e
    · rw [upd_ne ha] at e ⊢
      exact w.fx a u (by rw [upd_ne ha]; exact e)
  · by_cases ha : a = Dq
    · subst ha
      exact ⟨h1, h3⟩
    · rw [upd_ne ha] at e
      exact w.dj a u (by rw [upd_ne ha]; exact e)
  · have hne : a ≠ Dq := fun z => h3 (z ▸ List.mem_of_getElem? e1)
    rw [upd_ne hne]
    exact w.cell n a c e1 e2
/-- it is done: it stays from now on -/
theorem Wd.done (w : Wd K ρ Hf (upd Fx Dq o) m H) (hF : Fx Dq = none) : Wd K ρ (upd Hf Dq o) Fx m H ∧ Gr ρ Hf ρ (upd Hf Dq o) := by
  obtain ⟨h1, h3⟩ := w.dj Dq o upd_same
  have g : Gr ρ Hf ρ (upd Hf Dq o) := ⟨Pre.refl ρ, same_upd h1⟩
  refine ⟨⟨fun a u e => ?_, fun a u e => ?_, fun a u e => ?_, w.nd, fun a ha => ?_, w.len, fun n a c e1 e2 => (w.cell n a c e1 e2).mono g.pre g.ex⟩, g⟩
  · by_cases ha : a = Dq
    · subst ha
      rw [upd_same] at e
      cases e
      exact w.fx a _ upd_same
    · rw [upd_ne ha] at e
      exact w.ex a u e
  · have ha : a ≠ Dq := fun z => by
      rw [z, hF] at e
      cases e
    exact w.fx a u (by rw [upd_ne ha]; exact e)
  · have ha : a ≠ Dq := fun z => by
      rw [z, hF] at e
      cases e
    rw [upd_ne ha]
    exact w.dj a u (by rw [upd_ne ha]; exact e)
  · have hne : a ≠ Dq := fun z => h3 (z ▸ ha)
    rw [upd_ne hne]
    exact w.fr a ha
end

theorem PTs.via {X : Cx} {ifs : List Expr} {t t' : TT} (h : PTs X ifs t) (k : ∀ σ H Q, t' σ H Q → t σ H Q) : PTs X ifs t' := ⟨fun pins s σ H Q I q => h.run pins s σ H Q I (k σ H Q q)⟩
abbrev TX (X : Cx) (G : Calls) (ifs : List Expr) (t : E) : Prop := PTs X ifs (tT X.K G t)
section
variable {X : Cx} {G : Calls}
theorem mts_nil : TX X G [] (.lit (.bl true)) := by
  refine PTs.via pts_nil fun σ H Q h => ?_
  obtain ⟨env, m, b, m', ρ, Hf, Fx, w, e, h, k⟩ := h
  cases h
  exact k ρ Hf H (Gr.refl ρ Hf) w
theorem mts_one {c : Expr} {C : E} (h : ET X G c C) : TX X G [c] C := pts_one h
end

theorem compF_len {b : D → Mem → Option (Bool × Mem)} {e : D → Mem → Option (D × Mem)} : ∀ {ds : List D} {m m' : Mem} {xs : List D}, compF b e ds m = some (xs, m') → xs.length ≤ ds.length
  | [], m, m', xs, h => by
    cases h
    exact Nat.le_refl _
  | d :: ds, m, m', xs, h => by
    obtain ⟨r, h1, h⟩ := bind_some h
    by_cases hr : r.1 = true
    · simp only [hr, if_true] at h
      obtain ⟨x, h2, h⟩ := bind_some h
      obtain ⟨y, h3, h4⟩ := map_some' h
      cases h4
      have := compF_len h3
      simp only [List.length_cons]
      omega
    · simp only [hr, if_false] at h
      have := compF_len h
      simp only [List.length_cons]
      omega

theorem wipe_sub {σ : L2.St} {own : List Nat} : ∀ {vs : List Nat}, (∀ i ∈ vs, i ∈ own) → wipe (wipe σ vs) own = wipe σ own
  | [], _ => rfl
  | v :: vs, h => by
    show wipe ((wipe σ vs).set v none) own = _
    rw [wipe_put (h v (List.mem_cons_self ..)), wipe_sub fun i hi => h i (List.mem_cons_of_mem _ hi)]
/-- what a comprehension does, over an iterator that gives ds -/
theorem tLc_of {K : PySem.W.Frag} {G : Calls} {ELT IT C : E} {P : Pat} {own : List Nat} (hsl : ∀ i ∈ P.slots, i ∈ own) {σ : L2.St} {H : Hp} {Q : VK}
    (h : tS K G (.comp ELT P IT C own) σ H Q) : tLc (tI K G IT) (tG K P) (tT K G C) (tS K G ELT) own σ H Q := by
  obtain ⟨env, m, d, m', ρ, Hf, Fx, w, e, h, k⟩ := h
  obtain ⟨⟨x, m1⟩, h1, h⟩ := bind_some h
  cases x with
  | tup ds =>
    have h : (if sz ds.length = true then (compF (fun d m => (bindP P d (wipeE env own)).bind fun env => (ev G C env m).bind fun y => y.1.bool?.map fun k => (k, y.2)) (fun d m => (bindP P d (wipeE env own)).bind fun env => ev G ELT env m) ds m1).map fun y => (D.lst y.1, y.2) else none) = some (d, m') := h
    split at h
    · rename_i hz
      obtain ⟨⟨tot, mE⟩, hC, h3⟩ := map_some' h
      cases h3
      refine ⟨env, m, ds, m1, ρ, Hf, Fx, w, e, h1, fun ρ1 Hf1 H1 J g1 w1 rl Dq hD => ?_⟩
      obtain ⟨f1, f2, f3⟩ := w1.fresh hD
      refine lc_it rl (fun i H => ∃ ρ2 Hf2 m2 acc accD rest, Gr ρ1 Hf1 ρ2 Hf2 ∧ Wd K ρ2 Hf2 (upd Fx Dq (.lst acc)) m2 H ∧ DenAll K ρ2 Hf2 accD acc ∧
          compF (fun d m => (bindP P d (wipeE env own)).bind fun env => (ev G C env m).bind fun y => y.1.bool?.map fun k => (k, y.2)) (fun d m => (bindP P d (wipeE env own)).bind fun env => ev G ELT env m) (ds.drop i) m2 = some (rest, mE) ∧ accD ++ rest = tot ∧ accD.length ≤ i)
        ⟨ρ1, Hf1, m1, [], [], tot, Gr.refl _ _, w1.keep hD, .nil, hC, rfl, Nat.le_refl _⟩
        (fun i H _ ⟨ρ2, Hf2, m2, acc, accD, rest, g2, w2, _⟩ => g2.ex.trans w2.ex) ?_ ?_
      · rintro i x H2 H2' hi ⟨ρ2, Hf2, m2, acc, accD, rest, g2, w2, t2, hR, hA, hL⟩ ⟨d, hd, y⟩
        have hdrop : ds.drop i = d :: ds.drop (i + 1) := by
          obtain ⟨hl, hg⟩ := List.getElem?_eq_some_iff.mp hd
          rw [List.drop_eq_getElem_cons hl, hg]
        rw [hdrop] at hR
        obtain ⟨⟨bb, m3⟩, hb, hR⟩ := bind_some hR
        obtain ⟨env2, hb1, hb⟩ := bind_some hb
        obtain ⟨⟨yy, m3'⟩, hb2, hb3⟩ := bind_some hb
        obtain ⟨kk, hb4, hb5⟩ := map_some' hb3
        cases hb5
        have hyy : yy = .bl bb := by
          cases yy with
          | bl z => cases hb4; rfl
          | _ => cases hb4
        subst hyy
        -- the item
        have go : ∀ (ρ3 : List Addr) (Hf3 H3 : Hp) (v : V), Gr ρ2 Hf2 ρ3 Hf3 → Wd K ρ3 Hf3 (upd Fx Dq (.lst acc)) m2 H3 → Den K ρ3 Hf3 d v →
            tG K P v (wipe σ own) H3 fun σ2 H2 => wipe σ2 own = wipe σ own ∧ tT K G C σ2 H2 fun b H3 =>
              if b = true then tS K G ELT σ2 H3 fun y H4 => ∃ acc, H4 Dq = some (.lst acc) ∧ acc.length < sizeLine ∧ (fun i H => ∃ ρ2 Hf2 m2 acc accD rest, Gr ρ1 Hf1 ρ2 Hf2 ∧ Wd K ρ2 Hf2 (upd Fx Dq (.lst acc)) m2 H ∧ DenAll K ρ2 Hf2 accD acc ∧
          compF (fun d m => (bindP P d (wipeE env own)).bind fun env => (ev G C env m).bind fun y => y.1.bool?.map fun k => (k, y.2)) (fun d m => (bindP P d (wipeE env own)).bind fun env => ev G ELT env m) (ds.drop i) m2 = some (rest, mE) ∧ accD ++ rest = tot ∧ accD.length ≤ i) (i + 1) (upd H4 Dq (.lst (acc ++ [y])))
              else (fun i H => ∃ ρ2 Hf2 m2 acc accD rest, Gr ρ1 Hf1 ρ2 Hf2 ∧ Wd K ρ2 Hf2 (upd Fx Dq (.lst acc)) m2 H ∧ DenAll K ρ2 Hf2 accD acc ∧
          compF (fun d m => (bindP P d (wipeE env own)).bind fun env => (ev G C env m).bind fun y => y.1.bool?.map fun k => (k, y.2)) (fun d m => (bindP P d (wipeE env own)).bind fun env => ev G ELT env m) (ds.drop i) m2 = some (rest, mE) ∧ accD ++ rest = tot ∧ accD.length ≤ i) (i + 1) H3 := by
          intro ρ3 Hf3 H3 v g3 w3 tv
          refine ⟨wipeE env own, d, env2, ρ3, Hf3, _, m2, w3, (e.mono (g1.trans (g2.trans g3))).wipe own, tv, hb1, fun σ2 e2 wp => ⟨(wp own hsl).trans (wipe_sub fun _ z => z), ?_⟩⟩
          refine ⟨env2, m2, bb, m3', ρ3, Hf3, _, w3, e2, hb2, fun ρ4 Hf4 H4 g4 w4 => ?_⟩
          cases bb with
          | false =>
            rw [if_neg Bool.false_ne_true]
            exact ⟨ρ4, Hf4, m3', acc, accD, rest, g2.trans (g3.trans g4), w4, t2.mono (g3.trans g4).pre (g3.trans g4).ex, hR, hA, by omega⟩
          | true =>
            rw [if_pos rfl]
            obtain ⟨⟨z, m5⟩, hz1, hR⟩ := bind_some hR
            obtain ⟨⟨rest', m6⟩, hR2, hR3⟩ := map_some' hR
            cases hR3
            have hz2 : ev G ELT env2 m3' = some (z, m5) := by
              have q : (bindP P d (wipeE env own)).bind (fun env => ev G ELT env m3') = some (z, m5) := hz1
              rw [hb1] at q
              exact q
            refine ⟨env2, m3', z, m5, ρ4, Hf4, _, w4, e2.mono g4, hz2, fun ρ5 Hf5 H5 vz g5 w5 tz => ?_⟩
            have g25 := g3.trans (g4.trans g5)
            have t5 := t2.mono g25.pre g25.ex
            refine ⟨acc, w5.fx Dq _ upd_same, ?_, ρ5, Hf5, m5, acc ++ [vz], accD ++ [z], rest', g2.trans g25, w5.put, t5.append (.cons tz .nil), hR2, ?_, ?_⟩
            · have := sz_line hz
              rw [← t5.length]
              omega
            · rw [List.append_assoc]
              exact hA
            · rw [List.length_append, List.length_singleton]
              omega
        rcases y with ⟨rfl, tv⟩ | ⟨T, es, vs, hT, rfl, rfl, rfl, tv⟩
        · have tv2 := tv.mono g2.pre g2.ex
          exact go ρ2 Hf2 _ x (Gr.refl _ _) w2 tv2
        · obtain ⟨w3, g3⟩ := w2.laid (o := .tup vs) hT
          have tv2 := tv.mono (g2.trans g3).pre (g2.trans g3).ex
          exact go ρ2 _ _ (.ref T) g3 w3 (.tup (.inl (.inl upd_same)) tv2)
      · rintro H2 ⟨ρ2, Hf2, m2, acc, accD, rest, g2, w2, t2, hR, hA, hL⟩
        rw [List.drop_length] at hR
        cases hR
        rw [List.append_nil] at hA
        subst hA
        obtain ⟨w3, g3⟩ := w2.done f2
        exact k ρ2 _ H2 (.ref Dq) (g1.trans (g2.trans g3)) w3 (.lst upd_same (t2.mono g3.pre g3.ex))
    · cases h
  | _ => cases h
end MP
set_option Elab.async false
set_option linter.all false
set_option maxRecDepth 100000
set_option maxHeartbeats 1000000
/-! MiniPy 10: comprehensions, methods of lists, statements. -/
namespace MP
open PySem PySem.Spec PyProof.Rows L2

section
variable {X : Cx} {G : Calls}
theorem mb_comp {elt tg iter : Expr} {ifs : List Expr} {scope : Scope} {own : List (Str × Nat)} {ow : List Nat} {pos : Pos} {ELT IT C : E} {P : Pat} (hc : X.calm = true) (hN : X.N.Nodup) (ok : BlkOk X.N X.env.scope scope own) (hi : IX X G tg iter IT)
    (hg : ∀ (s : Shared) (H : Hp) (Ca : Addr) (cl : List (Str × Addr)) (fp : List Addr), GX (X.blk s H scope (compEnvC scope cl Ca X.env) fp) tg P)
    (ht : ∀ (s : Shared) (H : Hp) (Ca : Addr) (cl : List (Str × Addr)) (fp : List Addr), TX (X.blk s H scope (compEnvC scope cl Ca X.env) fp) G ifs C)
    (he : ∀ (s : Shared) (H : Hp) (Ca : Addr) (cl : List (Str × Addr)) (fp : List Addr), EX (X.blk s H scope (compEnvC scope cl Ca X.env) fp) G elt ELT)
    (how : own.map (·.2) = ow := by rfl) (hsl : ∀ i ∈ P.slots, i ∈ ow := by decide) (hs : ∀ x, foldedSetIterable iter X.env x = pure x := by intro _; rfl) :
    EX X G (.ListComp elt [⟨tg, iter, ifs, 0⟩] scope pos) (.comp ELT P IT C ow) := by
  subst how
  exact PE.via (pe_lc (pos := pos) hc hN hi ok hg ht he hs) fun σ H Q h => tLc_of hsl h

theorem last_get {α : Type} : ∀ {xs : List α} {x : α}, xs.getLast? = some x → xs[xs.length - 1]? = some x := fun h => by
  rw [List.getLast?_eq_getElem?] at h
  exact h
theorem den_last {K : PySem.W.Frag} {ρ : List Addr} {H : Hp} {ds : List D} {vs : List V} (t : DenAll K ρ H ds vs) {d : D} (h : ds.getLast? = some d) : ∃ v, vs[vs.length - 1]? = some v ∧ Den K ρ H d v := by
  have h1 := last_get h
  rw [t.length] at h1
  exact t.get h1
theorem mb_pop {o : Expr} {O : E} {apos cpos : Pos} (ho : EX X G o O) (hbase : attributeBase o "pop" X.env (eval o X.env) = eval o X.env := by rfl) (hline : (apos.endLine == cpos.line) = true := by rfl) :
    EX X G (.Call (.Attribute o "pop" apos) [] [] cpos) (.pop O) := by
  refine PE.via (pe_bm0 PySem.F.plainAttrs_list PySem.F.slot_list_pop PySem.F.type_list_pop mt_pop ho hbase hline) fun σ H Q h => ?_
  obtain ⟨env, m, d, m', ρ, Hf, Fx, w, e, h, k⟩ := h
  obtain ⟨⟨x, m1⟩, h1, h⟩ := bind_some h
  refine one w e h1 fun ρ1 Hf1 H1 vx g w1 dx => ?_
  cases dx with
  | @ref n a ea =>
    have h : (match m1[n]? with | some (.lst ds) => (ds.getLast?).map fun d => (d, m1.set n (.lst ds.dropLast)) | none => none) = some (d, m') := h
    cases hm : m1[n]? with
    | none => rw [hm] at h; cases h
    | some c =>
      cases c with
      | lst ds =>
        rw [hm] at h
        have h : (ds.getLast?).map (fun d => (d, m1.set n (.lst ds.dropLast))) = some (d, m') := h
        obtain ⟨d', h2, h3⟩ := map_some' h
        cases h3
        obtain ⟨vs, hv, t⟩ := w1.at ea hm
        obtain ⟨v, h4, h5⟩ := den_last t h2
        exact ⟨.inl ⟨rfl, _, .inl (.inl hv)⟩, _, _, _, rfl, rfl, hv, h4, k ρ1 Hf1 _ v g (w1.store ea t.dropLast) h5⟩
  | _ => cases h
end

/-! ### statements -/
def PostF (K : PySem.W.Frag) (ρ : List Addr) (Hf Fx : Hp) (fl : Fl) (m : Mem) (Z : Ends) : Prop :=
  ∀ ρ' Hf' H', Gr ρ Hf ρ' Hf' → Wd K ρ' Hf' Fx m H' → match fl with
    | .nx env => ∀ σ, EnvDen K ρ' Hf' env σ → Z.nx σ H'
    | .rt d => ∀ v, Den K ρ' Hf' d v → Z.rt v H'
    | .bk env => ∀ σ, EnvDen K ρ' Hf' env σ → Z.bk σ H'
    | .ct env => ∀ σ, EnvDen K ρ' Hf' env σ → Z.ct σ H'
theorem PostF.go {K : PySem.W.Frag} {ρ ρ' : List Addr} {Hf Hf' Fx : Hp} {fl : Fl} {m : Mem} {Z : Ends} (p : PostF K ρ Hf Fx fl m Z) (g : Gr ρ Hf ρ' Hf') : PostF K ρ' Hf' Fx fl m Z :=
  fun _ _ _ g' w => p _ _ _ (g.trans g') w
abbrev FF : Type := Env → Mem → Option (Fl × Mem)
def tF (K : PySem.W.Frag) (f : FF) : TS := fun Z σ H => ∃ env m fl m' ρ Hf Fx, Wd K ρ Hf Fx m H ∧ EnvDen K ρ Hf env σ ∧ f env m = some (fl, m') ∧ PostF K ρ Hf Fx fl m' Z
abbrev SX (X : Cx) (st : Stmt) (f : FF) : Prop := PS X st (tF X.K f)
abbrev ES (X : Cx) (G : Calls) (N : Nat) (st : List Stmt) (t : S) : Prop := PSs X st (tF X.K (exec G N t))
theorem PS.via {X : Cx} {e : Stmt} {t t' : TS} (h : PS X e t) (k : ∀ Z σ H, t' Z σ H → t Z σ H) : PS X e t' := ⟨fun pins s σ H Z I q => h.run pins s σ H Z I (k Z σ H q)⟩
theorem PSs.via {X : Cx} {e : List Stmt} {t t' : TS} (h : PSs X e t) (k : ∀ Z σ H, t' Z σ H → t Z σ H) : PSs X e t' := ⟨fun pins s σ H Z I q => h.run pins s σ H Z I (k Z σ H q)⟩

section
variable {X : Cx} {G : Calls} {N : Nat} {K : PySem.W.Frag}
theorem ms_nil : ES X G N [] .nil := by
  refine PSs.via pss_nil fun Z σ H h => ?_
  obtain ⟨env, m, fl, m', ρ, Hf, Fx, w, e, h, k⟩ := h
  cases h
  exact k ρ Hf H (Gr.refl ρ Hf) w σ e
theorem tF_seq {f g r : FF} (hr : ∀ env m, r env m = thnF (f env m) g) {Z : Ends} {σ : L2.St} {H : Hp} (h : tF K r Z σ H) : tSeq (tF K f) (tF K g) Z σ H := by
  obtain ⟨env, m, fl, m', ρ, Hf, Fx, w, e, h, k⟩ := h
  rw [hr] at h
  obtain ⟨⟨fl1, m1⟩, h1, h⟩ := bind_some h
  refine ⟨env, m, fl1, m1, ρ, Hf, Fx, w, e, h1, fun ρ1 Hf1 H1 g1 w1 => ?_⟩
  cases fl1 with
  | nx env1 => exact fun σ1 e1 => ⟨env1, m1, fl, m', ρ1, Hf1, Fx, w1, e1, h, k.go g1⟩
  | rt d =>
    cases h
    exact k ρ1 Hf1 H1 g1 w1
  | bk d =>
    cases h
    exact k ρ1 Hf1 H1 g1 w1
  | ct d =>
    cases h
    exact k ρ1 Hf1 H1 g1 w1
theorem ms_cons {st : Stmt} {sts : List Stmt} {f g r : FF} (h1 : SX X st f) (h2 : PSs X sts (tF X.K g)) (hr : ∀ env m, r env m = thnF (f env m) g) : PSs X (st :: sts) (tF X.K r) :=
  PSs.via (pss_cons h1 h2) fun Z σ H h => tF_seq hr h

/-! expressions, stores -/
theorem ms_expr {a : Expr} {A : E} {k : S} {sts : List Stmt} {pos : Pos} (ha : EX X G a A) (hk : ES X G N sts k) (hs : swapsWith a none pos.line X.env = pure false := by rfl) : ES X G N (.Expr a pos :: sts) (.expr A k) := by
  refine ms_cons (f := fun env m => (ev G A env m).map fun x => (.nx env, x.2)) (PS.via (ps_expr ha hs) fun Z σ H h => ?_) hk fun env m => ?_
  · obtain ⟨env, m, fl, m', ρ, Hf, Fx, w, e, h, k⟩ := h
    obtain ⟨⟨x, m1⟩, h1, h⟩ := map_some' h
    cases h
    exact one w e h1 fun ρ1 Hf1 H1 vx g w1 dx => k ρ1 Hf1 H1 g w1 σ (e.mono g)
  · show (ev G A env m).bind _ = _
    cases ev G A env m <;> rfl
theorem asg_eq {p : Pat} {A : E} {k : S} {env : Env} {m : Mem} : exec G N (.asg p A k) env m = thnF ((ev G A env m).bind fun x => (bindP p x.1 env).map fun env => (.nx env, x.2)) (exec G N k) := by
  show (ev G A env m).bind _ = _
  cases ev G A env m with
  | none => rfl
  | some x =>
    show (bindP p x.1 env).bind _ = _
    cases h : bindP p x.1 env with
    | none =>
      show none = thnF (((bindP p x.1 env).map _)) _
      rw [h]
      rfl
    | some y =>
      show _ = thnF (((bindP p x.1 env).map _)) _
      rw [h]
      rfl
theorem asg_tF {p : Pat} {A : E} {Z : Ends} {σ : L2.St} {H : Hp} (h : tF K (fun env m => (ev G A env m).bind fun x => (bindP p x.1 env).map fun env => (.nx env, x.2)) Z σ H) : tS K G A σ H fun x H1 => tG K p x σ H1 Z.nx := by
  obtain ⟨env, m, fl, m', ρ, Hf, Fx, w, e, h, k⟩ := h
  obtain ⟨⟨x, m1⟩, h1, h⟩ := bind_some h
  obtain ⟨env1, h2, h3⟩ := map_some' h
  cases h3
  exact one w e h1 fun ρ1 Hf1 H1 vx g w1 dx => ⟨env, x, env1, ρ1, Hf1, Fx, _, w1, e.mono g, dx, h2, fun σ2 e2 _ => k ρ1 Hf1 H1 g w1 σ2 e2⟩
theorem ms_asg {tg a : Expr} {A : E} {p : Pat} {k : S} {sts : List Stmt} {pos : Pos} (ha : EX X G a A) (hg : GX X tg p) (hk : ES X G N sts k) (hs : swapsWithSole [tg] a pos.line X.env = pure false := by rfl) (hw : swappedStores [tg] a X.env = pure none := by rfl)
    (h1 : (assignEach [tg] X.env).map (·.2) = [assign tg X.env] := by rfl) : ES X G N (.Assign [tg] a pos :: sts) (.asg p A k) :=
  ms_cons (PS.via (ps_asg ha hg hs hw h1) fun Z σ H h => asg_tF h) hk fun env m => asg_eq
theorem ms_setLc {i : Nat} {y : Str} {py : Pos} {elt tg iter : Expr} {ifs : List Expr} {scope : Scope} {own : List (Str × Nat)} {ow : List Nat} {pos spos : Pos} {ELT IT C : E} {P : Pat} {k : S} {sts : List Stmt} (hc : X.calm = true) (hN : X.N.Nodup) (ok : BlkOk X.N X.env.scope scope own) (hi : IX X G tg iter IT)
    (hg : ∀ (s : Shared) (H : Hp) (Ca : Addr) (cl : List (Str × Addr)) (fp : List Addr), GX (X.blk s H scope (compEnvC scope cl Ca X.env) fp) tg P)
    (ht : ∀ (s : Shared) (H : Hp) (Ca : Addr) (cl : List (Str × Addr)) (fp : List Addr), TX (X.blk s H scope (compEnvC scope cl Ca X.env) fp) G ifs C)
    (he : ∀ (s : Shared) (H : Hp) (Ca : Addr) (cl : List (Str × Addr)) (fp : List Addr), EX (X.blk s H scope (compEnvC scope cl Ca X.env) fp) G elt ELT) (hk : ES X G N sts k)
    (hy : X.N[i]? = some y := by rfl) (hyl : X.env.scope.names.lookup y = some .local := by rfl) (hsw : swapsWith (.ListComp elt [⟨tg, iter, ifs, 0⟩] scope pos) (some (.Name y py)) spos.line X.env = pure true := by rfl)
    (how : own.map (·.2) = ow := by rfl) (hsl : ∀ i ∈ P.slots, i ∈ ow := by decide) (hs : ∀ x, foldedSetIterable iter X.env x = pure x := by intro _; rfl) :
    ES X G N (.Assign [.Name y py] (.ListComp elt [⟨tg, iter, ifs, 0⟩] scope pos) spos :: sts) (.asg (.name i) (.comp ELT P IT C ow) k) := by
  subst how
  refine ms_cons (PS.via (ps_setLc (i := i) (py := py) (g := tG X.K P) (tt := tT X.K G C) (te := tS X.K G ELT) hc hN hy hyl hsw hi ok hg ht he hs) fun Z σ H h => ?_) hk fun env m => asg_eq
  refine tLc_of hsl ?_
  obtain ⟨env, m, d, m', ρ, Hf, Fx, w, e, h, q⟩ := asg_tF h
  refine ⟨env, m, d, m', ρ, Hf, Fx, w, e, h, fun ρ' Hf' H' v g w' t => ?_⟩
  obtain ⟨env, d, env2, ρ, Hf, Fx, m, w, e, t, h, k⟩ := q ρ' Hf' H' v g w' t
  cases h
  exact k _ (e.set i t) fun own ho => wipe_put (ho i (by simp [Pat.slots]))
theorem par_args {a b : E} {x y : D} {ρ : List Addr} {Hf Fx H : Hp} {m m1 m2 : Mem} {env : Env} {σ : L2.St} {R : List V → Hp → Prop} (w : Wd K ρ Hf Fx m H) (e : EnvDen K ρ Hf env σ) (ha : ev G a env m = some (x, m1)) (hb : ev G b env m1 = some (y, m2))
    (k : ∀ ρ1 Hf1 H1 vx vy, Gr ρ Hf ρ1 Hf1 → Wd K ρ1 Hf1 Fx m2 H1 → Den K ρ1 Hf1 x vx → Den K ρ1 Hf1 y vy → R [vx, vy] H1) : tA K G (.cons a (.cons b .nil)) σ H R := by
  refine args w e (m1 := m2) (ds := [x, y]) ?_ fun ρ1 Hf1 H1 vs g w1 t => ?_
  · show (ev G a env m).bind _ = _
    rw [ha]
    show (Option.bind ((ev G b env m1).bind _) _) = _
    rw [hb]
    rfl
  · obtain ⟨v1, v2, rfl, t1, t2⟩ := den2 t
    exact k ρ1 Hf1 H1 v1 v2 g w1 t1 t2
theorem ms_par {i j : Nat} {x y : Str} {a b : Expr} {A B : E} {px py pt : Pos} {kt k2 pt2} {pos : Pos} {k : S} {sts : List Stmt} (hc : X.calm = true) (hN : X.N.Nodup) (ha : EA X G [a, b] (.cons A (.cons B .nil))) (hk : ES X G N sts k)
    (hi : X.N[i]? = some x := by rfl) (hj : X.N[j]? = some y := by rfl) (hij : i ≠ j := by decide) (hx : X.env.scope.names.lookup x = some .local := by rfl) (hy : X.env.scope.names.lookup y = some .local := by rfl)
    (hw : swappedStores [.Tuple [.Name x px, .Name y py] kt pt] (.Tuple [a, b] k2 pt2) X.env = pure (some [x, y]) := by rfl)
    (hs : swapsWithSole [.Tuple [.Name x px, .Name y py] kt pt] (.Tuple [a, b] k2 pt2) pos.line X.env = pure false := by rfl) :
    ES X G N (.Assign [.Tuple [.Name x px, .Name y py] kt pt] (.Tuple [a, b] k2 pt2) pos :: sts) (.par i j A B k) := by
  refine ms_cons (f := fun env m => (ev G A env m).bind fun x => (ev G B env x.2).map fun y => (.nx ((env.set i (some x.1)).set j (some y.1)), y.2)) (PS.via (ps_par hc hN hi hj hij hx hy ha hw hs) fun Z σ H h => ?_) hk fun env m => ?_
  · obtain ⟨env, m, fl, m', ρ, Hf, Fx, w, e, h, k⟩ := h
    obtain ⟨⟨x, m1⟩, h1, h⟩ := bind_some h
    obtain ⟨⟨y, m2⟩, h2, h3⟩ := map_some' h
    cases h3
    exact par_args w e h1 h2 fun ρ1 Hf1 H1 vx vy g w1 dx dy => ⟨vx, vy, rfl, k ρ1 Hf1 H1 g w1 _ (((e.mono g).set i dx).set j dy)⟩
  · show (ev G A env m).bind _ = _
    cases ev G A env m with
    | none => rfl
    | some x =>
      show (ev G B env x.2).bind _ = _
      cases h : ev G B env x.2 with
      | none =>
        show none = thnF ((ev G B env x.2).map _) _
        rw [h]
        rfl
      | some y =>
        show _ = thnF ((ev G B env x.2).map _) _
        rw [h]
        rfl
theorem ms_ret {a : Expr} {A : E} {sts : List Stmt} {pos : Pos} (ha : EX X G a A) : ES X G N (.Return (some a) pos :: sts) (.ret A) := by
  refine ms_cons (f := fun env m => (ev G A env m).map fun x => (.rt x.1, x.2)) (g := fun _ _ => none) (PS.via (ps_ret ha) fun Z σ H h => ?_) (PSs.via pss_never fun Z σ H h => ?_) fun env m => ?_
  · obtain ⟨env, m, fl, m', ρ, Hf, Fx, w, e, h, k⟩ := h
    obtain ⟨⟨x, m1⟩, h1, h⟩ := map_some' h
    cases h
    exact one w e h1 fun ρ1 Hf1 H1 vx g w1 dx => k ρ1 Hf1 H1 g w1 _ dx
  · obtain ⟨env, m, fl, m', ρ, Hf, Fx, w, e, h, k⟩ := h
    cases h
  · show (ev G A env m).bind _ = _
    cases ev G A env m <;> rfl
theorem ms_retN {sts : List Stmt} {pos : Pos} : ES X G N (.Return none pos :: sts) .retN := by
  refine ms_cons (f := fun env m => some (.rt .non, m)) (g := fun _ _ => none) (PS.via ps_retN fun Z σ H h => ?_) (PSs.via pss_never fun Z σ H h => ?_) fun env m => rfl
  · obtain ⟨env, m, fl, m', ρ, Hf, Fx, w, e, h, k⟩ := h
    cases h
    exact k ρ Hf H (Gr.refl _ _) w _ .non
  · obtain ⟨env, m, fl, m', ρ, Hf, Fx, w, e, h, k⟩ := h
    cases h
theorem ms_brk {sts : List Stmt} {pos : Pos} : ES X G N (.Break pos :: sts) .brk := by
  refine ms_cons (f := fun env m => some (.bk env, m)) (g := fun _ _ => none) (PS.via ps_break fun Z σ H h => ?_) (PSs.via pss_never fun Z σ H h => ?_) fun env m => rfl
  · obtain ⟨env, m, fl, m', ρ, Hf, Fx, w, e, h, k⟩ := h
    cases h
    exact k ρ Hf H (Gr.refl _ _) w _ e
  · obtain ⟨env, m, fl, m', ρ, Hf, Fx, w, e, h, k⟩ := h
    cases h
theorem ms_cont {sts : List Stmt} {pos : Pos} : ES X G N (.Continue pos :: sts) .cont := by
  refine ms_cons (f := fun env m => some (.ct env, m)) (g := fun _ _ => none) (PS.via ps_continue fun Z σ H h => ?_) (PSs.via pss_never fun Z σ H h => ?_) fun env m => rfl
  · obtain ⟨env, m, fl, m', ρ, Hf, Fx, w, e, h, k⟩ := h
    cases h
    exact k ρ Hf H (Gr.refl _ _) w _ e
  · obtain ⟨env, m, fl, m', ρ, Hf, Fx, w, e, h, k⟩ := h
    cases h
theorem ms_if {c : Expr} {C : E} {p q sts : List Stmt} {A B k : S} {pos : Pos} (hc : ET X G c C) (ha : ES X G N p A) (hb : ES X G N q B) (hk : ES X G N sts k) : ES X G N (.If c p q pos :: sts) (.ife C A B k) := by
  refine ms_cons (f := fun env m => (ev G C env m).bind fun x => x.1.bool?.bind fun t => if t = true then exec G N A env x.2 else exec G N B env x.2) (PS.via (ps_if hc ha hb) fun Z σ H h => ?_) hk fun env m => ?_
  · obtain ⟨env, m, fl, m', ρ, Hf, Fx, w, e, h, k⟩ := h
    obtain ⟨⟨x, m1⟩, h1, h⟩ := bind_some h
    obtain ⟨t, h2, h⟩ := bind_some h
    cases x with
    | bl b =>
      cases h2
      refine ⟨env, m, t, m1, ρ, Hf, Fx, w, e, h1, fun ρ1 Hf1 H1 g w1 => ?_⟩
      cases t with
      | true => exact ⟨env, m1, fl, m', ρ1, Hf1, Fx, w1, e.mono g, h, k.go g⟩
      | false => exact ⟨env, m1, fl, m', ρ1, Hf1, Fx, w1, e.mono g, h, k.go g⟩
    | _ => cases h2
  · show (ev G C env m).bind _ = _
    cases ev G C env m with
    | none => rfl
    | some x =>
      show x.1.bool?.bind _ = _
      cases h : x.1.bool? with
      | none =>
        show none = thnF (x.1.bool?.bind _) _
        rw [h]
        rfl
      | some y =>
        show _ = thnF (x.1.bool?.bind _) _
        rw [h]
        rfl
theorem ms_whl {c : Expr} {C : E} {p sts : List Stmt} {A k : S} {pos : Pos} (hp : PassesOwn (model X.prog X.w) X.A X.env X.xe) (hc : ET X G c C) (ha : ES X G N p A) (hk : ES X G N sts k) : ES X G N (.While c p [] pos :: sts) (.whl C A k) := by
  refine ms_cons (f := fun env m => whlF (fun env m => (ev G C env m).bind fun x => x.1.bool?.map fun t => (t, x.2)) (exec G N A) N env m) (PS.via (ps_while hp hc ha) fun Z σ H h => ?_) hk fun env m => rfl
  obtain ⟨env, m, fl, m', ρ, Hf, Fx, w, e, h, k⟩ := h
  refine ⟨fun n σ H => ∃ ρ1 Hf1 env m, Gr ρ Hf ρ1 Hf1 ∧ Wd X.K ρ1 Hf1 Fx m H ∧ EnvDen X.K ρ1 Hf1 env σ ∧ whlF (fun env m => (ev G C env m).bind fun x => x.1.bool?.map fun t => (t, x.2)) (exec G N A) n env m = some (fl, m'), ⟨N, ρ, Hf, env, m, Gr.refl _ _, w, e, h⟩, ?_⟩
  rintro n σ1 H1 ⟨ρ1, Hf1, env1, m1, g1, w1, e1, h1⟩
  cases n with
  | zero => cases h1
  | succ n =>
    obtain ⟨⟨t, m2⟩, h2, h1⟩ := bind_some h1
    obtain ⟨⟨y, m2'⟩, h3, h2⟩ := bind_some h2
    obtain ⟨t', h4, h5⟩ := map_some' h2
    cases h5
    cases y with
    | bl b =>
      cases h4
      refine ⟨env1, m1, t, _, ρ1, Hf1, Fx, w1, e1, h3, fun ρ2 Hf2 H2 g2 w2 => ?_⟩
      cases t with
      | true =>
        rw [if_pos rfl]
        obtain ⟨⟨fl1, m3⟩, h5, h6⟩ := bind_some h1
        refine ⟨fun σ' H' => ∃ ρ1 Hf1 env m, Gr ρ Hf ρ1 Hf1 ∧ Wd X.K ρ1 Hf1 Fx m H' ∧ EnvDen X.K ρ1 Hf1 env σ' ∧ whlF (fun env m => (ev G C env m).bind fun x => x.1.bool?.map fun t => (t, x.2)) (exec G N A) n env m = some (fl, m'), fun σ' H' q => ⟨n, Nat.lt_succ_self n, q⟩, ?_⟩
        refine ⟨env1, _, fl1, m3, ρ2, Hf2, Fx, w2, e1.mono g2, h5, fun ρ3 Hf3 H3 g3 w3 => ?_⟩
        cases fl1 with
        | nx env3 => exact fun σ3 e3 => ⟨ρ3, Hf3, env3, m3, g1.trans (g2.trans g3), w3, e3, h6⟩
        | ct env3 => exact fun σ3 e3 => ⟨ρ3, Hf3, env3, m3, g1.trans (g2.trans g3), w3, e3, h6⟩
        | rt d =>
          cases h6
          exact k ρ3 Hf3 H3 (g1.trans (g2.trans g3)) w3
        | bk env3 =>
          cases h6
          exact k ρ3 Hf3 H3 (g1.trans (g2.trans g3)) w3
      | false =>
        rw [if_neg Bool.false_ne_true]
        cases h1
        exact k ρ2 Hf2 H2 (g1.trans g2) w2 σ1 (e1.mono g2)
    | _ => cases h4
theorem ms_for {tg it : Expr} {I : E} {P : Pat} {p sts : List Stmt} {A k : S} {pos : Pos} (hp : PassesOwn (model X.prog X.w) X.A X.env X.xe) (hc : X.calm = true) (hi : IX X G tg it I) (hg : GX X tg P) (ha : ES X G N p A) (hk : ES X G N sts k)
    (hs : ∀ x, foldedSetIterable it X.env x = pure x := by intro _; rfl) : ES X G N (.For tg it p [] pos :: sts) (.for P I A k) := by
  refine ms_cons (f := fun env m => (ev G I env m).bind fun x => match x.1 with | .tup ds => forF (fun d env m => (bindP P d env).bind fun env => exec G N A env m) ds env x.2 | _ => none) (PS.via (ps_for hp hc hi hg ha hs) fun Z σ H h => ?_) hk fun env m => ?_
  · obtain ⟨env, m, fl, m', ρ, Hf, Fx, w, e, h, k⟩ := h
    obtain ⟨⟨x, m1⟩, h1, h⟩ := bind_some h
    cases x with
    | tup ds =>
      have h : forF (fun d env m => (bindP P d env).bind fun env => exec G N A env m) ds env m1 = some (fl, m') := h
      refine ⟨env, m, ds, m1, ρ, Hf, Fx, w, e, h1, fun ρ1 Hf1 H1 J g1 w1 rl => ?_⟩
      refine for_it rl (fun i σ H => ∃ ρ2 Hf2 env m, Gr ρ1 Hf1 ρ2 Hf2 ∧ Wd X.K ρ2 Hf2 Fx m H ∧ EnvDen X.K ρ2 Hf2 env σ ∧ forF (fun d env m => (bindP P d env).bind fun env => exec G N A env m) (ds.drop i) env m = some (fl, m'))
        ⟨ρ1, Hf1, env, m1, Gr.refl _ _, w1, e.mono g1, h⟩ (fun i σ H _ ⟨ρ2, Hf2, env, m, g2, w2, _⟩ => g2.ex.trans w2.ex) ?_ ?_
      · rintro i x σ2 H2 H2' hi ⟨ρ2, Hf2, env2, m2, g2, w2, e2, hR⟩ ⟨d, hd, y⟩
        have hdrop : ds.drop i = d :: ds.drop (i + 1) := by
          obtain ⟨hl, hg⟩ := List.getElem?_eq_some_iff.mp hd
          rw [List.drop_eq_getElem_cons hl, hg]
        rw [hdrop] at hR
        obtain ⟨⟨fl3, m3⟩, hb, hR⟩ := bind_some hR
        obtain ⟨env3, hb1, hb⟩ := bind_some hb
        have go : ∀ (ρ3 : List Addr) (Hf3 H3 : Hp) (v : V), Gr ρ2 Hf2 ρ3 Hf3 → Wd X.K ρ3 Hf3 Fx m2 H3 → Den X.K ρ3 Hf3 d v →
            tG X.K P v σ2 H3 fun σ2 H2 => tF X.K (exec G N A) { Z with nx := fun σ H => ∃ ρ2 Hf2 env m, Gr ρ1 Hf1 ρ2 Hf2 ∧ Wd X.K ρ2 Hf2 Fx m H ∧ EnvDen X.K ρ2 Hf2 env σ ∧ forF (fun d env m => (bindP P d env).bind fun env => exec G N A env m) (ds.drop (i + 1)) env m = some (fl, m'), ct := fun σ H => ∃ ρ2 Hf2 env m, Gr ρ1 Hf1 ρ2 Hf2 ∧ Wd X.K ρ2 Hf2 Fx m H ∧ EnvDen X.K ρ2 Hf2 env σ ∧ forF (fun d env m => (bindP P d env).bind fun env => exec G N A env m) (ds.drop (i + 1)) env m = some (fl, m'), bk := Z.nx } σ2 H2 := by
          intro ρ3 Hf3 H3 v g3 w3 tv
          refine ⟨env2, d, env3, ρ3, Hf3, _, m2, w3, e2.mono g3, tv, hb1, fun σ3 e3 _ => ?_⟩
          refine ⟨env3, m2, fl3, _, ρ3, Hf3, _, w3, e3, hb, fun ρ4 Hf4 H4 g4 w4 => ?_⟩
          cases fl3 with
          | nx env4 => exact fun σ4 e4 => ⟨ρ4, Hf4, env4, _, g2.trans (g3.trans g4), w4, e4, hR⟩
          | ct env4 => exact fun σ4 e4 => ⟨ρ4, Hf4, env4, _, g2.trans (g3.trans g4), w4, e4, hR⟩
          | rt d =>
            cases hR
            exact k ρ4 Hf4 H4 (g1.trans (g2.trans (g3.trans g4))) w4
          | bk env4 =>
            cases hR
            exact k ρ4 Hf4 H4 (g1.trans (g2.trans (g3.trans g4))) w4
        rcases y with ⟨rfl, tv⟩ | ⟨T, es, vs, hT, rfl, rfl, rfl, tv⟩
        · exact go ρ2 Hf2 _ x (Gr.refl _ _) w2 (tv.mono g2.pre g2.ex)
        · obtain ⟨w3, g3⟩ := w2.laid (o := .tup vs) hT
          exact go ρ2 _ _ (.ref T) g3 w3 (.tup (.inl (.inl upd_same)) (tv.mono (g2.trans g3).pre (g2.trans g3).ex))
      · rintro σ2 H2 ⟨ρ2, Hf2, env2, m2, g2, w2, e2, hR⟩
        rw [List.drop_length] at hR
        cases hR
        exact k ρ2 Hf2 H2 (g1.trans g2) w2 σ2 e2
    | _ => cases h
  · show (ev G I env m).bind _ = _
    cases ev G I env m with
    | none => rfl
    | some x =>
      obtain ⟨x, m1⟩ := x
      cases x <;> rfl
end
end MP
set_option Elab.async false
set_option linter.all false
set_option maxRecDepth 100000
set_option maxHeartbeats 1000000
/-! MiniPy 11: list(zip(a, b)). -/
namespace MP
open PySem PySem.Spec PyProof.Rows L2

theorem zip_no_len : typeLookup (.type "zip") "__len__" = pure none := PySem.am_miss_of_fast (by decide +kernel)
theorem zip_no_hint : typeLookup (.type "zip") "__length_hint__" = pure none := PySem.am_miss_of_fast (by decide +kernel)

section
variable {prog : Program} {w : World} {A : Around} {E : Value → Shared → Prop} {s : Shared} {z TI TO T i1 i2 : Addr} {fp1 fp2 : List Addr} {f : Bool} {oT : Obj} {i n1 n2 : Nat} {P1 P2 : Nat → Value → Prop} {St1 St2 : Nat → Heap → Prop}
/-- the next pair of a zip whose last pair is still in use -/
theorem zipH_next {Q : Value → Shared → Prop} (S : ZipSep2 z TI TO i1 i2 fp1 fp2) (D1 : Draws prog w A i1 fp1 n1 P1 St1) (D2 : Draws prog w A i2 fp2 n2 P2 St2)
    (hz : IsZipHeld s.heap z TI TO T f) (hT : s.heap.get? T = some oT) (hTI : IsTupOf2 s.heap TI (.ref i1) (.ref i2)) (st1 : St1 i s.heap) (st2 : St2 i s.heap) (l1 : i < n1) (l2 : i < n2)
    (hQ : ∀ x1 x2 h' tk, P1 i x1 → P2 i x2 → IsZipHeld h' z TI TO T true → St1 (i + 1) h' → St2 (i + 1) h' → IsTupOf2 h' s.heap.objs.size x1 x2 → h'.objs.size = s.heap.objs.size + 1 →
      (∀ c o, c ≠ z → c ≠ i1 → c ≠ i2 → s.heap.get? c = some o → h'.get? c = some o) → Q (.ref s.heap.objs.size) { s with heap := h', toks := tk }) :
    wpAny (model prog w) A (Builtin.«zip.__next__» ⟨[.ref z], []⟩) (fun fin s' => ∃ v, fin = .done (.ret v) ∧ Q v s') E s := by
  obtain ⟨hp, g, d, tk0, os⟩ := s
  show wpAny _ _ (field (.ref z) 2 >>= _) _ _ _
  refine wpAny_bind (wpAny_field hz rfl (x := .bool false) rfl ?_)
  show wpAny _ _ (field (.ref z) 3 >>= _) _ _ _
  refine wpAny_bind (wpAny_field hz rfl (x := .ref TI) rfl ?_)
  refine wpAny_bind (wpAny_seqItems hTI rfl ?_)
  show wpAny _ _ (Builtin.SmallTypes.ownedTupleIsFree (.ref z) >>= _) _ _ _
  refine wpAny_bind (wpAny_tupleHeld_zip hz hT fun g0 hz0 hs0 => ?_)
  replace hs0 : Heap.SameBut z hp g0 := hs0
  simp only [Bool.false_eq_true, if_false]
  refine wpAny_bind ?_
  rw [← Array.forIn_toList]
  simp only [List.forIn_cons, List.forIn_nil]
  refine wpAny_bind (wpAny_bind (wpAny_holding ?_))
  show wpAny _ _ (Builtin.SmallTypes.nextOf (.ref i1) >>= _) _ _ ⟨g0, g, d, tk0, os⟩
  refine wpAny_bind (D1.item i _ _ _ l1 (D1.over st1 hs0 S.zf1) fun x1 p1 tk1 hx1 sn1 hp1 => wpAny_pure ?_)
  replace hp1 : Heap.SameBut i1 g0 p1 := hp1
  refine wpAny_pure ?_
  refine wpAny_bind (wpAny_bind (wpAny_holding ?_))
  show wpAny _ _ (Builtin.SmallTypes.nextOf (.ref i2) >>= _) _ _ ⟨p1, g, d, tk1, os⟩
  refine wpAny_bind (D2.item i _ _ _ l2 (D2.over (D2.over st2 hs0 S.zf2) hp1 S.sep1_2) fun x2 p2 tk2 hx2 sn2 hp2 => wpAny_pure ?_)
  replace hp2 : Heap.SameBut i2 p1 p2 := hp2
  refine wpAny_pure (wpAny_pure ?_)
  show wpAny _ _ (newTuple [x1, x2] >>= _) _ _ ⟨p2, g, d, tk2, os⟩
  refine wpAny_bind (wpAny_newTuple ?_)
  have hsz : p2.objs.size = hp.objs.size := by rw [hp2.1, hp1.1, hs0.1]
  have hzz : IsZipHeld p2 z TI TO T true := hp2.extBut _ _ S.zi2 (hp1.extBut _ _ S.zi1 hz0)
  have kk : ∀ c o, c ≠ z → c ≠ i1 → c ≠ i2 → hp.get? c = some o → p2.get? c = some o := fun c o c1 c2 c3 e => hp2.extBut _ _ c3 (hp1.extBut _ _ c2 (hs0.extBut _ _ c1 e))
  have j1 : St1 (i + 1) p2 := D1.over sn1 hp2 S.sep2_1
  refine wpAny_pure ⟨_, rfl, ?_⟩
  show Q (.ref p2.objs.size) _
  have hpr : IsTupOf2 (p2.push { cls := .type "tuple", data := .seq #[x1, x2] }) p2.objs.size x1 x2 := Heap.get?_push_size _ rfl
  have hz4 : (p2.push { cls := .type "tuple", data := .seq #[x1, x2] }).objs.size = p2.objs.size + 1 := Heap.size_push ..
  rw [hsz] at hpr hz4 ⊢
  exact hQ x1 x2 _ tk2 hx1 hx2 (Heap.get?_push_of_some _ hzz) (D1.frame _ _ _ j1 fun b _ o e => Heap.get?_push_of_some _ e) (D2.frame _ _ _ sn2 fun b _ o e => Heap.get?_push_of_some _ e) hpr hz4
    fun c o c1 c2 c3 e => Heap.get?_push_of_some _ (kk c o c1 c2 c3 e)
theorem zipH_end {Q : Fin → Shared → Prop} (S : ZipSep2 z TI TO i1 i2 fp1 fp2) (D1 : Draws prog w A i1 fp1 n1 P1 St1) (D2 : Draws prog w A i2 fp2 n2 P2 St2)
    (hz : IsZipHeld s.heap z TI TO T f) (hT : s.heap.get? T = some oT) (hTI : IsTupOf2 s.heap TI (.ref i1) (.ref i2)) (st1 : St1 i s.heap) (st2 : St2 i s.heap) (l1 : i ≤ n1) (l2 : i ≤ n2) (hend : i = n1 ∨ i = n2)
    (hE : ∀ h' tk e, (∀ c o, c ≠ z → c ≠ i1 → c ≠ i2 → s.heap.get? c = some o → h'.get? c = some o) → (∃ o, h'.get? e = some o ∧ o.cls = .type "StopIteration") → E (.ref e) { s with heap := h', toks := tk }) :
    wpAny (model prog w) A (Builtin.«zip.__next__» ⟨[.ref z], []⟩) Q E s := by
  obtain ⟨hp, g, d, tk0, os⟩ := s
  show wpAny _ _ (field (.ref z) 2 >>= _) _ _ _
  refine wpAny_bind (wpAny_field hz rfl (x := .bool false) rfl ?_)
  show wpAny _ _ (field (.ref z) 3 >>= _) _ _ _
  refine wpAny_bind (wpAny_field hz rfl (x := .ref TI) rfl ?_)
  refine wpAny_bind (wpAny_seqItems hTI rfl ?_)
  show wpAny _ _ (Builtin.SmallTypes.ownedTupleIsFree (.ref z) >>= _) _ _ _
  refine wpAny_bind (wpAny_tupleHeld_zip hz hT fun g0 hz0 hs0 => ?_)
  replace hs0 : Heap.SameBut z hp g0 := hs0
  simp only [Bool.false_eq_true, if_false]
  refine wpAny_bind ?_
  rw [← Array.forIn_toList]
  simp only [List.forIn_cons, List.forIn_nil]
  refine wpAny_bind (wpAny_bind (wpAny_holding ?_))
  show wpAny _ _ (Builtin.SmallTypes.nextOf (.ref i1) >>= _) _ _ ⟨g0, g, d, tk0, os⟩
  by_cases hlt1 : i < n1
  · refine wpAny_bind (D1.item i _ _ _ hlt1 (D1.over st1 hs0 S.zf1) fun x1 p1 tk1 hx1 sn1 hp1 => wpAny_pure ?_)
    replace hp1 : Heap.SameBut i1 g0 p1 := hp1
    refine wpAny_pure ?_
    refine wpAny_bind (wpAny_bind (wpAny_holding ?_))
    show wpAny _ _ (Builtin.SmallTypes.nextOf (.ref i2) >>= _) _ _ ⟨p1, g, d, tk1, os⟩
    have hi2 : i = n2 := by omega
    refine wpAny_bind (D2.done ⟨p1, g, d, tk1, os⟩ _ _ (by rw [← hi2]; exact D2.over (D2.over st2 hs0 S.zf2) hp1 S.sep1_2) fun q e hq he => ?_)
    replace hq : Heap.ExtBut i2 p1 q := hq
    exact hE q tk1 e (fun c o c1 c2 c3 x => hq _ _ c3 (hp1.extBut _ _ c2 (hs0.extBut _ _ c1 x))) he
  · have hi1 : i = n1 := by omega
    refine wpAny_bind (D1.done ⟨g0, g, d, tk0, os⟩ _ _ (by rw [← hi1]; exact D1.over st1 hs0 S.zf1) fun q e hq he => ?_)
    replace hq : Heap.ExtBut i1 g0 q := hq
    exact hE q tk0 e (fun c o c1 c2 c3 x => hq _ _ c2 (hs0.extBut _ _ c1 x)) he

/-- how a zip stands that no one has thrown its last pair away -/
def ZipHas (h : Heap) (z TI TO i1 i2 : Addr) (L : Addr) : Prop := (IsZip h z TI TO .none ∧ ∃ x y, IsTupOf2 h TO x y) ∨ ∃ T f oT, IsZipHeld h z TI TO T f ∧ h.get? T = some oT ∧ T ≠ z ∧ T ≠ i1 ∧ T ≠ i2 ∧ T ≠ L
theorem zipA_item {Q : Option Value → Shared → Prop} {L : Addr} (S : ZipSep2 z TI TO i1 i2 fp1 fp2) (D1 : Draws prog w A.in1 i1 fp1 n1 P1 St1) (D2 : Draws prog w A.in1 i2 fp2 n2 P2 St2)
    (hz : ZipHas s.heap z TI TO i1 i2 L) (hL : L < s.heap.objs.size) (hTI : IsTupOf2 s.heap TI (.ref i1) (.ref i2)) (st1 : St1 i s.heap) (st2 : St2 i s.heap) (m1 : i1 < s.heap.objs.size) (m2 : i2 < s.heap.objs.size) (l1 : i < n1) (l2 : i < n2)
    (hQ : ∀ x1 x2 h' tk, P1 i x1 → P2 i x2 → ZipHas h' z TI TO i1 i2 L → St1 (i + 1) h' → St2 (i + 1) h' → IsTupOf2 h' s.heap.objs.size x1 x2 → h'.objs.size = s.heap.objs.size + 1 →
      (∀ c o, c ≠ z → c ≠ TO → c ≠ i1 → c ≠ i2 → s.heap.get? c = some o → h'.get? c = some o) → Q (some (.ref s.heap.objs.size)) { s with heap := h', toks := tk }) :
    wpAny (model prog w) A (pyNext (.ref z)) Q E s := by
  rcases hz with ⟨hz, x, y, hTO⟩ | ⟨T, f, oT, hz, hT, r1, r2, r3, r4⟩
  · have mz : z < s.heap.objs.size := Heap.lt_size hz
    refine wpAny_pyNext_zipD2_item S D1 D2 hz hTI hTO st1 st2 l1 l2 fun x1 x2 h' tk y1 y2 b1 b2 c1 c2 b5 b6 k => hQ x1 x2 h' tk y1 y2 (.inr ⟨s.heap.objs.size, false, _, b1, b5, ?_, ?_, ?_, ?_⟩) c1 c2 b5 b6 k
    · exact Nat.ne_of_gt mz
    · exact Nat.ne_of_gt m1
    · exact Nat.ne_of_gt m2
    · exact Nat.ne_of_gt hL
  · have hTy : s.TypeIs (.ref z) "zip" := ⟨_, hz, rfl⟩
    unfold pyNext
    exact wpAny_bind (wpAny_attempt (wpAny_callSpecial?_slot (name := Str.ofString "__next__") hTy F.slot_zip_next
      (wpAny_call_entry F.slot_zip_next hTy F.entry_zip_next
        (zipH_next S D1 D2 hz hT hTI st1 st2 l1 l2 fun x1 x2 h' tk y1 y2 b1 c1 c2 b5 b6 k => wpAny_pure (hQ x1 x2 h' tk y1 y2 (.inr ⟨T, true, oT, b1, k _ _ r1 r2 r3 hT, r1, r2, r3, r4⟩) c1 c2 b5 b6 fun c o a1 a2 a3 a4 e => k c o a1 a3 a4 e)) (F.args_zip_next_1 _))))
theorem zipA_end {Q : Option Value → Shared → Prop} {L : Addr} (S : ZipSep2 z TI TO i1 i2 fp1 fp2) (D1 : Draws prog w A.in1 i1 fp1 n1 P1 St1) (D2 : Draws prog w A.in1 i2 fp2 n2 P2 St2)
    (hz : ZipHas s.heap z TI TO i1 i2 L) (hTI : IsTupOf2 s.heap TI (.ref i1) (.ref i2)) (st1 : St1 i s.heap) (st2 : St2 i s.heap) (l1 : i ≤ n1) (l2 : i ≤ n2) (hend : i = n1 ∨ i = n2)
    (hQ : ∀ h' tk, (∀ c o, c ≠ z → c ≠ TO → c ≠ i1 → c ≠ i2 → s.heap.get? c = some o → h'.get? c = some o) → Q none { s with heap := h', toks := tk }) : wpAny (model prog w) A (pyNext (.ref z)) Q E s := by
  rcases hz with ⟨hz, x, y, hTO⟩ | ⟨T, f, oT, hz, hT, r1, r2, r3, r4⟩
  · exact wpAny_pyNext_zipD2_end S D1 D2 hz hTI hTO st1 st2 l1 l2 hend hQ
  · have hTy : s.TypeIs (.ref z) "zip" := ⟨_, hz, rfl⟩
    unfold pyNext
    refine wpAny_bind (wpAny_attempt (wpAny_callSpecial?_slot (name := Str.ofString "__next__") hTy F.slot_zip_next
      (wpAny_call_entry F.slot_zip_next hTy F.entry_zip_next (zipH_end S D1 D2 hz hT hTI st1 st2 l1 l2 hend fun h' tk e hk he => ?_) (F.args_zip_next_1 _))))
    obtain ⟨o, ho, hc⟩ := he
    refine wpAny_bind (wpAny_isInstance (T := "StopIteration") (b := true) ⟨o, ho, hc⟩ isSubtype_stop ?_)
    exact wpAny_pure (hQ _ _ fun c o a1 a2 a3 a4 e => hk c o a1 a3 a4 e)
end
end MP
set_option Elab.async false
set_option linter.all false
set_option maxRecDepth 100000
set_option maxHeartbeats 1000000
/-! MiniPy 12: list(zip(a, b)), joined to the world; the rest of the statements. -/
namespace MP
open PySem PySem.Spec PyProof.Rows L2

theorem push_seq (its : List Value) (n : Nat) (u : Value) : ∃ n', Obj.mapSeq (·.push u) { cls := .type "list", data := .seq its.toArray n } = { cls := .type "list", data := .seq (its ++ [u]).toArray n' } := by
  refine ⟨n + 1, ?_⟩
  simp [Obj.mapSeq]
theorem Sk.hpAt {k : Sk} {h h' : Heap} {a : Addr} {its : Array Value} (x : k.hp h a its) (e : ∀ o, h.get? a = some o → h'.get? a = some o) : k.hp h' a its := by
  cases k with
  | l => exact Heap.IsList.at x e
  | t => exact Heap.IsTuple.at x e

section
variable {X : Cx} {pins : List (Addr × Obj)} {σ : L2.St} {A0 : Around} {R : Result → Shared → Prop} {k1 k2 : Sk} {a b z TI TO i1 i2 L : Addr} {xs ys : List V} {its its2 : List Value} {res : Value}
/-- the loop of list(zip(..)): Pv by the turn, what the list holds, the heap -/
theorem lzip_loop (hh : A0.handled = none) (S : ZipSep2 z TI TO i1 i2 [i1, a] [i2, b]) (n1 : a ≠ i1) (n2 : b ≠ i2) (r1 : Vals xs its) (r2 : Vals ys its2) (hL : L ∉ [z, TI, TO, i1, i2]) (n : Nat) (hn : n = min xs.length ys.length) (hz : n ≤ 1000000)
    (Pv : Nat → List V → Hp → Prop)
    (step : ∀ i acc H T x y, Pv i acc H → xs[i]? = some x → ys[i]? = some y → H T = none → H L = some (.lst acc) → Pv (i + 1) (acc ++ [.ref T]) (upd (upd H T (.tup [x, y])) L (.lst (acc ++ [.ref T]))))
    (aL : a ≠ L) (bL : b ≠ L)
    (fin : ∀ s' H acc, Inv X pins σ H s' → H L = some (.lst acc) → Pv n acc H → R (.ok (.ret res)) s') :
    ∀ (k i : Nat) (s : Shared) (H : Hp) (acc : List V), n - i = k → i ≤ n → Inv X pins σ H s → (∀ c ∈ [z, TI, TO, i1, i2], FpOk X pins H c) → H L = some (.lst acc) → acc.length = i → Pv i acc H → TO < s.heap.objs.size →
      ZipHas s.heap z TI TO i1 i2 L → IsTupOf2 s.heap TI (.ref i1) (.ref i2) → k1.it s.heap i1 a i → k1.hp s.heap a its.toArray → k2.it s.heap i2 b i → k2.hp s.heap b its2.toArray →
      codeAny (model X.prog X.w) A0 (.builtin "list.extend.loop" ⟨[.ref L, .ref z, res], []⟩) R s := by
  have D1 := k1.draws (prog := X.prog) (w := X.w) (A := A0.in1.in1) (hd_in1 (hd_in1 hh)) i1 a n1 its.toArray
  have D2 := k2.draws (prog := X.prog) (w := X.w) (A := A0.in1.in1) (hd_in1 (hd_in1 hh)) i2 b n2 its2.toArray
  have e1 : its.toArray.size = xs.length := by rw [List.size_toArray, r1.length]
  have e2 : its2.toArray.size = ys.length := by rw [List.size_toArray, r2.length]
  intro k
  induction k with
  | zero =>
    intro i s H acc hk hi I hf hLa hl hP mTO zh hTI t1 p1 t2 p2
    have hin : i = n := by omega
    subst hin
    refine codeAny_builtin F.entry_extend_loop ?_
    rw [Around.under_plainId F.plain_extend_loop _]
    show wpAny _ A0.in1 (pyNext (.ref z) >>= _) _ _ s
    refine wpAny_bind (zipA_end S D1 D2 zh hTI ⟨t1, p1⟩ ⟨t2, p2⟩ (by omega) (by omega) (by omega) fun h' tk kk => ?_)
    refine wpAny_pure (fin _ H acc ?_ hLa hP)
    exact I.turnedL (ch := [z, TI, TO, i1, i2]) (fun c o hc e => kk c o (fun q => hc (by simp [q])) (fun q => hc (by simp [q])) (fun q => hc (by simp [q])) (fun q => hc (by simp [q])) e) hf
  | succ k ih =>
    intro i s H acc hk hi I hf hLa hl hP mTO zh hTI t1 p1 t2 p2
    have hlt : i < n := by omega
    have hx := List.getElem?_eq_getElem (show i < xs.length by omega)
    have hy := List.getElem?_eq_getElem (show i < ys.length by omega)
    obtain ⟨zo, accv, cn, ra, hLo⟩ := I.hok L _ hLa
    have mL : L < s.heap.objs.size := Heap.lt_size hLo
    have m1 : i1 < s.heap.objs.size := let ⟨_, e, _⟩ := Sk.itObj t1; Heap.lt_size e
    have m2 : i2 < s.heap.objs.size := let ⟨_, e, _⟩ := Sk.itObj t2; Heap.lt_size e
    refine codeAny_builtin F.entry_extend_loop ?_
    rw [Around.under_plainId F.plain_extend_loop _]
    show wpAny _ A0.in1 (pyNext (.ref z) >>= _) _ _ s
    refine wpAny_bind (zipA_item S D1 D2 zh mL hTI ⟨t1, p1⟩ ⟨t2, p2⟩ m1 m2 (by omega) (by omega) fun x1 x2 h' tk y1 y2 zh' c1 c2 hT hsz kk => ?_)
    have kk' : ∀ c o, c ∉ [z, TI, TO, i1, i2] → s.heap.get? c = some o → h'.get? c = some o := fun c o hc e => kk c o (fun q => hc (by simp [q])) (fun q => hc (by simp [q])) (fun q => hc (by simp [q])) (fun q => hc (by simp [q])) e
    obtain ⟨u1, hu1, ru1⟩ := r1.get hx
    obtain ⟨u2, hu2, ru2⟩ := r2.get hy
    have q1 : u1 = x1 := by
      have : its.toArray[i]? = some u1 := by simpa using hu1
      exact Option.some.inj (this.symm.trans y1)
    have q2 : u2 = x2 := by
      have : its2.toArray[i]? = some u2 := by simpa using hu2
      exact Option.some.inj (this.symm.trans y2)
    subst q1 q2
    have hTn : H s.heap.objs.size = none := I.hok.fresh (Nat.le_refl _)
    have nTL : L ≠ s.heap.objs.size := Nat.ne_of_lt mL
    have new : ObjOk X.prog X.w (upd H s.heap.objs.size (.tup [xs[i], ys[i]])) h' s.heap.objs.size (.tup [xs[i], ys[i]]) := ⟨by show 2 ≤ sizeLine; decide, [u1, u2], .cons ru1 (.cons ru2 .nil), ⟨_, hT, rfl, 0, rfl⟩⟩
    have I1 : Inv X pins σ (upd H s.heap.objs.size (.tup [xs[i], ys[i]])) { s with heap := h', toks := tk } := I.turnedNew (ch := [z, TI, TO, i1, i2]) kk' hf (Nat.le_refl _) new
    have hLa1 : (upd H s.heap.objs.size (.tup [xs[i], ys[i]])) L = some (.lst acc) := by rw [upd_ne nTL]; exact hLa
    have hLo1 : h'.get? L = some { cls := .type "list", data := .seq accv.toArray cn } := kk' L _ hL hLo
    obtain ⟨cn', hps⟩ := push_seq accv cn (.ref s.heap.objs.size)
    have I2 : Inv X pins σ (upd (upd H s.heap.objs.size (.tup [xs[i], ys[i]])) L (.lst (acc ++ [.ref s.heap.objs.size]))) { s with heap := h'.update L (Obj.mapSeq (·.push (.ref s.heap.objs.size))), toks := tk } := by
      refine I1.lstUpd hLa1 hLo1 hps (ra.append (.cons (show L2.RelV (.ref s.heap.objs.size) (.ref s.heap.objs.size) from rfl) .nil)) ?_ tk
      rw [List.length_append, List.length_singleton, hl]
      exact Nat.le_trans hlt (Nat.le_trans hz (by decide))
    have acl : accv.length = i := by rw [← ra.length, hl]
    have oth : ∀ c o, c ≠ L → h'.get? c = some o → (h'.update L (Obj.mapSeq (·.push (.ref s.heap.objs.size)))).get? c = some o := fun c o hc e => (Heap.get?_update_other _ _ (Ne.symm hc)).trans e
    have nL : ∀ c ∈ [z, TI, TO, i1, i2], c ≠ L := fun c hc q => hL (q ▸ hc)
    have nT : ∀ c ∈ [z, TI, TO, i1, i2], c ≠ s.heap.objs.size := fun c hc => by
      have hc' : c = z ∨ c = TI ∨ c = TO ∨ c = i1 ∨ c = i2 := by simpa using hc
      refine Nat.ne_of_lt ?_
      rcases hc' with q | q | q | q | q
      · rw [q]
        rcases zh with ⟨zz, _⟩ | ⟨_, _, _, zz, _⟩ <;> exact Heap.lt_size zz
      · rw [q]; exact Heap.lt_size hTI
      · rw [q]; exact mTO
      · rw [q]; exact m1
      · rw [q]; exact m2
    show wpAny _ A0.in1 (updateSeq L (·.push (.ref s.heap.objs.size)) >>= _) _ _ _
    refine wpAny_bind ?_
    refine wpAny_updateSeq (s := { s with heap := h', toks := tk }) hLo1 rfl (wpAny_pure ⟨plainId_quiet F.plain_extend_loop _, ?_⟩) (by rw [List.size_toArray, acl]; exact Nat.le_trans (Nat.le_of_lt hlt) (Nat.le_trans hz (by decide)))
      (by show (accv.toArray.push _).size ≤ sizeLine + 1; rw [Array.size_push, List.size_toArray, acl]; exact Nat.le_trans hlt (Nat.le_trans hz (by decide)))
    refine ih (i + 1) _ _ _ (by omega) hlt I2 (fun c hc => ?_) upd_same (by rw [List.length_append, List.length_singleton, hl]) (step i acc H _ _ _ hP hx hy hTn hLa) ?_ ?_ (oth _ _ (nL TI (by simp)) (kk TI _ S.TIz S.TITO S.TIi1 S.TIi2 hTI)) (Sk.itAt c1.1 (oth _ · (nL i1 (by simp)))) (Sk.hpAt c1.2 (oth _ · aL)) (Sk.itAt c2.1 (oth _ · (nL i2 (by simp)))) (Sk.hpAt c2.2 (oth _ · bL))
    · obtain ⟨f0, f1⟩ := hf c hc
      exact ⟨by rw [upd_ne (nL c hc), upd_ne (nT c hc)]; exact f0, f1⟩
    · show TO < (h'.update L _).objs.size
      rw [Heap.size_update, hsz]
      exact Nat.lt_succ_of_lt mTO
    · rcases zh' with ⟨zz, x, y, zt⟩ | ⟨T, f, oT, zz, zt, q1, q2, q3, q4⟩
      · exact .inl ⟨oth _ _ (nL z (by simp)) zz, x, y, oth _ _ (nL TO (by simp)) zt⟩
      · exact .inr ⟨T, f, oT, oth _ _ (nL z (by simp)) zz, oth _ _ q4 zt, q1, q2, q3, q4⟩
/-- its start: the length is not told, the list gets room -/
theorem lzip_extend (hh : A0.handled = none) {s : Shared} {c0 : Nat} (hS : s.heap.get? L = some { cls := .type "list", data := .seq #[] c0 }) (hz : IsZip s.heap z TI TO .none)
    (next : ∀ (h' : Heap) (c1 : Nat), h'.get? L = some { cls := .type "list", data := .seq #[] c1 } → (∀ b o, b ≠ L → s.heap.get? b = some o → h'.get? b = some o) → h'.objs.size = s.heap.objs.size →
      codeAny (model X.prog X.w) A0 (.builtin "list.extend.loop" ⟨[.ref L, .ref z, res], []⟩) R { s with heap := h' }) :
    wpAny (model X.prog X.w) A0.in1 (Builtin.List.listExtendWith (.ref L) (.ref z) res)
      (fun fin s' => match fin with | .done f => R (.ok f) s' | .again c' => c'.quiet = true ∧ codeAny (model X.prog X.w) A0 c' R s') (fun e s' => R (.error e) s') s := by
  have nzL : L ≠ z := fun q => by
    rw [q, hz] at hS
    simp at hS
  have ty : ∀ {h' : Heap}, IsZip h' z TI TO .none → ({ s with heap := h' } : Shared).TypeIs (.ref z) "zip" := fun e => ⟨_, e, rfl⟩
  unfold Builtin.List.listExtendWith
  refine wpAny_bind (wpAny_typeOf (ty hz) ?_)
  have e1 : Builtin.List.listSameRef (.ref L) (.ref z) = false := by simp [Builtin.List.listSameRef, nzL]
  have e2 : (Value.type "zip" == Value.type "list") = false := by decide
  have e3 : (Value.type "zip" == Value.type "tuple") = false := by decide
  simp only [e1, e2, e3, Bool.or_false, Bool.false_eq_true, if_false]
  refine wpAny_bind (wpAny_pyIter_zip hz ?_)
  refine wpAny_bind (wpAny_holding ?_)
  unfold Builtin.List.listLengthHint
  refine wpAny_bind (wpAny_specialOf (ty hz) zip_no_len ?_)
  show wpAny _ A0.in1 (specialOf (Value.ref z) (Str.ofString "__length_hint__") >>= _) _ _ _
  refine wpAny_bind (wpAny_specialOf (ty hz) zip_no_hint ?_)
  refine wpAny_pure ?_
  show wpAny _ A0.in1 (rule "list.extend.makes-room" >>= fun _ => Builtin.List.listTouch (.ref L) >>= fun _ => again (.builtin "list.extend.loop" ⟨[.ref L, .ref z, res], []⟩)) _ _ _
  refine wpAny_bind (wpAny_rule ?_)
  refine wpAny_bind ?_
  show wpAny _ A0.in1 (updateSeq L (·.push .none) >>= fun _ => updateSeq L (·.pop)) _ _ _
  refine wpAny_bind (wpAny_updateSeq hS rfl ?_)
  have h2 := Heap.get?_update_self (Obj.mapSeq (·.push Value.none)) hS rfl
  refine wpAny_updateSeq (hz := by seq_fits) h2 rfl ?_
  have h3 := Heap.get?_update_self (Obj.mapSeq (·.pop)) h2 rfl
  refine wpAny_pure ⟨plainId_quiet F.plain_extend_loop _, next _ _ h3 (fun b o hb e => (Heap.get?_update_other _ _ (Ne.symm hb)).trans ((Heap.get?_update_other _ _ (Ne.symm hb)).trans e)) ?_⟩
  rw [Heap.size_update, Heap.size_update]
theorem call_lzip {s : Shared} {E : Value → Shared → Prop} {Q : Value → Shared → Prop} {H : Hp} (hh : A0.handled = none) (hz : IsZip s.heap z TI TO .none)
    (next : ∀ (s1 : Shared) (Rr : Result → Shared → Prop), (∀ r s', Q (.ref s.heap.objs.size) s' → r = .ok (.ret .none) → Rr r s') →
      (∃ c1, s1.heap.get? s.heap.objs.size = some { cls := .type "list", data := .seq #[] c1 }) → (∀ b o, s.heap.get? b = some o → s1.heap.get? b = some o) → s1.heap.objs.size = s.heap.objs.size + 1 → s1 = { s with heap := s1.heap } →
      codeAny (model X.prog X.w) A0.in1 (.builtin "list.extend.loop" ⟨[.ref s.heap.objs.size, .ref z, .none], []⟩) Rr s1) :
    wpAny (model X.prog X.w) A0 (call (.type "list") [.ref z]) Q E s := by
  refine callType_codes (Q₁ := fun obj s₁ => obj = .ref s.heap.objs.size ∧ s₁ = { s with heap := s.heap.push { cls := .type "list", data := .seq #[] } }) F.called_list (F.typeCall_list_1 _) F.entry_list_init
    (code_list_new _ ⟨rfl, rfl⟩) fun obj s₁ h₁ => ?_
  obtain ⟨rfl, rfl⟩ := h₁
  have hS : (s.heap.push { cls := .type "list", data := .seq #[] }).get? s.heap.objs.size = some { cls := .type "list", data := .seq #[] } := Heap.get?_push_size _ rfl
  refine ⟨⟨_, hS, rfl⟩, F.args_list_init_2 _ _, ?_⟩
  show wpAny _ _ (do let old ← Builtin.List.listItems (.ref s.heap.objs.size); Builtin.List.listUpdate (.ref s.heap.objs.size) (fun _ => #[]); letGo old.toList.reverse; Builtin.List.listExtendWith (.ref s.heap.objs.size) (.ref z) .none) _ _ _
  refine wpAny_bind ?_
  unfold Builtin.List.listItems
  refine wpAny_bind (wpAny_seqItems hS rfl (wpAny_pure ?_))
  show wpAny _ _ (updateSeq s.heap.objs.size (fun _ => #[]) >>= fun _ => letGo (#[] : Array Value).toList.reverse >>= fun _ => Builtin.List.listExtendWith (.ref s.heap.objs.size) (.ref z) .none) _ _ _
  refine wpAny_bind (wpAny_updateSeq hS rfl ?_)
  have h2 := Heap.get?_update_self (Obj.mapSeq (fun _ => (#[] : Array Value))) hS rfl
  have oth : ∀ b o, s.heap.get? b = some o → ((s.heap.push { cls := .type "list", data := .seq #[] }).update s.heap.objs.size (Obj.mapSeq (fun _ => (#[] : Array Value)))).get? b = some o :=
    fun b o e => (Heap.get?_update_other _ _ (Nat.ne_of_gt (Heap.lt_size e))).trans (Heap.get?_push_of_some _ e)
  refine wpAny_bind (wpAny_letGo ?_)
  refine lzip_extend (X := X) (A0 := A0.in1) (TI := TI) (TO := TO) hh h2 (oth _ _ hz) fun h' c1 e1 k1 sz => ?_
  refine next { s with heap := h' } _ (fun r s' q hr => ?_) ⟨c1, e1⟩ (fun b o e => k1 b o (Nat.ne_of_lt (Heap.lt_size e)) (oth b o e)) ?_ rfl
  · subst hr
    exact ⟨rfl, q⟩
  · show h'.objs.size = _
    rw [sz, Heap.size_update, Heap.size_push]
end
theorem den_zip {K : PySem.W.Frag} {ρ : List Addr} {H : Hp} : ∀ {xs ys : List D} {vs us : List V}, DenAll K ρ H xs vs → DenAll K ρ H ys us → ∀ {i : Nat} {x y : V}, vs[i]? = some x → us[i]? = some y →
    ∃ d e, (List.zipWith (fun x y => D.tup [x, y]) xs ys)[i]? = some (.tup [d, e]) ∧ Den K ρ H d x ∧ Den K ρ H e y := by
  intro xs ys vs us t1 t2 i x y h1 h2
  obtain ⟨d, e1, q1⟩ := t1.getR h1
  obtain ⟨e, e2, q2⟩ := t2.getR h2
  exact ⟨d, e, zipW_get e1 e2, q1, q2⟩
theorem lzip_finish {X : Cx} {pins : List (Addr × Obj)} {σ : L2.St} {A0 : Around} {H1 : Hp} {s1 s2 : Shared} {Rr : Result → Shared → Prop} {k1 k2 : Sk} {q1 q2 : Addr} {N : Nat} {ws1 ws2 : List V} {its its2 : List Value} {x1 y1 : Value} {ρ ρ1 : List Addr} {Hf Hf1 Fx : Hp} {m1 : Mem} {xs ys : List D} {Q : VK}
    (hz : IsZip s1.heap (N + 4) (N + 2) (N + 3) .none) (hTI : IsTupOf2 s1.heap (N + 2) (.ref N) (.ref (N + 1))) (hTO : IsTupOf2 s1.heap (N + 3) x1 y1) (o1 : k1.it s1.heap N q1 0) (o2 : k2.it s1.heap (N + 1) q2 0) (hsz : s1.heap.objs.size = N + 5)
    (p1 : k1.hp s1.heap q1 its.toArray) (p2 : k2.hp s1.heap q2 its2.toArray) (l1 : q1 < N) (l2 : q2 < N) (hh : A0.handled = none) (I : Inv X pins σ H1 s1) (w : Wd X.K ρ1 Hf1 Fx m1 H1) (rv : Vals ws1 its) (rv2 : Vals ws2 its2)
    (t1 : DenAll X.K ρ1 Hf1 xs ws1) (t2 : DenAll X.K ρ1 Hf1 ys ws2) (nmax : min ws1.length ws2.length ≤ 1000000) (g : Gr ρ Hf ρ1 Hf1) (k : PostE X.K ρ Hf Fx (.lst (List.zipWith (fun x y => .tup [x, y]) xs ys)) m1 Q)
    (hR : ∀ r s', EP X pins σ Q (.ref s1.heap.objs.size) s' → r = .ok (.ret .none) → Rr r s')
    (hL : ∃ c1, s2.heap.get? s1.heap.objs.size = some { cls := .type "list", data := .seq #[] c1 }) (hk2 : ∀ b o, s1.heap.get? b = some o → s2.heap.get? b = some o) (hsz2 : s2.heap.objs.size = s1.heap.objs.size + 1) (hs2 : s2 = { s1 with heap := s2.heap })
    (fp : ∀ c : Nat, N ≤ c → c < N + 5 → FpOk X pins H1 c) :
    codeAny (model X.prog X.w) A0.in1 (.builtin "list.extend.loop" ⟨[.ref s1.heap.objs.size, .ref (N + 4), .none], []⟩) Rr s2 := by
  obtain ⟨c1, hL⟩ := hL
  generalize hLd : s1.heap.objs.size = L at *
  have hHL : H1 L = none := I.hok.fresh (Nat.le_of_eq hLd)
  have I3 : Inv X pins σ (upd H1 L (.lst [])) s2 := by
    rw [hs2]
    exact I.laid (t' := s1.toks) hk2 (Nat.le_of_eq hLd) ⟨Nat.zero_le _, [], c1, .nil, hL⟩
  have nL : ∀ c : Nat, c < N + 5 → c ≠ L := fun c hc q => by
    rw [q, hsz] at hc
    exact absurd hc (Nat.lt_irrefl _)
  have S : ZipSep2 (N + 4) (N + 2) (N + 3) N (N + 1) [N, q1] [N + 1, q2] := by
    constructor <;> first
      | (simp only [List.mem_cons, List.not_mem_nil, or_false, not_or]; refine ⟨?_, ?_⟩ <;> exact fun z => by have z : (_ : Nat) = _ := z; have l1 : (_ : Nat) < _ := l1; have l2 : (_ : Nat) < _ := l2; omega)
      | exact fun z => by have z : (_ : Nat) = _ := z; omega
      | (simp; done)
  obtain ⟨_, hFL, _⟩ := w.fresh hHL
  refine lzip_loop (k1 := k1) (k2 := k2) (a := q1) (b := q2) (z := N + 4) (TI := N + 2) (TO := N + 3) (i1 := N) (i2 := N + 1) (L := L) (X := X) (σ := σ) (pins := pins) (A0 := A0.in1) (hd_in1 hh) S (Nat.ne_of_lt l1) (fun z => by have z : (_ : Nat) = _ := z; have l2 : (_ : Nat) < _ := l2; omega) rv rv2
    (fun hm => ?_) (min ws1.length ws2.length) rfl nmax
    (fun i acc H => ∃ ρ2 Hf2 accD, Gr ρ1 Hf1 ρ2 Hf2 ∧ Wd X.K ρ2 Hf2 (upd Fx L (.lst acc)) m1 H ∧ DenAll X.K ρ2 Hf2 accD acc ∧ accD = (List.zipWith (fun x y => D.tup [x, y]) xs ys).take i)
    ?_ (Nat.ne_of_lt (by rw [hsz]; have l1 : (_ : Nat) < _ := l1; omega)) (Nat.ne_of_lt (by rw [hsz]; have l2 : (_ : Nat) < _ := l2; omega)) ?_ _ 0 s2 _ [] rfl (Nat.zero_le _) I3 ?_ upd_same rfl ⟨ρ1, Hf1, [], Gr.refl _ _, w.keep hHL, .nil, rfl⟩ (show (N + 3 : Nat) < s2.heap.objs.size by rw [hsz2, hsz]; omega)
    (.inl ⟨hk2 _ _ hz, _, _, hk2 _ _ hTO⟩) (hk2 _ _ hTI) (Sk.itAt o1 (hk2 _ ·)) (Sk.hpAt p1 (hk2 _ ·)) (Sk.itAt o2 (hk2 _ ·)) (Sk.hpAt p2 (hk2 _ ·))
  · have hm : L = N + 4 ∨ L = N + 2 ∨ L = N + 3 ∨ L = N ∨ L = N + 1 := by simpa using hm
    omega
  · rintro i acc H T x y ⟨ρ2, Hf2, accD, g2, w2, t, rfl⟩ hx hy hT hLa
    obtain ⟨d, e, hd, n1, n2⟩ := den_zip t1 t2 hx hy
    obtain ⟨w3, g3⟩ := w2.laid (o := .tup [x, y]) hT
    have gg := g2.trans g3
    refine ⟨ρ2, _, _, gg, w3.put (o' := .lst (acc ++ [.ref T])), (t.mono g3.pre g3.ex).append (.cons (.tup (.inl (.inl upd_same)) (.cons (n1.mono gg.pre gg.ex) (.cons (n2.mono gg.pre gg.ex) .nil))) .nil), ?_⟩
    rw [List.take_add_one, hd]
    rfl
  · rintro s' H acc I' hLa ⟨ρ2, Hf2, accD, g2, w2, t, rfl⟩
    refine hR _ s' ⟨.ref L, H, I', rfl, ?_⟩ rfl
    obtain ⟨w3, g3⟩ := w2.done hFL
    rw [List.take_of_length_le (by rw [List.length_zipWith, t1.length, t2.length]; exact Nat.le_refl _)] at t
    exact k ρ2 _ H (.ref L) (g.trans (g2.trans g3)) w3 (.lst upd_same (t.mono g3.pre g3.ex))
  · have mk : ∀ c : Nat, N ≤ c → c < N + 5 → FpOk X pins (upd H1 L (.lst [])) c := fun c h1 h2 => by
      obtain ⟨f0, f1⟩ := fp c h1 h2
      exact ⟨by rw [upd_ne (nL c h2)]; exact f0, f1⟩
    intro c hc
    have hc : c = N + 4 ∨ c = N + 2 ∨ c = N + 3 ∨ c = N ∨ c = N + 1 := by simpa using hc
    rcases hc with q | q | q | q | q <;> (rw [q]; exact mk _ (by omega) (by omega))
section
variable {X : Cx} {G : Calls} {a b : Expr} {A : E} {p p' pos pos' : Pos}
theorem mb_lzip (hgl : Gl X "list") (hml : X.mg "list" = none) (hg : Gl X "zip") (hm : X.mg "zip" = none) (ha : EA X G [a, b] A) (hs : starEach [a, b] X.env = (false, eval a X.env) :: starEach [b] X.env := by rfl) (hpl : (backTo pos (starEach [b] X.env)).any (·.1) = false := by rfl)
    (hs1 : starEach [Expr.Call (.Name "zip" p) [a, b] [] pos] X.env = [(false, eval (Expr.Call (.Name "zip" p) [a, b] [] pos) X.env)] := by rfl) (hc : X.calm = true := by rfl) :
    EX X G (.Call (.Name "list" p') [.Call (.Name "zip" p) [a, b] [] pos] [] pos') (.lzip A) := by
  refine ⟨fun pins s σ H Q I h => ?_⟩
  obtain ⟨env, m, d, m', ρ, Hf, Fx, w, e, h, k⟩ := h
  obtain ⟨⟨x, m1⟩, h1, h⟩ := bind_some h
  cases x with
  | tup xs =>
    match xs, h with
    | [x', y'], h =>
      obtain ⟨xs, h2, h⟩ := bind_some h
      obtain ⟨ys, h3, h⟩ := bind_some h
      split at h
      · rename_i hz0
        cases h
        refine Call_ (ld_blt I hgl hml (show bootBuiltins ("list" : Str) = some (.type "list") by decide +kernel) (PyProof.Rows.callWith_type1 ?_ hs1))
        rw [hs1]
        show wpAny _ _ (spliced ((false, eval (Expr.Call (.Name "zip" p) [a, b] [] pos) X.env) :: [])) _ _ s
        refine Calls.spliced_cons ?_
        refine Call_ (ld_blt I hg hm PyProof.Rows.boot_zip (PyProof.Rows.callWith_type1 (thn (ha.run pos pins s σ H (fun vs H1 => ∃ ρ1 Hf1, Gr ρ Hf ρ1 Hf1 ∧ Wd X.K ρ1 Hf1 Fx m1 H1 ∧ DenAll X.K ρ1 Hf1 [x', y'] vs) I
          (args w e h1 fun ρ1 Hf1 H1 vx g w1 dx => ⟨ρ1, Hf1, g, w1, dx⟩)) fun us s1 ⟨vs, H1, I1, r1, ρ1, Hf1, g, w1, dx⟩ => ?_) hs hpl))
        obtain ⟨v1, v2, rfl, d1, d2⟩ := den2 dx
        obtain ⟨k1, q1, ws1, rfl, s1', t1⟩ := src_of d1 h2
        obtain ⟨k2, q2, ws2, rfl, s2', t2⟩ := src_of d2 h3
        cases r1 with
        | cons r rr =>
          cases rr with
          | cons r' rr =>
            cases rr
            cases r
            cases r'
            obtain ⟨its, rv, p1, _, l1⟩ := Sk.look I1 (s1' H1 w1.ex)
            obtain ⟨its2, rv2, p2, _, l2⟩ := Sk.look I1 (s2' H1 w1.ex)
            refine zip_begins2 (k1.begins q1 its.toArray) (k2.begins q2 its2.toArray) p1 p2 fun h' hz hTI hTO o1 o2 hsz hk => ?_
            refine Calls.spliced_nil ?_
            have I2 : Inv X pins σ H1 { s1 with heap := h' } := I1.kept (t' := s1.toks) hk
            refine call_lzip (X := X) (H := H1) (TI := s1.heap.objs.size + 2) (TO := s1.heap.objs.size + 3) (I1.ok.hd hc) hz fun s2 Rr hR hL hk2 hsz2 hs2 => ?_
            have nmax : min ws1.length ws2.length ≤ 1000000 := by
              have := Nat.le_of_ble_eq_true hz0
              rw [t1.length] at this
              omega
            refine lzip_finish hz hTI hTO (Sk.itOb o1) (Sk.itOb o2) hsz (Sk.hpAt p1 (hk _ ·)) (Sk.hpAt p2 (hk _ ·)) l1 l2 (I1.ok.hd hc) I2 w1 rv rv2 t1 t2 nmax g k hR hL hk2 hsz2 hs2 fun c hc _ => ?_
            exact I1.fpOk hc (I1.hok.fresh hc)
      · cases h
  | _ => cases h
end
end MP
set_option Elab.async false
set_option linter.all false
set_option maxRecDepth 100000
set_option maxHeartbeats 1000000
/-! MiniPy 13: statements that change a list, a number. -/
namespace MP
open PySem PySem.Spec PyProof.Rows L2

/-- o[i] of a list -/
def rGetL : V → V → Hp → VK → Prop := fun o i H Q => ∃ p xs k j v, o = .ref p ∧ i = .int k ∧ H p = some (.lst xs) ∧ ixN xs.length k = some j ∧ xs[j]? = some v ∧ Q v H
theorem get_list {X : Cx} : PGet X rGetL := by
  intro pins s σ H o i ov iv Q I ro ri h
  obtain ⟨p, xs, k, j, v, rfl, rfl, hp, hj, hv, q⟩ := h
  cases ro
  obtain ⟨t, rfl⟩ := ri
  obtain ⟨its, n, r, ho, hz⟩ := I.lst hp
  obtain ⟨h1, h2, h3, h4⟩ := ixN_seq hj
  obtain ⟨u, hu, ru⟩ := r.get hv
  have hl := r.length
  have hn := line63
  have hlst : s.heap.IsList p its.toArray := ⟨_, ho, rfl, n, rfl⟩
  by_cases h0 : 0 ≤ k
  · have hk : k.toNat = j := by
      rw [seqIndex_of h0 h4] at h1
      exact Option.some.inj h1
    exact wpAny_getItem_list hlst h0 (by omega) (by rw [hk]; simpa using hu) ⟨v, H, I, ru, q⟩
  · have hk : (k + (its.toArray.size : Int)).toNat = j := by
      rw [seqIndex_neg (by omega) h3] at h1
      rw [List.size_toArray, ← hl]
      exact Option.some.inj h1
    exact wpAny_getItem_list_neg hlst (by omega) (by rw [List.size_toArray] <;> omega) (by omega) (by rw [hk]; simpa using hu) ⟨v, H, I, ru, q⟩

section
variable {X : Cx} {G : Calls} {N : Nat} {K : PySem.W.Frag}
theorem mem_lst {ρ : List Addr} {Hf Fx H : Hp} {m : Mem} (w : Wd K ρ Hf Fx m H) {n : Nat} {a : Addr} (h : ρ[n]? = some a) : ∃ xs, H a = some (.lst xs) := w.live (List.mem_of_getElem? h)
theorem ms_app {o e : Expr} {O A : E} {k : S} {sts : List Stmt} {apos cpos pos : Pos} (ho : EX X G o O) (he : EX X G e A) (hk : ES X G N sts k) (hs : swapsWith (.Call (.Attribute o "append" apos) [e] [] cpos) none pos.line X.env = pure false := by rfl)
    (hbase : attributeBase o "append" X.env (eval o X.env) = eval o X.env := by rfl)
    (hfew : ((backTo cpos (starEach [e] X.env)).all (fun x => !x.1) && (backToKw cpos (keywordEach [] X.env)).all (fun x => x.1.isSome) && decide ([e].length + ([] : List Keyword).length + (if ([] : List Keyword).isEmpty then 0 else 1) < 30)) = true := by rfl)
    (hline : (apos.endLine == cpos.line) = true := by rfl) (hst : starEach [e] X.env = (false, eval e X.env) :: starEach [] X.env := by rfl) : ES X G N (.Expr (.Call (.Attribute o "append" apos) [e] [] cpos) pos :: sts) (.app O A k) := by
  refine ms_cons (f := fun env m => (ev G O env m).bind fun y => (ev G A env y.2).bind fun x => match y.1 with
    | .ref n => match x.2[n]? with
      | some (.lst ds) => if sz ds.length = true then some (.nx env, x.2.set n (.lst (ds ++ [x.1]))) else none
      | none => none
    | _ => none) (PS.via (ps_expr (pe_bm PySem.F.plainAttrs_list PySem.F.slot_list_append PySem.F.type_list_append mt_append ho (pa_cons he pa_nil hst) hbase hfew hline hst) hs) fun Z σ H h => ?_) hk fun env m => ?_
  · obtain ⟨env, m, fl, m', ρ, Hf, Fx, w, e, h, k⟩ := h
    obtain ⟨⟨y, m1⟩, h1, h⟩ := bind_some h
    obtain ⟨⟨x, m2⟩, h2, h⟩ := bind_some h
    refine one w e h1 fun ρ1 Hf1 H1 vy g1 w1 dy => ?_
    cases dy with
    | @ref n a ea =>
      obtain ⟨xs, hxs⟩ := mem_lst w1 ea
      refine ⟨.inl ⟨rfl, _, .inl (.inl hxs)⟩, one w1 (e.mono g1) h2 fun ρ2 Hf2 H2 vx g2 w2 dx => ?_⟩
      have ea2 := g2.pre.get ea
      have h : (match m2[n]? with | some (.lst ds) => if sz ds.length = true then some (Fl.nx env, m2.set n (.lst (ds ++ [x]))) else none | none => none) = some (fl, m') := h
      cases hm : m2[n]? with
      | none => rw [hm] at h; cases h
      | some c =>
        cases c with
        | lst ds =>
          rw [hm] at h
          have h : (if sz ds.length = true then some (Fl.nx env, m2.set n (.lst (ds ++ [x]))) else none) = some (fl, m') := h
          split at h
          · rename_i hz
            cases h
            obtain ⟨vs, hv, t⟩ := w2.at ea2 hm
            refine ⟨a, vs, vx, rfl, rfl, hv, ?_, k ρ2 Hf2 _ (g1.trans g2) (w2.store ea2 (t.append (.cons dx .nil))) σ ((e.mono g1).mono g2)⟩
            have := Nat.le_of_ble_eq_true hz
            rw [← t.length]
            exact Nat.lt_of_le_of_lt this (by decide)
          · cases h
    | _ => cases h
  · show (ev G O env m).bind _ = _
    cases ev G O env m with
    | none => rfl
    | some y =>
      obtain ⟨y, m1⟩ := y
      show (ev G A env m1).bind _ = thnF ((ev G A env m1).bind _) _
      cases ev G A env m1 with
      | none => rfl
      | some x =>
        obtain ⟨x, m2⟩ := x
        cases y with
        | ref n =>
          show (match m2[n]? with | some (.lst ds) => if sz ds.length = true then exec G N k env (m2.set n (.lst (ds ++ [x]))) else none | none => none) = thnF (match m2[n]? with | some (.lst ds) => if sz ds.length = true then some (.nx env, m2.set n (.lst (ds ++ [x]))) else none | none => none) _
          cases m2[n]? with
          | none => rfl
          | some c =>
            cases c with
            | lst ds =>
              show (if sz ds.length = true then exec G N k env (m2.set n (.lst (ds ++ [x]))) else none) = thnF (if sz ds.length = true then some (.nx env, m2.set n (.lst (ds ++ [x]))) else none) _
              cases sz ds.length <;> rfl
        | _ => rfl
theorem ms_ext {o e : Expr} {O A : E} {k : S} {sts : List Stmt} {apos cpos pos : Pos} (ho : EX X G o O) (he : EX X G e A) (hk : ES X G N sts k) (hs : swapsWith (.Call (.Attribute o "extend" apos) [e] [] cpos) none pos.line X.env = pure false := by rfl)
    (hbase : attributeBase o "extend" X.env (eval o X.env) = eval o X.env := by rfl)
    (hfew : ((backTo cpos (starEach [e] X.env)).all (fun x => !x.1) && (backToKw cpos (keywordEach [] X.env)).all (fun x => x.1.isSome) && decide ([e].length + ([] : List Keyword).length + (if ([] : List Keyword).isEmpty then 0 else 1) < 30)) = true := by rfl)
    (hline : (apos.endLine == cpos.line) = true := by rfl) (hst : starEach [e] X.env = (false, eval e X.env) :: starEach [] X.env := by rfl) : ES X G N (.Expr (.Call (.Attribute o "extend" apos) [e] [] cpos) pos :: sts) (.ext O A k) := by
  refine ms_cons (f := fun env m => (ev G O env m).bind fun y => (ev G A env y.2).bind fun x => match y.1, x.1 with
    | .ref n, .lst es => match x.2[n]? with
      | some (.lst ds) => if sz (ds.length + es.length) = true then some (.nx env, x.2.set n (.lst (ds ++ es))) else none
      | none => none
    | _, _ => none) (PS.via (ps_expr (pe_bm PySem.F.plainAttrs_list PySem.F.slot_list_extend PySem.F.type_list_extend mt_extend ho (pa_cons he pa_nil hst) hbase hfew hline hst) hs) fun Z σ H h => ?_) hk fun env m => ?_
  · obtain ⟨env, m, fl, m', ρ, Hf, Fx, w, e, h, k⟩ := h
    obtain ⟨⟨y, m1⟩, h1, h⟩ := bind_some h
    obtain ⟨⟨x, m2⟩, h2, h⟩ := bind_some h
    refine one w e h1 fun ρ1 Hf1 H1 vy g1 w1 dy => ?_
    cases dy with
    | @ref n a ea =>
      obtain ⟨xs, hxs⟩ := mem_lst w1 ea
      refine ⟨.inl ⟨rfl, _, .inl (.inl hxs)⟩, one w1 (e.mono g1) h2 fun ρ2 Hf2 H2 vx g2 w2 dx => ?_⟩
      have ea2 := g2.pre.get ea
      cases dx with
      | @lst b ws es hb tb =>
        have h : (match m2[n]? with | some (.lst ds) => if sz (ds.length + es.length) = true then some (Fl.nx env, m2.set n (.lst (ds ++ es))) else none | none => none) = some (fl, m') := h
        cases hm : m2[n]? with
        | none => rw [hm] at h; cases h
        | some c =>
          cases c with
          | lst ds =>
            rw [hm] at h
            have h : (if sz (ds.length + es.length) = true then some (Fl.nx env, m2.set n (.lst (ds ++ es))) else none) = some (fl, m') := h
            split at h
            · rename_i hz
              cases h
              obtain ⟨vs, hv, t⟩ := w2.at ea2 hm
              exact ⟨a, b, vs, ws, rfl, rfl, hv, w2.ex _ _ hb, by rw [← t.length, ← tb.length]; exact sz_line hz, k ρ2 Hf2 _ (g1.trans g2) (w2.store ea2 (t.append tb)) σ ((e.mono g1).mono g2)⟩
            · cases h
      | _ => cases h
    | _ => cases h
  · show (ev G O env m).bind _ = _
    cases ev G O env m with
    | none => rfl
    | some y =>
      obtain ⟨y, m1⟩ := y
      show (ev G A env m1).bind _ = thnF ((ev G A env m1).bind _) _
      cases ev G A env m1 with
      | none => rfl
      | some x =>
        obtain ⟨x, m2⟩ := x
        cases y with
        | ref n =>
          cases x with
          | lst es =>
            show (match m2[n]? with | some (.lst ds) => if sz (ds.length + es.length) = true then exec G N k env (m2.set n (.lst (ds ++ es))) else none | none => none) = thnF (match m2[n]? with | some (.lst ds) => if sz (ds.length + es.length) = true then some (.nx env, m2.set n (.lst (ds ++ es))) else none | none => none) _
            cases m2[n]? with
            | none => rfl
            | some c =>
              cases c with
              | lst ds =>
                show (if sz (ds.length + es.length) = true then exec G N k env (m2.set n (.lst (ds ++ es))) else none) = thnF (if sz (ds.length + es.length) = true then some (.nx env, m2.set n (.lst (ds ++ es))) else none) _
                cases sz (ds.length + es.length) <;> rfl
          | _ => rfl
        | _ => rfl
/-- what an operation in place does to two whole numbers -/
structure IpD (X : Cx) (o : Operator) (op : BOp) : Prop where
  ex : ∃ ti, PIp X o ti ∧ ∀ (a b : Int) (r : D), binD op (.int a) (.int b) = some r → ∃ i, r = .int i ∧ ∀ (H : Hp) (Q : VK), Q (.int i) H → ti (.int a) (.int b) H Q
theorem ipd_add : IpD X .Add .add := ⟨_, ip_add, fun a b r h => by cases h; exact ⟨_, rfl, fun H Q q => ⟨a, b, rfl, rfl, q⟩⟩⟩
theorem ipd_sub : IpD X .Sub .sub := ⟨_, ip_sub, fun a b r h => by cases h; exact ⟨_, rfl, fun H Q q => ⟨a, b, rfl, rfl, q⟩⟩⟩
theorem env_at {env : Env} {i : Nat} {d : D} (h : env.getD i none = some d) : env[i]? = some (some d) := by
  rw [List.getD_eq_getElem?_getD] at h
  cases q : env[i]? with
  | none => rw [q] at h; cases h
  | some o =>
    rw [q] at h
    have h : o = some d := h
    rw [h]
theorem ms_aug {i : Nat} {x : Str} {e : Expr} {A : E} {o : Operator} {op : BOp} {k : S} {sts : List Stmt} {pos pos' : Pos} (hN : X.N.Nodup) (ho : IpD X o op) (he : EX X G e A) (hk : ES X G N sts k)
    (hi : X.N[i]? = some x := by rfl) (hx : Loc X.env.scope x := by first | exact Or.inl rfl | exact Or.inr rfl) (hf : X.fn x = true ∨ X.env.scope.names.lookup x = some .local := by first | exact .inl rfl | exact .inr rfl) :
    ES X G N (.AugAssign (.Name x pos') o e pos :: sts) (.aug i op A k) := by
  obtain ⟨ti, hti, hop⟩ := ho.ex
  refine ms_cons (f := fun env m => (env.getD i none).bind fun d => (ev G A env m).bind fun x => match d, x.1 with
    | .int a, .int b => (binD op (.int a) (.int b)).map fun r => (.nx (env.set i (some r)), x.2)
    | _, _ => none) (PS.via (ps_aug (i := i) hN hi hx he hti hf) fun Z σ H h => ?_) hk fun env m => ?_
  · obtain ⟨env, m, fl, m', ρ, Hf, Fx, w, e, h, k⟩ := h
    obtain ⟨d, h0, h⟩ := bind_some h
    obtain ⟨⟨y, m1⟩, h1, h⟩ := bind_some h
    obtain ⟨v, hv, dv⟩ := e.get i d (env_at h0)
    refine ⟨v, hv, one w e h1 fun ρ1 Hf1 H1 vy g w1 dy => ?_⟩
    cases dv with
    | int a =>
      cases dy with
      | int b =>
        have h : (binD op (.int a) (.int b)).map (fun r => (Fl.nx (env.set i (some r)), m1)) = some (fl, m') := h
        obtain ⟨r, h2, h3⟩ := map_some' h
        cases h3
        obtain ⟨j, rfl, q⟩ := hop a b r h2
        exact q H1 _ (k ρ1 Hf1 H1 g w1 _ ((e.mono g).set i (.int j)))
      | _ => cases h
    | _ => cases dy <;> cases h
  · show (env.getD i none).bind _ = _
    cases env.getD i none with
    | none => rfl
    | some d =>
      show (ev G A env m).bind _ = thnF ((ev G A env m).bind _) _
      cases ev G A env m with
      | none => rfl
      | some y =>
        obtain ⟨y, m1⟩ := y
        cases d with
        | int a =>
          cases y with
          | int b =>
            show (binD op (.int a) (.int b)).bind _ = thnF ((binD op (.int a) (.int b)).map _) _
            cases binD op (.int a) (.int b) <;> rfl
          | _ => rfl
        | _ => rfl
theorem ixN_len {α β : Type} {xs : List α} {ys : List β} (h : xs.length = ys.length) {k : Int} : ixN xs.length k = ixN ys.length k := by rw [h]
theorem ms_setIx {o i e : Expr} {O I A : E} {k : S} {sts : List Stmt} {pos tpos : Pos} (ho : EX X G o O) (hi : EX X G i I) (he : EX X G e A) (hk : ES X G N sts k)
    (hs : swapsWithSole [.Subscript o i tpos] e pos.line X.env = pure false := by rfl) (hw : swappedStores [.Subscript o i tpos] e X.env = pure none := by rfl) (h1 : (assignEach [.Subscript o i tpos] X.env).map (·.2) = [assign (.Subscript o i tpos) X.env] := by rfl)
    (ha : ∀ v, assign (.Subscript o i tpos) X.env v = (do
      let ov ← holding [v] (eval o X.env)
      let iv ← holding [v, ov] (eval i X.env)
      standAt tpos
      holding [v, ov, iv] (setItem ov iv v)
      release [v, ov, iv] []) := by intro _; rfl) : ES X G N (.Assign [.Subscript o i tpos] e pos :: sts) (.setIx O I A k) := by
  refine ms_cons (f := fun env m => (ev G A env m).bind fun x => (ev G O env x.2).bind fun y => (ev G I env y.2).bind fun z => match y.1, z.1 with
    | .ref n, .int j => match z.2[n]? with
      | some (.lst ds) => (ixN ds.length j).map fun j => (.nx env, z.2.set n (.lst (ds.set j x.1)))
      | none => none
    | _, _ => none) (PS.via (ps_asg he (pg_sub ho hi set_list ha) hs hw h1) fun Z σ H h => ?_) hk fun env m => ?_
  · obtain ⟨env, m, fl, m', ρ, Hf, Fx, w, e, h, k⟩ := h
    obtain ⟨⟨x, m1⟩, h1, h⟩ := bind_some h
    obtain ⟨⟨y, m2⟩, h2, h⟩ := bind_some h
    obtain ⟨⟨z, m3⟩, h3, h⟩ := bind_some h
    refine one w e h1 fun ρ1 Hf1 H1 vx g1 w1 dx => one w1 (e.mono g1) h2 fun ρ2 Hf2 H2 vy g2 w2 dy => one w2 ((e.mono g1).mono g2) h3 fun ρ3 Hf3 H3 vz g3 w3 dz => ?_
    cases dy with
    | @ref n a ea =>
      cases dz with
      | int j =>
        have h : (match m3[n]? with | some (.lst ds) => (ixN ds.length j).map (fun j => (Fl.nx env, m3.set n (.lst (ds.set j x)))) | none => none) = some (fl, m') := h
        cases hm : m3[n]? with
        | none => rw [hm] at h; cases h
        | some c =>
          cases c with
          | lst ds =>
            rw [hm] at h
            have h : (ixN ds.length j).map (fun j => (Fl.nx env, m3.set n (.lst (ds.set j x)))) = some (fl, m') := h
            obtain ⟨jj, hj, h4⟩ := map_some' h
            cases h4
            have ea3 := g3.pre.get ea
            obtain ⟨vs, hv, t⟩ := w3.at ea3 hm
            exact ⟨a, vs, j, jj, rfl, rfl, hv, by rw [← t.length]; exact hj, k ρ3 Hf3 _ (g1.trans (g2.trans g3)) (w3.store ea3 (t.set jj (dx.mono (g2.trans g3).pre (g2.trans g3).ex))) σ (((e.mono g1).mono g2).mono g3)⟩
      | _ => cases h
    | _ => cases dz <;> cases h
  · show (ev G A env m).bind _ = _
    cases ev G A env m with
    | none => rfl
    | some x =>
      obtain ⟨x, m1⟩ := x
      show (ev G O env m1).bind _ = thnF ((ev G O env m1).bind _) _
      cases ev G O env m1 with
      | none => rfl
      | some y =>
        obtain ⟨y, m2⟩ := y
        show (ev G I env m2).bind _ = thnF ((ev G I env m2).bind _) _
        cases ev G I env m2 with
        | none => rfl
        | some z =>
          obtain ⟨z, m3⟩ := z
          cases y with
          | ref n =>
            cases z with
            | int j =>
              show (match m3[n]? with | some (.lst ds) => (ixN ds.length j).bind (fun j => exec G N k env (m3.set n (.lst (ds.set j x)))) | none => none) = thnF (match m3[n]? with | some (.lst ds) => (ixN ds.length j).map (fun j => (.nx env, m3.set n (.lst (ds.set j x)))) | none => none) _
              cases m3[n]? with
              | none => rfl
              | some c =>
                cases c with
                | lst ds =>
                  show (ixN ds.length j).bind _ = thnF ((ixN ds.length j).map _) _
                  cases ixN ds.length j <;> rfl
            | _ => rfl
          | _ => rfl
theorem atI_ix {α : Type} {xs : List α} {i : Int} {x : α} (h : atI xs i = some x) : ∃ j, ixN xs.length i = some j ∧ xs[j]? = some x := by
  unfold atI at h
  obtain ⟨j, h1, h2⟩ := Option.bind_eq_some_iff.mp h
  exact ⟨j, h1, h2⟩
theorem ms_augIx {o i e : Expr} {O I A : E} {op : BOp} {oo : Operator} {k : S} {sts : List Stmt} {pos tpos : Pos} (hop : IpD X oo op) (ho : EX X G o O) (hi : EX X G i I) (he : EX X G e A) (hk : ES X G N sts k)
    (ha : ∀ ov iv new, augStore i ov iv new = (do holding [new, ov, iv] (setItem ov iv new); release [new, ov, iv] []; pure .next) := by intros; rfl) : ES X G N (.AugAssign (.Subscript o i tpos) oo e pos :: sts) (.augIx O I op A k) := by
  obtain ⟨ti, hti, hop⟩ := hop.ex
  refine ms_cons (f := fun env m => (ev G O env m).bind fun y => (ev G I env y.2).bind fun z => match y.1, z.1 with
    | .ref n, .int j => (idxD z.2 (.ref n) (.int j)).bind fun old => (ev G A env z.2).bind fun x => match old, x.1 with
      | .int a, .int b => (binD op (.int a) (.int b)).bind fun r => match x.2[n]? with
        | some (.lst ds) => (ixN ds.length j).map fun j => (.nx env, x.2.set n (.lst (ds.set j r)))
        | none => none
      | _, _ => none
    | _, _ => none) (PS.via (ps_augS ho hi get_list he hti set_list ha) fun Z σ H h => ?_) hk fun env m => ?_
  · obtain ⟨env, m, fl, m', ρ, Hf, Fx, w, e, h, k⟩ := h
    obtain ⟨⟨y, m1⟩, h1, h⟩ := bind_some h
    obtain ⟨⟨z, m2⟩, h2, h⟩ := bind_some h
    refine one w e h1 fun ρ1 Hf1 H1 vy g1 w1 dy => one w1 (e.mono g1) h2 fun ρ2 Hf2 H2 vz g2 w2 dz => ?_
    cases dy with
    | @ref n a ea =>
      cases dz with
      | int j =>
        obtain ⟨old, h3, h⟩ := bind_some h
        obtain ⟨⟨x, m3⟩, h4, h⟩ := bind_some h
        have ea2 := g2.pre.get ea
        obtain ⟨ds0, h5, h6⟩ := bind_some h3
        have hm0 : m2[n]? = some (.lst ds0) := by
          unfold seqOf at h5
          simp only at h5
          cases hm : m2[n]? with
          | none => rw [hm] at h5; cases h5
          | some c =>
            cases c with
            | lst ds =>
              rw [hm] at h5
              cases h5
              rfl
        obtain ⟨vs0, hv0, t0⟩ := w2.at ea2 hm0
        obtain ⟨j0, hj0, hg0⟩ := atI_ix h6
        obtain ⟨v0, hvv0, dv0⟩ := t0.get hg0
        refine ⟨a, vs0, j, j0, v0, rfl, rfl, hv0, by rw [← t0.length]; exact hj0, hvv0, ?_⟩
        refine one w2 ((e.mono g1).mono g2) h4 fun ρ3 Hf3 H3 vx g3 w3 dx => ?_
        cases dv0 with
        | int aa =>
          cases dx with
          | int bb =>
            obtain ⟨r, h7, h⟩ := bind_some h
            obtain ⟨q, rfl, hq⟩ := hop aa bb r h7
            have h : (match m3[n]? with | some (.lst ds) => (ixN ds.length j).map (fun j => (Fl.nx env, m3.set n (.lst (ds.set j (.int q))))) | none => none) = some (fl, m') := h
            cases hm : m3[n]? with
            | none => rw [hm] at h; cases h
            | some c =>
              cases c with
              | lst ds =>
                rw [hm] at h
                have h : (ixN ds.length j).map (fun j => (Fl.nx env, m3.set n (.lst (ds.set j (.int q))))) = some (fl, m') := h
                obtain ⟨jj, hj, h8⟩ := map_some' h
                cases h8
                have ea3 := g3.pre.get ea2
                obtain ⟨vs, hv, t⟩ := w3.at ea3 hm
                exact hq H3 _ ⟨a, vs, j, jj, rfl, rfl, hv, by rw [← t.length]; exact hj, k ρ3 Hf3 _ (g1.trans (g2.trans g3)) (w3.store ea3 (t.set jj (.int q))) σ (((e.mono g1).mono g2).mono g3)⟩
          | _ => cases h
        | _ => cases dx <;> cases h
      | _ => cases h
    | _ => cases dz <;> cases h
  · show (ev G O env m).bind _ = _
    cases ev G O env m with
    | none => rfl
    | some y =>
      obtain ⟨y, m1⟩ := y
      show (ev G I env m1).bind _ = thnF ((ev G I env m1).bind _) _
      cases ev G I env m1 with
      | none => rfl
      | some z =>
        obtain ⟨z, m2⟩ := z
        cases y with
        | ref n =>
          cases z with
          | int j =>
            show (idxD m2 (.ref n) (.int j)).bind _ = thnF ((idxD m2 (.ref n) (.int j)).bind _) _
            cases idxD m2 (.ref n) (.int j) with
            | none => rfl
            | some old =>
              show (ev G A env m2).bind _ = thnF ((ev G A env m2).bind _) _
              cases ev G A env m2 with
              | none => rfl
              | some x =>
                obtain ⟨x, m3⟩ := x
                cases old with
                | int aa =>
                  cases x with
                  | int bb =>
                    show (binD op (.int aa) (.int bb)).bind _ = thnF ((binD op (.int aa) (.int bb)).bind _) _
                    cases binD op (.int aa) (.int bb) with
                    | none => rfl
                    | some r =>
                      show (match m3[n]? with | some (.lst ds) => (ixN ds.length j).bind (fun j => exec G N k env (m3.set n (.lst (ds.set j r)))) | none => none) = thnF (match m3[n]? with | some (.lst ds) => (ixN ds.length j).map (fun j => (.nx env, m3.set n (.lst (ds.set j r)))) | none => none) _
                      cases m3[n]? with
                      | none => rfl
                      | some c =>
                        cases c with
                        | lst ds =>
                          show (ixN ds.length j).bind _ = thnF ((ixN ds.length j).map _) _
                          cases ixN ds.length j <;> rfl
                  | _ => rfl
                | _ => cases x <;> rfl
          | _ => rfl
        | _ => rfl
end
end MP
set_option Elab.async false
set_option linter.all false
set_option maxRecDepth 100000
set_option maxHeartbeats 1000000
/-! MiniPy 14: defs, the module's names. -/
namespace MP
open PySem PySem.Spec PyProof.Rows L2

section
variable {X : Cx} {G : Calls} {pos : Pos}
/-- a name of the module that stands for a datum -/
def Cst (K : PySem.W.Frag) (mg : Str → Option Value) (x : Str) (t : D) : Prop := ∃ v u, mg x = some u ∧ RelV v u ∧ ∀ ρ Hf, Den K ρ Hf t v
theorem mb_cst {x : Str} {t : D} (c : Cst X.K X.mg x t) (hg : Gl X x := by rfl) (hdb : (x == ("__debug__" : Str)) = false := by decide) : EX X G (.Name x pos) (.lit t) := by
  obtain ⟨v, u, hm, r, hd⟩ := c
  exact mb_glob hg hm r hd hdb
theorem mb_pow {i j : Int} {p1 p2 : Pos} {j1 j2 : Nat} (h : CPow i j) : EX X G (.BinOp (.Constant (.int i) j1 p1) .Pow (.Constant (.int j) j2 p2) pos) (.lit (.int (i ^ j.toNat))) := by
  refine PE.via (pe_op op_pow pe_int pe_int) fun σ H Q h' => ?_
  obtain ⟨env, m, d, m', ρ, Hf, Fx, w, e, h', k⟩ := h'
  cases h'
  exact ⟨i, j, rfl, rfl, h, k ρ Hf H _ (Gr.refl ρ Hf) w (.int _)⟩
end

/-- a def of the module: its name, its statement, its parameters -/
def Dn (K : PySem.W.Frag) (mg : Str → Option Value) (x : Str) (st : Stmt) (ps : List Str) : Prop :=
  ∃ f fd, mg x = some (.ref f) ∧ FunD K x x (defArgs st) (defBody st) (defScope st) [] [] f fd ∧ Binds K fd ps []
section
variable {P : Program} {w : World} {K : PySem.W.Frag} {mg : Str → Option Value} {base : Heap} {x : Str} {st : Stmt} {ps : List Str} {T : List Df} {fuel i k : Nat}
theorem callee_zero (Dx : Dn K mg x st ps) : Callee P w K mg base 0 x (run T fuel 0 i) := by
  obtain ⟨f, fd, hm, F, hb⟩ := Dx
  have no : ∀ vs H Q E, spK K (run T fuel 0 i) vs H Q E → False := fun vs H Q E h => by
    obtain ⟨ds, m, d, m', ρ, Hf, Fx, _, _, h, _⟩ := h
    cases h
  exact ⟨f, fd, ps, hm, F.kp, hb, fun vs H Q E h => (no vs H Q E h).elim, fun A outer s H args us vs Q E _ _ _ _ h => (no vs H Q E h).elim⟩
theorem env_start {ρ : List Addr} {H : Hp} {ds : List D} {vs : List V} (t : DenAll K ρ H ds vs) (N : List Str) : EnvDen K ρ H (ds.map some ++ List.replicate (N.length - ds.length) none) (L2.start N vs) := by
  refine ⟨?_, fun j d h => ?_⟩
  · unfold L2.start
    simp [t.length]
  · have hj : j < ds.length := by
      by_cases hj : j < ds.length
      · exact hj
      · rw [List.getElem?_append_right (by simpa using hj), List.getElem?_replicate] at h
        split at h <;> cases h
    rw [List.getElem?_append_left (by simpa using hj), List.getElem?_map] at h
    obtain ⟨d', h1, h2⟩ := Option.map_eq_some_iff.mp h
    cases h2
    obtain ⟨v, hv, dv⟩ := t.get h1
    refine ⟨v, ?_, dv⟩
    unfold L2.start
    rw [List.getElem?_append_left (by rw [List.length_map, ← t.length]; exact hj), List.getElem?_map, hv]
    rfl
theorem fnok_succ {Nm : List Str} {d : Df} {f : Addr} {fd : FuncData} (F : FunD K x x (defArgs st) (defBody st) (defScope st) [] [] f fd) (S : FnScope Nm ps (defScope st)) (hd : T[i]? = some d) (hn : Nm.length = d.nn) (hp : ps.length = d.np)
    (body : ∀ (f : Addr) (cdv : Value) (A : Around) (outer : List PySem.Env) (s : Shared) (H : Hp) (E : XK), Room k (A.deeper (envOfC x (defScope st) s.heap.objs.size f cdv)) →
      ES (cxOf CX0 P w K mg base Nm x (defScope st) f cdv A outer s H E).nox (run T fuel k) fuel (defBody st) d.body) : FnOk P w K mg base CX0 (k + 1) f fd ps (spK K (run T fuel (k + 1) i)) := by
  refine F.ok S (fun vs H Q E h => ?_) fun cdv A outer s H vs Q E hr h => ⟨tF K (exec (run T fuel k) fuel d.body), (body f cdv A outer s H E hr).nox, ?_⟩
  · obtain ⟨ds, m, d', m', ρ, Hf, Fx, _, t, h, _⟩ := h
    rw [← t.length, hp]
    have h : (match T[i]? with
      | some d => if ds.length = d.np then (exec (run T fuel k) fuel d.body (ds.map some ++ List.replicate (d.nn - ds.length) none) m).bind fun x => match x.1 with
          | .rt r => some (r, x.2)
          | .nx _ => some (.non, x.2)
          | _ => none
        else none
      | none => none) = some (d', m') := h
    rw [hd] at h
    simp only at h
    split at h
    · rename_i e
      exact e
    · cases h
  · obtain ⟨ds, m, d', m', ρ, Hf, Fx, w1, t, h, q⟩ := h
    have h : (match T[i]? with
      | some d => if ds.length = d.np then (exec (run T fuel k) fuel d.body (ds.map some ++ List.replicate (d.nn - ds.length) none) m).bind fun x => match x.1 with
          | .rt r => some (r, x.2)
          | .nx _ => some (.non, x.2)
          | _ => none
        else none
      | none => none) = some (d', m') := h
    rw [hd] at h
    simp only at h
    split at h
    · rename_i e
      obtain ⟨⟨fl, m1⟩, h1, h2⟩ := bind_some h
      rw [← hn] at h1
      refine ⟨_, m, fl, m1, ρ, Hf, Fx, w1, env_start t Nm, h1, fun ρ' Hf' H' g w2 => ?_⟩
      cases fl with
      | nx env =>
        cases h2
        exact fun σ _ => q ρ' Hf' H' .non g w2 .non
      | rt r =>
        cases h2
        exact fun v dv => q ρ' Hf' H' v g w2 dv
      | bk _ => cases h2
      | ct _ => cases h2
    · cases h
theorem callee_succ {Nm : List Str} {d : Df} (Dx : Dn K mg x st ps) (S : FnScope Nm ps (defScope st)) (hd : T[i]? = some d) (hn : Nm.length = d.nn) (hp : ps.length = d.np)
    (body : ∀ (f : Addr) (cdv : Value) (A : Around) (outer : List PySem.Env) (s : Shared) (H : Hp) (E : XK), Room k (A.deeper (envOfC x (defScope st) s.heap.objs.size f cdv)) →
      ES (cxOf CX0 P w K mg base Nm x (defScope st) f cdv A outer s H E).nox (run T fuel k) fuel (defBody st) d.body) : Callee P w K mg base (k + 1) x (run T fuel (k + 1) i) := by
  obtain ⟨f, fd, hm, F, hb⟩ := Dx
  exact ⟨f, fd, ps, hm, F.kp, hb, fnok_succ F S hd hn hp body⟩
/-- the law's def does what is asked -/
theorem law_sp {k : Nat} {ns : List Int} {m' : Mem} {H : Hp} {a : Addr} (h : run T fuel k i [.fz (ns.map D.int)] [] = some (.bl true, m')) (hS : SqL K H a (ns.map V.int)) :
    spK K (run T fuel k i) [.ref a] H (fun v _ => v = .bl true) E0 := by
  have w0 : Wd K [] H (fun _ => none) [] H := ⟨Same.refl H, (fun a o e => nomatch e), (fun a o e => nomatch e), List.nodup_nil, (fun a ha => nomatch ha), rfl, (fun n a c e => by simp at e)⟩
  refine ⟨_, [], _, m', [], H, fun _ => none, w0, .cons (.fz hS ?_) .nil, h, fun ρ' Hf' H' v g w' t => ?_⟩
  · exact go ns
  · cases t
    rfl
where
  go : ∀ ns : List Int, DenAll K [] H (ns.map D.int) (ns.map V.int)
    | [] => .nil
    | n :: ns => .cons (.int n) (go ns)
/-! facts of the module from the top -/
theorem dn_of {h : Heap} {st : Stmt} (X : K.In h) (G : h.Ns mainGlobals mg) (cf : (He.Fa.glo x).ok K = true) (cd : ∃ fd, FunD K x x (defArgs st) (defBody st) (defScope st) [] [] (He.ga K x) fd)
    (hb : ∀ (kV doc pm : Value) (an : Option Addr) (cdv ct : Value) (us : List Value), us.length = ps.length → bindArgs (PySem.W.fnOf x x (defArgs st) (defBody st) (defScope st) .none kV doc pm an cdv ct) ⟨us, []⟩ = pure (ps.zip us)) : Dn K mg x st ps := by
  obtain ⟨fd, F⟩ := cd
  exact ⟨_, fd, He.glo_ok X G cf, F, F.bindsN hb⟩
theorem cst_int {h : Heap} {i : Int} (X : K.In h) (G : h.Ns mainGlobals mg) (c : (He.Fa.int x i).ok K = true) : Cst K mg x (.int i) := by
  obtain ⟨t, e⟩ := He.int_ok X G c
  exact ⟨.int i, _, e, ⟨t, rfl⟩, fun _ _ => .int i⟩
theorem cst_str {h : Heap} {z : Str} (X : K.In h) (G : h.Ns mainGlobals mg) (c : (He.Fa.str x z).ok K = true) : Cst K mg x (.str z) := by
  obtain ⟨t, e⟩ := He.str_ok X G c
  exact ⟨.str z, _, e, ⟨t, rfl⟩, fun _ _ => .str z⟩
theorem cst_ints {h : Heap} {ns : List Int} (X : K.In h) (G : h.Ns mainGlobals mg) (c : (He.Fa.glo x).ok K = true) (ct : He.tupB K x (ns.map He.Dv.int) = true) : Cst K mg x (.tup (ns.map D.int)) := by
  refine ⟨.ref (He.ga K x), _, He.glo_ok X G c, rfl, fun ρ Hf => .tup (He.tupB_ok ct Hf) ?_⟩
  exact go ns
where
  go {ρ : List Addr} {Hf : Hp} : ∀ ns : List Int, DenAll K ρ Hf (ns.map D.int) ((ns.map He.Dv.int).map (He.Dv.v K))
    | [] => .nil
    | n :: ns => .cons (.int n) (go ns)
end
end MP
set_option Elab.async false
set_option linter.all false
set_option maxRecDepth 100000
set_option maxHeartbeats 1000000
/-! MiniPy 15: reasoning over terms. -/
namespace MP

theorem bool?_bl (b : Bool) : (D.bl b).bool? = some b := rfl
theorem ite_bl {α : Type} (a b : α) : (if true = true then a else b) = a := rfl
/-- behind a def's body -/
def fin (x : Fl × Mem) : Option (D × Mem) := match x.1 with
  | .rt r => some (r, x.2)
  | .nx _ => some (.non, x.2)
  | _ => none
theorem run_eq {T : List Df} {N k i : Nat} {ds : List D} {m : Mem} {np nn : Nat} {t : S} (hT : T[i]? = some ⟨np, nn, t⟩) (hl : ds.length = np) :
    run T N (k + 1) i ds m = (exec (run T N k) N t (ds.map some ++ List.replicate (nn - ds.length) none) m).bind fin := by
  show (match T[i]? with
      | some d => if ds.length = d.np then (exec (run T N k) N d.body (ds.map some ++ List.replicate (d.nn - ds.length) none) m).bind fun x => match x.1 with
          | .rt r => some (r, x.2)
          | .nx _ => some (.non, x.2)
          | _ => none
        else none
      | none => none) = _
  rw [hT]
  simp only [hl, if_true]
  rfl
/-- a def that returns d, from its body -/
theorem pc_of {T : List Df} {N k i : Nat} {ds : List D} {np nn : Nat} {t : S} {d d0 : D} {m' : Mem} (hT : T[i]? = some ⟨np, nn, t⟩) (hl : ds.length = np) (hn : D.noRefs ds = true)
    (h : exec (run T N k) N t (ds.map some ++ List.replicate (nn - ds.length) none) [] = some (.rt d0, m')) (hs : sealD m' d0 = some d) : callP (run T N (k + 1)) i ds = some d := by
  unfold callP
  rw [if_pos hn, run_eq hT hl, h]
  exact hs
theorem seal_of {m : Mem} {d : D} (h : d.noRef = true) : sealD m d = some d := by
  cases d with
  | ref n => simp [D.noRef] at h
  | non => rfl
  | bl b => rfl
  | int b => rfl
  | str b => rfl
  | tup b => show (if (D.tup b).noRef = true then _ else _) = _; rw [if_pos h]
  | lst b => show (if (D.lst b).noRef = true then _ else _) = _; rw [if_pos h]
  | fz b => show (if (D.fz b).noRef = true then _ else _) = _; rw [if_pos h]
theorem pc_ret {T : List Df} {N k i : Nat} {ds : List D} {np nn : Nat} {t : S} {d : D} {m' : Mem} (hT : T[i]? = some ⟨np, nn, t⟩) (hl : ds.length = np) (hn : D.noRefs ds = true) (hd : d.noRef = true)
    (h : exec (run T N k) N t (ds.map some ++ List.replicate (nn - ds.length) none) [] = some (.rt d, m')) : callP (run T N (k + 1)) i ds = some d :=
  pc_of hT hl hn h (seal_of hd)

/-! comprehensions, loops -/
theorem compF_map {b : D → Mem → Option (Bool × Mem)} {e : D → Mem → Option (D × Mem)} {α : Type} {c f : α → D} {m : Mem} : ∀ {xs : List α}, (∀ x ∈ xs, b (c x) m = some (true, m)) → (∀ x ∈ xs, e (c x) m = some (f x, m)) → compF b e (xs.map c) m = some (xs.map f, m)
  | [], _, _ => rfl
  | x :: xs, hb, he => by
    show (b (c x) m).bind _ = _
    rw [hb x (List.mem_cons_self ..)]
    show (e (c x) m).bind _ = _
    rw [he x (List.mem_cons_self ..)]
    show (compF b e (xs.map c) m).map _ = _
    rw [compF_map (fun y hy => hb y (List.mem_cons_of_mem _ hy)) fun y hy => he y (List.mem_cons_of_mem _ hy)]
    rfl
theorem compF_filter {b : D → Mem → Option (Bool × Mem)} {e : D → Mem → Option (D × Mem)} {α : Type} {c f : α → D} {p : α → Bool} {m : Mem} : ∀ {xs : List α}, (∀ x ∈ xs, b (c x) m = some (p x, m)) → (∀ x ∈ xs, p x = true → e (c x) m = some (f x, m)) →
    compF b e (xs.map c) m = some ((xs.filter p).map f, m)
  | [], _, _ => rfl
  | x :: xs, hb, he => by
    have ih := compF_filter (xs := xs) (fun y hy => hb y (List.mem_cons_of_mem _ hy)) fun y hy => he y (List.mem_cons_of_mem _ hy)
    show (b (c x) m).bind _ = _
    rw [hb x (List.mem_cons_self ..)]
    cases hp : p x with
    | true =>
      show (e (c x) m).bind _ = _
      rw [he x (List.mem_cons_self ..) hp]
      show (compF b e (xs.map c) m).map _ = _
      rw [ih, List.filter_cons, hp]
      rfl
    | false =>
      show compF b e (xs.map c) m = _
      rw [ih, List.filter_cons, hp]
      rfl
/-- a for over a list: by a word of what is done and what is left -/
theorem forF_ind {b : D → Env → Mem → Option (Fl × Mem)} {α : Type} {c : α → D} (Q : List α → Env → Mem → Prop) {r : Fl × Mem → Prop} (done : ∀ env m, Q [] env m → r (.nx env, m))
    (step : ∀ x xs env m, Q (x :: xs) env m → (∃ env' m', b (c x) env m = some (.nx env', m') ∧ Q xs env' m') ∨ ∃ d m', b (c x) env m = some (.rt d, m') ∧ r (.rt d, m')) :
    ∀ (xs : List α) (env : Env) (m : Mem), Q xs env m → ∃ z, forF b (xs.map c) env m = some z ∧ r z
  | [], env, m, q => ⟨_, rfl, done env m q⟩
  | x :: xs, env, m, q => by
    rcases step x xs env m q with ⟨env', m', h, q'⟩ | ⟨d, m', h, hr⟩
    · obtain ⟨z, hz, rz⟩ := forF_ind Q done step xs env' m' q'
      refine ⟨z, ?_, rz⟩
      show (b (c x) env m).bind _ = _
      rw [h]
      exact hz
    · refine ⟨_, ?_, hr⟩
      show (b (c x) env m).bind _ = _
      rw [h]
      rfl

theorem for_nx {b : D → Env → Mem → Option (Fl × Mem)} {d : D} {ds : List D} {env env' : Env} {m m' : Mem} (h : b d env m = some (.nx env', m')) : forF b (d :: ds) env m = forF b ds env' m' := by
  show (b d env m).bind _ = _
  rw [h]
  rfl
theorem for_ct {b : D → Env → Mem → Option (Fl × Mem)} {d : D} {ds : List D} {env env' : Env} {m m' : Mem} (h : b d env m = some (.ct env', m')) : forF b (d :: ds) env m = forF b ds env' m' := by
  show (b d env m).bind _ = _
  rw [h]
  rfl
theorem whl_end {c : Env → Mem → Option (Bool × Mem)} {b : Env → Mem → Option (Fl × Mem)} {n : Nat} {env : Env} {m m1 : Mem} (hc : c env m = some (false, m1)) : whlF c b (n + 1) env m = some (.nx env, m1) := by
  show (c env m).bind _ = _
  rw [hc]
  rfl
theorem whl_nx {c : Env → Mem → Option (Bool × Mem)} {b : Env → Mem → Option (Fl × Mem)} {n : Nat} {env env' : Env} {m m1 m2 : Mem} (hc : c env m = some (true, m1)) (hb : b env m1 = some (.nx env', m2)) : whlF c b (n + 1) env m = whlF c b n env' m2 := by
  show (c env m).bind _ = _
  rw [hc]
  show (b env m1).bind _ = _
  rw [hb]
  rfl
theorem whl_rt {c : Env → Mem → Option (Bool × Mem)} {b : Env → Mem → Option (Fl × Mem)} {n : Nat} {env : Env} {m m1 m2 : Mem} {d : D} (hc : c env m = some (true, m1)) (hb : b env m1 = some (.rt d, m2)) : whlF c b (n + 1) env m = some (.rt d, m2) := by
  show (c env m).bind _ = _
  rw [hc]
  show (b env m1).bind _ = _
  rw [hb]
  rfl

/-! statements, one by one -/
section
variable {G : Calls} {N : Nat} {env env1 : Env} {m m1 m2 m3 : Mem} {A B C O I : E} {k a b : S} {d x y z : D}
theorem thn_nx {r : Option (Fl × Mem)} {K : Env → Mem → Option (Fl × Mem)} (h : r = some (.nx env1, m1)) : thnF r K = K env1 m1 := by rw [h]; rfl
theorem thn_rt {r : Option (Fl × Mem)} {K : Env → Mem → Option (Fl × Mem)} (h : r = some (.rt d, m1)) : thnF r K = some (.rt d, m1) := by rw [h]; rfl
theorem thn_ct {r : Option (Fl × Mem)} {K : Env → Mem → Option (Fl × Mem)} (h : r = some (.ct env1, m1)) : thnF r K = some (.ct env1, m1) := by rw [h]; rfl
theorem x_asg {p : Pat} (he : ev G A env m = some (d, m1)) (hb : bindP p d env = some env1) : exec G N (.asg p A k) env m = exec G N k env1 m1 := by
  show (ev G A env m).bind _ = _
  rw [he]
  show (bindP p d env).bind _ = _
  rw [hb]
  rfl
theorem x_ret (he : ev G A env m = some (d, m1)) : exec G N (.ret A) env m = some (.rt d, m1) := by
  show (ev G A env m).bind _ = _
  rw [he]
  rfl
theorem x_par {i j : Nat} (ha : ev G A env m = some (x, m1)) (hb : ev G B env m1 = some (y, m2)) : exec G N (.par i j A B k) env m = exec G N k ((env.set i (some x)).set j (some y)) m2 := by
  show (ev G A env m).bind _ = _
  rw [ha]
  show (ev G B env m1).bind _ = _
  rw [hb]
  rfl
theorem x_ife {t : Bool} (hc : ev G C env m = some (.bl t, m1)) : exec G N (.ife C a b k) env m = thnF (if t = true then exec G N a env m1 else exec G N b env m1) (exec G N k) := by
  show (ev G C env m).bind _ = _
  rw [hc]
  rfl
theorem x_ifT (hc : ev G C env m = some (.bl true, m1)) : exec G N (.ife C a b k) env m = thnF (exec G N a env m1) (exec G N k) := x_ife hc
theorem x_ifF (hc : ev G C env m = some (.bl false, m1)) : exec G N (.ife C a b k) env m = thnF (exec G N b env m1) (exec G N k) := x_ife hc
/-- an if without an else, its test false -/
theorem x_no (hc : ev G C env m = some (.bl false, m1)) : exec G N (.ife C a .nil k) env m = exec G N k env m1 := x_ife hc
/-- an if whose branch returns -/
theorem x_yes (hc : ev G C env m = some (.bl true, m1)) (he : ev G A env m1 = some (d, m2)) : exec G N (.ife C (.ret A) b k) env m = some (.rt d, m2) := by
  rw [x_ifT hc, thn_rt (x_ret he)]
theorem x_app {n : Nat} {ds : List D} (ho : ev G O env m = some (.ref n, m1)) (he : ev G A env m1 = some (x, m2)) (hm : m2[n]? = some (.lst ds)) (hz : sz ds.length = true) : exec G N (.app O A k) env m = exec G N k env (m2.set n (.lst (ds ++ [x]))) := by
  show (ev G O env m).bind _ = _
  rw [ho]
  show (ev G A env m1).bind _ = _
  rw [he]
  show (match m2[n]? with | some (.lst ds) => if sz ds.length = true then exec G N k env (m2.set n (.lst (ds ++ [x]))) else none | none => none) = _
  rw [hm]
  show (if sz ds.length = true then exec G N k env (m2.set n (.lst (ds ++ [x]))) else none) = _
  rw [if_pos hz]
theorem x_ext {n : Nat} {ds es : List D} (ho : ev G O env m = some (.ref n, m1)) (he : ev G A env m1 = some (.lst es, m2)) (hm : m2[n]? = some (.lst ds)) (hz : sz (ds.length + es.length) = true) : exec G N (.ext O A k) env m = exec G N k env (m2.set n (.lst (ds ++ es))) := by
  show (ev G O env m).bind _ = _
  rw [ho]
  show (ev G A env m1).bind _ = _
  rw [he]
  show (match m2[n]? with | some (.lst ds) => if sz (ds.length + es.length) = true then exec G N k env (m2.set n (.lst (ds ++ es))) else none | none => none) = _
  rw [hm]
  show (if sz (ds.length + es.length) = true then exec G N k env (m2.set n (.lst (ds ++ es))) else none) = _
  rw [if_pos hz]
theorem x_setIx {n i : Nat} {ds : List D} (he : ev G A env m = some (x, m1)) (ho : ev G O env m1 = some (.ref n, m2)) (hi : ev G I env m2 = some (.int i, m3)) (hm : m3[n]? = some (.lst ds)) (hj : i < ds.length) : exec G N (.setIx O I A k) env m = exec G N k env (m3.set n (.lst (ds.set i x))) := by
  have e : L2.ixN ds.length (i : Int) = some i := by
    unfold L2.ixN
    rw [if_pos (by omega), if_pos (by omega)]
    rfl
  show (ev G A env m).bind _ = _
  rw [he]
  show (ev G O env m1).bind _ = _
  rw [ho]
  show (ev G I env m2).bind _ = _
  rw [hi]
  show (match m3[n]? with | some (.lst ds) => (L2.ixN ds.length (i : Int)).bind (fun j => exec G N k env (m3.set n (.lst (ds.set j x)))) | none => none) = _
  rw [hm]
  show (L2.ixN ds.length (i : Int)).bind (fun j => exec G N k env (m3.set n (.lst (ds.set j x)))) = _
  rw [e]
  rfl
theorem x_for {p : Pat} {ds : List D} (hi : ev G I env m = some (.tup ds, m1)) : exec G N (.for p I a k) env m = thnF (forF (fun d env m => (bindP p d env).bind fun env => exec G N a env m) ds env m1) (exec G N k) := by
  show (ev G I env m).bind _ = _
  rw [hi]
  rfl
end
/-! expressions, one by one -/
section
variable {G : Calls} {env env1 : Env} {m m1 m2 m3 : Mem} {A B C O I : E} {d x y z : D} {ds es : List D}
theorem e_nil : ev G .nil env m = some (.tup [], m) := rfl
theorem e_cons (ha : ev G A env m = some (x, m1)) (hb : ev G B env m1 = some (.tup ds, m2)) : ev G (.cons A B) env m = some (.tup (x :: ds), m2) := by
  show (ev G A env m).bind _ = _
  rw [ha]
  show (ev G B env m1).bind _ = _
  rw [hb]
  rfl
theorem e_one (ha : ev G A env m = some (x, m1)) : ev G (.cons A .nil) env m = some (.tup [x], m1) := e_cons ha rfl
theorem e_two (ha : ev G A env m = some (x, m1)) (hb : ev G B env m1 = some (y, m2)) : ev G (.cons A (.cons B .nil)) env m = some (.tup [x, y], m2) := e_cons ha (e_one hb)
theorem e_three (ha : ev G A env m = some (x, m1)) (hb : ev G B env m1 = some (y, m2)) (hc : ev G C env m2 = some (z, m3)) : ev G (.cons A (.cons B (.cons C .nil))) env m = some (.tup [x, y, z], m3) := e_cons ha (e_two hb hc)
theorem e_star (ha : ev G A env m = some (x, m1)) (hx : x.items? = some es) (hb : ev G B env m1 = some (.tup ds, m2)) : ev G (.star A B) env m = some (.tup (es ++ ds), m2) := by
  show (ev G A env m).bind _ = _
  rw [ha]
  show (ev G B env m1).bind _ = _
  rw [hb]
  show x.items?.bind _ = _
  rw [hx]
  rfl
theorem e_tup (h : ev G A env m = some (.tup ds, m1)) (hz : sz ds.length = true) : ev G (.tup A) env m = some (.tup ds, m1) := by
  show (ev G A env m).bind _ = _
  rw [h]
  show (if sz ds.length = true then _ else _) = _
  rw [if_pos hz]
theorem e_lst (h : ev G A env m = some (.tup ds, m1)) (hz : sz ds.length = true) : ev G (.lst A) env m = some (.lst ds, m1) := by
  show (ev G A env m).bind _ = _
  rw [h]
  show (if sz ds.length = true then _ else _) = _
  rw [if_pos hz]
theorem e_lstH (h : ev G A env m = some (.tup ds, m1)) (hz : sz ds.length = true) : ev G (.lstH A) env m = some (.ref m1.length, m1 ++ [.lst ds]) := by
  show (ev G A env m).bind _ = _
  rw [h]
  show (if sz ds.length = true then _ else _) = _
  rw [if_pos hz]
theorem e_callP {i : Nat} (h : ev G A env m = some (.tup ds, m1)) (hc : MP.callP G i ds = some d) : ev G (.callP i A) env m = some (d, m1) := by
  show (ev G A env m).bind _ = _
  rw [h]
  show (MP.callP G i ds).map _ = _
  rw [hc]
  rfl
theorem e_callB {i : Nat} (h : ev G A env m = some (.tup ds, m1)) (hc : MP.callB G m1 i ds = some d) : ev G (.callB i A) env m = some (d, m1) := by
  show (ev G A env m).bind _ = _
  rw [h]
  show (MP.callB G m1 i ds).map _ = _
  rw [hc]
  rfl
theorem e_callK {i : Nat} (h : ev G A env m = some (.tup ds, m1)) (hc : G i ds m1 = some (d, m2)) : ev G (.callK i A) env m = some (d, m2) := by
  show (ev G A env m).bind _ = _
  rw [h]
  exact hc
theorem e_blt {b : Blt} (h : ev G A env m = some (.tup ds, m1)) (hc : bltD m1 b ds = some d) : ev G (.blt b A) env m = some (d, m1) := by
  show (ev G A env m).bind _ = _
  rw [h]
  show (bltD m1 b ds).map _ = _
  rw [hc]
  rfl
theorem e_idx (ha : ev G A env m = some (x, m1)) (hb : ev G B env m1 = some (y, m2)) (hi : idxD m2 x y = some d) : ev G (.idx A B) env m = some (d, m2) := by
  show (ev G A env m).bind _ = _
  rw [ha]
  show (ev G B env m1).bind _ = _
  rw [hb]
  show (idxD m2 x y).map _ = _
  rw [hi]
  rfl
theorem e_bin {op : BOp} (ha : ev G A env m = some (x, m1)) (hb : ev G B env m1 = some (y, m2)) (hi : binD op x y = some d) : ev G (.bin op A B) env m = some (d, m2) := by
  show (ev G A env m).bind _ = _
  rw [ha]
  show (ev G B env m1).bind _ = _
  rw [hb]
  show (binD op x y).map _ = _
  rw [hi]
  rfl
theorem e_cmp {op : COp} {c : Bool} (ha : ev G A env m = some (x, m1)) (hb : ev G B env m1 = some (y, m2)) (hi : cmpD m2 op x y = some c) : ev G (.cmp op A B) env m = some (.bl c, m2) := by
  show (ev G A env m).bind _ = _
  rw [ha]
  show (ev G B env m1).bind _ = _
  rw [hb]
  show (cmpD m2 op x y).map _ = _
  rw [hi]
  rfl
theorem e_not {c : Bool} (ha : ev G A env m = some (.bl c, m1)) : ev G (.not A) env m = some (.bl (!c), m1) := by
  show (ev G A env m).bind _ = _
  rw [ha]
  rfl
theorem e_ife {t : Bool} (hc : ev G C env m = some (.bl t, m1)) (h : (if t = true then ev G A env m1 else ev G B env m1) = some (d, m2)) : ev G (.ife C A B) env m = some (d, m2) := by
  show (ev G C env m).bind _ = _
  rw [hc]
  exact h
theorem e_and {c : Bool} {t : Bool} (ha : ev G A env m = some (.bl c, m1)) (hb : c = true → ev G B env m1 = some (.bl t, m1)) : ev G (.and A B) env m = some (.bl (c && t), m1) := by
  show (ev G A env m).bind _ = _
  rw [ha]
  cases c with
  | true =>
    show (ev G B env m1).bind _ = _
    rw [hb rfl]
    rfl
  | false => rfl
theorem e_or {c : Bool} {t : Bool} (ha : ev G A env m = some (.bl c, m1)) (hb : c = false → ev G B env m1 = some (.bl t, m1)) : ev G (.or A B) env m = some (.bl (c || t), m1) := by
  show (ev G A env m).bind _ = _
  rw [ha]
  cases c with
  | false =>
    show (ev G B env m1).bind _ = _
    rw [hb rfl]
    rfl
  | true => rfl
theorem e_comp {P : Pat} {own : List Nat} {xs : List D} (h : ev G I env m = some (.tup ds, m1)) (hz : sz ds.length = true)
    (hc : compF (fun d m => (bindP P d (wipeE env own)).bind fun env => (ev G C env m).bind fun y => y.1.bool?.map fun k => (k, y.2)) (fun d m => (bindP P d (wipeE env own)).bind fun env => ev G A env m) ds m1 = some (xs, m2)) : ev G (.comp A P I C own) env m = some (.lst xs, m2) := by
  show (ev G I env m).bind _ = _
  rw [h]
  show (if sz ds.length = true then _ else _) = _
  rw [if_pos hz, hc]
  rfl
theorem e_seq (h : ev G A env m = some (x, m1)) (hx : x.items? = some ds) : ev G (.seq A) env m = some (.tup ds, m1) := by
  show (ev G A env m).bind _ = _
  rw [h]
  show x.items?.map _ = _
  rw [hx]
  rfl
end

/-! places, slices -/
theorem atI_nat {α : Type} (xs : List α) (j : Nat) : L2.atI xs (j : Int) = xs[j]? := by
  unfold L2.atI L2.ixN
  rw [if_pos (by omega)]
  by_cases h : j < xs.length
  · rw [if_pos (by omega)]
    rfl
  · rw [if_neg (by omega)]
    exact (List.getElem?_eq_none (by omega)).symm
theorem ixT0 {m : Mem} {a : D} {xs : List D} : idxD m (.tup (a :: xs)) (.int 0) = some a := atI_nat (a :: xs) 0
theorem ixT1 {m : Mem} {a b : D} {xs : List D} : idxD m (.tup (a :: b :: xs)) (.int 1) = some b := atI_nat (a :: b :: xs) 1
theorem ixT2 {m : Mem} {a b c : D} {xs : List D} : idxD m (.tup (a :: b :: c :: xs)) (.int 2) = some c := atI_nat (a :: b :: c :: xs) 2
theorem ixL0 {m : Mem} {a : D} {xs : List D} : idxD m (.lst (a :: xs)) (.int 0) = some a := atI_nat (a :: xs) 0
theorem ixL1 {m : Mem} {a b : D} {xs : List D} : idxD m (.lst (a :: b :: xs)) (.int 1) = some b := atI_nat (a :: b :: xs) 1
theorem ixL_nat {m : Mem} {xs : List D} {j : Nat} : idxD m (.lst xs) (.int j) = xs[j]? := atI_nat xs j
theorem ixT_nat {m : Mem} {xs : List D} {j : Nat} : idxD m (.tup xs) (.int j) = xs[j]? := atI_nat xs j
theorem cut_take (xs : List D) (n : Nat) : cutD xs none (some (n : Int)) = xs.take n := by
  unfold cutD
  rw [_root_.HT.sIx_none, _root_.HT.sIx_nat, List.drop_zero, Nat.sub_zero]
  by_cases h : n ≤ xs.length
  · rw [Nat.min_eq_left h]
  · rw [Nat.min_eq_right (by omega), List.take_length, List.take_of_length_le (by omega)]
theorem cut_drop (xs : List D) (n : Nat) : cutD xs (some (n : Int)) none = xs.drop n := by
  unfold cutD
  rw [_root_.HT.sIx_none, _root_.HT.sIx_nat]
  by_cases h : n ≤ xs.length
  · rw [Nat.min_eq_left h]
    exact List.take_of_length_le (by rw [List.length_drop]; exact Nat.le_refl _)
  · rw [Nat.min_eq_right (by omega), List.drop_eq_nil_of_le (Nat.le_refl _), List.drop_eq_nil_of_le (by omega), List.take_nil]

/-! numbers -/
theorem fit_of {i : Int} {n : Nat} (h : i.natAbs < 2 ^ n) (hn : n ≤ 8000) : fit i = true := by
  refine Nat.ble_eq_true_of_le ?_
  by_cases h0 : i.natAbs = 0
  · rw [h0]
    decide
  · have h1 : i.natAbs.log2 < n := (Nat.log2_lt h0).mpr h
    omega
end MP
set_option Elab.async false
set_option linter.all false
set_option maxRecDepth 100000
set_option maxHeartbeats 1000000
/-! MiniPy 16: data without references that may be compared. -/
namespace MP
open PySem

/-- no reference within, no odd text within -/
structure Fine (d : D) : Prop where
  nr : d.noRef = true
  ly : d.py.canLay0 = true
def Fines (ds : List D) : Prop := ∀ d ∈ ds, Fine d
theorem Fines.nil : Fines [] := fun _ h => nomatch h
theorem Fines.cons {d : D} {ds : List D} (h : Fine d) (t : Fines ds) : Fines (d :: ds) := fun x hx => by
  rcases List.mem_cons.mp hx with rfl | hx
  · exact h
  · exact t x hx
theorem Fines.append {ds es : List D} (h : Fines ds) (t : Fines es) : Fines (ds ++ es) := fun x hx => (List.mem_append.mp hx).elim (h x) (t x)
theorem Fines.map {α : Type} {f : α → D} {xs : List α} (h : ∀ x ∈ xs, Fine (f x)) : Fines (xs.map f) := fun d hd => by
  obtain ⟨x, hx, rfl⟩ := List.mem_map.mp hd
  exact h x hx
theorem Fines.nr : ∀ {ds : List D}, Fines ds → D.noRefs ds = true
  | [], _ => rfl
  | d :: ds, h => by
    show (d.noRef && D.noRefs ds) = true
    rw [(h d (List.mem_cons_self ..)).nr, Fines.nr (ds := ds) fun x hx => h x (List.mem_cons_of_mem _ hx)]
    rfl
theorem Fines.ly : ∀ {ds : List D}, Fines ds → PyData.canLayAll0 (D.pys ds) = true
  | [], _ => by unfold D.pys PyData.canLayAll0; rfl
  | d :: ds, h => by
    unfold D.pys PyData.canLayAll0
    rw [(h d (List.mem_cons_self ..)).ly, Fines.ly (ds := ds) fun x hx => h x (List.mem_cons_of_mem _ hx)]
    rfl
theorem Fine.tup {ds : List D} (h : Fines ds) : Fine (.tup ds) := ⟨by unfold D.noRef; exact h.nr, by unfold D.py PyData.canLay0; exact h.ly⟩
theorem Fine.lst {ds : List D} (h : Fines ds) : Fine (.lst ds) := ⟨by unfold D.noRef; exact h.nr, by unfold D.py PyData.canLay0; exact h.ly⟩
theorem Fine.int (i : Int) : Fine (.int i) := ⟨rfl, by unfold D.py PyData.canLay0; rfl⟩
theorem Fine.bl (i : Bool) : Fine (.bl i) := ⟨rfl, by unfold D.py PyData.canLay0; rfl⟩
theorem Fine.non : Fine .non := ⟨rfl, by unfold D.py PyData.canLay0; rfl⟩

theorem py_tup (ds : List D) : (D.tup ds).py = .tuple (D.pys ds) := by unfold D.py; rfl
theorem py_lst (ds : List D) : (D.lst ds).py = .list (D.pys ds) := by unfold D.py; rfl
theorem eqOk_of {x y : D} (hx : Fine x) (hy : Fine y) (hd : min x.py.depth y.py.depth ≤ 64) : eqOk x y = true := by
  unfold eqOk
  rw [hx.nr, hy.nr, hx.ly, hy.ly, Nat.ble_eq_true_of_le hd]
  rfl
theorem dep_tup0 : (D.tup []).py.depth = 1 := by unfold D.py D.pys PyData.depth PyData.depthAll; rfl
theorem dep_lst0 : (D.lst []).py.depth = 1 := by unfold D.py D.pys PyData.depth PyData.depthAll; rfl
theorem deq_tup0 (ds : List D) : deq (.tup ds) (.tup []) = ds.isEmpty := by
  unfold deq
  rw [py_tup, py_tup]
  cases ds <;> (unfold D.pys PyData.eqv PyData.eqvAll; rfl)
theorem deq_lst0 (ds : List D) : deq (.lst ds) (.lst []) = ds.isEmpty := by
  unfold deq
  rw [py_lst, py_lst]
  cases ds <;> (unfold D.pys PyData.eqv PyData.eqvAll; rfl)
theorem deref_fine {m : Mem} {d : D} (h : Fine d) : deref m d = some d := by
  cases d with
  | ref n => exact absurd h.nr (by simp [D.noRef])
  | _ => rfl
theorem cmp_tup0 {m : Mem} {ds : List D} (h : Fines ds) : cmpD m .eq (.tup ds) (.tup []) = some ds.isEmpty := by
  show (if eqOk (.tup ds) (.tup []) = true then some (deq (.tup ds) (.tup [])) else none) = _
  rw [if_pos (eqOk_of (Fine.tup h) (Fine.tup .nil) (by rw [dep_tup0]; omega)), deq_tup0]
theorem cmpn_tup0 {m : Mem} {ds : List D} (h : Fines ds) : cmpD m .ne (.tup ds) (.tup []) = some (!ds.isEmpty) := by
  show (if eqOk (.tup ds) (.tup []) = true then some (!deq (.tup ds) (.tup [])) else none) = _
  rw [if_pos (eqOk_of (Fine.tup h) (Fine.tup .nil) (by rw [dep_tup0]; omega)), deq_tup0]
theorem cmp_lst0 {m : Mem} {ds : List D} (h : Fines ds) : cmpD m .eq (.lst ds) (.lst []) = some ds.isEmpty := by
  show (if eqOk (.lst ds) (.lst []) = true then some (deq (.lst ds) (.lst [])) else none) = _
  rw [if_pos (eqOk_of (Fine.lst h) (Fine.lst .nil) (by rw [dep_lst0]; omega)), deq_lst0]
theorem cmpn_ref0 {m : Mem} {n : Nat} {ds : List D} (hm : m[n]? = some (.lst ds)) (h : Fines ds) : cmpD m .ne (.ref n) (.lst []) = some (!ds.isEmpty) := by
  have e : deref m (.ref n) = some (.lst ds) := by
    show (match m[n]? with
      | some (.lst ds) => if D.noRefs ds = true then some (D.lst ds) else none
      | none => none) = _
    rw [hm]
    show (if D.noRefs ds = true then some (D.lst ds) else none) = _
    rw [if_pos h.nr]
  show (deref m (.ref n)).bind _ = _
  rw [e]
  show (if eqOk (.lst ds) (.lst []) = true then some (!deq (.lst ds) (.lst [])) else none) = _
  rw [if_pos (eqOk_of (Fine.lst h) (Fine.lst .nil) (by rw [dep_lst0]; omega)), deq_lst0]
theorem cmp_int {m : Mem} {i j : Int} : cmpD m .eq (.int i) (.int j) = some (i == j) := rfl
theorem cmpn_int {m : Mem} {i j : Int} : cmpD m .ne (.int i) (.int j) = some (!(i == j)) := rfl
end MP
namespace MP
section
variable {G : Calls} {env : Env} {m m1 : Mem} {A I : E} {α : Type}
theorem e_map {i : Nat} {own : List Nat} {c f : α → D} {xs : List α} (h : ev G I env m = some (.tup (xs.map c), m1)) (hz : xs.length ≤ 1000000) (he : ∀ x ∈ xs, ev G A ((wipeE env own).set i (some (c x))) m1 = some (f x, m1)) :
    ev G (.comp A (.name i) I (.lit (.bl true)) own) env m = some (.lst (xs.map f), m1) :=
  e_comp h (sz_of (by rw [List.length_map]; exact hz)) (compF_map (fun x _ => rfl) fun x hx => he x hx)
theorem e_map2 {i j : Nat} {own : List Nat} {c1 c2 f : α → D} {xs : List α} (h : ev G I env m = some (.tup (xs.map fun x => .tup [c1 x, c2 x]), m1)) (hz : xs.length ≤ 1000000)
    (he : ∀ x ∈ xs, ev G A (((wipeE env own).set i (some (c1 x))).set j (some (c2 x))) m1 = some (f x, m1)) :
    ev G (.comp A (.tup (.cons (.name i) (.cons (.name j) .nil))) I (.lit (.bl true)) own) env m = some (.lst (xs.map f), m1) :=
  e_comp h (sz_of (by rw [List.length_map]; exact hz)) (compF_map (fun x _ => rfl) fun x hx => he x hx)
theorem e_lit {d : D} : ev G (.lit d) env m = some (d, m) := rfl
end
theorem bltD_len {m : Mem} {ds : List D} : bltD m .len [.tup ds] = some (.int ds.length) := rfl
theorem bltD_lenL {m : Mem} {ds : List D} : bltD m .len [.lst ds] = some (.int ds.length) := rfl
theorem ints_map : ∀ ns : List Nat, ints? (ns.map fun (n : Nat) => D.int (n : Int)) = some (ns.map fun (n : Nat) => (n : Int))
  | [] => rfl
  | n :: ns => by
    show (ints? (ns.map fun (n : Nat) => D.int (n : Int))).map _ = _
    rw [ints_map ns]
    rfl
theorem sum_cast : ∀ ns : List Nat, (ns.map fun (n : Nat) => (n : Int)).sum = ((ns.sum : Nat) : Int)
  | [] => rfl
  | n :: ns => by
    rw [List.map_cons, List.sum_cons, sum_cast ns, List.sum_cons]
    omega
theorem bltD_sum {m : Mem} (ns : List Nat) : bltD m .sum [.lst (ns.map fun (n : Nat) => D.int (n : Int))] = some (.int (ns.sum : Nat)) := by
  show (ints? (ns.map fun (n : Nat) => D.int (n : Int))).map (fun ns => D.int ns.sum) = _
  rw [ints_map]
  show some (D.int (ns.map fun (n : Nat) => (n : Int)).sum) = _
  rw [sum_cast]
end MP
set_option Elab.async false
set_option linter.all false
set_option maxRecDepth 100000
set_option maxHeartbeats 4000000
/-! The walk, printed by gen.py: each def as a term, its derivation. -/
namespace K56
open PySem PySem.Spec PyProof.Rows L2 MP
def top (i : Nat) : Stmt := PySem.Challenge.pw_spendtold_k56_potentials_of_what_is_put.main.body.getD i (.Pass ⟨0, 0, 0, 0⟩)
abbrev s0 : Stmt := top 2
abbrev n0 : List Str := ["one", "other"]
abbrev p0 : List Str := ["one", "other"]
theorem sc0 : FnScope n0 p0 (defScope s0) := ⟨rfl, rfl, rfl, by decide +kernel, rfl, by decide +kernel, by decide +kernel⟩
/-- common(one, other): 0 one 1 other -/
def t0 : S := (.whl (.cmp .ne (.var 1) (.lit (.int 0))) (.par 0 1 (.var 1) (.bin .mod (.var 0) (.var 1)) .nil) (.ret (.var 0)))
abbrev s1 : Stmt := top 5
abbrev n1 : List Str := ["over", "under", "part"]
abbrev p1 : List Str := ["over", "under"]
theorem sc1 : FnScope n1 p1 (defScope s1) := ⟨rfl, rfl, rfl, by decide +kernel, rfl, by decide +kernel, by decide +kernel⟩
/-- made(over, under): 0 over 1 under 2 part -/
def t1 : S := (.ife (.cmp .lt (.var 1) (.lit (.int 0))) (.par 0 1 (.bin .sub (.lit (.int 0)) (.var 0)) (.bin .sub (.lit (.int 0)) (.var 1)) .nil) .nil (.asg (.name 2) (.callP 0 (.cons (.blt .abs (.cons (.var 0) .nil)) (.cons (.var 1) .nil))) (.ret (.tup (.cons (.bin .fdiv (.var 0) (.var 2)) (.cons (.bin .fdiv (.var 1) (.var 2)) .nil))))))
abbrev s2 : Stmt := top 6
abbrev n2 : List Str := ["one", "other"]
abbrev p2 : List Str := ["one", "other"]
theorem sc2 : FnScope n2 p2 (defScope s2) := ⟨rfl, rfl, rfl, by decide +kernel, rfl, by decide +kernel, by decide +kernel⟩
/-- plus(one, other): 0 one 1 other -/
def t2 : S := (.ret (.callP 1 (.cons (.bin .add (.bin .mul (.idx (.var 0) (.lit (.int 0))) (.idx (.var 1) (.lit (.int 1)))) (.bin .mul (.idx (.var 1) (.lit (.int 0))) (.idx (.var 0) (.lit (.int 1))))) (.cons (.bin .mul (.idx (.var 0) (.lit (.int 1))) (.idx (.var 1) (.lit (.int 1)))) .nil))))
abbrev s3 : Stmt := top 7
abbrev n3 : List Str := ["one", "other"]
abbrev p3 : List Str := ["one", "other"]
theorem sc3 : FnScope n3 p3 (defScope s3) := ⟨rfl, rfl, rfl, by decide +kernel, rfl, by decide +kernel, by decide +kernel⟩
/-- times(one, other): 0 one 1 other -/
def t3 : S := (.ret (.callP 1 (.cons (.bin .mul (.idx (.var 0) (.lit (.int 0))) (.idx (.var 1) (.lit (.int 0)))) (.cons (.bin .mul (.idx (.var 0) (.lit (.int 1))) (.idx (.var 1) (.lit (.int 1)))) .nil))))
abbrev s4 : Stmt := top 8
abbrev n4 : List Str := ["one", "other"]
abbrev p4 : List Str := ["one", "other"]
theorem sc4 : FnScope n4 p4 (defScope s4) := ⟨rfl, rfl, rfl, by decide +kernel, rfl, by decide +kernel, by decide +kernel⟩
/-- is_less(one, other): 0 one 1 other -/
def t4 : S := (.ret (.cmp .lt (.bin .mul (.idx (.var 0) (.lit (.int 0))) (.idx (.var 1) (.lit (.int 1)))) (.bin .mul (.idx (.var 1) (.lit (.int 0))) (.idx (.var 0) (.lit (.int 1))))))
abbrev s5 : Stmt := top 9
abbrev n5 : List Str := ["some", "found", "one"]
abbrev p5 : List Str := ["some"]
theorem sc5 : FnScope n5 p5 (defScope s5) := ⟨rfl, rfl, rfl, by decide +kernel, rfl, by decide +kernel, by decide +kernel⟩
/-- summed(some): 0 some 1 found 2 one -/
def t5 : S := (.asg (.name 1) (.lit (.tup [(.int 0), (.int 1)])) (.for (.name 2) (.seq (.var 0)) (.asg (.name 1) (.callP 2 (.cons (.var 1) (.cons (.var 2) .nil))) .nil) (.ret (.var 1))))
abbrev s6 : Stmt := top 10
abbrev n6 : List Str := ["number"]
abbrev p6 : List Str := ["number"]
theorem sc6 : FnScope n6 p6 (defScope s6) := ⟨rfl, rfl, rfl, by decide +kernel, rfl, by decide +kernel, by decide +kernel⟩
/-- whole(number): 0 number -/
def t6 : S := (.ret (.tup (.cons (.var 0) (.cons (.lit (.int 1)) .nil))))
abbrev s7 : Stmt := top 11
abbrev n7 : List Str := ["many", "some", "found", "turn"]
abbrev p7 : List Str := ["many", "some"]
theorem sc7 : FnScope n7 p7 (defScope s7) := ⟨rfl, rfl, rfl, by decide +kernel, rfl, by decide +kernel, by decide +kernel⟩
/-- choose(many, some): 0 many 1 some 2 found 3 turn -/
def t7 : S := (.ife (.not (.chain .le .le (.lit (.int 0)) (.var 1) (.var 0))) (.ret (.lit (.int 0))) .nil (.asg (.name 2) (.lit (.int 1)) (.for (.name 3) (.rng1 (.cons (.var 1) .nil)) (.asg (.name 2) (.bin .fdiv (.bin .mul (.var 2) (.bin .sub (.var 0) (.var 3))) (.bin .add (.var 3) (.lit (.int 1)))) .nil) (.ret (.var 2)))))
abbrev s8 : Stmt := top 16
abbrev n8 : List Str := ["row", "many", "at", "one"]
abbrev p8 : List Str := ["row", "many"]
theorem sc8 : FnScope n8 p8 (defScope s8) := ⟨rfl, rfl, rfl, by decide +kernel, rfl, by decide +kernel, by decide +kernel⟩
/-- list_potential(row, many): 0 row 1 many 2 at 3 one -/
def t8 : S := (.ret (.callP 5 (.cons (.comp (.callP 3 (.cons (.var 3) (.cons (.callP 6 (.cons (.callP 7 (.cons (.var 1) (.cons (.var 2) .nil))) .nil)) .nil))) (.tup (.cons (.name 2) (.cons (.name 3) .nil))) (.enum (.cons (.var 0) (.cons (.lit (.int 1)) .nil))) (.lit (.bl true)) [2, 3]) .nil)))
abbrev s9 : Stmt := top 17
abbrev n9 : List Str := ["row", "nodes", "depths", "one", "many"]
abbrev p9 : List Str := ["row", "nodes", "depths"]
theorem sc9 : FnScope n9 p9 (defScope s9) := ⟨rfl, rfl, rfl, by decide +kernel, rfl, by decide +kernel, by decide +kernel⟩
/-- tree_potential(row, nodes, depths): 0 row 1 nodes 2 depths 3 one 4 many -/
def t9 : S := (.ret (.callP 5 (.cons (.comp (.callP 3 (.cons (.var 3) (.cons (.callP 6 (.cons (.var 4) .nil)) .nil))) (.tup (.cons (.name 3) (.cons (.name 4) .nil))) (.zip2 (.cons (.var 0) (.cons (.tup (.cons (.var 1) (.cons (.var 2) .nil))) .nil))) (.lit (.bl true)) [3, 4]) .nil)))
abbrev s10 : Stmt := top 18
abbrev n10 : List Str := ["tree", "line", "found", "one", "depth"]
abbrev p10 : List Str := ["tree"]
theorem sc10 : FnScope n10 p10 (defScope s10) := ⟨rfl, rfl, rfl, by decide +kernel, rfl, by decide +kernel, by decide +kernel⟩
/-- nodes_of(tree): 0 tree 1 line 2 found 3 one 4 depth -/
def t10 : S := (.par 1 2 (.lstH (.cons (.tup (.cons (.var 0) (.cons (.lit (.int 0)) .nil))) .nil)) (.lstH .nil) (.whl (.cmp .ne (.var 1) (.lst .nil)) (.asg (.tup (.cons (.name 3) (.cons (.name 4) .nil))) (.pop (.var 1)) (.ife (.cmp .eq (.blt .len (.cons (.var 3) .nil)) (.lit (.int 3))) (.app (.var 2) (.tup (.cons (.idx (.var 3) (.lit (.int 1))) (.cons (.var 4) .nil))) (.ext (.var 1) (.lst (.cons (.tup (.cons (.idx (.var 3) (.lit (.int 2))) (.cons (.bin .add (.var 4) (.lit (.int 1))) .nil))) (.cons (.tup (.cons (.idx (.var 3) (.lit (.int 0))) (.cons (.bin .add (.var 4) (.lit (.int 1))) .nil))) .nil))) .nil)) .nil .nil)) (.ret (.var 2))))
abbrev s11 : Stmt := top 19
abbrev n11 : List Str := ["kind", "annotation", "value", "items", "some", "one", "depth"]
abbrev p11 : List Str := ["kind", "annotation", "value"]
theorem sc11 : FnScope n11 p11 (defScope s11) := ⟨rfl, rfl, rfl, by decide +kernel, rfl, by decide +kernel, by decide +kernel⟩
/-- potential(kind, annotation, value): 0 kind 1 annotation 2 value 3 items 4 some 5 one 6 depth -/
def t11 : S := (.ife (.cmp .eq (.idx (.var 0) (.lit (.int 0))) (.lit (.str "num"))) (.ret (.lit (.tup [(.int 0), (.int 1)]))) .nil (.ife (.cmp .eq (.idx (.var 0) (.lit (.int 0))) (.lit (.str "list"))) (.asg (.name 3) (.callP 5 (.cons (.comp (.callP 11 (.cons (.idx (.var 0) (.lit (.int 1))) (.cons (.idx (.var 1) (.lit (.int 1))) (.cons (.var 5) .nil)))) (.name 5) (.seq (.var 2)) (.lit (.bl true)) [5]) .nil)) (.ret (.callP 2 (.cons (.callP 8 (.cons (.idx (.var 1) (.lit (.int 0))) (.cons (.blt .len (.cons (.var 2) .nil)) .nil))) (.cons (.var 3) .nil))))) .nil (.ife (.cmp .eq (.idx (.var 0) (.lit (.int 0))) (.lit (.str "tree"))) (.asg (.name 4) (.callP 10 (.cons (.var 2) .nil)) (.asg (.name 3) (.callP 5 (.cons (.comp (.callP 11 (.cons (.idx (.var 0) (.lit (.int 1))) (.cons (.idx (.var 1) (.lit (.int 1))) (.cons (.var 5) .nil)))) (.tup (.cons (.name 5) (.cons (.name 6) .nil))) (.seq (.var 4)) (.lit (.bl true)) [5, 6]) .nil)) (.ret (.callP 2 (.cons (.callP 9 (.cons (.idx (.var 1) (.lit (.int 0))) (.cons (.blt .len (.cons (.var 4) .nil)) (.cons (.blt .sum (.cons (.comp (.var 6) (.tup (.cons (.name 5) (.cons (.name 6) .nil))) (.seq (.var 4)) (.lit (.bl true)) [5, 6]) .nil)) .nil)))) (.cons (.var 3) .nil)))))) .nil (.ret (.callP 2 (.cons (.callP 11 (.cons (.idx (.var 0) (.lit (.int 1))) (.cons (.idx (.var 1) (.lit (.int 0))) (.cons (.idx (.var 2) (.lit (.int 0))) .nil)))) (.cons (.callP 11 (.cons (.idx (.var 0) (.lit (.int 2))) (.cons (.idx (.var 1) (.lit (.int 1))) (.cons (.idx (.var 2) (.lit (.int 1))) .nil)))) .nil)))))))
abbrev s12 : Stmt := top 20
abbrev n12 : List Str := ["row"]
abbrev p12 : List Str := ["row"]
theorem sc12 : FnScope n12 p12 (defScope s12) := ⟨rfl, rfl, rfl, by decide +kernel, rfl, by decide +kernel, by decide +kernel⟩
/-- shifted(row): 0 row -/
def t12 : S := (.ret (.ife (.cmp .gt (.blt .len (.cons (.var 0) .nil)) (.lit (.int 1))) (.tup (.cons (.callP 2 (.cons (.idx (.var 0) (.lit (.int 0))) (.cons (.idx (.var 0) (.lit (.int 1))) .nil))) (.star (.slc (.var 0) true false (.lit (.int 1)) (.lit .non)) .nil))) (.var 0)))
abbrev s13 : Stmt := top 21
abbrev n13 : List Str := ["annotation"]
abbrev p13 : List Str := ["annotation"]
theorem sc13 : FnScope n13 p13 (defScope s13) := ⟨rfl, rfl, rfl, by decide +kernel, rfl, by decide +kernel, by decide +kernel⟩
/-- shifted_one(annotation): 0 annotation -/
def t13 : S := (.ret (.tup (.cons (.callP 12 (.cons (.idx (.var 0) (.lit (.int 0))) .nil)) (.cons (.idx (.var 0) (.lit (.int 1))) .nil))))
abbrev s14 : Stmt := top 22
abbrev n14 : List Str := ["kind", "annotation"]
abbrev p14 : List Str := ["kind", "annotation"]
theorem sc14 : FnScope n14 p14 (defScope s14) := ⟨rfl, rfl, rfl, by decide +kernel, rfl, by decide +kernel, by decide +kernel⟩
/-- numbers_in(kind, annotation): 0 kind 1 annotation -/
def t14 : S := (.ife (.cmp .eq (.idx (.var 0) (.lit (.int 0))) (.lit (.str "num"))) (.ret (.tup .nil)) .nil (.ife (.cmp .isIn (.idx (.var 0) (.lit (.int 0))) (.tup (.cons (.lit (.str "list")) (.cons (.lit (.str "tree")) .nil)))) (.ret (.tup (.star (.idx (.var 1) (.lit (.int 0))) (.star (.callP 14 (.cons (.idx (.var 0) (.lit (.int 1))) (.cons (.idx (.var 1) (.lit (.int 1))) .nil))) .nil)))) .nil (.ret (.tup (.star (.callP 14 (.cons (.idx (.var 0) (.lit (.int 1))) (.cons (.idx (.var 1) (.lit (.int 0))) .nil))) (.star (.callP 14 (.cons (.idx (.var 0) (.lit (.int 2))) (.cons (.idx (.var 1) (.lit (.int 1))) .nil))) .nil))))))
abbrev s15 : Stmt := top 23
abbrev n15 : List Str := ["kind", "degree", "own", "part"]
abbrev p15 : List Str := ["kind", "degree"]
theorem sc15 : FnScope n15 p15 (defScope s15) := ⟨rfl, rfl, rfl, by decide +kernel, rfl, by decide +kernel, by decide +kernel⟩
/-- width_of(kind, degree): 0 kind 1 degree 2 own 3 part -/
def t15 : S := (.ife (.cmp .eq (.idx (.var 0) (.lit (.int 0))) (.lit (.str "num"))) (.ret (.lit (.int 0))) .nil (.asg (.name 2) (.ife (.cmp .isIn (.idx (.var 0) (.lit (.int 0))) (.tup (.cons (.lit (.str "list")) (.cons (.lit (.str "tree")) .nil)))) (.var 1) (.lit (.int 0))) (.ret (.bin .add (.var 2) (.blt .sum (.cons (.comp (.callP 15 (.cons (.var 3) (.cons (.var 1) .nil))) (.name 3) (.seq (.slc (.var 0) true false (.lit (.int 1)) (.lit .non))) (.lit (.bl true)) [3]) .nil))))))
abbrev s16 : Stmt := top 24
abbrev n16 : List Str := ["kind", "degree", "numbers", "many"]
abbrev p16 : List Str := ["kind", "degree", "numbers"]
theorem sc16 : FnScope n16 p16 (defScope s16) := ⟨rfl, rfl, rfl, by decide +kernel, rfl, by decide +kernel, by decide +kernel⟩
/-- built(kind, degree, numbers): 0 kind 1 degree 2 numbers 3 many -/
def t16 : S := (.ife (.cmp .eq (.idx (.var 0) (.lit (.int 0))) (.lit (.str "num"))) (.ret (.tup .nil)) .nil (.ife (.cmp .isIn (.idx (.var 0) (.lit (.int 0))) (.tup (.cons (.lit (.str "list")) (.cons (.lit (.str "tree")) .nil)))) (.ret (.tup (.cons (.blt .tuple (.cons (.slc (.var 2) false true (.lit .non) (.var 1)) .nil)) (.cons (.callP 16 (.cons (.idx (.var 0) (.lit (.int 1))) (.cons (.var 1) (.cons (.slc (.var 2) true false (.var 1) (.lit .non)) .nil)))) .nil)))) .nil (.asg (.name 3) (.callP 15 (.cons (.idx (.var 0) (.lit (.int 1))) (.cons (.var 1) .nil))) (.ret (.tup (.cons (.callP 16 (.cons (.idx (.var 0) (.lit (.int 1))) (.cons (.var 1) (.cons (.slc (.var 2) false true (.lit .non) (.var 3)) .nil)))) (.cons (.callP 16 (.cons (.idx (.var 0) (.lit (.int 2))) (.cons (.var 1) (.cons (.slc (.var 2) true false (.var 3) (.lit .non)) .nil)))) .nil)))))))
abbrev s17 : Stmt := top 25
abbrev n17 : List Str := ["kind", "annotation"]
abbrev p17 : List Str := ["kind", "annotation"]
theorem sc17 : FnScope n17 p17 (defScope s17) := ⟨rfl, rfl, rfl, by decide +kernel, rfl, by decide +kernel, by decide +kernel⟩
/-- degree_in(kind, annotation): 0 kind 1 annotation -/
def t17 : S := (.ife (.cmp .eq (.idx (.var 0) (.lit (.int 0))) (.lit (.str "num"))) (.ret (.lit (.int 1))) .nil (.ife (.cmp .isIn (.idx (.var 0) (.lit (.int 0))) (.tup (.cons (.lit (.str "list")) (.cons (.lit (.str "tree")) .nil)))) (.ret (.blt .len (.cons (.idx (.var 1) (.lit (.int 0))) .nil))) .nil (.ret (.blt .max2 (.cons (.callP 17 (.cons (.idx (.var 0) (.lit (.int 1))) (.cons (.idx (.var 1) (.lit (.int 0))) .nil))) (.cons (.callP 17 (.cons (.idx (.var 0) (.lit (.int 2))) (.cons (.idx (.var 1) (.lit (.int 1))) .nil))) .nil))))))
abbrev s18 : Stmt := top 26
abbrev n18 : List Str := ["kind", "degree"]
abbrev p18 : List Str := ["kind", "degree"]
theorem sc18 : FnScope n18 p18 (defScope s18) := ⟨rfl, rfl, rfl, by decide +kernel, rfl, by decide +kernel, by decide +kernel⟩
/-- none_of(kind, degree): 0 kind 1 degree -/
def t18 : S := (.ret (.callP 16 (.cons (.var 0) (.cons (.var 1) (.cons (.bin .mul (.tup (.cons (.lit (.tup [(.int 0), (.int 1)])) .nil)) (.callP 15 (.cons (.var 0) (.cons (.var 1) .nil)))) .nil)))))
abbrev s19 : Stmt := top 27
abbrev n19 : List Str := ["kind", "one", "other", "couples", "mine", "its"]
abbrev p19 : List Str := ["kind", "one", "other"]
theorem sc19 : FnScope n19 p19 (defScope s19) := ⟨rfl, rfl, rfl, by decide +kernel, rfl, by decide +kernel, by decide +kernel⟩
/-- shared(kind, one, other): 0 kind 1 one 2 other 3 couples 4 mine 5 its -/
def t19 : S := (.asg (.name 3) (.lzip (.cons (.callP 14 (.cons (.var 0) (.cons (.var 1) .nil))) (.cons (.callP 14 (.cons (.var 0) (.cons (.var 2) .nil))) .nil))) (.ret (.callP 16 (.cons (.var 0) (.cons (.callP 17 (.cons (.var 0) (.cons (.var 1) .nil))) (.cons (.blt .tuple (.cons (.comp (.callP 2 (.cons (.var 4) (.cons (.var 5) .nil))) (.tup (.cons (.name 4) (.cons (.name 5) .nil))) (.seq (.var 3)) (.lit (.bl true)) [4, 5]) .nil)) .nil))))))
abbrev s20 : Stmt := top 28
abbrev n20 : List Str := ["kind", "one", "other", "mine", "its"]
abbrev p20 : List Str := ["kind", "one", "other"]
theorem sc20 : FnScope n20 p20 (defScope s20) := ⟨rfl, rfl, rfl, by decide +kernel, rfl, by decide +kernel, by decide +kernel⟩
/-- covers(kind, one, other): 0 kind 1 one 2 other 3 mine 4 its -/
def t20 : S := (.ret (.not (.blt .any (.cons (.comp (.callP 4 (.cons (.var 3) (.cons (.var 4) .nil))) (.tup (.cons (.name 3) (.cons (.name 4) .nil))) (.zip2 (.cons (.callP 14 (.cons (.var 0) (.cons (.var 1) .nil))) (.cons (.callP 14 (.cons (.var 0) (.cons (.var 2) .nil))) .nil))) (.lit (.bl true)) [3, 4]) .nil))))
abbrev s21 : Stmt := top 29
abbrev n21 : List Str := ["kind", "annotation", "factor", "numbers", "one"]
abbrev p21 : List Str := ["kind", "annotation", "factor"]
theorem sc21 : FnScope n21 p21 (defScope s21) := ⟨rfl, rfl, rfl, by decide +kernel, rfl, by decide +kernel, by decide +kernel⟩
/-- scaled(kind, annotation, factor): 0 kind 1 annotation 2 factor 3 numbers 4 one -/
def t21 : S := (.asg (.name 3) (.blt .tuple (.cons (.comp (.callP 3 (.cons (.var 4) (.cons (.var 2) .nil))) (.name 4) (.seq (.callP 14 (.cons (.var 0) (.cons (.var 1) .nil)))) (.lit (.bl true)) [4]) .nil)) (.ret (.callP 16 (.cons (.var 0) (.cons (.callP 17 (.cons (.var 0) (.cons (.var 1) .nil))) (.cons (.var 3) .nil))))))
abbrev s22 : Stmt := top 31
abbrev n22 : List Str := ["kinds", "bound", "values", "p", "annotations", "some", "kind", "one", "value"]
abbrev p22 : List Str := ["kinds", "bound", "values"]
theorem sc22 : FnScope n22 p22 (defScope s22) := ⟨rfl, rfl, rfl, by decide +kernel, rfl, by decide +kernel, by decide +kernel⟩
/-- worth_of(kinds, bound, values): 0 kinds 1 bound 2 values 3 p 4 annotations 5 some 6 kind 7 one 8 value -/
def t22 : S := (.asg (.tup (.cons (.name 3) (.cons (.name 4) .nil))) (.var 1) (.asg (.name 5) (.comp (.callP 11 (.cons (.var 6) (.cons (.var 7) (.cons (.var 8) .nil)))) (.tup (.cons (.name 6) (.cons (.name 7) (.cons (.name 8) .nil)))) (.zip3 (.cons (.var 0) (.cons (.var 4) (.cons (.var 2) .nil)))) (.lit (.bl true)) [6, 7, 8]) (.ret (.callP 5 (.cons (.lst (.cons (.var 3) (.star (.var 5) .nil))) .nil)))))
abbrev s23 : Stmt := top 33
abbrev n23 : List Str := ["kind", "value", "some", "one", "depth"]
abbrev p23 : List Str := ["kind", "value"]
theorem sc23 : FnScope n23 p23 (defScope s23) := ⟨rfl, rfl, rfl, by decide +kernel, rfl, by decide +kernel, by decide +kernel⟩
/-- sizes_of(kind, value): 0 kind 1 value 2 some 3 one 4 depth -/
def t23 : S := (.ife (.cmp .eq (.idx (.var 0) (.lit (.int 0))) (.lit (.str "num"))) (.ret (.tup .nil)) .nil (.ife (.cmp .eq (.idx (.var 0) (.lit (.int 0))) (.lit (.str "list"))) (.ret (.tup (.cons (.blt .len (.cons (.var 1) .nil)) (.cons (.blt .tuple (.cons (.comp (.callP 23 (.cons (.idx (.var 0) (.lit (.int 1))) (.cons (.var 3) .nil))) (.name 3) (.seq (.var 1)) (.lit (.bl true)) [3]) .nil)) .nil)))) .nil (.ife (.cmp .eq (.idx (.var 0) (.lit (.int 0))) (.lit (.str "tree"))) (.asg (.name 2) (.callP 10 (.cons (.var 1) .nil)) (.ret (.tup (.cons (.blt .len (.cons (.var 2) .nil)) (.cons (.blt .sum (.cons (.comp (.var 4) (.tup (.cons (.name 3) (.cons (.name 4) .nil))) (.seq (.var 2)) (.lit (.bl true)) [3, 4]) .nil)) (.cons (.callP 24 (.cons (.var 0) (.cons (.var 1) .nil))) .nil)))))) .nil (.ret (.tup (.cons (.callP 23 (.cons (.idx (.var 0) (.lit (.int 1))) (.cons (.idx (.var 1) (.lit (.int 0))) .nil))) (.cons (.callP 23 (.cons (.idx (.var 0) (.lit (.int 2))) (.cons (.idx (.var 1) (.lit (.int 1))) .nil))) .nil)))))))
abbrev s24 : Stmt := top 34
abbrev n24 : List Str := ["kind", "tree", "line", "found", "one", "is_item"]
abbrev p24 : List Str := ["kind", "tree"]
theorem sc24 : FnScope n24 p24 (defScope s24) := ⟨rfl, rfl, rfl, by decide +kernel, rfl, by decide +kernel, by decide +kernel⟩
/-- items_in(kind, tree): 0 kind 1 tree 2 line 3 found 4 one 5 is_item -/
def t24 : S := (.par 2 3 (.lstH (.cons (.tup (.cons (.var 1) (.cons (.lit (.bl false)) .nil))) .nil)) (.lstH .nil) (.whl (.cmp .ne (.var 2) (.lst .nil)) (.asg (.tup (.cons (.name 4) (.cons (.name 5) .nil))) (.pop (.var 2)) (.ife (.var 5) (.app (.var 3) (.callP 23 (.cons (.idx (.var 0) (.lit (.int 1))) (.cons (.var 4) .nil))) .nil) (.ife (.cmp .ne (.var 4) (.tup .nil)) (.ext (.var 2) (.lst (.cons (.tup (.cons (.idx (.var 4) (.lit (.int 2))) (.cons (.lit (.bl false)) .nil))) (.cons (.tup (.cons (.idx (.var 4) (.lit (.int 1))) (.cons (.lit (.bl true)) .nil))) (.cons (.tup (.cons (.idx (.var 4) (.lit (.int 0))) (.cons (.lit (.bl false)) .nil))) .nil)))) .nil) .nil .nil) .nil)) (.ret (.blt .tuple (.cons (.var 3) .nil)))))
abbrev s25 : Stmt := top 35
abbrev n25 : List Str := ["kind", "annotation", "sizes", "items", "one"]
abbrev p25 : List Str := ["kind", "annotation", "sizes"]
theorem sc25 : FnScope n25 p25 (defScope s25) := ⟨rfl, rfl, rfl, by decide +kernel, rfl, by decide +kernel, by decide +kernel⟩
/-- potential_by(kind, annotation, sizes): 0 kind 1 annotation 2 sizes 3 items 4 one -/
def t25 : S := (.ife (.cmp .eq (.idx (.var 0) (.lit (.int 0))) (.lit (.str "num"))) (.ret (.lit (.tup [(.int 0), (.int 1)]))) .nil (.ife (.cmp .isIn (.idx (.var 0) (.lit (.int 0))) (.tup (.cons (.lit (.str "list")) (.cons (.lit (.str "tree")) .nil)))) (.asg (.name 3) (.callP 5 (.cons (.comp (.callP 25 (.cons (.idx (.var 0) (.lit (.int 1))) (.cons (.idx (.var 1) (.lit (.int 1))) (.cons (.var 4) .nil)))) (.name 4) (.seq (.idx (.var 2) (.neg (.lit (.int 1))))) (.lit (.bl true)) [4]) .nil)) (.ife (.cmp .eq (.idx (.var 0) (.lit (.int 0))) (.lit (.str "list"))) (.ret (.callP 2 (.cons (.callP 8 (.cons (.idx (.var 1) (.lit (.int 0))) (.cons (.idx (.var 2) (.lit (.int 0))) .nil))) (.cons (.var 3) .nil)))) .nil (.ret (.callP 2 (.cons (.callP 9 (.cons (.idx (.var 1) (.lit (.int 0))) (.cons (.idx (.var 2) (.lit (.int 0))) (.cons (.idx (.var 2) (.lit (.int 1))) .nil)))) (.cons (.var 3) .nil)))))) .nil (.ret (.callP 2 (.cons (.callP 25 (.cons (.idx (.var 0) (.lit (.int 1))) (.cons (.idx (.var 1) (.lit (.int 0))) (.cons (.idx (.var 2) (.lit (.int 0))) .nil)))) (.cons (.callP 25 (.cons (.idx (.var 0) (.lit (.int 2))) (.cons (.idx (.var 1) (.lit (.int 1))) (.cons (.idx (.var 2) (.lit (.int 1))) .nil)))) .nil))))))
abbrev s26 : Stmt := top 37
abbrev n26 : List Str := ["script", "cell"]
abbrev p26 : List Str := ["script"]
theorem sc26 : FnScope n26 p26 (defScope s26) := ⟨rfl, rfl, rfl, by decide +kernel, rfl, by decide +kernel, by decide +kernel⟩
/-- _law_bag(script): 0 script 1 cell -/
def t26 : S := (.ret (.lstH (.cons (.lit (.int 0)) (.cons (.lit (.int 1234567891)) (.cons (.lit (.int 0)) (.cons (.comp (.blt .abs (.cons (.var 1) .nil)) (.name 1) (.seq (.slc (.var 0) false true (.lit .non) (.lit (.int 63)))) (.lit (.bl true)) [1]) .nil))))))
abbrev s27 : Stmt := top 38
abbrev n27 : List Str := ["bag", "many", "cell", "stirred", "value", "begin", "second"]
abbrev p27 : List Str := ["bag", "many"]
theorem sc27 : FnScope n27 p27 (defScope s27) := ⟨rfl, rfl, rfl, by decide +kernel, rfl, by decide +kernel, by decide +kernel⟩
/-- _law_take(bag, many): 0 bag 1 many 2 cell 3 stirred 4 value 5 begin 6 second -/
def t27 : S := (.ife (.cmp .eq (.idx (.var 0) (.lit (.int 0))) (.lit (.int 0))) (.asg (.name 2) (.idx (.bin .add (.slc (.idx (.var 0) (.lit (.int 3))) true false (.idx (.var 0) (.lit (.int 2))) (.lit .non)) (.lst (.cons (.lit (.int 0)) .nil))) (.lit (.int 0))) (.augIx (.var 0) (.lit (.int 2)) .add (.lit (.int 1)) (.ife (.cmp .ge (.var 2) (.lit (.int (10 ^ (18 : Int).toNat)))) (.setIx (.var 0) (.lit (.int 0)) (.var 2) .nil) .nil (.asg (.name 3) (.bin .add (.bin .add (.bin .mul (.idx (.var 0) (.lit (.int 1))) (.lit (.int 48271))) (.bin .mod (.blt .int (.cons (.var 2) .nil)) (.lit (.int 2147483647)))) (.bin .mul (.lit (.int 7919)) (.idx (.var 0) (.lit (.int 2))))) (.setIx (.var 0) (.lit (.int 1)) (.bin .mod (.blt .int (.cons (.var 3) .nil)) (.lit (.int 2147483647))) .nil))))) .nil (.ife (.cmp .gt (.idx (.var 0) (.lit (.int 0))) (.lit (.int 0))) (.asg (.name 4) (.bin .mod (.blt .int (.cons (.idx (.var 0) (.lit (.int 0))) .nil)) (.var 1)) (.setIx (.var 0) (.lit (.int 0)) (.bin .fdiv (.blt .int (.cons (.idx (.var 0) (.lit (.int 0))) .nil)) (.var 1)) (.ret (.var 4)))) .nil (.asg (.name 5) (.bin .mod (.blt .int (.cons (.bin .mul (.bin .add (.idx (.var 0) (.lit (.int 1))) (.lit (.int 1))) (.lit (.int 39373))) .nil)) (.lit (.int 1000000007))) (.asg (.name 6) (.bin .mod (.blt .int (.cons (.bin .mul (.bin .mod (.blt .int (.cons (.bin .mul (.var 5) (.var 5)) .nil)) (.lit (.int 998244353))) (.lit (.int 30011))) .nil)) (.lit (.int 998244353))) (.ret (.bin .mod (.blt .int (.cons (.bin .fdiv (.var 6) (.lit (.int 7))) .nil)) (.var 1)))))))
abbrev s28 : Stmt := top 39
abbrev n28 : List Str := ["bag", "things"]
abbrev p28 : List Str := ["bag", "things"]
theorem sc28 : FnScope n28 p28 (defScope s28) := ⟨rfl, rfl, rfl, by decide +kernel, rfl, by decide +kernel, by decide +kernel⟩
/-- _law_some(bag, things): 0 bag 1 things -/
def t28 : S := (.ret (.idx (.var 1) (.callK 27 (.cons (.var 0) (.cons (.blt .len (.cons (.var 1) .nil)) .nil)))))
abbrev s29 : Stmt := top 40
abbrev n29 : List Str := ["found", "due", "pairs", "at", "one", "other"]
abbrev p29 : List Str := ["found", "due"]
theorem sc29 : FnScope n29 p29 (defScope s29) := ⟨rfl, rfl, rfl, by decide +kernel, rfl, by decide +kernel, by decide +kernel⟩
/-- _law_alike(found, due): 0 found 1 due 2 pairs 3 at 4 one 5 other -/
def t29 : S := (.par 2 3 (.lstH (.cons (.tup (.cons (.var 0) (.cons (.var 1) .nil))) .nil)) (.lit (.int 0)) (.whl (.cmp .lt (.var 3) (.blt .len (.cons (.var 2) .nil))) (.asg (.tup (.cons (.name 4) (.cons (.name 5) .nil))) (.idx (.var 2) (.var 3)) (.aug 3 .add (.lit (.int 1)) (.ife (.or (.cmp .ne (.isi (.var 4) [.bool]) (.isi (.var 5) [.bool])) (.cmp .ne (.isi (.var 4) [.str]) (.isi (.var 5) [.str]))) (.ret (.lit (.bl false))) .nil (.ife (.cmp .ne (.isi (.var 4) [.tup, .lst]) (.isi (.var 5) [.tup, .lst])) (.ret (.lit (.bl false))) .nil (.ife (.isi (.var 4) [.tup, .lst]) (.ife (.or (.cmp .ne (.isi (.var 4) [.tup]) (.isi (.var 5) [.tup])) (.cmp .ne (.blt .len (.cons (.var 4) .nil)) (.blt .len (.cons (.var 5) .nil)))) (.ret (.lit (.bl false))) .nil (.ext (.var 2) (.lzip (.cons (.var 4) (.cons (.var 5) .nil))) .nil)) (.ife (.cmp .ne (.var 4) (.var 5)) (.ret (.lit (.bl false))) .nil .nil) .nil))))) (.ret (.lit (.bl true)))))
abbrev s30 : Stmt := top 41
abbrev n30 : List Str := ["thing"]
abbrev p30 : List Str := ["thing"]
theorem sc30 : FnScope n30 p30 (defScope s30) := ⟨rfl, rfl, rfl, by decide +kernel, rfl, by decide +kernel, by decide +kernel⟩
/-- _law_is_int(thing): 0 thing -/
def t30 : S := (.ret (.and (.isi (.var 0) [.int]) (.not (.isi (.var 0) [.bool]))))
abbrev s31 : Stmt := top 42
abbrev n31 : List Str := ["over", "under", "one", "other"]
abbrev p31 : List Str := ["over", "under"]
theorem sc31 : FnScope n31 p31 (defScope s31) := ⟨rfl, rfl, rfl, by decide +kernel, rfl, by decide +kernel, by decide +kernel⟩
/-- _law_made(over, under): 0 over 1 under 2 one 3 other -/
def t31 : S := (.par 2 3 (.blt .abs (.cons (.var 0) .nil)) (.blt .abs (.cons (.var 1) .nil)) (.whl (.cmp .gt (.var 3) (.lit (.int 0))) (.par 2 3 (.var 3) (.bin .mod (.blt .int (.cons (.var 2) .nil)) (.var 3)) .nil) (.asg (.name 2) (.ife (.cmp .gt (.var 1) (.lit (.int 0))) (.var 2) (.neg (.var 2))) (.ret (.tup (.cons (.bin .fdiv (.blt .int (.cons (.var 0) .nil)) (.var 2)) (.cons (.bin .fdiv (.blt .int (.cons (.var 1) .nil)) (.var 2)) .nil)))))))
abbrev s32 : Stmt := top 43
abbrev n32 : List Str := ["one", "other"]
abbrev p32 : List Str := ["one", "other"]
theorem sc32 : FnScope n32 p32 (defScope s32) := ⟨rfl, rfl, rfl, by decide +kernel, rfl, by decide +kernel, by decide +kernel⟩
/-- _law_add(one, other): 0 one 1 other -/
def t32 : S := (.ret (.callP 31 (.cons (.bin .add (.bin .mul (.idx (.var 0) (.lit (.int 0))) (.idx (.var 1) (.lit (.int 1)))) (.bin .mul (.idx (.var 1) (.lit (.int 0))) (.idx (.var 0) (.lit (.int 1))))) (.cons (.bin .mul (.idx (.var 0) (.lit (.int 1))) (.idx (.var 1) (.lit (.int 1)))) .nil))))
abbrev s33 : Stmt := top 44
abbrev n33 : List Str := ["one", "other"]
abbrev p33 : List Str := ["one", "other"]
theorem sc33 : FnScope n33 p33 (defScope s33) := ⟨rfl, rfl, rfl, by decide +kernel, rfl, by decide +kernel, by decide +kernel⟩
/-- _law_mul(one, other): 0 one 1 other -/
def t33 : S := (.ret (.callP 31 (.cons (.bin .mul (.idx (.var 0) (.lit (.int 0))) (.idx (.var 1) (.lit (.int 0)))) (.cons (.bin .mul (.idx (.var 0) (.lit (.int 1))) (.idx (.var 1) (.lit (.int 1)))) .nil))))
abbrev s34 : Stmt := top 45
abbrev n34 : List Str := ["one", "other"]
abbrev p34 : List Str := ["one", "other"]
theorem sc34 : FnScope n34 p34 (defScope s34) := ⟨rfl, rfl, rfl, by decide +kernel, rfl, by decide +kernel, by decide +kernel⟩
/-- _law_less(one, other): 0 one 1 other -/
def t34 : S := (.ret (.cmp .lt (.bin .mul (.idx (.var 0) (.lit (.int 0))) (.idx (.var 1) (.lit (.int 1)))) (.bin .mul (.idx (.var 1) (.lit (.int 0))) (.idx (.var 0) (.lit (.int 1))))))
abbrev s35 : Stmt := top 46
abbrev n35 : List Str := ["bag", "kind", "most", "found", "turn", "item"]
abbrev p35 : List Str := ["bag", "kind", "most"]
theorem sc35 : FnScope n35 p35 (defScope s35) := ⟨rfl, rfl, rfl, by decide +kernel, rfl, by decide +kernel, by decide +kernel⟩
/-- _law_value(bag, kind, most): 0 bag 1 kind 2 most 3 found 4 turn 5 item -/
def t35 : S := (.ife (.cmp .eq (.idx (.var 1) (.lit (.int 0))) (.lit (.str "num"))) (.ret (.callK 28 (.cons (.var 0) (.cons (.lst (.cons (.lit (.int 0)) (.cons (.lit (.int 1)) (.cons (.lit (.int 2)) (.cons (.callK 27 (.cons (.var 0) (.cons (.lit (.int 10000)) .nil))) .nil))))) .nil)))) .nil (.ife (.cmp .eq (.idx (.var 1) (.lit (.int 0))) (.lit (.str "pair"))) (.ret (.tup (.cons (.callK 35 (.cons (.var 0) (.cons (.idx (.var 1) (.lit (.int 1))) (.cons (.var 2) .nil)))) (.cons (.callK 35 (.cons (.var 0) (.cons (.idx (.var 1) (.lit (.int 2))) (.cons (.var 2) .nil)))) .nil)))) .nil (.asg (.name 3) (.tup .nil) (.for (.name 4) (.rng1 (.cons (.callK 27 (.cons (.var 0) (.cons (.bin .add (.var 2) (.lit (.int 1))) .nil))) .nil)) (.asg (.name 5) (.callK 35 (.cons (.var 0) (.cons (.idx (.var 1) (.lit (.int 1))) (.cons (.blt .max2 (.cons (.lit (.int 0)) (.cons (.bin .sub (.var 2) (.lit (.int 2))) .nil))) .nil)))) (.ife (.cmp .eq (.idx (.var 1) (.lit (.int 0))) (.lit (.str "list"))) (.asg (.name 3) (.bin .add (.tup (.cons (.var 5) .nil)) (.var 3)) .nil) (.asg (.name 3) (.ife (.cmp .eq (.callK 27 (.cons (.var 0) (.cons (.lit (.int 2)) .nil))) (.lit (.int 0))) (.tup (.cons (.var 3) (.cons (.var 5) (.cons (.tup .nil) .nil)))) (.tup (.cons (.tup .nil) (.cons (.var 5) (.cons (.var 3) .nil))))) .nil) .nil)) (.ret (.var 3))))))
abbrev s36 : Stmt := top 47
abbrev n36 : List Str := ["tree", "depth"]
abbrev p36 : List Str := ["tree", "depth"]
theorem sc36 : FnScope n36 p36 (defScope s36) := ⟨rfl, rfl, rfl, by decide +kernel, rfl, by decide +kernel, by decide +kernel⟩
/-- _law_nodes(tree, depth): 0 tree 1 depth -/
def t36 : S := (.ife (.cmp .eq (.var 0) (.tup .nil)) (.ret (.lst .nil)) .nil (.ret (.bin .add (.bin .add (.callP 36 (.cons (.idx (.var 0) (.lit (.int 0))) (.cons (.bin .add (.var 1) (.lit (.int 1))) .nil))) (.lst (.cons (.tup (.cons (.idx (.var 0) (.lit (.int 1))) (.cons (.var 1) .nil))) .nil))) (.callP 36 (.cons (.idx (.var 0) (.lit (.int 2))) (.cons (.bin .add (.var 1) (.lit (.int 1))) .nil))))))
abbrev s37 : Stmt := top 48
abbrev n37 : List Str := ["kind", "annotation", "value", "items", "counts", "nodes", "found", "one", "many", "item", "depth"]
abbrev p37 : List Str := ["kind", "annotation", "value"]
theorem sc37 : FnScope n37 p37 (defScope s37) := ⟨rfl, rfl, rfl, by decide +kernel, rfl, by decide +kernel, by decide +kernel⟩
/-- _law_potential(kind, annotation, value): 0 kind 1 annotation 2 value 3 items 4 counts 5 nodes 6 found 7 one 8 many 9 item 10 depth -/
def t37 : S := (.ife (.cmp .eq (.idx (.var 0) (.lit (.int 0))) (.lit (.str "num"))) (.ret (.tup (.cons (.lit (.int 0)) (.cons (.lit (.int 1)) .nil)))) .nil (.ife (.cmp .eq (.idx (.var 0) (.lit (.int 0))) (.lit (.str "pair"))) (.ret (.callP 32 (.cons (.callP 37 (.cons (.idx (.var 0) (.lit (.int 1))) (.cons (.idx (.var 1) (.lit (.int 0))) (.cons (.idx (.var 2) (.lit (.int 0))) .nil)))) (.cons (.callP 37 (.cons (.idx (.var 0) (.lit (.int 2))) (.cons (.idx (.var 1) (.lit (.int 1))) (.cons (.idx (.var 2) (.lit (.int 1))) .nil)))) .nil)))) .nil (.asg (.name 3) (.blt .list (.cons (.var 2) .nil)) (.asg (.name 4) (.lst (.cons (.blt .len (.cons (.var 3) .nil)) (.cons (.bin .fdiv (.blt .int (.cons (.bin .mul (.blt .len (.cons (.var 3) .nil)) (.bin .sub (.blt .len (.cons (.var 3) .nil)) (.lit (.int 1)))) .nil)) (.lit (.int 2))) .nil))) (.ife (.cmp .eq (.idx (.var 0) (.lit (.int 0))) (.lit (.str "tree"))) (.asg (.name 5) (.callP 36 (.cons (.var 2) (.cons (.lit (.int 0)) .nil))) (.asg (.name 3) (.comp (.var 9) (.tup (.cons (.name 9) (.cons (.name 10) .nil))) (.seq (.var 5)) (.lit (.bl true)) [9, 10]) (.asg (.name 4) (.lst (.cons (.blt .len (.cons (.var 5) .nil)) (.cons (.blt .sum (.cons (.comp (.var 10) (.tup (.cons (.name 9) (.cons (.name 10) .nil))) (.seq (.var 5)) (.lit (.bl true)) [9, 10]) .nil)) .nil))) .nil))) .nil (.asg (.name 6) (.tup (.cons (.lit (.int 0)) (.cons (.lit (.int 1)) .nil))) (.for (.tup (.cons (.name 7) (.cons (.name 8) .nil))) (.zip2 (.cons (.idx (.var 1) (.lit (.int 0))) (.cons (.var 4) .nil))) (.asg (.name 6) (.callP 32 (.cons (.var 6) (.cons (.callP 33 (.cons (.var 7) (.cons (.tup (.cons (.var 8) (.cons (.lit (.int 1)) .nil))) .nil))) .nil))) .nil) (.for (.name 9) (.seq (.var 3)) (.asg (.name 6) (.callP 32 (.cons (.var 6) (.cons (.callP 37 (.cons (.idx (.var 0) (.lit (.int 1))) (.cons (.idx (.var 1) (.lit (.int 1))) (.cons (.var 9) .nil)))) .nil))) .nil) (.ret (.var 6))))))))))
abbrev s38 : Stmt := top 49
abbrev n38 : List Str := ["thing", "found", "part"]
abbrev p38 : List Str := ["thing"]
theorem sc38 : FnScope n38 p38 (defScope s38) := ⟨rfl, rfl, rfl, by decide +kernel, rfl, by decide +kernel, by decide +kernel⟩
/-- _law_flat(thing): 0 thing 1 found 2 part -/
def t38 : S := (.ife (.cmp .eq (.var 0) (.tup .nil)) (.ret (.lst .nil)) .nil (.ife (.and (.cmp .eq (.blt .len (.cons (.var 0) .nil)) (.lit (.int 2))) (.callP 30 (.cons (.idx (.var 0) (.lit (.int 0))) .nil))) (.ret (.lst (.cons (.var 0) .nil))) .nil (.asg (.name 1) (.lst .nil) (.for (.name 2) (.seq (.var 0)) (.asg (.name 1) (.bin .add (.var 1) (.callP 38 (.cons (.var 2) .nil))) .nil) (.ret (.var 1))))))
abbrev s39 : Stmt := top 50
abbrev n39 : List Str := ["one", "other", "mine", "its"]
abbrev p39 : List Str := ["one", "other"]
theorem sc39 : FnScope n39 p39 (defScope s39) := ⟨rfl, rfl, rfl, by decide +kernel, rfl, by decide +kernel, by decide +kernel⟩
/-- _law_covers(one, other): 0 one 1 other 2 mine 3 its -/
def t39 : S := (.ret (.cmp .eq (.comp (.lit (.int 1)) (.tup (.cons (.name 2) (.cons (.name 3) .nil))) (.zip2 (.cons (.callP 38 (.cons (.var 0) .nil)) (.cons (.callP 38 (.cons (.var 1) .nil)) .nil))) (.callP 34 (.cons (.var 2) (.cons (.var 3) .nil))) [2, 3]) (.lst .nil)))
abbrev s40 : Stmt := top 51
abbrev n40 : List Str := ["kind", "degree", "own", "part"]
abbrev p40 : List Str := ["kind", "degree"]
theorem sc40 : FnScope n40 p40 (defScope s40) := ⟨rfl, rfl, rfl, by decide +kernel, rfl, by decide +kernel, by decide +kernel⟩
/-- _law_widths(kind, degree): 0 kind 1 degree 2 own 3 part -/
def t40 : S := (.asg (.name 2) (.ife (.cmp .isIn (.idx (.var 0) (.lit (.int 0))) (.tup (.cons (.lit (.str "list")) (.cons (.lit (.str "tree")) .nil)))) (.var 1) (.lit (.int 0))) (.ret (.bin .add (.var 2) (.blt .sum (.cons (.comp (.callP 40 (.cons (.var 3) (.cons (.var 1) .nil))) (.name 3) (.seq (.slc (.var 0) true false (.lit (.int 1)) (.lit .non))) (.lit (.bl true)) [3]) .nil)))))
abbrev s41 : Stmt := top 52
abbrev n41 : List Str := ["bag", "deep", "way", "inner", "other"]
abbrev p41 : List Str := ["bag", "deep"]
theorem sc41 : FnScope n41 p41 (defScope s41) := ⟨rfl, rfl, rfl, by decide +kernel, rfl, by decide +kernel, by decide +kernel⟩
/-- _law_drawn_kind(bag, deep): 0 bag 1 deep 2 way 3 inner 4 other -/
def t41 : S := (.asg (.name 2) (.callK 27 (.cons (.var 0) (.cons (.lit (.int 5)) .nil))) (.ife (.or (.cmp .lt (.var 2) (.lit (.int 2))) (.cmp .lt (.var 1) (.lit (.int 3)))) (.ret (.tup (.cons (.ife (.cmp .eq (.callK 27 (.cons (.var 0) (.cons (.lit (.int 2)) .nil))) (.lit (.int 0))) (.lit (.str "list")) (.lit (.str "tree"))) (.cons (.tup (.cons (.lit (.str "num")) .nil)) .nil)))) .nil (.asg (.name 3) (.callK 41 (.cons (.var 0) (.cons (.bin .sub (.var 1) (.lit (.int 1))) .nil))) (.ife (.cmp .eq (.var 2) (.lit (.int 4))) (.asg (.name 4) (.ife (.cmp .eq (.callK 27 (.cons (.var 0) (.cons (.lit (.int 2)) .nil))) (.lit (.int 0))) (.tup (.cons (.lit (.str "num")) .nil)) (.callK 41 (.cons (.var 0) (.cons (.bin .sub (.var 1) (.lit (.int 1))) .nil)))) (.ret (.ife (.cmp .eq (.callK 27 (.cons (.var 0) (.cons (.lit (.int 2)) .nil))) (.lit (.int 0))) (.tup (.cons (.lit (.str "pair")) (.cons (.var 3) (.cons (.var 4) .nil)))) (.tup (.cons (.lit (.str "pair")) (.cons (.var 4) (.cons (.var 3) .nil))))))) .nil (.ret (.tup (.cons (.ife (.cmp .eq (.var 2) (.lit (.int 2))) (.lit (.str "list")) (.lit (.str "tree"))) (.cons (.var 3) .nil))))))))
abbrev s42 : Stmt := top 53
abbrev n42 : List Str := ["bag", "kind", "degree", "at"]
abbrev p42 : List Str := ["bag", "kind", "degree"]
theorem sc42 : FnScope n42 p42 (defScope s42) := ⟨rfl, rfl, rfl, by decide +kernel, rfl, by decide +kernel, by decide +kernel⟩
/-- _law_numbers_of(bag, kind, degree): 0 bag 1 kind 2 degree 3 at -/
def t42 : S := (.ret (.blt .tuple (.cons (.comp (.callP 31 (.cons (.callK 27 (.cons (.var 0) (.cons (.lit (.int 12)) .nil))) (.cons (.bin .add (.lit (.int 1)) (.callK 27 (.cons (.var 0) (.cons (.lit (.int 5)) .nil)))) .nil))) (.name 3) (.rng1 (.cons (.callP 40 (.cons (.var 1) (.cons (.var 2) .nil))) .nil)) (.lit (.bl true)) [3]) .nil)))
abbrev s43 : Stmt := top 54
abbrev n43 : List Str := ["tree", "depth"]
abbrev p43 : List Str := ["tree", "depth"]
theorem sc43 : FnScope n43 p43 (defScope s43) := ⟨rfl, rfl, rfl, by decide +kernel, rfl, by decide +kernel, by decide +kernel⟩
/-- _law_leaves(tree, depth): 0 tree 1 depth -/
def t43 : S := (.ife (.cmp .eq (.var 0) (.tup .nil)) (.ret (.lst (.cons (.var 1) .nil))) .nil (.ret (.bin .add (.callP 43 (.cons (.idx (.var 0) (.lit (.int 0))) (.cons (.bin .add (.var 1) (.lit (.int 1))) .nil))) (.callP 43 (.cons (.idx (.var 0) (.lit (.int 2))) (.cons (.bin .add (.var 1) (.lit (.int 1))) .nil))))))
abbrev s44 : Stmt := top 55
abbrev n44 : List Str := ["tree", "at", "other", "left", "some", "right", "more"]
abbrev p44 : List Str := ["tree", "at", "other"]
theorem sc44 : FnScope n44 p44 (defScope s44) := ⟨rfl, rfl, rfl, by decide +kernel, rfl, by decide +kernel, by decide +kernel⟩
/-- _law_grafted(tree, at, other): 0 tree 1 at 2 other 3 left 4 some 5 right 6 more -/
def t44 : S := (.ife (.cmp .eq (.var 0) (.tup .nil)) (.ret (.tup (.cons (.ife (.cmp .eq (.var 1) (.lit (.int 0))) (.var 2) (.tup .nil)) (.cons (.lit (.int 1)) .nil)))) .nil (.asg (.tup (.cons (.name 3) (.cons (.name 4) .nil))) (.callP 44 (.cons (.idx (.var 0) (.lit (.int 0))) (.cons (.var 1) (.cons (.var 2) .nil)))) (.asg (.tup (.cons (.name 5) (.cons (.name 6) .nil))) (.callP 44 (.cons (.idx (.var 0) (.lit (.int 2))) (.cons (.bin .sub (.var 1) (.var 4)) (.cons (.var 2) .nil)))) (.ret (.tup (.cons (.tup (.cons (.var 3) (.cons (.idx (.var 0) (.lit (.int 1))) (.cons (.var 5) .nil)))) (.cons (.bin .add (.var 4) (.var 6)) .nil)))))))
abbrev s45 : Stmt := top 56
abbrev n45 : List Str := ["kind", "annotation", "value", "due", "told"]
abbrev p45 : List Str := ["kind", "annotation", "value", "due"]
theorem sc45 : FnScope n45 p45 (defScope s45) := ⟨rfl, rfl, rfl, by decide +kernel, rfl, by decide +kernel, by decide +kernel⟩
/-- _law_is_worth(kind, annotation, value, due): 0 kind 1 annotation 2 value 3 due 4 told -/
def t45 : S := (.asg (.name 4) (.lstH (.cons (.callP 11 (.cons (.var 0) (.cons (.var 1) (.cons (.var 2) .nil)))) (.cons (.callP 25 (.cons (.var 0) (.cons (.var 1) (.cons (.callP 23 (.cons (.var 0) (.cons (.var 2) .nil))) .nil)))) .nil))) (.app (.var 4) (.callP 22 (.cons (.tup (.cons (.var 0) .nil)) (.cons (.tup (.cons (.tup (.cons (.lit (.int 0)) (.cons (.lit (.int 1)) .nil))) (.cons (.tup (.cons (.var 1) .nil)) .nil))) (.cons (.tup (.cons (.var 2) .nil)) .nil)))) (.ret (.and (.callB 29 (.cons (.var 4) (.cons (.lst (.cons (.var 3) (.cons (.var 3) (.cons (.var 3) .nil)))) .nil))) (.cmp .eq (.callP 37 (.cons (.var 0) (.cons (.var 1) (.cons (.var 2) .nil)))) (.var 3))))))
abbrev s46 : Stmt := top 57
abbrev n46 : List Str := ["annotation", "degree", "many"]
abbrev p46 : List Str := ["annotation", "degree", "many"]
theorem sc46 : FnScope n46 p46 (defScope s46) := ⟨rfl, rfl, rfl, by decide +kernel, rfl, by decide +kernel, by decide +kernel⟩
/-- _law_second(annotation, degree, many): 0 annotation 1 degree 2 many -/
def t46 : S := (.ret (.ife (.cmp .eq (.var 1) (.lit (.int 2))) (.callP 33 (.cons (.idx (.idx (.var 0) (.lit (.int 0))) (.lit (.int 1))) (.cons (.tup (.cons (.var 2) (.cons (.lit (.int 1)) .nil))) .nil))) (.tup (.cons (.lit (.int 0)) (.cons (.lit (.int 1)) .nil)))))
abbrev s47 : Stmt := top 58
abbrev n47 : List Str := ["bag", "kind", "degree", "annotation", "one", "other", "both", "item", "rest", "more", "many", "leaves", "at", "whole_v"]
abbrev p47 : List Str := ["bag", "kind", "degree", "annotation"]
theorem sc47 : FnScope n47 p47 (defScope s47) := ⟨rfl, rfl, rfl, by decide +kernel, rfl, by decide +kernel, by decide +kernel⟩
/-- _law_put_together_good(bag, kind, degree, annotation): 0 bag 1 kind 2 degree 3 annotation 4 one 5 other 6 both 7 item 8 rest 9 more 10 many 11 leaves 12 at 13 whole_v -/
def t47 : S := (.par 4 5 (.callK 35 (.cons (.var 0) (.cons (.var 1) (.cons (.lit (.int 5)) .nil)))) (.callK 35 (.cons (.var 0) (.cons (.var 1) (.cons (.lit (.int 5)) .nil)))) (.asg (.name 6) (.callP 32 (.cons (.callP 37 (.cons (.var 1) (.cons (.var 3) (.cons (.var 4) .nil)))) (.cons (.callP 37 (.cons (.var 1) (.cons (.var 3) (.cons (.var 5) .nil)))) .nil))) (.par 7 8 (.callK 35 (.cons (.var 0) (.cons (.idx (.var 1) (.lit (.int 1))) (.cons (.lit (.int 3)) .nil)))) (.callP 37 (.cons (.var 1) (.cons (.callP 13 (.cons (.var 3) .nil)) (.cons (.var 4) .nil)))) (.asg (.name 9) (.callP 32 (.cons (.idx (.idx (.var 3) (.lit (.int 0))) (.lit (.int 0))) (.cons (.callP 32 (.cons (.callP 37 (.cons (.idx (.var 1) (.lit (.int 1))) (.cons (.idx (.var 3) (.lit (.int 1))) (.cons (.var 7) .nil)))) (.cons (.var 8) .nil))) .nil))) (.ife (.cmp .eq (.idx (.var 1) (.lit (.int 0))) (.lit (.str "list"))) (.asg (.name 10) (.bin .mul (.blt .len (.cons (.var 4) .nil)) (.blt .len (.cons (.var 5) .nil))) (.ife (.not (.callP 45 (.cons (.var 1) (.cons (.var 3) (.cons (.bin .add (.var 4) (.var 5)) (.cons (.callP 32 (.cons (.var 6) (.cons (.callP 46 (.cons (.var 3) (.cons (.var 2) (.cons (.var 10) .nil)))) .nil))) .nil)))))) (.ret (.lit (.bl false))) .nil (.ret (.and (.callP 45 (.cons (.var 1) (.cons (.var 3) (.cons (.bin .add (.tup (.cons (.var 7) .nil)) (.var 4)) (.cons (.var 9) .nil))))) (.callP 45 (.cons (.var 1) (.cons (.var 3) (.cons (.bin .add (.var 4) (.tup (.cons (.var 7) .nil))) (.cons (.var 9) .nil))))))))) .nil (.asg (.name 11) (.callP 43 (.cons (.var 4) (.cons (.lit (.int 0)) .nil))) (.asg (.name 12) (.callK 27 (.cons (.var 0) (.cons (.blt .len (.cons (.var 11) .nil)) .nil))) (.asg (.name 13) (.idx (.callP 44 (.cons (.var 4) (.cons (.var 12) (.cons (.var 5) .nil)))) (.lit (.int 0))) (.asg (.name 10) (.bin .mul (.idx (.var 11) (.var 12)) (.blt .len (.cons (.callP 36 (.cons (.var 5) (.cons (.lit (.int 0)) .nil))) .nil))) (.ife (.not (.callP 45 (.cons (.var 1) (.cons (.var 3) (.cons (.var 13) (.cons (.callP 32 (.cons (.var 6) (.cons (.callP 46 (.cons (.var 3) (.cons (.var 2) (.cons (.var 10) .nil)))) .nil))) .nil)))))) (.ret (.lit (.bl false))) .nil (.asg (.name 9) (.callP 32 (.cons (.var 9) (.cons (.callP 37 (.cons (.var 1) (.cons (.callP 13 (.cons (.var 3) .nil)) (.cons (.var 5) .nil)))) .nil))) (.ret (.and (.callP 45 (.cons (.var 1) (.cons (.var 3) (.cons (.tup (.cons (.var 4) (.cons (.var 7) (.cons (.var 5) .nil)))) (.cons (.var 9) .nil))))) (.callP 45 (.cons (.var 1) (.cons (.var 3) (.cons (.tup (.cons (.var 5) (.cons (.var 7) (.cons (.var 4) .nil)))) (.cons (.var 9) .nil))))))))))))))))))
abbrev s48 : Stmt := top 59
abbrev n48 : List Str := ["script", "bag", "turn", "degree", "kind", "numbers", "annotation", "other", "factor", "value", "one", "two", "first", "last", "due", "row"]
abbrev p48 : List Str := ["script"]
theorem sc48 : FnScope n48 p48 (defScope s48) := ⟨rfl, rfl, rfl, by decide +kernel, rfl, by decide +kernel, by decide +kernel⟩
/-- law(script): 0 script 1 bag 2 turn 3 degree 4 kind 5 numbers 6 annotation 7 other 8 factor 9 value 10 one 11 two 12 first 13 last 14 due 15 row -/
def t48 : S := (.asg (.name 1) (.callK 26 (.cons (.var 0) .nil)) (.for (.name 2) (.rng1 (.cons (.lit (.int 6)) .nil)) (.par 3 4 (.bin .add (.lit (.int 1)) (.callK 27 (.cons (.var 1) (.cons (.lit (.int 2)) .nil)))) (.callK 41 (.cons (.var 1) (.cons (.lit (.int 3)) .nil))) (.asg (.name 5) (.callK 42 (.cons (.var 1) (.cons (.var 4) (.cons (.var 3) .nil)))) (.asg (.name 6) (.callP 16 (.cons (.var 4) (.cons (.var 3) (.cons (.var 5) .nil)))) (.ife (.not (.callP 29 (.cons (.lst (.cons (.callP 14 (.cons (.var 4) (.cons (.var 6) .nil))) (.cons (.callP 15 (.cons (.var 4) (.cons (.var 3) .nil))) .nil))) (.cons (.lst (.cons (.var 5) (.cons (.blt .len (.cons (.var 5) .nil)) .nil))) .nil)))) (.ret (.lit (.bl false))) .nil (.par 7 8 (.callP 16 (.cons (.var 4) (.cons (.var 3) (.cons (.callK 42 (.cons (.var 1) (.cons (.var 4) (.cons (.var 3) .nil)))) .nil)))) (.callP 31 (.cons (.callK 27 (.cons (.var 1) (.cons (.lit (.int 9)) .nil))) (.cons (.bin .add (.lit (.int 1)) (.callK 27 (.cons (.var 1) (.cons (.lit (.int 4)) .nil)))) .nil))) (.asg (.name 9) (.callK 35 (.cons (.var 1) (.cons (.var 4) (.cons (.lit (.int 5)) .nil)))) (.par 10 11 (.callP 37 (.cons (.var 4) (.cons (.var 6) (.cons (.var 9) .nil)))) (.callP 37 (.cons (.var 4) (.cons (.var 7) (.cons (.var 9) .nil)))) (.ife (.not (.callP 45 (.cons (.var 4) (.cons (.callP 19 (.cons (.var 4) (.cons (.var 6) (.cons (.var 7) .nil)))) (.cons (.var 9) (.cons (.callP 32 (.cons (.var 10) (.cons (.var 11) .nil))) .nil)))))) (.ret (.lit (.bl false))) .nil (.ife (.not (.callP 45 (.cons (.var 4) (.cons (.callP 21 (.cons (.var 4) (.cons (.var 6) (.cons (.var 8) .nil)))) (.cons (.var 9) (.cons (.callP 33 (.cons (.var 10) (.cons (.var 8) .nil))) .nil)))))) (.ret (.lit (.bl false))) .nil (.ife (.or (.not (.callP 45 (.cons (.var 4) (.cons (.callP 18 (.cons (.var 4) (.cons (.var 3) .nil))) (.cons (.var 9) (.cons (.tup (.cons (.lit (.int 0)) (.cons (.lit (.int 1)) .nil))) .nil)))))) (.not (.callP 29 (.cons (.callP 20 (.cons (.var 4) (.cons (.var 6) (.cons (.var 7) .nil)))) (.cons (.callP 39 (.cons (.var 6) (.cons (.var 7) .nil))) .nil))))) (.ret (.lit (.bl false))) .nil (.ife (.cmp .eq (.idx (.var 4) (.lit (.int 0))) (.lit (.str "pair"))) (.par 12 13 (.callK 35 (.cons (.var 1) (.cons (.idx (.var 4) (.lit (.int 1))) (.cons (.lit (.int 4)) .nil)))) (.callK 35 (.cons (.var 1) (.cons (.idx (.var 4) (.lit (.int 2))) (.cons (.lit (.int 4)) .nil)))) (.asg (.name 14) (.callP 32 (.cons (.callP 37 (.cons (.idx (.var 4) (.lit (.int 1))) (.cons (.idx (.var 6) (.lit (.int 0))) (.cons (.var 12) .nil)))) (.cons (.callP 37 (.cons (.idx (.var 4) (.lit (.int 2))) (.cons (.idx (.var 6) (.lit (.int 1))) (.cons (.var 13) .nil)))) .nil))) (.ife (.not (.callP 45 (.cons (.var 4) (.cons (.var 6) (.cons (.tup (.cons (.var 12) (.cons (.var 13) .nil))) (.cons (.var 14) .nil)))))) (.ret (.lit (.bl false))) .nil .cont))) .nil (.asg (.name 15) (.idx (.var 6) (.lit (.int 0))) (.asg (.name 14) (.ife (.cmp .eq (.var 3) (.lit (.int 2))) (.tup (.cons (.callP 32 (.cons (.idx (.var 15) (.lit (.int 0))) (.cons (.idx (.var 15) (.lit (.int 1))) .nil))) (.cons (.idx (.var 15) (.lit (.int 1))) .nil))) (.var 15)) (.ife (.not (.callP 29 (.cons (.lst (.cons (.callP 12 (.cons (.var 15) .nil)) (.cons (.callP 13 (.cons (.var 6) .nil)) .nil))) (.cons (.lst (.cons (.var 14) (.cons (.tup (.cons (.var 14) (.cons (.idx (.var 6) (.lit (.int 1))) .nil))) .nil))) .nil)))) (.ret (.lit (.bl false))) .nil (.ife (.not (.callK 47 (.cons (.var 1) (.cons (.var 4) (.cons (.var 3) (.cons (.var 6) .nil)))))) (.ret (.lit (.bl false))) .nil .nil))))))))))))))) (.ret (.lit (.bl true)))))
def tab : List Df := [⟨2, 2, t0⟩, ⟨2, 3, t1⟩, ⟨2, 2, t2⟩, ⟨2, 2, t3⟩, ⟨2, 2, t4⟩, ⟨1, 3, t5⟩, ⟨1, 1, t6⟩, ⟨2, 4, t7⟩, ⟨2, 4, t8⟩, ⟨3, 5, t9⟩, ⟨1, 5, t10⟩, ⟨3, 7, t11⟩, ⟨1, 1, t12⟩, ⟨1, 1, t13⟩, ⟨2, 2, t14⟩, ⟨2, 4, t15⟩, ⟨3, 4, t16⟩, ⟨2, 2, t17⟩, ⟨2, 2, t18⟩, ⟨3, 6, t19⟩, ⟨3, 5, t20⟩, ⟨3, 5, t21⟩, ⟨3, 9, t22⟩, ⟨2, 5, t23⟩, ⟨2, 6, t24⟩, ⟨3, 5, t25⟩, ⟨1, 2, t26⟩, ⟨2, 7, t27⟩, ⟨2, 2, t28⟩, ⟨2, 6, t29⟩, ⟨1, 1, t30⟩, ⟨2, 4, t31⟩, ⟨2, 2, t32⟩, ⟨2, 2, t33⟩, ⟨2, 2, t34⟩, ⟨3, 6, t35⟩, ⟨2, 2, t36⟩, ⟨3, 11, t37⟩, ⟨1, 3, t38⟩, ⟨2, 4, t39⟩, ⟨2, 4, t40⟩, ⟨2, 5, t41⟩, ⟨3, 4, t42⟩, ⟨2, 2, t43⟩, ⟨3, 7, t44⟩, ⟨4, 5, t45⟩, ⟨3, 3, t46⟩, ⟨4, 14, t47⟩, ⟨1, 16, t48⟩]
def FU : Nat := 100000
abbrev G (k : Nat) : Calls := run tab FU k
structure Md (K : PySem.W.Frag) (mg : Str → Option Value) : Prop where
  b_abs : mg "abs" = none
  b_any : mg "any" = none
  b_bool : mg "bool" = none
  b_enumerate : mg "enumerate" = none
  b_int : mg "int" = none
  b_isinstance : mg "isinstance" = none
  b_len : mg "len" = none
  b_list : mg "list" = none
  b_max : mg "max" = none
  b_range : mg "range" = none
  b_str : mg "str" = none
  b_sum : mg "sum" = none
  b_tuple : mg "tuple" = none
  b_zip : mg "zip" = none
  c_LIST : Cst K mg "LIST" (.str "list")
  c_NODE : Cst K mg "NODE" (.int 3)
  c_NUM : Cst K mg "NUM" (.str "num")
  c_TREE : Cst K mg "TREE" (.str "tree")
  c_ZERO : Cst K mg "ZERO" (.tup [(.int 0), (.int 1)])
structure Al (P : Program) (w : World) (K : PySem.W.Frag) (mg : Str → Option Value) (base : Heap) (k : Nat) : Prop where
  f0 : Callee P w K mg base k "common" (G k 0)
  f1 : Callee P w K mg base k "made" (G k 1)
  f2 : Callee P w K mg base k "plus" (G k 2)
  f3 : Callee P w K mg base k "times" (G k 3)
  f4 : Callee P w K mg base k "is_less" (G k 4)
  f5 : Callee P w K mg base k "summed" (G k 5)
  f6 : Callee P w K mg base k "whole" (G k 6)
  f7 : Callee P w K mg base k "choose" (G k 7)
  f8 : Callee P w K mg base k "list_potential" (G k 8)
  f9 : Callee P w K mg base k "tree_potential" (G k 9)
  f10 : Callee P w K mg base k "nodes_of" (G k 10)
  f11 : Callee P w K mg base k "potential" (G k 11)
  f12 : Callee P w K mg base k "shifted" (G k 12)
  f13 : Callee P w K mg base k "shifted_one" (G k 13)
  f14 : Callee P w K mg base k "numbers_in" (G k 14)
  f15 : Callee P w K mg base k "width_of" (G k 15)
  f16 : Callee P w K mg base k "built" (G k 16)
  f17 : Callee P w K mg base k "degree_in" (G k 17)
  f18 : Callee P w K mg base k "none_of" (G k 18)
  f19 : Callee P w K mg base k "shared" (G k 19)
  f20 : Callee P w K mg base k "covers" (G k 20)
  f21 : Callee P w K mg base k "scaled" (G k 21)
  f22 : Callee P w K mg base k "worth_of" (G k 22)
  f23 : Callee P w K mg base k "sizes_of" (G k 23)
  f24 : Callee P w K mg base k "items_in" (G k 24)
  f25 : Callee P w K mg base k "potential_by" (G k 25)
  f26 : Callee P w K mg base k "_law_bag" (G k 26)
  f27 : Callee P w K mg base k "_law_take" (G k 27)
  f28 : Callee P w K mg base k "_law_some" (G k 28)
  f29 : Callee P w K mg base k "_law_alike" (G k 29)
  f30 : Callee P w K mg base k "_law_is_int" (G k 30)
  f31 : Callee P w K mg base k "_law_made" (G k 31)
  f32 : Callee P w K mg base k "_law_add" (G k 32)
  f33 : Callee P w K mg base k "_law_mul" (G k 33)
  f34 : Callee P w K mg base k "_law_less" (G k 34)
  f35 : Callee P w K mg base k "_law_value" (G k 35)
  f36 : Callee P w K mg base k "_law_nodes" (G k 36)
  f37 : Callee P w K mg base k "_law_potential" (G k 37)
  f38 : Callee P w K mg base k "_law_flat" (G k 38)
  f39 : Callee P w K mg base k "_law_covers" (G k 39)
  f40 : Callee P w K mg base k "_law_widths" (G k 40)
  f41 : Callee P w K mg base k "_law_drawn_kind" (G k 41)
  f42 : Callee P w K mg base k "_law_numbers_of" (G k 42)
  f43 : Callee P w K mg base k "_law_leaves" (G k 43)
  f44 : Callee P w K mg base k "_law_grafted" (G k 44)
  f45 : Callee P w K mg base k "_law_is_worth" (G k 45)
  f46 : Callee P w K mg base k "_law_second" (G k 46)
  f47 : Callee P w K mg base k "_law_put_together_good" (G k 47)
  f48 : Callee P w K mg base k "law" (G k 48)
structure Tx (K : PySem.W.Frag) (mg : Str → Option Value) : Prop where
  d0 : Dn K mg "common" s0 p0
  d1 : Dn K mg "made" s1 p1
  d2 : Dn K mg "plus" s2 p2
  d3 : Dn K mg "times" s3 p3
  d4 : Dn K mg "is_less" s4 p4
  d5 : Dn K mg "summed" s5 p5
  d6 : Dn K mg "whole" s6 p6
  d7 : Dn K mg "choose" s7 p7
  d8 : Dn K mg "list_potential" s8 p8
  d9 : Dn K mg "tree_potential" s9 p9
  d10 : Dn K mg "nodes_of" s10 p10
  d11 : Dn K mg "potential" s11 p11
  d12 : Dn K mg "shifted" s12 p12
  d13 : Dn K mg "shifted_one" s13 p13
  d14 : Dn K mg "numbers_in" s14 p14
  d15 : Dn K mg "width_of" s15 p15
  d16 : Dn K mg "built" s16 p16
  d17 : Dn K mg "degree_in" s17 p17
  d18 : Dn K mg "none_of" s18 p18
  d19 : Dn K mg "shared" s19 p19
  d20 : Dn K mg "covers" s20 p20
  d21 : Dn K mg "scaled" s21 p21
  d22 : Dn K mg "worth_of" s22 p22
  d23 : Dn K mg "sizes_of" s23 p23
  d24 : Dn K mg "items_in" s24 p24
  d25 : Dn K mg "potential_by" s25 p25
  d26 : Dn K mg "_law_bag" s26 p26
  d27 : Dn K mg "_law_take" s27 p27
  d28 : Dn K mg "_law_some" s28 p28
  d29 : Dn K mg "_law_alike" s29 p29
  d30 : Dn K mg "_law_is_int" s30 p30
  d31 : Dn K mg "_law_made" s31 p31
  d32 : Dn K mg "_law_add" s32 p32
  d33 : Dn K mg "_law_mul" s33 p33
  d34 : Dn K mg "_law_less" s34 p34
  d35 : Dn K mg "_law_value" s35 p35
  d36 : Dn K mg "_law_nodes" s36 p36
  d37 : Dn K mg "_law_potential" s37 p37
  d38 : Dn K mg "_law_flat" s38 p38
  d39 : Dn K mg "_law_covers" s39 p39
  d40 : Dn K mg "_law_widths" s40 p40
  d41 : Dn K mg "_law_drawn_kind" s41 p41
  d42 : Dn K mg "_law_numbers_of" s42 p42
  d43 : Dn K mg "_law_leaves" s43 p43
  d44 : Dn K mg "_law_grafted" s44 p44
  d45 : Dn K mg "_law_is_worth" s45 p45
  d46 : Dn K mg "_law_second" s46 p46
  d47 : Dn K mg "_law_put_together_good" s47 p47
  d48 : Dn K mg "law" s48 p48
section
variable {P : Program} {w : World} {K : PySem.W.Frag} {mg : Str → Option Value} {base : Heap} {k : Nat} {f : Addr} {cdv : Value} {A : Around} {outer : List PySem.Env} {s : Shared} {H : Hp} {E : XK}
theorem b0 (M : Md K mg) (C : Al P w K mg base k) (hr : Room k (A.deeper (envOfC "common" (defScope s0) s.heap.objs.size f cdv))) : ES (cxOf CX0 P w K mg base n0 "common" (defScope s0) f cdv A outer s H E).nox (G k) FU (defBody s0) t0 := by
  have hu : ((cxOf CX0 P w K mg base n0 "common" (defScope s0) f cdv A outer s H E).nox).A.units + 64 < cLine := hr.units
  exact (ms_whl PassesOwn.never (mt_cmp (cmp_ne hu) (mb_var 1) mb_int) (ms_par rfl sc0.nd (ma_cons (mb_var 1) (ma_cons (mb_mod (mb_var 0) (mb_var 1)) ma_nil)) ms_nil) (ms_ret (mb_var 0)))
theorem b1 (M : Md K mg) (C : Al P w K mg base k) (hr : Room k (A.deeper (envOfC "made" (defScope s1) s.heap.objs.size f cdv))) : ES (cxOf CX0 P w K mg base n1 "made" (defScope s1) f cdv A outer s H E).nox (G k) FU (defBody s1) t1 := by
  have hu : ((cxOf CX0 P w K mg base n1 "made" (defScope s1) f cdv A outer s H E).nox).A.units + 64 < cLine := hr.units
  exact (ms_if (mt_cmp cmp_lt (mb_var 1) mb_int) (ms_par rfl sc1.nd (ma_cons (mb_sub mb_int (mb_var 0)) (ma_cons (mb_sub mb_int (mb_var 1)) ma_nil)) ms_nil) ms_nil (ms_asg (mb_callP C.f0 hr rfl (ma_cons (mb_abs rfl M.b_abs (ma_cons (mb_var 0) ma_nil)) (ma_cons (mb_var 1) ma_nil))) (mg_name sc1.nd) (ms_ret (mb_tup (ma_cons (mb_fdiv (mb_var 0) (mb_var 2)) (ma_cons (mb_fdiv (mb_var 1) (mb_var 2)) ma_nil))))))
theorem b2 (M : Md K mg) (C : Al P w K mg base k) (hr : Room k (A.deeper (envOfC "plus" (defScope s2) s.heap.objs.size f cdv))) : ES (cxOf CX0 P w K mg base n2 "plus" (defScope s2) f cdv A outer s H E).nox (G k) FU (defBody s2) t2 := by
  have hu : ((cxOf CX0 P w K mg base n2 "plus" (defScope s2) f cdv A outer s H E).nox).A.units + 64 < cLine := hr.units
  exact (ms_ret (mb_callP C.f1 hr rfl (ma_cons (mb_add (mb_mul (mb_idx (mb_var 0) mb_int) (mb_idx (mb_var 1) mb_int)) (mb_mul (mb_idx (mb_var 1) mb_int) (mb_idx (mb_var 0) mb_int))) (ma_cons (mb_mul (mb_idx (mb_var 0) mb_int) (mb_idx (mb_var 1) mb_int)) ma_nil))))
theorem b3 (M : Md K mg) (C : Al P w K mg base k) (hr : Room k (A.deeper (envOfC "times" (defScope s3) s.heap.objs.size f cdv))) : ES (cxOf CX0 P w K mg base n3 "times" (defScope s3) f cdv A outer s H E).nox (G k) FU (defBody s3) t3 := by
  have hu : ((cxOf CX0 P w K mg base n3 "times" (defScope s3) f cdv A outer s H E).nox).A.units + 64 < cLine := hr.units
  exact (ms_ret (mb_callP C.f1 hr rfl (ma_cons (mb_mul (mb_idx (mb_var 0) mb_int) (mb_idx (mb_var 1) mb_int)) (ma_cons (mb_mul (mb_idx (mb_var 0) mb_int) (mb_idx (mb_var 1) mb_int)) ma_nil))))
theorem b4 (M : Md K mg) (C : Al P w K mg base k) (hr : Room k (A.deeper (envOfC "is_less" (defScope s4) s.heap.objs.size f cdv))) : ES (cxOf CX0 P w K mg base n4 "is_less" (defScope s4) f cdv A outer s H E).nox (G k) FU (defBody s4) t4 := by
  have hu : ((cxOf CX0 P w K mg base n4 "is_less" (defScope s4) f cdv A outer s H E).nox).A.units + 64 < cLine := hr.units
  exact (ms_ret (mb_cmp cmp_lt (mb_mul (mb_idx (mb_var 0) mb_int) (mb_idx (mb_var 1) mb_int)) (mb_mul (mb_idx (mb_var 1) mb_int) (mb_idx (mb_var 0) mb_int))))
theorem b5 (M : Md K mg) (C : Al P w K mg base k) (hr : Room k (A.deeper (envOfC "summed" (defScope s5) s.heap.objs.size f cdv))) : ES (cxOf CX0 P w K mg base n5 "summed" (defScope s5) f cdv A outer s H E).nox (G k) FU (defBody s5) t5 := by
  have hu : ((cxOf CX0 P w K mg base n5 "summed" (defScope s5) f cdv A outer s H E).nox).A.units + 64 < cLine := hr.units
  exact (ms_asg (mb_cst M.c_ZERO) (mg_name sc5.nd) (ms_for PassesOwn.never rfl (mi_seq (mb_var 0)) (mg_name sc5.nd) (ms_asg (mb_callP C.f2 hr rfl (ma_cons (mb_var 1) (ma_cons (mb_var 2) ma_nil))) (mg_name sc5.nd) ms_nil) (ms_ret (mb_var 1))))
theorem b6 (M : Md K mg) (C : Al P w K mg base k) (hr : Room k (A.deeper (envOfC "whole" (defScope s6) s.heap.objs.size f cdv))) : ES (cxOf CX0 P w K mg base n6 "whole" (defScope s6) f cdv A outer s H E).nox (G k) FU (defBody s6) t6 := by
  have hu : ((cxOf CX0 P w K mg base n6 "whole" (defScope s6) f cdv A outer s H E).nox).A.units + 64 < cLine := hr.units
  exact (ms_ret (mb_tup (ma_cons (mb_var 0) (ma_cons mb_int ma_nil))))
theorem b7 (M : Md K mg) (C : Al P w K mg base k) (hr : Room k (A.deeper (envOfC "choose" (defScope s7) s.heap.objs.size f cdv))) : ES (cxOf CX0 P w K mg base n7 "choose" (defScope s7) f cdv A outer s H E).nox (G k) FU (defBody s7) t7 := by
  have hu : ((cxOf CX0 P w K mg base n7 "choose" (defScope s7) f cdv A outer s H E).nox).A.units + 64 < cLine := hr.units
  exact (ms_if (mt_not (mt_chain cmp_le cmp_le mb_int (mb_var 1) (mb_var 0))) (ms_ret mb_int) ms_nil (ms_asg mb_int (mg_name sc7.nd) (ms_for PassesOwn.never rfl (mi_rng1 rfl M.b_range (ma_cons (mb_var 1) ma_nil)) (mg_name sc7.nd) (ms_asg (mb_fdiv (mb_mul (mb_var 2) (mb_sub (mb_var 0) (mb_var 3))) (mb_add (mb_var 3) mb_int)) (mg_name sc7.nd) ms_nil) (ms_ret (mb_var 2)))))
theorem b8 (M : Md K mg) (C : Al P w K mg base k) (hr : Room k (A.deeper (envOfC "list_potential" (defScope s8) s.heap.objs.size f cdv))) : ES (cxOf CX0 P w K mg base n8 "list_potential" (defScope s8) f cdv A outer s H E).nox (G k) FU (defBody s8) t8 := by
  have hu : ((cxOf CX0 P w K mg base n8 "list_potential" (defScope s8) f cdv A outer s H E).nox).A.units + 64 < cLine := hr.units
  exact (ms_ret (mb_callP C.f5 hr rfl (ma_cons (mb_comp rfl sc8.nd (blkOk_by (N := n8) (sc := defScope s8) (own := [("at", 2), ("one", 3)]) (by decide +kernel)) (mi_enum rfl M.b_enumerate (ma_cons (mb_var 0) (ma_cons mb_int ma_nil))) (fun _ _ _ _ _ => (mg_tup rfl (mg_cons (mg_name sc8.nd) (mg_cons (mg_name sc8.nd) mg_nil)))) (fun _ _ _ _ _ => mts_nil) (fun _ _ _ _ _ => (mb_callP C.f3 hr rfl (ma_cons (mb_var 3) (ma_cons (mb_callP C.f6 hr rfl (ma_cons (mb_callP C.f7 hr rfl (ma_cons (mb_var 1) (ma_cons (mb_var 2) ma_nil))) ma_nil)) ma_nil))))) ma_nil)))
theorem b9 (M : Md K mg) (C : Al P w K mg base k) (hr : Room k (A.deeper (envOfC "tree_potential" (defScope s9) s.heap.objs.size f cdv))) : ES (cxOf CX0 P w K mg base n9 "tree_potential" (defScope s9) f cdv A outer s H E).nox (G k) FU (defBody s9) t9 := by
  have hu : ((cxOf CX0 P w K mg base n9 "tree_potential" (defScope s9) f cdv A outer s H E).nox).A.units + 64 < cLine := hr.units
  exact (ms_ret (mb_callP C.f5 hr rfl (ma_cons (mb_comp rfl sc9.nd (blkOk_by (N := n9) (sc := defScope s9) (own := [("one", 3), ("many", 4)]) (by decide +kernel)) (mi_zip2 rfl M.b_zip (ma_cons (mb_var 0) (ma_cons (mb_tup (ma_cons (mb_var 1) (ma_cons (mb_var 2) ma_nil))) ma_nil))) (fun _ _ _ _ _ => (mg_tup rfl (mg_cons (mg_name sc9.nd) (mg_cons (mg_name sc9.nd) mg_nil)))) (fun _ _ _ _ _ => mts_nil) (fun _ _ _ _ _ => (mb_callP C.f3 hr rfl (ma_cons (mb_var 3) (ma_cons (mb_callP C.f6 hr rfl (ma_cons (mb_var 4) ma_nil)) ma_nil))))) ma_nil)))
theorem b10 (M : Md K mg) (C : Al P w K mg base k) (hr : Room k (A.deeper (envOfC "nodes_of" (defScope s10) s.heap.objs.size f cdv))) : ES (cxOf CX0 P w K mg base n10 "nodes_of" (defScope s10) f cdv A outer s H E).nox (G k) FU (defBody s10) t10 := by
  have hu : ((cxOf CX0 P w K mg base n10 "nodes_of" (defScope s10) f cdv A outer s H E).nox).A.units + 64 < cLine := hr.units
  exact (ms_par rfl sc10.nd (ma_cons (mb_lstH (ma_cons (mb_tup (ma_cons (mb_var 0) (ma_cons mb_int ma_nil))) ma_nil)) (ma_cons (mb_lstH ma_nil) ma_nil)) (ms_whl PassesOwn.never (mt_cmp (cmp_ne hu) (mb_var 1) (mb_lst ma_nil)) (ms_asg (mb_pop (mb_var 1)) (mg_tup rfl (mg_cons (mg_name sc10.nd) (mg_cons (mg_name sc10.nd) mg_nil))) (ms_if (mt_cmp (cmp_eq hu) (mb_len rfl M.b_len (ma_cons (mb_var 3) ma_nil)) (mb_cst M.c_NODE)) (ms_app (mb_var 2) (mb_tup (ma_cons (mb_idx (mb_var 3) mb_int) (ma_cons (mb_var 4) ma_nil))) (ms_ext (mb_var 1) (mb_lst (ma_cons (mb_tup (ma_cons (mb_idx (mb_var 3) mb_int) (ma_cons (mb_add (mb_var 4) mb_int) ma_nil))) (ma_cons (mb_tup (ma_cons (mb_idx (mb_var 3) mb_int) (ma_cons (mb_add (mb_var 4) mb_int) ma_nil))) ma_nil))) ms_nil)) ms_nil ms_nil)) (ms_ret (mb_var 2))))
theorem b11 (M : Md K mg) (C : Al P w K mg base k) (hr : Room k (A.deeper (envOfC "potential" (defScope s11) s.heap.objs.size f cdv))) : ES (cxOf CX0 P w K mg base n11 "potential" (defScope s11) f cdv A outer s H E).nox (G k) FU (defBody s11) t11 := by
  have hu : ((cxOf CX0 P w K mg base n11 "potential" (defScope s11) f cdv A outer s H E).nox).A.units + 64 < cLine := hr.units
  exact (ms_if (mt_cmp (cmp_eq hu) (mb_idx (mb_var 0) mb_int) (mb_cst M.c_NUM)) (ms_ret (mb_cst M.c_ZERO)) ms_nil (ms_if (mt_cmp (cmp_eq hu) (mb_idx (mb_var 0) mb_int) (mb_cst M.c_LIST)) (ms_asg (mb_callP C.f5 hr rfl (ma_cons (mb_comp rfl sc11.nd (blkOk_by (N := n11) (sc := defScope s11) (own := [("one", 5)]) (by decide +kernel)) (mi_seq (mb_var 2)) (fun _ _ _ _ _ => (mg_name sc11.nd)) (fun _ _ _ _ _ => mts_nil) (fun _ _ _ _ _ => (mb_callP C.f11 hr rfl (ma_cons (mb_idx (mb_var 0) mb_int) (ma_cons (mb_idx (mb_var 1) mb_int) (ma_cons (mb_var 5) ma_nil)))))) ma_nil)) (mg_name sc11.nd) (ms_ret (mb_callP C.f2 hr rfl (ma_cons (mb_callP C.f8 hr rfl (ma_cons (mb_idx (mb_var 1) mb_int) (ma_cons (mb_len rfl M.b_len (ma_cons (mb_var 2) ma_nil)) ma_nil))) (ma_cons (mb_var 3) ma_nil))))) ms_nil (ms_if (mt_cmp (cmp_eq hu) (mb_idx (mb_var 0) mb_int) (mb_cst M.c_TREE)) (ms_asg (mb_callP C.f10 hr rfl (ma_cons (mb_var 2) ma_nil)) (mg_name sc11.nd) (ms_asg (mb_callP C.f5 hr rfl (ma_cons (mb_comp rfl sc11.nd (blkOk_by (N := n11) (sc := defScope s11) (own := [("one", 5), ("depth", 6)]) (by decide +kernel)) (mi_seq (mb_var 4)) (fun _ _ _ _ _ => (mg_tup rfl (mg_cons (mg_name sc11.nd) (mg_cons (mg_name sc11.nd) mg_nil)))) (fun _ _ _ _ _ => mts_nil) (fun _ _ _ _ _ => (mb_callP C.f11 hr rfl (ma_cons (mb_idx (mb_var 0) mb_int) (ma_cons (mb_idx (mb_var 1) mb_int) (ma_cons (mb_var 5) ma_nil)))))) ma_nil)) (mg_name sc11.nd) (ms_ret (mb_callP C.f2 hr rfl (ma_cons (mb_callP C.f9 hr rfl (ma_cons (mb_idx (mb_var 1) mb_int) (ma_cons (mb_len rfl M.b_len (ma_cons (mb_var 4) ma_nil)) (ma_cons (mb_sum rfl rfl M.b_sum (ma_cons (mb_comp rfl sc11.nd (blkOk_by (N := n11) (sc := defScope s11) (own := [("one", 5), ("depth", 6)]) (by decide +kernel)) (mi_seq (mb_var 4)) (fun _ _ _ _ _ => (mg_tup rfl (mg_cons (mg_name sc11.nd) (mg_cons (mg_name sc11.nd) mg_nil)))) (fun _ _ _ _ _ => mts_nil) (fun _ _ _ _ _ => (mb_var 6))) ma_nil)) ma_nil)))) (ma_cons (mb_var 3) ma_nil)))))) ms_nil (ms_ret (mb_callP C.f2 hr rfl (ma_cons (mb_callP C.f11 hr rfl (ma_cons (mb_idx (mb_var 0) mb_int) (ma_cons (mb_idx (mb_var 1) mb_int) (ma_cons (mb_idx (mb_var 2) mb_int) ma_nil)))) (ma_cons (mb_callP C.f11 hr rfl (ma_cons (mb_idx (mb_var 0) mb_int) (ma_cons (mb_idx (mb_var 1) mb_int) (ma_cons (mb_idx (mb_var 2) mb_int) ma_nil)))) ma_nil)))))))
theorem b12 (M : Md K mg) (C : Al P w K mg base k) (hr : Room k (A.deeper (envOfC "shifted" (defScope s12) s.heap.objs.size f cdv))) : ES (cxOf CX0 P w K mg base n12 "shifted" (defScope s12) f cdv A outer s H E).nox (G k) FU (defBody s12) t12 := by
  have hu : ((cxOf CX0 P w K mg base n12 "shifted" (defScope s12) f cdv A outer s H E).nox).A.units + 64 < cLine := hr.units
  exact (ms_ret (mb_ife (mt_cmp cmp_gt (mb_len rfl M.b_len (ma_cons (mb_var 0) ma_nil)) mb_int) (mb_tup (ma_cons (mb_callP C.f2 hr rfl (ma_cons (mb_idx (mb_var 0) mb_int) (ma_cons (mb_idx (mb_var 0) mb_int) ma_nil))) (ma_star (mb_slc (mb_var 0) (mo_some mb_int) mo_none) ma_nil))) (mb_var 0)))
theorem b13 (M : Md K mg) (C : Al P w K mg base k) (hr : Room k (A.deeper (envOfC "shifted_one" (defScope s13) s.heap.objs.size f cdv))) : ES (cxOf CX0 P w K mg base n13 "shifted_one" (defScope s13) f cdv A outer s H E).nox (G k) FU (defBody s13) t13 := by
  have hu : ((cxOf CX0 P w K mg base n13 "shifted_one" (defScope s13) f cdv A outer s H E).nox).A.units + 64 < cLine := hr.units
  exact (ms_ret (mb_tup (ma_cons (mb_callP C.f12 hr rfl (ma_cons (mb_idx (mb_var 0) mb_int) ma_nil)) (ma_cons (mb_idx (mb_var 0) mb_int) ma_nil))))
theorem b14 (M : Md K mg) (C : Al P w K mg base k) (hr : Room k (A.deeper (envOfC "numbers_in" (defScope s14) s.heap.objs.size f cdv))) : ES (cxOf CX0 P w K mg base n14 "numbers_in" (defScope s14) f cdv A outer s H E).nox (G k) FU (defBody s14) t14 := by
  have hu : ((cxOf CX0 P w K mg base n14 "numbers_in" (defScope s14) f cdv A outer s H E).nox).A.units + 64 < cLine := hr.units
  exact (ms_if (mt_cmp (cmp_eq hu) (mb_idx (mb_var 0) mb_int) (mb_cst M.c_NUM)) (ms_ret (mb_tup ma_nil)) ms_nil (ms_if (mt_cmp cmp_in (mb_idx (mb_var 0) mb_int) (mb_tup (ma_cons (mb_cst M.c_LIST) (ma_cons (mb_cst M.c_TREE) ma_nil)))) (ms_ret (mb_tup (ma_star (mb_idx (mb_var 1) mb_int) (ma_star (mb_callP C.f14 hr rfl (ma_cons (mb_idx (mb_var 0) mb_int) (ma_cons (mb_idx (mb_var 1) mb_int) ma_nil))) ma_nil)))) ms_nil (ms_ret (mb_tup (ma_star (mb_callP C.f14 hr rfl (ma_cons (mb_idx (mb_var 0) mb_int) (ma_cons (mb_idx (mb_var 1) mb_int) ma_nil))) (ma_star (mb_callP C.f14 hr rfl (ma_cons (mb_idx (mb_var 0) mb_int) (ma_cons (mb_idx (mb_var 1) mb_int) ma_nil))) ma_nil))))))
theorem b15 (M : Md K mg) (C : Al P w K mg base k) (hr : Room k (A.deeper (envOfC "width_of" (defScope s15) s.heap.objs.size f cdv))) : ES (cxOf CX0 P w K mg base n15 "width_of" (defScope s15) f cdv A outer s H E).nox (G k) FU (defBody s15) t15 := by
  have hu : ((cxOf CX0 P w K mg base n15 "width_of" (defScope s15) f cdv A outer s H E).nox).A.units + 64 < cLine := hr.units
  exact (ms_if (mt_cmp (cmp_eq hu) (mb_idx (mb_var 0) mb_int) (mb_cst M.c_NUM)) (ms_ret mb_int) ms_nil (ms_asg (mb_ife (mt_cmp cmp_in (mb_idx (mb_var 0) mb_int) (mb_tup (ma_cons (mb_cst M.c_LIST) (ma_cons (mb_cst M.c_TREE) ma_nil)))) (mb_var 1) mb_int) (mg_name sc15.nd) (ms_ret (mb_add (mb_var 2) (mb_sum rfl rfl M.b_sum (ma_cons (mb_comp rfl sc15.nd (blkOk_by (N := n15) (sc := defScope s15) (own := [("part", 3)]) (by decide +kernel)) (mi_seq (mb_slc (mb_var 0) (mo_some mb_int) mo_none)) (fun _ _ _ _ _ => (mg_name sc15.nd)) (fun _ _ _ _ _ => mts_nil) (fun _ _ _ _ _ => (mb_callP C.f15 hr rfl (ma_cons (mb_var 3) (ma_cons (mb_var 1) ma_nil))))) ma_nil))))))
theorem b16 (M : Md K mg) (C : Al P w K mg base k) (hr : Room k (A.deeper (envOfC "built" (defScope s16) s.heap.objs.size f cdv))) : ES (cxOf CX0 P w K mg base n16 "built" (defScope s16) f cdv A outer s H E).nox (G k) FU (defBody s16) t16 := by
  have hu : ((cxOf CX0 P w K mg base n16 "built" (defScope s16) f cdv A outer s H E).nox).A.units + 64 < cLine := hr.units
  exact (ms_if (mt_cmp (cmp_eq hu) (mb_idx (mb_var 0) mb_int) (mb_cst M.c_NUM)) (ms_ret (mb_tup ma_nil)) ms_nil (ms_if (mt_cmp cmp_in (mb_idx (mb_var 0) mb_int) (mb_tup (ma_cons (mb_cst M.c_LIST) (ma_cons (mb_cst M.c_TREE) ma_nil)))) (ms_ret (mb_tup (ma_cons (mb_tuple rfl M.b_tuple (ma_cons (mb_slc (mb_var 2) mo_none (mo_some (mb_var 1))) ma_nil)) (ma_cons (mb_callP C.f16 hr rfl (ma_cons (mb_idx (mb_var 0) mb_int) (ma_cons (mb_var 1) (ma_cons (mb_slc (mb_var 2) (mo_some (mb_var 1)) mo_none) ma_nil)))) ma_nil)))) ms_nil (ms_asg (mb_callP C.f15 hr rfl (ma_cons (mb_idx (mb_var 0) mb_int) (ma_cons (mb_var 1) ma_nil))) (mg_name sc16.nd) (ms_ret (mb_tup (ma_cons (mb_callP C.f16 hr rfl (ma_cons (mb_idx (mb_var 0) mb_int) (ma_cons (mb_var 1) (ma_cons (mb_slc (mb_var 2) mo_none (mo_some (mb_var 3))) ma_nil)))) (ma_cons (mb_callP C.f16 hr rfl (ma_cons (mb_idx (mb_var 0) mb_int) (ma_cons (mb_var 1) (ma_cons (mb_slc (mb_var 2) (mo_some (mb_var 3)) mo_none) ma_nil)))) ma_nil)))))))
theorem b17 (M : Md K mg) (C : Al P w K mg base k) (hr : Room k (A.deeper (envOfC "degree_in" (defScope s17) s.heap.objs.size f cdv))) : ES (cxOf CX0 P w K mg base n17 "degree_in" (defScope s17) f cdv A outer s H E).nox (G k) FU (defBody s17) t17 := by
  have hu : ((cxOf CX0 P w K mg base n17 "degree_in" (defScope s17) f cdv A outer s H E).nox).A.units + 64 < cLine := hr.units
  exact (ms_if (mt_cmp (cmp_eq hu) (mb_idx (mb_var 0) mb_int) (mb_cst M.c_NUM)) (ms_ret mb_int) ms_nil (ms_if (mt_cmp cmp_in (mb_idx (mb_var 0) mb_int) (mb_tup (ma_cons (mb_cst M.c_LIST) (ma_cons (mb_cst M.c_TREE) ma_nil)))) (ms_ret (mb_len rfl M.b_len (ma_cons (mb_idx (mb_var 1) mb_int) ma_nil))) ms_nil (ms_ret (mb_max rfl rfl M.b_max (ma_cons (mb_callP C.f17 hr rfl (ma_cons (mb_idx (mb_var 0) mb_int) (ma_cons (mb_idx (mb_var 1) mb_int) ma_nil))) (ma_cons (mb_callP C.f17 hr rfl (ma_cons (mb_idx (mb_var 0) mb_int) (ma_cons (mb_idx (mb_var 1) mb_int) ma_nil))) ma_nil))))))
theorem b18 (M : Md K mg) (C : Al P w K mg base k) (hr : Room k (A.deeper (envOfC "none_of" (defScope s18) s.heap.objs.size f cdv))) : ES (cxOf CX0 P w K mg base n18 "none_of" (defScope s18) f cdv A outer s H E).nox (G k) FU (defBody s18) t18 := by
  have hu : ((cxOf CX0 P w K mg base n18 "none_of" (defScope s18) f cdv A outer s H E).nox).A.units + 64 < cLine := hr.units
  exact (ms_ret (mb_callP C.f16 hr rfl (ma_cons (mb_var 0) (ma_cons (mb_var 1) (ma_cons (mb_mul (mb_tup (ma_cons (mb_cst M.c_ZERO) ma_nil)) (mb_callP C.f15 hr rfl (ma_cons (mb_var 0) (ma_cons (mb_var 1) ma_nil)))) ma_nil)))))
theorem b19 (M : Md K mg) (C : Al P w K mg base k) (hr : Room k (A.deeper (envOfC "shared" (defScope s19) s.heap.objs.size f cdv))) : ES (cxOf CX0 P w K mg base n19 "shared" (defScope s19) f cdv A outer s H E).nox (G k) FU (defBody s19) t19 := by
  have hu : ((cxOf CX0 P w K mg base n19 "shared" (defScope s19) f cdv A outer s H E).nox).A.units + 64 < cLine := hr.units
  exact (ms_asg (mb_lzip rfl M.b_list rfl M.b_zip (ma_cons (mb_callP C.f14 hr rfl (ma_cons (mb_var 0) (ma_cons (mb_var 1) ma_nil))) (ma_cons (mb_callP C.f14 hr rfl (ma_cons (mb_var 0) (ma_cons (mb_var 2) ma_nil))) ma_nil))) (mg_name sc19.nd) (ms_ret (mb_callP C.f16 hr rfl (ma_cons (mb_var 0) (ma_cons (mb_callP C.f17 hr rfl (ma_cons (mb_var 0) (ma_cons (mb_var 1) ma_nil))) (ma_cons (mb_tuple rfl M.b_tuple (ma_cons (mb_comp rfl sc19.nd (blkOk_by (N := n19) (sc := defScope s19) (own := [("mine", 4), ("its", 5)]) (by decide +kernel)) (mi_seq (mb_var 3)) (fun _ _ _ _ _ => (mg_tup rfl (mg_cons (mg_name sc19.nd) (mg_cons (mg_name sc19.nd) mg_nil)))) (fun _ _ _ _ _ => mts_nil) (fun _ _ _ _ _ => (mb_callP C.f2 hr rfl (ma_cons (mb_var 4) (ma_cons (mb_var 5) ma_nil))))) ma_nil)) ma_nil))))))
theorem b20 (M : Md K mg) (C : Al P w K mg base k) (hr : Room k (A.deeper (envOfC "covers" (defScope s20) s.heap.objs.size f cdv))) : ES (cxOf CX0 P w K mg base n20 "covers" (defScope s20) f cdv A outer s H E).nox (G k) FU (defBody s20) t20 := by
  have hu : ((cxOf CX0 P w K mg base n20 "covers" (defScope s20) f cdv A outer s H E).nox).A.units + 64 < cLine := hr.units
  exact (ms_ret (mb_not (mb_any rfl rfl M.b_any (ma_cons (mb_comp rfl sc20.nd (blkOk_by (N := n20) (sc := defScope s20) (own := [("mine", 3), ("its", 4)]) (by decide +kernel)) (mi_zip2 rfl M.b_zip (ma_cons (mb_callP C.f14 hr rfl (ma_cons (mb_var 0) (ma_cons (mb_var 1) ma_nil))) (ma_cons (mb_callP C.f14 hr rfl (ma_cons (mb_var 0) (ma_cons (mb_var 2) ma_nil))) ma_nil))) (fun _ _ _ _ _ => (mg_tup rfl (mg_cons (mg_name sc20.nd) (mg_cons (mg_name sc20.nd) mg_nil)))) (fun _ _ _ _ _ => mts_nil) (fun _ _ _ _ _ => (mb_callP C.f4 hr rfl (ma_cons (mb_var 3) (ma_cons (mb_var 4) ma_nil))))) ma_nil))))
theorem b21 (M : Md K mg) (C : Al P w K mg base k) (hr : Room k (A.deeper (envOfC "scaled" (defScope s21) s.heap.objs.size f cdv))) : ES (cxOf CX0 P w K mg base n21 "scaled" (defScope s21) f cdv A outer s H E).nox (G k) FU (defBody s21) t21 := by
  have hu : ((cxOf CX0 P w K mg base n21 "scaled" (defScope s21) f cdv A outer s H E).nox).A.units + 64 < cLine := hr.units
  exact (ms_asg (mb_tuple rfl M.b_tuple (ma_cons (mb_comp rfl sc21.nd (blkOk_by (N := n21) (sc := defScope s21) (own := [("one", 4)]) (by decide +kernel)) (mi_seq (mb_callP C.f14 hr rfl (ma_cons (mb_var 0) (ma_cons (mb_var 1) ma_nil)))) (fun _ _ _ _ _ => (mg_name sc21.nd)) (fun _ _ _ _ _ => mts_nil) (fun _ _ _ _ _ => (mb_callP C.f3 hr rfl (ma_cons (mb_var 4) (ma_cons (mb_var 2) ma_nil))))) ma_nil)) (mg_name sc21.nd) (ms_ret (mb_callP C.f16 hr rfl (ma_cons (mb_var 0) (ma_cons (mb_callP C.f17 hr rfl (ma_cons (mb_var 0) (ma_cons (mb_var 1) ma_nil))) (ma_cons (mb_var 3) ma_nil))))))
theorem b22 (M : Md K mg) (C : Al P w K mg base k) (hr : Room k (A.deeper (envOfC "worth_of" (defScope s22) s.heap.objs.size f cdv))) : ES (cxOf CX0 P w K mg base n22 "worth_of" (defScope s22) f cdv A outer s H E).nox (G k) FU (defBody s22) t22 := by
  have hu : ((cxOf CX0 P w K mg base n22 "worth_of" (defScope s22) f cdv A outer s H E).nox).A.units + 64 < cLine := hr.units
  exact (ms_asg (mb_var 1) (mg_tup rfl (mg_cons (mg_name sc22.nd) (mg_cons (mg_name sc22.nd) mg_nil))) (ms_setLc rfl sc22.nd (blkOk_by (N := n22) (sc := defScope s22) (own := [("kind", 6), ("one", 7), ("value", 8)]) (by decide +kernel)) (mi_zip3 rfl M.b_zip (ma_cons (mb_var 0) (ma_cons (mb_var 4) (ma_cons (mb_var 2) ma_nil)))) (fun _ _ _ _ _ => (mg_tup rfl (mg_cons (mg_name sc22.nd) (mg_cons (mg_name sc22.nd) (mg_cons (mg_name sc22.nd) mg_nil))))) (fun _ _ _ _ _ => mts_nil) (fun _ _ _ _ _ => (mb_callP C.f11 hr rfl (ma_cons (mb_var 6) (ma_cons (mb_var 7) (ma_cons (mb_var 8) ma_nil))))) (ms_ret (mb_callP C.f5 hr rfl (ma_cons (mb_lst (ma_cons (mb_var 3) (ma_star (mb_var 5) ma_nil))) ma_nil)))))
theorem b23 (M : Md K mg) (C : Al P w K mg base k) (hr : Room k (A.deeper (envOfC "sizes_of" (defScope s23) s.heap.objs.size f cdv))) : ES (cxOf CX0 P w K mg base n23 "sizes_of" (defScope s23) f cdv A outer s H E).nox (G k) FU (defBody s23) t23 := by
  have hu : ((cxOf CX0 P w K mg base n23 "sizes_of" (defScope s23) f cdv A outer s H E).nox).A.units + 64 < cLine := hr.units
  exact (ms_if (mt_cmp (cmp_eq hu) (mb_idx (mb_var 0) mb_int) (mb_cst M.c_NUM)) (ms_ret (mb_tup ma_nil)) ms_nil (ms_if (mt_cmp (cmp_eq hu) (mb_idx (mb_var 0) mb_int) (mb_cst M.c_LIST)) (ms_ret (mb_tup (ma_cons (mb_len rfl M.b_len (ma_cons (mb_var 1) ma_nil)) (ma_cons (mb_tuple rfl M.b_tuple (ma_cons (mb_comp rfl sc23.nd (blkOk_by (N := n23) (sc := defScope s23) (own := [("one", 3)]) (by decide +kernel)) (mi_seq (mb_var 1)) (fun _ _ _ _ _ => (mg_name sc23.nd)) (fun _ _ _ _ _ => mts_nil) (fun _ _ _ _ _ => (mb_callP C.f23 hr rfl (ma_cons (mb_idx (mb_var 0) mb_int) (ma_cons (mb_var 3) ma_nil))))) ma_nil)) ma_nil)))) ms_nil (ms_if (mt_cmp (cmp_eq hu) (mb_idx (mb_var 0) mb_int) (mb_cst M.c_TREE)) (ms_asg (mb_callP C.f10 hr rfl (ma_cons (mb_var 1) ma_nil)) (mg_name sc23.nd) (ms_ret (mb_tup (ma_cons (mb_len rfl M.b_len (ma_cons (mb_var 2) ma_nil)) (ma_cons (mb_sum rfl rfl M.b_sum (ma_cons (mb_comp rfl sc23.nd (blkOk_by (N := n23) (sc := defScope s23) (own := [("one", 3), ("depth", 4)]) (by decide +kernel)) (mi_seq (mb_var 2)) (fun _ _ _ _ _ => (mg_tup rfl (mg_cons (mg_name sc23.nd) (mg_cons (mg_name sc23.nd) mg_nil)))) (fun _ _ _ _ _ => mts_nil) (fun _ _ _ _ _ => (mb_var 4))) ma_nil)) (ma_cons (mb_callP C.f24 hr rfl (ma_cons (mb_var 0) (ma_cons (mb_var 1) ma_nil))) ma_nil)))))) ms_nil (ms_ret (mb_tup (ma_cons (mb_callP C.f23 hr rfl (ma_cons (mb_idx (mb_var 0) mb_int) (ma_cons (mb_idx (mb_var 1) mb_int) ma_nil))) (ma_cons (mb_callP C.f23 hr rfl (ma_cons (mb_idx (mb_var 0) mb_int) (ma_cons (mb_idx (mb_var 1) mb_int) ma_nil))) ma_nil)))))))
theorem b24 (M : Md K mg) (C : Al P w K mg base k) (hr : Room k (A.deeper (envOfC "items_in" (defScope s24) s.heap.objs.size f cdv))) : ES (cxOf CX0 P w K mg base n24 "items_in" (defScope s24) f cdv A outer s H E).nox (G k) FU (defBody s24) t24 := by
  have hu : ((cxOf CX0 P w K mg base n24 "items_in" (defScope s24) f cdv A outer s H E).nox).A.units + 64 < cLine := hr.units
  exact (ms_par rfl sc24.nd (ma_cons (mb_lstH (ma_cons (mb_tup (ma_cons (mb_var 1) (ma_cons mb_bl ma_nil))) ma_nil)) (ma_cons (mb_lstH ma_nil) ma_nil)) (ms_whl PassesOwn.never (mt_cmp (cmp_ne hu) (mb_var 2) (mb_lst ma_nil)) (ms_asg (mb_pop (mb_var 2)) (mg_tup rfl (mg_cons (mg_name sc24.nd) (mg_cons (mg_name sc24.nd) mg_nil))) (ms_if (mt_val (mb_var 5)) (ms_app (mb_var 3) (mb_callP C.f23 hr rfl (ma_cons (mb_idx (mb_var 0) mb_int) (ma_cons (mb_var 4) ma_nil))) ms_nil) (ms_if (mt_cmp (cmp_ne hu) (mb_var 4) (mb_tup ma_nil)) (ms_ext (mb_var 2) (mb_lst (ma_cons (mb_tup (ma_cons (mb_idx (mb_var 4) mb_int) (ma_cons mb_bl ma_nil))) (ma_cons (mb_tup (ma_cons (mb_idx (mb_var 4) mb_int) (ma_cons mb_bl ma_nil))) (ma_cons (mb_tup (ma_cons (mb_idx (mb_var 4) mb_int) (ma_cons mb_bl ma_nil))) ma_nil)))) ms_nil) ms_nil ms_nil) ms_nil)) (ms_ret (mb_tuple rfl M.b_tuple (ma_cons (mb_var 3) ma_nil)))))
theorem b25 (M : Md K mg) (C : Al P w K mg base k) (hr : Room k (A.deeper (envOfC "potential_by" (defScope s25) s.heap.objs.size f cdv))) : ES (cxOf CX0 P w K mg base n25 "potential_by" (defScope s25) f cdv A outer s H E).nox (G k) FU (defBody s25) t25 := by
  have hu : ((cxOf CX0 P w K mg base n25 "potential_by" (defScope s25) f cdv A outer s H E).nox).A.units + 64 < cLine := hr.units
  exact (ms_if (mt_cmp (cmp_eq hu) (mb_idx (mb_var 0) mb_int) (mb_cst M.c_NUM)) (ms_ret (mb_cst M.c_ZERO)) ms_nil (ms_if (mt_cmp cmp_in (mb_idx (mb_var 0) mb_int) (mb_tup (ma_cons (mb_cst M.c_LIST) (ma_cons (mb_cst M.c_TREE) ma_nil)))) (ms_asg (mb_callP C.f5 hr rfl (ma_cons (mb_comp rfl sc25.nd (blkOk_by (N := n25) (sc := defScope s25) (own := [("one", 4)]) (by decide +kernel)) (mi_seq (mb_idx (mb_var 2) (mb_neg mb_int))) (fun _ _ _ _ _ => (mg_name sc25.nd)) (fun _ _ _ _ _ => mts_nil) (fun _ _ _ _ _ => (mb_callP C.f25 hr rfl (ma_cons (mb_idx (mb_var 0) mb_int) (ma_cons (mb_idx (mb_var 1) mb_int) (ma_cons (mb_var 4) ma_nil)))))) ma_nil)) (mg_name sc25.nd) (ms_if (mt_cmp (cmp_eq hu) (mb_idx (mb_var 0) mb_int) (mb_cst M.c_LIST)) (ms_ret (mb_callP C.f2 hr rfl (ma_cons (mb_callP C.f8 hr rfl (ma_cons (mb_idx (mb_var 1) mb_int) (ma_cons (mb_idx (mb_var 2) mb_int) ma_nil))) (ma_cons (mb_var 3) ma_nil)))) ms_nil (ms_ret (mb_callP C.f2 hr rfl (ma_cons (mb_callP C.f9 hr rfl (ma_cons (mb_idx (mb_var 1) mb_int) (ma_cons (mb_idx (mb_var 2) mb_int) (ma_cons (mb_idx (mb_var 2) mb_int) ma_nil)))) (ma_cons (mb_var 3) ma_nil)))))) ms_nil (ms_ret (mb_callP C.f2 hr rfl (ma_cons (mb_callP C.f25 hr rfl (ma_cons (mb_idx (mb_var 0) mb_int) (ma_cons (mb_idx (mb_var 1) mb_int) (ma_cons (mb_idx (mb_var 2) mb_int) ma_nil)))) (ma_cons (mb_callP C.f25 hr rfl (ma_cons (mb_idx (mb_var 0) mb_int) (ma_cons (mb_idx (mb_var 1) mb_int) (ma_cons (mb_idx (mb_var 2) mb_int) ma_nil)))) ma_nil))))))
theorem b26 (M : Md K mg) (C : Al P w K mg base k) (hr : Room k (A.deeper (envOfC "_law_bag" (defScope s26) s.heap.objs.size f cdv))) : ES (cxOf CX0 P w K mg base n26 "_law_bag" (defScope s26) f cdv A outer s H E).nox (G k) FU (defBody s26) t26 := by
  have hu : ((cxOf CX0 P w K mg base n26 "_law_bag" (defScope s26) f cdv A outer s H E).nox).A.units + 64 < cLine := hr.units
  exact (ms_ret (mb_lstH (ma_cons mb_int (ma_cons mb_int (ma_cons mb_int (ma_cons (mb_comp rfl sc26.nd (blkOk_by (N := n26) (sc := defScope s26) (own := [("cell", 1)]) (by decide +kernel)) (mi_seq (mb_slc (mb_var 0) mo_none (mo_some mb_int))) (fun _ _ _ _ _ => (mg_name sc26.nd)) (fun _ _ _ _ _ => mts_nil) (fun _ _ _ _ _ => (mb_abs rfl M.b_abs (ma_cons (mb_var 1) ma_nil)))) ma_nil))))))
theorem b27 (M : Md K mg) (C : Al P w K mg base k) (hr : Room k (A.deeper (envOfC "_law_take" (defScope s27) s.heap.objs.size f cdv))) : ES (cxOf CX0 P w K mg base n27 "_law_take" (defScope s27) f cdv A outer s H E).nox (G k) FU (defBody s27) t27 := by
  have hu : ((cxOf CX0 P w K mg base n27 "_law_take" (defScope s27) f cdv A outer s H E).nox).A.units + 64 < cLine := hr.units
  exact (ms_if (mt_cmp (cmp_eq hu) (mb_idx (mb_var 0) mb_int) mb_int) (ms_asg (mb_idx (mb_add (mb_slc (mb_idx (mb_var 0) mb_int) (mo_some (mb_idx (mb_var 0) mb_int)) mo_none) (mb_lst (ma_cons mb_int ma_nil))) mb_int) (mg_name sc27.nd) (ms_augIx ipd_add (mb_var 0) mb_int mb_int (ms_if (mt_cmp cmp_ge (mb_var 2) (mb_pow (by unfold CPow; decide))) (ms_setIx (mb_var 0) mb_int (mb_var 2) ms_nil) ms_nil (ms_asg (mb_add (mb_add (mb_mul (mb_idx (mb_var 0) mb_int) mb_int) (mb_mod (mb_intc rfl M.b_int (ma_cons (mb_var 2) ma_nil)) mb_int)) (mb_mul mb_int (mb_idx (mb_var 0) mb_int))) (mg_name sc27.nd) (ms_setIx (mb_var 0) mb_int (mb_mod (mb_intc rfl M.b_int (ma_cons (mb_var 3) ma_nil)) mb_int) ms_nil))))) ms_nil (ms_if (mt_cmp cmp_gt (mb_idx (mb_var 0) mb_int) mb_int) (ms_asg (mb_mod (mb_intc rfl M.b_int (ma_cons (mb_idx (mb_var 0) mb_int) ma_nil)) (mb_var 1)) (mg_name sc27.nd) (ms_setIx (mb_var 0) mb_int (mb_fdiv (mb_intc rfl M.b_int (ma_cons (mb_idx (mb_var 0) mb_int) ma_nil)) (mb_var 1)) (ms_ret (mb_var 4)))) ms_nil (ms_asg (mb_mod (mb_intc rfl M.b_int (ma_cons (mb_mul (mb_add (mb_idx (mb_var 0) mb_int) mb_int) mb_int) ma_nil)) mb_int) (mg_name sc27.nd) (ms_asg (mb_mod (mb_intc rfl M.b_int (ma_cons (mb_mul (mb_mod (mb_intc rfl M.b_int (ma_cons (mb_mul (mb_var 5) (mb_var 5)) ma_nil)) mb_int) mb_int) ma_nil)) mb_int) (mg_name sc27.nd) (ms_ret (mb_mod (mb_intc rfl M.b_int (ma_cons (mb_fdiv (mb_var 6) mb_int) ma_nil)) (mb_var 1)))))))
theorem b28 (M : Md K mg) (C : Al P w K mg base k) (hr : Room k (A.deeper (envOfC "_law_some" (defScope s28) s.heap.objs.size f cdv))) : ES (cxOf CX0 P w K mg base n28 "_law_some" (defScope s28) f cdv A outer s H E).nox (G k) FU (defBody s28) t28 := by
  have hu : ((cxOf CX0 P w K mg base n28 "_law_some" (defScope s28) f cdv A outer s H E).nox).A.units + 64 < cLine := hr.units
  exact (ms_ret (mb_idx (mb_var 1) (mb_callK C.f27 hr rfl (ma_cons (mb_var 0) (ma_cons (mb_len rfl M.b_len (ma_cons (mb_var 1) ma_nil)) ma_nil)))))
theorem b29 (M : Md K mg) (C : Al P w K mg base k) (hr : Room k (A.deeper (envOfC "_law_alike" (defScope s29) s.heap.objs.size f cdv))) : ES (cxOf CX0 P w K mg base n29 "_law_alike" (defScope s29) f cdv A outer s H E).nox (G k) FU (defBody s29) t29 := by
  have hu : ((cxOf CX0 P w K mg base n29 "_law_alike" (defScope s29) f cdv A outer s H E).nox).A.units + 64 < cLine := hr.units
  exact (ms_par rfl sc29.nd (ma_cons (mb_lstH (ma_cons (mb_tup (ma_cons (mb_var 0) (ma_cons (mb_var 1) ma_nil))) ma_nil)) (ma_cons mb_int ma_nil)) (ms_whl PassesOwn.never (mt_cmp cmp_lt (mb_var 3) (mb_len rfl M.b_len (ma_cons (mb_var 2) ma_nil))) (ms_asg (mb_idx (mb_var 2) (mb_var 3)) (mg_tup rfl (mg_cons (mg_name sc29.nd) (mg_cons (mg_name sc29.nd) mg_nil))) (ms_aug sc29.nd ipd_add mb_int (ms_if (mt_w (mw_or (mt_cmp (cmp_ne hu) (mb_isi (by decide) rfl M.b_isinstance rfl M.b_bool (by decide +kernel) (mb_var 4)) (mb_isi (by decide) rfl M.b_isinstance rfl M.b_bool (by decide +kernel) (mb_var 5))) (mw_or1 (mt_cmp (cmp_ne hu) (mb_isi (by decide) rfl M.b_isinstance rfl M.b_str (by decide +kernel) (mb_var 4)) (mb_isi (by decide) rfl M.b_isinstance rfl M.b_str (by decide +kernel) (mb_var 5)))))) (ms_ret mb_bl) ms_nil (ms_if (mt_cmp (cmp_ne hu) (mb_isi2 (by decide) (by decide) rfl M.b_isinstance rfl M.b_tuple (by decide +kernel) rfl M.b_list (by decide +kernel) (mb_var 4)) (mb_isi2 (by decide) (by decide) rfl M.b_isinstance rfl M.b_tuple (by decide +kernel) rfl M.b_list (by decide +kernel) (mb_var 5))) (ms_ret mb_bl) ms_nil (ms_if (mt_val (mb_isi2 (by decide) (by decide) rfl M.b_isinstance rfl M.b_tuple (by decide +kernel) rfl M.b_list (by decide +kernel) (mb_var 4))) (ms_if (mt_w (mw_or (mt_cmp (cmp_ne hu) (mb_isi (by decide) rfl M.b_isinstance rfl M.b_tuple (by decide +kernel) (mb_var 4)) (mb_isi (by decide) rfl M.b_isinstance rfl M.b_tuple (by decide +kernel) (mb_var 5))) (mw_or1 (mt_cmp (cmp_ne hu) (mb_len rfl M.b_len (ma_cons (mb_var 4) ma_nil)) (mb_len rfl M.b_len (ma_cons (mb_var 5) ma_nil)))))) (ms_ret mb_bl) ms_nil (ms_ext (mb_var 2) (mb_lzip rfl M.b_list rfl M.b_zip (ma_cons (mb_var 4) (ma_cons (mb_var 5) ma_nil))) ms_nil)) (ms_if (mt_cmp (cmp_ne hu) (mb_var 4) (mb_var 5)) (ms_ret mb_bl) ms_nil ms_nil) ms_nil))))) (ms_ret mb_bl)))
theorem b30 (M : Md K mg) (C : Al P w K mg base k) (hr : Room k (A.deeper (envOfC "_law_is_int" (defScope s30) s.heap.objs.size f cdv))) : ES (cxOf CX0 P w K mg base n30 "_law_is_int" (defScope s30) f cdv A outer s H E).nox (G k) FU (defBody s30) t30 := by
  have hu : ((cxOf CX0 P w K mg base n30 "_law_is_int" (defScope s30) f cdv A outer s H E).nox).A.units + 64 < cLine := hr.units
  exact (ms_ret (mb_and (mb_isi (by decide) rfl M.b_isinstance rfl M.b_int (by decide +kernel) (mb_var 0)) (mb_one (mb_not (mb_isi (by decide) rfl M.b_isinstance rfl M.b_bool (by decide +kernel) (mb_var 0))))))
theorem b31 (M : Md K mg) (C : Al P w K mg base k) (hr : Room k (A.deeper (envOfC "_law_made" (defScope s31) s.heap.objs.size f cdv))) : ES (cxOf CX0 P w K mg base n31 "_law_made" (defScope s31) f cdv A outer s H E).nox (G k) FU (defBody s31) t31 := by
  have hu : ((cxOf CX0 P w K mg base n31 "_law_made" (defScope s31) f cdv A outer s H E).nox).A.units + 64 < cLine := hr.units
  exact (ms_par rfl sc31.nd (ma_cons (mb_abs rfl M.b_abs (ma_cons (mb_var 0) ma_nil)) (ma_cons (mb_abs rfl M.b_abs (ma_cons (mb_var 1) ma_nil)) ma_nil)) (ms_whl PassesOwn.never (mt_cmp cmp_gt (mb_var 3) mb_int) (ms_par rfl sc31.nd (ma_cons (mb_var 3) (ma_cons (mb_mod (mb_intc rfl M.b_int (ma_cons (mb_var 2) ma_nil)) (mb_var 3)) ma_nil)) ms_nil) (ms_asg (mb_ife (mt_cmp cmp_gt (mb_var 1) mb_int) (mb_var 2) (mb_neg (mb_var 2))) (mg_name sc31.nd) (ms_ret (mb_tup (ma_cons (mb_fdiv (mb_intc rfl M.b_int (ma_cons (mb_var 0) ma_nil)) (mb_var 2)) (ma_cons (mb_fdiv (mb_intc rfl M.b_int (ma_cons (mb_var 1) ma_nil)) (mb_var 2)) ma_nil)))))))
theorem b32 (M : Md K mg) (C : Al P w K mg base k) (hr : Room k (A.deeper (envOfC "_law_add" (defScope s32) s.heap.objs.size f cdv))) : ES (cxOf CX0 P w K mg base n32 "_law_add" (defScope s32) f cdv A outer s H E).nox (G k) FU (defBody s32) t32 := by
  have hu : ((cxOf CX0 P w K mg base n32 "_law_add" (defScope s32) f cdv A outer s H E).nox).A.units + 64 < cLine := hr.units
  exact (ms_ret (mb_callP C.f31 hr rfl (ma_cons (mb_add (mb_mul (mb_idx (mb_var 0) mb_int) (mb_idx (mb_var 1) mb_int)) (mb_mul (mb_idx (mb_var 1) mb_int) (mb_idx (mb_var 0) mb_int))) (ma_cons (mb_mul (mb_idx (mb_var 0) mb_int) (mb_idx (mb_var 1) mb_int)) ma_nil))))
theorem b33 (M : Md K mg) (C : Al P w K mg base k) (hr : Room k (A.deeper (envOfC "_law_mul" (defScope s33) s.heap.objs.size f cdv))) : ES (cxOf CX0 P w K mg base n33 "_law_mul" (defScope s33) f cdv A outer s H E).nox (G k) FU (defBody s33) t33 := by
  have hu : ((cxOf CX0 P w K mg base n33 "_law_mul" (defScope s33) f cdv A outer s H E).nox).A.units + 64 < cLine := hr.units
  exact (ms_ret (mb_callP C.f31 hr rfl (ma_cons (mb_mul (mb_idx (mb_var 0) mb_int) (mb_idx (mb_var 1) mb_int)) (ma_cons (mb_mul (mb_idx (mb_var 0) mb_int) (mb_idx (mb_var 1) mb_int)) ma_nil))))
theorem b34 (M : Md K mg) (C : Al P w K mg base k) (hr : Room k (A.deeper (envOfC "_law_less" (defScope s34) s.heap.objs.size f cdv))) : ES (cxOf CX0 P w K mg base n34 "_law_less" (defScope s34) f cdv A outer s H E).nox (G k) FU (defBody s34) t34 := by
  have hu : ((cxOf CX0 P w K mg base n34 "_law_less" (defScope s34) f cdv A outer s H E).nox).A.units + 64 < cLine := hr.units
  exact (ms_ret (mb_cmp cmp_lt (mb_mul (mb_idx (mb_var 0) mb_int) (mb_idx (mb_var 1) mb_int)) (mb_mul (mb_idx (mb_var 1) mb_int) (mb_idx (mb_var 0) mb_int))))
theorem b35 (M : Md K mg) (C : Al P w K mg base k) (hr : Room k (A.deeper (envOfC "_law_value" (defScope s35) s.heap.objs.size f cdv))) : ES (cxOf CX0 P w K mg base n35 "_law_value" (defScope s35) f cdv A outer s H E).nox (G k) FU (defBody s35) t35 := by
  have hu : ((cxOf CX0 P w K mg base n35 "_law_value" (defScope s35) f cdv A outer s H E).nox).A.units + 64 < cLine := hr.units
  exact (ms_if (mt_cmp (cmp_eq hu) (mb_idx (mb_var 1) mb_int) mb_str) (ms_ret (mb_callK C.f28 hr rfl (ma_cons (mb_var 0) (ma_cons (mb_lst (ma_cons mb_int (ma_cons mb_int (ma_cons mb_int (ma_cons (mb_callK C.f27 hr rfl (ma_cons (mb_var 0) (ma_cons mb_int ma_nil))) ma_nil))))) ma_nil)))) ms_nil (ms_if (mt_cmp (cmp_eq hu) (mb_idx (mb_var 1) mb_int) mb_str) (ms_ret (mb_tup (ma_cons (mb_callK C.f35 hr rfl (ma_cons (mb_var 0) (ma_cons (mb_idx (mb_var 1) mb_int) (ma_cons (mb_var 2) ma_nil)))) (ma_cons (mb_callK C.f35 hr rfl (ma_cons (mb_var 0) (ma_cons (mb_idx (mb_var 1) mb_int) (ma_cons (mb_var 2) ma_nil)))) ma_nil)))) ms_nil (ms_asg (mb_tup ma_nil) (mg_name sc35.nd) (ms_for PassesOwn.never rfl (mi_rng1 rfl M.b_range (ma_cons (mb_callK C.f27 hr rfl (ma_cons (mb_var 0) (ma_cons (mb_add (mb_var 2) mb_int) ma_nil))) ma_nil)) (mg_name sc35.nd) (ms_asg (mb_callK C.f35 hr rfl (ma_cons (mb_var 0) (ma_cons (mb_idx (mb_var 1) mb_int) (ma_cons (mb_max rfl rfl M.b_max (ma_cons mb_int (ma_cons (mb_sub (mb_var 2) mb_int) ma_nil))) ma_nil)))) (mg_name sc35.nd) (ms_if (mt_cmp (cmp_eq hu) (mb_idx (mb_var 1) mb_int) mb_str) (ms_asg (mb_add (mb_tup (ma_cons (mb_var 5) ma_nil)) (mb_var 3)) (mg_name sc35.nd) ms_nil) (ms_asg (mb_ife (mt_cmp (cmp_eq hu) (mb_callK C.f27 hr rfl (ma_cons (mb_var 0) (ma_cons mb_int ma_nil))) mb_int) (mb_tup (ma_cons (mb_var 3) (ma_cons (mb_var 5) (ma_cons (mb_tup ma_nil) ma_nil)))) (mb_tup (ma_cons (mb_tup ma_nil) (ma_cons (mb_var 5) (ma_cons (mb_var 3) ma_nil))))) (mg_name sc35.nd) ms_nil) ms_nil)) (ms_ret (mb_var 3))))))
theorem b36 (M : Md K mg) (C : Al P w K mg base k) (hr : Room k (A.deeper (envOfC "_law_nodes" (defScope s36) s.heap.objs.size f cdv))) : ES (cxOf CX0 P w K mg base n36 "_law_nodes" (defScope s36) f cdv A outer s H E).nox (G k) FU (defBody s36) t36 := by
  have hu : ((cxOf CX0 P w K mg base n36 "_law_nodes" (defScope s36) f cdv A outer s H E).nox).A.units + 64 < cLine := hr.units
  exact (ms_if (mt_cmp (cmp_eq hu) (mb_var 0) (mb_tup ma_nil)) (ms_ret (mb_lst ma_nil)) ms_nil (ms_ret (mb_add (mb_add (mb_callP C.f36 hr rfl (ma_cons (mb_idx (mb_var 0) mb_int) (ma_cons (mb_add (mb_var 1) mb_int) ma_nil))) (mb_lst (ma_cons (mb_tup (ma_cons (mb_idx (mb_var 0) mb_int) (ma_cons (mb_var 1) ma_nil))) ma_nil))) (mb_callP C.f36 hr rfl (ma_cons (mb_idx (mb_var 0) mb_int) (ma_cons (mb_add (mb_var 1) mb_int) ma_nil))))))
theorem b37 (M : Md K mg) (C : Al P w K mg base k) (hr : Room k (A.deeper (envOfC "_law_potential" (defScope s37) s.heap.objs.size f cdv))) : ES (cxOf CX0 P w K mg base n37 "_law_potential" (defScope s37) f cdv A outer s H E).nox (G k) FU (defBody s37) t37 := by
  have hu : ((cxOf CX0 P w K mg base n37 "_law_potential" (defScope s37) f cdv A outer s H E).nox).A.units + 64 < cLine := hr.units
  exact (ms_if (mt_cmp (cmp_eq hu) (mb_idx (mb_var 0) mb_int) mb_str) (ms_ret (mb_tup (ma_cons mb_int (ma_cons mb_int ma_nil)))) ms_nil (ms_if (mt_cmp (cmp_eq hu) (mb_idx (mb_var 0) mb_int) mb_str) (ms_ret (mb_callP C.f32 hr rfl (ma_cons (mb_callP C.f37 hr rfl (ma_cons (mb_idx (mb_var 0) mb_int) (ma_cons (mb_idx (mb_var 1) mb_int) (ma_cons (mb_idx (mb_var 2) mb_int) ma_nil)))) (ma_cons (mb_callP C.f37 hr rfl (ma_cons (mb_idx (mb_var 0) mb_int) (ma_cons (mb_idx (mb_var 1) mb_int) (ma_cons (mb_idx (mb_var 2) mb_int) ma_nil)))) ma_nil)))) ms_nil (ms_asg (mb_list rfl M.b_list (ma_cons (mb_var 2) ma_nil)) (mg_name sc37.nd) (ms_asg (mb_lst (ma_cons (mb_len rfl M.b_len (ma_cons (mb_var 3) ma_nil)) (ma_cons (mb_fdiv (mb_intc rfl M.b_int (ma_cons (mb_mul (mb_len rfl M.b_len (ma_cons (mb_var 3) ma_nil)) (mb_sub (mb_len rfl M.b_len (ma_cons (mb_var 3) ma_nil)) mb_int)) ma_nil)) mb_int) ma_nil))) (mg_name sc37.nd) (ms_if (mt_cmp (cmp_eq hu) (mb_idx (mb_var 0) mb_int) mb_str) (ms_asg (mb_callP C.f36 hr rfl (ma_cons (mb_var 2) (ma_cons mb_int ma_nil))) (mg_name sc37.nd) (ms_setLc rfl sc37.nd (blkOk_by (N := n37) (sc := defScope s37) (own := [("item", 9), ("depth", 10)]) (by decide +kernel)) (mi_seq (mb_var 5)) (fun _ _ _ _ _ => (mg_tup rfl (mg_cons (mg_name sc37.nd) (mg_cons (mg_name sc37.nd) mg_nil)))) (fun _ _ _ _ _ => mts_nil) (fun _ _ _ _ _ => (mb_var 9)) (ms_asg (mb_lst (ma_cons (mb_len rfl M.b_len (ma_cons (mb_var 5) ma_nil)) (ma_cons (mb_sum rfl rfl M.b_sum (ma_cons (mb_comp rfl sc37.nd (blkOk_by (N := n37) (sc := defScope s37) (own := [("item", 9), ("depth", 10)]) (by decide +kernel)) (mi_seq (mb_var 5)) (fun _ _ _ _ _ => (mg_tup rfl (mg_cons (mg_name sc37.nd) (mg_cons (mg_name sc37.nd) mg_nil)))) (fun _ _ _ _ _ => mts_nil) (fun _ _ _ _ _ => (mb_var 10))) ma_nil)) ma_nil))) (mg_name sc37.nd) ms_nil))) ms_nil (ms_asg (mb_tup (ma_cons mb_int (ma_cons mb_int ma_nil))) (mg_name sc37.nd) (ms_for PassesOwn.never rfl (mi_zip2 rfl M.b_zip (ma_cons (mb_idx (mb_var 1) mb_int) (ma_cons (mb_var 4) ma_nil))) (mg_tup rfl (mg_cons (mg_name sc37.nd) (mg_cons (mg_name sc37.nd) mg_nil))) (ms_asg (mb_callP C.f32 hr rfl (ma_cons (mb_var 6) (ma_cons (mb_callP C.f33 hr rfl (ma_cons (mb_var 7) (ma_cons (mb_tup (ma_cons (mb_var 8) (ma_cons mb_int ma_nil))) ma_nil))) ma_nil))) (mg_name sc37.nd) ms_nil) (ms_for PassesOwn.never rfl (mi_seq (mb_var 3)) (mg_name sc37.nd) (ms_asg (mb_callP C.f32 hr rfl (ma_cons (mb_var 6) (ma_cons (mb_callP C.f37 hr rfl (ma_cons (mb_idx (mb_var 0) mb_int) (ma_cons (mb_idx (mb_var 1) mb_int) (ma_cons (mb_var 9) ma_nil)))) ma_nil))) (mg_name sc37.nd) ms_nil) (ms_ret (mb_var 6))))))))))
theorem b38 (M : Md K mg) (C : Al P w K mg base k) (hr : Room k (A.deeper (envOfC "_law_flat" (defScope s38) s.heap.objs.size f cdv))) : ES (cxOf CX0 P w K mg base n38 "_law_flat" (defScope s38) f cdv A outer s H E).nox (G k) FU (defBody s38) t38 := by
  have hu : ((cxOf CX0 P w K mg base n38 "_law_flat" (defScope s38) f cdv A outer s H E).nox).A.units + 64 < cLine := hr.units
  exact (ms_if (mt_cmp (cmp_eq hu) (mb_var 0) (mb_tup ma_nil)) (ms_ret (mb_lst ma_nil)) ms_nil (ms_if (mt_w (mw_and (mt_cmp (cmp_eq hu) (mb_len rfl M.b_len (ma_cons (mb_var 0) ma_nil)) mb_int) (mw_and1 (mt_val (mb_callP C.f30 hr rfl (ma_cons (mb_idx (mb_var 0) mb_int) ma_nil)))))) (ms_ret (mb_lst (ma_cons (mb_var 0) ma_nil))) ms_nil (ms_asg (mb_lst ma_nil) (mg_name sc38.nd) (ms_for PassesOwn.never rfl (mi_seq (mb_var 0)) (mg_name sc38.nd) (ms_asg (mb_add (mb_var 1) (mb_callP C.f38 hr rfl (ma_cons (mb_var 2) ma_nil))) (mg_name sc38.nd) ms_nil) (ms_ret (mb_var 1))))))
theorem b39 (M : Md K mg) (C : Al P w K mg base k) (hr : Room k (A.deeper (envOfC "_law_covers" (defScope s39) s.heap.objs.size f cdv))) : ES (cxOf CX0 P w K mg base n39 "_law_covers" (defScope s39) f cdv A outer s H E).nox (G k) FU (defBody s39) t39 := by
  have hu : ((cxOf CX0 P w K mg base n39 "_law_covers" (defScope s39) f cdv A outer s H E).nox).A.units + 64 < cLine := hr.units
  exact (ms_ret (mb_cmp (cmp_eq hu) (mb_comp rfl sc39.nd (blkOk_by (N := n39) (sc := defScope s39) (own := [("mine", 2), ("its", 3)]) (by decide +kernel)) (mi_zip2 rfl M.b_zip (ma_cons (mb_callP C.f38 hr rfl (ma_cons (mb_var 0) ma_nil)) (ma_cons (mb_callP C.f38 hr rfl (ma_cons (mb_var 1) ma_nil)) ma_nil))) (fun _ _ _ _ _ => (mg_tup rfl (mg_cons (mg_name sc39.nd) (mg_cons (mg_name sc39.nd) mg_nil)))) (fun _ _ _ _ _ => (mts_one (mt_val (mb_callP C.f34 hr rfl (ma_cons (mb_var 2) (ma_cons (mb_var 3) ma_nil)))))) (fun _ _ _ _ _ => mb_int)) (mb_lst ma_nil)))
theorem b40 (M : Md K mg) (C : Al P w K mg base k) (hr : Room k (A.deeper (envOfC "_law_widths" (defScope s40) s.heap.objs.size f cdv))) : ES (cxOf CX0 P w K mg base n40 "_law_widths" (defScope s40) f cdv A outer s H E).nox (G k) FU (defBody s40) t40 := by
  have hu : ((cxOf CX0 P w K mg base n40 "_law_widths" (defScope s40) f cdv A outer s H E).nox).A.units + 64 < cLine := hr.units
  exact (ms_asg (mb_ife (mt_cmp cmp_in (mb_idx (mb_var 0) mb_int) (mb_tup (ma_cons mb_str (ma_cons mb_str ma_nil)))) (mb_var 1) mb_int) (mg_name sc40.nd) (ms_ret (mb_add (mb_var 2) (mb_sum rfl rfl M.b_sum (ma_cons (mb_comp rfl sc40.nd (blkOk_by (N := n40) (sc := defScope s40) (own := [("part", 3)]) (by decide +kernel)) (mi_seq (mb_slc (mb_var 0) (mo_some mb_int) mo_none)) (fun _ _ _ _ _ => (mg_name sc40.nd)) (fun _ _ _ _ _ => mts_nil) (fun _ _ _ _ _ => (mb_callP C.f40 hr rfl (ma_cons (mb_var 3) (ma_cons (mb_var 1) ma_nil))))) ma_nil)))))
theorem b41 (M : Md K mg) (C : Al P w K mg base k) (hr : Room k (A.deeper (envOfC "_law_drawn_kind" (defScope s41) s.heap.objs.size f cdv))) : ES (cxOf CX0 P w K mg base n41 "_law_drawn_kind" (defScope s41) f cdv A outer s H E).nox (G k) FU (defBody s41) t41 := by
  have hu : ((cxOf CX0 P w K mg base n41 "_law_drawn_kind" (defScope s41) f cdv A outer s H E).nox).A.units + 64 < cLine := hr.units
  exact (ms_asg (mb_callK C.f27 hr rfl (ma_cons (mb_var 0) (ma_cons mb_int ma_nil))) (mg_name sc41.nd) (ms_if (mt_w (mw_or (mt_cmp cmp_lt (mb_var 2) mb_int) (mw_or1 (mt_cmp cmp_lt (mb_var 1) mb_int)))) (ms_ret (mb_tup (ma_cons (mb_ife (mt_cmp (cmp_eq hu) (mb_callK C.f27 hr rfl (ma_cons (mb_var 0) (ma_cons mb_int ma_nil))) mb_int) mb_str mb_str) (ma_cons (mb_tup (ma_cons mb_str ma_nil)) ma_nil)))) ms_nil (ms_asg (mb_callK C.f41 hr rfl (ma_cons (mb_var 0) (ma_cons (mb_sub (mb_var 1) mb_int) ma_nil))) (mg_name sc41.nd) (ms_if (mt_cmp (cmp_eq hu) (mb_var 2) mb_int) (ms_asg (mb_ife (mt_cmp (cmp_eq hu) (mb_callK C.f27 hr rfl (ma_cons (mb_var 0) (ma_cons mb_int ma_nil))) mb_int) (mb_tup (ma_cons mb_str ma_nil)) (mb_callK C.f41 hr rfl (ma_cons (mb_var 0) (ma_cons (mb_sub (mb_var 1) mb_int) ma_nil)))) (mg_name sc41.nd) (ms_ret (mb_ife (mt_cmp (cmp_eq hu) (mb_callK C.f27 hr rfl (ma_cons (mb_var 0) (ma_cons mb_int ma_nil))) mb_int) (mb_tup (ma_cons mb_str (ma_cons (mb_var 3) (ma_cons (mb_var 4) ma_nil)))) (mb_tup (ma_cons mb_str (ma_cons (mb_var 4) (ma_cons (mb_var 3) ma_nil))))))) ms_nil (ms_ret (mb_tup (ma_cons (mb_ife (mt_cmp (cmp_eq hu) (mb_var 2) mb_int) mb_str mb_str) (ma_cons (mb_var 3) ma_nil))))))))
theorem b42 (M : Md K mg) (C : Al P w K mg base k) (hr : Room k (A.deeper (envOfC "_law_numbers_of" (defScope s42) s.heap.objs.size f cdv))) : ES (cxOf CX0 P w K mg base n42 "_law_numbers_of" (defScope s42) f cdv A outer s H E).nox (G k) FU (defBody s42) t42 := by
  have hu : ((cxOf CX0 P w K mg base n42 "_law_numbers_of" (defScope s42) f cdv A outer s H E).nox).A.units + 64 < cLine := hr.units
  exact (ms_ret (mb_tuple rfl M.b_tuple (ma_cons (mb_comp rfl sc42.nd (blkOk_by (N := n42) (sc := defScope s42) (own := [("at", 3)]) (by decide +kernel)) (mi_rng1 rfl M.b_range (ma_cons (mb_callP C.f40 hr rfl (ma_cons (mb_var 1) (ma_cons (mb_var 2) ma_nil))) ma_nil)) (fun _ _ _ _ _ => (mg_name sc42.nd)) (fun _ _ _ _ _ => mts_nil) (fun _ _ _ _ _ => (mb_callP C.f31 hr rfl (ma_cons (mb_callK C.f27 hr rfl (ma_cons (mb_var 0) (ma_cons mb_int ma_nil))) (ma_cons (mb_add mb_int (mb_callK C.f27 hr rfl (ma_cons (mb_var 0) (ma_cons mb_int ma_nil)))) ma_nil))))) ma_nil)))
theorem b43 (M : Md K mg) (C : Al P w K mg base k) (hr : Room k (A.deeper (envOfC "_law_leaves" (defScope s43) s.heap.objs.size f cdv))) : ES (cxOf CX0 P w K mg base n43 "_law_leaves" (defScope s43) f cdv A outer s H E).nox (G k) FU (defBody s43) t43 := by
  have hu : ((cxOf CX0 P w K mg base n43 "_law_leaves" (defScope s43) f cdv A outer s H E).nox).A.units + 64 < cLine := hr.units
  exact (ms_if (mt_cmp (cmp_eq hu) (mb_var 0) (mb_tup ma_nil)) (ms_ret (mb_lst (ma_cons (mb_var 1) ma_nil))) ms_nil (ms_ret (mb_add (mb_callP C.f43 hr rfl (ma_cons (mb_idx (mb_var 0) mb_int) (ma_cons (mb_add (mb_var 1) mb_int) ma_nil))) (mb_callP C.f43 hr rfl (ma_cons (mb_idx (mb_var 0) mb_int) (ma_cons (mb_add (mb_var 1) mb_int) ma_nil))))))
theorem b44 (M : Md K mg) (C : Al P w K mg base k) (hr : Room k (A.deeper (envOfC "_law_grafted" (defScope s44) s.heap.objs.size f cdv))) : ES (cxOf CX0 P w K mg base n44 "_law_grafted" (defScope s44) f cdv A outer s H E).nox (G k) FU (defBody s44) t44 := by
  have hu : ((cxOf CX0 P w K mg base n44 "_law_grafted" (defScope s44) f cdv A outer s H E).nox).A.units + 64 < cLine := hr.units
  exact (ms_if (mt_cmp (cmp_eq hu) (mb_var 0) (mb_tup ma_nil)) (ms_ret (mb_tup (ma_cons (mb_ife (mt_cmp (cmp_eq hu) (mb_var 1) mb_int) (mb_var 2) (mb_tup ma_nil)) (ma_cons mb_int ma_nil)))) ms_nil (ms_asg (mb_callP C.f44 hr rfl (ma_cons (mb_idx (mb_var 0) mb_int) (ma_cons (mb_var 1) (ma_cons (mb_var 2) ma_nil)))) (mg_tup rfl (mg_cons (mg_name sc44.nd) (mg_cons (mg_name sc44.nd) mg_nil))) (ms_asg (mb_callP C.f44 hr rfl (ma_cons (mb_idx (mb_var 0) mb_int) (ma_cons (mb_sub (mb_var 1) (mb_var 4)) (ma_cons (mb_var 2) ma_nil)))) (mg_tup rfl (mg_cons (mg_name sc44.nd) (mg_cons (mg_name sc44.nd) mg_nil))) (ms_ret (mb_tup (ma_cons (mb_tup (ma_cons (mb_var 3) (ma_cons (mb_idx (mb_var 0) mb_int) (ma_cons (mb_var 5) ma_nil)))) (ma_cons (mb_add (mb_var 4) (mb_var 6)) ma_nil)))))))
theorem b45 (M : Md K mg) (C : Al P w K mg base k) (hr : Room k (A.deeper (envOfC "_law_is_worth" (defScope s45) s.heap.objs.size f cdv))) : ES (cxOf CX0 P w K mg base n45 "_law_is_worth" (defScope s45) f cdv A outer s H E).nox (G k) FU (defBody s45) t45 := by
  have hu : ((cxOf CX0 P w K mg base n45 "_law_is_worth" (defScope s45) f cdv A outer s H E).nox).A.units + 64 < cLine := hr.units
  exact (ms_asg (mb_lstH (ma_cons (mb_callP C.f11 hr rfl (ma_cons (mb_var 0) (ma_cons (mb_var 1) (ma_cons (mb_var 2) ma_nil)))) (ma_cons (mb_callP C.f25 hr rfl (ma_cons (mb_var 0) (ma_cons (mb_var 1) (ma_cons (mb_callP C.f23 hr rfl (ma_cons (mb_var 0) (ma_cons (mb_var 2) ma_nil))) ma_nil)))) ma_nil))) (mg_name sc45.nd) (ms_app (mb_var 4) (mb_callP C.f22 hr rfl (ma_cons (mb_tup (ma_cons (mb_var 0) ma_nil)) (ma_cons (mb_tup (ma_cons (mb_tup (ma_cons mb_int (ma_cons mb_int ma_nil))) (ma_cons (mb_tup (ma_cons (mb_var 1) ma_nil)) ma_nil))) (ma_cons (mb_tup (ma_cons (mb_var 2) ma_nil)) ma_nil)))) (ms_ret (mb_and (mb_callB C.f29 hr rfl (ma_cons (mb_var 4) (ma_cons (mb_lst (ma_cons (mb_var 3) (ma_cons (mb_var 3) (ma_cons (mb_var 3) ma_nil)))) ma_nil))) (mb_one (mb_cmp (cmp_eq hu) (mb_callP C.f37 hr rfl (ma_cons (mb_var 0) (ma_cons (mb_var 1) (ma_cons (mb_var 2) ma_nil)))) (mb_var 3)))))))
theorem b46 (M : Md K mg) (C : Al P w K mg base k) (hr : Room k (A.deeper (envOfC "_law_second" (defScope s46) s.heap.objs.size f cdv))) : ES (cxOf CX0 P w K mg base n46 "_law_second" (defScope s46) f cdv A outer s H E).nox (G k) FU (defBody s46) t46 := by
  have hu : ((cxOf CX0 P w K mg base n46 "_law_second" (defScope s46) f cdv A outer s H E).nox).A.units + 64 < cLine := hr.units
  exact (ms_ret (mb_ife (mt_cmp (cmp_eq hu) (mb_var 1) mb_int) (mb_callP C.f33 hr rfl (ma_cons (mb_idx (mb_idx (mb_var 0) mb_int) mb_int) (ma_cons (mb_tup (ma_cons (mb_var 2) (ma_cons mb_int ma_nil))) ma_nil))) (mb_tup (ma_cons mb_int (ma_cons mb_int ma_nil)))))
theorem b47 (M : Md K mg) (C : Al P w K mg base k) (hr : Room k (A.deeper (envOfC "_law_put_together_good" (defScope s47) s.heap.objs.size f cdv))) : ES (cxOf CX0 P w K mg base n47 "_law_put_together_good" (defScope s47) f cdv A outer s H E).nox (G k) FU (defBody s47) t47 := by
  have hu : ((cxOf CX0 P w K mg base n47 "_law_put_together_good" (defScope s47) f cdv A outer s H E).nox).A.units + 64 < cLine := hr.units
  exact (ms_par rfl sc47.nd (ma_cons (mb_callK C.f35 hr rfl (ma_cons (mb_var 0) (ma_cons (mb_var 1) (ma_cons mb_int ma_nil)))) (ma_cons (mb_callK C.f35 hr rfl (ma_cons (mb_var 0) (ma_cons (mb_var 1) (ma_cons mb_int ma_nil)))) ma_nil)) (ms_asg (mb_callP C.f32 hr rfl (ma_cons (mb_callP C.f37 hr rfl (ma_cons (mb_var 1) (ma_cons (mb_var 3) (ma_cons (mb_var 4) ma_nil)))) (ma_cons (mb_callP C.f37 hr rfl (ma_cons (mb_var 1) (ma_cons (mb_var 3) (ma_cons (mb_var 5) ma_nil)))) ma_nil))) (mg_name sc47.nd) (ms_par rfl sc47.nd (ma_cons (mb_callK C.f35 hr rfl (ma_cons (mb_var 0) (ma_cons (mb_idx (mb_var 1) mb_int) (ma_cons mb_int ma_nil)))) (ma_cons (mb_callP C.f37 hr rfl (ma_cons (mb_var 1) (ma_cons (mb_callP C.f13 hr rfl (ma_cons (mb_var 3) ma_nil)) (ma_cons (mb_var 4) ma_nil)))) ma_nil)) (ms_asg (mb_callP C.f32 hr rfl (ma_cons (mb_idx (mb_idx (mb_var 3) mb_int) mb_int) (ma_cons (mb_callP C.f32 hr rfl (ma_cons (mb_callP C.f37 hr rfl (ma_cons (mb_idx (mb_var 1) mb_int) (ma_cons (mb_idx (mb_var 3) mb_int) (ma_cons (mb_var 7) ma_nil)))) (ma_cons (mb_var 8) ma_nil))) ma_nil))) (mg_name sc47.nd) (ms_if (mt_cmp (cmp_eq hu) (mb_idx (mb_var 1) mb_int) mb_str) (ms_asg (mb_mul (mb_len rfl M.b_len (ma_cons (mb_var 4) ma_nil)) (mb_len rfl M.b_len (ma_cons (mb_var 5) ma_nil))) (mg_name sc47.nd) (ms_if (mt_not (mt_val (mb_callP C.f45 hr rfl (ma_cons (mb_var 1) (ma_cons (mb_var 3) (ma_cons (mb_add (mb_var 4) (mb_var 5)) (ma_cons (mb_callP C.f32 hr rfl (ma_cons (mb_var 6) (ma_cons (mb_callP C.f46 hr rfl (ma_cons (mb_var 3) (ma_cons (mb_var 2) (ma_cons (mb_var 10) ma_nil)))) ma_nil))) ma_nil))))))) (ms_ret mb_bl) ms_nil (ms_ret (mb_and (mb_callP C.f45 hr rfl (ma_cons (mb_var 1) (ma_cons (mb_var 3) (ma_cons (mb_add (mb_tup (ma_cons (mb_var 7) ma_nil)) (mb_var 4)) (ma_cons (mb_var 9) ma_nil))))) (mb_one (mb_callP C.f45 hr rfl (ma_cons (mb_var 1) (ma_cons (mb_var 3) (ma_cons (mb_add (mb_var 4) (mb_tup (ma_cons (mb_var 7) ma_nil))) (ma_cons (mb_var 9) ma_nil)))))))))) ms_nil (ms_asg (mb_callP C.f43 hr rfl (ma_cons (mb_var 4) (ma_cons mb_int ma_nil))) (mg_name sc47.nd) (ms_asg (mb_callK C.f27 hr rfl (ma_cons (mb_var 0) (ma_cons (mb_len rfl M.b_len (ma_cons (mb_var 11) ma_nil)) ma_nil))) (mg_name sc47.nd) (ms_asg (mb_idx (mb_callP C.f44 hr rfl (ma_cons (mb_var 4) (ma_cons (mb_var 12) (ma_cons (mb_var 5) ma_nil)))) mb_int) (mg_name sc47.nd) (ms_asg (mb_mul (mb_idx (mb_var 11) (mb_var 12)) (mb_len rfl M.b_len (ma_cons (mb_callP C.f36 hr rfl (ma_cons (mb_var 5) (ma_cons mb_int ma_nil))) ma_nil))) (mg_name sc47.nd) (ms_if (mt_not (mt_val (mb_callP C.f45 hr rfl (ma_cons (mb_var 1) (ma_cons (mb_var 3) (ma_cons (mb_var 13) (ma_cons (mb_callP C.f32 hr rfl (ma_cons (mb_var 6) (ma_cons (mb_callP C.f46 hr rfl (ma_cons (mb_var 3) (ma_cons (mb_var 2) (ma_cons (mb_var 10) ma_nil)))) ma_nil))) ma_nil))))))) (ms_ret mb_bl) ms_nil (ms_asg (mb_callP C.f32 hr rfl (ma_cons (mb_var 9) (ma_cons (mb_callP C.f37 hr rfl (ma_cons (mb_var 1) (ma_cons (mb_callP C.f13 hr rfl (ma_cons (mb_var 3) ma_nil)) (ma_cons (mb_var 5) ma_nil)))) ma_nil))) (mg_name sc47.nd) (ms_ret (mb_and (mb_callP C.f45 hr rfl (ma_cons (mb_var 1) (ma_cons (mb_var 3) (ma_cons (mb_tup (ma_cons (mb_var 4) (ma_cons (mb_var 7) (ma_cons (mb_var 5) ma_nil)))) (ma_cons (mb_var 9) ma_nil))))) (mb_one (mb_callP C.f45 hr rfl (ma_cons (mb_var 1) (ma_cons (mb_var 3) (ma_cons (mb_tup (ma_cons (mb_var 5) (ma_cons (mb_var 7) (ma_cons (mb_var 4) ma_nil)))) (ma_cons (mb_var 9) ma_nil)))))))))))))))))))
theorem b48 (M : Md K mg) (C : Al P w K mg base k) (hr : Room k (A.deeper (envOfC "law" (defScope s48) s.heap.objs.size f cdv))) : ES (cxOf CX0 P w K mg base n48 "law" (defScope s48) f cdv A outer s H E).nox (G k) FU (defBody s48) t48 := by
  have hu : ((cxOf CX0 P w K mg base n48 "law" (defScope s48) f cdv A outer s H E).nox).A.units + 64 < cLine := hr.units
  exact (ms_asg (mb_callK C.f26 hr rfl (ma_cons (mb_var 0) ma_nil)) (mg_name sc48.nd) (ms_for PassesOwn.never rfl (mi_rng1 rfl M.b_range (ma_cons mb_int ma_nil)) (mg_name sc48.nd) (ms_par rfl sc48.nd (ma_cons (mb_add mb_int (mb_callK C.f27 hr rfl (ma_cons (mb_var 1) (ma_cons mb_int ma_nil)))) (ma_cons (mb_callK C.f41 hr rfl (ma_cons (mb_var 1) (ma_cons mb_int ma_nil))) ma_nil)) (ms_asg (mb_callK C.f42 hr rfl (ma_cons (mb_var 1) (ma_cons (mb_var 4) (ma_cons (mb_var 3) ma_nil)))) (mg_name sc48.nd) (ms_asg (mb_callP C.f16 hr rfl (ma_cons (mb_var 4) (ma_cons (mb_var 3) (ma_cons (mb_var 5) ma_nil)))) (mg_name sc48.nd) (ms_if (mt_not (mt_val (mb_callP C.f29 hr rfl (ma_cons (mb_lst (ma_cons (mb_callP C.f14 hr rfl (ma_cons (mb_var 4) (ma_cons (mb_var 6) ma_nil))) (ma_cons (mb_callP C.f15 hr rfl (ma_cons (mb_var 4) (ma_cons (mb_var 3) ma_nil))) ma_nil))) (ma_cons (mb_lst (ma_cons (mb_var 5) (ma_cons (mb_len rfl M.b_len (ma_cons (mb_var 5) ma_nil)) ma_nil))) ma_nil))))) (ms_ret mb_bl) ms_nil (ms_par rfl sc48.nd (ma_cons (mb_callP C.f16 hr rfl (ma_cons (mb_var 4) (ma_cons (mb_var 3) (ma_cons (mb_callK C.f42 hr rfl (ma_cons (mb_var 1) (ma_cons (mb_var 4) (ma_cons (mb_var 3) ma_nil)))) ma_nil)))) (ma_cons (mb_callP C.f31 hr rfl (ma_cons (mb_callK C.f27 hr rfl (ma_cons (mb_var 1) (ma_cons mb_int ma_nil))) (ma_cons (mb_add mb_int (mb_callK C.f27 hr rfl (ma_cons (mb_var 1) (ma_cons mb_int ma_nil)))) ma_nil))) ma_nil)) (ms_asg (mb_callK C.f35 hr rfl (ma_cons (mb_var 1) (ma_cons (mb_var 4) (ma_cons mb_int ma_nil)))) (mg_name sc48.nd) (ms_par rfl sc48.nd (ma_cons (mb_callP C.f37 hr rfl (ma_cons (mb_var 4) (ma_cons (mb_var 6) (ma_cons (mb_var 9) ma_nil)))) (ma_cons (mb_callP C.f37 hr rfl (ma_cons (mb_var 4) (ma_cons (mb_var 7) (ma_cons (mb_var 9) ma_nil)))) ma_nil)) (ms_if (mt_not (mt_val (mb_callP C.f45 hr rfl (ma_cons (mb_var 4) (ma_cons (mb_callP C.f19 hr rfl (ma_cons (mb_var 4) (ma_cons (mb_var 6) (ma_cons (mb_var 7) ma_nil)))) (ma_cons (mb_var 9) (ma_cons (mb_callP C.f32 hr rfl (ma_cons (mb_var 10) (ma_cons (mb_var 11) ma_nil))) ma_nil))))))) (ms_ret mb_bl) ms_nil (ms_if (mt_not (mt_val (mb_callP C.f45 hr rfl (ma_cons (mb_var 4) (ma_cons (mb_callP C.f21 hr rfl (ma_cons (mb_var 4) (ma_cons (mb_var 6) (ma_cons (mb_var 8) ma_nil)))) (ma_cons (mb_var 9) (ma_cons (mb_callP C.f33 hr rfl (ma_cons (mb_var 10) (ma_cons (mb_var 8) ma_nil))) ma_nil))))))) (ms_ret mb_bl) ms_nil (ms_if (mt_w (mw_or (mt_not (mt_val (mb_callP C.f45 hr rfl (ma_cons (mb_var 4) (ma_cons (mb_callP C.f18 hr rfl (ma_cons (mb_var 4) (ma_cons (mb_var 3) ma_nil))) (ma_cons (mb_var 9) (ma_cons (mb_tup (ma_cons mb_int (ma_cons mb_int ma_nil))) ma_nil))))))) (mw_or1 (mt_not (mt_val (mb_callP C.f29 hr rfl (ma_cons (mb_callP C.f20 hr rfl (ma_cons (mb_var 4) (ma_cons (mb_var 6) (ma_cons (mb_var 7) ma_nil)))) (ma_cons (mb_callP C.f39 hr rfl (ma_cons (mb_var 6) (ma_cons (mb_var 7) ma_nil))) ma_nil)))))))) (ms_ret mb_bl) ms_nil (ms_if (mt_cmp (cmp_eq hu) (mb_idx (mb_var 4) mb_int) mb_str) (ms_par rfl sc48.nd (ma_cons (mb_callK C.f35 hr rfl (ma_cons (mb_var 1) (ma_cons (mb_idx (mb_var 4) mb_int) (ma_cons mb_int ma_nil)))) (ma_cons (mb_callK C.f35 hr rfl (ma_cons (mb_var 1) (ma_cons (mb_idx (mb_var 4) mb_int) (ma_cons mb_int ma_nil)))) ma_nil)) (ms_asg (mb_callP C.f32 hr rfl (ma_cons (mb_callP C.f37 hr rfl (ma_cons (mb_idx (mb_var 4) mb_int) (ma_cons (mb_idx (mb_var 6) mb_int) (ma_cons (mb_var 12) ma_nil)))) (ma_cons (mb_callP C.f37 hr rfl (ma_cons (mb_idx (mb_var 4) mb_int) (ma_cons (mb_idx (mb_var 6) mb_int) (ma_cons (mb_var 13) ma_nil)))) ma_nil))) (mg_name sc48.nd) (ms_if (mt_not (mt_val (mb_callP C.f45 hr rfl (ma_cons (mb_var 4) (ma_cons (mb_var 6) (ma_cons (mb_tup (ma_cons (mb_var 12) (ma_cons (mb_var 13) ma_nil))) (ma_cons (mb_var 14) ma_nil))))))) (ms_ret mb_bl) ms_nil ms_cont))) ms_nil (ms_asg (mb_idx (mb_var 6) mb_int) (mg_name sc48.nd) (ms_asg (mb_ife (mt_cmp (cmp_eq hu) (mb_var 3) mb_int) (mb_tup (ma_cons (mb_callP C.f32 hr rfl (ma_cons (mb_idx (mb_var 15) mb_int) (ma_cons (mb_idx (mb_var 15) mb_int) ma_nil))) (ma_cons (mb_idx (mb_var 15) mb_int) ma_nil))) (mb_var 15)) (mg_name sc48.nd) (ms_if (mt_not (mt_val (mb_callP C.f29 hr rfl (ma_cons (mb_lst (ma_cons (mb_callP C.f12 hr rfl (ma_cons (mb_var 15) ma_nil)) (ma_cons (mb_callP C.f13 hr rfl (ma_cons (mb_var 6) ma_nil)) ma_nil))) (ma_cons (mb_lst (ma_cons (mb_var 14) (ma_cons (mb_tup (ma_cons (mb_var 14) (ma_cons (mb_idx (mb_var 6) mb_int) ma_nil))) ma_nil))) ma_nil))))) (ms_ret mb_bl) ms_nil (ms_if (mt_not (mt_val (mb_callK C.f47 hr rfl (ma_cons (mb_var 1) (ma_cons (mb_var 4) (ma_cons (mb_var 3) (ma_cons (mb_var 6) ma_nil))))))) (ms_ret mb_bl) ms_nil ms_nil))))))))))))))) (ms_ret mb_bl)))
end
theorem al {P : Program} {w : World} {K : PySem.W.Frag} {mg : Str → Option Value} {base : Heap} (M : Md K mg) (Q : Tx K mg) : ∀ k, Al P w K mg base k
  | 0 => ⟨callee_zero Q.d0, callee_zero Q.d1, callee_zero Q.d2, callee_zero Q.d3, callee_zero Q.d4, callee_zero Q.d5, callee_zero Q.d6, callee_zero Q.d7, callee_zero Q.d8, callee_zero Q.d9, callee_zero Q.d10, callee_zero Q.d11, callee_zero Q.d12, callee_zero Q.d13, callee_zero Q.d14, callee_zero Q.d15, callee_zero Q.d16, callee_zero Q.d17, callee_zero Q.d18, callee_zero Q.d19, callee_zero Q.d20, callee_zero Q.d21, callee_zero Q.d22, callee_zero Q.d23, callee_zero Q.d24, callee_zero Q.d25, callee_zero Q.d26, callee_zero Q.d27, callee_zero Q.d28, callee_zero Q.d29, callee_zero Q.d30, callee_zero Q.d31, callee_zero Q.d32, callee_zero Q.d33, callee_zero Q.d34, callee_zero Q.d35, callee_zero Q.d36, callee_zero Q.d37, callee_zero Q.d38, callee_zero Q.d39, callee_zero Q.d40, callee_zero Q.d41, callee_zero Q.d42, callee_zero Q.d43, callee_zero Q.d44, callee_zero Q.d45, callee_zero Q.d46, callee_zero Q.d47, callee_zero Q.d48⟩
  | k + 1 => ⟨callee_succ (d := ⟨2, 2, t0⟩) Q.d0 sc0 rfl rfl rfl (fun f cdv A outer s H E hr => b0 M (al M Q k) hr), callee_succ (d := ⟨2, 3, t1⟩) Q.d1 sc1 rfl rfl rfl (fun f cdv A outer s H E hr => b1 M (al M Q k) hr), callee_succ (d := ⟨2, 2, t2⟩) Q.d2 sc2 rfl rfl rfl (fun f cdv A outer s H E hr => b2 M (al M Q k) hr), callee_succ (d := ⟨2, 2, t3⟩) Q.d3 sc3 rfl rfl rfl (fun f cdv A outer s H E hr => b3 M (al M Q k) hr), callee_succ (d := ⟨2, 2, t4⟩) Q.d4 sc4 rfl rfl rfl (fun f cdv A outer s H E hr => b4 M (al M Q k) hr), callee_succ (d := ⟨1, 3, t5⟩) Q.d5 sc5 rfl rfl rfl (fun f cdv A outer s H E hr => b5 M (al M Q k) hr), callee_succ (d := ⟨1, 1, t6⟩) Q.d6 sc6 rfl rfl rfl (fun f cdv A outer s H E hr => b6 M (al M Q k) hr), callee_succ (d := ⟨2, 4, t7⟩) Q.d7 sc7 rfl rfl rfl (fun f cdv A outer s H E hr => b7 M (al M Q k) hr), callee_succ (d := ⟨2, 4, t8⟩) Q.d8 sc8 rfl rfl rfl (fun f cdv A outer s H E hr => b8 M (al M Q k) hr), callee_succ (d := ⟨3, 5, t9⟩) Q.d9 sc9 rfl rfl rfl (fun f cdv A outer s H E hr => b9 M (al M Q k) hr), callee_succ (d := ⟨1, 5, t10⟩) Q.d10 sc10 rfl rfl rfl (fun f cdv A outer s H E hr => b10 M (al M Q k) hr), callee_succ (d := ⟨3, 7, t11⟩) Q.d11 sc11 rfl rfl rfl (fun f cdv A outer s H E hr => b11 M (al M Q k) hr), callee_succ (d := ⟨1, 1, t12⟩) Q.d12 sc12 rfl rfl rfl (fun f cdv A outer s H E hr => b12 M (al M Q k) hr), callee_succ (d := ⟨1, 1, t13⟩) Q.d13 sc13 rfl rfl rfl (fun f cdv A outer s H E hr => b13 M (al M Q k) hr), callee_succ (d := ⟨2, 2, t14⟩) Q.d14 sc14 rfl rfl rfl (fun f cdv A outer s H E hr => b14 M (al M Q k) hr), callee_succ (d := ⟨2, 4, t15⟩) Q.d15 sc15 rfl rfl rfl (fun f cdv A outer s H E hr => b15 M (al M Q k) hr), callee_succ (d := ⟨3, 4, t16⟩) Q.d16 sc16 rfl rfl rfl (fun f cdv A outer s H E hr => b16 M (al M Q k) hr), callee_succ (d := ⟨2, 2, t17⟩) Q.d17 sc17 rfl rfl rfl (fun f cdv A outer s H E hr => b17 M (al M Q k) hr), callee_succ (d := ⟨2, 2, t18⟩) Q.d18 sc18 rfl rfl rfl (fun f cdv A outer s H E hr => b18 M (al M Q k) hr), callee_succ (d := ⟨3, 6, t19⟩) Q.d19 sc19 rfl rfl rfl (fun f cdv A outer s H E hr => b19 M (al M Q k) hr), callee_succ (d := ⟨3, 5, t20⟩) Q.d20 sc20 rfl rfl rfl (fun f cdv A outer s H E hr => b20 M (al M Q k) hr), callee_succ (d := ⟨3, 5, t21⟩) Q.d21 sc21 rfl rfl rfl (fun f cdv A outer s H E hr => b21 M (al M Q k) hr), callee_succ (d := ⟨3, 9, t22⟩) Q.d22 sc22 rfl rfl rfl (fun f cdv A outer s H E hr => b22 M (al M Q k) hr), callee_succ (d := ⟨2, 5, t23⟩) Q.d23 sc23 rfl rfl rfl (fun f cdv A outer s H E hr => b23 M (al M Q k) hr), callee_succ (d := ⟨2, 6, t24⟩) Q.d24 sc24 rfl rfl rfl (fun f cdv A outer s H E hr => b24 M (al M Q k) hr), callee_succ (d := ⟨3, 5, t25⟩) Q.d25 sc25 rfl rfl rfl (fun f cdv A outer s H E hr => b25 M (al M Q k) hr), callee_succ (d := ⟨1, 2, t26⟩) Q.d26 sc26 rfl rfl rfl (fun f cdv A outer s H E hr => b26 M (al M Q k) hr), callee_succ (d := ⟨2, 7, t27⟩) Q.d27 sc27 rfl rfl rfl (fun f cdv A outer s H E hr => b27 M (al M Q k) hr), callee_succ (d := ⟨2, 2, t28⟩) Q.d28 sc28 rfl rfl rfl (fun f cdv A outer s H E hr => b28 M (al M Q k) hr), callee_succ (d := ⟨2, 6, t29⟩) Q.d29 sc29 rfl rfl rfl (fun f cdv A outer s H E hr => b29 M (al M Q k) hr), callee_succ (d := ⟨1, 1, t30⟩) Q.d30 sc30 rfl rfl rfl (fun f cdv A outer s H E hr => b30 M (al M Q k) hr), callee_succ (d := ⟨2, 4, t31⟩) Q.d31 sc31 rfl rfl rfl (fun f cdv A outer s H E hr => b31 M (al M Q k) hr), callee_succ (d := ⟨2, 2, t32⟩) Q.d32 sc32 rfl rfl rfl (fun f cdv A outer s H E hr => b32 M (al M Q k) hr), callee_succ (d := ⟨2, 2, t33⟩) Q.d33 sc33 rfl rfl rfl (fun f cdv A outer s H E hr => b33 M (al M Q k) hr), callee_succ (d := ⟨2, 2, t34⟩) Q.d34 sc34 rfl rfl rfl (fun f cdv A outer s H E hr => b34 M (al M Q k) hr), callee_succ (d := ⟨3, 6, t35⟩) Q.d35 sc35 rfl rfl rfl (fun f cdv A outer s H E hr => b35 M (al M Q k) hr), callee_succ (d := ⟨2, 2, t36⟩) Q.d36 sc36 rfl rfl rfl (fun f cdv A outer s H E hr => b36 M (al M Q k) hr), callee_succ (d := ⟨3, 11, t37⟩) Q.d37 sc37 rfl rfl rfl (fun f cdv A outer s H E hr => b37 M (al M Q k) hr), callee_succ (d := ⟨1, 3, t38⟩) Q.d38 sc38 rfl rfl rfl (fun f cdv A outer s H E hr => b38 M (al M Q k) hr), callee_succ (d := ⟨2, 4, t39⟩) Q.d39 sc39 rfl rfl rfl (fun f cdv A outer s H E hr => b39 M (al M Q k) hr), callee_succ (d := ⟨2, 4, t40⟩) Q.d40 sc40 rfl rfl rfl (fun f cdv A outer s H E hr => b40 M (al M Q k) hr), callee_succ (d := ⟨2, 5, t41⟩) Q.d41 sc41 rfl rfl rfl (fun f cdv A outer s H E hr => b41 M (al M Q k) hr), callee_succ (d := ⟨3, 4, t42⟩) Q.d42 sc42 rfl rfl rfl (fun f cdv A outer s H E hr => b42 M (al M Q k) hr), callee_succ (d := ⟨2, 2, t43⟩) Q.d43 sc43 rfl rfl rfl (fun f cdv A outer s H E hr => b43 M (al M Q k) hr), callee_succ (d := ⟨3, 7, t44⟩) Q.d44 sc44 rfl rfl rfl (fun f cdv A outer s H E hr => b44 M (al M Q k) hr), callee_succ (d := ⟨4, 5, t45⟩) Q.d45 sc45 rfl rfl rfl (fun f cdv A outer s H E hr => b45 M (al M Q k) hr), callee_succ (d := ⟨3, 3, t46⟩) Q.d46 sc46 rfl rfl rfl (fun f cdv A outer s H E hr => b46 M (al M Q k) hr), callee_succ (d := ⟨4, 14, t47⟩) Q.d47 sc47 rfl rfl rfl (fun f cdv A outer s H E hr => b47 M (al M Q k) hr), callee_succ (d := ⟨1, 16, t48⟩) Q.d48 sc48 rfl rfl rfl (fun f cdv A outer s H E hr => b48 M (al M Q k) hr)⟩
end K56
set_option Elab.async false
set_option linter.all false
set_option maxRecDepth 100000
set_option maxHeartbeats 1000000
namespace K56
open MP PySem

abbrev gB : S := .par 0 1 (.var 1) (.bin .mod (.var 0) (.var 1)) .nil
abbrev gC : E := .cmp .ne (.var 1) (.lit (.int 0))
abbrev gW (k n : Nat) (a b : Nat) : Option (Fl × Mem) := whlF (fun env m => (ev (G k) gC env m).bind fun x => x.1.bool?.map fun t => (t, x.2)) (MP.exec (G k) FU gB) n [some (.int a), some (.int b)] []
theorem gStep (k n a b : Nat) : gW k (n + 1) a b = if b = 0 then some (.nx [some (.int a), some (.int b)], []) else gW k n b (a % b) := by
  have hc : (ev (G k) gC [some (.int a), some (.int b)] []).bind (fun x => x.1.bool?.map fun t => (t, x.2)) = some (!((b : Int) == 0), []) := rfl
  by_cases h : b = 0
  · subst h
    exact whl_end hc
  · have e : (!((b : Int) == 0)) = true := by simp; omega
    rw [e] at hc
    rw [if_neg h]
    refine whl_nx hc ?_
    have hb : decide ((0 : Int) < (b : Int)) = true := by simp; omega
    show ((if decide ((0 : Int) < (b : Int)) = true then some (D.int ((a : Int) % (b : Int))) else none).map fun d => (d, ([] : Mem))).bind _ = _
    rw [if_pos hb]
    rfl
theorem gLoop (k : Nat) : ∀ (j n a b : Nat), b < 2 ^ j → 2 * j + 1 ≤ n → gW k n a b = some (.nx [some (.int (Nat.gcd a b : Nat)), some (.int 0)], [])
  | 0, n, a, b, hb, hn => by
    have h : b = 0 := by
      have : 2 ^ 0 = 1 := rfl
      omega
    subst h
    obtain ⟨n, rfl⟩ : ∃ q, n = q + 1 := ⟨n - 1, by omega⟩
    rw [gStep, if_pos rfl, Nat.gcd_zero_right]
    rfl
  | j + 1, n, a, b, hb, hn => by
    obtain ⟨n, rfl⟩ : ∃ q, n = q + 1 + 1 := ⟨n - 2, by omega⟩
    rw [gStep]
    by_cases h0 : b = 0
    · subst h0
      rw [if_pos rfl, Nat.gcd_zero_right]
      rfl
    · rw [if_neg h0, gStep]
      by_cases h1 : a % b = 0
      · rw [if_pos h1, h1, Nat.gcd_comm, Nat.gcd_rec, h1, Nat.gcd_zero_left]
        rfl
      · have hlt : a % b < b := Nat.mod_lt _ (by omega)
        have hlt2 : b % (a % b) < 2 ^ j := by
          have h3 : b % (a % b) < a % b := Nat.mod_lt _ (by omega)
          have h4 : 2 ^ (j + 1) = 2 ^ j + 2 ^ j := by rw [Nat.pow_succ]; omega
          by_cases h5 : a % b ≤ 2 ^ j
          · omega
          · have h6 : b % (a % b) = (b - a % b) % (a % b) := Nat.mod_eq_sub_mod (by omega)
            have h7 : (b - a % b) % (a % b) ≤ b - a % b := Nat.mod_le _ _
            omega
        rw [if_neg h1, gLoop k j n (a % b) (b % (a % b)) hlt2 (by omega)]
        rw [Nat.gcd_comm a b, Nat.gcd_rec b a, Nat.gcd_rec (a % b) b, Nat.gcd_comm]
theorem c_common (k a b : Nat) (hb : b < 2 ^ 8000) : callP (G (k + 1)) 0 [.int a, .int b] = some (.int (Nat.gcd a b : Nat)) := by
  refine pc_ret (t := t0) rfl rfl rfl rfl (m' := []) ?_
  have h := gLoop k 8000 FU a b hb (by decide)
  show thnF (gW k FU a b) (MP.exec (G k) FU (.ret (.var 0))) = _
  rw [h]
  rfl
end K56
set_option Elab.async false
set_option linter.all false
set_option maxRecDepth 100000
set_option exponentiation.threshold 10000
set_option maxHeartbeats 1000000
namespace K56
open MP PySem

/-! ### rational numbers -/
def qD (r : Rat) : D := .tup [.int r.num, .int r.den]
/-- at most n bits above and below -/
def bt (n : Nat) (r : Rat) : Prop := r.num.natAbs < 2 ^ n ∧ r.den < 2 ^ n
theorem qD_noRef (r : Rat) : (qD r).noRef = true := rfl
theorem mkRat_num (a : Int) (d : Nat) (h : d ≠ 0) : (mkRat a d).num = a / (Nat.gcd a.natAbs d : Nat) ∧ (mkRat a d).den = d / Nat.gcd a.natAbs d := by
  unfold mkRat
  rw [dif_neg h, Rat.normalize_eq]
  exact ⟨rfl, rfl⟩
theorem bt_mk {a : Int} {d n : Nat} (h : d ≠ 0) (ha : a.natAbs < 2 ^ n) (hd : d < 2 ^ n) : bt n (mkRat a d) := by
  obtain ⟨h1, h2⟩ := mkRat_num a d h
  refine ⟨?_, ?_⟩
  · rw [h1]
    have hg : ((Nat.gcd a.natAbs d : Nat) : Int) ∣ a := Int.ofNat_dvd_left.mpr (Nat.gcd_dvd_left _ _)
    rw [Int.natAbs_ediv_of_dvd hg]
    exact Nat.lt_of_le_of_lt (Nat.div_le_self _ _) ha
  · rw [h2]
    exact Nat.lt_of_le_of_lt (Nat.div_le_self _ _) hd
theorem add_mk (r s : Rat) : r + s = mkRat (r.num * s.den + s.num * r.den) (r.den * s.den) := by
  rw [Rat.add_def, Rat.normalize_eq_mkRat]
theorem mul_mk (r s : Rat) : r * s = mkRat (r.num * s.num) (r.den * s.den) := by
  rw [Rat.mul_def, Rat.normalize_eq_mkRat]
theorem pow_add_lt {a b n m : Nat} (ha : a < 2 ^ n) (hb : b < 2 ^ m) : a * b < 2 ^ (n + m) := by
  rw [Nat.pow_add]
  by_cases h : b = 0
  · subst h
    rw [Nat.mul_zero]
    exact Nat.mul_pos (Nat.pow_pos (by decide)) (Nat.pow_pos (by decide))
  · exact Nat.mul_lt_mul_of_lt_of_le ha (Nat.le_of_lt hb) (Nat.pow_pos (by decide))
theorem bt_mono {n m : Nat} {r : Rat} (h : bt n r) (hm : n ≤ m) : bt m r :=
  ⟨Nat.lt_of_lt_of_le h.1 (Nat.pow_le_pow_right (by decide) hm), Nat.lt_of_lt_of_le h.2 (Nat.pow_le_pow_right (by decide) hm)⟩
theorem natAbs_add_lt {a b : Int} {n : Nat} (ha : a.natAbs < 2 ^ n) (hb : b.natAbs < 2 ^ n) : (a + b).natAbs < 2 ^ (n + 1) := by
  rw [Nat.pow_succ]
  omega
theorem den_ne (r : Rat) (s : Rat) : r.den * s.den ≠ 0 := Nat.mul_ne_zero r.den_nz s.den_nz
theorem bt_addpre {n m : Nat} {r s : Rat} (h : bt n r) (k : bt m s) : (r.num * s.den + s.num * r.den).natAbs < 2 ^ (n + m + 1) ∧ r.den * s.den < 2 ^ (n + m + 1) := by
  refine ⟨natAbs_add_lt ?_ ?_, ?_⟩
  · rw [Int.natAbs_mul]
    exact pow_add_lt h.1 k.2
  · rw [Int.natAbs_mul, Nat.add_comm n m]
    exact pow_add_lt k.1 h.2
  · exact Nat.lt_of_lt_of_le (pow_add_lt h.2 k.2) (Nat.pow_le_pow_right (by decide) (Nat.le_succ _))
theorem bt_add {n m : Nat} {r s : Rat} (h : bt n r) (k : bt m s) : bt (n + m + 1) (r + s) := by
  rw [add_mk]
  exact bt_mk (den_ne r s) (bt_addpre h k).1 (bt_addpre h k).2
theorem bt_mulpre {n m : Nat} {r s : Rat} (h : bt n r) (k : bt m s) : (r.num * s.num).natAbs < 2 ^ (n + m) ∧ r.den * s.den < 2 ^ (n + m) := by
  rw [Int.natAbs_mul]
  exact ⟨pow_add_lt h.1 k.1, pow_add_lt h.2 k.2⟩
theorem bt_mul {n m : Nat} {r s : Rat} (h : bt n r) (k : bt m s) : bt (n + m) (r * s) := by
  rw [mul_mk]
  exact bt_mk (den_ne r s) (bt_mulpre h k).1 (bt_mulpre h k).2
theorem bt_nat {n j : Nat} (h : j < 2 ^ n) (hn : 1 ≤ n) : bt n ((j : Nat) : Rat) := by
  refine ⟨by simpa using h, ?_⟩
  show 1 < 2 ^ n
  exact Nat.one_lt_two_pow (by omega)
theorem fit_num {n : Nat} {r : Rat} (h : bt n r) (hn : n ≤ 8000) : fit r.num = true ∧ fit (r.den : Int) = true := ⟨fit_of h.1 hn, fit_of (by simpa using h.2) hn⟩

theorem c_made (k : Nat) (a : Int) (d n : Nat) (h0 : d ≠ 0) (hd : d < 2 ^ n) (hn : n ≤ 8000) : callP (G (k + 2)) 1 [.int a, .int d] = some (qD (mkRat a d)) := by
  refine pc_ret (t := t1) (m' := []) rfl rfl rfl rfl ?_
  have hg : callP (G (k + 1)) 0 [.int (a.natAbs : Nat), .int d] = some (.int (Nat.gcd a.natAbs d : Nat)) := c_common k _ _ (Nat.lt_of_lt_of_le hd (Nat.pow_le_pow_right (by decide) hn))
  have hg0 : 0 < Nat.gcd a.natAbs d := Nat.gcd_pos_of_pos_right _ (by omega)
  have hle : Nat.gcd a.natAbs d ≤ d := Nat.le_of_dvd (by omega) (Nat.gcd_dvd_right _ _)
  have f1 : fit ((Nat.gcd a.natAbs d : Nat) : Int) = true := fit_of (n := n) (by simpa using Nat.lt_of_le_of_lt hle hd) hn
  have f2 : decide ((0 : Int) < ((Nat.gcd a.natAbs d : Nat) : Int)) = true := by simp; omega
  have f3 : decide ((d : Int) < 0) = false := by simp
  have ea : (if a < 0 then -a else a) = ((a.natAbs : Nat) : Int) := by
    split <;> omega
  obtain ⟨h1, h2⟩ := mkRat_num a d h0
  unfold qD
  rw [h1, h2]
  simp only [t1, MP.exec, ev, List.map_cons, List.map_nil, List.length_cons, List.length_nil, List.replicate, List.cons_append, List.nil_append, List.getD_cons_zero, List.getD_cons_succ, Option.map_some, Option.bind_some, cmpD, D.bool?, f3, thnF, Bool.false_eq_true, if_false, bltD, ea, hg, bindP, List.set_cons_zero, List.set_cons_succ, binD, f1, f2, Bool.and_true, if_true, Bool.and_self]
  rfl
theorem c_plus (k : Nat) {r s : Rat} {n m : Nat} (h : bt n r) (g : bt m s) (hz : n + m ≤ 7999) : callP (G (k + 3)) 2 [qD r, qD s] = some (qD (r + s)) := by
  refine pc_ret (t := t2) (m' := []) rfl rfl rfl rfl ?_
  obtain ⟨f1, f2⟩ := fit_num h (by omega)
  obtain ⟨f3, f4⟩ := fit_num g (by omega)
  have hm := c_made k (r.num * s.den + s.num * r.den) (r.den * s.den) (n + m + 1) (den_ne r s) (bt_addpre h g).2 (by omega)
  rw [Int.natCast_mul] at hm
  rw [add_mk]
  simp only [t2, MP.exec, ev, List.map_cons, List.map_nil, List.length_cons, List.length_nil, List.replicate, List.cons_append, List.nil_append, List.getD_cons_zero, List.getD_cons_succ, Option.map_some, Option.bind_some, qD, ixT0, ixT1, binD, mulD, addD, f1, f2, f3, f4, Bool.and_self, if_true, hm]
theorem c_times (k : Nat) {r s : Rat} {n m : Nat} (h : bt n r) (g : bt m s) (hz : n + m ≤ 8000) : callP (G (k + 3)) 3 [qD r, qD s] = some (qD (r * s)) := by
  refine pc_ret (t := t3) (m' := []) rfl rfl rfl rfl ?_
  obtain ⟨f1, f2⟩ := fit_num h (by omega)
  obtain ⟨f3, f4⟩ := fit_num g (by omega)
  have hm := c_made k (r.num * s.num) (r.den * s.den) (n + m) (den_ne r s) (bt_mulpre h g).2 (by omega)
  rw [Int.natCast_mul] at hm
  rw [mul_mk]
  simp only [t3, MP.exec, ev, List.map_cons, List.map_nil, List.length_cons, List.length_nil, List.replicate, List.cons_append, List.nil_append, List.getD_cons_zero, List.getD_cons_succ, Option.map_some, Option.bind_some, qD, ixT0, ixT1, binD, mulD, addD, f1, f2, f3, f4, Bool.and_self, if_true, hm]
theorem c_less (k i : Nat) (hi : i = 4 ∨ i = 34) {r s : Rat} {n m : Nat} (h : bt n r) (g : bt m s) (hz : n + m ≤ 8000) : callP (G (k + 1)) i [qD r, qD s] = some (.bl (decide (r < s))) := by
  obtain ⟨f1, f2⟩ := fit_num h (by omega)
  obtain ⟨f3, f4⟩ := fit_num g (by omega)
  have e : decide (r.num * (s.den : Int) < s.num * r.den) = decide (r < s) := decide_eq_decide.mpr (Rat.lt_iff r s).symm
  rcases hi with rfl | rfl
  · refine pc_ret (t := t4) (m' := []) rfl rfl rfl rfl ?_
    simp only [t4, MP.exec, ev, List.map_cons, List.map_nil, List.length_cons, List.length_nil, List.replicate, List.cons_append, List.nil_append, List.getD_cons_zero, List.getD_cons_succ, Option.map_some, Option.bind_some, qD, ixT0, ixT1, binD, mulD, addD, f1, f2, f3, f4, Bool.and_self, if_true, cmpD, e]
  · refine pc_ret (t := t34) (m' := []) rfl rfl rfl rfl ?_
    simp only [t34, MP.exec, ev, List.map_cons, List.map_nil, List.length_cons, List.length_nil, List.replicate, List.cons_append, List.nil_append, List.getD_cons_zero, List.getD_cons_succ, Option.map_some, Option.bind_some, qD, ixT0, ixT1, binD, mulD, addD, f1, f2, f3, f4, Bool.and_self, if_true, cmpD, e]
end K56
set_option Elab.async false
set_option linter.all false
set_option maxRecDepth 100000
set_option exponentiation.threshold 10000
set_option maxHeartbeats 1000000
namespace K56
open MP PySem

/-! ### sums, counts -/
def sR : List Rat → Rat
  | [] => 0
  | q :: r => q + sR r
theorem bt_zero : bt 1 0 := ⟨by decide, by decide⟩
theorem noRefs_map {α : Type} {f : α → D} (h : ∀ x, (f x).noRef = true) : ∀ xs : List α, D.noRefs (xs.map f) = true
  | [] => rfl
  | x :: xs => by
    show ((f x).noRef && D.noRefs (xs.map f)) = true
    rw [h, noRefs_map h xs]
    rfl
theorem noRefs_q (qs : List Rat) : D.noRefs (qs.map qD) = true := noRefs_map qD_noRef qs
/-- the bits of a list's numbers, one more each, are n at most -/
def Bs : List Rat → Nat → Prop
  | [], _ => True
  | q :: qs, n => ∃ a m, bt a q ∧ Bs qs m ∧ a + 1 + m ≤ n
theorem Bs_mono : ∀ {qs : List Rat} {n m : Nat}, Bs qs n → n ≤ m → Bs qs m
  | [], _, _, _, _ => trivial
  | _ :: _, _, _, ⟨a, k, h1, h2, h3⟩, h => ⟨a, k, h1, h2, Nat.le_trans h3 h⟩
theorem Bs_of {n : Nat} : ∀ {qs : List Rat}, (∀ q ∈ qs, bt n q) → Bs qs (qs.length * (n + 1))
  | [], _ => trivial
  | q :: qs, h => ⟨n, qs.length * (n + 1), h q (List.mem_cons_self ..), Bs_of fun x hx => h x (List.mem_cons_of_mem _ hx), by rw [List.length_cons, Nat.succ_mul]; omega⟩
theorem bt_sR : ∀ {qs : List Rat} {n : Nat}, Bs qs n → bt (n + 1) (sR qs)
  | [], n, _ => bt_mono bt_zero (by omega)
  | q :: qs, n, ⟨a, m, h1, h2, h3⟩ => bt_mono (bt_add h1 (bt_sR h2)) (by omega)
/-- the numbers of a list, one after another -/
theorem c_summed (k : Nat) (lst : Bool) {qs : List Rat} {n : Nat} (h : Bs qs n) (hz : n ≤ 7990) : callP (G (k + 4)) 5 [if lst then .lst (qs.map qD) else .tup (qs.map qD)] = some (qD (sR qs)) := by
  refine pc_ret (t := t5) (m' := []) rfl rfl (by cases lst <;> (show (D.noRefs (qs.map qD) && D.noRefs []) = true; rw [noRefs_q]; rfl)) rfl ?_
  have hf : ∃ z, forF (fun d env m => (bindP (.name 2) d env).bind fun env => MP.exec (G (k + 3)) FU (.asg (.name 1) (.callP 2 (.cons (.var 1) (.cons (.var 2) .nil))) .nil) env m) (qs.map qD)
      [some (if lst then .lst (qs.map qD) else .tup (qs.map qD)), some (qD 0), none] [] = some z ∧ ∃ x, z = (.nx [some (if lst then .lst (qs.map qD) else .tup (qs.map qD)), some (qD (sR qs)), x], []) := by
    refine forF_ind (fun xs env m => m = [] ∧ ∃ t x c j, env = [some (if lst then .lst (qs.map qD) else .tup (qs.map qD)), some (qD t), x] ∧ bt c t ∧ Bs xs j ∧ c + j ≤ n + 1 ∧ t + sR xs = sR qs) ?_ ?_ qs _ _ ⟨rfl, 0, none, 1, n, rfl, bt_zero, h, by omega, Rat.zero_add _⟩
    · rintro env m ⟨rfl, t, x, c, j, rfl, _, _, _, e⟩
      have e : t + 0 = sR qs := e
      rw [Rat.add_zero] at e
      subst e
      exact ⟨x, rfl⟩
    · rintro q xs env m ⟨rfl, t, x, c, j, rfl, hb, ⟨a, m1, hq, hx, hl⟩, hc, e⟩
      refine .inl ⟨_, [], ?_, rfl, t + q, some (qD q), c + a + 1, m1, rfl, bt_add hb hq, hx, by omega, ?_⟩
      · have hp := c_plus k hb hq (by omega)
        show (((callP (G (k + 3)) 2 [qD t, qD q]).map fun d => (d, ([] : Mem))).bind _) = _
        rw [hp]
        rfl
      · rw [Rat.add_assoc]
        exact e
  obtain ⟨z, hz1, x, rfl⟩ := hf
  have key : MP.exec (G (k + 3)) FU (.for (.name 2) (.seq (.var 0)) (.asg (.name 1) (.callP 2 (.cons (.var 1) (.cons (.var 2) .nil))) .nil) (.ret (.var 1))) [some (if lst then .lst (qs.map qD) else .tup (qs.map qD)), some (qD 0), none] [] = some (.rt (qD (sR qs)), []) := by
    rw [x_for (ds := qs.map qD) (m1 := []) (by cases lst <;> rfl), hz1]
    rfl
  exact key
theorem c_whole (k : Nat) (j : Nat) : callP (G (k + 1)) 6 [.int j] = some (qD ((j : Nat) : Rat)) := pc_ret (t := t6) (m' := []) rfl rfl rfl rfl rfl
/-- many things taken one or two at a time -/
def ch : Nat → Nat → Nat
  | n, 1 => n
  | n, 2 => n * (n - 1) / 2
  | _, _ => 0
theorem c_choose (k n j : Nat) (hj : j = 1 ∨ j = 2) (hn : n < 2 ^ 20) : callP (G (k + 1)) 7 [.int n, .int j] = some (.int (ch n j : Nat)) := by
  refine pc_ret (t := t7) (m' := []) rfl rfl rfl rfl ?_
  have hle : decide ((0 : Int) ≤ (j : Int)) = true := by simp
  by_cases h : j ≤ n
  · have h1 : decide ((j : Int) ≤ (n : Int)) = true := by simp; omega
    have f0 : fit ((n : Int) - 0) = true := fit_of (n := 20) (by omega) (by decide)
    have f1 : fit ((n : Int) - 1) = true := fit_of (n := 21) (by omega) (by decide)
    have f2 : fit ((n : Int)) = true := fit_of (n := 21) (by omega) (by decide)
    rcases hj with rfl | rfl
    · have hr : rngD 0 (1 : Nat) = [.int 0] := rfl
      have e : (1 * ((n : Int) - 0)) / (0 + 1) = n := by omega
      have key : MP.exec (G k) FU t7 [some (.int n), some (.int (1 : Nat)), none, none] [] = some (.rt (.int ((1 * ((n : Int) - 0)) / (0 + 1))), []) := by
        simp only [t7, MP.exec, ev, List.getD_cons_zero, List.getD_cons_succ, Option.map_some, Option.bind_some, cmpD, hle, h1, if_true, D.bool?, Bool.not_true, Bool.false_eq_true, if_false, thnF, bindP, List.set_cons_zero, List.set_cons_succ, show small ((1 : Nat) : Int) = true from rfl, hr, forF, binD, mulD, addD, f0, show fit 1 = true from rfl, Bool.and_self, show (decide ((0 : Int) < 0 + 1)) = true from rfl, show fit ((0 : Int) + 1) = true from rfl]
      rw [e] at key
      exact key
    · have hr : rngD 0 (2 : Nat) = [.int 0, .int 1] := rfl
      have e : ((1 * ((n : Int) - 0)) / (0 + 1) * ((n : Int) - 1)) / (1 + 1) = (n * (n - 1) / 2 : Nat) := by
        have h3 : (1 * ((n : Int) - 0)) / (0 + 1) = n := by omega
        rw [h3]
        have h4 : ((n : Int) - 1) = ((n - 1 : Nat) : Int) := by omega
        rw [h4]
        rfl
      have f3 : fit ((1 * ((n : Int) - 0)) / (0 + 1)) = true := by
        have h3 : (1 * ((n : Int) - 0)) / (0 + 1) = n := by omega
        rw [h3]
        exact f2
      have key : MP.exec (G k) FU t7 [some (.int n), some (.int (2 : Nat)), none, none] [] = some (.rt (.int (((1 * ((n : Int) - 0)) / (0 + 1) * ((n : Int) - 1)) / (1 + 1))), []) := by
        simp only [t7, MP.exec, ev, List.getD_cons_zero, List.getD_cons_succ, Option.map_some, Option.bind_some, cmpD, hle, h1, if_true, D.bool?, Bool.not_true, Bool.false_eq_true, if_false, thnF, bindP, List.set_cons_zero, List.set_cons_succ, show small ((2 : Nat) : Int) = true from rfl, hr, forF, binD, mulD, addD, f0, f1, f3, show fit 1 = true from rfl, Bool.and_self, show (decide ((0 : Int) < 0 + 1)) = true from rfl, show fit ((0 : Int) + 1) = true from rfl, show (decide ((0 : Int) < 1 + 1)) = true from rfl, show fit ((1 : Int) + 1) = true from rfl]
      rw [e] at key
      exact key
  · have h1 : decide ((j : Int) ≤ (n : Int)) = false := by simp; omega
    have e : ch n j = 0 := by
      rcases hj with rfl | rfl
      · show n = 0
        omega
      · show n * (n - 1) / 2 = 0
        have : n - 1 = 0 := by omega
        rw [this, Nat.mul_zero]
    rw [e]
    show MP.exec (G k) FU t7 [some (.int n), some (.int j), none, none] [] = _
    simp only [t7, MP.exec, ev, List.getD_cons_zero, List.getD_cons_succ, Option.map_some, Option.bind_some, cmpD, hle, h1, if_true, D.bool?, Bool.not_false, thnF]
    rfl
end K56
set_option Elab.async false
set_option linter.all false
set_option maxRecDepth 100000
set_option exponentiation.threshold 10000
set_option maxHeartbeats 1000000
namespace K56
open MP PySem

/-! ### a row and its counts -/
def dot : List Rat → List Nat → Rat
  | q :: qs, n :: ns => q * (n : Rat) + dot qs ns
  | _, _ => 0
theorem ch2_lt {n : Nat} (h : n ≤ 128) : ch n 2 < 2 ^ 14 := by
  show n * (n - 1) / 2 < 2 ^ 14
  have h1 : n * (n - 1) ≤ 128 * 128 := Nat.mul_le_mul h (by omega)
  omega
theorem whole_q (j : Nat) : D.tup [.int (j : Int), .int 1] = qD ((j : Nat) : Rat) := rfl
/-- a row of the first or second degree, b bits -/
structure Row (g b : Nat) (row : List Rat) : Prop where
  len : row.length = g
  deg : g = 1 ∨ g = 2
  bits : ∀ q ∈ row, bt b q
theorem Row.two {g b : Nat} {row : List Rat} (h : Row g b row) : (∃ q, row = [q] ∧ g = 1 ∧ bt b q) ∨ ∃ q r, row = [q, r] ∧ g = 2 ∧ bt b q ∧ bt b r := by
  obtain ⟨h1, h2, h3⟩ := h
  match row, h1 with
  | [q], h1 => exact .inl ⟨q, rfl, h1.symm, h3 q (by simp)⟩
  | [q, r], h1 => exact .inr ⟨q, r, rfl, h1.symm, h3 q (by simp), h3 r (by simp)⟩
  | [], h1 => simp at h1; omega
  | _ :: _ :: _ :: _, h1 => simp at h1; omega
/-- how many bits a sum over a row takes -/
theorem dot_bits {g b : Nat} {row : List Rat} (h : Row g b row) {n m : Nat} (hn : n < 2 ^ 14) (hm : m < 2 ^ 14) : bt (2 * (b + 15) + 1) (dot row [n, m]) := by
  rcases h.two with ⟨q, rfl, _, hq⟩ | ⟨q, r, rfl, _, hq, hr⟩
  · exact bt_mono (bt_add (bt_mul hq (bt_nat hn (by decide))) bt_zero) (by omega)
  · exact bt_mono (bt_add (bt_mul hq (bt_nat hn (by decide))) (bt_add (bt_mul hr (bt_nat hm (by decide))) bt_zero)) (by omega)
theorem c_lp (k : Nat) {g b : Nat} {row : List Rat} (h : Row g b row) (hb : b ≤ 100) {n : Nat} (hn : n ≤ 128) : callP (G (k + 5)) 8 [.tup (row.map qD), .int n] = some (qD (dot row [n, ch n 2])) := by
  have n14 : n < 2 ^ 14 := Nat.lt_of_le_of_lt hn (by decide)
  have hc1 : callP (G (k + 4)) 7 [.int n, .int 1] = some (.int (n : Nat)) := c_choose (k + 3) n 1 (.inl rfl) (by omega)
  have hc2 : callP (G (k + 4)) 7 [.int n, .int 2] = some (.int (ch n 2 : Nat)) := c_choose (k + 3) n 2 (.inr rfl) (by omega)
  have hw : ∀ j : Nat, callP (G (k + 4)) 6 [.int j] = some (qD (j : Rat)) := fun j => c_whole (k + 3) j
  rcases h.two with ⟨q, rfl, _, hq⟩ | ⟨q, r, rfl, _, hq, hr⟩
  · have ht := c_times (k + 1) hq (bt_nat n14 (by decide)) (by omega)
    have hs := c_summed k true (qs := [q * (n : Rat)]) (Bs_of (n := b + 14) fun x hx => by
      have : x = q * (n : Rat) := by simpa using hx
      rw [this]
      exact bt_mul hq (bt_nat n14 (by decide))) (by simp only [List.length_cons, List.length_nil]; omega)
    refine pc_ret (t := t8) (m' := []) rfl rfl rfl rfl ?_
    show MP.exec (G (k + 4)) FU t8 [some (.tup [qD q]), some (.int n), none, none] [] = _
    simp only [t8, MP.exec, ev, List.getD_cons_zero, List.getD_cons_succ, Option.map_some, Option.bind_some, show small 1 = true from rfl, if_true, D.items?, List.mapIdx_cons, List.mapIdx_nil, List.length_cons, List.length_nil, show sz (0 + 1) = true from rfl, compF, bindP, bindPs, wipeE, List.set_cons_zero, List.set_cons_succ, D.bool?,
      show ((1 : Int) + ((0 : Nat) : Int)) = 1 from rfl, hc1, hw, ht]
    have hs' : callP (G (k + 4)) 5 [.lst [qD (q * (n : Rat))]] = some (qD (sR [q * (n : Rat)])) := hs
    rw [hs']
    rfl
  · have ht := c_times (k + 1) hq (bt_nat n14 (by decide)) (by omega)
    have ht2 := c_times (k + 1) hr (bt_nat (ch2_lt hn) (by decide)) (by omega)
    have hs := c_summed k true (qs := [q * (n : Rat), r * (ch n 2 : Rat)]) (Bs_of (n := b + 14) fun x hx => by
      have : x = q * (n : Rat) ∨ x = r * (ch n 2 : Rat) := by simpa using hx
      rcases this with rfl | rfl
      · exact bt_mul hq (bt_nat n14 (by decide))
      · exact bt_mul hr (bt_nat (ch2_lt hn) (by decide))) (by simp only [List.length_cons, List.length_nil]; omega)
    refine pc_ret (t := t8) (m' := []) rfl rfl rfl rfl ?_
    show MP.exec (G (k + 4)) FU t8 [some (.tup [qD q, qD r]), some (.int n), none, none] [] = _
    simp only [t8, MP.exec, ev, List.getD_cons_zero, List.getD_cons_succ, Option.map_some, Option.bind_some, show small 1 = true from rfl, if_true, D.items?, List.mapIdx_cons, List.mapIdx_nil, List.length_cons, List.length_nil, show sz (0 + 1 + 1) = true from rfl, compF, bindP, bindPs, wipeE, List.set_cons_zero, List.set_cons_succ, D.bool?,
      show ((1 : Int) + ((0 : Nat) : Int)) = 1 from rfl, show ((1 : Int) + ((0 + 1 : Nat) : Int)) = 2 from rfl, hc1, hc2, hw, ht, ht2]
    have hs' : callP (G (k + 4)) 5 [.lst [qD (q * (n : Rat)), qD (r * (ch n 2 : Rat))]] = some (qD (sR [q * (n : Rat), r * (ch n 2 : Rat)])) := hs
    rw [hs']
    rfl
theorem c_tp (k : Nat) {g b : Nat} {row : List Rat} (h : Row g b row) (hb : b ≤ 100) {n m : Nat} (hn : n < 2 ^ 14) (hm : m < 2 ^ 14) : callP (G (k + 5)) 9 [.tup (row.map qD), .int n, .int m] = some (qD (dot row [n, m])) := by
  have hw : ∀ j : Nat, callP (G (k + 4)) 6 [.int j] = some (qD (j : Rat)) := fun j => c_whole (k + 3) j
  rcases h.two with ⟨q, rfl, _, hq⟩ | ⟨q, r, rfl, _, hq, hr⟩
  · have ht := c_times (k + 1) hq (bt_nat hn (by decide)) (by omega)
    have hs := c_summed k true (qs := [q * (n : Rat)]) (Bs_of (n := b + 14) fun x hx => by
      have : x = q * (n : Rat) := by simpa using hx
      rw [this]
      exact bt_mul hq (bt_nat hn (by decide))) (by simp only [List.length_cons, List.length_nil]; omega)
    refine pc_ret (t := t9) (m' := []) rfl rfl rfl rfl ?_
    show MP.exec (G (k + 4)) FU t9 [some (.tup [qD q]), some (.int n), some (.int m), none, none] [] = _
    simp only [t9, MP.exec, ev, List.getD_cons_zero, List.getD_cons_succ, Option.map_some, Option.bind_some, if_true, D.items?, List.zipWith_cons_cons, List.zipWith_nil_left, List.length_cons, List.length_nil, show sz (0 + 1) = true from rfl, show sz (0 + 1 + 1) = true from rfl, compF, bindP, bindPs, wipeE, List.set_cons_zero, List.set_cons_succ, D.bool?, hw, ht]
    have hs' : callP (G (k + 4)) 5 [.lst [qD (q * (n : Rat))]] = some (qD (sR [q * (n : Rat)])) := hs
    rw [hs']
    rfl
  · have ht := c_times (k + 1) hq (bt_nat hn (by decide)) (by omega)
    have ht2 := c_times (k + 1) hr (bt_nat hm (by decide)) (by omega)
    have hs := c_summed k true (qs := [q * (n : Rat), r * (m : Rat)]) (Bs_of (n := b + 14) fun x hx => by
      have : x = q * (n : Rat) ∨ x = r * (m : Rat) := by simpa using hx
      rcases this with rfl | rfl
      · exact bt_mul hq (bt_nat hn (by decide))
      · exact bt_mul hr (bt_nat hm (by decide))) (by simp only [List.length_cons, List.length_nil]; omega)
    refine pc_ret (t := t9) (m' := []) rfl rfl rfl rfl ?_
    show MP.exec (G (k + 4)) FU t9 [some (.tup [qD q, qD r]), some (.int n), some (.int m), none, none] [] = _
    simp only [t9, MP.exec, ev, List.getD_cons_zero, List.getD_cons_succ, Option.map_some, Option.bind_some, if_true, D.items?, List.zipWith_cons_cons, List.zipWith_nil_left, List.length_cons, List.length_nil, show sz (0 + 1 + 1) = true from rfl, compF, bindP, bindPs, wipeE, List.set_cons_zero, List.set_cons_succ, D.bool?, hw, ht, ht2]
    have hs' : callP (G (k + 4)) 5 [.lst [qD (q * (n : Rat)), qD (r * (m : Rat))]] = some (qD (sR [q * (n : Rat), r * (m : Rat)])) := hs
    rw [hs']
    rfl
end K56
set_option Elab.async false
set_option linter.all false
set_option maxRecDepth 100000
set_option exponentiation.threshold 10000
set_option maxHeartbeats 1000000
namespace K56
open MP PySem

/-! ### kinds, values, annotations -/
inductive Kd where
  | num | list (k : Kd) | tree (k : Kd) | pair (a b : Kd)
inductive Tr (α : Type) where
  | nil | node (l : Tr α) (x : α) (r : Tr α)
def Va : Kd → Type
  | .num => Int
  | .list k => List (Va k)
  | .tree k => Tr (Va k)
  | .pair a b => Va a × Va b
def An : Kd → Type
  | .num => Unit
  | .list k => List Rat × An k
  | .tree k => List Rat × An k
  | .pair a b => An a × An b
def kD : Kd → D
  | .num => .tup [.str "num"]
  | .list k => .tup [.str "list", kD k]
  | .tree k => .tup [.str "tree", kD k]
  | .pair a b => .tup [.str "pair", kD a, kD b]
def tD {α : Type} (f : α → D) : Tr α → D
  | .nil => .tup []
  | .node l x r => .tup [tD f l, f x, tD f r]
def vD : (k : Kd) → Va k → D
  | .num, i => .int i
  | .list k, xs => .tup (List.map (vD k) xs)
  | .tree k, t => tD (vD k) t
  | .pair a b, (x, y) => .tup [vD a x, vD b y]
def aD : (k : Kd) → An k → D
  | .num, _ => .tup []
  | .list k, (row, a) => .tup [.tup (row.map qD), aD k a]
  | .tree k, (row, a) => .tup [.tup (row.map qD), aD k a]
  | .pair k l, (a, b) => .tup [aD k a, aD l b]
theorem fine_q (r : Rat) : Fine (qD r) := Fine.tup (.cons (.int _) (.cons (.int _) .nil))
theorem fine_t {α : Type} {f : α → D} (h : ∀ x, Fine (f x)) : ∀ t : Tr α, Fine (tD f t)
  | .nil => Fine.tup .nil
  | .node l x r => Fine.tup (.cons (fine_t h l) (.cons (h x) (.cons (fine_t h r) .nil)))
theorem fine_v : ∀ (k : Kd) (v : Va k), Fine (vD k v)
  | .num, i => .int i
  | .list k, xs => Fine.tup (Fines.map fun x _ => fine_v k x)
  | .tree k, t => fine_t (fine_v k) t
  | .pair a b, (x, y) => Fine.tup (.cons (fine_v a x) (.cons (fine_v b y) .nil))
theorem fine_a : ∀ (k : Kd) (v : An k), Fine (aD k v)
  | .num, i => Fine.tup .nil
  | .list k, (row, a) => Fine.tup (.cons (Fine.tup (Fines.map fun x _ => fine_q x)) (.cons (fine_a k a) .nil))
  | .tree k, (row, a) => Fine.tup (.cons (Fine.tup (Fines.map fun x _ => fine_q x)) (.cons (fine_a k a) .nil))
  | .pair k l, (x, y) => Fine.tup (.cons (fine_a k x) (.cons (fine_a l y) .nil))
theorem nr_k : ∀ k : Kd, (kD k).noRef = true
  | .num => rfl
  | .list k => by show (true && ((kD k).noRef && true)) = true; rw [nr_k k]; rfl
  | .tree k => by show (true && ((kD k).noRef && true)) = true; rw [nr_k k]; rfl
  | .pair a b => by show (true && ((kD a).noRef && ((kD b).noRef && true))) = true; rw [nr_k a, nr_k b]; rfl

/-! ### trees: nodes with their depths -/
def pre {α : Type} : Tr α → Nat → List (α × Nat)
  | .nil, _ => []
  | .node l x r, d => (x, d) :: (pre l (d + 1) ++ pre r (d + 1))
def ino {α : Type} : Tr α → Nat → List (α × Nat)
  | .nil, _ => []
  | .node l x r, d => ino l (d + 1) ++ [(x, d)] ++ ino r (d + 1)
def nn {α : Type} : Tr α → Nat
  | .nil => 0
  | .node l _ r => nn l + nn r + 1
/-- what a stack of trees still costs -/
def mu {α : Type} : List (Tr α × Nat) → Nat
  | [] => 0
  | p :: s => 2 * nn p.1 + 1 + mu s
theorem mu_len {α : Type} : ∀ s : List (Tr α × Nat), s.length ≤ mu s
  | [] => Nat.le_refl _
  | p :: s => by
    have := mu_len s
    unfold mu
    rw [List.length_cons]
    omega
def lineD {α : Type} (f : α → D) (s : List (Tr α × Nat)) : List D := (s.map fun p => D.tup [tD f p.1, .int p.2]).reverse
theorem lineD_cons {α : Type} (f : α → D) (p : Tr α × Nat) (s : List (Tr α × Nat)) : lineD f (p :: s) = lineD f s ++ [D.tup [tD f p.1, .int p.2]] := by
  unfold lineD
  rw [List.map_cons, List.reverse_cons]
theorem fine_line {α : Type} {f : α → D} (h : ∀ x, Fine (f x)) (s : List (Tr α × Nat)) : Fines (lineD f s) := fun d hd => by
  obtain ⟨p, _, rfl⟩ := List.mem_map.mp (List.mem_reverse.mp hd)
  exact Fine.tup (.cons (fine_t h _) (.cons (.int _) .nil))
def foundD {α : Type} (f : α → D) (p : α × Nat) : D := .tup [f p.1, .int p.2]
abbrev nC : E := .cmp .ne (.var 1) (.lst .nil)
abbrev nB : S := (.asg (.tup (.cons (.name 3) (.cons (.name 4) .nil))) (.pop (.var 1)) (.ife (.cmp .eq (.blt .len (.cons (.var 3) .nil)) (.lit (.int 3))) (.app (.var 2) (.tup (.cons (.idx (.var 3) (.lit (.int 1))) (.cons (.var 4) .nil))) (.ext (.var 1) (.lst (.cons (.tup (.cons (.idx (.var 3) (.lit (.int 2))) (.cons (.bin .add (.var 4) (.lit (.int 1))) .nil))) (.cons (.tup (.cons (.idx (.var 3) (.lit (.int 0))) (.cons (.bin .add (.var 4) (.lit (.int 1))) .nil))) .nil))) .nil)) .nil .nil))
theorem nLoop {α : Type} {f : α → D} (h : ∀ x, Fine (f x)) (g : Calls) (d0 : D) : ∀ (n : Nat) (s : List (Tr α × Nat)) (F : List D) (x y : Option D), mu s < n → mu s + F.length ≤ 50000 → ∃ x' y',
    whlF (fun env m => (ev g nC env m).bind fun x => x.1.bool?.map fun t => (t, x.2)) (MP.exec g FU nB) n [some d0, some (.ref 0), some (.ref 1), x, y] [.lst (lineD f s), .lst F]
      = some (.nx [some d0, some (.ref 0), some (.ref 1), x', y'], [.lst [], .lst (F ++ (s.flatMap fun p => pre p.1 p.2).map (foundD f))]) := by
  intro n
  induction n with
  | zero => exact fun s F x y hm _ => absurd hm (Nat.not_lt_zero _)
  | succ n ih =>
  intro s F x y hm hz
  match s, hm, hz with
  | [], hm, hz =>
    have hc : (ev g nC [some d0, some (.ref 0), some (.ref 1), x, y] [.lst (lineD f []), .lst F]).bind (fun x => x.1.bool?.map fun t => (t, x.2)) = some (false, [.lst (lineD f []), .lst F]) := by
      have e := cmpn_ref0 (m := [.lst (lineD f []), .lst F]) (n := 0) rfl (fine_line h [])
      simp only [nC, ev, List.getD_cons_zero, List.getD_cons_succ, Option.map_some, Option.bind_some, show sz ([] : List D).length = true from rfl, if_true, e, D.bool?]
      rfl
    refine ⟨x, y, ?_⟩
    rw [whl_end hc, List.flatMap_nil, List.map_nil, List.append_nil]
    rfl
  | (t, d) :: s, hm, hz =>
    have hc : (ev g nC [some d0, some (.ref 0), some (.ref 1), x, y] [.lst (lineD f ((t, d) :: s)), .lst F]).bind (fun x => x.1.bool?.map fun t => (t, x.2)) = some (true, [.lst (lineD f ((t, d) :: s)), .lst F]) := by
      have e := cmpn_ref0 (m := [.lst (lineD f ((t, d) :: s)), .lst F]) (n := 0) rfl (fine_line h ((t, d) :: s))
      have e2 : (lineD f ((t, d) :: s)).isEmpty = false := by
        rw [lineD_cons]
        simp
      rw [e2] at e
      simp only [nC, ev, List.getD_cons_zero, List.getD_cons_succ, Option.map_some, Option.bind_some, show sz ([] : List D).length = true from rfl, if_true, e, D.bool?]
      rfl
    have hl : (lineD f ((t, d) :: s)).getLast? = some (.tup [tD f t, .int d]) := by
      rw [lineD_cons]
      simp
    have hdl : (lineD f ((t, d) :: s)).dropLast = lineD f s := by
      rw [lineD_cons]
      simp
    cases t with
    | nil =>
      have hb : MP.exec g FU nB [some d0, some (.ref 0), some (.ref 1), x, y] [.lst (lineD f ((.nil, d) :: s)), .lst F] = some (.nx [some d0, some (.ref 0), some (.ref 1), some (.tup []), some (.int d)], [.lst (lineD f s), .lst F]) := by
        refine (x_asg (d := .tup [.tup [], .int d]) (m1 := [.lst (lineD f s), .lst F]) ?_ rfl).trans ((x_no rfl).trans rfl)
        show ((lineD f ((.nil, d) :: s)).getLast?.map fun x => (x, [Cell.lst (lineD f ((.nil, d) :: s)).dropLast, .lst F])) = _
        rw [hl, hdl]
        rfl
      obtain ⟨x', y', e⟩ := ih s F (some (.tup [])) (some (.int d)) (by unfold mu at hm; omega) (by unfold mu at hz; omega)
      refine ⟨x', y', ?_⟩
      rw [whl_nx hc hb, e]
      rfl
    | node l v r =>
      have hb : MP.exec g FU nB [some d0, some (.ref 0), some (.ref 1), x, y] [.lst (lineD f ((.node l v r, d) :: s)), .lst F] =
          some (.nx [some d0, some (.ref 0), some (.ref 1), some (.tup [tD f l, f v, tD f r]), some (.int d)], [.lst (lineD f ((l, d + 1) :: (r, d + 1) :: s)), .lst (F ++ [foundD f (v, d)])]) := by
        have h3 : (List.length [tD f l, f v, tD f r] : Int) == 3 := rfl
        have hlen := mu_len s
        have z1 : sz F.length = true := sz_of (by omega)
        have z2 : sz ((lineD f s).length + (0 + 1 + 1)) = true := sz_of (by unfold lineD; rw [List.length_reverse, List.length_map]; unfold mu at hz; omega)
        refine (x_asg (d := .tup [.tup [tD f l, f v, tD f r], .int d]) (m1 := [.lst (lineD f s), .lst F]) ?_ rfl).trans ((x_ifT rfl).trans ((thn_nx (env1 := [some d0, some (.ref 0), some (.ref 1), some (.tup [tD f l, f v, tD f r]), some (.int d)]) (m1 := [.lst (lineD f ((l, d + 1) :: (r, d + 1) :: s)), .lst (F ++ [foundD f (v, d)])]) ?_).trans rfl))
        · show ((lineD f ((.node l v r, d) :: s)).getLast?.map fun x => (x, [Cell.lst (lineD f ((.node l v r, d) :: s)).dropLast, .lst F])) = _
          rw [hl, hdl]
          rfl
        · refine (x_app (n := 1) (ds := F) rfl (e_tup (e_two (e_idx rfl rfl ixT1) rfl) rfl) rfl z1).trans ((x_ext (n := 0) (ds := lineD f s) (es := [.tup [tD f r, .int ((d + 1 : Nat) : Int)], .tup [tD f l, .int ((d + 1 : Nat) : Int)]]) rfl (e_lst (e_two (e_tup (e_two (e_idx rfl rfl ixT2) rfl) rfl) (e_tup (e_two (e_idx rfl rfl ixT0) rfl) rfl)) rfl) rfl z2).trans ?_)
          rw [lineD_cons, lineD_cons, List.append_assoc]
          rfl
      obtain ⟨x', y', e⟩ := ih ((l, d + 1) :: (r, d + 1) :: s) (F ++ [foundD f (v, d)]) (some (.tup [tD f l, f v, tD f r])) (some (.int d)) (by unfold mu at hm; unfold mu; unfold mu; simp only [nn] at *; omega) (by unfold mu at hz; unfold mu; unfold mu; simp only [nn, List.length_append, List.length_singleton] at *; omega)
      refine ⟨x', y', ?_⟩
      rw [whl_nx hc hb, e]
      simp only [List.flatMap_cons, pre, List.cons_append, List.map_cons, List.append_assoc, List.map_append, List.nil_append]
end K56
set_option Elab.async false
set_option linter.all false
set_option maxRecDepth 100000
set_option exponentiation.threshold 10000
set_option maxHeartbeats 1000000
namespace K56
open MP PySem

/-! levels from some height on -/
theorem up {L c : Nat} (h : c ≤ L) : ∃ k, L = k + c := ⟨L - c, by omega⟩
theorem L_plus {L : Nat} (hL : 3 ≤ L) {r s : Rat} {n m : Nat} (h : bt n r) (g : bt m s) (hz : n + m ≤ 7999) : callP (G L) 2 [qD r, qD s] = some (qD (r + s)) := by
  obtain ⟨k, rfl⟩ := up hL
  exact c_plus k h g hz
theorem L_times {L : Nat} (hL : 3 ≤ L) {r s : Rat} {n m : Nat} (h : bt n r) (g : bt m s) (hz : n + m ≤ 8000) : callP (G L) 3 [qD r, qD s] = some (qD (r * s)) := by
  obtain ⟨k, rfl⟩ := up hL
  exact c_times k h g hz
theorem L_summed {L : Nat} (hL : 4 ≤ L) {qs : List Rat} {n : Nat} (h : Bs qs n) (hz : n ≤ 7990) : callP (G L) 5 [.lst (qs.map qD)] = some (qD (sR qs)) := by
  obtain ⟨k, rfl⟩ := up hL
  exact c_summed k true h hz
theorem L_lp {L : Nat} (hL : 5 ≤ L) {g b : Nat} {row : List Rat} (h : Row g b row) (hb : b ≤ 100) {n : Nat} (hn : n ≤ 128) : callP (G L) 8 [.tup (row.map qD), .int n] = some (qD (dot row [n, ch n 2])) := by
  obtain ⟨k, rfl⟩ := up hL
  exact c_lp k h hb hn
theorem L_tp {L : Nat} (hL : 5 ≤ L) {g b : Nat} {row : List Rat} (h : Row g b row) (hb : b ≤ 100) {n m : Nat} (hn : n < 2 ^ 14) (hm : m < 2 ^ 14) : callP (G L) 9 [.tup (row.map qD), .int n, .int m] = some (qD (dot row [n, m])) := by
  obtain ⟨k, rfl⟩ := up hL
  exact c_tp k h hb hn hm
theorem L_nodes {α : Type} {f : α → D} (h : ∀ x, Fine (f x)) {L : Nat} (hL : 1 ≤ L) (t : Tr α) (hn : nn t ≤ 1000) : callP (G L) 10 [tD f t] = some (.lst ((pre t 0).map (foundD f))) := by
  obtain ⟨k, rfl⟩ := up hL
  obtain ⟨x, y, e⟩ := nLoop h (G k) (tD f t) FU [(t, 0)] [] none none (by unfold mu mu FU; simp only; omega) (by unfold mu mu; simp only [List.length_nil]; omega)
  refine pc_of (t := t10) (d0 := .ref 1) (m' := [.lst [], .lst ((pre t 0).map (foundD f))]) rfl rfl (by show ((tD f t).noRef && true) = true; rw [(fine_t h t).nr]; rfl) ?_ ?_
  · refine (x_par (x := .ref 0) (m1 := [.lst (lineD f [(t, 0)])]) (y := .ref 1) (m2 := [.lst (lineD f [(t, 0)]), .lst []]) rfl rfl).trans ?_
    show thnF (whlF _ _ FU _ _) _ = _
    refine (thn_nx e).trans ?_
    rw [List.flatMap_cons, List.flatMap_nil, List.append_nil, List.nil_append]
    rfl
  · show (if D.noRefs ((pre t 0).map (foundD f)) = true then some (D.lst ((pre t 0).map (foundD f))) else none) = _
    exact if_pos (Fines.nr (Fines.map (f := foundD f) fun p _ => Fine.tup (.cons (h p.1) (.cons (.int p.2) .nil))))

/-! ### the potential of a value -/
def dsum {α : Type} (t : Tr α) : Nat := ((pre t 0).map fun p => p.2).sum
def ph : (k : Kd) → An k → Va k → Rat
  | .num, _, _ => 0
  | .list k, (row, a), xs => dot row [List.length xs, ch (List.length xs) 2] + sR (List.map (ph k a) xs)
  | .tree k, (row, a), t => dot row [nn t, dsum t] + sR ((pre t 0).map fun p => ph k a p.1)
  | .pair k l, (a, b), (x, y) => ph k a x + ph l b y
/-- a row of degree g and b bits at every kind -/
def Aw (g b : Nat) : (k : Kd) → An k → Prop
  | .num, _ => True
  | .list k, (row, a) => Row g b row ∧ Aw g b k a
  | .tree k, (row, a) => Row g b row ∧ Aw g b k a
  | .pair k l, (a, c) => Aw g b k a ∧ Aw g b l c
def wt : (k : Kd) → Va k → Nat
  | .num, _ => 1
  | .list k, xs => 1 + (List.map (wt k) xs).sum
  | .tree k, t => 1 + ((pre t 0).map fun p => wt k p.1).sum
  | .pair k l, (x, y) => 1 + wt k x + wt l y
def ht : Kd → Nat
  | .num => 0
  | .list k => ht k + 1
  | .tree k => ht k + 1
  | .pair a b => max (ht a) (ht b) + 1
theorem wt_num (v : Va .num) : wt .num v = 1 := rfl
theorem wt_list (k : Kd) (xs : List (Va k)) : wt (.list k) xs = 1 + (xs.map (wt k)).sum := rfl
theorem wt_tree (k : Kd) (t : Tr (Va k)) : wt (.tree k) t = 1 + ((pre t 0).map fun p => wt k p.1).sum := rfl
theorem wt_pair (k l : Kd) (x : Va k) (y : Va l) : wt (.pair k l) (x, y) = 1 + wt k x + wt l y := rfl
theorem wt_pos : ∀ (k : Kd) (v : Va k), 1 ≤ wt k v
  | .num, _ => Nat.le_refl _
  | .list k, xs => by have e := wt_list k xs; omega
  | .tree k, t => by have e := wt_tree k t; omega
  | .pair k l, (x, y) => by have e := wt_pair k l x y; omega
theorem sum_ge {α : Type} {f : α → Nat} : ∀ xs : List α, (∀ x ∈ xs, 1 ≤ f x) → xs.length ≤ (xs.map f).sum
  | [], _ => Nat.le_refl _
  | x :: xs, h => by
    have h1 := h x (List.mem_cons_self ..)
    have h2 := sum_ge (f := f) xs fun y hy => h y (List.mem_cons_of_mem _ hy)
    rw [List.map_cons, List.sum_cons, List.length_cons]
    omega
theorem sum_mem {α : Type} {f : α → Nat} : ∀ {xs : List α} {x : α}, x ∈ xs → f x ≤ (xs.map f).sum
  | y :: xs, x, h => by
    rw [List.map_cons, List.sum_cons]
    rcases List.mem_cons.mp h with rfl | h
    · omega
    · have := sum_mem (f := f) h
      omega
theorem pre_len {α : Type} : ∀ (t : Tr α) (d : Nat), (pre t d).length = nn t
  | .nil, _ => rfl
  | .node l x r, d => by
    unfold pre nn
    rw [List.length_cons, List.length_append, pre_len l, pre_len r]
theorem pre_dep {α : Type} : ∀ (t : Tr α) (d : Nat) (p : α × Nat), p ∈ pre t d → p.2 < d + nn t
  | .node l x r, d, p, h => by
    unfold pre at h
    unfold nn
    rcases List.mem_cons.mp h with rfl | h
    · show d < _
      omega
    · rcases List.mem_append.mp h with h | h
      · have := pre_dep l (d + 1) p h
        omega
      · have := pre_dep r (d + 1) p h
        omega
theorem sum_le {α : Type} {f : α → Nat} {n : Nat} : ∀ xs : List α, (∀ x ∈ xs, f x ≤ n) → (xs.map f).sum ≤ xs.length * n
  | [], _ => by simp
  | x :: xs, h => by
    have h1 := h x (List.mem_cons_self ..)
    have h2 := sum_le (f := f) xs fun y hy => h y (List.mem_cons_of_mem _ hy)
    rw [List.map_cons, List.sum_cons, List.length_cons, Nat.succ_mul]
    omega
theorem dsum_lt {α : Type} {t : Tr α} (h : nn t ≤ 127) : dsum t < 2 ^ 14 := by
  have h1 := sum_le (f := fun p : α × Nat => p.2) (n := 126) (pre t 0) fun p hp => by
    have := pre_dep t 0 p hp
    omega
  rw [pre_len] at h1
  unfold dsum
  have h2 : nn t * 126 ≤ 127 * 126 := Nat.mul_le_mul_right _ h
  omega
theorem list_len {k : Kd} {xs : List (Va k)} : xs.length + 1 ≤ wt (.list k) xs := by
  have := sum_ge (f := wt k) xs fun x _ => wt_pos k x
  rw [wt_list]
  omega
theorem tree_len {k : Kd} {t : Tr (Va k)} : nn t + 1 ≤ wt (.tree k) t := by
  have := sum_ge (f := fun p : Va k × Nat => wt k p.1) (pre t 0) fun x _ => wt_pos k x.1
  rw [pre_len] at this
  rw [wt_tree]
  omega
theorem Bs_map {α : Type} {f : α → Rat} {w : α → Nat} : ∀ {xs : List α}, (∀ x ∈ xs, 1 ≤ w x ∧ bt (60 * w x - 1) (f x)) → Bs (xs.map f) (60 * (xs.map w).sum)
  | [], _ => trivial
  | x :: xs, h => by
    have h1 := h x (List.mem_cons_self ..)
    refine ⟨60 * w x - 1, 60 * (xs.map w).sum, h1.2, Bs_map fun y hy => h y (List.mem_cons_of_mem _ hy), ?_⟩
    rw [List.map_cons, List.sum_cons]
    omega
theorem ph_bits {g b : Nat} (hb : b ≤ 12) : ∀ (k : Kd) (a : An k) (v : Va k), Aw g b k a → wt k v ≤ 128 → bt (60 * wt k v - 1) (ph k a v)
  | .num, a, v, _, _ => bt_mono bt_zero (by rw [wt_num]; omega)
  | .list k, (row, a), xs, ⟨h1, h2⟩, hw => by
    have hl := list_len (k := k) (xs := xs)
    have h3 := Bs_map (f := ph k a) (w := wt k) (xs := xs) fun x hx => ⟨wt_pos k x, ph_bits hb k a x h2 (by have := sum_mem (f := wt k) hx; have e := wt_list k xs; omega)⟩
    have h4 := dot_bits h1 (n := List.length xs) (m := ch (List.length xs) 2) (Nat.lt_of_le_of_lt (by omega) (by decide : 128 < 2 ^ 14)) (ch2_lt (by omega))
    refine bt_mono (bt_add h4 (bt_sR h3)) ?_
    have e := wt_list k xs
    omega
  | .tree k, (row, a), t, ⟨h1, h2⟩, hw => by
    have hl := tree_len (k := k) (t := t)
    have h3 := Bs_map (f := fun p : Va k × Nat => ph k a p.1) (w := fun p => wt k p.1) (xs := pre t 0) fun x hx => ⟨wt_pos k x.1, ph_bits hb k a x.1 h2 (by have := sum_mem (f := fun p : Va k × Nat => wt k p.1) hx; have e := wt_tree k t; omega)⟩
    have h4 := dot_bits h1 (n := nn t) (m := dsum t) (Nat.lt_of_le_of_lt (by omega) (by decide : 128 < 2 ^ 14)) (dsum_lt (by omega))
    refine bt_mono (bt_add h4 (bt_sR h3)) ?_
    have e := wt_tree k t
    omega
  | .pair k l, (a, c), (x, y), ⟨h1, h2⟩, hw => by
    have e := wt_pair k l x y
    have p1 := wt_pos k x
    have p2 := wt_pos l y
    refine bt_mono (bt_add (ph_bits hb k a x h1 (by omega)) (ph_bits hb l c y h2 (by omega))) ?_
    have e := wt_pair k l x y
    omega
end K56
set_option Elab.async false
set_option linter.all false
set_option maxRecDepth 100000
set_option exponentiation.threshold 10000
set_option maxHeartbeats 1000000
namespace K56
open MP PySem

/-! which kind -/
theorem cmp_str {m : Mem} {a b : Str} {c : Bool} (h1 : eqOk (.str a) (.str b) = true) (h2 : deq (.str a) (.str b) = c) : cmpD m .eq (.str a) (.str b) = some c := by
  show (if eqOk (.str a) (.str b) = true then some (deq (.str a) (.str b)) else none) = _
  rw [if_pos h1, h2]
inductive Tg where
  | n | l | t | p
def Tg.str : Tg → Str
  | .n => "num" | .l => "list" | .t => "tree" | .p => "pair"
def Tg.is : Tg → Tg → Bool
  | .n, .n => true | .l, .l => true | .t, .t => true | .p, .p => true | _, _ => false
theorem tg_ok (g h : Tg) : eqOk (.str g.str) (.str h.str) = true ∧ deq (.str g.str) (.str h.str) = g.is h := by
  cases g <;> cases h <;> exact ⟨by decide +kernel, by decide +kernel⟩
theorem tg_in (g : Tg) : (deq (.str Tg.l.str) (.str g.str) || (deq (.str Tg.t.str) (.str g.str) || false)) = (g.is .l || g.is .t) := by
  cases g <;> decide +kernel
def tg : Kd → Tg
  | .num => .n | .list _ => .l | .tree _ => .t | .pair _ _ => .p
def tag (k : Kd) : Str := (tg k).str
abbrev isN (k : Kd) : Bool := (tg k).is .n
abbrev isL (k : Kd) : Bool := (tg k).is .l
abbrev isT (k : Kd) : Bool := (tg k).is .t
abbrev isP (k : Kd) : Bool := (tg k).is .p
theorem tag_num (m : Mem) (k : Kd) : cmpD m .eq (.str (tag k)) (.str "num") = some (isN k) := cmp_str (tg_ok (tg k) .n).1 (tg_ok (tg k) .n).2
theorem tag_list (m : Mem) (k : Kd) : cmpD m .eq (.str (tag k)) (.str "list") = some (isL k) := cmp_str (tg_ok (tg k) .l).1 (tg_ok (tg k) .l).2
theorem tag_tree (m : Mem) (k : Kd) : cmpD m .eq (.str (tag k)) (.str "tree") = some (isT k) := cmp_str (tg_ok (tg k) .t).1 (tg_ok (tg k) .t).2
theorem tag_pair (m : Mem) (k : Kd) : cmpD m .eq (.str (tag k)) (.str "pair") = some (isP k) := cmp_str (tg_ok (tg k) .p).1 (tg_ok (tg k) .p).2
theorem tag_in (m : Mem) (k : Kd) : cmpD m .isIn (.str (tag k)) (.tup [.str "list", .str "tree"]) = some (isL k || isT k) := by
  show some (deq (.str Tg.l.str) (.str (tg k).str) || (deq (.str Tg.t.str) (.str (tg k).str) || false)) = _
  rw [tg_in]
theorem kD_tag (k : Kd) : ∃ r, kD k = .tup (.str (tag k) :: r) := by cases k <;> exact ⟨_, rfl⟩
section
variable {G : Calls} {env : MP.Env} {m : Mem} {k : Kd} {i : Nat}
theorem kx (h : env.getD i none = some (kD k)) : ev G (.idx (.var i) (.lit (.int 0))) env m = some (.str (tag k), m) := by
  obtain ⟨r, e⟩ := kD_tag k
  refine e_idx (x := kD k) (m1 := m) (y := .int 0) ?_ rfl (by rw [e]; exact ixT0)
  show (env.getD i none).map _ = _
  rw [h]
  rfl
theorem k_num (k : Kd) (h : env.getD i none = some (kD k)) : ev G (.cmp .eq (.idx (.var i) (.lit (.int 0))) (.lit (.str "num"))) env m = some (.bl (isN k), m) := e_cmp (kx h) rfl (tag_num m k)
theorem k_list (k : Kd) (h : env.getD i none = some (kD k)) : ev G (.cmp .eq (.idx (.var i) (.lit (.int 0))) (.lit (.str "list"))) env m = some (.bl (isL k), m) := e_cmp (kx h) rfl (tag_list m k)
theorem k_tree (k : Kd) (h : env.getD i none = some (kD k)) : ev G (.cmp .eq (.idx (.var i) (.lit (.int 0))) (.lit (.str "tree"))) env m = some (.bl (isT k), m) := e_cmp (kx h) rfl (tag_tree m k)
theorem k_pair (k : Kd) (h : env.getD i none = some (kD k)) : ev G (.cmp .eq (.idx (.var i) (.lit (.int 0))) (.lit (.str "pair"))) env m = some (.bl (isP k), m) := e_cmp (kx h) rfl (tag_pair m k)
theorem k_in (k : Kd) (h : env.getD i none = some (kD k)) : ev G (.cmp .isIn (.idx (.var i) (.lit (.int 0))) (.tup (.cons (.lit (.str "list")) (.cons (.lit (.str "tree")) .nil)))) env m = some (.bl (isL k || isT k), m) := e_cmp (kx h) rfl (tag_in m k)
end

theorem L_summedM {α : Type} {f : α → Rat} {xs : List α} {L : Nat} (hL : 4 ≤ L) {n : Nat} (h : Bs (xs.map f) n) (hz : n ≤ 7990) : callP (G L) 5 [.lst (xs.map fun x => qD (f x))] = some (qD (sR (xs.map f))) := by
  have e := L_summed hL h hz
  rw [List.map_map] at e
  exact e
/-! potential -/
theorem nr3 {a b c : D} (ha : a.noRef = true) (hb : b.noRef = true) (hc : c.noRef = true) : D.noRefs [a, b, c] = true := by
  show (a.noRef && (b.noRef && (c.noRef && true))) = true
  rw [ha, hb, hc]
  rfl
theorem nr2 {a b : D} (ha : a.noRef = true) (hb : b.noRef = true) : D.noRefs [a, b] = true := by
  show (a.noRef && (b.noRef && true)) = true
  rw [ha, hb]
  rfl
theorem nr1 {a : D} (ha : a.noRef = true) : D.noRefs [a] = true := by
  show (a.noRef && true) = true
  rw [ha]
  rfl
theorem tr_item {k : Kd} {t : Tr (Va k)} (h : wt (.tree k) t ≤ 128) {p : Va k × Nat} (hp : p ∈ pre t 0) : wt k p.1 ≤ 128 := by
  have e := wt_tree k t
  have := sum_mem (f := fun p : Va k × Nat => wt k p.1) hp
  omega
theorem li_item {k : Kd} {xs : List (Va k)} (h : wt (.list k) xs ≤ 128) {x : Va k} (hp : x ∈ xs) : wt k x ≤ 128 := by
  have e := wt_list k xs
  have := sum_mem (f := wt k) hp
  omega
theorem Bs_list {g b : Nat} (hb : b ≤ 12) {k : Kd} {a : An k} {xs : List (Va k)} (h2 : Aw g b k a) (hw : wt (.list k) xs ≤ 128) : Bs (xs.map (ph k a)) 7680 :=
  Bs_mono (Bs_map (w := wt k) fun x hx => ⟨wt_pos k x, ph_bits hb k a x h2 (li_item hw hx)⟩) (by have e := wt_list k xs; omega)
theorem Bs_tree {g b : Nat} (hb : b ≤ 12) {k : Kd} {a : An k} {t : Tr (Va k)} (h2 : Aw g b k a) (hw : wt (.tree k) t ≤ 128) : Bs ((pre t 0).map fun p => ph k a p.1) 7680 :=
  Bs_mono (Bs_map (w := fun p : Va k × Nat => wt k p.1) fun x hx => ⟨wt_pos k x.1, ph_bits hb k a x.1 h2 (tr_item hw hx)⟩) (by have e := wt_tree k t; omega)
theorem c_potL {g b : Nat} (hb : b ≤ 12) {kd : Kd} {row : List Rat} {a : An kd} {xs : List (Va kd)} {k : Nat} (h1 : Row g b row) (h2 : Aw g b kd a) (hw : wt (.list kd) xs ≤ 128) (hk : 6 ≤ k)
    (hit : ∀ x ∈ xs, callP (G k) 11 [kD kd, aD kd a, vD kd x] = some (qD (ph kd a x))) :
    callP (G (k + 1)) 11 [kD (.list kd), .tup [.tup (row.map qD), aD kd a], .tup (xs.map (vD kd))] = some (qD (dot row [xs.length, ch xs.length 2] + sR (xs.map (ph kd a)))) := by
  have hlen := list_len (k := kd) (xs := xs)
  have hB := Bs_list hb h2 hw
  have hs := L_summedM (L := k) (by omega) hB (by decide)
  have hp := L_lp (L := k) (by omega) h1 (by omega) (n := xs.length) (by omega)
  have hq := L_plus (L := k) (by omega) (dot_bits h1 (n := xs.length) (m := ch xs.length 2) (Nat.lt_of_le_of_lt (by omega) (by decide : 128 < 2 ^ 14)) (ch2_lt (by omega))) (bt_sR hB) (by omega)
  refine pc_ret (t := t11) (m' := []) rfl rfl (nr3 (nr_k _) (fine_a (.list kd) (row, a)).nr (fine_v (.list kd) xs).nr) rfl ?_
  refine (x_no (k_num (.list kd) rfl)).trans ((x_ifT (k_list (.list kd) rfl)).trans (thn_rt ?_))
  refine Eq.trans (x_asg (d := qD (sR (xs.map (ph kd a)))) (m1 := []) (e_callP (e_one (e_map (c := vD kd) (f := fun x => qD (ph kd a x)) (xs := xs) (e_seq rfl rfl) (by omega) fun x hx => e_callP (e_three (e_idx rfl rfl ixT1) (e_idx rfl rfl ixT1) rfl) (hit x hx))) hs) rfl) ?_
  refine x_ret (e_callP (e_two (e_callP (e_two (e_idx rfl rfl ixT0) (e_blt (e_one rfl) rfl)) (d := qD (dot row [xs.length, ch xs.length 2])) ?_) rfl) hq)
  rw [List.length_map]
  exact hp
theorem c_potT {g b : Nat} (hb : b ≤ 12) {kd : Kd} {row : List Rat} {a : An kd} {t : Tr (Va kd)} {k : Nat} (h1 : Row g b row) (h2 : Aw g b kd a) (hw : wt (.tree kd) t ≤ 128) (hk : 6 ≤ k)
    (hit : ∀ p ∈ pre t 0, callP (G k) 11 [kD kd, aD kd a, vD kd p.1] = some (qD (ph kd a p.1))) :
    callP (G (k + 1)) 11 [kD (.tree kd), .tup [.tup (row.map qD), aD kd a], tD (vD kd) t] = some (qD (dot row [nn t, dsum t] + sR ((pre t 0).map fun p => ph kd a p.1))) := by
  have hlen := tree_len (k := kd) (t := t)
  have hB := Bs_tree hb h2 hw
  have hs := L_summedM (L := k) (by omega) hB (by decide)
  have hd := dsum_lt (t := t) (by omega)
  have hn : nn t < 2 ^ 14 := Nat.lt_of_le_of_lt (by omega) (by decide : 128 < 2 ^ 14)
  have hp := L_tp (L := k) (by omega) h1 (by omega) hn hd
  have hq := L_plus (L := k) (by omega) (dot_bits h1 hn hd) (bt_sR hB) (by omega)
  have hnodes := L_nodes (fine_v kd) (L := k) (by omega) t (by omega)
  have hpl := pre_len t 0
  have hsum : bltD [] .sum [.lst ((pre t 0).map fun p => D.int p.2)] = some (.int (dsum t : Nat)) := by
    have e := bltD_sum (m := []) ((pre t 0).map fun p => p.2)
    rw [List.map_map] at e
    exact e
  refine pc_ret (t := t11) (m' := []) rfl rfl (nr3 (nr_k _) (fine_a (.tree kd) (row, a)).nr (fine_v (.tree kd) t).nr) rfl ?_
  refine (x_no (k_num (.tree kd) rfl)).trans ((x_no (k_list (.tree kd) rfl)).trans ((x_ifT (k_tree (.tree kd) rfl)).trans (thn_rt ?_)))
  refine Eq.trans (x_asg (d := .lst ((pre t 0).map (foundD (vD kd)))) (m1 := []) (e_callP (e_one rfl) hnodes) rfl) ?_
  refine Eq.trans (x_asg (d := qD (sR ((pre t 0).map fun p => ph kd a p.1))) (m1 := []) (e_callP (e_one (e_map2 (c1 := fun p => vD kd p.1) (c2 := fun p => .int p.2) (f := fun p => qD (ph kd a p.1)) (xs := pre t 0) (e_seq rfl rfl) (by omega) fun x hx => e_callP (e_three (e_idx rfl rfl ixT1) (e_idx rfl rfl ixT1) rfl) (hit x hx))) hs) rfl) ?_
  have hp' : callP (G k) 9 [.tup (row.map qD), .int ((pre t 0).map (foundD (vD kd))).length, .int (dsum t : Nat)] = some (qD (dot row [nn t, dsum t])) := by
    rw [List.length_map, hpl]
    exact hp
  exact x_ret (e_callP (e_two (e_callP (e_three (e_idx rfl rfl ixT0) (e_blt (e_one rfl) rfl) (e_blt (e_one (e_map2 (c1 := fun p => vD kd p.1) (c2 := fun p => .int p.2) (f := fun p => .int p.2) (xs := pre t 0) (e_seq rfl rfl) (by omega) fun x hx => rfl)) hsum)) hp') rfl) hq)
theorem c_pot {g b : Nat} (hb : b ≤ 12) : ∀ (kd : Kd) (a : An kd) (v : Va kd) (L : Nat), Aw g b kd a → wt kd v ≤ 128 → ht kd + 6 ≤ L → callP (G L) 11 [kD kd, aD kd a, vD kd v] = some (qD (ph kd a v))
  | .num, a, v, L, _, _, hL => by
    obtain ⟨k, rfl⟩ := up hL
    refine pc_ret (t := t11) (m' := []) rfl rfl rfl rfl ?_
    exact (x_yes (k_num (.num) rfl) rfl).trans rfl
  | .list kd, (row, a), xs, L, ⟨h1, h2⟩, hw, hL => by
    obtain ⟨k, rfl⟩ : ∃ k, L = k + 1 := ⟨L - 1, by omega⟩
    have hL : ht kd + 6 ≤ k := by unfold ht at hL; omega
    exact c_potL hb h1 h2 hw (by omega) fun x hx => c_pot hb kd a x k h2 (li_item hw hx) hL
  | .tree kd, (row, a), t, L, ⟨h1, h2⟩, hw, hL => by
    obtain ⟨k, rfl⟩ : ∃ k, L = k + 1 := ⟨L - 1, by omega⟩
    have hL : ht kd + 6 ≤ k := by unfold ht at hL; omega
    exact c_potT hb h1 h2 hw (by omega) fun p hx => c_pot hb kd a p.1 k h2 (tr_item hw hx) hL
  | .pair ka kb, (a, c), (x, y), L, ⟨h1, h2⟩, hw, hL => by
    obtain ⟨k, rfl⟩ : ∃ k, L = k + 1 := ⟨L - 1, by omega⟩
    have e := wt_pair ka kb x y
    have p1 := wt_pos ka x
    have p2 := wt_pos kb y
    have hx := c_pot hb ka a x k h1 (by omega) (by unfold ht at hL; omega)
    have hy := c_pot hb kb c y k h2 (by omega) (by unfold ht at hL; omega)
    have hq := L_plus (L := k) (by omega) (ph_bits hb ka a x h1 (by omega)) (ph_bits hb kb c y h2 (by omega)) (by omega)
    refine pc_ret (t := t11) (m' := []) rfl rfl (nr3 (nr_k _) (fine_a (.pair ka kb) (a, c)).nr (fine_v (.pair ka kb) (x, y)).nr) rfl ?_
    refine (x_no (k_num (.pair ka kb) rfl)).trans ((x_no (k_list (.pair ka kb) rfl)).trans ((x_no (k_tree (.pair ka kb) rfl)).trans ?_))
    exact x_ret (e_callP (e_two (e_callP (e_three (e_idx rfl rfl ixT1) (e_idx rfl rfl ixT0) (e_idx rfl rfl ixT0)) hx) (e_callP (e_three (e_idx rfl rfl ixT2) (e_idx rfl rfl ixT1) (e_idx rfl rfl ixT1)) hy)) hq)
end K56
set_option Elab.async false
set_option linter.all false
set_option maxRecDepth 100000
set_option exponentiation.threshold 10000
set_option maxHeartbeats 1000000
namespace K56
open MP PySem

/-! ### sizes -/
def inl {α : Type} : Tr α → List α
  | .nil => []
  | .node l x r => inl l ++ x :: inl r
def szD : (k : Kd) → Va k → D
  | .num, _ => .tup []
  | .list k, xs => .tup [.int (List.length xs), .tup (List.map (szD k) xs)]
  | .tree k, t => .tup [.int (nn t), .int (dsum t), .tup ((inl t).map (szD k))]
  | .pair k l, (x, y) => .tup [szD k x, szD l y]
theorem fine_sz : ∀ (k : Kd) (v : Va k), Fine (szD k v)
  | .num, i => Fine.tup .nil
  | .list k, xs => Fine.tup (.cons (.int _) (.cons (Fine.tup (Fines.map fun x _ => fine_sz k x)) .nil))
  | .tree k, t => Fine.tup (.cons (.int _) (.cons (.int _) (.cons (Fine.tup (Fines.map fun x _ => fine_sz k x)) .nil)))
  | .pair a b, (x, y) => Fine.tup (.cons (fine_sz a x) (.cons (fine_sz b y) .nil))
inductive It (α : Type) where
  | tr (t : Tr α) | it (x : α)
def itD {α : Type} (f : α → D) : It α → D
  | .tr t => .tup [tD f t, .bl false]
  | .it x => .tup [f x, .bl true]
def itO {α : Type} : It α → List α
  | .tr t => inl t
  | .it x => [x]
def itM {α : Type} : List (It α) → Nat
  | [] => 0
  | .tr t :: s => 4 * nn t + 1 + itM s
  | .it x :: s => 1 + itM s
def itL {α : Type} (f : α → D) (s : List (It α)) : List D := (s.map (itD f)).reverse
theorem itL_cons {α : Type} (f : α → D) (p : It α) (s : List (It α)) : itL f (p :: s) = itL f s ++ [itD f p] := by
  unfold itL
  rw [List.map_cons, List.reverse_cons]
theorem fine_itL {α : Type} {f : α → D} (h : ∀ x, Fine (f x)) (s : List (It α)) : Fines (itL f s) := fun d hd => by
  obtain ⟨p, _, rfl⟩ := List.mem_map.mp (List.mem_reverse.mp hd)
  cases p with
  | tr t => exact Fine.tup (.cons (fine_t h _) (.cons (.bl _) .nil))
  | it x => exact Fine.tup (.cons (h _) (.cons (.bl _) .nil))
theorem itM_len {α : Type} : ∀ s : List (It α), s.length ≤ itM s
  | [] => Nat.le_refl _
  | .tr t :: s => by
    have := itM_len s
    unfold itM
    rw [List.length_cons]
    omega
  | .it x :: s => by
    have := itM_len s
    unfold itM
    rw [List.length_cons]
    omega
abbrev iC : E := .cmp .ne (.var 2) (.lst .nil)
abbrev iB : S := (.asg (.tup (.cons (.name 4) (.cons (.name 5) .nil))) (.pop (.var 2)) (.ife (.var 5) (.app (.var 3) (.callP 23 (.cons (.idx (.var 0) (.lit (.int 1))) (.cons (.var 4) .nil))) .nil) (.ife (.cmp .ne (.var 4) (.tup .nil)) (.ext (.var 2) (.lst (.cons (.tup (.cons (.idx (.var 4) (.lit (.int 2))) (.cons (.lit (.bl false)) .nil))) (.cons (.tup (.cons (.idx (.var 4) (.lit (.int 1))) (.cons (.lit (.bl true)) .nil))) (.cons (.tup (.cons (.idx (.var 4) (.lit (.int 0))) (.cons (.lit (.bl false)) .nil))) .nil)))) .nil) .nil .nil) .nil))
theorem iLoop {α : Type} {f z : α → D} (h : ∀ x, Fine (f x)) (g : Calls) (d0 d1 dk : D) (hk : idxD [] d0 (.int 1) = some dk) (hk' : ∀ m, idxD m d0 (.int 1) = some dk) : ∀ (n : Nat) (s : List (It α)) (F : List D) (x y : Option D), (∀ v ∈ s.flatMap itO, callP g 23 [dk, f v] = some (z v)) → itM s < n → itM s + F.length ≤ 50000 → ∃ x' y',
    whlF (fun env m => (ev g iC env m).bind fun x => x.1.bool?.map fun t => (t, x.2)) (MP.exec g FU iB) n [some d0, some d1, some (.ref 0), some (.ref 1), x, y] [.lst (itL f s), .lst F]
      = some (.nx [some d0, some d1, some (.ref 0), some (.ref 1), x', y'], [.lst [], .lst (F ++ (s.flatMap itO).map z)]) := by
  intro n
  induction n with
  | zero => exact fun s F x y _ hm _ => absurd hm (Nat.not_lt_zero _)
  | succ n ih =>
  intro s F x y hv hm hz
  match s, hv, hm, hz with
  | [], hv, hm, hz =>
    have e := cmpn_ref0 (m := [.lst (itL f []), .lst F]) (n := 0) rfl (fine_itL h [])
    have hc : (ev g iC [some d0, some d1, some (.ref 0), some (.ref 1), x, y] [.lst (itL f []), .lst F]).bind (fun x => x.1.bool?.map fun t => (t, x.2)) = some (false, [.lst (itL f []), .lst F]) := by
      rw [e_cmp (x := .ref 0) (m1 := [.lst (itL f []), .lst F]) rfl (e_lst rfl rfl) e]
      rfl
    refine ⟨x, y, ?_⟩
    rw [whl_end hc, List.flatMap_nil, List.map_nil, List.append_nil]
    rfl
  | p :: s, hv, hm, hz =>
    have e := cmpn_ref0 (m := [.lst (itL f (p :: s)), .lst F]) (n := 0) rfl (fine_itL h (p :: s))
    have e2 : (itL f (p :: s)).isEmpty = false := by
      rw [itL_cons]
      simp
    rw [e2] at e
    have hc : (ev g iC [some d0, some d1, some (.ref 0), some (.ref 1), x, y] [.lst (itL f (p :: s)), .lst F]).bind (fun x => x.1.bool?.map fun t => (t, x.2)) = some (true, [.lst (itL f (p :: s)), .lst F]) := by
      rw [e_cmp (x := .ref 0) (m1 := [.lst (itL f (p :: s)), .lst F]) rfl (e_lst rfl rfl) e]
      rfl
    have hl : (itL f (p :: s)).getLast? = some (itD f p) := by
      rw [itL_cons]
      simp
    have hdl : (itL f (p :: s)).dropLast = itL f s := by
      rw [itL_cons]
      simp
    have hpop : ∀ env : MP.Env, env.getD 2 none = some (.ref 0) → ev g (.pop (.var 2)) env [.lst (itL f (p :: s)), .lst F] = some (itD f p, [.lst (itL f s), .lst F]) := fun env he => by
      show ((env.getD 2 none).map fun d => (d, [Cell.lst (itL f (p :: s)), .lst F])).bind _ = _
      rw [he]
      show ((itL f (p :: s)).getLast?.map fun x => (x, [Cell.lst (itL f (p :: s)).dropLast, .lst F])) = _
      rw [hl, hdl]
      rfl
    rw [List.flatMap_cons] at hv ⊢
    cases p with
    | it v =>
      have z1 : sz F.length = true := sz_of (by omega)
      have hb : MP.exec g FU iB [some d0, some d1, some (.ref 0), some (.ref 1), x, y] [.lst (itL f (.it v :: s)), .lst F] = some (.nx [some d0, some d1, some (.ref 0), some (.ref 1), some (f v), some (.bl true)], [.lst (itL f s), .lst (F ++ [z v])]) := by
        refine (x_asg (hpop _ rfl) rfl).trans ((x_ifT rfl).trans ((thn_nx ?_).trans rfl))
        exact (x_app (n := 1) (ds := F) rfl (e_callP (e_two (e_idx rfl rfl (hk' _)) rfl) (hv v (by simp [itO]))) rfl z1).trans rfl
      obtain ⟨x', y', e⟩ := ih s (F ++ [z v]) (some (f v)) (some (.bl true)) (fun w hw => hv w (List.mem_append_right _ hw)) (by unfold itM at hm; omega) (by unfold itM at hz; rw [List.length_append, List.length_singleton]; omega)
      refine ⟨x', y', ?_⟩
      rw [whl_nx hc hb, e, List.map_append, List.append_assoc]
      rfl
    | tr t =>
      cases t with
      | nil =>
        have hb : MP.exec g FU iB [some d0, some d1, some (.ref 0), some (.ref 1), x, y] [.lst (itL f (.tr .nil :: s)), .lst F] = some (.nx [some d0, some d1, some (.ref 0), some (.ref 1), some (.tup []), some (.bl false)], [.lst (itL f s), .lst F]) := by
          refine (x_asg (hpop _ rfl) rfl).trans ((x_ifF rfl).trans ((thn_nx ?_).trans rfl))
          exact (x_no (e_cmp rfl (e_tup rfl rfl) (cmpn_tup0 .nil))).trans rfl
        obtain ⟨x', y', e⟩ := ih s F (some (.tup [])) (some (.bl false)) (fun w hw => hv w (List.mem_append_right _ hw)) (by unfold itM at hm; omega) (by unfold itM at hz; omega)
        refine ⟨x', y', ?_⟩
        rw [whl_nx hc hb, e]
        rfl
      | node l v r =>
        have z2 : sz ((itL f s).length + 3) = true := sz_of (by
          have := itM_len s
          unfold itL
          rw [List.length_reverse, List.length_map]
          unfold itM at hz
          omega)
        have hb : MP.exec g FU iB [some d0, some d1, some (.ref 0), some (.ref 1), x, y] [.lst (itL f (.tr (.node l v r) :: s)), .lst F] =
            some (.nx [some d0, some d1, some (.ref 0), some (.ref 1), some (.tup [tD f l, f v, tD f r]), some (.bl false)], [.lst (itL f (.tr l :: .it v :: .tr r :: s)), .lst F]) := by
          refine (x_asg (hpop _ rfl) rfl).trans ((x_ifF rfl).trans ((thn_nx ?_).trans rfl))
          refine (x_ifT (e_cmp rfl (e_tup rfl rfl) (cmpn_tup0 (.cons (fine_t h l) (.cons (h v) (.cons (fine_t h r) .nil)))))).trans ((thn_nx ?_).trans rfl)
          refine (x_ext (n := 0) (ds := itL f s) (es := [itD f (.tr r), itD f (.it v), itD f (.tr l)]) rfl (e_lst (e_three (e_tup (e_two (e_idx rfl rfl ixT2) rfl) rfl) (e_tup (e_two (e_idx rfl rfl ixT1) rfl) rfl) (e_tup (e_two (e_idx rfl rfl ixT0) rfl) rfl)) rfl) rfl z2).trans ?_
          rw [itL_cons, itL_cons, itL_cons, List.append_assoc, List.append_assoc]
          rfl
        obtain ⟨x', y', e⟩ := ih (.tr l :: .it v :: .tr r :: s) F (some (.tup [tD f l, f v, tD f r])) (some (.bl false)) (fun w hw => hv w (by simpa [itO, inl] using hw)) (by unfold itM at hm; unfold itM; unfold itM; unfold itM; simp only [nn] at *; omega) (by unfold itM at hz; unfold itM; unfold itM; unfold itM; simp only [nn] at *; omega)
        refine ⟨x', y', ?_⟩
        rw [whl_nx hc hb, e]
        simp only [List.flatMap_cons, itO, inl, List.append_assoc, List.cons_append, List.nil_append]
theorem inl_len {α : Type} : ∀ t : Tr α, (inl t).length = nn t
  | .nil => rfl
  | .node l x r => by
    unfold inl nn
    rw [List.length_append, List.length_cons, inl_len l, inl_len r]
    omega
theorem inl_pre {α : Type} : ∀ (t : Tr α) (d : Nat) (x : α), x ∈ inl t → ∃ e, (x, e) ∈ pre t d
  | .node l y r, d, x, h => by
    unfold inl at h
    unfold pre
    rcases List.mem_append.mp h with h | h
    · obtain ⟨e, he⟩ := inl_pre l (d + 1) x h
      exact ⟨e, List.mem_cons_of_mem _ (List.mem_append_left _ he)⟩
    · rcases List.mem_cons.mp h with rfl | h
      · exact ⟨d, List.mem_cons_self ..⟩
      · obtain ⟨e, he⟩ := inl_pre r (d + 1) x h
        exact ⟨e, List.mem_cons_of_mem _ (List.mem_append_right _ he)⟩
theorem c_items {k : Nat} {kd : Kd} {t : Tr (Va kd)} (hn : nn t ≤ 1000) (hit : ∀ x ∈ inl t, callP (G k) 23 [kD kd, vD kd x] = some (szD kd x)) : callP (G (k + 1)) 24 [kD (.tree kd), tD (vD kd) t] = some (.tup ((inl t).map (szD kd))) := by
  obtain ⟨x, y, e⟩ := iLoop (f := vD kd) (z := szD kd) (fine_v kd) (G k) (kD (.tree kd)) (tD (vD kd) t) (kD kd) ixT1 (fun _ => ixT1) FU [.tr t] [] none none (fun v hv => hit v (by simpa [itO] using hv)) (by unfold itM itM FU; omega) (by unfold itM itM; simp only [List.length_nil]; omega)
  have hr : (([] : List D) ++ ([It.tr t].flatMap itO).map (szD kd)) = (inl t).map (szD kd) := by simp [itO]
  rw [hr] at e
  have hnr : (D.tup ((inl t).map (szD kd))).noRef = true := (Fine.tup (Fines.map fun x _ => fine_sz kd x)).nr
  refine pc_ret (t := t24) (m' := [.lst [], .lst ((inl t).map (szD kd))]) rfl rfl (nr2 (nr_k (.tree kd)) (fine_t (fine_v kd) t).nr) hnr ?_
  refine (x_par (x := .ref 0) (m1 := [.lst (itL (vD kd) [.tr t])]) (y := .ref 1) (m2 := [.lst (itL (vD kd) [.tr t]), .lst []]) rfl rfl).trans ?_
  show thnF (whlF _ _ FU _ _) _ = _
  refine (thn_nx e).trans ?_
  exact x_ret (e_blt (e_one rfl) rfl)
theorem c_szL {kd : Kd} {xs : List (Va kd)} {k : Nat} (hz : xs.length ≤ 1000) (hit : ∀ x ∈ xs, callP (G k) 23 [kD kd, vD kd x] = some (szD kd x)) :
    callP (G (k + 1)) 23 [kD (.list kd), .tup (xs.map (vD kd))] = some (.tup [.int xs.length, .tup (xs.map (szD kd))]) := by
  refine pc_ret (t := t23) (m' := []) rfl rfl (nr2 (nr_k _) (fine_v (.list kd) xs).nr) (fine_sz (.list kd) xs).nr ?_
  refine (x_no (k_num (.list kd) rfl)).trans ((x_ifT (k_list (.list kd) rfl)).trans (thn_rt ?_))
  refine x_ret (e_tup (e_two (e_blt (e_one rfl) (d := .int xs.length) ?_) (e_blt (e_one (e_map (c := vD kd) (f := szD kd) (xs := xs) (e_seq rfl rfl) (by omega) fun x hx => e_callP (e_two (e_idx rfl rfl ixT1) rfl) (hit x hx))) rfl)) rfl)
  show some (D.int ((xs.map (vD kd)).length : Nat)) = _
  rw [List.length_map]
theorem c_szT {kd : Kd} {t : Tr (Va kd)} {k : Nat} (hk : 1 ≤ k) (hz : nn t ≤ 1000) (hitems : callP (G k) 24 [kD (.tree kd), tD (vD kd) t] = some (.tup ((inl t).map (szD kd)))) :
    callP (G (k + 1)) 23 [kD (.tree kd), tD (vD kd) t] = some (.tup [.int (nn t), .int (dsum t), .tup ((inl t).map (szD kd))]) := by
  have hnodes := L_nodes (fine_v kd) (L := k) (by omega) t (by omega)
  have hpl := pre_len t 0
  have hsum : bltD [] .sum [.lst ((pre t 0).map fun p => D.int p.2)] = some (.int (dsum t : Nat)) := by
    have e := bltD_sum (m := []) ((pre t 0).map fun p => p.2)
    rw [List.map_map] at e
    exact e
  refine pc_ret (t := t23) (m' := []) rfl rfl (nr2 (nr_k _) (fine_v (.tree kd) t).nr) (fine_sz (.tree kd) t).nr ?_
  refine (x_no (k_num (.tree kd) rfl)).trans ((x_no (k_list (.tree kd) rfl)).trans ((x_ifT (k_tree (.tree kd) rfl)).trans (thn_rt ?_)))
  refine Eq.trans (x_asg (d := .lst ((pre t 0).map (foundD (vD kd)))) (m1 := []) (e_callP (e_one rfl) hnodes) rfl) ?_
  refine x_ret (e_tup (e_three (e_blt (e_one rfl) (d := .int (nn t)) ?_) (e_blt (e_one (e_map2 (c1 := fun p => vD kd p.1) (c2 := fun p => .int p.2) (f := fun p => .int p.2) (xs := pre t 0) (e_seq rfl rfl) (by omega) fun x hx => rfl)) hsum) (e_callP (e_two rfl rfl) hitems)) rfl)
  show some (D.int (((pre t 0).map (foundD (vD kd))).length : Nat)) = _
  rw [List.length_map, hpl]
theorem c_sz : ∀ (kd : Kd) (v : Va kd) (L : Nat), wt kd v ≤ 128 → 2 * ht kd + 2 ≤ L → callP (G L) 23 [kD kd, vD kd v] = some (szD kd v)
  | .num, v, L, _, hL => by
    obtain ⟨k, rfl⟩ : ∃ k, L = k + 1 := ⟨L - 1, by omega⟩
    refine pc_ret (t := t23) (m' := []) rfl rfl rfl rfl ?_
    exact (x_yes (k_num .num rfl) rfl).trans rfl
  | .list kd, xs, L, hw, hL => by
    obtain ⟨k, rfl⟩ : ∃ k, L = k + 1 := ⟨L - 1, by omega⟩
    have hlen := list_len (k := kd) (xs := xs)
    unfold ht at hL
    exact c_szL (by omega) fun x hx => c_sz kd x k (li_item hw hx) (by omega)
  | .tree kd, t, L, hw, hL => by
    obtain ⟨k, rfl⟩ : ∃ k, L = k + 1 + 1 := ⟨L - 2, by omega⟩
    have hlen := tree_len (k := kd) (t := t)
    unfold ht at hL
    refine c_szT (by omega) (by omega) (c_items (by omega) fun x hx => ?_)
    obtain ⟨e, he⟩ := inl_pre t 0 x hx
    exact c_sz kd x k (tr_item hw he) (by omega)
  | .pair ka kb, (x, y), L, hw, hL => by
    obtain ⟨k, rfl⟩ : ∃ k, L = k + 1 := ⟨L - 1, by omega⟩
    have e := wt_pair ka kb x y
    unfold ht at hL
    have hx := c_sz ka x k (by omega) (by omega)
    have hy := c_sz kb y k (by omega) (by omega)
    refine pc_ret (t := t23) (m' := []) rfl rfl (nr2 (nr_k _) (fine_v (.pair ka kb) (x, y)).nr) (fine_sz (.pair ka kb) (x, y)).nr ?_
    refine (x_no (k_num (.pair ka kb) rfl)).trans ((x_no (k_list (.pair ka kb) rfl)).trans ((x_no (k_tree (.pair ka kb) rfl)).trans ?_))
    exact x_ret (e_tup (e_two (e_callP (e_two (e_idx rfl rfl ixT1) (e_idx rfl rfl ixT0)) hx) (e_callP (e_two (e_idx rfl rfl ixT2) (e_idx rfl rfl ixT1)) hy)) rfl)
end K56
set_option Elab.async false
set_option linter.all false
set_option maxRecDepth 100000
set_option exponentiation.threshold 10000
set_option maxHeartbeats 1000000
namespace K56
open MP PySem

/-! ### by sizes -/
theorem sR_append : ∀ xs ys : List Rat, sR (xs ++ ys) = sR xs + sR ys
  | [], ys => (Rat.zero_add _).symm
  | x :: xs, ys => by
    show x + sR (xs ++ ys) = x + sR xs + sR ys
    rw [sR_append xs ys, Rat.add_assoc]
theorem sR_inl {α : Type} {f : α → Rat} : ∀ (t : Tr α) (d : Nat), sR ((inl t).map f) = sR ((pre t d).map fun p => f p.1)
  | .nil, _ => rfl
  | .node l x r, d => by
    unfold inl pre
    rw [List.map_append, List.map_cons, List.map_cons, List.map_append, sR_append]
    show sR ((inl l).map f) + (f x + sR ((inl r).map f)) = f x + sR _
    rw [sR_append, sR_inl l (d + 1), sR_inl r (d + 1), ← Rat.add_assoc, Rat.add_comm _ (f x), Rat.add_assoc]
theorem Bs_inl {g b : Nat} (hb : b ≤ 12) {k : Kd} {a : An k} {t : Tr (Va k)} (h2 : Aw g b k a) (hw : wt (.tree k) t ≤ 128) : Bs ((inl t).map (ph k a)) 7680 := by
  have key : ∀ (t : Tr (Va k)) (d : Nat), ((inl t).map (wt k)).sum = ((pre t d).map fun p => wt k p.1).sum := by
    intro t
    induction t with
    | nil => exact fun _ => rfl
    | node l x r ihl ihr =>
      intro d
      unfold inl pre
      rw [List.map_append, List.map_cons, List.map_cons, List.map_append, List.sum_append, List.sum_cons, List.sum_cons, List.sum_append, ihl (d + 1), ihr (d + 1)]
      dsimp only
      omega
  refine Bs_mono (Bs_map (w := wt k) fun x hx => ⟨wt_pos k x, ph_bits hb k a x h2 ?_⟩) ?_
  · obtain ⟨e, he⟩ := inl_pre t 0 x hx
    exact tr_item hw he
  · have e := wt_tree k t
    rw [key t 0]
    omega
theorem c_byL {g b : Nat} (hb : b ≤ 12) {kd : Kd} {row : List Rat} {a : An kd} {xs : List (Va kd)} {k : Nat} (h1 : Row g b row) (h2 : Aw g b kd a) (hw : wt (.list kd) xs ≤ 128) (hk : 6 ≤ k)
    (hit : ∀ x ∈ xs, callP (G k) 25 [kD kd, aD kd a, szD kd x] = some (qD (ph kd a x))) :
    callP (G (k + 1)) 25 [kD (.list kd), .tup [.tup (row.map qD), aD kd a], .tup [.int xs.length, .tup (xs.map (szD kd))]] = some (qD (dot row [xs.length, ch xs.length 2] + sR (xs.map (ph kd a)))) := by
  have hlen := list_len (k := kd) (xs := xs)
  have hB := Bs_list hb h2 hw
  have hs := L_summedM (L := k) (by omega) hB (by decide)
  have hp := L_lp (L := k) (by omega) h1 (by omega) (n := xs.length) (by omega)
  have hq := L_plus (L := k) (by omega) (dot_bits h1 (n := xs.length) (m := ch xs.length 2) (Nat.lt_of_le_of_lt (by omega) (by decide : 128 < 2 ^ 14)) (ch2_lt (by omega))) (bt_sR hB) (by omega)
  refine pc_ret (t := t25) (m' := []) rfl rfl (nr3 (nr_k _) (fine_a (.list kd) (row, a)).nr (fine_sz (.list kd) xs).nr) rfl ?_
  refine (x_no (k_num (.list kd) rfl)).trans ((x_ifT (k_in (.list kd) rfl)).trans (thn_rt ?_))
  refine Eq.trans (x_asg (d := qD (sR (xs.map (ph kd a)))) (m1 := []) (e_callP (e_one (e_map (c := szD kd) (f := fun x => qD (ph kd a x)) (xs := xs) (e_seq (x := .tup (xs.map (szD kd))) rfl rfl) (by omega) fun x hx => e_callP (e_three (e_idx rfl rfl ixT1) (e_idx rfl rfl ixT1) rfl) (hit x hx))) hs) rfl) ?_
  refine (x_ifT (k_list (.list kd) rfl)).trans (thn_rt ?_)
  exact x_ret (e_callP (e_two (e_callP (e_two (e_idx rfl rfl ixT0) (e_idx rfl rfl ixT0)) hp) rfl) hq)
theorem c_byT {g b : Nat} (hb : b ≤ 12) {kd : Kd} {row : List Rat} {a : An kd} {t : Tr (Va kd)} {k : Nat} (h1 : Row g b row) (h2 : Aw g b kd a) (hw : wt (.tree kd) t ≤ 128) (hk : 6 ≤ k)
    (hit : ∀ x ∈ inl t, callP (G k) 25 [kD kd, aD kd a, szD kd x] = some (qD (ph kd a x))) :
    callP (G (k + 1)) 25 [kD (.tree kd), .tup [.tup (row.map qD), aD kd a], .tup [.int (nn t), .int (dsum t), .tup ((inl t).map (szD kd))]] = some (qD (dot row [nn t, dsum t] + sR ((inl t).map (ph kd a)))) := by
  have hlen := tree_len (k := kd) (t := t)
  have hB := Bs_inl hb h2 hw
  have hs := L_summedM (L := k) (by omega) hB (by decide)
  have hd := dsum_lt (t := t) (by omega)
  have hn : nn t < 2 ^ 14 := Nat.lt_of_le_of_lt (by omega) (by decide : 128 < 2 ^ 14)
  have hp := L_tp (L := k) (by omega) h1 (by omega) hn hd
  have hq := L_plus (L := k) (by omega) (dot_bits h1 hn hd) (bt_sR hB) (by omega)
  have hil := inl_len t
  refine pc_ret (t := t25) (m' := []) rfl rfl (nr3 (nr_k _) (fine_a (.tree kd) (row, a)).nr (fine_sz (.tree kd) t).nr) rfl ?_
  refine (x_no (k_num (.tree kd) rfl)).trans ((x_ifT (k_in (.tree kd) rfl)).trans (thn_rt ?_))
  refine Eq.trans (x_asg (d := qD (sR ((inl t).map (ph kd a)))) (m1 := []) (e_callP (e_one (e_map (c := szD kd) (f := fun x => qD (ph kd a x)) (xs := inl t) (e_seq (x := .tup ((inl t).map (szD kd))) rfl rfl) (by omega) fun x hx => e_callP (e_three (e_idx rfl rfl ixT1) (e_idx rfl rfl ixT1) rfl) (hit x hx))) hs) rfl) ?_
  refine (x_no (k_list (.tree kd) rfl)).trans ?_
  exact x_ret (e_callP (e_two (e_callP (e_three (e_idx rfl rfl ixT0) (e_idx rfl rfl ixT0) (e_idx rfl rfl ixT1)) hp) rfl) hq)
theorem c_by {g b : Nat} (hb : b ≤ 12) : ∀ (kd : Kd) (a : An kd) (v : Va kd) (L : Nat), Aw g b kd a → wt kd v ≤ 128 → ht kd + 6 ≤ L → callP (G L) 25 [kD kd, aD kd a, szD kd v] = some (qD (ph kd a v))
  | .num, a, v, L, _, _, hL => by
    obtain ⟨k, rfl⟩ := up hL
    refine pc_ret (t := t25) (m' := []) rfl rfl rfl rfl ?_
    exact (x_yes (k_num .num rfl) rfl).trans rfl
  | .list kd, (row, a), xs, L, ⟨h1, h2⟩, hw, hL => by
    obtain ⟨k, rfl⟩ : ∃ k, L = k + 1 := ⟨L - 1, by omega⟩
    have hL : ht kd + 6 ≤ k := by unfold ht at hL; omega
    exact c_byL hb h1 h2 hw (by omega) fun x hx => c_by hb kd a x k h2 (li_item hw hx) hL
  | .tree kd, (row, a), t, L, ⟨h1, h2⟩, hw, hL => by
    obtain ⟨k, rfl⟩ : ∃ k, L = k + 1 := ⟨L - 1, by omega⟩
    have hL : ht kd + 6 ≤ k := by unfold ht at hL; omega
    have e := c_byT hb h1 h2 hw (by omega) fun x hx => c_by hb kd a x k h2 (by
      obtain ⟨e, he⟩ := inl_pre t 0 x hx
      exact tr_item hw he) hL
    rw [sR_inl t 0] at e
    exact e
  | .pair ka kb, (a, c), (x, y), L, ⟨h1, h2⟩, hw, hL => by
    obtain ⟨k, rfl⟩ : ∃ k, L = k + 1 := ⟨L - 1, by omega⟩
    have e := wt_pair ka kb x y
    have p1 := wt_pos ka x
    have p2 := wt_pos kb y
    have hx := c_by hb ka a x k h1 (by omega) (by unfold ht at hL; omega)
    have hy := c_by hb kb c y k h2 (by omega) (by unfold ht at hL; omega)
    have hq := L_plus (L := k) (by omega) (ph_bits hb ka a x h1 (by omega)) (ph_bits hb kb c y h2 (by omega)) (by omega)
    refine pc_ret (t := t25) (m' := []) rfl rfl (nr3 (nr_k _) (fine_a (.pair ka kb) (a, c)).nr (fine_sz (.pair ka kb) (x, y)).nr) rfl ?_
    refine (x_no (k_num (.pair ka kb) rfl)).trans ((x_no (k_in (.pair ka kb) rfl)).trans ?_)
    exact x_ret (e_callP (e_two (e_callP (e_three (e_idx rfl rfl ixT1) (e_idx rfl rfl ixT0) (e_idx rfl rfl ixT0)) hx) (e_callP (e_three (e_idx rfl rfl ixT2) (e_idx rfl rfl ixT1) (e_idx rfl rfl ixT1)) hy)) hq)

/-- all together, with what is there before -/
theorem c_worth {g b : Nat} (hb : b ≤ 12) {kd : Kd} {a : An kd} {v : Va kd} {L : Nat} (h : Aw g b kd a) (hw : wt kd v ≤ 128) (hL : ht kd + 7 ≤ L) :
    callP (G L) 22 [.tup [kD kd], .tup [.tup [.int 0, .int 1], .tup [aD kd a]], .tup [vD kd v]] = some (qD (ph kd a v)) := by
  obtain ⟨k, rfl⟩ : ∃ k, L = k + 1 := ⟨L - 1, by omega⟩
  have hp := c_pot hb kd a v k h hw (by omega)
  have hB := ph_bits hb kd a v h hw
  have hs := L_summed (L := k) (by omega) (qs := [0, ph kd a v]) (n := 7690) ⟨1, 7681, bt_zero, ⟨60 * wt kd v - 1, 0, hB, trivial, by omega⟩, by omega⟩ (by decide)
  have e0 : sR [0, ph kd a v] = ph kd a v := by
    show 0 + (ph kd a v + 0) = _
    rw [Rat.add_zero, Rat.zero_add]
  rw [e0] at hs
  have n1 : (D.tup [.tup [.int 0, .int 1], .tup [aD kd a]]).noRef = true := (Fine.tup (.cons (Fine.tup (.cons (.int _) (.cons (.int _) .nil))) (.cons (Fine.tup (.cons (fine_a kd a) .nil)) .nil))).nr
  have n0 : (D.tup [kD kd]).noRef = true := by show ((kD kd).noRef && true) = true; rw [nr_k]; rfl
  have n2 : (D.tup [vD kd v]).noRef = true := (Fine.tup (.cons (fine_v kd v) .nil)).nr
  refine pc_ret (t := t22) (m' := []) rfl rfl (nr3 n0 n1 n2) rfl ?_
  refine (x_asg (d := .tup [.tup [.int 0, .int 1], .tup [aD kd a]]) (m1 := []) rfl rfl).trans ?_
  refine (x_asg (d := .lst [qD (ph kd a v)]) (m1 := []) ?_ rfl).trans ?_
  · refine e_comp (ds := [.tup [kD kd, aD kd a, vD kd v]]) (m1 := []) rfl rfl ?_
    show (Option.bind ((callP (G k) 11 [kD kd, aD kd a, vD kd v]).map fun d => (d, ([] : Mem))) _) = _
    rw [hp]
    rfl
  · exact x_ret (e_callP (e_one (e_lst (e_cons rfl (e_star (es := [qD (ph kd a v)]) rfl rfl rfl)) rfl)) hs)
end K56
set_option Elab.async false
set_option linter.all false
set_option maxRecDepth 100000
set_option exponentiation.threshold 10000
set_option maxHeartbeats 1000000
namespace K56
open MP PySem

/-! ### the law's own numbers -/
abbrev lB : S := .par 2 3 (.var 3) (.bin .mod (.blt .int (.cons (.var 2) .nil)) (.var 3)) .nil
abbrev lC : E := .cmp .gt (.var 3) (.lit (.int 0))
abbrev lW (g : Calls) (n : Nat) (x y : D) (a b : Nat) : Option (Fl × Mem) := whlF (fun env m => (ev g lC env m).bind fun x => x.1.bool?.map fun t => (t, x.2)) (MP.exec g FU lB) n [some x, some y, some (.int a), some (.int b)] []
theorem lStep (g : Calls) (n : Nat) (x y : D) (a b : Nat) : lW g (n + 1) x y a b = if b = 0 then some (.nx [some x, some y, some (.int a), some (.int b)], []) else lW g n x y b (a % b) := by
  have hc : (ev g lC [some x, some y, some (.int a), some (.int b)] []).bind (fun x => x.1.bool?.map fun t => (t, x.2)) = some (decide ((0 : Int) < (b : Int)), []) := rfl
  by_cases h : b = 0
  · subst h
    exact whl_end hc
  · have hb : decide ((0 : Int) < (b : Int)) = true := by simp; omega
    rw [hb] at hc
    rw [if_neg h]
    refine whl_nx hc ?_
    show ((if decide ((0 : Int) < (b : Int)) = true then some (D.int ((a : Int) % (b : Int))) else none).map fun d => (d, ([] : Mem))).bind _ = _
    rw [if_pos hb]
    rfl
theorem lLoop (g : Calls) (x y : D) : ∀ (j n a b : Nat), b < 2 ^ j → 2 * j + 1 ≤ n → lW g n x y a b = some (.nx [some x, some y, some (.int (Nat.gcd a b : Nat)), some (.int 0)], [])
  | 0, n, a, b, hb, hn => by
    have h : b = 0 := by
      have : 2 ^ 0 = 1 := rfl
      omega
    subst h
    obtain ⟨n, rfl⟩ : ∃ q, n = q + 1 := ⟨n - 1, by omega⟩
    rw [lStep, if_pos rfl, Nat.gcd_zero_right]
    rfl
  | j + 1, n, a, b, hb, hn => by
    obtain ⟨n, rfl⟩ : ∃ q, n = q + 1 + 1 := ⟨n - 2, by omega⟩
    rw [lStep]
    by_cases h0 : b = 0
    · subst h0
      rw [if_pos rfl, Nat.gcd_zero_right]
      rfl
    · rw [if_neg h0, lStep]
      by_cases h1 : a % b = 0
      · rw [if_pos h1, h1, Nat.gcd_comm, Nat.gcd_rec, h1, Nat.gcd_zero_left]
        rfl
      · have hlt : a % b < b := Nat.mod_lt _ (by omega)
        have hlt2 : b % (a % b) < 2 ^ j := by
          have h3 : b % (a % b) < a % b := Nat.mod_lt _ (by omega)
          have h4 : 2 ^ (j + 1) = 2 ^ j + 2 ^ j := by rw [Nat.pow_succ]; omega
          by_cases h5 : a % b ≤ 2 ^ j
          · omega
          · have h6 : b % (a % b) = (b - a % b) % (a % b) := Nat.mod_eq_sub_mod (by omega)
            have h7 : (b - a % b) % (a % b) ≤ b - a % b := Nat.mod_le _ _
            omega
        rw [if_neg h1, lLoop g x y j n (a % b) (b % (a % b)) hlt2 (by omega)]
        rw [Nat.gcd_comm a b, Nat.gcd_rec b a, Nat.gcd_rec (a % b) b, Nat.gcd_comm]
theorem abs_int (i : Int) : (if i < 0 then -i else i) = ((i.natAbs : Nat) : Int) := by
  split <;> omega
theorem v_made {L : Nat} (hL : 1 ≤ L) (a : Int) (d n : Nat) (h0 : d ≠ 0) (hd : d < 2 ^ n) (hn : n ≤ 8000) : callP (G L) 31 [.int a, .int d] = some (qD (mkRat a d)) := by
  obtain ⟨k, rfl⟩ := up hL
  have hg0 : 0 < Nat.gcd a.natAbs d := Nat.gcd_pos_of_pos_right _ (by omega)
  have hle : Nat.gcd a.natAbs d ≤ d := Nat.le_of_dvd (by omega) (Nat.gcd_dvd_right _ _)
  have f1 : fit ((Nat.gcd a.natAbs d : Nat) : Int) = true := fit_of (n := n) (by simpa using Nat.lt_of_le_of_lt hle hd) hn
  have f2 : decide ((0 : Int) < ((Nat.gcd a.natAbs d : Nat) : Int)) = true := by simp; omega
  have hdiv : ∀ i : Int, binD .fdiv (.int i) (.int ((Nat.gcd a.natAbs d : Nat) : Int)) = some (.int (i / ((Nat.gcd a.natAbs d : Nat) : Int))) := fun i => by
    show (if (decide ((0 : Int) < ((Nat.gcd a.natAbs d : Nat) : Int)) && fit ((Nat.gcd a.natAbs d : Nat) : Int)) = true then some _ else none) = _
    rw [f1, f2]
    rfl
  obtain ⟨h1, h2⟩ := mkRat_num a d h0
  have ha : bltD [] .abs [.int a] = some (.int (a.natAbs : Nat)) := congrArg (fun i => some (D.int i)) (abs_int a)
  have hd' : bltD [] .abs [.int (d : Int)] = some (.int (d : Nat)) := congrArg (fun i => some (D.int i)) (abs_int d)
  refine pc_ret (t := t31) (m' := []) rfl rfl rfl rfl ?_
  refine (x_par (x := .int (a.natAbs : Nat)) (m1 := []) (y := .int (d : Nat)) (m2 := []) (e_blt (e_one rfl) ha) (e_blt (e_one rfl) hd')).trans ?_
  have e := lLoop (G k) (.int a) (.int d) 8000 FU a.natAbs d (Nat.lt_of_lt_of_le hd (Nat.pow_le_pow_right (by decide) hn)) (by decide)
  show thnF (lW (G k) FU (.int a) (.int d) a.natAbs d) _ = _
  refine (thn_nx e).trans ?_
  have hgt : decide ((0 : Int) < (d : Int)) = true := by simp; omega
  have hc : cmpD [] .gt (.int (d : Int)) (.int 0) = some true := congrArg some hgt
  refine (x_asg (d := .int (Nat.gcd a.natAbs d : Nat)) (m1 := []) (e_ife (t := true) (e_cmp rfl rfl hc) rfl) rfl).trans ?_
  unfold qD
  rw [h1, h2]
  exact x_ret (e_tup (e_two (e_bin (e_blt (e_one rfl) rfl) rfl (hdiv a)) (e_bin (e_blt (e_one rfl) rfl) rfl (hdiv d))) rfl)
theorem v_add {L : Nat} (hL : 2 ≤ L) {r s : Rat} {n m : Nat} (h : bt n r) (g : bt m s) (hz : n + m ≤ 7999) : callP (G L) 32 [qD r, qD s] = some (qD (r + s)) := by
  obtain ⟨k, rfl⟩ : ∃ k, L = k + 1 := ⟨L - 1, by omega⟩
  obtain ⟨f1, f2⟩ := fit_num h (by omega)
  obtain ⟨f3, f4⟩ := fit_num g (by omega)
  have hm := v_made (L := k) (by omega) (r.num * s.den + s.num * r.den) (r.den * s.den) (n + m + 1) (den_ne r s) (bt_addpre h g).2 (by omega)
  rw [Int.natCast_mul] at hm
  refine pc_ret (t := t32) (m' := []) rfl rfl rfl rfl ?_
  rw [add_mk]
  simp only [t32, MP.exec, ev, List.map_cons, List.map_nil, List.length_cons, List.length_nil, List.replicate, List.cons_append, List.nil_append, List.getD_cons_zero, List.getD_cons_succ, Option.map_some, Option.bind_some, qD, ixT0, ixT1, binD, mulD, addD, f1, f2, f3, f4, Bool.and_self, if_true, hm]
theorem v_mul {L : Nat} (hL : 2 ≤ L) {r s : Rat} {n m : Nat} (h : bt n r) (g : bt m s) (hz : n + m ≤ 8000) : callP (G L) 33 [qD r, qD s] = some (qD (r * s)) := by
  obtain ⟨k, rfl⟩ : ∃ k, L = k + 1 := ⟨L - 1, by omega⟩
  obtain ⟨f1, f2⟩ := fit_num h (by omega)
  obtain ⟨f3, f4⟩ := fit_num g (by omega)
  have hm := v_made (L := k) (by omega) (r.num * s.num) (r.den * s.den) (n + m) (den_ne r s) (bt_mulpre h g).2 (by omega)
  rw [Int.natCast_mul] at hm
  refine pc_ret (t := t33) (m' := []) rfl rfl rfl rfl ?_
  rw [mul_mk]
  simp only [t33, MP.exec, ev, List.map_cons, List.map_nil, List.length_cons, List.length_nil, List.replicate, List.cons_append, List.nil_append, List.getD_cons_zero, List.getD_cons_succ, Option.map_some, Option.bind_some, qD, ixT0, ixT1, binD, mulD, addD, f1, f2, f3, f4, Bool.and_self, if_true, hm]

/-! ### nodes, potential once more -/
def th {α : Type} : Tr α → Nat
  | .nil => 0
  | .node l _ r => max (th l) (th r) + 1
theorem ino_len {α : Type} : ∀ (t : Tr α) (d : Nat), (ino t d).length = nn t
  | .nil, _ => rfl
  | .node l x r, d => by
    unfold ino nn
    rw [List.length_append, List.length_append, ino_len l, ino_len r, List.length_singleton]
    omega
theorem v_nodes {α : Type} {f : α → D} (h : ∀ x, Fine (f x)) : ∀ (t : Tr α) (d L : Nat), nn t ≤ 1000 → th t + 1 ≤ L → callP (G L) 36 [tD f t, .int d] = some (.lst ((ino t d).map (foundD f)))
  | .nil, d, L, _, hL => by
    obtain ⟨k, rfl⟩ : ∃ k, L = k + 1 := ⟨L - 1, by omega⟩
    refine pc_ret (t := t36) (m' := []) rfl rfl rfl rfl ?_
    exact (x_yes (e_cmp rfl (e_tup rfl rfl) (cmp_tup0 .nil)) (e_lst rfl rfl)).trans rfl
  | .node l x r, d, L, hn, hL => by
    obtain ⟨k, rfl⟩ : ∃ k, L = k + 1 := ⟨L - 1, by omega⟩
    unfold th at hL
    unfold nn at hn
    have hl := v_nodes h l (d + 1) k (by omega) (by omega)
    have hr := v_nodes h r (d + 1) k (by omega) (by omega)
    have fl : ∀ (t : Tr α) (d : Nat), Fines ((ino t d).map (foundD f)) := fun t d => Fines.map fun p _ => Fine.tup (.cons (h p.1) (.cons (.int p.2) .nil))
    refine pc_ret (t := t36) (m' := []) rfl rfl (nr2 (fine_t h _).nr rfl) (Fine.lst (fl _ _)).nr ?_
    refine (x_no (e_cmp rfl (e_tup rfl rfl) (cmp_tup0 (.cons (fine_t h l) (.cons (h x) (.cons (fine_t h r) .nil)))))).trans ?_
    have z1 : sz (((ino l (d + 1)).map (foundD f)).length + 1) = true := sz_of (by rw [List.length_map, ino_len]; omega)
    have z2 : sz ((((ino l (d + 1)).map (foundD f)) ++ [foundD f (x, d)]).length + ((ino r (d + 1)).map (foundD f)).length) = true := sz_of (by rw [List.length_append, List.length_map, ino_len, List.length_map, ino_len, List.length_singleton]; omega)
    have b1 : binD .add (.lst ((ino l (d + 1)).map (foundD f))) (.lst [foundD f (x, d)]) = some (.lst ((ino l (d + 1)).map (foundD f) ++ [foundD f (x, d)])) := if_pos z1
    have b2 : binD .add (.lst ((ino l (d + 1)).map (foundD f) ++ [foundD f (x, d)])) (.lst ((ino r (d + 1)).map (foundD f))) = some (.lst ((ino l (d + 1)).map (foundD f) ++ [foundD f (x, d)] ++ (ino r (d + 1)).map (foundD f))) := if_pos z2
    have e : (ino (.node l x r) d).map (foundD f) = (ino l (d + 1)).map (foundD f) ++ [foundD f (x, d)] ++ (ino r (d + 1)).map (foundD f) := by
      show (ino l (d + 1) ++ [(x, d)] ++ ino r (d + 1)).map (foundD f) = _
      rw [List.map_append, List.map_append]
      rfl
    rw [e]
    exact x_ret (e_bin (e_bin (e_callP (e_two (e_idx rfl rfl ixT0) (e_bin rfl rfl rfl)) hl) (e_lst (e_one (e_tup (e_two (e_idx rfl rfl ixT1) rfl) rfl)) rfl) b1) (e_callP (e_two (e_idx rfl rfl ixT2) (e_bin rfl rfl rfl)) hr) b2)
theorem ino_pre {α : Type} (F : α × Nat → Nat) : ∀ (t : Tr α) (d : Nat), ((ino t d).map F).sum = ((pre t d).map F).sum
  | .nil, _ => rfl
  | .node l x r, d => by
    unfold ino pre
    rw [List.map_append, List.map_append, List.map_cons, List.map_cons, List.map_append, List.sum_append, List.sum_append, List.sum_cons, List.sum_cons, List.sum_append, ino_pre F l, ino_pre F r]
    simp only [List.map_nil, List.sum_nil]
    omega
theorem ino_inl {α β : Type} (F : α → β) : ∀ (t : Tr α) (d : Nat), (ino t d).map (fun p => F p.1) = (inl t).map F
  | .nil, _ => rfl
  | .node l x r, d => by
    unfold ino inl
    rw [List.map_append, List.map_append, ino_inl F l, ino_inl F r, List.map_append, List.map_cons, List.append_assoc]
    rfl
/-- trees of height 45 at most within -/
def Hv : (k : Kd) → Va k → Prop
  | .num, _ => True
  | .list k, xs => ∀ x ∈ (show List (Va k) from xs), Hv k x
  | .tree k, t => th t ≤ 45 ∧ ∀ x ∈ inl t, Hv k x
  | .pair a b, (x, y) => Hv a x ∧ Hv b y
end K56
set_option Elab.async false
set_option linter.all false
set_option maxRecDepth 100000
set_option exponentiation.threshold 10000
set_option maxHeartbeats 1000000
namespace K56
open MP PySem

/-! ### the law's potential -/
abbrev pB1 : S := .asg (.name 6) (.callP 32 (.cons (.var 6) (.cons (.callP 33 (.cons (.var 7) (.cons (.tup (.cons (.var 8) (.cons (.lit (.int 1)) .nil))) .nil))) .nil))) .nil
abbrev pB2 : S := .asg (.name 6) (.callP 32 (.cons (.var 6) (.cons (.callP 37 (.cons (.idx (.var 0) (.lit (.int 1))) (.cons (.idx (.var 1) (.lit (.int 1))) (.cons (.var 9) .nil)))) .nil))) .nil
abbrev pT : S := .asg (.name 6) (.tup (.cons (.lit (.int 0)) (.cons (.lit (.int 1)) .nil))) (.for (.tup (.cons (.name 7) (.cons (.name 8) .nil))) (.zip2 (.cons (.idx (.var 1) (.lit (.int 0))) (.cons (.var 4) .nil))) pB1 (.for (.name 9) (.seq (.var 3)) pB2 (.ret (.var 6))))
theorem v_step {k : Nat} (hk : 2 ≤ k) {d0 d1 d2 : D} {e3 e4 e5 e7 e8 e9 e10 : Option D} {t q : Rat} {n c b : Nat} (ht : bt c t) (hq : bt b q) (hn : n < 2 ^ 14) (hz : c + b + 15 ≤ 7999) :
    (bindP (.tup (.cons (.name 7) (.cons (.name 8) .nil))) (.tup [qD q, .int n]) [some d0, some d1, some d2, e3, e4, e5, some (qD t), e7, e8, e9, e10]).bind (fun env => MP.exec (G k) FU pB1 env []) =
      some (.nx [some d0, some d1, some d2, e3, e4, e5, some (qD (t + q * (n : Rat))), some (qD q), some (.int n), e9, e10], []) := by
  have h1 := v_mul (L := k) hk hq (bt_nat hn (by decide)) (by omega)
  have h2 := v_add (L := k) hk ht (bt_mul hq (bt_nat hn (by decide))) (by omega)
  show MP.exec (G k) FU pB1 [some d0, some d1, some d2, e3, e4, e5, some (qD t), some (qD q), some (.int n), e9, e10] [] = _
  exact (x_asg (e_callP (e_two rfl (e_callP (e_two rfl (e_tup (e_two rfl rfl) rfl)) h1)) h2) rfl).trans rfl
theorem v_loop1 {k : Nat} (hk : 2 ≤ k) {d0 d1 d2 : D} {e3 e4 e5 e7 e8 e9 e10 : Option D} {g b : Nat} {row : List Rat} (h : Row g b row) (hb : b ≤ 100) {n m : Nat} (hn : n < 2 ^ 14) (hm : m < 2 ^ 14) :
    ∃ e7' e8', forF (fun d env m => (bindP (.tup (.cons (.name 7) (.cons (.name 8) .nil))) d env).bind fun env => MP.exec (G k) FU pB1 env m) (List.zipWith (fun x y => D.tup [x, y]) (row.map qD) [.int n, .int m]) [some d0, some d1, some d2, e3, e4, e5, some (qD 0), e7, e8, e9, e10] [] =
      some (.nx [some d0, some d1, some d2, e3, e4, e5, some (qD (dot row [n, m])), e7', e8', e9, e10], []) := by
  rcases h.two with ⟨q, rfl, _, hq⟩ | ⟨q, r, rfl, _, hq, hr⟩
  · refine ⟨some (qD q), some (.int n), (for_nx (v_step hk bt_zero hq hn (by omega))).trans ?_⟩
    show some _ = some _
    have e : (0 : Rat) + q * (n : Rat) = dot [q] [n, m] := by
      show _ = q * (n : Rat) + 0
      rw [Rat.zero_add, Rat.add_zero]
    rw [e]
  · have h1 := bt_add bt_zero (bt_mul hq (bt_nat hn (by decide)))
    refine ⟨some (qD r), some (.int m), (for_nx (v_step hk bt_zero hq hn (by omega))).trans ((for_nx (v_step hk h1 hr hm (by omega))).trans ?_)⟩
    show some _ = some _
    have e : (0 : Rat) + q * (n : Rat) + r * (m : Rat) = dot [q, r] [n, m] := by
      show _ = q * (n : Rat) + (r * (m : Rat) + 0)
      rw [Rat.zero_add, Rat.add_zero]
    rw [e]
theorem v_loop2 {k : Nat} (hk : 2 ≤ k) {d0 d1 d2 dk da : D} (hdk : idxD [] d0 (.int 1) = some dk) (hda : idxD [] d1 (.int 1) = some da) {e3 e4 e5 e7 e8 e10 : Option D} {α : Type} {c : α → D} {f : α → Rat} {n0 n : Nat} (hz : n0 + n ≤ 7999) :
    ∀ (xs : List α) (s t : Rat) (e9 : Option D), bt n0 t → Bs (xs.map f) n → (∀ x ∈ xs, callP (G k) 37 [dk, da, c x] = some (qD (f x))) → t + sR (xs.map f) = s → n0 + n ≤ 7999 →
    ∃ e9', forF (fun d env m => (bindP (.name 9) d env).bind fun env => MP.exec (G k) FU pB2 env m) (xs.map c) [some d0, some d1, some d2, e3, e4, e5, some (qD t), e7, e8, e9, e10] [] =
      some (.nx [some d0, some d1, some d2, e3, e4, e5, some (qD s), e7, e8, e9', e10], []) := by
  intro xs
  induction xs generalizing n0 n with
  | nil =>
    intro s t e9 ht hB hit hs hz
    have hs : t + 0 = s := hs
    rw [Rat.add_zero] at hs
    subst hs
    exact ⟨e9, rfl⟩
  | cons x xs ih =>
    intro s t e9 ht hB hit hs hz
    obtain ⟨a, m, h1, h2, h3⟩ := hB
    have h4 := v_add (L := k) hk ht h1 (by omega)
    have hx := hit x (List.mem_cons_self ..)
    obtain ⟨e9', e⟩ := ih (n0 := n0 + a + 1) (n := m) (by omega) s (t + f x) (some (c x)) (bt_add ht h1) h2 (fun y hy => hit y (List.mem_cons_of_mem _ hy)) (by rw [Rat.add_assoc]; exact hs) (by omega)
    refine ⟨e9', (for_nx ?_).trans e⟩
    show MP.exec (G k) FU pB2 [some d0, some d1, some d2, e3, e4, e5, some (qD t), e7, e8, some (c x), e10] [] = _
    exact (x_asg (e_callP (e_two rfl (e_callP (e_three (e_idx rfl rfl hdk) (e_idx rfl rfl hda) rfl) hx)) h4) rfl).trans rfl
theorem v_tail {k : Nat} (hk : 2 ≤ k) {d0 d2 dk da : D} (hdk : idxD [] d0 (.int 1) = some dk) {g b : Nat} {row : List Rat} (h : Row g b row) (hb : b ≤ 100) {n m : Nat} (hn : n < 2 ^ 14) (hm : m < 2 ^ 14) {e5 e6 e7 e8 e9 e10 : Option D} {α : Type} {c : α → D} {f : α → Rat} {xs : List α} {j : Nat}
    (hB : Bs (xs.map f) j) (hz : 2 * (b + 15) + 1 + j ≤ 7999) (hit : ∀ x ∈ xs, callP (G k) 37 [dk, da, c x] = some (qD (f x))) :
    MP.exec (G k) FU pT [some d0, some (.tup [.tup (row.map qD), da]), some d2, some (.lst (xs.map c)), some (.lst [.int n, .int m]), e5, e6, e7, e8, e9, e10] [] = some (.rt (qD (dot row [n, m] + sR (xs.map f))), []) := by
  obtain ⟨e7', e8', l1⟩ := v_loop1 (k := k) hk (d0 := d0) (d1 := .tup [.tup (row.map qD), da]) (d2 := d2) (e3 := some (.lst (xs.map c))) (e4 := some (.lst [.int n, .int m])) (e5 := e5) (e7 := e7) (e8 := e8) (e9 := e9) (e10 := e10) h hb hn hm
  obtain ⟨e9', l2⟩ := v_loop2 (k := k) hk (d0 := d0) (d1 := .tup [.tup (row.map qD), da]) (d2 := d2) hdk ixT1 (e3 := some (.lst (xs.map c))) (e4 := some (.lst [.int n, .int m])) (e5 := e5) (e7 := e7') (e8 := e8') (e10 := e10) (c := c) (f := f) (n0 := 2 * (b + 15) + 1) (n := j) hz xs _ _ e9 (dot_bits h hn hm) hB hit rfl hz
  refine (x_asg (d := qD 0) (m1 := []) rfl rfl).trans ?_
  refine (x_for (ds := List.zipWith (fun x y => D.tup [x, y]) (row.map qD) [.int n, .int m]) (m1 := []) rfl).trans ?_
  refine (thn_nx l1).trans ?_
  refine (x_for (ds := xs.map c) (m1 := []) rfl).trans ?_
  refine (thn_nx l2).trans ?_
  exact x_ret rfl
theorem v_pot {g b : Nat} (hb : b ≤ 12) : ∀ (kd : Kd) (a : An kd) (v : Va kd) (L : Nat), Aw g b kd a → wt kd v ≤ 128 → Hv kd v → ht kd + 49 ≤ L → callP (G L) 37 [kD kd, aD kd a, vD kd v] = some (qD (ph kd a v))
  | .num, a, v, L, _, _, _, hL => by
    obtain ⟨k, rfl⟩ : ∃ k, L = k + 1 := ⟨L - 1, by omega⟩
    refine pc_ret (t := t37) (m' := []) rfl rfl rfl rfl ?_
    exact (x_yes (k_num .num rfl) rfl).trans rfl
  | .list kd, (row, a), xs, L, ⟨h1, h2⟩, hw, hv, hL => by
    obtain ⟨k, rfl⟩ : ∃ k, L = k + 1 := ⟨L - 1, by omega⟩
    have hL : ht kd + 49 ≤ k := by unfold ht at hL; omega
    have hlen := list_len (k := kd) (xs := xs)
    exact v_potL (kd := kd) (xs := xs) hb h1 h2 hw (by omega) fun x hx => v_pot hb kd a x k h2 (li_item hw hx) (hv x hx) hL
  | .tree kd, (row, a), t, L, ⟨h1, h2⟩, hw, hv, hL => by
    obtain ⟨k, rfl⟩ : ∃ k, L = k + 1 := ⟨L - 1, by omega⟩
    have hL : ht kd + 49 ≤ k := by unfold ht at hL; omega
    have e := v_potT (kd := kd) (t := t) hb h1 h2 hw (by have := hv.1; omega) fun x hx => v_pot hb kd a x k h2 (by
      obtain ⟨e, he⟩ := inl_pre t 0 x hx
      exact tr_item hw he) (hv.2 x hx) hL
    rw [sR_inl t 0] at e
    exact e
  | .pair ka kb, (a, c), (x, y), L, ⟨h1, h2⟩, hw, hv, hL => by
    obtain ⟨k, rfl⟩ : ∃ k, L = k + 1 := ⟨L - 1, by omega⟩
    have e := wt_pair ka kb x y
    have p1 := wt_pos ka x
    have p2 := wt_pos kb y
    have hx := v_pot hb ka a x k h1 (by omega) hv.1 (by unfold ht at hL; omega)
    have hy := v_pot hb kb c y k h2 (by omega) hv.2 (by unfold ht at hL; omega)
    have hq := v_add (L := k) (by omega) (ph_bits hb ka a x h1 (by omega)) (ph_bits hb kb c y h2 (by omega)) (by omega)
    refine pc_ret (t := t37) (m' := []) rfl rfl (nr3 (nr_k _) (fine_a (.pair ka kb) (a, c)).nr (fine_v (.pair ka kb) (x, y)).nr) rfl ?_
    refine (x_no (k_num (.pair ka kb) rfl)).trans ((x_ifT (k_pair (.pair ka kb) rfl)).trans (thn_rt ?_))
    exact x_ret (e_callP (e_two (e_callP (e_three (e_idx rfl rfl ixT1) (e_idx rfl rfl ixT0) (e_idx rfl rfl ixT0)) hx) (e_callP (e_three (e_idx rfl rfl ixT2) (e_idx rfl rfl ixT1) (e_idx rfl rfl ixT1)) hy)) hq)
where
  v_potL {g b : Nat} (hb : b ≤ 12) {kd : Kd} {row : List Rat} {a : An kd} {xs : List (Va kd)} {k : Nat} (h1 : Row g b row) (h2 : Aw g b kd a) (hw : wt (.list kd) xs ≤ 128) (hk : 2 ≤ k)
      (hit : ∀ x ∈ xs, callP (G k) 37 [kD kd, aD kd a, vD kd x] = some (qD (ph kd a x))) :
      callP (G (k + 1)) 37 [kD (.list kd), .tup [.tup (row.map qD), aD kd a], .tup (xs.map (vD kd))] = some (qD (dot row [xs.length, ch xs.length 2] + sR (xs.map (ph kd a)))) := by
    have hlen := list_len (k := kd) (xs := xs)
    have hB := Bs_list hb h2 hw
    have n14 : xs.length < 2 ^ 14 := Nat.lt_of_le_of_lt (by omega) (by decide : 128 < 2 ^ 14)
    refine pc_ret (t := t37) (m' := []) rfl rfl (nr3 (nr_k _) (fine_a (.list kd) (row, a)).nr (fine_v (.list kd) xs).nr) rfl ?_
    refine (x_no (k_num (.list kd) rfl)).trans ((x_no (k_pair (.list kd) rfl)).trans ?_)
    refine (x_asg (d := .lst (xs.map (vD kd))) (m1 := []) (e_blt (e_one rfl) rfl) rfl).trans ?_
    have f1 : fit (xs.length : Int) = true := fit_of (n := 20) (by omega) (by decide)
    have f2 : fit ((xs.length : Int) - 1) = true := fit_of (n := 20) (by omega) (by decide)
    have hl : bltD [] .len [.lst (xs.map (vD kd))] = some (.int xs.length) := by
      show some (D.int ((xs.map (vD kd)).length : Nat)) = _
      rw [List.length_map]
    have hm : binD .mul (.int xs.length) (.int ((xs.length : Int) - 1)) = some (.int ((xs.length : Int) * ((xs.length : Int) - 1))) := if_pos (by rw [f1, f2]; rfl)
    have he : ((xs.length : Int) * ((xs.length : Int) - 1)) / 2 = ((ch xs.length 2 : Nat) : Int) := by
      cases xs with
      | nil => rfl
      | cons x r =>
        have e : (((x :: r).length : Int) - 1) = (((x :: r).length - 1 : Nat) : Int) := by
          rw [List.length_cons]
          omega
        rw [e]
        rfl
    have hd : binD .fdiv (.int ((xs.length : Int) * ((xs.length : Int) - 1))) (.int 2) = some (.int (ch xs.length 2 : Nat)) := by
      rw [← he]
      rfl
    refine (x_asg (d := .lst [.int xs.length, .int (ch xs.length 2 : Nat)]) (m1 := []) (e_lst (e_two (e_blt (e_one rfl) hl) (e_bin (e_blt (e_one (e_bin (e_blt (e_one rfl) hl) (e_bin (e_blt (e_one rfl) hl) rfl rfl) hm)) rfl) rfl hd)) rfl) rfl).trans ?_
    refine (x_no (k_tree (.list kd) rfl)).trans ?_
    exact v_tail (k := k) (d0 := kD (.list kd)) (by omega) ixT1 h1 (by omega) n14 (ch2_lt (by omega)) (c := vD kd) (f := ph kd a) (xs := xs) hB (by omega) hit
  v_potT {g b : Nat} (hb : b ≤ 12) {kd : Kd} {row : List Rat} {a : An kd} {t : Tr (Va kd)} {k : Nat} (h1 : Row g b row) (h2 : Aw g b kd a) (hw : wt (.tree kd) t ≤ 128) (hk : th t + 2 ≤ k)
      (hit : ∀ x ∈ inl t, callP (G k) 37 [kD kd, aD kd a, vD kd x] = some (qD (ph kd a x))) :
      callP (G (k + 1)) 37 [kD (.tree kd), .tup [.tup (row.map qD), aD kd a], tD (vD kd) t] = some (qD (dot row [nn t, dsum t] + sR ((inl t).map (ph kd a)))) := by
    have hlen := tree_len (k := kd) (t := t)
    have hB := Bs_inl hb h2 hw
    have hd := dsum_lt (t := t) (by omega)
    have hn : nn t < 2 ^ 14 := Nat.lt_of_le_of_lt (by omega) (by decide : 128 < 2 ^ 14)
    have hnodes := v_nodes (fine_v kd) t 0 k (by omega) (by omega)
    have hil := ino_len t 0
    have hsum : bltD [] .sum [.lst ((ino t 0).map fun p => D.int p.2)] = some (.int (dsum t : Nat)) := by
      have e := bltD_sum (m := []) ((ino t 0).map fun p => p.2)
      rw [List.map_map, ino_pre] at e
      exact e
    obtain ⟨ws, hws, hw3⟩ : ∃ ws : List D, bltD [] .list [tD (vD kd) t] = some (.lst ws) ∧ (ws.length = 0 ∨ ws.length = 3) := by
      cases t with
      | nil => exact ⟨_, rfl, .inl rfl⟩
      | node l x r => exact ⟨_, rfl, .inr rfl⟩
    have hcnt : ∃ c, ev (G k) (.lst (.cons (.blt .len (.cons (.var 3) .nil)) (.cons (.bin .fdiv (.blt .int (.cons (.bin .mul (.blt .len (.cons (.var 3) .nil)) (.bin .sub (.blt .len (.cons (.var 3) .nil)) (.lit (.int 1)))) .nil)) (.lit (.int 2))) .nil)))
        [some (kD (.tree kd)), some (.tup [.tup (row.map qD), aD kd a]), some (tD (vD kd) t), some (.lst ws), none, none, none, none, none, none, none] [] = some (c, []) := by
      have hl : bltD [] .len [.lst ws] = some (.int ws.length) := rfl
      rcases hw3 with e | e
      · rw [e] at hl
        exact ⟨_, e_lst (e_two (e_blt (e_one rfl) hl) (e_bin (e_blt (e_one (e_bin (e_blt (e_one rfl) hl) (e_bin (e_blt (e_one rfl) hl) rfl rfl) rfl)) rfl) rfl rfl)) rfl⟩
      · rw [e] at hl
        exact ⟨_, e_lst (e_two (e_blt (e_one rfl) hl) (e_bin (e_blt (e_one (e_bin (e_blt (e_one rfl) hl) (e_bin (e_blt (e_one rfl) hl) rfl rfl) rfl)) rfl) rfl rfl)) rfl⟩
    obtain ⟨c0, hc0⟩ := hcnt
    have hitm : (ino t 0).map (fun p => vD kd p.1) = (inl t).map (vD kd) := ino_inl (vD kd) t 0
    refine pc_ret (t := t37) (m' := []) rfl rfl (nr3 (nr_k _) (fine_a (.tree kd) (row, a)).nr (fine_v (.tree kd) t).nr) rfl ?_
    refine (x_no (k_num (.tree kd) rfl)).trans ((x_no (k_pair (.tree kd) rfl)).trans ?_)
    refine (x_asg (d := .lst ws) (m1 := []) (e_blt (e_one rfl) hws) rfl).trans ?_
    refine (x_asg (d := c0) (m1 := []) hc0 rfl).trans ?_
    refine (x_ifT (k_tree (.tree kd) rfl)).trans ?_
    refine Eq.trans (thn_nx (env1 := [some (kD (.tree kd)), some (.tup [.tup (row.map qD), aD kd a]), some (tD (vD kd) t), some (.lst ((inl t).map (vD kd))), some (.lst [.int (nn t), .int (dsum t : Nat)]), some (.lst ((ino t 0).map (foundD (vD kd)))), none, none, none, none, none]) (m1 := []) ?_) ?_
    · refine (x_asg (d := .lst ((ino t 0).map (foundD (vD kd)))) (m1 := []) (e_callP (e_two rfl rfl) hnodes) rfl).trans ?_
      have hm := e_map2 (G := G k) (A := .var 9) (I := .seq (.var 5)) (i := 9) (j := 10) (own := [9, 10]) (env := [some (kD (.tree kd)), some (.tup [.tup (row.map qD), aD kd a]), some (tD (vD kd) t), some (.lst ws), some c0, some (.lst ((ino t 0).map (foundD (vD kd)))), none, none, none, none, none]) (m := []) (c1 := fun p => vD kd p.1) (c2 := fun p => .int p.2) (f := fun p => vD kd p.1) (xs := ino t 0) (m1 := []) (e_seq rfl rfl) (by omega) fun x hx => rfl
      rw [hitm] at hm
      refine (x_asg (d := .lst ((inl t).map (vD kd))) (m1 := []) hm rfl).trans ?_
      have hl5 : bltD [] .len [.lst ((ino t 0).map (foundD (vD kd)))] = some (.int (nn t)) := by
        show some (D.int (((ino t 0).map (foundD (vD kd))).length : Nat)) = _
        rw [List.length_map, hil]
      exact (x_asg (d := .lst [.int (nn t), .int (dsum t : Nat)]) (m1 := []) (e_lst (e_two (e_blt (e_one rfl) hl5) (e_blt (e_one (e_map2 (c1 := fun p => vD kd p.1) (c2 := fun p => .int p.2) (f := fun p => .int p.2) (xs := ino t 0) (e_seq rfl rfl) (by omega) fun x hx => rfl)) hsum)) rfl) rfl).trans rfl
    · exact v_tail (k := k) (d0 := kD (.tree kd)) (by omega) ixT1 h1 (by omega) hn hd (c := vD kd) (f := ph kd a) (xs := inl t) hB (by omega) hit
end K56
set_option Elab.async false
set_option linter.all false
set_option maxRecDepth 100000
set_option exponentiation.threshold 10000
set_option maxHeartbeats 1000000
namespace K56
open MP PySem

/-! ### alike -/
mutual
/-- numbers, truths, tuples and lists of them -/
def plain : D → Bool
  | .int _ => true | .bl _ => true
  | .tup ds => plains ds | .lst ds => plains ds
  | _ => false
def plains : List D → Bool
  | [] => true
  | d :: ds => plain d && plains ds
end
mutual
def size : D → Nat
  | .tup ds => 1 + sizes ds | .lst ds => 1 + sizes ds
  | _ => 1
def sizes : List D → Nat
  | [] => 0
  | d :: ds => size d + sizes ds
end
theorem size_pos (d : D) : 1 ≤ size d := by cases d <;> (unfold size; omega)
theorem sizes_len : ∀ ds : List D, ds.length ≤ sizes ds
  | [] => Nat.le_refl _
  | d :: ds => by
    have h1 := size_pos d
    have h2 := sizes_len ds
    unfold sizes
    rw [List.length_cons]
    omega
theorem sizes_append : ∀ a b : List D, sizes (a ++ b) = sizes a + sizes b
  | [], b => by show sizes b = 0 + sizes b; omega
  | d :: ds, b => by
    show size d + sizes (ds ++ b) = size d + sizes ds + sizes b
    rw [sizes_append ds b]
    omega
theorem plains_append : ∀ a b : List D, plains (a ++ b) = (plains a && plains b)
  | [], b => rfl
  | d :: ds, b => by
    show (plain d && plains (ds ++ b)) = ((plain d && plains ds) && plains b)
    rw [plains_append ds b, Bool.and_assoc]
def pr (d : D) : D := .tup [d, d]
theorem zip_pr : ∀ ds : List D, List.zipWith (fun x y => D.tup [x, y]) ds ds = ds.map pr
  | [] => rfl
  | d :: ds => by
    rw [List.zipWith_cons_cons, zip_pr ds]
    rfl
theorem cmpn_bl {m : Mem} {p : Bool} : cmpD m .ne (.bl p) (.bl p) = some false := by cases p <;> rfl
theorem cmpn_self {m : Mem} {i : Int} : cmpD m .ne (.int i) (.int i) = some false := by
  show some (!(i == i)) = _
  simp
abbrev aC : E := .cmp .lt (.var 3) (.blt .len (.cons (.var 2) .nil))
abbrev aB : S := (.asg (.tup (.cons (.name 4) (.cons (.name 5) .nil))) (.idx (.var 2) (.var 3)) (.aug 3 .add (.lit (.int 1)) (.ife (.or (.cmp .ne (.isi (.var 4) [.bool]) (.isi (.var 5) [.bool])) (.cmp .ne (.isi (.var 4) [.str]) (.isi (.var 5) [.str]))) (.ret (.lit (.bl false))) .nil (.ife (.cmp .ne (.isi (.var 4) [.tup, .lst]) (.isi (.var 5) [.tup, .lst])) (.ret (.lit (.bl false))) .nil (.ife (.isi (.var 4) [.tup, .lst]) (.ife (.or (.cmp .ne (.isi (.var 4) [.tup]) (.isi (.var 5) [.tup])) (.cmp .ne (.blt .len (.cons (.var 4) .nil)) (.blt .len (.cons (.var 5) .nil)))) (.ret (.lit (.bl false))) .nil (.ext (.var 2) (.lzip (.cons (.var 4) (.cons (.var 5) .nil))) .nil)) (.ife (.cmp .ne (.var 4) (.var 5)) (.ret (.lit (.bl false))) .nil .nil) .nil)))))
theorem e_lzip {G : Calls} {env : MP.Env} {m : Mem} {A : E} {xs ys : List D} {x y : D} (h : ev G A env m = some (.tup [x, y], m)) (hx : x.items? = some xs) (hy : y.items? = some ys) (hz : sz xs.length = true) : ev G (.lzip A) env m = some (.lst (List.zipWith (fun x y => .tup [x, y]) xs ys), m) := by
  show (ev G A env m).bind _ = _
  rw [h]
  show x.items?.bind _ = _
  rw [hx]
  show y.items?.bind _ = _
  rw [hy]
  show (if sz xs.length = true then _ else _) = _
  rw [if_pos hz]
theorem aLoop (g : Calls) (x0 x1 : Option D) : ∀ (n : Nat) (done todo : List D) (x y : Option D), plains todo = true → sizes todo < n → done.length + sizes todo ≤ 90000 → ∃ e' m',
    whlF (fun env m => (ev g aC env m).bind fun x => x.1.bool?.map fun t => (t, x.2)) (MP.exec g FU aB) n [x0, x1, some (.ref 0), some (.int done.length), x, y] [.lst ((done ++ todo).map pr)] = some (.nx e', m') := by
  intro n
  induction n with
  | zero => exact fun done todo x y _ h _ => absurd h (Nat.not_lt_zero _)
  | succ n ih =>
  intro done todo x y hp hn hz
  have hc : (ev g aC [x0, x1, some (.ref 0), some (.int done.length), x, y] [.lst ((done ++ todo).map pr)]).bind (fun x => x.1.bool?.map fun t => (t, x.2)) = some (decide ((done.length : Int) < (((done ++ todo).map pr).length : Nat)), [.lst ((done ++ todo).map pr)]) := rfl
  match todo, hp, hn, hz, hc with
  | [], hp, hn, hz, hc =>
    have e : decide ((done.length : Int) < (((done ++ ([] : List D)).map pr).length : Nat)) = false := by
      rw [List.append_nil, List.length_map]
      simp
    rw [e] at hc
    exact ⟨_, _, whl_end hc⟩
  | d :: todo, hp, hn, hz, hc =>
    have e : decide ((done.length : Int) < (((done ++ d :: todo).map pr).length : Nat)) = true := by
      rw [List.length_map, List.length_append, List.length_cons]
      simp
      omega
    rw [e] at hc
    have hp' : (plain d && plains todo) = true := hp
    rw [Bool.and_eq_true] at hp'
    have hn' : size d + sizes todo < n + 1 := hn
    have hz' : done.length + (size d + sizes todo) ≤ 90000 := hz
    have hidx : ev g (.idx (.var 2) (.var 3)) [x0, x1, some (.ref 0), some (.int done.length), x, y] [.lst ((done ++ d :: todo).map pr)] = some (.tup [d, d], [.lst ((done ++ d :: todo).map pr)]) := by
      refine e_idx rfl rfl ?_
      show L2.atI ((done ++ d :: todo).map pr) (done.length : Int) = _
      rw [atI_nat, List.getElem?_map, List.getElem?_append_right (Nat.le_refl _), Nat.sub_self]
      rfl
    have hdone : done ++ d :: todo = (done ++ [d]) ++ todo := by simp
    have hlen1 : ((done.length : Int) + 1) = (((done ++ [d]).length : Nat) : Int) := by
      rw [List.length_append, List.length_singleton]
      omega
    -- the three tests
    have step : ∀ {a b : S} {f : Fl} {m2 : Mem}, MP.exec g FU (.ife (.isi (.var 4) [.tup, .lst]) a b .nil) [x0, x1, some (.ref 0), some (.int ((done.length : Int) + 1)), some d, some d] [.lst ((done ++ d :: todo).map pr)] = some (f, m2) →
        MP.exec g FU (.asg (.tup (.cons (.name 4) (.cons (.name 5) .nil))) (.idx (.var 2) (.var 3)) (.aug 3 .add (.lit (.int 1)) (.ife (.or (.cmp .ne (.isi (.var 4) [.bool]) (.isi (.var 5) [.bool])) (.cmp .ne (.isi (.var 4) [.str]) (.isi (.var 5) [.str]))) (.ret (.lit (.bl false))) .nil (.ife (.cmp .ne (.isi (.var 4) [.tup, .lst]) (.isi (.var 5) [.tup, .lst])) (.ret (.lit (.bl false))) .nil (.ife (.isi (.var 4) [.tup, .lst]) a b .nil)))))
          [x0, x1, some (.ref 0), some (.int done.length), x, y] [.lst ((done ++ d :: todo).map pr)] = some (f, m2) := by
      intro a b f m2 h
      refine (x_asg hidx rfl).trans ?_
      show MP.exec g FU (.ife (.or _ _) _ _ _) [x0, x1, some (.ref 0), some (.int ((done.length : Int) + 1)), some d, some d] _ = _
      refine (x_no (e_or (c := false) (t := false) (e_cmp rfl rfl cmpn_bl) fun _ => e_cmp rfl rfl cmpn_bl)).trans ?_
      exact (x_no (e_cmp rfl rfl cmpn_bl)).trans h
    -- a list, a tuple
    have seqs : ∀ (ds : List D), d.items? = some ds → d.ty = .tup ∨ d.ty = .lst → bltD [.lst ((done ++ d :: todo).map pr)] .len [d] = some (.int ds.length) → size d = 1 + sizes ds → plains ds = true → ∃ e' m',
        whlF (fun env m => (ev g aC env m).bind fun x => x.1.bool?.map fun t => (t, x.2)) (MP.exec g FU aB) (n + 1) [x0, x1, some (.ref 0), some (.int done.length), x, y] [.lst ((done ++ d :: todo).map pr)] = some (.nx e', m') := by
      intro ds hi hty hl hs hpl
      have hsl := sizes_len ds
      have hst := sizes_len todo
      have ht : ev g (.isi (.var 4) [.tup, .lst]) [x0, x1, some (.ref 0), some (.int ((done.length : Int) + 1)), some d, some d] [.lst ((done ++ d :: todo).map pr)] = some (.bl true, [.lst ((done ++ d :: todo).map pr)]) := by
        show some (D.bl (Ty.sub d.ty .tup || (Ty.sub d.ty .lst || false)), _) = _
        rcases hty with e | e <;> rw [e] <;> rfl
      have z1 : sz ds.length = true := sz_of (by omega)
      have z2 : sz (((done ++ d :: todo).map pr).length + (ds.map pr).length) = true := sz_of (by rw [List.length_map, List.length_map, List.length_append, List.length_cons]; omega)
      have hz3 : List.zipWith (fun x y => D.tup [x, y]) ds ds = ds.map pr := zip_pr ds
      have hlz : ev g (.lzip (.cons (.var 4) (.cons (.var 5) .nil))) [x0, x1, some (.ref 0), some (.int ((done.length : Int) + 1)), some d, some d] [.lst ((done ++ d :: todo).map pr)] = some (.lst (ds.map pr), [.lst ((done ++ d :: todo).map pr)]) := by
        rw [← hz3]
        exact e_lzip (e_two rfl rfl) hi hi z1
      have hb : MP.exec g FU aB [x0, x1, some (.ref 0), some (.int done.length), x, y] [.lst ((done ++ d :: todo).map pr)] = some (.nx [x0, x1, some (.ref 0), some (.int ((done.length : Int) + 1)), some d, some d], [.lst ((done ++ d :: todo).map pr ++ ds.map pr)]) := by
        refine step ((x_ifT ht).trans ((thn_nx ?_).trans rfl))
        refine (x_no (e_or (c := false) (t := false) (e_cmp rfl rfl cmpn_bl) fun _ => e_cmp (e_blt (e_one rfl) hl) (e_blt (e_one rfl) hl) cmpn_self)).trans ?_
        exact (x_ext (n := 0) (ds := (done ++ d :: todo).map pr) (es := ds.map pr) rfl hlz rfl z2).trans rfl
      obtain ⟨e', m', q⟩ := ih (done ++ [d]) (todo ++ ds) (some d) (some d) (by rw [plains_append, hp'.2, hpl]; rfl) (by rw [sizes_append]; omega) (by rw [sizes_append, List.length_append, List.length_singleton]; omega)
      refine ⟨e', m', ?_⟩
      rw [whl_nx hc hb, hlen1, ← List.map_append, hdone, List.append_assoc]
      exact q
    have scal : size d = 1 → ev g (.isi (.var 4) [.tup, .lst]) [x0, x1, some (.ref 0), some (.int ((done.length : Int) + 1)), some d, some d] [.lst ((done ++ d :: todo).map pr)] = some (.bl false, [.lst ((done ++ d :: todo).map pr)]) → cmpD [.lst ((done ++ d :: todo).map pr)] .ne d d = some false → ∃ e' m',
        whlF (fun env m => (ev g aC env m).bind fun x => x.1.bool?.map fun t => (t, x.2)) (MP.exec g FU aB) (n + 1) [x0, x1, some (.ref 0), some (.int done.length), x, y] [.lst ((done ++ d :: todo).map pr)] = some (.nx e', m') := by
      intro hs ht hne
      have hb : MP.exec g FU aB [x0, x1, some (.ref 0), some (.int done.length), x, y] [.lst ((done ++ d :: todo).map pr)] = some (.nx [x0, x1, some (.ref 0), some (.int ((done.length : Int) + 1)), some d, some d], [.lst ((done ++ d :: todo).map pr)]) := by
        refine step ((x_ifF ht).trans ((thn_nx ?_).trans rfl))
        exact (x_no (e_cmp rfl rfl hne)).trans rfl
      obtain ⟨e', m', q⟩ := ih (done ++ [d]) todo (some d) (some d) hp'.2 (by omega) (by rw [List.length_append, List.length_singleton]; omega)
      refine ⟨e', m', ?_⟩
      rw [whl_nx hc hb, hlen1, hdone]
      exact q
    cases d with
    | int i => exact scal rfl rfl cmpn_self
    | bl i => exact scal rfl rfl cmpn_bl
    | tup ds => exact seqs ds rfl (.inl rfl) rfl (by unfold size; rfl) (by have := hp'.1; unfold plain at this; exact this)
    | lst ds => exact seqs ds rfl (.inr rfl) rfl (by unfold size; rfl) (by have := hp'.1; unfold plain at this; exact this)
    | _ => exact absurd hp'.1 (by simp [plain])
theorem g_alike {k : Nat} {d : D} (hp : plain d = true) (hz : size d ≤ 80000) : ∃ m', G (k + 1) 29 [d, d] [] = some (.bl true, m') := by
  obtain ⟨e', m', q⟩ := aLoop (G k) (some d) (some d) FU [] [d] none none (by show (plain d && true) = true; rw [hp]; rfl) (by show size d + 0 < FU; unfold FU; omega) (by show 0 + (size d + 0) ≤ 90000; omega)
  refine ⟨m', ?_⟩
  show MP.run tab FU (k + 1) 29 [d, d] [] = _
  rw [run_eq (t := t29) (np := 2) (nn := 6) rfl rfl]
  have e : MP.exec (G k) FU t29 [some d, some d, none, none, none, none] [] = some (.rt (.bl true), m') := by
    refine (x_par (x := .ref 0) (m1 := [.lst [pr d]]) (y := .int 0) (m2 := [.lst [pr d]]) rfl rfl).trans ?_
    show thnF (whlF _ _ FU _ _) _ = _
    refine (thn_nx q).trans ?_
    exact x_ret rfl
  show (MP.exec (G k) FU t29 [some d, some d, none, none, none, none] []).bind fin = _
  rw [e]
  rfl
theorem c_alike {L : Nat} (hL : 1 ≤ L) {d : D} (hp : plain d = true) (hn : d.noRef = true) (hz : size d ≤ 80000) : callP (G L) 29 [d, d] = some (.bl true) := by
  obtain ⟨k, rfl⟩ := up hL
  obtain ⟨m', e⟩ := g_alike (k := k) hp hz
  unfold callP
  rw [if_pos (nr2 hn hn), e]
  rfl
end K56
set_option Elab.async false
set_option linter.all false
set_option maxRecDepth 100000
set_option exponentiation.threshold 10000
set_option maxHeartbeats 1000000
namespace K56
open MP PySem

/-! ### annotations -/
def nums : (k : Kd) → An k → List Rat
  | .num, _ => []
  | .list k, (row, a) => row ++ nums k a
  | .tree k, (row, a) => row ++ nums k a
  | .pair k l, (a, c) => nums k a ++ nums l c
def wd (g : Nat) : Kd → Nat
  | .num => 0
  | .list k => g + wd g k
  | .tree k => g + wd g k
  | .pair a b => wd g a + wd g b
def bld (g : Nat) : (k : Kd) → List Rat → An k
  | .num, _ => ()
  | .list k, qs => (qs.take g, bld g k (qs.drop g))
  | .tree k, qs => (qs.take g, bld g k (qs.drop g))
  | .pair a b, qs => (bld g a (qs.take (wd g a)), bld g b (qs.drop (wd g a)))
theorem nums_len {g b : Nat} : ∀ (k : Kd) (a : An k), Aw g b k a → (nums k a).length = wd g k
  | .num, _, _ => rfl
  | .list k, (row, a), ⟨h1, h2⟩ => by
    show (row ++ nums k a).length = g + wd g k
    rw [List.length_append, h1.len, nums_len k a h2]
  | .tree k, (row, a), ⟨h1, h2⟩ => by
    show (row ++ nums k a).length = g + wd g k
    rw [List.length_append, h1.len, nums_len k a h2]
  | .pair k l, (a, c), ⟨h1, h2⟩ => by
    show (nums k a ++ nums l c).length = wd g k + wd g l
    rw [List.length_append, nums_len k a h1, nums_len l c h2]
theorem bld_nums {g b : Nat} : ∀ (k : Kd) (a : An k), Aw g b k a → bld g k (nums k a) = a
  | .num, _, _ => rfl
  | .list k, (row, a), ⟨h1, h2⟩ => by
    show ((row ++ nums k a).take g, bld g k ((row ++ nums k a).drop g)) = (row, a)
    rw [← h1.len, List.take_left, List.drop_left, h1.len, bld_nums k a h2]
  | .tree k, (row, a), ⟨h1, h2⟩ => by
    show ((row ++ nums k a).take g, bld g k ((row ++ nums k a).drop g)) = (row, a)
    rw [← h1.len, List.take_left, List.drop_left, h1.len, bld_nums k a h2]
  | .pair k l, (a, c), ⟨h1, h2⟩ => by
    show (bld g k ((nums k a ++ nums l c).take (wd g k)), bld g l ((nums k a ++ nums l c).drop (wd g k))) = (a, c)
    rw [← nums_len k a h1, List.take_left, List.drop_left, bld_nums k a h1, bld_nums l c h2]
theorem nums_bld {g : Nat} : ∀ (k : Kd) (qs : List Rat), qs.length = wd g k → nums k (bld g k qs) = qs
  | .num, qs, h => by
    cases qs with
    | nil => rfl
    | cons q r => cases h
  | .list k, qs, h => by
    show qs.take g ++ nums k (bld g k (qs.drop g)) = qs
    have h : qs.length = g + wd g k := h
    rw [nums_bld k _ (by rw [List.length_drop]; omega), List.take_append_drop]
  | .tree k, qs, h => by
    show qs.take g ++ nums k (bld g k (qs.drop g)) = qs
    have h : qs.length = g + wd g k := h
    rw [nums_bld k _ (by rw [List.length_drop]; omega), List.take_append_drop]
  | .pair a b, qs, h => by
    show nums a (bld g a (qs.take (wd g a))) ++ nums b (bld g b (qs.drop (wd g a))) = qs
    have h : qs.length = wd g a + wd g b := h
    rw [nums_bld a _ (by rw [List.length_take]; omega), nums_bld b _ (by rw [List.length_drop]; omega), List.take_append_drop]
theorem aw_bld {g b : Nat} (hg : g = 1 ∨ g = 2) : ∀ (k : Kd) (qs : List Rat), qs.length = wd g k → (∀ q ∈ qs, bt b q) → Aw g b k (bld g k qs)
  | .num, _, _, _ => trivial
  | .list k, qs, h, hq => by
    have h : qs.length = g + wd g k := h
    exact ⟨⟨by rw [List.length_take]; omega, hg, fun q hm => hq q (List.mem_of_mem_take hm)⟩, aw_bld hg k _ (by rw [List.length_drop]; omega) fun q hm => hq q (List.mem_of_mem_drop hm)⟩
  | .tree k, qs, h, hq => by
    have h : qs.length = g + wd g k := h
    exact ⟨⟨by rw [List.length_take]; omega, hg, fun q hm => hq q (List.mem_of_mem_take hm)⟩, aw_bld hg k _ (by rw [List.length_drop]; omega) fun q hm => hq q (List.mem_of_mem_drop hm)⟩
  | .pair a b', qs, h, hq => by
    have h : qs.length = wd g a + wd g b' := h
    exact ⟨aw_bld hg a _ (by rw [List.length_take]; omega) fun q hm => hq q (List.mem_of_mem_take hm), aw_bld hg b' _ (by rw [List.length_drop]; omega) fun q hm => hq q (List.mem_of_mem_drop hm)⟩
theorem aw_bits {g b : Nat} : ∀ (k : Kd) (a : An k), Aw g b k a → ∀ q ∈ nums k a, bt b q
  | .num, _, _, q, hq => nomatch hq
  | .list k, (row, a), ⟨h1, h2⟩, q, hq => (List.mem_append.mp hq).elim (h1.bits q) (aw_bits k a h2 q)
  | .tree k, (row, a), ⟨h1, h2⟩, q, hq => (List.mem_append.mp hq).elim (h1.bits q) (aw_bits k a h2 q)
  | .pair k l, (a, c), ⟨h1, h2⟩, q, hq => (List.mem_append.mp hq).elim (aw_bits k a h1 q) (aw_bits l c h2 q)

/-! numbers of an annotation -/
theorem c_nums {g b : Nat} : ∀ (k : Kd) (a : An k) (L : Nat), Aw g b k a → wd g k ≤ 1000 → ht k + 1 ≤ L → callP (G L) 14 [kD k, aD k a] = some (.tup ((nums k a).map qD))
  | .num, a, L, _, _, hL => by
    obtain ⟨n, rfl⟩ : ∃ n, L = n + 1 := ⟨L - 1, by omega⟩
    refine pc_ret (t := t14) (m' := []) rfl rfl rfl rfl ?_
    exact (x_yes (k_num .num rfl) (e_tup rfl rfl)).trans rfl
  | .list k, (row, a), L, ⟨h1, h2⟩, hw, hL => by
    obtain ⟨n, rfl⟩ : ∃ n, L = n + 1 := ⟨L - 1, by omega⟩
    unfold ht at hL
    have hw' : g + wd g k ≤ 1000 := hw
    have hr := c_nums k a n h2 (by omega) (by omega)
    have hl := nums_len k a h2
    refine pc_ret (t := t14) (m' := []) rfl rfl (nr2 (nr_k _) (fine_a (.list k) (row, a)).nr) (Fine.tup (Fines.map fun q _ => fine_q q)).nr ?_
    refine (x_no (k_num (.list k) rfl)).trans ((x_yes (k_in (.list k) rfl) (e_tup (e_star (e_idx rfl rfl ixT0) rfl (e_star (e_callP (e_two (e_idx rfl rfl ixT1) (e_idx rfl rfl ixT1)) hr) rfl rfl)) ?_)).trans ?_)
    · refine sz_of ?_
      rw [List.length_append, List.length_map, List.length_append, List.length_map, h1.len, hl]
      show g + (wd g k + 0) ≤ _
      omega
    · show some (Fl.rt (D.tup (row.map qD ++ ((nums k a).map qD ++ []))), _) = some (Fl.rt (D.tup ((row ++ nums k a).map qD)), _)
      rw [List.append_nil, List.map_append]
  | .tree k, (row, a), L, ⟨h1, h2⟩, hw, hL => by
    obtain ⟨n, rfl⟩ : ∃ n, L = n + 1 := ⟨L - 1, by omega⟩
    unfold ht at hL
    have hw' : g + wd g k ≤ 1000 := hw
    have hr := c_nums k a n h2 (by omega) (by omega)
    have hl := nums_len k a h2
    refine pc_ret (t := t14) (m' := []) rfl rfl (nr2 (nr_k _) (fine_a (.tree k) (row, a)).nr) (Fine.tup (Fines.map fun q _ => fine_q q)).nr ?_
    refine (x_no (k_num (.tree k) rfl)).trans ((x_yes (k_in (.tree k) rfl) (e_tup (e_star (e_idx rfl rfl ixT0) rfl (e_star (e_callP (e_two (e_idx rfl rfl ixT1) (e_idx rfl rfl ixT1)) hr) rfl rfl)) ?_)).trans ?_)
    · refine sz_of ?_
      rw [List.length_append, List.length_map, List.length_append, List.length_map, h1.len, hl]
      show g + (wd g k + 0) ≤ _
      omega
    · show some (Fl.rt (D.tup (row.map qD ++ ((nums k a).map qD ++ []))), _) = some (Fl.rt (D.tup ((row ++ nums k a).map qD)), _)
      rw [List.append_nil, List.map_append]
  | .pair k l, (a, c), L, ⟨h1, h2⟩, hw, hL => by
    obtain ⟨n, rfl⟩ : ∃ n, L = n + 1 := ⟨L - 1, by omega⟩
    unfold ht at hL
    have hw' : wd g k + wd g l ≤ 1000 := hw
    have hr := c_nums k a n h1 (by omega) (by omega)
    have hr2 := c_nums l c n h2 (by omega) (by omega)
    have hl := nums_len k a h1
    have hl2 := nums_len l c h2
    refine pc_ret (t := t14) (m' := []) rfl rfl (nr2 (nr_k _) (fine_a (.pair k l) (a, c)).nr) (Fine.tup (Fines.map fun q _ => fine_q q)).nr ?_
    refine (x_no (k_num (.pair k l) rfl)).trans ((x_no (k_in (.pair k l) rfl)).trans ((x_ret (e_tup (e_star (e_callP (e_two (e_idx rfl rfl ixT1) (e_idx rfl rfl ixT0)) hr) rfl (e_star (e_callP (e_two (e_idx rfl rfl ixT2) (e_idx rfl rfl ixT1)) hr2) rfl rfl)) ?_)).trans ?_))
    · refine sz_of ?_
      rw [List.length_append, List.length_map, List.length_append, List.length_map, hl, hl2]
      show wd g k + (wd g l + 0) ≤ _
      omega
    · show some (Fl.rt (D.tup ((nums k a).map qD ++ ((nums l c).map qD ++ []))), _) = some (Fl.rt (D.tup ((nums k a ++ nums l c).map qD)), _)
      rw [List.append_nil, List.map_append]

/-! how many numbers -/
theorem sum1 {m : Mem} (a : Nat) : bltD m .sum [.lst [.int (a : Int)]] = some (.int (a : Nat)) := by
  have e := bltD_sum (m := m) [a]
  rw [show [a].sum = a by simp] at e
  exact e
theorem sum2 {m : Mem} (a b : Nat) : bltD m .sum [.lst [.int (a : Int), .int (b : Int)]] = some (.int (a + b : Nat)) := by
  have e := bltD_sum (m := m) [a, b]
  rw [show [a, b].sum = a + b by simp] at e
  exact e
theorem c_width (g i : Nat) (hi : i = 15 ∨ i = 40) : ∀ (k : Kd) (L : Nat), ht k + 1 ≤ L → callP (G L) i [kD k, .int g] = some (.int (wd g k : Nat))
  | .num, L, hL => by
    obtain ⟨n, rfl⟩ : ∃ n, L = n + 1 := ⟨L - 1, by omega⟩
    rcases hi with rfl | rfl
    · refine pc_ret (t := t15) (m' := []) rfl rfl rfl rfl ?_
      exact (x_yes (k_num .num rfl) rfl).trans rfl
    · refine pc_ret (t := t40) (m' := []) rfl rfl rfl rfl ?_
      refine (x_asg (d := .int 0) (m1 := []) (e_ife (k_in .num rfl) rfl) rfl).trans ?_
      exact (x_ret (e_bin rfl (e_blt (e_one (e_comp (ds := []) (xs := []) (m1 := []) rfl rfl rfl)) rfl) rfl)).trans rfl
  | .list k, L, hL => by
    obtain ⟨n, rfl⟩ : ∃ n, L = n + 1 := ⟨L - 1, by omega⟩
    unfold ht at hL
    have hr := c_width g i hi k n (by omega)
    rcases hi with rfl | rfl
    · refine pc_ret (t := t15) (m' := []) rfl rfl (nr2 (nr_k _) rfl) rfl ?_
      refine (x_no (k_num (.list k) rfl)).trans ((x_asg (d := .int g) (m1 := []) (e_ife (k_in (.list k) rfl) rfl) rfl).trans ?_)
      exact (x_ret (e_bin rfl (e_blt (e_one (e_comp (ds := [kD k]) (xs := [.int (wd g k : Nat)]) (m1 := []) rfl rfl (one_comp hr))) (sum1 (wd g k))) rfl)).trans rfl
    · refine pc_ret (t := t40) (m' := []) rfl rfl (nr2 (nr_k _) rfl) rfl ?_
      refine (x_asg (d := .int g) (m1 := []) (e_ife (k_in (.list k) rfl) rfl) rfl).trans ?_
      exact (x_ret (e_bin rfl (e_blt (e_one (e_comp (ds := [kD k]) (xs := [.int (wd g k : Nat)]) (m1 := []) rfl rfl (one_comp hr))) (sum1 (wd g k))) rfl)).trans rfl
  | .tree k, L, hL => by
    obtain ⟨n, rfl⟩ : ∃ n, L = n + 1 := ⟨L - 1, by omega⟩
    unfold ht at hL
    have hr := c_width g i hi k n (by omega)
    rcases hi with rfl | rfl
    · refine pc_ret (t := t15) (m' := []) rfl rfl (nr2 (nr_k _) rfl) rfl ?_
      refine (x_no (k_num (.tree k) rfl)).trans ((x_asg (d := .int g) (m1 := []) (e_ife (k_in (.tree k) rfl) rfl) rfl).trans ?_)
      exact (x_ret (e_bin rfl (e_blt (e_one (e_comp (ds := [kD k]) (xs := [.int (wd g k : Nat)]) (m1 := []) rfl rfl (one_comp hr))) (sum1 (wd g k))) rfl)).trans rfl
    · refine pc_ret (t := t40) (m' := []) rfl rfl (nr2 (nr_k _) rfl) rfl ?_
      refine (x_asg (d := .int g) (m1 := []) (e_ife (k_in (.tree k) rfl) rfl) rfl).trans ?_
      exact (x_ret (e_bin rfl (e_blt (e_one (e_comp (ds := [kD k]) (xs := [.int (wd g k : Nat)]) (m1 := []) rfl rfl (one_comp hr))) (sum1 (wd g k))) rfl)).trans rfl
  | .pair a b, L, hL => by
    obtain ⟨n, rfl⟩ : ∃ n, L = n + 1 := ⟨L - 1, by omega⟩
    unfold ht at hL
    have hr := c_width g i hi a n (by omega)
    have hr2 := c_width g i hi b n (by omega)
    rcases hi with rfl | rfl
    · refine pc_ret (t := t15) (m' := []) rfl rfl (nr2 (nr_k _) rfl) rfl ?_
      refine (x_no (k_num (.pair a b) rfl)).trans ((x_asg (d := .int 0) (m1 := []) (e_ife (k_in (.pair a b) rfl) rfl) rfl).trans ?_)
      refine (x_ret (e_bin rfl (e_blt (e_one (e_comp (ds := [kD a, kD b]) (xs := [.int (wd g a : Nat), .int (wd g b : Nat)]) (m1 := []) rfl rfl (two_comp hr hr2))) (sum2 (wd g a) (wd g b))) rfl)).trans ?_
      show some (Fl.rt (D.int (0 + ((wd g a + wd g b : Nat) : Int))), _) = _
      rw [Int.zero_add]
      rfl
    · refine pc_ret (t := t40) (m' := []) rfl rfl (nr2 (nr_k _) rfl) rfl ?_
      refine (x_asg (d := .int 0) (m1 := []) (e_ife (k_in (.pair a b) rfl) rfl) rfl).trans ?_
      refine (x_ret (e_bin rfl (e_blt (e_one (e_comp (ds := [kD a, kD b]) (xs := [.int (wd g a : Nat), .int (wd g b : Nat)]) (m1 := []) rfl rfl (two_comp hr hr2))) (sum2 (wd g a) (wd g b))) rfl)).trans ?_
      show some (Fl.rt (D.int (0 + ((wd g a + wd g b : Nat) : Int))), _) = _
      rw [Int.zero_add]
      rfl
where
  one_comp {g i n : Nat} {k : Kd} {e0 e2 e3 : Option D} (hr : callP (G n) i [kD k, .int g] = some (.int (wd g k : Nat))) :
      compF (fun d m => (bindP (.name 3) d (wipeE [e0, some (.int g), e2, e3] [3])).bind fun env => (ev (G n) (.lit (.bl true)) env m).bind fun y => y.1.bool?.map fun k => (k, y.2)) (fun d m => (bindP (.name 3) d (wipeE [e0, some (.int g), e2, e3] [3])).bind fun env => ev (G n) (.callP i (.cons (.var 3) (.cons (.var 1) .nil))) env m) [kD k] [] = some ([.int (wd g k : Nat)], []) :=
    compF_map (xs := [k]) (c := kD) (f := fun k => .int (wd g k : Nat)) (fun x _ => rfl) fun x hx => by
      have e : x = k := by simpa using hx
      subst e
      show ev (G n) (.callP i (.cons (.var 3) (.cons (.var 1) .nil))) [e0, some (.int g), e2, some (kD x)] [] = _
      exact e_callP (e_two rfl rfl) hr
  two_comp {g i n : Nat} {k l : Kd} {e0 e2 e3 : Option D} (hr : callP (G n) i [kD k, .int g] = some (.int (wd g k : Nat))) (hr2 : callP (G n) i [kD l, .int g] = some (.int (wd g l : Nat))) :
      compF (fun d m => (bindP (.name 3) d (wipeE [e0, some (.int g), e2, e3] [3])).bind fun env => (ev (G n) (.lit (.bl true)) env m).bind fun y => y.1.bool?.map fun k => (k, y.2)) (fun d m => (bindP (.name 3) d (wipeE [e0, some (.int g), e2, e3] [3])).bind fun env => ev (G n) (.callP i (.cons (.var 3) (.cons (.var 1) .nil))) env m) [kD k, kD l] [] = some ([.int (wd g k : Nat), .int (wd g l : Nat)], []) :=
    compF_map (xs := [k, l]) (c := kD) (f := fun k => .int (wd g k : Nat)) (fun x _ => rfl) fun x hx => by
      have e : x = k ∨ x = l := by simpa using hx
      rcases e with e | e
      · subst e
        show ev (G n) (.callP i (.cons (.var 3) (.cons (.var 1) .nil))) [e0, some (.int g), e2, some (kD x)] [] = _
        exact e_callP (e_two rfl rfl) hr
      · subst e
        show ev (G n) (.callP i (.cons (.var 3) (.cons (.var 1) .nil))) [e0, some (.int g), e2, some (kD x)] [] = _
        exact e_callP (e_two rfl rfl) hr2
end K56
set_option Elab.async false
set_option linter.all false
set_option maxRecDepth 100000
set_option exponentiation.threshold 10000
set_option maxHeartbeats 1000000
namespace K56
open MP PySem

section
variable {G : Calls} {env : MP.Env} {m m1 m2 : Mem} {A B : E} {ds : List D} {n : Nat}
theorem e_slcTo (ha : ev G A env m = some (.tup ds, m1)) (hn : ev G B env m1 = some (.int n, m2)) : ev G (.slc A false true (.lit .non) B) env m = some (.tup (ds.take n), m2) := by
  show (ev G A env m).bind _ = _
  rw [ha]
  show (ev G B env m1).bind _ = _
  rw [hn]
  show some (D.tup (cutD ds none (some (n : Int))), m2) = _
  rw [cut_take]
theorem e_slcFrom (ha : ev G A env m = some (.tup ds, m1)) (hn : ev G B env m1 = some (.int n, m2)) : ev G (.slc A true false B (.lit .non)) env m = some (.tup (ds.drop n), m2) := by
  show (ev G A env m).bind _ = _
  rw [ha]
  show (ev G B env m1).bind _ = _
  rw [hn]
  show some (D.tup (cutD ds (some (n : Int)) none), m2) = _
  rw [cut_drop]
end
theorem nr_qs (qs : List Rat) : (D.tup (qs.map qD)).noRef = true := noRefs_q qs
/-! ### an annotation of so many numbers -/
theorem c_built (g : Nat) : ∀ (k : Kd) (qs : List Rat) (L : Nat), ht k + 2 ≤ L → callP (G L) 16 [kD k, .int g, .tup (qs.map qD)] = some (aD k (bld g k qs))
  | .num, qs, L, hL => by
    obtain ⟨n, rfl⟩ : ∃ n, L = n + 1 := ⟨L - 1, by omega⟩
    refine pc_ret (t := t16) (m' := []) rfl rfl (nr3 rfl rfl (nr_qs qs)) rfl ?_
    exact (x_yes (k_num .num rfl) (e_tup rfl rfl)).trans rfl
  | .list k, qs, L, hL => by
    obtain ⟨n, rfl⟩ : ∃ n, L = n + 1 := ⟨L - 1, by omega⟩
    unfold ht at hL
    have hr := c_built g k (qs.drop g) n (by omega)
    rw [List.map_drop] at hr
    refine pc_ret (t := t16) (m' := []) rfl rfl (nr3 (nr_k _) rfl (nr_qs qs)) (fine_a (.list k) (bld g (.list k) qs)).nr ?_
    refine (x_no (k_num (.list k) rfl)).trans ((x_yes (k_in (.list k) rfl) (e_tup (e_two (e_blt (e_one (e_slcTo rfl rfl)) rfl) (e_callP (e_three (e_idx rfl rfl ixT1) rfl (e_slcFrom rfl rfl)) hr)) rfl)).trans ?_)
    show some (Fl.rt (D.tup [D.tup ((qs.map qD).take g), aD k (bld g k (qs.drop g))]), ([] : Mem)) = some (Fl.rt (D.tup [D.tup ((qs.take g).map qD), aD k (bld g k (qs.drop g))]), [])
    rw [List.map_take]
  | .tree k, qs, L, hL => by
    obtain ⟨n, rfl⟩ : ∃ n, L = n + 1 := ⟨L - 1, by omega⟩
    unfold ht at hL
    have hr := c_built g k (qs.drop g) n (by omega)
    rw [List.map_drop] at hr
    refine pc_ret (t := t16) (m' := []) rfl rfl (nr3 (nr_k _) rfl (nr_qs qs)) (fine_a (.tree k) (bld g (.tree k) qs)).nr ?_
    refine (x_no (k_num (.tree k) rfl)).trans ((x_yes (k_in (.tree k) rfl) (e_tup (e_two (e_blt (e_one (e_slcTo rfl rfl)) rfl) (e_callP (e_three (e_idx rfl rfl ixT1) rfl (e_slcFrom rfl rfl)) hr)) rfl)).trans ?_)
    show some (Fl.rt (D.tup [D.tup ((qs.map qD).take g), aD k (bld g k (qs.drop g))]), ([] : Mem)) = some (Fl.rt (D.tup [D.tup ((qs.take g).map qD), aD k (bld g k (qs.drop g))]), [])
    rw [List.map_take]
  | .pair a b, qs, L, hL => by
    obtain ⟨n, rfl⟩ : ∃ n, L = n + 1 := ⟨L - 1, by omega⟩
    unfold ht at hL
    have hw := c_width g 15 (.inl rfl) a n (by omega)
    have hr := c_built g a (qs.take (wd g a)) n (by omega)
    have hr2 := c_built g b (qs.drop (wd g a)) n (by omega)
    rw [List.map_take] at hr
    rw [List.map_drop] at hr2
    refine pc_ret (t := t16) (m' := []) rfl rfl (nr3 (nr_k _) rfl (nr_qs qs)) (fine_a (.pair a b) (bld g (.pair a b) qs)).nr ?_
    refine (x_no (k_num (.pair a b) rfl)).trans ((x_no (k_in (.pair a b) rfl)).trans ?_)
    refine (x_asg (d := .int (wd g a : Nat)) (m1 := []) (e_callP (e_two (e_idx rfl rfl ixT1) rfl) hw) rfl).trans ?_
    exact x_ret (e_tup (e_two (e_callP (e_three (e_idx rfl rfl ixT1) rfl (e_slcTo rfl rfl)) hr) (e_callP (e_three (e_idx rfl rfl ixT2) rfl (e_slcFrom rfl rfl)) hr2)) rfl)
/-- a list or a tree somewhere -/
def hr : Kd → Bool
  | .num => false | .list _ => true | .tree _ => true | .pair a b => hr a || hr b
theorem c_degree {g b : Nat} (hg : g = 1 ∨ g = 2) : ∀ (k : Kd) (a : An k) (L : Nat), Aw g b k a → ht k + 1 ≤ L → callP (G L) 17 [kD k, aD k a] = some (.int ((if hr k then g else 1 : Nat) : Nat))
  | .num, a, L, _, hL => by
    obtain ⟨n, rfl⟩ : ∃ n, L = n + 1 := ⟨L - 1, by omega⟩
    refine pc_ret (t := t17) (m' := []) rfl rfl rfl rfl ?_
    exact (x_yes (k_num .num rfl) rfl).trans rfl
  | .list k, (row, a), L, ⟨h1, h2⟩, hL => by
    obtain ⟨n, rfl⟩ : ∃ n, L = n + 1 := ⟨L - 1, by omega⟩
    refine pc_ret (t := t17) (m' := []) rfl rfl (nr2 (nr_k _) (fine_a (.list k) (row, a)).nr) rfl ?_
    refine (x_no (k_num (.list k) rfl)).trans ((x_yes (k_in (.list k) rfl) (e_blt (e_one (e_idx rfl rfl ixT0)) rfl)).trans ?_)
    show some (Fl.rt (D.int ((row.map qD).length : Nat)), _) = _
    rw [List.length_map, h1.len]
    rfl
  | .tree k, (row, a), L, ⟨h1, h2⟩, hL => by
    obtain ⟨n, rfl⟩ : ∃ n, L = n + 1 := ⟨L - 1, by omega⟩
    refine pc_ret (t := t17) (m' := []) rfl rfl (nr2 (nr_k _) (fine_a (.tree k) (row, a)).nr) rfl ?_
    refine (x_no (k_num (.tree k) rfl)).trans ((x_yes (k_in (.tree k) rfl) (e_blt (e_one (e_idx rfl rfl ixT0)) rfl)).trans ?_)
    show some (Fl.rt (D.int ((row.map qD).length : Nat)), _) = _
    rw [List.length_map, h1.len]
    rfl
  | .pair k l, (a, c), L, ⟨h1, h2⟩, hL => by
    obtain ⟨n, rfl⟩ : ∃ n, L = n + 1 := ⟨L - 1, by omega⟩
    unfold ht at hL
    have r1 := c_degree hg k a n h1 (by omega)
    have r2 := c_degree hg l c n h2 (by omega)
    refine pc_ret (t := t17) (m' := []) rfl rfl (nr2 (nr_k _) (fine_a (.pair k l) (a, c)).nr) rfl ?_
    refine (x_no (k_num (.pair k l) rfl)).trans ((x_no (k_in (.pair k l) rfl)).trans ?_)
    refine (x_ret (e_blt (e_two (e_callP (e_two (e_idx rfl rfl ixT1) (e_idx rfl rfl ixT0)) r1) (e_callP (e_two (e_idx rfl rfl ixT2) (e_idx rfl rfl ixT1)) r2)) rfl)).trans ?_
    show some (Fl.rt (D.int (if (((if hr l then g else 1 : Nat) : Nat) : Int) > (((if hr k then g else 1 : Nat) : Nat) : Int) then _ else _)), _) = some (Fl.rt (D.int (((if (hr k || hr l) = true then g else 1 : Nat) : Nat) : Int)), _)
    rcases hg with rfl | rfl <;> cases hr k <;> cases hr l <;> rfl

/-! ### sums, multiples, zero -/
def addR : List Rat → List Rat → List Rat := List.zipWith (· + ·)
def addA : (k : Kd) → An k → An k → An k
  | .num, _, _ => ()
  | .list k, (r, a), (s, c) => (addR r s, addA k a c)
  | .tree k, (r, a), (s, c) => (addR r s, addA k a c)
  | .pair k l, (a, b), (c, d) => (addA k a c, addA l b d)
def mulA (f : Rat) : (k : Kd) → An k → An k
  | .num, _ => ()
  | .list k, (r, a) => (r.map (· * f), mulA f k a)
  | .tree k, (r, a) => (r.map (· * f), mulA f k a)
  | .pair k l, (a, b) => (mulA f k a, mulA f l b)
theorem row_add {g b c : Nat} {r s : List Rat} (h : Row g b r) (k : Row g c s) : Row g (b + c + 1) (addR r s) := by
  rcases h.two with ⟨q, rfl, rfl, hq⟩ | ⟨q, q', rfl, rfl, hq, hq'⟩
  · rcases k.two with ⟨p, rfl, _, hp⟩ | ⟨p, p', rfl, e, _, _⟩
    · exact ⟨rfl, h.deg, fun x hx => by
        have e : x = q + p := by simpa [addR] using hx
        rw [e]
        exact bt_add hq hp⟩
    · cases e
  · rcases k.two with ⟨p, rfl, e, hp⟩ | ⟨p, p', rfl, e, hp, hp'⟩
    · cases e
    · exact ⟨rfl, h.deg, fun x hx => by
        have e : x = q + p ∨ x = q' + p' := by simpa [addR] using hx
        rcases e with e | e <;> rw [e]
        · exact bt_add hq hp
        · exact bt_add hq' hp'⟩
theorem row_mul {g b c : Nat} {f : Rat} (hf : bt c f) {r : List Rat} (h : Row g b r) : Row g (b + c) (r.map (· * f)) :=
  ⟨by rw [List.length_map, h.len], h.deg, fun x hx => by
    obtain ⟨q, hq, rfl⟩ := List.mem_map.mp hx
    exact bt_mul (h.bits q hq) hf⟩
theorem aw_add {g b c : Nat} : ∀ (k : Kd) (a d : An k), Aw g b k a → Aw g c k d → Aw g (b + c + 1) k (addA k a d)
  | .num, _, _, _, _ => trivial
  | .list k, (r, a), (s, d), ⟨h1, h2⟩, ⟨k1, k2⟩ => ⟨row_add h1 k1, aw_add k a d h2 k2⟩
  | .tree k, (r, a), (s, d), ⟨h1, h2⟩, ⟨k1, k2⟩ => ⟨row_add h1 k1, aw_add k a d h2 k2⟩
  | .pair k l, (a, x), (d, y), ⟨h1, h2⟩, ⟨k1, k2⟩ => ⟨aw_add k a d h1 k1, aw_add l x y h2 k2⟩
theorem aw_mul {g b c : Nat} {f : Rat} (hf : bt c f) : ∀ (k : Kd) (a : An k), Aw g b k a → Aw g (b + c) k (mulA f k a)
  | .num, _, _ => trivial
  | .list k, (r, a), ⟨h1, h2⟩ => ⟨row_mul hf h1, aw_mul hf k a h2⟩
  | .tree k, (r, a), ⟨h1, h2⟩ => ⟨row_mul hf h1, aw_mul hf k a h2⟩
  | .pair k l, (a, x), ⟨h1, h2⟩ => ⟨aw_mul hf k a h1, aw_mul hf l x h2⟩
theorem addR_append {a b c d : List Rat} (h : a.length = c.length) : addR (a ++ b) (c ++ d) = addR a c ++ addR b d := List.zipWith_append h
theorem nums_add {g b c : Nat} : ∀ (k : Kd) (a d : An k), Aw g b k a → Aw g c k d → nums k (addA k a d) = addR (nums k a) (nums k d)
  | .num, _, _, _, _ => rfl
  | .list k, (r, a), (s, d), ⟨h1, h2⟩, ⟨k1, k2⟩ => by
    show addR r s ++ nums k (addA k a d) = addR (r ++ nums k a) (s ++ nums k d)
    rw [addR_append (by rw [h1.len, k1.len]), nums_add k a d h2 k2]
  | .tree k, (r, a), (s, d), ⟨h1, h2⟩, ⟨k1, k2⟩ => by
    show addR r s ++ nums k (addA k a d) = addR (r ++ nums k a) (s ++ nums k d)
    rw [addR_append (by rw [h1.len, k1.len]), nums_add k a d h2 k2]
  | .pair k l, (a, x), (d, y), ⟨h1, h2⟩, ⟨k1, k2⟩ => by
    show nums k (addA k a d) ++ nums l (addA l x y) = addR (nums k a ++ nums l x) (nums k d ++ nums l y)
    rw [addR_append (by rw [nums_len k a h1, nums_len k d k1]), nums_add k a d h1 k1, nums_add l x y h2 k2]
theorem nums_mul {f : Rat} : ∀ (k : Kd) (a : An k), nums k (mulA f k a) = (nums k a).map (· * f)
  | .num, _ => rfl
  | .list k, (r, a) => by
    show r.map (· * f) ++ nums k (mulA f k a) = (r ++ nums k a).map (· * f)
    rw [List.map_append, nums_mul k a]
  | .tree k, (r, a) => by
    show r.map (· * f) ++ nums k (mulA f k a) = (r ++ nums k a).map (· * f)
    rw [List.map_append, nums_mul k a]
  | .pair k l, (a, x) => by
    show nums k (mulA f k a) ++ nums l (mulA f l x) = (nums k a ++ nums l x).map (· * f)
    rw [List.map_append, nums_mul k a, nums_mul l x]
/-! what they do to a potential -/
theorem dot_add {g b c : Nat} {r s : List Rat} (h : Row g b r) (k : Row g c s) (n m : Nat) : dot (addR r s) [n, m] = dot r [n, m] + dot s [n, m] := by
  rcases h.two with ⟨q, rfl, rfl, hq⟩ | ⟨q, q', rfl, rfl, hq, hq'⟩
  · rcases k.two with ⟨p, rfl, _, hp⟩ | ⟨p, p', rfl, e, _, _⟩
    · show (q + p) * (n : Rat) + 0 = q * (n : Rat) + 0 + (p * (n : Rat) + 0)
      grind
    · cases e
  · rcases k.two with ⟨p, rfl, e, hp⟩ | ⟨p, p', rfl, e, hp, hp'⟩
    · cases e
    · show (q + p) * (n : Rat) + ((q' + p') * (m : Rat) + 0) = q * (n : Rat) + (q' * (m : Rat) + 0) + (p * (n : Rat) + (p' * (m : Rat) + 0))
      grind
theorem dot_mul {g b : Nat} {r : List Rat} (h : Row g b r) (f : Rat) (n m : Nat) : dot (r.map (· * f)) [n, m] = dot r [n, m] * f := by
  rcases h.two with ⟨q, rfl, rfl, hq⟩ | ⟨q, q', rfl, rfl, hq, hq'⟩
  · show q * f * (n : Rat) + 0 = (q * (n : Rat) + 0) * f
    grind
  · show q * f * (n : Rat) + (q' * f * (m : Rat) + 0) = (q * (n : Rat) + (q' * (m : Rat) + 0)) * f
    grind
theorem sR_add {α : Type} {f g h : α → Rat} : ∀ xs : List α, (∀ x ∈ xs, h x = f x + g x) → sR (xs.map h) = sR (xs.map f) + sR (xs.map g)
  | [], _ => (Rat.add_zero _).symm
  | x :: xs, e => by
    have ih := sR_add xs fun y hy => e y (List.mem_cons_of_mem _ hy)
    have e1 := e x (List.mem_cons_self ..)
    show h x + sR (xs.map h) = f x + sR (xs.map f) + (g x + sR (xs.map g))
    rw [ih, e1]
    grind
theorem sR_mul {α : Type} {f h : α → Rat} {c : Rat} : ∀ xs : List α, (∀ x ∈ xs, h x = f x * c) → sR (xs.map h) = sR (xs.map f) * c
  | [], _ => (Rat.zero_mul _).symm
  | x :: xs, e => by
    have ih := sR_mul xs fun y hy => e y (List.mem_cons_of_mem _ hy)
    have e1 := e x (List.mem_cons_self ..)
    show h x + sR (xs.map h) = (f x + sR (xs.map f)) * c
    rw [ih, e1]
    grind
theorem ph_add {g b c : Nat} : ∀ (k : Kd) (a d : An k) (v : Va k), Aw g b k a → Aw g c k d → ph k (addA k a d) v = ph k a v + ph k d v
  | .num, _, _, _, _, _ => (Rat.add_zero _).symm
  | .list k, (r, a), (s, d), xs, ⟨h1, h2⟩, ⟨k1, k2⟩ => by
    show dot (addR r s) _ + sR (List.map (ph k (addA k a d)) xs) = dot r _ + sR (List.map (ph k a) xs) + (dot s _ + sR (List.map (ph k d) xs))
    rw [dot_add h1 k1, sR_add (α := Va k) (f := ph k a) (g := ph k d) xs fun x _ => ph_add k a d x h2 k2]
    grind
  | .tree k, (r, a), (s, d), t, ⟨h1, h2⟩, ⟨k1, k2⟩ => by
    show dot (addR r s) [nn t, dsum t] + sR ((pre t 0).map fun p => ph k (addA k a d) p.1) = dot r [nn t, dsum t] + sR ((pre t 0).map fun p => ph k a p.1) + (dot s [nn t, dsum t] + sR ((pre t 0).map fun p => ph k d p.1))
    rw [dot_add h1 k1, sR_add (α := Va k × Nat) (f := fun p => ph k a p.1) (g := fun p => ph k d p.1) (pre t 0) fun x _ => ph_add k a d x.1 h2 k2]
    grind
  | .pair k l, (a, x), (d, y), (v, w), ⟨h1, h2⟩, ⟨k1, k2⟩ => by
    show ph k (addA k a d) v + ph l (addA l x y) w = ph k a v + ph l x w + (ph k d v + ph l y w)
    rw [ph_add k a d v h1 k1, ph_add l x y w h2 k2]
    grind
theorem ph_mul {g b : Nat} {f : Rat} : ∀ (k : Kd) (a : An k) (v : Va k), Aw g b k a → ph k (mulA f k a) v = ph k a v * f
  | .num, _, _, _ => (Rat.zero_mul _).symm
  | .list k, (r, a), xs, ⟨h1, h2⟩ => by
    show dot (r.map (· * f)) _ + sR (List.map (ph k (mulA f k a)) xs) = (dot r _ + sR (List.map (ph k a) xs)) * f
    rw [dot_mul h1, sR_mul (α := Va k) (f := ph k a) (c := f) xs fun x _ => ph_mul k a x h2]
    grind
  | .tree k, (r, a), t, ⟨h1, h2⟩ => by
    show dot (r.map (· * f)) [nn t, dsum t] + sR ((pre t 0).map fun p => ph k (mulA f k a) p.1) = (dot r [nn t, dsum t] + sR ((pre t 0).map fun p => ph k a p.1)) * f
    rw [dot_mul h1, sR_mul (α := Va k × Nat) (f := fun p => ph k a p.1) (c := f) (pre t 0) fun x _ => ph_mul k a x.1 h2]
    grind
  | .pair k l, (a, x), (v, w), ⟨h1, h2⟩ => by
    show ph k (mulA f k a) v + ph l (mulA f l x) w = (ph k a v + ph l x w) * f
    rw [ph_mul k a v h1, ph_mul l x w h2]
    grind
end K56
set_option Elab.async false
set_option linter.all false
set_option maxRecDepth 100000
set_option exponentiation.threshold 10000
set_option maxHeartbeats 1000000
namespace K56
open MP PySem

theorem zip_qs : ∀ as ds : List Rat, List.zipWith (fun x y => D.tup [x, y]) (as.map qD) (ds.map qD) = (List.zip as ds).map fun p => D.tup [qD p.1, qD p.2]
  | [], _ => rfl
  | _ :: _, [] => rfl
  | a :: as, d :: ds => by
    show D.tup [qD a, qD d] :: List.zipWith (fun x y => D.tup [x, y]) (as.map qD) (ds.map qD) = _
    rw [zip_qs as ds]
    rfl
theorem addR_zip : ∀ as ds : List Rat, (List.zip as ds).map (fun p => qD (p.1 + p.2)) = (addR as ds).map qD
  | [], _ => rfl
  | _ :: _, [] => rfl
  | a :: as, d :: ds => by
    show qD (a + d) :: (List.zip as ds).map (fun p => qD (p.1 + p.2)) = qD (a + d) :: (addR as ds).map qD
    rw [addR_zip as ds]
theorem zip_len (as ds : List Rat) : (List.zip as ds).length ≤ as.length := by
  rw [List.length_zip]
  omega
theorem c_shared {g b c : Nat} (hg : g = 1 ∨ g = 2) {k : Kd} {a d : An k} {L : Nat} (ha : Aw g b k a) (hd : Aw g c k d) (hk : hr k = true) (hb : b ≤ 1000) (hc : c ≤ 1000) (hw : wd g k ≤ 1000) (hL : ht k + 4 ≤ L) :
    callP (G L) 19 [kD k, aD k a, aD k d] = some (aD k (addA k a d)) := by
  obtain ⟨n, rfl⟩ : ∃ n, L = n + 1 := ⟨L - 1, by omega⟩
  have n1 := c_nums k a n ha hw (by omega)
  have n2 := c_nums k d n hd hw (by omega)
  have l1 := nums_len k a ha
  have hdg := c_degree hg k a n ha (by omega)
  rw [hk, if_pos rfl] at hdg
  have hbd := c_built g k (addR (nums k a) (nums k d)) n (by omega)
  rw [← nums_add k a d ha hd, bld_nums k _ (aw_add k a d ha hd), nums_add k a d ha hd] at hbd
  refine pc_ret (t := t19) (m' := []) rfl rfl (nr3 (nr_k k) (fine_a k a).nr (fine_a k d).nr) (fine_a k _).nr ?_
  have hz := e_lzip (G := G n) (A := .cons (.callP 14 (.cons (.var 0) (.cons (.var 1) .nil))) (.cons (.callP 14 (.cons (.var 0) (.cons (.var 2) .nil))) .nil)) (env := [some (kD k), some (aD k a), some (aD k d), none, none, none]) (m := []) (e_two (e_callP (e_two rfl rfl) n1) (e_callP (e_two rfl rfl) n2)) rfl rfl (sz_of (by rw [List.length_map, l1]; omega))
  rw [zip_qs] at hz
  refine (x_asg (d := .lst ((List.zip (nums k a) (nums k d)).map fun p => D.tup [qD p.1, qD p.2])) (m1 := []) hz rfl).trans ?_
  have hm := e_map2 (G := G n) (A := .callP 2 (.cons (.var 4) (.cons (.var 5) .nil))) (I := .seq (.var 3)) (i := 4) (j := 5) (own := [4, 5]) (env := [some (kD k), some (aD k a), some (aD k d), some (.lst ((List.zip (nums k a) (nums k d)).map fun p => D.tup [qD p.1, qD p.2])), none, none]) (m := []) (c1 := fun p : Rat × Rat => qD p.1) (c2 := fun p => qD p.2) (f := fun p => qD (p.1 + p.2)) (xs := List.zip (nums k a) (nums k d)) (m1 := []) (e_seq rfl rfl) (by have := zip_len (nums k a) (nums k d); omega) fun p hp => by
    have hp1 := aw_bits k a ha p.1 (List.of_mem_zip hp).1
    have hp2 := aw_bits k d hd p.2 (List.of_mem_zip hp).2
    exact e_callP (e_two rfl rfl) (L_plus (by omega) hp1 hp2 (by omega))
  rw [addR_zip] at hm
  exact x_ret (e_callP (e_three rfl (e_callP (e_two rfl rfl) hdg) (e_blt (e_one hm) rfl)) hbd)
theorem c_scaled {g b c : Nat} (hg : g = 1 ∨ g = 2) {k : Kd} {a : An k} {f : Rat} {L : Nat} (ha : Aw g b k a) (hf : bt c f) (hk : hr k = true) (hb : b ≤ 1000) (hc : c ≤ 1000) (hw : wd g k ≤ 1000) (hL : ht k + 4 ≤ L) :
    callP (G L) 21 [kD k, aD k a, qD f] = some (aD k (mulA f k a)) := by
  obtain ⟨n, rfl⟩ : ∃ n, L = n + 1 := ⟨L - 1, by omega⟩
  have n1 := c_nums k a n ha hw (by omega)
  have l1 := nums_len k a ha
  have hdg := c_degree hg k a n ha (by omega)
  rw [hk, if_pos rfl] at hdg
  have hbd := c_built g k ((nums k a).map (· * f)) n (by omega)
  rw [← nums_mul k a, bld_nums k _ (aw_mul hf k a ha), nums_mul k a, List.map_map] at hbd
  refine pc_ret (t := t21) (m' := []) rfl rfl (nr3 (nr_k k) (fine_a k a).nr rfl) (fine_a k _).nr ?_
  have hm := e_map (G := G n) (A := .callP 3 (.cons (.var 4) (.cons (.var 2) .nil))) (I := .seq (.callP 14 (.cons (.var 0) (.cons (.var 1) .nil)))) (i := 4) (own := [4]) (env := [some (kD k), some (aD k a), some (qD f), none, none]) (m := []) (c := qD) (f := qD ∘ fun q => q * f) (xs := nums k a) (m1 := []) (e_seq (e_callP (e_two rfl rfl) n1) rfl) (by omega) fun q hq =>
    e_callP (e_two rfl rfl) (L_times (by omega) (aw_bits k a ha q hq) hf (by omega))
  refine (x_asg (d := .tup ((nums k a).map (qD ∘ fun q => q * f))) (m1 := []) (e_blt (e_one hm) rfl) rfl).trans ?_
  exact x_ret (e_callP (e_three rfl (e_callP (e_two rfl rfl) hdg) rfl) hbd)
/-! nothing at all -/
def zeroA (g : Nat) (k : Kd) : An k := bld g k (List.replicate (wd g k) 0)
theorem aw_zero {g : Nat} (hg : g = 1 ∨ g = 2) (k : Kd) : Aw g 1 k (zeroA g k) := aw_bld hg k _ (List.length_replicate) fun q hq => by
  rw [List.eq_of_mem_replicate hq]
  exact bt_zero
theorem ph_zero {g : Nat} (hg : g = 1 ∨ g = 2) (k : Kd) (v : Va k) : ph k (zeroA g k) v = 0 := by
  have h1 := aw_zero hg k
  have h2 := aw_mul (f := 0) bt_zero k _ h1
  have e : nums k (mulA 0 k (zeroA g k)) = nums k (zeroA g k) := by
    rw [nums_mul]
    unfold zeroA
    rw [nums_bld k _ List.length_replicate, List.map_replicate, Rat.zero_mul]
  have e2 : mulA 0 k (zeroA g k) = zeroA g k := by
    rw [← bld_nums k _ h2, e, bld_nums k _ h1]
  rw [← e2, ph_mul k _ v h1, Rat.mul_zero]
theorem flat_rep (d : D) : ∀ n : Nat, (List.replicate n [d]).flatten = List.replicate n d
  | 0 => rfl
  | n + 1 => by
    rw [List.replicate_succ, List.flatten_cons, flat_rep d n]
    rfl
theorem c_none {g : Nat} {k : Kd} {L : Nat} (h1 : 1 ≤ wd g k) (hw : wd g k ≤ 1000) (hL : ht k + 3 ≤ L) : callP (G L) 18 [kD k, .int g] = some (aD k (zeroA g k)) := by
  obtain ⟨n, rfl⟩ : ∃ n, L = n + 1 := ⟨L - 1, by omega⟩
  have hwd := c_width g 15 (.inl rfl) k n (by omega)
  have hbd := c_built g k (List.replicate (wd g k) 0) n (by omega)
  refine pc_ret (t := t18) (m' := []) rfl rfl (nr2 (nr_k k) rfl) (fine_a k _).nr ?_
  have hm : binD .mul (.tup [.tup [.int 0, .int 1]]) (.int (wd g k : Nat)) = some (.tup ((List.replicate (wd g k) (0 : Rat)).map qD)) := by
    show (if (decide ((1 : Int) ≤ (wd g k : Nat)) && decide (((wd g k : Nat) : Int) ≤ 1000) && Nat.ble 1 1 && Nat.ble 1 1000) = true then some (D.tup (List.replicate (((wd g k : Nat) : Int)).toNat [D.tup [.int 0, .int 1]]).flatten) else none) = _
    rw [if_pos (by simp; omega), Int.toNat_natCast, flat_rep, List.map_replicate]
    rfl
  exact x_ret (e_callP (e_three rfl rfl (e_bin (e_tup (e_one rfl) rfl) (e_callP (e_two rfl rfl) hwd) hm)) hbd)
/-! covers -/
def cov (as ds : List Rat) : Bool := ((List.zip as ds).filter fun p => decide (p.1 < p.2)).isEmpty
theorem bools_map {α : Type} (f : α → Bool) : ∀ xs : List α, bools? (xs.map fun x => D.bl (f x)) = some (xs.map f)
  | [] => rfl
  | x :: xs => by
    show (bools? (xs.map fun x => D.bl (f x))).map _ = _
    rw [bools_map f xs]
    rfl
theorem any_filter {α : Type} (f : α → Bool) : ∀ xs : List α, (!((xs.map f).any id)) = (xs.filter f).isEmpty
  | [] => rfl
  | x :: xs => by
    rw [List.map_cons, List.any_cons, List.filter_cons]
    cases h : f x with
    | true => simp
    | false =>
      have := any_filter f xs
      simpa using this
theorem c_covers {g b c : Nat} {k : Kd} {a d : An k} {L : Nat} (ha : Aw g b k a) (hd : Aw g c k d) (hb : b ≤ 1000) (hc : c ≤ 1000) (hw : wd g k ≤ 1000) (hL : ht k + 2 ≤ L) :
    callP (G L) 20 [kD k, aD k a, aD k d] = some (.bl (cov (nums k a) (nums k d))) := by
  obtain ⟨n, rfl⟩ : ∃ n, L = n + 1 := ⟨L - 1, by omega⟩
  have n1 := c_nums k a n ha hw (by omega)
  have n2 := c_nums k d n hd hw (by omega)
  have l1 := nums_len k a ha
  refine pc_ret (t := t20) (m' := []) rfl rfl (nr3 (nr_k k) (fine_a k a).nr (fine_a k d).nr) rfl ?_
  have hi : ev (G n) (.zip2 (.cons (.callP 14 (.cons (.var 0) (.cons (.var 1) .nil))) (.cons (.callP 14 (.cons (.var 0) (.cons (.var 2) .nil))) .nil))) [some (kD k), some (aD k a), some (aD k d), none, none] [] = some (.tup ((List.zip (nums k a) (nums k d)).map fun p => D.tup [qD p.1, qD p.2]), []) := by
    rw [← zip_qs]
    exact e_zip2 (e_two (e_callP (e_two rfl rfl) n1) (e_callP (e_two rfl rfl) n2)) rfl rfl
  have hm := e_map2 (G := G n) (A := .callP 4 (.cons (.var 3) (.cons (.var 4) .nil))) (i := 3) (j := 4) (own := [3, 4]) (c1 := fun p : Rat × Rat => qD p.1) (c2 := fun p => qD p.2) (f := fun p => D.bl (decide (p.1 < p.2))) hi (by have := zip_len (nums k a) (nums k d); omega) fun p hp => by
    have hp1 := aw_bits k a ha p.1 (List.of_mem_zip hp).1
    have hp2 := aw_bits k d hd p.2 (List.of_mem_zip hp).2
    obtain ⟨q, rfl⟩ : ∃ q, n = q + 1 := ⟨n - 1, by omega⟩
    exact e_callP (e_two rfl rfl) (c_less q 4 (.inl rfl) hp1 hp2 (by omega))
  have hany : bltD [] .any [.lst ((List.zip (nums k a) (nums k d)).map fun p => D.bl (decide (p.1 < p.2)))] = some (.bl (((List.zip (nums k a) (nums k d)).map fun p => decide (p.1 < p.2)).any id)) := by
    show (bools? ((List.zip (nums k a) (nums k d)).map fun p => D.bl (decide (p.1 < p.2)))).map _ = _
    rw [bools_map fun p : Rat × Rat => decide (p.1 < p.2)]
    rfl
  refine (x_ret (e_not (e_blt (e_one hm) hany))).trans ?_
  rw [any_filter]
  rfl
where
  e_zip2 {G : Calls} {env : MP.Env} {m : Mem} {A : E} {xs ys : List D} {x y : D} (h : ev G A env m = some (.tup [x, y], m)) (hx : x.items? = some xs) (hy : y.items? = some ys) : ev G (.zip2 A) env m = some (.tup (List.zipWith (fun x y => .tup [x, y]) xs ys), m) := by
    show (ev G A env m).bind _ = _
    rw [h]
    show x.items?.bind _ = _
    rw [hx]
    show y.items?.map _ = _
    rw [hy]
    rfl
/-! shifted -/
def shR : List Rat → List Rat
  | [q, r] => [q + r, r]
  | row => row
def shA : (k : Kd) → An k → An k
  | .list _, (r, a) => (shR r, a)
  | .tree _, (r, a) => (shR r, a)
  | _, a => a
theorem row_sh {g b : Nat} {r : List Rat} (h : Row g b r) : Row g (b + b + 1) (shR r) := by
  rcases h.two with ⟨q, rfl, rfl, hq⟩ | ⟨q, q', rfl, rfl, hq, hq'⟩
  · exact ⟨rfl, h.deg, fun x hx => bt_mono (h.bits x hx) (by omega)⟩
  · exact ⟨rfl, h.deg, fun x hx => by
      have e : x = q + q' ∨ x = q' := by simpa [shR] using hx
      rcases e with e | e <;> rw [e]
      · exact bt_add hq hq'
      · exact bt_mono hq' (by omega)⟩
theorem c_sh {g b : Nat} {r : List Rat} (h : Row g b r) (hb : b ≤ 1000) {L : Nat} (hL : 4 ≤ L) : callP (G L) 12 [.tup (r.map qD)] = some (.tup ((shR r).map qD)) := by
  obtain ⟨n, rfl⟩ : ∃ n, L = n + 1 := ⟨L - 1, by omega⟩
  refine pc_ret (t := t12) (m' := []) rfl rfl (nr1 (nr_qs r)) (nr_qs _) ?_
  rcases h.two with ⟨q, rfl, rfl, hq⟩ | ⟨q, q', rfl, rfl, hq, hq'⟩
  · exact (x_ret (e_ife (t := false) (e_cmp (e_blt (e_one rfl) rfl) rfl rfl) rfl)).trans rfl
  · have hp := L_plus (L := n) (by omega) hq hq' (by omega)
    have he : ev (G n) (.tup (.cons (.callP 2 (.cons (.idx (.var 0) (.lit (.int 0))) (.cons (.idx (.var 0) (.lit (.int 1))) .nil))) (.star (.slc (.var 0) true false (.lit (.int 1)) (.lit .non)) .nil))) [some (.tup [qD q, qD q'])] [] = some (.tup [qD (q + q'), qD q'], []) :=
      e_tup (ds := [qD (q + q'), qD q']) (e_cons (e_callP (e_two (e_idx rfl rfl ixT0) (e_idx rfl rfl ixT1)) hp) (e_star (x := .tup [qD q']) (es := [qD q']) (ds := []) rfl rfl rfl)) rfl
    exact x_ret (e_ife (t := true) (e_cmp (e_blt (e_one rfl) rfl) rfl rfl) he)
theorem c_sh1 {g b : Nat} {r : List Rat} (h : Row g b r) (hb : b ≤ 1000) {d : D} (hd : d.noRef = true) {L : Nat} (hL : 5 ≤ L) : callP (G L) 13 [.tup [.tup (r.map qD), d]] = some (.tup [.tup ((shR r).map qD), d]) := by
  obtain ⟨n, rfl⟩ : ∃ n, L = n + 1 := ⟨L - 1, by omega⟩
  have e := c_sh h hb (L := n) (by omega)
  have nr : ∀ qs : List Rat, (D.tup [.tup (qs.map qD), d]).noRef = true := fun qs => by
    show ((D.tup (qs.map qD)).noRef && (d.noRef && true)) = true
    rw [nr_qs, hd]
    rfl
  refine pc_ret (t := t13) (m' := []) rfl rfl (nr1 (nr r)) (nr _) ?_
  exact x_ret (e_tup (e_two (e_callP (e_one (e_idx rfl rfl ixT0)) e) (e_idx rfl rfl ixT1)) rfl)
/-! flat -/
theorem v_int {L : Nat} (hL : 1 ≤ L) {d : D} (hn : d.noRef = true) (h : d.ty = .tup ∨ d.ty = .int) : callP (G L) 30 [d] = some (.bl (decide (d.ty = .int))) := by
  obtain ⟨n, rfl⟩ : ∃ n, L = n + 1 := ⟨L - 1, by omega⟩
  refine pc_ret (t := t30) (m' := []) rfl rfl (nr1 hn) rfl ?_
  have e1 : ev (G n) (.isi (.var 0) [.int]) [some d] [] = some (.bl (decide (d.ty = .int)), []) := by
    show some (D.bl (Ty.sub d.ty .int || false), ([] : Mem)) = _
    rcases h with h | h <;> rw [h] <;> rfl
  have e2 : ev (G n) (.isi (.var 0) [.bool]) [some d] [] = some (.bl false, []) := by
    show some (D.bl (Ty.sub d.ty .bool || false), ([] : Mem)) = _
    rcases h with h | h <;> rw [h] <;> rfl
  refine (x_ret (e_and (t := true) e1 fun _ => e_not e2)).trans ?_
  rw [Bool.and_true]
theorem v_flatQ {L : Nat} (hL : 2 ≤ L) (q : Rat) : callP (G L) 38 [qD q] = some (.lst [qD q]) := by
  obtain ⟨n, rfl⟩ : ∃ n, L = n + 1 := ⟨L - 1, by omega⟩
  have hi : callP (G n) 30 [.int q.num] = some (.bl true) := v_int (by omega) rfl (.inr rfl)
  refine pc_ret (t := t38) (m' := []) rfl rfl rfl rfl ?_
  refine (x_no (e_cmp rfl (e_tup rfl rfl) (cmp_tup0 (.cons (.int _) (.cons (.int _) .nil))))).trans ?_
  exact (x_yes (e_and (c := true) (t := true) (e_cmp (e_blt (e_one rfl) rfl) rfl rfl) fun _ => e_callP (e_one (e_idx rfl rfl ixT0)) hi) (e_lst (e_one rfl) rfl)).trans rfl
/-- one after another -/
theorem v_flatS {n : Nat} (ps : List (D × List D)) {ds : List D} (hds : ps.map (fun p => p.1) = ds) (hf : Fines ds) (hne : ds ≠ []) (htest : ds.length = 2 → ∃ d r, ds = d :: r ∧ d.ty = .tup) (hn : 1 ≤ n)
    (hit : ∀ p ∈ ps, callP (G n) 38 [p.1] = some (.lst p.2)) (hz : (ps.flatMap fun p => p.2).length ≤ 100000) (hfr : D.noRefs (ps.flatMap fun p => p.2) = true) : callP (G (n + 1)) 38 [.tup ds] = some (.lst (ps.flatMap fun p => p.2)) := by
  refine pc_ret (t := t38) (m' := []) rfl rfl (nr1 (Fine.tup hf).nr) hfr ?_
  have he : ds.isEmpty = false := by
    cases ds with
    | nil => exact absurd rfl hne
    | cons d r => rfl
  have hc := cmp_tup0 (m := []) hf
  rw [he] at hc
  refine (x_no (e_cmp rfl (e_tup rfl rfl) hc)).trans ?_
  have h2 : ev (G n) (.and (.cmp .eq (.blt .len (.cons (.var 0) .nil)) (.lit (.int 2))) (.callP 30 (.cons (.idx (.var 0) (.lit (.int 0))) .nil))) [some (.tup ds), none, none] [] = some (.bl false, []) := by
    by_cases h : ds.length = 2
    · obtain ⟨d, r, rfl, hty⟩ := htest h
      have hi := v_int (L := n) hn (d := d) (hf d (List.mem_cons_self ..)).nr (.inl hty)
      rw [hty] at hi
      have e1 : ev (G n) (.cmp .eq (.blt .len (.cons (.var 0) .nil)) (.lit (.int 2))) [some (.tup (d :: r)), none, none] [] = some (.bl true, []) := by
        refine e_cmp (e_blt (e_one rfl) rfl) rfl ?_
        show some ((((d :: r).length : Nat) : Int) == 2) = _
        rw [h]
        rfl
      exact e_and (c := true) (t := false) e1 fun _ => e_callP (e_one (e_idx rfl rfl ixT0)) hi
    · have e1 : ev (G n) (.cmp .eq (.blt .len (.cons (.var 0) .nil)) (.lit (.int 2))) [some (.tup ds), none, none] [] = some (.bl false, []) := by
        refine e_cmp (e_blt (e_one rfl) rfl) rfl ?_
        show some (((ds.length : Nat) : Int) == 2) = _
        congr 1
        simp
        omega
      exact e_and (c := false) (t := true) e1 fun h => nomatch h
  refine (x_no h2).trans ?_
  refine (x_asg (d := .lst []) (m1 := []) (e_lst rfl rfl) rfl).trans ?_
  refine (x_for (ds := ds) (m1 := []) rfl).trans ?_
  have loop : ∀ (xs : List (D × List D)) (acc : List D) (x : Option D), (∀ p ∈ xs, callP (G n) 38 [p.1] = some (.lst p.2)) → (acc ++ (xs.flatMap fun p => p.2)).length ≤ 100000 → ∃ x', forF (fun d env m => (bindP (.name 2) d env).bind fun env => MP.exec (G n) FU (.asg (.name 1) (.bin .add (.var 1) (.callP 38 (.cons (.var 2) .nil))) .nil) env m) (xs.map fun p => p.1) [some (.tup ds), some (.lst acc), x] [] = some (.nx [some (.tup ds), some (.lst (acc ++ (xs.flatMap fun p => p.2))), x'], []) := by
    intro xs
    induction xs with
    | nil =>
      intro acc x _ _
      refine ⟨x, ?_⟩
      rw [List.flatMap_nil, List.append_nil]
      rfl
    | cons d xs ih =>
      intro acc x hx hl
      rw [List.flatMap_cons] at hl ⊢
      have z : sz (acc.length + d.2.length) = true := sz_of (by
        rw [List.length_append, List.length_append] at hl
        omega)
      obtain ⟨x', e⟩ := ih (acc ++ d.2) (some d.1) (fun y hy => hx y (List.mem_cons_of_mem _ hy)) (by rw [List.append_assoc]; exact hl)
      refine ⟨x', (for_nx (env' := [some (.tup ds), some (.lst (acc ++ d.2)), some d.1]) (m' := []) ?_).trans (by rw [← List.append_assoc]; exact e)⟩
      show MP.exec (G n) FU (.asg (.name 1) (.bin .add (.var 1) (.callP 38 (.cons (.var 2) .nil))) .nil) [some (.tup ds), some (.lst acc), some d.1] [] = _
      have hb : binD .add (.lst acc) (.lst d.2) = some (.lst (acc ++ d.2)) := if_pos z
      exact (x_asg (e_bin rfl (e_callP (e_one rfl) (hx d (List.mem_cons_self ..))) hb) rfl).trans rfl
  obtain ⟨x', e⟩ := loop ps [] none hit hz
  rw [hds] at e
  refine (thn_nx e).trans ?_
  exact x_ret rfl
theorem v_flatR {g b : Nat} {row : List Rat} (h : Row g b row) {L : Nat} (hL : 3 ≤ L) : callP (G L) 38 [.tup (row.map qD)] = some (.lst (row.map qD)) := by
  obtain ⟨n, rfl⟩ : ∃ n, L = n + 1 := ⟨L - 1, by omega⟩
  rcases h.two with ⟨q, rfl, _, hq⟩ | ⟨q, r, rfl, _, hq, hr⟩
  · refine v_flatS [(qD q, [qD q])] rfl (Fines.cons (fine_q q) .nil) (by simp) (fun h => by simp at h) (by omega) (fun p hp => ?_) (by simp) rfl
    have e : p = (qD q, [qD q]) := by simpa using hp
    subst e
    exact v_flatQ (by omega) q
  · refine v_flatS [(qD q, [qD q]), (qD r, [qD r])] rfl (Fines.cons (fine_q q) (.cons (fine_q r) .nil)) (by simp) (fun h => ⟨_, _, rfl, rfl⟩) (by omega) (fun p hp => ?_) (by simp) rfl
    have e : p = (qD q, [qD q]) ∨ p = (qD r, [qD r]) := by simpa using hp
    rcases e with e | e <;> subst e
    · exact v_flatQ (by omega) q
    · exact v_flatQ (by omega) r
theorem aD_ty (k : Kd) (a : An k) : (aD k a).ty = .tup := by cases k <;> rfl
theorem two_flat {n : Nat} {d e : D} {ds es : List D} (hd : Fine d) (he : Fine e) (ht : d.ty = .tup) (h1 : callP (G n) 38 [d] = some (.lst ds)) (h2 : callP (G n) 38 [e] = some (.lst es)) (hn : 1 ≤ n) (hz : ds.length + es.length ≤ 100000) (f1 : Fines ds) (f2 : Fines es) :
    callP (G (n + 1)) 38 [.tup [d, e]] = some (.lst (ds ++ es)) := by
  have q := v_flatS (n := n) [(d, ds), (e, es)] rfl (Fines.cons hd (.cons he .nil)) (by simp) (fun _ => ⟨d, [e], rfl, ht⟩) hn (fun p hp => by
    have e : p = (d, ds) ∨ p = (e, es) := by simpa using hp
    rcases e with e | e <;> subst e
    · exact h1
    · exact h2) (by simp only [List.flatMap_cons, List.flatMap_nil, List.append_nil, List.length_append]; omega) (by simp only [List.flatMap_cons, List.flatMap_nil, List.append_nil]; exact (f1.append f2).nr)
  simp only [List.flatMap_cons, List.flatMap_nil, List.append_nil] at q
  exact q
theorem fine_qs (qs : List Rat) : Fines (qs.map qD) := Fines.map fun q _ => fine_q q
theorem v_flat {g b : Nat} : ∀ (k : Kd) (a : An k) (L : Nat), Aw g b k a → wd g k ≤ 1000 → ht k + 4 ≤ L → callP (G L) 38 [aD k a] = some (.lst ((nums k a).map qD))
  | .num, a, L, _, _, hL => by
    obtain ⟨n, rfl⟩ : ∃ n, L = n + 1 := ⟨L - 1, by omega⟩
    refine pc_ret (t := t38) (m' := []) rfl rfl rfl rfl ?_
    exact (x_yes (e_cmp rfl (e_tup rfl rfl) (cmp_tup0 .nil)) (e_lst rfl rfl)).trans rfl
  | .list k, (row, a), L, ⟨h1, h2⟩, hw, hL => by
    obtain ⟨n, rfl⟩ : ∃ n, L = n + 1 := ⟨L - 1, by omega⟩
    unfold ht at hL
    have hw' : g + wd g k ≤ 1000 := hw
    have e := two_flat (Fine.tup (fine_qs row)) (fine_a k a) rfl (v_flatR h1 (L := n) (by omega)) (v_flat k a n h2 (by omega) (by omega)) (by omega) (by rw [List.length_map, List.length_map, h1.len, nums_len k a h2]; omega) (fine_qs _) (fine_qs _)
    rw [← List.map_append] at e
    exact e
  | .tree k, (row, a), L, ⟨h1, h2⟩, hw, hL => by
    obtain ⟨n, rfl⟩ : ∃ n, L = n + 1 := ⟨L - 1, by omega⟩
    unfold ht at hL
    have hw' : g + wd g k ≤ 1000 := hw
    have e := two_flat (Fine.tup (fine_qs row)) (fine_a k a) rfl (v_flatR h1 (L := n) (by omega)) (v_flat k a n h2 (by omega) (by omega)) (by omega) (by rw [List.length_map, List.length_map, h1.len, nums_len k a h2]; omega) (fine_qs _) (fine_qs _)
    rw [← List.map_append] at e
    exact e
  | .pair k l, (a, c), L, ⟨h1, h2⟩, hw, hL => by
    obtain ⟨n, rfl⟩ : ∃ n, L = n + 1 := ⟨L - 1, by omega⟩
    unfold ht at hL
    have hw' : wd g k + wd g l ≤ 1000 := hw
    have e := two_flat (fine_a k a) (fine_a l c) (aD_ty k a) (v_flat k a n h1 (by omega) (by omega)) (v_flat l c n h2 (by omega) (by omega)) (by omega) (by rw [List.length_map, List.length_map, nums_len k a h1, nums_len l c h2]; omega) (fine_qs _) (fine_qs _)
    rw [← List.map_append] at e
    exact e
theorem v_covers {g b c : Nat} {k : Kd} {a d : An k} {L : Nat} (ha : Aw g b k a) (hd : Aw g c k d) (hb : b ≤ 1000) (hc : c ≤ 1000) (hw : wd g k ≤ 1000) (hL : ht k + 5 ≤ L) :
    callP (G L) 39 [aD k a, aD k d] = some (.bl (cov (nums k a) (nums k d))) := by
  obtain ⟨n, rfl⟩ : ∃ n, L = n + 1 := ⟨L - 1, by omega⟩
  have n1 := v_flat k a n ha hw (by omega)
  have n2 := v_flat k d n hd hw (by omega)
  have l1 := nums_len k a ha
  refine pc_ret (t := t39) (m' := []) rfl rfl (nr2 (fine_a k a).nr (fine_a k d).nr) rfl ?_
  have hi : ev (G n) (.zip2 (.cons (.callP 38 (.cons (.var 0) .nil)) (.cons (.callP 38 (.cons (.var 1) .nil)) .nil))) [some (aD k a), some (aD k d), none, none] [] = some (.tup ((List.zip (nums k a) (nums k d)).map fun p => D.tup [qD p.1, qD p.2]), []) := by
    rw [← zip_qs]
    exact c_covers.e_zip2 (e_two (e_callP (e_one rfl) n1) (e_callP (e_one rfl) n2)) rfl rfl
  have hcomp : ev (G n) (.comp (.lit (.int 1)) (.tup (.cons (.name 2) (.cons (.name 3) .nil))) (.zip2 (.cons (.callP 38 (.cons (.var 0) .nil)) (.cons (.callP 38 (.cons (.var 1) .nil)) .nil))) (.callP 34 (.cons (.var 2) (.cons (.var 3) .nil))) [2, 3]) [some (aD k a), some (aD k d), none, none] [] =
      some (.lst (((List.zip (nums k a) (nums k d)).filter fun p => decide (p.1 < p.2)).map fun _ => D.int 1), []) := by
    refine e_comp hi (sz_of (by rw [List.length_map]; have := zip_len (nums k a) (nums k d); omega)) (compF_filter (fun p hp => ?_) fun p hp _ => rfl)
    have hp1 := aw_bits k a ha p.1 (List.of_mem_zip hp).1
    have hp2 := aw_bits k d hd p.2 (List.of_mem_zip hp).2
    obtain ⟨q, rfl⟩ : ∃ q, n = q + 1 := ⟨n - 1, by omega⟩
    have e := e_callP (G := G (q + 1)) (A := .cons (.var 2) (.cons (.var 3) .nil)) (env := [some (aD k a), some (aD k d), some (qD p.1), some (qD p.2)]) (m := []) (e_two rfl rfl) (c_less q 34 (.inr rfl) hp1 hp2 (by omega))
    show (ev (G (q + 1)) (.callP 34 (.cons (.var 2) (.cons (.var 3) .nil))) [some (aD k a), some (aD k d), some (qD p.1), some (qD p.2)] []).bind _ = _
    rw [e]
    rfl
  refine (x_ret (e_cmp hcomp (e_lst rfl rfl) (cmp_lst0 (Fines.map fun _ _ => .int 1)))).trans ?_
  unfold cov
  cases (List.zip (nums k a) (nums k d)).filter fun p => decide (p.1 < p.2) <;> rfl
end K56
set_option Elab.async false
set_option linter.all false
set_option maxRecDepth 100000
set_option exponentiation.threshold 10000
set_option maxHeartbeats 1000000
namespace K56
open MP PySem

/-! ### leaves, a tree put into a tree -/
def lv {α : Type} : Tr α → Nat → List Nat
  | .nil, d => [d]
  | .node l _ r, d => lv l (d + 1) ++ lv r (d + 1)
def gr {α : Type} (o : Tr α) : Tr α → Int → Tr α × Nat
  | .nil, i => (if i = 0 then o else .nil, 1)
  | .node l x r, i => (.node (gr o l i).1 x (gr o r (i - (gr o l i).2)).1, (gr o l i).2 + (gr o r (i - (gr o l i).2)).2)
theorem lv_len {α : Type} : ∀ (t : Tr α) (d : Nat), (lv t d).length = nn t + 1
  | .nil, _ => rfl
  | .node l x r, d => by
    show (lv l (d + 1) ++ lv r (d + 1)).length = nn l + nn r + 1 + 1
    rw [List.length_append, lv_len l, lv_len r]
    omega
theorem gr_cnt {α : Type} (o : Tr α) : ∀ (t : Tr α) (i : Int), (gr o t i).2 = nn t + 1
  | .nil, _ => rfl
  | .node l x r, i => by
    show (gr o l i).2 + (gr o r (i - (gr o l i).2)).2 = nn l + nn r + 1 + 1
    rw [gr_cnt o l i, gr_cnt o r]
    omega
theorem gr_out {α : Type} (o : Tr α) : ∀ (t : Tr α) (i : Int), i < 0 ∨ ((nn t + 1 : Nat) : Int) ≤ i → (gr o t i).1 = t
  | .nil, i, h => by
    show (if i = 0 then o else .nil) = _
    have h : i < 0 ∨ ((0 + 1 : Nat) : Int) ≤ i := h
    rw [if_neg (by omega)]
  | .node l x r, i, h => by
    have h : i < 0 ∨ ((nn l + nn r + 1 + 1 : Nat) : Int) ≤ i := h
    show Tr.node (gr o l i).1 x (gr o r (i - (gr o l i).2)).1 = _
    rw [gr_cnt o l i, gr_out o l i (by omega), gr_out o r _ (by omega)]
theorem gr_in {α : Type} (o : Tr α) : ∀ (t : Tr α) (i d : Nat) (e : Nat), (lv t d)[i]? = some e → (pre (gr o t (i : Int)).1 d).Perm (pre t d ++ pre o e)
  | .nil, i, d, e, h => by
    cases i with
    | zero =>
      have h : d = e := Option.some.inj h
      subst h
      exact List.Perm.refl _
    | succ i => cases h
  | .node l x r, i, d, e, h => by
    have h : (lv l (d + 1) ++ lv r (d + 1))[i]? = some e := h
    show ((x, d) :: (pre (gr o l i).1 (d + 1) ++ pre (gr o r ((i : Int) - (gr o l i).2)).1 (d + 1))).Perm ((x, d) :: (pre l (d + 1) ++ pre r (d + 1)) ++ pre o e)
    rw [gr_cnt o l i]
    have hl := lv_len l (d + 1)
    by_cases hi : i < nn l + 1
    · rw [List.getElem?_append_left (by omega)] at h
      have p := gr_in o l i (d + 1) e h
      rw [gr_out o r _ (by omega)]
      refine List.Perm.cons _ ?_
      refine (p.append_right _).trans ?_
      show ((pre l (d + 1) ++ pre o e) ++ pre r (d + 1)).Perm ((pre l (d + 1) ++ pre r (d + 1)) ++ pre o e)
      rw [List.append_assoc, List.append_assoc]
      exact List.Perm.append_left _ List.perm_append_comm
    · rw [List.getElem?_append_right (by omega), hl] at h
      have p := gr_in o r (i - (nn l + 1)) (d + 1) e h
      have ei : (i : Int) - ((nn l + 1 : Nat) : Int) = ((i - (nn l + 1) : Nat) : Int) := by omega
      rw [gr_out o l _ (by omega), ei]
      refine List.Perm.cons _ ?_
      show (pre l (d + 1) ++ pre (gr o r ((i - (nn l + 1) : Nat) : Int)).1 (d + 1)).Perm ((pre l (d + 1) ++ pre r (d + 1)) ++ pre o e)
      rw [List.append_assoc]
      exact List.Perm.append_left _ p
theorem th_gr {α : Type} (o : Tr α) : ∀ (t : Tr α) (i : Int), th (gr o t i).1 ≤ th t + th o
  | .nil, i => by
    show th (if i = 0 then o else .nil) ≤ 0 + th o
    split
    · omega
    · show 0 ≤ _
      omega
  | .node l x r, i => by
    show max (th (gr o l i).1) (th (gr o r (i - (gr o l i).2)).1) + 1 ≤ max (th l) (th r) + 1 + th o
    have h1 := th_gr o l i
    have h2 := th_gr o r (i - (gr o l i).2)
    omega
theorem pre_shift {α : Type} : ∀ (t : Tr α) (d e : Nat), ((pre t (d + e)).map fun p => p.2).sum = ((pre t d).map fun p => p.2).sum + nn t * e
  | .nil, _, _ => by
    show 0 = 0 + 0 * _
    omega
  | .node l x r, d, e => by
    have h1 := pre_shift l (d + 1) e
    have h2 := pre_shift r (d + 1) e
    have e1 : d + e + 1 = d + 1 + e := by omega
    show (((x, d + e) :: (pre l (d + e + 1) ++ pre r (d + e + 1))).map fun p => p.2).sum = (((x, d) :: (pre l (d + 1) ++ pre r (d + 1))).map fun p => p.2).sum + (nn l + nn r + 1) * e
    rw [List.map_cons, List.map_cons, List.sum_cons, List.sum_cons, List.map_append, List.map_append, List.sum_append, List.sum_append, e1, h1, h2, Nat.add_mul, Nat.add_mul]
    dsimp only
    omega
theorem sR_perm {xs ys : List Rat} (p : xs.Perm ys) : sR xs = sR ys := by
  induction p with
  | nil => rfl
  | cons x _ ih => exact congrArg (x + ·) ih
  | swap x y l =>
    show y + (x + sR l) = x + (y + sR l)
    grind
  | trans _ _ h1 h2 => exact h1.trans h2
theorem v_leaves {α : Type} {f : α → D} (h : ∀ x, Fine (f x)) : ∀ (t : Tr α) (d L : Nat), nn t ≤ 1000 → th t + 1 ≤ L → callP (G L) 43 [tD f t, .int d] = some (.lst ((lv t d).map fun (n : Nat) => D.int (n : Int)))
  | .nil, d, L, _, hL => by
    obtain ⟨k, rfl⟩ : ∃ k, L = k + 1 := ⟨L - 1, by omega⟩
    refine pc_ret (t := t43) (m' := []) rfl rfl rfl rfl ?_
    exact (x_yes (e_cmp rfl (e_tup rfl rfl) (cmp_tup0 .nil)) (e_lst (e_one rfl) rfl)).trans rfl
  | .node l x r, d, L, hn, hL => by
    obtain ⟨k, rfl⟩ : ∃ k, L = k + 1 := ⟨L - 1, by omega⟩
    unfold th at hL
    unfold nn at hn
    have hl := v_leaves h l (d + 1) k (by omega) (by omega)
    have hr := v_leaves h r (d + 1) k (by omega) (by omega)
    have fl : ∀ ns : List Nat, Fines (ns.map fun (n : Nat) => D.int (n : Int)) := fun ns => Fines.map fun n _ => .int _
    refine pc_ret (t := t43) (m' := []) rfl rfl (nr2 (fine_t h _).nr rfl) (Fine.lst (fl _)).nr ?_
    refine (x_no (e_cmp rfl (e_tup rfl rfl) (cmp_tup0 (.cons (fine_t h l) (.cons (h x) (.cons (fine_t h r) .nil)))))).trans ?_
    have z2 : sz (((lv l (d + 1)).map fun (n : Nat) => D.int (n : Int)).length + ((lv r (d + 1)).map fun (n : Nat) => D.int (n : Int)).length) = true := sz_of (by rw [List.length_map, lv_len, List.length_map, lv_len]; omega)
    have b2 : binD .add (.lst ((lv l (d + 1)).map fun (n : Nat) => D.int (n : Int))) (.lst ((lv r (d + 1)).map fun (n : Nat) => D.int (n : Int))) = some (.lst (((lv l (d + 1)).map fun (n : Nat) => D.int (n : Int)) ++ (lv r (d + 1)).map fun (n : Nat) => D.int (n : Int))) := if_pos z2
    have e : ((lv (.node l x r) d).map fun (n : Nat) => D.int (n : Int)) = ((lv l (d + 1)).map fun (n : Nat) => D.int (n : Int)) ++ (lv r (d + 1)).map fun (n : Nat) => D.int (n : Int) := by
      show (lv l (d + 1) ++ lv r (d + 1)).map _ = _
      rw [List.map_append]
    rw [e]
    exact x_ret (e_bin (e_callP (e_two (e_idx rfl rfl ixT0) (e_bin rfl rfl rfl)) hl) (e_callP (e_two (e_idx rfl rfl ixT2) (e_bin rfl rfl rfl)) hr) b2)
theorem v_graft {α : Type} {f : α → D} (h : ∀ x, Fine (f x)) (o : Tr α) : ∀ (t : Tr α) (i : Int) (L : Nat), th t + 1 ≤ L → callP (G L) 44 [tD f t, .int i, tD f o] = some (.tup [tD f (gr o t i).1, .int (gr o t i).2])
  | .nil, i, L, hL => by
    obtain ⟨k, rfl⟩ : ∃ k, L = k + 1 := ⟨L - 1, by omega⟩
    refine pc_ret (t := t44) (m' := []) rfl rfl (nr3 rfl rfl (fine_t h o).nr) (Fine.tup (.cons (fine_t h _) (.cons (.int _) .nil))).nr ?_
    have hi : ev (G k) (.ife (.cmp .eq (.var 1) (.lit (.int 0))) (.var 2) (.tup .nil)) [some (.tup []), some (.int i), some (tD f o), none, none, none, none] [] = some (tD f (gr o .nil i).1, []) := by
      refine e_ife (t := i == 0) (e_cmp rfl rfl cmp_int) ?_
      show _ = some (tD f (if i = 0 then o else .nil), _)
      by_cases q : i = 0
      · subst q
        rfl
      · rw [if_neg q, if_neg (by simpa using q)]
        rfl
    exact (x_yes (e_cmp rfl (e_tup rfl rfl) (cmp_tup0 .nil)) (e_tup (e_two hi rfl) rfl)).trans rfl
  | .node l x r, i, L, hL => by
    obtain ⟨k, rfl⟩ : ∃ k, L = k + 1 := ⟨L - 1, by omega⟩
    unfold th at hL
    have hl := v_graft h o l i k (by omega)
    have hr := v_graft h o r (i - (gr o l i).2) k (by omega)
    refine pc_ret (t := t44) (m' := []) rfl rfl (nr3 (fine_t h _).nr rfl (fine_t h o).nr) (Fine.tup (.cons (fine_t h _) (.cons (.int _) .nil))).nr ?_
    refine (x_no (e_cmp rfl (e_tup rfl rfl) (cmp_tup0 (.cons (fine_t h l) (.cons (h x) (.cons (fine_t h r) .nil)))))).trans ?_
    refine (x_asg (e_callP (e_three (e_idx rfl rfl ixT0) rfl rfl) hl) rfl).trans ?_
    refine (x_asg (e_callP (e_three (e_idx rfl rfl ixT2) (e_bin rfl rfl rfl) rfl) hr) rfl).trans ?_
    exact x_ret (e_tup (e_two (e_tup (e_three rfl (e_idx rfl rfl ixT1) rfl) rfl) (e_bin rfl rfl rfl)) rfl)

/-! ### is it worth so much -/
theorem deq_q (r : Rat) : deq (qD r) (qD r) = true := by
  unfold deq qD
  rw [py_tup]
  show PyData.eqv (.tuple [.int r.num, .int r.den]) (.tuple [.int r.num, .int r.den]) = true
  unfold PyData.eqv PyData.eqvAll
  unfold PyData.eqv PyData.eqvAll
  unfold PyData.eqv PyData.eqvAll
  simp
theorem dep_q (r : Rat) : (qD r).py.depth ≤ 64 := by
  unfold qD
  rw [py_tup]
  show PyData.depth (.tuple [.int r.num, .int r.den]) ≤ 64
  unfold PyData.depth PyData.depthAll
  unfold PyData.depth PyData.depthAll
  unfold PyData.depth PyData.depthAll
  decide
theorem cmp_q {m : Mem} (r : Rat) : cmpD m .eq (qD r) (qD r) = some true := by
  show (if eqOk (qD r) (qD r) = true then some (deq (qD r) (qD r)) else none) = _
  rw [if_pos (eqOk_of (fine_q r) (fine_q r) (by rw [Nat.min_self]; exact dep_q r)), deq_q]
theorem plain_q (r : Rat) : plain (qD r) = true := rfl
theorem c_worthy {g b : Nat} (hb : b ≤ 12) {k : Kd} {a : An k} {v : Va k} {r : Rat} {L : Nat} (ha : Aw g b k a) (hw : wt k v ≤ 128) (hv : Hv k v) (hr : ph k a v = r) (hL : 2 * ht k + 51 ≤ L) :
    callP (G L) 45 [kD k, aD k a, vD k v, qD r] = some (.bl true) := by
  obtain ⟨n, rfl⟩ : ∃ n, L = n + 1 := ⟨L - 1, by omega⟩
  subst hr
  have h1 := c_pot hb k a v n ha hw (by omega)
  have h2 := c_sz k v n hw (by omega)
  have h3 := c_by hb k a v n ha hw (by omega)
  have h4 := c_worth hb ha hw (L := n) (by omega)
  have h5 := v_pot hb k a v n ha hw hv (by omega)
  have hn : D.noRefs [kD k, aD k a, vD k v, qD (ph k a v)] = true := by
    show ((kD k).noRef && ((aD k a).noRef && ((vD k v).noRef && ((qD (ph k a v)).noRef && true)))) = true
    rw [nr_k, (fine_a k a).nr, (fine_v k v).nr]
    rfl
  refine pc_ret (t := t45) (m' := [.lst [qD (ph k a v), qD (ph k a v), qD (ph k a v)]]) rfl rfl hn rfl ?_
  refine (x_asg (d := .ref 0) (m1 := [.lst [qD (ph k a v), qD (ph k a v)]]) (e_lstH (ds := [qD (ph k a v), qD (ph k a v)]) (m1 := []) (e_two (e_callP (e_three rfl rfl rfl) h1) (e_callP (e_three rfl rfl (e_callP (e_two rfl rfl) h2)) h3)) rfl) rfl).trans ?_
  have hA : ∀ m : Mem, ev (G n) (.callP 22 (.cons (.tup (.cons (.var 0) .nil)) (.cons (.tup (.cons (.tup (.cons (.lit (.int 0)) (.cons (.lit (.int 1)) .nil))) (.cons (.tup (.cons (.var 1) .nil)) .nil))) (.cons (.tup (.cons (.var 2) .nil)) .nil)))) [some (kD k), some (aD k a), some (vD k v), some (qD (ph k a v)), some (.ref 0)] m = some (qD (ph k a v), m) := fun m =>
    e_callP (ds := [.tup [kD k], .tup [.tup [.int 0, .int 1], .tup [aD k a]], .tup [vD k v]]) (e_three (x := .tup [kD k]) (y := .tup [.tup [.int 0, .int 1], .tup [aD k a]]) (z := .tup [vD k v]) rfl rfl rfl) h4
  generalize hQ : qD (ph k a v) = Q at *
  have hpQ : plain Q = true := by rw [← hQ]; rfl
  have hsQ : size Q = 3 := by rw [← hQ]; simp [size, sizes, qD]
  have hcQ : ∀ m, cmpD m .eq Q Q = some true := fun m => by rw [← hQ]; exact cmp_q _
  have hnQ : Q.noRef = true := by rw [← hQ]; rfl
  refine (x_app (n := 0) (ds := [Q, Q]) (x := Q) (m1 := [.lst [Q, Q]]) (m2 := [.lst [Q, Q]]) rfl (hA _) rfl rfl).trans ?_
  obtain ⟨q, rfl⟩ : ∃ q, n = q + 1 := ⟨n - 1, by omega⟩
  obtain ⟨m', e⟩ := g_alike (k := q) (d := .lst [Q, Q, Q]) (by simp [plain, plains, hpQ]) (by simp [size, sizes, hsQ])
  have hnl : D.noRefs [Q, Q, Q] = true := nr3 hnQ hnQ hnQ
  have hB : callB (G (q + 1)) [.lst [Q, Q, Q]] 29 [.ref 0, .lst [Q, Q, Q]] = some (.bl true) := by
    have h1 : derefs [.lst [Q, Q, Q]] [.ref 0, .lst [Q, Q, Q]] = some [.lst [Q, Q, Q], .lst [Q, Q, Q]] := by
      show ((if D.noRefs [Q, Q, Q] = true then some (D.lst [Q, Q, Q]) else none).bind fun d => if d.noRef = true then (derefs [.lst [Q, Q, Q]] [.lst [Q, Q, Q]]).map (d :: ·) else none) = _
      rw [if_pos hnl]
      show (if D.noRefs [Q, Q, Q] = true then (if D.noRefs [Q, Q, Q] = true then (some []).map (D.lst [Q, Q, Q] :: ·) else none).map (D.lst [Q, Q, Q] :: ·) else none) = _
      rw [if_pos hnl, if_pos hnl]
      rfl
    unfold callB
    rw [h1, Option.bind_some, e, Option.bind_some]
    rfl
  have hE : ev (G (q + 1)) (.callB 29 (.cons (.var 4) (.cons (.lst (.cons (.var 3) (.cons (.var 3) (.cons (.var 3) .nil)))) .nil))) [some (kD k), some (aD k a), some (vD k v), some Q, some (.ref 0)] [.lst [Q, Q, Q]] = some (.bl true, [.lst [Q, Q, Q]]) :=
    e_callB (e_two rfl (e_lst (e_three rfl rfl rfl) rfl)) hB
  have hF : ev (G (q + 1)) (.cmp .eq (.callP 37 (.cons (.var 0) (.cons (.var 1) (.cons (.var 2) .nil)))) (.var 3)) [some (kD k), some (aD k a), some (vD k v), some Q, some (.ref 0)] [.lst [Q, Q, Q]] = some (.bl true, [.lst [Q, Q, Q]]) :=
    e_cmp (e_callP (e_three rfl rfl rfl) h5) rfl (hcQ _)
  exact x_ret (e_and (c := true) (t := true) hE fun _ => hF)
end K56
set_option Elab.async false
set_option linter.all false
set_option maxRecDepth 100000
set_option exponentiation.threshold 10000
set_option maxHeartbeats 1000000
namespace K56
open MP PySem

/-! ### draws -/
def bagD (b0 b1 p : Nat) (cs : List Nat) : List D := [.int b0, .int b1, .int p, .lst (cs.map fun (n : Nat) => D.int (n : Int))]
/-- a bag that has been asked P times at most -/
def Good (P : Nat) (m : Mem) : Prop := ∃ b0 b1 p cs, m = [.lst (bagD b0 b1 p cs)] ∧ b1 < 2147483647 ∧ p ≤ P ∧ cs.length ≤ 100
theorem Good.mono {P Q : Nat} {m : Mem} (h : Good P m) (hq : P ≤ Q) : Good Q m := by
  obtain ⟨a, b, p, c, e, h1, h2⟩ := h
  exact ⟨a, b, p, c, e, h1, by omega⟩
theorem fitN {n : Nat} (h : n < 2 ^ 100) : fit (n : Int) = true := fit_of (n := 100) (by simpa using h) (by decide)
theorem mulN {a b : Nat} (ha : a < 2 ^ 100) (hb : b < 2 ^ 100) : binD .mul (.int (a : Int)) (.int (b : Int)) = some (.int ((a * b : Nat) : Int)) := by
  show (if (fit (a : Int) && fit (b : Int)) = true then some (D.int ((a : Int) * (b : Int))) else none) = _
  rw [fitN ha, fitN hb]
  rfl
theorem modN {a b : Nat} (hb : 0 < b) : binD .mod (.int (a : Int)) (.int (b : Int)) = some (.int ((a % b : Nat) : Int)) := by
  show (if decide ((0 : Int) < (b : Int)) = true then some (D.int ((a : Int) % (b : Int))) else none) = _
  rw [if_pos (by simp; omega)]
  rfl
theorem divN {a b : Nat} (hb : 0 < b) (hz : b < 2 ^ 100) : binD .fdiv (.int (a : Int)) (.int (b : Int)) = some (.int ((a / b : Nat) : Int)) := by
  show (if (decide ((0 : Int) < (b : Int)) && fit (b : Int)) = true then some (D.int ((a : Int) / (b : Int))) else none) = _
  rw [fitN hz, if_pos (by simp; omega)]
  rfl
theorem addN {a b : Nat} : binD .add (.int (a : Int)) (.int (b : Int)) = some (.int ((a + b : Nat) : Int)) := rfl
section
variable {G : Calls} {env : MP.Env} {m m1 m2 : Mem} {A B : E} {ds : List D} {n : Nat}
theorem e_slcFromL (ha : ev G A env m = some (.lst ds, m1)) (hn : ev G B env m1 = some (.int n, m2)) : ev G (.slc A true false B (.lit .non)) env m = some (.lst (ds.drop n), m2) := by
  show (ev G A env m).bind _ = _
  rw [ha]
  show (ev G B env m1).bind _ = _
  rw [hn]
  show some (D.lst (cutD ds (some (n : Int)) none), m2) = _
  rw [cut_drop]
end
theorem x_augIx {G : Calls} {N : Nat} {env : MP.Env} {m m1 m2 m3 : Mem} {O I A : E} {k : S} {op : BOp} {n j : Nat} {a b : Int} {r : D} {ds : List D} (ho : ev G O env m = some (.ref n, m1)) (hi : ev G I env m1 = some (.int j, m2)) (hold : idxD m2 (.ref n) (.int j) = some (.int a))
    (he : ev G A env m2 = some (.int b, m3)) (hop : binD op (.int a) (.int b) = some r) (hm : m3[n]? = some (.lst ds)) (hj : j < ds.length) : MP.exec G N (.augIx O I op A k) env m = MP.exec G N k env (m3.set n (.lst (ds.set j r))) := by
  have e : L2.ixN ds.length (j : Int) = some j := by
    unfold L2.ixN
    rw [if_pos (by omega), if_pos (by omega)]
    rfl
  show (ev G O env m).bind _ = _
  rw [ho]
  show (ev G I env m1).bind _ = _
  rw [hi]
  show (idxD m2 (.ref n) (.int j)).bind _ = _
  rw [hold]
  show (ev G A env m2).bind _ = _
  rw [he]
  show (binD op (.int a) (.int b)).bind _ = _
  rw [hop]
  show (match m3[n]? with | some (.lst ds) => (L2.ixN ds.length (j : Int)).bind (fun j => MP.exec G N k env (m3.set n (.lst (ds.set j r)))) | none => none) = _
  rw [hm]
  show (L2.ixN ds.length (j : Int)).bind (fun j => MP.exec G N k env (m3.set n (.lst (ds.set j r)))) = _
  rw [e]
  rfl
theorem k_at {g : Calls} {env : MP.Env} {b0 b1 p : Nat} {cs : List Nat} (h : env.getD 0 none = some (.ref 0)) (j : Nat) (d : D) (hj : (bagD b0 b1 p cs)[j]? = some d) : ev g (.idx (.var 0) (.lit (.int j))) env [.lst (bagD b0 b1 p cs)] = some (d, [.lst (bagD b0 b1 p cs)]) := by
  refine e_idx (x := .ref 0) (m1 := [.lst (bagD b0 b1 p cs)]) ?_ rfl ?_
  · show (env.getD 0 none).map _ = _
    rw [h]
    rfl
  · show L2.atI (bagD b0 b1 p cs) (j : Int) = _
    rw [atI_nat, hj]
/-- behind the first part: a bag -/
theorem take1 (g : Calls) {b0 b1 p : Nat} {cs : List Nat} {many : D} (h1 : b1 < 2147483647) (hp : p < 2 ^ 60) (hcs : cs.length ≤ 100) : ∃ e' b0' b1' p', b1' < 2147483647 ∧ p' ≤ p + 1 ∧ ∃ x2 x3, e' = [some (.ref 0), some many, x2, x3, none, none, none] ∧ ∀ K : S,
    MP.exec g FU (.ife (.cmp .eq (.idx (.var 0) (.lit (.int 0))) (.lit (.int 0))) (.asg (.name 2) (.idx (.bin .add (.slc (.idx (.var 0) (.lit (.int 3))) true false (.idx (.var 0) (.lit (.int 2))) (.lit .non)) (.lst (.cons (.lit (.int 0)) .nil))) (.lit (.int 0))) (.augIx (.var 0) (.lit (.int 2)) .add (.lit (.int 1)) (.ife (.cmp .ge (.var 2) (.lit (.int (10 ^ (18 : Int).toNat)))) (.setIx (.var 0) (.lit (.int 0)) (.var 2) .nil) .nil (.asg (.name 3) (.bin .add (.bin .add (.bin .mul (.idx (.var 0) (.lit (.int 1))) (.lit (.int 48271))) (.bin .mod (.blt .int (.cons (.var 2) .nil)) (.lit (.int 2147483647)))) (.bin .mul (.lit (.int 7919)) (.idx (.var 0) (.lit (.int 2))))) (.setIx (.var 0) (.lit (.int 1)) (.bin .mod (.blt .int (.cons (.var 3) .nil)) (.lit (.int 2147483647))) .nil))))) .nil K)
      [some (.ref 0), some many, none, none, none, none, none] [.lst (bagD b0 b1 p cs)] = MP.exec g FU K e' [.lst (bagD b0' b1' p' cs)] := by
  have hc : ev g (.cmp .eq (.idx (.var 0) (.lit (.int 0))) (.lit (.int 0))) [some (.ref 0), some many, none, none, none, none, none] [.lst (bagD b0 b1 p cs)] = some (.bl ((b0 : Int) == 0), [.lst (bagD b0 b1 p cs)]) := e_cmp (k_at rfl 0 _ rfl) rfl cmp_int
  by_cases hb : b0 = 0
  · subst hb
    obtain ⟨c, r, hcr⟩ : ∃ (c : Nat) (r : List D), ((cs.map fun (n : Nat) => D.int (n : Int)).drop p ++ [.int 0]) = .int (c : Int) :: r := by
      rw [← List.map_drop]
      cases cs.drop p with
      | nil => exact ⟨0, [], rfl⟩
      | cons c r => exact ⟨c, _, rfl⟩
    have hz : sz (((cs.map fun (n : Nat) => D.int (n : Int)).drop p).length + 1) = true := sz_of (by rw [List.length_drop, List.length_map]; omega)
    have hadd : binD .add (.lst ((cs.map fun (n : Nat) => D.int (n : Int)).drop p)) (.lst [.int 0]) = some (.lst (.int (c : Int) :: r)) := by
      rw [← hcr]
      exact if_pos hz
    have hcell : ev g (.idx (.bin .add (.slc (.idx (.var 0) (.lit (.int 3))) true false (.idx (.var 0) (.lit (.int 2))) (.lit .non)) (.lst (.cons (.lit (.int 0)) .nil))) (.lit (.int 0))) [some (.ref 0), some many, none, none, none, none, none] [.lst (bagD 0 b1 p cs)] = some (.int (c : Int), [.lst (bagD 0 b1 p cs)]) :=
      e_idx (e_bin (e_slcFromL (k_at rfl 3 _ rfl) (k_at rfl 2 _ rfl)) (e_lst (e_one rfl) rfl) hadd) rfl ixL0
    have haug : ∀ (k : S), MP.exec g FU (.augIx (.var 0) (.lit (.int 2)) .add (.lit (.int 1)) k) [some (.ref 0), some many, some (.int (c : Int)), none, none, none, none] [.lst (bagD 0 b1 p cs)] = MP.exec g FU k [some (.ref 0), some many, some (.int (c : Int)), none, none, none, none] [.lst (bagD 0 b1 (p + 1) cs)] := fun k =>
      (x_augIx (n := 0) (j := 2) (a := (p : Int)) (b := 1) (r := .int ((p + 1 : Nat) : Int)) (ds := bagD 0 b1 p cs) (m1 := [.lst (bagD 0 b1 p cs)]) (m2 := [.lst (bagD 0 b1 p cs)]) (m3 := [.lst (bagD 0 b1 p cs)]) rfl rfl (atI_nat (bagD 0 b1 p cs) 2) rfl rfl rfl (by show 2 < 4; decide)).trans rfl
    have hge : ev g (.cmp .ge (.var 2) (.lit (.int (10 ^ (18 : Int).toNat)))) [some (.ref 0), some many, some (.int (c : Int)), none, none, none, none] [.lst (bagD 0 b1 (p + 1) cs)] = some (.bl (decide (((10 : Int) ^ (18 : Int).toNat) ≤ (c : Int))), [.lst (bagD 0 b1 (p + 1) cs)]) := rfl
    have hst : ∀ z : Nat, ev g (.bin .add (.bin .add (.bin .mul (.idx (.var 0) (.lit (.int 1))) (.lit (.int 48271))) (.bin .mod (.blt .int (.cons (.var 2) .nil)) (.lit (.int 2147483647)))) (.bin .mul (.lit (.int 7919)) (.idx (.var 0) (.lit (.int 2))))) [some (.ref 0), some many, some (.int (c : Int)), none, none, none, none] [.lst (bagD z b1 (p + 1) cs)] = some (.int ((b1 * 48271 + c % 2147483647 + 7919 * (p + 1) : Nat) : Int), [.lst (bagD z b1 (p + 1) cs)]) := fun z =>
      e_bin (e_bin (e_bin (k_at rfl 1 _ rfl) rfl (mulN (b := 48271) (by omega) (by decide))) (e_bin (e_blt (e_one rfl) rfl) rfl (modN (b := 2147483647) (by decide))) addN) (e_bin rfl (k_at rfl 2 _ rfl) (mulN (a := 7919) (by decide) (by omega))) addN
    have hend : ∀ z : Nat, MP.exec g FU (.asg (.name 3) (.bin .add (.bin .add (.bin .mul (.idx (.var 0) (.lit (.int 1))) (.lit (.int 48271))) (.bin .mod (.blt .int (.cons (.var 2) .nil)) (.lit (.int 2147483647)))) (.bin .mul (.lit (.int 7919)) (.idx (.var 0) (.lit (.int 2))))) (.setIx (.var 0) (.lit (.int 1)) (.bin .mod (.blt .int (.cons (.var 3) .nil)) (.lit (.int 2147483647))) .nil)) [some (.ref 0), some many, some (.int (c : Int)), none, none, none, none] [.lst (bagD z b1 (p + 1) cs)] =
        some (.nx [some (.ref 0), some many, some (.int (c : Int)), some (.int ((b1 * 48271 + c % 2147483647 + 7919 * (p + 1) : Nat) : Int)), none, none, none], [.lst (bagD z ((b1 * 48271 + c % 2147483647 + 7919 * (p + 1)) % 2147483647) (p + 1) cs)]) := fun z => by
      refine (x_asg (hst z) rfl).trans ?_
      exact (x_setIx (n := 0) (i := 1) (ds := bagD z b1 (p + 1) cs) (x := .int (((b1 * 48271 + c % 2147483647 + 7919 * (p + 1)) % 2147483647 : Nat) : Int)) (e_bin (e_blt (e_one rfl) rfl) rfl (modN (b := 2147483647) (by decide))) rfl rfl rfl (by show 1 < 4; decide)).trans rfl
    by_cases hbig : ((10 : Int) ^ (18 : Int).toNat) ≤ (c : Int)
    · rw [decide_eq_true hbig] at hge
      refine ⟨[some (.ref 0), some many, some (.int (c : Int)), some (.int ((b1 * 48271 + c % 2147483647 + 7919 * (p + 1) : Nat) : Int)), none, none, none], c, (b1 * 48271 + c % 2147483647 + 7919 * (p + 1)) % 2147483647, p + 1, Nat.mod_lt _ (by decide), by omega, some (.int (c : Int)), some (.int ((b1 * 48271 + c % 2147483647 + 7919 * (p + 1) : Nat) : Int)), rfl, fun K => ?_⟩
      refine (x_ifT hc).trans (thn_nx ?_)
      refine (x_asg hcell rfl).trans ((haug _).trans ((x_ifT hge).trans ((thn_nx (env1 := [some (.ref 0), some many, some (.int (c : Int)), none, none, none, none]) (m1 := [.lst (bagD c b1 (p + 1) cs)]) ?_).trans (hend c))))
      exact (x_setIx (n := 0) (i := 0) (ds := bagD 0 b1 (p + 1) cs) rfl rfl rfl rfl (by show 0 < 4; decide)).trans rfl
    · rw [decide_eq_false hbig] at hge
      refine ⟨[some (.ref 0), some many, some (.int (c : Int)), some (.int ((b1 * 48271 + c % 2147483647 + 7919 * (p + 1) : Nat) : Int)), none, none, none], 0, (b1 * 48271 + c % 2147483647 + 7919 * (p + 1)) % 2147483647, p + 1, Nat.mod_lt _ (by decide), by omega, some (.int (c : Int)), some (.int ((b1 * 48271 + c % 2147483647 + 7919 * (p + 1) : Nat) : Int)), rfl, fun K => ?_⟩
      refine (x_ifT hc).trans (thn_nx ?_)
      exact (x_asg hcell rfl).trans ((haug _).trans ((x_no hge).trans (hend 0)))
  · have e : ((b0 : Int) == 0) = false := by simp; omega
    rw [e] at hc
    exact ⟨_, b0, b1, p, h1, by omega, none, none, rfl, fun K => x_no hc⟩
/-- a draw: a number below many -/
theorem g_take {P : Nat} {m : Mem} (h : Good P m) (hP : P < 2 ^ 50) {many : Nat} (h0 : 0 < many) (hm : many < 2 ^ 50) (k : Nat) : ∃ v m', v < many ∧ Good (P + 1) m' ∧ G (k + 1) 27 [.ref 0, .int many] m = some (.int (v : Nat), m') := by
  obtain ⟨b0, b1, p, cs, rfl, h1, h2, h3⟩ := h
  obtain ⟨e', b0', b1', p', g1, g2, x2, x3, rfl, hK⟩ := take1 (G k) (b0 := b0) (p := p) (many := .int many) h1 (by omega) h3
  have hgt : ev (G k) (.cmp .gt (.idx (.var 0) (.lit (.int 0))) (.lit (.int 0))) [some (.ref 0), some (.int many), x2, x3, none, none, none] [.lst (bagD b0' b1' p' cs)] = some (.bl (decide ((0 : Int) < (b0' : Int))), [.lst (bagD b0' b1' p' cs)]) := e_cmp (k_at rfl 0 _ rfl) rfl rfl
  have run : ∀ {v : D} {m' : Mem}, MP.exec (G k) FU t27 [some (.ref 0), some (.int many), none, none, none, none, none] [.lst (bagD b0 b1 p cs)] = some (.rt v, m') → G (k + 1) 27 [.ref 0, .int many] [.lst (bagD b0 b1 p cs)] = some (v, m') := fun {v m'} e => by
    show MP.run tab FU (k + 1) 27 _ _ = _
    rw [run_eq (t := t27) (np := 2) (nn := 7) rfl rfl]
    show (MP.exec (G k) FU t27 [some (.ref 0), some (.int many), none, none, none, none, none] [.lst (bagD b0 b1 p cs)]).bind fin = _
    rw [e]
    rfl
  by_cases hb : b0' = 0
  · have e : decide ((0 : Int) < (b0' : Int)) = false := by simp; omega
    rw [e] at hgt
    have hr : ((b1' + 1) * 39373) % 1000000007 < 1000000007 := Nat.mod_lt _ (by decide)
    generalize hbg : ((b1' + 1) * 39373) % 1000000007 = bg at hr
    have hsq : bg * bg < 2 ^ 100 := Nat.lt_of_lt_of_le (Nat.mul_lt_mul'' hr hr) (by decide)
    have hr2 : (bg * bg) % 998244353 < 998244353 := Nat.mod_lt _ (by decide)
    refine ⟨(((bg * bg) % 998244353 * 30011) % 998244353 / 7) % many, [.lst (bagD b0' b1' p' cs)], Nat.mod_lt _ h0, ⟨b0', b1', p', cs, rfl, g1, by omega, h3⟩, run ((hK _).trans ((x_no hgt).trans ?_))⟩
    refine (x_asg (d := .int (bg : Int)) (m1 := [.lst (bagD b0' b1' p' cs)]) ?_ rfl).trans ?_
    · rw [← hbg]
      exact e_bin (e_blt (e_one (e_bin (e_bin (k_at rfl 1 _ rfl) rfl (addN (b := 1))) rfl (mulN (b := 39373) (by omega) (by decide)))) rfl) rfl (modN (b := 1000000007) (by decide))
    refine (x_asg (d := .int (((bg * bg) % 998244353 * 30011 % 998244353 : Nat) : Int)) (m1 := [.lst (bagD b0' b1' p' cs)]) ?_ rfl).trans ?_
    · exact e_bin (e_blt (e_one (e_bin (e_bin (e_blt (e_one (e_bin rfl rfl (mulN (by omega) (by omega)))) rfl) rfl (modN (b := 998244353) (by decide))) rfl (mulN (b := 30011) (by omega) (by decide)))) rfl) rfl (modN (b := 998244353) (by decide))
    exact x_ret (e_bin (e_blt (e_one (e_bin rfl rfl (divN (b := 7) (by decide) (by decide)))) rfl) rfl (modN h0))
  · have e : decide ((0 : Int) < (b0' : Int)) = true := by simp; omega
    rw [e] at hgt
    refine ⟨b0' % many, [.lst (bagD (b0' / many) b1' p' cs)], Nat.mod_lt _ h0, ⟨b0' / many, b1', p', cs, rfl, g1, by omega, h3⟩, run ((hK _).trans ((x_ifT hgt).trans (thn_rt ?_)))⟩
    refine (x_asg (d := .int ((b0' % many : Nat) : Int)) (m1 := [.lst (bagD b0' b1' p' cs)]) (e_bin (e_blt (e_one (k_at rfl 0 _ rfl)) rfl) rfl (modN h0)) rfl).trans ?_
    refine (x_setIx (n := 0) (i := 0) (x := .int ((b0' / many : Nat) : Int)) (ds := bagD b0' b1' p' cs) (m1 := [.lst (bagD b0' b1' p' cs)]) (m2 := [.lst (bagD b0' b1' p' cs)]) (m3 := [.lst (bagD b0' b1' p' cs)]) (e_bin (e_blt (e_one (k_at rfl 0 _ rfl)) rfl) rfl (divN h0 (by omega))) rfl rfl rfl (by show 0 < 4; decide)).trans ?_
    exact x_ret rfl
end K56
set_option Elab.async false
set_option linter.all false
set_option maxRecDepth 100000
set_option exponentiation.threshold 10000
set_option maxHeartbeats 1000000
namespace K56
open MP PySem

theorem g_of {k i : Nat} {ds : List D} {np nn : Nat} {t : S} {d : D} {m m' : Mem} (hT : tab[i]? = some ⟨np, nn, t⟩) (hl : ds.length = np)
    (h : MP.exec (G k) FU t (ds.map some ++ List.replicate (nn - ds.length) none) m = some (.rt d, m')) : G (k + 1) i ds m = some (d, m') := by
  show MP.run tab FU (k + 1) i ds m = _
  rw [run_eq hT hl, h]
  rfl
theorem L_take {P : Nat} {m : Mem} (h : Good P m) (hP : P < 2 ^ 50) {many : Nat} (h0 : 0 < many) (hm : many < 2 ^ 50) {L : Nat} (hL : 1 ≤ L) : ∃ v m', v < many ∧ Good (P + 1) m' ∧ G L 27 [.ref 0, .int many] m = some (.int (v : Nat), m') := by
  obtain ⟨k, rfl⟩ := up hL
  exact g_take h hP h0 hm k
/-- drawn within an expression -/
theorem e_take {P : Nat} {m : Mem} (h : Good P m) (hP : P < 2 ^ 50) {many : Nat} (h0 : 0 < many) (hm : many < 2 ^ 50) {L : Nat} (hL : 1 ≤ L) {env : MP.Env} {i : Nat} (he : env.getD i none = some (.ref 0)) : ∃ v m', v < many ∧ Good (P + 1) m' ∧ ev (G L) (.callK 27 (.cons (.var i) (.cons (.lit (.int many)) .nil))) env m = some (.int (v : Nat), m') := by
  obtain ⟨v, m', h1, h2, h3⟩ := L_take h hP h0 hm hL
  refine ⟨v, m', h1, h2, e_callK (e_two (x := .ref 0) (m1 := m) ?_ rfl) h3⟩
  show (env.getD i none).map _ = _
  rw [he]
  rfl

/-! ### values -/
def wb : Kd → Nat → Nat
  | .num, _ => 1
  | .list k, n => 1 + n * wb k (n - 2)
  | .tree k, n => 1 + n * wb k (n - 2)
  | .pair a b, n => 1 + wb a n + wb b n
def cv : Kd → Nat
  | .num => 2
  | .list k => 1 + 5 * cv k
  | .tree k => 1 + 5 * (cv k + 1)
  | .pair a b => cv a + cv b
theorem wsum {k : Kd} : ∀ (t : Tr (Va k)) (d : Nat), ((pre t d).map fun p => wt k p.1).sum = ((inl t).map (wt k)).sum := by
  intro t
  induction t with
  | nil => exact fun _ => rfl
  | node l x r ihl ihr =>
    intro d
    unfold inl pre
    rw [List.map_append, List.map_cons, List.map_cons, List.map_append, List.sum_append, List.sum_cons, List.sum_cons, List.sum_append, ihl (d + 1), ihr (d + 1)]
    dsimp only
    omega
theorem wt_inl (k : Kd) (t : Tr (Va k)) : wt (.tree k) t = 1 + ((inl t).map (wt k)).sum := by rw [wt_tree, wsum]
theorem g_some {P : Nat} {m : Mem} (h : Good P m) (hP : P < 2 ^ 50) (x : Nat) {L : Nat} (hL : 2 ≤ L) : ∃ (y : Nat) (m' : Mem), Good (P + 1) m' ∧ G L 28 [.ref 0, .lst [.int 0, .int 1, .int 2, .int x]] m = some (.int (y : Nat), m') := by
  obtain ⟨k, rfl⟩ : ∃ k, L = k + 1 := ⟨L - 1, by omega⟩
  obtain ⟨v, m', h1, h2, h3⟩ := L_take (many := 4) h hP (by decide) (by decide) (L := k) (by omega)
  obtain ⟨y, hy⟩ : ∃ y : Nat, ([D.int 0, .int 1, .int 2, .int x] : List D)[v]? = some (.int (y : Nat)) := by
    match v, h1 with
    | 0, _ => exact ⟨0, rfl⟩
    | 1, _ => exact ⟨1, rfl⟩
    | 2, _ => exact ⟨2, rfl⟩
    | 3, _ => exact ⟨x, rfl⟩
  refine ⟨y, m', h2, g_of (t := t28) rfl rfl ?_⟩
  exact x_ret (e_idx rfl (e_callK (e_two rfl (e_blt (e_one rfl) rfl)) h3) (ixL_nat.trans hy))
theorem max_sub {m : Mem} (most : Nat) : bltD m .max2 [.int 0, .int ((most : Int) - 2)] = some (.int ((most - 2 : Nat) : Int)) := by
  show some (D.int (if ((most : Int) - 2) > 0 then ((most : Int) - 2) else 0)) = _
  split
  · have : ((most : Int) - 2) = ((most - 2 : Nat) : Int) := by omega
    rw [this]
  · have : (most - 2 : Nat) = 0 := by omega
    rw [this]
    rfl
/-- what a value's turns keep -/
theorem v_loopL {k L P0 : Nat} {kd : Kd} {most W C : Nat} (hL : 1 ≤ L) (hm : most ≤ 5) (hW : 1 ≤ W)
    (item : ∀ P m, Good P m → P + C ≤ P0 → ∃ v m', G L 35 [.ref 0, kD kd, .int ((most - 2 : Nat) : Int)] m = some (vD kd v, m') ∧ Good (P + C) m' ∧ wt kd v ≤ W ∧ Hv kd v) :
    ∀ (ds : List D) (xs : List (Va kd)) (P : Nat) (m : Mem) (x y : Option D), Good P m → P + ds.length * C ≤ P0 → xs.length + ds.length ≤ 5 → (∀ v ∈ xs, Hv kd v) → ∃ (xs' : List (Va kd)) (m' : Mem) (x' y' : Option D),
      forF (fun d env m => (bindP (.name 4) d env).bind fun env => MP.exec (G L) FU (.asg (.name 5) (.callK 35 (.cons (.var 0) (.cons (.idx (.var 1) (.lit (.int 1))) (.cons (.blt .max2 (.cons (.lit (.int 0)) (.cons (.bin .sub (.var 2) (.lit (.int 2))) .nil))) .nil)))) (.ife (.cmp .eq (.idx (.var 1) (.lit (.int 0))) (.lit (.str "list"))) (.asg (.name 3) (.bin .add (.tup (.cons (.var 5) .nil)) (.var 3)) .nil) (.asg (.name 3) (.ife (.cmp .eq (.callK 27 (.cons (.var 0) (.cons (.lit (.int 2)) .nil))) (.lit (.int 0))) (.tup (.cons (.var 3) (.cons (.var 5) (.cons (.tup .nil) .nil)))) (.tup (.cons (.tup .nil) (.cons (.var 5) (.cons (.var 3) .nil))))) .nil) .nil)) env m) ds
        [some (.ref 0), some (kD (.list kd)), some (.int most), some (.tup (xs.map (vD kd))), x, y] m = some (.nx [some (.ref 0), some (kD (.list kd)), some (.int most), some (.tup (xs'.map (vD kd))), x', y'], m') ∧
      Good (P + ds.length * C) m' ∧ (xs'.map (wt kd)).sum ≤ (xs.map (wt kd)).sum + ds.length * W ∧ ∀ v ∈ xs', Hv kd v := by
  intro ds
  induction ds with
  | nil =>
    intro xs P m x y hg _ _ hv
    exact ⟨xs, m, x, y, rfl, hg.mono (by omega), by omega, hv⟩
  | cons d ds ih =>
    intro xs P m x y hg hP hl hv
    rw [List.length_cons] at hP hl ⊢
    have e1 : (ds.length + 1) * C = ds.length * C + C := Nat.succ_mul _ _
    have e2 : (ds.length + 1) * W = ds.length * W + W := Nat.succ_mul _ _
    obtain ⟨v, m1, h1, h2, h3, h4⟩ := item P m hg (by omega)
    obtain ⟨xs', m', x', y', h5, h6, h7, h8⟩ := ih (v :: xs) (P + C) m1 (some d) (some (vD kd v)) h2 (by omega) (by rw [List.length_cons]; omega) (fun w hw => by
      rcases List.mem_cons.mp hw with rfl | hw
      · exact h4
      · exact hv w hw)
    refine ⟨xs', m', x', y', (for_nx ?_).trans h5, h6.mono (by omega), ?_, h8⟩
    · show MP.exec (G L) FU _ [some (.ref 0), some (kD (.list kd)), some (.int most), some (.tup (xs.map (vD kd))), some d, y] m = _
      refine (x_asg (d := vD kd v) (m1 := m1) (e_callK (e_three rfl (e_idx rfl rfl ixT1) (e_blt (e_two rfl (e_bin rfl rfl rfl)) (max_sub most))) h1) rfl).trans ?_
      have z : sz (1 + (xs.map (vD kd)).length) = true := sz_of (by rw [List.length_map]; omega)
      have hb : binD .add (.tup [vD kd v]) (.tup (xs.map (vD kd))) = some (.tup ((v :: xs).map (vD kd))) := if_pos z
      exact (x_ifT (k_list (.list kd) rfl)).trans ((thn_nx ((x_asg (e_bin (e_tup (e_one rfl) rfl) rfl hb) rfl).trans rfl)).trans rfl)
    · rw [List.map_cons, List.sum_cons] at h7
      omega
theorem v_loopT {k L P0 : Nat} {kd : Kd} {most W C : Nat} (hL : 1 ≤ L) (hP0 : P0 < 2 ^ 49) (hm : most ≤ 5) (hW : 1 ≤ W)
    (item : ∀ P m, Good P m → P + C ≤ P0 → ∃ v m', G L 35 [.ref 0, kD kd, .int ((most - 2 : Nat) : Int)] m = some (vD kd v, m') ∧ Good (P + C) m' ∧ wt kd v ≤ W ∧ Hv kd v) :
    ∀ (ds : List D) (t : Tr (Va kd)) (P : Nat) (m : Mem) (x y : Option D), Good P m → P + ds.length * (C + 1) ≤ P0 → (∀ v ∈ inl t, Hv kd v) → ∃ (t' : Tr (Va kd)) (m' : Mem) (x' y' : Option D),
      forF (fun d env m => (bindP (.name 4) d env).bind fun env => MP.exec (G L) FU (.asg (.name 5) (.callK 35 (.cons (.var 0) (.cons (.idx (.var 1) (.lit (.int 1))) (.cons (.blt .max2 (.cons (.lit (.int 0)) (.cons (.bin .sub (.var 2) (.lit (.int 2))) .nil))) .nil)))) (.ife (.cmp .eq (.idx (.var 1) (.lit (.int 0))) (.lit (.str "list"))) (.asg (.name 3) (.bin .add (.tup (.cons (.var 5) .nil)) (.var 3)) .nil) (.asg (.name 3) (.ife (.cmp .eq (.callK 27 (.cons (.var 0) (.cons (.lit (.int 2)) .nil))) (.lit (.int 0))) (.tup (.cons (.var 3) (.cons (.var 5) (.cons (.tup .nil) .nil)))) (.tup (.cons (.tup .nil) (.cons (.var 5) (.cons (.var 3) .nil))))) .nil) .nil)) env m) ds
        [some (.ref 0), some (kD (.tree kd)), some (.int most), some (tD (vD kd) t), x, y] m = some (.nx [some (.ref 0), some (kD (.tree kd)), some (.int most), some (tD (vD kd) t'), x', y'], m') ∧
      Good (P + ds.length * (C + 1)) m' ∧ ((inl t').map (wt kd)).sum ≤ ((inl t).map (wt kd)).sum + ds.length * W ∧ th t' ≤ th t + ds.length ∧ ∀ v ∈ inl t', Hv kd v := by
  intro ds
  induction ds with
  | nil =>
    intro t P m x y hg _ hv
    exact ⟨t, m, x, y, rfl, hg.mono (by omega), by omega, by omega, hv⟩
  | cons d ds ih =>
    intro t P m x y hg hP hv
    rw [List.length_cons] at hP ⊢
    have e1 : (ds.length + 1) * (C + 1) = ds.length * (C + 1) + (C + 1) := Nat.succ_mul _ _
    have e2 : (ds.length + 1) * W = ds.length * W + W := Nat.succ_mul _ _
    obtain ⟨v, m1, h1, h2, h3, h4⟩ := item P m hg (by omega)
    have hvv : ∀ {a b : List (Va kd)}, (∀ w ∈ a, Hv kd w) → (∀ w ∈ b, Hv kd w) → ∀ w ∈ a ++ v :: b, Hv kd w := fun ha hb w hw => by
      rcases List.mem_append.mp hw with hw | hw
      · exact ha w hw
      · rcases List.mem_cons.mp hw with rfl | hw
        · exact h4
        · exact hb w hw
    obtain ⟨u, m2, q1, q2, q3⟩ := e_take (many := 2) h2 (by omega) (by decide) (by decide) (L := L) hL (env := [some (.ref 0), some (kD (.tree kd)), some (.int most), some (tD (vD kd) t), some d, some (vD kd v)]) (i := 0) rfl
    have go : ∀ {t2 : Tr (Va kd)}, ev (G L) (.ife (.cmp .eq (.callK 27 (.cons (.var 0) (.cons (.lit (.int 2)) .nil))) (.lit (.int 0))) (.tup (.cons (.var 3) (.cons (.var 5) (.cons (.tup .nil) .nil)))) (.tup (.cons (.tup .nil) (.cons (.var 5) (.cons (.var 3) .nil))))) [some (.ref 0), some (kD (.tree kd)), some (.int most), some (tD (vD kd) t), some d, some (vD kd v)] m1 = some (tD (vD kd) t2, m2) →
        MP.exec (G L) FU (.asg (.name 5) (.callK 35 (.cons (.var 0) (.cons (.idx (.var 1) (.lit (.int 1))) (.cons (.blt .max2 (.cons (.lit (.int 0)) (.cons (.bin .sub (.var 2) (.lit (.int 2))) .nil))) .nil)))) (.ife (.cmp .eq (.idx (.var 1) (.lit (.int 0))) (.lit (.str "list"))) (.asg (.name 3) (.bin .add (.tup (.cons (.var 5) .nil)) (.var 3)) .nil) (.asg (.name 3) (.ife (.cmp .eq (.callK 27 (.cons (.var 0) (.cons (.lit (.int 2)) .nil))) (.lit (.int 0))) (.tup (.cons (.var 3) (.cons (.var 5) (.cons (.tup .nil) .nil)))) (.tup (.cons (.tup .nil) (.cons (.var 5) (.cons (.var 3) .nil))))) .nil) .nil))
          [some (.ref 0), some (kD (.tree kd)), some (.int most), some (tD (vD kd) t), some d, y] m = some (.nx [some (.ref 0), some (kD (.tree kd)), some (.int most), some (tD (vD kd) t2), some d, some (vD kd v)], m2) := fun {t2} he => by
      refine (x_asg (d := vD kd v) (m1 := m1) (e_callK (e_three rfl (e_idx rfl rfl ixT1) (e_blt (e_two rfl (e_bin rfl rfl rfl)) (max_sub most))) h1) rfl).trans ?_
      exact (x_ifF (k_list (.tree kd) rfl)).trans ((thn_nx ((x_asg he rfl).trans rfl)).trans rfl)
    have hcmp : ev (G L) (.cmp .eq (.callK 27 (.cons (.var 0) (.cons (.lit (.int 2)) .nil))) (.lit (.int 0))) [some (.ref 0), some (kD (.tree kd)), some (.int most), some (tD (vD kd) t), some d, some (vD kd v)] m1 = some (.bl ((u : Int) == 0), m2) := e_cmp q3 rfl cmp_int
    have key : ∃ t2 : Tr (Va kd), ev (G L) (.ife (.cmp .eq (.callK 27 (.cons (.var 0) (.cons (.lit (.int 2)) .nil))) (.lit (.int 0))) (.tup (.cons (.var 3) (.cons (.var 5) (.cons (.tup .nil) .nil)))) (.tup (.cons (.tup .nil) (.cons (.var 5) (.cons (.var 3) .nil))))) [some (.ref 0), some (kD (.tree kd)), some (.int most), some (tD (vD kd) t), some d, some (vD kd v)] m1 = some (tD (vD kd) t2, m2) ∧ (∀ w ∈ inl t2, Hv kd w) ∧ ((inl t2).map (wt kd)).sum ≤ ((inl t).map (wt kd)).sum + W ∧ th t2 ≤ th t + 1 := by
      by_cases hu : u = 0
      · subst hu
        refine ⟨.node t v .nil, e_ife (t := true) hcmp (e_tup (e_three rfl rfl (e_tup rfl rfl)) rfl), hvv hv (fun _ h => nomatch h), ?_, ?_⟩
        · show ((inl t ++ v :: []).map (wt kd)).sum ≤ _
          rw [List.map_append, List.sum_append, List.map_cons, List.sum_cons, List.map_nil, List.sum_nil]
          omega
        · show max (th t) 0 + 1 ≤ _
          omega
      · have e : ((u : Int) == 0) = false := by simp; omega
        rw [e] at hcmp
        refine ⟨.node .nil v t, e_ife (t := false) hcmp (e_tup (e_three (e_tup rfl rfl) rfl rfl) rfl), hvv (fun _ h => nomatch h) hv, ?_, ?_⟩
        · show (([] ++ v :: inl t).map (wt kd)).sum ≤ _
          rw [List.nil_append, List.map_cons, List.sum_cons]
          omega
        · show max 0 (th t) + 1 ≤ _
          omega
    obtain ⟨t2, he, hv2, hw2, ht2⟩ := key
    obtain ⟨t', m', x', y', h5, h6, h7, h8, h9⟩ := ih t2 (P + C + 1) m2 (some d) (some (vD kd v)) q2 (by omega) hv2
    exact ⟨t', m', x', y', (for_nx (go he)).trans h5, h6.mono (by omega), by omega, by omega, h9⟩
theorem rng_len (n : Nat) : (rngD 0 (n : Int)).length = n := by
  unfold rngD
  rw [List.length_map, List.length_range]
  omega
/-- a value of a kind -/
theorem g_value : ∀ (kd : Kd) (most P : Nat) (m : Mem) (L : Nat), most ≤ 5 → Good P m → P + cv kd < 2 ^ 48 → ht kd + 3 ≤ L → ∃ (v : Va kd) (m' : Mem), G L 35 [.ref 0, kD kd, .int most] m = some (vD kd v, m') ∧ Good (P + cv kd) m' ∧ wt kd v ≤ wb kd most ∧ Hv kd v
  | .num, most, P, m, L, hm, hg, hP, hL => by
    obtain ⟨k, rfl⟩ : ∃ k, L = k + 1 := ⟨L - 1, by omega⟩
    have hP : P + 2 < 2 ^ 48 := hP
    obtain ⟨v, m1, h1, h2, h3⟩ := e_take (many := 10000) hg (by omega) (by decide) (by decide) (L := k) (by omega) (env := [some (.ref 0), some (kD .num), some (.int most), none, none, none]) (i := 0) rfl
    obtain ⟨y, m2, h4, h5⟩ := g_some h2 (by omega) v (L := k) (by omega)
    refine ⟨(y : Int), m2, g_of (t := t35) rfl rfl ?_, h4, Nat.le_refl _, trivial⟩
    exact (x_yes (k_num .num rfl) (e_callK (e_two rfl (e_lst (e_cons rfl (e_three rfl rfl h3)) rfl)) h5)).trans rfl
  | .pair a b, most, P, m, L, hm, hg, hP, hL => by
    obtain ⟨k, rfl⟩ : ∃ k, L = k + 1 := ⟨L - 1, by omega⟩
    unfold ht at hL
    have hP : P + (cv a + cv b) < 2 ^ 48 := hP
    obtain ⟨v, m1, h1, h2, h3, h4⟩ := g_value a most P m k hm hg (by omega) (by omega)
    obtain ⟨w, m2, k1, k2, k3, k4⟩ := g_value b most (P + cv a) m1 k hm h2 (by omega) (by omega)
    refine ⟨(v, w), m2, g_of (t := t35) rfl rfl ?_, k2.mono (by show _ ≤ P + (cv a + cv b); omega), ?_, h4, k4⟩
    · exact (x_no (k_num (.pair a b) rfl)).trans ((x_yes (k_pair (.pair a b) rfl) (e_tup (e_two (e_callK (e_three rfl (e_idx rfl rfl ixT1) rfl) h1) (e_callK (e_three rfl (e_idx rfl rfl ixT2) rfl) k1)) rfl)).trans rfl)
    · have e := wt_pair a b v w
      have e2 : wb (.pair a b) most = 1 + wb a most + wb b most := rfl
      omega
  | .list kd, most, P, m, L, hm, hg, hP, hL => by
    obtain ⟨k, rfl⟩ : ∃ k, L = k + 1 := ⟨L - 1, by omega⟩
    unfold ht at hL
    have hP : P + (1 + 5 * cv kd) < 2 ^ 48 := hP
    obtain ⟨n, m1, h1, h2, h3⟩ := L_take (many := most + 1) hg (by omega) (by omega) (by omega) (L := k) (by omega)
    have hrl := rng_len n
    have hmul : n * cv kd ≤ 5 * cv kd := Nat.mul_le_mul_right _ (by omega)
    have hwp : 1 ≤ wb kd (most - 2) := by cases kd <;> (unfold wb; omega)
    obtain ⟨xs, m', x', y', e, g1, g2, g3⟩ := v_loopL (kd := kd) (most := most) (W := wb kd (most - 2)) (C := cv kd) (P0 := P + 1 + 5 * cv kd) (L := k) (k := 0) (by omega) hm hwp (fun P m hg hP => g_value kd (most - 2) P m k (by omega) hg (by omega) (by omega)) (rngD 0 n) [] (P + 1) m1 none none h2 (by rw [hrl]; omega) (by rw [hrl]; simp; omega) (fun _ h => nomatch h)
    rw [hrl] at g1 g2
    refine ⟨xs, m', g_of (t := t35) rfl rfl ?_, g1.mono (by show _ ≤ P + (1 + 5 * cv kd); omega), ?_, g3⟩
    · refine (x_no (k_num (.list kd) rfl)).trans ((x_no (k_pair (.list kd) rfl)).trans ?_)
      refine (x_asg (d := .tup []) (m1 := m) (e_tup rfl rfl) rfl).trans ?_
      have hr : ev (G k) (.rng1 (.cons (.callK 27 (.cons (.var 0) (.cons (.bin .add (.var 2) (.lit (.int 1))) .nil))) .nil)) [some (.ref 0), some (kD (.list kd)), some (.int most), some (.tup []), none, none] m = some (.tup (rngD 0 (n : Int)), m1) :=
        e_rng1 (e_one (e_callK (e_two rfl (e_bin rfl rfl (addN (b := 1)))) h3)) (by omega)
      refine (x_for hr).trans ((thn_nx e).trans ?_)
      exact x_ret rfl
    · have e1 := wt_list kd xs
      have e2 : wb (.list kd) most = 1 + most * wb kd (most - 2) := rfl
      have e3 : n * wb kd (most - 2) ≤ most * wb kd (most - 2) := Nat.mul_le_mul_right _ (by omega)
      have e4 : (List.map (wt kd) ([] : List (Va kd))).sum = 0 := rfl
      omega
  | .tree kd, most, P, m, L, hm, hg, hP, hL => by
    obtain ⟨k, rfl⟩ : ∃ k, L = k + 1 := ⟨L - 1, by omega⟩
    unfold ht at hL
    have hP : P + (1 + 5 * (cv kd + 1)) < 2 ^ 48 := hP
    obtain ⟨n, m1, h1, h2, h3⟩ := L_take (many := most + 1) hg (by omega) (by omega) (by omega) (L := k) (by omega)
    have hrl := rng_len n
    have hmul : n * (cv kd + 1) ≤ 5 * (cv kd + 1) := Nat.mul_le_mul_right _ (by omega)
    have hwp : 1 ≤ wb kd (most - 2) := by cases kd <;> (unfold wb; omega)
    obtain ⟨t, m', x', y', e, g1, g2, g4, g3⟩ := v_loopT (kd := kd) (most := most) (W := wb kd (most - 2)) (C := cv kd) (P0 := P + 1 + 5 * (cv kd + 1)) (L := k) (k := 0) (by omega) (by omega) hm hwp (fun P m hg hP => g_value kd (most - 2) P m k (by omega) hg (by omega) (by omega)) (rngD 0 n) .nil (P + 1) m1 none none h2 (by rw [hrl]; omega) (fun _ h => nomatch h)
    rw [hrl] at g1 g2 g4
    refine ⟨t, m', g_of (t := t35) rfl rfl ?_, g1.mono (by show _ ≤ P + (1 + 5 * (cv kd + 1)); omega), ?_, by have e0 : th (Tr.nil : Tr (Va kd)) = 0 := rfl; omega, g3⟩
    · refine (x_no (k_num (.tree kd) rfl)).trans ((x_no (k_pair (.tree kd) rfl)).trans ?_)
      refine (x_asg (d := .tup []) (m1 := m) (e_tup rfl rfl) rfl).trans ?_
      have hr : ev (G k) (.rng1 (.cons (.callK 27 (.cons (.var 0) (.cons (.bin .add (.var 2) (.lit (.int 1))) .nil))) .nil)) [some (.ref 0), some (kD (.tree kd)), some (.int most), some (.tup []), none, none] m = some (.tup (rngD 0 (n : Int)), m1) :=
        e_rng1 (e_one (e_callK (e_two rfl (e_bin rfl rfl (addN (b := 1)))) h3)) (by omega)
      refine (x_for hr).trans ((thn_nx e).trans ?_)
      exact x_ret rfl
    · have e1 := wt_inl kd t
      have e2 : wb (.tree kd) most = 1 + most * wb kd (most - 2) := rfl
      have e3 : n * wb kd (most - 2) ≤ most * wb kd (most - 2) := Nat.mul_le_mul_right _ (by omega)
      have e4 : (List.map (wt kd) (inl (Tr.nil : Tr (Va kd)))).sum = 0 := rfl
      omega
where
  e_rng1 {g : Calls} {env : MP.Env} {m m1 : Mem} {A : E} {n : Nat} (h : ev g A env m = some (.tup [.int n], m1)) (hn : n ≤ 1000000) : ev g (.rng1 A) env m = some (.tup (rngD 0 (n : Int)), m1) := by
    show (ev g A env m).bind _ = _
    rw [h]
    show (if small (n : Int) = true then some (D.tup (rngD 0 (n : Int)), m1) else none) = _
    rw [if_pos]
    unfold small
    simp
    omega
end K56
set_option Elab.async false
set_option linter.all false
set_option maxRecDepth 100000
set_option exponentiation.threshold 10000
set_option maxHeartbeats 1000000
namespace K56
open MP PySem

/-! ### kinds -/
def Bk (k : Kd) : Prop := k = .list .num ∨ k = .tree .num
def Kx (k : Kd) : Prop := Bk k ∨ (∃ b, Bk b ∧ (k = .list b ∨ k = .tree b)) ∨ ∃ b c, Bk b ∧ (Bk c ∨ c = .num) ∧ (k = .pair b c ∨ k = .pair c b)
theorem cmp_zero {m : Mem} (v : Nat) : cmpD m .eq (.int (v : Int)) (.int 0) = some (decide (v = 0)) := by
  show some ((v : Int) == 0) = _
  by_cases h : v = 0
  · subst h
    rfl
  · rw [decide_eq_false h]
    congr 1
    simp
    omega
theorem g_base {k P : Nat} {deep : Int} {env2 : Option D} {m : Mem} (hg : Good P m) (hP : P < 2 ^ 49) (hk : 1 ≤ k) {way : Nat} :
    ∃ kd m', Bk kd ∧ Good (P + 1) m' ∧ ev (G k) (.tup (.cons (.ife (.cmp .eq (.callK 27 (.cons (.var 0) (.cons (.lit (.int 2)) .nil))) (.lit (.int 0))) (.lit (.str "list")) (.lit (.str "tree"))) (.cons (.tup (.cons (.lit (.str "num")) .nil)) .nil))) [some (.ref 0), some (.int deep), some (.int (way : Nat)), none, none] m = some (kD kd, m') := by
  obtain ⟨u, m2, q1, q2, q3⟩ := e_take (many := 2) hg (by omega) (by decide) (by decide) (L := k) hk (env := [some (.ref 0), some (.int deep), some (.int (way : Nat)), none, none]) (i := 0) rfl
  by_cases hu : u = 0
  · exact ⟨.list .num, m2, .inl rfl, q2, e_tup (e_two (e_ife (t := true) (e_cmp q3 rfl ((cmp_zero u).trans (congrArg some (decide_eq_true hu)))) rfl) (e_tup (e_one rfl) rfl)) rfl⟩
  · exact ⟨.tree .num, m2, .inr rfl, q2, e_tup (e_two (e_ife (t := false) (e_cmp q3 rfl ((cmp_zero u).trans (congrArg some (decide_eq_false hu)))) rfl) (e_tup (e_one rfl) rfl)) rfl⟩
theorem lt_nat {m : Mem} (a b : Nat) : cmpD m .lt (.int (a : Int)) (.int (b : Int)) = some (decide (a < b)) := by
  show some (decide ((a : Int) < (b : Int))) = _
  congr 1
  exact decide_eq_decide.mpr (by omega)
theorem g_kind2 {P : Nat} {m : Mem} {L : Nat} (hg : Good P m) (hP : P < 2 ^ 48) (hL : 2 ≤ L) : ∃ kd m', Bk kd ∧ Good (P + 2) m' ∧ G L 41 [.ref 0, .int 2] m = some (kD kd, m') := by
  obtain ⟨k, rfl⟩ : ∃ k, L = k + 1 := ⟨L - 1, by omega⟩
  obtain ⟨w, m1, h1, h2, h3⟩ := e_take (many := 5) hg (by omega) (by decide) (by decide) (L := k) (by omega) (env := [some (.ref 0), some (.int 2), none, none, none]) (i := 0) rfl
  obtain ⟨kd, m2, g1, g2, g3⟩ := g_base (k := k) (deep := 2) (env2 := none) h2 (by omega) (by omega) (way := w)
  refine ⟨kd, m2, g1, g2, g_of (t := t41) rfl rfl ?_⟩
  refine (x_asg h3 rfl).trans ?_
  have hor : ev (G k) (.or (.cmp .lt (.var 2) (.lit (.int 2))) (.cmp .lt (.var 1) (.lit (.int 3)))) [some (.ref 0), some (.int 2), some (.int (w : Nat)), none, none] m1 = some (.bl (decide (w < 2) || true), m1) := e_or (e_cmp rfl rfl (lt_nat w 2)) fun _ => e_cmp rfl rfl rfl
  rw [Bool.or_true] at hor
  exact x_yes hor g3
theorem g_kind3 {P : Nat} {m : Mem} {L : Nat} (hg : Good P m) (hP : P < 2 ^ 47) (hL : 3 ≤ L) : ∃ kd m', Kx kd ∧ Good (P + 10) m' ∧ G L 41 [.ref 0, .int 3] m = some (kD kd, m') := by
  obtain ⟨k, rfl⟩ : ∃ k, L = k + 1 := ⟨L - 1, by omega⟩
  obtain ⟨w, m1, h1, h2, h3⟩ := e_take (many := 5) hg (by omega) (by decide) (by decide) (L := k) (by omega) (env := [some (.ref 0), some (.int 3), none, none, none]) (i := 0) rfl
  have hor : ev (G k) (.or (.cmp .lt (.var 2) (.lit (.int 2))) (.cmp .lt (.var 1) (.lit (.int 3)))) [some (.ref 0), some (.int 3), some (.int (w : Nat)), none, none] m1 = some (.bl (decide (w < 2) || false), m1) := e_or (e_cmp rfl rfl (lt_nat w 2)) fun _ => e_cmp rfl rfl rfl
  rw [Bool.or_false] at hor
  by_cases hw : w < 2
  · rw [decide_eq_true hw] at hor
    obtain ⟨kd, m2, g1, g2, g3⟩ := g_base (k := k) (deep := 3) (env2 := none) h2 (by omega) (by omega) (way := w)
    exact ⟨kd, m2, .inl g1, g2.mono (by omega), g_of (t := t41) rfl rfl ((x_asg h3 rfl).trans (x_yes hor g3))⟩
  · rw [decide_eq_false hw] at hor
    obtain ⟨b, m2, b1, b2, b3⟩ := g_kind2 (L := k) h2 (by omega) (by omega)
    by_cases h4 : w = 4
    · subst h4
      obtain ⟨u, m3, u1, u2, u3⟩ := e_take (many := 2) b2 (by omega) (by decide) (by decide) (L := k) (by omega) (env := [some (.ref 0), some (.int 3), some (.int (4 : Nat)), some (kD b), none]) (i := 0) rfl
      have hc : ∃ c m4, (Bk c ∨ c = .num) ∧ Good (P + 1 + 2 + 1 + 2) m4 ∧ ev (G k) (.ife (.cmp .eq (.callK 27 (.cons (.var 0) (.cons (.lit (.int 2)) .nil))) (.lit (.int 0))) (.tup (.cons (.lit (.str "num")) .nil)) (.callK 41 (.cons (.var 0) (.cons (.bin .sub (.var 1) (.lit (.int 1))) .nil)))) [some (.ref 0), some (.int 3), some (.int (4 : Nat)), some (kD b), none] m2 = some (kD c, m4) := by
        by_cases hu : u = 0
        · exact ⟨.num, m3, .inr rfl, u2.mono (by omega), e_ife (t := true) (e_cmp u3 rfl ((cmp_zero u).trans (congrArg some (decide_eq_true hu)))) (e_tup (e_one rfl) rfl)⟩
        · obtain ⟨c, m4, c1, c2, c3⟩ := g_kind2 (L := k) u2 (by omega) (by omega)
          exact ⟨c, m4, .inl c1, c2, e_ife (t := false) (e_cmp u3 rfl ((cmp_zero u).trans (congrArg some (decide_eq_false hu)))) (e_callK (e_two rfl (e_bin rfl rfl rfl)) c3)⟩
      obtain ⟨c, m4, c1, c2, c3⟩ := hc
      obtain ⟨y, m5, y1, y2, y3⟩ := e_take (many := 2) c2 (by omega) (by decide) (by decide) (L := k) (by omega) (env := [some (.ref 0), some (.int 3), some (.int (4 : Nat)), some (kD b), some (kD c)]) (i := 0) rfl
      have hr : ∃ kd, (kd = .pair b c ∨ kd = .pair c b) ∧ ev (G k) (.ife (.cmp .eq (.callK 27 (.cons (.var 0) (.cons (.lit (.int 2)) .nil))) (.lit (.int 0))) (.tup (.cons (.lit (.str "pair")) (.cons (.var 3) (.cons (.var 4) .nil)))) (.tup (.cons (.lit (.str "pair")) (.cons (.var 4) (.cons (.var 3) .nil))))) [some (.ref 0), some (.int 3), some (.int (4 : Nat)), some (kD b), some (kD c)] m4 = some (kD kd, m5) := by
        by_cases hy : y = 0
        · exact ⟨.pair b c, .inl rfl, e_ife (t := true) (e_cmp y3 rfl ((cmp_zero y).trans (congrArg some (decide_eq_true hy)))) (e_tup (e_three rfl rfl rfl) rfl)⟩
        · exact ⟨.pair c b, .inr rfl, e_ife (t := false) (e_cmp y3 rfl ((cmp_zero y).trans (congrArg some (decide_eq_false hy)))) (e_tup (e_three rfl rfl rfl) rfl)⟩
      obtain ⟨kd, d1, d2⟩ := hr
      refine ⟨kd, m5, .inr (.inr ⟨b, c, b1, c1, d1⟩), y2.mono (by omega), g_of (t := t41) rfl rfl ?_⟩
      refine (x_asg h3 rfl).trans ((x_no hor).trans ((x_asg (e_callK (e_two rfl (e_bin rfl rfl rfl)) b3) rfl).trans ?_))
      refine (x_ifT (m1 := m2) (e_cmp rfl rfl rfl)).trans (thn_rt ?_)
      exact (x_asg c3 rfl).trans (x_ret d2)
    · have h4' : cmpD m2 .eq (.int (w : Int)) (.int 4) = some false := by
        show some ((w : Int) == 4) = _
        congr 1
        simp
        omega
      have hr : ∃ kd, (kd = .list b ∨ kd = .tree b) ∧ ev (G k) (.tup (.cons (.ife (.cmp .eq (.var 2) (.lit (.int 2))) (.lit (.str "list")) (.lit (.str "tree"))) (.cons (.var 3) .nil))) [some (.ref 0), some (.int 3), some (.int (w : Nat)), some (kD b), none] m2 = some (kD kd, m2) := by
        by_cases h2' : w = 2
        · subst h2'
          exact ⟨.list b, .inl rfl, e_tup (e_two (e_ife (t := true) (e_cmp rfl rfl rfl) rfl) rfl) rfl⟩
        · have h5 : cmpD m2 .eq (.int (w : Int)) (.int 2) = some false := by
            show some ((w : Int) == 2) = _
            congr 1
            simp
            omega
          exact ⟨.tree b, .inr rfl, e_tup (e_two (e_ife (t := false) (e_cmp rfl rfl h5) rfl) rfl) rfl⟩
      obtain ⟨kd, d1, d2⟩ := hr
      refine ⟨kd, m2, .inr (.inl ⟨b, b1, d1⟩), b2.mono (by omega), g_of (t := t41) rfl rfl ?_⟩
      refine (x_asg h3 rfl).trans ((x_no hor).trans ((x_asg (e_callK (e_two rfl (e_bin rfl rfl rfl)) b3) rfl).trans ?_))
      exact (x_no (e_cmp rfl rfl h4')).trans (x_ret d2)
/-! what such kinds are like -/
structure Kf (k : Kd) : Prop where
  hr : hr k = true
  ht : ht k ≤ 2
  wd : ∀ g, g = 1 ∨ g = 2 → 1 ≤ wd g k ∧ wd g k ≤ 4
  wb : wb k 5 ≤ 21
  cv : cv k ≤ 100
theorem kf_of {k : Kd} (h : Kx k) : Kf k := by
  rcases h with (rfl | rfl) | ⟨b, rfl | rfl, rfl | rfl⟩ | ⟨b, c, rfl | rfl, (rfl | rfl) | rfl, rfl | rfl⟩ <;>
    exact ⟨rfl, by decide, fun g hg => by rcases hg with rfl | rfl <;> decide, by decide, by decide⟩
/-! ### numbers -/
theorem compF_one {b : D → Mem → Option (Bool × Mem)} {e : D → Mem → Option (D × Mem)} {d x : D} {ds xs : List D} {m m1 m2 m3 : Mem} (hb : b d m = some (true, m1)) (he : e d m1 = some (x, m2)) (hr : compF b e ds m2 = some (xs, m3)) : compF b e (d :: ds) m = some (x :: xs, m3) := by
  show (b d m).bind _ = _
  rw [hb]
  show (e d m1).bind _ = _
  rw [he]
  show (compF b e ds m2).map _ = _
  rw [hr]
  rfl
theorem num_loop {k : Nat} (hk : 2 ≤ k) {d1 d2 : D} : ∀ (ds : List D) (P : Nat) (m : Mem), Good P m → P + 2 * ds.length < 2 ^ 48 → ∃ (qs : List Rat) (m' : Mem), qs.length = ds.length ∧ (∀ q ∈ qs, bt 4 q) ∧ Good (P + 2 * ds.length) m' ∧
    compF (fun d m => (bindP (.name 3) d (wipeE [some (.ref 0), some d1, some d2, none] [3])).bind fun env => (ev (G k) (.lit (.bl true)) env m).bind fun y => y.1.bool?.map fun k => (k, y.2)) (fun d m => (bindP (.name 3) d (wipeE [some (.ref 0), some d1, some d2, none] [3])).bind fun env => ev (G k) (.callP 31 (.cons (.callK 27 (.cons (.var 0) (.cons (.lit (.int 12)) .nil))) (.cons (.bin .add (.lit (.int 1)) (.callK 27 (.cons (.var 0) (.cons (.lit (.int 5)) .nil)))) .nil))) env m) ds m = some (qs.map qD, m') := by
  intro ds
  induction ds with
  | nil => exact fun P m hg _ => ⟨[], m, rfl, fun _ h => (nomatch h), hg, rfl⟩
  | cons d ds ih =>
    intro P m hg hP
    rw [List.length_cons] at hP
    obtain ⟨x, m1, x1, x2, x3⟩ := e_take (many := 12) hg (by omega) (by decide) (by decide) (L := k) (by omega) (env := [some (.ref 0), some d1, some d2, some d]) (i := 0) rfl
    obtain ⟨y, m2, y1, y2, y3⟩ := e_take (many := 5) x2 (by omega) (by decide) (by decide) (L := k) (by omega) (env := [some (.ref 0), some d1, some d2, some d]) (i := 0) rfl
    obtain ⟨qs, m', h1, h2, h3, h4⟩ := ih (P + 1 + 1) m2 y2 (by omega)
    have hm := v_made (L := k) (by omega) (x : Int) (1 + y) 4 (by omega) (by omega) (by decide)
    have hb : bt 4 (mkRat (x : Int) (1 + y)) := bt_mk (by omega) (by simp; omega) (by omega)
    refine ⟨mkRat (x : Int) (1 + y) :: qs, m', by rw [List.length_cons, List.length_cons, h1], fun q hq => ?_, h3.mono (by rw [List.length_cons]; omega), ?_⟩
    · rcases List.mem_cons.mp hq with rfl | hq
      · exact hb
      · exact h2 q hq
    · have he : ev (G k) (.callP 31 (.cons (.callK 27 (.cons (.var 0) (.cons (.lit (.int 12)) .nil))) (.cons (.bin .add (.lit (.int 1)) (.callK 27 (.cons (.var 0) (.cons (.lit (.int 5)) .nil)))) .nil))) [some (.ref 0), some d1, some d2, some d] m = some (qD (mkRat (x : Int) (1 + y)), m2) :=
        e_callP (e_two x3 (e_bin rfl y3 (addN (a := 1)))) hm
      exact compF_one rfl he h4
theorem e_rng {g : Calls} {env : MP.Env} {m m1 : Mem} {A : E} {n : Nat} (h : ev g A env m = some (.tup [.int n], m1)) (hn : n ≤ 1000000) : ev g (.rng1 A) env m = some (.tup (rngD 0 (n : Int)), m1) := by
  show (ev g A env m).bind _ = _
  rw [h]
  show (if small (n : Int) = true then some (D.tup (rngD 0 (n : Int)), m1) else none) = _
  rw [if_pos]
  unfold small
  simp
  omega
theorem g_numbers {kd : Kd} {g P : Nat} {m : Mem} {L : Nat} (hg : Good P m) (hP : P < 2 ^ 47) (hw : wd g kd ≤ 1000) (hL : ht kd + 3 ≤ L) : ∃ (qs : List Rat) (m' : Mem), qs.length = wd g kd ∧ (∀ q ∈ qs, bt 4 q) ∧ Good (P + 2 * wd g kd) m' ∧ G L 42 [.ref 0, kD kd, .int g] m = some (.tup (qs.map qD), m') := by
  obtain ⟨k, rfl⟩ : ∃ k, L = k + 1 := ⟨L - 1, by omega⟩
  have hwd := c_width g 40 (.inr rfl) kd k (by omega)
  have hrl := rng_len (wd g kd)
  obtain ⟨qs, m', h1, h2, h3, h4⟩ := num_loop (k := k) (by omega) (d1 := kD kd) (d2 := .int g) (rngD 0 (wd g kd : Nat)) P m hg (by rw [hrl]; omega)
  rw [hrl] at h1 h3
  refine ⟨qs, m', h1, h2, h3, g_of (t := t42) rfl rfl ?_⟩
  exact x_ret (e_blt (e_one (e_comp (e_rng (e_one (e_callP (e_two rfl rfl) hwd)) (by omega)) (sz_of (by rw [hrl]; omega)) h4)) rfl)
end K56
set_option Elab.async false
set_option linter.all false
set_option maxRecDepth 100000
set_option exponentiation.threshold 10000
set_option maxHeartbeats 1000000
namespace K56
open MP PySem

/-! ### put together -/
def sec : List Rat → Nat → Rat
  | [_, r], n => r * (n : Rat)
  | _, _ => 0
def h0 : List Rat → Rat
  | q :: _ => q
  | _ => 0
theorem sec_bits {g b : Nat} {row : List Rat} (h : Row g b row) {n : Nat} (hn : n < 2 ^ 14) : bt (b + 14) (sec row n) := by
  rcases h.two with ⟨q, rfl, _, hq⟩ | ⟨q, r, rfl, _, hq, hr⟩
  · exact bt_mono bt_zero (by omega)
  · exact bt_mul hr (bt_nat hn (by decide))
theorem v_second {g b : Nat} {row : List Rat} (h : Row g b row) (hb : b ≤ 1000) {da : D} (hd : da.noRef = true) {n : Nat} (hn : n < 2 ^ 14) {L : Nat} (hL : 3 ≤ L) :
    callP (G L) 46 [.tup [.tup (row.map qD), da], .int g, .int n] = some (qD (sec row n)) := by
  obtain ⟨k, rfl⟩ : ∃ k, L = k + 1 := ⟨L - 1, by omega⟩
  have nr : (D.tup [.tup (row.map qD), da]).noRef = true := by
    show ((D.tup (row.map qD)).noRef && (da.noRef && true)) = true
    rw [nr_qs, hd]
    rfl
  refine pc_ret (t := t46) (m' := []) rfl rfl (nr3 nr rfl rfl) rfl ?_
  rcases h.two with ⟨q, rfl, rfl, hq⟩ | ⟨q, r, rfl, rfl, hq, hr⟩
  · have he : ev (G k) (.tup (.cons (.lit (.int 0)) (.cons (.lit (.int 1)) .nil))) [some (.tup [.tup [qD q], da]), some (.int 1), some (.int n)] [] = some (qD 0, []) := rfl
    exact x_ret (e_ife (t := false) (e_cmp rfl rfl rfl) he)
  · have hm := v_mul (L := k) (by omega) hr (bt_nat hn (by decide)) (by omega)
    have he : ev (G k) (.callP 33 (.cons (.idx (.idx (.var 0) (.lit (.int 0))) (.lit (.int 1))) (.cons (.tup (.cons (.var 2) (.cons (.lit (.int 1)) .nil))) .nil))) [some (.tup [.tup [qD q, qD r], da]), some (.int 2), some (.int n)] [] = some (qD (r * (n : Rat)), []) :=
      e_callP (ds := [qD r, qD (n : Rat)]) (e_two (e_idx (e_idx rfl rfl ixT0) rfl ixT1) (e_tup (e_two rfl rfl) rfl)) hm
    exact x_ret (e_ife (t := true) (e_cmp rfl rfl rfl) he)
/-! counts -/
theorem ch_succ (n : Nat) : ch (n + 1) 2 = ch n 2 + n := by
  show (n + 1) * (n + 1 - 1) / 2 = n * (n - 1) / 2 + n
  cases n with
  | zero => rfl
  | succ n =>
    have e1 : (n + 1 + 1) * (n + 1 + 1 - 1) = (n + 1) * (n + 1 - 1) + 2 * (n + 1) := by
      show (n + 1 + 1) * (n + 1) = (n + 1) * n + 2 * (n + 1)
      grind
    rw [e1]
    omega
theorem ch_add (n : Nat) : ∀ m : Nat, ch (n + m) 2 = ch n 2 + ch m 2 + n * m
  | 0 => by
    show ch n 2 = ch n 2 + 0 + n * 0
    omega
  | m + 1 => by
    rw [← Nat.add_assoc, ch_succ, ch_add n m, ch_succ, Nat.mul_succ]
    omega
theorem dot_app {g b : Nat} {row : List Rat} (h : Row g b row) (n m : Nat) : dot row [n + m, ch (n + m) 2] = dot row [n, ch n 2] + dot row [m, ch m 2] + sec row (n * m) := by
  rcases h.two with ⟨q, rfl, _, hq⟩ | ⟨q, r, rfl, _, hq, hr⟩
  · show q * ((n + m : Nat) : Rat) + 0 = q * (n : Rat) + 0 + (q * (m : Rat) + 0) + 0
    rw [Rat.natCast_add]
    grind
  · show q * ((n + m : Nat) : Rat) + (r * ((ch (n + m) 2 : Nat) : Rat) + 0) = q * (n : Rat) + (r * ((ch n 2 : Nat) : Rat) + 0) + (q * (m : Rat) + (r * ((ch m 2 : Nat) : Rat) + 0)) + r * ((n * m : Nat) : Rat)
    rw [ch_add, Rat.natCast_add, Rat.natCast_add, Rat.natCast_add]
    grind
theorem dot_succ {g b : Nat} {row : List Rat} (h : Row g b row) (n : Nat) : dot row [n + 1, ch (n + 1) 2] = h0 row + dot (shR row) [n, ch n 2] := by
  rcases h.two with ⟨q, rfl, _, hq⟩ | ⟨q, r, rfl, _, hq, hr⟩
  · show q * ((n + 1 : Nat) : Rat) + 0 = q + (q * (n : Rat) + 0)
    rw [Rat.natCast_add]
    have : ((1 : Nat) : Rat) = 1 := rfl
    grind
  · show q * ((n + 1 : Nat) : Rat) + (r * ((ch (n + 1) 2 : Nat) : Rat) + 0) = q + ((q + r) * (n : Rat) + (r * ((ch n 2 : Nat) : Rat) + 0))
    rw [ch_succ, Rat.natCast_add, Rat.natCast_add]
    have : ((1 : Nat) : Rat) = 1 := rfl
    grind
theorem dot_tree {g b : Nat} {row : List Rat} (h : Row g b row) (n m x y e : Nat) : dot row [n + m, x + (y + m * e)] = dot row [n, x] + dot row [m, y] + sec row (e * m) := by
  rcases h.two with ⟨q, rfl, _, hq⟩ | ⟨q, r, rfl, _, hq, hr⟩
  · show q * ((n + m : Nat) : Rat) + 0 = q * (n : Rat) + 0 + (q * (m : Rat) + 0) + 0
    rw [Rat.natCast_add]
    grind
  · show q * ((n + m : Nat) : Rat) + (r * ((x + (y + m * e) : Nat) : Rat) + 0) = q * (n : Rat) + (r * (x : Rat) + 0) + (q * (m : Rat) + (r * (y : Rat) + 0)) + r * ((e * m : Nat) : Rat)
    rw [Rat.natCast_add, Rat.natCast_add, Rat.natCast_add, Nat.mul_comm e m]
    grind
theorem dot_node {g b : Nat} {row : List Rat} (h : Row g b row) (n m x y : Nat) : dot row [n + m + 1, x + n + (y + m)] = h0 row + dot (shR row) [n, x] + dot (shR row) [m, y] := by
  rcases h.two with ⟨q, rfl, _, hq⟩ | ⟨q, r, rfl, _, hq, hr⟩
  · show q * ((n + m + 1 : Nat) : Rat) + 0 = q + (q * (n : Rat) + 0) + (q * (m : Rat) + 0)
    rw [Rat.natCast_add, Rat.natCast_add]
    have : ((1 : Nat) : Rat) = 1 := rfl
    grind
  · show q * ((n + m + 1 : Nat) : Rat) + (r * ((x + n + (y + m) : Nat) : Rat) + 0) = q + ((q + r) * (n : Rat) + (r * (x : Rat) + 0)) + ((q + r) * (m : Rat) + (r * (y : Rat) + 0))
    rw [Rat.natCast_add, Rat.natCast_add, Rat.natCast_add, Rat.natCast_add, Rat.natCast_add]
    have : ((1 : Nat) : Rat) = 1 := rfl
    grind
/-! potentials put together -/
theorem ph_list {k : Kd} {row : List Rat} {a : An k} (xs : List (Va k)) : ph (.list k) (row, a) xs = dot row [xs.length, ch xs.length 2] + sR (xs.map (ph k a)) := rfl
theorem ph_tree {k : Kd} {row : List Rat} {a : An k} (t : Tr (Va k)) : ph (.tree k) (row, a) t = dot row [nn t, dsum t] + sR ((pre t 0).map fun p => ph k a p.1) := rfl
theorem ph_app {g b : Nat} {k : Kd} {row : List Rat} {a : An k} (h : Row g b row) (xs ys : List (Va k)) : ph (.list k) (row, a) (show List (Va k) from xs ++ ys) = ph (.list k) (row, a) xs + ph (.list k) (row, a) ys + sec row (xs.length * ys.length) := by
  have e : ph (.list k) (row, a) (show List (Va k) from xs ++ ys) = dot row [xs.length + ys.length, ch (xs.length + ys.length) 2] + (sR (xs.map (ph k a)) + sR (ys.map (ph k a))) := by
    rw [← sR_append, ← List.map_append, ← List.length_append]
    rfl
  rw [e, ph_list, ph_list, dot_app h]
  grind
theorem ph_cons {g b : Nat} {k : Kd} {row : List Rat} {a : An k} (h : Row g b row) (x : Va k) (xs : List (Va k)) : ph (.list k) (row, a) (show List (Va k) from x :: xs) = h0 row + (ph k a x + ph (.list k) (shR row, a) xs) := by
  have e : ph (.list k) (row, a) (show List (Va k) from x :: xs) = dot row [xs.length + 1, ch (xs.length + 1) 2] + (ph k a x + sR (xs.map (ph k a))) := rfl
  rw [e, ph_list, dot_succ h]
  grind
theorem ph_snoc {g b : Nat} {k : Kd} {row : List Rat} {a : An k} (h : Row g b row) (x : Va k) (xs : List (Va k)) : ph (.list k) (row, a) (show List (Va k) from xs ++ [x]) = h0 row + (ph k a x + ph (.list k) (shR row, a) xs) := by
  have e : ph (.list k) (row, a) (show List (Va k) from xs ++ [x]) = dot row [xs.length + 1, ch (xs.length + 1) 2] + (sR (xs.map (ph k a)) + (ph k a x + 0)) := by
    have e1 : (ph k a x + 0 : Rat) = sR ([x].map (ph k a)) := rfl
    rw [e1, ← sR_append, ← List.map_append]
    have e2 : xs.length + 1 = (xs ++ [x]).length := by simp
    rw [e2]
    rfl
  rw [e, ph_list, dot_succ h]
  grind
theorem pre_any {α β : Type} (F : α → β) : ∀ (t : Tr α) (d : Nat), (pre t d).map (fun p => F p.1) = (pre t 0).map (fun p => F p.1) := by
  have key : ∀ (t : Tr α) (d e : Nat), (pre t d).map (fun p => F p.1) = (pre t e).map (fun p => F p.1) := by
    intro t
    induction t with
    | nil => exact fun _ _ => rfl
    | node l x r ihl ihr =>
      intro d e
      show F x :: ((pre l (d + 1) ++ pre r (d + 1)).map fun p => F p.1) = F x :: ((pre l (e + 1) ++ pre r (e + 1)).map fun p => F p.1)
      rw [List.map_append, List.map_append, ihl (d + 1) (e + 1), ihr (d + 1) (e + 1)]
  exact fun t d => key t d 0
theorem gr_facts {α : Type} {t o : Tr α} {i e : Nat} (h : (lv t 0)[i]? = some e) : nn (gr o t i).1 = nn t + nn o ∧ dsum (gr o t i).1 = dsum t + (dsum o + nn o * e) ∧ ∀ F : α → Rat, sR ((pre (gr o t i).1 0).map fun p => F p.1) = sR ((pre t 0).map fun p => F p.1) + sR ((pre o 0).map fun p => F p.1) := by
  have p := gr_in o t i 0 e h
  refine ⟨?_, ?_, fun F => ?_⟩
  · rw [← pre_len (gr o t i).1 0, p.length_eq, List.length_append, pre_len, pre_len]
  · have q := (p.map fun z : α × Nat => z.2).sum_nat
    rw [List.map_append, List.sum_append] at q
    have s := pre_shift o 0 e
    rw [Nat.zero_add] at s
    unfold dsum
    rw [q, s]
  · rw [sR_perm (p.map fun z : α × Nat => F z.1), List.map_append, sR_append, pre_any F o e]
theorem ph_gr {g b : Nat} {k : Kd} {row : List Rat} {a : An k} (h : Row g b row) {t o : Tr (Va k)} {i e : Nat} (hi : (lv t 0)[i]? = some e) : ph (.tree k) (row, a) (show Tr (Va k) from (gr o t i).1) = ph (.tree k) (row, a) t + ph (.tree k) (row, a) o + sec row (e * nn o) := by
  obtain ⟨h1, h2, h3⟩ := gr_facts (o := o) hi
  have e : ph (.tree k) (row, a) (show Tr (Va k) from (gr o t i).1) = dot row [nn (gr o t i).1, dsum (gr o t i).1] + sR ((pre (gr o t i).1 0).map fun p => ph k a p.1) := rfl
  rw [e, h1, h2, h3, dot_tree h, ph_tree, ph_tree]
  grind
theorem ph_node {g b : Nat} {k : Kd} {row : List Rat} {a : An k} (h : Row g b row) (l r : Tr (Va k)) (x : Va k) : ph (.tree k) (row, a) (show Tr (Va k) from .node l x r) = h0 row + (ph k a x + ph (.tree k) (shR row, a) l) + ph (.tree k) (shR row, a) r := by
  have s1 := pre_shift l 0 1
  have s2 := pre_shift r 0 1
  have e1 : dsum (Tr.node l x r) = dsum l + nn l + (dsum r + nn r) := by
    show (0 :: ((pre l 1 ++ pre r 1).map fun p => p.2)).sum = _
    rw [List.sum_cons, List.map_append, List.sum_append]
    unfold dsum
    rw [Nat.zero_add, Nat.mul_one] at s1 s2
    rw [s1, s2]
    omega
  have e : ph (.tree k) (row, a) (show Tr (Va k) from .node l x r) = dot row [nn l + nn r + 1, dsum (Tr.node l x r)] + (ph k a x + sR ((pre l 1 ++ pre r 1).map fun p => ph k a p.1)) := rfl
  rw [e, e1, dot_node h, List.map_append, sR_append, pre_any (ph k a) l 1, pre_any (ph k a) r 1, ph_tree, ph_tree]
  grind
end K56
set_option Elab.async false
set_option linter.all false
set_option maxRecDepth 100000
set_option exponentiation.threshold 10000
set_option maxHeartbeats 2000000
namespace K56
open MP PySem

theorem ix_row {g b : Nat} {row : List Rat} (h : Row g b row) {m : Mem} : idxD m (.tup (row.map qD)) (.int 0) = some (qD (h0 row)) := by
  rcases h.two with ⟨q, rfl, _, hq⟩ | ⟨q, r, rfl, _, hq, hr⟩ <;> exact ixT0
theorem h0_bits {g b : Nat} {row : List Rat} (h : Row g b row) : bt b (h0 row) := by
  rcases h.two with ⟨q, rfl, _, hq⟩ | ⟨q, r, rfl, _, hq, hr⟩ <;> exact hq
theorem aw_list {g b : Nat} {k : Kd} {row : List Rat} {a : An k} (h1 : Row g b row) (h2 : Aw g b k a) : Aw g b (.list k) (row, a) := ⟨h1, h2⟩
theorem aw_tree {g b : Nat} {k : Kd} {row : List Rat} {a : An k} (h1 : Row g b row) (h2 : Aw g b k a) : Aw g b (.tree k) (row, a) := ⟨h1, h2⟩
theorem aw_mono {g b c : Nat} (hbc : b ≤ c) : ∀ (k : Kd) (a : An k), Aw g b k a → Aw g c k a
  | .num, _, _ => trivial
  | .list k, (row, a), ⟨h1, h2⟩ => ⟨⟨h1.len, h1.deg, fun q hq => bt_mono (h1.bits q hq) hbc⟩, aw_mono hbc k a h2⟩
  | .tree k, (row, a), ⟨h1, h2⟩ => ⟨⟨h1.len, h1.deg, fun q hq => bt_mono (h1.bits q hq) hbc⟩, aw_mono hbc k a h2⟩
  | .pair k l, (a, x), ⟨h1, h2⟩ => ⟨aw_mono hbc k a h1, aw_mono hbc l x h2⟩
theorem bits21 {g b : Nat} (hb : b ≤ 12) {k : Kd} {a : An k} {v : Va k} (h : Aw g b k a) (hw : wt k v ≤ 21) : bt 1260 (ph k a v) := bt_mono (ph_bits hb k a v h (by omega)) (by omega)
theorem putL_core {k : Kd} {g : Nat} {row : List Rat} {a : An k} {m m1 m2 m3 : Mem} {n : Nat} (hR : Row g 4 row) (hA : Aw g 4 k a) (ht2 : ht (.list k) ≤ 2) (hL : 57 ≤ n) (one oth : List (Va k)) (itm : Va k)
    (o1 : G n 35 [.ref 0, kD (.list k), .int (5 : Nat)] m = some (.tup (one.map (vD k)), m1)) (q1 : G n 35 [.ref 0, kD (.list k), .int (5 : Nat)] m1 = some (.tup (oth.map (vD k)), m2)) (i1 : G n 35 [.ref 0, kD k, .int (3 : Nat)] m2 = some (vD k itm, m3))
    (o3 : wt (.list k) one ≤ 21) (q3 : wt (.list k) oth ≤ 21) (i3 : wt k itm ≤ 21) (hv1 : ∀ x ∈ one, Hv k x) (hv2 : ∀ x ∈ oth, Hv k x) (i4 : Hv k itm) :
    G (n + 1) 47 [.ref 0, kD (.list k), .int g, .tup [.tup (row.map qD), aD k a]] m = some (.bl true, m3) := by
  have hAL := aw_list hR hA
  have hASh : Aw g 9 (.list k) (shR row, a) := aw_list (row_sh hR) (aw_mono (by omega) k a hA)
  have eht : ht (.list k) = ht k + 1 := rfl
  have p1 : callP (G n) 37 [kD (.list k), .tup [.tup (row.map qD), aD k a], .tup (one.map (vD k))] = some (qD (ph (.list k) (row, a) one)) := v_pot (by omega) (.list k) (row, a) one n hAL (by omega) hv1 (by omega)
  have p2 : callP (G n) 37 [kD (.list k), .tup [.tup (row.map qD), aD k a], .tup (oth.map (vD k))] = some (qD (ph (.list k) (row, a) oth)) := v_pot (by omega) (.list k) (row, a) oth n hAL (by omega) hv2 (by omega)
  have b1 := bits21 (by omega) (k := .list k) hAL (v := one) (by omega)
  have b2 := bits21 (by omega) (k := .list k) hAL (v := oth) (by omega)
  have hboth := v_add (L := n) (by omega) b1 b2 (by omega)
  have hsh := c_sh1 hR (by omega) (fine_a k a).nr (L := n) (by omega)
  have p3 : callP (G n) 37 [kD (.list k), .tup [.tup ((shR row).map qD), aD k a], .tup (one.map (vD k))] = some (qD (ph (.list k) (shR row, a) one)) := v_pot (by omega) (.list k) (shR row, a) one n hASh (by omega) hv1 (by omega)
  have b3 := bits21 (by omega) (k := .list k) hASh (v := one) (by omega)
  have p4 := v_pot (by omega) k a itm n hA (by omega) i4 (by omega)
  have b4 := bits21 (by omega) hA (v := itm) (by omega)
  have hin := v_add (L := n) (by omega) b4 b3 (by omega)
  have hmore := v_add (L := n) (by omega) (h0_bits hR) (bt_add b4 b3) (by omega)
  have l1 := list_len (k := k) (xs := one)
  have l2 := list_len (k := k) (xs := oth)
  have hmul : one.length * oth.length ≤ 21 * 21 := Nat.mul_le_mul (by omega) (by omega)
  have hsec := v_second hR (by omega) (fine_a k a).nr (n := one.length * oth.length) (by omega) (L := n) (by omega)
  have hdue := v_add (L := n) (by omega) (bt_add b1 b2) (sec_bits hR (n := one.length * oth.length) (by omega)) (by omega)
  have w1 := wt_list k one
  have w2 := wt_list k oth
  have W1 := c_worthy (by omega) (k := .list k) (a := (row, a)) (v := one ++ oth) (L := n) hAL (by have e := wt_list k (one ++ oth); rw [List.map_append, List.sum_append] at e; omega) (fun x hx => (List.mem_append.mp hx).elim (hv1 x) (hv2 x)) (ph_app hR one oth) (by omega)
  have W2 := c_worthy (by omega) (k := .list k) (a := (row, a)) (v := itm :: one) (L := n) hAL (by have e := wt_list k (itm :: one); rw [List.map_cons, List.sum_cons] at e; omega) (fun x hx => by
    rcases List.mem_cons.mp hx with rfl | hx
    · exact i4
    · exact hv1 x hx) (ph_cons hR itm one) (by omega)
  have W3 := c_worthy (by omega) (k := .list k) (a := (row, a)) (v := one ++ [itm]) (L := n) hAL (by have e := wt_list k (one ++ [itm]); rw [List.map_append, List.sum_append, List.map_cons, List.sum_cons, List.map_nil, List.sum_nil] at e; omega) (fun x hx => by
    rcases List.mem_append.mp hx with hx | hx
    · exact hv1 x hx
    · have e : x = itm := by simpa using hx
      subst e
      exact i4) (ph_snoc hR itm one) (by omega)
  have add1 : binD .add (.tup (one.map (vD k))) (.tup (oth.map (vD k))) = some (.tup ((one ++ oth).map (vD k))) := by
    rw [List.map_append]
    exact if_pos (sz_of (by rw [List.length_map, List.length_map]; omega))
  have add2 : binD .add (.tup [vD k itm]) (.tup (one.map (vD k))) = some (.tup ((itm :: one).map (vD k))) := if_pos (sz_of (by rw [List.length_map]; show 1 + _ ≤ _; omega))
  have add3 : binD .add (.tup (one.map (vD k))) (.tup [vD k itm]) = some (.tup ((one ++ [itm]).map (vD k))) := by
    rw [List.map_append]
    exact if_pos (sz_of (by rw [List.length_map]; show _ + 1 ≤ _; omega))
  have hl1 : ∀ m, bltD m .len [.tup (one.map (vD k))] = some (.int one.length) := fun m => by
    show some (D.int ((one.map (vD k)).length : Nat)) = _
    rw [List.length_map]
  have hl2 : ∀ m, bltD m .len [.tup (oth.map (vD k))] = some (.int oth.length) := fun m => by
    show some (D.int ((oth.map (vD k)).length : Nat)) = _
    rw [List.length_map]
  have hmn := mulN (a := one.length) (b := oth.length) (by omega) (by omega)
  refine g_of (t := t47) rfl rfl ?_
  refine (x_par (e_callK (e_three rfl rfl rfl) o1) (e_callK (e_three rfl rfl rfl) q1)).trans ?_
  refine (x_asg (e_callP (e_two (e_callP (e_three rfl rfl rfl) p1) (e_callP (e_three rfl rfl rfl) p2)) hboth) rfl).trans ?_
  refine (x_par (e_callK (e_three rfl (e_idx rfl rfl ixT1) rfl) i1) (e_callP (e_three rfl (e_callP (e_one rfl) hsh) rfl) p3)).trans ?_
  refine (x_asg (e_callP (e_two (e_idx (e_idx rfl rfl ixT0) rfl (ix_row hR)) (e_callP (e_two (e_callP (e_three (e_idx rfl rfl ixT1) (e_idx rfl rfl ixT1) rfl) p4) rfl) hin)) hmore) rfl).trans ?_
  refine (x_ifT (k_list (.list k) rfl)).trans (thn_rt ?_)
  refine (x_asg (e_bin (e_blt (e_one rfl) (hl1 _)) (e_blt (e_one rfl) (hl2 _)) hmn) rfl).trans ?_
  refine (x_no (e_not (c := true) (e_callP (e_cons rfl (e_three rfl (e_bin rfl rfl add1) (e_callP (e_two rfl (e_callP (e_three rfl rfl rfl) hsec)) hdue))) W1))).trans ?_
  exact x_ret (e_and (c := true) (t := true) (e_callP (e_cons rfl (e_three rfl (e_bin (e_tup (e_one rfl) rfl) rfl add2) rfl)) W2) fun _ => e_callP (e_cons rfl (e_three rfl (e_bin rfl (e_tup (e_one rfl) rfl) add3) rfl)) W3)
/-- lists -/
theorem g_putL {k : Kd} {g P : Nat} {row : List Rat} {a : An k} {m : Mem} {L : Nat} (hR : Row g 4 row) (hA : Aw g 4 k a) (hf : Kf (.list k)) (hg : Good P m) (hP : P < 2 ^ 40) (hL : 58 ≤ L) :
    ∃ m', Good (P + 400) m' ∧ G L 47 [.ref 0, kD (.list k), .int g, aD (.list k) (row, a)] m = some (.bl true, m') := by
  obtain ⟨n, rfl⟩ : ∃ n, L = n + 1 := ⟨L - 1, by omega⟩
  have ht2 := hf.ht
  have hcv := hf.cv
  have hwb := hf.wb
  have ecv : cv (.list k) = 1 + 5 * cv k := rfl
  have ewb : wb (.list k) 5 = 1 + 5 * wb k 3 := rfl
  have eht : ht (.list k) = ht k + 1 := rfl
  obtain ⟨one, m1, o1, o2, o3, o4⟩ := g_value (.list k) 5 P m n (by omega) hg (by omega) (by omega)
  obtain ⟨oth, m2, q1, q2, q3, q4⟩ := g_value (.list k) 5 _ m1 n (by omega) o2 (by omega) (by omega)
  obtain ⟨itm, m3, i1, i2, i3, i4⟩ := g_value k 3 _ m2 n (by omega) q2 (by omega) (by omega)
  exact ⟨m3, i2.mono (by omega), putL_core hR hA ht2 (by omega) one oth itm o1 q1 i1 (by omega) (by omega) (by omega) o4 q4 i4⟩
end K56
set_option Elab.async false
set_option linter.all false
set_option maxRecDepth 100000
set_option exponentiation.threshold 10000
set_option maxHeartbeats 2000000
namespace K56
open MP PySem

theorem th_nn {α : Type} : ∀ t : Tr α, th t ≤ nn t
  | .nil => Nat.le_refl _
  | .node l x r => by
    have h1 := th_nn l
    have h2 := th_nn r
    unfold th nn
    omega
theorem lv_le {α : Type} : ∀ (t : Tr α) (d e : Nat), e ∈ lv t d → e ≤ d + th t
  | .nil, d, e, h => by
    have h : e = d := by simpa [lv] using h
    omega
  | .node l x r, d, e, h => by
    unfold th
    rcases List.mem_append.mp h with h | h
    · have := lv_le l (d + 1) e h
      omega
    · have := lv_le r (d + 1) e h
      omega
theorem gr_wt {k : Kd} {t o : Tr (Va k)} {i e : Nat} (h : (lv t 0)[i]? = some e) : wt (.tree k) (gr o t i).1 + 1 = wt (.tree k) t + wt (.tree k) o := by
  have p := ((gr_in o t i 0 e h).map fun z : Va k × Nat => wt k z.1).sum_nat
  rw [List.map_append, List.sum_append, wsum, wsum, wsum] at p
  rw [wt_inl, wt_inl, wt_inl, p]
  omega
theorem gr_hv {k : Kd} {t o : Tr (Va k)} {i e : Nat} (h : (lv t 0)[i]? = some e) (h1 : ∀ x ∈ inl t, Hv k x) (h2 : ∀ x ∈ inl o, Hv k x) : ∀ x ∈ inl (gr o t i).1, Hv k x := fun x hx => by
  obtain ⟨d, hd⟩ := inl_pre _ 0 x hx
  have back : ∀ (t : Tr (Va k)) (d c : Nat), (x, c) ∈ pre t d → x ∈ inl t := by
    intro t
    induction t with
    | nil => exact fun _ _ h => nomatch h
    | node l y r ihl ihr =>
      intro d c hm
      show x ∈ inl l ++ y :: inl r
      rcases List.mem_cons.mp (show (x, c) ∈ (y, d) :: (pre l (d + 1) ++ pre r (d + 1)) from hm) with e | hm
      · have e1 : x = y := (Prod.mk.inj e).1
        rw [e1]
        exact List.mem_append_right _ (List.mem_cons_self ..)
      · rcases List.mem_append.mp hm with hm | hm
        · exact List.mem_append_left _ (ihl _ _ hm)
        · exact List.mem_append_right _ (List.mem_cons_of_mem _ (ihr _ _ hm))
  rcases List.mem_append.mp ((gr_in o t i 0 e h).mem_iff.mp hd) with hm | hm
  · exact h1 x (back _ _ _ hm)
  · exact h2 x (back _ _ _ hm)
theorem inl_node {α : Type} {P : α → Prop} {l r : Tr α} {x : α} (h1 : ∀ y ∈ inl l, P y) (hx : P x) (h2 : ∀ y ∈ inl r, P y) : ∀ y ∈ inl (Tr.node l x r), P y := fun y hy => by
  rcases List.mem_append.mp (show y ∈ inl l ++ x :: inl r from hy) with hy | hy
  · exact h1 y hy
  · rcases List.mem_cons.mp hy with rfl | hy
    · exact hx
    · exact h2 y hy
theorem wt_node {k : Kd} {l r : Tr (Va k)} {x : Va k} : wt (.tree k) (Tr.node l x r) + 1 = wt (.tree k) l + wt k x + wt (.tree k) r := by
  have e : wt (.tree k) (Tr.node l x r) = 1 + ((inl l ++ x :: inl r).map (wt k)).sum := wt_inl k (.node l x r)
  rw [List.map_append, List.sum_append, List.map_cons, List.sum_cons] at e
  have e1 := wt_inl k l
  have e2 := wt_inl k r
  omega
theorem putT_core {k : Kd} {g P : Nat} {row : List Rat} {a : An k} {m m1 m2 m3 : Mem} {n : Nat} (hR : Row g 4 row) (hA : Aw g 4 k a) (ht2 : ht (.tree k) ≤ 2) (hL : 57 ≤ n) (hP : P < 2 ^ 45) (hg : Good P m3) (one oth : Tr (Va k)) (itm : Va k)
    (o1 : G n 35 [.ref 0, kD (.tree k), .int (5 : Nat)] m = some (tD (vD k) one, m1)) (q1 : G n 35 [.ref 0, kD (.tree k), .int (5 : Nat)] m1 = some (tD (vD k) oth, m2)) (i1 : G n 35 [.ref 0, kD k, .int (3 : Nat)] m2 = some (vD k itm, m3))
    (o3 : wt (.tree k) one ≤ 21) (q3 : wt (.tree k) oth ≤ 21) (i3 : wt k itm ≤ 21) (hv1 : ∀ x ∈ inl one, Hv k x) (hv2 : ∀ x ∈ inl oth, Hv k x) (i4 : Hv k itm) :
    ∃ m4, Good (P + 1) m4 ∧ G (n + 1) 47 [.ref 0, kD (.tree k), .int g, .tup [.tup (row.map qD), aD k a]] m = some (.bl true, m4) := by
  have hAL := aw_tree hR hA
  have hASh : Aw g 9 (.tree k) (shR row, a) := aw_tree (row_sh hR) (aw_mono (by omega) k a hA)
  have eht : ht (.tree k) = ht k + 1 := rfl
  have l1 := tree_len (k := k) (t := one)
  have l2 := tree_len (k := k) (t := oth)
  have t1 := th_nn one
  have t2 := th_nn oth
  have o4 : Hv (.tree k) one := ⟨by omega, hv1⟩
  have q4 : Hv (.tree k) oth := ⟨by omega, hv2⟩
  have p1 : callP (G n) 37 [kD (.tree k), .tup [.tup (row.map qD), aD k a], tD (vD k) one] = some (qD (ph (.tree k) (row, a) one)) := v_pot (by omega) (.tree k) (row, a) one n hAL (by omega) o4 (by omega)
  have p2 : callP (G n) 37 [kD (.tree k), .tup [.tup (row.map qD), aD k a], tD (vD k) oth] = some (qD (ph (.tree k) (row, a) oth)) := v_pot (by omega) (.tree k) (row, a) oth n hAL (by omega) q4 (by omega)
  have b1 := bits21 (by omega) (k := .tree k) hAL (v := one) (by omega)
  have b2 := bits21 (by omega) (k := .tree k) hAL (v := oth) (by omega)
  have hboth := v_add (L := n) (by omega) b1 b2 (by omega)
  have hsh := c_sh1 hR (by omega) (fine_a k a).nr (L := n) (by omega)
  have p3 : callP (G n) 37 [kD (.tree k), .tup [.tup ((shR row).map qD), aD k a], tD (vD k) one] = some (qD (ph (.tree k) (shR row, a) one)) := v_pot (by omega) (.tree k) (shR row, a) one n hASh (by omega) o4 (by omega)
  have p5 : callP (G n) 37 [kD (.tree k), .tup [.tup ((shR row).map qD), aD k a], tD (vD k) oth] = some (qD (ph (.tree k) (shR row, a) oth)) := v_pot (by omega) (.tree k) (shR row, a) oth n hASh (by omega) q4 (by omega)
  have b3 := bits21 (by omega) (k := .tree k) hASh (v := one) (by omega)
  have b5 := bits21 (by omega) (k := .tree k) hASh (v := oth) (by omega)
  have p4 := v_pot (by omega) k a itm n hA (by omega) i4 (by omega)
  have b4 := bits21 (by omega) hA (v := itm) (by omega)
  have hin := v_add (L := n) (by omega) b4 b3 (by omega)
  have hmore := v_add (L := n) (by omega) (h0_bits hR) (bt_add b4 b3) (by omega)
  have hmore2 := v_add (L := n) (by omega) (bt_add (h0_bits hR) (bt_add b4 b3)) b5 (by omega)
  -- the leaf
  have hlv := v_leaves (fine_v k) one 0 n (by omega) (by omega)
  have hll := lv_len one 0
  obtain ⟨at_, m4, a1, a2, a3⟩ := L_take (many := ((lv one 0).map fun (n : Nat) => D.int (n : Int)).length) hg (by omega) (by rw [List.length_map]; omega) (by rw [List.length_map]; omega) (L := n) (by omega)
  rw [List.length_map] at a1
  obtain ⟨e, he⟩ : ∃ e, (lv one 0)[at_]? = some e := ⟨_, List.getElem?_eq_getElem a1⟩
  have hee := lv_le one 0 e (List.mem_of_getElem? he)
  have hgr := v_graft (fine_v k) oth one (at_ : Nat) n (by omega)
  have hno := v_nodes (fine_v k) oth 0 n (by omega) (by omega)
  have hmul : e * nn oth ≤ 20 * 20 := Nat.mul_le_mul (by omega) (by omega)
  have hsec := v_second hR (by omega) (fine_a k a).nr (n := e * nn oth) (by omega) (L := n) (by omega)
  have hdue := v_add (L := n) (by omega) (bt_add b1 b2) (sec_bits hR (n := e * nn oth) (by omega)) (by omega)
  have hil := ino_len oth 0
  have gw := gr_wt (o := oth) he
  have gth := th_gr oth one (at_ : Nat)
  have W1 : callP (G n) 45 [kD (.tree k), .tup [.tup (row.map qD), aD k a], tD (vD k) (gr oth one (at_ : Nat)).1, qD (ph (.tree k) (row, a) one + ph (.tree k) (row, a) oth + sec row (e * nn oth))] = some (.bl true) :=
    c_worthy (by omega) (k := .tree k) (a := (row, a)) (v := (gr oth one (at_ : Nat)).1) (L := n) hAL (by omega) ⟨by omega, gr_hv he hv1 hv2⟩ (ph_gr hR he) (by omega)
  have nw1 := wt_node (k := k) (l := one) (r := oth) (x := itm)
  have nw2 := wt_node (k := k) (l := oth) (r := one) (x := itm)
  have W2 : callP (G n) 45 [kD (.tree k), .tup [.tup (row.map qD), aD k a], .tup [tD (vD k) one, vD k itm, tD (vD k) oth], qD (h0 row + (ph k a itm + ph (.tree k) (shR row, a) one) + ph (.tree k) (shR row, a) oth)] = some (.bl true) :=
    c_worthy (by omega) (k := .tree k) (a := (row, a)) (v := Tr.node one itm oth) (L := n) hAL (by omega) ⟨by show max (th one) (th oth) + 1 ≤ 45; omega, inl_node hv1 i4 hv2⟩ (ph_node hR one oth itm) (by omega)
  have W3 : callP (G n) 45 [kD (.tree k), .tup [.tup (row.map qD), aD k a], .tup [tD (vD k) oth, vD k itm, tD (vD k) one], qD (h0 row + (ph k a itm + ph (.tree k) (shR row, a) one) + ph (.tree k) (shR row, a) oth)] = some (.bl true) :=
    c_worthy (by omega) (k := .tree k) (a := (row, a)) (v := Tr.node oth itm one) (L := n) hAL (by omega) ⟨by show max (th oth) (th one) + 1 ≤ 45; omega, inl_node hv2 i4 hv1⟩ ((ph_node hR oth one itm).trans (by grind)) (by omega)
  have hix : ∀ m : Mem, idxD m (.lst ((lv one 0).map fun (n : Nat) => D.int (n : Int))) (.int (at_ : Nat)) = some (.int (e : Nat)) := fun m => by
    rw [ixL_nat, List.getElem?_map, he]
    rfl
  have hlen : ∀ m, bltD m .len [.lst ((ino oth 0).map (foundD (vD k)))] = some (.int (nn oth)) := fun m => by
    show some (D.int (((ino oth 0).map (foundD (vD k))).length : Nat)) = _
    rw [List.length_map, hil]
  have hmn := mulN (a := e) (b := nn oth) (by omega) (by omega)
  refine ⟨m4, a2, g_of (t := t47) rfl rfl ?_⟩
  refine (x_par (e_callK (e_three rfl rfl rfl) o1) (e_callK (e_three rfl rfl rfl) q1)).trans ?_
  refine (x_asg (e_callP (e_two (e_callP (e_three rfl rfl rfl) p1) (e_callP (e_three rfl rfl rfl) p2)) hboth) rfl).trans ?_
  refine (x_par (e_callK (e_three rfl (e_idx rfl rfl ixT1) rfl) i1) (e_callP (e_three rfl (e_callP (e_one rfl) hsh) rfl) p3)).trans ?_
  refine (x_asg (e_callP (e_two (e_idx (e_idx rfl rfl ixT0) rfl (ix_row hR)) (e_callP (e_two (e_callP (e_three (e_idx rfl rfl ixT1) (e_idx rfl rfl ixT1) rfl) p4) rfl) hin)) hmore) rfl).trans ?_
  refine (x_no (k_list (.tree k) rfl)).trans ?_
  refine (x_asg (e_callP (e_two rfl rfl) hlv) rfl).trans ?_
  refine (x_asg (e_callK (e_two rfl (e_blt (e_one rfl) rfl)) a3) rfl).trans ?_
  refine (x_asg (e_idx (e_callP (e_three rfl rfl rfl) hgr) rfl ixT0) rfl).trans ?_
  refine (x_asg (e_bin (e_idx rfl rfl (hix _)) (e_blt (e_one (e_callP (e_two rfl rfl) hno)) (hlen _)) hmn) rfl).trans ?_
  refine (x_no (e_not (c := true) (e_callP (e_cons rfl (e_three rfl rfl (e_callP (e_two rfl (e_callP (e_three rfl rfl rfl) hsec)) hdue))) W1))).trans ?_
  refine (x_asg (e_callP (e_two rfl (e_callP (e_three rfl (e_callP (e_one rfl) hsh) rfl) p5)) hmore2) rfl).trans ?_
  exact x_ret (e_and (c := true) (t := true) (e_callP (e_cons rfl (e_three rfl (e_tup (e_three rfl rfl rfl) rfl) rfl)) W2) fun _ => e_callP (e_cons rfl (e_three rfl (e_tup (e_three rfl rfl rfl) rfl) rfl)) W3)
/-- trees -/
theorem g_putT {k : Kd} {g P : Nat} {row : List Rat} {a : An k} {m : Mem} {L : Nat} (hR : Row g 4 row) (hA : Aw g 4 k a) (hf : Kf (.tree k)) (hg : Good P m) (hP : P < 2 ^ 40) (hL : 58 ≤ L) :
    ∃ m', Good (P + 400) m' ∧ G L 47 [.ref 0, kD (.tree k), .int g, aD (.tree k) (row, a)] m = some (.bl true, m') := by
  obtain ⟨n, rfl⟩ : ∃ n, L = n + 1 := ⟨L - 1, by omega⟩
  have ht2 := hf.ht
  have hcv := hf.cv
  have hwb := hf.wb
  have ecv : cv (.tree k) = 1 + 5 * (cv k + 1) := rfl
  have ewb : wb (.tree k) 5 = 1 + 5 * wb k 3 := rfl
  have eht : ht (.tree k) = ht k + 1 := rfl
  obtain ⟨one, m1, o1, o2, o3, o4⟩ := g_value (.tree k) 5 P m n (by omega) hg (by omega) (by omega)
  obtain ⟨oth, m2, q1, q2, q3, q4⟩ := g_value (.tree k) 5 _ m1 n (by omega) o2 (by omega) (by omega)
  obtain ⟨itm, m3, i1, i2, i3, i4⟩ := g_value k 3 _ m2 n (by omega) q2 (by omega) (by omega)
  obtain ⟨m4, z1, z2⟩ := putT_core hR hA ht2 (by omega) (by omega) i2 one oth itm o1 q1 i1 (by omega) (by omega) (by omega) o4.2 q4.2 i4
  exact ⟨m4, z1.mono (by omega), z2⟩
end K56
set_option Elab.async false
set_option linter.all false
set_option maxRecDepth 100000
set_option exponentiation.threshold 10000
set_option maxHeartbeats 2000000
namespace K56
open MP PySem

/-! ### the law -/
theorem kx_pair {a b : Kd} (h : Kx (.pair a b)) : wb a 4 ≤ 20 ∧ wb b 4 ≤ 20 ∧ cv a ≤ 50 ∧ cv b ≤ 50 ∧ ht a ≤ 1 ∧ ht b ≤ 1 ∧ wb a 4 + wb b 4 ≤ 20 := by
  rcases h with (h | h) | ⟨b', _, h | h⟩ | ⟨x, y, hx, hy, h | h⟩
  · cases h
  · cases h
  · cases h
  · cases h
  · obtain ⟨rfl, rfl⟩ := Kd.pair.inj h
    rcases hx with rfl | rfl <;> rcases hy with (rfl | rfl) | rfl <;> decide
  · obtain ⟨rfl, rfl⟩ := Kd.pair.inj h
    rcases hx with rfl | rfl <;> rcases hy with (rfl | rfl) | rfl <;> decide
theorem sizes_qs : ∀ qs : List Rat, sizes (qs.map qD) = 3 * qs.length
  | [] => rfl
  | q :: qs => by
    show size (qD q) + sizes (qs.map qD) = _
    rw [sizes_qs qs, List.length_cons]
    have e : size (qD q) = 3 := by simp [size, sizes, qD]
    omega
theorem plains_qs : ∀ qs : List Rat, plains (qs.map qD) = true
  | [] => rfl
  | q :: qs => by
    show (true && plains (qs.map qD)) = true
    rw [plains_qs qs]
    rfl
theorem plain_a : ∀ (k : Kd) (a : An k), plain (aD k a) = true
  | .num, _ => rfl
  | .list k, (row, a) => by
    show (plains (row.map qD) && (plain (aD k a) && true)) = true
    rw [plains_qs, plain_a k a]
    rfl
  | .tree k, (row, a) => by
    show (plains (row.map qD) && (plain (aD k a) && true)) = true
    rw [plains_qs, plain_a k a]
    rfl
  | .pair k l, (a, c) => by
    show (plain (aD k a) && (plain (aD l c) && true)) = true
    rw [plain_a k a, plain_a l c]
    rfl
theorem size_a {g b : Nat} (hg : g ≤ 2) : ∀ (k : Kd) (a : An k), Aw g b k a → size (aD k a) ≤ 4 * wd g k + 10 ^ (ht k + 1)
  | .num, _, _ => by
    show size (D.tup []) ≤ 4 * 0 + 10 ^ (0 + 1)
    simp [size, sizes]
  | .list k, (row, a), ⟨h1, h2⟩ => by
    have ih := size_a hg k a h2
    have hp : 1 ≤ 10 ^ (ht k + 1) := Nat.one_le_pow _ _ (by decide)
    have e2 : 10 ^ (ht k + 1 + 1) = 10 ^ (ht k + 1) * 10 := Nat.pow_succ _ _
    show 1 + (1 + sizes (row.map qD) + (size (aD k a) + 0)) ≤ 4 * (g + wd g k) + 10 ^ (ht k + 1 + 1)
    rw [sizes_qs, h1.len, e2]
    omega
  | .tree k, (row, a), ⟨h1, h2⟩ => by
    have ih := size_a hg k a h2
    have hp : 1 ≤ 10 ^ (ht k + 1) := Nat.one_le_pow _ _ (by decide)
    have e2 : 10 ^ (ht k + 1 + 1) = 10 ^ (ht k + 1) * 10 := Nat.pow_succ _ _
    show 1 + (1 + sizes (row.map qD) + (size (aD k a) + 0)) ≤ 4 * (g + wd g k) + 10 ^ (ht k + 1 + 1)
    rw [sizes_qs, h1.len, e2]
    omega
  | .pair k l, (a, c), ⟨h1, h2⟩ => by
    have i1 := size_a hg k a h1
    have i2 := size_a hg l c h2
    have hp : 1 ≤ 10 ^ (max (ht k) (ht l) + 1) := Nat.one_le_pow _ _ (by decide)
    have m1 : 10 ^ (ht k + 1) ≤ 10 ^ (max (ht k) (ht l) + 1) := Nat.pow_le_pow_right (by decide) (by omega)
    have m2 : 10 ^ (ht l + 1) ≤ 10 ^ (max (ht k) (ht l) + 1) := Nat.pow_le_pow_right (by decide) (by omega)
    have e2 : 10 ^ (max (ht k) (ht l) + 1 + 1) = 10 ^ (max (ht k) (ht l) + 1) * 10 := Nat.pow_succ _ _
    show 1 + (size (aD k a) + (size (aD l c) + 0)) ≤ 4 * (wd g k + wd g l) + 10 ^ (max (ht k) (ht l) + 1 + 1)
    rw [e2]
    omega
theorem size_ok {g b : Nat} {k : Kd} {a : An k} (hg : g = 1 ∨ g = 2) (hf : Kf k) (ha : Aw g b k a) : size (aD k a) ≤ 2000 := by
  have h := size_a (by omega) k a ha
  have h1 := hf.wd g hg
  have h2 : 10 ^ (ht k + 1) ≤ 10 ^ 3 := Nat.pow_le_pow_right (by decide) (by have := hf.ht; omega)
  omega
/-- the tail for a list or a tree -/
abbrev lT : S := (.asg (.name 15) (.idx (.var 6) (.lit (.int 0))) (.asg (.name 14) (.ife (.cmp .eq (.var 3) (.lit (.int 2))) (.tup (.cons (.callP 32 (.cons (.idx (.var 15) (.lit (.int 0))) (.cons (.idx (.var 15) (.lit (.int 1))) .nil))) (.cons (.idx (.var 15) (.lit (.int 1))) .nil))) (.var 15)) (.ife (.not (.callP 29 (.cons (.lst (.cons (.callP 12 (.cons (.var 15) .nil)) (.cons (.callP 13 (.cons (.var 6) .nil)) .nil))) (.cons (.lst (.cons (.var 14) (.cons (.tup (.cons (.var 14) (.cons (.idx (.var 6) (.lit (.int 1))) .nil))) .nil))) .nil)))) (.ret (.lit (.bl false))) .nil (.ife (.not (.callK 47 (.cons (.var 1) (.cons (.var 4) (.cons (.var 3) (.cons (.var 6) .nil)))))) (.ret (.lit (.bl false))) .nil .nil))))
theorem l_tail {g : Nat} {kd : Kd} {row : List Rat} {k : Kd} {a : An k} {sc e2 d5 d7 d8 d9 d10 d11 d12 d13 e14 e15 : Option D} {m m' : Mem} (hR : Row g 4 row) (hA : Aw g 4 k a) (hs : size (aD k a) ≤ 2000)
    (hput : G 60 47 [.ref 0, kD kd, .int g, .tup [.tup (row.map qD), aD k a]] m = some (.bl true, m')) :
    ∃ e14' e15', MP.exec (G 60) FU lT [sc, some (.ref 0), e2, some (.int g), some (kD kd), d5, some (.tup [.tup (row.map qD), aD k a]), d7, d8, d9, d10, d11, d12, d13, e14, e15] m =
      some (.nx [sc, some (.ref 0), e2, some (.int g), some (kD kd), d5, some (.tup [.tup (row.map qD), aD k a]), d7, d8, d9, d10, d11, d12, d13, e14', e15'], m') := by
  have hsh := c_sh hR (by omega) (L := 60) (by decide)
  have hsh1 := c_sh1 hR (by omega) (fine_a k a).nr (L := 60) (by decide)
  have hl : (shR row).length ≤ 2 := by
    have h := (row_sh hR).len
    have := hR.deg
    omega
  have hdue : ev (G 60) (.ife (.cmp .eq (.var 3) (.lit (.int 2))) (.tup (.cons (.callP 32 (.cons (.idx (.var 15) (.lit (.int 0))) (.cons (.idx (.var 15) (.lit (.int 1))) .nil))) (.cons (.idx (.var 15) (.lit (.int 1))) .nil))) (.var 15)) [sc, some (.ref 0), e2, some (.int g), some (kD kd), d5, some (.tup [.tup (row.map qD), aD k a]), d7, d8, d9, d10, d11, d12, d13, e14, some (.tup (row.map qD))] m = some (.tup ((shR row).map qD), m) := by
    rcases hR.two with ⟨q, rfl, rfl, hq⟩ | ⟨q, r, rfl, rfl, hq, hr⟩
    · exact e_ife (t := false) (e_cmp rfl rfl rfl) rfl
    · have hp := v_add (L := 60) (by decide) hq hr (by omega)
      have he : ev (G 60) (.tup (.cons (.callP 32 (.cons (.idx (.var 15) (.lit (.int 0))) (.cons (.idx (.var 15) (.lit (.int 1))) .nil))) (.cons (.idx (.var 15) (.lit (.int 1))) .nil))) [sc, some (.ref 0), e2, some (.int (2 : Nat)), some (kD kd), d5, some (.tup [.tup ([q, r].map qD), aD k a]), d7, d8, d9, d10, d11, d12, d13, e14, some (.tup ([q, r].map qD))] m = some (.tup [qD (q + r), qD r], m) :=
        e_tup (e_two (e_callP (e_two (e_idx rfl rfl ixT0) (e_idx rfl rfl ixT1)) hp) (e_idx rfl rfl ixT1)) rfl
      exact e_ife (t := true) (e_cmp rfl rfl rfl) he
  generalize hS : D.tup ((shR row).map qD) = S at *
  have pS : plain S = true := by rw [← hS]; exact plains_qs _
  have nS : S.noRef = true := by rw [← hS]; exact nr_qs _
  have zS : size S ≤ 7 := by
    rw [← hS]
    show 1 + sizes ((shR row).map qD) ≤ 7
    rw [sizes_qs]
    omega
  have hal := c_alike (L := 60) (by decide) (d := .lst [S, .tup [S, aD k a]]) (by show (plain S && ((plain S && (plain (aD k a) && true)) && true)) = true; rw [pS, plain_a]; rfl) (by show (S.noRef && ((S.noRef && ((aD k a).noRef && true)) && true)) = true; rw [nS, (fine_a k a).nr]; rfl)
    (by show 1 + (size S + (1 + (size S + (size (aD k a) + 0)) + 0)) ≤ 80000; omega)
  refine ⟨some S, some (.tup (row.map qD)), ?_⟩
  refine (x_asg (e_idx rfl rfl ixT0) rfl).trans ?_
  refine (x_asg hdue rfl).trans ?_
  refine (x_no (e_not (c := true) (e_callP (e_two (e_lst (e_two (e_callP (e_one rfl) hsh) (e_callP (e_one rfl) hsh1)) rfl) (e_lst (e_two rfl (e_tup (e_two rfl (e_idx rfl rfl ixT1)) rfl)) rfl)) hal))).trans ?_
  exact (x_no (e_not (c := true) (e_callK (e_cons rfl (e_three rfl rfl rfl)) hput))).trans rfl
end K56
set_option Elab.async false
set_option linter.all false
set_option maxRecDepth 100000
set_option exponentiation.threshold 10000
set_option maxHeartbeats 4000000
namespace K56
open MP PySem

/-- a turn -/
abbrev uB : S := (.par 3 4 (.bin .add (.lit (.int 1)) (.callK 27 (.cons (.var 1) (.cons (.lit (.int 2)) .nil)))) (.callK 41 (.cons (.var 1) (.cons (.lit (.int 3)) .nil))) (.asg (.name 5) (.callK 42 (.cons (.var 1) (.cons (.var 4) (.cons (.var 3) .nil)))) (.asg (.name 6) (.callP 16 (.cons (.var 4) (.cons (.var 3) (.cons (.var 5) .nil)))) (.ife (.not (.callP 29 (.cons (.lst (.cons (.callP 14 (.cons (.var 4) (.cons (.var 6) .nil))) (.cons (.callP 15 (.cons (.var 4) (.cons (.var 3) .nil))) .nil))) (.cons (.lst (.cons (.var 5) (.cons (.blt .len (.cons (.var 5) .nil)) .nil))) .nil)))) (.ret (.lit (.bl false))) .nil (.par 7 8 (.callP 16 (.cons (.var 4) (.cons (.var 3) (.cons (.callK 42 (.cons (.var 1) (.cons (.var 4) (.cons (.var 3) .nil)))) .nil)))) (.callP 31 (.cons (.callK 27 (.cons (.var 1) (.cons (.lit (.int 9)) .nil))) (.cons (.bin .add (.lit (.int 1)) (.callK 27 (.cons (.var 1) (.cons (.lit (.int 4)) .nil)))) .nil))) (.asg (.name 9) (.callK 35 (.cons (.var 1) (.cons (.var 4) (.cons (.lit (.int 5)) .nil)))) (.par 10 11 (.callP 37 (.cons (.var 4) (.cons (.var 6) (.cons (.var 9) .nil)))) (.callP 37 (.cons (.var 4) (.cons (.var 7) (.cons (.var 9) .nil)))) (.ife (.not (.callP 45 (.cons (.var 4) (.cons (.callP 19 (.cons (.var 4) (.cons (.var 6) (.cons (.var 7) .nil)))) (.cons (.var 9) (.cons (.callP 32 (.cons (.var 10) (.cons (.var 11) .nil))) .nil)))))) (.ret (.lit (.bl false))) .nil (.ife (.not (.callP 45 (.cons (.var 4) (.cons (.callP 21 (.cons (.var 4) (.cons (.var 6) (.cons (.var 8) .nil)))) (.cons (.var 9) (.cons (.callP 33 (.cons (.var 10) (.cons (.var 8) .nil))) .nil)))))) (.ret (.lit (.bl false))) .nil (.ife (.or (.not (.callP 45 (.cons (.var 4) (.cons (.callP 18 (.cons (.var 4) (.cons (.var 3) .nil))) (.cons (.var 9) (.cons (.tup (.cons (.lit (.int 0)) (.cons (.lit (.int 1)) .nil))) .nil)))))) (.not (.callP 29 (.cons (.callP 20 (.cons (.var 4) (.cons (.var 6) (.cons (.var 7) .nil)))) (.cons (.callP 39 (.cons (.var 6) (.cons (.var 7) .nil))) .nil))))) (.ret (.lit (.bl false))) .nil (.ife (.cmp .eq (.idx (.var 4) (.lit (.int 0))) (.lit (.str "pair"))) (.par 12 13 (.callK 35 (.cons (.var 1) (.cons (.idx (.var 4) (.lit (.int 1))) (.cons (.lit (.int 4)) .nil)))) (.callK 35 (.cons (.var 1) (.cons (.idx (.var 4) (.lit (.int 2))) (.cons (.lit (.int 4)) .nil)))) (.asg (.name 14) (.callP 32 (.cons (.callP 37 (.cons (.idx (.var 4) (.lit (.int 1))) (.cons (.idx (.var 6) (.lit (.int 0))) (.cons (.var 12) .nil)))) (.cons (.callP 37 (.cons (.idx (.var 4) (.lit (.int 2))) (.cons (.idx (.var 6) (.lit (.int 1))) (.cons (.var 13) .nil)))) .nil))) (.ife (.not (.callP 45 (.cons (.var 4) (.cons (.var 6) (.cons (.tup (.cons (.var 12) (.cons (.var 13) .nil))) (.cons (.var 14) .nil)))))) (.ret (.lit (.bl false))) .nil .cont))) .nil (.asg (.name 15) (.idx (.var 6) (.lit (.int 0))) (.asg (.name 14) (.ife (.cmp .eq (.var 3) (.lit (.int 2))) (.tup (.cons (.callP 32 (.cons (.idx (.var 15) (.lit (.int 0))) (.cons (.idx (.var 15) (.lit (.int 1))) .nil))) (.cons (.idx (.var 15) (.lit (.int 1))) .nil))) (.var 15)) (.ife (.not (.callP 29 (.cons (.lst (.cons (.callP 12 (.cons (.var 15) .nil)) (.cons (.callP 13 (.cons (.var 6) .nil)) .nil))) (.cons (.lst (.cons (.var 14) (.cons (.tup (.cons (.var 14) (.cons (.idx (.var 6) (.lit (.int 1))) .nil))) .nil))) .nil)))) (.ret (.lit (.bl false))) .nil (.ife (.not (.callK 47 (.cons (.var 1) (.cons (.var 4) (.cons (.var 3) (.cons (.var 6) .nil)))))) (.ret (.lit (.bl false))) .nil .nil)))))))))))))))
/-- the names of the law's frame: the script, the bag, the rest any -/
def En (sc : D) (e : MP.Env) : Prop := ∃ y2 y3 y4 y5 y6 y7 y8 y9 y10 y11 y12 y13 y14 y15, e = [some sc, some (.ref 0), y2, y3, y4, y5, y6, y7, y8, y9, y10, y11, y12, y13, y14, y15]
theorem l_turn {sc d : D} {e : MP.Env} {P : Nat} {m : Mem} (he : En sc e) (hg : Good P m) (hP : P < 2 ^ 30) :
    ∃ (z : Fl) (e' : MP.Env) (m' : Mem), (bindP (.name 2) d e).bind (fun env => MP.exec (G 60) FU uB env m) = some (z, m') ∧ (z = .nx e' ∨ z = .ct e') ∧ En sc e' ∧ Good (P + 1000) m' := by
  obtain ⟨y2, y3, y4, y5, y6, y7, y8, y9, y10, y11, y12, y13, y14, y15, rfl⟩ := he
  obtain ⟨dg, m1, d1, d2, d3⟩ := e_take (many := 2) hg (by omega) (by decide) (by decide) (L := 60) (by decide) (env := [some sc, some (.ref 0), some d, y3, y4, y5, y6, y7, y8, y9, y10, y11, y12, y13, y14, y15]) (i := 1) rfl
  have hgd : 1 + dg = 1 ∨ 1 + dg = 2 := by omega
  obtain ⟨kd, m2, k1, k2, k3⟩ := g_kind3 d2 (by omega) (L := 60) (by decide)
  have hf := kf_of k1
  generalize hG : 1 + dg = g at hgd
  have hw := hf.wd g hgd
  have hht := hf.ht
  have hcv := hf.cv
  have hwb := hf.wb
  obtain ⟨qs, m3, n1, n2, n3, n4⟩ := g_numbers (kd := kd) (g := g) k2 (by omega) (by omega) (L := 60) (by omega)
  have hA := aw_bld (b := 4) hgd kd qs n1 n2
  have hbd := c_built g kd qs 60 (by omega)
  have hnb := nums_bld kd qs n1
  have hnums := c_nums kd (bld g kd qs) 60 hA (by omega) (by omega)
  rw [hnb] at hnums
  have hwd := c_width g 15 (.inl rfl) kd 60 (by omega)
  obtain ⟨qs2, m4, p1, p2, p3, p4⟩ := g_numbers (kd := kd) (g := g) n3 (by omega) (by omega) (L := 60) (by omega)
  have hA2 := aw_bld (b := 4) hgd kd qs2 p1 p2
  have hbd2 := c_built g kd qs2 60 (by omega)
  have hal1 := c_alike (L := 60) (by decide) (d := .lst [.tup (qs.map qD), .int (wd g kd : Nat)]) (by show (plains (qs.map qD) && (true && true)) = true; rw [plains_qs]; rfl) (by show ((D.tup (qs.map qD)).noRef && (true && true)) = true; rw [nr_qs]; rfl)
    (by show 1 + (1 + sizes (qs.map qD) + (1 + 0)) ≤ 80000; rw [sizes_qs, n1]; omega)
  generalize hAA : bld g kd qs = A at *
  generalize hAB : bld g kd qs2 = A2 at *
  have hlen : ∀ m, bltD m .len [.tup (qs.map qD)] = some (.int (wd g kd : Nat)) := fun m => by
    show some (D.int ((qs.map qD).length : Nat)) = _
    rw [List.length_map, n1]
  -- the factor
  obtain ⟨fx, m5, f1, f2, f3⟩ := L_take (many := 9) p3 (by omega) (by decide) (by decide) (L := 60) (by decide)
  obtain ⟨fy, m6, r1, r2, r3⟩ := L_take (many := 4) f2 (by omega) (by decide) (by decide) (L := 60) (by decide)
  have hfm := v_made (L := 60) (by decide) (fx : Int) (1 + fy) 4 (by omega) (by omega) (by decide)
  have hfb : bt 4 (mkRat (fx : Int) (1 + fy)) := bt_mk (by omega) (by simp; omega) (by omega)
  generalize hF : mkRat (fx : Int) (1 + fy) = F at *
  obtain ⟨v, m7, v1, v2, v3, v4⟩ := g_value kd 5 _ m6 60 (by omega) r2 (by omega) (by omega)
  have q1 := v_pot (by omega) kd A v 60 hA (by omega) v4 (by omega)
  have q2 := v_pot (by omega) kd A2 v 60 hA2 (by omega) v4 (by omega)
  have b1 := bits21 (by omega) hA (v := v) (by omega)
  have b2 := bits21 (by omega) hA2 (v := v) (by omega)
  have hsum := v_add (L := 60) (by decide) b1 b2 (by omega)
  have hprod := v_mul (L := 60) (by decide) b1 hfb (by omega)
  have hsh := c_shared hgd (L := 60) hA hA2 hf.hr (by omega) (by omega) (by omega) (by omega)
  have hsc := c_scaled hgd (L := 60) hA hfb hf.hr (by omega) (by omega) (by omega) (by omega)
  have hno := c_none (g := g) (k := kd) (L := 60) hw.1 (by omega) (by omega)
  have W1 := c_worthy (by omega) (L := 60) (aw_add kd A A2 hA hA2) (v := v) (by omega) v4 (ph_add kd A A2 v hA hA2) (by omega)
  have W2 := c_worthy (by omega) (L := 60) (aw_mul hfb kd A hA) (v := v) (by omega) v4 (ph_mul kd A v hA) (by omega)
  have W3 := c_worthy (by omega) (L := 60) (aw_zero hgd kd) (v := v) (by omega) v4 (ph_zero hgd kd v) (by omega)
  have hcov := c_covers (L := 60) hA hA2 (by omega) (by omega) (by omega) (by omega)
  have hcov2 := v_covers (L := 60) hA hA2 (by omega) (by omega) (by omega) (by omega)
  have hal2 := c_alike (L := 60) (by decide) (d := .bl (cov (nums kd A) (nums kd A2))) rfl rfl (by show 1 ≤ 80000; decide)
  have hsz := size_ok hgd hf hA
  -- up to the kinds
  have front : ∀ {z : Fl × Mem}, MP.exec (G 60) FU (.ife (.cmp .eq (.idx (.var 4) (.lit (.int 0))) (.lit (.str "pair"))) (.par 12 13 (.callK 35 (.cons (.var 1) (.cons (.idx (.var 4) (.lit (.int 1))) (.cons (.lit (.int 4)) .nil)))) (.callK 35 (.cons (.var 1) (.cons (.idx (.var 4) (.lit (.int 2))) (.cons (.lit (.int 4)) .nil)))) (.asg (.name 14) (.callP 32 (.cons (.callP 37 (.cons (.idx (.var 4) (.lit (.int 1))) (.cons (.idx (.var 6) (.lit (.int 0))) (.cons (.var 12) .nil)))) (.cons (.callP 37 (.cons (.idx (.var 4) (.lit (.int 2))) (.cons (.idx (.var 6) (.lit (.int 1))) (.cons (.var 13) .nil)))) .nil))) (.ife (.not (.callP 45 (.cons (.var 4) (.cons (.var 6) (.cons (.tup (.cons (.var 12) (.cons (.var 13) .nil))) (.cons (.var 14) .nil)))))) (.ret (.lit (.bl false))) .nil .cont))) .nil lT) [some sc, some (.ref 0), some d, some (.int g), some (kD kd), some (.tup (qs.map qD)), some (aD kd A), some (aD kd A2), some (qD F), some (vD kd v), some (qD (ph kd A v)), some (qD (ph kd A2 v)), y12, y13, y14, y15] m7 = some z →
      MP.exec (G 60) FU uB [some sc, some (.ref 0), some d, y3, y4, y5, y6, y7, y8, y9, y10, y11, y12, y13, y14, y15] m = some z := by
    intro z hz
    have hdeg : ev (G 60) (.bin .add (.lit (.int 1)) (.callK 27 (.cons (.var 1) (.cons (.lit (.int 2)) .nil)))) [some sc, some (.ref 0), some d, y3, y4, y5, y6, y7, y8, y9, y10, y11, y12, y13, y14, y15] m = some (.int (g : Nat), m1) := by
      rw [← hG]
      exact e_bin rfl d3 (addN (a := 1))
    refine (x_par hdeg (e_callK (e_two rfl rfl) k3)).trans ?_
    refine (x_asg (e_callK (e_three rfl rfl rfl) n4) rfl).trans ?_
    refine (x_asg (e_callP (e_three rfl rfl rfl) hbd) rfl).trans ?_
    refine (x_no (e_not (c := true) (e_callP (e_two (e_lst (e_two (e_callP (e_two rfl rfl) hnums) (e_callP (e_two rfl rfl) hwd)) rfl) (e_lst (e_two rfl (e_blt (e_one rfl) (hlen _))) rfl)) hal1))).trans ?_
    refine (x_par (e_callP (e_three rfl rfl (e_callK (e_three rfl rfl rfl) p4)) hbd2) (e_callP (e_two (e_callK (e_two rfl rfl) f3) (e_bin rfl (e_callK (e_two rfl rfl) r3) (addN (a := 1)))) hfm)).trans ?_
    refine (x_asg (e_callK (e_three rfl rfl rfl) v1) rfl).trans ?_
    refine (x_par (e_callP (e_three rfl rfl rfl) q1) (e_callP (e_three rfl rfl rfl) q2)).trans ?_
    refine (x_no (e_not (c := true) (e_callP (e_cons rfl (e_three (e_callP (e_three rfl rfl rfl) hsh) rfl (e_callP (e_two rfl rfl) hsum))) W1))).trans ?_
    refine (x_no (e_not (c := true) (e_callP (e_cons rfl (e_three (e_callP (e_three rfl rfl rfl) hsc) rfl (e_callP (e_two rfl rfl) hprod))) W2))).trans ?_
    refine (x_no (e_or (c := false) (t := false) (e_not (c := true) (e_callP (e_cons rfl (e_three (e_callP (e_two rfl rfl) hno) rfl (e_tup (e_two rfl rfl) rfl))) W3)) fun _ => e_not (c := true) (e_callP (e_two (e_callP (e_three rfl rfl rfl) hcov) (e_callP (e_two rfl rfl) hcov2)) hal2))).trans ?_
    exact hz
  cases kd with
  | num => exact absurd hf.hr (by decide)
  | list k =>
    obtain ⟨row, a⟩ := A
    obtain ⟨hR, hA'⟩ := hA
    obtain ⟨m8, u1, u2⟩ := g_putL (L := 60) hR hA' hf v2 (by omega) (by decide)
    have hsz' : size (aD k a) ≤ 2000 := by
      have e : size (aD (.list k) (row, a)) = 1 + (size (D.tup (row.map qD)) + (size (aD k a) + 0)) := rfl
      omega
    obtain ⟨e14, e15, w⟩ := l_tail (sc := some sc) (e2 := some d) (d5 := some (.tup (qs.map qD))) (d7 := some (aD (.list k) A2)) (d8 := some (qD F)) (d9 := some (vD (.list k) v)) (d10 := some (qD (ph (.list k) (row, a) v))) (d11 := some (qD (ph (.list k) A2 v))) (d12 := y12) (d13 := y13) (e14 := y14) (e15 := y15) (kd := .list k) hR hA' hsz' u2
    exact ⟨_, _, m8, front ((x_no (k_pair (.list k) rfl)).trans w), .inl rfl, ⟨_, _, _, _, _, _, _, _, _, _, _, _, _, _, rfl⟩, u1.mono (by omega)⟩
  | tree k =>
    obtain ⟨row, a⟩ := A
    obtain ⟨hR, hA'⟩ := hA
    obtain ⟨m8, u1, u2⟩ := g_putT (L := 60) hR hA' hf v2 (by omega) (by decide)
    have hsz' : size (aD k a) ≤ 2000 := by
      have e : size (aD (.tree k) (row, a)) = 1 + (size (D.tup (row.map qD)) + (size (aD k a) + 0)) := rfl
      omega
    obtain ⟨e14, e15, w⟩ := l_tail (sc := some sc) (e2 := some d) (d5 := some (.tup (qs.map qD))) (d7 := some (aD (.tree k) A2)) (d8 := some (qD F)) (d9 := some (vD (.tree k) v)) (d10 := some (qD (ph (.tree k) (row, a) v))) (d11 := some (qD (ph (.tree k) A2 v))) (d12 := y12) (d13 := y13) (e14 := y14) (e15 := y15) (kd := .tree k) hR hA' hsz' u2
    exact ⟨_, _, m8, front ((x_no (k_pair (.tree k) rfl)).trans w), .inl rfl, ⟨_, _, _, _, _, _, _, _, _, _, _, _, _, _, rfl⟩, u1.mono (by omega)⟩
  | pair ka kb =>
    obtain ⟨a, c⟩ := A
    obtain ⟨hAa, hAc⟩ := hA
    obtain ⟨x1, x2, x3, x4, x5, x6, x7⟩ := kx_pair k1
    obtain ⟨x, m8, u1, u2, u3, u4⟩ := g_value ka 4 _ m7 60 (by omega) v2 (by omega) (by omega)
    obtain ⟨y, m9, w1, w2, w3, w4⟩ := g_value kb 4 _ m8 60 (by omega) u2 (by omega) (by omega)
    have s1 := v_pot (by omega) ka a x 60 hAa (by omega) u4 (by omega)
    have s2 := v_pot (by omega) kb c y 60 hAc (by omega) w4 (by omega)
    have s3 := v_add (L := 60) (by decide) (bits21 (by omega) hAa (v := x) (by omega)) (bits21 (by omega) hAc (v := y) (by omega)) (by omega)
    have ew := wt_pair ka kb x y
    have W := c_worthy (by omega) (L := 60) (k := .pair ka kb) (a := (a, c)) (v := (x, y)) (r := ph ka a x + ph kb c y) (g := g) (b := 4) ⟨hAa, hAc⟩ (by omega) ⟨u4, w4⟩ rfl (by omega)
    refine ⟨.ct [some sc, some (.ref 0), some d, some (.int g), some (kD (.pair ka kb)), some (.tup (qs.map qD)), some (aD (.pair ka kb) (a, c)), some (aD (.pair ka kb) A2), some (qD F), some (vD (.pair ka kb) v), some (qD (ph (.pair ka kb) (a, c) v)), some (qD (ph (.pair ka kb) A2 v)), some (vD ka x), some (vD kb y), some (qD (ph ka a x + ph kb c y)), y15], _, m9, front ((x_ifT (k_pair (.pair ka kb) rfl)).trans (thn_ct ?_)), .inr rfl, ⟨_, _, _, _, _, _, _, _, _, _, _, _, _, _, rfl⟩, w2.mono (by omega)⟩
    refine (x_par (e_callK (e_three rfl (e_idx rfl rfl ixT1) rfl) u1) (e_callK (e_three rfl (e_idx rfl rfl ixT2) rfl) w1)).trans ?_
    refine (x_asg (e_callP (e_two (e_callP (e_three (e_idx rfl rfl ixT1) (e_idx rfl rfl ixT0) rfl) s1) (e_callP (e_three (e_idx rfl rfl ixT2) (e_idx rfl rfl ixT1) rfl) s2)) s3) rfl).trans ?_
    exact (x_no (e_not (c := true) (e_callP (e_cons rfl (e_three rfl (e_tup (e_two rfl rfl) rfl) rfl)) W))).trans rfl
theorem l_loop {sc : D} : ∀ (ds : List D) (e : MP.Env) (P : Nat) (m : Mem), En sc e → Good P m → P + 1000 * ds.length < 2 ^ 30 → ∃ (e' : MP.Env) (m' : Mem), forF (fun d env m => (bindP (.name 2) d env).bind fun env => MP.exec (G 60) FU uB env m) ds e m = some (.nx e', m') := by
  intro ds
  induction ds with
  | nil => exact fun e P m _ _ _ => ⟨e, m, rfl⟩
  | cons d ds ih =>
    intro e P m he hg hP
    rw [List.length_cons] at hP
    obtain ⟨z, e1, m1, h1, h2, h3, h4⟩ := l_turn (d := d) he hg (by omega)
    obtain ⟨e', m', h5⟩ := ih e1 (P + 1000) m1 h3 h4 (by omega)
    rcases h2 with rfl | rfl
    · exact ⟨e', m', (for_nx h1).trans h5⟩
    · exact ⟨e', m', (for_ct h1).trans h5⟩
theorem g_bag (ns : List Int) (h : ns.length ≤ 63) (k : Nat) : ∃ m, Good 0 m ∧ G (k + 1) 26 [.fz (ns.map D.int)] [] = some (.ref 0, m) := by
  have hs : ev (G k) (.slc (.var 0) false true (.lit .non) (.lit (.int 63))) [some (.fz (ns.map D.int)), none] [] = some (.lst (ns.map D.int), []) := by
    show some (D.lst (cutD (ns.map D.int) none (some ((63 : Nat) : Int))), ([] : Mem)) = _
    rw [cut_take, List.take_of_length_le (by rw [List.length_map]; exact h)]
  have hm := e_map (G := G k) (A := .blt .abs (.cons (.var 1) .nil)) (I := .seq (.slc (.var 0) false true (.lit .non) (.lit (.int 63)))) (i := 1) (own := [1]) (env := [some (.fz (ns.map D.int)), none]) (m := []) (m1 := []) (c := D.int) (f := fun i => D.int (i.natAbs : Nat)) (xs := ns) (e_seq hs rfl) (by omega) fun i _ => e_blt (e_one rfl) (congrArg (fun i => some (D.int i)) (abs_int i))
  refine ⟨[.lst (bagD 0 1234567891 0 (ns.map Int.natAbs))], ⟨0, 1234567891, 0, ns.map Int.natAbs, rfl, by decide, Nat.le_refl _, by rw [List.length_map]; omega⟩, g_of (t := t26) rfl rfl ?_⟩
  have e : (ns.map Int.natAbs).map (fun (n : Nat) => D.int (n : Int)) = ns.map fun i => D.int (i.natAbs : Nat) := by rw [List.map_map]; rfl
  unfold bagD
  rw [e]
  exact x_ret (e_lstH (m1 := []) (e_cons rfl (e_three rfl rfl hm)) rfl)
theorem law_true (ns : List Int) (h : ns.length ≤ 63) : ∃ m', run tab FU 61 48 [.fz (ns.map D.int)] [] = some (.bl true, m') := by
  obtain ⟨m, h1, h2⟩ := g_bag ns h 59
  obtain ⟨e', m', h3⟩ := l_loop (sc := .fz (ns.map D.int)) (rngD 0 6) [some (.fz (ns.map D.int)), some (.ref 0), none, none, none, none, none, none, none, none, none, none, none, none, none, none] 0 m ⟨_, _, _, _, _, _, _, _, _, _, _, _, _, _, rfl⟩ h1 (by show 0 + 1000 * 6 < 2 ^ 30; decide)
  refine ⟨m', g_of (k := 60) (t := t48) rfl rfl ?_⟩
  refine (x_asg (e_callK (e_one rfl) h2) rfl).trans ?_
  refine (x_for (ds := rngD 0 6) (m1 := m) rfl).trans ((thn_nx h3).trans ?_)
  exact x_ret rfl
end K56
set_option maxHeartbeats 0
namespace K56
open PySem PySem.Spec PyProof.Rows L2 MP
/-! ### the head -/
def dd0 : He.DefD := ⟨("common", none), "common", "common", defArgs s0, defBody s0, defScope s0, [], []⟩
def dd1 : He.DefD := ⟨("made", none), "made", "made", defArgs s1, defBody s1, defScope s1, [], []⟩
def dd2 : He.DefD := ⟨("plus", none), "plus", "plus", defArgs s2, defBody s2, defScope s2, [], []⟩
def dd3 : He.DefD := ⟨("times", none), "times", "times", defArgs s3, defBody s3, defScope s3, [], []⟩
def dd4 : He.DefD := ⟨("is_less", none), "is_less", "is_less", defArgs s4, defBody s4, defScope s4, [], []⟩
def dd5 : He.DefD := ⟨("summed", none), "summed", "summed", defArgs s5, defBody s5, defScope s5, [], []⟩
def dd6 : He.DefD := ⟨("whole", none), "whole", "whole", defArgs s6, defBody s6, defScope s6, [], []⟩
def dd7 : He.DefD := ⟨("choose", none), "choose", "choose", defArgs s7, defBody s7, defScope s7, [], []⟩
def dd8 : He.DefD := ⟨("list_potential", none), "list_potential", "list_potential", defArgs s8, defBody s8, defScope s8, [], []⟩
def dd9 : He.DefD := ⟨("tree_potential", none), "tree_potential", "tree_potential", defArgs s9, defBody s9, defScope s9, [], []⟩
def dd10 : He.DefD := ⟨("nodes_of", none), "nodes_of", "nodes_of", defArgs s10, defBody s10, defScope s10, [], []⟩
def dd11 : He.DefD := ⟨("potential", none), "potential", "potential", defArgs s11, defBody s11, defScope s11, [], []⟩
def dd12 : He.DefD := ⟨("shifted", none), "shifted", "shifted", defArgs s12, defBody s12, defScope s12, [], []⟩
def dd13 : He.DefD := ⟨("shifted_one", none), "shifted_one", "shifted_one", defArgs s13, defBody s13, defScope s13, [], []⟩
def dd14 : He.DefD := ⟨("numbers_in", none), "numbers_in", "numbers_in", defArgs s14, defBody s14, defScope s14, [], []⟩
def dd15 : He.DefD := ⟨("width_of", none), "width_of", "width_of", defArgs s15, defBody s15, defScope s15, [], []⟩
def dd16 : He.DefD := ⟨("built", none), "built", "built", defArgs s16, defBody s16, defScope s16, [], []⟩
def dd17 : He.DefD := ⟨("degree_in", none), "degree_in", "degree_in", defArgs s17, defBody s17, defScope s17, [], []⟩
def dd18 : He.DefD := ⟨("none_of", none), "none_of", "none_of", defArgs s18, defBody s18, defScope s18, [], []⟩
def dd19 : He.DefD := ⟨("shared", none), "shared", "shared", defArgs s19, defBody s19, defScope s19, [], []⟩
def dd20 : He.DefD := ⟨("covers", none), "covers", "covers", defArgs s20, defBody s20, defScope s20, [], []⟩
def dd21 : He.DefD := ⟨("scaled", none), "scaled", "scaled", defArgs s21, defBody s21, defScope s21, [], []⟩
def dd22 : He.DefD := ⟨("worth_of", none), "worth_of", "worth_of", defArgs s22, defBody s22, defScope s22, [], []⟩
def dd23 : He.DefD := ⟨("sizes_of", none), "sizes_of", "sizes_of", defArgs s23, defBody s23, defScope s23, [], []⟩
def dd24 : He.DefD := ⟨("items_in", none), "items_in", "items_in", defArgs s24, defBody s24, defScope s24, [], []⟩
def dd25 : He.DefD := ⟨("potential_by", none), "potential_by", "potential_by", defArgs s25, defBody s25, defScope s25, [], []⟩
def dd26 : He.DefD := ⟨("_law_bag", none), "_law_bag", "_law_bag", defArgs s26, defBody s26, defScope s26, [], []⟩
def dd27 : He.DefD := ⟨("_law_take", none), "_law_take", "_law_take", defArgs s27, defBody s27, defScope s27, [], []⟩
def dd28 : He.DefD := ⟨("_law_some", none), "_law_some", "_law_some", defArgs s28, defBody s28, defScope s28, [], []⟩
def dd29 : He.DefD := ⟨("_law_alike", none), "_law_alike", "_law_alike", defArgs s29, defBody s29, defScope s29, [], []⟩
def dd30 : He.DefD := ⟨("_law_is_int", none), "_law_is_int", "_law_is_int", defArgs s30, defBody s30, defScope s30, [], []⟩
def dd31 : He.DefD := ⟨("_law_made", none), "_law_made", "_law_made", defArgs s31, defBody s31, defScope s31, [], []⟩
def dd32 : He.DefD := ⟨("_law_add", none), "_law_add", "_law_add", defArgs s32, defBody s32, defScope s32, [], []⟩
def dd33 : He.DefD := ⟨("_law_mul", none), "_law_mul", "_law_mul", defArgs s33, defBody s33, defScope s33, [], []⟩
def dd34 : He.DefD := ⟨("_law_less", none), "_law_less", "_law_less", defArgs s34, defBody s34, defScope s34, [], []⟩
def dd35 : He.DefD := ⟨("_law_value", none), "_law_value", "_law_value", defArgs s35, defBody s35, defScope s35, [], []⟩
def dd36 : He.DefD := ⟨("_law_nodes", none), "_law_nodes", "_law_nodes", defArgs s36, defBody s36, defScope s36, [], []⟩
def dd37 : He.DefD := ⟨("_law_potential", none), "_law_potential", "_law_potential", defArgs s37, defBody s37, defScope s37, [], []⟩
def dd38 : He.DefD := ⟨("_law_flat", none), "_law_flat", "_law_flat", defArgs s38, defBody s38, defScope s38, [], []⟩
def dd39 : He.DefD := ⟨("_law_covers", none), "_law_covers", "_law_covers", defArgs s39, defBody s39, defScope s39, [], []⟩
def dd40 : He.DefD := ⟨("_law_widths", none), "_law_widths", "_law_widths", defArgs s40, defBody s40, defScope s40, [], []⟩
def dd41 : He.DefD := ⟨("_law_drawn_kind", none), "_law_drawn_kind", "_law_drawn_kind", defArgs s41, defBody s41, defScope s41, [], []⟩
def dd42 : He.DefD := ⟨("_law_numbers_of", none), "_law_numbers_of", "_law_numbers_of", defArgs s42, defBody s42, defScope s42, [], []⟩
def dd43 : He.DefD := ⟨("_law_leaves", none), "_law_leaves", "_law_leaves", defArgs s43, defBody s43, defScope s43, [], []⟩
def dd44 : He.DefD := ⟨("_law_grafted", none), "_law_grafted", "_law_grafted", defArgs s44, defBody s44, defScope s44, [], []⟩
def dd45 : He.DefD := ⟨("_law_is_worth", none), "_law_is_worth", "_law_is_worth", defArgs s45, defBody s45, defScope s45, [], []⟩
def dd46 : He.DefD := ⟨("_law_second", none), "_law_second", "_law_second", defArgs s46, defBody s46, defScope s46, [], []⟩
def dd47 : He.DefD := ⟨("_law_put_together_good", none), "_law_put_together_good", "_law_put_together_good", defArgs s47, defBody s47, defScope s47, [], []⟩
def dd48 : He.DefD := ⟨("law", none), "law", "law", defArgs s48, defBody s48, defScope s48, [], []⟩
def fn0 : List He.DefD := [dd0, dd1, dd2, dd3, dd4, dd5, dd6, dd7, dd8, dd9, dd10, dd11, dd12, dd13, dd14, dd15, dd16, dd17, dd18, dd19, dd20, dd21, dd22, dd23, dd24, dd25, dd26, dd27, dd28, dd29]
def fn1 : List He.DefD := [dd30, dd31, dd32, dd33, dd34, dd35, dd36, dd37, dd38, dd39, dd40, dd41, dd42, dd43, dd44, dd45, dd46, dd47, dd48]
def fn : List He.DefD := fn0 ++ fn1
def fa0 : List He.Fa := [.glo "common", .glo "made", .glo "plus", .glo "times", .glo "is_less", .glo "summed", .glo "whole", .glo "choose", .glo "list_potential", .glo "tree_potential", .glo "nodes_of", .glo "potential", .glo "shifted", .glo "shifted_one", .glo "numbers_in", .glo "width_of", .glo "built", .glo "degree_in", .glo "none_of", .glo "shared", .glo "covers", .glo "scaled", .glo "worth_of", .glo "sizes_of", .glo "items_in", .glo "potential_by", .glo "_law_bag", .glo "_law_take", .glo "_law_some", .glo "_law_alike"]
def fa1 : List He.Fa := [.glo "_law_is_int", .glo "_law_made", .glo "_law_add", .glo "_law_mul", .glo "_law_less", .glo "_law_value", .glo "_law_nodes", .glo "_law_potential", .glo "_law_flat", .glo "_law_covers", .glo "_law_widths", .glo "_law_drawn_kind", .glo "_law_numbers_of", .glo "_law_leaves", .glo "_law_grafted", .glo "_law_is_worth", .glo "_law_second", .glo "_law_put_together_good", .glo "law", .free "abs", .free "any", .free "bool", .free "enumerate", .free "int", .free "isinstance", .free "len", .free "list", .free "max", .free "range", .free "str"]
def fa2 : List He.Fa := [.free "sum", .free "tuple", .free "zip", .str "LIST" "list", .int "NODE" 3, .str "NUM" "num", .str "TREE" "tree", .glo "ZERO"]
def fa : List He.Fa := fa0 ++ fa1 ++ fa2
def ex (K : PySem.W.Frag) : Bool := He.tupB K "ZERO" [.int 0, .int 1]
abbrev R : PySem.W.OpenRow := PySem.W.OpenLaw.row PySem.Challenge.rw_spendtold_k56_potentials_of_what_is_put
abbrev hk : PySem.W.Hook := He.hookX 6 fa fn [] [] ex
def ob (s : PySem.W.SharedT) : He.AlX := He.obsX 6 fa fn [] [] ex (HandSHeadRun.getT s)
theorem ob_eq (s : PySem.W.SharedT) : ob s = hk.obs s.abs := He.obsX_eq (HandSHeadRun.getT_eq s)
def names0 : List PySem.Str := ["__name__", "NODE", "common", "ZERO", "made", "plus", "times", "is_less", "summed", "whole", "choose", "LIST", "TREE", "NUM", "list_potential", "tree_potential", "nodes_of", "potential", "shifted", "shifted_one", "numbers_in", "width_of", "built", "degree_in", "none_of", "shared", "covers", "scaled", "worth_of", "sizes_of"]
def names1 : List PySem.Str := ["items_in", "potential_by", "_law_bag", "_law_take", "_law_some", "_law_alike", "_law_is_int", "_law_made", "_law_add", "_law_mul", "_law_less", "_law_value", "_law_nodes", "_law_potential", "_law_flat", "_law_covers", "_law_widths", "_law_drawn_kind", "_law_numbers_of", "_law_leaves", "_law_grafted", "_law_is_worth", "_law_second", "_law_put_together_good"]
def names : List PySem.Str := names0 ++ names1
theorem run_top (w : World) : HandSHeadRun.RunEq R (PySem.W.view R.prog [59]) hk ob 4000 names w := by
  intro os
  kernel_rfl
section
variable {P : Program} {w : World} {K : PySem.W.Frag} {h : Heap} {mg : Str → Option Value}
theorem md_of (X : K.In h) (Gm : h.Ns mainGlobals mg) (c : He.SaysD fa fn K) (e : ex K = true) : Md K mg where
  b_abs := He.free_ok X Gm (c.fact 49 (f := .free "abs") rfl)
  b_any := He.free_ok X Gm (c.fact 50 (f := .free "any") rfl)
  b_bool := He.free_ok X Gm (c.fact 51 (f := .free "bool") rfl)
  b_enumerate := He.free_ok X Gm (c.fact 52 (f := .free "enumerate") rfl)
  b_int := He.free_ok X Gm (c.fact 53 (f := .free "int") rfl)
  b_isinstance := He.free_ok X Gm (c.fact 54 (f := .free "isinstance") rfl)
  b_len := He.free_ok X Gm (c.fact 55 (f := .free "len") rfl)
  b_list := He.free_ok X Gm (c.fact 56 (f := .free "list") rfl)
  b_max := He.free_ok X Gm (c.fact 57 (f := .free "max") rfl)
  b_range := He.free_ok X Gm (c.fact 58 (f := .free "range") rfl)
  b_str := He.free_ok X Gm (c.fact 59 (f := .free "str") rfl)
  b_sum := He.free_ok X Gm (c.fact 60 (f := .free "sum") rfl)
  b_tuple := He.free_ok X Gm (c.fact 61 (f := .free "tuple") rfl)
  b_zip := He.free_ok X Gm (c.fact 62 (f := .free "zip") rfl)
  c_LIST := cst_str X Gm (c.fact 63 (f := .str "LIST" "list") rfl)
  c_NODE := cst_int X Gm (c.fact 64 (f := .int "NODE" 3) rfl)
  c_NUM := cst_str X Gm (c.fact 65 (f := .str "NUM" "num") rfl)
  c_TREE := cst_str X Gm (c.fact 66 (f := .str "TREE" "tree") rfl)
  c_ZERO := cst_ints (ns := [0, 1]) X Gm (c.fact 67 (f := .glo "ZERO") rfl) e
theorem tx_of (X : K.In h) (Gm : h.Ns mainGlobals mg) (c : He.SaysD fa fn K) : Tx K mg where
  d0 := dn_of X Gm (c.fact 0 (f := .glo "common") rfl) (c.def_ 0 (d := dd0) rfl) fun _ _ _ _ _ _ us hl => match us, hl with | [_, _], _ => rfl
  d1 := dn_of X Gm (c.fact 1 (f := .glo "made") rfl) (c.def_ 1 (d := dd1) rfl) fun _ _ _ _ _ _ us hl => match us, hl with | [_, _], _ => rfl
  d2 := dn_of X Gm (c.fact 2 (f := .glo "plus") rfl) (c.def_ 2 (d := dd2) rfl) fun _ _ _ _ _ _ us hl => match us, hl with | [_, _], _ => rfl
  d3 := dn_of X Gm (c.fact 3 (f := .glo "times") rfl) (c.def_ 3 (d := dd3) rfl) fun _ _ _ _ _ _ us hl => match us, hl with | [_, _], _ => rfl
  d4 := dn_of X Gm (c.fact 4 (f := .glo "is_less") rfl) (c.def_ 4 (d := dd4) rfl) fun _ _ _ _ _ _ us hl => match us, hl with | [_, _], _ => rfl
  d5 := dn_of X Gm (c.fact 5 (f := .glo "summed") rfl) (c.def_ 5 (d := dd5) rfl) fun _ _ _ _ _ _ us hl => match us, hl with | [_], _ => rfl
  d6 := dn_of X Gm (c.fact 6 (f := .glo "whole") rfl) (c.def_ 6 (d := dd6) rfl) fun _ _ _ _ _ _ us hl => match us, hl with | [_], _ => rfl
  d7 := dn_of X Gm (c.fact 7 (f := .glo "choose") rfl) (c.def_ 7 (d := dd7) rfl) fun _ _ _ _ _ _ us hl => match us, hl with | [_, _], _ => rfl
  d8 := dn_of X Gm (c.fact 8 (f := .glo "list_potential") rfl) (c.def_ 8 (d := dd8) rfl) fun _ _ _ _ _ _ us hl => match us, hl with | [_, _], _ => rfl
  d9 := dn_of X Gm (c.fact 9 (f := .glo "tree_potential") rfl) (c.def_ 9 (d := dd9) rfl) fun _ _ _ _ _ _ us hl => match us, hl with | [_, _, _], _ => rfl
  d10 := dn_of X Gm (c.fact 10 (f := .glo "nodes_of") rfl) (c.def_ 10 (d := dd10) rfl) fun _ _ _ _ _ _ us hl => match us, hl with | [_], _ => rfl
  d11 := dn_of X Gm (c.fact 11 (f := .glo "potential") rfl) (c.def_ 11 (d := dd11) rfl) fun _ _ _ _ _ _ us hl => match us, hl with | [_, _, _], _ => rfl
  d12 := dn_of X Gm (c.fact 12 (f := .glo "shifted") rfl) (c.def_ 12 (d := dd12) rfl) fun _ _ _ _ _ _ us hl => match us, hl with | [_], _ => rfl
  d13 := dn_of X Gm (c.fact 13 (f := .glo "shifted_one") rfl) (c.def_ 13 (d := dd13) rfl) fun _ _ _ _ _ _ us hl => match us, hl with | [_], _ => rfl
  d14 := dn_of X Gm (c.fact 14 (f := .glo "numbers_in") rfl) (c.def_ 14 (d := dd14) rfl) fun _ _ _ _ _ _ us hl => match us, hl with | [_, _], _ => rfl
  d15 := dn_of X Gm (c.fact 15 (f := .glo "width_of") rfl) (c.def_ 15 (d := dd15) rfl) fun _ _ _ _ _ _ us hl => match us, hl with | [_, _], _ => rfl
  d16 := dn_of X Gm (c.fact 16 (f := .glo "built") rfl) (c.def_ 16 (d := dd16) rfl) fun _ _ _ _ _ _ us hl => match us, hl with | [_, _, _], _ => rfl
  d17 := dn_of X Gm (c.fact 17 (f := .glo "degree_in") rfl) (c.def_ 17 (d := dd17) rfl) fun _ _ _ _ _ _ us hl => match us, hl with | [_, _], _ => rfl
  d18 := dn_of X Gm (c.fact 18 (f := .glo "none_of") rfl) (c.def_ 18 (d := dd18) rfl) fun _ _ _ _ _ _ us hl => match us, hl with | [_, _], _ => rfl
  d19 := dn_of X Gm (c.fact 19 (f := .glo "shared") rfl) (c.def_ 19 (d := dd19) rfl) fun _ _ _ _ _ _ us hl => match us, hl with | [_, _, _], _ => rfl
  d20 := dn_of X Gm (c.fact 20 (f := .glo "covers") rfl) (c.def_ 20 (d := dd20) rfl) fun _ _ _ _ _ _ us hl => match us, hl with | [_, _, _], _ => rfl
  d21 := dn_of X Gm (c.fact 21 (f := .glo "scaled") rfl) (c.def_ 21 (d := dd21) rfl) fun _ _ _ _ _ _ us hl => match us, hl with | [_, _, _], _ => rfl
  d22 := dn_of X Gm (c.fact 22 (f := .glo "worth_of") rfl) (c.def_ 22 (d := dd22) rfl) fun _ _ _ _ _ _ us hl => match us, hl with | [_, _, _], _ => rfl
  d23 := dn_of X Gm (c.fact 23 (f := .glo "sizes_of") rfl) (c.def_ 23 (d := dd23) rfl) fun _ _ _ _ _ _ us hl => match us, hl with | [_, _], _ => rfl
  d24 := dn_of X Gm (c.fact 24 (f := .glo "items_in") rfl) (c.def_ 24 (d := dd24) rfl) fun _ _ _ _ _ _ us hl => match us, hl with | [_, _], _ => rfl
  d25 := dn_of X Gm (c.fact 25 (f := .glo "potential_by") rfl) (c.def_ 25 (d := dd25) rfl) fun _ _ _ _ _ _ us hl => match us, hl with | [_, _, _], _ => rfl
  d26 := dn_of X Gm (c.fact 26 (f := .glo "_law_bag") rfl) (c.def_ 26 (d := dd26) rfl) fun _ _ _ _ _ _ us hl => match us, hl with | [_], _ => rfl
  d27 := dn_of X Gm (c.fact 27 (f := .glo "_law_take") rfl) (c.def_ 27 (d := dd27) rfl) fun _ _ _ _ _ _ us hl => match us, hl with | [_, _], _ => rfl
  d28 := dn_of X Gm (c.fact 28 (f := .glo "_law_some") rfl) (c.def_ 28 (d := dd28) rfl) fun _ _ _ _ _ _ us hl => match us, hl with | [_, _], _ => rfl
  d29 := dn_of X Gm (c.fact 29 (f := .glo "_law_alike") rfl) (c.def_ 29 (d := dd29) rfl) fun _ _ _ _ _ _ us hl => match us, hl with | [_, _], _ => rfl
  d30 := dn_of X Gm (c.fact 30 (f := .glo "_law_is_int") rfl) (c.def_ 30 (d := dd30) rfl) fun _ _ _ _ _ _ us hl => match us, hl with | [_], _ => rfl
  d31 := dn_of X Gm (c.fact 31 (f := .glo "_law_made") rfl) (c.def_ 31 (d := dd31) rfl) fun _ _ _ _ _ _ us hl => match us, hl with | [_, _], _ => rfl
  d32 := dn_of X Gm (c.fact 32 (f := .glo "_law_add") rfl) (c.def_ 32 (d := dd32) rfl) fun _ _ _ _ _ _ us hl => match us, hl with | [_, _], _ => rfl
  d33 := dn_of X Gm (c.fact 33 (f := .glo "_law_mul") rfl) (c.def_ 33 (d := dd33) rfl) fun _ _ _ _ _ _ us hl => match us, hl with | [_, _], _ => rfl
  d34 := dn_of X Gm (c.fact 34 (f := .glo "_law_less") rfl) (c.def_ 34 (d := dd34) rfl) fun _ _ _ _ _ _ us hl => match us, hl with | [_, _], _ => rfl
  d35 := dn_of X Gm (c.fact 35 (f := .glo "_law_value") rfl) (c.def_ 35 (d := dd35) rfl) fun _ _ _ _ _ _ us hl => match us, hl with | [_, _, _], _ => rfl
  d36 := dn_of X Gm (c.fact 36 (f := .glo "_law_nodes") rfl) (c.def_ 36 (d := dd36) rfl) fun _ _ _ _ _ _ us hl => match us, hl with | [_, _], _ => rfl
  d37 := dn_of X Gm (c.fact 37 (f := .glo "_law_potential") rfl) (c.def_ 37 (d := dd37) rfl) fun _ _ _ _ _ _ us hl => match us, hl with | [_, _, _], _ => rfl
  d38 := dn_of X Gm (c.fact 38 (f := .glo "_law_flat") rfl) (c.def_ 38 (d := dd38) rfl) fun _ _ _ _ _ _ us hl => match us, hl with | [_], _ => rfl
  d39 := dn_of X Gm (c.fact 39 (f := .glo "_law_covers") rfl) (c.def_ 39 (d := dd39) rfl) fun _ _ _ _ _ _ us hl => match us, hl with | [_, _], _ => rfl
  d40 := dn_of X Gm (c.fact 40 (f := .glo "_law_widths") rfl) (c.def_ 40 (d := dd40) rfl) fun _ _ _ _ _ _ us hl => match us, hl with | [_, _], _ => rfl
  d41 := dn_of X Gm (c.fact 41 (f := .glo "_law_drawn_kind") rfl) (c.def_ 41 (d := dd41) rfl) fun _ _ _ _ _ _ us hl => match us, hl with | [_, _], _ => rfl
  d42 := dn_of X Gm (c.fact 42 (f := .glo "_law_numbers_of") rfl) (c.def_ 42 (d := dd42) rfl) fun _ _ _ _ _ _ us hl => match us, hl with | [_, _, _], _ => rfl
  d43 := dn_of X Gm (c.fact 43 (f := .glo "_law_leaves") rfl) (c.def_ 43 (d := dd43) rfl) fun _ _ _ _ _ _ us hl => match us, hl with | [_, _], _ => rfl
  d44 := dn_of X Gm (c.fact 44 (f := .glo "_law_grafted") rfl) (c.def_ 44 (d := dd44) rfl) fun _ _ _ _ _ _ us hl => match us, hl with | [_, _, _], _ => rfl
  d45 := dn_of X Gm (c.fact 45 (f := .glo "_law_is_worth") rfl) (c.def_ 45 (d := dd45) rfl) fun _ _ _ _ _ _ us hl => match us, hl with | [_, _, _, _], _ => rfl
  d46 := dn_of X Gm (c.fact 46 (f := .glo "_law_second") rfl) (c.def_ 46 (d := dd46) rfl) fun _ _ _ _ _ _ us hl => match us, hl with | [_, _, _], _ => rfl
  d47 := dn_of X Gm (c.fact 47 (f := .glo "_law_put_together_good") rfl) (c.def_ 47 (d := dd47) rfl) fun _ _ _ _ _ _ us hl => match us, hl with | [_, _, _, _], _ => rfl
  d48 := dn_of X Gm (c.fact 48 (f := .glo "law") rfl) (c.def_ 48 (d := dd48) rfl) fun _ _ _ _ _ _ us hl => match us, hl with | [_], _ => rfl
theorem facts {f : Addr} (X : K.In h) (Gm : h.Ns mainGlobals mg) (hfa : mg ("law" : Str) = some (.ref f)) (c : He.SaysD fa fn K) (e : ex K = true) :
    ∃ fd : FuncData, (∀ (s : Shared) (v : Value), BindsTo s fd ⟨[v], []⟩ [("script", v)]) ∧ ∀ base : Heap, K.In base → base.Ns mainGlobals mg → FnOk P w K mg base CX0 (60 + 1) f fd p48 (spK K (G (60 + 1) 48)) := by
  obtain ⟨fd, F⟩ := c.def_ 48 (d := dd48) rfl
  have e1 := hfa.symm.trans (He.glo_ok X Gm (c.fact 48 (f := .glo "law") rfl))
  cases e1
  have b := FunD.bindsA (ps := p48) F fun _ _ _ _ _ _ us hl => match us, hl with | [_], _ => rfl
  have M := md_of X Gm c e
  have Q := tx_of X Gm c
  exact ⟨fd, fun s v => b s [v] rfl, fun base _ _ => fnok_succ (d := ⟨1, 16, t48⟩) F sc48 rfl rfl rfl fun f cdv A outer s H E hr => b48 M (al M Q 60) hr⟩
end
end K56
open PySem PySem.W PySem.Calls PyProof.Rows
theorem PySem.Challenge.cw_spendtold_k56_potentials_of_what_is_put_holds : PySem.Challenge.rw_spendtold_k56_potentials_of_what_is_put.Holds := by
  w_on; o_law
  refine HandSHeadRun.head_any (r := OpenLaw.row PySem.Challenge.rw_spendtold_k56_potentials_of_what_is_put) (q := view (OpenLaw.row PySem.Challenge.rw_spendtold_k56_potentials_of_what_is_put).prog [59]) (H := K56.hk) (ob := K56.ob) (M := 4000) (loose := K56.names) (d := HandSHeadRun.topDef (OpenLaw.row PySem.Challenge.rw_spendtold_k56_potentials_of_what_is_put).prog 59) (kwd := []) K56.ob_eq
    (by kernel_rfl) (fun s => by kernel_rfl) K56.run_top (by kernel_rfl) (by kernel_rfl) (by kernel_rfl) (by rfl) (by first | assumption | decide +kernel) (by decide +kernel) ⟨rfl, rfl, rfl, rfl, rfl, by decide +kernel⟩ ?hw ?hc
  case hw => w_witness2
  case hc =>
    refine L2.walk_ofE (l := PySem.Challenge.rw_spendtold_k56_potentials_of_what_is_put) (n := 63) (k := 60 + 1) (x := "script") (CX := L2.CX0) rfl (by decide) (by kernel_rfl) ⟨rfl, by decide, by decide⟩ ?F (fun _ _ _ _ z => z)
    intro w mg fa h Y Gm hmg0
    obtain ⟨K, KX, c⟩ := Y
    have hmg : mg ("law" : PySem.Str) = some (.ref fa) := by
      have e : (HandSHeadRun.topDef (OpenLaw.row PySem.Challenge.rw_spendtold_k56_potentials_of_what_is_put).prog 59).name = ("law" : PySem.Str) := by kernel_rfl
      rw [← e]
      exact hmg0
    obtain ⟨fd, hb, hF⟩ := K56.facts (P := (PySem.Challenge.rw_spendtold_k56_potentials_of_what_is_put).prog) (w := w) KX Gm hmg c.t.d c.more
    exact ⟨K, fd, _, KX, hb, fun H a ns hl _ hS => (K56.law_true ns hl).elim fun m hm => MP.law_sp hm hS, hF⟩
