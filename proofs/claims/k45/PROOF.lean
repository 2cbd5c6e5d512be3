import PyProof.Rows.All
import Wide.All
import OpenK.AllK
import Wide.FinOn
import HandS.ForMost
import HandS.ForExc
import HandS.WideBits
import HandS.Gcd
import HandS.Zip
import HandS.Style
import HandS.CallSlots
import HandS.IsInst
import HandS.TupAny
import HandS.Flow
import HandS.Walk
import HandS.Defaults
import HandS.HeadHook4
import HandS.EndBits
import PyProof.ReprRoads
import PyProof.ReprLen
import HandS.TryOnly
import HandS.Deep
import HandS.TryMany
import HandS.Small
import PyProof.ExcBaseAll.RuntimeError
import PyProof.ExcBaseAll.ValueError
import HandS.ExcInit
import HandS.ExcField
import HandS.ExcIs
import KE.KExcIs
import HandS.Text
import PyProof.StrBlock2
import HandS.TupMul
import PySem.Challenge.RW_websolids_k45_whole_equations
set_option Elab.async false
set_option linter.all false
set_option maxRecDepth 100000
set_option maxHeartbeats 4000000
/-! DlA: a layer of own over the hand layer: values as data, frames as lists of slots, and what a state of the machine has to do with them. -/
namespace DL
open PySem L2

abbrev D := PyData

/-- what an owned object holds -/
inductive Ow where
  | ls (ds : List D)
  | ll (dss : List (List D))
def Ow.toD : Ow → D
  | .ls ds => .list ds
  | .ll dss => .list (dss.map .list)

/-- a slot of a frame: nothing known, a value that never changes, an object of the frame's own, an object of the caller's that is written -/
inductive Sl where
  | un
  | sh (d : D)
  | own (o : Ow)
  | io (o : Ow)
  | xn
abbrev Fr := List Sl
def Sl.owned : Sl → Bool
  | .own _ => true
  | .io _ => true
  | _ => false

structure Exn where
  cls : Str
  flds : List (Str × D)

inductive R (α : Type) where
  | ok (a : α) (e : Fr)
  | ex (x : Exn) (e : Fr)
  | no
def R.bind {α β : Type} (r : R α) (f : α → Fr → R β) : R β := match r with
  | .ok a e => f a e
  | .ex x e => .ex x e
  | .no => .no
@[simp] theorem R.bind_ok {α β : Type} (a : α) (e : Fr) (f : α → Fr → R β) : (R.ok a e).bind f = f a e := rfl
@[simp] theorem R.bind_ex {α β : Type} (x : Exn) (e : Fr) (f : α → Fr → R β) : (R.ex x e).bind f = .ex x e := rfl
@[simp] theorem R.bind_no {α β : Type} (f : α → Fr → R β) : (R.no : R α).bind f = .no := rfl
def R.of {α : Type} (o : Option α) (e : Fr) : R α := match o with
  | some a => .ok a e
  | none => .no
@[simp] theorem R.of_some {α : Type} (a : α) (e : Fr) : R.of (some a) e = .ok a e := rfl
@[simp] theorem R.of_none {α : Type} (e : Fr) : R.of (none : Option α) e = .no := rfl

/-! ### data, one heap under another -/
section
variable {K : PySem.W.Frag} {H G H' G' : Hp}
theorem same_rd (e : Same H H') {a : Addr} {u : HO} (h : Rd H a u) : Rd H' a u := by
  rcases h with h | ⟨o, h⟩
  · exact .inl (e _ _ h)
  · exact .inr ⟨o, e _ _ h⟩
theorem same_l (e : Same H H') {a : Addr} {xs : List V} (h : SqL K H a xs) : SqL K H' a xs := h.elim (fun z => .inl (same_rd e z)) .inr
theorem same_t (e : Same H H') {a : Addr} {xs : List V} (h : SqT K H a xs) : SqT K H' a xs := h.elim (fun z => .inl (same_rd e z)) .inr
mutual
theorem dp_mono (e : Same H H') : ∀ (d : D) (v : V), Dp K H v d → Dp K H' v d
  | .none, _, h => by cases h; exact .non
  | .bool b, _, h => by cases h; exact .bl b
  | .int i, _, h => by cases h; exact .int i
  | .str x, _, h => by cases h; exact .str x
  | .list ds, _, h => by
    cases h with
    | lst hs ha => exact .lst (same_l e hs) (dpa_mono e ds _ ha)
  | .tuple ds, _, h => by
    cases h with
    | tup hs ha => exact .tup (same_t e hs) (dpa_mono e ds _ ha)
  | .dict _, _, h => by cases h
theorem dpa_mono (e : Same H H') : ∀ (ds : List D) (vs : List V), DpAll K H vs ds → DpAll K H' vs ds
  | [], _, h => by cases h; exact .nil
  | d :: ds, _, h => by
    cases h with
    | cons h1 h2 => exact .cons (dp_mono e d _ h1) (dpa_mono e ds _ h2)
end
theorem DpAll.len : ∀ {vs : List V} {ds : List D}, DpAll K H vs ds → vs.length = ds.length
  | _, _, .nil => rfl
  | _, _, .cons _ t => by rw [List.length_cons, List.length_cons, DpAll.len t]
theorem DpAll.at : ∀ {vs : List V} {ds : List D} {i : Nat} {d : D}, DpAll K H vs ds → ds[i]? = some d → ∃ v, vs[i]? = some v ∧ Dp K H v d
  | _, _, _, _, .nil, e => by simp at e
  | _, _, 0, _, .cons h _, e => by
    simp at e
    subst e
    exact ⟨_, rfl, h⟩
  | _, _, i + 1, _, .cons _ t, e => by
    obtain ⟨v, e1, h1⟩ := DpAll.at (i := i) t (by simpa using e)
    exact ⟨v, by simpa using e1, h1⟩
theorem DpAll.at' : ∀ {vs : List V} {ds : List D} {i : Nat} {v : V}, DpAll K H vs ds → vs[i]? = some v → ∃ d, ds[i]? = some d ∧ Dp K H v d
  | _, _, _, _, .nil, e => by simp at e
  | _, _, 0, _, .cons h _, e => by
    simp at e
    subst e
    exact ⟨_, rfl, h⟩
  | _, _, i + 1, _, .cons _ t, e => by
    obtain ⟨v, e1, h1⟩ := DpAll.at' (i := i) t (by simpa using e)
    exact ⟨v, by simpa using e1, h1⟩
theorem DpAll.app : ∀ {vs ws : List V} {ds es : List D}, DpAll K H vs ds → DpAll K H ws es → DpAll K H (vs ++ ws) (ds ++ es)
  | _, _, _, _, .nil, h => h
  | _, _, _, _, .cons a t, h => .cons a (DpAll.app t h)
theorem DpAll.take (n : Nat) : ∀ {vs : List V} {ds : List D}, DpAll K H vs ds → DpAll K H (vs.take n) (ds.take n) := by
  induction n with
  | zero => intro vs ds _; exact .nil
  | succ n ih =>
    intro vs ds h
    cases h with
    | nil => exact .nil
    | cons a t => exact .cons a (ih t)
theorem DpAll.drop (n : Nat) : ∀ {vs : List V} {ds : List D}, DpAll K H vs ds → DpAll K H (vs.drop n) (ds.drop n) := by
  induction n with
  | zero => intro vs ds h; exact h
  | succ n ih =>
    intro vs ds h
    cases h with
    | nil => exact .nil
    | cons a t => exact ih t
theorem DpAll.set {v : V} {d : D} (h : Dp K H v d) (i : Nat) : ∀ {vs : List V} {ds : List D}, DpAll K H vs ds → DpAll K H (vs.set i v) (ds.set i d) := by
  induction i with
  | zero =>
    intro vs ds t
    cases t with
    | nil => exact .nil
    | cons _ r => exact .cons h r
  | succ i ih =>
    intro vs ds t
    cases t with
    | nil => exact .nil
    | cons a r => exact .cons a (ih r)
theorem DpAll.rev : ∀ {vs : List V} {ds : List D}, DpAll K H vs ds → DpAll K H vs.reverse ds.reverse
  | _, _, .nil => .nil
  | _, _, .cons a t => by
    rw [List.reverse_cons, List.reverse_cons]
    exact DpAll.app (DpAll.rev t) (.cons a .nil)
theorem dp_ints : ∀ (ns : List Int), DpAll K H (ns.map V.int) (ns.map PyData.int)
  | [] => .nil
  | n :: r => .cons (.int n) (dp_ints r)
theorem dpa_ints : ∀ {vs : List V} {ns : List Int}, DpAll K H vs (ns.map PyData.int) → vs = ns.map V.int
  | _, [], h => by cases h; rfl
  | _, n :: r, h => by
    cases h with
    | cons h1 h2 =>
      cases h1
      rw [dpa_ints h2]
      rfl
theorem dpa_bools : ∀ {vs : List V} {bs : List Bool}, DpAll K H vs (bs.map PyData.bool) → vs = bs.map V.bl
  | _, [], h => by cases h; rfl
  | _, b :: r, h => by
    cases h with
    | cons h1 h2 =>
      cases h1
      rw [dpa_bools h2]
      rfl

/-! ### how heap and frozen part grow -/
structure Grow (H G H' G' : Hp) : Prop where
  gg : Same G G'
  hh : Same H H'
  gh : Same G' H'
  new : ∀ b, H b ≠ none → G' b = G b
theorem Grow.refl (h : Same G H) : Grow H G H G := ⟨Same.refl G, Same.refl H, h, fun _ _ => rfl⟩
theorem Grow.trans {H1 G1 : Hp} (a : Grow H G H1 G1) (b : Grow H1 G1 H' G') : Grow H G H' G' :=
  ⟨a.gg.trans b.gg, a.hh.trans b.hh, b.gh, fun x hx => by
    have h1 : H1 x ≠ none := fun z => by
      cases q : H x with
      | none => exact hx q
      | some o =>
        rw [a.hh x o q] at z
        cases z
    rw [b.new x h1, a.new x hx]⟩
theorem same_new {p : Addr} {o : HO} (hp : H p = none) : Same H (upd H p o) := fun b u e => by
  rw [upd_ne (ne_of_none e hp)]
  exact e
theorem same_back {p : Addr} (h : Same G H) (hp : H p = none) : G p = none := by
  cases q : G p with
  | none => rfl
  | some o =>
    rw [h p o q] at hp
    cases hp
theorem same_upd {p : Addr} {o : HO} (h : Same G H) (hp : H p = none) : Same (upd G p o) (upd H p o) := fun b u e => by
  by_cases hb : b = p
  · subst hb
    rw [upd_same] at e ⊢
    exact e
  · rw [upd_ne hb] at e ⊢
    exact h b u e
/-- a new object, frozen at once -/
theorem Grow.laid {p : Addr} {o : HO} (h : Same G H) (hp : H p = none) : Grow H G (upd H p o) (upd G p o) :=
  ⟨same_new (same_back h hp), same_new hp, same_upd h hp, fun b hb => upd_ne fun z => hb (by rw [z]; exact hp)⟩
/-- a new object, not frozen -/
theorem Grow.own {p : Addr} {o : HO} (h : Same G H) (hp : H p = none) : Grow H G (upd H p o) G :=
  ⟨Same.refl G, same_new hp, h.trans (same_new hp), fun _ _ => rfl⟩
end

/-! ### what an owned object is -/
inductive OwAt (K : PySem.W.Frag) (G H : Hp) : Ow → Addr → List Addr → Prop where
  | ls {a : Addr} {vs : List V} {ds : List D} : H a = some (.lst vs) → DpAll K G vs ds → OwAt K G H (.ls ds) a [a]
  | ll {a : Addr} {bs : List Addr} {dss : List (List D)} : H a = some (.lst (bs.map V.ref)) → bs.length = dss.length → (a :: bs).Nodup →
      (∀ (j : Nat) (b : Addr) (ds : List D), bs[j]? = some b → dss[j]? = some ds → ∃ vs, H b = some (.lst vs) ∧ DpAll K G vs ds) → OwAt K G H (.ll dss) a (a :: bs)
section
variable {K : PySem.W.Frag} {H G H' G' : Hp}
theorem OwAt.there {o : Ow} {a : Addr} {A : List Addr} (h : OwAt K G H o a A) : ∀ b ∈ A, ∃ vs, H b = some (.lst vs) := by
  cases h with
  | ls h1 _ =>
    intro b hb
    rw [List.mem_singleton.mp hb]
    exact ⟨_, h1⟩
  | ll h1 h2 h3 h4 =>
    rename_i bs dss
    intro b hb
    rcases List.mem_cons.mp hb with rfl | hb
    · exact ⟨_, h1⟩
    · obtain ⟨j, hj, e⟩ := List.mem_iff_getElem.mp hb
      obtain ⟨vs, h5, _⟩ := h4 j b (dss[j]'(h2 ▸ hj)) (by rw [List.getElem?_eq_getElem hj, e]) (List.getElem?_eq_getElem _)
      exact ⟨vs, h5⟩
theorem OwAt.head {o : Ow} {a : Addr} {A : List Addr} (h : OwAt K G H o a A) : a ∈ A := by
  cases h with
  | ls _ _ => exact List.mem_singleton.mpr rfl
  | ll _ _ _ _ => exact List.mem_cons_self
theorem OwAt.mono {o : Ow} {a : Addr} {A : List Addr} (h : OwAt K G H o a A) (gg : Same G G') (hh : ∀ b ∈ A, ∀ u, H b = some u → H' b = some u) : OwAt K G' H' o a A := by
  cases h with
  | ls h1 h2 => exact .ls (hh _ (List.mem_singleton.mpr rfl) _ h1) (dpa_mono gg _ _ h2)
  | ll h1 h2 h3 h4 =>
    refine .ll (hh _ List.mem_cons_self _ h1) h2 h3 fun j b ds e1 e2 => ?_
    obtain ⟨vs, h5, h6⟩ := h4 j b ds e1 e2
    exact ⟨vs, hh _ (List.mem_cons_of_mem _ (List.mem_of_getElem? e1)) _ h5, dpa_mono gg _ _ h6⟩
end

/-! ### what a frame has to do with a state -/
/-- a def's running: the heap and the frozen part at its entry, the objects of its caller that it may write, by their slots -/
structure Fx where
  H_0 : Hp
  G_0 : Hp
  io : Nat → List Addr
  at_ : Nat → Addr

def slotOk (K : PySem.W.Frag) (Φ : Fx) (H G : Hp) (A : List Addr) (i : Nat) : Sl → Option (Option V) → Prop
  | .un, _ => True
  | .sh d, o => ∃ v, o = some (some v) ∧ Dp K G v d
  | .own w, o => ∃ a, o = some (some (.ref a)) ∧ OwAt K G H w a A ∧ ∀ b ∈ A, G b = none ∧ Φ.H_0 b = none
  | .io w, o => ∃ a, o = some (some (.ref a)) ∧ OwAt K G H w a A ∧ ∀ b ∈ A, G b = none ∧ ((b ∈ Φ.io i ∨ Φ.H_0 b = none) ∧ a = Φ.at_ i)
  | .xn, o => o = some (some (.ref (Φ.at_ i)))

structure Ok (K : PySem.W.Frag) (Φ : Fx) (H G : Hp) (F : Nat → List Addr) (σ : L2.St) (e : Fr) : Prop where
  gh : Same G H
  len : e.length = σ.length
  slots : ∀ i s, e[i]? = some s → slotOk K Φ H G (F i) i s σ[i]?
  sep : ∀ i j s t, i ≠ j → e[i]? = some s → e[j]? = some t → s.owned = true → t.owned = true → ∀ b ∈ F i, b ∉ F j
  f0 : ∀ b, Φ.H_0 b ≠ none → H b ≠ none
  f1 : ∀ b o, Φ.H_0 b = some o → (∀ i, b ∉ Φ.io i) → H b = some o
  f2 : ∀ b, Φ.H_0 b ≠ none → G b = Φ.G_0 b

section
variable {K : PySem.W.Frag} {Φ : Fx} {H G H' G' : Hp} {F : Nat → List Addr} {σ : L2.St} {e : Fr}
theorem slotOk.grow {A : List Addr} {i : Nat} {s : Sl} {o : Option (Option V)} (g : Grow H G H' G') (h : slotOk K Φ H G A i s o) : slotOk K Φ H' G' A i s o := by
  have keep : ∀ {w : Ow} {a : Addr}, OwAt K G H w a A → ∀ b ∈ A, G b = none → G' b = none := fun w b hb n => by
    obtain ⟨vs, q⟩ := w.there b hb
    rw [g.new b (by rw [q]; exact fun z => nomatch z)]
    exact n
  cases s with
  | un => trivial
  | sh d =>
    obtain ⟨v, e1, h1⟩ := h
    exact ⟨v, e1, dp_mono g.gg _ _ h1⟩
  | own w =>
    obtain ⟨a, e1, h1, h2⟩ := h
    exact ⟨a, e1, h1.mono g.gg (fun b _ u q => g.hh b u q), fun b hb => ⟨keep h1 b hb (h2 b hb).1, (h2 b hb).2⟩⟩
  | io w =>
    obtain ⟨a, e1, h1, h2⟩ := h
    exact ⟨a, e1, h1.mono g.gg (fun b _ u q => g.hh b u q), fun b hb => ⟨keep h1 b hb (h2 b hb).1, (h2 b hb).2⟩⟩
  | xn => exact h
theorem ne_none_of_same (h : Same H H') {b : Addr} (hb : H b ≠ none) : H' b ≠ none := fun z => by
  cases q : H b with
  | none => exact hb q
  | some o =>
    rw [h b o q] at z
    cases z
/-- new objects change nothing -/
theorem Ok.grow (O : Ok K Φ H G F σ e) (g : Grow H G H' G') : Ok K Φ H' G' F σ e :=
  ⟨g.gh, O.len, fun i s q => (O.slots i s q).grow g, O.sep, fun b hb => ne_none_of_same g.hh (O.f0 b hb), fun b o q n => g.hh b o (O.f1 b o q n), fun b hb => by
    rw [g.new b (O.f0 b hb)]
    exact O.f2 b hb⟩
/-- a value is stored -/
theorem Ok.set {v : V} {d : D} (O : Ok K Φ H G F σ e) (h : Dp K G v d) (i : Nat) : Ok K Φ H G F (σ.set i (some v)) (e.set i (.sh d)) where
  gh := O.gh
  len := by rw [List.length_set, List.length_set]; exact O.len
  slots := fun j s q => by
    by_cases hj : i = j
    · subst hj
      by_cases hl : i < e.length
      · rw [List.getElem?_set_self hl] at q
        cases q
        refine ⟨v, ?_, h⟩
        rw [List.getElem?_set_self (by rw [← O.len]; exact hl)]
      · rw [List.getElem?_eq_none (by rw [List.length_set]; omega)] at q
        cases q
    · rw [List.getElem?_set_ne hj] at q ⊢
      exact O.slots j s q
  sep := fun j k s t hjk q1 q2 o1 o2 => by
    have old : ∀ {j : Nat} {s : Sl}, (e.set i (.sh d))[j]? = some s → s.owned = true → e[j]? = some s := fun {j s} q o => by
      by_cases hj : i = j
      · subst hj
        by_cases hl : i < e.length
        · rw [List.getElem?_set_self hl] at q
          cases q
          cases o
        · rw [List.getElem?_eq_none (by rw [List.length_set]; omega)] at q
          cases q
      · rw [List.getElem?_set_ne hj] at q
        exact q
    exact O.sep j k s t hjk (old q1 o1) (old q2 o2) o1 o2
  f0 := O.f0
  f1 := O.f1
  f2 := O.f2
/-- an object of the frame's own is stored: it stands apart from all others -/
theorem Ok.setOwn {w : Ow} {a : Addr} {A : List Addr} (O : Ok K Φ H G F σ e) (h : OwAt K G H w a A) (n : ∀ b ∈ A, G b = none ∧ Φ.H_0 b = none)
    (ap : ∀ j t, e[j]? = some t → t.owned = true → ∀ b ∈ A, b ∉ F j) (i : Nat) : Ok K Φ H G (fun j => if j = i then A else F j) (σ.set i (some (.ref a))) (e.set i (.own w)) where
  gh := O.gh
  len := by rw [List.length_set, List.length_set]; exact O.len
  slots := fun j s q => by
    by_cases hj : i = j
    · subst hj
      rw [if_pos rfl]
      by_cases hl : i < e.length
      · rw [List.getElem?_set_self hl] at q
        cases q
        exact ⟨a, List.getElem?_set_self (by rw [← O.len]; exact hl), h, n⟩
      · rw [List.getElem?_eq_none (by rw [List.length_set]; omega)] at q
        cases q
    · rw [if_neg (Ne.symm hj)]
      rw [List.getElem?_set_ne hj] at q ⊢
      exact O.slots j s q
  sep := fun j k s t hjk q1 q2 o1 o2 => by
    have old : ∀ {j : Nat} {s : Sl}, ¬ j = i → (e.set i (.own w))[j]? = some s → e[j]? = some s := fun {j s} hj q => by
      rw [List.getElem?_set_ne (Ne.symm hj)] at q
      exact q
    by_cases hj : j = i
    · have hk : ¬ k = i := fun z => hjk (hj.trans z.symm)
      rw [if_pos hj, if_neg hk]
      exact ap k t (old hk q2) o2
    · rw [if_neg hj]
      by_cases hk : k = i
      · rw [if_pos hk]
        exact fun b hb hb2 => ap j s (old hj q1) o1 b hb2 hb
      · rw [if_neg hk]
        exact O.sep j k s t hjk (old hj q1) (old hk q2) o1 o2
  f0 := O.f0
  f1 := O.f1
  f2 := O.f2
theorem Ok.setUn (O : Ok K Φ H G F σ e) (i : Nat) : Ok K Φ H G F (σ.set i none) (e.set i .un) where
  gh := O.gh
  len := by rw [List.length_set, List.length_set]; exact O.len
  slots := fun j s q => by
    by_cases hj : i = j
    · subst hj
      by_cases hl : i < e.length
      · rw [List.getElem?_set_self hl] at q
        cases q
        trivial
      · rw [List.getElem?_eq_none (by rw [List.length_set]; omega)] at q
        cases q
    · rw [List.getElem?_set_ne hj] at q ⊢
      exact O.slots j s q
  sep := fun j k s t hjk q1 q2 o1 o2 => by
    have old : ∀ {j : Nat} {s : Sl}, (e.set i .un)[j]? = some s → s.owned = true → e[j]? = some s := fun {j s} q o => by
      by_cases hj : i = j
      · subst hj
        by_cases hl : i < e.length
        · rw [List.getElem?_set_self hl] at q
          cases q
          cases o
        · rw [List.getElem?_eq_none (by rw [List.length_set]; omega)] at q
          cases q
      · rw [List.getElem?_set_ne hj] at q
        exact q
    exact O.sep j k s t hjk (old q1 o1) (old q2 o2) o1 o2
  f0 := O.f0
  f1 := O.f1
  f2 := O.f2
end
end DL
set_option Elab.async false
set_option linter.all false
set_option maxRecDepth 100000
set_option maxHeartbeats 4000000
/-! DlB: freezing, writing, wiping; readings by what a frame's function tells. -/
namespace DL
open PySem L2

section
variable {K : PySem.W.Frag} {Φ : Fx} {H G H' G' : Hp} {F : Nat → List Addr} {σ : L2.St} {e : Fr}
theorem OwAt.dp {w : Ow} {a : Addr} {A : List Addr} (h : OwAt K G H w a A) (hg : Same G G') (ha : ∀ b ∈ A, G' b = H b) : Dp K G' (.ref a) w.toD := by
  cases h with
  | ls h1 h2 => exact .lst (.of ((ha _ (List.mem_singleton.mpr rfl)).trans h1)) (dpa_mono hg _ _ h2)
  | ll h1 h2 h3 h4 =>
    rename_i bs dss
    refine .lst (.of ((ha _ List.mem_cons_self).trans h1)) ?_
    have go : ∀ (bs' : List Addr) (ess : List (List D)), bs'.length = ess.length → (∀ b ∈ bs', b ∈ bs) → (∀ (j : Nat) (b : Addr) (ds : List D), bs'[j]? = some b → ess[j]? = some ds → ∃ vs, H b = some (.lst vs) ∧ DpAll K G vs ds) →
        DpAll K G' (bs'.map V.ref) (ess.map PyData.list) := by
      intro bs'
      induction bs' with
      | nil =>
        intro ess hl _ _
        cases ess with
        | nil => exact .nil
        | cons _ _ => cases hl
      | cons b r ih =>
        intro ess hl hm hx
        cases ess with
        | nil => cases hl
        | cons ds rs =>
          obtain ⟨vs, h5, h6⟩ := hx 0 b ds rfl rfl
          refine .cons (.lst (.of ((ha b (List.mem_cons_of_mem _ (hm b List.mem_cons_self))).trans h5)) (dpa_mono hg _ _ h6)) ?_
          exact ih rs (by simpa using hl) (fun c hc => hm c (List.mem_cons_of_mem _ hc)) fun j c es e1 e2 => hx (j + 1) c es (by simpa using e1) (by simpa using e2)
    exact go bs dss h2 (fun _ h => h) h4

/-- a slot's object, written -/
def _root_.DL.Sl.put (s : Sl) (w : Ow) : Sl := match s with
  | .io _ => .io w
  | _ => .own w
/-- the frozen part takes in an object -/
def takeIn (H G : Hp) (A : List Addr) : Hp := fun b => if b ∈ A then H b else G b
theorem takeIn_in {A : List Addr} {b : Addr} (h : b ∈ A) : takeIn H G A b = H b := if_pos h
theorem takeIn_out {A : List Addr} {b : Addr} (h : b ∉ A) : takeIn H G A b = G b := if_neg h
theorem takeIn_same {A : List Addr} (h : ∀ b ∈ A, G b = none) : Same G (takeIn H G A) := fun b o q => by
  have hb : b ∉ A := fun z => by
    rw [h b z] at q
    cases q
  rw [takeIn_out hb]
  exact q
theorem takeIn_sub {A : List Addr} (h : Same G H) : Same (takeIn H G A) H := fun b o q => by
  by_cases hb : b ∈ A
  · rw [takeIn_in hb] at q
    exact q
  · rw [takeIn_out hb] at q
    exact h b o q
/-- a slot's own object is frozen -/
theorem Ok.freeze {w : Ow} (O : Ok K Φ H G F σ e) {i : Nat} (hi : e[i]? = some (.own w)) :
    Same G (takeIn H G (F i)) ∧ Ok K Φ H (takeIn H G (F i)) F σ (e.set i (.sh w.toD)) ∧ ∀ v, σ[i]? = some (some v) → Dp K (takeIn H G (F i)) v w.toD := by
  obtain ⟨a, e1, h1, h2⟩ := O.slots i _ hi
  have hs : Same G (takeIn H G (F i)) := takeIn_same fun b hb => (h2 b hb).1
  have hd : Dp K (takeIn H G (F i)) (.ref a) w.toD := h1.dp hs fun b hb => takeIn_in hb
  refine ⟨hs, ?_, fun v hv => ?_⟩
  · refine ⟨takeIn_sub O.gh, by rw [List.length_set]; exact O.len, fun j s q => ?_, fun j k s t hjk q1 q2 o1 o2 => ?_, O.f0, O.f1, fun b hb => ?_⟩
    · by_cases hj : i = j
      · subst hj
        rw [List.getElem?_set_self (List.getElem?_eq_some_iff.mp hi).1] at q
        cases q
        exact ⟨_, e1, hd⟩
      · rw [List.getElem?_set_ne hj] at q
        have old := O.slots j s q
        have out : s.owned = true → ∀ b ∈ F j, b ∉ F i := fun o b hb hb2 => O.sep j i s (.own w) (Ne.symm hj) q hi o rfl b hb hb2
        cases s with
        | un => trivial
        | xn => first | exact old | exact h | exact h1 | exact h2 | exact q | exact O.slots _ _ ‹_›
        | sh d =>
          obtain ⟨v, e2, h3⟩ := old
          exact ⟨v, e2, dp_mono hs _ _ h3⟩
        | own u =>
          obtain ⟨a2, e2, h3, h4⟩ := old
          exact ⟨a2, e2, h3.mono hs (fun _ _ _ q => q), fun b hb => ⟨by rw [takeIn_out (out rfl b hb)]; exact (h4 b hb).1, (h4 b hb).2⟩⟩
        | io u =>
          obtain ⟨a2, e2, h3, h4⟩ := old
          exact ⟨a2, e2, h3.mono hs (fun _ _ _ q => q), fun b hb => ⟨by rw [takeIn_out (out rfl b hb)]; exact (h4 b hb).1, (h4 b hb).2⟩⟩
    · have old : ∀ {j : Nat} {s : Sl}, (e.set i (.sh w.toD))[j]? = some s → s.owned = true → e[j]? = some s := fun {j s} q o => by
        by_cases hj : i = j
        · subst hj
          rw [List.getElem?_set_self (List.getElem?_eq_some_iff.mp hi).1] at q
          cases q
          cases o
        · rw [List.getElem?_set_ne hj] at q
          exact q
      exact O.sep j k s t hjk (old q1 o1) (old q2 o2) o1 o2
    · rw [takeIn_out fun z => hb (h2 b z).2]
      exact O.f2 b hb
  · rw [e1] at hv
    cases hv
    exact hd
/-- a slot's object is written -/
theorem Ok.write {s : Sl} {w' : Ow} {a : Addr} {A' : List Addr} (O : Ok K Φ H G F σ e) {i : Nat} (hi : e[i]? = some s) (ho : s.owned = true) (ha : σ[i]? = some (some (.ref a))) (h : OwAt K G H' w' a A')
    (hA : ∀ b ∈ F i, b ∈ A') (hN : ∀ b ∈ A', b ∈ F i ∨ H b = none) (hH : ∀ b, b ∉ A' → H' b = H b) :
    Ok K Φ H' G (fun j => if j = i then A' else F j) σ (e.set i (s.put w')) := by
  have gi : ∀ b ∈ F i, G b = none := fun b hb => by
    have q := O.slots i s hi
    cases s with
    | un => cases ho
    | xn => cases ho
    | sh d => cases ho
    | own w =>
      obtain ⟨_, _, _, h2⟩ := q
      exact (h2 b hb).1
    | io w =>
      obtain ⟨_, _, _, h2⟩ := q
      exact (h2 b hb).1
  have gA : ∀ b ∈ A', G b = none := fun b hb => (hN b hb).elim (gi b) fun z => same_back O.gh z
  have inH : ∀ b ∈ A', H' b ≠ none := fun b hb z => by
    obtain ⟨vs, q⟩ := h.there b hb
    rw [q] at z
    cases z
  have h0A : ∀ b ∈ A', H b = none → Φ.H_0 b = none := fun b _ z => by
    cases q : Φ.H_0 b with
    | none => rfl
    | some o => exact absurd z (O.f0 b (by rw [q]; exact fun z => nomatch z))
  refine ⟨fun b o q => ?_, by rw [List.length_set]; exact O.len, fun j t q => ?_, fun j k t u hjk q1 q2 o1 o2 => ?_, fun b hb => ?_, fun b o q n => ?_, O.f2⟩
  · rw [hH b fun z => by rw [gA b z] at q; cases q]
    exact O.gh b o q
  · by_cases hj : i = j
    · subst hj
      rw [if_pos rfl]
      rw [List.getElem?_set_self (List.getElem?_eq_some_iff.mp hi).1] at q
      have old := O.slots i s hi
      cases s with
      | un => cases ho
      | xn => cases ho
      | sh d => cases ho
      | own w =>
        cases q
        obtain ⟨_, _, _, h2⟩ := old
        exact ⟨a, ha, h, fun b hb => ⟨gA b hb, (hN b hb).elim (fun z => (h2 b z).2) (h0A b hb)⟩⟩
      | io w =>
        cases q
        obtain ⟨a2, e2, h1, h2⟩ := old
        rw [ha] at e2
        cases e2
        exact ⟨a, ha, h, fun b hb => ⟨gA b hb, (hN b hb).elim (fun z => (h2 b z).2) fun z => ⟨.inr (h0A b hb z), (h2 a h1.head).2.2⟩⟩⟩
    · rw [if_neg (Ne.symm hj)]
      rw [List.getElem?_set_ne hj] at q
      have old := O.slots j t q
      have out : t.owned = true → ∀ b ∈ F j, H b ≠ none → b ∉ A' := fun o b hb hz hb2 => by
        rcases hN b hb2 with z | z
        · exact O.sep j i t s (Ne.symm hj) q hi o ho b hb z
        · exact hz z
      cases t with
      | un => trivial
      | xn => first | exact old | exact h | exact h1 | exact h2 | exact q | exact O.slots _ _ ‹_›
      | sh d => exact old
      | own u =>
        obtain ⟨a2, e2, h3, h4⟩ := old
        refine ⟨a2, e2, h3.mono (Same.refl G) (fun b hb v z => ?_), h4⟩
        rw [hH b (out rfl b hb (by rw [z]; exact fun z => nomatch z))]
        exact z
      | io u =>
        obtain ⟨a2, e2, h3, h4⟩ := old
        refine ⟨a2, e2, h3.mono (Same.refl G) (fun b hb v z => ?_), h4⟩
        rw [hH b (out rfl b hb (by rw [z]; exact fun z => nomatch z))]
        exact z
  · have old : ∀ {j : Nat} {t : Sl}, ¬ j = i → (e.set i (s.put w'))[j]? = some t → e[j]? = some t := fun {j t} hj q => by
      rw [List.getElem?_set_ne (Ne.symm hj)] at q
      exact q
    have live : ∀ {j : Nat} {t : Sl}, e[j]? = some t → t.owned = true → ∀ b ∈ F j, H b ≠ none := fun {j t} q o b hb z => by
      have old := O.slots j t q
      cases t with
      | un => cases o
      | xn => cases o
      | sh d => cases o
      | own u =>
        obtain ⟨_, _, h3, _⟩ := old
        obtain ⟨vs, q⟩ := h3.there b hb
        rw [z] at q
        cases q
      | io u =>
        obtain ⟨_, _, h3, _⟩ := old
        obtain ⟨vs, q⟩ := h3.there b hb
        rw [z] at q
        cases q
    by_cases hj : j = i
    · have hk : ¬ k = i := fun z => hjk (hj.trans z.symm)
      rw [if_pos hj, if_neg hk]
      intro b hb hb2
      rcases hN b hb with z | z
      · exact O.sep k i u s hk (old hk q2) hi o2 ho b hb2 z
      · exact live (old hk q2) o2 b hb2 z
    · rw [if_neg hj]
      by_cases hk : k = i
      · rw [if_pos hk]
        intro b hb hb2
        rcases hN b hb2 with z | z
        · exact O.sep j i t s hj (old hj q1) hi o1 ho b hb z
        · exact live (old hj q1) o1 b hb z
      · rw [if_neg hk]
        exact O.sep j k t u hjk (old hj q1) (old hk q2) o1 o2
  · by_cases hA' : b ∈ A'
    · exact inH b hA'
    · rw [hH b hA']
      exact O.f0 b hb
  · by_cases hA' : b ∈ A'
    · have hb := O.f1 b o q n
      rcases hN b hA' with z | z
      · have old := O.slots i s hi
        cases s with
        | un => cases ho
        | xn => cases ho
        | sh d => cases ho
        | own w =>
          obtain ⟨_, _, _, h2⟩ := old
          rw [(h2 b z).2] at q
          cases q
        | io w =>
          obtain ⟨_, _, _, h2⟩ := old
          rcases (h2 b z).2.1 with z2 | z2
          · exact absurd z2 (n i)
          · rw [z2] at q
            cases q
      · rw [z] at hb
        cases hb
    · rw [hH b hA']
      exact O.f1 b o q n
end

/-! ### the slots of a comprehension -/
def wipeE (e : Fr) : List Nat → Fr
  | [] => e
  | v :: vs => (wipeE e vs).set v .un
def backE (e e1 : Fr) : List Nat → Fr
  | [] => e1
  | v :: vs => (backE e e1 vs).set v (e.getD v .un)
def bare (e : Fr) (vs : List Nat) : Bool := vs.all fun j => !(e.getD j .un).owned
section
variable {K : PySem.W.Frag} {Φ : Fx} {H G H' G' : Hp} {F F' : Nat → List Addr} {σ : L2.St} {e e1 : Fr} {vs : List Nat}
theorem Ok.wiped (O : Ok K Φ H G F σ e) : ∀ vs : List Nat, Ok K Φ H G F (wipe σ vs) (wipeE e vs)
  | [] => O
  | v :: vs => by
    have h := (Ok.wiped O vs).setUn v
    exact h
theorem wipe_out {j : Nat} : ∀ {vs : List Nat}, j ∉ vs → (wipe σ vs)[j]? = σ[j]?
  | [], _ => rfl
  | v :: vs, h => by
    unfold wipe
    rw [List.getElem?_set_ne (fun z => h (by rw [z]; exact List.mem_cons_self))]
    exact wipe_out fun z => h (List.mem_cons_of_mem _ z)
theorem backE_len : ∀ vs : List Nat, (backE e e1 vs).length = e1.length
  | [] => rfl
  | v :: vs => by
    unfold backE
    rw [List.length_set]
    exact backE_len vs
theorem backE_out {j : Nat} : ∀ {vs : List Nat}, j ∉ vs → (backE e e1 vs)[j]? = e1[j]?
  | [], _ => rfl
  | v :: vs, h => by
    unfold backE
    rw [List.getElem?_set_ne (fun z => h (by rw [z]; exact List.mem_cons_self))]
    exact backE_out fun z => h (List.mem_cons_of_mem _ z)
theorem backE_in {j : Nat} {s : Sl} : ∀ {vs : List Nat}, j ∈ vs → (backE e e1 vs)[j]? = some s → s = e.getD j .un
  | v :: vs, h, q => by
    unfold backE at q
    by_cases hv : v = j
    · subst hv
      by_cases hl : v < (backE e e1 vs).length
      · rw [List.getElem?_set_self hl] at q
        exact (Option.some.inj q).symm
      · rw [List.getElem?_eq_none (by rw [List.length_set]; omega)] at q
        cases q
    · rw [List.getElem?_set_ne hv] at q
      rcases List.mem_cons.mp h with z | z
      · exact absurd z.symm hv
      · exact backE_in z q
/-- behind the block -/
theorem Ok.back (O : Ok K Φ H G F σ e) (O1 : Ok K Φ H' G' F' (wipe σ vs) e1) (gg : Same G G') (hb : bare e vs = true) : Ok K Φ H' G' F' σ (backE e e1 vs) := by
  have lw : (wipe σ vs).length = σ.length := wipe_length σ vs
  have no : ∀ j s, j ∈ vs → (backE e e1 vs)[j]? = some s → s.owned = false := fun j s hj q => by
    rw [backE_in hj q]
    have := List.all_eq_true.mp hb j hj
    simpa using this
  refine ⟨O1.gh, by rw [backE_len, O1.len, lw], fun j s q => ?_, fun j k s t hjk q1 q2 o1 o2 => ?_, O1.f0, O1.f1, O1.f2⟩
  · by_cases hj : j ∈ vs
    · have hs := backE_in hj q
      have hn := no j s hj q
      cases s with
      | un => trivial
      | xn =>
        have hl : j < e.length := by
          by_cases z : j < e.length
          · exact z
          · rw [List.getD_eq_getElem?_getD, List.getElem?_eq_none (by omega)] at hs
            cases hs
        have q2 : e[j]? = some .xn := by
          rw [List.getD_eq_getElem?_getD, List.getElem?_eq_getElem hl] at hs
          rw [List.getElem?_eq_getElem hl]
          exact congrArg some hs.symm
        exact O.slots j _ q2
      | own w => cases hn
      | io w => cases hn
      | sh d =>
        have hl : j < e.length := by
          by_cases z : j < e.length
          · exact z
          · rw [List.getD_eq_getElem?_getD, List.getElem?_eq_none (by omega)] at hs
            cases hs
        have q2 : e[j]? = some (.sh d) := by
          rw [List.getD_eq_getElem?_getD, List.getElem?_eq_getElem hl] at hs
          rw [List.getElem?_eq_getElem hl]
          exact congrArg some hs.symm
        obtain ⟨v, e2, h2⟩ := O.slots j _ q2
        exact ⟨v, e2, dp_mono gg _ _ h2⟩
    · rw [backE_out hj] at q
      have h := O1.slots j s q
      rw [wipe_out hj] at h
      exact h
  · have nv : ∀ {j : Nat} {s : Sl}, (backE e e1 vs)[j]? = some s → s.owned = true → e1[j]? = some s := fun {j s} q o => by
      by_cases hj : j ∈ vs
      · rw [no j s hj q] at o
        cases o
      · rw [backE_out hj] at q
        exact q
    exact O1.sep j k s t hjk (nv q1 o1) (nv q2 o2) o1 o2
end

/-! ### readings -/
/-- what an expression gives: a value, or a name's slot (read when it is used) -/
inductive Arg where
  | val (d : D)
  | slot (i : Nat)
/-- .. or an object of its own, new -/
inductive RV where
  | arg (a : Arg)
  | new (w : Ow)

abbrev Rel (α β : Type) := α → β → Hp → Hp → (Nat → List Addr) → L2.St → Fr → Prop
def ExOk (mg : Str → Option Value) (K : PySem.W.Frag) (G H : Hp) (x : Exn) (c : Value) (d : Option Addr) : Prop :=
  mg x.cls = some c ∧ ((x.flds = [] ∧ d = none) ∨ ∃ dx fs, d = some dx ∧ H dx = some (.xd fs) ∧ Paired (fun (p : Str × V) (q : Str × D) => p.1 = q.1 ∧ Dp K G p.2 q.2) fs x.flds)
section
variable {α β γ δ : Type}
def Wp (K : PySem.W.Frag) (mg : Str → Option Value) (Φ : Fx) (W : WX) (σ : L2.St) (ρ : Rel α β) (G : Hp) (r : R α) (Q : β → Hp → Prop) : Prop := match r with
  | .no => False
  | .ok a e => ∀ v H' G' F', Same G G' → Ok K Φ H' G' F' σ e → ρ a v H' G' F' σ e → Q v H'
  | .ex x e => ∀ c d H' G' F', Same G G' → Ok K Φ H' G' F' σ e → ExOk mg K G' H' x c d → W c d σ H'
def tG (K : PySem.W.Frag) (mg : Str → Option Value) (Φ : Fx) (W : WX) (ρ : Rel α β) (f : Fr → R α) : L2.St → Hp → (β → Hp → Prop) → Prop := fun σ H Q => ∃ G F e, Ok K Φ H G F σ e ∧ Wp K mg Φ W σ ρ G (f e) Q
variable {K : PySem.W.Frag} {mg : Str → Option Value} {Φ : Fx} {W : WX} {σ : L2.St} {ρ : Rel α β} {ρ' : Rel γ δ} {G G' : Hp} {r : R α}
theorem Wp.up {Q : β → Hp → Prop} (h : Wp K mg Φ W σ ρ G r Q) (gg : Same G G') : Wp K mg Φ W σ ρ G' r Q := by
  cases r with
  | no => exact h
  | ok a e => exact fun v H' G2 F' s o p => h v H' G2 F' (gg.trans s) o p
  | ex x e => exact fun c d H' G2 F' s o p => h c d H' G2 F' (gg.trans s) o p
/-- one behind the other -/
theorem Wp.seq {f : α → Fr → R γ} {Q : δ → Hp → Prop} (h : Wp K mg Φ W σ ρ' G (r.bind f) Q) :
    Wp K mg Φ W σ ρ G r (fun v H1 => ∃ G1 F1 e1 a, Same G G1 ∧ Ok K Φ H1 G1 F1 σ e1 ∧ ρ a v H1 G1 F1 σ e1 ∧ Wp K mg Φ W σ ρ' G1 (f a e1) Q) := by
  cases r with
  | no => exact h
  | ok a e => exact fun v H' G2 F' s o p => ⟨G2, F', e, a, s, o, p, Wp.up h s⟩
  | ex x e => exact h
theorem Wp.imp {Q Q' : β → Hp → Prop} (h : Wp K mg Φ W σ ρ G r Q) (w : ∀ v H, Q v H → Q' v H) : Wp K mg Φ W σ ρ G r Q' := by
  cases r with
  | no => exact h
  | ok a e => exact fun v H' G2 F' s o p => w _ _ (h v H' G2 F' s o p)
  | ex x e => exact h
/-- to show a reading: from a state -/
theorem tG.mk {f : Fr → R α} {H : Hp} {F : Nat → List Addr} {e : Fr} {Q : β → Hp → Prop} (O : Ok K Φ H G F σ e) (h : Wp K mg Φ W σ ρ G (f e) Q) : tG K mg Φ W ρ f σ H Q := ⟨G, F, e, O, h⟩
end

/-- an argument's value -/
def ra (K : PySem.W.Frag) : Rel Arg V := fun a v _ G _ σ _ => match a with
  | .val d => Dp K G v d
  | .slot i => σ[i]? = some (some v)
theorem ra_up {K : PySem.W.Frag} {a : Arg} {v : V} {H G H' G' : Hp} {F F' : Nat → List Addr} {σ : L2.St} {e e' : Fr} (h : ra K a v H G F σ e) (gg : Same G G') : ra K a v H' G' F' σ e' := by
  cases a with
  | val d => exact dp_mono gg _ _ h
  | slot i => exact h
/-- a value that may be new -/
def rr (K : PySem.W.Frag) (Φ : Fx) : Rel RV V := fun r v H G F σ e => match r with
  | .arg a => ra K a v H G F σ e
  | .new w => ∃ a A, v = .ref a ∧ OwAt K G H w a A ∧ (∀ b ∈ A, G b = none ∧ Φ.H_0 b = none) ∧ ∀ j t, e[j]? = some t → t.owned = true → ∀ b ∈ A, b ∉ F j
/-- a list of arguments -/
def rs (K : PySem.W.Frag) : Rel (List Arg) (List V) := fun as vs H G F σ e => Paired (fun a v => ra K a v H G F σ e) as vs
theorem rs_up {K : PySem.W.Frag} {H G H' G' : Hp} {F F' : Nat → List Addr} {σ : L2.St} {e e' : Fr} (gg : Same G G') : ∀ {as : List Arg} {vs : List V}, rs K as vs H G F σ e → rs K as vs H' G' F' σ e'
  | _, _, .nil => .nil
  | _, _, .cons h t => .cons (ra_up h gg) (rs_up gg t)
/-- a truth -/
def rb : Rel Bool Bool := fun a b _ _ _ _ _ => b = a

/-! ### judgements -/
abbrev Ef := Fr → R Arg
abbrev Rf := Fr → R RV
abbrev Af := Fr → R (List Arg)
abbrev Tf := Fr → R Bool
abbrev DE (X : Cx) (Φ : Fx) (W : WX) (e : Expr) (f : Ef) : Prop := PE X e (tG X.K X.mg Φ W (ra X.K) f)
abbrev DR (X : Cx) (Φ : Fx) (W : WX) (e : Expr) (f : Rf) : Prop := PE X e (tG X.K X.mg Φ W (rr X.K Φ) f)
abbrev DA (X : Cx) (Φ : Fx) (W : WX) (es : List Expr) (f : Af) : Prop := PA X es (tG X.K X.mg Φ W (rs X.K) f)
abbrev DT (X : Cx) (Φ : Fx) (W : WX) (e : Expr) (f : Tf) : Prop := PT X e (tG X.K X.mg Φ W rb f)
theorem pe_weak {X : Cx} {e : Expr} {t t' : TE} (h : PE X e t) (w : ∀ σ H Q, t' σ H Q → t σ H Q) : PE X e t' := ⟨fun pins s σ H Q I q => h.run pins s σ H Q I (w σ H Q q)⟩
theorem pt_weak {X : Cx} {e : Expr} {t t' : TT} (h : PT X e t) (w : ∀ σ H Q, t' σ H Q → t σ H Q) : PT X e t' := ⟨fun pins s σ H Q I q => h.run pins s σ H Q I (w σ H Q q)⟩
theorem pw_weak {X : Cx} {e : Expr} {t t' : TT} (h : PW X e t) (w : ∀ σ H Q, t' σ H Q → t σ H Q) : PW X e t' := ⟨fun wh pins s σ H Q I q => h.run wh pins s σ H Q I (w σ H Q q)⟩
theorem pa_weak {X : Cx} {es : List Expr} {t t' : TA} (h : PA X es t) (w : ∀ σ H Q, t' σ H Q → t σ H Q) : PA X es t' := ⟨fun pos pins s σ H Q I q => h.run pos pins s σ H Q I (w σ H Q q)⟩
theorem ps_weak {X : Cx} {st : Stmt} {t t' : TS} (h : PS X st t) (w : ∀ D σ H, t' D σ H → t D σ H) : PS X st t' := ⟨fun pins s σ H D I q => h.run pins s σ H D I (w D σ H q)⟩
theorem pss_weak {X : Cx} {st : List Stmt} {t t' : TS} (h : PSs X st t) (w : ∀ D σ H, t' D σ H → t D σ H) : PSs X st t' := ⟨fun pins s σ H D I q => h.run pins s σ H D I (w D σ H q)⟩
end DL
set_option Elab.async false
set_option linter.all false
set_option maxRecDepth 100000
set_option maxHeartbeats 4000000
/-! DlC: what a use of arguments reads; operations on data. -/
namespace DL
open PySem L2

/-- read now: frozen, or an object of the frame's own of frozen items -/
inductive Bp (K : PySem.W.Frag) (H G : Hp) : V → D → Prop where
  | dp {v : V} {d : D} (h : Dp K G v d) : Bp K H G v d
  | own {a : Addr} {vs : List V} {ds : List D} (h : H a = some (.lst vs)) (r : DpAll K G vs ds) : Bp K H G (.ref a) (.list ds)
abbrev BpAll (K : PySem.W.Frag) (H G : Hp) : List V → List D → Prop := Paired (Bp K H G)
section
variable {K : PySem.W.Frag} {H G : Hp} {v : V} {d : D}
theorem Bp.none (b : Bp K H G v .none) : v = .non := by cases b with | dp h => cases h; rfl
theorem Bp.bool {x : Bool} (b : Bp K H G v (.bool x)) : v = .bl x := by cases b with | dp h => cases h; rfl
theorem Bp.int {x : Int} (b : Bp K H G v (.int x)) : v = .int x := by cases b with | dp h => cases h; rfl
theorem Bp.str {x : Str} (b : Bp K H G v (.str x)) : v = .str x := by cases b with | dp h => cases h; rfl
theorem Bp.tup {ds : List D} (b : Bp K H G v (.tuple ds)) (gh : Same G H) : ∃ a vs, v = .ref a ∧ SqT K H a vs ∧ DpAll K G vs ds := by
  cases b with
  | dp h =>
    cases h with
    | tup h1 h2 => exact ⟨_, _, rfl, same_t gh h1, h2⟩
theorem Bp.tupG {ds : List D} (b : Bp K H G v (.tuple ds)) : ∃ a vs, v = .ref a ∧ SqT K G a vs ∧ DpAll K G vs ds := by
  cases b with
  | dp h =>
    cases h with
    | tup h1 h2 => exact ⟨_, _, rfl, h1, h2⟩
theorem Bp.lst {ds : List D} (b : Bp K H G v (.list ds)) (gh : Same G H) : ∃ a vs, v = .ref a ∧ SqL K H a vs ∧ DpAll K G vs ds := by
  cases b with
  | dp h =>
    cases h with
    | lst h1 h2 => exact ⟨_, _, rfl, same_l gh h1, h2⟩
  | own h r => exact ⟨_, _, rfl, .of h, r⟩
theorem Bp.dpH (b : Bp K H G v d) (gh : Same G H) : Dp K H v d := by
  cases b with
  | dp h => exact dp_mono gh _ _ h
  | own h r => exact .lst (.of h) (dpa_mono gh _ _ r)
theorem Bp.nodict {kvs : List (D × D)} (b : Bp K H G v (.dict kvs)) : False := by cases b with | dp h => cases h
end

theorem owls {K : PySem.W.Frag} {G H : Hp} {ds : List D} {a : Addr} {A : List Addr} (h : OwAt K G H (.ls ds) a A) : ∃ vs, H a = some (.lst vs) ∧ DpAll K G vs ds ∧ A = [a] := by
  cases h with
  | ls h1 h2 => exact ⟨_, h1, h2, rfl⟩
theorem owll {K : PySem.W.Frag} {G H : Hp} {dss : List (List D)} {a : Addr} {A : List Addr} (h : OwAt K G H (.ll dss) a A) : ∃ bs : List Addr, H a = some (.lst (bs.map V.ref)) ∧ bs.length = dss.length ∧ (a :: bs).Nodup ∧
    (∀ (j : Nat) (b : Addr) (ds : List D), bs[j]? = some b → dss[j]? = some ds → ∃ vs, H b = some (.lst vs) ∧ DpAll K G vs ds) ∧ A = a :: bs := by
  cases h with
  | ll h1 h2 h3 h4 => exact ⟨_, h1, h2, h3, h4, rfl⟩
/-- an argument, read now -/
def rd1 (e : Fr) : Arg → Option D
  | .val d => some d
  | .slot i => match e[i]? with
    | some (.sh d) => some d
    | some (.own (.ls ds)) => some (.list ds)
    | some (.io (.ls ds)) => some (.list ds)
    | _ => none
def rdA (e : Fr) : List Arg → Option (List D)
  | [] => some []
  | a :: as => match rd1 e a with
    | some d => match rdA e as with
      | some ds => some (d :: ds)
      | none => none
    | none => none
section
variable {K : PySem.W.Frag} {Φ : Fx} {H G : Hp} {F : Nat → List Addr} {σ : L2.St} {e : Fr}
theorem bp_of (O : Ok K Φ H G F σ e) {a : Arg} {v : V} {d : D} (r : ra K a v H G F σ e) (q : rd1 e a = some d) : Bp K H G v d := by
  cases a with
  | val d' =>
    cases q
    exact .dp r
  | slot i =>
    have r' : σ[i]? = some (some v) := r
    have q' : (match e[i]? with
      | some (.sh d) => some d
      | some (.own (.ls ds)) => some (PyData.list ds)
      | some (.io (.ls ds)) => some (PyData.list ds)
      | _ => none) = some d := q
    split at q'
    · rename_i d2 he
      cases q'
      obtain ⟨v2, e2, h2⟩ := O.slots i _ he
      rw [r'] at e2
      cases e2
      exact .dp h2
    · rename_i ds he
      cases q'
      obtain ⟨a2, e2, h2, _⟩ := O.slots i _ he
      rw [r'] at e2
      cases e2
      obtain ⟨vs, h3, h4, _⟩ := owls h2
      exact .own h3 h4
    · rename_i ds he
      cases q'
      obtain ⟨a2, e2, h2, _⟩ := O.slots i _ he
      rw [r'] at e2
      cases e2
      obtain ⟨vs, h3, h4, _⟩ := owls h2
      exact .own h3 h4
    · cases q'
theorem bps_of (O : Ok K Φ H G F σ e) : ∀ {as : List Arg} {vs : List V} {ds : List D}, rs K as vs H G F σ e → rdA e as = some ds → BpAll K H G vs ds
  | [], _, _, r, q => by
    cases r
    cases q
    exact .nil
  | a :: as, _, _, r, q => by
    cases r with
    | cons h t =>
      have q' : (match rd1 e a with
        | some d => match rdA e as with
          | some ds => some (d :: ds)
          | none => none
        | none => none) = some _ := q
      split at q'
      · rename_i d e1
        split at q'
        · rename_i ds e2
          cases q'
          exact .cons (bp_of O h e1) (bps_of O t e2)
        · cases q'
      · cases q'
end

/-! ### operations that give a value -/
/-- what a rule on values asks, when it does op on data -/
def r2 (K : PySem.W.Frag) (op : D → D → Option D) : R2 := fun x y H Q => ∃ G d1 d2 d, Same G H ∧ Bp K H G x d1 ∧ Bp K H G y d2 ∧ op d1 d2 = some d ∧ ∀ v H' G', Grow H G H' G' → Dp K G' v d → Q v H'
def r1 (K : PySem.W.Frag) (op : D → Option D) : V → Hp → VK → Prop := fun x H Q => ∃ G d1 d, Same G H ∧ Bp K H G x d1 ∧ op d1 = some d ∧ ∀ v H' G', Grow H G H' G' → Dp K G' v d → Q v H'
def rP (K : PySem.W.Frag) (op : List D → Option D) : List V → Hp → VK → Prop := fun xs H Q => ∃ G ds d, Same G H ∧ BpAll K H G xs ds ∧ op ds = some d ∧ ∀ v H' G', Grow H G H' G' → Dp K G' v d → Q v H'
/-- .. a new list -/
def rN (K : PySem.W.Frag) (op : List D → Option (List D)) : List V → Hp → VK → Prop := fun xs H Q => ∃ G ds es, Same G H ∧ BpAll K H G xs ds ∧ op ds = some es ∧ ∀ p vs, H p = none → vs.length = es.length → DpAll K G vs es → Q (.ref p) (upd H p (.lst vs))

def dAdd : D → D → Option D
  | .int i, .int j => some (.int (i + j))
  | .str x, .str y => if x.length + y.length ≤ sizeLine then some (.str (x ++ y)) else none
  | .tuple xs, .tuple ys => if xs.length + ys.length ≤ sizeLine then some (.tuple (xs ++ ys)) else none
  | _, _ => none
def dSub : D → D → Option D
  | .int i, .int j => some (.int (i - j))
  | _, _ => none
def dMul : D → D → Option D
  | .int i, .int j => if (Builtin.Int.intBits i : Int) + (Builtin.Int.intBits j : Int) ≤ 134217728 then some (.int (i * j)) else none
  | _, _ => none
def dFdiv : D → D → Option D
  | .int i, .int j => if j ≠ 0 ∧ j.natAbs.log2 < 9000 then some (.int (i.fdiv j)) else none
  | _, _ => none
def dMod : D → D → Option D
  | .int i, .int j => if j ≠ 0 then some (.int (i.fmod j)) else none
  | _, _ => none
def dPow : D → D → Option D
  | .int i, .int j => if 0 ≤ j ∧ j ≤ 1000000 ∧ i.natAbs < 2 ^ 64 then some (.int (i ^ j.toNat)) else none
  | _, _ => none
def dNeg : D → Option D
  | .int i => some (.int (-i))
  | _ => none
def dLt : D → D → Option D
  | .int i, .int j => some (.bool (decide (i < j)))
  | _, _ => none
def dLe : D → D → Option D
  | .int i, .int j => some (.bool (decide (i ≤ j)))
  | _, _ => none
def dGt : D → D → Option D
  | .int i, .int j => some (.bool (decide (j < i)))
  | _, _ => none
def dGe : D → D → Option D
  | .int i, .int j => some (.bool (decide (j ≤ i)))
  | _, _ => none
def bothStr : D → D → Bool
  | .str _, .str _ => true
  | _, _ => false
def dEq : D → D → Option D := fun x y => if bothStr x y = true then some (.bool (PyData.eqv x y)) else if SeqAt.shaped x = true ∧ SeqAt.shaped y = true then some (.bool (PyData.eqv x y)) else none
def dNe : D → D → Option D := fun x y => if bothStr x y = true then some (.bool (!PyData.eqv x y)) else if SeqAt.shaped x = true ∧ SeqAt.shaped y = true then some (.bool (!PyData.eqv x y)) else none
def isNone : D → Bool
  | .none => true
  | _ => false
def dIs : D → D → Option D
  | .bool a, .bool b => some (.bool (decide (a = b)))
  | x, .none => some (.bool (isNone x))
  | _, _ => none
def dIsN : D → D → Option D
  | .bool a, .bool b => some (.bool (!decide (a = b)))
  | x, .none => some (.bool (!isNone x))
  | _, _ => none
/-- x[i] -/
def dIx : D → D → Option D
  | .list xs, .int i => atI xs i
  | .tuple xs, .int i => atI xs i
  | .str z, .int i => if z.length ≤ sizeLine then (atI z.cps.toList i).map fun c => .str ⟨#[c]⟩ else none
  | _, _ => none

section
variable {X : Cx}
theorem op_dAdd : OpR X (binaryOp .Add) (r2 X.K dAdd) := by
  intro pins s σ H x y v u Q I rx ry h
  obtain ⟨G, d1, d2, d, gh, b1, b2, ho, k⟩ := h
  unfold dAdd at ho
  split at ho
  · cases ho
    obtain rfl := b1.int
    obtain rfl := b2.int
    exact op_add pins s σ H _ _ v u Q I rx ry ⟨_, _, rfl, rfl, k _ _ _ (Grow.refl gh) (.int _)⟩
  · split at ho
    · rename_i hz
      cases ho
      obtain rfl := b1.str
      obtain rfl := b2.str
      exact op_add_str pins s σ H _ _ v u Q I rx ry ⟨_, _, rfl, rfl, hz, k _ _ _ (Grow.refl gh) (.str _)⟩
    · cases ho
  · split at ho
    · rename_i hz
      cases ho
      obtain ⟨a1, vs1, rfl, t1, p1⟩ := b1.tup gh
      obtain ⟨a2, vs2, rfl, t2, p2⟩ := b2.tup gh
      have l1 := DpAll.len p1
      have l2 := DpAll.len p2
      refine op_catA pins s σ H _ _ v u Q I rx ry ⟨a1, a2, vs1, vs2, rfl, rfl, t1, t2, by rw [l1, l2]; exact hz, fun z => ?_, fun _ z => ?_, fun _ _ p hp => ?_⟩
      · subst z
        cases p1
        refine k _ H G (Grow.refl gh) ?_
        cases b2 with
        | dp h => exact h
      · subst z
        cases p2
        refine k _ H G (Grow.refl gh) ?_
        rw [List.append_nil]
        cases b1 with
        | dp h => exact h
      · exact k _ _ _ (Grow.laid gh hp) (.tup (.of upd_same) (dpa_mono (same_new (same_back gh hp)) _ _ (DpAll.app p1 p2)))
    · cases ho
  · cases ho
theorem op_dSub : OpR X (binaryOp .Sub) (r2 X.K dSub) := by
  intro pins s σ H x y v u Q I rx ry h
  obtain ⟨G, d1, d2, d, gh, b1, b2, ho, k⟩ := h
  unfold dSub at ho
  split at ho
  · cases ho
    obtain rfl := b1.int
    obtain rfl := b2.int
    exact op_sub pins s σ H _ _ v u Q I rx ry ⟨_, _, rfl, rfl, k _ _ _ (Grow.refl gh) (.int _)⟩
  · cases ho
theorem op_dMul : OpR X (binaryOp .Mult) (r2 X.K dMul) := by
  intro pins s σ H x y v u Q I rx ry h
  obtain ⟨G, d1, d2, d, gh, b1, b2, ho, k⟩ := h
  unfold dMul at ho
  split at ho
  · split at ho
    · rename_i hc
      cases ho
      obtain rfl := b1.int
      obtain rfl := b2.int
      exact op_mulX pins s σ H _ _ v u Q I rx ry ⟨_, _, rfl, rfl, hc, k _ _ _ (Grow.refl gh) (.int _)⟩
    · cases ho
  · cases ho
theorem op_fdivX : OpR X (binaryOp .FloorDiv) (rI (fun _ j => j ≠ 0 ∧ j.natAbs.log2 < 9000) fun i j => .int (i.fdiv j)) := opI fun i j _ _ _ _ _ hc q => PyProof.Rows.floordiv_int hc.1 q (.inl (PyProof.noPylong_of_log2 hc.2))
theorem op_dFdiv : OpR X (binaryOp .FloorDiv) (r2 X.K dFdiv) := by
  intro pins s σ H x y v u Q I rx ry h
  obtain ⟨G, d1, d2, d, gh, b1, b2, ho, k⟩ := h
  unfold dFdiv at ho
  split at ho
  · split at ho
    · rename_i hc
      cases ho
      obtain rfl := b1.int
      obtain rfl := b2.int
      exact op_fdivX pins s σ H _ _ v u Q I rx ry ⟨_, _, rfl, rfl, hc, k _ _ _ (Grow.refl gh) (.int _)⟩
    · cases ho
  · cases ho
theorem op_dMod : OpR X (binaryOp .Mod) (r2 X.K dMod) := by
  intro pins s σ H x y v u Q I rx ry h
  obtain ⟨G, d1, d2, d, gh, b1, b2, ho, k⟩ := h
  unfold dMod at ho
  split at ho
  · split at ho
    · rename_i hc
      cases ho
      obtain rfl := b1.int
      obtain rfl := b2.int
      exact op_modN pins s σ H _ _ v u Q I rx ry ⟨_, _, rfl, rfl, hc, k _ _ _ (Grow.refl gh) (.int _)⟩
    · cases ho
  · cases ho
theorem op_dPow : OpR X (binaryOp .Pow) (r2 X.K dPow) := by
  intro pins s σ H x y v u Q I rx ry h
  obtain ⟨G, d1, d2, d, gh, b1, b2, ho, k⟩ := h
  unfold dPow at ho
  split at ho
  · split at ho
    · rename_i hc
      cases ho
      obtain rfl := b1.int
      obtain rfl := b2.int
      exact op_pow pins s σ H _ _ v u Q I rx ry ⟨_, _, rfl, rfl, hc, k _ _ _ (Grow.refl gh) (.int _)⟩
    · cases ho
  · cases ho
theorem op_dNeg : UnR X (unaryOp .USub) (r1 X.K dNeg) := by
  intro pins s σ H x v Q I rx h
  obtain ⟨G, d1, d, gh, b1, ho, k⟩ := h
  unfold dNeg at ho
  split at ho
  · cases ho
    obtain rfl := b1.int
    exact un_neg pins s σ H _ v Q I rx ⟨_, rfl, k _ _ _ (Grow.refl gh) (.int _)⟩
  · cases ho
theorem op_dLt : OpR X (compareOp .Lt) (r2 X.K dLt) := by
  intro pins s σ H x y v u Q I rx ry h
  obtain ⟨G, d1, d2, d, gh, b1, b2, ho, k⟩ := h
  unfold dLt at ho
  split at ho
  · cases ho
    obtain rfl := b1.int
    obtain rfl := b2.int
    exact op_lt pins s σ H _ _ v u Q I rx ry ⟨_, _, rfl, rfl, k _ _ _ (Grow.refl gh) (.bl _)⟩
  · cases ho
theorem op_dLe : OpR X (compareOp .LtE) (r2 X.K dLe) := by
  intro pins s σ H x y v u Q I rx ry h
  obtain ⟨G, d1, d2, d, gh, b1, b2, ho, k⟩ := h
  unfold dLe at ho
  split at ho
  · cases ho
    obtain rfl := b1.int
    obtain rfl := b2.int
    exact op_le pins s σ H _ _ v u Q I rx ry ⟨_, _, rfl, rfl, k _ _ _ (Grow.refl gh) (.bl _)⟩
  · cases ho
theorem op_dGt : OpR X (compareOp .Gt) (r2 X.K dGt) := by
  intro pins s σ H x y v u Q I rx ry h
  obtain ⟨G, d1, d2, d, gh, b1, b2, ho, k⟩ := h
  unfold dGt at ho
  split at ho
  · cases ho
    obtain rfl := b1.int
    obtain rfl := b2.int
    exact op_gt pins s σ H _ _ v u Q I rx ry ⟨_, _, rfl, rfl, k _ _ _ (Grow.refl gh) (.bl _)⟩
  · cases ho
theorem op_dGe : OpR X (compareOp .GtE) (r2 X.K dGe) := by
  intro pins s σ H x y v u Q I rx ry h
  obtain ⟨G, d1, d2, d, gh, b1, b2, ho, k⟩ := h
  unfold dGe at ho
  split at ho
  · cases ho
    obtain rfl := b1.int
    obtain rfl := b2.int
    exact op_ge pins s σ H _ _ v u Q I rx ry ⟨_, _, rfl, rfl, k _ _ _ (Grow.refl gh) (.bl _)⟩
  · cases ho
theorem dec_str {i j : Str} : decide (V.str i = V.str j) = PyData.eqv (.str i) (.str j) := by
  simp only [PyData.eqv]
  rw [Bool.eq_iff_iff]
  simp
theorem op_dEq (hu : X.A.units + 64 < cLine) : OpR X (compareOp .Eq) (r2 X.K dEq) := by
  intro pins s σ H x y v u Q I rx ry h
  obtain ⟨G, d1, d2, d, gh, b1, b2, ho, k⟩ := h
  unfold dEq at ho
  split at ho
  · rename_i hc
    cases ho
    cases d1 <;> first | exact absurd hc Bool.false_ne_true | skip
    cases d2 <;> first | exact absurd hc Bool.false_ne_true | skip
    rename_i z1 z2
    obtain rfl := b1.str
    obtain rfl := b2.str
    refine op_eq pins s σ H _ _ v u Q I rx ry ⟨rfl, ?_⟩
    rw [dec_str]
    exact k _ _ _ (Grow.refl gh) (.bl _)
  split at ho
  · rename_i hc
    cases ho
    exact op_eqD hu pins s σ H _ _ v u Q I rx ry ⟨_, _, b1.dpH gh, b2.dpH gh, hc.1, hc.2, k _ _ _ (Grow.refl gh) (.bl _)⟩
  · cases ho
theorem op_dNe (hu : X.A.units + 64 < cLine) : OpR X (compareOp .NotEq) (r2 X.K dNe) := by
  intro pins s σ H x y v u Q I rx ry h
  obtain ⟨G, d1, d2, d, gh, b1, b2, ho, k⟩ := h
  unfold dNe at ho
  split at ho
  · rename_i hc
    cases ho
    cases d1 <;> first | exact absurd hc Bool.false_ne_true | skip
    cases d2 <;> first | exact absurd hc Bool.false_ne_true | skip
    rename_i z1 z2
    obtain rfl := b1.str
    obtain rfl := b2.str
    refine op_ne pins s σ H _ _ v u Q I rx ry ⟨rfl, ?_⟩
    rw [dec_str]
    exact k _ _ _ (Grow.refl gh) (.bl _)
  split at ho
  · rename_i hc
    cases ho
    exact op_neD hu pins s σ H _ _ v u Q I rx ry ⟨_, _, b1.dpH gh, b2.dpH gh, hc.1, hc.2, k _ _ _ (Grow.refl gh) (.bl _)⟩
  · cases ho
theorem isNone_v {K : PySem.W.Frag} {H : Hp} {v : V} {d : D} (h : Dp K H v d) : decide (v = .non) = isNone d := by
  cases h <;> rfl
theorem op_dIs : OpR X (compareOp .Is) (r2 X.K dIs) := by
  intro pins s σ H x y v u Q I rx ry h
  obtain ⟨G, d1, d2, d, gh, b1, b2, ho, k⟩ := h
  unfold dIs at ho
  split at ho
  · cases ho
    obtain rfl := b1.bool
    obtain rfl := b2.bool
    exact op_isBl pins s σ H _ _ v u Q I rx ry ⟨_, _, rfl, rfl, k _ _ _ (Grow.refl gh) (.bl _)⟩
  · cases ho
    obtain rfl := b2.none
    exact op_isN pins s σ H _ _ v u Q I rx ry ⟨rfl, k _ _ _ (Grow.refl gh) (by rw [isNone_v (b1.dpH gh)]; exact .bl _)⟩
  · cases ho
theorem op_dIsN : OpR X (compareOp .IsNot) (r2 X.K dIsN) := by
  intro pins s σ H x y v u Q I rx ry h
  obtain ⟨G, d1, d2, d, gh, b1, b2, ho, k⟩ := h
  unfold dIsN at ho
  split at ho
  · cases ho
    obtain rfl := b1.bool
    obtain rfl := b2.bool
    exact op_notBl pins s σ H _ _ v u Q I rx ry ⟨_, _, rfl, rfl, k _ _ _ (Grow.refl gh) (.bl _)⟩
  · cases ho
    obtain rfl := b2.none
    exact op_notN pins s σ H _ _ v u Q I rx ry ⟨rfl, k _ _ _ (Grow.refl gh) (by rw [isNone_v (b1.dpH gh)]; exact .bl _)⟩
  · cases ho
theorem atI_dp {K : PySem.W.Frag} {G : Hp} {vs : List V} {ds : List D} {i : Int} {d : D} (p : DpAll K G vs ds) (h : atI ds i = some d) : ∃ v, atI vs i = some v ∧ Dp K G v d := by
  unfold atI at h ⊢
  rw [DpAll.len p]
  cases e : ixN ds.length i with
  | none =>
    rw [e] at h
    cases h
  | some j =>
    rw [e] at h
    exact DpAll.at p h
theorem ix_d : IxR X (r2 X.K dIx) := by
  intro value slice pins s σ H x y v u Q I rx ry h hs
  obtain ⟨G, d1, d2, d, gh, b1, b2, ho, k⟩ := h
  unfold dIx at ho
  split at ho
  · rename_i xs i
    obtain ⟨a, vs, rfl, t, p⟩ := b1.lst gh
    obtain ⟨w, e1, h1⟩ := atI_dp p ho
    obtain rfl := b2.int
    exact ix_list value slice pins s σ H _ _ v u Q I rx ry ⟨a, vs, i, w, rfl, rfl, t, e1, k _ _ _ (Grow.refl gh) h1⟩ hs
  · rename_i xs i
    obtain ⟨a, vs, rfl, t, p⟩ := b1.tup gh
    obtain ⟨w, e1, h1⟩ := atI_dp p ho
    obtain rfl := b2.int
    exact ix_tup value slice pins s σ H _ _ v u Q I rx ry ⟨a, vs, i, w, rfl, rfl, t, e1, k _ _ _ (Grow.refl gh) h1⟩ hs
  · rename_i z i
    split at ho
    · rename_i hz
      cases e : atI z.cps.toList i with
      | none =>
        rw [e] at ho
        cases ho
      | some c =>
        rw [e] at ho
        cases ho
        obtain rfl := b1.str
        obtain rfl := b2.int
        exact ix_str value slice pins s σ H _ _ v u Q I rx ry ⟨z, i, c, rfl, rfl, hz, e, k _ _ _ (Grow.refl gh) (.str _)⟩ hs
    · cases ho
  · cases ho
end

/-! ### slices -/
def cutD (xs : List D) (lo hi : Option Int) : List D := (xs.drop (HT.sIx xs.length 0 lo)).take (HT.sIx xs.length xs.length hi - HT.sIx xs.length 0 lo)
theorem cut_dp {K : PySem.W.Frag} {G : Hp} {vs : List V} {ds : List D} (p : DpAll K G vs ds) (lo hi : Option Int) : DpAll K G (cutV vs lo hi) (cutD ds lo hi) := by
  unfold cutV cutD
  rw [DpAll.len p]
  exact DpAll.take _ (DpAll.drop _ p)
/-- a slice of a tuple, a text; of a list it is a new list -/
def dCut : D → Option Int → Option Int → Option D
  | .tuple xs, lo, hi => some (.tuple (cutD xs lo hi))
  | .str z, lo, hi => if z.length ≤ sizeLine then some (.str (cutS z lo hi)) else none
  | _, _, _ => none
def rCut (K : PySem.W.Frag) : V → Option Int → Option Int → Hp → VK → Prop := fun x lo hi H Q => ∃ G d1 d, Same G H ∧ Bp K H G x d1 ∧ dCut d1 lo hi = some d ∧ ∀ v H' G', Grow H G H' G' → Dp K G' v d → Q v H'
def rCutN (K : PySem.W.Frag) : V → Option Int → Option Int → Hp → VK → Prop := fun x lo hi H Q => ∃ G ds, Same G H ∧ Bp K H G x (.list ds) ∧ ∀ p vs, H p = none → DpAll K G vs (cutD ds lo hi) → Q (.ref p) (upd H p (.lst vs))
section
variable {X : Cx}
theorem cutD_whole {xs : List D} {lo hi : Option Int} (h : HT.sIx xs.length 0 lo = 0 ∧ HT.sIx xs.length xs.length hi = xs.length) : cutD xs lo hi = xs := by
  unfold cutD
  rw [h.1, h.2]
  simp
theorem sl_d : SlR X (rCut X.K) := by
  intro pins s σ H x v vl vu lo hi sl Q I rx hs pl pu h
  obtain ⟨G, d1, d, gh, b1, ho, k⟩ := h
  unfold dCut at ho
  split at ho
  · rename_i xs
    cases ho
    obtain ⟨a, vs, rfl, t, p⟩ := b1.tup gh
    have l := DpAll.len p
    refine sl_tupA pins s σ H _ v vl vu lo hi sl Q I rx hs pl pu ⟨a, vs, rfl, t, fun z => ?_, fun _ q hq => ?_⟩
    · rw [l] at z
      rw [cutD_whole z] at k
      refine k _ H G (Grow.refl gh) ?_
      cases b1 with
      | dp h => exact h
    · exact k _ _ _ (Grow.laid gh hq) (.tup (.of upd_same) (dpa_mono (same_new (same_back gh hq)) _ _ (cut_dp p lo hi)))
  · split at ho
    · rename_i hz
      cases ho
      obtain rfl := b1.str
      exact sl_str pins s σ H _ v vl vu lo hi sl Q I rx hs pl pu ⟨_, rfl, hz, k _ _ _ (Grow.refl gh) (.str _)⟩
    · cases ho
  · cases ho
theorem sl_dN : SlR X (rCutN X.K) := by
  intro pins s σ H x v vl vu lo hi sl Q I rx hs pl pu h
  obtain ⟨G, ds, gh, b1, k⟩ := h
  obtain ⟨a, vs, rfl, t, p⟩ := b1.lst gh
  exact sl_list pins s σ H _ v vl vu lo hi sl Q I rx hs pl pu ⟨a, vs, rfl, t, fun q hq => k q _ hq (cut_dp p lo hi)⟩
end

/-! ### truth -/
def truth : D → Option Bool
  | .none => some false
  | .bool b => some b
  | .int i => some (i != 0)
  | .str y => if y.length ≤ sizeLine then some ((y.length : Int) != 0) else none
  | .list xs => some (!xs.isEmpty)
  | .tuple xs => some (!xs.isEmpty)
  | .dict _ => none
theorem truth_v {K : PySem.W.Frag} {H G : Hp} {v : V} {d : D} {k : Bool} (b : Bp K H G v d) (gh : Same G H) (h : truth d = some k) : TruV K v H k := by
  have emp : ∀ {vs : List V} {ds : List D}, DpAll K G vs ds → (!ds.isEmpty) = !vs.isEmpty := fun p => by
    cases p <;> rfl
  unfold truth at h
  split at h
  · cases h
    rw [b.none]
    rfl
  · cases h
    rw [b.bool]
    rfl
  · cases h
    rw [b.int]
    rfl
  · split at h
    · rename_i hz
      cases h
      rw [b.str]
      exact ⟨hz, rfl⟩
    · cases h
  · cases h
    obtain ⟨a, vs, rfl, t, p⟩ := b.lst gh
    exact .inl ⟨vs, t, emp p⟩
  · cases h
    obtain ⟨a, vs, rfl, t, p⟩ := b.tup gh
    exact .inr (.inl ⟨vs, t, emp p⟩)
  · cases h
end DL
set_option Elab.async false
set_option linter.all false
set_option maxRecDepth 100000
set_option maxHeartbeats 4000000
/-! DlD: expressions. -/
namespace DL
open PySem L2

section
variable {K : PySem.W.Frag} {Φ : Fx} {H G : Hp} {F : Nat → List Addr} {σ : L2.St} {e : Fr}
/-- an object that no slot has is frozen -/
theorem Ok.takes {w : Ow} {a : Addr} {A : List Addr} (O : Ok K Φ H G F σ e) (h : OwAt K G H w a A) (n : ∀ b ∈ A, G b = none ∧ Φ.H_0 b = none) (ap : ∀ j t, e[j]? = some t → t.owned = true → ∀ b ∈ A, b ∉ F j) :
    Same G (takeIn H G A) ∧ Ok K Φ H (takeIn H G A) F σ e ∧ Dp K (takeIn H G A) (.ref a) w.toD := by
  have hs : Same G (takeIn H G A) := takeIn_same fun b hb => (n b hb).1
  refine ⟨hs, ?_, h.dp hs fun b hb => takeIn_in hb⟩
  refine ⟨takeIn_sub O.gh, O.len, fun j s q => ?_, O.sep, O.f0, O.f1, fun b hb => ?_⟩
  · have old := O.slots j s q
    have out : s.owned = true → ∀ b ∈ F j, b ∉ A := fun o b hb hb2 => ap j s q o b hb2 hb
    cases s with
    | un => trivial
    | xn => first | exact old | exact h | exact h1 | exact h2 | exact q | exact O.slots _ _ ‹_›
    | sh d =>
      obtain ⟨v, e2, h3⟩ := old
      exact ⟨v, e2, dp_mono hs _ _ h3⟩
    | own u =>
      obtain ⟨a2, e2, h3, h4⟩ := old
      exact ⟨a2, e2, h3.mono hs (fun _ _ _ q => q), fun b hb => ⟨by rw [takeIn_out (out rfl b hb)]; exact (h4 b hb).1, (h4 b hb).2⟩⟩
    | io u =>
      obtain ⟨a2, e2, h3, h4⟩ := old
      exact ⟨a2, e2, h3.mono hs (fun _ _ _ q => q), fun b hb => ⟨by rw [takeIn_out (out rfl b hb)]; exact (h4 b hb).1, (h4 b hb).2⟩⟩
  · rw [takeIn_out fun z => hb (n b z).2]
    exact O.f2 b hb
end

/-! ### names, constants -/
def eVar (i : Nat) : Ef := fun e => match e[i]? with
  | none => .no
  | some .un => .no
  | some _ => .ok (.slot i) e
def eC (d : D) : Ef := fun e => .ok (.val d) e
section
variable {X : Cx} {Φ : Fx} {W : WX}
theorem d_var (i : Nat) {x : Str} {pos : Pos} (hN : X.N[i]? = some x := by rfl) (hv : Vis X.env.scope x := by first | exact Or.inl rfl | exact Or.inr (Or.inl rfl) | exact Or.inr (Or.inr rfl)) (hd : (x == ("__debug__" : Str)) = false := by decide)
    (hcd : (x == ("__classdict__" : Str)) = false := by decide) : DE X Φ W (.Name x pos) (eVar i) := pe_weak (pv i hN hv hd hcd) fun σ H Q ⟨G, F, e, O, h⟩ => by
  have h' : Wp X.K X.mg Φ W σ (ra X.K) G (match e[i]? with
    | none => .no
    | some .un => .no
    | some _ => .ok (.slot i) e) Q := h
  have fin : ∀ {v : V}, σ[i]? = some (some v) → Wp X.K X.mg Φ W σ (ra X.K) G (R.ok (.slot i) e) Q → tVar i σ H Q := fun {v} q z => ⟨v, q, z v H G F (Same.refl G) O q⟩
  split at h'
  · exact h'.elim
  · exact h'.elim
  · rename_i s hs hi
    have sl := O.slots i s hi
    cases s with
    | un => exact (hs rfl).elim
    | xn => exact fin sl h'
    | sh d =>
      obtain ⟨v, q, _⟩ := sl
      exact fin q h'
    | own w =>
      obtain ⟨a, q, _⟩ := sl
      exact fin q h'
    | io w =>
      obtain ⟨a, q, _⟩ := sl
      exact fin q h'
theorem tC_weak {v : V} {d : D} (hd : ∀ G, Dp X.K G v d) (σ : L2.St) (H : Hp) (Q : VK) (t : tG X.K X.mg Φ W (ra X.K) (eC d) σ H Q) : tC v σ H Q := by
  obtain ⟨G, F, e, O, h⟩ := t
  exact h v H G F (Same.refl G) O (hd G)
theorem d_int {i : Int} {j pos} : DE X Φ W (.Constant (.int i) j pos) (eC (.int i)) := pe_weak pe_int (tC_weak fun _ => .int i)
theorem d_bool {b : Bool} {j pos} : DE X Φ W (.Constant (.bool b) j pos) (eC (.bool b)) := pe_weak pe_bl (tC_weak fun _ => .bl b)
theorem d_none {j pos} : DE X Φ W (.Constant .none j pos) (eC .none) := pe_weak pe_non (tC_weak fun _ => .non)
theorem d_str {x : Str} {j pos} : DE X Φ W (.Constant (.str x) j pos) (eC (.str x)) := pe_weak pe_str (tC_weak fun _ => .str x)
theorem d_glob {x : Str} {v : V} {u : Value} {d : D} {pos : Pos} (hm : X.mg x = some u) (r : RelV v u) (hd : ∀ G, Dp X.K G v d) (hg : Gl X x := by rfl) (hb : (x == ("__debug__" : Str)) = false := by decide) : DE X Φ W (.Name x pos) (eC d) :=
  pe_weak (pe_glob hg hm r hb) (tC_weak hd)
end

/-! ### new objects as values -/
def eFz (f : Rf) : Ef := fun e => (f e).bind fun r e1 => match r with
  | .arg a => .ok a e1
  | .new w => .ok (.val w.toD) e1
def eR (f : Ef) : Rf := fun e => (f e).bind fun a e1 => .ok (.arg a) e1
section
variable {X : Cx} {Φ : Fx} {W : WX} {x : Expr}
theorem eFz_weak {f : Rf} {σ : L2.St} {H : Hp} {Q : VK} (t : tG X.K X.mg Φ W (ra X.K) (eFz f) σ H Q) : tG X.K X.mg Φ W (rr X.K Φ) f σ H Q := by
  obtain ⟨G, F, e, O, h⟩ := t
  refine ⟨G, F, e, O, Wp.imp (Wp.seq h) fun v H1 ⟨G1, F1, e1, r, g1, O1, r1, h1⟩ => ?_⟩
  cases r with
  | arg a => exact h1 v H1 G1 F1 (Same.refl _) O1 r1
  | new w =>
    obtain ⟨a, A, rfl, o, n, ap⟩ := r1
    obtain ⟨s1, s2, s3⟩ := O1.takes o n ap
    exact h1 _ H1 _ F1 s1 s2 s3
theorem d_fz {f : Rf} (h : DR X Φ W x f) : DE X Φ W x (eFz f) := pe_weak h fun _ _ _ t => eFz_weak t
theorem eR_weak {f : Ef} {σ : L2.St} {H : Hp} {Q : VK} (t : tG X.K X.mg Φ W (rr X.K Φ) (eR f) σ H Q) : tG X.K X.mg Φ W (ra X.K) f σ H Q := by
  obtain ⟨G, F, e, O, h⟩ := t
  exact ⟨G, F, e, O, Wp.imp (Wp.seq h) fun v H1 ⟨G1, F1, e1, r, g1, O1, r1, h1⟩ => h1 v H1 G1 F1 (Same.refl _) O1 r1⟩
theorem d_r {f : Ef} (h : DE X Φ W x f) : DR X Φ W x (eR f) := pe_weak h fun _ _ _ t => eR_weak t
end

/-! ### arguments kept for good -/
def fz (a : Arg) (e : Fr) : R D := match a with
  | .val d => .ok d e
  | .slot i => match e[i]? with
    | some (.sh d) => .ok d e
    | some (.own w) => .ok w.toD (e.set i (.sh w.toD))
    | _ => .no
def fzA : List Arg → Fr → R (List D)
  | [], e => .ok [] e
  | a :: as, e => (fz a e).bind fun d e1 => (fzA as e1).bind fun ds e2 => .ok (d :: ds) e2
/-- a data value -/
def rd (K : PySem.W.Frag) : Rel D V := fun d v _ G _ _ _ => Dp K G v d
section
variable {K : PySem.W.Frag} {mg : Str → Option Value} {Φ : Fx} {W : WX} {H G : Hp} {F : Nat → List Addr} {σ : L2.St} {e : Fr}
theorem fz_ok (O : Ok K Φ H G F σ e) {a : Arg} {v : V} (r : ra K a v H G F σ e) {d : D} {e' : Fr} (q : fz a e = .ok d e') : ∃ G', Same G G' ∧ Ok K Φ H G' F σ e' ∧ Dp K G' v d := by
  cases a with
  | val d' =>
    cases q
    exact ⟨G, Same.refl _, O, r⟩
  | slot i =>
    have q' : (match e[i]? with
      | some (.sh d) => R.ok d e
      | some (.own w) => R.ok w.toD (e.set i (.sh w.toD))
      | _ => R.no) = R.ok d e' := q
    split at q'
    · rename_i d2 he
      cases q'
      obtain ⟨v2, e2, h2⟩ := O.slots i _ he
      have r' : σ[i]? = some (some v) := r
      rw [r'] at e2
      cases e2
      exact ⟨G, Same.refl _, O, h2⟩
    · rename_i w he
      cases q'
      obtain ⟨s1, s2, s3⟩ := O.freeze he
      exact ⟨_, s1, s2, s3 v r⟩
    · cases q'
theorem fz_no {a : Arg} {x : Exn} {e' : Fr} (q : fz a e = .ex x e') : False := by
  cases a with
  | val d' => cases q
  | slot i =>
    have q' : (match e[i]? with
      | some (.sh d) => R.ok d e
      | some (.own w) => R.ok w.toD (e.set i (.sh w.toD))
      | _ => R.no) = R.ex x e' := q
    split at q' <;> cases q'
theorem fzA_ok : ∀ {as : List Arg} {vs : List V} {H G : Hp} {F : Nat → List Addr} {e : Fr} {ds : List D} {e' : Fr}, Ok K Φ H G F σ e → rs K as vs H G F σ e → fzA as e = .ok ds e' → ∃ G', Same G G' ∧ Ok K Φ H G' F σ e' ∧ DpAll K G' vs ds
  | [], _, H, G, F, e, _, _, O, r, q => by
    cases r
    cases q
    exact ⟨G, Same.refl _, O, .nil⟩
  | a :: as, _, H, G, F, e, _, _, O, r, q => by
    cases r with
    | cons h t =>
      have q' : ((fz a e).bind fun d e1 => (fzA as e1).bind fun ds e2 => R.ok (d :: ds) e2) = _ := q
      cases q1 : fz a e with
      | no =>
        rw [q1] at q'
        cases q'
      | ex x e1 =>
        rw [q1] at q'
        cases q'
      | ok d e1 =>
        rw [q1, R.bind_ok] at q'
        obtain ⟨G1, s1, O1, h1⟩ := fz_ok O h q1
        cases q2 : fzA as e1 with
        | no =>
          rw [q2] at q'
          cases q'
        | ex x e2 =>
          rw [q2] at q'
          cases q'
        | ok ds e2 =>
          rw [q2, R.bind_ok] at q'
          cases q'
          obtain ⟨G2, s2, O2, h2⟩ := fzA_ok O1 (rs_up s1 t) q2
          exact ⟨G2, s1.trans s2, O2, .cons (dp_mono s2 _ _ h1) h2⟩
theorem fzA_no : ∀ {as : List Arg} {e : Fr} {x : Exn} {e' : Fr}, fzA as e = .ex x e' → False
  | [], _, _, _, q => by cases q
  | a :: as, e, x, e', q => by
    have q' : ((fz a e).bind fun d e1 => (fzA as e1).bind fun ds e2 => R.ok (d :: ds) e2) = .ex x e' := q
    cases q1 : fz a e with
    | no =>
      rw [q1] at q'
      cases q'
    | ex x e1 => exact fz_no q1
    | ok d e1 =>
      rw [q1, R.bind_ok] at q'
      cases q2 : fzA as e1 with
      | no =>
        rw [q2] at q'
        cases q'
      | ex x e2 => exact fzA_no q2
      | ok ds e2 =>
        rw [q2, R.bind_ok] at q'
        cases q'
/-- freezing, in a reading -/
theorem Wp.fz {α β : Type} {ρ : Rel α β} {a : Arg} {v : V} {f : D → Fr → R α} {Q : β → Hp → Prop} (O : Ok K Φ H G F σ e) (r : ra K a v H G F σ e) (h : Wp K mg Φ W σ ρ G ((DL.fz a e).bind f) Q) :
    ∃ G1 e1 d, Same G G1 ∧ Ok K Φ H G1 F σ e1 ∧ Dp K G1 v d ∧ Wp K mg Φ W σ ρ G1 (f d e1) Q := by
  cases q : DL.fz a e with
  | no =>
    rw [q] at h
    exact h.elim
  | ex x e1 => exact (fz_no q).elim
  | ok d e1 =>
    rw [q] at h
    obtain ⟨G1, s1, O1, h1⟩ := fz_ok O r q
    exact ⟨G1, e1, d, s1, O1, h1, Wp.up h s1⟩
theorem Wp.fzA {α β : Type} {ρ : Rel α β} {as : List Arg} {vs : List V} {f : List D → Fr → R α} {Q : β → Hp → Prop} (O : Ok K Φ H G F σ e) (r : rs K as vs H G F σ e) (h : Wp K mg Φ W σ ρ G ((DL.fzA as e).bind f) Q) :
    ∃ G1 e1 ds, Same G G1 ∧ Ok K Φ H G1 F σ e1 ∧ DpAll K G1 vs ds ∧ Wp K mg Φ W σ ρ G1 (f ds e1) Q := by
  cases q : DL.fzA as e with
  | no =>
    rw [q] at h
    exact h.elim
  | ex x e1 => exact (fzA_no q).elim
  | ok ds e1 =>
    rw [q] at h
    obtain ⟨G1, s1, O1, h1⟩ := fzA_ok O r q
    exact ⟨G1, e1, ds, s1, O1, h1, Wp.up h s1⟩
end

/-! ### argument lists, displays -/
def aNil : Af := fun e => .ok [] e
def aCons (fa : Ef) (fr : Af) : Af := fun e => (fa e).bind fun a e1 => (fr e1).bind fun as e2 => .ok (a :: as) e2
def eTup (fa : Af) : Ef := fun e => (fa e).bind fun as e1 => (fzA as e1).bind fun ds e2 => if ds.length ≤ 1000 then .ok (.val (.tuple ds)) e2 else .no
def eLst (fa : Af) : Rf := fun e => (fa e).bind fun as e1 => (fzA as e1).bind fun ds e2 => if ds.length ≤ 1000 then .ok (.new (.ls ds)) e2 else .no
theorem line1000 {n : Nat} (h : n ≤ 1000) : n ≤ sizeLine := Nat.le_trans h (by decide)
section
variable {X : Cx} {Φ : Fx} {W : WX} {x : Expr} {xs : List Expr} {pos : Pos}
theorem d_anil : DA X Φ W [] aNil := pa_weak pa_nil fun σ H Q ⟨G, F, e, O, h⟩ => h [] H G F (Same.refl _) O .nil
theorem d_acons {fa : Ef} {fr : Af} (ha : DE X Φ W x fa) (hr : DA X Φ W xs fr) (hs : starEach (x :: xs) X.env = (false, eval x X.env) :: starEach xs X.env := by rfl) : DA X Φ W (x :: xs) (aCons fa fr) :=
  pa_weak (pa_cons ha hr hs) fun σ H Q ⟨G, F, e, O, h⟩ => ⟨G, F, e, O, Wp.imp (Wp.seq h) fun v H1 ⟨G1, F1, e1, a, g1, O1, r1, h1⟩ => ⟨G1, F1, e1, O1, Wp.imp (Wp.seq h1) fun vs H2 ⟨G2, F2, e2, as, g2, O2, r2, h2⟩ =>
    h2 (v :: vs) H2 G2 F2 (Same.refl _) O2 (.cons (ra_up r1 g2) r2)⟩⟩
theorem d_tup {fa : Af} {k} (ha : DA X Φ W xs fa) : DE X Φ W (.Tuple xs k pos) (eTup fa) :=
  pe_weak (pe_tup ha) fun σ H Q ⟨G, F, e, O, h⟩ => ⟨G, F, e, O, Wp.imp (Wp.seq h) fun vs H1 ⟨G1, F1, e1, as, g1, O1, r1, h1⟩ => by
    obtain ⟨G2, e2, ds, g2, O2, d2, h2⟩ := Wp.fzA O1 r1 h1
    split at h2
    · rename_i hl
      refine ⟨by rw [DpAll.len d2]; exact line1000 hl, fun p hp => ?_⟩
      have g := Grow.laid (o := .tup vs) O2.gh hp
      exact h2 _ _ _ F1 g.gg (O2.grow g) (.tup (.of upd_same) (dpa_mono g.gg _ _ d2))
    · exact h2.elim⟩
theorem Ok.noslot {K : PySem.W.Frag} {H G : Hp} {F : Nat → List Addr} {σ : L2.St} {e : Fr} (O : Ok K Φ H G F σ e) {p : Addr} (hp : H p = none) : ∀ j t, e[j]? = some t → t.owned = true → p ∉ F j := fun j t q o hm => by
  have old := O.slots j t q
  cases t with
  | un => cases o
  | xn => cases o
  | sh d => cases o
  | own u =>
    obtain ⟨_, _, h3, _⟩ := old
    obtain ⟨vs, q⟩ := h3.there p hm
    rw [hp] at q
    cases q
  | io u =>
    obtain ⟨_, _, h3, _⟩ := old
    obtain ⟨vs, q⟩ := h3.there p hm
    rw [hp] at q
    cases q
theorem Ok.noentry {K : PySem.W.Frag} {H G : Hp} {F : Nat → List Addr} {σ : L2.St} {e : Fr} (O : Ok K Φ H G F σ e) {p : Addr} (hp : H p = none) : Φ.H_0 p = none := by
  cases q : Φ.H_0 p with
  | none => rfl
  | some o => exact absurd hp (O.f0 p (by rw [q]; exact fun z => nomatch z))
/-- a new list of its own -/
theorem rr_new {K : PySem.W.Frag} {H G : Hp} {F : Nat → List Addr} {σ : L2.St} {e : Fr} (O : Ok K Φ H G F σ e) {p : Addr} (hp : H p = none) {vs : List V} {ds : List D} (d : DpAll K G vs ds) :
    Ok K Φ (upd H p (.lst vs)) G F σ e ∧ rr K Φ (.new (.ls ds)) (.ref p) (upd H p (.lst vs)) G F σ e := by
  have g := Grow.own (o := .lst vs) O.gh hp
  refine ⟨O.grow g, p, [p], rfl, .ls upd_same d, fun b hb => ?_, fun j t q o b hb => ?_⟩
  · rw [List.mem_singleton.mp hb]
    exact ⟨same_back O.gh hp, O.noentry hp⟩
  · rw [List.mem_singleton.mp hb]
    exact O.noslot hp j t q o
theorem d_lst {fa : Af} (ha : DA X Φ W xs fa) : DR X Φ W (.List xs pos) (eLst fa) :=
  pe_weak (pe_lst ha) fun σ H Q ⟨G, F, e, O, h⟩ => ⟨G, F, e, O, Wp.imp (Wp.seq h) fun vs H1 ⟨G1, F1, e1, as, g1, O1, r1, h1⟩ => by
    obtain ⟨G2, e2, ds, g2, O2, d2, h2⟩ := Wp.fzA O1 r1 h1
    split at h2
    · rename_i hl
      refine ⟨by rw [DpAll.len d2]; exact line1000 hl, fun p hp => ?_⟩
      obtain ⟨z1, z2⟩ := rr_new O2 hp d2
      exact h2 _ _ _ F1 (Same.refl _) z1 z2
    · exact h2.elim⟩
end

/-! ### operations -/
def use1 (op : D → Option D) (a : Arg) (e : Fr) : R Arg := match rd1 e a with
  | some x => match op x with
    | some d => .ok (.val d) e
    | none => .no
  | none => .no
def use2 (op : D → D → Option D) (a b : Arg) (e : Fr) : R Arg := match rd1 e a with
  | some x => match rd1 e b with
    | some y => match op x y with
      | some d => .ok (.val d) e
      | none => .no
    | none => .no
  | none => .no
def useN (op : List D → Option D) (as : List Arg) (e : Fr) : R Arg := match rdA e as with
  | some ds => match op ds with
    | some d => .ok (.val d) e
    | none => .no
  | none => .no
def useL (op : List D → Option (List D)) (as : List Arg) (e : Fr) : R RV := match rdA e as with
  | some ds => match op ds with
    | some es => .ok (.new (.ls es)) e
    | none => .no
  | none => .no
def eOp1 (op : D → Option D) (fa : Ef) : Ef := fun e => (fa e).bind (use1 op)
def eOp2 (op : D → D → Option D) (fa fb : Ef) : Ef := fun e => (fa e).bind fun a e1 => (fb e1).bind fun b e2 => use2 op a b e2
def eCall (op : List D → Option D) (fa : Af) : Ef := fun e => (fa e).bind (useN op)
def eCallN (op : List D → Option (List D)) (fa : Af) : Rf := fun e => (fa e).bind (useL op)
section
variable {K : PySem.W.Frag} {mg : Str → Option Value} {Φ : Fx} {W : WX} {H G : Hp} {F : Nat → List Addr} {σ : L2.St} {e : Fr}
theorem use1_ok {op : D → Option D} {a : Arg} {x : V} {Q : VK} (O : Ok K Φ H G F σ e) (r : ra K a x H G F σ e) (h : Wp K mg Φ W σ (ra K) G (use1 op a e) Q) : r1 K op x H Q := by
  unfold use1 at h
  split at h
  · rename_i d1 q1
    split at h
    · rename_i d q2
      exact ⟨G, d1, d, O.gh, bp_of O r q1, q2, fun v H' G' g hd => h v H' G' F g.gg (O.grow g) hd⟩
    · exact h.elim
  · exact h.elim
theorem use2_ok {op : D → D → Option D} {a b : Arg} {x y : V} {Q : VK} (O : Ok K Φ H G F σ e) (ra1 : ra K a x H G F σ e) (ra2 : ra K b y H G F σ e) (h : Wp K mg Φ W σ (ra K) G (use2 op a b e) Q) : r2 K op x y H Q := by
  unfold use2 at h
  split at h
  · rename_i d1 q1
    split at h
    · rename_i d2 q2
      split at h
      · rename_i d q3
        exact ⟨G, d1, d2, d, O.gh, bp_of O ra1 q1, bp_of O ra2 q2, q3, fun v H' G' g hd => h v H' G' F g.gg (O.grow g) hd⟩
      · exact h.elim
    · exact h.elim
  · exact h.elim
theorem useN_ok {op : List D → Option D} {as : List Arg} {xs : List V} {Q : VK} (O : Ok K Φ H G F σ e) (r : rs K as xs H G F σ e) (h : Wp K mg Φ W σ (ra K) G (useN op as e) Q) : rP K op xs H Q := by
  unfold useN at h
  split at h
  · rename_i ds q1
    split at h
    · rename_i d q2
      exact ⟨G, ds, d, O.gh, bps_of O r q1, q2, fun v H' G' g hd => h v H' G' F g.gg (O.grow g) hd⟩
    · exact h.elim
  · exact h.elim
theorem useL_ok {op : List D → Option (List D)} {as : List Arg} {xs : List V} {Q : VK} (O : Ok K Φ H G F σ e) (r : rs K as xs H G F σ e) (h : Wp K mg Φ W σ (rr K Φ) G (useL op as e) Q) : rN K op xs H Q := by
  unfold useL at h
  split at h
  · rename_i ds q1
    split at h
    · rename_i es q2
      refine ⟨G, ds, es, O.gh, bps_of O r q1, q2, fun p vs hp hl hd => ?_⟩
      obtain ⟨z1, z2⟩ := rr_new O hp hd
      exact h _ _ _ F (Same.refl _) z1 z2
    · exact h.elim
  · exact h.elim
theorem eOp2_weak {X : Cx} {op : D → D → Option D} {fa fb : Ef} {H : Hp} {Q : VK} (t : tG X.K X.mg Φ W (ra X.K) (eOp2 op fa fb) σ H Q) : tOp (r2 X.K op) (tG X.K X.mg Φ W (ra X.K) fa) (tG X.K X.mg Φ W (ra X.K) fb) σ H Q := by
  obtain ⟨G, F, e, O, h⟩ := t
  exact ⟨G, F, e, O, Wp.imp (Wp.seq h) fun x H1 ⟨G1, F1, e1, a, g1, O1, r1, h1⟩ => ⟨G1, F1, e1, O1, Wp.imp (Wp.seq h1) fun y H2 ⟨G2, F2, e2, b, g2, O2, r2, h2⟩ => use2_ok O2 (ra_up r1 g2) r2 h2⟩⟩
theorem eOp1_weak {X : Cx} {op : D → Option D} {fa : Ef} {H : Hp} {Q : VK} (t : tG X.K X.mg Φ W (ra X.K) (eOp1 op fa) σ H Q) : tUn (r1 X.K op) (tG X.K X.mg Φ W (ra X.K) fa) σ H Q := by
  obtain ⟨G, F, e, O, h⟩ := t
  exact ⟨G, F, e, O, Wp.imp (Wp.seq h) fun x H1 ⟨G1, F1, e1, a, g1, O1, r1, h1⟩ => use1_ok O1 r1 h1⟩
theorem eCall_weak {X : Cx} {op : List D → Option D} {fa : Af} {H : Hp} {Q : VK} (t : tG X.K X.mg Φ W (ra X.K) (eCall op fa) σ H Q) : tCB (rP X.K op) (tG X.K X.mg Φ W (rs X.K) fa) σ H Q := by
  obtain ⟨G, F, e, O, h⟩ := t
  exact ⟨G, F, e, O, Wp.imp (Wp.seq h) fun x H1 ⟨G1, F1, e1, a, g1, O1, r1, h1⟩ => useN_ok O1 r1 h1⟩
theorem eCallN_weak {X : Cx} {op : List D → Option (List D)} {fa : Af} {H : Hp} {Q : VK} (t : tG X.K X.mg Φ W (rr X.K Φ) (eCallN op fa) σ H Q) : tCB (rN X.K op) (tG X.K X.mg Φ W (rs X.K) fa) σ H Q := by
  obtain ⟨G, F, e, O, h⟩ := t
  exact ⟨G, F, e, O, Wp.imp (Wp.seq h) fun x H1 ⟨G1, F1, e1, a, g1, O1, r1, h1⟩ => useL_ok O1 r1 h1⟩
end
section
variable {X : Cx} {Φ : Fx} {W : WX} {x y : Expr} {xs : List Expr} {pos p : Pos} {fa fb : Ef} {fs : Af} {ft : Tf}
theorem d_op {op : Operator} {f : D → D → Option D} (ho : OpR X (binaryOp op) (r2 X.K f)) (ha : DE X Φ W x fa) (hb : DE X Φ W y fb) : DE X Φ W (.BinOp x op y pos) (eOp2 f fa fb) := pe_weak (pe_op ho ha hb) fun _ _ _ t => eOp2_weak t
theorem d_un {op : UnaryOp} {f : D → Option D} (ho : UnR X (unaryOp op) (r1 X.K f)) (ha : DE X Φ W x fa) : DE X Φ W (.UnaryOp op x pos) (eOp1 f fa) := pe_weak (pe_un ho ha) fun _ _ _ t => eOp1_weak t
theorem d_cmp {op : CmpOp} {f : D → D → Option D} (ho : OpR X (compareOp op) (r2 X.K f)) (ha : DE X Φ W x fa) (hb : DE X Φ W y fb) (hm : behindInMarks op y = false) : DE X Φ W (.Compare x [op] [y] pos) (eOp2 f fa fb) := pe_weak (pe_cmpR ho ha hb hm) fun _ _ _ t => eOp2_weak t
theorem d_ix (ha : DE X Φ W x fa) (hb : DE X Φ W y fb) (hs : PlainIx y) : DE X Φ W (.Subscript x y pos) (eOp2 dIx fa fb) := pe_weak (pe_ix ix_d ha hb hs) fun _ _ _ t => eOp2_weak t
variable {n : Str} {op : List D → Option D} {opN : List D → Option (List D)} {id : String}
theorem d_callB (hc : CallR X (.builtin id) (rP X.K op)) (hm : X.mg n = none) (ha : DA X Φ W (x :: xs) fs) (hv : bootBuiltins n = some (.builtin id) := by decide +kernel) (hg : Gl X n := by rfl) (hn : n ≠ "__name__" := by decide) (hdb : (n == ("__debug__" : Str)) = false := by decide)
    (he : starEach (x :: xs) X.env = (false, eval x X.env) :: starEach xs X.env := by rfl) (hpl : (backTo pos (starEach xs X.env)).any (·.1) = false := by rfl) : DE X Φ W (.Call (.Name n p) (x :: xs) [] pos) (eCall op fs) := pe_weak (pe_callB hc hg hm hv ha hn hdb he hpl) fun _ _ _ t => eCall_weak t
theorem d_callTy (hc : CallR X (.type id) (rP X.K op)) (hm : X.mg n = none) (ha : DA X Φ W (x :: xs) fs) (hv : bootBuiltins n = some (.type id) := by decide +kernel) (hg : Gl X n := by rfl) (hn : n ≠ "__name__" := by decide) (hdb : (n == ("__debug__" : Str)) = false := by decide)
    (he : starEach (x :: xs) X.env = (false, eval x X.env) :: starEach xs X.env := by rfl) (hpl : (backTo pos (starEach xs X.env)).any (·.1) = false := by rfl) : DE X Φ W (.Call (.Name n p) (x :: xs) [] pos) (eCall op fs) := pe_weak (pe_callTy hc hg hm hv ha hn hdb he hpl) fun _ _ _ t => eCall_weak t
theorem d_callF (hc : CallR X (.builtin id) (rP X.K op)) (hm : X.mg n = some (.builtin id)) (ha : DA X Φ W (x :: xs) fs) (hg : Gl X n := by rfl) (hdb : (n == ("__debug__" : Str)) = false := by decide)
    (he : starEach (x :: xs) X.env = (false, eval x X.env) :: starEach xs X.env := by rfl) (hpl : (backTo pos (starEach xs X.env)).any (·.1) = false := by rfl) : DE X Φ W (.Call (.Name n p) (x :: xs) [] pos) (eCall op fs) := pe_weak (pe_callBfun hc hg hm ha hdb he hpl) fun _ _ _ t => eCall_weak t
theorem d_callBN (hc : CallR X (.builtin id) (rN X.K opN)) (hm : X.mg n = none) (ha : DA X Φ W (x :: xs) fs) (hv : bootBuiltins n = some (.builtin id) := by decide +kernel) (hg : Gl X n := by rfl) (hn : n ≠ "__name__" := by decide) (hdb : (n == ("__debug__" : Str)) = false := by decide)
    (he : starEach (x :: xs) X.env = (false, eval x X.env) :: starEach xs X.env := by rfl) (hpl : (backTo pos (starEach xs X.env)).any (·.1) = false := by rfl) : DR X Φ W (.Call (.Name n p) (x :: xs) [] pos) (eCallN opN fs) := pe_weak (pe_callB hc hg hm hv ha hn hdb he hpl) fun _ _ _ t => eCallN_weak t
theorem d_callTyN (hc : CallR X (.type id) (rN X.K opN)) (hm : X.mg n = none) (ha : DA X Φ W (x :: xs) fs) (hv : bootBuiltins n = some (.type id) := by decide +kernel) (hg : Gl X n := by rfl) (hn : n ≠ "__name__" := by decide) (hdb : (n == ("__debug__" : Str)) = false := by decide)
    (he : starEach (x :: xs) X.env = (false, eval x X.env) :: starEach xs X.env := by rfl) (hpl : (backTo pos (starEach xs X.env)).any (·.1) = false := by rfl) : DR X Φ W (.Call (.Name n p) (x :: xs) [] pos) (eCallN opN fs) := pe_weak (pe_callTy hc hg hm hv ha hn hdb he hpl) fun _ _ _ t => eCallN_weak t
end

/-! ### tests -/
def tOf (f : Ef) : Tf := fun e => (f e).bind fun a e1 => match rd1 e1 a with
  | some (.bool b) => .ok b e1
  | _ => .no
def useT (a : Arg) (e : Fr) : R Bool := match rd1 e a with
  | some d => match truth d with
    | some b => .ok b e
    | none => .no
  | none => .no
def tTr (f : Ef) : Tf := fun e => (f e).bind useT
def tAndF (f g : Tf) : Tf := fun e => (f e).bind fun b e1 => match b with
  | true => g e1
  | false => .ok false e1
def tOrF (f g : Tf) : Tf := fun e => (f e).bind fun b e1 => match b with
  | true => .ok true e1
  | false => g e1
def tNotF (f : Tf) : Tf := fun e => (f e).bind fun b e1 => .ok (!b) e1
def eIf (t : Tf) (fa fb : Ef) : Ef := fun e => (t e).bind fun b e1 => match b with
  | true => fa e1
  | false => fb e1
def eIfR (t : Tf) (fa fb : Rf) : Rf := fun e => (t e).bind fun b e1 => match b with
  | true => fa e1
  | false => fb e1
def eAnd (fa fb : Ef) : Ef := fun e => (fa e).bind fun a e1 => (useT a e1).bind fun b e2 => match b with
  | true => fb e2
  | false => .ok a e2
def eOr (fa fb : Ef) : Ef := fun e => (fa e).bind fun a e1 => (useT a e1).bind fun b e2 => match b with
  | true => .ok a e2
  | false => fb e2
def eNot (fa : Ef) : Ef := fun e => (fa e).bind fun a e1 => (useT a e1).bind fun b e2 => .ok (.val (.bool (!b))) e2
abbrev DW (X : Cx) (Φ : Fx) (W : WX) (e : Expr) (f : Tf) : Prop := PW X e (tG X.K X.mg Φ W rb f)
section
variable {X : Cx} {Φ : Fx} {W : WX} {x y : Expr} {rest : List Expr} {pos : Pos} {fa fb : Ef} {ga gb : Rf} {ft fu : Tf}
theorem tOf_weak {f : Ef} {σ : L2.St} {H : Hp} {Q : Bool → Hp → Prop} (t : tG X.K X.mg Φ W rb (tOf f) σ H Q) : tTest (tG X.K X.mg Φ W (ra X.K) f) σ H Q := by
  obtain ⟨G, F, e, O, h⟩ := t
  refine ⟨G, F, e, O, Wp.imp (Wp.seq h) fun v H1 ⟨G1, F1, e1, a, g1, O1, r1, h1⟩ => ?_⟩
  split at h1
  · rename_i b q
    exact ⟨b, (bp_of O1 r1 q).bool, h1 b H1 G1 F1 (Same.refl _) O1 rfl⟩
  · exact h1.elim
theorem useT_ok {K : PySem.W.Frag} {mg : Str → Option Value} {H G : Hp} {F : Nat → List Addr} {σ : L2.St} {e : Fr} {α β : Type} {ρ : Rel α β} {a : Arg} {v : V} {f : Bool → Fr → R α} {Q : β → Hp → Prop} (O : Ok K Φ H G F σ e) (r : ra K a v H G F σ e)
    (h : Wp K mg Φ W σ ρ G ((useT a e).bind f) Q) : ∃ k, TruV K v H k ∧ Wp K mg Φ W σ ρ G (f k e) Q := by
  unfold useT at h
  split at h
  · rename_i d q
    split at h
    · rename_i b q2
      exact ⟨b, truth_v (bp_of O r q) O.gh q2, h⟩
    · exact h.elim
  · exact h.elim
theorem t_cmp {op : CmpOp} {f : D → D → Option D} (ho : OpR X (compareOp op) (r2 X.K f)) (ha : DE X Φ W x fa) (hb : DE X Φ W y fb) (hm : behindInMarks op y = false) : DT X Φ W (.Compare x [op] [y] pos) (tOf (eOp2 f fa fb)) :=
  pt_weak (pt_cmpR ho ha hb hm) fun σ H Q t => eOp2_weak (tOf_weak t)
theorem t_tr (ha : DE X Φ W x fa) (he : ∀ whole, isTrue x X.env whole = (do let v ← whole; standAt x.pos; holding [v] (truthy v)) := by intro _; rfl) : DT X Φ W x (tTr fa) :=
  pt_weak (pt_truth ha he) fun σ H Q ⟨G, F, e, O, h⟩ => ⟨G, F, e, O, Wp.imp (Wp.seq h) fun v H1 ⟨G1, F1, e1, a, g1, O1, r1, h1⟩ => by
    unfold useT at h1
    split at h1
    · rename_i d q
      split at h1
      · rename_i b q2
        exact ⟨b, truth_v (bp_of O1 r1 q) O1.gh q2, h1 b H1 G1 F1 (Same.refl _) O1 rfl⟩
      · exact h1.elim
    · exact h1.elim⟩
theorem w_and1 (ha : DT X Φ W x ft) : DW X Φ W (.BoolOp .And [x] pos) ft := pw_and1 ha
theorem w_or1 (ha : DT X Φ W x ft) : DW X Φ W (.BoolOp .Or [x] pos) ft := pw_or1 ha
theorem w_and (ha : DT X Φ W x ft) (hb : DW X Φ W (.BoolOp .And (y :: rest) pos) fu) : DW X Φ W (.BoolOp .And (x :: y :: rest) pos) (tAndF ft fu) :=
  pw_weak (pw_and ha hb) fun σ H Q ⟨G, F, e, O, h⟩ => ⟨G, F, e, O, Wp.imp (Wp.seq h) fun v H1 ⟨G1, F1, e1, b, g1, O1, r1, h1⟩ => by
    cases (show v = b from r1)
    cases v with
    | true => exact (iteT ⟨G1, F1, e1, O1, h1⟩)
    | false => exact (iteF (h1 false H1 G1 F1 (Same.refl _) O1 rfl))⟩
theorem w_or (ha : DT X Φ W x ft) (hb : DW X Φ W (.BoolOp .Or (y :: rest) pos) fu) : DW X Φ W (.BoolOp .Or (x :: y :: rest) pos) (tOrF ft fu) :=
  pw_weak (pw_or ha hb) fun σ H Q ⟨G, F, e, O, h⟩ => ⟨G, F, e, O, Wp.imp (Wp.seq h) fun v H1 ⟨G1, F1, e1, b, g1, O1, r1, h1⟩ => by
    cases (show v = b from r1)
    cases v with
    | true => exact (iteT (h1 true H1 G1 F1 (Same.refl _) O1 rfl))
    | false => exact (iteF ⟨G1, F1, e1, O1, h1⟩)⟩
theorem t_w (h : DW X Φ W x ft) : DT X Φ W x ft := PW.pt h
theorem t_not (h : DT X Φ W x ft) : DT X Φ W (.UnaryOp .Not x pos) (tNotF ft) :=
  pt_weak (pt_not h) fun σ H Q ⟨G, F, e, O, h⟩ => ⟨G, F, e, O, Wp.imp (Wp.seq h) fun v H1 ⟨G1, F1, e1, b, g1, O1, r1, h1⟩ => by
    cases (show v = b from r1)
    exact h1 (!v) H1 G1 F1 (Same.refl _) O1 rfl⟩
theorem d_if {c : Expr} (ht : DT X Φ W c ft) (ha : DE X Φ W x fa) (hb : DE X Φ W y fb) : DE X Φ W (.IfExp c x y pos) (eIf ft fa fb) :=
  pe_weak (pe_ifExp ht ha hb) fun σ H Q ⟨G, F, e, O, h⟩ => ⟨G, F, e, O, Wp.imp (Wp.seq h) fun v H1 ⟨G1, F1, e1, b, g1, O1, r1, h1⟩ => by
    cases (show v = b from r1)
    cases v with
    | true => exact (iteT ⟨G1, F1, e1, O1, h1⟩)
    | false => exact (iteF ⟨G1, F1, e1, O1, h1⟩)⟩
theorem d_ifR {c : Expr} (ht : DT X Φ W c ft) (ha : DR X Φ W x ga) (hb : DR X Φ W y gb) : DR X Φ W (.IfExp c x y pos) (eIfR ft ga gb) :=
  pe_weak (pe_ifExp ht ha hb) fun σ H Q ⟨G, F, e, O, h⟩ => ⟨G, F, e, O, Wp.imp (Wp.seq h) fun v H1 ⟨G1, F1, e1, b, g1, O1, r1, h1⟩ => by
    cases (show v = b from r1)
    cases v with
    | true => exact (iteT ⟨G1, F1, e1, O1, h1⟩)
    | false => exact (iteF ⟨G1, F1, e1, O1, h1⟩)⟩
theorem d_and (ha : DE X Φ W x fa) (hb : DE X Φ W (.BoolOp .And (y :: rest) pos) fb) : DE X Φ W (.BoolOp .And (x :: y :: rest) pos) (eAnd fa fb) :=
  pe_weak (pe_andT ha hb) fun σ H Q ⟨G, F, e, O, h⟩ => ⟨G, F, e, O, Wp.imp (Wp.seq h) fun v H1 ⟨G1, F1, e1, a, g1, O1, r1, h1⟩ => by
    obtain ⟨k, tv, h2⟩ := useT_ok O1 r1 h1
    refine ⟨k, tv, ?_⟩
    cases k with
    | true => exact (iteT ⟨G1, F1, e1, O1, h2⟩)
    | false => exact (iteF (h2 v H1 G1 F1 (Same.refl _) O1 r1))⟩
theorem d_or (ha : DE X Φ W x fa) (hb : DE X Φ W (.BoolOp .Or (y :: rest) pos) fb) : DE X Φ W (.BoolOp .Or (x :: y :: rest) pos) (eOr fa fb) :=
  pe_weak (pe_orT ha hb) fun σ H Q ⟨G, F, e, O, h⟩ => ⟨G, F, e, O, Wp.imp (Wp.seq h) fun v H1 ⟨G1, F1, e1, a, g1, O1, r1, h1⟩ => by
    obtain ⟨k, tv, h2⟩ := useT_ok O1 r1 h1
    refine ⟨k, tv, ?_⟩
    cases k with
    | true => exact (iteT (h2 v H1 G1 F1 (Same.refl _) O1 r1))
    | false => exact (iteF ⟨G1, F1, e1, O1, h2⟩)⟩
theorem d_bone {op} (h : DE X Φ W x fa) : DE X Φ W (.BoolOp op [x] pos) fa := pe_one h
theorem d_not (ha : DE X Φ W x fa) : DE X Φ W (.UnaryOp .Not x pos) (eNot fa) :=
  pe_weak (pe_notT ha) fun σ H Q ⟨G, F, e, O, h⟩ => ⟨G, F, e, O, Wp.imp (Wp.seq h) fun v H1 ⟨G1, F1, e1, a, g1, O1, r1, h1⟩ => by
    obtain ⟨k, tv, h2⟩ := useT_ok O1 r1 h1
    exact ⟨k, tv, h2 _ H1 G1 F1 (Same.refl _) O1 (.bl _)⟩⟩
end

/-! ### slices -/
abbrev Of := Fr → R (Option Int)
def ro : Rel (Option Int) (Option Int) := fun a b _ _ _ _ _ => b = a
abbrev DO (X : Cx) (Φ : Fx) (W : WX) (e : Option Expr) (f : Of) : Prop := PO X e (tG X.K X.mg Φ W ro f)
def oNone : Of := fun e => .ok none e
def oSome (f : Ef) : Of := fun e => (f e).bind fun a e1 => match rd1 e1 a with
  | some (.int i) => .ok (some i) e1
  | _ => .no
def useC (a : Arg) (lo hi : Option Int) (e : Fr) : R RV := match rd1 e a with
  | some (.list ds) => .ok (.new (.ls (cutD ds lo hi))) e
  | some d => match dCut d lo hi with
    | some r => .ok (.arg (.val r)) e
    | none => .no
  | none => .no
def eCut (fa : Ef) (fl fh : Of) : Rf := fun e => (fa e).bind fun a e1 => (fl e1).bind fun lo e2 => (fh e2).bind fun hi e3 => useC a lo hi e3
section
variable {X : Cx} {Φ : Fx} {W : WX} {x : Expr} {lo hi : Option Expr} {pos p2 : Pos} {fa : Ef} {fl fh : Of}
theorem po_weak {o : Option Expr} {t t' : TO} (h : PO X o t) (w : ∀ σ H Q, t' σ H Q → t σ H Q) : PO X o t' := ⟨fun pins s σ H Q I q => h.run pins s σ H Q I (w σ H Q q)⟩
theorem d_onone : DO X Φ W none oNone := po_weak po_none fun σ H Q ⟨G, F, e, O, h⟩ => h none H G F (Same.refl _) O rfl
theorem d_osome (h : DE X Φ W x fa) : DO X Φ W (some x) (oSome fa) := po_weak (po_some h) fun σ H Q ⟨G, F, e, O, h⟩ => ⟨G, F, e, O, Wp.imp (Wp.seq h) fun v H1 ⟨G1, F1, e1, a, g1, O1, r1, h1⟩ => by
  split at h1
  · rename_i i q
    exact ⟨i, (bp_of O1 r1 q).int, h1 (some i) H1 G1 F1 (Same.refl _) O1 rfl⟩
  · exact h1.elim⟩
theorem sl_or {r r' : V → Option Int → Option Int → Hp → VK → Prop} (h : SlR X r) (h' : SlR X r') : SlR X (fun x lo hi H Q => r x lo hi H Q ∨ r' x lo hi H Q) := by
  intro pins s σ H x v vl vu lo hi sl Q I rx hs pl pu q
  rcases q with q | q
  · exact h pins s σ H x v vl vu lo hi sl Q I rx hs pl pu q
  · exact h' pins s σ H x v vl vu lo hi sl Q I rx hs pl pu q
theorem d_cut (ha : DE X Φ W x fa) (hl : DO X Φ W lo fl) (hh : DO X Φ W hi fh) : DR X Φ W (.Subscript x (.Slice lo hi none p2) pos) (eCut fa fl fh) :=
  pe_weak (pe_slice (sl_or sl_d sl_dN) ha hl hh) fun σ H Q ⟨G, F, e, O, h⟩ => ⟨G, F, e, O, Wp.imp (Wp.seq h) fun v H1 ⟨G1, F1, e1, a, g1, O1, r1, h1⟩ => ⟨G1, F1, e1, O1, Wp.imp (Wp.seq h1) fun l H2 ⟨G2, F2, e2, lo', g2, O2, r2, h2⟩ =>
    ⟨G2, F2, e2, O2, Wp.imp (Wp.seq h2) fun u H3 ⟨G3, F3, e3, hi', g3, O3, r3, h3⟩ => by
      cases (show l = lo' from r2)
      cases (show u = hi' from r3)
      have rv : ra X.K a v H3 G3 F3 σ e3 := ra_up r1 (g2.trans g3)
      unfold useC at h3
      split at h3
      · rename_i ds q
        refine .inr ⟨G3, ds, O3.gh, bp_of O3 rv q, fun p vs hp hd => ?_⟩
        obtain ⟨z1, z2⟩ := rr_new O3 hp hd
        exact h3 _ _ _ F3 (Same.refl _) z1 z2
      · rename_i d _ q
        split at h3
        · rename_i r q2
          exact .inl ⟨G3, d, r, O3.gh, bp_of O3 rv q, q2, fun v H' G' g hd => h3 v H' G' F3 g.gg (O3.grow g) hd⟩
        · exact h3.elim
      · exact h3.elim⟩⟩⟩
end
end DL
set_option Elab.async false
set_option linter.all false
set_option maxRecDepth 100000
set_option maxHeartbeats 4000000
/-! DlE: what is walked, targets, statements. -/
namespace DL
open PySem L2

/-! ### what a for walks -/
/-- one thing given: a frozen value, or a new tuple of such -/
def YD (K : PySem.W.Frag) (G : Hp) (ds : List D) : Nat → Hp → V → Hp → Prop := fun i H x H' => ∃ d, ds[i]? = some d ∧ ((H' = H ∧ Dp K G x d) ∨ ∃ p vs es, x = .ref p ∧ H p = none ∧ H' = upd H p (.tup vs) ∧ d = .tuple es ∧ DpAll K G vs es)
def rf (K : PySem.W.Frag) : Rel (List D) It := fun ds J _ G _ _ _ => Walk J ds.length (Same G) (YD K G ds)
abbrev Lf := Fr → R (List D)
abbrev DI (X : Cx) (Φ : Fx) (W : WX) (tg e : Expr) (f : Lf) : Prop := PI X tg e (tG X.K X.mg Φ W (rf X.K) f)
theorem pi_weak {X : Cx} {tg e : Expr} {t t' : TI} (h : PI X tg e t) (w : ∀ σ H Q, t' σ H Q → t σ H Q) : PI X tg e t' := ⟨fun pins s σ H R I q => h.run pins s σ H R I (w σ H R q)⟩
section
variable {K : PySem.W.Frag} {G : Hp} {xs ys : List V} {ds es : List D} {a b : Addr}
theorem walk_l (h : SqL K G a xs) (p : DpAll K G xs ds) : Walk (Itl K a) ds.length (Same G) (YD K G ds) := by
  have w := walk_list (K := K) (a := a) (xs := xs)
  rw [DpAll.len p] at w
  exact w.mono (fun H s => same_l s h) fun i H x H' hi _ ⟨e1, e2⟩ => by
    obtain ⟨d, q, hd⟩ := DpAll.at' p e2
    exact ⟨d, q, .inl ⟨e1, hd⟩⟩
theorem walk_t (h : SqT K G a xs) (p : DpAll K G xs ds) : Walk (Itt K a) ds.length (Same G) (YD K G ds) := by
  have w := walk_tup (K := K) (a := a) (xs := xs)
  rw [DpAll.len p] at w
  exact w.mono (fun H s => same_t s h) fun i H x H' hi _ ⟨e1, e2⟩ => by
    obtain ⟨d, q, hd⟩ := DpAll.at' p e2
    exact ⟨d, q, .inl ⟨e1, hd⟩⟩
theorem walk_s {z : Str} : Walk (Its z) (z.cps.toList.map fun c => (PyData.str ⟨#[c]⟩ : D)).length (Same G) (YD K G (z.cps.toList.map fun c => PyData.str ⟨#[c]⟩)) := by
  have w := walk_str (z := z)
  have e : (z.cps.toList.map fun c => (PyData.str ⟨#[c]⟩ : D)).length = z.cps.size := by simp
  rw [e]
  refine w.mono (fun _ _ => trivial) fun i H x H' hi _ ⟨e1, c, e2, e3⟩ => ⟨.str ⟨#[c]⟩, ?_, .inl ⟨e1, by rw [e3]; exact .str _⟩⟩
  rw [List.getElem?_map]
  have : z.cps.toList[i]? = some c := by rw [Array.getElem?_toList]; exact e2
  rw [this]
  rfl
theorem walk_r {lo : Int} {n : Nat} : Walk (Itr lo n) ((List.range n).map fun (i : Nat) => (PyData.int (lo + (i : Int)) : D)).length (Same G) (YD K G ((List.range n).map fun (i : Nat) => PyData.int (lo + (i : Int)))) := by
  have w := walk_range (lo := lo) (n := n)
  have e : ((List.range n).map fun (i : Nat) => (PyData.int (lo + (i : Int)) : D)).length = n := by simp
  rw [e]
  refine w.mono (fun _ _ => trivial) fun i H x H' hi _ ⟨e1, e2⟩ => ⟨.int (lo + (i : Int)), ?_, .inl ⟨e1, by rw [e2]; exact .int _⟩⟩
  rw [List.getElem?_map, List.getElem?_range hi]
  rfl
theorem walk_rc {lo c : Int} {n : Nat} : Walk (Itc lo c n) ((List.range n).map fun (i : Nat) => (PyData.int (lo + (i : Int) * c) : D)).length (Same G) (YD K G ((List.range n).map fun (i : Nat) => PyData.int (lo + (i : Int) * c))) := by
  have w := walk_rangeC (lo := lo) (c := c) (n := n)
  have e : ((List.range n).map fun (i : Nat) => (PyData.int (lo + (i : Int) * c) : D)).length = n := by simp
  rw [e]
  refine w.mono (fun _ _ => trivial) fun i H x H' hi _ ⟨e1, e2⟩ => ⟨.int (lo + (i : Int) * c), ?_, .inl ⟨e1, by rw [e2]; exact .int _⟩⟩
  rw [List.getElem?_map, List.getElem?_range hi]
  rfl
def zipD (xs ys : List D) : List D := (xs.zip ys).map fun p => .tuple [p.1, p.2]
theorem zipD_at {i : Nat} {x y : D} (h1 : xs'[i]? = some x) (h2 : ys'[i]? = some y) : (zipD xs' ys')[i]? = some (.tuple [x, y]) := by
  unfold zipD
  have h : (xs'.zip ys')[i]? = some (x, y) := List.getElem?_zip_eq_some.mpr ⟨h1, h2⟩
  rw [List.getElem?_map, h]
  rfl
theorem zipD_len (xs ys : List D) : (zipD xs ys).length = min xs.length ys.length := by simp [zipD]
theorem yd_pair {i : Nat} {H : Hp} {v : V} {H' : Hp} (p : DpAll K G xs ds) (q : DpAll K G ys es) (y : YPair (fun i => xs[i]?) (fun i => ys[i]?) i H v H') : YD K G (zipD ds es) i H v H' := by
  obtain ⟨T, x, z, h1, h2, h3, h4, h5⟩ := y
  obtain ⟨d1, e1, hd1⟩ := DpAll.at' p h4
  obtain ⟨d2, e2, hd2⟩ := DpAll.at' q h5
  exact ⟨.tuple [d1, d2], zipD_at e1 e2, .inr ⟨T, [x, z], [d1, d2], h1, h2, h3, rfl, .cons hd1 (.cons hd2 .nil)⟩⟩
theorem walk_zl (h : SqL K G a xs) (h' : SqL K G b ys) (p : DpAll K G xs ds) (q : DpAll K G ys es) : Walk (Itz K a b) (zipD ds es).length (Same G) (YD K G (zipD ds es)) := by
  have w := walk_zip (K := K) (a := a) (b := b) (xs := xs) (ys := ys) (n := (zipD ds es).length) (by rw [zipD_len, DpAll.len p, DpAll.len q])
  exact w.mono (fun H s => ⟨same_l s h, same_l s h'⟩) fun i H x H' hi _ y => yd_pair p q y
theorem walk_zipT {n : Nat} (hn : n = min xs.length ys.length) : Walk (RZ.ItzT K a b) n (fun H => SqT K H a xs ∧ SqT K H b ys) (YPair (fun i => xs[i]?) (fun i => ys[i]?)) := by
  subst hn
  refine ⟨fun i _ hi q => ?_, fun _ q => ⟨xs, ys, q.1, q.2, by omega⟩, fun i H v H' _ q y => ?_⟩
  · have h1 : i < xs.length := by omega
    have h2 : i < ys.length := by omega
    exact ⟨xs, ys, xs[i], ys[i], q.1, q.2, by simp [h1], by simp [h2]⟩
  · obtain ⟨T, x, z, h1, h2, h3, h4, h5⟩ := y
    exact ⟨T, x, z, h1, h2, h3, h4 xs q.1, h5 ys q.2⟩
theorem walk_zt (h : SqT K G a xs) (h' : SqT K G b ys) (p : DpAll K G xs ds) (q : DpAll K G ys es) : Walk (RZ.ItzT K a b) (zipD ds es).length (Same G) (YD K G (zipD ds es)) := by
  have w := walk_zipT (K := K) (a := a) (b := b) (xs := xs) (ys := ys) (n := (zipD ds es).length) (by rw [zipD_len, DpAll.len p, DpAll.len q])
  exact w.mono (fun H s => ⟨same_t s h, same_t s h'⟩) fun i H x H' hi _ y => yd_pair p q y
def enumFrom : Nat → List D → List D
  | _, [] => []
  | n, d :: ds => .tuple [.int (n : Int), d] :: enumFrom (n + 1) ds
theorem enumFrom_len : ∀ (n : Nat) (ds : List D), (enumFrom n ds).length = ds.length
  | _, [] => rfl
  | n, d :: ds => by show (enumFrom (n + 1) ds).length + 1 = ds.length + 1; rw [enumFrom_len]
theorem enumFrom_at : ∀ (n : Nat) (ds : List D) (i : Nat) (d : D), ds[i]? = some d → (enumFrom n ds)[i]? = some (.tuple [.int ((n + i : Nat) : Int), d])
  | _, [], _, _, h => by simp at h
  | n, d :: ds, 0, _, h => by
    simp at h
    subst h
    rfl
  | n, d :: ds, i + 1, x, h => by
    have h' : ds[i]? = some x := by simpa using h
    show (enumFrom (n + 1) ds)[i]? = _
    rw [enumFrom_at (n + 1) ds i x h']
    have : n + 1 + i = n + (i + 1) := by omega
    rw [this]
theorem walk_en (h : SqL K G a xs) (p : DpAll K G xs ds) : Walk (Ite K a) (enumFrom 0 ds).length (Same G) (YD K G (enumFrom 0 ds)) := by
  have w := walk_enum (K := K) (a := a) (xs := xs)
  rw [DpAll.len p] at w
  rw [enumFrom_len]
  refine w.mono (fun H s => same_l s h) fun i H x H' hi _ y => ?_
  obtain ⟨T, n, z, h1, h2, h3, h4, h5⟩ := y
  obtain ⟨d, e1, hd⟩ := DpAll.at' p h5
  have e4 : V.int (i : Nat) = n := Option.some.inj h4
  subst e4
  exact ⟨.tuple [.int ((0 + i : Nat) : Int), d], enumFrom_at 0 ds i d e1, .inr ⟨T, _, _, h1, h2, h3, rfl, by rw [Nat.zero_add]; exact .cons (.int _) (.cons hd .nil)⟩⟩
end

def seqOf : D → Option (List D)
  | .list ds => some ds
  | .tuple ds => some ds
  | .str z => some (z.cps.toList.map fun c => .str ⟨#[c]⟩)
  | _ => none
def iSeq (fa : Ef) : Lf := fun e => (fa e).bind fun a e1 => (fz a e1).bind fun d e2 => R.of (seqOf d) e2
def small62 (n : Int) : Bool := decide (-(2 ^ 62) ≤ n ∧ n < 2 ^ 62)
def iRng1F (fs : Af) : Lf := fun e => (fs e).bind fun as e1 => match rdA e1 as with
  | some [.int n] => if small62 n = true then .ok ((List.range n.toNat).map fun (i : Nat) => .int (0 + (i : Int))) e1 else .no
  | _ => .no
def iRng2F (fs : Af) : Lf := fun e => (fs e).bind fun as e1 => match rdA e1 as with
  | some [.int m, .int n] => if small62 m = true ∧ small62 n = true then .ok ((List.range (n - m).toNat).map fun (i : Nat) => .int (m + (i : Int))) e1 else .no
  | _ => .no
def iDownF (fs : Af) : Lf := fun e => (fs e).bind fun as e1 => match rdA e1 as with
  | some [.int m, .int n, .int c] => if c = -1 ∧ small62 m = true ∧ small62 n = true then .ok ((List.range (m - n).toNat).map fun (i : Nat) => .int (m + (i : Int) * (-1))) e1 else .no
  | _ => .no
def iZipF (fs : Af) : Lf := fun e => (fs e).bind fun as e1 => (fzA as e1).bind fun ds e2 => match ds with
  | [.list xs, .list ys] => .ok (zipD xs ys) e2
  | [.tuple xs, .tuple ys] => .ok (zipD xs ys) e2
  | _ => .no
def iEnumF (fs : Af) : Lf := fun e => (fs e).bind fun as e1 => (fzA as e1).bind fun ds e2 => match ds with
  | [.list xs] => .ok (enumFrom 0 xs) e2
  | _ => .no
theorem small62_iff {n : Int} (h : small62 n = true) : -(2 ^ 62) ≤ n ∧ n < 2 ^ 62 := of_decide_eq_true h
section
variable {X : Cx} {Φ : Fx} {W : WX} {tg x y : Expr} {fa : Ef} {fs : Af} {pos p : Pos}
theorem i_seq (ha : DE X Φ W x fa) : DI X Φ W tg x (iSeq fa) := ⟨fun pins s σ H R I ⟨G, F, e, O, h⟩ => by
  cases q1 : fa e with
  | no =>
    unfold iSeq at h
    rw [q1] at h
    exact h.elim
  | ex z e1 =>
    unfold iSeq at h
    rw [q1] at h
    exact (pi_list ha).run pins s σ H R I ⟨G, F, e, O, by rw [q1]; exact h⟩
  | ok a e1 =>
    unfold iSeq at h
    rw [q1, DL.R.bind_ok] at h
    cases q2 : fz a e1 with
    | no =>
      rw [q2] at h
      exact h.elim
    | ex z e2 => exact (fz_no q2).elim
    | ok d e2 =>
      rw [q2, DL.R.bind_ok] at h
      cases d with
      | list ds =>
        refine (pi_list ha).run pins s σ H R I ⟨G, F, e, O, ?_⟩
        rw [q1]
        intro v H1 G1 F1 s1 O1 r1
        obtain ⟨G2, s2, O2, hd⟩ := fz_ok O1 r1 q2
        cases hd with
        | lst h1 h2 => exact ⟨_, rfl, ⟨_, same_l O2.gh h1⟩, h _ H1 G2 F1 (s1.trans s2) O2 (walk_l h1 h2)⟩
      | tuple ds =>
        refine (pi_tup ha).run pins s σ H R I ⟨G, F, e, O, ?_⟩
        rw [q1]
        intro v H1 G1 F1 s1 O1 r1
        obtain ⟨G2, s2, O2, hd⟩ := fz_ok O1 r1 q2
        cases hd with
        | tup h1 h2 => exact ⟨_, rfl, ⟨_, same_t O2.gh h1⟩, h _ H1 G2 F1 (s1.trans s2) O2 (walk_t h1 h2)⟩
      | str z =>
        refine (pi_str ha).run pins s σ H R I ⟨G, F, e, O, ?_⟩
        rw [q1]
        intro v H1 G1 F1 s1 O1 r1
        obtain ⟨G2, s2, O2, hd⟩ := fz_ok O1 r1 q2
        cases hd
        exact ⟨z, rfl, h _ H1 G2 F1 (s1.trans s2) O2 walk_s⟩
      | none => exact h.elim
      | bool _ => exact h.elim
      | int _ => exact h.elim
      | dict _ => exact h.elim⟩
theorem bpa1 {K : PySem.W.Frag} {H G : Hp} {vs : List V} {d : D} (b : BpAll K H G vs [d]) : ∃ v, vs = [v] ∧ Bp K H G v d := by
  cases b with
  | cons h t =>
    cases t
    exact ⟨_, rfl, h⟩
theorem bpa2 {K : PySem.W.Frag} {H G : Hp} {vs : List V} {d d' : D} (b : BpAll K H G vs [d, d']) : ∃ v v', vs = [v, v'] ∧ Bp K H G v d ∧ Bp K H G v' d' := by
  cases b with
  | cons h t =>
    obtain ⟨v, e, h'⟩ := bpa1 t
    exact ⟨_, _, by rw [e], h, h'⟩
theorem bpa3 {K : PySem.W.Frag} {H G : Hp} {vs : List V} {d d' d'' : D} (b : BpAll K H G vs [d, d', d'']) : ∃ v v' v'', vs = [v, v', v''] ∧ Bp K H G v d ∧ Bp K H G v' d' ∧ Bp K H G v'' d'' := by
  cases b with
  | cons h t =>
    obtain ⟨v, v', e, h', h''⟩ := bpa2 t
    exact ⟨_, _, _, by rw [e], h, h', h''⟩
theorem i_rng1 (hm : X.mg "range" = none) (ha : DA X Φ W [x] fs) (hg : Gl X "range" := by rfl) (hs : starEach [x] X.env = [(false, eval x X.env)] := by rfl) : DI X Φ W tg (.Call (.Name "range" p) [x] [] pos) (iRng1F fs) :=
  pi_weak (pi_range1 hg hm ha hs) fun σ H R ⟨G, F, e, O, h⟩ => ⟨G, F, e, O, Wp.imp (Wp.seq h) fun vs H1 ⟨G1, F1, e1, as, g1, O1, r1, h1⟩ => by
    split at h1
    · rename_i n q
      split at h1
      · rename_i hn
        obtain ⟨v, rfl, b⟩ := bpa1 (bps_of O1 r1 q)
        obtain rfl := b.int
        exact ⟨n, rfl, (small62_iff hn).1, (small62_iff hn).2, h1 _ H1 G1 F1 (Same.refl _) O1 walk_r⟩
      · exact h1.elim
    · exact h1.elim⟩
theorem i_rng2 (hm : X.mg "range" = none) (ha : DA X Φ W [x, y] fs) (hg : Gl X "range" := by rfl) (hs : starEach [x, y] X.env = [(false, eval x X.env), (false, eval y X.env)] := by rfl) (hs2 : starEach [y] X.env = [(false, eval y X.env)] := by rfl) : DI X Φ W tg (.Call (.Name "range" p) [x, y] [] pos) (iRng2F fs) :=
  pi_weak (pi_range2 hg hm ha hs hs2) fun σ H R ⟨G, F, e, O, h⟩ => ⟨G, F, e, O, Wp.imp (Wp.seq h) fun vs H1 ⟨G1, F1, e1, as, g1, O1, r1, h1⟩ => by
    split at h1
    · rename_i m n q
      split at h1
      · rename_i hn
        obtain ⟨v, v', rfl, b, b'⟩ := bpa2 (bps_of O1 r1 q)
        obtain rfl := b.int
        obtain rfl := b'.int
        exact ⟨m, n, rfl, ⟨(small62_iff hn.1).1, (small62_iff hn.1).2, (small62_iff hn.2).1, (small62_iff hn.2).2⟩, h1 _ H1 G1 F1 (Same.refl _) O1 walk_r⟩
      · exact h1.elim
    · exact h1.elim⟩
theorem i_zip {elts : List Expr} {kk : Nat} {tpos : Pos} (hm : X.mg "zip" = none) (ha : DA X Φ W [x, y] fs) (hg : Gl X "zip" := by rfl) (hs : starEach [x, y] X.env = (false, eval x X.env) :: starEach [y] X.env := by rfl) (hpl : (backTo pos (starEach [y] X.env)).any (·.1) = false := by rfl) :
    DI X Φ W (.Tuple elts kk tpos) (.Call (.Name "zip" p) [x, y] [] pos) (iZipF fs) :=
  pi_weak (RZ.pi_zipA hg hm ha hs hpl) fun σ H R ⟨G, F, e, O, h⟩ => ⟨G, F, e, O, Wp.imp (Wp.seq h) fun vs H1 ⟨G1, F1, e1, as, g1, O1, r1, h1⟩ => by
    obtain ⟨G2, e2, ds, g2, O2, d2, h2⟩ := Wp.fzA O1 r1 h1
    split at h2
    · rename_i xs ys
      cases d2 with
      | cons a t =>
        cases t with
        | cons b t =>
          cases t
          cases a with
          | lst l1 p1 =>
            cases b with
            | lst l2 p2 => exact ⟨_, _, _, _, rfl, .inl ⟨same_l O2.gh l1, same_l O2.gh l2, h2 _ H1 G2 F1 (Same.refl _) O2 (walk_zl l1 l2 p1 p2)⟩⟩
    · rename_i xs ys
      cases d2 with
      | cons a t =>
        cases t with
        | cons b t =>
          cases t
          cases a with
          | tup l1 p1 =>
            cases b with
            | tup l2 p2 => exact ⟨_, _, _, _, rfl, .inr ⟨same_t O2.gh l1, same_t O2.gh l2, h2 _ H1 G2 F1 (Same.refl _) O2 (walk_zt l1 l2 p1 p2)⟩⟩
    · exact h2.elim⟩
end

/-! ### targets -/
abbrev Gf := D → Fr → R Unit
/-- a target's reading: js are the slots that it may store at -/
def tGt (K : PySem.W.Frag) (Φ : Fx) (js : List Nat) (f : Gf) : TG := fun v σ H Q => ∃ G F e d, Ok K Φ H G F σ e ∧ Dp K G v d ∧ match f d e with
  | .ok _ e' => ∀ σ' H' G' F', Same G G' → Ok K Φ H' G' F' σ' e' → (σ'.length = σ.length ∧ ∀ j, j ∉ js → σ'[j]? = σ[j]?) → Q σ' H'
  | _ => False
abbrev DG (X : Cx) (Φ : Fx) (js : List Nat) (tg : Expr) (f : Gf) : Prop := PG X tg (tGt X.K Φ js f)
theorem pg_weak {X : Cx} {tg : Expr} {t t' : TG} (h : PG X tg t) (w : ∀ v σ H Q, t' v σ H Q → t v σ H Q) : PG X tg t' := ⟨fun pins s σ H v u Q I r q => h.run pins s σ H v u Q I r (w v σ H Q q)⟩
def gSet (i : Nat) : Gf := fun d e => match e[i]? with
  | some (.io _) => .no
  | none => .no
  | _ => .ok () (e.set i (.sh d))
/-- a row of targets, on a row of values -/
abbrev Gfs := List D → Fr → R Unit
def gsNil : Gfs := fun ds e => match ds with
  | [] => .ok () e
  | _ => .no
def gsCons (g : Gf) (r : Gfs) : Gfs := fun ds e => match ds with
  | d :: ds => (g d e).bind fun _ e1 => r ds e1
  | [] => .no
def gTupF (r : Gfs) : Gf := fun d e => match d with
  | .tuple ds => r ds e
  | _ => .no
def tGts (K : PySem.W.Frag) (Φ : Fx) (js : List Nat) (f : Gfs) : TGs := fun vs σ H Q => ∃ G F e ds, Ok K Φ H G F σ e ∧ DpAll K G vs ds ∧ match f ds e with
  | .ok _ e' => ∀ σ' H' G' F', Same G G' → Ok K Φ H' G' F' σ' e' → (σ'.length = σ.length ∧ ∀ j, j ∉ js → σ'[j]? = σ[j]?) → Q σ' H'
  | _ => False
abbrev DGs (X : Cx) (Φ : Fx) (js : List Nat) (tgs : List Expr) (f : Gfs) : Prop := PGs X tgs (tGts X.K Φ js f)
theorem pgs_weak {X : Cx} {tgs : List Expr} {t t' : TGs} (h : PGs X tgs t) (w : ∀ v σ H Q, t' v σ H Q → t v σ H Q) : PGs X tgs t' := ⟨fun pins s σ H v u Q I r q => h.run pins s σ H v u Q I r (w v σ H Q q)⟩
section
variable {X : Cx} {Φ : Fx} {tg : Expr} {tgs : List Expr} {pos : Pos} {js ks : List Nat} {g : Gf} {r : Gfs}
theorem g_name (i : Nat) {x : Str} (hN : X.N.Nodup) (hi : X.N[i]? = some x := by rfl) (hx : Loc X.env.scope x := by first | exact Or.inl rfl | exact Or.inr rfl) (hf : X.fn x = true ∨ X.env.scope.names.lookup x = some .local := by first | exact .inl rfl | exact .inr rfl) : DG X Φ [i] (.Name x pos) (gSet i) :=
  pg_weak (pg_name hN hi hx hf) fun v σ H Q ⟨G, F, e, d, O, hd, h⟩ => by
    have fin : (∀ σ' H' G' F', Same G G' → Ok X.K Φ H' G' F' σ' (e.set i (.sh d)) → (σ'.length = σ.length ∧ ∀ j, j ∉ [i] → σ'[j]? = σ[j]?) → Q σ' H') → Q (σ.set i (some v)) H := fun z =>
      z _ H G F (Same.refl _) (O.set hd i) ⟨List.length_set, fun j hj => List.getElem?_set_ne (fun q => hj (by rw [q]; exact List.mem_singleton.mpr rfl))⟩
    unfold gSet at h
    split at h
    · rename_i q
      split at q
      · cases q
      · cases q
      · cases q
        exact fin h
    · exact h.elim
theorem g_snil : DGs X Φ [] [] gsNil := pgs_weak pgs_nil fun vs σ H Q ⟨G, F, e, ds, O, hd, h⟩ => by
  cases hd with
  | nil => exact ⟨rfl, h σ H G F (Same.refl _) O ⟨rfl, fun _ _ => rfl⟩⟩
  | cons _ _ => exact h.elim
theorem g_scons (h1 : DG X Φ js tg g) (h2 : DGs X Φ ks tgs r) (hs : (assignEach (tg :: tgs) X.env).map (·.2) = assign tg X.env :: (assignEach tgs X.env).map (·.2) := by rfl) : DGs X Φ (js ++ ks) (tg :: tgs) (gsCons g r) :=
  pgs_weak (pgs_cons h1 h2 hs) fun vs σ H Q ⟨G, F, e, ds, O, hd, h⟩ => by
    cases hd with
    | nil => exact h.elim
    | @cons v vs d ds a t =>
      have h' : (match (g d e).bind fun _ e1 => r ds e1 with
        | .ok _ e' => ∀ σ' H' G' F', Same G G' → Ok X.K Φ H' G' F' σ' e' → (σ'.length = σ.length ∧ ∀ j, j ∉ js ++ ks → σ'[j]? = σ[j]?) → Q σ' H'
        | _ => False) := h
      refine ⟨v, vs, rfl, G, F, e, d, O, a, ?_⟩
      cases q : g d e with
      | no =>
        rw [q] at h'
        exact h'
      | ex x e1 =>
        rw [q] at h'
        exact h'
      | ok u e1 =>
        rw [q, R.bind_ok] at h'
        intro σ1 H1 G1 F1 s1 O1 ⟨l1, k1⟩
        refine ⟨G1, F1, e1, ds, O1, dpa_mono s1 _ _ t, ?_⟩
        cases q2 : r ds e1 with
        | no =>
          rw [q2] at h'
          exact h'
        | ex x e2 =>
          rw [q2] at h'
          exact h'
        | ok u2 e2 =>
          rw [q2] at h'
          exact fun σ2 H2 G2 F2 s2 O2 ⟨l2, k2⟩ => h' σ2 H2 G2 F2 (s1.trans s2) O2 ⟨l2.trans l1, fun j hj => (k2 j fun z => hj (List.mem_append_right _ z)).trans (k1 j fun z => hj (List.mem_append_left _ z))⟩
theorem g_tup {k : Nat} {n : Nat} (hc : X.calm = true) (h : DGs X Φ js tgs r) (hl : ∀ ds e u e', r ds e = .ok u e' → ds.length = n) (hn : (assignEach tgs X.env).length = n := by rfl) (hst : (assignEach tgs X.env).findIdx? (·.1) = none := by rfl) : DG X Φ js (.Tuple tgs k pos) (gTupF r) :=
  pg_weak (pg_tup hc h hn hst) fun v σ H Q ⟨G, F, e, d, O, hd, h⟩ => by
    cases hd with
    | @tup a xs ds t1 t2 =>
      refine ⟨a, xs, rfl, same_t O.gh t1, ?_, G, F, e, ds, O, t2, h⟩
      rw [DpAll.len t2]
      have h' : (match r ds e with
        | .ok _ e' => ∀ σ' H' G' F', Same G G' → Ok X.K Φ H' G' F' σ' e' → (σ'.length = σ.length ∧ ∀ j, j ∉ js → σ'[j]? = σ[j]?) → Q σ' H'
        | _ => False) := h
      cases q : r ds e with
      | no =>
        rw [q] at h'
        exact h'.elim
      | ex x e1 =>
        rw [q] at h'
        exact h'.elim
      | ok u e1 => exact hl ds e u e1 q
    | _ => exact h.elim
theorem gs_len0 : ∀ ds e u e', gsNil ds e = .ok u e' → ds.length = 0 := fun ds e u e' q => by
  cases ds with
  | nil => rfl
  | cons _ _ => cases q
theorem gs_len {n : Nat} (h : ∀ ds e u e', r ds e = .ok u e' → ds.length = n) : ∀ ds e u e', gsCons g r ds e = .ok u e' → ds.length = n + 1 := fun ds e u e' q => by
  cases ds with
  | nil => cases q
  | cons d ds =>
    have q' : ((g d e).bind fun _ e1 => r ds e1) = .ok u e' := q
    cases q1 : g d e with
    | no =>
      rw [q1] at q'
      cases q'
    | ex x e1 =>
      rw [q1] at q'
      cases q'
    | ok v e1 =>
      rw [q1, R.bind_ok] at q'
      show ds.length + 1 = n + 1
      rw [h ds e1 u e' q']
end

/-! ### writing at a slot's list -/
def wrL (a : Arg) (g : List D → Option (List D)) (e : Fr) : R Unit := match a with
  | .slot i => match e[i]? with
    | some (.own (.ls ds)) => match g ds with
      | some es => .ok () (e.set i (.own (.ls es)))
      | none => .no
    | some (.io (.ls ds)) => match g ds with
      | some es => .ok () (e.set i (.io (.ls es)))
      | none => .no
    | _ => .no
  | _ => .no
section
variable {K : PySem.W.Frag} {mg : Str → Option Value} {Φ : Fx} {W : WX} {H G : Hp} {F : Nat → List Addr} {σ : L2.St} {e e' : Fr}
theorem wrL_ok (O : Ok K Φ H G F σ e) {a : Arg} {v : V} (r : ra K a v H G F σ e) {g : List D → Option (List D)} {u : Unit} (q : wrL a g e = .ok u e') :
    ∃ l vs ds es, v = .ref l ∧ H l = some (.lst vs) ∧ DpAll K G vs ds ∧ g ds = some es ∧ ∀ ws, DpAll K G ws es → ∃ F', Ok K Φ (upd H l (.lst ws)) G F' σ e' := by
  cases a with
  | val d => cases q
  | slot i =>
    have r' : σ[i]? = some (some v) := r
    have q' : (match e[i]? with
      | some (.own (.ls ds)) => match g ds with
        | some es => R.ok () (e.set i (.own (.ls es)))
        | none => .no
      | some (.io (.ls ds)) => match g ds with
        | some es => R.ok () (e.set i (.io (.ls es)))
        | none => .no
      | _ => R.no) = R.ok u e' := q
    split at q'
    · rename_i ds hi
      split at q'
      · rename_i es hg
        cases q'
        obtain ⟨l, e1, o1, n1⟩ := O.slots i _ hi
        rw [r'] at e1
        cases e1
        obtain ⟨vs, h1, h2, hA⟩ := owls o1
        refine ⟨l, vs, ds, es, rfl, h1, h2, hg, fun ws hw => ⟨_, O.write (w' := .ls es) (A' := [l]) hi rfl r' (.ls upd_same hw) (fun b hb => by rw [hA] at hb; exact hb) (fun b hb => .inl (by rw [hA]; exact hb)) fun b hb => upd_ne fun z => hb (List.mem_singleton.mpr z)⟩⟩
      · cases q'
    · rename_i ds hi
      split at q'
      · rename_i es hg
        cases q'
        obtain ⟨l, e1, o1, n1⟩ := O.slots i _ hi
        rw [r'] at e1
        cases e1
        obtain ⟨vs, h1, h2, hA⟩ := owls o1
        refine ⟨l, vs, ds, es, rfl, h1, h2, hg, fun ws hw => ⟨_, O.write (w' := .ls es) (A' := [l]) hi rfl r' (.ls upd_same hw) (fun b hb => by rw [hA] at hb; exact hb) (fun b hb => .inl (by rw [hA]; exact hb)) fun b hb => upd_ne fun z => hb (List.mem_singleton.mpr z)⟩⟩
      · cases q'
    · cases q'
theorem wrL_no {a : Arg} {g : List D → Option (List D)} {x : Exn} (q : wrL a g e = .ex x e') : False := by
  cases a with
  | val d => cases q
  | slot i =>
    have q' : (match e[i]? with
      | some (.own (.ls ds)) => match g ds with
        | some es => R.ok () (e.set i (.own (.ls es)))
        | none => .no
      | some (.io (.ls ds)) => match g ds with
        | some es => R.ok () (e.set i (.io (.ls es)))
        | none => .no
      | _ => R.no) = R.ex x e' := q
    split at q'
    · split at q' <;> cases q'
    · split at q' <;> cases q'
    · cases q'
end
/-- o[i] = v -/
def gSubF (fa fb : Ef) : Gf := fun d e => (fa e).bind fun a e1 => (fb e1).bind fun b e2 => match rd1 e2 b with
  | some (.int k) => wrL a (fun ds => (ixN ds.length k).map fun n => ds.set n d) e2
  | _ => .no
section
variable {X : Cx} {Φ : Fx} {x y : Expr} {pos : Pos} {fa fb : Ef}
theorem g_sub (ha : DE X Φ (fun _ _ _ _ => False) x fa) (hb : DE X Φ (fun _ _ _ _ => False) y fb)
    (hs : ∀ v, assign (.Subscript x y pos) X.env v = (do
      let ov ← holding [v] (eval x X.env)
      let iv ← holding [v, ov] (eval y X.env)
      standAt pos
      holding [v, ov, iv] (setItem ov iv v)
      release [v, ov, iv] []) := by intro _; rfl) : DG X Φ [] (.Subscript x y pos) (gSubF fa fb) :=
  pg_weak (pg_sub ha hb set_list hs) fun v σ H Q ⟨G, F, e, d, O, hd, h⟩ => by
    have h' : (match (fa e).bind fun a e1 => (fb e1).bind fun b e2 => match rd1 e2 b with
        | some (.int k) => wrL a (fun ds => (ixN ds.length k).map fun n => ds.set n d) e2
        | _ => .no with
      | .ok _ e' => ∀ σ' H' G' F', Same G G' → Ok X.K Φ H' G' F' σ' e' → (σ'.length = σ.length ∧ ∀ j, j ∉ [] → σ'[j]? = σ[j]?) → Q σ' H'
      | _ => False) := h
    refine ⟨G, F, e, O, ?_⟩
    cases q1 : fa e with
    | no =>
      rw [q1] at h'
      exact h'
    | ex z e1 =>
      rw [q1] at h'
      exact h'.elim
    | ok a e1 =>
      rw [q1, R.bind_ok] at h'
      intro o H1 G1 F1 s1 O1 r1
      refine ⟨G1, F1, e1, O1, ?_⟩
      cases q2 : fb e1 with
      | no =>
        rw [q2] at h'
        exact h'
      | ex z e2 =>
        rw [q2] at h'
        exact h'.elim
      | ok b e2 =>
        rw [q2, R.bind_ok] at h'
        intro w H2 G2 F2 s2 O2 r2
        split at h'
        · rename_i q3
          split at q3
          · rename_i k q4
            obtain rfl := (bp_of O2 r2 q4).int
            obtain ⟨l, vs, ds, es, rfl, e5, p5, g5, k5⟩ := wrL_ok O2 (ra_up r1 s2) q3
            cases q6 : ixN ds.length k with
            | none =>
              rw [q6] at g5
              cases g5
            | some n =>
              rw [q6] at g5
              cases g5
              obtain ⟨F', O3⟩ := k5 _ (DpAll.set (dp_mono (s1.trans s2) _ _ hd) n p5)
              exact ⟨l, vs, k, n, rfl, rfl, e5, by rw [DpAll.len p5]; exact q6, h' σ _ G2 F' (s1.trans s2) O3 ⟨rfl, fun _ _ => rfl⟩⟩
          · cases q3
        · exact h'.elim
end
end DL
set_option Elab.async false
set_option linter.all false
set_option maxRecDepth 100000
set_option maxHeartbeats 4000000
/-! DlF: statements, comprehensions. -/
namespace DL
open PySem L2

inductive Fl where
  | nx
  | rt (s : Sl)
  | bk
  | ct
abbrev Sf := Fr → R Fl
/-- what a def hands back -/
def rv (K : PySem.W.Frag) (Φ : Fx) : Rel Sl V := fun s v H G F _ e => match s with
  | .sh d => Dp K G v d
  | .own w => ∃ a A, v = .ref a ∧ OwAt K G H w a A ∧ (∀ b ∈ A, G b = none ∧ Φ.H_0 b = none) ∧ ∀ j t, e[j]? = some t → t.owned = true → ∀ b ∈ A, b ∉ F j
  | _ => False
/-- what is wanted behind a statement, by what it came to -/
def Wend (K : PySem.W.Frag) (Φ : Fx) (Dn : Ends) (fl : Fl) (v : V) (σ : L2.St) (H G : Hp) (F : Nat → List Addr) (e : Fr) : Prop := match fl with
  | .nx => Dn.nx σ H
  | .bk => Dn.bk σ H
  | .ct => Dn.ct σ H
  | .rt s => rv K Φ s v H G F σ e → Dn.rt v H
def WS (K : PySem.W.Frag) (mg : Str → Option Value) (Φ : Fx) (W : WX) (G : Hp) (r : R Fl) (Dn : Ends) : Prop := match r with
  | .no => False
  | .ok fl e => ∀ v σ H' G' F', Same G G' → Ok K Φ H' G' F' σ e → Wend K Φ Dn fl v σ H' G' F' e
  | .ex x e => ∀ c d σ H' G' F', Same G G' → Ok K Φ H' G' F' σ e → ExOk mg K G' H' x c d → W c d σ H'
def tS (K : PySem.W.Frag) (mg : Str → Option Value) (Φ : Fx) (W : WX) (f : Sf) : TS := fun Dn σ H => ∃ G F e, Ok K Φ H G F σ e ∧ WS K mg Φ W G (f e) Dn
abbrev DS (X : Cx) (Φ : Fx) (W : WX) (st : Stmt) (f : Sf) : Prop := PS X st (tS X.K X.mg Φ W f)
abbrev DSs (X : Cx) (Φ : Fx) (W : WX) (st : List Stmt) (f : Sf) : Prop := PSs X st (tS X.K X.mg Φ W f)
section
variable {K : PySem.W.Frag} {mg : Str → Option Value} {Φ : Fx} {W : WX} {G G' : Hp} {r : R Fl} {Dn : Ends} {σ : L2.St}
theorem WS.up (h : WS K mg Φ W G r Dn) (gg : Same G G') : WS K mg Φ W G' r Dn := by
  cases r with
  | no => exact h
  | ok a e => exact fun v σ H' G2 F' s o => h v σ H' G2 F' (gg.trans s) o
  | ex x e => exact fun c d σ H' G2 F' s o p => h c d σ H' G2 F' (gg.trans s) o p
/-- a part of a statement's value, then the rest -/
theorem WS.seq {α β : Type} {ρ : Rel α β} {q : R α} {f : α → Fr → R Fl} (h : WS K mg Φ W G (q.bind f) Dn) :
    Wp K mg Φ W σ ρ G q (fun v H1 => ∃ G1 F1 e1 a, Same G G1 ∧ Ok K Φ H1 G1 F1 σ e1 ∧ ρ a v H1 G1 F1 σ e1 ∧ WS K mg Φ W G1 (f a e1) Dn) := by
  cases q with
  | no => exact h
  | ok a e => exact fun v H' G2 F' s o p => ⟨G2, F', e, a, s, o, p, WS.up h s⟩
  | ex x e => exact fun c d H' G2 F' s o p => h c d σ H' G2 F' s o p
theorem WS.fz {H : Hp} {F : Nat → List Addr} {e : Fr} {a : Arg} {v : V} {f : D → Fr → R Fl} (O : Ok K Φ H G F σ e) (r : ra K a v H G F σ e) (h : WS K mg Φ W G ((DL.fz a e).bind f) Dn) :
    ∃ G1 e1 d, Same G G1 ∧ Ok K Φ H G1 F σ e1 ∧ Dp K G1 v d ∧ WS K mg Φ W G1 (f d e1) Dn := by
  cases q : DL.fz a e with
  | no =>
    rw [q] at h
    exact h.elim
  | ex x e1 => exact (fz_no q).elim
  | ok d e1 =>
    rw [q] at h
    obtain ⟨G1, s1, O1, h1⟩ := fz_ok O r q
    exact ⟨G1, e1, d, s1, O1, h1, WS.up h s1⟩
end

/-! ### rows of statements -/
def sNil : Sf := fun e => .ok .nx e
def sSeq (f g : Sf) : Sf := fun e => (f e).bind fun fl e1 => match fl with
  | .nx => g e1
  | fl => .ok fl e1
section
variable {X : Cx} {Φ : Fx} {W : WX} {st : Stmt} {sts : List Stmt} {pos : Pos} {f g : Sf} {fa : Ef} {fr : Rf} {ft : Tf} {x : Expr}
theorem s_nil : DSs X Φ W [] sNil := pss_weak pss_nil fun Dn σ H ⟨G, F, e, O, h⟩ => h .non σ H G F (Same.refl _) O
theorem s_cons (h1 : DS X Φ W st f) (h2 : DSs X Φ W sts g) : DSs X Φ W (st :: sts) (sSeq f g) :=
  pss_weak (pss_cons h1 h2) fun Dn σ H ⟨G, F, e, O, h⟩ => ⟨G, F, e, O, by
    have h' : WS X.K X.mg Φ W G ((f e).bind fun fl e1 => match fl with
      | .nx => g e1
      | fl => .ok fl e1) Dn := h
    cases q : f e with
    | no =>
      rw [q] at h'
      exact h'
    | ex z e1 =>
      rw [q] at h'
      exact h'
    | ok fl e1 =>
      rw [q, R.bind_ok] at h'
      cases fl with
      | nx => exact fun v σ1 H1 G1 F1 s1 O1 => ⟨G1, F1, e1, O1, WS.up h' s1⟩
      | bk => exact h'
      | ct => exact h'
      | rt s => exact h'⟩
theorem s_one (h1 : DS X Φ W st f) : DSs X Φ W [st] f := pss_weak (pss_one h1) fun _ _ _ h => h
def sPass : Sf := fun e => .ok .nx e
def sBrk : Sf := fun e => .ok .bk e
def sCnt : Sf := fun e => .ok .ct e
theorem s_pass : DS X Φ W (.Pass pos) sPass := ps_weak ps_pass fun Dn σ H ⟨G, F, e, O, h⟩ => h .non σ H G F (Same.refl _) O
theorem s_brk : DS X Φ W (.Break pos) sBrk := ps_weak ps_break fun Dn σ H ⟨G, F, e, O, h⟩ => h .non σ H G F (Same.refl _) O
theorem s_cnt : DS X Φ W (.Continue pos) sCnt := ps_weak ps_continue fun Dn σ H ⟨G, F, e, O, h⟩ => h .non σ H G F (Same.refl _) O
def sNo : Sf := fun _ => .no
theorem s_no : DS X Φ W st sNo := ps_weak ps_never fun Dn σ H ⟨G, F, e, O, h⟩ => h.elim
/-- e as a statement -/
def sDrop (f : Ef) : Sf := fun e => (f e).bind fun _ e1 => .ok .nx e1
theorem s_expr (h : DE X Φ W x fa) (hs : swapsWith x none pos.line X.env = pure false := by rfl) : DS X Φ W (.Expr x pos) (sDrop fa) :=
  ps_weak (ps_expr h hs) fun Dn σ H ⟨G, F, e, O, h⟩ => ⟨G, F, e, O, Wp.imp (WS.seq (σ := σ) h) fun v H1 ⟨G1, F1, e1, a, g1, O1, r1, h1⟩ => h1 .non σ H1 G1 F1 (Same.refl _) O1⟩
/-- if -/
def sIf (t : Tf) (f g : Sf) : Sf := fun e => (t e).bind fun b e1 => match b with
  | true => f e1
  | false => g e1
theorem s_if {a b : List Stmt} (ht : DT X Φ W x ft) (ha : DSs X Φ W a f) (hb : DSs X Φ W b g) : DS X Φ W (.If x a b pos) (sIf ft f g) :=
  ps_weak (ps_if ht ha hb) fun Dn σ H ⟨G, F, e, O, h⟩ => ⟨G, F, e, O, Wp.imp (WS.seq (σ := σ) h) fun v H1 ⟨G1, F1, e1, b, g1, O1, r1, h1⟩ => by
    cases (show v = b from r1)
    cases v with
    | true => exact iteT ⟨G1, F1, e1, O1, h1⟩
    | false => exact iteF ⟨G1, F1, e1, O1, h1⟩⟩
/-- return -/
def retR (r : RV) (e : Fr) : R Fl := match r with
  | .arg (.val d) => .ok (.rt (.sh d)) e
  | .arg (.slot i) => match e[i]? with
    | some (.sh d) => .ok (.rt (.sh d)) e
    | some (.own w) => .ok (.rt (.own w)) (e.set i .un)
    | _ => .no
  | .new w => .ok (.rt (.own w)) e
def sRet (f : Rf) : Sf := fun e => (f e).bind retR
theorem Ok.lose {K : PySem.W.Frag} {H G : Hp} {F : Nat → List Addr} {σ : L2.St} {e : Fr} (O : Ok K Φ H G F σ e) (i : Nat) : Ok K Φ H G F σ (e.set i .un) where
  gh := O.gh
  len := by rw [List.length_set]; exact O.len
  slots := fun j s q => by
    by_cases hj : i = j
    · subst hj
      by_cases hl : i < e.length
      · rw [List.getElem?_set_self hl] at q
        cases q
        trivial
      · rw [List.getElem?_eq_none (by rw [List.length_set]; omega)] at q
        cases q
    · rw [List.getElem?_set_ne hj] at q
      exact O.slots j s q
  sep := fun j k s t hjk q1 q2 o1 o2 => by
    have old : ∀ {j : Nat} {s : Sl}, (e.set i .un)[j]? = some s → s.owned = true → e[j]? = some s := fun {j s} q o => by
      by_cases hj : i = j
      · subst hj
        by_cases hl : i < e.length
        · rw [List.getElem?_set_self hl] at q
          cases q
          cases o
        · rw [List.getElem?_eq_none (by rw [List.length_set]; omega)] at q
          cases q
      · rw [List.getElem?_set_ne hj] at q
        exact q
    exact O.sep j k s t hjk (old q1 o1) (old q2 o2) o1 o2
  f0 := O.f0
  f1 := O.f1
  f2 := O.f2
theorem retR_ok {K : PySem.W.Frag} {mg : Str → Option Value} {H G : Hp} {F : Nat → List Addr} {σ : L2.St} {e : Fr} {r : RV} {v : V} {Dn : Ends} (O : Ok K Φ H G F σ e) (h : rr K Φ r v H G F σ e) (w : WS K mg Φ W G (retR r e) Dn) : Dn.rt v H := by
  cases r with
  | new u => exact w v σ H G F (Same.refl _) O h
  | arg a =>
    cases a with
    | val d => exact w v σ H G F (Same.refl _) O h
    | slot i =>
      have h' : σ[i]? = some (some v) := h
      have w' : WS K mg Φ W G (match e[i]? with
        | some (.sh d) => .ok (.rt (.sh d)) e
        | some (.own w) => .ok (.rt (.own w)) (e.set i .un)
        | _ => .no) Dn := w
      split at w'
      · rename_i d q
        obtain ⟨v2, e2, h2⟩ := O.slots i _ q
        rw [h'] at e2
        cases e2
        exact w' v σ H G F (Same.refl _) O h2
      · rename_i u q
        obtain ⟨a, e2, h2, n2⟩ := O.slots i _ q
        rw [h'] at e2
        cases e2
        refine w' _ σ H G F (Same.refl _) (O.lose i) ⟨a, F i, rfl, h2, n2, fun j t q2 o b hb => ?_⟩
        by_cases hj : i = j
        · subst hj
          by_cases hl : i < e.length
          · rw [List.getElem?_set_self hl] at q2
            cases q2
            cases o
          · rw [List.getElem?_eq_none (by rw [List.length_set]; omega)] at q2
            cases q2
        · rw [List.getElem?_set_ne hj] at q2
          exact O.sep i j _ t hj q q2 rfl o b hb
      · exact w'.elim
theorem s_ret (h : DR X Φ W x fr) : DS X Φ W (.Return (some x) pos) (sRet fr) :=
  ps_weak (ps_ret h) fun Dn σ H ⟨G, F, e, O, h⟩ => ⟨G, F, e, O, Wp.imp (WS.seq (σ := σ) h) fun v H1 ⟨G1, F1, e1, r, g1, O1, r1, h1⟩ => retR_ok O1 r1 h1⟩
def sRetN : Sf := fun e => .ok (.rt (.sh .none)) e
theorem s_retN : DS X Φ W (.Return none pos) sRetN := ps_weak ps_retN fun Dn σ H ⟨G, F, e, O, h⟩ => h .non σ H G F (Same.refl _) O .non
/-- name = .. -/
def setR (i : Nat) (r : RV) (e : Fr) : R Fl := match e[i]? with
  | some (.io _) => .no
  | none => .no
  | _ => match r with
    | .arg a => (fz a e).bind fun d e2 => .ok .nx (e2.set i (.sh d))
    | .new w => .ok .nx (e.set i (.own w))
def sSet (i : Nat) (f : Rf) : Sf := fun e => (f e).bind (setR i)
theorem setR_ok {K : PySem.W.Frag} {mg : Str → Option Value} {H G : Hp} {F : Nat → List Addr} {σ : L2.St} {e : Fr} {i : Nat} {r : RV} {v : V} {Dn : Ends} (O : Ok K Φ H G F σ e) (h : rr K Φ r v H G F σ e) (w : WS K mg Φ W G (setR i r e) Dn) : Dn.nx (σ.set i (some v)) H := by
  unfold setR at w
  split at w
  · exact w.elim
  · exact w.elim
  · cases r with
    | arg a =>
      obtain ⟨G1, e1, d, s1, O1, hd, w1⟩ := WS.fz O h w
      exact w1 .non _ H G1 F (Same.refl _) (O1.set hd i)
    | new u =>
      obtain ⟨a, A, rfl, o, n, ap⟩ := h
      exact w .non _ H G _ (Same.refl _) (O.setOwn o n ap i)
theorem s_set (i : Nat) {n : Str} {pos' : Pos} (hN : X.N.Nodup) (he : DR X Φ W x fr) (hi : X.N[i]? = some n := by rfl) (hx : Loc X.env.scope n := by first | exact Or.inl rfl | exact Or.inr rfl) (hs : swapsWith x (some (.Name n pos')) pos.line X.env = pure false := by rfl)
    (hf : X.fn n = true ∨ X.env.scope.names.lookup n = some .local := by first | exact .inl rfl | exact .inr rfl) : DS X Φ W (.Assign [.Name n pos'] x pos) (sSet i fr) :=
  ps_weak (ps_set hN hi hx he hs hf) fun Dn σ H ⟨G, F, e, O, h⟩ => ⟨G, F, e, O, Wp.imp (WS.seq (σ := σ) h) fun v H1 ⟨G1, F1, e1, r, g1, O1, r1, h1⟩ => setR_ok O1 r1 h1⟩
/-- a = b = .. no; target = .. -/
def sAsg (f : Ef) (g : Gf) : Sf := fun e => (f e).bind fun a e1 => (fz a e1).bind fun d e2 => match g d e2 with
  | .ok _ e3 => .ok .nx e3
  | _ => .no
theorem s_asg {js : List Nat} {tg : Expr} {g : Gf} (he : DE X Φ W x fa) (hg : DG X Φ js tg g) (hs : swapsWithSole [tg] x pos.line X.env = pure false := by rfl) (hw : swappedStores [tg] x X.env = pure none := by rfl)
    (h1 : (assignEach [tg] X.env).map (·.2) = [assign tg X.env] := by rfl) : DS X Φ W (.Assign [tg] x pos) (sAsg fa g) :=
  ps_weak (ps_asg he hg hs hw h1) fun Dn σ H ⟨G, F, e, O, h⟩ => ⟨G, F, e, O, Wp.imp (WS.seq (σ := σ) h) fun v H1 ⟨G1, F1, e1, a, g1, O1, r1, h1⟩ => by
    obtain ⟨G2, e2, d, s2, O2, hd, h2⟩ := WS.fz O1 r1 h1
    refine ⟨G2, F1, e2, d, O2, hd, ?_⟩
    cases q : g d e2 with
    | no =>
      rw [q] at h2
      exact h2
    | ex z e3 =>
      rw [q] at h2
      exact h2
    | ok u e3 =>
      rw [q] at h2
      exact fun σ' H' G' F' s3 O3 _ => h2 .non σ' H' G' F' s3 O3⟩
end

/-! ### a new object is held while something else is reckoned -/
def Fx.plus (Φ : Fx) (H : Hp) (A : List Addr) : Fx := ⟨fun b => if b ∈ A then H b else Φ.H_0 b, fun b => if b ∈ A then none else Φ.G_0 b, fun i => (Φ.io i).filter fun b => decide (b ∉ A), Φ.at_⟩
section
variable {K : PySem.W.Frag} {Φ : Fx} {H G H' G' : Hp} {F F' : Nat → List Addr} {σ σ' : L2.St} {e e' : Fr} {A : List Addr}
theorem Ok.hold (O : Ok K Φ H G F σ e) (th : ∀ b ∈ A, H b ≠ none) (n : ∀ b ∈ A, G b = none) (ap : ∀ j t, e[j]? = some t → t.owned = true → ∀ b ∈ A, b ∉ F j) : Ok K (Φ.plus H A) H G F σ e where
  gh := O.gh
  len := O.len
  slots := fun i s q => by
    have old := O.slots i s q
    cases s with
    | un => trivial
    | xn => first | exact old | exact h | exact h1 | exact h2 | exact q | exact O.slots _ _ ‹_›
    | sh d => exact old
    | own w =>
      obtain ⟨a, e1, h1, h2⟩ := old
      refine ⟨a, e1, h1, fun b hb => ⟨(h2 b hb).1, ?_⟩⟩
      show (if b ∈ A then H b else Φ.H_0 b) = none
      rw [if_neg fun z => ap i _ q rfl b z hb]
      exact (h2 b hb).2
    | io w =>
      obtain ⟨a, e1, h1, h2⟩ := old
      refine ⟨a, e1, h1, fun b hb => ⟨(h2 b hb).1, ?_, (h2 b hb).2.2⟩⟩
      have nA : b ∉ A := fun z => ap i _ q rfl b z hb
      rcases (h2 b hb).2.1 with z | z
      · exact .inl (List.mem_filter.mpr ⟨z, decide_eq_true nA⟩)
      · refine .inr ?_
        show (if b ∈ A then H b else Φ.H_0 b) = none
        rw [if_neg nA]
        exact z
  sep := O.sep
  f0 := fun b hb => by
    by_cases hA : b ∈ A
    · exact th b hA
    · refine O.f0 b fun z => hb ?_
      show (if b ∈ A then H b else Φ.H_0 b) = none
      rw [if_neg hA]
      exact z
  f1 := fun b o q m => by
    have q' : (if b ∈ A then H b else Φ.H_0 b) = some o := q
    by_cases hA : b ∈ A
    · rw [if_pos hA] at q'
      exact q'
    · rw [if_neg hA] at q'
      exact O.f1 b o q' fun i z => m i (List.mem_filter.mpr ⟨z, decide_eq_true hA⟩)
  f2 := fun b hb => by
    show G b = if b ∈ A then none else Φ.G_0 b
    by_cases hA : b ∈ A
    · rw [if_pos hA]
      exact n b hA
    · rw [if_neg hA]
      refine O.f2 b fun z => hb ?_
      show (if b ∈ A then H b else Φ.H_0 b) = none
      rw [if_neg hA]
      exact z
theorem Ok.unhold (O : Ok K (Φ.plus H A) H' G' F' σ' e') (th : ∀ b ∈ A, H b ≠ none) (n : ∀ b ∈ A, Φ.H_0 b = none) :
    Ok K Φ H' G' F' σ' e' ∧ (∀ b ∈ A, H' b = H b) ∧ (∀ b ∈ A, G' b = none) ∧ ∀ j t, e'[j]? = some t → t.owned = true → ∀ b ∈ A, b ∉ F' j := by
  have h0 : ∀ b, b ∉ A → (Φ.plus H A).H_0 b = Φ.H_0 b := fun b hb => if_neg hb
  have hA : ∀ b, b ∈ A → (Φ.plus H A).H_0 b = H b := fun b hb => if_pos hb
  have back : ∀ b, (Φ.plus H A).H_0 b = none → Φ.H_0 b = none := fun b hb => by
    by_cases z : b ∈ A
    · exact n b z
    · rw [h0 b z] at hb
      exact hb
  refine ⟨⟨O.gh, O.len, fun i s q => ?_, O.sep, fun b hb => O.f0 b fun z => hb (back b z), fun b o q m => ?_, fun b hb => ?_⟩, fun b hb => ?_, fun b hb => ?_, fun j t q o b hb hf => ?_⟩
  · have old := O.slots i s q
    cases s with
    | un => trivial
    | xn => first | exact old | exact h | exact h1 | exact h2 | exact q | exact O.slots _ _ ‹_›
    | sh d => exact old
    | own w =>
      obtain ⟨a, e1, h1, h2⟩ := old
      exact ⟨a, e1, h1, fun b hb => ⟨(h2 b hb).1, back b (h2 b hb).2⟩⟩
    | io w =>
      obtain ⟨a, e1, h1, h2⟩ := old
      exact ⟨a, e1, h1, fun b hb => ⟨(h2 b hb).1, (h2 b hb).2.1.elim (fun z => .inl (List.mem_filter.mp z).1) (fun z => .inr (back b z)), (h2 b hb).2.2⟩⟩
  · have nA : b ∉ A := fun z => by rw [n b z] at q; cases q
    exact O.f1 b o (by rw [h0 b nA]; exact q) fun i z => m i (List.mem_filter.mp z).1
  · have nA : b ∉ A := fun z => hb (n b z)
    have := O.f2 b (by rw [h0 b nA]; exact hb)
    rw [this]
    exact if_neg nA
  · cases q : H b with
    | none => exact absurd q (th b hb)
    | some o => exact O.f1 b o (by rw [hA b hb]; exact q) fun i z => of_decide_eq_true (List.mem_filter.mp z).2 hb
  · have := O.f2 b (by rw [hA b hb]; exact th b hb)
    rw [this]
    exact if_pos hb
  · have old := O.slots j t q
    cases t with
    | un => cases o
    | xn => cases o
    | sh d => cases o
    | own w =>
      obtain ⟨a, e1, h1, h2⟩ := old
      have := (h2 b hf).2
      rw [hA b hb] at this
      exact th b hb this
    | io w =>
      obtain ⟨a, e1, h1, h2⟩ := old
      rcases (h2 b hf).2.1 with z | z
      · exact of_decide_eq_true (List.mem_filter.mp z).2 hb
      · rw [hA b hb] at z
        exact th b hb z
theorem OwAt.live {w : Ow} {a : Addr} (h : OwAt K G H w a A) : ∀ b ∈ A, H b ≠ none := fun b hb z => by
  obtain ⟨vs, q⟩ := h.there b hb
  rw [z] at q
  cases q
end

/-! ### a, b = x, y with plain names -/
def fzR (r : RV) (e : Fr) : R RV := match r with
  | .arg a => (fz a e).bind fun d e1 => .ok (.arg (.val d)) e1
  | .new w => .ok (.new w) e
def putR (i : Nat) (r : RV) (e : Fr) : R Unit := match e[i]? with
  | some (.io _) => .no
  | none => .no
  | _ => match r with
    | .arg (.val d) => .ok () (e.set i (.sh d))
    | .new w => .ok () (e.set i (.own w))
    | _ => .no
section
variable {K : PySem.W.Frag} {mg : Str → Option Value} {Φ : Fx} {W : WX} {H G : Hp} {F : Nat → List Addr} {σ : L2.St} {e : Fr}
theorem WS.fzR {r : RV} {v : V} {f : RV → Fr → R Fl} {Dn : Ends} (O : Ok K Φ H G F σ e) (h : rr K Φ r v H G F σ e) (w : WS K mg Φ W G ((DL.fzR r e).bind f) Dn) :
    ∃ G1 e1 r1, Same G G1 ∧ Ok K Φ H G1 F σ e1 ∧ rr K Φ r1 v H G1 F σ e1 ∧ (∀ i, r1 ≠ .arg (.slot i)) ∧ WS K mg Φ W G1 (f r1 e1) Dn := by
  cases r with
  | arg a =>
    have w' : WS K mg Φ W G (((DL.fz a e).bind fun d e1 => .ok (.arg (.val d)) e1).bind f) Dn := w
    cases q : DL.fz a e with
    | no =>
      rw [q] at w'
      exact w'.elim
    | ex x e1 => exact (fz_no q).elim
    | ok d e1 =>
      rw [q] at w'
      obtain ⟨G1, s1, O1, h1⟩ := fz_ok O h q
      exact ⟨G1, e1, .arg (.val d), s1, O1, h1, (fun i z => by cases z), WS.up w' s1⟩
  | new u => exact ⟨G, e, .new u, Same.refl _, O, h, (fun i z => by cases z), w⟩
/-- what a new object is, when other things are looked at -/
theorem rr_hold {r : RV} {v : V} (O : Ok K Φ H G F σ e) (h : rr K Φ r v H G F σ e) : ∃ A : List Addr, Ok K (Φ.plus H A) H G F σ e ∧
    (∀ {σ' : L2.St} {H' G' : Hp} {F' : Nat → List Addr} {e' : Fr}, Ok K (Φ.plus H A) H' G' F' σ' e' → Ok K Φ H' G' F' σ' e') ∧
    (∀ {H' G' : Hp} {F' : Nat → List Addr} {e' : Fr}, Same G G' → Ok K (Φ.plus H A) H' G' F' σ e' → rr K Φ r v H' G' F' σ e') ∧
    (∀ {r' : RV} {v' : V} {H' G' : Hp} {F' : Nat → List Addr} {e' : Fr}, rr K (Φ.plus H A) r' v' H' G' F' σ e' → rr K Φ r' v' H' G' F' σ e') ∧
    (∀ b ∈ A, H b ≠ none) ∧ ∀ w, r = .new w → ∃ a, v = .ref a ∧ OwAt K G H w a A := by
  cases r with
  | arg a =>
    have e0 : ∀ {σ' : L2.St} {H' G' : Hp} {F' : Nat → List Addr} {e' : Fr}, Ok K (Φ.plus H []) H' G' F' σ' e' → Ok K Φ H' G' F' σ' e' := fun O' => (O'.unhold (fun b hb => by cases hb) (fun b hb => by cases hb)).1
    refine ⟨[], O.hold (fun b hb => by cases hb) (fun b hb => by cases hb) (fun _ _ _ _ b hb => by cases hb), e0, fun {H'} {G'} {F'} {e'} s _ => @ra_up K a v H G H' G' F F' σ e e' h s, fun {r'} {v'} {H'} {G'} {F'} {e'} h' => ?_, (fun b hb => by cases hb), fun w z => by cases z⟩
    cases r' with
    | arg _ => exact h'
    | new w =>
      obtain ⟨a, A, e1, o1, n1, ap⟩ := h'
      exact ⟨a, A, e1, o1, fun b hb => ⟨(n1 b hb).1, by have := (n1 b hb).2; simpa [Fx.plus] using this⟩, ap⟩
  | new u =>
    obtain ⟨a, A, e1, o1, n1, ap⟩ := h
    have lv := o1.live
    refine ⟨A, O.hold lv (fun b hb => (n1 b hb).1) ap, fun O' => (O'.unhold lv fun b hb => (n1 b hb).2).1, fun {H'} {G'} {F'} {e'} s O' => ?_, fun {r'} {v'} {H'} {G'} {F'} {e'} h' => ?_, lv, fun w z => by cases z; exact ⟨a, e1, o1⟩⟩
    · obtain ⟨_, k1, k2, k3⟩ := O'.unhold lv fun b hb => (n1 b hb).2
      exact ⟨a, A, e1, o1.mono s (fun b hb u q => (k1 b hb).trans q), fun b hb => ⟨k2 b hb, (n1 b hb).2⟩, k3⟩
    · cases r' with
      | arg _ => exact h'
      | new w =>
        obtain ⟨a2, A2, e2, o2, n2, ap2⟩ := h'
        refine ⟨a2, A2, e2, o2, fun b hb => ⟨(n2 b hb).1, ?_⟩, ap2⟩
        have z : (if b ∈ A then H b else Φ.H_0 b) = none := (n2 b hb).2
        by_cases hA : b ∈ A
        · exact (n1 b hA).2
        · rw [if_neg hA] at z
          exact z
end
def sPar (i j : Nat) (fa fb : Rf) : Sf := fun e => (fa e).bind fun r1 e1 => (fb e1).bind fun r2 e2 => (fzR r1 e2).bind fun r3 e3 => (fzR r2 e3).bind fun r4 e4 => (putR i r3 e4).bind fun _ e5 => (putR j r4 e5).bind fun _ e6 => .ok .nx e6
def sPar3 (i j l : Nat) (fa fb fc : Rf) : Sf := fun e => (fa e).bind fun r1 e1 => (fb e1).bind fun r2 e2 => (fc e2).bind fun r5 e7 => (fzR r1 e7).bind fun r3 e3 => (fzR r2 e3).bind fun r4 e4 => (fzR r5 e4).bind fun r6 e8 =>
  (putR i r3 e8).bind fun _ e5 => (putR j r4 e5).bind fun _ e6 => (putR l r6 e6).bind fun _ e9 => .ok .nx e9
section
variable {K : PySem.W.Frag} {mg : Str → Option Value} {Φ : Fx} {W : WX} {H G : Hp} {F : Nat → List Addr} {σ : L2.St} {e : Fr}
/-- a thing to be put, with the objects that it is -/
def rx (K : PySem.W.Frag) (Φ : Fx) (A : List Addr) (r : RV) (v : V) (H G : Hp) (F : Nat → List Addr) (e : Fr) : Prop := match r with
  | .arg (.val d) => Dp K G v d ∧ A = []
  | .arg (.slot _) => False
  | .new w => ∃ a, v = .ref a ∧ OwAt K G H w a A ∧ (∀ b ∈ A, G b = none ∧ Φ.H_0 b = none) ∧ ∀ j t, e[j]? = some t → t.owned = true → ∀ b ∈ A, b ∉ F j
theorem putR_ok {i : Nat} {r : RV} {v : V} {A : List Addr} {f : Unit → Fr → R Fl} {Dn : Ends} (O : Ok K Φ H G F σ e) (h : rx K Φ A r v H G F e) (w : WS K mg Φ W G ((putR i r e).bind f) Dn) :
    ∃ F1 e1, Ok K Φ H G F1 (σ.set i (some v)) e1 ∧ WS K mg Φ W G (f () e1) Dn ∧ ∀ A2 r2 v2, (∀ b ∈ A2, b ∉ A) → rx K Φ A2 r2 v2 H G F e → rx K Φ A2 r2 v2 H G F1 e1 := by
  unfold putR at w
  split at w
  · exact w.elim
  · exact w.elim
  · cases r with
    | arg a =>
      cases a with
      | slot j => exact w.elim
      | val d =>
        refine ⟨F, _, O.set h.1 i, w, fun A2 r2 v2 _ h2 => ?_⟩
        cases r2 with
        | arg a2 => cases a2 <;> exact h2
        | new u2 =>
          obtain ⟨a2, e2, o2, n2, ap2⟩ := h2
          refine ⟨a2, e2, o2, n2, fun j t q o => ?_⟩
          by_cases hj : i = j
          · subst hj
            by_cases hl : i < e.length
            · rw [List.getElem?_set_self hl] at q
              cases q
              cases o
            · rw [List.getElem?_eq_none (by rw [List.length_set]; omega)] at q
              cases q
          · rw [List.getElem?_set_ne hj] at q
            exact ap2 j t q o
    | new u =>
      obtain ⟨a, rfl, o, n, ap⟩ := h
      refine ⟨_, _, O.setOwn o n ap i, w, fun A2 r2 v2 dj h2 => ?_⟩
      cases r2 with
      | arg a2 => cases a2 <;> exact h2
      | new u2 =>
        obtain ⟨a2, e2, o2, n2, ap2⟩ := h2
        refine ⟨a2, e2, o2, n2, fun j t q o b hb => ?_⟩
        show b ∉ (if j = i then A else F j)
        by_cases hj : j = i
        · rw [if_pos hj]
          exact dj b hb
        · rw [if_neg hj]
          rw [List.getElem?_set_ne (Ne.symm hj)] at q
          exact ap2 j t q o b hb
theorem WS.fzX {Φ1 : Fx} {r : RV} {v : V} {f : RV → Fr → R Fl} {Dn : Ends} (O : Ok K Φ1 H G F σ e) (h : ∀ a, r = .arg a → ra K a v H G F σ e) (w : WS K mg Φ W G ((DL.fzR r e).bind f) Dn) :
    ∃ G1 e1 r1, Same G G1 ∧ Ok K Φ1 H G1 F σ e1 ∧ ((∃ d, r1 = .arg (.val d) ∧ Dp K G1 v d) ∨ (∃ u, r1 = .new u ∧ r = .new u)) ∧ WS K mg Φ W G1 (f r1 e1) Dn := by
  cases r with
  | arg a =>
    have w' : WS K mg Φ W G (((DL.fz a e).bind fun d e1 => .ok (.arg (.val d)) e1).bind f) Dn := w
    cases q : DL.fz a e with
    | no =>
      rw [q] at w'
      exact w'.elim
    | ex x e1 => exact (fz_no q).elim
    | ok d e1 =>
      rw [q] at w'
      obtain ⟨G1, s1, O1, h1⟩ := fz_ok O (h a rfl) q
      exact ⟨G1, e1, .arg (.val d), s1, O1, .inl ⟨d, rfl, h1⟩, WS.up w' s1⟩
  | new u => exact ⟨G, e, .new u, Same.refl _, O, .inr ⟨u, rfl, rfl⟩, w⟩
theorem WS.seqP {α β : Type} {Φ1 : Fx} {ρ : Rel α β} {q : R α} {f : α → Fr → R Fl} {Dn : Ends} (cv : ∀ {H' G' : Hp} {F' : Nat → List Addr} {e' : Fr}, Ok K Φ1 H' G' F' σ e' → Ok K Φ H' G' F' σ e') (h : WS K mg Φ W G (q.bind f) Dn) :
    Wp K mg Φ1 W σ ρ G q (fun v H1 => ∃ G1 F1 e1 a, Same G G1 ∧ Ok K Φ1 H1 G1 F1 σ e1 ∧ ρ a v H1 G1 F1 σ e1 ∧ WS K mg Φ W G1 (f a e1) Dn) := by
  cases q with
  | no => exact h
  | ok a e => exact fun v H' G2 F' s o p => ⟨G2, F', e, a, s, o, p, WS.up h s⟩
  | ex x e => exact fun c d H' G2 F' s o p => h c d σ H' G2 F' s (cv o) p
/-- what is known of a thing that is held: the objects, where it stays -/
structure Held (K : PySem.W.Frag) (Φ : Fx) (H G : Hp) (σ : L2.St) (A : List Addr) (r : RV) (v : V) : Prop where
  th : ∀ b ∈ A, H b ≠ none
  n0 : ∀ b ∈ A, Φ.H_0 b = none
  ow : ∀ w, r = .new w → ∃ a, v = .ref a ∧ OwAt K G H w a A
  ar : ∀ a, r = .arg a → ra K a v H G (fun _ => []) σ []
theorem Held.mk' {r : RV} {v : V} (O : Ok K Φ H G F σ e) (h : rr K Φ r v H G F σ e) : ∃ A, Held K Φ H G σ A r v ∧ Ok K (Φ.plus H A) H G F σ e := by
  cases r with
  | arg a =>
    refine ⟨[], ⟨(fun b hb => by cases hb), (fun b hb => by cases hb), (fun w z => by cases z), fun a' z => ?_⟩, O.hold (fun b hb => by cases hb) (fun b hb => by cases hb) (fun _ _ _ _ b hb => by cases hb)⟩
    cases z
    exact @ra_up K a v H G H G F (fun _ => []) σ e [] h (Same.refl _)
  | new u =>
    obtain ⟨a, A, e1, o1, n1, ap⟩ := h
    exact ⟨A, ⟨o1.live, fun b hb => (n1 b hb).2, (fun w z => by cases z; exact ⟨a, e1, o1⟩), (fun a' z => by cases z)⟩, O.hold o1.live (fun b hb => (n1 b hb).1) ap⟩
theorem Held.cv {A : List Addr} {r : RV} {v : V} (h : Held K Φ H G σ A r v) {σ' : L2.St} {H' G' : Hp} {F' : Nat → List Addr} {e' : Fr} (O : Ok K (Φ.plus H A) H' G' F' σ' e') : Ok K Φ H' G' F' σ' e' := (O.unhold h.th h.n0).1
/-- the thing, put: r1 is r, frozen if it was no new one -/
theorem Held.rx {A : List Addr} {r r1 : RV} {v : V} (h : Held K Φ H G σ A r v) {σ' : L2.St} {H' G1 G' : Hp} {F' : Nat → List Addr} {e' : Fr} (O : Ok K (Φ.plus H A) H' G' F' σ' e') (gg : Same G G') (g1 : Same G1 G') (q : (∃ d, r1 = .arg (.val d) ∧ Dp K G1 v d) ∨ (∃ u, r1 = .new u ∧ r = .new u)) :
    ∃ A1, (∀ b ∈ A1, b ∈ A) ∧ rx K Φ A1 r1 v H' G' F' e' := by
  obtain ⟨_, k1, k2, k3⟩ := O.unhold h.th h.n0
  rcases q with ⟨d, rfl, hd⟩ | ⟨u, rfl, rfl⟩
  · exact ⟨[], (fun b hb => by cases hb), dp_mono g1 _ _ hd, rfl⟩
  · obtain ⟨a, e1, o1⟩ := h.ow u rfl
    exact ⟨A, fun _ z => z, a, e1, o1.mono gg (fun b hb u q => (k1 b hb).trans q), fun b hb => ⟨k2 b hb, h.n0 b hb⟩, k3⟩
end
theorem pe_ex {X : Cx} {x : Expr} {ι : Type} {t : ι → TE} (h : ∀ i, PE X x (t i)) : PE X x (fun σ H Q => ∃ i, t i σ H Q) := ⟨fun pins s σ H Q I ⟨i, q⟩ => (h i).run pins s σ H Q I q⟩
section
variable {X : Cx} {Φ : Fx} {W : WX} {x y z : Expr} {fa fb fc : Rf} {pos px py pz pt p2 : Pos} {kt k2 : Nat} {n m l : Str}
theorem s_par (i j : Nat) (hc : X.calm = true) (hN : X.N.Nodup) (ha : DR X Φ W x fa) (hb : ∀ Φ, DR X Φ W y fb) (hw : swappedStores [.Tuple [.Name n px, .Name m py] kt pt] (.Tuple [x, y] k2 p2) X.env = pure (some [n, m]))
    (hi : X.N[i]? = some n := by rfl) (hj : X.N[j]? = some m := by rfl) (hij : i ≠ j := by decide) (hx : X.env.scope.names.lookup n = some .local := by rfl) (hy : X.env.scope.names.lookup m = some .local := by rfl)
    (hs : swapsWithSole [.Tuple [.Name n px, .Name m py] kt pt] (.Tuple [x, y] k2 p2) pos.line X.env = pure false := by rfl) (h1 : starEach [x, y] X.env = (false, eval x X.env) :: starEach [y] X.env := by rfl) (h2 : starEach [y] X.env = (false, eval y X.env) :: starEach [] X.env := by rfl) :
    DS X Φ W (.Assign [.Tuple [.Name n px, .Name m py] kt pt] (.Tuple [x, y] k2 p2) pos) (sPar i j fa fb) :=
  ps_weak (ps_par hc hN hi hj hij hx hy (pa_cons ha (pa_cons (pe_ex hb) pa_nil h2) h1) hw hs) fun Dn σ H ⟨G, F, e, O, h⟩ => ⟨G, F, e, O, Wp.imp (WS.seq (σ := σ) h) fun v H1 ⟨G1, F1, e1, r1, g1, O1, q1, h1⟩ => by
    obtain ⟨A1, L1, P1⟩ := Held.mk' O1 q1
    refine ⟨_, G1, F1, e1, P1, Wp.imp (WS.seqP (fun o => L1.cv o) h1) fun w H2 ⟨G2, F2, e2, r2, g2, O2, q2, h2⟩ => ?_⟩
    obtain ⟨A2, L2, P2⟩ := Held.mk' O2 q2
    have a1 : ∀ a, r1 = .arg a → ra X.K a v H2 G2 F2 σ e2 := fun a z => ra_up (L1.ar a z) g2
    obtain ⟨G3, e3, r3, s3, O3, z3, h3⟩ := WS.fzX P2 a1 h2
    have a2 : ∀ a, r2 = .arg a → ra X.K a w H2 G3 F2 σ e3 := fun a z => ra_up (L2.ar a z) s3
    obtain ⟨G4, e4, r4, s4, O4, z4, h4⟩ := WS.fzX O3 a2 h3
    obtain ⟨B1, b1, y1⟩ := L1.rx (L2.cv O4) (g2.trans (s3.trans s4)) s4 z3
    obtain ⟨B2, b2, y2⟩ := L2.rx O4 (s3.trans s4) (Same.refl _) z4
    have y2' : rx X.K Φ B2 r4 w H2 G4 F2 e4 := by
      cases r4 with
      | arg a => cases a <;> exact y2
      | new u =>
        obtain ⟨a, ea, oa, na, ap⟩ := y2
        refine ⟨a, ea, oa, fun b hb => ⟨(na b hb).1, ?_⟩, ap⟩
        have z : (if b ∈ A1 then H1 b else Φ.H_0 b) = none := (na b hb).2
        by_cases hA : b ∈ A1
        · rw [if_pos hA] at z
          exact absurd z (L1.th b hA)
        · rw [if_neg hA] at z
          exact z
    have dj : ∀ b ∈ B2, b ∉ B1 := fun b hb hb1 => by
      have z : (if b ∈ A1 then H1 b else Φ.H_0 b) = none := L2.n0 b (b2 b hb)
      rw [if_pos (b1 b hb1)] at z
      exact L1.th b (b1 b hb1) z
    obtain ⟨F5, e5, O5, h5, k5⟩ := putR_ok (L1.cv (L2.cv O4)) y1 h4
    obtain ⟨F6, e6, O6, h6, _⟩ := putR_ok O5 (k5 B2 r4 w dj y2') h5
    exact ⟨v, w, rfl, h6 .non _ H2 G4 F6 (Same.refl _) O6⟩⟩
end
end DL
set_option Elab.async false
set_option linter.all false
set_option maxRecDepth 100000
set_option maxHeartbeats 4000000
/-! DlG: loops, comprehensions, methods that write. -/
namespace DL
open PySem L2

/-! ### for -/
def forL (g : Gf) (b : Sf) : List D → Fr → R Fl
  | [], e => .ok .nx e
  | d :: ds, e => match g d e with
    | .ok _ e1 => match b e1 with
      | .ok .nx e2 => forL g b ds e2
      | .ok .ct e2 => forL g b ds e2
      | .ok .bk e2 => .ok .nx e2
      | .ok (.rt s) e2 => .ok (.rt s) e2
      | .ex x e2 => .ex x e2
      | .no => .no
    | _ => .no
def sFor (fi : Lf) (g : Gf) (b : Sf) : Sf := fun e => (fi e).bind (forL g b)
section
variable {X : Cx} {Φ : Fx} {W : WX} {x tg : Expr} {pos : Pos} {fi : Lf} {g : Gf} {b : Sf} {js : List Nat} {body : List Stmt}
/-- what is given, as a frozen value -/
theorem yd_ok {K : PySem.W.Frag} {G G1 H H' : Hp} {F : Nat → List Addr} {σ : L2.St} {e : Fr} {ds : List D} {i : Nat} {v : V} (O : Ok K Φ H G1 F σ e) (s : Same G G1) (y : YD K G ds i H v H') :
    ∃ d G2, ds[i]? = some d ∧ Same G1 G2 ∧ Ok K Φ H' G2 F σ e ∧ Dp K G2 v d ∧ Grow H G1 H' G2 := by
  obtain ⟨d, q, z⟩ := y
  rcases z with ⟨rfl, hd⟩ | ⟨p, vs, es, rfl, hp, rfl, rfl, hd⟩
  · exact ⟨d, G1, q, Same.refl _, O, dp_mono s _ _ hd, Grow.refl O.gh⟩
  · have gr := Grow.laid (o := .tup vs) O.gh hp
    exact ⟨_, _, q, gr.gg, O.grow gr, .tup (.of upd_same) (dpa_mono (s.trans gr.gg) _ _ hd), gr⟩
theorem s_for (hp : PassesOwn (model X.prog X.w) X.A X.env X.xe) (hc : X.calm = true) (hi : DI X Φ W tg x fi) (hg : DG X Φ js tg g) (hb : DSs X Φ W body b) (hs : ∀ v, foldedSetIterable x X.env v = pure v := by intro _; rfl) : DS X Φ W (.For tg x body [] pos) (sFor fi g b) :=
  ps_weak (ps_for hp hc hi hg hb hs) fun Dn σ H ⟨G, F, e, O, h⟩ => ⟨G, F, e, O, Wp.imp (WS.seq (σ := σ) h) fun J H1 ⟨G1, F1, e1, ds, g1, O1, w, h1⟩ => by
    refine for_it w (fun i σ' H' => ∃ G' F' e', Same G1 G' ∧ Ok X.K Φ H' G' F' σ' e' ∧ WS X.K X.mg Φ W G' (forL g b (ds.drop i) e') Dn) ⟨G1, F1, e1, Same.refl _, O1, h1⟩ (fun i σ' H' _ ⟨G', F', e', s, O', _⟩ => s.trans O'.gh) (fun i v σ' H' H'' hi ⟨G', F', e', s, O', h'⟩ y => ?_) fun σ' H' ⟨G', F', e', s, O', h'⟩ => ?_
    · obtain ⟨d, G2, q, s2, O2, hd, _⟩ := yd_ok O' s y
      have ed : ds.drop i = d :: ds.drop (i + 1) := by
        obtain ⟨hl, q2⟩ := List.getElem?_eq_some_iff.mp q
        rw [← q2]
        exact List.drop_eq_getElem_cons hl
      rw [ed] at h'
      unfold forL at h'
      refine ⟨G2, F', e', d, O2, hd, ?_⟩
      cases q1 : g d e' with
      | no =>
        simp only [q1] at h'
        exact h'
      | ex z e2 =>
        simp only [q1] at h'
        exact h'
      | ok u e2 =>
        simp only [q1] at h'
        intro σ3 H3 G3 F3 s3 O3 _
        refine ⟨G3, F3, e2, O3, ?_⟩
        have h2 := WS.up h' (s2.trans s3)
        have sG : Same G1 G3 := s.trans (s2.trans s3)
        cases q2 : b e2 with
        | no =>
          simp only [q2] at h2
          exact h2
        | ex z e3 =>
          simp only [q2] at h2
          exact h2
        | ok fl e3 =>
          simp only [q2] at h2
          cases fl with
          | nx => exact fun v σ4 H4 G4 F4 s4 O4 => ⟨G4, F4, e3, sG.trans s4, O4, WS.up h2 s4⟩
          | ct => exact fun v σ4 H4 G4 F4 s4 O4 => ⟨G4, F4, e3, sG.trans s4, O4, WS.up h2 s4⟩
          | bk => exact h2
          | rt s => exact h2
    · rw [List.drop_length] at h'
      exact h' .non σ' H' G' F' (Same.refl _) O'⟩
end

/-! ### while -/
def whileN (t : Tf) (b : Sf) : Nat → Fr → Option (R Fl)
  | 0, _ => none
  | n + 1, e => match t e with
    | .no => some .no
    | .ex x e1 => some (.ex x e1)
    | .ok false e1 => some (.ok .nx e1)
    | .ok true e1 => match b e1 with
      | .ok .nx e2 => whileN t b n e2
      | .ok .ct e2 => whileN t b n e2
      | .ok .bk e2 => some (.ok .nx e2)
      | .ok (.rt s) e2 => some (.ok (.rt s) e2)
      | .ex x e2 => some (.ex x e2)
      | .no => some .no
theorem whileN_up {t : Tf} {b : Sf} : ∀ {n m : Nat} {e : Fr} {r : R Fl}, n ≤ m → whileN t b n e = some r → whileN t b m e = some r
  | 0, _, _, _, _, h => by cases h
  | n + 1, 0, _, _, hl, _ => by omega
  | n + 1, m + 1, e, r, hl, h => by
    unfold whileN at h ⊢
    cases q : t e with
    | no =>
      rw [q] at h
      exact h
    | ex x e1 =>
      rw [q] at h
      exact h
    | ok c e1 =>
      rw [q] at h
      cases c with
      | false => exact h
      | true =>
        cases q2 : b e1 with
        | no =>
          simp only [q2] at h ⊢
          exact h
        | ex x e2 =>
          simp only [q2] at h ⊢
          exact h
        | ok fl e2 =>
          simp only [q2] at h ⊢
          cases fl with
          | nx => exact whileN_up (Nat.le_of_succ_le_succ hl) h
          | ct => exact whileN_up (Nat.le_of_succ_le_succ hl) h
          | bk => exact h
          | rt s => exact h
open Classical in
noncomputable def sWhile (t : Tf) (b : Sf) : Sf := fun e => if h : ∃ n r, whileN t b n e = some r then h.choose_spec.choose else .no
theorem sWhile_of {t : Tf} {b : Sf} {n : Nat} {e : Fr} {r : R Fl} (h : whileN t b n e = some r) : sWhile t b e = r := by
  have hx : ∃ n r, whileN t b n e = some r := ⟨n, r, h⟩
  unfold sWhile
  rw [dif_pos hx]
  have q := hx.choose_spec.choose_spec
  have h1 := whileN_up (Nat.le_max_left n hx.choose) h
  have h2 := whileN_up (Nat.le_max_right n hx.choose) q
  rw [h1] at h2
  exact (Option.some.inj h2).symm
theorem sWhile_ends {t : Tf} {b : Sf} {e : Fr} (h : sWhile t b e ≠ .no) : ∃ n, whileN t b n e = some (sWhile t b e) := by
  by_cases hx : ∃ n r, whileN t b n e = some r
  · obtain ⟨n, r, q⟩ := hx
    exact ⟨n, by rw [sWhile_of q]; exact q⟩
  · refine absurd ?_ h
    unfold sWhile
    rw [dif_neg hx]
section
variable {X : Cx} {Φ : Fx} {W : WX} {x : Expr} {pos : Pos} {t : Tf} {b : Sf} {body : List Stmt}
theorem s_while (hp : PassesOwn (model X.prog X.w) X.A X.env X.xe) (ht : DT X Φ W x t) (hb : DSs X Φ W body b) : DS X Φ W (.While x body [] pos) (sWhile t b) :=
  ps_weak (ps_while hp ht hb) fun Dn σ H ⟨G, F, e, O, h⟩ => by
    have hn : sWhile t b e ≠ .no := fun z => by
      rw [z] at h
      exact h.elim
    obtain ⟨n, hn⟩ := sWhile_ends hn
    refine ⟨fun m σ' H' => ∃ G' F' e' r, Ok X.K Φ H' G' F' σ' e' ∧ whileN t b m e' = some r ∧ WS X.K X.mg Φ W G' r Dn, ⟨n, G, F, e, _, O, hn, h⟩, fun m σ1 H1 ⟨G1, F1, e1, r, O1, q, h1⟩ => ?_⟩
    cases m with
    | zero => cases q
    | succ m =>
      unfold whileN at q
      refine ⟨G1, F1, e1, O1, ?_⟩
      cases q1 : t e1 with
      | no =>
        simp only [q1] at q
        cases q
        exact h1
      | ex z e2 =>
        simp only [q1] at q
        cases q
        exact fun c d H' G' F' s o p => h1 c d σ1 H' G' F' s o p
      | ok c e2 =>
        simp only [q1] at q
        intro v H2 G2 F2 s2 O2 hv
        cases (show v = c from hv)
        cases c with
        | false =>
          cases q
          exact iteF (h1 .non σ1 H2 G2 F2 s2 O2)
        | true =>
          refine iteT ⟨fun σ' H' => ∃ G' F' e' r, Ok X.K Φ H' G' F' σ' e' ∧ whileN t b m e' = some r ∧ WS X.K X.mg Φ W G' r Dn, fun σ' H' z => ⟨m, Nat.lt_succ_self m, z⟩, G2, F2, e2, O2, ?_⟩
          have h2 := WS.up h1 s2
          cases q2 : b e2 with
          | no =>
            simp only [q2] at q
            cases q
            exact h2
          | ex z e3 =>
            simp only [q2] at q
            cases q
            exact h2
          | ok fl e3 =>
            simp only [q2] at q
            cases fl with
            | nx => exact fun v σ4 H4 G4 F4 s4 O4 => ⟨G4, F4, e3, r, O4, q, WS.up h2 s4⟩
            | ct => exact fun v σ4 H4 G4 F4 s4 O4 => ⟨G4, F4, e3, r, O4, q, WS.up h2 s4⟩
            | bk =>
              cases q
              exact h2
            | rt s =>
              cases q
              exact h2
end

/-! ### comprehensions -/
def lcL (g : Gf) (ft : Tf) (fe : Ef) (vs : List Nat) : List D → Fr → List D → R (List D)
  | [], e, acc => .ok acc e
  | d :: ds, e, acc => match g d e with
    | .ok _ e1 => match ft e1 with
      | .ok true e2 => match fe e2 with
        | .ok a e3 => match fz a e3 with
          | .ok d' e4 => if acc.length < 1000000 then lcL g ft fe vs ds (wipeE e4 vs) (acc ++ [d']) else .no
          | _ => .no
        | _ => .no
      | .ok false e2 => lcL g ft fe vs ds (wipeE e2 vs) acc
      | _ => .no
    | _ => .no
def eLc (fi : Lf) (g : Gf) (ft : Tf) (fe : Ef) (vs : List Nat) : Rf := fun e => (fi e).bind fun ds e1 => match bare e1 vs with
  | true => match lcL g ft fe vs ds (wipeE e1 vs) [] with
    | .ok es e2 => .ok (.new (.ls es)) (backE e1 e2 vs)
    | _ => .no
  | false => .no
def W0 : WX := fun _ _ _ _ => False
abbrev DTs (X : Cx) (Φ : Fx) (W : WX) (es : List Expr) (f : Tf) : Prop := PTs X es (tG X.K X.mg Φ W rb f)
def tYesF : Tf := fun e => .ok true e
section
variable {X : Cx} {Φ : Fx} {W : WX} {x tg elt : Expr} {ifs : List Expr} {pos : Pos} {fi : Lf} {g : Gf} {ft : Tf} {fe : Ef} {js : List Nat}
theorem t_yes : DTs X Φ W [] tYesF := ⟨fun pins s σ H Q I ⟨G, F, e, O, h⟩ => pts_nil.run pins s σ H Q I (h true H G F (Same.refl _) O rfl)⟩
theorem t_one (h : DT X Φ W x ft) : DTs X Φ W [x] ft := pts_one h
theorem wipe_eq {σ σ' : L2.St} {vs : List Nat} (hl : σ'.length = σ.length) (h : ∀ j, j ∉ vs → σ'[j]? = σ[j]?) : wipe σ' vs = wipe σ vs := by
  have lw : ∀ (τ : L2.St) (vs : List Nat), (wipe τ vs).length = τ.length := wipe_length
  have inn : ∀ (τ : L2.St) (vs : List Nat) (j : Nat), j ∈ vs → j < τ.length → (wipe τ vs)[j]? = some none := by
    intro τ vs
    induction vs with
    | nil => intro j hj; cases hj
    | cons v r ih =>
      intro j hj hlt
      unfold wipe
      by_cases e : v = j
      · subst e
        exact List.getElem?_set_self (by rw [lw]; exact hlt)
      · rw [List.getElem?_set_ne e]
        rcases List.mem_cons.mp hj with z | z
        · exact absurd z.symm e
        · exact ih j z hlt
  apply List.ext_getElem?
  intro j
  by_cases hj : j ∈ vs
  · by_cases hlt : j < σ.length
    · rw [inn σ vs j hj hlt, inn σ' vs j hj (by rw [hl]; exact hlt)]
    · rw [List.getElem?_eq_none (by rw [lw]; omega), List.getElem?_eq_none (by rw [lw]; omega)]
  · rw [wipe_out hj, wipe_out hj]
    exact h j hj
theorem tG_ex {X : Cx} {e : Expr} {ι : Type} {t : ι → TT} (h : ∀ i, PT X e (t i)) : PT X e (fun σ H Q => ∃ i, t i σ H Q) := ⟨fun pins s σ H Q I ⟨i, q⟩ => (h i).run pins s σ H Q I q⟩
theorem pts_ex {X : Cx} {es : List Expr} {ι : Type} {t : ι → TT} (h : ∀ i, PTs X es (t i)) : PTs X es (fun σ H Q => ∃ i, t i σ H Q) := ⟨fun pins s σ H Q I ⟨i, q⟩ => (h i).run pins s σ H Q I q⟩
theorem pg_ex {X : Cx} {e : Expr} {ι : Type} {t : ι → TG} (h : ∀ i, PG X e (t i)) : PG X e (fun v σ H Q => ∃ i, t i v σ H Q) := ⟨fun pins s σ H v u Q I r ⟨i, q⟩ => (h i).run pins s σ H v u Q I r q⟩
theorem wipe_wipe {σ : L2.St} {vs : List Nat} : wipe (wipe σ vs) vs = wipe σ vs := wipe_eq (wipe_length σ vs) fun j hj => wipe_out hj
abbrev lcT (K : PySem.W.Frag) (mg : Str → Option Value) (Φ : Fx) (W : WX) (js : List Nat) (fi : Lf) (g : Gf) (ft : Tf) (fe : Ef) (vs : List Nat) : TE :=
  tLc (tG K mg Φ W (rf K) fi) (fun v σ H Q => ∃ Ψ : Fx, tGt K Ψ js g v σ H Q) (fun σ H Q => ∃ Ψ : Fx, tG K mg Ψ W0 rb ft σ H Q) (fun σ H Q => ∃ Ψ : Fx, tG K mg Ψ W0 (ra K) fe σ H Q) vs
theorem lc_weak {K : PySem.W.Frag} {mg : Str → Option Value} {vs : List Nat} (hjs : ∀ j ∈ js, j ∈ vs) {σ : L2.St} {H : Hp} {Q : VK} (t : tG K mg Φ W (rr K Φ) (eLc fi g ft fe vs) σ H Q) : lcT K mg Φ W js fi g ft fe vs σ H Q := by
  obtain ⟨G, F, e, O, h⟩ := t
  refine ⟨G, F, e, O, Wp.imp (Wp.seq h) fun J H1 ⟨G1, F1, e1, ds, g1, O1, w, h1⟩ => ?_⟩
  intro Dl hD
  cases hb : bare e1 vs with
  | false =>
    rw [hb] at h1
    exact h1.elim
  | true =>
    rw [hb] at h1
    have nG1 : G1 Dl = none := same_back O1.gh hD
    have n0 : Φ.H_0 Dl = none := O1.noentry hD
    cases qr : lcL g ft fe vs ds (wipeE e1 vs) [] with
    | no =>
      simp only [qr] at h1
      exact h1.elim
    | ex z e2 =>
      simp only [qr] at h1
      exact h1.elim
    | ok es e2 =>
      simp only [qr] at h1
      have inDl : ∀ {b : Addr}, b ∈ [Dl] → b = Dl := fun hb => List.mem_singleton.mp hb
      refine lc_it (g := fun v σ H Q => ∃ Ψ : Fx, tGt K Ψ js g v σ H Q) (tt := fun σ H Q => ∃ Ψ : Fx, tG K mg Ψ W0 rb ft σ H Q) (te := fun σ H Q => ∃ Ψ : Fx, tG K mg Ψ W0 (ra K) fe σ H Q) (vs := vs) (σ := σ) (H1 := H1) (D := Dl) (Qd := fun H => Q (.ref Dl) H) w (fun i H' => ∃ G' F' e' acc vacc, Same G1 G' ∧ Ok K Φ H' G' F' (wipe σ vs) e' ∧ H' Dl = some (.lst vacc) ∧ DpAll K G' vacc acc ∧ G' Dl = none ∧ (∀ j t, e'[j]? = some t → t.owned = true → Dl ∉ F' j) ∧ lcL g ft fe vs (ds.drop i) e' acc = .ok es e2) ?_
        (fun i H' _ ⟨G', F', e', acc, vacc, s, O', _⟩ => s.trans O'.gh) (fun i v H' H'' hi ⟨G', F', e', acc, vacc, s, O', hDl, ha, nG, ap, q⟩ y => ?_) fun H' ⟨G', F', e', acc, vacc, s, O', hDl, ha, nG, ap, q⟩ => ?_
      · have gr := Grow.own (o := .lst []) O1.gh hD
        have O2 := (O1.grow gr).wiped vs
        refine ⟨G1, F1, wipeE e1 vs, [], [], Same.refl _, O2, upd_same, .nil, nG1, fun j t q o hm => ?_, qr⟩
        have : ∃ t', e1[j]? = some t' ∧ t'.owned = true := by
          have go : ∀ (vs : List Nat) (t : Sl), (wipeE e1 vs)[j]? = some t → t.owned = true → ∃ t', e1[j]? = some t' ∧ t'.owned = true := by
            intro vs
            induction vs with
            | nil => exact fun t q o => ⟨t, q, o⟩
            | cons v r ih =>
              intro t q o
              unfold wipeE at q
              by_cases ev : v = j
              · subst ev
                by_cases hl : v < (wipeE e1 r).length
                · rw [List.getElem?_set_self hl] at q
                  cases q
                  cases o
                · rw [List.getElem?_eq_none (by rw [List.length_set]; omega)] at q
                  cases q
              · rw [List.getElem?_set_ne ev] at q
                exact ih t q o
          exact go vs t q o
        obtain ⟨t', q', o'⟩ := this
        exact O1.noslot hD j t' q' o' hm
      · -- a turn
        obtain ⟨d, G2, qd, s2, O2, hd, gr⟩ := yd_ok O' s y
        have ed : ds.drop i = d :: ds.drop (i + 1) := by
          obtain ⟨hl, q2⟩ := List.getElem?_eq_some_iff.mp qd
          rw [← q2]
          exact List.drop_eq_getElem_cons hl
        rw [ed] at q
        unfold lcL at q
        have hDl2 : H'' Dl = some (.lst vacc) := gr.hh _ _ hDl
        have nG2 : G2 Dl = none := by rw [gr.new Dl (by rw [hDl]; exact fun z => nomatch z)]; exact nG
        have P2 : Ok K (Φ.plus H'' [Dl]) H'' G2 F' (wipe σ vs) e' := O2.hold (fun b hb => by rw [inDl hb, hDl2]; exact fun z => nomatch z) (fun b hb => by rw [inDl hb]; exact nG2) fun j t q o b hb => by rw [inDl hb]; exact ap j t q o
        have th : ∀ b ∈ [Dl], H'' b ≠ none := fun b hb => by rw [inDl hb, hDl2]; exact fun z => nomatch z
        have n0' : ∀ b ∈ [Dl], Φ.H_0 b = none := fun b hb => by rw [inDl hb]; exact n0
        refine ⟨Φ.plus H'' [Dl], G2, F', e', d, P2, hd, ?_⟩
        cases q1 : g d e' with
        | no =>
          simp only [q1] at q
          cases q
        | ex z e3 =>
          simp only [q1] at q
          cases q
        | ok u e3 =>
          simp only [q1] at q
          intro σ3 H3 G3 F3 s3 P3 ⟨l3, k3⟩
          have ws : wipe σ3 vs = wipe σ vs := (wipe_eq l3 fun j hj => k3 j fun z => hj (hjs j z)).trans wipe_wipe
          refine ⟨ws, Φ.plus H'' [Dl], G3, F3, e3, P3, ?_⟩
          cases q2 : ft e3 with
          | no =>
            simp only [q2] at q
            cases q
          | ex z e4 =>
            simp only [q2] at q
            cases q
          | ok c e4 =>
            simp only [q2] at q
            intro b H4 G4 F4 s4 P4 hbc
            cases (show b = c from hbc)
            -- back to the block's start
            have fin : ∀ {H5 G5 : Hp} {F5 : Nat → List Addr} {e5 : Fr} (P5 : Ok K (Φ.plus H'' [Dl]) H5 G5 F5 σ3 e5), Ok K Φ H5 G5 F5 (wipe σ vs) (wipeE e5 vs) ∧ H5 Dl = some (.lst vacc) ∧ G5 Dl = none ∧ ∀ j t, (wipeE e5 vs)[j]? = some t → t.owned = true → Dl ∉ F5 j := fun {H5 G5 F5 e5} P5 => by
              have P6 := P5.wiped vs
              rw [ws] at P6
              obtain ⟨z1, z2, z3, z4⟩ := P6.unhold th n0'
              have hm : Dl ∈ [Dl] := List.mem_singleton.mpr rfl
              exact ⟨z1, (z2 Dl hm).trans hDl2, z3 Dl hm, fun j t q o => z4 j t q o Dl hm⟩
            cases c with
            | false =>
              obtain ⟨y1, y2, y3, y4⟩ := fin P4
              refine iteF ⟨G4, F4, _, acc, vacc, s.trans (s2.trans (s3.trans s4)), y1, y2, dpa_mono (s2.trans (s3.trans s4)) _ _ ha, y3, y4, q⟩
            | true =>
              refine iteT ⟨Φ.plus H'' [Dl], G4, F4, e4, P4, ?_⟩
              cases q3 : fe e4 with
              | no =>
                simp only [q3] at q
                cases q
              | ex z e5 =>
                simp only [q3] at q
                cases q
              | ok a e5 =>
                simp only [q3] at q
                intro yv H5 G5 F5 s5 P5 ry
                cases q4 : fz a e5 with
                | no =>
                  simp only [q4] at q
                  cases q
                | ex z e6 => exact (fz_no q4).elim
                | ok d' e6 =>
                  simp only [q4] at q
                  obtain ⟨G6, s6, P6, hd6⟩ := fz_ok P5 ry q4
                  split at q
                  · rename_i hlen
                    obtain ⟨y1, y2, y3, y4⟩ := fin P6
                    have sG : Same G' G6 := s2.trans (s3.trans (s4.trans (s5.trans s6)))
                    have la := DpAll.len ha
                    refine ⟨vacc, y2, by rw [la]; exact Nat.lt_trans hlen (by decide), G6, F5, _, acc ++ [d'], vacc ++ [yv], s.trans sG, ?_, upd_same, DpAll.app (dpa_mono sG _ _ ha) (.cons hd6 .nil), y3, y4, q⟩
                    -- the list is written: nothing that is known leans on it
                    refine ⟨fun b o z => ?_, y1.len, fun j t qj => ?_, y1.sep, fun b hb => ?_, fun b o z m => ?_, y1.f2⟩
                    · rw [upd_ne fun zb => by rw [zb, y3] at z; cases z]
                      exact y1.gh b o z
                    · have old := y1.slots j t qj
                      cases t with
                      | un => trivial
                      | xn => first | exact old | exact h | exact h1 | exact h2 | exact q | exact O.slots _ _ ‹_›
                      | sh _ => exact old
                      | own u =>
                        obtain ⟨a2, e2', o2, n2⟩ := old
                        exact ⟨a2, e2', o2.mono (Same.refl _) (fun b hb u z => by rw [upd_ne (show b ≠ Dl from fun zb => y4 j _ qj rfl (by rw [← zb]; exact hb))]; exact z), n2⟩
                      | io u =>
                        obtain ⟨a2, e2', o2, n2⟩ := old
                        exact ⟨a2, e2', o2.mono (Same.refl _) (fun b hb u z => by rw [upd_ne (show b ≠ Dl from fun zb => y4 j _ qj rfl (by rw [← zb]; exact hb))]; exact z), n2⟩
                    · by_cases zb : b = Dl
                      · rw [zb, upd_same]
                        exact fun z => nomatch z
                      · rw [upd_ne zb]
                        exact y1.f0 b hb
                    · rw [upd_ne fun zb => by rw [zb, n0] at z; cases z]
                      exact y1.f1 b o z m
                  · cases q
      · -- the end
        rw [List.drop_length] at q
        cases q
        refine h1 _ H' G' F' s (O1.back O' s hb) ⟨Dl, [Dl], rfl, .ls hDl ha, fun b hb => ?_, fun j t q o b hbm => ?_⟩
        · rw [inDl hb]
          exact ⟨nG, n0⟩
        · rw [inDl hbm]
          have : e2[j]? = some t := by
            by_cases hj : j ∈ vs
            · have := backE_in hj q
              have nb := List.all_eq_true.mp (show bare e1 vs = true from hb) j hj
              rw [← this, o] at nb
              cases nb
            · rw [backE_out hj] at q
              exact q
          exact ap j t this o
theorem d_lc {scope : Scope} {own : List (Str × Nat)} (hc : X.calm = true) (hN : X.N.Nodup) (hi : DI X Φ W tg x fi) (ok : BlkOk X.N X.env.scope scope own)
    (hg : ∀ (Ψ : Fx) (s : Shared) (H : Hp) (C : Addr) (cl : List (Str × Addr)) (fp : List Addr), DG (X.blk s H scope (compEnvC scope cl C X.env) fp) Ψ js tg g)
    (ht : ∀ (Ψ : Fx) (s : Shared) (H : Hp) (C : Addr) (cl : List (Str × Addr)) (fp : List Addr), DTs (X.blk s H scope (compEnvC scope cl C X.env) fp) Ψ W0 ifs ft)
    (he : ∀ (Ψ : Fx) (s : Shared) (H : Hp) (C : Addr) (cl : List (Str × Addr)) (fp : List Addr), DE (X.blk s H scope (compEnvC scope cl C X.env) fp) Ψ W0 elt fe) (hjs : ∀ j ∈ js, j ∈ own.map (·.2) := by decide)
    (hs : ∀ v, foldedSetIterable x X.env v = pure v := by intro _; rfl) : DR X Φ W (.ListComp elt [⟨tg, x, ifs, 0⟩] scope pos) (eLc fi g ft fe (own.map (·.2))) :=
  pe_weak (pe_lc hc hN hi ok (fun s H C cl fp => pg_ex fun Ψ => hg Ψ s H C cl fp) (fun s H C cl fp => pts_ex fun Ψ => ht Ψ s H C cl fp) (fun s H C cl fp => pe_ex fun Ψ => he Ψ s H C cl fp) hs) fun σ H Q t => lc_weak hjs t
/-- name = [..] on one line, the name a local -/
theorem s_setLc (i : Nat) {n : Str} {py spos : Pos} {scope : Scope} {own : List (Str × Nat)} (hc : X.calm = true) (hN : X.N.Nodup) (hsw : swapsWith (.ListComp elt [⟨tg, x, ifs, 0⟩] scope pos) (some (.Name n py)) spos.line X.env = pure true) (hi : DI X Φ W tg x fi) (ok : BlkOk X.N X.env.scope scope own)
    (hg : ∀ (Ψ : Fx) (s : Shared) (H : Hp) (C : Addr) (cl : List (Str × Addr)) (fp : List Addr), DG (X.blk s H scope (compEnvC scope cl C X.env) fp) Ψ js tg g)
    (ht : ∀ (Ψ : Fx) (s : Shared) (H : Hp) (C : Addr) (cl : List (Str × Addr)) (fp : List Addr), DTs (X.blk s H scope (compEnvC scope cl C X.env) fp) Ψ W0 ifs ft)
    (he : ∀ (Ψ : Fx) (s : Shared) (H : Hp) (C : Addr) (cl : List (Str × Addr)) (fp : List Addr), DE (X.blk s H scope (compEnvC scope cl C X.env) fp) Ψ W0 elt fe) (hjs : ∀ j ∈ js, j ∈ own.map (·.2) := by decide) (hy : X.N[i]? = some n := by rfl) (hyl : X.env.scope.names.lookup n = some .local := by rfl)
    (hs : ∀ v, foldedSetIterable x X.env v = pure v := by intro _; rfl) : DS X Φ W (.Assign [.Name n py] (.ListComp elt [⟨tg, x, ifs, 0⟩] scope pos) spos) (sSet i (eLc fi g ft fe (own.map (·.2)))) :=
  ps_weak (ps_setLc hc hN hy hyl hsw hi ok (fun s H C cl fp => pg_ex fun Ψ => hg Ψ s H C cl fp) (fun s H C cl fp => pts_ex fun Ψ => ht Ψ s H C cl fp) (fun s H C cl fp => pe_ex fun Ψ => he Ψ s H C cl fp) hs) fun Dn σ H ⟨G, F, e, O, h⟩ =>
    lc_weak (Φ := Φ) (W := W) hjs ⟨G, F, e, O, Wp.imp (WS.seq (σ := σ) h) fun v H1 ⟨G1, F1, e1, r, g1, O1, r1, h1⟩ => setR_ok O1 r1 h1⟩
end
end DL
set_option Elab.async false
set_option linter.all false
set_option maxRecDepth 100000
set_option maxHeartbeats 4000000
/-! DlHa: a def's promise where it is known that no guard runs (so that a value's repr can be told); the law's own call. -/
namespace DL
open PySem L2

structure FnG (P : Program) (w : World) (K : PySem.W.Frag) (mg : Str → Option Value) (base : Heap) (k : Nat) (f : Addr) (fd : FuncData) (ps : List Str) (sp : Sp) : Prop where
  len : ∀ vs H Q E, sp vs H Q E → vs.length = ps.length
  run : ∀ (A : Around) (outer : List Env) (s : Shared) (H : Hp) (args : Args) (us : List Value) (vs : List V) (Q : VK) (E : XK), Room k A → A.guards = some [] → Env0 P w K mg base A outer s H → BindsTo s fd args (ps.zip us) → Vals vs us →
    sp vs H Q E → codeAny (model P w) A (.call (.ref f) args) (CR (L2.CX P w) outer P w H s Q E) s
theorem FnG.up {P : Program} {w : World} {K : PySem.W.Frag} {mg : Str → Option Value} {base : Heap} {j k : Nat} {f : Addr} {fd : FuncData} {ps : List Str} {sp : Sp} (F : FnG P w K mg base j f fd ps sp) (h : j ≤ k) : FnG P w K mg base k f fd ps sp :=
  ⟨F.len, fun A outer s H args us vs Q E room gu => F.run A outer s H args us vs Q E (room.mono h) gu⟩
section
variable {P : Program} {w : World} {K : PySem.W.Frag} {mg : Str → Option Value} {base : Heap} {x qual : Str} {params : Arguments} {body : List Stmt} {scope : Scope} {dvs : List V} {kws : List (Str × V)} {f : Addr} {fd : FuncData} {N ps : List Str} {k : Nat} {sp : Sp}
theorem fn_g (Fd : FunD K x qual params body scope dvs kws f fd) (S : FnScope N ps scope) (len : ∀ vs H Q E, sp vs H Q E → vs.length = ps.length)
    (hb : ∀ (cdv : Value) (A : Around) (outer : List Env) (s : Shared) (H : Hp) (vs : List V) (Q : VK) (E : XK), Room k (A.deeper (PyProof.Rows.envOfC qual scope s.heap.objs.size f cdv)) → A.guards = some [] → sp vs H Q E →
      ∃ t, PSs (cxOf (L2.CX P w) P w K mg base N qual scope f cdv A outer s H E) body t ∧ t { nx := fun _ H' => Q .non H', rt := Q } (L2.start N vs) H) : FnG P w K mg base (k + 1) f fd ps sp := by
  obtain ⟨oc, od, dV, kV, doc, pm, an, cdv, ct, osl, rfl, look, codeOk, _, _⟩ := Fd.ex
  constructor
  · exact len
  · intro A outer s H args us vs Q E room gu env0 binds vals prom
    have inHeap : K.In s.heap := env0.mod.kin.keeps fun b o z => (env0.bs b o z).1
    have slots : ∀ y ∈ ps.zip us, scope.names.lookup y.1 = some .local ∨ (scope.names.lookup y.1 = some .cell ∧ ((PySem.cellsFrom (s.heap.objs.size + 1) scope.names []).lookup y.1).isSome = true) := by
      rintro ⟨n, v⟩ hy
      cases S.par n (List.of_mem_zip hy).1 with
      | inl q => exact Or.inl q
      | inr q => exact Or.inr ⟨q, PySem.W.cellsFrom_some _ _ _ (Or.inl q)⟩
    apply codeAny_call_function room.depth (inHeap _ _ look) rfl S.co S.gen rfl (PySem.W.codeRec_of inHeap codeOk)
    apply binds
    apply wpAny_newFunctionEnv_cells S.kind slots
    rintro env rfl s1 inc
    constructor
    · exact (env0.mod.nolimit.keeps fun b o z => (env0.bs b o z).1).keeps inc.toInCall.keep
    · apply codeAny_func
      obtain ⟨t, deriv, reading⟩ := hb cdv A outer s H vs Q E (room.deeper _) gu prom
      have begun := inv_start (CX := L2.CX P w) (E := E) S room.hd env0 (len _ _ _ _ prom) vals inc
      refine wpAny_mono (deriv.run [] s1 (L2.start N vs) H _ begun reading) (fun fl s' ended => ?_) fun _ _ raised => raised
      have leave : ∀ {τ : L2.St} {H' : Hp} {v : V} {u : Value}, Inv (cxOf (L2.CX P w) P w K mg base N qual scope f cdv A outer s H E) [] τ H' s' → RelV v u → Q v H' → CE outer P w H s Q u s' := by
        intro τ H' v u J rel q
        exact ⟨v, H', J.os, J.bare, J.base, J.hok, rel, q⟩
      match fl, ended with
      | .next, ⟨_, _, J, q⟩ => exact leave (v := .non) (u := .none) J rfl q
      | .ret _, ⟨_, _, _, J, rel, q⟩ => exact leave J rel q
      | .brk, ⟨_, _, _, q⟩ => exact q.elim
      | .cont, ⟨_, _, _, q⟩ => exact q.elim
end
section
variable {X : Cx} {k : Nat} {f : Addr} {fd : FuncData} {ps : List Str} {sp : Sp} {W : WX} {x : Str} {p pos : Pos} {e : Expr} {es : List Expr} {t : TA} {dvs : List V} {ds : List Value}
/-- the callee runs from a body -/
theorem run_g {pins : List (Addr × Obj)} {σ : L2.St} {H : Hp} {s : Shared} {Q : VK} {us : List Value} {vs : List V} {args : Args} (Fo : FnG X.prog X.w X.K X.mg X.base k f fd ps sp) (room : Room k X.A) (gu : X.A.guards = some []) (tk : Takes X W)
    (I : Inv X pins σ H s) (b : BindsTo s fd args (ps.zip us)) (r : Vals vs us) (h : sp vs H Q (WE W σ)) : codeAny (model X.prog X.w) X.A (.call (.ref f) args) (fun r s' => match r with
      | .ok (.ret u) => EP X pins σ Q u s'
      | .ok _ => False
      | .error er => X.xe er s') s := by
  refine codeAny_mono (Fo.run X.A X.stack s H args us vs Q (WE W σ) room gu I.env0 b r h) fun r s' hq => ?_
  match r, hq with
  | .ok (.ret _), hq => exact I.after hq
  | .error er, hq => exact passAt tk σ pins H s er s' I hq
def tCallG (sp : Sp) (dvs : List V) (W : WX) (t : TA) : TE := fun σ H Q => t σ H fun vs H1 => sp (vs ++ dvs) H1 Q (WE W σ)
theorem pe_callG (Fo : FnG X.prog X.w X.K X.mg X.base k f fd ps sp) (room : Room k X.A) (gu : X.A.guards = some []) (hg : Gl X x) (hm : X.mg x = some (.ref f)) (hk : PySem.W.keepIn X.K (.ref f) = true) (hb : Binds X.K fd ps ds) (hd : Vals dvs ds) (tk : Takes X W)
    (ha : PA X (e :: es) t) (hdb : (x == ("__debug__" : Str)) = false := by decide) (he : starEach (e :: es) X.env = (false, eval e X.env) :: starEach es X.env := by rfl) (hpl : (backTo pos (starEach es X.env)).any (·.1) = false := by rfl) :
    PE X (.Call (.Name x p) (e :: es) [] pos) (tCallG sp dvs W t) := by
  constructor
  intro pins s σ H Q I reading
  apply wpAny_Call_Name_kw
  apply ld_glob I hg hm _ hdb
  apply PySem.W.callWith_K (h₀ := X.base) I.ok.mod.kin hk _ he hpl
  apply thn (ha.run pos pins s σ H _ I reading)
  rintro us s1 ⟨vs, H1, I1, r, q⟩
  constructor
  · exact I1.kIn
  · have both : Vals (vs ++ dvs) (us ++ ds) := r.append hd
    have same : (us ++ ds).length = ps.length := both.length ▸ Fo.len _ _ _ _ q
    exact wpAny_call (codeAny_mono (run_g Fo room gu tk I1 (hb s1 us I1.kIn same) both q) fun r s' z => match r, z with
      | .ok (.ret _), z => z
      | .error _, z => z)
end
/-- the law's own call, behind the top -/
theorem law_g {P : Program} {w : World} {K : PySem.W.Frag} {mg mb : Str → Option Value} {k : Nat} {fa a : Addr} {fd : FuncData} {x : Str} {sp : Sp} {s1 : Shared} {vs : List Value} {ns : List Int}
    (KX : K.In s1.heap) (hns : s1.heap.Ns mainGlobals mg) (hb : s1.heap.Ns builtinsNs mb) (hbb : ∀ x : Str, x ≠ "__name__" → mb x = bootBuiltins x) (hlim : s1.heap.NoLimit) (hg : s1.gens = #[])
    (ha : s1.heap.get? a = some { cls := .type "list", data := .seq vs.toArray }) (hi : PyProof.Rows.IntsAre vs ns) (hl : ns.length ≤ sizeLine) (room : Room k callerA)
    (F : ∀ base : Heap, K.In base → base.Ns mainGlobals mg → FnG P w K mg base k fa fd [x] sp) (hbind : ∀ (s : Shared) (u : Value), BindsTo s fd ⟨[u], []⟩ [(x, u)])
    (hsp : ∀ H : Hp, SqL K H a (ns.map V.int) → sp [.ref a] H (fun v _ => v = .bl true) fun _ _ _ => False) :
    codeAny (model P w) callerA (.call (.ref fa) ⟨[.ref a], []⟩) (fun r s' => r = .ok (.ret (.bool true)) ∧ OldK s1.heap s'.heap ∧ s'.os = s1.os ∧ PyProof.Rows.AllBare s'.gens) s1 := by
  -- what is tracked: the script, if it is no object of the module
  have main : ∀ H : Hp, Only H → SqL K H a (ns.map V.int) → HOk P w H s1.heap → (∀ b, H b ≠ none → b = a ∧ K.lookup a = none) →
      codeAny (model P w) callerA (.call (.ref fa) ⟨[.ref a], []⟩) (fun r s' => r = .ok (.ret (.bool true)) ∧ OldK s1.heap s'.heap ∧ s'.os = s1.os ∧ PyProof.Rows.AllBare s'.gens) s1 := by
    intro H only seq held one
    have dictFree : ∀ {b : Addr} {o : Obj} {es : Array DictEntry} {n : Nat}, s1.heap.get? b = some o → o.data = .dict es n → H b = none := by
      intro b o es n q d
      match e : H b with
      | none => rfl
      | some u =>
        have ab := (one b (by rw [e]; exact fun z => nomatch z)).1
        rw [ab, ha] at q
        cases q
        cases (show Data.seq vs.toArray _ = Data.dict es n from d)
    have names : ∀ {b : Addr} {m : Str → Option Value}, s1.heap.Ns b m → (hidT s1.heap H).Ns b m := by
      rintro b m ⟨o, es, n, q, d, r⟩
      exact ⟨o, es, n, hidT_get q (dictFree q d), d, r⟩
    have kept : K.In (hidT s1.heap H) := by
      intro b o q
      refine hidT_get (KX b o q) ?_
      match e : H b with
      | none => rfl
      | some u =>
        obtain ⟨ab, no⟩ := one b (by rw [e]; exact fun z => nomatch z)
        rw [ab, no] at q
        cases q
    obtain ⟨mc, lim1, lim2⟩ := hlim
    have env0 : Env0 P w K mg (hidT s1.heap H) callerA [] s1 H :=
      { frames := rfl, mod := ⟨kept, names hns, ⟨mb, names hb, hbb⟩, mc, names lim1, lim2⟩, bs := fun b o q => of_hidT q, bsz := Nat.le_of_eq (hidT_size _ _), funs := trivial, frf := (fun b z => by cases z), hok := held, bare := .of_eq hg }
    refine codeAny_mono ((F _ kept (names hns)).run callerA [] s1 H ⟨[.ref a], []⟩ [.ref a] [.ref a] _ _ room rfl env0 (hbind s1 (.ref a)) (.cons rfl .nil) (hsp H seq)) fun r s' z => ?_
    match r, z with
    | .error er, z =>
      obtain ⟨_, _, _, _, _, _, _, _, _, _, _, _, y⟩ := z
      exact y.elim
    | .ok (.ret u), z =>
      obtain ⟨v, H', os, gens, un, held', rel, q⟩ := z
      cases (show v = .bl true from q)
      cases (show u = Value.bool true from rel)
      refine ⟨rfl, OldK.of_keep fun b o q => ?_, os, gens⟩
      match only b with
      | .inl n => exact un.keep b o q n (fun y => by cases y) (fun y => by cases y)
      | .inr ⟨ob, xs, n⟩ =>
        have q1 := (held b _ n).1
        have q2 := (held' b _ (un.frzs b ob _ n)).1
        rw [q] at q1
        cases q1
        exact q2
  have rv := vals_ints hi
  match lk : K.lookup a with
  | some o =>
    have q := KX a o lk
    rw [ha] at q
    cases q
    exact main (fun _ => none) (fun _ => .inl rfl) (.inr ⟨_, vs.toArray, _, lk, rfl, rfl, rfl, by rw [List.size_toArray, hi.length]; exact hl, by simpa using rv⟩) (fun b u z => nomatch (show (none : Option HO) = some u from z)) fun b z => absurd rfl z
  | none =>
    let H : Hp := upd (fun _ => none) a (.frz { cls := .type "list", data := .seq vs.toArray } (.lst (ns.map V.int)))
    have at_ : ∀ {b : Addr} {u : HO}, H b = some u → b = a ∧ u = .frz { cls := .type "list", data := .seq vs.toArray } (.lst (ns.map V.int)) := by
      intro b u q
      by_cases hb : b = a
      · rw [hb, show H a = _ from upd_same] at q
        exact ⟨hb, (Option.some.inj q).symm⟩
      · rw [show H b = none from upd_ne hb] at q
        cases q
    refine main H (fun b => ?_) (.inl (.inr ⟨_, upd_same⟩)) (fun b u q => ?_) fun b n => ?_
    · match e : H b with
      | none => exact .inl rfl
      | some u => exact .inr ⟨_, _, congrArg some (at_ e).2⟩
    · obtain ⟨rfl, rfl⟩ := at_ q
      exact ⟨ha, by rw [List.length_map]; exact hl, vs, _, rv, ha⟩
    · match e : H b with
      | none => exact absurd e n
      | some u => exact ⟨(at_ e).1, lk⟩
/-- the law's end over a head by facts; the script's bits are told -/
theorem walk_g {l : PySem.W.OpenLaw} {n k : Nat} {q : Program} {loose : List Str} {XP : (Str → Option Value) → Heap → Prop} {YP : World → Heap → Prop} {d : DefRec} {x : Str}
    (hn : l.most = some n) (hn2 : n ≤ sizeLine) (hdf : d.params.defaults = []) (room : Room k callerA)
    (F : ∀ (w : World) (mg : Str → Option Value) (fa : Addr) (h : Heap), YP w h → h.Ns mainGlobals mg → mg d.name = some (.ref fa) →
      ∃ (K : PySem.W.Frag) (fd : FuncData) (sp : Sp), K.In h ∧ (∀ (s : Shared) (u : Value), BindsTo s fd ⟨[u], []⟩ [(x, u)]) ∧
        (∀ (H : Hp) (a : Addr) (ns : List Int), ns.length ≤ n → (∀ z ∈ ns, Builtin.Int.intBits z ≤ 1048576) → SqL K H a (ns.map V.int) → sp [.ref a] H (fun v _ => v = .bl true) fun _ _ _ => False) ∧
        ∀ base : Heap, K.In base → base.Ns mainGlobals mg → FnG l.prog w K mg base k fa fd [x] sp) :
    PySem.W.WalkO q loose XP YP l.row.toRowW d [] (fun f vs => PySem.call f vs) := by
  apply Att.attach_callB hn hdf
  intro w s0 s1 mg mb fa o pm cd doc a vs ns G Y ho hd hcd hmg hobj hints hlen hbits hg
  obtain ⟨K, fd, sp, KX, hb, hsp, hF⟩ := F w mg fa _ Y G.T.g hmg
  exact law_g KX G.T.g G.T.b G.T.builtins G.T.nolimit hg hobj hints (Nat.le_trans hlen hn2) room hF hb fun H hS => hsp H a ns hlen hbits hS
end DL
set_option Elab.async false
set_option linter.all false
set_option maxRecDepth 100000
set_option maxHeartbeats 4000000
/-! DlH: what a def promises, how it is called. -/
namespace DL
open PySem L2

abbrev Fn := Fr → R Sl
/-- the arguments behind the call: those that are written as they came out -/
def outs : Fr → Fr → Option Fr
  | [], _ => some []
  | .io _ :: as, .io w :: e => match outs as e with
    | some r => some (.io w :: r)
    | none => none
  | .sh d :: as, _ :: e => match outs as e with
    | some r => some (.sh d :: r)
    | none => none
  | _, _ => none
def endF (as : Fr) (s : Sl) (e : Fr) : R Sl := match outs as e with
  | some r => .ok s r
  | none => .no
def runF (n m : Nat) (f : Sf) : Fn := fun as => match f (as ++ List.replicate (m - n) .un) with
  | .ok (.rt s) e => endF as s e
  | .ok .nx e => endF as (.sh .none) e
  | .ex x e => match outs as e with
    | some r => .ex x r
    | none => .no
  | _ => .no
def argsOnly (as : Fr) : Bool := as.all fun s => match s with
  | .sh _ => true
  | .io _ => true
  | _ => false
/-- the promise: what F tells of the arguments' data -/
def spF (K : PySem.W.Frag) (mg : Str → Option Value) (n : Nat) (F : Fn) : Sp := fun vs H Q E => vs.length = n ∧ ∃ (G : Hp) (as : Fr) (A : Nat → List Addr) (t : Nat → Addr),
  Ok K ⟨H, G, A, t⟩ H G A (vs.map some) as ∧ argsOnly as = true ∧ Wp K mg ⟨H, G, A, t⟩ (fun c d _ H' => E c d H') (vs.map some) (rv K ⟨H, G, A, t⟩) G (F as) Q
theorem outs_at : ∀ {as e r : Fr} {i : Nat} {s : Sl}, outs as e = some r → r[i]? = some s → (∃ d, as[i]? = some (.sh d) ∧ s = .sh d) ∨ ∃ w w', as[i]? = some (.io w) ∧ e[i]? = some (.io w') ∧ s = .io w'
  | [], e, r, i, s, h, q => by
    cases h
    simp at q
  | .un :: _, [], _, _, _, h, _ => by cases h
  | .un :: _, _ :: _, _, _, _, h, _ => by cases h
  | .own _ :: _, [], _, _, _, h, _ => by cases h
  | .own _ :: _, _ :: _, _, _, _, h, _ => by cases h
  | .sh d :: as, [], r, i, s, h, q => by cases h
  | .sh d :: as, x :: e, r, i, s, h, q => by
    have h' : (match outs as e with
      | some r => some (Sl.sh d :: r)
      | none => none) = some r := by cases x <;> exact h
    split at h'
    · rename_i r' hr
      cases h'
      cases i with
      | zero =>
        simp at q
        exact .inl ⟨d, rfl, q.symm⟩
      | succ i =>
        have q' : r'[i]? = some s := by simpa using q
        rcases outs_at hr q' with ⟨d', h1, h2⟩ | ⟨w, w', h1, h2, h3⟩
        · exact .inl ⟨d', by simpa using h1, h2⟩
        · exact .inr ⟨w, w', by simpa using h1, by simpa using h2, h3⟩
    · cases h'
  | .io w0 :: as, [], r, i, s, h, q => by cases h
  | .io w0 :: as, .io w1 :: e, r, i, s, h, q => by
    have h' : (match outs as e with
      | some r => some (Sl.io w1 :: r)
      | none => none) = some r := h
    split at h'
    · rename_i r' hr
      cases h'
      cases i with
      | zero =>
        simp at q
        exact .inr ⟨w0, w1, rfl, rfl, q.symm⟩
      | succ i =>
        have q' : r'[i]? = some s := by simpa using q
        rcases outs_at hr q' with ⟨d', h1, h2⟩ | ⟨w, w', h1, h2, h3⟩
        · exact .inl ⟨d', by simpa using h1, h2⟩
        · exact .inr ⟨w, w', by simpa using h1, by simpa using h2, h3⟩
    · cases h'
  | .io w0 :: as, .un :: e, r, i, s, h, q => by cases h
  | .io w0 :: as, .sh _ :: e, r, i, s, h, q => by cases h
  | .io w0 :: as, .own _ :: e, r, i, s, h, q => by cases h
theorem outs_len : ∀ {as e r : Fr}, outs as e = some r → r.length = as.length
  | [], _, _, h => by
    cases h
    rfl
  | .un :: _, [], _, h => by cases h
  | .un :: _, _ :: _, _, h => by cases h
  | .own _ :: _, [], _, h => by cases h
  | .own _ :: _, _ :: _, _, h => by cases h
  | .sh d :: as, [], r, h => by cases h
  | .sh d :: as, x :: e, r, h => by
    have h' : (match outs as e with
      | some r => some (Sl.sh d :: r)
      | none => none) = some r := by cases x <;> exact h
    split at h'
    · rename_i r' hr
      cases h'
      exact congrArg Nat.succ (outs_len hr)
    · cases h'
  | .io w0 :: as, [], r, h => by cases h
  | .io w0 :: as, .io w1 :: e, r, h => by
    have h' : (match outs as e with
      | some r => some (Sl.io w1 :: r)
      | none => none) = some r := h
    split at h'
    · rename_i r' hr
      cases h'
      exact congrArg Nat.succ (outs_len hr)
    · cases h'
  | .io w0 :: as, .un :: e, r, h => by cases h
  | .io w0 :: as, .sh _ :: e, r, h => by cases h
  | .io w0 :: as, .own _ :: e, r, h => by cases h
section
variable {K : PySem.W.Frag} {mg : Str → Option Value} {Φ : Fx} {H G H' G' : Hp} {A F' : Nat → List Addr} {vs : List V} {as e r : Fr} {σ' : L2.St}
/-- behind the body: the arguments -/
theorem Ok.outs (O : Ok K Φ H G A (vs.map some) as) (O' : Ok K Φ H' G' F' σ' e) (gg : Same G G') (h : DL.outs as e = some r) : Ok K Φ H' G' F' (vs.map some) r where
  gh := O'.gh
  len := by rw [outs_len h]; exact O.len
  slots := fun i s q => by
    rcases outs_at h q with ⟨d, h1, rfl⟩ | ⟨w, w', h1, h2, rfl⟩
    · obtain ⟨v, e1, hd⟩ := O.slots i _ h1
      exact ⟨v, e1, dp_mono gg _ _ hd⟩
    · obtain ⟨a, e1, o1, n1⟩ := O.slots i _ h1
      obtain ⟨a2, e2, o2, n2⟩ := O'.slots i _ h2
      have ea : a = a2 := (n1 a o1.head).2.2.trans (n2 a2 o2.head).2.2.symm
      subst ea
      exact ⟨a, e1, o2, n2⟩
  sep := fun i j s t hij q1 q2 o1 o2 => by
    have old : ∀ {i : Nat} {s : Sl}, r[i]? = some s → s.owned = true → e[i]? = some s := fun {i s} q o => by
      rcases outs_at h q with ⟨d, _, rfl⟩ | ⟨w, w', _, h2, rfl⟩
      · cases o
      · exact h2
    exact O'.sep i j s t hij (old q1 o1) (old q2 o2) o1 o2
  f0 := O'.f0
  f1 := O'.f1
  f2 := O'.f2
theorem rv_outs {s : Sl} {v : V} (h : DL.outs as e = some r) (q : rv K Φ s v H' G' F' σ' e) : rv K Φ s v H' G' F' (vs.map some) r := by
  cases s with
  | un => exact q
  | xn => exact q
  | io _ => exact q
  | sh d => exact q
  | own w =>
    obtain ⟨a, A, e1, o1, n1, ap⟩ := q
    refine ⟨a, A, e1, o1, n1, fun j t q o => ?_⟩
    rcases outs_at h q with ⟨d, _, rfl⟩ | ⟨w, w', _, h2, rfl⟩
    · cases o
    · exact ap j _ h2 rfl
end
section
variable {P : Program} {w : World} {K : PySem.W.Frag} {mg : Str → Option Value} {base : Heap} {x qual : Str} {params : Arguments} {body : List Stmt} {scope : Scope} {dvs : List V} {kws : List (Str × V)} {f : Addr} {fd : FuncData} {N ps : List Str} {k : Nat}
/-- a def keeps the promise that its body tells -/
theorem fn_mk {bf : Sf} (Fd : FunD K x qual params body scope dvs kws f fd) (S : FnScope N ps scope)
    (hb : ∀ (cdv : Value) (A : Around) (outer : List Env) (s : Shared) (H : Hp) (E : XK), Room k (A.deeper (PyProof.Rows.envOfC qual scope s.heap.objs.size f cdv)) → A.guards = some [] → ∀ Φ : Fx, DSs (cxOf (L2.CX P w) P w K mg base N qual scope f cdv A outer s H E) Φ (fun c d _ H' => E c d H') body bf) :
    FnG P w K mg base (k + 1) f fd ps (spF K mg ps.length (runF ps.length N.length bf)) := by
  refine fn_g Fd S (fun vs H Q E h => h.1) (fun cdv A outer s H vs Q E hr gu h => ?_)
  obtain ⟨hl, G, as, Aa, t, O, ao, hw⟩ := h
  have lN : ps.length ≤ N.length := by
    have := congrArg List.length S.pre
    rw [List.length_take] at this
    omega
  have la : as.length = ps.length := by rw [O.len, List.length_map, hl]
  refine ⟨_, hb cdv A outer s H E hr gu ⟨H, G, Aa, t⟩, G, Aa, as ++ List.replicate (N.length - ps.length) .un, ?_, ?_⟩
  · have e1 : ∀ {i : Nat} {s : Sl}, (as ++ List.replicate (N.length - ps.length) Sl.un)[i]? = some s → as[i]? = some s ∨ s = .un := fun {i s} q => by
      by_cases hi : i < as.length
      · rw [List.getElem?_append_left hi] at q
        exact .inl q
      · rw [List.getElem?_append_right (by omega)] at q
        exact .inr (List.eq_of_mem_replicate (List.mem_of_getElem? q))
    refine ⟨O.gh, ?_, fun i s q => ?_, fun i j s t hij q1 q2 o1 o2 => ?_, O.f0, O.f1, O.f2⟩
    · rw [List.length_append, List.length_replicate, la]
      unfold L2.start
      rw [List.length_append, List.length_replicate, List.length_map, hl]
    · rcases e1 q with h1 | rfl
      · have hi : i < (vs.map some).length := by rw [← O.len]; exact (List.getElem?_eq_some_iff.mp h1).1
        unfold L2.start
        rw [List.getElem?_append_left hi]
        exact O.slots i s h1
      · trivial
    · have old : ∀ {i : Nat} {s : Sl}, (as ++ List.replicate (N.length - ps.length) Sl.un)[i]? = some s → s.owned = true → as[i]? = some s := fun {i s} q o => by
        rcases e1 q with h1 | rfl
        · exact h1
        · cases o
      exact O.sep i j s t hij (old q1 o1) (old q2 o2) o1 o2
  · have hw' : Wp K mg ⟨H, G, Aa, t⟩ (fun c d _ H' => E c d H') (vs.map some) (rv K ⟨H, G, Aa, t⟩) G (match bf (as ++ List.replicate (N.length - ps.length) .un) with
      | .ok (.rt s) e => endF as s e
      | .ok .nx e => endF as (.sh .none) e
      | .ex x e => match outs as e with
        | some r => .ex x r
        | none => .no
      | _ => .no) Q := hw
    cases q : bf (as ++ List.replicate (N.length - ps.length) .un) with
    | no =>
      simp only [q] at hw'
      exact hw'.elim
    | ex z e =>
      simp only [q] at hw'
      split at hw'
      · rename_i r hr
        exact fun c d σ' H' G' F' s' o p => hw' c d H' G' F' s' (O.outs o s' hr) p
      · exact hw'.elim
    | ok fl e =>
      simp only [q] at hw'
      have fin : ∀ {s : Sl}, Wp K mg ⟨H, G, Aa, t⟩ (fun c d _ H' => E c d H') (vs.map some) (rv K ⟨H, G, Aa, t⟩) G (endF as s e) Q → ∀ v σ' H' G' F', Same G G' → Ok K ⟨H, G, Aa, t⟩ H' G' F' σ' e → rv K ⟨H, G, Aa, t⟩ s v H' G' F' σ' e → Q v H' := fun {s} z v σ' H' G' F' s' o p => by
        unfold endF at z
        split at z
        · rename_i r hr
          exact z v H' G' F' s' (O.outs o s' hr) (rv_outs hr p)
        · exact z.elim
      cases fl with
      | nx => exact fun v σ' H' G' F' s' o => fin hw' .non σ' H' G' F' s' o .non
      | rt s => exact fun v σ' H' G' F' s' o p => fin hw' v σ' H' G' F' s' o p
      | bk => exact hw'.elim
      | ct => exact hw'.elim
end

/-! ### a call -/
abbrev Ps := List (Bool × Arg)
/-- an argument as the callee has it: written (true), or read -/
def arg1 (e : Fr) : Bool × Arg → Option Sl
  | (true, .slot i) => match e[i]? with
    | some (.own w) => some (.io w)
    | some (.io w) => some (.io w)
    | _ => none
  | (true, .val _) => none
  | (false, .val d) => some (.sh d)
  | (false, .slot i) => match e[i]? with
    | some (.sh d) => some (.sh d)
    | some (.own w) => some (.sh w.toD)
    | some (.io w) => some (.sh w.toD)
    | _ => none
def argS (e : Fr) : Ps → Option Fr
  | [] => some []
  | p :: r => match arg1 e p with
    | some s => match argS e r with
      | some ss => some (s :: ss)
      | none => none
    | none => none
/-- the slots that are written, those whose objects are lent -/
def ioL : Ps → List Nat
  | [] => []
  | (true, .slot i) :: r => i :: ioL r
  | _ :: r => ioL r
def boL (e : Fr) : Ps → List Nat
  | [] => []
  | (false, .slot i) :: r => match e[i]? with
    | some (.own _) => i :: boL e r
    | some (.io _) => i :: boL e r
    | _ => boL e r
  | _ :: r => boL e r
def apart : List Nat → List Nat → Bool
  | [], _ => true
  | i :: r, bo => !(r.contains i) && !(bo.contains i) && apart r bo
def outAt : Ps → Fr → Nat → Option Ow
  | (true, .slot i) :: r, s :: ss, j => if i = j then (match s with
    | .io w => some w
    | _ => none) else outAt r ss j
  | _ :: r, _ :: ss, j => outAt r ss j
  | _, _, _ => none
/-- a slot behind the call -/
def slB (ps : Ps) (os : Fr) (fr : Bool) (bo : List Nat) (j : Nat) (s : Sl) : Sl := match outAt ps os j with
  | some w => s.put w
  | none => if (ioL ps).contains j then .un else if fr && bo.contains j then (match s with
    | .own w => .sh w.toD
    | s => s) else s
def slsB (ps : Ps) (os : Fr) (fr : Bool) (bo : List Nat) : Nat → Fr → Fr
  | _, [] => []
  | j, s :: r => slB ps os fr bo j s :: slsB ps os fr bo (j + 1) r
def flatD : D → Bool
  | .none => true
  | .bool _ => true
  | .int _ => true
  | .str _ => true
  | _ => false
def flatS : Sl → Bool
  | .sh d => flatD d
  | _ => false
def flatO : Fr → Bool
  | [] => true
  | .sh _ :: r => flatO r
  | .io (.ls ds) :: r => ds.all flatD && flatO r
  | _ => false
def noIo (e : Fr) (bo : List Nat) : Bool := bo.all fun i => match e[i]? with
  | some (.io _) => false
  | _ => true
def toRV : Sl → R RV → R RV
  | .sh d, .ok _ e => .ok (.arg (.val d)) e
  | .own w, .ok _ e => .ok (.new w) e
  | _, _ => .no
def callR (F : Fn) (ps : Ps) (e : Fr) : R RV := match apart (ioL ps) (boL e ps) with
  | false => .no
  | true => match argS e ps with
    | none => .no
    | some sl => match F sl with
      | .no => .no
      | .ex x os => if noIo e (boL e ps) = true then .ex x (slsB ps os true (boL e ps) 0 e) else .no
      | .ok s os => if (flatS s && flatO os) = true then toRV s (.ok (.arg (.val .none)) (slsB ps os false (boL e ps) 0 e)) else
        if noIo e (boL e ps) = true then toRV s (.ok (.arg (.val .none)) (slsB ps os true (boL e ps) 0 e)) else .no
def eFn (F : Fn) (ms : List Bool) (fa : Af) : Rf := fun e => (fa e).bind fun as e1 => callR F (ms.zip as) e1
theorem slsB_at {ps : Ps} {os : Fr} {fr : Bool} {bo : List Nat} : ∀ {e : Fr} {n i : Nat} {s : Sl}, (slsB ps os fr bo n e)[i]? = some s → ∃ t, e[i]? = some t ∧ s = slB ps os fr bo (n + i) t
  | [], n, i, s, h => by simp [slsB] at h
  | t :: r, n, 0, s, h => by
    simp [slsB] at h
    exact ⟨t, rfl, h.symm⟩
  | t :: r, n, i + 1, s, h => by
    have h' : (slsB ps os fr bo (n + 1) r)[i]? = some s := by simpa [slsB] using h
    obtain ⟨u, h1, h2⟩ := slsB_at h'
    refine ⟨u, by simpa using h1, ?_⟩
    have : n + 1 + i = n + (i + 1) := by omega
    rw [← this]
    exact h2
theorem slsB_len {ps : Ps} {os : Fr} {fr : Bool} {bo : List Nat} : ∀ {e : Fr} {n : Nat}, (slsB ps os fr bo n e).length = e.length
  | [], _ => rfl
  | _ :: r, n => congrArg Nat.succ (slsB_len (e := r) (n := n + 1))
end DL
set_option Elab.async false
set_option linter.all false
set_option maxRecDepth 100000
set_option maxHeartbeats 4000000
/-! DlI: calls of defs. -/
namespace DL
open PySem L2

theorem apart_io : ∀ {l bo : List Nat}, apart l bo = true → l.Nodup ∧ ∀ i ∈ l, i ∉ bo
  | [], _, _ => ⟨.nil, fun i h => by cases h⟩
  | i :: r, bo, h => by
    unfold apart at h
    simp only [Bool.and_eq_true, Bool.not_eq_true', List.contains_eq_mem, decide_eq_false_iff_not] at h
    obtain ⟨⟨h1, h2⟩, h3⟩ := h
    obtain ⟨h4, h5⟩ := apart_io h3
    refine ⟨List.nodup_cons.mpr ⟨h1, h4⟩, fun j hj => ?_⟩
    rcases List.mem_cons.mp hj with rfl | hj
    · exact h2
    · exact h5 j hj
theorem ioL_mem : ∀ {ps : Ps} {k i : Nat}, ps[k]? = some (true, .slot i) → i ∈ ioL ps
  | [], k, i, h => by simp at h
  | p :: r, 0, i, h => by
    simp at h
    subst h
    exact List.mem_cons_self
  | p :: r, k + 1, i, h => by
    have h' : r[k]? = some (true, .slot i) := by simpa using h
    have := ioL_mem h'
    obtain ⟨m, a⟩ := p
    cases m <;> cases a <;> first | exact this | exact List.mem_cons_of_mem _ this
theorem ioL_uniq : ∀ {ps : Ps} {k k' i : Nat}, (ioL ps).Nodup → ps[k]? = some (true, .slot i) → ps[k']? = some (true, .slot i) → k = k'
  | [], k, k', i, _, h, _ => by simp at h
  | p :: r, 0, 0, i, _, _, _ => rfl
  | p :: r, 0, k' + 1, i, nd, h, h' => by
    simp at h
    subst h
    have q : r[k']? = some (true, .slot i) := by simpa using h'
    exact absurd (ioL_mem q) (List.nodup_cons.mp (show (i :: ioL r).Nodup from nd)).1
  | p :: r, k + 1, 0, i, nd, h, h' => by
    simp at h'
    subst h'
    have q : r[k]? = some (true, .slot i) := by simpa using h
    exact absurd (ioL_mem q) (List.nodup_cons.mp (show (i :: ioL r).Nodup from nd)).1
  | p :: r, k + 1, k' + 1, i, nd, h, h' => by
    have q : r[k]? = some (true, .slot i) := by simpa using h
    have q' : r[k']? = some (true, .slot i) := by simpa using h'
    have nd' : (ioL r).Nodup := by
      obtain ⟨m, a⟩ := p
      cases m <;> cases a <;> first | exact nd | exact (List.nodup_cons.mp (show (_ :: ioL r).Nodup from nd)).2
    exact congrArg Nat.succ (ioL_uniq nd' q q')
theorem ioL_of : ∀ {ps : Ps} {i : Nat}, i ∈ ioL ps → ∃ k : Nat, ps[k]? = some (true, Arg.slot i)
  | [], i, h => by cases h
  | (true, .slot j) :: r, i, h => by
    rcases List.mem_cons.mp (show i ∈ j :: ioL r from h) with rfl | h
    · exact ⟨0, rfl⟩
    · obtain ⟨k, q⟩ := ioL_of h
      exact ⟨k + 1, by simpa using q⟩
  | (true, .val _) :: r, i, h => by
    obtain ⟨k, q⟩ := ioL_of (show i ∈ ioL r from h)
    exact ⟨k + 1, by simpa using q⟩
  | (false, .slot _) :: r, i, h => by
    obtain ⟨k, q⟩ := ioL_of (show i ∈ ioL r from h)
    exact ⟨k + 1, by simpa using q⟩
  | (false, .val _) :: r, i, h => by
    obtain ⟨k, q⟩ := ioL_of (show i ∈ ioL r from h)
    exact ⟨k + 1, by simpa using q⟩
theorem boL_mem {e : Fr} : ∀ {ps : Ps} {k i : Nat} {s : Sl}, ps[k]? = some (false, .slot i) → e[i]? = some s → s.owned = true → i ∈ boL e ps
  | [], k, i, s, h, _, _ => by simp at h
  | p :: r, 0, i, s, h, q, o => by
    simp at h
    subst h
    unfold boL
    rw [q]
    cases s with
    | un => cases o
    | xn => cases o
    | sh _ => cases o
    | own _ => exact List.mem_cons_self
    | io _ => exact List.mem_cons_self
  | p :: r, k + 1, i, s, h, q, o => by
    have h' : r[k]? = some (false, .slot i) := by simpa using h
    have := boL_mem h' q o
    obtain ⟨m, a⟩ := p
    cases m with
    | true => cases a <;> exact this
    | false =>
      cases a with
      | val _ => exact this
      | slot j =>
        unfold boL
        split
        · exact List.mem_cons_of_mem _ this
        · exact List.mem_cons_of_mem _ this
        · exact this
theorem boL_of {e : Fr} : ∀ {ps : Ps} {i : Nat}, i ∈ boL e ps → ∃ s, e[i]? = some s ∧ s.owned = true
  | [], i, h => by cases h
  | (true, a) :: r, i, h => by
    have : i ∈ boL e r := by cases a <;> exact h
    exact boL_of this
  | (false, .val _) :: r, i, h => boL_of (show i ∈ boL e r from h)
  | (false, .slot j) :: r, i, h => by
    unfold boL at h
    split at h
    · rename_i w q
      rcases List.mem_cons.mp h with rfl | h
      · exact ⟨_, q, rfl⟩
      · exact boL_of h
    · rename_i w q
      rcases List.mem_cons.mp h with rfl | h
      · exact ⟨_, q, rfl⟩
      · exact boL_of h
    · exact boL_of h
theorem outAt_of : ∀ {ps : Ps} {os : Fr} {j : Nat} {w : Ow}, outAt ps os j = some w → ∃ k : Nat, ps[k]? = some (true, Arg.slot j) ∧ os[k]? = some (Sl.io w)
  | [], _, _, _, h => by
    unfold outAt at h
    cases h
  | (true, .slot i) :: r, [], _, _, h => by
    unfold outAt at h
    cases h
  | (true, .slot i) :: r, s :: ss, j, w, h => by
    unfold outAt at h
    split at h
    · rename_i e
      subst e
      split at h
      · cases h
        exact ⟨0, rfl, rfl⟩
      · cases h
    · obtain ⟨k, h1, h2⟩ := outAt_of h
      exact ⟨k + 1, by simpa using h1, by simpa using h2⟩
  | (true, .val _) :: r, [], _, _, h => by
    unfold outAt at h
    cases h
  | (false, _) :: r, [], _, _, h => by
    unfold outAt at h
    cases h
  | (true, .val _) :: r, s :: ss, j, w, h => by
    obtain ⟨k, h1, h2⟩ := outAt_of (show outAt r ss j = some w from h)
    exact ⟨k + 1, by simpa using h1, by simpa using h2⟩
  | (false, .val _) :: r, s :: ss, j, w, h => by
    obtain ⟨k, h1, h2⟩ := outAt_of (show outAt r ss j = some w from h)
    exact ⟨k + 1, by simpa using h1, by simpa using h2⟩
  | (false, .slot _) :: r, s :: ss, j, w, h => by
    obtain ⟨k, h1, h2⟩ := outAt_of (show outAt r ss j = some w from h)
    exact ⟨k + 1, by simpa using h1, by simpa using h2⟩
theorem argS_at {e : Fr} : ∀ {ps : Ps} {sl : Fr} {k : Nat} {s : Sl}, argS e ps = some sl → sl[k]? = some s → ∃ p, ps[k]? = some p ∧ arg1 e p = some s
  | [], sl, k, s, h, q => by
    cases h
    simp at q
  | p :: r, sl, k, s, h, q => by
    unfold argS at h
    split at h
    · rename_i s0 e0
      split at h
      · rename_i ss e1
        cases h
        cases k with
        | zero =>
          simp at q
          subst q
          exact ⟨p, rfl, e0⟩
        | succ k =>
          obtain ⟨p', h1, h2⟩ := argS_at e1 (show ss[k]? = some s by simpa using q)
          exact ⟨p', by simpa using h1, h2⟩
      · cases h
    · cases h
theorem argS_len {e : Fr} : ∀ {ps : Ps} {sl : Fr}, argS e ps = some sl → sl.length = ps.length
  | [], sl, h => by
    cases h
    rfl
  | p :: r, sl, h => by
    unfold argS at h
    split at h
    · split at h
      · rename_i ss e1
        cases h
        exact congrArg Nat.succ (argS_len e1)
      · cases h
    · cases h
theorem argS_only {e : Fr} : ∀ {ps : Ps} {sl : Fr}, argS e ps = some sl → argsOnly sl = true
  | [], sl, h => by
    cases h
    rfl
  | p :: r, sl, h => by
    unfold argS at h
    split at h
    · rename_i s0 e0
      split at h
      · rename_i ss e1
        cases h
        have := argS_only e1
        unfold argsOnly at this ⊢
        rw [List.all_cons, this, Bool.and_true]
        obtain ⟨m, a⟩ := p
        cases m <;> cases a <;> unfold arg1 at e0
        · cases e0
          rfl
        · simp only at e0
          split at e0 <;> cases e0 <;> rfl
        · cases e0
        · simp only at e0
          split at e0 <;> cases e0 <;> rfl
      · cases h
    · cases h
mutual
theorem flat_any {K : PySem.W.Frag} {G G' : Hp} : ∀ {v : V} {d : D}, flatD d = true → Dp K G v d → Dp K G' v d
  | _, .none, _, h => by cases h; exact .non
  | _, .bool b, _, h => by cases h; exact .bl b
  | _, .int i, _, h => by cases h; exact .int i
  | _, .str x, _, h => by cases h; exact .str x
  | _, .list _, f, _ => by cases f
  | _, .tuple _, f, _ => by cases f
  | _, .dict _, f, _ => by cases f
end
theorem flat_all {K : PySem.W.Frag} {G G' : Hp} : ∀ {vs : List V} {ds : List D}, ds.all flatD = true → DpAll K G vs ds → DpAll K G' vs ds
  | _, [], _, h => by cases h; exact .nil
  | _, d :: ds, f, h => by
    cases h with
    | cons h1 h2 =>
      rw [List.all_cons, Bool.and_eq_true] at f
      exact .cons (flat_any f.1 h1) (flat_all f.2 h2)
theorem flatO_at : ∀ {os : Fr} {k : Nat} {w : Ow}, flatO os = true → os[k]? = some (.io w) → ∃ ds, w = .ls ds ∧ ds.all flatD = true
  | [], k, w, _, q => by simp at q
  | .un :: _, _, _, f, _ => by cases f
  | .own _ :: _, _, _, f, _ => by cases f
  | .sh _ :: r, 0, w, _, q => by simp at q
  | .sh _ :: r, k + 1, w, f, q => flatO_at (show flatO r = true from f) (by simpa using q)
  | .io (.ls ds) :: r, 0, w, f, q => by
    simp at q
    exact ⟨ds, q.symm, (Bool.and_eq_true_iff.mp (show (ds.all flatD && flatO r) = true from f)).1⟩
  | .io (.ls ds) :: r, k + 1, w, f, q => flatO_at (Bool.and_eq_true_iff.mp (show (ds.all flatD && flatO r) = true from f)).2 (by simpa using q)
  | .io (.ll _) :: r, _, _, f, _ => by cases f
section
variable {K : PySem.W.Frag} {mg : Str → Option Value} {Φ : Fx} {W : WX} {H G : Hp} {F : Nat → List Addr} {σ : L2.St} {e : Fr} {as : List Arg} {vs : List V} {ms : List Bool} {sl : Fr}
/-- the lent objects -/
def lent (F : Nat → List Addr) (bo : List Nat) : List Addr := bo.flatMap F
/-- the written objects, by the places of the arguments -/
def wrote (F : Nat → List Addr) (ps : Ps) (k : Nat) : List Addr := match ps[k]? with
  | some (true, .slot i) => F i
  | _ => []
def addrAt (vs : List V) (k : Nat) : Addr := match vs[k]? with
  | some (.ref a) => a
  | _ => 0
abbrev callFx (H G : Hp) (F : Nat → List Addr) (ps : Ps) (bo : List Nat) (vs : List V) : Fx := ⟨H, takeIn H G (lent F bo), wrote F ps, addrAt vs⟩
theorem Ok.frees (O : Ok K Φ H G F σ e) {i : Nat} {s : Sl} (q : e[i]? = some s) (o : s.owned = true) : ∀ b ∈ F i, G b = none ∧ ∃ vs, H b = some (.lst vs) := fun b hb => by
  have old := O.slots i s q
  cases s with
  | un => cases o
  | xn => cases o
  | sh _ => cases o
  | own w =>
    obtain ⟨a, _, h1, h2⟩ := old
    exact ⟨(h2 b hb).1, h1.there b hb⟩
  | io w =>
    obtain ⟨a, _, h1, h2⟩ := old
    exact ⟨(h2 b hb).1, h1.there b hb⟩
theorem rs_at : ∀ {as : List Arg} {vs : List V} {k : Nat} {a : Arg}, rs K as vs H G F σ e → as[k]? = some a → ∃ v, vs[k]? = some v ∧ ra K a v H G F σ e
  | [], vs, k, a, r, q => by simp at q
  | b :: as, _, 0, a, r, q => by
    cases r with
    | cons h t =>
      simp at q
      subst q
      exact ⟨_, rfl, h⟩
  | b :: as, _, k + 1, a, r, q => by
    cases r with
    | cons h t =>
      obtain ⟨v, h1, h2⟩ := rs_at t (show as[k]? = some a by simpa using q)
      exact ⟨v, by simpa using h1, h2⟩
theorem zip_at {m : Bool} {a : Arg} {k : Nat} (h : (ms.zip as)[k]? = some (m, a)) : as[k]? = some a := (List.getElem?_zip_eq_some.mp h).2
theorem call_start (O : Ok K Φ H G F σ e) (r : rs K as vs H G F σ e) (hl : ms.length = as.length) (ap : apart (ioL (ms.zip as)) (boL e (ms.zip as)) = true) (q : argS e (ms.zip as) = some sl) :
    Same G (takeIn H G (lent F (boL e (ms.zip as)))) ∧ Ok K (callFx H G F (ms.zip as) (boL e (ms.zip as)) vs) H (takeIn H G (lent F (boL e (ms.zip as)))) (wrote F (ms.zip as)) (vs.map some) sl := by
  generalize hbo : boL e (ms.zip as) = bo at *
  obtain ⟨nd, dj⟩ := apart_io ap
  have lv := r.length
  have lentG : ∀ b ∈ lent F bo, G b = none := fun b hb => by
    obtain ⟨i, hi, hb⟩ := List.mem_flatMap.mp hb
    rw [← hbo] at hi
    obtain ⟨s, q, o⟩ := boL_of hi
    exact (O.frees q o b hb).1
  have hs : Same G (takeIn H G (lent F bo)) := takeIn_same lentG
  have key : ∀ {k : Nat} {s : Sl}, sl[k]? = some s → ∃ m a v, (ms.zip as)[k]? = some (m, a) ∧ arg1 e (m, a) = some s ∧ vs[k]? = some v ∧ ra K a v H G F σ e := fun {k s} z => by
    obtain ⟨⟨m, a⟩, h1, h2⟩ := argS_at q z
    obtain ⟨v, h3, h4⟩ := rs_at r (zip_at h1)
    exact ⟨m, a, v, h1, h2, h3, h4⟩
  have ioKey : ∀ {k : Nat} {s : Sl}, sl[k]? = some s → s.owned = true → ∃ i t w, (ms.zip as)[k]? = some (true, .slot i) ∧ e[i]? = some t ∧ t.owned = true ∧ s = .io w ∧ (∀ {H' G' : Hp}, True) := fun {k s} z o => by
    obtain ⟨m, a, v, h1, h2, h3, h4⟩ := key z
    cases m with
    | false =>
      cases a with
      | val d =>
        cases h2
        cases o
      | slot i =>
        unfold arg1 at h2
        simp only at h2
        split at h2 <;> cases h2 <;> cases o
    | true =>
      cases a with
      | val d => cases h2
      | slot i =>
        unfold arg1 at h2
        simp only at h2
        split at h2
        · rename_i w hw
          cases h2
          exact ⟨i, _, w, h1, hw, rfl, rfl, trivial⟩
        · rename_i w hw
          cases h2
          exact ⟨i, _, w, h1, hw, rfl, rfl, trivial⟩
        · cases h2
  refine ⟨hs, takeIn_sub O.gh, ?_, fun k s z => ?_, fun k k' s t hk z1 z2 o1 o2 => ?_, fun b hb => hb, fun b o z _ => z, fun b _ => rfl⟩
  · rw [argS_len q, List.length_map, ← lv, List.length_zip, hl, Nat.min_self]
  · obtain ⟨m, a, v, h1, h2, h3, h4⟩ := key z
    have ev : (vs.map some)[k]? = some (some v) := by rw [List.getElem?_map, h3]; rfl
    have lend : ∀ {i : Nat} {w : Ow} {t : Sl} {b : Addr}, a = .slot i → m = false → e[i]? = some t → t.owned = true → OwAt K G H w b (F i) → v = .ref b → Dp K (takeIn H G (lent F bo)) v w.toD := fun {i w t b} ea em hq ho o1 e1 => by
      rw [e1]
      refine o1.dp hs fun c hc => takeIn_in (List.mem_flatMap.mpr ⟨i, ?_, hc⟩)
      rw [← hbo]
      rw [ea, em] at h1
      exact boL_mem h1 hq ho
    have wrt : ∀ {i : Nat} {w : Ow} {t : Sl} {b : Addr}, (ms.zip as)[k]? = some (true, .slot i) → e[i]? = some t → t.owned = true → OwAt K G H w b (F i) → v = .ref b → slotOk K (callFx H G F (ms.zip as) bo vs) H (takeIn H G (lent F bo)) (wrote F (ms.zip as) k) k (.io w) (vs.map some)[k]? := fun {i w t b} hk hq ho o1 e1 => by
      have ew : wrote F (ms.zip as) k = F i := by unfold wrote; rw [hk]
      rw [ew]
      refine ⟨b, by rw [ev, e1], o1.mono hs (fun _ _ _ z => z), fun c hc => ⟨?_, .inl (by show c ∈ wrote F (ms.zip as) k; rw [ew]; exact hc), ?_⟩⟩
      · rw [takeIn_out ?_]
        · exact (O.frees hq ho c hc).1
        · intro hm
          obtain ⟨j, hj, hc2⟩ := List.mem_flatMap.mp hm
          have hj' := hj
          rw [← hbo] at hj'
          obtain ⟨u, hu, ou⟩ := boL_of hj'
          by_cases eij : i = j
          · exact dj i (ioL_mem hk) (by rw [eij]; exact hj)
          · exact O.sep i j t u eij hq hu ho ou c hc hc2
      · show b = addrAt vs k
        unfold addrAt
        rw [h3, e1]
    cases m with
    | false =>
      cases a with
      | val d =>
        cases h2
        exact ⟨v, ev, dp_mono hs _ _ h4⟩
      | slot i =>
        have h4' : σ[i]? = some (some v) := h4
        unfold arg1 at h2
        simp only at h2
        split at h2
        · rename_i d hq
          cases h2
          obtain ⟨v2, e2, hd⟩ := O.slots i _ hq
          rw [h4'] at e2
          cases e2
          exact ⟨v, ev, dp_mono hs _ _ hd⟩
        · rename_i w hq
          cases h2
          obtain ⟨b, e2, o1, _⟩ := O.slots i _ hq
          rw [h4'] at e2
          cases e2
          exact ⟨_, ev, lend rfl rfl hq rfl o1 rfl⟩
        · rename_i w hq
          cases h2
          obtain ⟨b, e2, o1, _⟩ := O.slots i _ hq
          rw [h4'] at e2
          cases e2
          exact ⟨_, ev, lend rfl rfl hq rfl o1 rfl⟩
        · cases h2
    | true =>
      cases a with
      | val d => cases h2
      | slot i =>
        have h4' : σ[i]? = some (some v) := h4
        unfold arg1 at h2
        simp only at h2
        split at h2
        · rename_i w hq
          cases h2
          obtain ⟨b, e2, o1, _⟩ := O.slots i _ hq
          rw [h4'] at e2
          cases e2
          exact wrt h1 hq rfl o1 rfl
        · rename_i w hq
          cases h2
          obtain ⟨b, e2, o1, _⟩ := O.slots i _ hq
          rw [h4'] at e2
          cases e2
          exact wrt h1 hq rfl o1 rfl
        · cases h2
  · obtain ⟨i, t1, w1, p1, q1, u1, _, _⟩ := ioKey z1 o1
    obtain ⟨j, t2, w2, p2, q2, u2, _, _⟩ := ioKey z2 o2
    have hij : i ≠ j := fun z => hk (ioL_uniq nd p1 (by rw [z]; exact p2))
    intro b hb
    have e1 : wrote F (ms.zip as) k = F i := by unfold wrote; rw [p1]
    have e2 : wrote F (ms.zip as) k' = F j := by unfold wrote; rw [p2]
    rw [e1] at hb
    rw [e2]
    exact O.sep i j t1 t2 hij q1 q2 u1 u2 b hb
end
end DL
set_option Elab.async false
set_option linter.all false
set_option maxRecDepth 100000
set_option maxHeartbeats 4000000
/-! DlJ: behind a call. -/
namespace DL
open PySem L2

open Classical in
/-- the footprints behind the call -/
noncomputable def foot (F F2 : Nat → List Addr) (ps : Ps) (j : Nat) : List Addr := if h : ∃ k : Nat, ps[k]? = some (true, Arg.slot j) then F2 h.choose else F j
theorem foot_io {F F2 : Nat → List Addr} {ps : Ps} {k j : Nat} (nd : (ioL ps).Nodup) (h : ps[k]? = some (true, Arg.slot j)) : foot F F2 ps j = F2 k := by
  have hx : ∃ k : Nat, ps[k]? = some (true, Arg.slot j) := ⟨k, h⟩
  unfold foot
  rw [dif_pos hx, ioL_uniq nd hx.choose_spec h]
theorem foot_no {F F2 : Nat → List Addr} {ps : Ps} {j : Nat} (h : j ∉ ioL ps) : foot F F2 ps j = F j := by
  unfold foot
  rw [dif_neg]
  exact fun ⟨k, q⟩ => h (ioL_mem q)
section
variable {K : PySem.W.Frag} {mg : Str → Option Value} {Φ : Fx} {W : WX} {H G H' G' Gn : Hp} {F F2 : Nat → List Addr} {σ : L2.St} {e os : Fr} {as : List Arg} {vs : List V} {ms : List Bool} {sl : Fr} {fr : Bool}
theorem argS_io {ps : Ps} (q : argS e ps = some sl) : ∀ {k i : Nat}, ps[k]? = some (true, Arg.slot i) → ∃ t, e[i]? = some t ∧ t.owned = true := by
  intro k i hk
  have hl : k < sl.length := by rw [argS_len q]; exact (List.getElem?_eq_some_iff.mp hk).1
  obtain ⟨p, h1, h2⟩ := argS_at q (List.getElem?_eq_getElem hl)
  rw [hk] at h1
  cases h1
  unfold arg1 at h2
  simp only at h2
  split at h2
  · rename_i w hw
    exact ⟨_, hw, rfl⟩
  · rename_i w hw
    exact ⟨_, hw, rfl⟩
  · cases h2
theorem slB_cases {ps : Ps} {bo : List Nat} {j : Nat} {t s : Sl} (h : s = slB ps os fr bo j t) :
    (∃ w, outAt ps os j = some w ∧ s = t.put w) ∨ (s = .un) ∨ (j ∉ ioL ps ∧ fr = true ∧ j ∈ bo ∧ ∃ w, t = .own w ∧ s = .sh w.toD) ∨ (j ∉ ioL ps ∧ s = t ∧ (fr = true → j ∈ bo → ∀ w, t ≠ .own w)) := by
  unfold slB at h
  cases q : outAt ps os j with
  | some w =>
    rw [q] at h
    exact .inl ⟨w, rfl, h⟩
  | none =>
    rw [q] at h
    simp only at h
    split at h
    · exact .inr (.inl h)
    · rename_i hn
      have hn' : j ∉ ioL ps := by simpa using hn
      split at h
      · rename_i hb
        rw [Bool.and_eq_true] at hb
        have hb' : j ∈ bo := by simpa using hb.2
        cases t with
        | own w => exact .inr (.inr (.inl ⟨hn', hb.1, hb', w, rfl, h⟩))
        | un => exact .inr (.inr (.inr ⟨hn', h, fun _ _ w z => by cases z⟩))
        | xn => exact .inr (.inr (.inr ⟨hn', h, fun _ _ w z => by cases z⟩))
        | sh _ => exact .inr (.inr (.inr ⟨hn', h, fun _ _ w z => by cases z⟩))
        | io _ => exact .inr (.inr (.inr ⟨hn', h, fun _ _ w z => by cases z⟩))
      · rename_i hb
        exact .inr (.inr (.inr ⟨hn', h, fun hf hm => absurd (by rw [hf, Bool.true_and]; simpa using hm) hb⟩))
theorem put_owned {t : Sl} {w : Ow} : (t.put w).owned = true := by cases t <;> rfl
theorem call_end (O : Ok K Φ H G F σ e) (r : rs K as vs H G F σ e) (hl : ms.length = as.length) (ap : apart (ioL (ms.zip as)) (boL e (ms.zip as)) = true) (q : argS e (ms.zip as) = some sl)
    (O' : Ok K (callFx H G F (ms.zip as) (boL e (ms.zip as)) vs) H' G' F2 (vs.map some) os) (gg : Same (takeIn H G (lent F (boL e (ms.zip as)))) G')
    (hG : (fr = true ∧ Gn = G' ∧ noIo e (boL e (ms.zip as)) = true) ∨ (fr = false ∧ Gn = G ∧ flatO os = true)) :
    Same G Gn ∧ Ok K Φ H' Gn (foot F F2 (ms.zip as)) σ (slsB (ms.zip as) os fr (boL e (ms.zip as)) 0 e) := by
  obtain ⟨hs, O1⟩ := call_start O r hl ap q
  have ioA := @argS_io e sl _ q
  generalize hbo : boL e (ms.zip as) = bo at *
  generalize hps : ms.zip as = ps at *
  obtain ⟨nd, dj⟩ := apart_io ap
  have sG : Same G Gn := by
    rcases hG with ⟨_, rfl, _⟩ | ⟨_, rfl, _⟩
    · exact hs.trans gg
    · exact Same.refl _
  have lentBo : ∀ b ∈ lent F bo, ∃ i ∈ bo, b ∈ F i ∧ ∃ s, e[i]? = some s ∧ s.owned = true := fun b hb => by
    obtain ⟨i, hi, hb⟩ := List.mem_flatMap.mp hb
    have hi' := hi
    rw [← hbo] at hi'
    exact ⟨i, hi, hb, boL_of hi'⟩
  have wr : ∀ {k : Nat} {b : Addr}, b ∈ wrote F ps k → ∃ i t, ps[k]? = some (true, Arg.slot i) ∧ b ∈ F i ∧ e[i]? = some t ∧ t.owned = true := fun {k b} hb => by
    unfold wrote at hb
    split at hb
    · rename_i i hk
      obtain ⟨t, h1, h2⟩ := ioA hk
      exact ⟨i, t, hk, hb, h1, h2⟩
    · cases hb
  have keepH : ∀ {j : Nat} {t : Sl} {b : Addr}, e[j]? = some t → t.owned = true → j ∉ ioL ps → b ∈ F j → ∀ o, H b = some o → H' b = some o := fun {j t b} hj ho hn hb o ho2 => by
    refine O'.f1 b o ho2 fun k hk => ?_
    obtain ⟨i, u, h1, h2, h3, h4⟩ := wr (show b ∈ wrote F ps k from hk)
    exact O.sep j i t u (fun z => hn (by rw [z]; exact ioL_mem h1)) hj h3 ho h4 b hb h2
  have outLent : ∀ {j : Nat} {t : Sl} {b : Addr}, e[j]? = some t → t.owned = true → j ∉ bo → b ∈ F j → b ∉ lent F bo := fun {j t b} hj ho hn hb hm => by
    obtain ⟨i, hi, hb2, s, h1, h2⟩ := lentBo b hm
    exact O.sep j i t s (fun z => hn (by rw [z]; exact hi)) hj h1 ho h2 b hb hb2
  have noneGn : ∀ {j : Nat} {t : Sl} {b : Addr}, e[j]? = some t → t.owned = true → (fr = true → j ∉ bo) → b ∈ F j → Gn b = none := fun {j t b} hj ho hn hb => by
    obtain ⟨n1, vs1, l1⟩ := O.frees hj ho b hb
    rcases hG with ⟨hf, rfl, _⟩ | ⟨_, rfl, _⟩
    · have := O'.f2 b (show H b ≠ none by rw [l1]; exact fun z => nomatch z)
      rw [this]
      show takeIn H G (lent F bo) b = none
      rw [takeIn_out (outLent hj ho (hn hf) hb)]
      exact n1
    · exact n1
  have sigma : ∀ {k i : Nat}, ps[k]? = some (true, Arg.slot i) → ∃ v, vs[k]? = some v ∧ σ[i]? = some (some v) := fun {k i} hk => by
    rw [← hps] at hk
    obtain ⟨v, h1, h2⟩ := rs_at r (zip_at hk)
    exact ⟨v, h1, h2⟩
  have h0 : ∀ {b : Addr}, H b = none → Φ.H_0 b = none := fun {b} z => O.noentry z
  have ioNot : ∀ {j : Nat}, j ∈ ioL ps → j ∉ bo := fun {j} h => dj j h
  refine ⟨sG, ?_, ?_, fun j s z => ?_, fun i j s t hij z1 z2 o1 o2 => ?_, fun b hb => O'.f0 b (O.f0 b hb), fun b o z m => ?_, fun b hb => ?_⟩
  · rcases hG with ⟨_, rfl, _⟩ | ⟨_, rfl, _⟩
    · exact O'.gh
    · intro b o z
      refine O'.f1 b o (O.gh b o z) fun k hk => ?_
      obtain ⟨i, u, h1, h2, h3, h4⟩ := wr (show b ∈ wrote F ps k from hk)
      rw [(O.frees h3 h4 b h2).1] at z
      cases z
  · rw [slsB_len]
    exact O.len
  · obtain ⟨t, ht, es⟩ := slsB_at z
    rw [Nat.zero_add] at es
    have old := O.slots j t ht
    rcases slB_cases es with ⟨w, hw, rfl⟩ | rfl | ⟨hn, hf, hb, w, rfl, rfl⟩ | ⟨hn, rfl, hx⟩
    · obtain ⟨k, hk, hos⟩ := outAt_of hw
      obtain ⟨t', ht', ho⟩ := ioA hk
      rw [ht] at ht'
      cases ht'
      rw [foot_io nd hk]
      obtain ⟨a, ea, oa, na⟩ := O'.slots k _ hos
      obtain ⟨v, ev, sv⟩ := sigma hk
      have ea' : v = .ref a := by
        rw [List.getElem?_map, ev] at ea
        exact Option.some.inj (Option.some.inj ea)
      subst ea'
      have ow : OwAt K Gn H' w a (F2 k) := by
        rcases hG with ⟨_, rfl, _⟩ | ⟨_, rfl, hfl⟩
        · exact oa
        · obtain ⟨ds, rfl, fl⟩ := flatO_at hfl hos
          obtain ⟨vs', h1, h2, h3⟩ := owls oa
          rw [h3]
          exact .ls h1 (flat_all fl h2)
      have nG : ∀ b ∈ F2 k, Gn b = none := fun b hb => by
        rcases hG with ⟨_, rfl, _⟩ | ⟨_, rfl, hfl⟩
        · exact (na b hb).1
        · rcases (na b hb).2.1 with z | z
          · obtain ⟨i, u, h1, h2, h3, h4⟩ := wr (show b ∈ wrote F ps k from z)
            exact (O.frees h3 h4 b h2).1
          · exact same_back O.gh (show H b = none from z)
      have src : ∀ b ∈ F2 k, b ∈ F j ∨ H b = none := fun b hb => by
        rcases (na b hb).2.1 with z | z
        · have z' : b ∈ wrote F ps k := z
          unfold wrote at z'
          rw [hk] at z'
          exact .inl z'
        · exact .inr z
      cases t with
      | un => cases ho
      | xn => cases ho
      | sh _ => cases ho
      | own u =>
        obtain ⟨a0, e0, _, n0⟩ := old
        exact ⟨a, sv, ow, fun b hb => ⟨nG b hb, (src b hb).elim (fun z => (n0 b z).2) h0⟩⟩
      | io u =>
        obtain ⟨a0, e0, o0, n0⟩ := old
        rw [sv] at e0
        cases e0
        exact ⟨a, sv, ow, fun b hb => ⟨nG b hb, (src b hb).elim (fun z => (n0 b z).2.1) (fun z => .inr (h0 z)), (n0 a o0.head).2.2⟩⟩
    · trivial
    · obtain ⟨a, ea, oa, na⟩ := old
      refine ⟨.ref a, ea, ?_⟩
      rcases hG with ⟨_, rfl, _⟩ | ⟨hf', _, _⟩
      · exact dp_mono gg _ _ (oa.dp hs fun b hb2 => takeIn_in (List.mem_flatMap.mpr ⟨j, hb, hb2⟩))
      · rw [hf'] at hf
        cases hf
    · rw [foot_no hn]
      cases s with
      | un => trivial
      | xn => first | exact old | exact h | exact h1 | exact h2 | exact q | exact O.slots _ _ ‹_›
      | sh d =>
        obtain ⟨v, ev, hd⟩ := old
        exact ⟨v, ev, dp_mono sG _ _ hd⟩
      | own u =>
        obtain ⟨a, ea, oa, na⟩ := old
        exact ⟨a, ea, oa.mono sG (fun b hb o z => keepH ht rfl hn hb o z), fun b hb => ⟨noneGn ht rfl (fun hf hm => hx hf hm u rfl) hb, (na b hb).2⟩⟩
      | io u =>
        obtain ⟨a, ea, oa, na⟩ := old
        refine ⟨a, ea, oa.mono sG (fun b hb o z => keepH ht rfl hn hb o z), fun b hb => ⟨noneGn ht rfl (fun hf hm => ?_) hb, (na b hb).2⟩⟩
        rcases hG with ⟨_, _, hno⟩ | ⟨hf', _, _⟩
        · have := List.all_eq_true.mp hno j hm
          rw [ht] at this
          cases this
        · rw [hf'] at hf
          cases hf
  · -- apart
    have cas : ∀ {j : Nat} {s : Sl}, (slsB ps os fr bo 0 e)[j]? = some s → s.owned = true → (∃ (k : Nat) (w : Ow), ps[k]? = some (true, Arg.slot j) ∧ os[k]? = some (Sl.io w)) ∨ (j ∉ ioL ps ∧ e[j]? = some s) := fun {j s} z o => by
      obtain ⟨t, ht, es⟩ := slsB_at z
      rw [Nat.zero_add] at es
      rcases slB_cases es with ⟨w, hw, rfl⟩ | rfl | ⟨hn, hf, hb, w, rfl, rfl⟩ | ⟨hn, rfl, hx⟩
      · obtain ⟨k, hk, hos⟩ := outAt_of hw
        exact .inl ⟨k, w, hk, hos⟩
      · cases o
      · cases o
      · exact .inr ⟨hn, ht⟩
    have mix : ∀ {i j k : Nat} {w : Ow} {t : Sl}, i ≠ j → ps[k]? = some (true, Arg.slot i) → os[k]? = some (Sl.io w) → j ∉ ioL ps → e[j]? = some t → t.owned = true → ∀ b ∈ F2 k, b ∉ F j := fun {i j k w t} hij hk hos hn hj ho b hb hb2 => by
      obtain ⟨a, _, oa, na⟩ := O'.slots k _ hos
      rcases (na b hb).2.1 with z | z
      · have z' : b ∈ wrote F ps k := z
        unfold wrote at z'
        rw [hk] at z'
        obtain ⟨u, h3, h4⟩ := ioA hk
        exact O.sep i j u t hij h3 hj h4 ho b z' hb2
      · obtain ⟨_, vs1, l1⟩ := O.frees hj ho b hb2
        rw [show H b = none from z] at l1
        cases l1
    rcases cas z1 o1 with ⟨k1, w1, p1, q1⟩ | ⟨n1, y1⟩
    · rw [foot_io nd p1]
      rcases cas z2 o2 with ⟨k2, w2, p2, q2⟩ | ⟨n2, y2⟩
      · rw [foot_io nd p2]
        refine O'.sep k1 k2 _ _ (fun z => hij ?_) q1 q2 rfl rfl
        rw [z, p2] at p1
        cases p1
        rfl
      · rw [foot_no n2]
        exact mix hij p1 q1 n2 y2 o2
    · rw [foot_no n1]
      rcases cas z2 o2 with ⟨k2, w2, p2, q2⟩ | ⟨n2, y2⟩
      · rw [foot_io nd p2]
        exact fun b hb hb2 => mix (Ne.symm hij) p2 q2 n1 y1 o1 b hb2 hb
      · rw [foot_no n2]
        exact O.sep i j s t hij y1 y2 o1 o2
  · refine O'.f1 b o (O.f1 b o z m) fun k hk => ?_
    obtain ⟨i, u, h1, h2, h3, h4⟩ := wr (show b ∈ wrote F ps k from hk)
    have old := O.slots i u h3
    cases u with
    | un => cases h4
    | xn => cases h4
    | sh _ => cases h4
    | own w =>
      obtain ⟨_, _, _, n2⟩ := old
      rw [(n2 b h2).2] at z
      cases z
    | io w =>
      obtain ⟨_, _, _, n2⟩ := old
      rcases (n2 b h2).2.1 with y | y
      · exact m i y
      · rw [y] at z
        cases z
  · rcases hG with ⟨_, rfl, hno⟩ | ⟨_, rfl, _⟩
    · rw [O'.f2 b (O.f0 b hb)]
      show takeIn H G (lent F bo) b = _
      rw [takeIn_out]
      · exact O.f2 b hb
      · intro hm
        obtain ⟨i, hi, hb2, s, h1, h2⟩ := lentBo b hm
        have old := O.slots i s h1
        cases s with
        | un => cases h2
        | xn => cases h2
        | sh _ => cases h2
        | own w =>
          obtain ⟨_, _, _, n2⟩ := old
          exact hb (n2 b hb2).2
        | io w =>
          have := List.all_eq_true.mp hno i hi
          rw [h1] at this
          cases this
    · exact O.f2 b hb
end
end DL
set_option Elab.async false
set_option linter.all false
set_option maxRecDepth 100000
set_option maxHeartbeats 4000000
/-! DlK: the rules of calls, of methods that write, of built-ins. -/
namespace DL
open PySem L2

section
variable {K : PySem.W.Frag} {mg : Str → Option Value} {Φ : Fx} {W : WX} {H G : Hp} {F : Nat → List Addr} {σ : L2.St} {e : Fr} {as : List Arg} {vs : List V} {ms : List Bool}
theorem foot_fresh (O : Ok K Φ H G F σ e) (r : rs K as vs H G F σ e) {F2 : Nat → List Addr} {os sl : Fr} {fr : Bool} {bo : List Nat} (nd : (ioL (ms.zip as)).Nodup) {A : List Addr} (hA : ∀ b ∈ A, H b = none) (ap : ∀ j t, os[j]? = some t → t.owned = true → ∀ b ∈ A, b ∉ F2 j) :
    ∀ j t, (slsB (ms.zip as) os fr bo 0 e)[j]? = some t → t.owned = true → ∀ b ∈ A, b ∉ foot F F2 (ms.zip as) j := fun j s z o b hb => by
  obtain ⟨t, ht, es⟩ := slsB_at z
  rw [Nat.zero_add] at es
  rcases slB_cases es with ⟨w, hw, rfl⟩ | rfl | ⟨hn, hf, hb, w, rfl, rfl⟩ | ⟨hn, rfl, hx⟩
  · obtain ⟨k, hk, hos⟩ := outAt_of hw
    rw [foot_io nd hk]
    exact ap k _ hos rfl b hb
  · cases o
  · cases o
  · rw [foot_no hn]
    intro hm
    obtain ⟨_, vs1, l1⟩ := O.frees ht o b hm
    rw [hA b hb] at l1
    cases l1
/-- the callee's promise, asked -/
theorem callR_ok {Fs : Fn} {Q : VK} (O : Ok K Φ H G F σ e) (r : rs K as vs H G F σ e) (hl : ms.length = as.length) (h : Wp K mg Φ W σ (rr K Φ) G (callR Fs (ms.zip as) e) Q) : spF K mg ms.length Fs vs H Q (WE W σ) := by
  unfold callR at h
  split at h
  · exact h.elim
  · rename_i ap
    split at h
    · exact h.elim
    · rename_i sl q
      obtain ⟨hs, O1⟩ := call_start O r hl ap q
      obtain ⟨nd, dj⟩ := apart_io ap
      have lv : vs.length = ms.length := by rw [hl]; exact r.length.symm
      refine ⟨lv, _, sl, _, _, O1, argS_only q, ?_⟩
      cases z : Fs sl with
      | no =>
        rw [z] at h
        exact h.elim
      | ex x os =>
        rw [z] at h
        have h' : Wp K mg Φ W σ (rr K Φ) G (if noIo e (boL e (ms.zip as)) = true then .ex x (slsB (ms.zip as) os true (boL e (ms.zip as)) 0 e) else .no) Q := h
        split at h'
        · rename_i hn
          intro c d H' G' F2 gg O' p
          obtain ⟨s1, O2⟩ := call_end (fr := true) O r hl ap q O' gg (.inl ⟨rfl, rfl, hn⟩)
          exact h' c d H' G' _ s1 O2 p
        · exact h'.elim
      | ok s os =>
        rw [z] at h
        have h' : Wp K mg Φ W σ (rr K Φ) G (if (flatS s && flatO os) = true then toRV s (.ok (.arg (.val .none)) (slsB (ms.zip as) os false (boL e (ms.zip as)) 0 e)) else
          if noIo e (boL e (ms.zip as)) = true then toRV s (.ok (.arg (.val .none)) (slsB (ms.zip as) os true (boL e (ms.zip as)) 0 e)) else .no) Q := h
        intro v H' G' F2 gg O' p
        split at h'
        · rename_i hf
          rw [Bool.and_eq_true] at hf
          obtain ⟨s1, O2⟩ := call_end (fr := false) O r hl ap q O' gg (.inr ⟨rfl, rfl, hf.2⟩)
          cases s with
          | un => cases hf.1
          | xn => cases hf.1
          | own _ => cases hf.1
          | io _ => cases hf.1
          | sh d => exact h' v H' G _ s1 O2 (flat_any hf.1 p)
        · split at h'
          · rename_i hn
            obtain ⟨s1, O2⟩ := call_end (fr := true) O r hl ap q O' gg (.inl ⟨rfl, rfl, hn⟩)
            cases s with
            | un => exact h'.elim
            | xn => exact h'.elim
            | io _ => exact h'.elim
            | sh d => exact h' v H' G' _ s1 O2 p
            | own w =>
              obtain ⟨a, A, e1, o1, n1, ap1⟩ := p
              exact h' v H' G' _ s1 O2 ⟨a, A, e1, o1, fun b hb => ⟨(n1 b hb).1, O.noentry (show H b = none from (n1 b hb).2)⟩, foot_fresh (sl := sl) O r nd (fun b hb => (n1 b hb).2) ap1⟩
          · exact h'.elim
end
def eFnC (Fs : Fn) (ms : List Bool) (fa : Af) : Rf := fun e => (fa e).bind fun as e1 => if ms.length = as.length then callR Fs (ms.zip as) e1 else .no
section
variable {X : Cx} {Φ : Fx} {W : WX} {x y : Expr} {xs : List Expr} {pos p : Pos} {n : Str} {fs : Af} {k : Nat} {f : Addr} {fd : FuncData} {ps : List Str} {Fs : Fn}
theorem d_call (ms : List Bool) (Fo : FnG X.prog X.w X.K X.mg X.base k f fd ps (spF X.K X.mg ms.length Fs)) (hr : Room k X.A) (gu : X.A.guards = some []) (hm : X.mg n = some (.ref f)) (hk : PySem.W.keepIn X.K (.ref f) = true) (hb : Binds X.K fd ps []) (tk : Takes X W)
    (ha : DA X Φ W (x :: xs) fs) (hg : Gl X n := by rfl) (hdb : (n == ("__debug__" : Str)) = false := by decide) (he : starEach (x :: xs) X.env = (false, eval x X.env) :: starEach xs X.env := by rfl) (hpl : (backTo pos (starEach xs X.env)).any (·.1) = false := by rfl) :
    DR X Φ W (.Call (.Name n p) (x :: xs) [] pos) (eFnC Fs ms fs) :=
  pe_weak (pe_callG Fo hr gu hg hm hk hb .nil tk ha hdb he hpl) fun σ H Q ⟨G, F, e, O, h⟩ => ⟨G, F, e, O, Wp.imp (Wp.seq h) fun vs H1 ⟨G1, F1, e1, as, g1, O1, r1, h1⟩ => by
    split at h1
    · rename_i hl
      have z := callR_ok O1 r1 hl h1
      show spF X.K X.mg ms.length Fs (vs ++ []) H1 Q (WE W σ)
      rw [List.append_nil]
      exact z
    · exact h1.elim⟩
end

/-! ### methods that write a list -/
/-- what a method does: the content and the arguments give a result and the new content -/
abbrev Mop := List D → List D → Option (D × List D)
def useM (op : Mop) (a : Arg) (ds : List D) (e : Fr) : R Arg := match a with
  | .slot i => match e[i]? with
    | some (.own (.ls cs)) => match op cs ds with
      | some (d, es) => .ok (.val d) (e.set i (.own (.ls es)))
      | none => .no
    | some (.io (.ls cs)) => match op cs ds with
      | some (d, es) => .ok (.val d) (e.set i (.io (.ls es)))
      | none => .no
    | _ => .no
  | _ => .no
def isLs (a : Arg) (e : Fr) : Bool := match a with
  | .slot i => match e[i]? with
    | some (.own (.ls _)) => true
    | some (.io (.ls _)) => true
    | _ => false
  | _ => false
def eMt (op : Mop) (fa : Ef) (fs : Af) : Ef := fun e => (fa e).bind fun a e1 => match isLs a e1 with
  | true => (fs e1).bind fun as e2 => (fzA as e2).bind fun ds e3 => useM op a ds e3
  | false => .no
def rMt (K : PySem.W.Frag) (op : Mop) : V → List V → Hp → VK → Prop := fun x xs H Q => ∃ G l vs cs ds d es, Same G H ∧ x = .ref l ∧ H l = some (.lst vs) ∧ DpAll K G vs cs ∧ DpAll K G xs ds ∧ op cs ds = some (d, es) ∧
  ∀ v ws, Dp K G v d → DpAll K G ws es → Q v (upd H l (.lst ws))
section
variable {K : PySem.W.Frag} {mg : Str → Option Value} {Φ : Fx} {W : WX} {H G : Hp} {F : Nat → List Addr} {σ : L2.St} {e : Fr}
theorem useM_ok {op : Mop} {a : Arg} {x : V} {xs : List V} {ds : List D} {Q : VK} (O : Ok K Φ H G F σ e) (r : ra K a x H G F σ e) (hd : DpAll K G xs ds) (h : Wp K mg Φ W σ (ra K) G (useM op a ds e) Q) : rMt K op x xs H Q := by
  cases a with
  | val d => exact h.elim
  | slot i =>
    have r' : σ[i]? = some (some x) := r
    have h' : Wp K mg Φ W σ (ra K) G (match e[i]? with
      | some (.own (.ls cs)) => match op cs ds with
        | some (d, es) => .ok (.val d) (e.set i (.own (.ls es)))
        | none => .no
      | some (.io (.ls cs)) => match op cs ds with
        | some (d, es) => .ok (.val d) (e.set i (.io (.ls es)))
        | none => .no
      | _ => .no) Q := h
    split at h'
    · rename_i cs hi
      split at h'
      · rename_i d es ho
        obtain ⟨l, e1, o1, n1⟩ := O.slots i _ hi
        rw [r'] at e1
        cases e1
        obtain ⟨vs, h1, h2, hA⟩ := owls o1
        exact ⟨G, l, vs, cs, ds, d, es, O.gh, rfl, h1, h2, hd, ho, fun v ws hv hw => h' v _ G _ (Same.refl _) (O.write (w' := .ls es) (A' := [l]) hi rfl r' (.ls upd_same hw) (fun b hb => by rw [hA] at hb; exact hb) (fun b hb => .inl (by rw [hA]; exact hb)) fun b hb => upd_ne fun z => hb (List.mem_singleton.mpr z)) hv⟩
      · exact h'.elim
    · rename_i cs hi
      split at h'
      · rename_i d es ho
        obtain ⟨l, e1, o1, n1⟩ := O.slots i _ hi
        rw [r'] at e1
        cases e1
        obtain ⟨vs, h1, h2, hA⟩ := owls o1
        exact ⟨G, l, vs, cs, ds, d, es, O.gh, rfl, h1, h2, hd, ho, fun v ws hv hw => h' v _ G _ (Same.refl _) (O.write (w' := .ls es) (A' := [l]) hi rfl r' (.ls upd_same hw) (fun b hb => by rw [hA] at hb; exact hb) (fun b hb => .inl (by rw [hA]; exact hb)) fun b hb => upd_ne fun z => hb (List.mem_singleton.mpr z)) hv⟩
      · exact h'.elim
    · exact h'.elim
theorem isLs_ok (O : Ok K Φ H G F σ e) {a : Arg} {x : V} (r : ra K a x H G F σ e) (h : isLs a e = true) : tyV K "list" x H := by
  have fin : ∀ {cs : List D}, rd1 e a = some (.list cs) → tyV K "list" x H := fun {cs} q => by
    obtain ⟨l, vs, rfl, t, _⟩ := (bp_of O r q).lst O.gh
    exact .inl ⟨rfl, vs, t⟩
  cases a with
  | val d => cases h
  | slot i =>
    unfold isLs at h
    simp only at h
    split at h
    · rename_i cs hi
      exact fin (cs := cs) (by unfold rd1; simp only; rw [hi])
    · rename_i cs hi
      exact fin (cs := cs) (by unfold rd1; simp only; rw [hi])
    · cases h
end
section
variable {X : Cx} {Φ : Fx} {W : WX} {x y : Expr} {xs : List Expr} {apos cpos : Pos} {n : Str} {fa : Ef} {fs : Af} {id : String} {op : Mop}
theorem d_mt (slot : Slot "list" n id) (hty : typeOf (.builtin id) = pure (.type "method_descriptor")) (hm : MtR X id (rMt X.K op)) (hx : DE X Φ W x fa) (ha : DA X Φ W (y :: xs) fs) (hbase : attributeBase x n X.env (eval x X.env) = eval x X.env := by rfl)
    (hfew : ((backTo cpos (starEach (y :: xs) X.env)).all (fun x => !x.1) && (backToKw cpos (keywordEach [] X.env)).all (fun x => x.1.isSome)
      && decide ((y :: xs).length + ([] : List Keyword).length + (if ([] : List Keyword).isEmpty then 0 else 1) < 30)) = true := by rfl)
    (hline : (apos.endLine == cpos.line) = true := by rfl) (hs : starEach (y :: xs) X.env = (false, eval y X.env) :: starEach xs X.env := by rfl) (hplain : (backTo cpos (starEach xs X.env)).any (·.1) = false := by rfl) :
    DE X Φ W (.Call (.Attribute x n apos) (y :: xs) [] cpos) (eMt op fa fs) :=
  pe_weak (pe_bm PySem.F.plainAttrs_list slot hty hm hx ha hbase hfew hline hs hplain) fun σ H Q ⟨G, F, e, O, h⟩ => ⟨G, F, e, O, Wp.imp (Wp.seq h) fun v H1 ⟨G1, F1, e1, a, g1, O1, r1, h1⟩ => by
    split at h1
    · rename_i hi
      refine ⟨isLs_ok O1 r1 hi, G1, F1, e1, O1, Wp.imp (Wp.seq h1) fun vs H2 ⟨G2, F2, e2, as, g2, O2, r2, h2⟩ => ?_⟩
      obtain ⟨G3, e3, ds, g3, O3, d3, h3⟩ := Wp.fzA O2 r2 h2
      exact useM_ok O3 (ra_up (H' := H2) (F' := F2) (e' := e3) (G' := G3) r1 (g2.trans g3)) d3 h3
    · exact h1.elim⟩
theorem d_mt0 (slot : Slot "list" n id) (hty : typeOf (.builtin id) = pure (.type "method_descriptor")) (hm : MtR X id (rMt X.K op)) (hx : DE X Φ W x fa) (hbase : attributeBase x n X.env (eval x X.env) = eval x X.env := by rfl) (hline : (apos.endLine == cpos.line) = true := by rfl) :
    DE X Φ W (.Call (.Attribute x n apos) [] [] cpos) (eMt op fa aNil) :=
  pe_weak (pe_bm0 PySem.F.plainAttrs_list slot hty hm hx hbase hline) fun σ H Q ⟨G, F, e, O, h⟩ => ⟨G, F, e, O, Wp.imp (Wp.seq h) fun v H1 ⟨G1, F1, e1, a, g1, O1, r1, h1⟩ => by
    split at h1
    · rename_i hi
      exact ⟨isLs_ok O1 r1 hi, useM_ok O1 r1 .nil h1⟩
    · exact h1.elim⟩
/-- xs.append(y), xs.pop(), xs.pop(i), xs.extend(ys) -/
def mApp : Mop := fun cs ds => match ds with
  | [d] => if cs.length < 1000000 then some (.none, cs ++ [d]) else none
  | _ => none
def mPop : Mop := fun cs ds => match ds with
  | [] => match cs[cs.length - 1]? with
    | some d => some (d, cs.dropLast)
    | none => none
  | _ => none
def mPopAt : Mop := fun cs ds => match ds with
  | [.int i] => if -(2 ^ 63) ≤ i ∧ i < 2 ^ 63 then match seqIndex? i cs.length with
    | some k => match cs[k]? with
      | some d => some (d, cs.eraseIdx k)
      | none => none
    | none => none
    else none
  | _ => none
theorem line1m {n : Nat} (h : n < 1000000) : n < sizeLine := Nat.lt_trans h (by decide)
theorem mt_dApp : MtR X "list.append" (rMt X.K mApp) := by
  intro pins s σ H x xs v us Q I rx rv h
  obtain ⟨G, l, vs, cs, ds, d, es, gh, rfl, h1, h2, h3, ho, k⟩ := h
  unfold mApp at ho
  split at ho
  · rename_i d'
    split at ho
    · rename_i hl
      cases ho
      cases h3 with
      | cons a t =>
        cases t
        exact mt_append pins s σ H _ _ v us Q I rx rv ⟨l, vs, _, rfl, rfl, h1, by rw [DpAll.len h2]; exact line1m hl, k _ _ .non (DpAll.app h2 (.cons a .nil))⟩
    · cases ho
  · cases ho
theorem DpAll.dropLast {K : PySem.W.Frag} {G : Hp} {vs : List V} {ds : List D} (h : DpAll K G vs ds) : DpAll K G vs.dropLast ds.dropLast := by
  rw [List.dropLast_eq_take, List.dropLast_eq_take, DpAll.len h]
  exact DpAll.take _ h
theorem DpAll.erase {K : PySem.W.Frag} {G : Hp} {vs : List V} {ds : List D} (h : DpAll K G vs ds) (k : Nat) : DpAll K G (vs.eraseIdx k) (ds.eraseIdx k) := by
  rw [List.eraseIdx_eq_take_drop_succ, List.eraseIdx_eq_take_drop_succ]
  exact DpAll.app (DpAll.take _ h) (DpAll.drop _ h)
theorem mt_dPop : MtR X "list.pop" (rMt X.K mPop) := by
  intro pins s σ H x xs v us Q I rx rv h
  obtain ⟨G, l, vs, cs, ds, d, es, gh, rfl, h1, h2, h3, ho, k⟩ := h
  unfold mPop at ho
  split at ho
  · split at ho
    · rename_i d' hd
      cases ho
      cases h3
      obtain ⟨y, e1, hy⟩ := DpAll.at h2 hd
      rw [← DpAll.len h2] at e1
      exact mt_pop pins s σ H _ _ v us Q I rx rv ⟨l, vs, y, rfl, rfl, h1, e1, k _ _ hy (DpAll.dropLast h2)⟩
    · cases ho
  · cases ho
theorem mt_dPopAt : MtR X "list.pop" (rMt X.K mPopAt) := by
  intro pins s σ H x xs v us Q I rx rv h
  obtain ⟨G, l, vs, cs, ds, d, es, gh, rfl, h1, h2, h3, ho, k⟩ := h
  unfold mPopAt at ho
  split at ho
  · rename_i i
    split at ho
    · rename_i hi
      split at ho
      · rename_i j hj
        split at ho
        · rename_i d' hd
          cases ho
          cases h3 with
          | cons a t =>
            cases t
            cases a
            obtain ⟨y, e1, hy⟩ := DpAll.at h2 hd
            exact mt_popAt pins s σ H _ _ v us Q I rx rv ⟨l, vs, i, j, y, rfl, rfl, h1, hi.1, hi.2, by rw [DpAll.len h2]; exact hj, e1, k _ _ hy (DpAll.erase h2 j)⟩
        · cases ho
      · cases ho
    · cases ho
  · cases ho
end

/-! ### built-ins -/
def bLen : List D → Option D
  | [.list xs] => some (.int xs.length)
  | [.tuple xs] => some (.int xs.length)
  | [.str z] => if z.length ≤ sizeLine then some (.int z.length) else none
  | _ => none
def bAbs : List D → Option D
  | [.int i] => some (.int (if i < 0 then -i else i))
  | _ => none
def bMax2 : List D → Option D
  | [.int i, .int j] => some (.int (if j > i then j else i))
  | _ => none
def bMin2 : List D → Option D
  | [.int i, .int j] => some (.int (if j < i then j else i))
  | _ => none
def bInt : List D → Option D
  | [.int i] => some (.int i)
  | _ => none
def bGcd : List D → Option D
  | [.int i, .int j] => some (.int ((Nat.gcd i.natAbs j.natAbs : Nat) : Int))
  | _ => none
def bDivmod : List D → Option D
  | [.int i, .int j] => if 0 < j ∧ j.natAbs.log2 < 9000 then some (.tuple [.int (i / j), .int (i % j)]) else none
  | _ => none
def bTuple : List D → Option D
  | [.list xs] => some (.tuple xs)
  | [.tuple xs] => some (.tuple xs)
  | _ => none
def bList : List D → Option (List D)
  | [.list xs] => some xs
  | [.tuple xs] => some xs
  | _ => none
def allB : List D → Option (List Bool)
  | [] => some []
  | .bool b :: r => match allB r with
    | some bs => some (b :: bs)
    | none => none
  | _ => none
def bAll : List D → Option D
  | [.list xs] => (allB xs).map fun bs => .bool (bs.all id)
  | _ => none
def bAny : List D → Option D
  | [.list xs] => (allB xs).map fun bs => .bool (bs.any id)
  | _ => none
theorem allB_eq : ∀ {ds : List D} {bs : List Bool}, allB ds = some bs → ds = bs.map PyData.bool
  | [], _, h => by cases h; rfl
  | .bool b :: r, bs, h => by
    unfold allB at h
    split at h
    · rename_i cs q
      cases h
      rw [allB_eq q]
      rfl
    · cases h
  | .none :: _, _, h => by cases h
  | .int _ :: _, _, h => by cases h
  | .str _ :: _, _, h => by cases h
  | .list _ :: _, _, h => by cases h
  | .tuple _ :: _, _, h => by cases h
  | .dict _ :: _, _, h => by cases h
section
variable {X : Cx}
theorem cr_dLen : CallR X (.builtin "len") (rP X.K bLen) := by
  intro pins s σ H xs us Q I r h
  obtain ⟨G, ds, d, gh, b, ho, k⟩ := h
  unfold bLen at ho
  split at ho
  · cases ho
    obtain ⟨v, rfl, b1⟩ := bpa1 b
    obtain ⟨a, vs, rfl, t, p⟩ := b1.lst gh
    exact call_len_seq pins s σ H _ us Q I r ⟨a, vs, rfl, .inl t, by rw [DpAll.len p]; exact k _ _ _ (Grow.refl gh) (.int _)⟩
  · cases ho
    obtain ⟨v, rfl, b1⟩ := bpa1 b
    obtain ⟨a, vs, rfl, t, p⟩ := b1.tup gh
    exact call_len_seq pins s σ H _ us Q I r ⟨a, vs, rfl, .inr t, by rw [DpAll.len p]; exact k _ _ _ (Grow.refl gh) (.int _)⟩
  · split at ho
    · rename_i hz
      cases ho
      obtain ⟨v, rfl, b1⟩ := bpa1 b
      obtain rfl := b1.str
      exact call_len pins s σ H _ us Q I r ⟨_, _, rfl, ⟨hz, rfl⟩, k _ _ _ (Grow.refl gh) (.int _)⟩
    · cases ho
  · cases ho
theorem cr_dAbs : CallR X (.builtin "abs") (rP X.K bAbs) := by
  intro pins s σ H xs us Q I r h
  obtain ⟨G, ds, d, gh, b, ho, k⟩ := h
  unfold bAbs at ho
  split at ho
  · cases ho
    obtain ⟨v, rfl, b1⟩ := bpa1 b
    obtain rfl := b1.int
    exact call_abs pins s σ H _ us Q I r ⟨_, rfl, k _ _ _ (Grow.refl gh) (.int _)⟩
  · cases ho
theorem cr_dMax2 (hc : X.calm = true) : CallR X (.builtin "max") (rP X.K bMax2) := by
  intro pins s σ H xs us Q I r h
  obtain ⟨G, ds, d, gh, b, ho, k⟩ := h
  unfold bMax2 at ho
  split at ho
  · cases ho
    obtain ⟨v, v', rfl, b, b'⟩ := bpa2 b
    obtain rfl := b.int
    obtain rfl := b'.int
    exact call_max2 hc pins s σ H _ us Q I r ⟨_, _, rfl, k _ _ _ (Grow.refl gh) (.int _)⟩
  · cases ho
theorem cr_dMin2 (hc : X.calm = true) : CallR X (.builtin "min") (rP X.K bMin2) := by
  intro pins s σ H xs us Q I r h
  obtain ⟨G, ds, d, gh, b, ho, k⟩ := h
  unfold bMin2 at ho
  split at ho
  · cases ho
    obtain ⟨v, v', rfl, b, b'⟩ := bpa2 b
    obtain rfl := b.int
    obtain rfl := b'.int
    exact call_min2 hc pins s σ H _ us Q I r ⟨_, _, rfl, k _ _ _ (Grow.refl gh) (.int _)⟩
  · cases ho
theorem cr_dInt : CallR X (.type "int") (rP X.K bInt) := by
  intro pins s σ H xs us Q I r h
  obtain ⟨G, ds, d, gh, b, ho, k⟩ := h
  unfold bInt at ho
  split at ho
  · cases ho
    obtain ⟨v, rfl, b1⟩ := bpa1 b
    obtain rfl := b1.int
    exact call_int1 pins s σ H _ us Q I r (.inl ⟨_, rfl, k _ _ _ (Grow.refl gh) (.int _)⟩)
  · cases ho
theorem cr_dGcd : CallR X (.builtin "math.gcd") (rP X.K bGcd) := by
  intro pins s σ H xs us Q I r h
  obtain ⟨G, ds, d, gh, b, ho, k⟩ := h
  unfold bGcd at ho
  split at ho
  · cases ho
    obtain ⟨v, v', rfl, b, b'⟩ := bpa2 b
    obtain rfl := b.int
    obtain rfl := b'.int
    exact cr_gcd pins s σ H _ us Q I r ⟨_, _, rfl, k _ _ _ (Grow.refl gh) (.int _)⟩
  · cases ho
theorem cr_dDivmod : CallR X (.builtin "divmod") (rP X.K bDivmod) := by
  intro pins s σ H xs us Q I r h
  obtain ⟨G, ds, d, gh, b, ho, k⟩ := h
  unfold bDivmod at ho
  split at ho
  · split at ho
    · rename_i hc
      cases ho
      obtain ⟨v, v', rfl, b, b'⟩ := bpa2 b
      obtain rfl := b.int
      obtain rfl := b'.int
      refine call_divmodW pins s σ H _ us Q I r ⟨_, _, rfl, ⟨hc.1, PyProof.noPylong_of_log2 hc.2⟩, fun p hp => ?_⟩
      exact k _ _ _ (Grow.laid gh hp) (.tup (.of upd_same) (.cons (.int _) (.cons (.int _) .nil)))
    · cases ho
  · cases ho
theorem cr_dTuple : CallR X (.type "tuple") (rP X.K bTuple) := by
  intro pins s σ H xs us Q I r h
  obtain ⟨G, ds, d, gh, b, ho, k⟩ := h
  unfold bTuple at ho
  split at ho
  · cases ho
    obtain ⟨v, rfl, b1⟩ := bpa1 b
    obtain ⟨a, vs, rfl, t, p⟩ := b1.lst gh
    exact call_tuple_of pins s σ H _ us Q I r ⟨a, vs, rfl, .inl ⟨t, fun l hl => k _ _ _ (Grow.laid gh hl) (.tup (.of upd_same) (dpa_mono (same_new (same_back gh hl)) _ _ p))⟩⟩
  · cases ho
    obtain ⟨v, rfl, b1⟩ := bpa1 b
    obtain ⟨a, vs, rfl, t, p⟩ := b1.tupG
    exact call_tuple_of pins s σ H _ us Q I r ⟨a, vs, rfl, .inr ⟨same_t gh t, k _ _ _ (Grow.refl gh) (.tup t p)⟩⟩
  · cases ho
theorem cr_dList : CallR X (.type "list") (rN X.K bList) := by
  intro pins s σ H xs us Q I r h
  obtain ⟨G, ds, es, gh, b, ho, k⟩ := h
  unfold bList at ho
  split at ho
  · cases ho
    obtain ⟨v, rfl, b1⟩ := bpa1 b
    obtain ⟨a, vs, rfl, t, p⟩ := b1.lst gh
    exact call_list_of pins s σ H _ us Q I r ⟨a, vs, rfl, .inl t, fun l hl => k l vs hl (DpAll.len p) p⟩
  · cases ho
    obtain ⟨v, rfl, b1⟩ := bpa1 b
    obtain ⟨a, vs, rfl, t, p⟩ := b1.tup gh
    exact call_list_of pins s σ H _ us Q I r ⟨a, vs, rfl, .inr t, fun l hl => k l vs hl (DpAll.len p) p⟩
  · cases ho
theorem cr_dAll (hc : X.calm = true) : CallR X (.builtin "all") (rP X.K bAll) := by
  intro pins s σ H xs us Q I r h
  obtain ⟨G, ds, d, gh, b, ho, k⟩ := h
  unfold bAll at ho
  split at ho
  · rename_i xs'
    cases q : allB xs' with
    | none =>
      rw [q] at ho
      cases ho
    | some bs =>
      rw [q] at ho
      cases ho
      obtain ⟨v, rfl, b1⟩ := bpa1 b
      obtain ⟨a, vs, rfl, t, p⟩ := b1.lst gh
      rw [allB_eq q] at p
      rw [dpa_bools p] at t
      exact cr_all hc pins s σ H _ us Q I r ⟨a, bs, rfl, t, k _ _ _ (Grow.refl gh) (.bl _)⟩
  · cases ho
theorem cr_dAny (hc : X.calm = true) : CallR X (.builtin "any") (rP X.K bAny) := by
  intro pins s σ H xs us Q I r h
  obtain ⟨G, ds, d, gh, b, ho, k⟩ := h
  unfold bAny at ho
  split at ho
  · rename_i xs'
    cases q : allB xs' with
    | none =>
      rw [q] at ho
      cases ho
    | some bs =>
      rw [q] at ho
      cases ho
      obtain ⟨v, rfl, b1⟩ := bpa1 b
      obtain ⟨a, vs, rfl, t, p⟩ := b1.lst gh
      rw [allB_eq q] at p
      rw [dpa_bools p] at t
      exact cr_any hc pins s σ H _ us Q I r ⟨a, bs, rfl, t, k _ _ _ (Grow.refl gh) (.bl _)⟩
  · cases ho
end
end DL
set_option Elab.async false
set_option linter.all false
set_option maxRecDepth 100000
set_option maxHeartbeats 4000000
/-! DlL: isinstance, repr, calls with keywords, three at once. -/
namespace DL
open PySem L2

/-! ### isinstance -/
def tyN : D → String
  | .none => "NoneType"
  | .bool _ => "bool"
  | .int _ => "int"
  | .str _ => "str"
  | .list _ => "list"
  | .tuple _ => "tuple"
  | .dict _ => "dict"
inductive Ty where
  | int | bool | str | list | tuple
def Ty.name : Ty → String
  | .int => "int"
  | .bool => "bool"
  | .str => "str"
  | .list => "list"
  | .tuple => "tuple"
def isT : Ty → D → Bool
  | .int, .int _ => true
  | .int, .bool _ => true
  | .bool, .bool _ => true
  | .str, .str _ => true
  | .list, .list _ => true
  | .tuple, .tuple _ => true
  | _, _ => false
theorem kit_tab : ([Ty.int, .bool, .str, .list, .tuple].all fun T => decide (kitB "NoneType" T.name = some (isT T .none)) && (decide (kitB "bool" T.name = some (isT T (.bool true))) && (decide (kitB "int" T.name = some (isT T (.int 0))) &&
    (decide (kitB "str" T.name = some (isT T (.str ""))) && (decide (kitB "list" T.name = some (isT T (.list []))) && decide (kitB "tuple" T.name = some (isT T (.tuple [])))))))) = true := by decide +kernel
theorem kit_isT {K : PySem.W.Frag} (T : Ty) (d : D) (h : ∀ kvs, d ≠ .dict kvs) : PySem.W.kitOne K (.type (tyN d)) (.type T.name) = some (isT T d) := by
  have z := List.all_eq_true.mp kit_tab T (by cases T <;> simp)
  simp only [Bool.and_eq_true, decide_eq_true_eq] at z
  obtain ⟨z1, z2, z3, z4, z5, z6⟩ := z
  apply kit_ty
  cases d with
  | none => exact z1
  | bool _ => exact z2.trans (by cases T <;> rfl)
  | int _ => exact z3.trans (by cases T <;> rfl)
  | str _ => exact z4.trans (by cases T <;> rfl)
  | list _ => exact z5.trans (by cases T <;> rfl)
  | tuple _ => exact z6.trans (by cases T <;> rfl)
  | dict kvs => exact absurd rfl (h kvs)
theorem tyx_l {K : PySem.W.Frag} {H : Hp} {a : Addr} {xs : List V} (h : SqL K H a xs) : TyX K H (.ref a) (.type "list") := by
  rcases h with (h | ⟨o, h⟩) | ⟨o, its, n, h1, h2, _⟩
  · exact .base (.lst h)
  · exact .base (.frz h)
  · exact .kList h1 h2
theorem tyx_t {K : PySem.W.Frag} {H : Hp} {a : Addr} {xs : List V} (h : SqT K H a xs) : TyX K H (.ref a) (.type "tuple") := by
  rcases h with (h | ⟨o, h⟩) | ⟨o, its, n, h1, h2, _⟩
  · exact .base (.tup h)
  · exact .fTuple h
  · exact .kTuple h1 h2
theorem tyx_d {K : PySem.W.Frag} {H : Hp} : ∀ {v : V} {d : D}, Dp K H v d → TyX K H v (.type (tyN d)) ∧ ∀ kvs, d ≠ .dict kvs
  | _, _, .non => ⟨.base .non, fun _ z => by cases z⟩
  | _, _, .bl b => ⟨.base (.bl b), fun _ z => by cases z⟩
  | _, _, .int b => ⟨.base (.int b), fun _ z => by cases z⟩
  | _, _, .str b => ⟨.base (.str b), fun _ z => by cases z⟩
  | _, _, .lst h _ => ⟨tyx_l h, fun _ z => by cases z⟩
  | _, _, .tup h _ => ⟨tyx_t h, fun _ z => by cases z⟩
def useI (f : D → Bool) (a : Arg) (e : Fr) : R Arg := match rd1 e a with
  | some d => .ok (.val (.bool (f d))) e
  | none => .no
def eIsi (T : Ty) (fa : Ef) : Ef := fun e => (fa e).bind (useI (isT T))
def eIsi2 (T U : Ty) (fa : Ef) : Ef := fun e => (fa e).bind (useI fun d => isT T d || isT U d)
section
variable {X : Cx} {Φ : Fx} {W : WX} {x : Expr} {pos p p2 p3 tp : Pos} {n m : Str} {fa : Ef} {kt : Nat}
theorem d_isi (T : Ty) (hm : X.mg "isinstance" = none) (hm2 : X.mg n = none) (hx : DE X Φ W x fa) (hv2 : bootBuiltins n = some (.type T.name) := by decide +kernel) (hg : Gl X "isinstance" := by rfl) (hg2 : Gl X n := by rfl) (hn2 : n ≠ "__name__" := by decide) (hd2 : (n == ("__debug__" : Str)) = false := by decide)
    (he : starEach [x, .Name n p2] X.env = (false, eval x X.env) :: starEach [.Name n p2] X.env := by rfl) (he2 : starEach [.Name n p2] X.env = (false, eval (.Name n p2) X.env) :: starEach [] X.env := by rfl) (hpl : (backTo pos (starEach [.Name n p2] X.env)).any (·.1) = false := by rfl) :
    DE X Φ W (.Call (.Name "isinstance" p) [x, .Name n p2] [] pos) (eIsi T fa) :=
  pe_weak (pe_callB call_isi hg hm (by decide +kernel) (pa_cons hx (pa_cons (pe_bltn (v := .ty T.name) hg2 hm2 hv2 rfl hn2 hd2) pa_nil he2) he) (by decide) (by decide) he hpl) fun σ H Q ⟨G, F, e, O, h⟩ => ⟨G, F, e, O, Wp.imp (Wp.seq h) fun v H1 ⟨G1, F1, e1, a, g1, O1, r1, h1⟩ => by
    unfold useI at h1
    split at h1
    · rename_i d q
      obtain ⟨ty, nd⟩ := tyx_d ((bp_of O1 r1 q).dpH O1.gh)
      exact ⟨v, .ty T.name, _, _, _, rfl, .ty _, ty, kit_isT T d nd, h1 _ H1 G1 F1 (Same.refl _) O1 (.bl _)⟩
    · exact h1.elim⟩
theorem d_isi2 (T U : Ty) (hm : X.mg "isinstance" = none) (hm2 : X.mg n = none) (hm3 : X.mg m = none) (hx : DE X Φ W x fa) (hv2 : bootBuiltins n = some (.type T.name) := by decide +kernel) (hv3 : bootBuiltins m = some (.type U.name) := by decide +kernel) (hg : Gl X "isinstance" := by rfl) (hg2 : Gl X n := by rfl) (hg3 : Gl X m := by rfl)
    (hn2 : n ≠ "__name__" := by decide) (hd2 : (n == ("__debug__" : Str)) = false := by decide) (hn3 : m ≠ "__name__" := by decide) (hd3 : (m == ("__debug__" : Str)) = false := by decide)
    (he : starEach [x, .Tuple [.Name n p2, .Name m p3] kt tp] X.env = (false, eval x X.env) :: starEach [.Tuple [.Name n p2, .Name m p3] kt tp] X.env := by rfl) (he1 : starEach [.Tuple [.Name n p2, .Name m p3] kt tp] X.env = (false, eval (.Tuple [.Name n p2, .Name m p3] kt tp) X.env) :: starEach [] X.env := by rfl)
    (he2 : starEach [.Name n p2, .Name m p3] X.env = (false, eval (.Name n p2) X.env) :: starEach [.Name m p3] X.env := by rfl) (he3 : starEach [.Name m p3] X.env = (false, eval (.Name m p3) X.env) :: starEach [] X.env := by rfl)
    (hpl : (backTo pos (starEach [.Tuple [.Name n p2, .Name m p3] kt tp] X.env)).any (·.1) = false := by rfl) :
    DE X Φ W (.Call (.Name "isinstance" p) [x, .Tuple [.Name n p2, .Name m p3] kt tp] [] pos) (eIsi2 T U fa) :=
  pe_weak (pe_callB call_isiT hg hm (by decide +kernel) (pa_cons hx (pa_cons (pe_tup (pa_cons (pe_bltn (v := .ty T.name) hg2 hm2 hv2 rfl hn2 hd2) (pa_cons (pe_bltn (v := .ty U.name) hg3 hm3 hv3 rfl hn3 hd3) pa_nil he3) he2)) pa_nil he1) he) (by decide) (by decide) he hpl)
    fun σ H Q ⟨G, F, e, O, h⟩ => ⟨G, F, e, O, Wp.imp (Wp.seq h) fun v H1 ⟨G1, F1, e1, a, g1, O1, r1, h1⟩ => by
    unfold useI at h1
    split at h1
    · rename_i d q
      refine ⟨by show 2 ≤ sizeLine; decide, fun tp ht => ?_⟩
      have gr := Grow.own (o := .tup [.ty T.name, .ty U.name]) O1.gh ht
      have O2 := O1.grow gr
      have d2 := dp_mono gr.hh _ _ ((bp_of O1 r1 q).dpH O1.gh)
      obtain ⟨ty, nd⟩ := tyx_d d2
      refine ⟨v, tp, [.ty T.name, .ty U.name], _, [.type T.name, .type U.name], isT T d || isT U d, rfl, upd_same, .cons (.ty _) (.cons (.ty _) .nil), ty, ?_, h1 _ _ G1 F1 (Same.refl _) O2 (.bl _)⟩
      have k1 := kit_isT (K := X.K) T d nd
      have k2 := kit_isT (K := X.K) U d nd
      refine kitAny_cons k1 (fun z => ?_) (fun z => by rw [z]; rfl)
      rw [z, Bool.false_or]
      exact kitAny_cons k2 (fun z2 => by rw [z2]; exact kitAny_nil) (fun z2 => by rw [z2])
    · exact h1.elim⟩
end

/-! ### repr -/
mutual
def wD : D → Nat
  | .none => 5
  | .bool _ => 5
  | .int _ => 1921
  | .str x => (reprText x).length
  | .list xs => wAll xs + 3
  | .tuple xs => wAll xs + 3
  | .dict _ => 0
def wAll : List D → Nat
  | [] => 0
  | x :: xs => wD x + 2 + wAll xs
end
mutual
theorem shown_w : ∀ d : D, d.showable = true → d.hasDict = false → d.shown.length ≤ wD d
  | .none, _, _ => by simp only [PyData.shown, wD]; decide +kernel
  | .bool b, _, _ => by cases b <;> simp only [PyData.shown, wD] <;> decide +kernel
  | .int i, h, _ => by
    simp only [PyData.shown, wD]
    exact PyProof.Rows.int_text_len_1921 (of_decide_eq_true (by simpa only [PyData.showable] using h))
  | .str x, _, _ => by simp only [PyData.shown, wD]; exact Nat.le_refl _
  | .list xs, h, n => by
    simp only [PyData.shown, wD]
    have := shown_ws xs (by simpa only [PyData.showable] using h) (by simpa only [PyData.hasDict] using n)
    have := listText_len_le (PyData.shownAll xs)
    omega
  | .tuple xs, h, n => by
    simp only [PyData.shown, wD]
    have := shown_ws xs (by simpa only [PyData.showable] using h) (by simpa only [PyData.hasDict] using n)
    have := tupleText_len_le (PyData.shownAll xs)
    omega
  | .dict _, _, n => by simp only [PyData.hasDict] at n; cases n
theorem shown_ws : ∀ ds : List D, PyData.showableAll ds = true → PyData.hasDictAll ds = false → ((PyData.shownAll ds).map (·.length)).sum + 2 * (PyData.shownAll ds).length ≤ wAll ds
  | [], _, _ => by simp [PyData.shownAll, wAll]
  | d :: ds, h, n => by
    simp only [PyData.showableAll, Bool.and_eq_true] at h
    simp only [PyData.hasDictAll, Bool.or_eq_false_iff] at n
    have h1 := shown_w d h.1 n.1
    have h2 := shown_ws ds h.2 n.2
    simp only [PyData.shownAll, List.map_cons, List.sum_cons, List.length_cons, wAll]
    omega
end
def reprOk (d : D) : Bool := d.showable && (!d.hasDict && (decide (wD d ≤ sizeLine) && decide (d.depth ≤ 30)))
def bRepr : List D → Option D
  | [d] => if reprOk d = true then some (.str d.shown) else none
  | _ => none
theorem cr_dRepr {X : Cx} (hu : X.A.units + 64 < cLine) (gu : X.A.guards = some []) : CallR X (.builtin "repr") (rP X.K bRepr) := by
  intro pins s σ H xs us Q I r h
  obtain ⟨G, ds, d, gh, b, ho, k⟩ := h
  unfold bRepr at ho
  split at ho
  · rename_i d0
    split at ho
    · rename_i hok
      cases ho
      obtain ⟨v, rfl, b1⟩ := bpa1 b
      unfold reprOk at hok
      simp only [Bool.and_eq_true, Bool.not_eq_true', decide_eq_true_eq] at hok
      obtain ⟨h1, h2, h3, h4⟩ := hok
      have hsz : d0.shown.length ≤ sizeLine := Nat.le_trans (shown_w d0 h1 h2) h3
      have dp := b1.dpH gh
      cases r with
      | cons rv rn =>
        cases rn
        obtain ⟨as, rds⟩ := Dp.reads I d0 v _ dp rv
        have fin : ∀ (h' : Heap) (u tk : Tok), (∀ b o, s.heap.get? b = some o → h'.get? b = some o) → EP X pins σ Q (.str d0.shown u) { s with heap := h', toks := tk } := fun h' u tk hk => ⟨.str d0.shown, H, I.kept hk, ⟨_, rfl⟩, k _ _ _ (Grow.refl gh) (.str _)⟩
        cases dp with
        | non =>
          cases rv
          exact P.repr_of_none (fin s.heap s.toks (s.toks + 1) fun _ _ z => z)
        | bl b =>
          cases rv
          exact P.repr_of_bool (by cases b <;> exact fin s.heap s.toks (s.toks + 1) fun _ _ z => z)
        | int i =>
          obtain ⟨t, rfl⟩ := rv
          exact P.repr_of_int (of_decide_eq_true (by simpa only [PyData.showable] using h1)) (fin s.heap s.toks (s.toks + 1) fun _ _ z => z)
        | str x =>
          obtain ⟨t, rfl⟩ := rv
          exact P.repr_of_str (fin s.heap s.toks (s.toks + 1) fun _ _ z => z) hsz
        | lst hs ha =>
          cases rv
          exact repr_of_reads' rds h1 (PyData.noDict_hsm h2) gu (by omega) (fun _ _ z => z) (fun h' u tk hk => fin h' u tk hk) hsz
        | tup hs ha =>
          cases rv
          exact repr_of_reads' rds h1 (PyData.noDict_hsm h2) gu (by omega) (fun _ _ z => z) (fun h' u tk hk => fin h' u tk hk) hsz
    · cases ho
  · cases ho
end DL
set_option Elab.async false
set_option linter.all false
set_option maxRecDepth 100000
set_option maxHeartbeats 4000000
/-! DlM: calls with keywords and defaults, three stored at once. -/
namespace DL
open PySem L2

def pickA (ix : List Nat) (l : List Arg) : List Arg := ix.map fun i => l.getD i (.val .none)
def pickV (ix : List Nat) (l : List V) : List V := ix.map fun i => l.getD i .non
def pickU (ix : List Nat) (l : List Value) : List Value := ix.map fun i => l.getD i .none
theorem vals_pick {vs : List V} {us : List Value} (h : Vals vs us) : ∀ ix : List Nat, Vals (pickV ix vs) (pickU ix us)
  | [] => .nil
  | i :: ix => by
    refine .cons ?_ (vals_pick h ix)
    show RelV (vs.getD i .non) (us.getD i .none)
    rw [List.getD_eq_getElem?_getD, List.getD_eq_getElem?_getD]
    cases q : vs[i]? with
    | none =>
      rw [h.none_of q]
      rfl
    | some v =>
      obtain ⟨u, e, r⟩ := h.get q
      rw [e]
      exact r
section
variable {K : PySem.W.Frag} {H G : Hp} {F : Nat → List Addr} {σ : L2.St} {e : Fr}
theorem rs_none : ∀ {as : List Arg} {vs : List V} {i : Nat}, rs K as vs H G F σ e → as[i]? = none → vs[i]? = none := fun {as vs i} r h => by
  have := r.length
  rw [List.getElem?_eq_none_iff] at h ⊢
  omega
theorem rs_pick {as : List Arg} {vs : List V} (h : rs K as vs H G F σ e) : ∀ ix : List Nat, rs K (pickA ix as) (pickV ix vs) H G F σ e
  | [] => .nil
  | i :: ix => by
    refine .cons ?_ (rs_pick h ix)
    show ra K (as.getD i (.val .none)) (vs.getD i .non) H G F σ e
    rw [List.getD_eq_getElem?_getD, List.getD_eq_getElem?_getD]
    cases q : as[i]? with
    | none =>
      rw [rs_none h q]
      exact Dp.non
    | some a =>
      obtain ⟨v, e, r⟩ := rs_at h q
      rw [e]
      exact r
theorem rs_app : ∀ {as bs : List Arg} {vs ws : List V}, rs K as vs H G F σ e → rs K bs ws H G F σ e → rs K (as ++ bs) (vs ++ ws) H G F σ e
  | [], _, _, _, r, q => by
    cases r
    exact q
  | _ :: _, _, _, _, r, q => by
    cases r with
    | cons h t => exact .cons h (rs_app t q)
theorem rs_data : ∀ {ds : List D} {vs : List V}, DpAll K G vs ds → rs K (ds.map Arg.val) vs H G F σ e
  | [], _, h => by
    cases h
    exact .nil
  | _ :: _, _, h => by
    cases h with
    | cons a t => exact .cons a (rs_data t)
end
abbrev DK (X : Cx) (Φ : Fx) (W : WX) (kws : List Keyword) (f : Af) : Prop := PK X kws (tG X.K X.mg Φ W (rs X.K) f)
def eFnK (Fs : Fn) (ms : List Bool) (ix : List Nat) (dd : List D) (n m : Nat) (fa fk : Af) : Rf := fun e => (fa e).bind fun as e1 => (fk e1).bind fun bs e2 =>
  if as.length = n ∧ bs.length = m ∧ ms.length = ix.length then callR Fs (ms.zip (pickA ix (as ++ bs ++ dd.map Arg.val))) e2 else .no
section
variable {X : Cx} {Φ : Fx} {W : WX} {x : Expr} {xs : List Expr} {pos p kpos : Pos} {n : Str} {fa fk : Af} {fe : Ef} {k : Nat} {f : Addr} {fd : FuncData} {ps ks : List Str} {Fs : Fn} {kws : List Keyword} {nm : Option Str} {ms : List Bool} {dvs : List V} {ds : List Value} {dd : List D} {i j : Nat}
theorem pk_weak {t t' : TA} (h : PK X kws t) (w : ∀ σ H Q, t' σ H Q → t σ H Q) : PK X kws t' := ⟨fun pos pins s σ H Q I q => h.run pos pins s σ H Q I (w σ H Q q)⟩
theorem k_nil : DK X Φ W [] aNil := pk_weak pk_nil fun σ H Q ⟨G, F, e, O, h⟩ => h [] H G F (Same.refl _) O .nil
theorem k_cons (ha : DE X Φ W x fe) (hr : DK X Φ W kws fk) : DK X Φ W (⟨nm, x, kpos⟩ :: kws) (aCons fe fk) :=
  pk_weak (pk_cons ha hr) fun σ H Q ⟨G, F, e, O, h⟩ => ⟨G, F, e, O, Wp.imp (Wp.seq h) fun v H1 ⟨G1, F1, e1, a, g1, O1, r1, h1⟩ => ⟨G1, F1, e1, O1, Wp.imp (Wp.seq h1) fun vs H2 ⟨G2, F2, e2, as, g2, O2, r2, h2⟩ =>
    h2 (v :: vs) H2 G2 F2 (Same.refl _) O2 (.cons (ra_up r1 g2) r2)⟩⟩
/-- how such a call binds: n positional values, keywords ks, the defaults' values behind; ix says where each parameter's value stands -/
structure KwB (K : PySem.W.Frag) (fd : FuncData) (ps ks : List Str) (n : Nat) (ix : List Nat) (ds : List Value) : Prop where
  to : ∀ (s : Shared) (us ws : List Value), K.In s.heap → us.length = n → ws.length = ks.length → BindsTo s fd ⟨us, ks.zip ws⟩ (ps.zip (pickU ix (us ++ ws ++ ds)))
theorem kcall {pins : List (Addr × Obj)} {σ : L2.St} {H : Hp} {s : Shared} {Q : VK} {ix : List Nat} {us ws : List Value} {vs zs : List V} (Fo : FnG X.prog X.w X.K X.mg X.base k f fd ps (spF X.K X.mg ms.length Fs)) (hr : Room k X.A) (gu : X.A.guards = some []) (tk : Takes X W)
    (hb : KwB X.K fd ps ks i ix ds) (hd : Vals dvs ds) (I : Inv X pins σ H s) (r : Vals vs us) (rz : Vals zs ws) (l1 : vs.length = i) (l2 : zs.length = ks.length) (h : spF X.K X.mg ms.length Fs (pickV ix (vs ++ zs ++ dvs)) H Q (WE W σ)) :
    wpAny (model X.prog X.w) X.A (call (.ref f) us (ks.zip ws)) (EP X pins σ Q) X.xe s := by
  have both : Vals (vs ++ zs ++ dvs) (us ++ ws ++ ds) := (r.append rz).append hd
  exact wpAny_call (codeAny_mono (run_g Fo hr gu tk I (hb.to s us ws I.kIn (r.length.symm.trans l1) (rz.length.symm.trans l2)) (vals_pick both ix) h) fun r s' z => match r, z with
    | .ok (.ret _), z => z
    | .error _, z => z)
def tCallX (i m : Nat) (ix : List Nat) (sp : Sp) (dvs : List V) (W : WX) (t tk : TA) : TE := fun σ H Q => t σ H fun vs H1 => tk σ H1 fun zs H2 => vs.length = i ∧ zs.length = m ∧ sp (pickV ix (vs ++ zs ++ dvs)) H2 Q (WE W σ)
theorem pe_callX {t tkw : TA} {ix : List Nat} (Fo : FnG X.prog X.w X.K X.mg X.base k f fd ps (spF X.K X.mg ms.length Fs)) (hr : Room k X.A) (gu : X.A.guards = some []) (hg : Gl X n) (hm : X.mg n = some (.ref f)) (hk : PySem.W.keepIn X.K (.ref f) = true) (hb : KwB X.K fd ps ks i ix ds) (hd : Vals dvs ds) (tk : Takes X W)
    (ha : PA X (x :: xs) t) (hkw : PK X kws tkw) (hall : (backToKw pos (keywordEach kws X.env)).all (·.1.isSome) = true := by rfl) (hks : (backToKw pos (keywordEach kws X.env)).filterMap (·.1) = ks := by rfl) (hdb : (n == ("__debug__" : Str)) = false := by decide)
    (he : starEach (x :: xs) X.env = (false, eval x X.env) :: starEach xs X.env := by rfl) (hpl : ((backTo pos (starEach (x :: xs) X.env)).any (·.1) || (backToKw pos (keywordEach kws X.env)).any (·.1.isNone)) = false := by rfl) :
    PE X (.Call (.Name n p) (x :: xs) kws pos) (tCallX i ks.length ix (spF X.K X.mg ms.length Fs) dvs W t tkw) := by
  constructor
  intro pins s σ H Q I reading
  apply wpAny_Call_Name_kw
  apply ld_glob I hg hm _ hdb
  apply PySem.W.callWith_KW (h₀ := X.base) I.ok.mod.kin hk hall _ hpl he
  apply thn (ha.run pos pins s σ H _ I reading)
  rintro us s1 ⟨vs, H1, I1, r, q⟩
  apply thn (hkw.run pos pins s1 σ H1 _ I1 q)
  rintro ws s2 ⟨zs, H2, I2, rz, l1, l2, q2⟩
  refine ⟨I2.kIn, ?_⟩
  rw [hks]
  exact kcall Fo hr gu tk hb hd I2 r rz l1 l2 q2
theorem pe_callX0 {tkw : TA} {ix : List Nat} (Fo : FnG X.prog X.w X.K X.mg X.base k f fd ps (spF X.K X.mg ms.length Fs)) (hr : Room k X.A) (gu : X.A.guards = some []) (hg : Gl X n) (hm : X.mg n = some (.ref f)) (hk : PySem.W.keepIn X.K (.ref f) = true) (hb : KwB X.K fd ps ks 0 ix ds) (hd : Vals dvs ds) (tk : Takes X W)
    (hkw : PK X kws tkw) (hall : (backToKw pos (keywordEach kws X.env)).all (·.1.isSome) = true := by rfl) (hks : (backToKw pos (keywordEach kws X.env)).filterMap (·.1) = ks := by rfl) (hdb : (n == ("__debug__" : Str)) = false := by decide)
    (hpl : ((backTo pos (starEach [] X.env)).any (·.1) || (backToKw pos (keywordEach kws X.env)).any (·.1.isNone)) = false := by rfl) :
    PE X (.Call (.Name n p) [] kws pos) (tCallX 0 ks.length ix (spF X.K X.mg ms.length Fs) dvs W tNil tkw) := by
  constructor
  intro pins s σ H Q I reading
  apply wpAny_Call_Name_kw
  apply ld_glob I hg hm _ hdb
  apply PySem.W.callWith_KW0 (h₀ := X.base) I.ok.mod.kin hk hall _ hpl
  apply thn (hkw.run pos pins s σ H _ I reading)
  rintro ws s2 ⟨zs, H2, I2, rz, l1, l2, q2⟩
  refine ⟨I2.kIn, ?_⟩
  rw [hks]
  exact kcall (us := []) (vs := []) Fo hr gu tk hb hd I2 .nil rz l1 l2 q2
theorem eFnK_weak {ix : List Nat} {σ : L2.St} {H : Hp} {Q : VK} (hdd : ∀ G, DpAll X.K G dvs dd) (t : tG X.K X.mg Φ W (rr X.K Φ) (eFnK Fs ms ix dd i j fa fk) σ H Q) :
    tCallX i j ix (spF X.K X.mg ms.length Fs) dvs W (tG X.K X.mg Φ W (rs X.K) fa) (tG X.K X.mg Φ W (rs X.K) fk) σ H Q := by
  obtain ⟨G, F, e, O, h⟩ := t
  refine ⟨G, F, e, O, Wp.imp (Wp.seq h) fun vs H1 ⟨G1, F1, e1, as, g1, O1, r1, h1⟩ => ⟨G1, F1, e1, O1, Wp.imp (Wp.seq h1) fun zs H2 ⟨G2, F2, e2, bs, g2, O2, r2, h2⟩ => ?_⟩⟩
  split at h2
  · rename_i hl
    have q1 := r1.length
    have q2 := r2.length
    refine ⟨by omega, by omega, ?_⟩
    have all := rs_pick (rs_app (rs_app (rs_up g2 r1) r2) (rs_data (H := H2) (F := F2) (σ := σ) (e := e2) (hdd G2))) ix
    exact callR_ok O2 all (by rw [hl.2.2]; exact (List.length_map _).symm) h2
  · exact h2.elim
theorem d_callK (ms : List Bool) (ix : List Nat) (dd : List D) (Fo : FnG X.prog X.w X.K X.mg X.base k f fd ps (spF X.K X.mg ms.length Fs)) (hr : Room k X.A) (gu : X.A.guards = some []) (hm : X.mg n = some (.ref f)) (hk : PySem.W.keepIn X.K (.ref f) = true) (hb : KwB X.K fd ps ks i ix ds) (hd : Vals dvs ds) (hdd : ∀ G, DpAll X.K G dvs dd) (tk : Takes X W)
    (ha : DA X Φ W (x :: xs) fa) (hkw : DK X Φ W kws fk) (hg : Gl X n := by rfl) (hall : (backToKw pos (keywordEach kws X.env)).all (·.1.isSome) = true := by rfl) (hks : (backToKw pos (keywordEach kws X.env)).filterMap (·.1) = ks := by rfl) (hdb : (n == ("__debug__" : Str)) = false := by decide)
    (he : starEach (x :: xs) X.env = (false, eval x X.env) :: starEach xs X.env := by rfl) (hpl : ((backTo pos (starEach (x :: xs) X.env)).any (·.1) || (backToKw pos (keywordEach kws X.env)).any (·.1.isNone)) = false := by rfl) :
    DR X Φ W (.Call (.Name n p) (x :: xs) kws pos) (eFnK Fs ms ix dd i ks.length fa fk) := pe_weak (pe_callX Fo hr gu hg hm hk hb hd tk ha hkw hall hks hdb he hpl) fun _ _ _ t => eFnK_weak hdd t
theorem d_callK0 (ms : List Bool) (ix : List Nat) (dd : List D) (Fo : FnG X.prog X.w X.K X.mg X.base k f fd ps (spF X.K X.mg ms.length Fs)) (hr : Room k X.A) (gu : X.A.guards = some []) (hm : X.mg n = some (.ref f)) (hk : PySem.W.keepIn X.K (.ref f) = true) (hb : KwB X.K fd ps ks 0 ix ds) (hd : Vals dvs ds) (hdd : ∀ G, DpAll X.K G dvs dd) (tk : Takes X W)
    (hkw : DK X Φ W kws fk) (hg : Gl X n := by rfl) (hall : (backToKw pos (keywordEach kws X.env)).all (·.1.isSome) = true := by rfl) (hks : (backToKw pos (keywordEach kws X.env)).filterMap (·.1) = ks := by rfl) (hdb : (n == ("__debug__" : Str)) = false := by decide)
    (hpl : ((backTo pos (starEach [] X.env)).any (·.1) || (backToKw pos (keywordEach kws X.env)).any (·.1.isNone)) = false := by rfl) :
    DR X Φ W (.Call (.Name n p) [] kws pos) (eFnK Fs ms ix dd 0 ks.length aNil fk) := pe_weak (pe_callX0 Fo hr gu hg hm hk hb hd tk hkw hall hks hdb hpl) fun σ H Q t => by
  obtain ⟨G, F, e, O, h⟩ := (eFnK_weak (fa := aNil) hdd t)
  exact h [] H G F (Same.refl _) O .nil
end
section
variable {K : PySem.W.Frag} {x qual : Str} {params : Arguments} {body : List Stmt} {scope : Scope} {f : Addr} {fd : FuncData} {ps ks : List Str} {n : Nat} {ix : List Nat}
/-- a def without defaults -/
theorem kw_binds (Fd : FunD K x qual params body scope [] [] f fd) (h : ∀ (kV doc pm : Value) (an : Option Addr) (cdv ct : Value) (us ws : List Value), us.length = n → ws.length = ks.length →
    bindArgs (PySem.W.fnOf x qual params body scope .none kV doc pm an cdv ct) ⟨us, ks.zip ws⟩ = pure (ps.zip (pickU ix (us ++ ws ++ [])))) : KwB K fd ps ks n ix [] := by
  obtain ⟨oc, od, dV, kV, doc, pm, an, cdv, ct, osl, rfl, lk, hcd, hD, hK⟩ := Fd.ex
  rcases hD with ⟨_, rfl⟩ | ⟨z, _⟩
  · exact ⟨fun s us ws _ l1 l2 => .of_eq (h kV doc pm an cdv ct us ws l1 l2)⟩
  · exact absurd rfl z
end

/-! ### a, b, c = x, y, z with plain names -/
section
variable {X : Cx} {Φ : Fx} {W : WX} {x y z : Expr} {fa fb fc : Rf} {pos px py pz pt p2 : Pos} {kt k2 : Nat} {n m l : Str}
theorem s_par3 (i j k : Nat) (hc : X.calm = true) (hN : X.N.Nodup) (ha : DR X Φ W x fa) (hb : ∀ Φ, DR X Φ W y fb) (hc3 : ∀ Φ, DR X Φ W z fc) (hw : swappedStores [.Tuple [.Name n px, .Name m py, .Name l pz] kt pt] (.Tuple [x, y, z] k2 p2) X.env = pure (some [n, m, l]))
    (hi : X.N[i]? = some n := by rfl) (hj : X.N[j]? = some m := by rfl) (hk : X.N[k]? = some l := by rfl) (hij : i ≠ j := by decide) (hik : i ≠ k := by decide) (hjk : j ≠ k := by decide) (hx : X.env.scope.names.lookup n = some .local := by rfl) (hy : X.env.scope.names.lookup m = some .local := by rfl) (hz : X.env.scope.names.lookup l = some .local := by rfl)
    (hs : swapsWithSole [.Tuple [.Name n px, .Name m py, .Name l pz] kt pt] (.Tuple [x, y, z] k2 p2) pos.line X.env = pure false := by rfl) (h1 : starEach [x, y, z] X.env = (false, eval x X.env) :: starEach [y, z] X.env := by rfl) (h2 : starEach [y, z] X.env = (false, eval y X.env) :: starEach [z] X.env := by rfl) (h3 : starEach [z] X.env = (false, eval z X.env) :: starEach [] X.env := by rfl) :
    DS X Φ W (.Assign [.Tuple [.Name n px, .Name m py, .Name l pz] kt pt] (.Tuple [x, y, z] k2 p2) pos) (sPar3 i j k fa fb fc) :=
  ps_weak (ps_par3 hc hN hi hj hk hij hik hjk hx hy hz (pa_cons ha (pa_cons (pe_ex hb) (pa_cons (pe_ex hc3) pa_nil h3) h2) h1) hw hs) fun Dn σ H ⟨G, F, e, O, h⟩ => ⟨G, F, e, O, Wp.imp (WS.seq (σ := σ) h) fun v H1 ⟨G1, F1, e1, r1, g1, O1, q1, h1⟩ => by
    obtain ⟨A1, L1, P1⟩ := Held.mk' O1 q1
    refine ⟨_, G1, F1, e1, P1, Wp.imp (WS.seqP (fun o => L1.cv o) h1) fun w H2 ⟨G2, F2, e2, r2, g2, O2, q2, h2⟩ => ?_⟩
    obtain ⟨A2, L2', P2⟩ := Held.mk' O2 q2
    refine ⟨_, G2, F2, e2, P2, Wp.imp (WS.seqP (fun o => L1.cv (L2'.cv o)) h2) fun u H3 ⟨G3, F3, e3, r3, g3, O3, q3, h3⟩ => ?_⟩
    obtain ⟨A3, L3, P3⟩ := Held.mk' O3 q3
    have a1 : ∀ a, r1 = .arg a → ra X.K a v H3 G3 F3 σ e3 := fun a z => ra_up (L1.ar a z) (g2.trans g3)
    obtain ⟨G4, e4, s1, t4, O4, z4, h4⟩ := WS.fzX P3 a1 h3
    have a2 : ∀ a, r2 = .arg a → ra X.K a w H3 G4 F3 σ e4 := fun a z => ra_up (L2'.ar a z) (g3.trans t4)
    obtain ⟨G5, e5, s2, t5, O5, z5, h5⟩ := WS.fzX O4 a2 h4
    have a3 : ∀ a, r3 = .arg a → ra X.K a u H3 G5 F3 σ e5 := fun a z => ra_up (L3.ar a z) (t4.trans t5)
    obtain ⟨G6, e6, s3, t6, O6, z6, h6⟩ := WS.fzX O5 a3 h5
    have O6b := L3.cv O6
    have O6a := L2'.cv O6b
    obtain ⟨B1, b1, y1⟩ := L1.rx O6a (g2.trans (g3.trans (t4.trans (t5.trans t6)))) (t5.trans t6) z4
    obtain ⟨B2, b2, y2⟩ := L2'.rx O6b (g3.trans (t4.trans (t5.trans t6))) t6 z5
    obtain ⟨B3, b3, y3⟩ := L3.rx O6 (t4.trans (t5.trans t6)) (Same.refl _) z6
    have down : ∀ {Ψ : Fx} {Hh : Hp} {A B : List Addr} {r : RV} {v : V}, (∀ b ∈ A, Hh b ≠ none) → rx X.K (Ψ.plus Hh A) B r v H3 G6 F3 e6 → rx X.K Ψ B r v H3 G6 F3 e6 := fun {Ψ Hh A B r v} th y => by
      cases r with
      | arg a => cases a <;> exact y
      | new o =>
        obtain ⟨a, ea, oa, na, ap⟩ := y
        refine ⟨a, ea, oa, fun b hb => ⟨(na b hb).1, ?_⟩, ap⟩
        have z : (if b ∈ A then Hh b else Ψ.H_0 b) = none := (na b hb).2
        by_cases hA : b ∈ A
        · rw [if_pos hA] at z
          exact absurd z (th b hA)
        · rw [if_neg hA] at z
          exact z
    have y2' := down L1.th y2
    have y3' := down L1.th (down L2'.th y3)
    have dj12 : ∀ b ∈ B2, b ∉ B1 := fun b hb hb1 => by
      have z : (if b ∈ A1 then H1 b else Φ.H_0 b) = none := L2'.n0 b (b2 b hb)
      rw [if_pos (b1 b hb1)] at z
      exact L1.th b (b1 b hb1) z
    have n3 : ∀ b ∈ B3, (if b ∈ A2 then H2 b else (if b ∈ A1 then H1 b else Φ.H_0 b)) = none := fun b hb => L3.n0 b (b3 b hb)
    have dj23 : ∀ b ∈ B3, b ∉ B2 := fun b hb hb2 => by
      have z := n3 b hb
      rw [if_pos (b2 b hb2)] at z
      exact L2'.th b (b2 b hb2) z
    have dj13 : ∀ b ∈ B3, b ∉ B1 := fun b hb hb1 => by
      have z := n3 b hb
      by_cases hA : b ∈ A2
      · rw [if_pos hA] at z
        exact L2'.th b hA z
      · rw [if_neg hA, if_pos (b1 b hb1)] at z
        exact L1.th b (b1 b hb1) z
    obtain ⟨F7, e7, O7, h7, k7⟩ := putR_ok (L1.cv O6a) y1 h6
    obtain ⟨F8, e8, O8, h8, k8⟩ := putR_ok O7 (k7 B2 s2 w dj12 y2') h7
    obtain ⟨F9, e9, O9, h9, _⟩ := putR_ok O8 (k8 B3 s3 u dj23 (k7 B3 s3 u dj13 y3')) h8
    exact ⟨v, w, u, rfl, h9 .non _ H3 G6 F9 (Same.refl _) O9⟩⟩
end
end DL
set_option Elab.async false
set_option linter.all false
set_option maxRecDepth 100000
set_option maxHeartbeats 4000000
/-! DlN: the law's own promise out of its frame function. -/
namespace DL
open PySem L2

/-- the script as data -/
def scr (ns : List Int) : D := .list (ns.map PyData.int)
theorem spF_law {K : PySem.W.Frag} {mg : Str → Option Value} {F : Fn} {H : Hp} {a : Addr} {ns : List Int} {os : Fr} {E : XK} (h : F [.sh (scr ns)] = .ok (.sh (.bool true)) os) (hs : SqL K H a (ns.map V.int)) :
    spF K mg 1 F [.ref a] H (fun v _ => v = .bl true) E := by
  refine ⟨rfl, H, [.sh (scr ns)], fun _ => [], fun _ => 0, ⟨fun _ _ q => q, rfl, fun i s q => ?_, fun i j s t hij q1 q2 o1 o2 => ?_, ?_, ?_, ?_⟩, rfl, ?_⟩
  · match i, q with
    | 0, q =>
      cases (show s = .sh (scr ns) from by simpa using q.symm)
      exact ⟨.ref a, rfl, .lst hs (dp_ints ns)⟩
    | i + 1, q => cases q
  · match i, q1 with
    | 0, q1 =>
      cases (show s = .sh (scr ns) from by simpa using q1.symm)
      cases o1
    | i + 1, q1 => cases q1
  · intros
    first | rfl | assumption | trivial
  · intros
    first | assumption | (rename_i z; exact absurd z (by simp)) | trivial
  · intros
    first | trivial | assumption | (rename_i z; cases z)
  · rw [h]
    intro v H' G' F' _ _ r
    cases (show Dp K G' v (.bool true) from r)
    rfl
/-- the law's end behind k_head, k_fill: K is what the head leaves, Fc what is read off it -/
theorem walk_k {l : PySem.W.OpenLaw} {n k : Nat} {q : Program} {loose : List Str} {XP : (Str → Option Value) → Heap → Prop} {YP : World → Heap → Prop} {d : DefRec} {x : Str} {K : Params → PySem.W.Frag} (Fc : PySem.W.Frag → Prop) (Fl : Fn)
    (hn : l.most = some n) (hn2 : n ≤ sizeLine) (hdf : d.params.defaults = []) (room : Room k callerA) (hY : ∀ (w : World) (h : Heap), YP w h → (K w.params).In h) (hC : ∀ w : World, Fc (K w.params))
    (F : ∀ (w : World) (K : PySem.W.Frag) (mg : Str → Option Value) (fa : Addr) (h : Heap), K.In h → Fc K → h.Ns mainGlobals mg → mg d.name = some (.ref fa) →
      ∃ fd : FuncData, (∀ (s : Shared) (u : Value), BindsTo s fd ⟨[u], []⟩ [(x, u)]) ∧ ∀ base : Heap, K.In base → base.Ns mainGlobals mg → FnG l.prog w K mg base k fa fd [x] (spF K mg 1 Fl))
    (say : ∀ ns : List Int, ns.length ≤ n → (∀ z ∈ ns, Builtin.Int.intBits z ≤ 1048576) → ∃ os, Fl [.sh (scr ns)] = .ok (.sh (.bool true)) os) :
    PySem.W.WalkO q loose XP YP l.row.toRowW d [] (fun f vs => PySem.call f vs) := by
  refine walk_g (x := x) hn hn2 hdf room fun w mg fa h Y G hmg => ?_
  have KX := hY w h Y
  obtain ⟨fd, hb, hF⟩ := F w _ mg fa h KX (hC w) G hmg
  refine ⟨K w.params, fd, spF (K w.params) mg 1 Fl, KX, hb, fun H a ns hl hbits hS => ?_, hF⟩
  obtain ⟨os, hos⟩ := say ns hl hbits
  exact spF_law hos hS
end DL
set_option Elab.async false
set_option linter.all false
set_option maxRecDepth 100000
set_option maxHeartbeats 4000000
/-! DlO: a call with one new object that the callee writes, f(made()). -/
namespace DL
open PySem L2
section
variable {K : PySem.W.Frag} {mg : Str → Option Value} {Φ : Fx} {W : WX} {H G : Hp} {F : Nat → List Addr} {σ : L2.St} {e : Fr}
theorem Ok.push {w : Ow} {a : Addr} {A : List Addr} (O : Ok K Φ H G F σ e) (h : OwAt K G H w a A) (n : ∀ b ∈ A, G b = none ∧ Φ.H_0 b = none)
    (ap : ∀ j t, e[j]? = some t → t.owned = true → ∀ b ∈ A, b ∉ F j) : Ok K Φ H G (fun j => if j = e.length then A else F j) (σ ++ [some (.ref a)]) (e ++ [.own w]) := by
  have at_ : ∀ {j : Nat} {s : Sl}, (e ++ [Sl.own w])[j]? = some s → (e[j]? = some s ∧ j < e.length) ∨ (j = e.length ∧ s = .own w) := fun {j s} q => by
    by_cases hj : j < e.length
    · rw [List.getElem?_append_left hj] at q
      exact .inl ⟨q, hj⟩
    · rw [List.getElem?_append_right (by omega)] at q
      match z : j - e.length, q with
      | 0, q =>
        exact .inr ⟨by omega, by simpa using q.symm⟩
      | k + 1, q =>
        simp at q
  refine ⟨O.gh, by simp [O.len], fun j s q => ?_, fun j k s t hjk q1 q2 o1 o2 => ?_, O.f0, O.f1, O.f2⟩
  · rcases at_ q with ⟨q1, hj⟩ | ⟨rfl, rfl⟩
    · rw [if_neg (by omega), List.getElem?_append_left (by rw [← O.len]; exact hj)]
      exact O.slots j s q1
    · rw [if_pos rfl]
      refine ⟨a, ?_, h, n⟩
      rw [List.getElem?_append_right (by rw [O.len]; omega), O.len]
      simp
  · rcases at_ q1 with ⟨p1, hj⟩ | ⟨rfl, rfl⟩
    · rw [if_neg (by omega)]
      rcases at_ q2 with ⟨p2, hk⟩ | ⟨rfl, rfl⟩
      · rw [if_neg (by omega)]
        exact O.sep j k s t hjk p1 p2 o1 o2
      · rw [if_pos rfl]
        exact fun b hb hb2 => ap j s p1 o1 b hb2 hb
    · rw [if_pos rfl]
      rcases at_ q2 with ⟨p2, hk⟩ | ⟨rfl, rfl⟩
      · rw [if_neg (by omega)]
        exact ap k t p2 o2
      · exact absurd rfl hjk
theorem Ok.pop {o : Option V} (O : Ok K Φ H G F (σ ++ [o]) e) : Ok K Φ H G F σ (e.take σ.length) := by
  have l : e.length = σ.length + 1 := by rw [O.len, List.length_append]; rfl
  have at_ : ∀ {j : Nat} {s : Sl}, (e.take σ.length)[j]? = some s → e[j]? = some s ∧ j < σ.length := fun {j s} q => by
    rw [List.getElem?_take] at q
    split at q
    · exact ⟨q, by assumption⟩
    · cases q
  refine ⟨O.gh, by rw [List.length_take]; omega, fun j s q => ?_, fun j k s t hjk q1 q2 o1 o2 => O.sep j k s t hjk (at_ q1).1 (at_ q2).1 o1 o2, O.f0, O.f1, O.f2⟩
  obtain ⟨q1, hj⟩ := at_ q
  have z := O.slots j s q1
  rw [List.getElem?_append_left hj] at z
  exact z
def popR (n : Nat) : R RV → R RV
  | .ok (.arg (.val d)) e => .ok (.arg (.val d)) (e.take n)
  | .ok (.arg (.slot _)) _ => .no
  | .ok (.new w) e => .ok (.new w) (e.take n)
  | .ex x e => .ex x (e.take n)
  | .no => .no
/-- f(made()), the made object written by f -/
def eFn1 (Fs : Fn) (fr : Rf) : Rf := fun e => (fr e).bind fun r e1 => match r with
  | .new w => popR e1.length (callR Fs [(true, .slot e1.length)] (e1 ++ [.own w]))
  | .arg _ => .no
theorem call1_ok {Fs : Fn} {Q : VK} {w : Ow} {v : V} (O : Ok K Φ H G F σ e) (r : rr K Φ (.new w) v H G F σ e) (h : Wp K mg Φ W σ (rr K Φ) G (popR e.length (callR Fs [(true, .slot e.length)] (e ++ [.own w]))) Q) : spF K mg 1 Fs [v] H Q (WE W σ) := by
  obtain ⟨a, A, rfl, o, n, ap⟩ := r
  have O1 := O.push o n ap
  have rs1 : rs K [.slot e.length] [.ref a] H G (fun j => if j = e.length then A else F j) (σ ++ [some (.ref a)]) (e ++ [.own w]) :=
    .cons (show (σ ++ [some (V.ref a)])[e.length]? = some (some (.ref a)) from by rw [List.getElem?_append_right (by rw [O.len]; omega), O.len]; simp) .nil
  have z := callR_ok (W := fun c d _ H => W c d σ H) (mg := mg) (Fs := Fs) (ms := [true]) (Q := Q) O1 rs1 rfl (by
    show Wp K mg Φ (fun c d _ H => W c d σ H) (σ ++ [some (.ref a)]) (rr K Φ) G (callR Fs [(true, .slot e.length)] (e ++ [.own w])) Q
    cases q : callR Fs [(true, .slot e.length)] (e ++ [.own w]) with
    | no =>
      rw [q] at h
      exact h.elim
    | ex x e2 =>
      rw [q] at h
      intro c d H' G' F' s O2 p
      have O3 := O2.pop
      rw [O.len] at h
      exact h c d H' G' F' s O3 p
    | ok r e2 =>
      rw [q] at h
      intro v' H' G' F' s O2 p
      have O3 := O2.pop
      rw [O.len] at h
      cases r with
      | arg b =>
        cases b with
        | slot i => exact h.elim
        | val d => exact h v' H' G' F' s O3 p
      | new u =>
        obtain ⟨a1, A1, e1, o1, n1, ap1⟩ := p
        refine h v' H' G' F' s O3 ⟨a1, A1, e1, o1, n1, fun j t q2 => ap1 j t ?_⟩
        rw [List.getElem?_take] at q2
        split at q2
        · exact q2
        · cases q2)
  exact z
end
section
variable {X : Cx} {Φ : Fx} {W : WX} {x : Expr} {pos p : Pos} {n : Str} {fr : Rf} {k : Nat} {f : Addr} {fd : FuncData} {ps : List Str} {Fs : Fn}
theorem d_call1 (Fo : FnG X.prog X.w X.K X.mg X.base k f fd ps (spF X.K X.mg 1 Fs)) (hr : Room k X.A) (gu : X.A.guards = some []) (hm : X.mg n = some (.ref f)) (hk : PySem.W.keepIn X.K (.ref f) = true) (hb : Binds X.K fd ps []) (tk : Takes X W)
    (ha : DR X Φ W x fr) (hg : Gl X n := by rfl) (hdb : (n == ("__debug__" : Str)) = false := by decide) (he : starEach [x] X.env = (false, eval x X.env) :: starEach [] X.env := by rfl) (hpl : (backTo pos (starEach [] X.env)).any (·.1) = false := by rfl) :
    DR X Φ W (.Call (.Name n p) [x] [] pos) (eFn1 Fs fr) :=
  pe_weak (pe_callG Fo hr gu hg hm hk hb .nil tk (pa_cons ha pa_nil he) hdb he hpl) fun σ H Q ⟨G, F, e, O, h⟩ => ⟨G, F, e, O, Wp.imp (Wp.seq h) fun v H1 ⟨G1, F1, e1, r, g1, O1, r1, h1⟩ => by
    cases r with
    | arg _ => exact h1.elim
    | new w => exact call1_ok O1 r1 h1⟩
end
end DL
set_option Elab.async false
set_option linter.all false
set_option maxRecDepth 100000
set_option maxHeartbeats 4000000
/-! DlP: a, b = x, y by a tuple between (where a name is a cell), new objects kept own. -/
namespace DL
open PySem L2
theorem rr_grow {K : PySem.W.Frag} {Φ : Fx} {r : RV} {v : V} {H G H' : Hp} {F : Nat → List Addr} {σ : L2.St} {e : Fr} (h : rr K Φ r v H G F σ e) (hh : Same H H') : rr K Φ r v H' G F σ e := by
  cases r with
  | arg a => cases a <;> exact h
  | new w =>
    obtain ⟨a, A, e1, o, n, ap⟩ := h
    exact ⟨a, A, e1, o.mono (Same.refl _) (fun b _ u q => hh b u q), n, ap⟩
section
variable {X : Cx} {Φ : Fx} {W : WX} {x y z : Expr} {fa fb fc : Rf} {pos px py pz pt p2 : Pos} {kt k2 : Nat} {n m l : Str}
theorem s_parT (i j : Nat) (hc : X.calm = true) (hN : X.N.Nodup) (ha : DR X Φ W x fa) (hb : ∀ Φ, DR X Φ W y fb) (hw : swappedStores [.Tuple [.Name n px, .Name m py] kt pt] (.Tuple [x, y] k2 p2) X.env = pure none := by rfl)
    (hi : X.N[i]? = some n := by rfl) (hj : X.N[j]? = some m := by rfl) (hx : Loc X.env.scope n := by first | exact Or.inl rfl | exact Or.inr rfl) (hy : Loc X.env.scope m := by first | exact Or.inl rfl | exact Or.inr rfl)
    (hfx : X.fn n = true ∨ X.env.scope.names.lookup n = some .local := by first | exact .inl rfl | exact .inr rfl) (hfy : X.fn m = true ∨ X.env.scope.names.lookup m = some .local := by first | exact .inl rfl | exact .inr rfl)
    (hs : swapsWithSole [.Tuple [.Name n px, .Name m py] kt pt] (.Tuple [x, y] k2 p2) pos.line X.env = pure false := by rfl) (h1 : starEach [x, y] X.env = (false, eval x X.env) :: starEach [y] X.env := by rfl) (h2 : starEach [y] X.env = (false, eval y X.env) :: starEach [] X.env := by rfl) :
    DS X Φ W (.Assign [.Tuple [.Name n px, .Name m py] kt pt] (.Tuple [x, y] k2 p2) pos) (sPar i j fa fb) :=
  ps_weak (ps_asg (pe_tup (pa_cons ha (pa_cons (pe_ex hb) pa_nil h2) h1)) (pg_tup hc (pgs_cons (pg_name hN hi hx hfx) (pgs_cons (pg_name hN hj hy hfy) pgs_nil))) hs hw) fun Dn σ H ⟨G, F, e, O, h⟩ => ⟨G, F, e, O, Wp.imp (WS.seq (σ := σ) h) fun v H1 ⟨G1, F1, e1, r1, g1, O1, q1, h1⟩ => by
    obtain ⟨A1, L1, P1⟩ := Held.mk' O1 q1
    refine ⟨_, G1, F1, e1, P1, Wp.imp (WS.seqP (fun o => L1.cv o) h1) fun w H0 ⟨G2, F2, e2, r2, g2, O0, q0, h2⟩ => ⟨line1000 (by simp), fun p hp => ?_⟩⟩
    have gr := Grow.own (o := .tup [v, w]) O0.gh hp
    obtain ⟨H2, eH⟩ : ∃ H2, H2 = upd H0 p (.tup [v, w]) := ⟨_, rfl⟩
    have O2 := O0.grow gr
    have q2 := rr_grow q0 gr.hh
    rw [← eH] at O2 q2
    have tp : SqT X.K H2 p [v, w] := .of (by rw [eH]; exact upd_same)
    rw [← eH]
    obtain ⟨A2, L2, P2⟩ := Held.mk' O2 q2
    have a1 : ∀ a, r1 = .arg a → ra X.K a v H2 G2 F2 σ e2 := fun a z => ra_up (L1.ar a z) g2
    obtain ⟨G3, e3, r3, s3, O3, z3, h3⟩ := WS.fzX P2 a1 h2
    have a2 : ∀ a, r2 = .arg a → ra X.K a w H2 G3 F2 σ e3 := fun a z => ra_up (L2.ar a z) s3
    obtain ⟨G4, e4, r4, s4, O4, z4, h4⟩ := WS.fzX O3 a2 h3
    obtain ⟨B1, b1, y1⟩ := L1.rx (L2.cv O4) (g2.trans (s3.trans s4)) s4 z3
    obtain ⟨B2, b2, y2⟩ := L2.rx O4 (s3.trans s4) (Same.refl _) z4
    have y2' : rx X.K Φ B2 r4 w H2 G4 F2 e4 := by
      cases r4 with
      | arg a => cases a <;> exact y2
      | new u =>
        obtain ⟨a, ea, oa, na, ap⟩ := y2
        refine ⟨a, ea, oa, fun b hb => ⟨(na b hb).1, ?_⟩, ap⟩
        have z : (if b ∈ A1 then H1 b else Φ.H_0 b) = none := (na b hb).2
        by_cases hA : b ∈ A1
        · rw [if_pos hA] at z
          exact absurd z (L1.th b hA)
        · rw [if_neg hA] at z
          exact z
    have dj : ∀ b ∈ B2, b ∉ B1 := fun b hb hb1 => by
      have z : (if b ∈ A1 then H1 b else Φ.H_0 b) = none := L2.n0 b (b2 b hb)
      rw [if_pos (b1 b hb1)] at z
      exact L1.th b (b1 b hb1) z
    obtain ⟨F5, e5, O5, h5, k5⟩ := putR_ok (L1.cv (L2.cv O4)) y1 h4
    obtain ⟨F6, e6, O6, h6, _⟩ := putR_ok O5 (k5 B2 r4 w dj y2') h5
    exact ⟨p, [v, w], rfl, tp, rfl, v, [w], rfl, w, [], rfl, rfl, h6 .non _ H2 G4 F6 (Same.refl _) O6⟩⟩
theorem s_parT3 (i j k : Nat) (hc : X.calm = true) (hN : X.N.Nodup) (ha : DR X Φ W x fa) (hb : ∀ Φ, DR X Φ W y fb) (hc3 : ∀ Φ, DR X Φ W z fc) (hw : swappedStores [.Tuple [.Name n px, .Name m py, .Name l pz] kt pt] (.Tuple [x, y, z] k2 p2) X.env = pure none := by rfl)
    (hi : X.N[i]? = some n := by rfl) (hj : X.N[j]? = some m := by rfl) (hk : X.N[k]? = some l := by rfl) (hx : Loc X.env.scope n := by first | exact Or.inl rfl | exact Or.inr rfl) (hy : Loc X.env.scope m := by first | exact Or.inl rfl | exact Or.inr rfl) (hz : Loc X.env.scope l := by first | exact Or.inl rfl | exact Or.inr rfl)
    (hfx : X.fn n = true ∨ X.env.scope.names.lookup n = some .local := by first | exact .inl rfl | exact .inr rfl) (hfy : X.fn m = true ∨ X.env.scope.names.lookup m = some .local := by first | exact .inl rfl | exact .inr rfl) (hfz : X.fn l = true ∨ X.env.scope.names.lookup l = some .local := by first | exact .inl rfl | exact .inr rfl)
    (hs : swapsWithSole [.Tuple [.Name n px, .Name m py, .Name l pz] kt pt] (.Tuple [x, y, z] k2 p2) pos.line X.env = pure false := by rfl) (h1 : starEach [x, y, z] X.env = (false, eval x X.env) :: starEach [y, z] X.env := by rfl) (h2 : starEach [y, z] X.env = (false, eval y X.env) :: starEach [z] X.env := by rfl) (h3 : starEach [z] X.env = (false, eval z X.env) :: starEach [] X.env := by rfl) :
    DS X Φ W (.Assign [.Tuple [.Name n px, .Name m py, .Name l pz] kt pt] (.Tuple [x, y, z] k2 p2) pos) (sPar3 i j k fa fb fc) :=
  ps_weak (ps_asg (pe_tup (pa_cons ha (pa_cons (pe_ex hb) (pa_cons (pe_ex hc3) pa_nil h3) h2) h1)) (pg_tup hc (pgs_cons (pg_name hN hi hx hfx) (pgs_cons (pg_name hN hj hy hfy) (pgs_cons (pg_name hN hk hz hfz) pgs_nil)))) hs hw) fun Dn σ H ⟨G, F, e, O, h⟩ => ⟨G, F, e, O, Wp.imp (WS.seq (σ := σ) h) fun v H1 ⟨G1, F1, e1, r1, g1, O1, q1, h1⟩ => by
    obtain ⟨A1, L1, P1⟩ := Held.mk' O1 q1
    refine ⟨_, G1, F1, e1, P1, Wp.imp (WS.seqP (fun o => L1.cv o) h1) fun w H2 ⟨G2, F2, e2, r2, g2, O2, q2, h2⟩ => ?_⟩
    obtain ⟨A2, L2', P2⟩ := Held.mk' O2 q2
    refine ⟨_, G2, F2, e2, P2, Wp.imp (WS.seqP (fun o => L1.cv (L2'.cv o)) h2) fun u H0 ⟨G3, F3, e3, r3, g3, O0, q0, h3⟩ => ⟨line1000 (by simp), fun p hp => ?_⟩⟩
    have gr := Grow.own (o := .tup [v, w, u]) O0.gh hp
    obtain ⟨H3, eH⟩ : ∃ H3, H3 = upd H0 p (.tup [v, w, u]) := ⟨_, rfl⟩
    have O3 := O0.grow gr
    have q3 := rr_grow q0 gr.hh
    rw [← eH] at O3 q3
    have tp : SqT X.K H3 p [v, w, u] := .of (by rw [eH]; exact upd_same)
    rw [← eH]
    obtain ⟨A3, L3, P3⟩ := Held.mk' O3 q3
    have a1 : ∀ a, r1 = .arg a → ra X.K a v H3 G3 F3 σ e3 := fun a z => ra_up (L1.ar a z) (g2.trans g3)
    obtain ⟨G4, e4, s1, t4, O4, z4, h4⟩ := WS.fzX P3 a1 h3
    have a2 : ∀ a, r2 = .arg a → ra X.K a w H3 G4 F3 σ e4 := fun a z => ra_up (L2'.ar a z) (g3.trans t4)
    obtain ⟨G5, e5, s2, t5, O5, z5, h5⟩ := WS.fzX O4 a2 h4
    have a3 : ∀ a, r3 = .arg a → ra X.K a u H3 G5 F3 σ e5 := fun a z => ra_up (L3.ar a z) (t4.trans t5)
    obtain ⟨G6, e6, s3, t6, O6, z6, h6⟩ := WS.fzX O5 a3 h5
    have O6b := L3.cv O6
    have O6a := L2'.cv O6b
    obtain ⟨B1, b1, y1⟩ := L1.rx O6a (g2.trans (g3.trans (t4.trans (t5.trans t6)))) (t5.trans t6) z4
    obtain ⟨B2, b2, y2⟩ := L2'.rx O6b (g3.trans (t4.trans (t5.trans t6))) t6 z5
    obtain ⟨B3, b3, y3⟩ := L3.rx O6 (t4.trans (t5.trans t6)) (Same.refl _) z6
    have down : ∀ {Ψ : Fx} {Hh : Hp} {A B : List Addr} {r : RV} {v : V}, (∀ b ∈ A, Hh b ≠ none) → rx X.K (Ψ.plus Hh A) B r v H3 G6 F3 e6 → rx X.K Ψ B r v H3 G6 F3 e6 := fun {Ψ Hh A B r v} th y => by
      cases r with
      | arg a => cases a <;> exact y
      | new o =>
        obtain ⟨a, ea, oa, na, ap⟩ := y
        refine ⟨a, ea, oa, fun b hb => ⟨(na b hb).1, ?_⟩, ap⟩
        have z : (if b ∈ A then Hh b else Ψ.H_0 b) = none := (na b hb).2
        by_cases hA : b ∈ A
        · rw [if_pos hA] at z
          exact absurd z (th b hA)
        · rw [if_neg hA] at z
          exact z
    have y2' := down L1.th y2
    have y3' := down L1.th (down L2'.th y3)
    have dj12 : ∀ b ∈ B2, b ∉ B1 := fun b hb hb1 => by
      have z : (if b ∈ A1 then H1 b else Φ.H_0 b) = none := L2'.n0 b (b2 b hb)
      rw [if_pos (b1 b hb1)] at z
      exact L1.th b (b1 b hb1) z
    have n3 : ∀ b ∈ B3, (if b ∈ A2 then H2 b else (if b ∈ A1 then H1 b else Φ.H_0 b)) = none := fun b hb => L3.n0 b (b3 b hb)
    have dj23 : ∀ b ∈ B3, b ∉ B2 := fun b hb hb2 => by
      have z := n3 b hb
      rw [if_pos (b2 b hb2)] at z
      exact L2'.th b (b2 b hb2) z
    have dj13 : ∀ b ∈ B3, b ∉ B1 := fun b hb hb1 => by
      have z := n3 b hb
      by_cases hA : b ∈ A2
      · rw [if_pos hA] at z
        exact L2'.th b hA z
      · rw [if_neg hA, if_pos (b1 b hb1)] at z
        exact L1.th b (b1 b hb1) z
    obtain ⟨F7, e7, O7, h7, k7⟩ := putR_ok (L1.cv O6a) y1 h6
    obtain ⟨F8, e8, O8, h8, k8⟩ := putR_ok O7 (k7 B2 s2 w dj12 y2') h7
    obtain ⟨F9, e9, O9, h9, _⟩ := putR_ok O8 (k8 B3 s3 u dj23 (k7 B3 s3 u dj13 y3')) h8
    exact ⟨p, [v, w, u], rfl, tp, rfl, v, [w, u], rfl, w, [u], rfl, u, [], rfl, rfl, h9 .non _ H3 G6 F9 (Same.refl _) O9⟩⟩
end
end DL
set_option Elab.async false
set_option linter.all false
set_option maxRecDepth 100000
set_option maxHeartbeats 4000000
/-! DlR: targets over lists and tuples, in, chains of comparisons, lists put together. -/
namespace DL
open PySem L2

/-! ### a, b = a list or a tuple -/
theorem pg_or {X : Cx} {tg : Expr} {t u : TG} (h1 : PG X tg t) (h2 : PG X tg u) : PG X tg (fun v σ H Q => t v σ H Q ∨ u v σ H Q) := ⟨fun pins s σ H v w Q I r q => q.elim (h1.run pins s σ H v w Q I r) (h2.run pins s σ H v w Q I r)⟩
def gSeqF (r : Gfs) : Gf := fun d e => match d with
  | .tuple ds => r ds e
  | .list ds => r ds e
  | _ => .no
section
variable {X : Cx} {Φ : Fx} {W : WX} {tgs : List Expr} {pos : Pos} {js : List Nat} {r : Gfs}
theorem g_seq {k : Nat} {n : Nat} (hc : X.calm = true) (h : DGs X Φ js tgs r) (hl : ∀ ds e u e', r ds e = .ok u e' → ds.length = n) (hn : (assignEach tgs X.env).length = n := by rfl) (hst : (assignEach tgs X.env).findIdx? (·.1) = none := by rfl) : DG X Φ js (.Tuple tgs k pos) (gSeqF r) :=
  pg_weak (pg_or (pg_tup hc h hn hst) (pg_lst hc h hn hst)) fun v σ H Q ⟨G, F, e, d, O, hd, h⟩ => by
    have len : ∀ {ds : List D} (_ : match r ds e with
        | .ok _ e' => ∀ σ' H' G' F', Same G G' → Ok X.K Φ H' G' F' σ' e' → (σ'.length = σ.length ∧ ∀ j, j ∉ js → σ'[j]? = σ[j]?) → Q σ' H'
        | _ => False), ds.length = n := fun {ds} h' => by
      cases q : r ds e with
      | no =>
        rw [q] at h'
        exact h'.elim
      | ex x e1 =>
        rw [q] at h'
        exact h'.elim
      | ok u e1 => exact hl ds e u e1 q
    cases hd with
    | @tup a xs ds t1 t2 => exact .inl ⟨a, xs, rfl, same_t O.gh t1, (DpAll.len t2).trans (len h), G, F, e, ds, O, t2, h⟩
    | @lst a xs ds t1 t2 => exact .inr ⟨a, xs, rfl, same_l O.gh t1, (DpAll.len t2).trans (len h), G, F, e, ds, O, t2, h⟩
    | _ => exact h.elim
end

/-! ### x in a list or a tuple -/
def flat1 : D → Bool
  | .none => true
  | .bool _ => true
  | .int _ => true
  | .str _ => true
  | _ => false
def hasD (x : D) (ds : List D) : Option Bool := if SeqAt.shaped x = true ∧ SeqAt.shaped (.list ds) = true then some (ds.any fun z => PyData.eqv z x) else none
def dIn : D → D → Option D
  | x, .list ds => (hasD x ds).map PyData.bool
  | x, .tuple ds => if flat1 x = true ∧ ds.all flat1 = true then some (.bool (ds.any fun z => PyData.eqv z x)) else none
  | _, _ => none
def dNotIn : D → D → Option D
  | x, .list ds => (hasD x ds).map fun b => .bool (!b)
  | x, .tuple ds => if flat1 x = true ∧ ds.all flat1 = true then some (.bool (!ds.any fun z => PyData.eqv z x)) else none
  | _, _ => none
section
variable {K : PySem.W.Frag} {H : Hp}
theorem flat1_v {v : V} {d : D} (h : Dp K H v d) (f : flat1 d = true) : flatV v = true := by
  cases h <;> first | rfl | cases f
theorem flat1_all : ∀ {vs : List V} {ds : List D}, DpAll K H vs ds → ds.all flat1 = true → vs.all flatV = true
  | _, _, .nil, _ => rfl
  | _, _, .cons a t, h => by
    simp only [List.all_cons, Bool.and_eq_true] at h ⊢
    exact ⟨flat1_v a h.1, flat1_all t h.2⟩
theorem eqv_v {v w : V} {d c : D} (h : Dp K H v d) (g : Dp K H w c) (f : flat1 d = true) (f2 : flat1 c = true) : eqV v w = PyData.eqv d c := by
  cases h <;> first | cases f | skip
  all_goals cases g <;> first | cases f2 | skip
  all_goals simp only [eqV, PyData.eqv]
theorem in_v {v : V} {d : D} (h : Dp K H v d) (f : flat1 d = true) : ∀ {vs : List V} {ds : List D}, DpAll K H vs ds → ds.all flat1 = true → inV v vs = ds.any fun z => PyData.eqv z d
  | _, _, .nil, _ => rfl
  | _, _, .cons a t, g => by
    simp only [List.all_cons, Bool.and_eq_true] at g
    have e := in_v h f t g.2
    unfold inV at e ⊢
    rw [List.any_cons, List.any_cons, e, eqv_v a h g.1 f]
end
section
variable {X : Cx}
theorem op_dIn (hu : X.A.units + 65 < cLine) : OpR X (compareOp .In) (r2 X.K dIn) := by
  intro pins s σ H x y v u Q I rx ry h
  obtain ⟨G, d1, d2, d, gh, b1, b2, ho, k⟩ := h
  unfold dIn at ho
  split at ho
  · rename_i ds
    unfold hasD at ho
    split at ho
    · rename_i hc
      cases ho
      exact op_inD hu pins s σ H _ _ v u Q I rx ry ⟨_, _, b1.dpH gh, b2.dpH gh, hc.1, hc.2, k _ _ _ (Grow.refl gh) (.bl _)⟩
    · cases ho
  · rename_i ds
    split at ho
    · rename_i hc
      cases ho
      obtain ⟨a, vs, rfl, ht, hd⟩ := b2.tup gh
      have h1 := b1.dpH gh
      have hd' := dpa_mono gh _ _ hd
      refine op_in_seq pins s σ H _ _ v u Q I rx ry ⟨a, vs, rfl, .inr ht, flat1_v h1 hc.1, flat1_all hd' hc.2, ?_⟩
      rw [if_neg (by decide), in_v h1 hc.1 hd' hc.2]
      exact k _ _ _ (Grow.refl gh) (.bl _)
    · cases ho
  · cases ho
theorem op_dNotIn (hu : X.A.units + 65 < cLine) : OpR X (compareOp .NotIn) (r2 X.K dNotIn) := by
  intro pins s σ H x y v u Q I rx ry h
  obtain ⟨G, d1, d2, d, gh, b1, b2, ho, k⟩ := h
  unfold dNotIn at ho
  split at ho
  · rename_i ds
    unfold hasD at ho
    split at ho
    · rename_i hc
      cases ho
      exact op_notInD hu pins s σ H _ _ v u Q I rx ry ⟨_, _, b1.dpH gh, b2.dpH gh, hc.1, hc.2, k _ _ _ (Grow.refl gh) (.bl _)⟩
    · cases ho
  · rename_i ds
    split at ho
    · rename_i hc
      cases ho
      obtain ⟨a, vs, rfl, ht, hd⟩ := b2.tup gh
      have h1 := b1.dpH gh
      have hd' := dpa_mono gh _ _ hd
      refine op_notIn_seq pins s σ H _ _ v u Q I rx ry ⟨a, vs, rfl, .inr ht, flat1_v h1 hc.1, flat1_all hd' hc.2, ?_⟩
      rw [if_pos rfl, in_v h1 hc.1 hd' hc.2]
      exact k _ _ _ (Grow.refl gh) (.bl _)
    · cases ho
  · cases ho
end

/-! ### a < b < c -/
def eChain (f g : D → D → Option D) (fa fb fc : Ef) : Ef := fun e => (fa e).bind fun a e1 => (fb e1).bind fun b e2 => (use2 f a b e2).bind fun k e3 => match rd1 e3 k with
  | some (.bool true) => (fc e3).bind fun c e4 => use2 g b c e4
  | some (.bool false) => .ok (.val (.bool false)) e3
  | _ => .no
section
variable {X : Cx} {Φ : Fx} {W : WX} {a b c : Expr} {fa fb fc : Ef} {f g : D → D → Option D} {pos : Pos} {op op' : CmpOp} {σ : L2.St} {H : Hp} {Q : VK}
theorem use2_val {f : D → D → Option D} {x y : Arg} {e e1 : Fr} {k : Arg} (h : use2 f x y e = .ok k e1) : ∃ d, k = .val d ∧ e1 = e := by
  unfold use2 at h
  split at h
  · split at h
    · split at h
      · cases h
        exact ⟨_, rfl, rfl⟩
      · cases h
    · cases h
  · cases h
theorem eChain_weak (t : tG X.K X.mg Φ W (ra X.K) (eChain f g fa fb fc) σ H Q) : tChain (r2 X.K f) (r2 X.K g) (tG X.K X.mg Φ W (ra X.K) fa) (tG X.K X.mg Φ W (ra X.K) fb) (tG X.K X.mg Φ W (ra X.K) fc) σ H Q := by
  obtain ⟨G, F, e, O, h⟩ := t
  refine ⟨G, F, e, O, Wp.imp (Wp.seq h) fun x H1 ⟨G1, F1, e1, a, g1, O1, r1, h1⟩ => ⟨G1, F1, e1, O1, Wp.imp (Wp.seq h1) fun y H2 ⟨G2, F2, e2, b, g2, O2, r2', h2⟩ => ?_⟩⟩
  refine use2_ok O2 (ra_up r1 g2) r2' (Wp.imp (Wp.seq h2) fun z H3 ⟨G3, F3, e3, k, g3, O3, r3, h3⟩ => ?_)
  split at h3
  · rename_i q
    refine ⟨true, (bp_of O3 r3 q).bool, ?_⟩
    rw [if_pos rfl]
    exact ⟨G3, F3, e3, O3, Wp.imp (Wp.seq h3) fun w H4 ⟨G4, F4, e4, c, g4, O4, r4, h4⟩ => use2_ok O4 (ra_up r2' (g3.trans g4)) r4 h4⟩
  · rename_i q
    refine ⟨false, (bp_of O3 r3 q).bool, ?_⟩
    rw [if_neg Bool.false_ne_true]
    exact h3 _ H3 G3 F3 (Same.refl _) O3 (.bl false)
  · exact h3.elim
theorem d_chain (ho : OpR X (compareOp op) (r2 X.K f)) (ho' : OpR X (compareOp op') (r2 X.K g)) (ha : DE X Φ W a fa) (hb : DE X Φ W b fb) (hc : DE X Φ W c fc) (hm : lastMarks [op, op'] [b, c] = false := by with_unfolding_all rfl) :
    DE X Φ W (.Compare a [op, op'] [b, c] pos) (eChain f g fa fb fc) := pe_weak (pe_chain ho ho' ha hb hc hm) fun _ _ _ t => eChain_weak t
theorem t_chain (ho : OpR X (compareOp op) (r2 X.K f)) (ho' : OpR X (compareOp op') (r2 X.K g)) (ha : DE X Φ W a fa) (hb : DE X Φ W b fb) (hc : DE X Φ W c fc) (hm : lastMarks [op, op'] [b, c] = false := by with_unfolding_all rfl) :
    DT X Φ W (.Compare a [op, op'] [b, c] pos) (tOf (eChain f g fa fb fc)) := pt_weak (pt_chain ho ho' ha hb hc hm) fun _ _ _ t => eChain_weak (tOf_weak t)
end
end DL
set_option Elab.async false
set_option linter.all false
set_option maxRecDepth 100000
set_option maxHeartbeats 4000000
/-! DlW: lists put together, raise, try. -/
namespace DL
open PySem L2

theorem room65 {k : Nat} {A : Around} (r : Room k A) : A.units + 65 < cLine := by
  have := r.un
  omega
/-! ### list + list, both at hand -/
def lsR (r : RV) (e : Fr) : Option (List D) := match r with
  | .new (.ls xs) => some xs
  | .arg (.slot i) => match e[i]? with
    | some (.own (.ls ds)) => some ds
    | some (.io (.ls ds)) => some ds
    | _ => none
  | _ => none
def eCat (fa fb : Rf) : Rf := fun e => (fa e).bind fun r e1 => (fb e1).bind fun s e2 => match lsR r e2 with
  | some xs => match lsR s e2 with
    | some ys => if xs.length + ys.length ≤ 1000000 then .ok (.new (.ls (xs ++ ys))) e2 else .no
    | none => .no
  | none => .no
section
variable {K : PySem.W.Frag} {mg : Str → Option Value} {Φ : Fx} {W : WX} {H G : Hp} {F : Nat → List Addr} {σ : L2.St} {e : Fr}
theorem lsR_ok {r : RV} {v : V} {xs : List D} (O : Ok K Φ H G F σ e) (h : (∃ a, r = .arg a ∧ ra K a v H G F σ e) ∨ ∃ w A a, r = .new w ∧ v = .ref a ∧ OwAt K G H w a A) (q : lsR r e = some xs) : ∃ l vs, v = .ref l ∧ H l = some (.lst vs) ∧ DpAll K G vs xs := by
  rcases h with ⟨a, rfl, h⟩ | ⟨w, A, a, rfl, rfl, h⟩
  · cases a with
    | val d => cases q
    | slot i =>
      have at_ : ∀ {a : Addr}, σ[i]? = some (some (.ref a)) → v = .ref a := fun {a} z => by
        have z2 : σ[i]? = some (some v) := h
        rw [z] at z2
        exact (Option.some.inj (Option.some.inj z2)).symm
      have q' : (match e[i]? with
        | some (.own (.ls ds)) => some ds
        | some (.io (.ls ds)) => some ds
        | _ => none) = some xs := q
      split at q'
      · rename_i ds hi
        cases q'
        obtain ⟨a, e1, o, _⟩ := O.slots i _ hi
        generalize F i = A at o
        cases o with
        | ls h1 h2 => exact ⟨a, _, at_ e1, h1, h2⟩
      · rename_i ds hi
        cases q'
        obtain ⟨a, e1, o, _⟩ := O.slots i _ hi
        generalize F i = A at o
        cases o with
        | ls h1 h2 => exact ⟨a, _, at_ e1, h1, h2⟩
      · cases q'
  · cases h with
    | ls h1 h2 =>
      cases q
      exact ⟨a, _, rfl, h1, h2⟩
    | ll _ _ _ _ => cases q
theorem Wp.seqP {α β γ δ : Type} {Φ1 : Fx} {ρ : Rel α β} {ρ' : Rel γ δ} {q : R α} {f : α → Fr → R γ} {Q : δ → Hp → Prop} (cv : ∀ {H' G' : Hp} {F' : Nat → List Addr} {e' : Fr}, Ok K Φ1 H' G' F' σ e' → Ok K Φ H' G' F' σ e') (h : Wp K mg Φ W σ ρ' G (q.bind f) Q) :
    Wp K mg Φ1 W σ ρ G q (fun v H1 => ∃ G1 F1 e1 a, Same G G1 ∧ Ok K Φ1 H1 G1 F1 σ e1 ∧ ρ a v H1 G1 F1 σ e1 ∧ Wp K mg Φ W σ ρ' G1 (f a e1) Q) := by
  cases q with
  | no => exact h
  | ok a e => exact fun v H' G2 F' s o p => ⟨G2, F', e, a, s, o, p, Wp.up h s⟩
  | ex x e => exact fun c d H' G2 F' s o p => h c d H' G2 F' s (cv o) p
end
section
variable {X : Cx} {Φ : Fx} {W : WX} {x y : Expr} {fa fb : Rf} {pos : Pos}
theorem d_cat (ha : DR X Φ W x fa) (hb : ∀ Φ, DR X Φ W y fb) : DR X Φ W (.BinOp x .Add y pos) (eCat fa fb) :=
  pe_weak (pe_op op_cat ha (pe_ex hb)) fun σ H Q ⟨G, F, e, O, h⟩ => ⟨G, F, e, O, Wp.imp (Wp.seq h) fun v H1 ⟨G1, F1, e1, r1, g1, O1, q1, h1⟩ => by
    obtain ⟨A1, L1, P1⟩ := Held.mk' O1 q1
    refine ⟨_, G1, F1, e1, P1, Wp.imp (Wp.seqP (fun o => L1.cv o) h1) fun w H2 ⟨G2, F2, e2, r2, g2, O2, q2, h2⟩ => ?_⟩
    have O3 := L1.cv O2
    have k1 : (∃ a, r1 = .arg a ∧ ra X.K a v H2 G2 F2 σ e2) ∨ ∃ w A a, r1 = .new w ∧ v = .ref a ∧ OwAt X.K G2 H2 w a A := by
      cases r1 with
      | arg a => exact .inl ⟨a, rfl, ra_up (L1.ar a rfl) g2⟩
      | new u =>
        obtain ⟨A, _, y1⟩ := L1.rx O2 g2 (Same.refl _) (.inr ⟨u, rfl, rfl⟩)
        obtain ⟨a, ea, oa, _⟩ := y1
        exact .inr ⟨u, A, a, rfl, ea, oa⟩
    have k2 : (∃ a, r2 = .arg a ∧ ra X.K a w H2 G2 F2 σ e2) ∨ ∃ u A a, r2 = .new u ∧ w = .ref a ∧ OwAt X.K G2 H2 u a A := by
      cases r2 with
      | arg a => exact .inl ⟨a, rfl, q2⟩
      | new u =>
        obtain ⟨a, A, ea, oa, _⟩ := q2
        exact .inr ⟨u, A, a, rfl, ea, oa⟩
    split at h2
    · rename_i xs z1
      split at h2
      · rename_i ys z2
        split at h2
        · rename_i hl
          obtain ⟨l, vs, rfl, hH, d1⟩ := lsR_ok O3 k1 z1
          obtain ⟨b, ws, rfl, hB, d2⟩ := lsR_ok O3 k2 z2
          refine ⟨l, b, vs, ws, rfl, rfl, hH, hB, by rw [DpAll.len d1, DpAll.len d2]; exact Nat.le_trans hl (by decide), fun p hp => ?_⟩
          obtain ⟨z1, z2⟩ := rr_new O3 hp (DL.DpAll.app d1 d2)
          exact h2 _ _ _ F2 (Same.refl _) z1 z2
        · exact h2.elim
      · exact h2.elim
    · exact h2.elim⟩
end

/-! ### raise of an own class without fields -/
theorem pmk_own0 {X : Cx} {C : Addr} {bmB : List Value} {B newId initId : String} {x : Str} {p pos : Pos} (F : ExcBaseFacts B newId initId bmB) (q : PySem.W.excIn X.K C bmB newId = true) (gC : X.mg x = some (.ref C))
    (kC : PySem.W.keepIn X.K (.ref C) = true) (r : Raises X (.ref C)) (hg : Gl X x) (hdb : (x == ("__debug__" : Str)) = false := by decide) :
    PMk X (.Call (.Name x p) [] [] pos) (fun _ H Q => Q (.ref C) none H) := by
  intro pins s σ H Q I h
  refine wpAny_Call_Name_kw (ld_glob I hg gC ?_ hdb)
  refine PySem.W.callWith_K0 I.kIn kC ?_
  obtain ⟨bm, N, nm, qn, bs, hdct, sn, sub, ab, col, dd, k0, k1, k2, k3, k5, mN, hC, hN, hni, T⟩ := exc_obj I.kIn q
  refine wpAny_call_exc_subT F T hC hN hni (fun h' e hm => ?_) (Nat.zero_le _)
  exact mk_of I hm r h (I.hok.gone hm.new)
def sRaise (x : Exn) : Sf := fun e => .ex x e
section
variable {X : Cx} {Φ : Fx} {W : WX}
theorem s_raise0 {C : Addr} {bmB : List Value} {B newId initId : String} {x : Str} {p pos pos' : Pos} (F : ExcBaseFacts B newId initId bmB) (hc : X.calm = true) (tk : Takes X W) (gC : X.mg x = some (.ref C)) (q : PySem.W.excIn X.K C bmB newId = true)
    (kC : PySem.W.keepIn X.K (.ref C) = true) (h1 : PySem.W.subIn X.K (.ref C) (.type "BaseException") = some true) (h2 : PySem.W.typeIn X.K (.ref C) = some (.type "type")) (hg : Gl X x := by rfl) (hdb : (x == ("__debug__" : Str)) = false := by decide) :
    DS X Φ W (.Raise (some (.Call (.Name x p) [] [] pos)) none pos') (sRaise ⟨x, []⟩) :=
  ps_weak (ps_raise hc tk (pmk_own0 F q gC kC (raises_own h1 h2) hg hdb)) fun Dn σ H ⟨G, F, e, O, h⟩ => h _ none σ H G F (Same.refl _) O ⟨gC, .inl ⟨rfl, rfl⟩⟩
end

/-! ### try -/
abbrev Hdl := (Str → Option Bool) × Sf
def handle : List Hdl → Exn → Fr → R Fl
  | [], x, e => .ex x e
  | (mt, g) :: r, x, e => match mt x.cls with
    | some true => g e
    | some false => handle r x e
    | none => .no
def sTry (f : Sf) (l : List Hdl) : Sf := fun e => match f e with
  | .ex x e1 => handle l x e1
  | r => r
inductive DH (X : Cx) (Φ : Fx) (W : WX) : List ExceptHandler → List Hdl → Prop
  | nil : DH X Φ W [] []
  | cons {x : Str} {c : Value} {mt : Str → Option Bool} {g : Sf} {b₀ : Stmt} {suite : List Stmt} {np pos' : Pos} {hds : List ExceptHandler} {l : List Hdl} (hc : Names X x c) (hm : ∀ y b d, mt y = some b → X.mg y = some d → PySem.W.exmOne X.K d c = some b)
      (hsu : ∀ (a : Addr) (oe : Obj) (pn : List (Addr × Obj)), DSs (X.suite a ((a, oe) :: pn)) Φ W (b₀ :: suite) g) (r : DH X Φ W hds l) :
      DH X Φ W (.ExceptHandler (some (.Name x np)) none (b₀ :: suite) pos' :: hds) ((mt, g) :: l)
theorem dh_ok {X : Cx} {Φ : Fx} {W : WX} {hds : List ExceptHandler} {l : List Hdl} (h : DH X Φ W hds l) : ∃ l', HdsOk X hds l' ∧ ∀ (Dn : Ends) (x : Exn) (e1 : Fr) (G : Hp) (c : Value) (d : Option Addr) (σ' : L2.St) (H' G' : Hp) (F' : Nat → List Addr),
    WS X.K X.mg Φ W G (handle l x e1) Dn → Same G G' → Ok X.K Φ H' G' F' σ' e1 → ExOk X.mg X.K G' H' x c d → wMany X.K W Dn l' c d σ' H' := by
  induction h with
  | nil => exact ⟨[], .nil, fun Dn x e1 G c d σ' H' G' F' h s o p => h c d σ' H' G' F' s o p⟩
  | @cons x c mt g b₀ suite np pos' hds l hc hm hsu r ih =>
    obtain ⟨l', h1, h2⟩ := ih
    refine ⟨(c, fun _ _ _ => tS X.K X.mg Φ W g) :: l', .cons hc (fun a oe cls d pn _ _ => hsu a oe pn) h1, fun Dn y e1 G cls d σ' H' G' F' h s o p => ?_⟩
    unfold handle at h
    split at h
    · rename_i q
      exact ⟨true, hm _ _ _ q p.1, (fun _ a _ => ⟨G', F', e1, o, WS.up h s⟩), (fun z => Bool.noConfusion z)⟩
    · rename_i q
      exact ⟨false, hm _ _ _ q p.1, (fun z => Bool.noConfusion z), (fun _ => h2 Dn y e1 G cls d σ' H' G' F' h s o p)⟩
    · exact h.elim
section
variable {X : Cx} {Φ : Fx} {W : WX} {body : List Stmt} {h₀ : ExceptHandler} {hds : List ExceptHandler} {l : List Hdl} {pos : Pos} {f : Sf}
theorem s_try (tk : Takes X W) (hb : ∀ (W' : WX) (pn : List (Addr × Obj)) (xe : Value → Shared → Prop), Takes (X.tr pn xe) W' → PassesOwn (model X.prog X.w) X.A X.env xe → DSs (X.tr pn xe) Φ W' body f)
    (hh : DH X Φ W (h₀ :: hds) l) (hs : X.stack = X.env :: X.outer := by rfl) (hf : X.env.frame = some X.env.locals := by rfl) : DS X Φ W (.Try body (h₀ :: hds) [] [] pos) (sTry f l) := by
  obtain ⟨l', h1, h2⟩ := dh_ok hh
  refine ps_weak (ps_try_many (tb := fun W' => tS X.K X.mg Φ W' f) hs hf tk hb h1) fun Dn σ H ⟨G, F, e, O, h⟩ => ⟨G, F, e, O, ?_⟩
  unfold sTry at h
  cases q : f e with
  | no =>
    rw [q] at h
    exact h
  | ok fl e1 =>
    rw [q] at h
    exact h
  | ex x e1 =>
    rw [q] at h
    exact fun c d σ' H' G' F' s o p => h2 Dn x e1 G c d σ' H' G' F' h s o p
end
end DL
set_option Elab.async false
set_option linter.all false
set_option maxRecDepth 100000
set_option maxHeartbeats 4000000
/-! DlX: raise of own errors with a field, except .. as n: the held error's fields, isinstance. -/
namespace DL
open PySem L2

/-! ### facts of an own error class, told by a look at the written part -/
def oexB (K : PySem.W.Frag) (C : Addr) : Bool := match K.lookup C with
  | some ⟨.type "type", _, .cls cd, sl⟩ => (match cd.mro, sl.toList with
    | .ref C' :: bm, [_, _, _, _, some (.builtin n), _] => C' == C && (n == "ValueError.__new__" && (!cd.hasDel && (cd.hasDict && PySem.HandSPX.refsVE bm)))
    | _, _ => false)
  | _ => false
def oexAll (K : PySem.W.Frag) (C fI : Addr) (f : Str) : Bool := oexB K C && (decide (PySem.W.findIn K (.ref C) "__setattr__" = some (some (.builtin "object.__setattr__"))) && (decide (PySem.W.subIn K (.ref C) (.type "BaseException") = some true) &&
  (decide (PySem.W.typeIn K (.ref C) = some (.type "type")) && (PySem.W.keepIn K (.ref C) && (decide (PySem.W.findIn K (.ref C) f = some none) && (decide (PySem.W.findIn K (.ref C) "__init__" = some (some (.ref fI))) && decide (PySem.W.typeIn K (.ref fI) = some (.type "function"))))))))
structure OexF (K : PySem.W.Frag) (C fI : Addr) (f : Str) : Prop where
  ox : OexC K C
  no : PySem.W.findIn K (.ref C) f = some none
  iC : PySem.W.findIn K (.ref C) "__init__" = some (some (.ref fI))
  tI : PySem.W.typeIn K (.ref fI) = some (.type "function")
theorem oex_cls {K : PySem.W.Frag} {C : Addr} (h : oexB K C = true) : ∃ nm q N bs bm sn sub ab col dd k0 k1 k2 k3 k5, K.lookup C = some (excClassObj nm q C N bs bm true sn sub ab col dd k0 k1 k2 k3 k5 "ValueError.__new__") ∧ PySem.HandSPX.refsVE bm = true := by
  unfold oexB at h
  split at h
  · rename_i dd cd sl ho
    split at h
    · rename_i C' bm k0 k1 k2 k3 n k5 hm hs
      simp only [Bool.and_eq_true, beq_iff_eq, Bool.not_eq_true'] at h
      obtain ⟨rfl, rfl, hdel, hd, hr⟩ := h
      obtain ⟨nm, bs, mro, ns, qn, hdct, sn, sub, ab, col, del⟩ := cd
      dsimp only at hm hdel hd
      subst hm hdel hd
      have hsl : sl = #[k0, k1, k2, k3, some (.builtin "ValueError.__new__"), k5] := by
        obtain ⟨l⟩ := sl
        simp only at hs
        rw [hs]
      subst hsl
      exact ⟨nm, qn, ns, bs, bm, sn, sub, ab, col, dd, k0, k1, k2, k3, k5, ho, hr⟩
    · cases h
  · cases h
theorem oex_ok {K : PySem.W.Frag} {C fI : Addr} {f : Str} (h : oexAll K C fI f = true) : OexF K C fI f := by
  unfold oexAll at h
  simp only [Bool.and_eq_true, decide_eq_true_eq] at h
  obtain ⟨h1, h2, h3, h4, h5, h6, h7, h8⟩ := h
  exact ⟨⟨oex_cls h1, h2, h3, h4, h5⟩, h6, h7, h8⟩

/-! ### __init__(self, value): self.value = value -/
def spI (K : PySem.W.Frag) (f : Str) : Sp := fun vs H Q _ => ∃ (a C : Addr) (v : V), vs = [.ref a, v] ∧ OexC K C ∧ PySem.W.findIn K (.ref C) f = some none ∧ H a = some (exo a C none) ∧
  ∀ dx, H dx = none → dx ≠ a → Q .non (upd (upd H dx (exd dx [(f, v)])) a (exo a C (some dx)))
section
variable {P : Program} {w : World} {K : PySem.W.Frag} {mg : Str → Option Value} {base : Heap} {x qual : Str} {params : Arguments} {body : List Stmt} {scope : Scope} {dvs : List V} {kws : List (Str × V)} {f : Addr} {fd : FuncData}
theorem init_ok {n m fl : Str} {p1 p2 p3 p4 : Pos} (D : FunD K x qual params body scope dvs kws f fd) (S : FnScope [n, m] [n, m] scope) (hb : body = [.Assign [.Attribute (.Name n p1) fl p2] (.Name m p3) p4])
    (hv1 : Vis scope n := by first | exact Or.inl rfl | exact Or.inr (Or.inl rfl) | exact Or.inr (Or.inr rfl)) (hv2 : Vis scope m := by first | exact Or.inl rfl | exact Or.inr (Or.inl rfl) | exact Or.inr (Or.inr rfl))
    (hd1 : (n == ("__debug__" : Str)) = false := by decide) (hc1 : (n == ("__classdict__" : Str)) = false := by decide) (hd2 : (m == ("__debug__" : Str)) = false := by decide) (hc2 : (m == ("__classdict__" : Str)) = false := by decide)
    (hs : ∀ (cdv : Value) (L : Addr), swapsWith (.Name m p3) (some (.Attribute (.Name n p1) fl p2)) p4.line (PyProof.Rows.envOfC qual scope L f cdv) = pure false := by intros; rfl) :
    FnOk P w K mg base CX0 1 f fd [n, m] (spI K fl) := by
  subst hb
  refine D.ok (k := 0) S (fun vs H Q E ⟨a, C, v, e, _⟩ => by rw [e]; rfl) fun cdv A outer s H vs Q E hr hsp => ?_
  obtain ⟨a, C, v, rfl, ox, no, hH, hQ⟩ := hsp
  refine ⟨_, pss_one (ps_ost (pv 0 rfl hv1 hd1 hc1) (pv 1 rfl hv2 hd2 hc2) (hs _ _)), ?_⟩
  exact ⟨v, rfl, .ref a, rfl, a, C, rfl, ox, no, .inl ⟨hH, fun dx h1 h2 => hQ dx h1 h2⟩⟩
end

/-! ### raise C(e) -/
def argD (a : Arg) (e : Fr) : Option D := match a with
  | .val d => some d
  | .slot i => match e[i]? with
    | some (.sh d) => some d
    | _ => none
def sRaise1 (x fl : Str) (fa : Ef) : Sf := fun e => (fa e).bind fun a e1 => match argD a e1 with
  | some d => .ex ⟨x, [(fl, d)]⟩ e1
  | none => .no
theorem argD_dp {K : PySem.W.Frag} {Φ : Fx} {H G : Hp} {F : Nat → List Addr} {σ : L2.St} {e : Fr} {a : Arg} {v : V} {d : D} (O : Ok K Φ H G F σ e) (r : ra K a v H G F σ e) (q : argD a e = some d) : Dp K G v d := by
  cases a with
  | val d' =>
    cases q
    exact r
  | slot i =>
    have q' : (match e[i]? with
      | some (.sh d) => some d
      | _ => none) = some d := q
    split at q'
    · rename_i d' hi
      cases q'
      obtain ⟨v', h1, h2⟩ := O.slots i _ hi
      have r' : σ[i]? = some (some v) := r
      rw [h1] at r'
      cases r'
      exact h2
    · cases q'
/-- a fresh object that no slot has, and nothing else, is laid -/
theorem Ok.laid {K : PySem.W.Frag} {Φ : Fx} {H G : Hp} {F : Nat → List Addr} {σ : L2.St} {e : Fr} (O : Ok K Φ H G F σ e) {p : Addr} {o : HO} (hp : H p = none) : Ok K Φ (upd H p o) G F σ e := O.grow (Grow.own O.gh hp)
section
variable {X : Cx} {Φ : Fx} {W : WX}
theorem s_raise1 {C fI : Addr} {x fl : Str} {p pos pos' : Pos} {a : Expr} {fa : Ef} {fd : FuncData} {ps : List Str} (T : OexF X.K C fI fl) (F1 : FnOk X.prog X.w X.K X.mg X.base CX0 1 fI fd ps (spI X.K fl)) (hr : Room 2 X.A) (hb : Binds X.K fd ps []) (hc : X.calm = true) (tk : Takes X W) (gC : X.mg x = some (.ref C)) (ha : DE X Φ W a fa) (hg : Gl X x := by rfl) (hdb : (x == ("__debug__" : Str)) = false := by decide)
    (he : starEach (a :: []) X.env = (false, eval a X.env) :: starEach [] X.env := by rfl) (hpl : (backTo pos (starEach [] X.env)).any (·.1) = false := by rfl) :
    DS X Φ W (.Raise (some (.Call (.Name x p) [a] [] pos)) none pos') (sRaise1 x fl fa) :=
  ps_weak (ps_raise hc tk (pmk_oex T.ox T.iC T.tI F1 hr hb (.nil : Vals [] []) pass0 hg gC (pa_cons ha pa_nil he) hdb he hpl)) fun Dn σ H ⟨G, F, e, O, h⟩ => by
    refine ⟨G, F, e, O, Wp.imp (WS.seq (σ := σ) h) fun v H1 ⟨G1, F1, e1, r, g1, O1, r1, h1⟩ => ?_⟩
    split at h1
    · rename_i d q
      have dp := argD_dp O1 r1 q
      refine ⟨by show 1 ≤ 1000; decide, fun b hb => ⟨b, C, v, rfl, T.ox, T.no, upd_same, fun dx h2 h3 => ⟨rfl, dx, [(fl, v)], upd_same, ?_, ?_, ?_⟩⟩⟩
      · rw [upd_ne h3, upd_same]
      · rw [upd_ne h3] at h2
        exact h2
      · have hdx : H1 dx = none := by
          rw [upd_ne h3] at h2
          exact h2
        have e2 : upd (del (upd (upd (upd H1 b (exo b C none)) dx (exd dx [(fl, v)])) b (exo b C (some dx))) b) dx (.xd [(fl, v)]) = upd H1 dx (.xd [(fl, v)]) := by
          funext c
          by_cases c1 : c = dx
          · rw [c1, upd_same, upd_same]
          · rw [upd_ne c1, upd_ne c1]
            by_cases c2 : c = b
            · rw [c2, del_same, hb]
            · rw [del_ne c2, upd_ne c2, upd_ne c1, upd_ne c2]
        rw [e2]
        exact h1 _ (some dx) σ _ _ _ (Same.refl _) (O1.grow (Grow.own O1.gh hdx)) ⟨gC, .inr ⟨dx, [(fl, v)], rfl, upd_same, .cons ⟨rfl, dp⟩ .nil⟩⟩
    · exact h1.elim
end
end DL
set_option Elab.async false
set_option linter.all false
set_option maxRecDepth 100000
set_option maxHeartbeats 4000000
/-! DlX2: except .. as n. -/
namespace DL
open PySem L2

/-! ### the suite's own view: the held error's dict and the frozen part stand -/
/-- what stands while the suite runs: the frozen part, the held error's dict at dx -/
def Fx.suit (Φ : Fx) (H G : Hp) (dx : Option Addr) (i : Nat) (a : Addr) : Fx :=
  ⟨fun b => if G b ≠ none ∨ dx = some b then H b else Φ.H_0 b, fun b => if G b ≠ none ∨ dx = some b then G b else (match Φ.H_0 b with | none => none | some _ => Φ.G_0 b), fun j => (Φ.io j).filter fun b => decide (¬ (G b ≠ none ∨ dx = some b)), fun j => if j = i then a else Φ.at_ j⟩
section
variable {K : PySem.W.Frag} {Φ : Fx} {H G H' G' : Hp} {F F' : Nat → List Addr} {σ σ' : L2.St} {e e' : Fr} {dx : Option Addr} {i : Nat} {a : Addr}
theorem ow_lst {w : Ow} {p b : Addr} {A : List Addr} (h : OwAt K G H w p A) (hb : b ∈ A) : ∃ vs, H b = some (.lst vs) := by
  obtain ⟨vs, q⟩ := h.there b hb
  exact ⟨vs, q⟩
theorem Ok.suit (O : Ok K Φ H G F σ e) (hd : ∀ b, dx = some b → ∃ fs, H b = some (.xd fs)) : Ok K (Φ.suit H G dx i a) H G F (σ.set i (some (.ref a))) (e.set i .xn) where
  gh := O.gh
  len := by rw [List.length_set, List.length_set]; exact O.len
  slots := fun j s q => by
    by_cases hj : i = j
    · subst hj
      have hl : i < e.length := by
        have := (List.getElem?_eq_some_iff.mp q).1
        rw [List.length_set] at this
        exact this
      rw [List.getElem?_set_self hl] at q
      cases q
      show (σ.set i (some (.ref a)))[i]? = some (some (.ref (if i = i then a else Φ.at_ i)))
      rw [List.getElem?_set_self (by rw [← O.len]; exact hl), if_pos rfl]
    · rw [List.getElem?_set_ne hj] at q
      rw [List.getElem?_set_ne hj]
      have old := O.slots j s q
      have at_ : (if j = i then a else Φ.at_ j) = Φ.at_ j := if_neg (Ne.symm hj)
      have out : ∀ {w : Ow} {p b : Addr} {A : List Addr}, OwAt K G H w p A → b ∈ A → G b = none → ¬ (G b ≠ none ∨ dx = some b) := fun ho hb n z => by
        rcases z with z | z
        · exact z n
        · obtain ⟨vs, q1⟩ := ow_lst ho hb
          obtain ⟨fs, q2⟩ := hd _ z
          rw [q1] at q2
          cases q2
      cases s with
      | un => trivial
      | xn =>
        show σ[j]? = some (some (.ref (if j = i then a else Φ.at_ j)))
        rw [at_]
        exact old
      | sh d => exact old
      | own w =>
        obtain ⟨p, e1, h1, h2⟩ := old
        refine ⟨p, e1, h1, fun b hb => ⟨(h2 b hb).1, ?_⟩⟩
        show (if G b ≠ none ∨ dx = some b then H b else Φ.H_0 b) = none
        rw [if_neg (out h1 hb (h2 b hb).1)]
        exact (h2 b hb).2
      | io w =>
        obtain ⟨p, e1, h1, h2⟩ := old
        refine ⟨p, e1, h1, fun b hb => ⟨(h2 b hb).1, ?_, (h2 b hb).2.2.trans at_.symm⟩⟩
        have nA := out h1 hb (h2 b hb).1
        rcases (h2 b hb).2.1 with z | z
        · exact .inl (List.mem_filter.mpr ⟨z, decide_eq_true nA⟩)
        · refine .inr ?_
          show (if G b ≠ none ∨ dx = some b then H b else Φ.H_0 b) = none
          rw [if_neg nA]
          exact z
  sep := fun j k s t hjk q1 q2 o1 o2 => by
    have back : ∀ {j : Nat} {s : Sl}, (e.set i .xn)[j]? = some s → s.owned = true → e[j]? = some s := fun {j s} q o => by
      by_cases hj : i = j
      · subst hj
        have hl : i < e.length := by
          have := (List.getElem?_eq_some_iff.mp q).1
          rw [List.length_set] at this
          exact this
        rw [List.getElem?_set_self hl] at q
        cases q
        cases o
      · rw [List.getElem?_set_ne hj] at q
        exact q
    exact O.sep j k s t hjk (back q1 o1) (back q2 o2) o1 o2
  f0 := fun b hb => by
    have hb' : (if G b ≠ none ∨ dx = some b then H b else Φ.H_0 b) ≠ none := hb
    split at hb'
    · exact hb'
    · exact O.f0 b hb'
  f1 := fun b o q m => by
    have q' : (if G b ≠ none ∨ dx = some b then H b else Φ.H_0 b) = some o := q
    split at q'
    · exact q'
    · rename_i z
      exact O.f1 b o q' fun j y => m j (List.mem_filter.mpr ⟨y, decide_eq_true z⟩)
  f2 := fun b hb => by
    have hb' : (if G b ≠ none ∨ dx = some b then H b else Φ.H_0 b) ≠ none := hb
    show G b = if G b ≠ none ∨ dx = some b then G b else (match Φ.H_0 b with | none => none | some _ => Φ.G_0 b)
    by_cases z : G b ≠ none ∨ dx = some b
    · rw [if_pos z]
    · rw [if_neg z] at hb' ⊢
      rw [O.f2 b hb']
      split
      · rename_i z2
        exact absurd z2 hb'
      · rfl
/-- behind the suite -/
theorem suit_none {b : Addr} (O : Ok K Φ H G F σ e) (h : (Φ.suit H G dx i a).H_0 b = none) : Φ.H_0 b = none := by
  have h' : (if G b ≠ none ∨ dx = some b then H b else Φ.H_0 b) = none := h
  split at h'
  · cases q : Φ.H_0 b with
    | none => rfl
    | some o => exact absurd h' (O.f0 b (by rw [q]; exact fun z => nomatch z))
  · exact h'
theorem Ok.unsuit (O : Ok K Φ H G F σ e) (O' : Ok K (Φ.suit H G dx i a) H' G' F' σ' e') : Ok K Φ H' G' F' (σ'.set i none) (e'.set i .un) where
  gh := O'.gh
  len := by rw [List.length_set, List.length_set]; exact O'.len
  slots := fun j s q => by
    by_cases hj : i = j
    · subst hj
      have hl : i < e'.length := by
        have := (List.getElem?_eq_some_iff.mp q).1
        rw [List.length_set] at this
        exact this
      rw [List.getElem?_set_self hl] at q
      cases q
      trivial
    · rw [List.getElem?_set_ne hj] at q
      rw [List.getElem?_set_ne hj]
      have old := O'.slots j s q
      have at_ : (if j = i then a else Φ.at_ j) = Φ.at_ j := if_neg (Ne.symm hj)
      cases s with
      | un => trivial
      | xn =>
        have old' : σ'[j]? = some (some (.ref (if j = i then a else Φ.at_ j))) := old
        rw [at_] at old'
        exact old'
      | sh d => exact old
      | own w =>
        obtain ⟨p, e1, h1, h2⟩ := old
        exact ⟨p, e1, h1, fun b hb => ⟨(h2 b hb).1, suit_none O (h2 b hb).2⟩⟩
      | io w =>
        obtain ⟨p, e1, h1, h2⟩ := old
        exact ⟨p, e1, h1, fun b hb => ⟨(h2 b hb).1, (h2 b hb).2.1.elim (fun z => .inl (List.mem_filter.mp z).1) (fun z => .inr (suit_none O z)), (h2 b hb).2.2.trans at_⟩⟩
  sep := fun j k s t hjk q1 q2 o1 o2 => by
    have back : ∀ {j : Nat} {s : Sl}, (e'.set i .un)[j]? = some s → s.owned = true → e'[j]? = some s := fun {j s} q o => by
      by_cases hj : i = j
      · subst hj
        have hl : i < e'.length := by
          have := (List.getElem?_eq_some_iff.mp q).1
          rw [List.length_set] at this
          exact this
        rw [List.getElem?_set_self hl] at q
        cases q
        cases o
      · rw [List.getElem?_set_ne hj] at q
        exact q
    exact O'.sep j k s t hjk (back q1 o1) (back q2 o2) o1 o2
  f0 := fun b hb => O'.f0 b fun z => hb (suit_none O z)
  f1 := fun b o q m => by
    have hH : H b = some o := O.f1 b o q m
    refine O'.f1 b o ?_ fun j z => m j (List.mem_filter.mp z).1
    show (if G b ≠ none ∨ dx = some b then H b else Φ.H_0 b) = some o
    split
    · exact hH
    · exact q
  f2 := fun b hb => by
    have := O'.f2 b fun z => hb (suit_none O z)
    rw [this]
    show (if G b ≠ none ∨ dx = some b then G b else (match Φ.H_0 b with | none => none | some _ => Φ.G_0 b)) = Φ.G_0 b
    split
    · exact O.f2 b hb
    · split
      · rename_i z
        exact absurd z hb
      · rfl
end
end DL
set_option Elab.async false
set_option linter.all false
set_option maxRecDepth 100000
set_option maxHeartbeats 4000000
/-! DlX3: except .. as n: the statement; the held error's fields; isinstance of it. -/
namespace DL
open PySem L2
/-- the suite's view of the held error x (at a, its class cls, its dict d) -/
structure SuOk (X : Cx) (Φ : Fx) (mt : Str → Option Bool) (i : Nat) (a : Addr) (cls : Value) (d : Option Addr) (x : Exn) : Prop where
  at_ : Φ.at_ i = a
  mt : mt x.cls = some true
  mg : X.mg x.cls = some cls
  fl : (x.flds = [] ∧ d = none) ∨ ∃ dx fs, d = some dx ∧ Φ.H_0 dx = some (.xd fs) ∧ (∀ j, dx ∉ Φ.io j) ∧ Paired (fun (p : Str × V) (q : Str × D) => p.1 = q.1 ∧ Dp X.K Φ.G_0 p.2 q.2) fs x.flds
  gg : ∀ b, Φ.G_0 b ≠ none → Φ.H_0 b ≠ none
def unX (i : Nat) : R Fl → R Fl
  | .ok fl e => .ok fl (e.set i .un)
  | _ => .no
def sTryAs (f : Sf) (i : Nat) (mt : Str → Option Bool) (g : Exn → Sf) : Sf := fun e => match f e with
  | .ex x e1 => match mt x.cls with
    | some true => unX i (g x (e1.set i .xn))
    | some false => .ex x e1
    | none => .no
  | r => r
/-- a def's promise may be told by the suite's view: the old data stand -/
theorem dp_suit {K : PySem.W.Frag} {Φ : Fx} {H G : Hp} {F : Nat → List Addr} {σ : L2.St} {e : Fr} {v : V} {d : D} (O : Ok K Φ H G F σ e) (gg : ∀ b, Φ.G_0 b ≠ none → Φ.H_0 b ≠ none) (h : Dp K Φ.G_0 v d) : Dp K G v d :=
  dp_mono (fun b o q => by
    have n : Φ.G_0 b ≠ none := by rw [q]; exact fun z => nomatch z
    rw [O.f2 b (gg b n)]
    exact q) _ _ h
section
variable {X : Cx} {Φ : Fx} {W : WX} {body suite : List Stmt} {b₀ : Stmt} {x n : Str} {c : Value} {np pos pos' : Pos} {f : Sf} {g : Exn → Sf} {mt : Str → Option Bool} {i : Nat}
theorem s_tryAs (i : Nat) (hN : X.N.Nodup) (hi : X.N[i]? = some n) (hln : X.env.kindOf n = some .local) (tk : Takes X W) (hc : Names X x c) (hm : ∀ y b d, mt y = some b → X.mg y = some d → PySem.W.exmOne X.K d c = some b)
    (hb : ∀ (W' : WX) (pn : List (Addr × Obj)) (xe : Value → Shared → Prop), Takes (X.tr pn xe) W' → PassesOwn (model X.prog X.w) X.A X.env xe → DSs (X.tr pn xe) Φ W' body f)
    (hsu : ∀ (a : Addr) (oe : Obj) (cls : Value) (d : Option Addr) (pn : List (Addr × Obj)) (x : Exn) (Φ' : Fx), Zc cls d oe → (∃ vs, oe.data = .fields vs) → SuOk X Φ' mt i a cls d x → DSs (X.suite a ((a, oe) :: pn)) Φ' W (b₀ :: suite) (g x))
    (hs : X.stack = X.env :: X.outer := by rfl) (hf : X.env.frame = some X.env.locals := by rfl) : DS X Φ W (.Try body [.ExceptHandler (some (.Name x np)) (some n) (b₀ :: suite) pos'] [] [] pos) (sTryAs f i mt g) := by
  refine ps_weak (ps_try_as (i := i) (tb := fun W' => tS X.K X.mg Φ W' f) (ts := fun a cls d Dn σ H => ∃ (x : Exn) (Φ' : Fx), SuOk X Φ' mt i a cls d x ∧ tS X.K X.mg Φ' W (g x) Dn σ H) hs hf hN hi hln hc tk hb
    (fun a oe cls d pn hz hf' => ⟨fun pins s σ H Dn I ⟨x, Φ', su, h⟩ => (hsu a oe cls d pn x Φ' hz hf' su).run pins s σ H Dn I h⟩)) fun Dn σ H ⟨G, F, e, O, h⟩ => ⟨G, F, e, O, ?_⟩
  unfold sTryAs at h
  cases q : f e with
  | no =>
    rw [q] at h
    exact h
  | ok fl e1 =>
    rw [q] at h
    exact h
  | ex x e1 =>
    rw [q] at h
    have h' : WS X.K X.mg Φ W G (match mt x.cls with
      | some true => unX i (g x (e1.set i .xn))
      | some false => .ex x e1
      | none => .no) Dn := h
    intro cls d σ' H' G' F' s' o p
    split at h'
    · rename_i hmt
      refine ⟨true, hm _ _ _ hmt p.1, fun _ a na => ?_, fun z => Bool.noConfusion z⟩
      have hd : ∀ b, d = some b → ∃ fs, H' b = some (.xd fs) := fun b z => by
        rcases p.2 with ⟨_, z2⟩ | ⟨dx, fs, z2, z3, _⟩
        · rw [z2] at z
          cases z
        · rw [z2] at z
          cases z
          exact ⟨fs, z3⟩
      refine ⟨x, Φ.suit H' G' d i a, ⟨if_pos rfl, hmt, p.1, ?_, fun b hb => ?_⟩, G', F', e1.set i .xn, o.suit hd, ?_⟩
      · rcases p.2 with z | ⟨dx, fs, z2, z3, z4⟩
        · exact .inl z
        · refine .inr ⟨dx, fs, z2, ?_, fun j z => ?_, ?_⟩
          · show (if G' dx ≠ none ∨ d = some dx then H' dx else Φ.H_0 dx) = _
            rw [if_pos (.inr z2)]
            exact z3
          · exact of_decide_eq_true (List.mem_filter.mp z).2 (.inr z2)
          · have sg : Same G' (Φ.suit H' G' d i a).G_0 := fun b u q => by
              show (if G' b ≠ none ∨ d = some b then G' b else (match Φ.H_0 b with | none => none | some _ => Φ.G_0 b)) = _
              rw [if_pos (.inl (by rw [q]; exact fun z => nomatch z))]
              exact q
            exact L2.Paired.mapP z4 fun p q ⟨h1, h2⟩ => ⟨h1, dp_mono sg _ _ h2⟩
      · have hb' : (if G' b ≠ none ∨ d = some b then G' b else (match Φ.H_0 b with | none => none | some _ => Φ.G_0 b)) ≠ none := hb
        show (if G' b ≠ none ∨ d = some b then H' b else Φ.H_0 b) ≠ none
        by_cases z : G' b ≠ none ∨ d = some b
        · rw [if_pos z]
          rcases z with z | z
          · exact ne_none_of_same o.gh z
          · obtain ⟨fs, q⟩ := hd b z
            rw [q]
            exact fun z => nomatch z
        · rw [if_neg z] at hb' ⊢
          intro z2
          rw [z2] at hb'
          exact hb' rfl
      · cases r : g x (e1.set i .xn) with
        | no =>
          rw [r] at h'
          exact h'.elim
        | ex y e2 =>
          rw [r] at h'
          exact h'.elim
        | ok fl e2 =>
          rw [r] at h'
          intro v σ2 H2 G2 F2 s2 o2
          have back := Ok.unsuit o o2
          have hw := h' v _ H2 G2 F2 (s'.trans s2) back
          cases fl with
          | nx => exact hw
          | bk => exact hw
          | ct => exact hw
          | rt s =>
            intro rs
            refine hw ?_
            cases s with
            | sh d => exact rs
            | own w =>
              obtain ⟨p, A, h1, h2, h3, h4⟩ := rs
              refine ⟨p, A, h1, h2, fun b hb => ⟨(h3 b hb).1, suit_none o (h3 b hb).2⟩, fun j t q ow => h4 j t ?_ ow⟩
              by_cases hj : i = j
              · subst hj
                have hl : i < e2.length := by
                  have := (List.getElem?_eq_some_iff.mp q).1
                  rw [List.length_set] at this
                  exact this
                rw [List.getElem?_set_self hl] at q
                cases q
                cases ow
              · rw [List.getElem?_set_ne hj] at q
                exact q
            | un => exact rs
            | io w => exact rs
            | xn => exact rs
    · rename_i hmt
      exact ⟨false, hm _ _ _ hmt p.1, fun z => Bool.noConfusion z, fun _ => h' cls d σ' H' G' F' s' o p⟩
    · exact h'.elim
end
end DL
set_option Elab.async false
set_option linter.all false
set_option maxRecDepth 100000
set_option maxHeartbeats 4000000
/-! DlX4: in the suite: e.f, isinstance(e, C). -/
namespace DL
open PySem L2
theorem lookup_paired {P : V → D → Prop} {f : Str} : ∀ {fs : List (Str × V)} {ds : List (Str × D)} {d : D}, Paired (fun (p : Str × V) (q : Str × D) => p.1 = q.1 ∧ P p.2 q.2) fs ds → ds.lookup f = some d → ∃ v, fs.lookup f = some v ∧ P v d
  | _, _, d, .nil, h => by cases h
  | (n, v) :: fs, (m, u) :: ds, d, .cons ⟨h1, h2⟩ t, h => by
    have h1' : n = m := h1
    subst h1'
    rw [List.lookup_cons] at h
    split at h
    · rename_i z
      cases h
      exact ⟨v, by rw [List.lookup_cons, z], h2⟩
    · rename_i z
      obtain ⟨w, q1, q2⟩ := lookup_paired t h
      exact ⟨w, by rw [List.lookup_cons, z]; exact q1, q2⟩
def eXf (x : Exn) (i : Nat) (f : Str) : Ef := fun e => match e[i]? with
  | some .xn => (match x.flds.lookup f with
    | some d => .ok (.val d) e
    | none => .no)
  | _ => .no
def eXis (x : Exn) (i : Nat) (mi : Str → Option Bool) : Ef := fun e => match e[i]? with
  | some .xn => (match mi x.cls with
    | some b => .ok (.val (.bool b)) e
    | none => .no)
  | _ => .no
/-- isinstance(e, c), e the exception that the suite holds -/
def rIsX (K : PySem.W.Frag) (D a : Addr) (d : Option Addr) : List V → Hp → VK → Prop := fun xs H Q => ∃ (c : V) (cv : Value) (b : Bool), xs = [.ref a, c] ∧ (∀ u, RelV c u → u = cv) ∧ PySem.W.kitOne K (.ref D) cv = some b ∧ (d = none ∨ ∃ dd fs, d = some dd ∧ H dd = some (.xd fs)) ∧ Q (.bl b) H
theorem call_isX {X : Cx} {a D : Addr} {d : Option Addr} {oe : Obj} {pn : List (Addr × Obj)} (C : ExcC X.K D) (hz : Zc (.ref D) d oe) (hf : ∃ vs, oe.data = .fields vs) : CallR (X.suite a ((a, oe) :: pn)) (.builtin "isinstance") (rIsX X.K D a d) := by
  intro pins s σ H xs us Q I r h
  obtain ⟨c, cv, b, rfl, hcv, e, dd, q⟩ := h
  cases r with
  | cons rx rr =>
    cases rr with
    | cons rt rr =>
      cases rr
      cases rx
      have ec := hcv _ rt
      subst ec
      obtain ⟨hget, _⟩ := I.pin (a, oe) (List.mem_append.mpr (.inl List.mem_cons_self))
      obtain ⟨vs, hv⟩ := hf
      have J : ∃ od, PySem.W.InstAt s.heap a oe D od := by
        rcases dd with rfl | ⟨dd, fs, rfl, ea⟩
        · exact ⟨none, hget, hz.1, by unfold PySem.W.notCls; rw [hv] <;> rfl, by rw [hz.2]; trivial⟩
        · have hx : ObjOk X.prog X.w H s.heap dd (.xd fs) := I.hok dd _ ea
          obtain ⟨mA, hns, hr⟩ := hx
          obtain ⟨od, ho, hl⟩ := lookIn_ns hns
          exact ⟨some od, hget, hz.1, by unfold PySem.W.notCls; rw [hv] <;> rfl, by rw [hz.2]; exact ho⟩
      obtain ⟨od, J⟩ := J
      have hcl : (PySem.W.clsIn X.K D).isSome = true := by
        obtain ⟨cd, hc, _⟩ := PySem.W.any_some C.hd
        rw [hc]
        rfl
      exact PySem.W.kia_one (PySem.W.kitx_exc hcl C.hg C.hk C.hs C.ha C.hn C.ht C.hm) I.kIn J e (fun z => nomatch z) fun tk => ⟨.bl b, H, I.kept (t' := tk) fun _ _ z => z, rfl, q⟩
section
variable {X : Cx} {Φ : Fx} {W : WX} {mt mi : Str → Option Bool} {i : Nat} {a : Addr} {oe : Obj} {cls : Value} {d : Option Addr} {pn : List (Addr × Obj)} {x : Exn} {n f : Str} {p p2 pos : Pos}
theorem xn_at {K : PySem.W.Frag} {H G : Hp} {F : Nat → List Addr} {σ : L2.St} {e : Fr} {v : V} (O : Ok K Φ H G F σ e) (h : e[i]? = some .xn) (r : ra K (.slot i) v H G F σ e) : v = .ref (Φ.at_ i) := by
  have q : σ[i]? = some (some (.ref (Φ.at_ i))) := O.slots i .xn h
  have r' : σ[i]? = some (some v) := r
  rw [q] at r'
  cases r'
  rfl
theorem d_xf (su : SuOk X Φ mt i a cls d x) (hz : Zc cls d oe) (hf : ∃ vs, oe.data = .fields vs) (T : ∀ y c, mt y = some true → X.mg y = some c → ∃ C, c = .ref C ∧ XfC X.K C ∧ PySem.W.findIn X.K (.ref C) f = some none)
    (hn : DE (X.suite a ((a, oe) :: pn)) Φ W (.Name n p) (eVar i)) (hb : attributeBase (.Name n p) f X.env (eval (.Name n p) X.env) = eval (.Name n p) X.env := by rfl) :
    DE (X.suite a ((a, oe) :: pn)) Φ W (.Attribute (.Name n p) f pos) (eXf x i f) := by
  obtain ⟨C, rfl, T1, T2⟩ := T _ _ su.mt su.mg
  refine pe_weak (pe_xf T1 T2 hz hf hn hb) fun σ H Q ⟨G, F, e, O, h⟩ => ⟨G, F, e, O, ?_⟩
  unfold eXf at h
  split at h
  · rename_i hi
    split at h
    · rename_i dv hl
      have ev : eVar i e = .ok (.slot i) e := by
        unfold eVar
        rw [hi]
      rw [ev]
      intro v H' G' F' s o r
      have hv := xn_at o hi r
      rw [su.at_] at hv
      rcases su.fl with ⟨z, _⟩ | ⟨dx, fs, q1, q2, q3, q4⟩
      · rw [z] at hl
        cases hl
      · obtain ⟨w, w1, w2⟩ := lookup_paired q4 hl
        exact ⟨hv, rfl, dx, fs, w, q1, o.f1 dx _ q2 q3, w1, h w H' G' F' s o (dp_suit o su.gg w2)⟩
    · exact h.elim
  · exact h.elim
theorem is_read {c : V} {cv : Value} {b : Bool} {K : PySem.W.Frag} {mg : Str → Option Value} {σ : L2.St} {H G : Hp} {F : Nat → List Addr} {e : Fr} {Q : VK} {D : Addr} (su : SuOk X Φ mt i a cls d x) (hi : e[i]? = some .xn) (O : Ok X.K Φ H G F σ e) (hcv : ∀ u, RelV c u → u = cv) (k : PySem.W.kitOne X.K (.ref D) cv = some b)
    (h : Wp X.K X.mg Φ W σ (ra X.K) G (.ok (.val (.bool b)) e) Q) : Wp X.K X.mg Φ W σ (ra X.K) G (eVar i e) fun v H1 => rIsX X.K D a d [v, c] H1 Q := by
  have ev : eVar i e = .ok (.slot i) e := by
    unfold eVar
    rw [hi]
  rw [ev]
  intro v H' G' F' s o r
  have hv := xn_at o hi r
  rw [su.at_] at hv
  subst hv
  refine ⟨c, cv, b, rfl, hcv, k, ?_, h (.bl b) H' G' F' s o (.bl b)⟩
  rcases su.fl with ⟨_, z⟩ | ⟨dx, fs, q1, q2, q3, q4⟩
  · exact .inl z
  · exact .inr ⟨dx, fs, q1, o.f1 dx _ q2 q3⟩
/-- an own class -/
theorem d_xisO {m : Str} {C2 : Addr} (su : SuOk X Φ mt i a cls d x) (hz : Zc cls d oe) (hf : ∃ vs, oe.data = .fields vs) (T : ∀ y c b, mi y = some b → X.mg y = some c → ∃ C, c = .ref C ∧ ExcC X.K C ∧ PySem.W.kitOne X.K (.ref C) (.ref C2) = some b)
    (hm : X.mg "isinstance" = none) (hm2 : X.mg m = some (.ref C2)) (hn : DE (X.suite a ((a, oe) :: pn)) Φ W (.Name n p) (eVar i)) (hg : Gl X "isinstance" := by rfl) (hg2 : Gl X m := by rfl) (hd2 : (m == ("__debug__" : Str)) = false := by decide)
    (he : starEach [.Name n p, .Name m p2] X.env = (false, eval (.Name n p) X.env) :: starEach [.Name m p2] X.env := by rfl) (he2 : starEach [.Name m p2] X.env = (false, eval (.Name m p2) X.env) :: starEach [] X.env := by rfl) (hpl : (backTo pos (starEach [.Name m p2] X.env)).any (·.1) = false := by rfl) {p3 : Pos} :
    DE (X.suite a ((a, oe) :: pn)) Φ W (.Call (.Name "isinstance" p3) [.Name n p, .Name m p2] [] pos) (eXis x i mi) := by
  constructor
  intro pins s σ H Q I h
  obtain ⟨G, F, e, O, h⟩ := h
  unfold eXis at h
  split at h
  · rename_i hi
    split at h
    · rename_i b hl
      obtain ⟨C, rfl, T1, T2⟩ := T _ _ _ hl su.mg
      exact (pe_callB (X := X.suite a ((a, oe) :: pn)) (call_isX T1 hz hf) hg hm (by decide +kernel) (pa_cons hn (pa_cons (pe_glob (v := .ref C2) hg2 hm2 rfl hd2) pa_nil he2) he) (by decide) (by decide) he hpl).run pins s σ H Q I
        ⟨G, F, e, O, is_read (X := X) (K := X.K) (mg := X.mg) su hi O (fun u r => r) T2 h⟩
    · exact h.elim
  · exact h.elim
/-- a built-in class -/
theorem d_xisB {m : Str} {T2 : String} (su : SuOk X Φ mt i a cls d x) (hz : Zc cls d oe) (hf : ∃ vs, oe.data = .fields vs) (T : ∀ y c b, mi y = some b → X.mg y = some c → ∃ C, c = .ref C ∧ ExcC X.K C ∧ PySem.W.kitOne X.K (.ref C) (.type T2) = some b)
    (hm : X.mg "isinstance" = none) (hm2 : X.mg m = none) (hn : DE (X.suite a ((a, oe) :: pn)) Φ W (.Name n p) (eVar i)) (hv2 : bootBuiltins m = some (.type T2) := by decide +kernel) (hg : Gl X "isinstance" := by rfl) (hg2 : Gl X m := by rfl) (hn2 : m ≠ "__name__" := by decide) (hd2 : (m == ("__debug__" : Str)) = false := by decide)
    (he : starEach [.Name n p, .Name m p2] X.env = (false, eval (.Name n p) X.env) :: starEach [.Name m p2] X.env := by rfl) (he2 : starEach [.Name m p2] X.env = (false, eval (.Name m p2) X.env) :: starEach [] X.env := by rfl) (hpl : (backTo pos (starEach [.Name m p2] X.env)).any (·.1) = false := by rfl) {p3 : Pos} :
    DE (X.suite a ((a, oe) :: pn)) Φ W (.Call (.Name "isinstance" p3) [.Name n p, .Name m p2] [] pos) (eXis x i mi) := by
  constructor
  intro pins s σ H Q I h
  obtain ⟨G, F, e, O, h⟩ := h
  unfold eXis at h
  split at h
  · rename_i hi
    split at h
    · rename_i b hl
      obtain ⟨C, rfl, T1, T3⟩ := T _ _ _ hl su.mg
      exact (pe_callB (X := X.suite a ((a, oe) :: pn)) (call_isX T1 hz hf) hg hm (by decide +kernel) (pa_cons hn (pa_cons (pe_bltn (v := .ty T2) hg2 hm2 hv2 rfl hn2 hd2) pa_nil he2) he) (by decide) (by decide) he hpl).run pins s σ H Q I
        ⟨G, F, e, O, is_read (X := X) (K := X.K) (mg := X.mg) su hi O (fun u r => r) T3 h⟩
    · exact h.elim
  · exact h.elim
end
end DL
namespace DL
open PySem L2
def clsBody : Stmt → List Stmt
  | .ClassDef (body := b) .. => b
  | _ => []
/-- an own error with one field can be made -/
def ExR (P : Program) (w : World) (K : PySem.W.Frag) (mg : Str → Option Value) (base : Heap) (C : Addr) (f : Str) : Prop := ∃ fI fd ps, OexF K C fI f ∧ FnOk P w K mg base CX0 1 fI fd ps (spI K f) ∧ Binds K fd ps []
theorem s_raiseX {X : Cx} {Φ : Fx} {W : WX} {C : Addr} {x fl : Str} {p pos pos' : Pos} {a : Expr} {fa : Ef} (T : ExR X.prog X.w X.K X.mg X.base C fl) (hr : Room 2 X.A) (hc : X.calm = true) (tk : Takes X W) (gC : X.mg x = some (.ref C)) (ha : DE X Φ W a fa) (hg : Gl X x := by rfl) (hdb : (x == ("__debug__" : Str)) = false := by decide)
    (he : starEach (a :: []) X.env = (false, eval a X.env) :: starEach [] X.env := by rfl) (hpl : (backTo pos (starEach [] X.env)).any (·.1) = false := by rfl) :
    DS X Φ W (.Raise (some (.Call (.Name x p) [a] [] pos)) none pos') (sRaise1 x fl fa) := by
  obtain ⟨fI, fd, ps, T, F1, hb⟩ := T
  exact s_raise1 T F1 hr hb hc tk gC ha hg hdb he hpl
def excCB (K : PySem.W.Frag) (D : Addr) : Bool := decide (PySem.W.findIn K (.ref D) "__getattribute__" = some (some (.builtin "BaseException.__getattribute__"))) && (decide (PySem.W.findIn K (.ref D) "__getattr__" = some none) && (decide (PySem.W.subIn K (.ref D) (.type "BaseException") = some true) && (PySem.W.hasDictIn K D &&
  (decide (PySem.W.findIn K (.ref D) "__class__" = some (some (.builtin "object.__class__"))) && (decide (PySem.W.specialIn K (.builtin "object.__class__") "__get__" = some (some (.builtin "getset_descriptor.__get__"))) && (decide (PySem.W.takesIn K (.builtin "object.__class__") = some true) && decide (PySem.W.mroIn K D (.type "object") = some true)))))))
theorem excC_ok {K : PySem.W.Frag} {D : Addr} (h : excCB K D = true) : ExcC K D := by
  unfold excCB at h
  simp only [Bool.and_eq_true, decide_eq_true_eq] at h
  obtain ⟨h1, h2, h3, h4, h5, h6, h7, h8⟩ := h
  exact ⟨h1, h2, h3, h4, h5, h6, h7, h8⟩
/-- what the suite of `except .. as e` may ask of a class: its fields, isinstance -/
def heldB (K : PySem.W.Frag) (D : Addr) (f : Str) : Bool := excCB K D && (xfB K D && decide (PySem.W.findIn K (.ref D) f = some none))
structure XHeld (K : PySem.W.Frag) (D : Addr) (f : Str) : Prop where
  c : ExcC K D
  x : XfC K D
  n : PySem.W.findIn K (.ref D) f = some none
theorem held_ok {K : PySem.W.Frag} {D : Addr} {f : Str} (h : heldB K D f = true) : XHeld K D f := by
  unfold heldB at h
  simp only [Bool.and_eq_true, decide_eq_true_eq] at h
  exact ⟨excC_ok h.1, xfB_ok h.2.1, h.2.2⟩
end DL
namespace DL
open PySem L2
/-! ### f() -/
def tCallG0 (sp : Sp) (W : WX) : TE := fun σ H Q => sp [] H Q (WE W σ)
section
variable {X : Cx} {Φ : Fx} {W : WX} {pos p : Pos} {n : Str} {k : Nat} {f : Addr} {fd : FuncData} {ps : List Str} {Fs : Fn} {sp : Sp}
theorem pe_callG0 (Fo : FnG X.prog X.w X.K X.mg X.base k f fd ps sp) (room : Room k X.A) (gu : X.A.guards = some []) (hg : Gl X n) (hm : X.mg n = some (.ref f)) (hk : PySem.W.keepIn X.K (.ref f) = true) (hb : Binds X.K fd ps []) (tk : Takes X W)
    (hdb : (n == ("__debug__" : Str)) = false := by decide) : PE X (.Call (.Name n p) [] [] pos) (tCallG0 sp W) := by
  constructor
  intro pins s σ H Q I h
  refine wpAny_Call_Name_kw (ld_glob I hg hm ?_ hdb)
  have hl : ([] : List Value).length = ps.length := Fo.len _ _ _ _ h
  refine PySem.W.callWith_K0 I.kIn hk (wpAny_call (codeAny_mono (run_g (us := []) Fo room gu tk I ?_ .nil h) fun r s' z => match r, z with
      | .ok (.ret _), z => z
      | .error _, z => z))
  exact hb s [] I.kIn hl
theorem d_call0 (Fo : FnG X.prog X.w X.K X.mg X.base k f fd ps (spF X.K X.mg 0 Fs)) (hr : Room k X.A) (gu : X.A.guards = some []) (hm : X.mg n = some (.ref f)) (hk : PySem.W.keepIn X.K (.ref f) = true) (hb : Binds X.K fd ps []) (tk : Takes X W)
    (hg : Gl X n := by rfl) (hdb : (n == ("__debug__" : Str)) = false := by decide) :
    DR X Φ W (.Call (.Name n p) [] [] pos) (eFnC Fs [] aNil) :=
  pe_weak (pe_callG0 Fo hr gu hg hm hk hb tk hdb) fun σ H Q ⟨G, F, e, O, h⟩ => callR_ok (ms := []) (as := []) (vs := []) O .nil rfl h
end
end DL
namespace DL
open PySem L2
/-- one default that is not wanted: every parameter is given -/
theorem binds_def {K : PySem.W.Frag} {x qual : Str} {params : Arguments} {body : List Stmt} {scope : Scope} {dvs : List V} {kws : List (Str × V)} {f : Addr} {fd : FuncData} {ps : List Str} (F : FunD K x qual params body scope dvs kws f fd) (n : Nat) (hl : dvs.length = 1) (hn : n = ps.length)
    (h : ∀ (T : Addr) (kV doc pm : Value) (an : Option Addr) (cdv ct : Value) (us its : List Value), us.length = n → its.length = 1 → ∃ k, bindArgs (PySem.W.fnOf x qual params body scope (.ref T) kV doc pm an cdv ct) ⟨us, []⟩ = seqItems? (.ref T) >>= k ∧ k (some its.toArray) = pure (ps.zip us)) : Binds K fd ps [] := by
  have d1 : dvs.drop 1 = [] := List.drop_of_length_le (by omega)
  obtain ⟨ds, v, b⟩ := F.binds1 (ps := ps) n 1 (fun z => by rw [z] at hl; cases hl) (by omega) fun T kV doc pm an cdv ct us its h1 h2 => by
    obtain ⟨k, e1, e2⟩ := h T kV doc pm an cdv ct us its h1 (by omega)
    refine ⟨k, e1, ?_⟩
    rw [List.drop_of_length_le (by omega), List.append_nil]
    exact e2
  rw [d1] at v
  cases v
  exact b
end DL
set_option Elab.async false
set_option linter.all false
set_option maxRecDepth 100000
set_option maxHeartbeats 4000000
/-! DlTx: texts: str(n), int(text), one sign * n, a sign in a text. -/
namespace DL
open PySem L2
def sOf (l : List Nat) : Str := ⟨l.toArray⟩
def bStr : List D → Option D
  | [.int i] => if i.natAbs.log2 < 1920 then some (.str (Str.ofString (toString i))) else none
  | _ => none
def bIntT : List D → Option D
  | [.int i] => some (.int i)
  | [.str a] => if a.length ≤ 640 then (PySem.intText? a).map PyData.int else none
  | _ => none
def one? (x : Str) : Option Nat := match x.cps.toList with
  | [c] => some c
  | _ => none
theorem one_ok {x : Str} {c : Nat} (h : one? x = some c) : x = ⟨#[c]⟩ := by
  unfold one? at h
  split at h
  · rename_i q
    cases h
    obtain ⟨⟨l⟩⟩ := x
    have q' : l = [c] := q
    subst q'
    rfl
  · cases h
def dMulT : D → D → Option D
  | .int i, .int j => if (Builtin.Int.intBits i : Int) + (Builtin.Int.intBits j : Int) ≤ 134217728 then some (.int (i * j)) else none
  | .str x, .int k => match one? x with
    | some c => if -1000000 ≤ k ∧ k ≤ 1000000 then some (.str (sOf (List.replicate k.toNat c))) else none
    | none => none
  | _, _ => none
def dInT : D → D → Option D
  | .str x, .str z => (one? x).map fun c => .bool (decide (c ∈ z.cps.toList))
  | x, y => dIn x y
def dNotInT : D → D → Option D
  | .str x, .str z => (one? x).map fun c => .bool (!decide (c ∈ z.cps.toList))
  | x, y => dNotIn x y
section
variable {X : Cx}
theorem cr_dStr : CallR X (.type "str") (rP X.K bStr) := by
  intro pins s σ H xs us Q I r h
  obtain ⟨G, ds, d, gh, b, ho, k⟩ := h
  unfold bStr at ho
  split at ho
  · split at ho
    · rename_i hc
      cases ho
      obtain ⟨v, rfl, b1⟩ := bpa1 b
      obtain rfl := b1.int
      exact call_str_int pins s σ H _ us Q I r ⟨_, rfl, hc, k _ _ _ (Grow.refl gh) (.str _)⟩
    · cases ho
  · cases ho
theorem cr_dIntT : CallR X (.type "int") (rP X.K bIntT) := by
  intro pins s σ H xs us Q I r h
  obtain ⟨G, ds, d, gh, b, ho, k⟩ := h
  unfold bIntT at ho
  split at ho
  · cases ho
    obtain ⟨v, rfl, b1⟩ := bpa1 b
    obtain rfl := b1.int
    exact call_int1 pins s σ H _ us Q I r (.inl ⟨_, rfl, k _ _ _ (Grow.refl gh) (.int _)⟩)
  · split at ho
    · rename_i hc
      obtain ⟨v, rfl, b1⟩ := bpa1 b
      obtain rfl := b1.str
      obtain ⟨n, h1, h2⟩ := Option.map_eq_some_iff.mp ho
      subst h2
      exact call_int_str pins s σ H _ us Q I r ⟨_, n, rfl, h1, hc, k _ _ _ (Grow.refl gh) (.int _)⟩
    · cases ho
  · cases ho
theorem rep_fold (c : Nat) : ∀ (n : Nat) (a : Array Nat), (List.replicate n #[c]).foldl (· ++ ·) a = a ++ (List.replicate n c).toArray
  | 0, a => by simp
  | n + 1, a => by
    rw [List.replicate_succ, List.foldl_cons, rep_fold c n, List.replicate_succ]
    apply Array.toList_inj.mp
    simp
theorem mul_one (c : Nat) (k : Int) : Txt.mul ⟨#[c]⟩ k = sOf (List.replicate k.toNat c) := by
  unfold Txt.mul sOf
  by_cases h1 : k < 1
  · rw [if_pos h1]
    have : k.toNat = 0 := by omega
    rw [this]
    rfl
  · rw [if_neg h1]
    by_cases h2 : k = 1
    · subst h2
      rfl
    · have e : (k == 1 || (⟨#[c]⟩ : Str).length == 0) = false := by
        have e1 : (k == 1) = false := by simpa using h2
        rw [e1]
        rfl
      rw [if_neg (by rw [e]; exact Bool.false_ne_true)]
      show (⟨(List.replicate k.toNat #[c]).foldl (· ++ ·) #[]⟩ : Str) = _
      rw [rep_fold]
      simp
theorem mulOk_one (c : Nat) {k : Int} (h1 : -1000000 ≤ k) (h2 : k ≤ 1000000) : MulOk ⟨#[c]⟩ k := by
  have hl : (⟨#[c]⟩ : Str).length = 1 := rfl
  refine ⟨?_, fun q _ => ?_, fun q _ => ?_⟩
  · rw [decide_eq_false (by omega), decide_eq_false (by omega)]
    rfl
  · rw [hl]
    intro z
    have : ((2 : Int) ^ 63 - 1) / k ≥ 1 := by
      have := Int.le_ediv_of_mul_le (a := 1) (b := (2 : Int) ^ 63 - 1) (c := k) (by omega) (by omega)
      exact this
    omega
  · rw [hl, Nat.one_mul]
    unfold Builtin.Str.tooLong
    have : ¬ k.toNat > sizeLine := by
      rw [sizeLine_eq]
      omega
    exact decide_eq_false this
theorem op_dMulT : OpR X (binaryOp .Mult) (r2 X.K dMulT) := by
  intro pins s σ H x y v u Q I rx ry h
  obtain ⟨G, d1, d2, d, gh, b1, b2, ho, k⟩ := h
  unfold dMulT at ho
  split at ho
  · split at ho
    · rename_i hc
      cases ho
      obtain rfl := b1.int
      obtain rfl := b2.int
      exact op_mulX pins s σ H _ _ v u Q I rx ry ⟨_, _, rfl, rfl, hc, k _ _ _ (Grow.refl gh) (.int _)⟩
    · cases ho
  · split at ho
    · rename_i c q
      split at ho
      · rename_i hc
        cases ho
        obtain rfl := one_ok q
        obtain rfl := b1.str
        obtain rfl := b2.int
        obtain ⟨t, rfl⟩ := rx
        obtain ⟨t', rfl⟩ := ry
        refine SB.mul (mulOk_one c hc.1 hc.2) fun t2 tk => ⟨.str (Txt.mul ⟨#[c]⟩ _), _, I.tok _, ⟨t2, rfl⟩, ?_⟩
        rw [mul_one]
        exact k _ _ _ (Grow.refl gh) (.str _)
      · cases ho
    · cases ho
  · cases ho
theorem op_dInT (hu : X.A.units + 65 < cLine) : OpR X (compareOp .In) (r2 X.K dInT) := by
  intro pins s σ H x y v u Q I rx ry h
  obtain ⟨G, d1, d2, d, gh, b1, b2, ho, k⟩ := h
  unfold dInT at ho
  split at ho
  · obtain ⟨c, h1, h2⟩ := Option.map_eq_some_iff.mp ho
    subst h2
    obtain rfl := one_ok h1
    obtain rfl := b1.str
    obtain rfl := b2.str
    exact op_in_sign pins s σ H _ _ v u Q I rx ry ⟨_, _, rfl, rfl, k _ _ _ (Grow.refl gh) (.bl _)⟩
  · exact op_dIn hu pins s σ H x y v u Q I rx ry ⟨G, _, _, d, gh, b1, b2, ho, k⟩
theorem op_dNotInT (hu : X.A.units + 65 < cLine) : OpR X (compareOp .NotIn) (r2 X.K dNotInT) := by
  intro pins s σ H x y v u Q I rx ry h
  obtain ⟨G, d1, d2, d, gh, b1, b2, ho, k⟩ := h
  unfold dNotInT at ho
  split at ho
  · obtain ⟨c, h1, h2⟩ := Option.map_eq_some_iff.mp ho
    subst h2
    obtain rfl := one_ok h1
    obtain rfl := b1.str
    obtain rfl := b2.str
    exact op_notIn_sign pins s σ H _ _ v u Q I rx ry ⟨_, _, rfl, rfl, k _ _ _ (Grow.refl gh) (.bl _)⟩
  · exact op_dNotIn hu pins s σ H x y v u Q I rx ry ⟨G, _, _, d, gh, b1, b2, ho, k⟩
end
end DL
set_option Elab.async false
set_option linter.all false
set_option maxRecDepth 100000
set_option maxHeartbeats 4000000
/-! DlTm: a tuple n times, a list n times, enumerate, range down. -/
namespace L2
open PySem PySem.Spec PyProof.Rows
theorem tuple_mul_1 (l : Addr) (items : Array Value) (n : Nat) (dd : Option Addr) (sl : Array (Option Value)) (u : Tok) :
    Meets (Builtin.«tuple.__mul__» ⟨[.ref l, .int 1 u], []⟩) (fun _ R s => s.heap.get? l = some { cls := .type "tuple", dict := dd, data := .seq items n, slots := sl } ∧ R (.ok (.ret (.ref l))) s) :=
  .of_wp fun prog w A R s h => by
    obtain ⟨hp, g, d, tk, os⟩ := s
    obtain ⟨hl, h⟩ := h
    have f1 := AutoSeq1.idx_int
    have c1 : (items.isEmpty || (1 : Int) == 1) = true := by simp
    wp_walk using wpAny_loadPart' hl
    repeat (first
      | (refine wpAny_ite_true c1 ?_; wp_walk using wpAny_loadPart' hl)
      | (refine wpAny_ite_true (by simp) ?_; wp_walk using wpAny_loadPart' hl)
      | (refine wpAny_ite_false (by simp) ?_; wp_walk using wpAny_loadPart' hl))
    exact ⟨_, rfl, h⟩
theorem tuple_mul_0 (l : Addr) (items : Array Value) (n : Nat) (dd : Option Addr) (sl : Array (Option Value)) (u : Tok) (c : items.isEmpty = false) :
    Meets (Builtin.«tuple.__mul__» ⟨[.ref l, .int 0 u], []⟩) (fun _ R s => s.heap.get? l = some { cls := .type "tuple", dict := dd, data := .seq items n, slots := sl } ∧
      R (.ok (.ret (Value.ref s.heap.objs.size))) { s with heap := s.heap.push { cls := Value.type "tuple", data := Data.seq #[] }, toks := s.toks }) :=
  .of_wp fun prog w A R s h => by
    obtain ⟨hp, g, d, tk, os⟩ := s
    obtain ⟨hl, h⟩ := h
    have f1 := AutoSeq1.idx_int
    have c1 : (items.isEmpty || (0 : Int) == 1) = false := by rw [c]; rfl
    have c2 : (decide ((0 : Int) ≤ 0) || items.isEmpty) = true := by simp
    wp_walk using wpAny_loadPart' hl
    repeat (first
      | (refine wpAny_ite_false (decide_eq_false (by rw [c1]; exact Bool.false_ne_true)) ?_; wp_walk using wpAny_loadPart' hl)
      | (refine wpAny_ite_true (decide_eq_true c2) ?_; wp_walk using wpAny_loadPart' hl)
      | (refine wpAny_ite_false (by rw [c1]; exact Bool.false_ne_true) ?_; wp_walk using wpAny_loadPart' hl)
      | (refine wpAny_ite_true c2 ?_; wp_walk using wpAny_loadPart' hl)
      | (refine wpAny_ite_false (by simp) ?_; wp_walk using wpAny_loadPart' hl)
      | (refine wpAny_ite_true (by simp) ?_; wp_walk using wpAny_loadPart' hl))
    exact ⟨_, rfl, h⟩
def rRepT01 (K : PySem.W.Frag) : R2 := fun x y H Q => ∃ l k xs, x = .ref l ∧ y = .int k ∧ SqT K H l xs ∧ xs ≠ [] ∧ ((k = 1 ∧ Q (.ref l) H) ∨ (k = 0 ∧ ∀ p, H p = none → Q (.ref p) (upd H p (.tup []))))
section
variable {X : Cx}
theorem op_repT01 : OpR X (binaryOp .Mult) (rRepT01 X.K) := by
  intro pins s σ H x y v u Q I rx ry h
  obtain ⟨l, k, xs, rfl, rfl, hT, hne, h1⟩ := h
  cases rx
  obtain ⟨t, rfl⟩ := ry
  obtain ⟨its, r, ⟨⟨cls, dd, data, sl⟩, ho, hc, n, hd⟩, hs⟩ := I.tuple hT
  simp only at hc hd
  subst hc hd
  have hle : its.length = xs.length := r.length.symm
  have hn : its ≠ [] := fun e => hne (by
    rw [e] at hle
    exact List.eq_nil_of_length_eq_zero hle.symm)
  have hi : its.toArray.isEmpty = false := by
    cases its with
    | nil => exact absurd rfl hn
    | cons a b => rfl
  rcases h1 with ⟨rfl, q⟩ | ⟨rfl, q⟩
  · refine wpAny_binaryOp_repeat_ref (T := "tuple") (U := "int") (by decide) ⟨_, ho, rfl⟩ (fun s' => typeIs_int s' _ t) noFill_tuple_mul F.fills_int_mul F.slot_int_rmul repeat_tuple F.slot_int_index.lookup
      (call_meets F.slot_int_rmul (typeIs_int s _ t) F.entry_int_rmul (F.args_int_rmul_2 _ _) (int_rmul_tuple _ t l its.toArray n dd sl)
        ⟨ho, rfl, ⟨_, ho, rfl⟩, call_meets F.slot_tuple_mul ⟨_, ho, rfl⟩ F.entry_tuple_mul (F.args_tuple_mul_2 _ _) (tuple_mul_1 l its.toArray n dd sl t) ⟨ho, ?_⟩⟩)
    exact ⟨.ref l, _, I, rfl, q⟩
  · refine wpAny_binaryOp_repeat_ref (T := "tuple") (U := "int") (by decide) ⟨_, ho, rfl⟩ (fun s' => typeIs_int s' _ t) noFill_tuple_mul F.fills_int_mul F.slot_int_rmul repeat_tuple F.slot_int_index.lookup
      (call_meets F.slot_int_rmul (typeIs_int s _ t) F.entry_int_rmul (F.args_int_rmul_2 _ _) (int_rmul_tuple _ t l its.toArray n dd sl)
        ⟨ho, rfl, ⟨_, ho, rfl⟩, call_meets F.slot_tuple_mul ⟨_, ho, rfl⟩ F.entry_tuple_mul (F.args_tuple_mul_2 _ _) (tuple_mul_0 l its.toArray n dd sl t hi) ⟨ho, ?_⟩⟩)
    refine ⟨.ref s.heap.objs.size, _, I.laid (t' := s.toks) (o := .tup []) (fun b ob q => Heap.get?_push_of_some _ q) (Nat.le_refl _) ?_, rfl, q _ (I.hok.fresh (Nat.le_refl _))⟩
    exact ⟨Nat.zero_le _, [], .nil, IsTup.new _ _⟩
end
end L2
namespace DL
open PySem L2
theorem DpAll.rep {K : PySem.W.Frag} {G : Hp} {vs : List V} {ds : List D} (p : DpAll K G vs ds) : ∀ k : Nat, DpAll K G (List.replicate k vs).flatten (List.replicate k ds).flatten
  | 0 => .nil
  | k + 1 => by
    rw [List.replicate_succ, List.replicate_succ, List.flatten_cons, List.flatten_cons]
    exact DL.DpAll.app p (DpAll.rep p k)
/-! ### a tuple k times -/
def dMulQ : D → D → Option D
  | .tuple ds, .int k => if ds ≠ [] ∧ 0 ≤ k ∧ k ≤ 1000 ∧ ds.length ≤ 1000 then some (.tuple (List.replicate k.toNat ds).flatten) else none
  | x, y => dMul x y
section
variable {X : Cx}
theorem op_dMulQ : OpR X (binaryOp .Mult) (r2 X.K dMulQ) := by
  intro pins s σ H x y v u Q I rx ry h
  obtain ⟨G, d1, d2, d, gh, b1, b2, ho, k⟩ := h
  unfold dMulQ at ho
  split at ho
  · rename_i ds c
    split at ho
    · rename_i hc
      obtain ⟨h1, h2, h3, h4⟩ := hc
      cases ho
      obtain rfl := b2.int
      cases b1 with
      | dp hp =>
      cases hp with
      | @tup a vs _ t1 t2 =>
        have hne : vs ≠ [] := fun e => h1 (by
          have := DpAll.len t2
          rw [e] at this
          exact List.eq_nil_of_length_eq_zero this.symm)
        have new : ∀ p, H p = none → Q (.ref p) (upd H p (.tup (List.replicate c.toNat vs).flatten)) := fun p hp => by
          exact k _ _ _ (Grow.laid gh hp) (.tup (.of upd_same) (dpa_mono (same_new (same_back gh hp)) _ _ (DpAll.rep t2 _)))
        rcases Int.lt_or_le c 2 with hl | hl
        · refine op_repT01 pins s σ H _ _ v u Q I rx ry ⟨a, c, vs, rfl, rfl, same_t gh t1, hne, ?_⟩
          have : c = 0 ∨ c = 1 := by omega
          rcases this with rfl | rfl
          · exact .inr ⟨rfl, new⟩
          · refine .inl ⟨rfl, k _ _ _ (Grow.refl gh) ?_⟩
            have e : (List.replicate (1 : Int).toNat ds).flatten = ds := by
              show ds ++ [] = ds
              exact List.append_nil ds
            rw [e]
            exact .tup t1 t2
        · refine op_repT pins s σ H _ _ v u Q I rx ry ⟨a, c, vs, rfl, rfl, same_t gh t1, hne, hl, h3, by rw [DpAll.len t2]; exact h4, new⟩
    · cases ho
  · exact op_dMul pins s σ H x y v u Q I rx ry ⟨G, _, _, d, gh, b1, b2, ho, k⟩
end
/-! ### a new list k times -/
def eRep (fa : Rf) (fb : Ef) : Rf := fun e => (fa e).bind fun r e1 => (fb e1).bind fun b e2 => match lsR r e2 with
  | some xs => match rd1 e2 b with
    | some (.int k) => if 0 ≤ k ∧ k ≤ 1000 ∧ xs.length ≤ 1000 then .ok (.new (.ls (List.replicate k.toNat xs).flatten)) e2 else .no
    | _ => .no
  | none => .no
section
variable {X : Cx} {Φ : Fx} {W : WX} {x y : Expr} {fa : Rf} {fb : Ef} {pos : Pos}
theorem d_rep (ha : DR X Φ W x fa) (hb : ∀ Φ, DE X Φ W y fb) : DR X Φ W (.BinOp x .Mult y pos) (eRep fa fb) :=
  pe_weak (pe_op op_rep ha (pe_ex hb)) fun σ H Q ⟨G, F, e, O, h⟩ => ⟨G, F, e, O, Wp.imp (Wp.seq h) fun v H1 ⟨G1, F1, e1, r1, g1, O1, q1, h1⟩ => by
    obtain ⟨A1, L1, P1⟩ := Held.mk' O1 q1
    refine ⟨_, G1, F1, e1, P1, Wp.imp (Wp.seqP (fun o => L1.cv o) h1) fun w H2 ⟨G2, F2, e2, b, g2, O2, q2, h2⟩ => ?_⟩
    have O3 := L1.cv O2
    have k1 : (∃ a, r1 = .arg a ∧ ra X.K a v H2 G2 F2 σ e2) ∨ ∃ w A a, r1 = .new w ∧ v = .ref a ∧ OwAt X.K G2 H2 w a A := by
      cases r1 with
      | arg a => exact .inl ⟨a, rfl, ra_up (L1.ar a rfl) g2⟩
      | new u =>
        obtain ⟨A, _, y1⟩ := L1.rx O2 g2 (Same.refl _) (.inr ⟨u, rfl, rfl⟩)
        obtain ⟨a, ea, oa, _⟩ := y1
        exact .inr ⟨u, A, a, rfl, ea, oa⟩
    split at h2
    · rename_i xs z1
      split at h2
      · rename_i k z2
        split at h2
        · rename_i hl
          obtain ⟨l, vs, rfl, hH, d1⟩ := lsR_ok O3 k1 z1
          obtain rfl := (bp_of O3 q2 z2).int
          refine ⟨l, k, vs, rfl, rfl, hH, by omega, by omega, ?_, fun p hp => ?_⟩
          · rw [DpAll.len d1, sizeLine_eq]
            have a1 : xs.length * k.toNat ≤ 1000 * 1000 := Nat.mul_le_mul hl.2.2 (by omega)
            omega
          · obtain ⟨z1, z2⟩ := rr_new O3 hp (DpAll.rep d1 k.toNat)
            exact h2 _ _ _ F2 (Same.refl _) z1 z2
        · exact h2.elim
      · exact h2.elim
    · exact h2.elim⟩
end
/-! ### enumerate, range down -/
section
variable {X : Cx} {Φ : Fx} {W : WX} {tg x y z : Expr} {fs : Af} {pos p : Pos}
theorem i_enum {elts : List Expr} {kk : Nat} {tpos : Pos} (hm : X.mg "enumerate" = none) (ha : DA X Φ W [x] fs) (hg : Gl X "enumerate" := by rfl) (hs : starEach [x] X.env = [(false, eval x X.env)] := by rfl) :
    DI X Φ W (.Tuple elts kk tpos) (.Call (.Name "enumerate" p) [x] [] pos) (iEnumF fs) :=
  pi_weak (pi_enum hg hm ha hs) fun σ H R ⟨G, F, e, O, h⟩ => ⟨G, F, e, O, Wp.imp (Wp.seq h) fun vs H1 ⟨G1, F1, e1, as, g1, O1, r1, h1⟩ => by
    obtain ⟨G2, e2, ds, g2, O2, d2, h2⟩ := Wp.fzA O1 r1 h1
    split at h2
    · rename_i xs
      cases d2 with
      | cons a t =>
        cases t
        cases a with
        | lst l1 p1 => exact ⟨_, _, rfl, same_l O2.gh l1, h2 _ H1 G2 F1 (Same.refl _) O2 (walk_en l1 p1)⟩
    · exact h2.elim⟩
theorem i_down (hm : X.mg "range" = none) (ha : DA X Φ W [x, y, z] fs) (hg : Gl X "range" := by rfl)
    (hs : starEach [x, y, z] X.env = (false, eval x X.env) :: starEach [y, z] X.env := by rfl) (hpl : (backTo pos (starEach [y, z] X.env)).any (·.1) = false := by rfl) :
    DI X Φ W tg (.Call (.Name "range" p) [x, y, z] [] pos) (iDownF fs) :=
  pi_weak (pi_range3 hg hm ha hs hpl) fun σ H R ⟨G, F, e, O, h⟩ => ⟨G, F, e, O, Wp.imp (Wp.seq h) fun vs H1 ⟨G1, F1, e1, as, g1, O1, r1, h1⟩ => by
    split at h1
    · rename_i m n c q
      split at h1
      · rename_i hn
        obtain ⟨rfl, hm, hn⟩ := hn
        obtain ⟨v, v', v'', rfl, b, b', b''⟩ := bpa3 (bps_of O1 r1 q)
        obtain rfl := b.int
        obtain rfl := b'.int
        obtain rfl := b''.int
        exact ⟨m, n, -1, _, rfl, RgC.neg (small62_iff hm).1 (small62_iff hm).2 (small62_iff hn).1 (small62_iff hn).2, h1 _ H1 G1 F1 (Same.refl _) O1 walk_rc⟩
      · exact h1.elim
    · exact h1.elim⟩
end
end DL
set_option Elab.async false
set_option linter.all false
set_option maxRecDepth 100000
set_option maxHeartbeats 4000000
/-! DlZ: zip over any two of lists and tuples (one proof for the four cases, by the kind of each side). -/
namespace DL
open PySem PySem.Spec PyProof.Rows L2

/-- a side of a zip: a list, a tuple -/
inductive SK where
  | l
  | t
def SK.has : SK → Heap → Addr → Array Value → Prop
  | .l, h, a, xs => h.IsList a xs
  | .t, h, a, xs => h.IsTuple a xs
def SK.cur : SK → Heap → Addr → Addr → Nat → Prop
  | .l, h, it, a, i => h.IsListIter it a i
  | .t, h, it, a, i => h.IsTupleIter it a i
def SK.sq (k : SK) (K : PySem.W.Frag) (H : Hp) (a : Addr) (xs : List V) : Prop := match k with
  | .l => SqL K H a xs
  | .t => SqT K H a xs
def SK.new (k : SK) (a : Addr) : Obj := match k with
  | .l => { cls := .type "list_iterator", data := .fields #[.ref a, .int 0 0] }
  | .t => { cls := .type "tuple_iterator", data := .fields #[.ref a, .int 0 0] }
section
variable {h h' : Heap} {b a it : Addr} {xs : Array Value} {i : Nat}
theorem SK.has_ext (k : SK) (x : k.has h a xs) (e : Heap.ExtBut b h h') (n : a ≠ b) : k.has h' a xs := by
  cases k with
  | l => exact Heap.IsList.extBut x e n
  | t => exact Heap.IsTuple.extBut x e n
theorem SK.cur_ext (k : SK) (x : k.cur h it a i) (e : Heap.ExtBut b h h') (n : it ≠ b) : k.cur h' it a i := by
  cases k with
  | l => exact Heap.IsListIter.extBut x e n
  | t => exact Heap.IsTupleIter.extBut x e n
theorem SK.cur_at (k : SK) (x : k.cur h it a i) (f : ∀ o, h.get? it = some o → h'.get? it = some o) : k.cur h' it a i := by
  cases k with
  | l => exact Heap.IsListIter.at x f
  | t => exact Heap.IsTupleIter.at x f
theorem SK.cur_lt (k : SK) (x : k.cur h it a i) : it < h.objs.size := by
  cases k with
  | l =>
    obtain ⟨_, e, _⟩ := x
    exact Heap.lt_size e
  | t =>
    obtain ⟨_, e, _⟩ := x
    exact Heap.lt_size e
theorem SK.cur_obj (k : SK) (x : k.cur h it a i) : ∃ o, h.get? it = some o ∧ ∃ vs, o.data = .fields vs := by
  cases k with
  | l =>
    obtain ⟨o, e, _, d⟩ := x
    exact ⟨o, e, _, d⟩
  | t =>
    obtain ⟨o, e, _, d⟩ := x
    exact ⟨o, e, _, d⟩
theorem SK.has_lt (k : SK) (x : k.has h a xs) : a < h.objs.size := by
  cases k with
  | l =>
    obtain ⟨_, e, _⟩ := x
    exact Heap.lt_size e
  | t =>
    obtain ⟨_, e, _⟩ := x
    exact Heap.lt_size e
theorem SK.has_push (k : SK) (x : k.has h a xs) (o : Obj) : k.has (h.push o) a xs := by
  cases k with
  | l => exact Heap.IsList.push x _
  | t => exact Heap.IsTuple.push x _
theorem SK.cur_new (k : SK) (e : h.get? it = some (k.new a)) : k.cur h it a 0 := by
  cases k with
  | l => exact ⟨_, e, rfl, rfl⟩
  | t => exact ⟨_, e, rfl, rfl⟩
end
section
variable {prog : Program} {w : World} {A : Around} {E : Value → Shared → Prop} {s : Shared} {it a : Addr} {i : Nat} {xs : Array Value} {x : Value}
theorem SK.step (k : SK) {Q : Value → Shared → Prop} (c : k.cur s.heap it a i) (l : k.has s.heap a xs) (e : xs[i]? = some x) (hQ : ∀ h', k.cur h' it a (i + 1) → Heap.SameBut it s.heap h' → Q x { s with heap := h' }) :
    wpAny (model prog w) A (Builtin.SmallTypes.nextOf (.ref it)) Q E s := by
  cases k with
  | l => exact wpAny_nextOf_list_item c l e hQ
  | t => exact RZ.nextOf_tuple_item c l e hQ
theorem SK.stop (k : SK) {Q : Value → Shared → Prop} (hh : A.handled = none) (c : k.cur s.heap it a i) (l : k.has s.heap a xs) (e : xs[i]? = none)
    (hE : ∀ h' e, Heap.ExtBut it s.heap h' → (∃ o, h'.get? e = some o ∧ o.cls = .type "StopIteration") → E (.ref e) { s with heap := h' }) : wpAny (model prog w) A (Builtin.SmallTypes.nextOf (.ref it)) Q E s := by
  cases k with
  | l => exact wpAny_nextOf_list_end hh c l e hE
  | t => exact RZ.nextOf_tuple_end hh c l e hE
theorem SK.iter (k : SK) {Q : Value → Shared → Prop} (l : k.has s.heap a xs) (hQ : Q (.ref s.heap.objs.size) { s with heap := s.heap.push (k.new a) }) : wpAny (model prog w) A (pyIter (.ref a)) Q E s := by
  cases k with
  | l => exact wpAny_pyIter_list l hQ
  | t => exact wpAny_pyIter_tuple l hQ
end

/-- the state of a zip between two turns -/
structure ZSt (k1 k2 : SK) (h : Heap) (z TI TO i1 i2 l1 l2 : Addr) (n1 n2 : Nat) : Prop where
  z : IsZip h z TI TO .none
  ti : IsPair h TI (.ref i1) (.ref i2)
  c1 : k1.cur h i1 l1 n1
  c2 : k2.cur h i2 l2 n2
section
variable {prog : Program} {w : World} {A : Around} {E : Value → Shared → Prop} {s : Shared} {k1 k2 : SK} {z TI TO i1 i2 l1 l2 : Addr} {n1 n2 : Nat} {xs ys : Array Value} {x y a b : Value}
theorem zip_item (D : ZipApart z TI TO i1 i2 l1 l2) (S : ZSt k1 k2 s.heap z TI TO i1 i2 l1 l2 n1 n2) (hTO : IsPair s.heap TO a b) (hl1 : k1.has s.heap l1 xs) (hl2 : k2.has s.heap l2 ys) (hx : xs[n1]? = some x) (hy : ys[n2]? = some y) {Q : Value → Shared → Prop}
    (hQ : ∀ h', IsZip h' z TI TO (rawInt s.heap.objs.size) → IsPair h' TO x y → k1.cur h' i1 l1 (n1 + 1) → k2.cur h' i2 l2 (n2 + 1) → IsPair h' s.heap.objs.size x y → h'.objs.size = s.heap.objs.size + 1 →
      (∀ c o, c ≠ z → c ≠ TO → c ≠ i1 → c ≠ i2 → s.heap.get? c = some o → h'.get? c = some o) → Q (.ref s.heap.objs.size) { s with heap := h' }) :
    wpAny (model prog w) A (Builtin.«zip.__next__» ⟨[.ref z], []⟩) (fun fin s' => ∃ v, fin = .done (.ret v) ∧ Q v s') E s := by
  show wpAny _ _ (field (.ref z) 2 >>= _) _ _ _
  refine wpAny_bind (wpAny_field S.z rfl (x := .bool false) rfl ?_)
  show wpAny _ _ (field (.ref z) 3 >>= _) _ _ _
  refine wpAny_bind (wpAny_field S.z rfl (x := .ref TI) rfl (wpAny_bind (wpAny_seqItems S.ti rfl ?_)))
  show wpAny _ _ (Builtin.SmallTypes.ownedTupleIsFree (.ref z) >>= _) _ _ _
  refine wpAny_bind ?_
  unfold Builtin.SmallTypes.ownedTupleIsFree
  refine wpAny_bind (wpAny_field S.z rfl (x := .none) rfl (wpAny_pure ?_))
  simp only [if_true]
  refine wpAny_bind (wpAny_rule (wpAny_bind (wpAny_field S.z rfl (x := .ref TO) rfl (wpAny_bind (wpAny_setField_rec S.z (by simp) fun g1 zz1 e1 => ?_)))))
  replace zz1 : IsZip g1 z TI TO .ellipsis := zz1
  refine wpAny_bind ?_
  simp only [List.zipIdx_cons, List.zipIdx_nil, List.forIn_cons, List.forIn_nil]
  refine wpAny_bind (wpAny_bind (wpAny_onRaise ?_))
  show wpAny _ _ (Builtin.SmallTypes.nextOf (.ref i1) >>= _) _ _ _
  refine wpAny_bind (k1.step (k1.cur_ext S.c1 e1.extBut D.i1z) (k1.has_ext hl1 e1.extBut D.l1z) hx fun g2 c2 e2 => wpAny_pure ?_)
  have t2 : IsPair g2 TO a b := e2.extBut _ _ D.TOi1 (e1.extBut _ _ D.TOz hTO)
  refine wpAny_bind (wpAny_seqItems t2 rfl (wpAny_bind (wpAny_updateSeq_pair t2 fun g3 t3 e3 => wpAny_bind (wpAny_letGo (wpAny_pure ?_)))))
  replace t3 : IsPair g3 TO x b := t3
  refine wpAny_bind (wpAny_bind (wpAny_onRaise ?_))
  show wpAny _ _ (Builtin.SmallTypes.nextOf (.ref i2) >>= _) _ _ _
  have u2 := k2.cur_ext (k2.cur_ext (k2.cur_ext S.c2 e1.extBut D.i2z) e2.extBut D.i12.symm) e3.extBut D.TOi2.symm
  have v2 := k2.has_ext (k2.has_ext (k2.has_ext hl2 e1.extBut D.l2z) e2.extBut D.l2i1) e3.extBut D.l2TO
  refine wpAny_bind (k2.step u2 v2 hy fun g4 c4 e4 => wpAny_pure ?_)
  have t4 : IsPair g4 TO x b := e4.extBut _ _ D.TOi2 t3
  refine wpAny_bind (wpAny_seqItems t4 rfl (wpAny_bind (wpAny_updateSeq_pair t4 fun g5 t5 e5 => wpAny_bind (wpAny_letGo (wpAny_pure (wpAny_pure ?_))))))
  replace t5 : IsPair g5 TO x y := t5
  refine wpAny_bind (wpAny_seqItems t5 rfl (wpAny_bind (wpAny_newTuple ?_)))
  have size5 : g5.objs.size = s.heap.objs.size := e5.1.trans (e4.1.trans (e3.1.trans (e2.1.trans e1.1)))
  have zz5 : IsZip g5 z TI TO .ellipsis := e5.extBut _ _ D.TOz.symm (e4.extBut _ _ D.i2z.symm (e3.extBut _ _ D.TOz.symm (e2.extBut _ _ D.i1z.symm zz1)))
  have old5 : ∀ c o, c ≠ z → c ≠ TO → c ≠ i1 → c ≠ i2 → s.heap.get? c = some o → g5.get? c = some o := fun c o q1 q2 q3 q4 e => e5.extBut _ _ q2 (e4.extBut _ _ q4 (e3.extBut _ _ q2 (e2.extBut _ _ q3 (e1.extBut _ _ q1 e))))
  have c15 : k1.cur g5 i1 l1 (n1 + 1) := k1.cur_ext (k1.cur_ext (k1.cur_ext c2 e3.extBut D.TOi1.symm) e4.extBut D.i12) e5.extBut D.TOi1.symm
  have c25 : k2.cur g5 i2 l2 (n2 + 1) := k2.cur_ext c4 e5.extBut D.TOi2.symm
  have zl : z < g5.objs.size := Heap.lt_size zz5
  show wpAny _ _ (Builtin.SmallTypes.ownedTupleHandOut (.ref z) (.ref g5.objs.size) >>= _) _ _ _
  refine wpAny_bind ?_
  unfold Builtin.SmallTypes.ownedTupleHandOut
  have zz6 : IsZip (g5.push { cls := .type "tuple", data := .seq #[x, y] }) z TI TO .ellipsis := Heap.get?_push_of_some _ zz5
  refine wpAny_bind (wpAny_setField_rec zz6 (by simp) fun g7 zz7 e7 => ?_)
  replace zz7 : IsZip g7 z TI TO (rawInt g5.objs.size) := zz7
  refine wpAny_setField_rec zz7 (by simp) fun g8 zz8 e8 => ?_
  replace zz8 : IsZip g8 z TI TO (rawInt g5.objs.size) := zz8
  have up : ∀ c o, c ≠ z → g5.get? c = some o → g8.get? c = some o := fun c o q e => e8.extBut _ _ q (e7.extBut _ _ q (Heap.get?_push_of_some _ e))
  have t8 : IsPair g8 g5.objs.size x y := e8.extBut _ _ (Nat.ne_of_gt zl) (e7.extBut _ _ (Nat.ne_of_gt zl) (Heap.get?_push_size _ rfl))
  have size8 : g8.objs.size = g5.objs.size + 1 := by rw [e8.1, e7.1, Heap.size_push]
  rw [size5] at zz8 t8 size8
  refine wpAny_pure ⟨_, rfl, ?_⟩
  show Q (.ref g5.objs.size) _
  rw [size5]
  exact hQ g8 zz8 (up _ _ D.TOz t5) (k1.cur_at c15 fun o e => up _ o D.i1z e) (k2.cur_at c25 fun o e => up _ o D.i2z e) t8 size8 fun c o q1 q2 q3 q4 e => up c o q1 (old5 c o q1 q2 q3 q4 e)
theorem zip_end (hh : A.handled = none) (D : ZipApart z TI TO i1 i2 l1 l2) (S : ZSt k1 k2 s.heap z TI TO i1 i2 l1 l2 n1 n2) (hTO : IsPair s.heap TO a b) (hl1 : k1.has s.heap l1 xs) (hl2 : k2.has s.heap l2 ys) (hend : xs[n1]? = none ∨ ys[n2]? = none) {Q : Fin → Shared → Prop}
    (hE : ∀ h' e, (∀ c o, c ≠ z → c ≠ TO → c ≠ i1 → c ≠ i2 → s.heap.get? c = some o → h'.get? c = some o) → (∃ o, h'.get? e = some o ∧ o.cls = .type "StopIteration") → E (.ref e) { s with heap := h' }) :
    wpAny (model prog w) A (Builtin.«zip.__next__» ⟨[.ref z], []⟩) Q E s := by
  show wpAny _ _ (field (.ref z) 2 >>= _) _ _ _
  refine wpAny_bind (wpAny_field S.z rfl (x := .bool false) rfl ?_)
  show wpAny _ _ (field (.ref z) 3 >>= _) _ _ _
  refine wpAny_bind (wpAny_field S.z rfl (x := .ref TI) rfl (wpAny_bind (wpAny_seqItems S.ti rfl ?_)))
  show wpAny _ _ (Builtin.SmallTypes.ownedTupleIsFree (.ref z) >>= _) _ _ _
  refine wpAny_bind ?_
  unfold Builtin.SmallTypes.ownedTupleIsFree
  refine wpAny_bind (wpAny_field S.z rfl (x := .none) rfl (wpAny_pure ?_))
  simp only [if_true]
  refine wpAny_bind (wpAny_rule (wpAny_bind (wpAny_field S.z rfl (x := .ref TO) rfl (wpAny_bind (wpAny_setField_rec S.z (by simp) fun g1 zz1 e1 => ?_)))))
  replace zz1 : IsZip g1 z TI TO .ellipsis := zz1
  refine wpAny_bind ?_
  simp only [List.zipIdx_cons, List.zipIdx_nil, List.forIn_cons, List.forIn_nil]
  refine wpAny_bind (wpAny_bind (wpAny_onRaise ?_))
  show wpAny _ _ (Builtin.SmallTypes.nextOf (.ref i1) >>= _) _ _ _
  have u1 := k1.cur_ext S.c1 e1.extBut D.i1z
  have v1 := k1.has_ext hl1 e1.extBut D.l1z
  cases hx : xs[n1]? with
  | none =>
    refine wpAny_bind (k1.stop hh u1 v1 hx fun g2 e f2 ⟨oe, he, ce⟩ => ?_)
    have zz2 : IsZip g2 z TI TO .ellipsis := f2 _ _ D.i1z.symm zz1
    have ez : e ≠ z := fun q => by
      subst q
      rw [zz2] at he
      cases he
      simp at ce
    exact wpAny_setField_rec zz2 (by simp) fun g3 _ e3 => hE g3 e (fun c o q1 _ q3 _ k => e3.extBut _ _ q1 (f2 _ _ q3 (e1.extBut _ _ q1 k))) ⟨oe, e3.extBut _ _ ez he, ce⟩
  | some x =>
    have hy : ys[n2]? = none := hend.elim (fun q => by rw [hx] at q; cases q) id
    refine wpAny_bind (k1.step u1 v1 hx fun g2 c2 e2 => wpAny_pure ?_)
    have t2 : IsPair g2 TO a b := e2.extBut _ _ D.TOi1 (e1.extBut _ _ D.TOz hTO)
    refine wpAny_bind (wpAny_seqItems t2 rfl (wpAny_bind (wpAny_updateSeq_pair t2 fun g3 t3 e3 => wpAny_bind (wpAny_letGo (wpAny_pure ?_)))))
    refine wpAny_bind (wpAny_bind (wpAny_onRaise ?_))
    show wpAny _ _ (Builtin.SmallTypes.nextOf (.ref i2) >>= _) _ _ _
    have u2 := k2.cur_ext (k2.cur_ext (k2.cur_ext S.c2 e1.extBut D.i2z) e2.extBut D.i12.symm) e3.extBut D.TOi2.symm
    have v2 := k2.has_ext (k2.has_ext (k2.has_ext hl2 e1.extBut D.l2z) e2.extBut D.l2i1) e3.extBut D.l2TO
    refine wpAny_bind (k2.stop hh u2 v2 hy fun g4 e f4 ⟨oe, he, ce⟩ => ?_)
    have zz4 : IsZip g4 z TI TO .ellipsis := f4 _ _ D.i2z.symm (e3.extBut _ _ D.TOz.symm (e2.extBut _ _ D.i1z.symm zz1))
    have ez : e ≠ z := fun q => by
      subst q
      rw [zz4] at he
      cases he
      simp at ce
    exact wpAny_setField_rec zz4 (by simp) fun g5 _ e5 => hE g5 e (fun c o q1 q2 q3 q4 k => e5.extBut _ _ q1 (f4 _ _ q4 (e3.extBut _ _ q2 (e2.extBut _ _ q3 (e1.extBut _ _ q1 k))))) ⟨oe, e5.extBut _ _ ez he, ce⟩
end
end DL
set_option Elab.async false
set_option linter.all false
set_option maxRecDepth 100000
set_option maxHeartbeats 4000000
/-! DlY: zip over any two of lists and tuples, as an iteration. -/
namespace DL
open PySem PySem.Spec PyProof.Rows L2
section
variable {prog : Program} {w : World} {A : Around} {E : Value → Shared → Prop} {s : Shared} {k1 k2 : SK} {z TI TO i1 i2 l1 l2 : Addr} {n1 n2 : Nat} {xs ys : Array Value} {x y a b : Value}
theorem zip_next (D : ZipApart z TI TO i1 i2 l1 l2) (S : ZSt k1 k2 s.heap z TI TO i1 i2 l1 l2 n1 n2) (hTO : IsPair s.heap TO a b) (hl1 : k1.has s.heap l1 xs) (hl2 : k2.has s.heap l2 ys) (hx : xs[n1]? = some x) (hy : ys[n2]? = some y) {Q : Option Value → Shared → Prop}
    (hQ : ∀ h', IsZip h' z TI TO (rawInt s.heap.objs.size) → IsPair h' TO x y → k1.cur h' i1 l1 (n1 + 1) → k2.cur h' i2 l2 (n2 + 1) → IsPair h' s.heap.objs.size x y → h'.objs.size = s.heap.objs.size + 1 →
      (∀ c o, c ≠ z → c ≠ TO → c ≠ i1 → c ≠ i2 → s.heap.get? c = some o → h'.get? c = some o) → Q (some (.ref s.heap.objs.size)) { s with heap := h' }) :
    wpAny (model prog w) A (pyNext (.ref z)) Q E s := by
  have hT : s.TypeIs (.ref z) "zip" := ⟨_, S.z, rfl⟩
  unfold pyNext
  exact wpAny_bind (wpAny_attempt (wpAny_callSpecial?_slot (name := Str.ofString "__next__") hT F.slot_zip_next (wpAny_call_entry F.slot_zip_next hT F.entry_zip_next
    (zip_item D S hTO hl1 hl2 hx hy fun h' a1 a2 a3 a4 a5 a6 a7 => wpAny_pure (hQ h' a1 a2 a3 a4 a5 a6 a7)) (F.args_zip_next_1 _))))
theorem zip_done (hh : A.handled = none) (D : ZipApart z TI TO i1 i2 l1 l2) (S : ZSt k1 k2 s.heap z TI TO i1 i2 l1 l2 n1 n2) (hTO : IsPair s.heap TO a b) (hl1 : k1.has s.heap l1 xs) (hl2 : k2.has s.heap l2 ys) (hend : xs[n1]? = none ∨ ys[n2]? = none) {Q : Option Value → Shared → Prop}
    (hQ : ∀ h', (∀ c o, c ≠ z → c ≠ TO → c ≠ i1 → c ≠ i2 → s.heap.get? c = some o → h'.get? c = some o) → Q none { s with heap := h' }) : wpAny (model prog w) A (pyNext (.ref z)) Q E s := by
  have hT : s.TypeIs (.ref z) "zip" := ⟨_, S.z, rfl⟩
  unfold pyNext
  refine wpAny_bind (wpAny_attempt (wpAny_callSpecial?_slot (name := Str.ofString "__next__") hT F.slot_zip_next (wpAny_call_entry F.slot_zip_next hT F.entry_zip_next
    (zip_end (A := A.in1) hh D S hTO hl1 hl2 hend fun h' e hk he => ?_) (F.args_zip_next_1 _))))
  obtain ⟨o, ho, hc⟩ := he
  exact wpAny_bind (wpAny_isInstance (T := "StopIteration") (b := true) ⟨o, ho, hc⟩ isSubtype_stop (wpAny_pure (hQ _ hk)))
end
abbrev zh1 (k1 : SK) (h : Heap) (l1 : Addr) : Heap := h.push (k1.new l1)
abbrev zh2 (k1 k2 : SK) (h : Heap) (l1 l2 : Addr) : Heap := (zh1 k1 h l1).push (k2.new l2)
abbrev zh3 (k1 k2 : SK) (h : Heap) (l1 l2 : Addr) : Heap := (zh2 k1 k2 h l1 l2).push { cls := .type "tuple", data := .seq #[.ref h.objs.size, .ref (zh1 k1 h l1).objs.size] }
abbrev zh4 (k1 k2 : SK) (h : Heap) (l1 l2 : Addr) : Heap := (zh3 k1 k2 h l1 l2).push { cls := .type "tuple", data := .seq #[.none, .none] }
abbrev zh5 (k1 k2 : SK) (h : Heap) (l1 l2 : Addr) : Heap := (zh4 k1 k2 h l1 l2).push { cls := .type "zip", data := .fields #[.none, .bool false, .bool false, .ref (zh2 k1 k2 h l1 l2).objs.size, .ref (zh3 k1 k2 h l1 l2).objs.size] }
theorem meets_zip (k1 k2 : SK) (l1 l2 : Addr) (xs ys : Array Value) :
    Meets (Builtin.«zip.__new__» ⟨[.type "zip", .ref l1, .ref l2], []⟩) (fun _ R s => k1.has s.heap l1 xs ∧ k2.has s.heap l2 ys ∧ R (.ok (.ret (.ref (zh4 k1 k2 s.heap l1 l2).objs.size))) { s with heap := zh5 k1 k2 s.heap l1 l2 }) :=
  .of_wp fun prog w A R s h => by
    obtain ⟨hp, g, d, tk, os⟩ := s
    obtain ⟨hl1, hl2, h⟩ := h
    have hsub := sub_zip
    have h1 : k1.has (Shared.heap ⟨hp, g, d, tk, os⟩) l1 xs := hl1
    have h2 : k2.has (Shared.heap ⟨hp.push (k1.new l1), g, d, tk, os⟩) l2 ys := k2.has_push hl2 _
    wp_walk using k1.iter h1, k2.iter h2
    exact ⟨_, rfl, h⟩
section
variable {prog : Program} {w : World} {A : Around} {E : Value → Shared → Prop} {s : Shared} {k1 k2 : SK}
theorem call_zipK {l1 l2 : Addr} {xs ys : Array Value} {Q : Value → Shared → Prop} (hl1 : k1.has s.heap l1 xs) (hl2 : k2.has s.heap l2 ys)
    (h : ∀ h', ZSt k1 k2 h' (s.heap.objs.size + 4) (s.heap.objs.size + 2) (s.heap.objs.size + 3) s.heap.objs.size (s.heap.objs.size + 1) l1 l2 0 0 → IsPair h' (s.heap.objs.size + 3) .none .none → h'.objs.size = s.heap.objs.size + 5 →
      (∀ c o, s.heap.get? c = some o → h'.get? c = some o) → Q (.ref (s.heap.objs.size + 4)) { s with heap := h' }) :
    wpAny (model prog w) A (call (.type "zip") [.ref l1, .ref l2]) Q E s := by
  refine callType_new F.called_zip (by decide) (F.typeCall_zip_2 _ _) (F.newCall_zip_2 _ _) (fun obj => F.args_object_init_3 obj _ _) F.entry_zip_new (meets_zip k1 k2 l1 l2 xs ys) ⟨hl1, hl2, ?_⟩
  have s1 : (zh1 k1 s.heap l1).objs.size = s.heap.objs.size + 1 := Heap.size_push ..
  have s2 : (zh2 k1 k2 s.heap l1 l2).objs.size = s.heap.objs.size + 2 := by rw [Heap.size_push, s1]
  have s3 : (zh3 k1 k2 s.heap l1 l2).objs.size = s.heap.objs.size + 3 := by rw [Heap.size_push, s2]
  have s4 : (zh4 k1 k2 s.heap l1 l2).objs.size = s.heap.objs.size + 4 := by rw [Heap.size_push, s3]
  have s5 : (zh5 k1 k2 s.heap l1 l2).objs.size = s.heap.objs.size + 5 := by rw [Heap.size_push, s4]
  have free : ∀ (k : SK) (a : Addr), (k.new a).isFreed = false := fun k a => by cases k <;> rfl
  have g5 : (zh5 k1 k2 s.heap l1 l2).get? (zh4 k1 k2 s.heap l1 l2).objs.size = some _ := Heap.get?_push_size _ rfl
  have g4 : (zh5 k1 k2 s.heap l1 l2).get? (zh3 k1 k2 s.heap l1 l2).objs.size = some _ := Heap.get?_push_of_some _ (Heap.get?_push_size _ rfl)
  have g3 : (zh5 k1 k2 s.heap l1 l2).get? (zh2 k1 k2 s.heap l1 l2).objs.size = some _ := Heap.get?_push_of_some _ (Heap.get?_push_of_some _ (Heap.get?_push_size _ rfl))
  have g2 : (zh5 k1 k2 s.heap l1 l2).get? (zh1 k1 s.heap l1).objs.size = some _ := Heap.get?_push_of_some _ (Heap.get?_push_of_some _ (Heap.get?_push_of_some _ (Heap.get?_push_size _ (free k2 l2))))
  have g1 : (zh5 k1 k2 s.heap l1 l2).get? s.heap.objs.size = some _ := Heap.get?_push_of_some _ (Heap.get?_push_of_some _ (Heap.get?_push_of_some _ (Heap.get?_push_of_some _ (Heap.get?_push_size _ (free k1 l1)))))
  show _ ∧ _
  rw [s2, s3, s4] at g5
  rw [s1, s2] at g3
  rw [s3] at g4
  rw [s1] at g2
  rw [s4]
  exact ⟨⟨_, g5, rfl⟩, h _ ⟨g5, g3, k1.cur_new g1, k2.cur_new g2⟩ g4 s5 fun c o x => Heap.get?_push_of_some _ (Heap.get?_push_of_some _ (Heap.get?_push_of_some _ (Heap.get?_push_of_some _ (Heap.get?_push_of_some _ x))))⟩
end
/-- the sides at a and b as they stand at each turn, the items in new pairs -/
def ItK (k1 k2 : SK) (K : PySem.W.Frag) (a b : Addr) : It :=
  ⟨fun i H => ∃ (xs ys : List V) (x y : V), k1.sq K H a xs ∧ k2.sq K H b ys ∧ xs[i]? = some x ∧ ys[i]? = some y,
    fun i H v H' => ∃ T x y, v = .ref T ∧ H T = none ∧ H' = upd H T (.tup [x, y]) ∧ (∀ xs, k1.sq K H a xs → xs[i]? = some x) ∧ ∀ ys, k2.sq K H b ys → ys[i]? = some y,
    fun i H => ∃ xs ys : List V, k1.sq K H a xs ∧ k2.sq K H b ys ∧ (xs.length ≤ i ∨ ys.length ≤ i)⟩
theorem sq_held {X : Cx} {pins : List (Addr × Obj)} {σ : L2.St} {H : Hp} {s : Shared} {a : Addr} {xs : List V} (k : SK) (I : Inv X pins σ H s) (h : k.sq X.K H a xs) : ∃ its : List Value, Vals xs its ∧ k.has s.heap a its.toArray := by
  cases k with
  | l =>
    obtain ⟨its, r, p, _⟩ := I.list h
    exact ⟨its, r, p.isList⟩
  | t =>
    obtain ⟨its, r, p, _⟩ := I.tuple h
    exact ⟨its, r, p⟩
theorem sq_inj {X : Cx} {pins : List (Addr × Obj)} {σ : L2.St} {H : Hp} {s : Shared} {a : Addr} {xs ys : List V} (k : SK) (I : Inv X pins σ H s) (h : k.sq X.K H a xs) (h' : k.sq X.K H a ys) : xs = ys := by
  cases k with
  | l => exact I.list_inj h h'
  | t => exact I.tuple_inj h h'
theorem turn_zipK {P : Program} {w : World} {K : PySem.W.Frag} {elts : List Expr} {kk : Nat} {tpos : Pos} {k1 k2 : SK} {a b z TI TO i1 i2 : Addr} (D : ZipApart z TI TO i1 i2 a b) :
    Turn P w K (.Tuple elts kk tpos) (ItK k1 k2 K a b) [z, TI, TO, i1, i2] z (fun i h => ZSt k1 k2 h z TI TO i1 i2 a b i i ∧ ∃ x y, IsPair h TO x y) where
  mem := by simp
  obj := fun i h ⟨S, x, y, hTO⟩ c hc => by
    have e' : c = z ∨ c = TI ∨ c = TO ∨ c = i1 ∨ c = i2 := by simpa using hc
    rcases e' with q | q | q | q | q
    · rw [q]; exact ⟨_, S.z, fun v q => nomatch q⟩
    · rw [q]; exact ⟨_, S.ti, fun v q => nomatch q⟩
    · rw [q]; exact ⟨_, hTO, fun v q => nomatch q⟩
    · rw [q]
      obtain ⟨o, e, vs, d⟩ := k1.cur_obj S.c1
      exact ⟨o, e, fun v q => by rw [d] at q; cases q⟩
    · rw [q]
      obtain ⟨o, e, vs, d⟩ := k2.cur_obj S.c2
      exact ⟨o, e, fun v q => by rw [d] at q; cases q⟩
  keep := fun i h h' ⟨S, x, y, hTO⟩ k =>
    ⟨⟨k z (by simp) _ S.z, k TI (by simp) _ S.ti, k1.cur_at S.c1 fun o q => k i1 (by simp) o q, k2.cur_at S.c2 fun o q => k i2 (by simp) o q⟩, x, y, k TO (by simp) _ hTO⟩
  item := by
    intro X hP hw hK hc i pins s σ H E I hf ⟨S, x0, y0, hTO⟩ ⟨xs, ys, x, y, qx, qy, hx, hy⟩
    subst hP hw hK
    obtain ⟨its, rv, p⟩ := sq_held k1 I qx
    obtain ⟨its2, rv2, p2⟩ := sq_held k2 I qy
    obtain ⟨u, hu, ru⟩ := rv.get hx
    obtain ⟨u2, hu2, ru2⟩ := rv2.get hy
    have zl : z < s.heap.objs.size := Heap.lt_size S.z
    refine zip_next D S hTO p p2 (x := u) (y := u2) (by simpa using hu) (by simpa using hu2) fun h' z' TO' c1' c2' hT hsz hk => ?_
    refine ⟨_, rfl, wpAny_letOwnedTupleGo_zip (s := { s with heap := h' }) z' fun h'' z'' sb => ?_⟩
    have hT2 : h''.get? s.heap.objs.size = some { cls := .type "tuple", data := .seq #[u, u2] } := (sb.2 _ (Nat.ne_of_gt zl)).trans hT
    have new : ObjOk X.prog X.w (upd H s.heap.objs.size (.tup [x, y])) h'' s.heap.objs.size (.tup [x, y]) := ⟨by show 2 ≤ sizeLine; decide, [u, u2], .cons ru (.cons ru2 .nil), ⟨_, hT2, rfl, _, rfl⟩⟩
    have I1 : Inv X pins σ (upd H s.heap.objs.size (.tup [x, y])) { s with heap := h'' } :=
      I.turnedNew (t' := s.toks) (ch := [z, TI, TO, i1, i2]) (fun c o hb q => (sb.2 c (fun q' => hb (by simp [q']))).trans (hk c o (fun q' => hb (by simp [q'])) (fun q' => hb (by simp [q'])) (fun q' => hb (by simp [q'])) (fun q' => hb (by simp [q'])) q)) hf (Nat.le_refl _) new
    refine ⟨.ref s.heap.objs.size, _, I1, rfl, ⟨_, x, y, rfl, I.hok.fresh (Nat.le_refl _), rfl, fun l hl => by rw [sq_inj k1 I hl qx]; exact hx, fun l hl => by rw [sq_inj k2 I hl qy]; exact hy⟩, ⟨⟨z'', ?_, ?_, ?_⟩, u, u2, ?_⟩, fun c hcm => ?_⟩
    · exact (sb.2 _ D.TIz).trans (hk _ _ D.TIz D.TITO D.TIi1 D.TIi2 S.ti)
    · exact k1.cur_at c1' fun o q => (sb.2 _ D.i1z).trans q
    · exact k2.cur_at c2' fun o q => (sb.2 _ D.i2z).trans q
    · exact (sb.2 _ D.TOz).trans TO'
    · have hlt : c < s.heap.objs.size := by
        have e' : c = z ∨ c = TI ∨ c = TO ∨ c = i1 ∨ c = i2 := by simpa using hcm
        rcases e' with q | q | q | q | q
        · rw [q]; exact zl
        · rw [q]; exact Heap.lt_size S.ti
        · rw [q]; exact Heap.lt_size hTO
        · rw [q]; exact k1.cur_lt S.c1
        · rw [q]; exact k2.cur_lt S.c2
      rw [upd_ne (Nat.ne_of_lt hlt)]
      exact (hf c hcm).1
  done := by
    intro X hP hw hK hc i pins s σ H E I hf ⟨S, x0, y0, hTO⟩ ⟨xs, ys, qx, qy, hend⟩
    subst hP hw hK
    obtain ⟨its, rv, p⟩ := sq_held k1 I qx
    obtain ⟨its2, rv2, p2⟩ := sq_held k2 I qy
    have l1 := rv.length
    have l2 := rv2.length
    have he : its.toArray[i]? = none ∨ its2.toArray[i]? = none := by
      rcases hend with q | q
      · exact .inl (by simp; omega)
      · exact .inr (by simp; omega)
    exact zip_done (I.ok.hd hc) D S hTO p p2 he fun h' hk => ⟨rfl, I.turnedL (t' := s.toks) (ch := [z, TI, TO, i1, i2]) (fun c o hb q =>
      hk c o (fun q' => hb (by simp [q'])) (fun q' => hb (by simp [q'])) (fun q' => hb (by simp [q'])) (fun q' => hb (by simp [q'])) q) hf⟩
  self := fun A i s Q E ⟨S, _⟩ h => wpAny_pyIter_zip S.z h

def iZipK (K : PySem.W.Frag) (ta : TA) : TI := fun σ H R => ta σ H fun vs H1 => ∃ k1 k2 a b xs ys, vs = [.ref a, .ref b] ∧ SK.sq k1 K H1 a xs ∧ SK.sq k2 K H1 b ys ∧ R (ItK k1 k2 K a b) H1
theorem pi_zipK {X : Cx} {e e2 : Expr} {ta : TA} {p pos tpos : Pos} {elts : List Expr} {kk : Nat} (hg : Gl X "zip") (hm : X.mg "zip" = none) (ha : PA X [e, e2] ta)
    (hs : starEach [e, e2] X.env = (false, eval e X.env) :: starEach [e2] X.env := by rfl) (hpl : (backTo pos (starEach [e2] X.env)).any (·.1) = false := by rfl) :
    PI X (.Tuple elts kk tpos) (.Call (.Name "zip" p) [e, e2] [] pos) (iZipK X.K ta) := by
  refine ⟨fun pins s σ H R I h => ?_⟩
  refine Call_ (ld_blt I hg hm PyProof.Rows.boot_zip (PyProof.Rows.callWith_type1 (thn (ha.run pos pins s σ H _ I h) fun us s1 ⟨vs, H1, I1, r1, k1, k2, a, b, xs, ys, ex, qx, qy, q⟩ => ?_) hs hpl))
  subst ex
  cases r1 with
  | cons r rr =>
    cases rr with
    | cons r' rr =>
      cases rr
      cases r
      cases r'
      have fresh : ∀ c, c ∈ [s1.heap.objs.size + 4, s1.heap.objs.size + 2, s1.heap.objs.size + 3, s1.heap.objs.size, s1.heap.objs.size + 1] → FpOk X pins H1 c := fun c hcm => by
        have e' : c = s1.heap.objs.size + 4 ∨ c = s1.heap.objs.size + 2 ∨ c = s1.heap.objs.size + 3 ∨ c = s1.heap.objs.size ∨ c = s1.heap.objs.size + 1 := by simpa using hcm
        have le : s1.heap.objs.size ≤ c := by
          rcases e' with z | z | z | z | z <;> rw [z] <;> omega
        exact I1.fpOk le (I1.hok.fresh le)
      obtain ⟨its, rv, p1⟩ := sq_held k1 I1 qx
      obtain ⟨its2, rv2, p2⟩ := sq_held k2 I1 qy
      refine call_zipK p1 p2 fun h' S hTO hsz hk => wpAny_pyIter_zip S.z ?_
      have I2 : Inv X pins σ H1 { s1 with heap := h' } := I1.kept (t' := s1.toks) hk
      exact ⟨s1.heap.objs.size + 4, [s1.heap.objs.size + 4, s1.heap.objs.size + 2, s1.heap.objs.size + 3, s1.heap.objs.size, s1.heap.objs.size + 1], _, _, H1, rfl, I2, turn_zipK (PySem.W.ktu_apart s1.heap.objs.size a b (k1.has_lt p1) (k2.has_lt p2)), ⟨S, _, _, hTO⟩, fresh, q⟩
section
variable {K : PySem.W.Frag} {G : Hp} {a b : Addr} {xs ys : List V} {ds es : List D} {k1 k2 : SK}
theorem sq_same {H H' : Hp} (k : SK) (s : Same H H') (h : k.sq K H a xs) : k.sq K H' a xs := by
  cases k with
  | l => exact same_l s h
  | t => exact same_t s h
theorem walk_zk (h : k1.sq K G a xs) (h' : k2.sq K G b ys) (p : DpAll K G xs ds) (q : DpAll K G ys es) : Walk (ItK k1 k2 K a b) (zipD ds es).length (Same G) (YD K G (zipD ds es)) := by
  have ln : (zipD ds es).length = min xs.length ys.length := by rw [zipD_len, DpAll.len p, DpAll.len q]
  refine ⟨fun i H hi s => ?_, fun H s => ⟨xs, ys, sq_same k1 s h, sq_same k2 s h', by omega⟩, fun i H v H' hi s y => ?_⟩
  · have h1 : i < xs.length := by omega
    have h2 : i < ys.length := by omega
    exact ⟨xs, ys, xs[i], ys[i], sq_same k1 s h, sq_same k2 s h', by simp [h1], by simp [h2]⟩
  · obtain ⟨T, x, z, e1, e2, e3, e4, e5⟩ := y
    exact yd_pair p q ⟨T, x, z, e1, e2, e3, e4 xs (sq_same k1 s h), e5 ys (sq_same k2 s h')⟩
end
def seqD : D → Option (SK × List D)
  | .list ds => some (.l, ds)
  | .tuple ds => some (.t, ds)
  | _ => none
def iZip2F (fs : Af) : Lf := fun e => (fs e).bind fun as e1 => (fzA as e1).bind fun ds e2 => match ds with
  | [x, y] => match seqD x with
    | some (_, xs) => match seqD y with
      | some (_, ys) => .ok (zipD xs ys) e2
      | none => .no
    | none => .no
  | _ => .no
theorem seqD_at {K : PySem.W.Frag} {G : Hp} {v : V} {d : D} {k : SK} {ds : List D} (h : Dp K G v d) (q : seqD d = some (k, ds)) : ∃ a xs, v = .ref a ∧ k.sq K G a xs ∧ DpAll K G xs ds := by
  cases h with
  | lst h1 h2 =>
    cases q
    exact ⟨_, _, rfl, h1, h2⟩
  | tup h1 h2 =>
    cases q
    exact ⟨_, _, rfl, h1, h2⟩
  | _ => cases q
section
variable {X : Cx} {Φ : Fx} {W : WX} {x y : Expr} {fs : Af} {pos p : Pos}
theorem i_zip2 {elts : List Expr} {kk : Nat} {tpos : Pos} (hm : X.mg "zip" = none) (ha : DA X Φ W [x, y] fs) (hg : Gl X "zip" := by rfl) (hs : starEach [x, y] X.env = (false, eval x X.env) :: starEach [y] X.env := by rfl) (hpl : (backTo pos (starEach [y] X.env)).any (·.1) = false := by rfl) :
    DI X Φ W (.Tuple elts kk tpos) (.Call (.Name "zip" p) [x, y] [] pos) (iZip2F fs) :=
  pi_weak (pi_zipK hg hm ha hs hpl) fun σ H R ⟨G, F, e, O, h⟩ => ⟨G, F, e, O, Wp.imp (Wp.seq h) fun vs H1 ⟨G1, F1, e1, as, g1, O1, r1, h1⟩ => by
    obtain ⟨G2, e2, ds, g2, O2, d2, h2⟩ := Wp.fzA O1 r1 h1
    split at h2
    · rename_i dx dy
      split at h2
      · rename_i k1 xs q1
        split at h2
        · rename_i k2 ys q2
          cases d2 with
          | cons a t =>
            cases t with
            | cons b t =>
              cases t
              obtain ⟨l1, vs1, rfl, s1, p1⟩ := seqD_at a q1
              obtain ⟨l2, vs2, rfl, s2, p2⟩ := seqD_at b q2
              exact ⟨k1, k2, l1, l2, vs1, vs2, rfl, sq_same k1 O2.gh s1, sq_same k2 O2.gh s2, h2 _ H1 G2 F1 (Same.refl _) O2 (walk_zk s1 s2 p1 p2)⟩
        · exact h2.elim
      · exact h2.elim
    · exact h2.elim⟩
end
end DL
set_option Elab.async false
set_option linter.all false
set_option maxRecDepth 100000
set_option maxHeartbeats 4000000
/-! DlS: the frame functions' terms, opened by simp. -/
namespace DL
open PySem L2
section
variable (i j k : Nat) (e : Fr) (f g h : Sf) (a b c : Ef) (r s t : Rf) (as : Af) (ts us : Tf) (d : D)
@[simp] theorem z_eVar : eVar i e = (match e[i]? with
  | none => .no
  | some .un => .no
  | some _ => .ok (.slot i) e) := rfl
@[simp] theorem z_eC : eC d e = .ok (.val d) e := rfl
@[simp] theorem z_eFz : eFz r e = (r e).bind fun r e1 => match r with
  | .arg a => .ok a e1
  | .new w => .ok (.val w.toD) e1 := rfl
@[simp] theorem z_eR : eR a e = (a e).bind fun a e1 => .ok (.arg a) e1 := rfl
@[simp] theorem z_aNil : aNil e = .ok [] e := rfl
@[simp] theorem z_aCons : aCons a as e = (a e).bind fun a e1 => (as e1).bind fun as e2 => .ok (a :: as) e2 := rfl
@[simp] theorem z_eTup : eTup as e = (as e).bind fun as e1 => (fzA as e1).bind fun ds e2 => if ds.length ≤ 1000 then .ok (.val (.tuple ds)) e2 else .no := rfl
@[simp] theorem z_eLst : eLst as e = (as e).bind fun as e1 => (fzA as e1).bind fun ds e2 => if ds.length ≤ 1000 then .ok (.new (.ls ds)) e2 else .no := rfl
@[simp] theorem z_fz1 : fz (.val d) e = .ok d e := rfl
@[simp] theorem z_fz2 : fz (.slot i) e = (match e[i]? with
  | some (.sh d) => .ok d e
  | some (.own w) => .ok w.toD (e.set i (.sh w.toD))
  | _ => .no) := rfl
@[simp] theorem z_fzA1 : fzA [] e = .ok [] e := rfl
@[simp] theorem z_fzA2 (x : Arg) (xs : List Arg) : fzA (x :: xs) e = (fz x e).bind fun d e1 => (fzA xs e1).bind fun ds e2 => .ok (d :: ds) e2 := rfl
@[simp] theorem z_eOp1 (op : D → Option D) : eOp1 op a e = (a e).bind (use1 op) := rfl
@[simp] theorem z_eOp2 (op : D → D → Option D) : eOp2 op a b e = (a e).bind fun a e1 => (b e1).bind fun b e2 => use2 op a b e2 := rfl
@[simp] theorem z_eCall (op : List D → Option D) : eCall op as e = (as e).bind (useN op) := rfl
@[simp] theorem z_eCallN (op : List D → Option (List D)) : eCallN op as e = (as e).bind (useL op) := rfl
@[simp] theorem z_use1 (op : D → Option D) (x : Arg) : use1 op x e = (match rd1 e x with
  | some x => match op x with
    | some d => .ok (.val d) e
    | none => .no
  | none => .no) := rfl
@[simp] theorem z_use2 (op : D → D → Option D) (x y : Arg) : use2 op x y e = (match rd1 e x with
  | some x => match rd1 e y with
    | some y => match op x y with
      | some d => .ok (.val d) e
      | none => .no
    | none => .no
  | none => .no) := rfl
@[simp] theorem z_useN (op : List D → Option D) (x : List Arg) : useN op x e = (match rdA e x with
  | some ds => match op ds with
    | some d => .ok (.val d) e
    | none => .no
  | none => .no) := rfl
@[simp] theorem z_useL (op : List D → Option (List D)) (x : List Arg) : useL op x e = (match rdA e x with
  | some ds => match op ds with
    | some es => .ok (.new (.ls es)) e
    | none => .no
  | none => .no) := rfl
@[simp] theorem z_rd1a : rd1 e (.val d) = some d := rfl
@[simp] theorem z_rd1b : rd1 e (.slot i) = (match e[i]? with
    | some (.sh d) => some d
    | some (.own (.ls ds)) => some (.list ds)
    | some (.io (.ls ds)) => some (.list ds)
    | _ => none) := rfl
@[simp] theorem z_rdA1 : rdA e [] = some [] := rfl
@[simp] theorem z_rdA2 (x : Arg) (xs : List Arg) : rdA e (x :: xs) = (match rd1 e x with
    | some d => match rdA e xs with
      | some ds => some (d :: ds)
      | none => none
    | none => none) := rfl
@[simp] theorem z_tOf : tOf a e = (a e).bind fun a e1 => match rd1 e1 a with
  | some (.bool b) => .ok b e1
  | _ => .no := rfl
@[simp] theorem z_useT (x : Arg) : useT x e = (match rd1 e x with
  | some d => match truth d with
    | some b => .ok b e
    | none => .no
  | none => .no) := rfl
@[simp] theorem z_tTr : tTr a e = (a e).bind useT := rfl
@[simp] theorem z_tAndF : tAndF ts us e = (ts e).bind fun b e1 => match b with
  | true => us e1
  | false => .ok false e1 := rfl
@[simp] theorem z_tOrF : tOrF ts us e = (ts e).bind fun b e1 => match b with
  | true => .ok true e1
  | false => us e1 := rfl
@[simp] theorem z_tNotF : tNotF ts e = (ts e).bind fun b e1 => .ok (!b) e1 := rfl
@[simp] theorem z_eIf : eIf ts a b e = (ts e).bind fun b' e1 => match b' with
  | true => a e1
  | false => b e1 := rfl
@[simp] theorem z_eIfR : eIfR ts r s e = (ts e).bind fun b' e1 => match b' with
  | true => r e1
  | false => s e1 := rfl
@[simp] theorem z_eAnd : eAnd a b e = (a e).bind fun a e1 => (useT a e1).bind fun b' e2 => match b' with
  | true => b e2
  | false => .ok a e2 := rfl
@[simp] theorem z_eOr : eOr a b e = (a e).bind fun a e1 => (useT a e1).bind fun b' e2 => match b' with
  | true => .ok a e2
  | false => b e2 := rfl
@[simp] theorem z_eNot : eNot a e = (a e).bind fun a e1 => (useT a e1).bind fun b e2 => .ok (.val (.bool (!b))) e2 := rfl
@[simp] theorem z_sNil : sNil e = .ok .nx e := rfl
@[simp] theorem z_sSeq : sSeq f g e = (f e).bind fun fl e1 => match fl with
  | .nx => g e1
  | fl => .ok fl e1 := rfl
@[simp] theorem z_sDrop : sDrop a e = (a e).bind fun _ e1 => .ok .nx e1 := rfl
@[simp] theorem z_sIf : sIf ts f g e = (ts e).bind fun b e1 => match b with
  | true => f e1
  | false => g e1 := rfl
@[simp] theorem z_retR1 : retR (.arg (.val d)) e = .ok (.rt (.sh d)) e := rfl
@[simp] theorem z_retR2 : retR (.arg (.slot i)) e = (match e[i]? with
    | some (.sh d) => .ok (.rt (.sh d)) e
    | some (.own w) => .ok (.rt (.own w)) (e.set i .un)
    | _ => .no) := rfl
@[simp] theorem z_retR3 (w : Ow) : retR (.new w) e = .ok (.rt (.own w)) e := rfl
@[simp] theorem z_sRet : sRet r e = (r e).bind retR := rfl
@[simp] theorem z_setR1 (x : Arg) : setR i (.arg x) e = (match e[i]? with
  | some (.io _) => .no
  | none => .no
  | _ => (fz x e).bind fun d e2 => .ok .nx (e2.set i (.sh d))) := rfl
@[simp] theorem z_setR2 (w : Ow) : setR i (.new w) e = (match e[i]? with
  | some (.io _) => .no
  | none => .no
  | _ => .ok .nx (e.set i (.own w))) := rfl
@[simp] theorem z_sSet : sSet i r e = (r e).bind (setR i) := rfl
@[simp] theorem z_sAsg (g' : Gf) : sAsg a g' e = (a e).bind fun a e1 => (fz a e1).bind fun d e2 => match g' d e2 with
  | .ok _ e3 => .ok .nx e3
  | _ => .no := rfl
@[simp] theorem z_fzR1 (x : Arg) : fzR (.arg x) e = (fz x e).bind fun d e1 => .ok (.arg (.val d)) e1 := rfl
@[simp] theorem z_fzR2 (w : Ow) : fzR (.new w) e = .ok (.new w) e := rfl
@[simp] theorem z_putR1 : putR i (.arg (.val d)) e = (match e[i]? with
  | some (.io _) => .no
  | none => .no
  | _ => .ok () (e.set i (.sh d))) := rfl
@[simp] theorem z_putR2 (w : Ow) : putR i (.new w) e = (match e[i]? with
  | some (.io _) => .no
  | none => .no
  | _ => .ok () (e.set i (.own w))) := rfl
@[simp] theorem z_sPar : sPar i j r s e = (r e).bind fun r1 e1 => (s e1).bind fun r2 e2 => (fzR r1 e2).bind fun r3 e3 => (fzR r2 e3).bind fun r4 e4 => (putR i r3 e4).bind fun _ e5 => (putR j r4 e5).bind fun _ e6 => .ok .nx e6 := rfl
@[simp] theorem z_sPar3 : sPar3 i j k r s t e = (r e).bind fun r1 e1 => (s e1).bind fun r2 e2 => (t e2).bind fun r5 e7 => (fzR r1 e7).bind fun r3 e3 => (fzR r2 e3).bind fun r4 e4 => (fzR r5 e4).bind fun r6 e8 =>
  (putR i r3 e8).bind fun _ e5 => (putR j r4 e5).bind fun _ e6 => (putR k r6 e6).bind fun _ e9 => .ok .nx e9 := rfl
@[simp] theorem z_gSet : gSet i d e = (match e[i]? with
  | some (.io _) => .no
  | none => .no
  | _ => .ok () (e.set i (.sh d))) := rfl
@[simp] theorem z_gsNil (ds : List D) : gsNil ds e = (match ds with
  | [] => .ok () e
  | _ => .no) := rfl
@[simp] theorem z_gsCons (g' : Gf) (r' : Gfs) (ds : List D) : gsCons g' r' ds e = (match ds with
  | d :: ds => (g' d e).bind fun _ e1 => r' ds e1
  | [] => .no) := rfl
@[simp] theorem z_gTupF (r' : Gfs) : gTupF r' d e = (match d with
  | .tuple ds => r' ds e
  | _ => .no) := rfl
@[simp] theorem z_gSubF : gSubF a b d e = (a e).bind fun a e1 => (b e1).bind fun b e2 => match rd1 e2 b with
  | some (.int k) => wrL a (fun ds => (ixN ds.length k).map fun n => ds.set n d) e2
  | _ => .no := rfl
@[simp] theorem z_iSeq : iSeq a e = (a e).bind fun a e1 => (fz a e1).bind fun d e2 => R.of (seqOf d) e2 := rfl
@[simp] theorem z_iRng1F : iRng1F as e = (as e).bind fun as e1 => match rdA e1 as with
  | some [.int n] => if small62 n = true then .ok ((List.range n.toNat).map fun (i : Nat) => .int (0 + (i : Int))) e1 else .no
  | _ => .no := rfl
@[simp] theorem z_iRng2F : iRng2F as e = (as e).bind fun as e1 => match rdA e1 as with
  | some [.int m, .int n] => if small62 m = true ∧ small62 n = true then .ok ((List.range (n - m).toNat).map fun (i : Nat) => .int (m + (i : Int))) e1 else .no
  | _ => .no := rfl
@[simp] theorem z_iZipF : iZipF as e = (as e).bind fun as e1 => (fzA as e1).bind fun ds e2 => match ds with
  | [.list xs, .list ys] => .ok (zipD xs ys) e2
  | [.tuple xs, .tuple ys] => .ok (zipD xs ys) e2
  | _ => .no := rfl
@[simp] theorem z_forL1 (g' : Gf) : forL g' f [] e = .ok .nx e := rfl
theorem z_forL2 (g' : Gf) (ds : List D) : forL g' f (d :: ds) e = (match g' d e with
    | .ok _ e1 => match f e1 with
      | .ok .nx e2 => forL g' f ds e2
      | .ok .ct e2 => forL g' f ds e2
      | .ok .bk e2 => .ok .nx e2
      | .ok (.rt s) e2 => .ok (.rt s) e2
      | .ex x e2 => .ex x e2
      | .no => .no
    | _ => .no) := rfl
@[simp] theorem z_sFor (fi : Lf) (g' : Gf) : sFor fi g' f e = (fi e).bind (forL g' f) := rfl
@[simp] theorem z_eMt (op : Mop) : eMt op a as e = (a e).bind fun a e1 => match isLs a e1 with
  | true => (as e1).bind fun as e2 => (fzA as e2).bind fun ds e3 => useM op a ds e3
  | false => .no := rfl
@[simp] theorem z_useM (op : Mop) (ds : List D) : useM op (.slot i) ds e = (match e[i]? with
    | some (.own (.ls cs)) => match op cs ds with
      | some (d, es) => .ok (.val d) (e.set i (.own (.ls es)))
      | none => .no
    | some (.io (.ls cs)) => match op cs ds with
      | some (d, es) => .ok (.val d) (e.set i (.io (.ls es)))
      | none => .no
    | _ => .no) := rfl
@[simp] theorem z_isLs : isLs (.slot i) e = (match e[i]? with
    | some (.own (.ls _)) => true
    | some (.io (.ls _)) => true
    | _ => false) := rfl
@[simp] theorem z_eLc (fi : Lf) (g' : Gf) (vs : List Nat) : eLc fi g' ts a vs e = (fi e).bind fun ds e1 => match bare e1 vs with
  | true => match lcL g' ts a vs ds (wipeE e1 vs) [] with
    | .ok es e2 => .ok (.new (.ls es)) (backE e1 e2 vs)
    | _ => .no
  | false => .no := rfl
@[simp] theorem z_lcL1 (g' : Gf) (vs : List Nat) (acc : List D) : lcL g' ts a vs [] e acc = .ok acc e := rfl
theorem z_lcL2 (g' : Gf) (vs : List Nat) (acc ds : List D) : lcL g' ts a vs (d :: ds) e acc = (match g' d e with
    | .ok _ e1 => match ts e1 with
      | .ok true e2 => match a e2 with
        | .ok a' e3 => match fz a' e3 with
          | .ok d' e4 => if acc.length < 1000000 then lcL g' ts a vs ds (wipeE e4 vs) (acc ++ [d']) else .no
          | _ => .no
        | _ => .no
      | .ok false e2 => lcL g' ts a vs ds (wipeE e2 vs) acc
      | _ => .no
    | _ => .no) := rfl
@[simp] theorem z_tYesF : tYesF e = .ok true e := rfl
@[simp] theorem z_eFnC (F : Fn) (ms : List Bool) : eFnC F ms as e = (as e).bind fun as e1 => if ms.length = as.length then callR F (ms.zip as) e1 else .no := rfl
theorem z_callR (F : Fn) (ps : Ps) : callR F ps e = (match apart (ioL ps) (boL e ps) with
  | false => .no
  | true => match argS e ps with
    | none => .no
    | some sl => match F sl with
      | .no => .no
      | .ex x os => if noIo e (boL e ps) = true then .ex x (slsB ps os true (boL e ps) 0 e) else .no
      | .ok s os => if (flatS s && flatO os) = true then toRV s (.ok (.arg (.val .none)) (slsB ps os false (boL e ps) 0 e)) else
        if noIo e (boL e ps) = true then toRV s (.ok (.arg (.val .none)) (slsB ps os true (boL e ps) 0 e)) else .no) := rfl
end
end DL
set_option Elab.async false
set_option linter.all false
set_option maxRecDepth 100000
set_option maxHeartbeats 4000000
/-! DlT: calls and operations, opened by simp. -/
namespace DL
open PySem L2
section
variable (e r os : Fr) (ps : Ps) (i j : Nat) (d x y z u : D) (w : Ow) (xs ys : List D) (a b : Int)
@[simp] theorem z_ioL0 : ioL [] = [] := rfl
@[simp] theorem z_ioL1 : ioL ((true, .slot i) :: ps) = i :: ioL ps := rfl
@[simp] theorem z_ioL2 (g : Arg) : ioL ((false, g) :: ps) = ioL ps := by cases g <;> rfl
@[simp] theorem z_boL0 : boL e [] = [] := rfl
@[simp] theorem z_boL1 (g : Arg) : boL e ((true, g) :: ps) = boL e ps := by cases g <;> rfl
@[simp] theorem z_boL2 : boL e ((false, .val d) :: ps) = boL e ps := rfl
@[simp] theorem z_boL3 : boL e ((false, .slot i) :: ps) = (match e[i]? with
    | some (.own _) => i :: boL e ps
    | some (.io _) => i :: boL e ps
    | _ => boL e ps) := rfl
@[simp] theorem z_apart0 (bo : List Nat) : apart [] bo = true := rfl
@[simp] theorem z_apart1 (l bo : List Nat) : apart (i :: l) bo = (!(l.contains i) && !(bo.contains i) && apart l bo) := rfl
@[simp] theorem z_argS0 : argS e [] = some [] := rfl
@[simp] theorem z_argS1 (p : Bool × Arg) : argS e (p :: ps) = (match arg1 e p with
    | some s => match argS e ps with
      | some ss => some (s :: ss)
      | none => none
    | none => none) := rfl
@[simp] theorem z_arg1a : arg1 e (true, .slot i) = (match e[i]? with
    | some (.own w) => some (.io w)
    | some (.io w) => some (.io w)
    | _ => none) := rfl
@[simp] theorem z_arg1b : arg1 e (false, .val d) = some (.sh d) := rfl
@[simp] theorem z_arg1c : arg1 e (false, .slot i) = (match e[i]? with
    | some (.sh d) => some (.sh d)
    | some (.own w) => some (.sh w.toD)
    | some (.io w) => some (.sh w.toD)
    | _ => none) := rfl
@[simp] theorem z_outAt0 (os : Fr) : outAt [] os j = none := by cases os <;> rfl
@[simp] theorem z_outAt1 (s : Sl) (ss : Fr) : outAt ((true, .slot i) :: ps) (s :: ss) j = if i = j then (match s with
    | .io w => some w
    | _ => none) else outAt ps ss j := rfl
@[simp] theorem z_outAt2 (s : Sl) (ss : Fr) (g : Arg) : outAt ((false, g) :: ps) (s :: ss) j = outAt ps ss j := by cases g <;> rfl
@[simp] theorem z_slsB0 (fr : Bool) (bo : List Nat) : slsB ps os fr bo j [] = [] := rfl
@[simp] theorem z_slsB1 (fr : Bool) (bo : List Nat) (s : Sl) : slsB ps os fr bo j (s :: r) = slB ps os fr bo j s :: slsB ps os fr bo (j + 1) r := rfl
@[simp] theorem z_slB (fr : Bool) (bo : List Nat) (s : Sl) : slB ps os fr bo j s = (match outAt ps os j with
  | some w => s.put w
  | none => if (ioL ps).contains j then .un else if fr && bo.contains j then (match s with
    | .own w => .sh w.toD
    | s => s) else s) := rfl
@[simp] theorem z_put1 (v : Ow) : (Sl.io v).put w = .io w := rfl
@[simp] theorem z_put2 (v : Ow) : (Sl.own v).put w = .own w := rfl
@[simp] theorem z_toD1 : (Ow.ls xs).toD = .list xs := rfl
@[simp] theorem z_flatS1 : flatS (.sh d) = flatD d := rfl
@[simp] theorem z_flatS2 : flatS (.own w) = false := rfl
@[simp] theorem z_flatD1 : flatD (.int a) = true := rfl
@[simp] theorem z_flatD2 (b : Bool) : flatD (.bool b) = true := rfl
@[simp] theorem z_flatD3 : flatD (.none) = true := rfl
@[simp] theorem z_flatD4 (b : Str) : flatD (.str b) = true := rfl
@[simp] theorem z_flatD5 : flatD (.tuple xs) = false := rfl
@[simp] theorem z_flatD6 : flatD (.list xs) = false := rfl
@[simp] theorem z_flatO0 : flatO [] = true := rfl
@[simp] theorem z_flatO1 : flatO (.sh d :: r) = flatO r := rfl
@[simp] theorem z_flatO2 : flatO (.io (.ls xs) :: r) = (xs.all flatD && flatO r) := rfl
@[simp] theorem z_noIo (bo : List Nat) : noIo e bo = bo.all fun i => match e[i]? with
  | some (.io _) => false
  | _ => true := rfl
@[simp] theorem z_toRV1 (v : RV) : toRV (.sh d) (.ok v e) = .ok (.arg (.val d)) e := rfl
@[simp] theorem z_toRV2 (v : RV) : toRV (.own w) (.ok v e) = .ok (.new w) e := rfl
@[simp] theorem z_outs0 : outs [] e = some [] := by cases e <;> rfl
@[simp] theorem z_outs1 (s : Sl) : outs (.sh d :: r) (s :: e) = (match outs r e with
    | some r => some (.sh d :: r)
    | none => none) := by cases s <;> rfl
@[simp] theorem z_outs2 (v : Ow) : outs (.io w :: r) (.io v :: e) = (match outs r e with
    | some r => some (.io v :: r)
    | none => none) := rfl
@[simp] theorem z_endF (s : Sl) : endF r s e = (match outs r e with
  | some r => .ok s r
  | none => .no) := rfl
@[simp] theorem z_runF (n m : Nat) (f : Sf) (as : Fr) : runF n m f as = (match f (as ++ List.replicate (m - n) .un) with
  | .ok (.rt s) e => endF as s e
  | .ok .nx e => endF as (.sh .none) e
  | .ex x e => match outs as e with
    | some r => .ex x r
    | none => .no
  | _ => .no) := rfl
@[simp] theorem z_dAdd : dAdd (.int a) (.int b) = some (.int (a + b)) := rfl
@[simp] theorem z_dSub : dSub (.int a) (.int b) = some (.int (a - b)) := rfl
@[simp] theorem z_dNeg : dNeg (.int a) = some (.int (-a)) := rfl
@[simp] theorem z_dLt : dLt (.int a) (.int b) = some (.bool (decide (a < b))) := rfl
@[simp] theorem z_dLe : dLe (.int a) (.int b) = some (.bool (decide (a ≤ b))) := rfl
@[simp] theorem z_dGt : dGt (.int a) (.int b) = some (.bool (decide (b < a))) := rfl
@[simp] theorem z_dGe : dGe (.int a) (.int b) = some (.bool (decide (b ≤ a))) := rfl
@[simp] theorem z_dIxt0 : dIx (.tuple (x :: xs)) (.int 0) = some x := by
  have h : L2.ixN (x :: xs).length 0 = some 0 := by
    simp only [List.length_cons, L2.ixN]
    rw [if_pos (by omega), if_pos (by omega)]
    rfl
  show (L2.ixN (x :: xs).length 0).bind _ = _
  rw [h]
  rfl
@[simp] theorem z_dIxt1 : dIx (.tuple (x :: y :: xs)) (.int 1) = some y := by
  have h : L2.ixN (x :: y :: xs).length 1 = some 1 := by
    simp only [List.length_cons, L2.ixN]
    rw [if_pos (by omega), if_pos (by omega)]
    rfl
  show (L2.ixN (x :: y :: xs).length 1).bind _ = _
  rw [h]
  rfl
@[simp] theorem z_dIxt2 : dIx (.tuple (x :: y :: z :: xs)) (.int 2) = some z := by
  have h : L2.ixN (x :: y :: z :: xs).length 2 = some 2 := by
    simp only [List.length_cons, L2.ixN]
    rw [if_pos (by omega), if_pos (by omega)]
    rfl
  show (L2.ixN (x :: y :: z :: xs).length 2).bind _ = _
  rw [h]
  rfl
@[simp] theorem z_dIxt3 : dIx (.tuple (x :: y :: z :: u :: xs)) (.int 3) = some u := by
  have h : L2.ixN (x :: y :: z :: u :: xs).length 3 = some 3 := by
    simp only [List.length_cons, L2.ixN]
    rw [if_pos (by omega), if_pos (by omega)]
    rfl
  show (L2.ixN (x :: y :: z :: u :: xs).length 3).bind _ = _
  rw [h]
  rfl
@[simp] theorem z_dIxt4 : dIx (.tuple (x :: y :: z :: u :: d :: xs)) (.int 4) = some d := by
  have h : L2.ixN (x :: y :: z :: u :: d :: xs).length 4 = some 4 := by
    simp only [List.length_cons, L2.ixN]
    rw [if_pos (by omega), if_pos (by omega)]
    rfl
  show (L2.ixN (x :: y :: z :: u :: d :: xs).length 4).bind _ = _
  rw [h]
  rfl
@[simp] theorem z_dIxl0 : dIx (.list (x :: xs)) (.int 0) = some x := by
  have h : L2.ixN (x :: xs).length 0 = some 0 := by
    simp only [List.length_cons, L2.ixN]
    rw [if_pos (by omega), if_pos (by omega)]
    rfl
  show (L2.ixN (x :: xs).length 0).bind _ = _
  rw [h]
  rfl
@[simp] theorem z_dIxl1 : dIx (.list (x :: y :: xs)) (.int 1) = some y := by
  have h : L2.ixN (x :: y :: xs).length 1 = some 1 := by
    simp only [List.length_cons, L2.ixN]
    rw [if_pos (by omega), if_pos (by omega)]
    rfl
  show (L2.ixN (x :: y :: xs).length 1).bind _ = _
  rw [h]
  rfl
@[simp] theorem z_dIxl2 : dIx (.list (x :: y :: z :: xs)) (.int 2) = some z := by
  have h : L2.ixN (x :: y :: z :: xs).length 2 = some 2 := by
    simp only [List.length_cons, L2.ixN]
    rw [if_pos (by omega), if_pos (by omega)]
    rfl
  show (L2.ixN (x :: y :: z :: xs).length 2).bind _ = _
  rw [h]
  rfl
@[simp] theorem z_dIxl3 : dIx (.list (x :: y :: z :: u :: xs)) (.int 3) = some u := by
  have h : L2.ixN (x :: y :: z :: u :: xs).length 3 = some 3 := by
    simp only [List.length_cons, L2.ixN]
    rw [if_pos (by omega), if_pos (by omega)]
    rfl
  show (L2.ixN (x :: y :: z :: u :: xs).length 3).bind _ = _
  rw [h]
  rfl
@[simp] theorem z_dIxl4 : dIx (.list (x :: y :: z :: u :: d :: xs)) (.int 4) = some d := by
  have h : L2.ixN (x :: y :: z :: u :: d :: xs).length 4 = some 4 := by
    simp only [List.length_cons, L2.ixN]
    rw [if_pos (by omega), if_pos (by omega)]
    rfl
  show (L2.ixN (x :: y :: z :: u :: d :: xs).length 4).bind _ = _
  rw [h]
  rfl
@[simp] theorem z_bLen1 : bLen [.list xs] = some (.int xs.length) := rfl
@[simp] theorem z_bLen2 : bLen [.tuple xs] = some (.int xs.length) := rfl
@[simp] theorem z_bAbs : bAbs [.int a] = some (.int (if a < 0 then -a else a)) := rfl
@[simp] theorem z_bMax2 : bMax2 [.int a, .int b] = some (.int (if b > a then b else a)) := rfl
@[simp] theorem z_bInt : bInt [.int a] = some (.int a) := rfl
@[simp] theorem z_bGcd : bGcd [.int a, .int b] = some (.int ((Nat.gcd a.natAbs b.natAbs : Nat) : Int)) := rfl
@[simp] theorem z_bTuple1 : bTuple [.list xs] = some (.tuple xs) := rfl
@[simp] theorem z_bTuple2 : bTuple [.tuple xs] = some (.tuple xs) := rfl
@[simp] theorem z_bList1 : bList [.list xs] = some xs := rfl
@[simp] theorem z_bList2 : bList [.tuple xs] = some xs := rfl
@[simp] theorem z_bAll : bAll [.list xs] = (allB xs).map fun bs => .bool (bs.all id) := rfl
@[simp] theorem z_bAny : bAny [.list xs] = (allB xs).map fun bs => .bool (bs.any id) := rfl
@[simp] theorem z_allB0 : allB [] = some [] := rfl
@[simp] theorem z_allB1 (b : Bool) : allB (.bool b :: xs) = (match allB xs with
    | some bs => some (b :: bs)
    | none => none) := rfl
@[simp] theorem z_seqOf1 : seqOf (.list xs) = some xs := rfl
@[simp] theorem z_seqOf2 : seqOf (.tuple xs) = some xs := rfl
@[simp] theorem z_truth1 (b : Bool) : truth (.bool b) = some b := rfl
@[simp] theorem z_truth2 : truth (.int a) = some (a != 0) := rfl
@[simp] theorem z_truth3 : truth (.list xs) = some (!xs.isEmpty) := rfl
@[simp] theorem z_truth4 : truth (.tuple xs) = some (!xs.isEmpty) := rfl
@[simp] theorem z_truth5 : truth .none = some false := rfl
@[simp] theorem z_dIs1 (p q : Bool) : dIs (.bool p) (.bool q) = some (.bool (decide (p = q))) := rfl
@[simp] theorem z_dIs2 : dIs d .none = some (.bool (isNone d)) := by cases d <;> rfl
@[simp] theorem z_dIsN1 (p q : Bool) : dIsN (.bool p) (.bool q) = some (.bool (!decide (p = q))) := rfl
@[simp] theorem z_dIsN2 : dIsN d .none = some (.bool (!isNone d)) := by cases d <;> rfl
@[simp] theorem z_isNone1 : isNone .none = true := rfl
@[simp] theorem z_isNone2 : isNone (.tuple xs) = false := rfl
@[simp] theorem z_isNone3 : isNone (.int a) = false := rfl
@[simp] theorem z_isNone4 (p : Bool) : isNone (.bool p) = false := rfl
@[simp] theorem z_wrL1 (i : Nat) (g : List D → Option (List D)) : wrL (.slot i) g e = (match e[i]? with
    | some (.own (.ls ds)) => match g ds with
      | some es => .ok () (e.set i (.own (.ls es)))
      | none => .no
    | some (.io (.ls ds)) => match g ds with
      | some es => .ok () (e.set i (.io (.ls es)))
      | none => .no
    | _ => .no) := rfl
@[simp] theorem z_zipD0 : zipD [] ys = [] := rfl
@[simp] theorem z_zipD1 : zipD (x :: xs) (y :: ys) = .tuple [x, y] :: zipD xs ys := rfl
@[simp] theorem z_wipe0 : wipeE e [] = e := rfl
@[simp] theorem z_wipe1 (vs : List Nat) : wipeE e (i :: vs) = (wipeE e vs).set i .un := rfl
@[simp] theorem z_back0 (e1 : Fr) : backE e e1 [] = e1 := rfl
@[simp] theorem z_back1 (e1 : Fr) (vs : List Nat) : backE e e1 (i :: vs) = (backE e e1 vs).set i (e.getD i .un) := rfl
@[simp] theorem z_bare (vs : List Nat) : bare e vs = vs.all fun j => !(e.getD j .un).owned := rfl
@[simp] theorem z_owned1 : (Sl.sh d).owned = false := rfl
@[simp] theorem z_owned2 : Sl.un.owned = false := rfl
@[simp] theorem z_owned3 : (Sl.own w).owned = true := rfl
@[simp] theorem z_owned4 : (Sl.io w).owned = true := rfl
@[simp] theorem z_isT1 : isT .int (.int a) = true := rfl
@[simp] theorem z_eIsi (T : Ty) (fa : Ef) : eIsi T fa e = (fa e).bind (useI (isT T)) := rfl
@[simp] theorem z_useI (f : D → Bool) (g : Arg) : useI f g e = (match rd1 e g with
  | some d => .ok (.val (.bool (f d))) e
  | none => .no) := rfl
end
end DL
set_option Elab.async false
set_option linter.all false
set_option maxRecDepth 100000
set_option maxHeartbeats 4000000
/-! DlU: whole numbers' sizes; ratios as data. -/
namespace DL
open PySem L2
theorem bits_of {a : Int} {n : Nat} (h : a.natAbs < 2 ^ n) : Builtin.Int.intBits a ≤ n := by
  unfold Builtin.Int.intBits
  split
  · omega
  · rename_i z
    have z' : a.natAbs ≠ 0 := by
      intro q
      have : a = 0 := by omega
      simp [this] at z
    have := (Nat.log2_lt z').mpr h
    omega
theorem of_bits {a : Int} {n : Nat} (h : Builtin.Int.intBits a ≤ n) : a.natAbs < 2 ^ n := by
  unfold Builtin.Int.intBits at h
  split at h
  · rename_i z
    have : a = 0 := by simpa using z
    subst this
    exact Nat.two_pow_pos n
  · rename_i z
    have z' : a.natAbs ≠ 0 := by
      intro q
      have : a = 0 := by omega
      simp [this] at z
    exact (Nat.log2_lt z').mp (by omega)
theorem mul_ok {a b : Int} {m n : Nat} (ha : a.natAbs < 2 ^ m) (hb : b.natAbs < 2 ^ n) (h : m + n ≤ 134217728) : dMul (.int a) (.int b) = some (.int (a * b)) := by
  have h1 := bits_of ha
  have h2 := bits_of hb
  exact if_pos (by omega)
theorem fdiv_ok {a b : Int} {n : Nat} (h0 : b ≠ 0) (hb : b.natAbs < 2 ^ n) (h : n ≤ 9000) : dFdiv (.int a) (.int b) = some (.int (a.fdiv b)) := by
  refine if_pos ⟨h0, ?_⟩
  have z : b.natAbs ≠ 0 := by omega
  have := (Nat.log2_lt z).mpr hb
  omega
theorem fmod_ok {a b : Int} (h0 : b ≠ 0) : dMod (.int a) (.int b) = some (.int (a.fmod b)) := if_pos h0
theorem abs_mul_lt {a b : Int} {m n : Nat} (ha : a.natAbs < 2 ^ m) (hb : b.natAbs < 2 ^ n) : (a * b).natAbs < 2 ^ (m + n) := by
  rw [Int.natAbs_mul, Nat.pow_add]
  have := Nat.mul_le_mul (Nat.le_of_lt ha) (Nat.le_of_lt hb)
  rcases Nat.lt_or_eq_of_le this with h | h
  · exact h
  · exfalso
    by_cases z : b.natAbs = 0
    · rw [z, Nat.mul_zero] at h
      have := Nat.two_pow_pos m
      have := Nat.two_pow_pos n
      have := Nat.mul_pos ‹0 < 2 ^ m› ‹0 < 2 ^ n›
      omega
    · have h1 : a.natAbs * b.natAbs < 2 ^ m * b.natAbs := Nat.mul_lt_mul_of_pos_right ha (by omega)
      have h2 : 2 ^ m * b.natAbs ≤ 2 ^ m * 2 ^ n := Nat.mul_le_mul_left _ (Nat.le_of_lt hb)
      omega
theorem abs_add_lt {a b : Int} {n : Nat} (ha : a.natAbs < 2 ^ n) (hb : b.natAbs < 2 ^ n) : (a + b).natAbs < 2 ^ (n + 1) := by
  have := Int.natAbs_add_le a b
  rw [Nat.pow_succ]
  omega
theorem abs_sub_lt {a b : Int} {n : Nat} (ha : a.natAbs < 2 ^ n) (hb : b.natAbs < 2 ^ n) : (a - b).natAbs < 2 ^ (n + 1) := by
  have := Int.natAbs_sub_le a b
  rw [Nat.pow_succ]
  omega
theorem abs_up {a m n : Nat} (h : a < 2 ^ m) (l : m ≤ n) : a < 2 ^ n := Nat.lt_of_lt_of_le h (Nat.pow_le_pow_right (by decide) l)

/-- a ratio as the program has it -/
def rD (q : Rat) : D := .tuple [.int q.num, .int q.den]
@[simp] theorem z_rD0 (q : Rat) : dIx (rD q) (.int 0) = some (.int q.num) := z_dIxt0 _ _
@[simp] theorem z_rD1 (q : Rat) : dIx (rD q) (.int 1) = some (.int q.den) := z_dIxt1 _ _ _
@[simp] theorem z_rD2 (q : Rat) : flatD (rD q) = false := rfl
@[simp] theorem z_rD3 (q : Rat) : isNone (rD q) = false := rfl
@[simp] theorem z_rD4 (q : Rat) : isT .tuple (rD q) = true := rfl
@[simp] theorem z_rD5 (q : Rat) : bLen [rD q] = some (.int 2) := rfl
@[simp] theorem z_dEq (a b : Int) : dEq (.int a) (.int b) = some (.bool (decide (a = b))) := by
  unfold dEq
  have h : SeqAt.shaped (.int a) = true ∧ SeqAt.shaped (.int b) = true := ⟨rfl, rfl⟩
  rw [if_neg (show ¬ bothStr (.int a) (.int b) = true from Bool.false_ne_true), if_pos h]
  simp only [PyData.eqv]
  have e : (a == b) = decide (a = b) := by
    rw [Bool.eq_iff_iff]
    simp
  rw [e]
@[simp] theorem z_dNe (a b : Int) : dNe (.int a) (.int b) = some (.bool (!decide (a = b))) := by
  unfold dNe
  have h : SeqAt.shaped (.int a) = true ∧ SeqAt.shaped (.int b) = true := ⟨rfl, rfl⟩
  rw [if_neg (show ¬ bothStr (.int a) (.int b) = true from Bool.false_ne_true), if_pos h]
  simp only [PyData.eqv]
  have e : (a == b) = decide (a = b) := by
    rw [Bool.eq_iff_iff]
    simp
  rw [e]
@[simp] theorem z_dEqS (a b : Str) : dEq (.str a) (.str b) = some (.bool (decide (a = b))) := by
  unfold dEq
  rw [if_pos (show bothStr (.str a) (.str b) = true from rfl)]
  simp only [PyData.eqv]
  have e : (a == b) = decide (a = b) := by
    rw [Bool.eq_iff_iff]
    simp
  rw [e]
@[simp] theorem z_dNeS (a b : Str) : dNe (.str a) (.str b) = some (.bool (!decide (a = b))) := by
  unfold dNe
  rw [if_pos (show bothStr (.str a) (.str b) = true from rfl)]
  simp only [PyData.eqv]
  have e : (a == b) = decide (a = b) := by
    rw [Bool.eq_iff_iff]
    simp
  rw [e]
/-- a flat point, a point in space -/
def pD (x y : Rat) : D := .tuple [rD x, rD y]
def pD3 (x y z : Rat) : D := .tuple [rD x, rD y, rD z]
@[simp] theorem z_pD0 (x y : Rat) : dIx (pD x y) (.int 0) = some (rD x) := z_dIxt0 _ _
@[simp] theorem z_pD1 (x y : Rat) : dIx (pD x y) (.int 1) = some (rD y) := z_dIxt1 _ _ _
@[simp] theorem z_pD2 (x y : Rat) : flatD (pD x y) = false := rfl
@[simp] theorem z_pD3 (x y : Rat) : isNone (pD x y) = false := rfl
@[simp] theorem z_pD4 (x y : Rat) : isT .tuple (pD x y) = true := rfl
@[simp] theorem z_pE0 (x y z : Rat) : dIx (pD3 x y z) (.int 0) = some (rD x) := z_dIxt0 _ _
@[simp] theorem z_pE1 (x y z : Rat) : dIx (pD3 x y z) (.int 1) = some (rD y) := z_dIxt1 _ _ _
@[simp] theorem z_pE2 (x y z : Rat) : dIx (pD3 x y z) (.int 2) = some (rD z) := z_dIxt2 _ _ _ _
@[simp] theorem z_pE3 (x y z : Rat) : flatD (pD3 x y z) = false := rfl
@[simp] theorem z_pE4 (x y z : Rat) : isNone (pD3 x y z) = false := rfl
@[simp] theorem z_pE5 (x y z : Rat) : isT .tuple (pD3 x y z) = true := rfl
structure Sz (n : Nat) (q : Rat) : Prop where
  num : q.num.natAbs < 2 ^ n
  den : q.den < 2 ^ n
theorem Sz.up {m n : Nat} {q : Rat} (h : Sz m q) (l : m ≤ n) : Sz n q := ⟨abs_up h.num l, abs_up h.den l⟩
theorem sz_divInt {a b : Int} {n : Nat} (hb : b ≠ 0) (h1 : a.natAbs < 2 ^ n) (h2 : b.natAbs < 2 ^ n) : Sz n (Rat.divInt a b) := by
  have hg : 0 < b.gcd a := Int.gcd_pos_of_ne_zero_left _ hb
  constructor
  · rw [Rat.num_divInt]
    have : (b.sign * a / ((b.gcd a : Nat) : Int)).natAbs ≤ a.natAbs := by
      refine Nat.le_trans (Int.natAbs_ediv_le_natAbs _ _) ?_
      rw [Int.natAbs_mul]
      have hs : b.sign.natAbs ≤ 1 := by
        rw [Int.natAbs_sign]
        split <;> omega
      calc b.sign.natAbs * a.natAbs ≤ 1 * a.natAbs := Nat.mul_le_mul_right _ hs
        _ = a.natAbs := Nat.one_mul _
    omega
  · rw [Rat.den_divInt, if_neg hb]
    have := Nat.div_le_self b.natAbs (b.gcd a)
    omega
theorem den_pos (q : Rat) : 0 < q.den := Nat.pos_of_ne_zero q.den_nz
theorem den_ne (q : Rat) : (q.den : Int) ≠ 0 := by have := den_pos q; omega
theorem add_eq (p q : Rat) : p + q = Rat.divInt (p.num * q.den + q.num * p.den) (p.den * q.den) := by
  have h := Rat.divInt_add_divInt p.num q.num (den_ne p) (den_ne q)
  rwa [Rat.num_divInt_den, Rat.num_divInt_den] at h
theorem sub_eq (p q : Rat) : p - q = Rat.divInt (p.num * q.den - q.num * p.den) (p.den * q.den) := by
  have h := Rat.divInt_sub_divInt p.num q.num (den_ne p) (den_ne q)
  rwa [Rat.num_divInt_den, Rat.num_divInt_den] at h
theorem mul_eq (p q : Rat) : p * q = Rat.divInt (p.num * q.num) (p.den * q.den) := by
  have h := Rat.divInt_mul_divInt p.num q.num (d₁ := p.den) (d₂ := q.den)
  rwa [Rat.num_divInt_den, Rat.num_divInt_den] at h
theorem Sz.add {m n : Nat} {p q : Rat} (hp : Sz m p) (hq : Sz n q) : Sz (m + n + 1) (p + q) := by
  rw [add_eq]
  have hd : ((p.den : Int)).natAbs < 2 ^ m := by simpa using hp.den
  have he : ((q.den : Int)).natAbs < 2 ^ n := by simpa using hq.den
  refine sz_divInt (Int.mul_ne_zero (den_ne p) (den_ne q)) (abs_add_lt (abs_mul_lt hp.num he) ?_) (abs_up (abs_mul_lt hd he) (by omega))
  rw [Nat.add_comm m n]
  exact abs_mul_lt hq.num hd
theorem Sz.sub {m n : Nat} {p q : Rat} (hp : Sz m p) (hq : Sz n q) : Sz (m + n + 1) (p - q) := by
  rw [sub_eq]
  have hd : ((p.den : Int)).natAbs < 2 ^ m := by simpa using hp.den
  have he : ((q.den : Int)).natAbs < 2 ^ n := by simpa using hq.den
  refine sz_divInt (Int.mul_ne_zero (den_ne p) (den_ne q)) (abs_sub_lt (abs_mul_lt hp.num he) ?_) (abs_up (abs_mul_lt hd he) (by omega))
  rw [Nat.add_comm m n]
  exact abs_mul_lt hq.num hd
theorem Sz.mul {m n : Nat} {p q : Rat} (hp : Sz m p) (hq : Sz n q) : Sz (m + n) (p * q) := by
  rw [mul_eq]
  have hd : ((p.den : Int)).natAbs < 2 ^ m := by simpa using hp.den
  have he : ((q.den : Int)).natAbs < 2 ^ n := by simpa using hq.den
  exact sz_divInt (Int.mul_ne_zero (den_ne p) (den_ne q)) (abs_mul_lt hp.num hq.num) (abs_mul_lt hd he)
theorem Sz.neg {m : Nat} {p : Rat} (hp : Sz m p) : Sz m (-p) := ⟨by rw [Rat.neg_num, Int.natAbs_neg]; exact hp.num, by rw [Rat.neg_den]; exact hp.den⟩
/-- made lowest by the greatest common divisor -/
theorem made_pos {a b : Int} (h : 0 < b) : a.fdiv (Nat.gcd a.natAbs b.natAbs : Nat) = (Rat.divInt a b).num ∧ b.fdiv (Nat.gcd a.natAbs b.natAbs : Nat) = ((Rat.divInt a b).den : Int) := by
  have hg : b.gcd a = Nat.gcd a.natAbs b.natAbs := Nat.gcd_comm _ _
  constructor
  · rw [Rat.num_divInt, hg, Int.sign_eq_one_of_pos h, Int.one_mul, Int.fdiv_eq_ediv_of_nonneg _ (by omega)]
  · rw [Rat.den_divInt, if_neg (by omega), hg, Int.fdiv_eq_ediv_of_nonneg _ (by omega), Int.natCast_ediv, Int.natAbs_of_nonneg (by omega)]
theorem made_neg {a b : Int} (h : b < 0) : a.fdiv (0 - (Nat.gcd a.natAbs b.natAbs : Nat)) = (Rat.divInt a b).num ∧ b.fdiv (0 - (Nat.gcd a.natAbs b.natAbs : Nat)) = ((Rat.divInt a b).den : Int) := by
  have hg : b.gcd a = Nat.gcd a.natAbs b.natAbs := Nat.gcd_comm _ _
  have d1 : ((Nat.gcd a.natAbs b.natAbs : Nat) : Int) ∣ a := Int.ofNat_dvd_left.mpr (Nat.gcd_dvd_left _ _)
  have d2 : ((Nat.gcd a.natAbs b.natAbs : Nat) : Int) ∣ b := Int.ofNat_dvd_left.mpr (Nat.gcd_dvd_right _ _)
  have key : ∀ x : Int, ((Nat.gcd a.natAbs b.natAbs : Nat) : Int) ∣ x → x.fdiv (0 - (Nat.gcd a.natAbs b.natAbs : Nat)) = (-x) / (Nat.gcd a.natAbs b.natAbs : Nat) := by
    intro x hx
    have d : (-((Nat.gcd a.natAbs b.natAbs : Nat) : Int)) ∣ x := Int.neg_dvd.mpr hx
    rw [Int.zero_sub, Int.fdiv_eq_ediv_of_dvd d, Int.ediv_neg, Int.neg_ediv_of_dvd hx]
  constructor
  · rw [Rat.num_divInt, hg, Int.sign_eq_neg_one_of_neg h, key a d1, Int.neg_mul, Int.one_mul]
  · rw [Rat.den_divInt, if_neg (by omega), hg, key b d2, Int.natCast_ediv]
    congr 1
    omega
/-! ### signs -/
def sg (q : Rat) : Int := q.num.sign
theorem sign_div {x g : Int} (hg : 0 < g) (d : g ∣ x) : (x / g).sign = x.sign := by
  obtain ⟨y, rfl⟩ := d
  rw [Int.mul_ediv_cancel_left _ (by omega), Int.sign_mul, Int.sign_eq_one_of_pos hg, Int.one_mul]
theorem sg_divInt {a b : Int} (hb : b ≠ 0) : sg (Rat.divInt a b) = b.sign * a.sign := by
  unfold sg
  have hg : 0 < b.gcd a := Int.gcd_pos_of_ne_zero_left _ hb
  have d : ((b.gcd a : Nat) : Int) ∣ b.sign * a := Int.dvd_trans (Int.gcd_dvd_right ..) (Int.dvd_mul_left _ _)
  rw [Rat.num_divInt, sign_div (by omega) d, Int.sign_mul, Int.sign_sign]
theorem den_sign (q : Rat) : (q.den : Int).sign = 1 := Int.sign_eq_one_of_pos (by have := den_pos q; omega)
theorem sg_mul (p q : Rat) : sg (p * q) = sg p * sg q := by
  rw [mul_eq, sg_divInt (Int.mul_ne_zero (den_ne p) (den_ne q)), Int.sign_mul, Int.sign_mul, den_sign, den_sign]
  simp [sg]
theorem sg_neg (p : Rat) : sg (-p) = -sg p := by
  unfold sg
  rw [Rat.neg_num, Int.sign_neg]
theorem sg_zero {p : Rat} : sg p = 0 ↔ p = 0 := by
  unfold sg
  rw [Int.sign_eq_zero_iff_zero, Rat.num_eq_zero]
end DL
set_option Elab.async false
set_option linter.all false
set_option maxRecDepth 100000
set_option maxHeartbeats 4000000
/-! DlV: draws out of a pot. -/
namespace DL
open PySem L2
def mDraw (A B M N S : Int) : Sf := (sSeq (sIf (tOf (eOp2 dGt (eOp2 dIx (eVar 0) (eC (.int 0))) (eC (.int 0)))) (sSeq (sAsg (eCall bDivmod (aCons (eOp2 dIx (eVar 0) (eC (.int 0))) (aCons (eVar 1) aNil))) (gTupF (gsCons (gSubF (eVar 0) (eC (.int 0))) (gsCons (gSet 2) gsNil)))) (sRet (eR (eVar 2)))) sNil) (sSeq (sAsg (eOp2 dMod (eCall bInt (aCons (eOp2 dAdd (eOp2 dMul (eOp2 dIx (eVar 0) (eC (.int 1))) (eC (.int A))) (eC (.int B))) aNil)) (eC (.int M))) (gSubF (eVar 0) (eC (.int 1)))) (sRet (eR (eOp2 dMod (eCall bInt (aCons (eOp2 dFdiv (eOp2 dMod (eCall bInt (aCons (eOp2 dMul (eOp2 dIx (eVar 0) (eC (.int 1))) (eOp2 dIx (eVar 0) (eC (.int 1)))) aNil)) (eC (.int N))) (eC (.int S))) aNil)) (eVar 1))))))
theorem draw_low {A B M N S : Int} {a b c c1 g h q r : Int} (z : ¬ 0 < a) (e1 : dMul (.int b) (.int A) = some (.int c1))
 (e2 : dMod (.int (c1 + B)) (.int M) = some (.int c)) (e3 :  dMul (.int c) (.int c) = some (.int (c * c)))
 (e4 : dMod (.int (c * c)) (.int N) = some (.int g)) (e5 : dFdiv (.int g) (.int S) = some (.int h)) (e6 : dMod (.int h) (.int r) = some (.int q)) :
 runF 2 3 (mDraw A B M N S) [.io (.ls [.int a, .int b]), .sh (.int r)] = .ok (.sh (.int q)) [.io (.ls [.int a, .int c]), .sh (.int r)] := by
    simp [mDraw, z, e1, e2, e3, e4, e5, e6, ixN]
theorem draw_high {A B M N S : Int} {a b r : Int} (z : 0 < a) (e : bDivmod [.int a, .int r] = some (.tuple [.int (a / r), .int (a % r)])) :
 runF 2 3 (mDraw A B M N S) [.io (.ls [.int a, .int b]), .sh (.int r)] = .ok (.sh (.int (a % r))) [.io (.ls [.int (a/r), .int b]), .sh (.int r)] := by
    simp [mDraw, z, e, ixN]
/-- a pot: what is left of the cell, a number that is mixed on -/
structure Pot (p : List D) : Prop where
  ex : ∃ a b : Int, p = [.int a, .int b] ∧ 0 ≤ a ∧ 0 ≤ b ∧ b < 2 ^ 31
theorem draw_ok {A B M N S : Int} (hA : A.natAbs < 2 ^ 31) (hM : 0 < M) (hM2 : M ≤ 2 ^ 31) (hN : 0 < N) (hS : 0 < S) (hS2 : S < 2 ^ 31) {p : List D} (P : Pot p) {r : Int} (h0 : 0 < r) (h1 : r < 1000) :
    ∃ p' dg, Pot p' ∧ 0 ≤ dg ∧ dg < r ∧ runF 2 3 (mDraw A B M N S) [.io (.ls p), .sh (.int r)] = .ok (.sh (.int dg)) [.io (.ls p'), .sh (.int r)] := by
  obtain ⟨a, b, rfl, ha, hb, hb2⟩ := P.ex
  by_cases z : 0 < a
  · have e : bDivmod [.int a, .int r] = some (.tuple [.int (a / r), .int (a % r)]) := if_pos ⟨h0, by
      have := (Nat.log2_lt (n := r.natAbs) (k := 10) (by omega)).mpr (by omega)
      omega⟩
    exact ⟨[.int (a / r), .int b], a % r, ⟨⟨_, _, rfl, Int.ediv_nonneg ha (by omega), hb, hb2⟩⟩, Int.emod_nonneg _ (by omega), Int.emod_lt_of_pos _ h0, draw_high z e⟩
  · have e1 : dMul (.int b) (.int A) = some (.int (b * A)) := mul_ok (m := 31) (n := 31) (by omega) hA (by omega)
    have e2 : dMod (.int (b * A + B)) (.int M) = some (.int ((b * A + B) % M)) := by
      rw [fmod_ok (by omega), Int.fmod_eq_emod_of_nonneg _ (by omega)]
    have l1 : 0 ≤ (b * A + B) % M := Int.emod_nonneg _ (by omega)
    have l2 : (b * A + B) % M < M := Int.emod_lt_of_pos _ (by omega)
    generalize (b * A + B) % M = c at e2 l1 l2
    have e3 : dMul (.int c) (.int c) = some (.int (c * c)) := mul_ok (m := 31) (n := 31) (by omega) (by omega) (by omega)
    have e4 : dMod (.int (c * c)) (.int N) = some (.int ((c * c) % N)) := by
      rw [fmod_ok (by omega), Int.fmod_eq_emod_of_nonneg _ (by omega)]
    generalize (c * c) % N = g at e4
    have e5 : dFdiv (.int g) (.int S) = some (.int (g / S)) := by
      rw [fdiv_ok (n := 31) (by omega) (by omega) (by omega), Int.fdiv_eq_ediv_of_nonneg _ (by omega)]
    have e6 : dMod (.int (g / S)) (.int r) = some (.int ((g / S) % r)) := by
      rw [fmod_ok (by omega), Int.fmod_eq_emod_of_nonneg _ (by omega)]
    exact ⟨[.int a, .int c], (g / S) % r, ⟨⟨_, _, rfl, ha, l1, by omega⟩⟩, Int.emod_nonneg _ (by omega), Int.emod_lt_of_pos _ h0, draw_low z e1 e2 e3 e4 e5 e6⟩
/-! ### the pot -/
def mPot (A B C E M S U V W N O : Int) : Sf := (sSeq (sSet 2 (eR (eOp2 dAdd (eOp2 dMul (eC (.int A)) (eVar 1)) (eC (.int B))))) (sSeq (sIf (tOf (eOp2 dLt (eVar 1) (eCall bLen (aCons (eVar 0) aNil)))) (sSet 2 (eR (eCall bAbs (aCons (eOp2 dIx (eVar 0) (eVar 1)) aNil)))) sNil) (sRet (eLst (aCons (eCall bMax2 (aCons (eC (.int 0)) (aCons (eOp2 dSub (eVar 2) (eOp2 dPow (eC (.int C)) (eC (.int E)))) aNil))) (aCons (eOp2 dAdd (eOp2 dMod (eOp2 dMul (eCall bInt (aCons (eOp2 dAdd (eOp2 dMod (eCall bInt (aCons (eVar 2) aNil)) (eC (.int M))) (eC (.int S))) aNil)) (eOp2 dPow (eOp2 dAdd (eOp2 dMul (eC (.int U)) (eVar 1)) (eC (.int V))) (eC (.int W)))) (eC (.int N))) (eC (.int O))) aNil))))))
theorem pot_gen {A B C E M S U V W N O k k1 k2 len cell T r c y z : Int} {script : D} (hl : bLen [script] = some (.int len)) (e1 : dMul (.int A) (.int k) = some (.int k1))
    (hv : (¬ k < len ∧ cell = k1 + B) ∨ (k < len ∧ ∃ v, dIx script (.int k) = some (.int v) ∧ cell = if v < 0 then -v else v)) (e2 : dPow (.int C) (.int E) = some (.int T)) (e3 : dMod (.int cell) (.int M) = some (.int r))
    (e4 : dMul (.int U) (.int k) = some (.int k2)) (e5 : dPow (.int (k2 + V)) (.int W) = some (.int c)) (e6 : dMul (.int (r + S)) (.int c) = some (.int y)) (e7 : dMod (.int y) (.int N) = some (.int z)) :
    runF 2 3 (mPot A B C E M S U V W N O) [.sh script, .sh (.int k)] = .ok (.own (.ls [.int (if cell - T > 0 then cell - T else 0), .int (z + O)])) [.sh script, .sh (.int k)] := by
  rcases hv with ⟨hk, hc⟩ | ⟨hk, v, hd, hc⟩
  · subst hc
    simp [mPot, hl, e1, hk, e2, e3, e4, e5, e6, e7]
  · rw [hc] at e3 ⊢
    simp [mPot, hl, e1, hk, hd, e2, e3, e4, e5, e6, e7]
/-- a pot is made of a script, whatever it holds -/
theorem pot_ok {A B C E M S U V W N O : Int} (hM : 0 < M) (hM2 : M ≤ 2 ^ 31) (hS : 0 ≤ S) (hS2 : S ≤ 1000) (hN : 0 < N) (hN2 : N < 2147483640) (hO : 0 ≤ O) (hO2 : O ≤ 1) (hU : U = 2) (hV : V = 3) (hW : W = 3) (hC : C = 10) (hE : E = 18) (hA : A = 113) (hB : B = 61)
    {ns : List Int} {k : Nat} (hk : k < 64) :
    ∃ p, Pot p ∧ runF 2 3 (mPot A B C E M S U V W N O) [.sh (.list (ns.map PyData.int)), .sh (.int k)] = .ok (.own (.ls p)) [.sh (.list (ns.map PyData.int)), .sh (.int k)] := by
  subst hU hV hW hC hE hA hB
  have p5 : dPow (.int (2 * (k : Int) + 3)) (.int 3) = some (.int ((2 * (k : Int) + 3) ^ 3)) := by
    have l : (2 * (k : Int) + 3).natAbs < 2 ^ 64 := by omega
    exact if_pos ⟨by omega, by omega, l⟩
  have pw : ∀ i j : Int, 0 ≤ j → j ≤ 1000000 → i.natAbs < 2 ^ 64 → dPow (.int i) (.int j) = some (.int (i ^ j.toNat)) := fun i j h1 h2 h3 => if_pos ⟨h1, h2, h3⟩
  have p2 := pw 10 18 (by omega) (by omega) (by omega)
  generalize (10 : Int) ^ (18 : Int).toNat = T at p2
  have b3 : (2 * (k : Int) + 3).natAbs < 2 ^ 8 := by omega
  have bc : ((2 * (k : Int) + 3) ^ 3).natAbs < 2 ^ (8 + 8 + 8) := by
    have e : (2 * (k : Int) + 3) ^ 3 = (2 * (k : Int) + 3) * (2 * (k : Int) + 3) * (2 * (k : Int) + 3) := by
      rw [Int.pow_succ, Int.pow_succ, Int.pow_succ, Int.pow_zero, Int.one_mul]
    rw [e]
    exact abs_mul_lt (abs_mul_lt b3 b3) b3
  generalize (2 * (k : Int) + 3) ^ 3 = c at p5 bc
  have go : ∀ cell : Int, ((¬ (k : Int) < ns.length ∧ cell = 113 * (k : Int) + 61) ∨ ((k : Int) < ns.length ∧ ∃ v, dIx (.list (ns.map PyData.int)) (.int k) = some (.int v) ∧ cell = if v < 0 then -v else v)) →
      ∃ p, Pot p ∧ runF 2 3 (mPot 113 61 10 18 M S 2 3 3 N O) [.sh (.list (ns.map PyData.int)), .sh (.int k)] = .ok (.own (.ls p)) [.sh (.list (ns.map PyData.int)), .sh (.int k)] := by
    intro cell hv
    have e3 : dMod (.int cell) (.int M) = some (.int (cell % M)) := by
      rw [fmod_ok (by omega), Int.fmod_eq_emod_of_nonneg _ (by omega)]
    have l1 : 0 ≤ cell % M := Int.emod_nonneg _ (by omega)
    have l2 : cell % M < M := Int.emod_lt_of_pos _ (by omega)
    generalize cell % M = r at e3 l1 l2
    have e6 : dMul (.int (r + S)) (.int c) = some (.int ((r + S) * c)) := mul_ok (m := 32) (by omega) bc (by omega)
    have e7 : dMod (.int ((r + S) * c)) (.int N) = some (.int (((r + S) * c) % N)) := by
      rw [fmod_ok (by omega), Int.fmod_eq_emod_of_nonneg _ (by omega)]
    have l3 : 0 ≤ ((r + S) * c) % N := Int.emod_nonneg _ (by omega)
    have l4 : ((r + S) * c) % N < N := Int.emod_lt_of_pos _ (by omega)
    generalize ((r + S) * c) % N = z at e7 l3 l4
    have e1 : dMul (.int 113) (.int k) = some (.int (113 * (k : Int))) := mul_ok (m := 7) (n := 6) (by omega) (by omega) (by omega)
    have e4 : dMul (.int 2) (.int k) = some (.int (2 * (k : Int))) := mul_ok (m := 2) (n := 6) (by omega) (by omega) (by omega)
    refine ⟨_, ⟨⟨_, _, rfl, ?_, ?_, ?_⟩⟩, pot_gen (len := ns.length) (by rw [z_bLen1, List.length_map]) e1 hv p2 e3 e4 p5 e6 e7⟩
    · split <;> omega
    · omega
    · omega
  by_cases h : k < ns.length
  · refine go _ (.inr ⟨by omega, ns[k], ?_, rfl⟩)
    have i1 : L2.ixN (ns.map PyData.int).length (k : Int) = some k := by
      simp only [L2.ixN, List.length_map]
      rw [if_pos (by omega), if_pos (by omega)]
      rfl
    show (L2.ixN (ns.map PyData.int).length (k : Int)).bind _ = _
    rw [i1]
    show (ns.map PyData.int)[k]? = _
    rw [List.getElem?_map, List.getElem?_eq_getElem h]
    rfl
  · exact go _ (.inl ⟨by omega, rfl⟩)
end DL
set_option Elab.async false
set_option linter.all false
set_option maxRecDepth 100000
set_option maxHeartbeats 4000000
/-! DlQ: more to open by simp; reprs of small whole numbers. -/
namespace DL
open PySem L2
section
variable (i j k : Nat) (e : Fr) (f g h : Sf) (a b c : Ef) (r s t : Rf) (as : Af) (ts us : Tf) (d : D)
@[simp] theorem z_eFnK (F : Fn) (ms : List Bool) (ix : List Nat) (dd : List D) (n m : Nat) (bs : Af) : eFnK F ms ix dd n m as bs e = (as e).bind fun as e1 => (bs e1).bind fun bs e2 =>
  if as.length = n ∧ bs.length = m ∧ ms.length = ix.length then callR F (ms.zip (pickA ix (as ++ bs ++ dd.map Arg.val))) e2 else .no := rfl
@[simp] theorem z_pickA0 (l : List Arg) : pickA [] l = [] := rfl
@[simp] theorem z_pickA1 (ix : List Nat) (l : List Arg) : pickA (i :: ix) l = l.getD i (.val .none) :: pickA ix l := rfl
@[simp] theorem z_eFn1 (F : Fn) : eFn1 F r e = (r e).bind fun r e1 => match r with
  | .new w => popR e1.length (callR F [(true, .slot e1.length)] (e1 ++ [.own w]))
  | .arg _ => .no := rfl
@[simp] theorem z_popR1 (n : Nat) : popR n (.ok (.arg (.val d)) e) = .ok (.arg (.val d)) (e.take n) := rfl
@[simp] theorem z_popR2 (n : Nat) (w : Ow) : popR n (.ok (.new w) e) = .ok (.new w) (e.take n) := rfl
@[simp] theorem z_gSeqF (r' : Gfs) : gSeqF r' d e = (match d with
  | .tuple ds => r' ds e
  | .list ds => r' ds e
  | _ => .no) := rfl
@[simp] theorem z_iZip2F : iZip2F as e = (as e).bind fun as e1 => (fzA as e1).bind fun ds e2 => match ds with
  | [x, y] => match seqD x with
    | some (_, xs) => match seqD y with
      | some (_, ys) => .ok (zipD xs ys) e2
      | none => .no
    | none => .no
  | _ => .no := rfl
@[simp] theorem z_seqD1 (ds : List D) : seqD (.list ds) = some (.l, ds) := rfl
@[simp] theorem z_seqD2 (ds : List D) : seqD (.tuple ds) = some (.t, ds) := rfl
@[simp] theorem z_eCat : eCat r s e = (r e).bind fun r e1 => (s e1).bind fun s e2 => match lsR r e2 with
  | some xs => match lsR s e2 with
    | some ys => if xs.length + ys.length ≤ 1000000 then .ok (.new (.ls (xs ++ ys))) e2 else .no
    | none => .no
  | none => .no := rfl
@[simp] theorem z_lsR1 (xs : List D) : lsR (.new (.ls xs)) e = some xs := rfl
@[simp] theorem z_lsR2 : lsR (.arg (.slot i)) e = (match e[i]? with
    | some (.own (.ls ds)) => some ds
    | some (.io (.ls ds)) => some ds
    | _ => none) := rfl
@[simp] theorem z_eChain (u v : D → D → Option D) : eChain u v a b c e = (a e).bind fun a e1 => (b e1).bind fun b e2 => (use2 u a b e2).bind fun k e3 => match rd1 e3 k with
  | some (.bool true) => (c e3).bind fun c e4 => use2 v b c e4
  | some (.bool false) => .ok (.val (.bool false)) e3
  | _ => .no := rfl
@[simp] theorem z_sRaise (x : Exn) : sRaise x e = .ex x e := rfl
@[simp] theorem z_sTry (l : List Hdl) : sTry f l e = (match f e with
  | .ex x e1 => handle l x e1
  | r => r) := rfl
@[simp] theorem z_handle0 (x : Exn) : handle [] x e = .ex x e := rfl
@[simp] theorem z_handle1 (x : Exn) (mt : Str → Option Bool) (l : List Hdl) : handle ((mt, g) :: l) x e = (match mt x.cls with
    | some true => g e
    | some false => handle l x e
    | none => .no) := rfl
theorem z_bRepr (x : D) (h : reprOk x = true) : bRepr [x] = some (.str x.shown) := if_pos h
end
theorem small_log {a : Int} (h : a.natAbs < 2 ^ 1900) : a.natAbs.log2 < 1920 := by
  by_cases z : a.natAbs = 0
  · rw [z]
    decide
  · have := (Nat.log2_lt z).mpr h
    omega
theorem repr2 {a b : Int} (ha : a.natAbs < 2 ^ 1900) (hb : b.natAbs < 2 ^ 1900) : reprOk (.list [.int a, .int b]) = true := by
  have h1 := small_log ha
  have h2 := small_log hb
  have h3 : wD (.list [.int a, .int b]) ≤ sizeLine := by
    simp only [wD, wAll]
    decide
  have h4 : PyData.depth (.list [.int a, .int b]) ≤ 30 := by
    simp only [PyData.depth, PyData.depthAll]
    decide
  simp only [reprOk, PyData.showable, PyData.showableAll, PyData.hasDict, PyData.hasDictAll, h1, h2, h3, h4]
  decide
theorem repr3 {a b c : Int} (ha : a.natAbs < 2 ^ 1900) (hb : b.natAbs < 2 ^ 1900) (hc : c.natAbs < 2 ^ 1900) : reprOk (.list [.int a, .int b, .int c]) = true := by
  have h1 := small_log ha
  have h2 := small_log hb
  have h0 := small_log hc
  have h3 : wD (.list [.int a, .int b, .int c]) ≤ sizeLine := by
    simp only [wD, wAll]
    decide
  have h4 : PyData.depth (.list [.int a, .int b, .int c]) ≤ 30 := by
    simp only [PyData.depth, PyData.depthAll]
    decide
  simp only [reprOk, PyData.showable, PyData.showableAll, PyData.hasDict, PyData.hasDictAll, h1, h2, h0, h3, h4]
  decide
end DL
set_option Elab.async false
set_option linter.all false
set_option maxRecDepth 100000
set_option maxHeartbeats 4000000
/-! DlPl: planes by four whole numbers without a common part. -/
namespace DL
open PySem L2
theorem lcm_step {f d : Nat} (h : 0 < f) (hd : 0 < d) : (f : Int).fdiv ((Nat.gcd f d : Nat) : Int) * (d : Int) = ((Nat.lcm f d : Nat) : Int) := by
  have e : (f : Int).fdiv ((Nat.gcd f d : Nat) : Int) = ((f / Nat.gcd f d : Nat) : Int) := by
    rw [Int.fdiv_eq_ediv_of_nonneg _ (by omega)]
    exact (Int.natCast_ediv _ _).symm
  rw [e, ← Int.natCast_mul, Nat.lcm]
  congr 1
  exact (Nat.div_mul_right_comm (Nat.gcd_dvd_left f d) d)
theorem lcm_lt {f d m n : Nat} (hf : f < 2 ^ m) (hd : d < 2 ^ n) : Nat.lcm f d < 2 ^ (m + n) := by
  have h1 : Nat.lcm f d ≤ f * d := Nat.div_le_self _ _
  have h2 := abs_mul_lt (a := (f : Int)) (b := (d : Int)) (m := m) (n := n) (by simpa using hf) (by simpa using hd)
  rw [Int.natAbs_mul] at h2
  simp at h2
  omega
/-- one turn of the loop for the least common multiple -/
theorem lcm_turn {f d m n : Nat} (hf0 : 0 < f) (hd0 : 0 < d) (hf : f < 2 ^ m) (hd : d < 2 ^ n) (hm : m ≤ 9000) (hn : n ≤ 9000) :
    dFdiv (.int (f : Int)) (.int ((Nat.gcd f d : Nat) : Int)) = some (.int ((f : Int).fdiv ((Nat.gcd f d : Nat) : Int))) ∧
    dMul (.int ((f : Int).fdiv ((Nat.gcd f d : Nat) : Int))) (.int (d : Int)) = some (.int ((Nat.lcm f d : Nat) : Int)) := by
  have g0 : 0 < Nat.gcd f d := Nat.gcd_pos_of_pos_left _ hf0
  have gl : Nat.gcd f d < 2 ^ m := Nat.lt_of_le_of_lt (Nat.gcd_le_left _ hf0) hf
  constructor
  · exact fdiv_ok (n := m) (by omega) (by simpa using gl) hm
  · rw [← lcm_step hf0 hd0]
    refine mul_ok (m := m) (n := n) ?_ (by simpa using hd) (by omega)
    have e : (f : Int).fdiv ((Nat.gcd f d : Nat) : Int) = ((f / Nat.gcd f d : Nat) : Int) := by
      rw [Int.fdiv_eq_ediv_of_nonneg _ (by omega)]
      exact (Int.natCast_ediv _ _).symm
    rw [e]
    have := Nat.div_le_self f (Nat.gcd f d)
    simp only [Int.natAbs_natCast]
    omega
def lcm4 (a b c d : Nat) : Nat := Nat.lcm (Nat.lcm (Nat.lcm (Nat.lcm 1 a) b) c) d
def gcd4 (a b c d : Int) : Nat := Nat.gcd (Nat.gcd (Nat.gcd a.natAbs b.natAbs) c.natAbs) d.natAbs
theorem dvd_lcm4 (a b c d : Nat) : a ∣ lcm4 a b c d ∧ b ∣ lcm4 a b c d ∧ c ∣ lcm4 a b c d ∧ d ∣ lcm4 a b c d := by
  unfold lcm4
  refine ⟨?_, ?_, ?_, Nat.dvd_lcm_right _ _⟩
  · exact Nat.dvd_trans (Nat.dvd_trans (Nat.dvd_trans (Nat.dvd_lcm_right 1 a) (Nat.dvd_lcm_left _ b)) (Nat.dvd_lcm_left _ c)) (Nat.dvd_lcm_left _ d)
  · exact Nat.dvd_trans (Nat.dvd_trans (Nat.dvd_lcm_right _ b) (Nat.dvd_lcm_left _ c)) (Nat.dvd_lcm_left _ d)
  · exact Nat.dvd_trans (Nat.dvd_lcm_right _ c) (Nat.dvd_lcm_left _ d)
theorem lcm4_pos {a b c d : Nat} (ha : 0 < a) (hb : 0 < b) (hc : 0 < c) (hd : 0 < d) : 0 < lcm4 a b c d := Nat.lcm_pos (Nat.lcm_pos (Nat.lcm_pos (Nat.lcm_pos (by decide) ha) hb) hc) hd
theorem lcm4_lt {a b c d n : Nat} (ha : a < 2 ^ n) (hb : b < 2 ^ n) (hc : c < 2 ^ n) (hd : d < 2 ^ n) : lcm4 a b c d < 2 ^ (4 * n + 1) :=
  abs_up (lcm_lt (lcm_lt (lcm_lt (lcm_lt (show (1 : Nat) < 2 ^ 1 from by decide) ha) hb) hc) hd) (by omega)
/-- a ratio times L, whole if its under divides L -/
def whl (L : Nat) (q : Rat) : Int := q.num * ((L / q.den : Nat) : Int)
theorem whl_lt {L m n : Nat} {q : Rat} (h : L < 2 ^ m) (hq : Sz n q) : (whl L q).natAbs < 2 ^ (n + m) := by
  unfold whl
  exact abs_mul_lt hq.num (by have := Nat.div_le_self L q.den; simp only [Int.natAbs_natCast]; omega)
theorem whl_ok {L m n : Nat} {q : Rat} (h : L < 2 ^ m) (hq : Sz n q) (hn : m + n ≤ 9000) : dFdiv (.int (L : Int)) (.int (q.den : Int)) = some (.int ((L / q.den : Nat) : Int)) ∧ dMul (.int q.num) (.int ((L / q.den : Nat) : Int)) = some (.int (whl L q)) := by
  constructor
  · rw [fdiv_ok (n := n) (den_ne q) (by simpa using hq.den) (by omega), Int.fdiv_eq_ediv_of_nonneg _ (by omega), Int.natCast_ediv]
  · exact mul_ok (m := n) (n := m) hq.num (by have := Nat.div_le_self L q.den; simp only [Int.natAbs_natCast]; omega) (by omega)
theorem gcd4_lt {a b c d : Int} {n : Nat} (ha : a.natAbs < 2 ^ n) (hb : b.natAbs < 2 ^ n) (hc : c.natAbs < 2 ^ n) (hd : d.natAbs < 2 ^ n) (h : a ≠ 0 ∨ b ≠ 0 ∨ c ≠ 0) : 0 < gcd4 a b c d ∧ gcd4 a b c d < 2 ^ n := by
  have p1 : 0 < Nat.gcd (Nat.gcd a.natAbs b.natAbs) c.natAbs := by
    rcases h with h | h | h
    · exact Nat.gcd_pos_of_pos_left _ (Nat.gcd_pos_of_pos_left _ (by omega))
    · exact Nat.gcd_pos_of_pos_left _ (Nat.gcd_pos_of_pos_right _ (by omega))
    · exact Nat.gcd_pos_of_pos_right _ (by omega)
  have le : gcd4 a b c d ≤ Nat.gcd (Nat.gcd a.natAbs b.natAbs) c.natAbs := Nat.gcd_le_left _ p1
  refine ⟨Nat.gcd_pos_of_pos_left _ p1, ?_⟩
  rcases h with h | h | h
  · have l1 := Nat.gcd_le_left b.natAbs (show 0 < a.natAbs by omega)
    have l2 := Nat.gcd_le_left c.natAbs (Nat.gcd_pos_of_pos_left b.natAbs (show 0 < a.natAbs by omega))
    omega
  · have l1 := Nat.gcd_le_right a.natAbs (show 0 < b.natAbs by omega)
    have l2 := Nat.gcd_le_left c.natAbs (Nat.gcd_pos_of_pos_right a.natAbs (show 0 < b.natAbs by omega))
    omega
  · have l1 := Nat.gcd_le_right (Nat.gcd a.natAbs b.natAbs) (show 0 < c.natAbs by omega)
    omega
/-- the plane through a point, square to a direction -/
def plL (L : Nat) (a b c d : Rat) : List Int := let g := gcd4 (whl L a) (whl L b) (whl L c) (whl L d); [(whl L a).fdiv g, (whl L b).fdiv g, (whl L c).fdiv g, (whl L d).fdiv g]
def plD (a b c d : Rat) : List Int := plL (lcm4 a.den b.den c.den d.den) a b c d
def iD (ns : List Int) : D := .tuple (ns.map .int)
theorem dAdd31 (a b c d : Rat) : dAdd (pD3 a b c) (.tuple [rD d]) = some (.tuple [rD a, rD b, rD c, rD d]) := by
  have e : dAdd (pD3 a b c) (.tuple [rD d]) = if [rD a, rD b, rD c].length + [rD d].length ≤ sizeLine then some (.tuple ([rD a, rD b, rD c] ++ [rD d])) else none := rfl
  rw [e, if_pos (line1000 (by simp))]
  rfl
end DL
namespace DL
open PySem L2
/-! ### one plane, told once -/
theorem gcd4_mul (k : Nat) (a b c d : Int) : gcd4 ((k : Int) * a) (k * b) (k * c) (k * d) = k * gcd4 a b c d := by
  have e : ∀ x : Int, ((k : Int) * x).natAbs = k * x.natAbs := fun x => by rw [Int.natAbs_mul, Int.natAbs_natCast]
  unfold gcd4
  rw [e, e, e, e, Nat.gcd_mul_left, Nat.gcd_mul_left, Nat.gcd_mul_left]
/-- proportional and without a common part: the same -/
theorem prim_unique {a b c d a' b' c' d' : Int} (h : gcd4 a b c d = 1) (h' : gcd4 a' b' c' d' = 1) {s : Rat} (hs : 0 < s) (ea : (a' : Rat) = s * a) (eb : (b' : Rat) = s * b) (ec : (c' : Rat) = s * c) (ed : (d' : Rat) = s * d) :
    a' = a ∧ b' = b ∧ c' = c ∧ d' = d := by
  have hn : 0 < s.num := by
    have h1 : 0 ≤ s.num := Rat.num_nonneg.mpr (Rat.le_of_lt hs)
    have h2 : s.num ≠ 0 := fun z => by
      have := Rat.num_eq_zero.mp z
      rw [this] at hs
      exact absurd hs (by decide)
    omega
  have key : ∀ x y : Int, (y : Rat) = s * x → (s.den : Int) * y = (s.num.natAbs : Int) * x := by
    intro x y e
    have h1 : ((s.den : Int) : Rat) * s = ((s.num : Int) : Rat) := by
      have e1 : ((s.num : Int) : Rat) / ((s.den : Int) : Rat) = s := by rw [← Rat.divInt_eq_div, Rat.num_divInt_den]
      have e2 : ((s.den : Int) : Rat) ≠ 0 := fun z => den_ne s (Rat.intCast_inj.mp (z.trans rfl))
      have e3 := Rat.div_mul_cancel (a := ((s.num : Int) : Rat)) e2
      rw [e1] at e3
      rw [← e3, Rat.mul_comm]
    have h2 : (((s.den : Int) * y : Int) : Rat) = ((s.num * x : Int) : Rat) := by
      rw [Rat.intCast_mul, Rat.intCast_mul, e, ← Rat.mul_assoc, h1]
    have h3 : (s.den : Int) * y = s.num * x := Rat.intCast_inj.mp h2
    rw [h3]
    congr 1
    omega
  have ka := key a a' ea
  have kb := key b b' eb
  have kc := key c c' ec
  have kd := key d d' ed
  have g1 : gcd4 ((s.den : Int) * a') (s.den * b') (s.den * c') (s.den * d') = s.den := by rw [gcd4_mul, h', Nat.mul_one]
  have g2 : gcd4 ((s.num.natAbs : Int) * a) (s.num.natAbs * b) (s.num.natAbs * c) (s.num.natAbs * d) = s.num.natAbs := by rw [gcd4_mul, h, Nat.mul_one]
  rw [ka, kb, kc, kd, g2] at g1
  have p : (0 : Int) < s.den := by have := den_pos s; omega
  rw [g1] at ka kb kc kd
  exact ⟨Int.eq_of_mul_eq_mul_left (by omega) ka, Int.eq_of_mul_eq_mul_left (by omega) kb, Int.eq_of_mul_eq_mul_left (by omega) kc, Int.eq_of_mul_eq_mul_left (by omega) kd⟩
end DL
namespace DL
open PySem L2
/-- k l m j: the plane of the row a b c d -/
structure Pl (k l m j : Int) (a b c d : Rat) : Prop where
  prim : gcd4 k l m j = 1
  ex : ∃ t : Rat, 0 < t ∧ (k : Rat) = t * a ∧ (l : Rat) = t * b ∧ (m : Rat) = t * c ∧ (j : Rat) = t * d
theorem div_pos' {s t : Rat} (hs : 0 < s) (ht : 0 < t) : 0 < s / t := by
  rw [Rat.div_def]
  exact Rat.mul_pos hs (Rat.inv_pos.mpr ht)
theorem Pl.unique {k l m j k' l' m' j' : Int} {a b c d u : Rat} (h : Pl k l m j a b c d) (hu : 0 < u) (h' : Pl k' l' m' j' (u * a) (u * b) (u * c) (u * d)) : k' = k ∧ l' = l ∧ m' = m ∧ j' = j := by
  obtain ⟨t, ht, e1, e2, e3, e4⟩ := h.ex
  obtain ⟨t', ht', f1, f2, f3, f4⟩ := h'.ex
  have t0 : t ≠ 0 := fun z => by
    rw [z] at ht
    exact absurd ht (by decide)
  have s0 : 0 < t' * u / t := div_pos' (Rat.mul_pos ht' hu) ht
  have go : ∀ {x y : Rat} {p : Rat}, x = t * p → y = t' * (u * p) → y = t' * u / t * x := fun {x y p} h1 h2 => by
    have := Rat.div_mul_cancel (a := t' * u) t0
    grind
  exact prim_unique h.prim h'.prim s0 (go e1 f1) (go e2 f2) (go e3 f3) (go e4 f4)
theorem Pl.neg {k l m j : Int} {a b c d : Rat} (h : Pl k l m j a b c d) : Pl (-k) (-l) (-m) (-j) (-a) (-b) (-c) (-d) := by
  obtain ⟨t, ht, e1, e2, e3, e4⟩ := h.ex
  refine ⟨?_, t, ht, ?_, ?_, ?_, ?_⟩
  · have := h.prim
    unfold gcd4 at this ⊢
    rw [Int.natAbs_neg, Int.natAbs_neg, Int.natAbs_neg, Int.natAbs_neg]
    exact this
  · rw [Rat.intCast_neg, e1]
    grind
  · rw [Rat.intCast_neg, e2]
    grind
  · rw [Rat.intCast_neg, e3]
    grind
  · rw [Rat.intCast_neg, e4]
    grind
theorem whl_rat {L : Nat} {q : Rat} (hd : q.den ∣ L) : ((whl L q : Int) : Rat) = ((L : Int) : Rat) * q := by
  obtain ⟨x, rfl⟩ := hd
  unfold whl
  have e : q.den * x / q.den = x := Nat.mul_div_cancel_left x (den_pos q)
  rw [e]
  have e1 : ((q.num : Int) : Rat) / ((q.den : Int) : Rat) = q := by rw [← Rat.divInt_eq_div, Rat.num_divInt_den]
  have e2 : ((q.den : Int) : Rat) ≠ 0 := fun z => den_ne q (Rat.intCast_inj.mp (z.trans rfl))
  have e3 := Rat.div_mul_cancel (a := ((q.num : Int) : Rat)) e2
  rw [e1] at e3
  rw [Rat.intCast_mul, ← e3, Int.natCast_mul, Rat.intCast_mul]
  grind
theorem gcd4_dvds (a b c d : Int) : ((gcd4 a b c d : Nat) : Int) ∣ a ∧ ((gcd4 a b c d : Nat) : Int) ∣ b ∧ ((gcd4 a b c d : Nat) : Int) ∣ c ∧ ((gcd4 a b c d : Nat) : Int) ∣ d := by
  refine ⟨Int.ofNat_dvd_left.mpr ?_, Int.ofNat_dvd_left.mpr ?_, Int.ofNat_dvd_left.mpr ?_, Int.ofNat_dvd_left.mpr (Nat.gcd_dvd_right _ _)⟩
  · exact Nat.dvd_trans (Nat.gcd_dvd_left _ _) (Nat.dvd_trans (Nat.gcd_dvd_left _ _) (Nat.gcd_dvd_left _ _))
  · exact Nat.dvd_trans (Nat.gcd_dvd_left _ _) (Nat.dvd_trans (Nat.gcd_dvd_left _ _) (Nat.gcd_dvd_right _ _))
  · exact Nat.dvd_trans (Nat.gcd_dvd_left _ _) (Nat.gcd_dvd_right _ _)
theorem fdiv_back {w : Int} {g : Nat} (h : 0 < g) (d : (g : Int) ∣ w) : (g : Int) * w.fdiv g = w := by
  rw [Int.fdiv_eq_ediv_of_nonneg _ (by omega)]
  exact Int.mul_ediv_cancel' d
theorem whl_zero {L : Nat} {q : Rat} (h0 : 0 < L) (hd : q.den ∣ L) (h : q ≠ 0) : whl L q ≠ 0 := by
  have h1 : q.num ≠ 0 := fun z => h (Rat.num_eq_zero.mp z)
  have h2 : 0 < L / q.den := Nat.div_pos (Nat.le_of_dvd h0 hd) (den_pos q)
  exact Int.mul_ne_zero h1 (by omega)
/-- what the sums come to is the plane of the row, of so many bits -/
theorem pl_of {a b c d : Rat} (h : a ≠ 0 ∨ b ≠ 0 ∨ c ≠ 0) : ∃ k l m j, plD a b c d = [k, l, m, j] ∧ Pl k l m j a b c d ∧
    ∀ n p, Sz n a → Sz n b → Sz n c → Sz p d → n ≤ p → k.natAbs < 2 ^ (3 * n + 2 * p + 1) ∧ l.natAbs < 2 ^ (3 * n + 2 * p + 1) ∧ m.natAbs < 2 ^ (3 * n + 2 * p + 1) ∧ j.natAbs < 2 ^ (3 * n + 2 * p + 1) := by
  have lp := lcm4_pos (den_pos a) (den_pos b) (den_pos c) (den_pos d)
  have dv := dvd_lcm4 a.den b.den c.den d.den
  have ls : ∀ n p, Sz n a → Sz n b → Sz n c → Sz p d → lcm4 a.den b.den c.den d.den < 2 ^ (3 * n + p + 1) := fun n p h1 h2 h3 h4 =>
    abs_up (lcm_lt (lcm_lt (lcm_lt (lcm_lt (show (1 : Nat) < 2 ^ 1 from by decide) h1.den) h2.den) h3.den) h4.den) (by omega)
  unfold plD
  generalize lcm4 a.den b.den c.den d.den = L at lp dv ls
  have nz : whl L a ≠ 0 ∨ whl L b ≠ 0 ∨ whl L c ≠ 0 := by
    rcases h with h | h | h
    · exact .inl (whl_zero lp dv.1 h)
    · exact .inr (.inl (whl_zero lp dv.2.1 h))
    · exact .inr (.inr (whl_zero lp dv.2.2.1 h))
  have gp : 0 < gcd4 (whl L a) (whl L b) (whl L c) (whl L d) := by
    unfold gcd4
    rcases nz with z | z | z
    · exact Nat.gcd_pos_of_pos_left _ (Nat.gcd_pos_of_pos_left _ (Nat.gcd_pos_of_pos_left _ (by omega)))
    · exact Nat.gcd_pos_of_pos_left _ (Nat.gcd_pos_of_pos_left _ (Nat.gcd_pos_of_pos_right _ (by omega)))
    · exact Nat.gcd_pos_of_pos_left _ (Nat.gcd_pos_of_pos_right _ (by omega))
  obtain ⟨d1, d2, d3, d4⟩ := gcd4_dvds (whl L a) (whl L b) (whl L c) (whl L d)
  have b1 := fdiv_back gp d1
  have b2 := fdiv_back gp d2
  have b3 := fdiv_back gp d3
  have b4 := fdiv_back gp d4
  refine ⟨_, _, _, _, rfl, ⟨?_, ?_⟩, ?_⟩
  · have e := gcd4_mul (gcd4 (whl L a) (whl L b) (whl L c) (whl L d)) ((whl L a).fdiv (gcd4 (whl L a) (whl L b) (whl L c) (whl L d))) ((whl L b).fdiv (gcd4 (whl L a) (whl L b) (whl L c) (whl L d))) ((whl L c).fdiv (gcd4 (whl L a) (whl L b) (whl L c) (whl L d))) ((whl L d).fdiv (gcd4 (whl L a) (whl L b) (whl L c) (whl L d)))
    rw [b1, b2, b3, b4] at e
    exact Nat.eq_of_mul_eq_mul_left gp (by rw [Nat.mul_one]; exact e.symm)
  · generalize gcd4 (whl L a) (whl L b) (whl L c) (whl L d) = g at gp b1 b2 b3 b4
    have g0 : (0 : Rat) < ((g : Int) : Rat) := by
      rw [show (0 : Rat) = ((0 : Int) : Rat) from rfl]
      exact Rat.intCast_lt_intCast.mpr (by omega)
    have l0 : (0 : Rat) < ((L : Int) : Rat) := by
      rw [show (0 : Rat) = ((0 : Int) : Rat) from rfl]
      exact Rat.intCast_lt_intCast.mpr (by omega)
    have gn : ((g : Int) : Rat) ≠ 0 := fun z => by
      rw [z] at g0
      exact absurd g0 (by decide)
    have go : ∀ {q : Rat} {x : Int}, q.den ∣ L → (g : Int) * x = whl L q → (x : Rat) = ((L : Int) : Rat) / ((g : Int) : Rat) * q := fun {q x} hd e => by
      have e1 := whl_rat hd
      rw [← e, Rat.intCast_mul] at e1
      have e2 := Rat.div_mul_cancel (a := ((L : Int) : Rat)) gn
      grind
    exact ⟨_, div_pos' l0 g0, go dv.1 b1, go dv.2.1 b2, go dv.2.2.1 b3, go dv.2.2.2 b4⟩
  · intro n p h1 h2 h3 h4 hp
    have hl := ls n p h1 h2 h3 h4
    have go : ∀ {q : Rat}, Sz p q → ((gcd4 (whl L a) (whl L b) (whl L c) (whl L d) : Nat) : Int) ∣ whl L q → ((whl L q).fdiv (gcd4 (whl L a) (whl L b) (whl L c) (whl L d))).natAbs < 2 ^ (3 * n + 2 * p + 1) := fun {q} hq d => by
      have w := abs_up (whl_lt hl hq) (show p + (3 * n + p + 1) ≤ 3 * n + 2 * p + 1 by omega)
      rw [Int.fdiv_eq_ediv_of_nonneg _ (by omega)]
      exact Nat.lt_of_le_of_lt (Int.natAbs_ediv_le_natAbs _ _) w
    exact ⟨go (h1.up hp) d1, go (h2.up hp) d2, go (h3.up hp) d3, go h4 d4⟩
end DL
set_option Elab.async false
set_option linter.all false
set_option maxRecDepth 100000
set_option maxHeartbeats 4000000
/-! DlV2: pots of any law. -/
namespace DL
open PySem L2
/-- a pot is made of a script, whatever it holds -/
theorem pot_all {A B C E M S U V W N O : Int} (hM : 0 < M) (hM2 : M ≤ 2 ^ 31) (hS : 0 ≤ S) (hS2 : S ≤ 1000) (hN : 0 < N) (hN2 : N < 2147483640) (hO : 0 ≤ O) (hO2 : O ≤ 1) (hU : U = 2) (hV : V = 3) (hW : W = 3) (hC : C = 10) (hE : E = 18) (hA : A.natAbs < 2 ^ 31)
    {ns : List Int} {k : Nat} (hk : k < 64) :
    ∃ p, Pot p ∧ runF 2 3 (mPot A B C E M S U V W N O) [.sh (.list (ns.map PyData.int)), .sh (.int k)] = .ok (.own (.ls p)) [.sh (.list (ns.map PyData.int)), .sh (.int k)] := by
  subst hU hV hW hC hE
  have p5 : dPow (.int (2 * (k : Int) + 3)) (.int 3) = some (.int ((2 * (k : Int) + 3) ^ 3)) := by
    have l : (2 * (k : Int) + 3).natAbs < 2 ^ 64 := by omega
    exact if_pos ⟨by omega, by omega, l⟩
  have pw : ∀ i j : Int, 0 ≤ j → j ≤ 1000000 → i.natAbs < 2 ^ 64 → dPow (.int i) (.int j) = some (.int (i ^ j.toNat)) := fun i j h1 h2 h3 => if_pos ⟨h1, h2, h3⟩
  have p2 := pw 10 18 (by omega) (by omega) (by omega)
  generalize (10 : Int) ^ (18 : Int).toNat = T at p2
  have b3 : (2 * (k : Int) + 3).natAbs < 2 ^ 8 := by omega
  have bc : ((2 * (k : Int) + 3) ^ 3).natAbs < 2 ^ (8 + 8 + 8) := by
    have e : (2 * (k : Int) + 3) ^ 3 = (2 * (k : Int) + 3) * (2 * (k : Int) + 3) * (2 * (k : Int) + 3) := by
      rw [Int.pow_succ, Int.pow_succ, Int.pow_succ, Int.pow_zero, Int.one_mul]
    rw [e]
    exact abs_mul_lt (abs_mul_lt b3 b3) b3
  generalize (2 * (k : Int) + 3) ^ 3 = c at p5 bc
  have go : ∀ cell : Int, ((¬ (k : Int) < ns.length ∧ cell = A * (k : Int) + B) ∨ ((k : Int) < ns.length ∧ ∃ v, dIx (.list (ns.map PyData.int)) (.int k) = some (.int v) ∧ cell = if v < 0 then -v else v)) →
      ∃ p, Pot p ∧ runF 2 3 (mPot A B 10 18 M S 2 3 3 N O) [.sh (.list (ns.map PyData.int)), .sh (.int k)] = .ok (.own (.ls p)) [.sh (.list (ns.map PyData.int)), .sh (.int k)] := by
    intro cell hv
    have e3 : dMod (.int cell) (.int M) = some (.int (cell % M)) := by
      rw [fmod_ok (by omega), Int.fmod_eq_emod_of_nonneg _ (by omega)]
    have l1 : 0 ≤ cell % M := Int.emod_nonneg _ (by omega)
    have l2 : cell % M < M := Int.emod_lt_of_pos _ (by omega)
    generalize cell % M = r at e3 l1 l2
    have e6 : dMul (.int (r + S)) (.int c) = some (.int ((r + S) * c)) := mul_ok (m := 32) (by omega) bc (by omega)
    have e7 : dMod (.int ((r + S) * c)) (.int N) = some (.int (((r + S) * c) % N)) := by
      rw [fmod_ok (by omega), Int.fmod_eq_emod_of_nonneg _ (by omega)]
    have l3 : 0 ≤ ((r + S) * c) % N := Int.emod_nonneg _ (by omega)
    have l4 : ((r + S) * c) % N < N := Int.emod_lt_of_pos _ (by omega)
    generalize ((r + S) * c) % N = z at e7 l3 l4
    have e1 : dMul (.int A) (.int k) = some (.int (A * (k : Int))) := mul_ok (m := 31) (n := 6) hA (by omega) (by omega)
    have e4 : dMul (.int 2) (.int k) = some (.int (2 * (k : Int))) := mul_ok (m := 2) (n := 6) (by omega) (by omega) (by omega)
    refine ⟨_, ⟨⟨_, _, rfl, ?_, ?_, ?_⟩⟩, pot_gen (len := ns.length) (by rw [z_bLen1, List.length_map]) e1 hv p2 e3 e4 p5 e6 e7⟩
    · split <;> omega
    · omega
    · omega
  by_cases h : k < ns.length
  · refine go _ (.inr ⟨by omega, ns[k], ?_, rfl⟩)
    have i1 : L2.ixN (ns.map PyData.int).length (k : Int) = some k := by
      simp only [L2.ixN, List.length_map]
      rw [if_pos (by omega), if_pos (by omega)]
      rfl
    show (L2.ixN (ns.map PyData.int).length (k : Int)).bind _ = _
    rw [i1]
    show (ns.map PyData.int)[k]? = _
    rw [List.getElem?_map, List.getElem?_eq_getElem h]
    rfl
  · exact go _ (.inl ⟨by omega, rfl⟩)
end DL
set_option Elab.async false
set_option linter.all false
set_option maxRecDepth 100000
set_option maxHeartbeats 4000000
/-! DlLc: comprehensions and loops over rows of any length; more terms opened by simp. -/
namespace DL
open PySem L2
def lc1 (g : Gf) (ts : Tf) (a : Ef) (d : D) (e : Fr) : R (Option D) := match g d e with
  | .ok _ e1 => (ts e1).bind fun b e2 => match b with
    | true => (a e2).bind fun a' e3 => (fz a' e3).bind fun d' e4 => .ok (some d') e4
    | false => .ok none e2
  | _ => .no
theorem lcL_1 {g : Gf} {ts : Tf} {a : Ef} {vs : List Nat} {d d' : D} {ds acc : List D} {e e' : Fr} (h : lc1 g ts a d e = .ok (some d') e') (hl : acc.length < 1000000) :
    lcL g ts a vs (d :: ds) e acc = lcL g ts a vs ds (wipeE e' vs) (acc ++ [d']) := by
  rw [z_lcL2]
  unfold lc1 at h
  split at h
  · rename_i e1 q
    try rw [q]
    try dsimp only
    cases q1 : ts e1 with
    | no => rw [q1] at h; cases h
    | ex x e2 => rw [q1] at h; cases h
    | ok b e2 =>
      rw [q1, R.bind_ok] at h
      cases b with
      | false => cases h
      | true =>
        dsimp only at h ⊢
        cases q2 : a e2 with
        | no => rw [q2] at h; cases h
        | ex x e2 => rw [q2] at h; cases h
        | ok a' e3 =>
          rw [q2, R.bind_ok] at h
          dsimp only
          cases q3 : fz a' e3 with
          | no => rw [q3] at h; cases h
          | ex x e2 => rw [q3] at h; cases h
          | ok d2 e4 =>
            rw [q3, R.bind_ok] at h
            cases h
            dsimp only
            rw [if_pos hl]
  · cases h
theorem lcL_0 {g : Gf} {ts : Tf} {a : Ef} {vs : List Nat} {d : D} {ds acc : List D} {e e' : Fr} (h : lc1 g ts a d e = .ok none e') :
    lcL g ts a vs (d :: ds) e acc = lcL g ts a vs ds (wipeE e' vs) acc := by
  rw [z_lcL2]
  unfold lc1 at h
  split at h
  · rename_i e1 q
    try rw [q]
    try dsimp only
    cases q1 : ts e1 with
    | no => rw [q1] at h; cases h
    | ex x e2 => rw [q1] at h; cases h
    | ok b e2 =>
      rw [q1, R.bind_ok] at h
      cases b with
      | false =>
        cases h
        rfl
      | true =>
        dsimp only at h
        cases q2 : a e2 with
        | no => rw [q2] at h; cases h
        | ex x e2 => rw [q2] at h; cases h
        | ok a' e3 =>
          rw [q2, R.bind_ok] at h
          cases q3 : fz a' e3 with
          | no => rw [q3] at h; cases h
          | ex x e2 => rw [q3] at h; cases h
          | ok d2 e4 =>
            rw [q3, R.bind_ok] at h
            cases h
  · cases h
/-- a comprehension over any row: I is what holds of the frame all along -/
theorem lcL_walk {α : Type} {g : Gf} {ts : Tf} {a : Ef} {vs : List Nat} (I : Fr → Prop) (inj : α → D) (o : α → Option D) : ∀ (xs : List α) (e : Fr) (acc : List D), I e →
    (∀ x ∈ xs, ∀ e, I e → ∃ e', lc1 g ts a (inj x) e = .ok (o x) e' ∧ I (wipeE e' vs)) → acc.length + xs.length ≤ 1000000 →
    ∃ e', I e' ∧ lcL g ts a vs (xs.map inj) e acc = .ok (acc ++ xs.filterMap o) e'
  | [], e, acc, h, _, _ => ⟨e, h, by simp⟩
  | x :: xs, e, acc, h, w, hl => by
    obtain ⟨e1, q, h1⟩ := w x (List.mem_cons_self ..) e h
    have hl' : acc.length + (xs.length + 1) ≤ 1000000 := hl
    cases ho : o x with
    | none =>
      rw [ho] at q
      obtain ⟨e2, h2, q2⟩ := lcL_walk I inj o xs (wipeE e1 vs) acc h1 (fun y hy => w y (List.mem_cons_of_mem _ hy)) (by omega)
      refine ⟨e2, h2, ?_⟩
      rw [List.map_cons, lcL_0 q, q2, List.filterMap_cons, ho]
    | some d =>
      rw [ho] at q
      obtain ⟨e2, h2, q2⟩ := lcL_walk I inj o xs (wipeE e1 vs) (acc ++ [d]) h1 (fun y hy => w y (List.mem_cons_of_mem _ hy)) (by rw [List.length_append]; show acc.length + 1 + xs.length ≤ _; omega)
      refine ⟨e2, h2, ?_⟩
      rw [List.map_cons, lcL_1 q (by omega), q2, List.filterMap_cons, ho, List.append_assoc]
      rfl
theorem filterMap_some {α β : Type} (f : α → β) (xs : List α) : xs.filterMap (fun x => some (f x)) = xs.map f := by
  induction xs with
  | nil => rfl
  | cons x xs ih => rw [List.filterMap_cons, List.map_cons, ih]
/-- one frame all along, each thing is put -/
theorem lcL_map {α : Type} {g : Gf} {ts : Tf} {a : Ef} {vs : List Nat} (inj out : α → D) (xs : List α) (e : Fr)
    (w : ∀ x ∈ xs, ∃ e', lc1 g ts a (inj x) e = .ok (some (out x)) e' ∧ wipeE e' vs = e) (hl : xs.length ≤ 1000000) :
    lcL g ts a vs (xs.map inj) e [] = .ok (xs.map out) e := by
  obtain ⟨e', h, q⟩ := lcL_walk (g := g) (ts := ts) (a := a) (vs := vs) (fun z => z = e) inj (fun x => some (out x)) xs e [] rfl (fun x hx z hz => by
    subst hz
    exact w x hx) (by simpa using hl)
  subst h
  rw [q, filterMap_some]
  rfl
/-! ### for -/
def for1 (g : Gf) (f : Sf) (d : D) (e : Fr) : R Fl := match g d e with
  | .ok _ e1 => f e1
  | _ => .no
theorem forL_nx {g : Gf} {f : Sf} {d : D} {ds : List D} {e e' : Fr} (h : for1 g f d e = .ok .nx e') : forL g f (d :: ds) e = forL g f ds e' := by
  rw [z_forL2]
  unfold for1 at h
  split at h
  · rename_i e1 q
    try rw [q]
    try dsimp only
    rw [h]
  · cases h
theorem forL_rt {g : Gf} {f : Sf} {d : D} {ds : List D} {e e' : Fr} {s : Sl} (h : for1 g f d e = .ok (.rt s) e') : forL g f (d :: ds) e = .ok (.rt s) e' := by
  rw [z_forL2]
  unfold for1 at h
  split at h
  · rename_i e1 q
    try rw [q]
    try dsimp only
    rw [h]
  · cases h
/-- a loop that goes on to its end: S is what holds of the value and the frame -/
theorem forL_walk {α σ : Type} {g : Gf} {f : Sf} (S : σ → Fr → Prop) (inj : α → D) (step : σ → α → σ) : ∀ (xs : List α) (s : σ) (e : Fr), S s e →
    (∀ x ∈ xs, ∀ s e, S s e → ∃ e', for1 g f (inj x) e = .ok .nx e' ∧ S (step s x) e') → ∃ e', forL g f (xs.map inj) e = .ok .nx e' ∧ S (xs.foldl step s) e'
  | [], s, e, h, _ => ⟨e, rfl, h⟩
  | x :: xs, s, e, h, w => by
    obtain ⟨e1, q, h1⟩ := w x (List.mem_cons_self ..) s e h
    obtain ⟨e2, q2, h2⟩ := forL_walk S inj step xs (step s x) e1 h1 (fun y hy => w y (List.mem_cons_of_mem _ hy))
    exact ⟨e2, by rw [List.map_cons, forL_nx q, q2], h2⟩
theorem zipD_map {α β : Type} (f : α → D) (g : β → D) : ∀ (xs : List α) (ys : List β), zipD (xs.map f) (ys.map g) = (xs.zip ys).map fun p => .tuple [f p.1, g p.2]
  | [], _ => rfl
  | _ :: _, [] => rfl
  | x :: xs, y :: ys => by
    show PyData.tuple [f x, g y] :: zipD (xs.map f) (ys.map g) = _
    rw [zipD_map f g xs ys]
    rfl
theorem enum_map {α : Type} (f : α → D) : ∀ (k : Nat) (xs : List α), enumFrom k (xs.map f) = (xs.zipIdx k).map fun p => .tuple [.int (p.2 : Int), f p.1]
  | _, [] => rfl
  | k, x :: xs => by
    show PyData.tuple [.int (k : Int), f x] :: enumFrom (k + 1) (xs.map f) = _
    rw [enum_map f (k + 1) xs]
    rfl
section
variable (e : Fr) (as : Af) (fa fb : Ef) (r : Rf) (fl fh : Of) (lo hi : Option Int) (ds : List D) (x : Arg)
@[simp] theorem z_lc1 (g : Gf) (ts : Tf) (a : Ef) (d : D) : lc1 g ts a d e = (match g d e with
  | .ok _ e1 => (ts e1).bind fun b e2 => match b with
    | true => (a e2).bind fun a' e3 => (fz a' e3).bind fun d' e4 => .ok (some d') e4
    | false => .ok none e2
  | _ => .no) := rfl
@[simp] theorem z_for1 (g : Gf) (f : Sf) (d : D) : for1 g f d e = (match g d e with
  | .ok _ e1 => f e1
  | _ => .no) := rfl
@[simp] theorem z_eCut : eCut fa fl fh e = (fa e).bind fun a e1 => (fl e1).bind fun lo e2 => (fh e2).bind fun hi e3 => useC a lo hi e3 := rfl
@[simp] theorem z_oNone : oNone e = .ok none e := rfl
@[simp] theorem z_oSome : oSome fa e = (fa e).bind fun a e1 => match rd1 e1 a with
  | some (.int i) => .ok (some i) e1
  | _ => .no := rfl
@[simp] theorem z_useC : useC x lo hi e = (match rd1 e x with
  | some (.list ds) => .ok (.new (.ls (cutD ds lo hi))) e
  | some d => match dCut d lo hi with
    | some r => .ok (.arg (.val r)) e
    | none => .no
  | none => .no) := rfl
@[simp] theorem z_dCutT : dCut (.tuple ds) lo hi = some (.tuple (cutD ds lo hi)) := rfl
@[simp] theorem z_eRep : eRep r fb e = (r e).bind fun r e1 => (fb e1).bind fun b e2 => match lsR r e2 with
  | some xs => match rd1 e2 b with
    | some (.int k) => if 0 ≤ k ∧ k ≤ 1000 ∧ xs.length ≤ 1000 then .ok (.new (.ls (List.replicate k.toNat xs).flatten)) e2 else .no
    | _ => .no
  | none => .no := rfl
@[simp] theorem z_iEnumF : iEnumF as e = (as e).bind fun as e1 => (fzA as e1).bind fun ds e2 => match ds with
  | [.list xs] => .ok (enumFrom 0 xs) e2
  | _ => .no := rfl
@[simp] theorem z_iDownF : iDownF as e = (as e).bind fun as e1 => match rdA e1 as with
  | some [.int m, .int n, .int c] => if c = -1 ∧ small62 m = true ∧ small62 n = true then .ok ((List.range (m - n).toNat).map fun (i : Nat) => .int (m + (i : Int) * (-1))) e1 else .no
  | _ => .no := rfl
end
end DL
set_option Elab.async false
set_option linter.all false
set_option maxRecDepth 100000
set_option maxHeartbeats 4000000
/-! DlEq: == and repr of rows of data. -/
namespace DL
open PySem L2
structure Shp (k : Nat) (d : D) : Prop where
  lay : d.canLay0 = true
  dep : d.depth ≤ k
structure Rp (w k : Nat) (d : D) : Prop where
  sh : d.showable = true
  nd : d.hasDict = false
  wd : wD d ≤ w
  dep : d.depth ≤ k
theorem Shp.ok {k : Nat} {d : D} (h : Shp k d) (hk : k ≤ 64) : SeqAt.shaped d = true := by
  unfold SeqAt.shaped
  rw [h.lay]
  exact decide_eq_true (Nat.le_trans h.dep hk)
theorem Rp.ok {w k : Nat} {d : D} (h : Rp w k d) (hk : k ≤ 30) (hw : w ≤ 1000000) : reprOk d = true := by
  unfold reprOk
  rw [h.sh, h.nd, decide_eq_true (show wD d ≤ sizeLine from by have := h.wd; rw [sizeLine_eq]; omega), decide_eq_true (Nat.le_trans h.dep hk)]
  rfl
theorem shpAll {k : Nat} : ∀ {ds : List D}, (∀ d ∈ ds, Shp k d) → PyData.canLayAll0 ds = true ∧ PyData.depthAll ds ≤ k
  | [], _ => ⟨by simp only [PyData.canLayAll0], by simp only [PyData.depthAll]; exact Nat.zero_le _⟩
  | d :: ds, h => by
    obtain ⟨h1, h2⟩ := shpAll (ds := ds) fun x hx => h x (List.mem_cons_of_mem _ hx)
    have h0 := h d (List.mem_cons_self ..)
    refine ⟨by simp only [PyData.canLayAll0, h0.lay, h1, Bool.and_self], ?_⟩
    simp only [PyData.depthAll]
    exact Nat.max_le.mpr ⟨h0.dep, h2⟩
theorem Shp.list {k : Nat} {ds : List D} (h : ∀ d ∈ ds, Shp k d) : Shp (k + 1) (.list ds) := ⟨by simp only [PyData.canLay0, (shpAll h).1], by simp only [PyData.depth]; exact Nat.succ_le_succ (shpAll h).2⟩
theorem Shp.tuple {k : Nat} {ds : List D} (h : ∀ d ∈ ds, Shp k d) : Shp (k + 1) (.tuple ds) := ⟨by simp only [PyData.canLay0, (shpAll h).1], by simp only [PyData.depth]; exact Nat.succ_le_succ (shpAll h).2⟩
theorem Shp.int (a : Int) : Shp 0 (.int a) := ⟨by simp only [PyData.canLay0], by simp only [PyData.depth]; exact Nat.le_refl _⟩
theorem rpAll {w k : Nat} : ∀ {ds : List D}, (∀ d ∈ ds, Rp w k d) → PyData.showableAll ds = true ∧ PyData.hasDictAll ds = false ∧ wAll ds ≤ ds.length * (w + 2) ∧ PyData.depthAll ds ≤ k
  | [], _ => ⟨by simp only [PyData.showableAll], by simp only [PyData.hasDictAll], by simp only [wAll]; exact Nat.zero_le _, by simp only [PyData.depthAll]; exact Nat.zero_le _⟩
  | d :: ds, h => by
    obtain ⟨h1, h2, h3, h4⟩ := rpAll (ds := ds) fun x hx => h x (List.mem_cons_of_mem _ hx)
    have h0 := h d (List.mem_cons_self ..)
    refine ⟨by simp only [PyData.showableAll, h0.sh, h1, Bool.and_self], by simp only [PyData.hasDictAll, h0.nd, h2, Bool.or_self], ?_, ?_⟩
    · simp only [wAll, List.length_cons, Nat.add_mul]
      have := h0.wd
      omega
    · simp only [PyData.depthAll]
      exact Nat.max_le.mpr ⟨h0.dep, h4⟩
theorem Rp.list {w k n : Nat} {ds : List D} (h : ∀ d ∈ ds, Rp w k d) (hl : ds.length ≤ n) : Rp (n * (w + 2) + 3) (k + 1) (.list ds) := by
  obtain ⟨h1, h2, h3, h4⟩ := rpAll h
  refine ⟨by simp only [PyData.showable, h1], by simp only [PyData.hasDict, h2], ?_, by simp only [PyData.depth]; exact Nat.succ_le_succ h4⟩
  simp only [wD]
  have := Nat.mul_le_mul_right (w + 2) hl
  omega
theorem Rp.tuple {w k n : Nat} {ds : List D} (h : ∀ d ∈ ds, Rp w k d) (hl : ds.length ≤ n) : Rp (n * (w + 2) + 3) (k + 1) (.tuple ds) := by
  obtain ⟨h1, h2, h3, h4⟩ := rpAll h
  refine ⟨by simp only [PyData.showable, h1], by simp only [PyData.hasDict, h2], ?_, by simp only [PyData.depth]; exact Nat.succ_le_succ h4⟩
  simp only [wD]
  have := Nat.mul_le_mul_right (w + 2) hl
  omega
theorem Rp.int {a : Int} (h : a.natAbs < 2 ^ 1900) : Rp 1921 0 (.int a) := ⟨by
    have h1 := small_log h
    simp only [PyData.showable, h1, decide_true], by simp only [PyData.hasDict], by simp only [wD]; exact Nat.le_refl _, by simp only [PyData.depth]; exact Nat.le_refl _⟩
theorem Rp.bool (b : Bool) : Rp 5 0 (.bool b) := ⟨by simp only [PyData.showable], by simp only [PyData.hasDict], by simp only [wD]; exact Nat.le_refl _, by simp only [PyData.depth]; exact Nat.le_refl _⟩
theorem Rp.none : Rp 5 0 .none := ⟨by simp only [PyData.showable], by simp only [PyData.hasDict], by simp only [wD]; exact Nat.le_refl _, by simp only [PyData.depth]; exact Nat.le_refl _⟩
theorem Rp.up {w k w' k' : Nat} {d : D} (h : Rp w k d) (hw : w ≤ w') (hk : k ≤ k') : Rp w' k' d := ⟨h.sh, h.nd, Nat.le_trans h.wd hw, Nat.le_trans h.dep hk⟩
/-! ratios -/
theorem Shp.rD (q : Rat) : Shp 1 (rD q) := .tuple fun d hd => by
  rcases List.mem_cons.mp hd with rfl | hd
  · exact .int _
  · rw [List.mem_singleton.mp hd]
    exact .int _
theorem Rp.rD {q : Rat} {n : Nat} (h : Sz n q) (hn : n ≤ 1900) : Rp 3900 1 (rD q) := by
  have h' := h.up hn
  refine Rp.up (Rp.tuple (n := 2) (w := 1921) (k := 0) (fun d hd => ?_) (Nat.le_refl _)) (by decide) (Nat.le_refl _)
  rcases List.mem_cons.mp hd with rfl | hd
  · exact .int h'.num
  · rw [List.mem_singleton.mp hd]
    exact .int (by have := h'.den; omega)
theorem eqv_rD (p q : Rat) : PyData.eqv (rD p) (rD q) = decide (p = q) := by
  unfold DL.rD
  simp only [PyData.eqv, PyData.eqvAll]
  rw [Bool.eq_iff_iff]
  simp only [Bool.and_true, Bool.and_eq_true, beq_iff_eq, decide_eq_true_eq]
  constructor
  · rintro ⟨h1, h2⟩
    exact Rat.ext h1 (by omega)
  · rintro rfl
    exact ⟨rfl, rfl⟩
theorem eq_of {x y : D} {b : Bool} (h1 : bothStr x y = false) (h2 : SeqAt.shaped x = true) (h3 : SeqAt.shaped y = true) (h4 : PyData.eqv x y = b) : dEq x y = some (.bool b) := by
  unfold dEq
  rw [if_neg (by rw [h1]; exact Bool.false_ne_true), if_pos ⟨h2, h3⟩, h4]
theorem ne_of {x y : D} {b : Bool} (h1 : bothStr x y = false) (h2 : SeqAt.shaped x = true) (h3 : SeqAt.shaped y = true) (h4 : PyData.eqv x y = b) : dNe x y = some (.bool (!b)) := by
  unfold dNe
  rw [if_neg (by rw [h1]; exact Bool.false_ne_true), if_pos ⟨h2, h3⟩, h4]
@[simp] theorem z_eqR (p q : Rat) : dEq (rD p) (rD q) = some (.bool (decide (p = q))) := eq_of rfl ((Shp.rD p).ok (by decide)) ((Shp.rD q).ok (by decide)) (eqv_rD p q)
@[simp] theorem z_neR (p q : Rat) : dNe (rD p) (rD q) = some (.bool (!decide (p = q))) := ne_of rfl ((Shp.rD p).ok (by decide)) ((Shp.rD q).ok (by decide)) (eqv_rD p q)
theorem eqv_nil (xs : List D) : PyData.eqv (.list xs) (.list []) = xs.isEmpty := by
  cases xs <;> simp only [PyData.eqv, PyData.eqvAll, List.isEmpty]
theorem shp_nil : SeqAt.shaped (.list []) = true := by decide +kernel
theorem eq_nil {xs : List D} {k : Nat} (h : ∀ d ∈ xs, Shp k d) (hk : k < 64) : dEq (.list xs) (.list []) = some (.bool xs.isEmpty) := eq_of rfl ((Shp.list h).ok hk) shp_nil (eqv_nil xs)
theorem ne_nil {xs : List D} {k : Nat} (h : ∀ d ∈ xs, Shp k d) (hk : k < 64) : dNe (.list xs) (.list []) = some (.bool !xs.isEmpty) := ne_of rfl ((Shp.list h).ok hk) shp_nil (eqv_nil xs)
end DL
set_option Elab.async false
set_option linter.all false
set_option maxRecDepth 100000
set_option maxHeartbeats 4000000
/-! printed by gen.py: the frame function of each def, and that the def keeps it -/
namespace K45
open PySem PySem.Spec PyProof.Rows L2 DL
noncomputable section
def top (i : Nat) : Stmt := PySem.Challenge.pw_websolids_k45_whole_equations.main.body.getD i (.Pass ⟨0, 0, 0, 0⟩)
abbrev FnP (K : PySem.W.Frag) (x : Str) (st : Stmt) (f : Addr) (fd : FuncData) : Prop := FunD K x x (defArgs st) (defBody st) (defScope st) [] [] f fd
abbrev si_WebError : Stmt := (clsBody (top 2)).getD 0 (.Pass ⟨0, 0, 0, 0⟩)
theorem sci_WebError : FnScope (["self", "value"] : List Str) ["self", "value"] (defScope si_WebError) := ⟨rfl, rfl, rfl, by decide +kernel, rfl, by decide +kernel, by decide +kernel⟩
abbrev s__law_pot : Stmt := top 29
def N__law_pot : List Str := ["_law_script", "_law_k", "_law_cell", "_law_low"]
def m__law_pot : Sf := (sSeq (sSet 2 (eR (eIf (tOf (eOp2 dLt (eVar 1) (eCall bLen (aCons (eVar 0) aNil)))) (eCall bAbs (aCons (eOp2 dIx (eVar 0) (eVar 1)) aNil)) (eOp2 dAdd (eOp2 dMul (eC (.int 1021)) (eVar 1)) (eC (.int 557)))))) (sSeq (sSet 3 (eR (eOp2 dAdd (eOp2 dMod (eCall bInt (aCons (eOp2 dAdd (eOp2 dAdd (eOp2 dMul (eOp2 dMod (eCall bInt (aCons (eVar 2) aNil)) (eC (.int 2147483549))) (eC (.int 40014))) (eOp2 dMul (eC (.int 9433)) (eVar 1))) (eC (.int 107))) aNil)) (eC (.int 2147483563))) (eC (.int 1))))) (sRet (eLst (aCons (eCall bMax2 (aCons (eC (.int 0)) (aCons (eOp2 dSub (eVar 2) (eOp2 dPow (eC (.int 10)) (eC (.int 18)))) aNil))) (aCons (eVar 3) aNil))))))
def F__law_pot : Fn := runF 2 4 m__law_pot
theorem sc__law_pot : FnScope (["_law_script", "_law_k", "_law_cell", "_law_low"] : List Str) ["_law_script", "_law_k"] (defScope s__law_pot) := ⟨rfl, rfl, rfl, by decide +kernel, rfl, by decide +kernel, by decide +kernel⟩
abbrev s_made_ratio : Stmt := top 10
def N_made_ratio : List Str := ["number", "under", "part"]
def m_made_ratio : Sf := (sSeq (sSet 2 (eR (eCall bGcd (aCons (eVar 0) (aCons (eVar 1) aNil))))) (sSeq (sIf (tOf (eOp2 dLt (eVar 1) (eC (.int 0)))) (sSet 2 (eR (eOp2 dSub (eC (.int 0)) (eVar 2)))) sNil) (sRet (eR (eTup (aCons (eOp2 dFdiv (eVar 0) (eVar 2)) (aCons (eOp2 dFdiv (eVar 1) (eVar 2)) aNil)))))))
def F_made_ratio : Fn := runF 2 3 m_made_ratio
theorem sc_made_ratio : FnScope (["number", "under", "part"] : List Str) ["number", "under"] (defScope s_made_ratio) := ⟨rfl, rfl, rfl, by decide +kernel, rfl, by decide +kernel, by decide +kernel⟩
abbrev s_led_head : Stmt := top 17
def N_led_head : List Str := ["table", "place", "at"]
def m_led_head : Sf := (sSeq (sFor (iRng2F (aCons (eVar 1) (aCons (eCall bLen (aCons (eVar 0) aNil)) aNil))) (gSet 2) (sIf (tOf (eOp2 dNe (eOp2 dIx (eOp2 dIx (eVar 0) (eVar 2)) (eVar 1)) (eC (.int 0)))) (sSeq (sAsg (eTup (aCons (eOp2 dIx (eVar 0) (eVar 2)) (aCons (eOp2 dIx (eVar 0) (eVar 1)) aNil))) (gTupF (gsCons (gSubF (eVar 0) (eVar 1)) (gsCons (gSubF (eVar 0) (eVar 2)) gsNil)))) (sRet (eR (eC (.bool true))))) sNil)) (sRet (eR (eC (.bool false)))))
def F_led_head : Fn := runF 2 3 m_led_head
theorem sc_led_head : FnScope (["table", "place", "at"] : List Str) ["table", "place"] (defScope s_led_head) := ⟨rfl, rfl, rfl, by decide +kernel, rfl, by decide +kernel, by decide +kernel⟩
abbrev s_row_below : Stmt := top 18
def N_row_below : List Str := ["row", "head", "place", "last", "number", "other"]
def m_row_below : Sf := (sRet (eLc (iZip2F (aCons (eVar 0) (aCons (eVar 1) aNil))) (gTupF (gsCons (gSet 4) (gsCons (gSet 5) gsNil))) tYesF (eOp2 dFdiv (eOp2 dSub (eOp2 dMul (eVar 4) (eOp2 dIx (eVar 1) (eVar 2))) (eOp2 dMul (eOp2 dIx (eVar 0) (eVar 2)) (eVar 5))) (eVar 3)) [4, 5]))
def F_row_below : Fn := runF 4 6 m_row_below
theorem sc_row_below : FnScope (["row", "head", "place", "last", "number", "other"] : List Str) ["row", "head", "place", "last"] (defScope s_row_below) := ⟨rfl, rfl, rfl, by decide +kernel, rfl, by decide +kernel, by decide +kernel⟩
abbrev s_reduced_table : Stmt := top 19
def N_reduced_table : List Str := ["table", "found", "last", "place", "at", "row"]
def m_reduced_table : Sf := (sSeq (sPar 1 2 (eLc (iSeq (eVar 0)) (gSet 5) tYesF (eFz (eCallN bList (aCons (eVar 5) aNil))) [5]) (eR (eC (.int 1)))) (sSeq (sFor (iRng1F (aCons (eCall bLen (aCons (eVar 1) aNil)) aNil)) (gSet 3) (sSeq (sIf (tNotF (tTr (eFz (eFnC F_led_head [true, false] (aCons (eVar 1) (aCons (eVar 3) aNil)))))) (sRet (eR (eC .none))) sNil) (sSeq (sFor (iRng2F (aCons (eOp2 dAdd (eVar 3) (eC (.int 1))) (aCons (eCall bLen (aCons (eVar 1) aNil)) aNil))) (gSet 4) (sAsg (eFz (eFnC F_row_below [false, false, false, false] (aCons (eOp2 dIx (eVar 1) (eVar 4)) (aCons (eOp2 dIx (eVar 1) (eVar 3)) (aCons (eVar 3) (aCons (eVar 2) aNil)))))) (gSubF (eVar 1) (eVar 4)))) (sSet 2 (eR (eOp2 dIx (eOp2 dIx (eVar 1) (eVar 3)) (eVar 3))))))) (sRet (eR (eVar 1)))))
def F_reduced_table : Fn := runF 1 6 m_reduced_table
theorem sc_reduced_table : FnScope (["table", "found", "last", "place", "at", "row"] : List Str) ["table"] (defScope s_reduced_table) := ⟨rfl, rfl, rfl, by decide +kernel, rfl, by decide +kernel, by decide +kernel⟩
abbrev s_numbers_from_below : Stmt := top 20
def N_numbers_from_below : List Str := ["table", "column", "many", "under", "found", "at", "rest", "late"]
def m_numbers_from_below : Sf := (sSeq (sSet 2 (eR (eCall bLen (aCons (eVar 0) aNil)))) (sSeq (sPar 3 4 (eR (eOp2 dIx (eOp2 dIx (eVar 0) (eOp2 dSub (eVar 2) (eC (.int 1)))) (eOp2 dSub (eVar 2) (eC (.int 1))))) (eRep (eLst (aCons (eC (.int 0)) aNil)) (eVar 2))) (sSeq (sFor (iDownF (aCons (eOp2 dSub (eVar 2) (eC (.int 1))) (aCons (eOp1 dNeg (eC (.int 1))) (aCons (eOp1 dNeg (eC (.int 1))) aNil)))) (gSet 5) (sSeq (sSet 6 (eR (eOp2 dMul (eVar 3) (eOp2 dIx (eOp2 dIx (eVar 0) (eVar 5)) (eVar 1))))) (sSeq (sFor (iRng2F (aCons (eOp2 dAdd (eVar 5) (eC (.int 1))) (aCons (eVar 2) aNil))) (gSet 7) (sSet 6 (eR (eOp2 dSub (eVar 6) (eOp2 dMul (eOp2 dIx (eOp2 dIx (eVar 0) (eVar 5)) (eVar 7)) (eOp2 dIx (eVar 4) (eVar 7))))))) (sAsg (eOp2 dFdiv (eVar 6) (eOp2 dIx (eOp2 dIx (eVar 0) (eVar 5)) (eVar 5))) (gSubF (eVar 4) (eVar 5)))))) (sRet (eR (eVar 4))))))
def F_numbers_from_below : Fn := runF 2 8 m_numbers_from_below
theorem sc_numbers_from_below : FnScope (["table", "column", "many", "under", "found", "at", "rest", "late"] : List Str) ["table", "column"] (defScope s_numbers_from_below) := ⟨rfl, rfl, rfl, by decide +kernel, rfl, by decide +kernel, by decide +kernel⟩
abbrev s_reduced_solution : Stmt := top 21
def N_reduced_solution : List Str := ["rows", "rights", "many", "table", "under", "found", "place", "numbers", "at", "row", "right", "number"]
def m_reduced_solution : Sf := (sSeq (sSet 2 (eR (eCall bLen (aCons (eVar 0) aNil)))) (sSeq (sSet 3 (eFnC F_reduced_table [false] (aCons (eFz (eLc (iEnumF (aCons (eVar 0) aNil)) (gTupF (gsCons (gSet 8) (gsCons (gSet 9) gsNil))) tYesF (eFz (eCat (eCallN bList (aCons (eVar 9) aNil)) (eLc (iSeq (eVar 1)) (gSet 10) tYesF (eOp2 dIx (eVar 10) (eVar 8)) [10]))) [8, 9])) aNil))) (sSeq (sIf (tOf (eOp2 dIs (eVar 3) (eC .none))) (sRet (eR (eC .none))) sNil) (sSeq (sPar 4 5 (eR (eOp2 dIx (eOp2 dIx (eVar 3) (eOp2 dSub (eVar 2) (eC (.int 1)))) (eOp2 dSub (eVar 2) (eC (.int 1))))) (eLst aNil)) (sSeq (sFor (iRng1F (aCons (eCall bLen (aCons (eVar 1) aNil)) aNil)) (gSet 6) (sSeq (sSet 7 (eFnC F_numbers_from_below [false, false] (aCons (eVar 3) (aCons (eOp2 dAdd (eVar 2) (eVar 6)) aNil)))) (sDrop (eMt mApp (eVar 5) (aCons (eCall bTuple (aCons (eFz (eLc (iSeq (eVar 7)) (gSet 11) tYesF (eFz (eFnC F_made_ratio [false, false] (aCons (eVar 11) (aCons (eVar 4) aNil)))) [11])) aNil)) aNil))))) (sRet (eR (eVar 5))))))))
def F_reduced_solution : Fn := runF 2 12 m_reduced_solution
theorem sc_reduced_solution : FnScope (["rows", "rights", "many", "table", "under", "found", "place", "numbers", "at", "row", "right", "number"] : List Str) ["rows", "rights"] (defScope s_reduced_solution) := ⟨rfl, rfl, rfl, by decide +kernel, rfl, by decide +kernel, by decide +kernel⟩
abbrev s_least_common : Stmt := top 13
def N_least_common : List Str := ["numbers", "found", "number"]
def m_least_common : Sf := (sSeq (sSet 1 (eR (eC (.int 1)))) (sSeq (sFor (iSeq (eVar 0)) (gSet 2) (sSet 1 (eR (eOp2 dMul (eOp2 dFdiv (eVar 1) (eCall bGcd (aCons (eVar 1) (aCons (eVar 2) aNil)))) (eVar 2))))) (sRet (eR (eVar 1)))))
def F_least_common : Fn := runF 1 3 m_least_common
theorem sc_least_common : FnScope (["numbers", "found", "number"] : List Str) ["numbers"] (defScope s_least_common) := ⟨rfl, rfl, rfl, by decide +kernel, rfl, by decide +kernel, by decide +kernel⟩
abbrev s_as_whole : Stmt := top 22
def N_as_whole : List Str := ["row", "times", "number", "under"]
def m_as_whole : Sf := (sSeq (sSet 1 (eFnC F_least_common [false] (aCons (eFz (eLc (iSeq (eVar 0)) (gTupF (gsCons (gSet 2) (gsCons (gSet 3) gsNil))) tYesF (eVar 3) [2, 3])) aNil))) (sRet (eLc (iSeq (eVar 0)) (gTupF (gsCons (gSet 2) (gsCons (gSet 3) gsNil))) tYesF (eOp2 dMul (eVar 2) (eOp2 dFdiv (eVar 1) (eVar 3))) [2, 3])))
def F_as_whole : Fn := runF 1 4 m_as_whole
theorem sc_as_whole : FnScope (["row", "times", "number", "under"] : List Str) ["row"] (defScope s_as_whole) := ⟨rfl, rfl, rfl, by decide +kernel, rfl, by decide +kernel, by decide +kernel⟩
abbrev s_is_list : Stmt := top 7
def N_is_list : List Str := ["value"]
def m_is_list : Sf := (sRet (eR (eIsi2 .list .tuple (eVar 0))))
def F_is_list : Fn := runF 1 1 m_is_list
theorem sc_is_list : FnScope (["value"] : List Str) ["value"] (defScope s_is_list) := ⟨rfl, rfl, rfl, by decide +kernel, rfl, by decide +kernel, by decide +kernel⟩
abbrev s_is_integer : Stmt := top 6
def N_is_integer : List Str := ["value"]
def m_is_integer : Sf := (sRet (eR (eAnd (eIsi .int (eVar 0)) (eNot (eIsi .bool (eVar 0))))))
def F_is_integer : Fn := runF 1 1 m_is_integer
theorem sc_is_integer : FnScope (["value"] : List Str) ["value"] (defScope s_is_integer) := ⟨rfl, rfl, rfl, by decide +kernel, rfl, by decide +kernel, by decide +kernel⟩
abbrev s_is_ratio : Stmt := top 14
def N_is_ratio : List Str := ["value"]
def m_is_ratio : Sf := (sSeq (sIf (tOrF (tNotF (tTr (eIsi .tuple (eVar 0)))) (tOrF (tOf (eOp2 dNe (eCall bLen (aCons (eVar 0) aNil)) (eC (.int 2)))) (tOrF (tNotF (tTr (eFz (eFnC F_is_integer [false] (aCons (eOp2 dIx (eVar 0) (eC (.int 0))) aNil))))) (tNotF (tTr (eFz (eFnC F_is_integer [false] (aCons (eOp2 dIx (eVar 0) (eC (.int 1))) aNil)))))))) (sRet (eR (eC (.bool false)))) sNil) (sRet (eR (eAnd (eOp2 dGe (eOp2 dIx (eVar 0) (eC (.int 1))) (eC (.int 1))) (eOp2 dEq (eCall bGcd (aCons (eOp2 dIx (eVar 0) (eC (.int 0))) (aCons (eOp2 dIx (eVar 0) (eC (.int 1))) aNil))) (eC (.int 1)))))))
def F_is_ratio : Fn := runF 1 1 m_is_ratio
theorem sc_is_ratio : FnScope (["value"] : List Str) ["value"] (defScope s_is_ratio) := ⟨rfl, rfl, rfl, by decide +kernel, rfl, by decide +kernel, by decide +kernel⟩
abbrev s_is_ratio_row : Stmt := top 24
def N_is_ratio_row : List Str := ["many", "value", "one"]
def m_is_ratio_row : Sf := (sRet (eR (eAnd (eFz (eFnC F_is_list [false] (aCons (eVar 1) aNil))) (eAnd (eOp2 dEq (eCall bLen (aCons (eVar 1) aNil)) (eVar 0)) (eCall bAll (aCons (eFz (eLc (iSeq (eVar 1)) (gSet 2) tYesF (eFz (eFnC F_is_ratio [false] (aCons (eVar 2) aNil))) [2])) aNil))))))
def F_is_ratio_row : Fn := runF 2 3 m_is_ratio_row
theorem sc_is_ratio_row : FnScope (["many", "value", "one"] : List Str) ["many", "value"] (defScope s_is_ratio_row) := ⟨rfl, rfl, rfl, by decide +kernel, rfl, by decide +kernel, by decide +kernel⟩
abbrev s_want_equations : Stmt := top 25
def N_want_equations : List Str := ["rows", "right", "row"]
def m_want_equations : Sf := (sSeq (sIf (tOrF (tNotF (tTr (eFz (eFnC F_is_list [false] (aCons (eVar 0) aNil))))) (tNotF (tOf (eChain dLe dLe (eC (.int 1)) (eCall bLen (aCons (eVar 0) aNil)) (eC (.int (20))))))) (sRaise1 "InvalidRows" "value" (eVar 0)) sNil) (sSeq (sIf (tNotF (tTr (eCall bAll (aCons (eFz (eLc (iSeq (eVar 0)) (gSet 2) tYesF (eFz (eFnC F_is_ratio_row [false, false] (aCons (eCall bLen (aCons (eVar 0) aNil)) (aCons (eVar 2) aNil)))) [2])) aNil)))) (sRaise1 "InvalidRows" "value" (eVar 0)) sNil) (sIf (tNotF (tTr (eFz (eFnC F_is_ratio_row [false, false] (aCons (eCall bLen (aCons (eVar 0) aNil)) (aCons (eVar 1) aNil)))))) (sRaise1 "InvalidRight" "value" (eVar 1)) sNil)))
def F_want_equations : Fn := runF 2 3 m_want_equations
theorem sc_want_equations : FnScope (["rows", "right", "row"] : List Str) ["rows", "right"] (defScope s_want_equations) := ⟨rfl, rfl, rfl, by decide +kernel, rfl, by decide +kernel, by decide +kernel⟩
abbrev s_solved_equations : Stmt := top 26
def N_solved_equations : List Str := ["rows", "right", "whole", "found", "row", "number"]
def m_solved_equations : Sf := (sSeq (sDrop (eFz (eFnC F_want_equations [false, false] (aCons (eVar 0) (aCons (eVar 1) aNil))))) (sSeq (sSet 2 (eLc (iZip2F (aCons (eVar 0) (aCons (eVar 1) aNil))) (gTupF (gsCons (gSet 4) (gsCons (gSet 5) gsNil))) tYesF (eFz (eFnC F_as_whole [false] (aCons (eFz (eCat (eCallN bList (aCons (eVar 4) aNil)) (eLst (aCons (eVar 5) aNil)))) aNil))) [4, 5])) (sSeq (sSet 3 (eFnC F_reduced_solution [false, false] (aCons (eFz (eLc (iSeq (eVar 2)) (gSet 4) tYesF (eFz (eCut (eVar 4) oNone (oSome (eOp1 dNeg (eC (.int 1)))))) [4])) (aCons (eFz (eLst (aCons (eFz (eLc (iSeq (eVar 2)) (gSet 4) tYesF (eOp2 dIx (eVar 4) (eOp1 dNeg (eC (.int 1)))) [4])) aNil))) aNil)))) (sRet (eR (eIf (tOf (eOp2 dIs (eVar 3) (eC .none))) (eC .none) (eOp2 dIx (eVar 3) (eC (.int 0)))))))))
def F_solved_equations : Fn := runF 2 6 m_solved_equations
theorem sc_solved_equations : FnScope (["rows", "right", "whole", "found", "row", "number"] : List Str) ["rows", "right"] (defScope s_solved_equations) := ⟨rfl, rfl, rfl, by decide +kernel, rfl, by decide +kernel, by decide +kernel⟩
abbrev s_add_ratios : Stmt := top 11
def N_add_ratios : List Str := ["one", "other"]
def m_add_ratios : Sf := (sRet (eFnC F_made_ratio [false, false] (aCons (eOp2 dAdd (eOp2 dMul (eOp2 dIx (eVar 0) (eC (.int 0))) (eOp2 dIx (eVar 1) (eC (.int 1)))) (eOp2 dMul (eOp2 dIx (eVar 1) (eC (.int 0))) (eOp2 dIx (eVar 0) (eC (.int 1))))) (aCons (eOp2 dMul (eOp2 dIx (eVar 0) (eC (.int 1))) (eOp2 dIx (eVar 1) (eC (.int 1)))) aNil))))
def F_add_ratios : Fn := runF 2 2 m_add_ratios
theorem sc_add_ratios : FnScope (["one", "other"] : List Str) ["one", "other"] (defScope s_add_ratios) := ⟨rfl, rfl, rfl, by decide +kernel, rfl, by decide +kernel, by decide +kernel⟩
abbrev s_mul_ratios : Stmt := top 12
def N_mul_ratios : List Str := ["one", "other"]
def m_mul_ratios : Sf := (sRet (eFnC F_made_ratio [false, false] (aCons (eOp2 dMul (eOp2 dIx (eVar 0) (eC (.int 0))) (eOp2 dIx (eVar 1) (eC (.int 0)))) (aCons (eOp2 dMul (eOp2 dIx (eVar 0) (eC (.int 1))) (eOp2 dIx (eVar 1) (eC (.int 1)))) aNil))))
def F_mul_ratios : Fn := runF 2 2 m_mul_ratios
theorem sc_mul_ratios : FnScope (["one", "other"] : List Str) ["one", "other"] (defScope s_mul_ratios) := ⟨rfl, rfl, rfl, by decide +kernel, rfl, by decide +kernel, by decide +kernel⟩
abbrev s_sum_of_products : Stmt := top 23
def N_sum_of_products : List Str := ["row", "values", "found", "one", "other"]
def m_sum_of_products : Sf := (sSeq (sSet 2 (eR (eC (.tuple [(.int (0)), (.int (1))])))) (sSeq (sFor (iZip2F (aCons (eVar 0) (aCons (eVar 1) aNil))) (gTupF (gsCons (gSet 3) (gsCons (gSet 4) gsNil))) (sSet 2 (eFnC F_add_ratios [false, false] (aCons (eVar 2) (aCons (eFz (eFnC F_mul_ratios [false, false] (aCons (eVar 3) (aCons (eVar 4) aNil)))) aNil))))) (sRet (eR (eVar 2)))))
def F_sum_of_products : Fn := runF 2 5 m_sum_of_products
theorem sc_sum_of_products : FnScope (["row", "values", "found", "one", "other"] : List Str) ["row", "values"] (defScope s_sum_of_products) := ⟨rfl, rfl, rfl, by decide +kernel, rfl, by decide +kernel, by decide +kernel⟩
abbrev s_is_solution : Stmt := top 27
def N_is_solution : List Str := ["rows", "right", "value", "row", "number"]
def m_is_solution : Sf := (sSeq (sDrop (eFz (eFnC F_want_equations [false, false] (aCons (eVar 0) (aCons (eVar 1) aNil))))) (sSeq (sIf (tOrF (tNotF (tTr (eIsi .tuple (eVar 2)))) (tNotF (tTr (eFz (eFnC F_is_ratio_row [false, false] (aCons (eCall bLen (aCons (eVar 0) aNil)) (aCons (eVar 2) aNil))))))) (sRet (eR (eC (.bool false)))) sNil) (sRet (eR (eCall bAll (aCons (eFz (eLc (iZip2F (aCons (eVar 0) (aCons (eVar 1) aNil))) (gTupF (gsCons (gSet 3) (gsCons (gSet 4) gsNil))) tYesF (eOp2 dEq (eFz (eFnC F_sum_of_products [false, false] (aCons (eVar 3) (aCons (eVar 2) aNil)))) (eVar 4)) [3, 4])) aNil))))))
def F_is_solution : Fn := runF 3 5 m_is_solution
theorem sc_is_solution : FnScope (["rows", "right", "value", "row", "number"] : List Str) ["rows", "right", "value"] (defScope s_is_solution) := ⟨rfl, rfl, rfl, by decide +kernel, rfl, by decide +kernel, by decide +kernel⟩
abbrev s__law_draw : Stmt := top 30
def N__law_draw : List Str := ["_law_pot_here", "_law_size", "_law_digit"]
def m__law_draw : Sf := (sSeq (sIf (tOf (eOp2 dGt (eOp2 dIx (eVar 0) (eC (.int 0))) (eC (.int 0)))) (sSeq (sAsg (eCall bDivmod (aCons (eOp2 dIx (eVar 0) (eC (.int 0))) (aCons (eVar 1) aNil))) (gTupF (gsCons (gSubF (eVar 0) (eC (.int 0))) (gsCons (gSet 2) gsNil)))) (sRet (eR (eVar 2)))) sNil) (sSeq (sAsg (eOp2 dMod (eCall bInt (aCons (eOp2 dAdd (eOp2 dMul (eOp2 dIx (eVar 0) (eC (.int 1))) (eC (.int 40014))) (eC (.int 9433))) aNil)) (eC (.int 2147483563))) (gSubF (eVar 0) (eC (.int 1)))) (sRet (eR (eOp2 dMod (eCall bInt (aCons (eOp2 dFdiv (eOp2 dMod (eCall bInt (aCons (eOp2 dMul (eOp2 dIx (eVar 0) (eC (.int 1))) (eOp2 dIx (eVar 0) (eC (.int 1)))) aNil)) (eC (.int 2147483629))) (eC (.int 19))) aNil)) (eVar 1))))))
def F__law_draw : Fn := runF 2 3 m__law_draw
theorem sc__law_draw : FnScope (["_law_pot_here", "_law_size", "_law_digit"] : List Str) ["_law_pot_here", "_law_size"] (defScope s__law_draw) := ⟨rfl, rfl, rfl, by decide +kernel, rfl, by decide +kernel, by decide +kernel⟩
abbrev s__law_made : Stmt := top 32
def N__law_made : List Str := ["_law_number", "_law_under", "_law_one", "_law_other"]
def m__law_made : Sf := (sSeq (sPar 2 3 (eR (eCall bAbs (aCons (eVar 0) aNil))) (eR (eCall bAbs (aCons (eVar 1) aNil)))) (sSeq (sWhile (tOf (eOp2 dGt (eVar 3) (eC (.int 0)))) (sPar 2 3 (eR (eVar 3)) (eR (eOp2 dMod (eCall bInt (aCons (eVar 2) aNil)) (eVar 3))))) (sSeq (sSet 2 (eR (eIf (tOf (eOp2 dGt (eVar 1) (eC (.int 0)))) (eVar 2) (eOp2 dSub (eC (.int 0)) (eVar 2))))) (sRet (eR (eTup (aCons (eOp2 dFdiv (eVar 0) (eVar 2)) (aCons (eOp2 dFdiv (eVar 1) (eVar 2)) aNil))))))))
def F__law_made : Fn := runF 2 4 m__law_made
theorem sc__law_made : FnScope (["_law_number", "_law_under", "_law_one", "_law_other"] : List Str) ["_law_number", "_law_under"] (defScope s__law_made) := ⟨rfl, rfl, rfl, by decide +kernel, rfl, by decide +kernel, by decide +kernel⟩
abbrev s__law_sum : Stmt := top 33
def N__law_sum : List Str := ["_law_one", "_law_other"]
def m__law_sum : Sf := (sRet (eFnC F__law_made [false, false] (aCons (eOp2 dAdd (eOp2 dMul (eOp2 dIx (eVar 0) (eC (.int 0))) (eOp2 dIx (eVar 1) (eC (.int 1)))) (eOp2 dMul (eOp2 dIx (eVar 1) (eC (.int 0))) (eOp2 dIx (eVar 0) (eC (.int 1))))) (aCons (eOp2 dMul (eOp2 dIx (eVar 0) (eC (.int 1))) (eOp2 dIx (eVar 1) (eC (.int 1)))) aNil))))
def F__law_sum : Fn := runF 2 2 m__law_sum
theorem sc__law_sum : FnScope (["_law_one", "_law_other"] : List Str) ["_law_one", "_law_other"] (defScope s__law_sum) := ⟨rfl, rfl, rfl, by decide +kernel, rfl, by decide +kernel, by decide +kernel⟩
abbrev s__law_times : Stmt := top 34
def N__law_times : List Str := ["_law_one", "_law_other"]
def m__law_times : Sf := (sRet (eFnC F__law_made [false, false] (aCons (eOp2 dMul (eOp2 dIx (eVar 0) (eC (.int 0))) (eOp2 dIx (eVar 1) (eC (.int 0)))) (aCons (eOp2 dMul (eOp2 dIx (eVar 0) (eC (.int 1))) (eOp2 dIx (eVar 1) (eC (.int 1)))) aNil))))
def F__law_times : Fn := runF 2 2 m__law_times
theorem sc__law_times : FnScope (["_law_one", "_law_other"] : List Str) ["_law_one", "_law_other"] (defScope s__law_times) := ⟨rfl, rfl, rfl, by decide +kernel, rfl, by decide +kernel, by decide +kernel⟩
abbrev s__law_less : Stmt := top 35
def N__law_less : List Str := ["_law_one", "_law_other"]
def m__law_less : Sf := (sRet (eFnC F__law_sum [false, false] (aCons (eVar 0) (aCons (eTup (aCons (eOp2 dSub (eC (.int 0)) (eOp2 dIx (eVar 1) (eC (.int 0)))) (aCons (eOp2 dIx (eVar 1) (eC (.int 1))) aNil))) aNil))))
def F__law_less : Fn := runF 2 2 m__law_less
theorem sc__law_less : FnScope (["_law_one", "_law_other"] : List Str) ["_law_one", "_law_other"] (defScope s__law_less) := ⟨rfl, rfl, rfl, by decide +kernel, rfl, by decide +kernel, by decide +kernel⟩
abbrev s__law_freed : Stmt := top 38
def N__law_freed : List Str := ["_law_row_here", "_law_head", "_law_place", "_law_often", "_law_one", "_law_late"]
def m__law_freed : Sf := (sSeq (sSet 3 (eR (eOp2 dIx (eVar 0) (eVar 2)))) (sRet (eLc (iZip2F (aCons (eVar 0) (aCons (eVar 1) aNil))) (gTupF (gsCons (gSet 4) (gsCons (gSet 5) gsNil))) tYesF (eFz (eFnC F__law_less [false, false] (aCons (eVar 4) (aCons (eFz (eFnC F__law_times [false, false] (aCons (eVar 3) (aCons (eVar 5) aNil)))) aNil)))) [4, 5])))
def F__law_freed : Fn := runF 3 6 m__law_freed
theorem sc__law_freed : FnScope (["_law_row_here", "_law_head", "_law_place", "_law_often", "_law_one", "_law_late"] : List Str) ["_law_row_here", "_law_head", "_law_place"] (defScope s__law_freed) := ⟨rfl, rfl, rfl, by decide +kernel, rfl, by decide +kernel, by decide +kernel⟩
abbrev s__law_solved : Stmt := top 37
def N__law_solved : List Str := ["_law_rows_here", "_law_many", "_law_left", "_law_heads", "_law_place", "_law_some", "_law_head", "_law_often", "_law_row_here", "_law_at", "_law_one"]
def m__law_solved : Sf := (sSeq (sPar3 1 2 3 (eR (eOp2 dSub (eCall bLen (aCons (eOp2 dIx (eVar 0) (eC (.int 0))) aNil)) (eC (.int 1)))) (eLc (iSeq (eVar 0)) (gSet 8) tYesF (eFz (eCallN bList (aCons (eVar 8) aNil))) [8]) (eLst aNil)) (sSeq (sFor (iRng1F (aCons (eVar 1) aNil)) (gSet 4) (sSeq (sSet 5 (eLc (iEnumF (aCons (eVar 2) aNil)) (gTupF (gsCons (gSet 9) (gsCons (gSet 8) gsNil))) (tOf (eOp2 dNe (eOp2 dIx (eOp2 dIx (eVar 8) (eVar 4)) (eC (.int 0))) (eC (.int 0)))) (eVar 9) [9, 8])) (sSeq (sIf (tOf (eOp2 dEq (eVar 5) (eFz (eLst aNil)))) (sRet (eR (eC .none))) sNil) (sSeq (sPar 6 2 (eR (eOp2 dIx (eVar 2) (eOp2 dIx (eVar 5) (eC (.int 0))))) (eCat (eCut (eVar 2) oNone (oSome (eOp2 dIx (eVar 5) (eC (.int 0))))) (eCut (eVar 2) (oSome (eOp2 dAdd (eOp2 dIx (eVar 5) (eC (.int 0))) (eC (.int 1)))) oNone))) (sSeq (sSet 7 (eR (eTup (aCons (eOp2 dIx (eOp2 dIx (eVar 6) (eVar 4)) (eC (.int 1))) (aCons (eOp2 dIx (eOp2 dIx (eVar 6) (eVar 4)) (eC (.int 0))) aNil))))) (sSeq (sSet 6 (eLc (iSeq (eVar 6)) (gSet 10) tYesF (eFz (eFnC F__law_times [false, false] (aCons (eVar 10) (aCons (eFz (eFnC F__law_made [false, false] (aCons (eOp2 dIx (eVar 7) (eC (.int 0))) (aCons (eOp2 dIx (eVar 7) (eC (.int 1))) aNil)))) aNil)))) [10])) (sSeq (sSet 2 (eLc (iSeq (eVar 2)) (gSet 8) tYesF (eFz (eFnC F__law_freed [false, false, false] (aCons (eVar 8) (aCons (eVar 6) (aCons (eVar 4) aNil))))) [8])) (sSet 3 (eCat (eLc (iSeq (eVar 3)) (gSet 8) tYesF (eFz (eFnC F__law_freed [false, false, false] (aCons (eVar 8) (aCons (eVar 6) (aCons (eVar 4) aNil))))) [8]) (eLst (aCons (eVar 6) aNil))))))))))) (sSeq (sIf (tOf (eOp2 dNe (eFz (eLc (iSeq (eVar 2)) (gSet 8) (tOf (eOp2 dNe (eOp2 dIx (eOp2 dIx (eVar 8) (eVar 1)) (eC (.int 0))) (eC (.int 0)))) (eVar 8) [8])) (eFz (eLst aNil)))) (sRet (eR (eC .none))) sNil) (sRet (eR (eCall bTuple (aCons (eFz (eLc (iSeq (eVar 3)) (gSet 8) tYesF (eOp2 dIx (eVar 8) (eVar 1)) [8])) aNil)))))))
def F__law_solved : Fn := runF 1 11 m__law_solved
theorem sc__law_solved : FnScope (["_law_rows_here", "_law_many", "_law_left", "_law_heads", "_law_place", "_law_some", "_law_head", "_law_often", "_law_row_here", "_law_at", "_law_one"] : List Str) ["_law_rows_here"] (defScope s__law_solved) := ⟨rfl, rfl, rfl, by decide +kernel, rfl, by decide +kernel, by decide +kernel⟩
abbrev s__law_pick : Stmt := top 31
def N__law_pick : List Str := ["_law_pot_here", "_law_some"]
def m__law_pick : Sf := (sRet (eR (eOp2 dIx (eVar 1) (eFz (eFnC F__law_draw [true, false] (aCons (eVar 0) (aCons (eCall bLen (aCons (eVar 1) aNil)) aNil)))))))
def F__law_pick : Fn := runF 2 2 m__law_pick
theorem sc__law_pick : FnScope (["_law_pot_here", "_law_some"] : List Str) ["_law_pot_here", "_law_some"] (defScope s__law_pick) := ⟨rfl, rfl, rfl, by decide +kernel, rfl, by decide +kernel, by decide +kernel⟩
abbrev s__law_ratio : Stmt := top 36
def N__law_ratio : List Str := ["_law_pot_here"]
def m__law_ratio : Sf := (sRet (eFnC F__law_made [false, false] (aCons (eOp2 dSub (eFz (eFnC F__law_draw [true, false] (aCons (eVar 0) (aCons (eC (.int 9)) aNil)))) (eC (.int 4))) (aCons (eFz (eFnC F__law_pick [true, false] (aCons (eVar 0) (aCons (eFz (eLst (aCons (eC (.int 1)) (aCons (eC (.int 1)) (aCons (eC (.int 2)) (aCons (eC (.int 3)) aNil)))))) aNil)))) aNil))))
def F__law_ratio : Fn := runF 1 1 m__law_ratio
theorem sc__law_ratio : FnScope (["_law_pot_here"] : List Str) ["_law_pot_here"] (defScope s__law_ratio) := ⟨rfl, rfl, rfl, by decide +kernel, rfl, by decide +kernel, by decide +kernel⟩
abbrev s__law_row : Stmt := top 39
def N__law_row : List Str := ["_law_pot_here", "_law_many", "_law_found", "_law_turn"]
def m__law_row : Sf := (sSeq (sSet 2 (eLst aNil)) (sSeq (sFor (iRng1F (aCons (eVar 1) aNil)) (gSet 3) (sDrop (eMt mApp (eVar 2) (aCons (eFz (eFnC F__law_ratio [true] (aCons (eVar 0) aNil))) aNil)))) (sRet (eR (eVar 2)))))
def F__law_row : Fn := runF 2 4 m__law_row
theorem sc__law_row : FnScope (["_law_pot_here", "_law_many", "_law_found", "_law_turn"] : List Str) ["_law_pot_here", "_law_many"] (defScope s__law_row) := ⟨rfl, rfl, rfl, by decide +kernel, rfl, by decide +kernel, by decide +kernel⟩
abbrev s__law_rows : Stmt := top 40
def N__law_rows : List Str := ["_law_pot_here", "_law_many", "_law_rows_here", "_law_turn", "_law_row_here", "_law_often", "_law_one"]
def m__law_rows : Sf := (sSeq (sPar 1 2 (eR (eOp2 dAdd (eC (.int 1)) (eFz (eFnC F__law_draw [true, false] (aCons (eVar 0) (aCons (eC (.int 4)) aNil)))))) (eLst aNil)) (sSeq (sFor (iRng1F (aCons (eVar 1) aNil)) (gSet 3) (sSeq (sSet 4 (eFnC F__law_row [true, false] (aCons (eVar 0) (aCons (eOp2 dAdd (eVar 1) (eC (.int 1))) aNil)))) (sSeq (sIf (tAndF (tOf (eOp2 dNe (eVar 2) (eFz (eLst aNil)))) (tOf (eOp2 dEq (eFz (eFnC F__law_draw [true, false] (aCons (eVar 0) (aCons (eC (.int 5)) aNil)))) (eC (.int 0))))) (sSeq (sSet 5 (eFnC F__law_ratio [true] (aCons (eVar 0) aNil))) (sSeq (sSet 4 (eLc (iSeq (eOp2 dIx (eVar 2) (eC (.int 0)))) (gSet 6) tYesF (eFz (eFnC F__law_times [false, false] (aCons (eVar 5) (aCons (eVar 6) aNil)))) [6])) (sIf (tOf (eOp2 dEq (eFz (eFnC F__law_draw [true, false] (aCons (eVar 0) (aCons (eC (.int 2)) aNil)))) (eC (.int 0)))) (sAsg (eFz (eFnC F__law_sum [false, false] (aCons (eOp2 dIx (eVar 4) (eOp1 dNeg (eC (.int 1)))) (aCons (eTup (aCons (eC (.int 1)) (aCons (eC (.int 1)) aNil))) aNil)))) (gSubF (eVar 4) (eOp1 dNeg (eC (.int 1))))) sNil))) sNil) (sDrop (eMt mApp (eVar 2) (aCons (eVar 4) aNil)))))) (sRet (eR (eVar 2)))))
def F__law_rows : Fn := runF 1 7 m__law_rows
theorem sc__law_rows : FnScope (["_law_pot_here", "_law_many", "_law_rows_here", "_law_turn", "_law_row_here", "_law_often", "_law_one"] : List Str) ["_law_pot_here"] (defScope s__law_rows) := ⟨rfl, rfl, rfl, by decide +kernel, rfl, by decide +kernel, by decide +kernel⟩
abbrev s__law_sums : Stmt := top 41
def N__law_sums : List Str := ["_law_row_here", "_law_some", "_law_found", "_law_one", "_law_late"]
def m__law_sums : Sf := (sSeq (sSet 2 (eR (eTup (aCons (eC (.int 0)) (aCons (eC (.int 1)) aNil))))) (sSeq (sFor (iZip2F (aCons (eVar 0) (aCons (eVar 1) aNil))) (gTupF (gsCons (gSet 3) (gsCons (gSet 4) gsNil))) (sSet 2 (eFnC F__law_sum [false, false] (aCons (eVar 2) (aCons (eFz (eFnC F__law_times [false, false] (aCons (eVar 3) (aCons (eVar 4) aNil)))) aNil))))) (sRet (eR (eVar 2)))))
def F__law_sums : Fn := runF 2 5 m__law_sums
theorem sc__law_sums : FnScope (["_law_row_here", "_law_some", "_law_found", "_law_one", "_law_late"] : List Str) ["_law_row_here", "_law_some"] (defScope s__law_sums) := ⟨rfl, rfl, rfl, by decide +kernel, rfl, by decide +kernel, by decide +kernel⟩
abbrev s__law_is_ratio : Stmt := top 42
def N__law_is_ratio : List Str := ["_law_value", "_law_one"]
def m__law_is_ratio : Sf := (sSeq (sIf (tOrF (tNotF (tTr (eIsi .tuple (eVar 0)))) (tOf (eOp2 dNe (eCall bLen (aCons (eVar 0) aNil)) (eC (.int 2))))) (sRet (eR (eC (.bool false)))) sNil) (sSeq (sIf (tNotF (tTr (eCall bAll (aCons (eFz (eLc (iSeq (eVar 0)) (gSet 1) tYesF (eAnd (eIsi .int (eVar 1)) (eNot (eIsi .bool (eVar 1)))) [1])) aNil)))) (sRet (eR (eC (.bool false)))) sNil) (sRet (eR (eAnd (eOp2 dGt (eOp2 dIx (eVar 0) (eC (.int 1))) (eC (.int 0))) (eOp2 dEq (eFz (eFnC F__law_made [false, false] (aCons (eOp2 dIx (eVar 0) (eC (.int 0))) (aCons (eOp2 dIx (eVar 0) (eC (.int 1))) aNil)))) (eVar 0)))))))
def F__law_is_ratio : Fn := runF 1 2 m__law_is_ratio
theorem sc__law_is_ratio : FnScope (["_law_value", "_law_one"] : List Str) ["_law_value"] (defScope s__law_is_ratio) := ⟨rfl, rfl, rfl, by decide +kernel, rfl, by decide +kernel, by decide +kernel⟩
abbrev s__law_is_solution : Stmt := top 43
def N__law_is_solution : List Str := ["_law_rows_here", "_law_value", "_law_row_here", "_law_one"]
def m__law_is_solution : Sf := (sSeq (sIf (tOrF (tNotF (tTr (eIsi .tuple (eVar 1)))) (tOf (eOp2 dNe (eCall bLen (aCons (eVar 1) aNil)) (eCall bLen (aCons (eVar 0) aNil))))) (sRet (eR (eC (.bool false)))) sNil) (sSeq (sIf (tNotF (tTr (eCall bAll (aCons (eFz (eLc (iSeq (eVar 1)) (gSet 3) tYesF (eFz (eFnC F__law_is_ratio [false] (aCons (eVar 3) aNil))) [3])) aNil)))) (sRet (eR (eC (.bool false)))) sNil) (sRet (eR (eCall bAll (aCons (eFz (eLc (iSeq (eVar 0)) (gSet 2) tYesF (eOp2 dEq (eFz (eFnC F__law_sums [false, false] (aCons (eVar 2) (aCons (eVar 1) aNil)))) (eOp2 dIx (eVar 2) (eOp1 dNeg (eC (.int 1))))) [2])) aNil))))))
def F__law_is_solution : Fn := runF 2 4 m__law_is_solution
theorem sc__law_is_solution : FnScope (["_law_rows_here", "_law_value", "_law_row_here", "_law_one"] : List Str) ["_law_rows_here", "_law_value"] (defScope s__law_is_solution) := ⟨rfl, rfl, rfl, by decide +kernel, rfl, by decide +kernel, by decide +kernel⟩
abbrev s__law_right : Stmt := top 44
def N__law_right : List Str := ["_law_pot_here", "_law_rows_here", "_law_due", "_law_many", "_law_left", "_law_right_here", "_law_shown", "_law_late", "_law_base", "_law_at", "_law_values", "_law_one", "_law_value", "_law_is_due", "_law_row_here"]
def m__law_right : Sf := (sSeq (sSet 1 (eFnC F__law_rows [true] (aCons (eVar 0) aNil))) (sSeq (sPar 2 3 (eFnC F__law_solved [false] (aCons (eVar 1) aNil)) (eR (eCall bLen (aCons (eVar 1) aNil)))) (sSeq (sPar 4 5 (eLc (iSeq (eVar 1)) (gSet 14) tYesF (eFz (eCut (eVar 14) oNone (oSome (eOp1 dNeg (eC (.int 1)))))) [14]) (eLc (iSeq (eVar 1)) (gSet 14) tYesF (eOp2 dIx (eVar 14) (eOp1 dNeg (eC (.int 1)))) [14])) (sSeq (sSet 6 (eR (eCall bRepr (aCons (eFz (eLst (aCons (eVar 4) (aCons (eVar 5) aNil)))) aNil)))) (sSeq (sIf (tOf (eOp2 dNe (eCall bRepr (aCons (eFz (eFnC F_solved_equations [false, false] (aCons (eVar 4) (aCons (eVar 5) aNil)))) aNil)) (eCall bRepr (aCons (eVar 2) aNil)))) (sRet (eR (eC (.bool false)))) sNil) (sSeq (sSet 7 (eR (eCall bTuple (aCons (eFz (eLc (iSeq (eVar 4)) (gSet 14) tYesF (eCall bTuple (aCons (eVar 14) aNil)) [14])) aNil)))) (sSeq (sIf (tOf (eOp2 dNe (eCall bRepr (aCons (eFz (eFnK F_solved_equations [false, false] [1, 0] [] 0 2 aNil (aCons (eCall bTuple (aCons (eVar 5) aNil)) (aCons (eVar 7) aNil)))) aNil)) (eCall bRepr (aCons (eVar 2) aNil)))) (sRet (eR (eC (.bool false)))) sNil) (sSeq (sSet 8 (eR (eIf (tOf (eOp2 dIsN (eVar 2) (eC .none))) (eVar 2) (eCall bTuple (aCons (eFz (eFnC F__law_row [true, false] (aCons (eVar 0) (aCons (eVar 3) aNil)))) aNil))))) (sSeq (sSet 9 (eFnC F__law_draw [true, false] (aCons (eVar 0) (aCons (eVar 3) aNil)))) (sSeq (sSet 10 (eLst (aCons (eVar 8) (aCons (eFz (eCallN bList (aCons (eVar 8) aNil))) (aCons (eFz (eCut (eVar 8) (oSome (eC (.int 1))) oNone)) (aCons (eOp2 dAdd (eVar 8) (eTup (aCons (eTup (aCons (eC (.int 0)) (aCons (eC (.int 1)) aNil))) aNil))) (aCons (eC .none) (aCons (eC (.int 0)) (aCons (eTup aNil) (aCons (eC (.str "x")) (aCons (eOp2 dMulQ (eTup (aCons (eC (.bool true)) aNil)) (eVar 3)) aNil))))))))))) (sSeq (sDrop (eMt mApp (eVar 10) (aCons (eOp2 dAdd (eOp2 dAdd (eFz (eCut (eVar 8) oNone (oSome (eVar 9)))) (eTup (aCons (eFz (eFnC F__law_sum [false, false] (aCons (eOp2 dIx (eVar 8) (eVar 9)) (aCons (eTup (aCons (eC (.int 1)) (aCons (eC (.int 7)) aNil))) aNil)))) aNil))) (eFz (eCut (eVar 8) (oSome (eOp2 dAdd (eVar 9) (eC (.int 1)))) oNone))) aNil))) (sSeq (sDrop (eMt mApp (eVar 10) (aCons (eOp2 dAdd (eOp2 dAdd (eFz (eCut (eVar 8) oNone (oSome (eVar 9)))) (eTup (aCons (eTup (aCons (eOp2 dMul (eOp2 dIx (eOp2 dIx (eVar 8) (eVar 9)) (eC (.int 0))) (eC (.int 2))) (aCons (eOp2 dMul (eOp2 dIx (eOp2 dIx (eVar 8) (eVar 9)) (eC (.int 1))) (eC (.int 2))) aNil))) aNil))) (eFz (eCut (eVar 8) (oSome (eOp2 dAdd (eVar 9) (eC (.int 1)))) oNone))) aNil))) (sSeq (sIf (tOf (eOp2 dNe (eOp2 dIx (eOp2 dIx (eOp2 dIx (eVar 4) (eC (.int 0))) (eC (.int 0))) (eC (.int 0))) (eC (.int 0)))) (sSeq (sSet 11 (eFnC F__law_made [false, false] (aCons (eOp2 dMul (eOp2 dIx (eOp2 dIx (eVar 5) (eC (.int 0))) (eC (.int 0))) (eOp2 dIx (eOp2 dIx (eOp2 dIx (eVar 4) (eC (.int 0))) (eC (.int 0))) (eC (.int 1)))) (aCons (eOp2 dMul (eOp2 dIx (eOp2 dIx (eVar 5) (eC (.int 0))) (eC (.int 1))) (eOp2 dIx (eOp2 dIx (eOp2 dIx (eVar 4) (eC (.int 0))) (eC (.int 0))) (eC (.int 0)))) aNil)))) (sDrop (eMt mApp (eVar 10) (aCons (eOp2 dAdd (eTup (aCons (eVar 11) aNil)) (eOp2 dMulQ (eTup (aCons (eTup (aCons (eC (.int 0)) (aCons (eC (.int 1)) aNil))) aNil)) (eOp2 dSub (eVar 3) (eC (.int 1))))) aNil)))) sNil) (sSeq (sFor (iSeq (eVar 10)) (gSet 12) (sSeq (sSet 13 (eFnC F__law_is_solution [false, false] (aCons (eVar 1) (aCons (eVar 12) aNil)))) (sSeq (sIf (tOf (eOp2 dNe (eCall bRepr (aCons (eFz (eFnC F_is_solution [false, false, false] (aCons (eVar 4) (aCons (eVar 5) (aCons (eVar 12) aNil))))) aNil)) (eCall bRepr (aCons (eVar 13) aNil)))) (sRet (eR (eC (.bool false)))) sNil) (sIf (tOf (eOp2 dNe (eCall bRepr (aCons (eFz (eFnK F_is_solution [false, false, false] [2, 1, 0] [] 0 3 aNil (aCons (eVar 12) (aCons (eVar 5) (aCons (eVar 4) aNil))))) aNil)) (eCall bRepr (aCons (eVar 13) aNil)))) (sRet (eR (eC (.bool false)))) sNil)))) (sRet (eR (eOp2 dEq (eCall bRepr (aCons (eFz (eLst (aCons (eVar 4) (aCons (eVar 5) aNil)))) aNil)) (eVar 6))))))))))))))))))
def F__law_right : Fn := runF 1 15 m__law_right
theorem sc__law_right : FnScope (["_law_pot_here", "_law_rows_here", "_law_due", "_law_many", "_law_left", "_law_right_here", "_law_shown", "_law_late", "_law_base", "_law_at", "_law_values", "_law_one", "_law_value", "_law_is_due", "_law_row_here"] : List Str) ["_law_pot_here"] (defScope s__law_right) := ⟨rfl, rfl, rfl, by decide +kernel, rfl, by decide +kernel, by decide +kernel⟩
abbrev s_law : Stmt := top 45
def N_law : List Str := ["_law_script"]
def m_law : Sf := (sRet (eFn1 F__law_right (eFnC F__law_pot [false, false] (aCons (eVar 0) (aCons (eC (.int 0)) aNil)))))
def F_law : Fn := runF 1 1 m_law
theorem sc_law : FnScope (["_law_script"] : List Str) ["_law_script"] (defScope s_law) := ⟨rfl, rfl, rfl, by decide +kernel, rfl, by decide +kernel, by decide +kernel⟩
section
variable {P : Program} {w : World} {K : PySem.W.Frag} {mg : Str → Option Value} {base : Heap} {f : Addr} {fd : FuncData}
theorem r__law_pot (D : FnP K "_law_pot" s__law_pot f fd)
    (h_max : mg "max" = none)
    (h_int : mg "int" = none)
    (h_len : mg "len" = none)
    (h_abs : mg "abs" = none) : FnG P w K mg base 1 f fd ["_law_script", "_law_k"] (spF K mg 2 F__law_pot) := by
  exact fn_mk (N := ["_law_script", "_law_k", "_law_cell", "_law_low"]) (ps := ["_law_script", "_law_k"]) D sc__law_pot fun cdv A outer s H E hr gu Φ => (s_cons (s_set 2 sc__law_pot.nd (d_r (d_if (t_cmp op_dLt (d_var 1) (d_callB cr_dLen h_len (d_acons (d_var 0) d_anil)) (nomark _)) (d_callB cr_dAbs h_abs (d_acons (d_ix (d_var 0) (d_var 1) (fun _ _ => rfl)) d_anil)) (d_op op_dAdd (d_op op_dMul d_int (d_var 1)) d_int)))) (s_cons (s_set 3 sc__law_pot.nd (d_r (d_op op_dAdd (d_op op_dMod (d_callTy cr_dInt h_int (d_acons (d_op op_dAdd (d_op op_dAdd (d_op op_dMul (d_op op_dMod (d_callTy cr_dInt h_int (d_acons (d_var 2) d_anil)) d_int) d_int) (d_op op_dMul d_int (d_var 1))) d_int) d_anil)) d_int) d_int))) (s_one (s_ret (d_lst (d_acons (d_callB (cr_dMax2 rfl) h_max (d_acons d_int (d_acons (d_op op_dSub (d_var 2) (d_op op_dPow d_int d_int)) d_anil))) (d_acons (d_var 3) d_anil)))))))
theorem r_made_ratio (D : FnP K "made_ratio" s_made_ratio f fd)
    (h_gcd : mg "gcd" = some (.builtin "math.gcd")) : FnG P w K mg base 1 f fd ["number", "under"] (spF K mg 2 F_made_ratio) := by
  exact fn_mk (N := ["number", "under", "part"]) (ps := ["number", "under"]) D sc_made_ratio fun cdv A outer s H E hr gu Φ => (s_cons (s_set 2 sc_made_ratio.nd (d_r (d_callF cr_dGcd h_gcd (d_acons (d_var 0) (d_acons (d_var 1) d_anil))))) (s_cons (s_if (t_cmp op_dLt (d_var 1) d_int (nomark _)) (s_one (s_set 2 sc_made_ratio.nd (d_r (d_op op_dSub d_int (d_var 2))))) s_nil) (s_one (s_ret (d_r (d_tup (d_acons (d_op op_dFdiv (d_var 0) (d_var 2)) (d_acons (d_op op_dFdiv (d_var 1) (d_var 2)) d_anil))))))))
theorem r_led_head (D : FnP K "led_head" s_led_head f fd)
    (h_len : mg "len" = none)
    (h_range : mg "range" = none) : FnG P w K mg base 1 f fd ["table", "place"] (spF K mg 2 F_led_head) := by
  exact fn_mk (N := ["table", "place", "at"]) (ps := ["table", "place"]) D sc_led_head fun cdv A outer s H E hr gu Φ => (s_cons (s_for (passes_of rfl) rfl (i_rng2 h_range (d_acons (d_var 1) (d_acons (d_callB cr_dLen h_len (d_acons (d_var 0) d_anil)) d_anil))) (g_name 2 sc_led_head.nd) (s_one (s_if (t_cmp (op_dNe hr.units) (d_ix (d_ix (d_var 0) (d_var 2) (fun _ _ => rfl)) (d_var 1) (fun _ _ => rfl)) d_int (nomark _)) (s_cons (s_asg (d_tup (d_acons (d_ix (d_var 0) (d_var 2) (fun _ _ => rfl)) (d_acons (d_ix (d_var 0) (d_var 1) (fun _ _ => rfl)) d_anil))) (g_tup rfl (g_scons (g_sub (d_var 0) (d_var 1) (fun _ => rfl)) (g_scons (g_sub (d_var 0) (d_var 2) (fun _ => rfl)) g_snil)) (gs_len (gs_len gs_len0)))) (s_one (s_ret (d_r d_bool)))) s_nil))) (s_one (s_ret (d_r d_bool))))
theorem r_row_below (D : FnP K "row_below" s_row_below f fd)
    (h_zip : mg "zip" = none) : FnG P w K mg base 1 f fd ["row", "head", "place", "last"] (spF K mg 4 F_row_below) := by
  exact fn_mk (N := ["row", "head", "place", "last", "number", "other"]) (ps := ["row", "head", "place", "last"]) D sc_row_below fun cdv A outer s H E hr gu Φ => (s_one (s_ret (d_lc (own := [("number", 4), ("other", 5)]) rfl sc_row_below.nd (i_zip2 h_zip (d_acons (d_var 0) (d_acons (d_var 1) d_anil))) (blkOk_by (by first | (show blkC ["row", "head", "place", "last", "number", "other"] (defScope s_row_below) _ _ = true; decide +kernel) | kernel_rfl | rfl)) (fun Ψ s H C cl fp => (g_tup rfl (g_scons (g_name 4 sc_row_below.nd) (g_scons (g_name 5 sc_row_below.nd) g_snil)) (gs_len (gs_len gs_len0)))) (fun Ψ s H C cl fp => t_yes) (fun Ψ s H C cl fp => (d_op op_dFdiv (d_op op_dSub (d_op op_dMul (d_var 4) (d_ix (d_var 1) (d_var 2) (fun _ _ => rfl))) (d_op op_dMul (d_ix (d_var 0) (d_var 2) (fun _ _ => rfl)) (d_var 5))) (d_var 3))))))
theorem r_reduced_table (D : FnP K "reduced_table" s_reduced_table f fd)
    (h_len : mg "len" = none)
    (h_range : mg "range" = none)
    {a_row_below : Addr} {fd_row_below : FuncData} (D_row_below : FnP K "row_below" s_row_below a_row_below fd_row_below) (g_row_below : mg "row_below" = some (.ref a_row_below)) (R_row_below : FnG P w K mg base 1 a_row_below fd_row_below ["row", "head", "place", "last"] (spF K mg 4 F_row_below))
    {a_led_head : Addr} {fd_led_head : FuncData} (D_led_head : FnP K "led_head" s_led_head a_led_head fd_led_head) (g_led_head : mg "led_head" = some (.ref a_led_head)) (R_led_head : FnG P w K mg base 1 a_led_head fd_led_head ["table", "place"] (spF K mg 2 F_led_head))
    (h_list : mg "list" = none) : FnG P w K mg base 2 f fd ["table"] (spF K mg 1 F_reduced_table) := by
  have b_led_head : Binds K fd_led_head ["table", "place"] [] := D_led_head.bindsN fun _ _ _ _ _ _ us hl => match us, hl with | [_, _], _ => rfl
  have b_row_below : Binds K fd_row_below ["row", "head", "place", "last"] [] := D_row_below.bindsN fun _ _ _ _ _ _ us hl => match us, hl with | [_, _, _, _], _ => rfl
  exact fn_mk (N := ["table", "found", "last", "place", "at", "row"]) (ps := ["table"]) D sc_reduced_table fun cdv A outer s H E hr gu Φ => (s_cons (s_par 1 2 rfl sc_reduced_table.nd (d_lc (own := [("row", 5)]) rfl sc_reduced_table.nd (i_seq (d_var 0)) (blkOk_by (by first | (show blkC ["table", "found", "last", "place", "at", "row"] (defScope s_reduced_table) _ _ = true; decide +kernel) | kernel_rfl | rfl)) (fun Ψ s H C cl fp => (g_name 5 sc_reduced_table.nd)) (fun Ψ s H C cl fp => t_yes) (fun Ψ s H C cl fp => (d_fz (d_callTyN cr_dList h_list (d_acons (d_var 5) d_anil))))) (fun Φ => (d_r d_int)) rfl) (s_cons (s_for (passes_of rfl) rfl (i_rng1 h_range (d_acons (d_callB cr_dLen h_len (d_acons (d_var 1) d_anil)) d_anil)) (g_name 3 sc_reduced_table.nd) (s_cons (s_if (t_not (t_tr (d_fz (d_call [true, false] R_led_head (hr.mono (by omega)) gu g_led_head D_led_head.kp b_led_head (takes_of rfl rfl rfl rfl) (d_acons (d_var 1) (d_acons (d_var 3) d_anil)))))) (s_one (s_ret (d_r d_none))) s_nil) (s_cons (s_for (passes_of rfl) rfl (i_rng2 h_range (d_acons (d_op op_dAdd (d_var 3) d_int) (d_acons (d_callB cr_dLen h_len (d_acons (d_var 1) d_anil)) d_anil))) (g_name 4 sc_reduced_table.nd) (s_one (s_asg (d_fz (d_call [false, false, false, false] R_row_below (hr.mono (by omega)) gu g_row_below D_row_below.kp b_row_below (takes_of rfl rfl rfl rfl) (d_acons (d_ix (d_var 1) (d_var 4) (fun _ _ => rfl)) (d_acons (d_ix (d_var 1) (d_var 3) (fun _ _ => rfl)) (d_acons (d_var 3) (d_acons (d_var 2) d_anil)))))) (g_sub (d_var 1) (d_var 4) (fun _ => rfl))))) (s_one (s_set 2 sc_reduced_table.nd (d_r (d_ix (d_ix (d_var 1) (d_var 3) (fun _ _ => rfl)) (d_var 3) (fun _ _ => rfl)))))))) (s_one (s_ret (d_r (d_var 1))))))
theorem r_numbers_from_below (D : FnP K "numbers_from_below" s_numbers_from_below f fd)
    (h_range : mg "range" = none)
    (h_len : mg "len" = none) : FnG P w K mg base 1 f fd ["table", "column"] (spF K mg 2 F_numbers_from_below) := by
  exact fn_mk (N := ["table", "column", "many", "under", "found", "at", "rest", "late"]) (ps := ["table", "column"]) D sc_numbers_from_below fun cdv A outer s H E hr gu Φ => (s_cons (s_set 2 sc_numbers_from_below.nd (d_r (d_callB cr_dLen h_len (d_acons (d_var 0) d_anil)))) (s_cons (s_par 3 4 rfl sc_numbers_from_below.nd (d_r (d_ix (d_ix (d_var 0) (d_op op_dSub (d_var 2) d_int) (fun _ _ => rfl)) (d_op op_dSub (d_var 2) d_int) (fun _ _ => rfl))) (fun Φ => (d_rep (d_lst (d_acons d_int d_anil)) (fun Φ => (d_var 2)))) rfl) (s_cons (s_for (passes_of rfl) rfl (i_down h_range (d_acons (d_op op_dSub (d_var 2) d_int) (d_acons (d_un op_dNeg d_int) (d_acons (d_un op_dNeg d_int) d_anil)))) (g_name 5 sc_numbers_from_below.nd) (s_cons (s_set 6 sc_numbers_from_below.nd (d_r (d_op op_dMul (d_var 3) (d_ix (d_ix (d_var 0) (d_var 5) (fun _ _ => rfl)) (d_var 1) (fun _ _ => rfl))))) (s_cons (s_for (passes_of rfl) rfl (i_rng2 h_range (d_acons (d_op op_dAdd (d_var 5) d_int) (d_acons (d_var 2) d_anil))) (g_name 7 sc_numbers_from_below.nd) (s_one (s_set 6 sc_numbers_from_below.nd (d_r (d_op op_dSub (d_var 6) (d_op op_dMul (d_ix (d_ix (d_var 0) (d_var 5) (fun _ _ => rfl)) (d_var 7) (fun _ _ => rfl)) (d_ix (d_var 4) (d_var 7) (fun _ _ => rfl)))))))) (s_one (s_asg (d_op op_dFdiv (d_var 6) (d_ix (d_ix (d_var 0) (d_var 5) (fun _ _ => rfl)) (d_var 5) (fun _ _ => rfl))) (g_sub (d_var 4) (d_var 5) (fun _ => rfl))))))) (s_one (s_ret (d_r (d_var 4)))))))
theorem r_reduced_solution (D : FnP K "reduced_solution" s_reduced_solution f fd)
    (h_len : mg "len" = none)
    (h_range : mg "range" = none)
    {a_made_ratio : Addr} {fd_made_ratio : FuncData} (D_made_ratio : FnP K "made_ratio" s_made_ratio a_made_ratio fd_made_ratio) (g_made_ratio : mg "made_ratio" = some (.ref a_made_ratio)) (R_made_ratio : FnG P w K mg base 1 a_made_ratio fd_made_ratio ["number", "under"] (spF K mg 2 F_made_ratio))
    (h_tuple : mg "tuple" = none)
    {a_numbers_from_below : Addr} {fd_numbers_from_below : FuncData} (D_numbers_from_below : FnP K "numbers_from_below" s_numbers_from_below a_numbers_from_below fd_numbers_from_below) (g_numbers_from_below : mg "numbers_from_below" = some (.ref a_numbers_from_below)) (R_numbers_from_below : FnG P w K mg base 1 a_numbers_from_below fd_numbers_from_below ["table", "column"] (spF K mg 2 F_numbers_from_below))
    {a_reduced_table : Addr} {fd_reduced_table : FuncData} (D_reduced_table : FnP K "reduced_table" s_reduced_table a_reduced_table fd_reduced_table) (g_reduced_table : mg "reduced_table" = some (.ref a_reduced_table)) (R_reduced_table : FnG P w K mg base 2 a_reduced_table fd_reduced_table ["table"] (spF K mg 1 F_reduced_table))
    (h_enumerate : mg "enumerate" = none)
    (h_list : mg "list" = none) : FnG P w K mg base 3 f fd ["rows", "rights"] (spF K mg 2 F_reduced_solution) := by
  have b_made_ratio : Binds K fd_made_ratio ["number", "under"] [] := D_made_ratio.bindsN fun _ _ _ _ _ _ us hl => match us, hl with | [_, _], _ => rfl
  have b_reduced_table : Binds K fd_reduced_table ["table"] [] := D_reduced_table.bindsN fun _ _ _ _ _ _ us hl => match us, hl with | [_], _ => rfl
  have b_numbers_from_below : Binds K fd_numbers_from_below ["table", "column"] [] := D_numbers_from_below.bindsN fun _ _ _ _ _ _ us hl => match us, hl with | [_, _], _ => rfl
  exact fn_mk (N := ["rows", "rights", "many", "table", "under", "found", "place", "numbers", "at", "row", "right", "number"]) (ps := ["rows", "rights"]) D sc_reduced_solution fun cdv A outer s H E hr gu Φ => (s_cons (s_set 2 sc_reduced_solution.nd (d_r (d_callB cr_dLen h_len (d_acons (d_var 0) d_anil)))) (s_cons (s_set 3 sc_reduced_solution.nd (d_call [false] R_reduced_table (hr.mono (by omega)) gu g_reduced_table D_reduced_table.kp b_reduced_table (takes_of rfl rfl rfl rfl) (d_acons (d_fz (d_lc (own := [("at", 8), ("row", 9)]) rfl sc_reduced_solution.nd (i_enum h_enumerate (d_acons (d_var 0) d_anil)) (blkOk_by (by first | (show blkC ["rows", "rights", "many", "table", "under", "found", "place", "numbers", "at", "row", "right", "number"] (defScope s_reduced_solution) _ _ = true; decide +kernel) | kernel_rfl | rfl)) (fun Ψ s H C cl fp => (g_tup rfl (g_scons (g_name 8 sc_reduced_solution.nd) (g_scons (g_name 9 sc_reduced_solution.nd) g_snil)) (gs_len (gs_len gs_len0)))) (fun Ψ s H C cl fp => t_yes) (fun Ψ s H C cl fp => (d_fz (d_cat (d_callTyN cr_dList h_list (d_acons (d_var 9) d_anil)) (fun Φ => (d_lc (own := [("right", 10)]) rfl sc_reduced_solution.nd (i_seq (d_var 1)) (blkOk_by (by first | (show blkC ["rows", "rights", "many", "table", "under", "found", "place", "numbers", "at", "row", "right", "number"] (defScope s_reduced_solution) _ _ = true; decide +kernel) | kernel_rfl | rfl)) (fun Ψ s H C cl fp => (g_name 10 sc_reduced_solution.nd)) (fun Ψ s H C cl fp => t_yes) (fun Ψ s H C cl fp => (d_ix (d_var 10) (d_var 8) (fun _ _ => rfl)))))))))) d_anil))) (s_cons (s_if (t_cmp op_dIs (d_var 3) d_none (nomark _)) (s_one (s_ret (d_r d_none))) s_nil) (s_cons (s_parT 4 5 rfl sc_reduced_solution.nd (d_r (d_ix (d_ix (d_var 3) (d_op op_dSub (d_var 2) d_int) (fun _ _ => rfl)) (d_op op_dSub (d_var 2) d_int) (fun _ _ => rfl))) (fun Φ => (d_lst d_anil))) (s_cons (s_for (passes_of rfl) rfl (i_rng1 h_range (d_acons (d_callB cr_dLen h_len (d_acons (d_var 1) d_anil)) d_anil)) (g_name 6 sc_reduced_solution.nd) (s_cons (s_set 7 sc_reduced_solution.nd (d_call [false, false] R_numbers_from_below (hr.mono (by omega)) gu g_numbers_from_below D_numbers_from_below.kp b_numbers_from_below (takes_of rfl rfl rfl rfl) (d_acons (d_var 3) (d_acons (d_op op_dAdd (d_var 2) (d_var 6)) d_anil)))) (s_one (s_expr (d_mt PySem.F.slot_list_append PySem.F.type_list_append mt_dApp (d_var 5) (d_acons (d_callTy cr_dTuple h_tuple (d_acons (d_fz (d_lc (own := [("number", 11)]) rfl sc_reduced_solution.nd (i_seq (d_var 7)) (blkOk_by (by first | (show blkC ["rows", "rights", "many", "table", "under", "found", "place", "numbers", "at", "row", "right", "number"] (defScope s_reduced_solution) _ _ = true; decide +kernel) | kernel_rfl | rfl)) (fun Ψ s H C cl fp => (g_name 11 sc_reduced_solution.nd)) (fun Ψ s H C cl fp => t_yes) (fun Ψ s H C cl fp => (d_fz (d_call [false, false] R_made_ratio (hr.mono (by omega)) gu g_made_ratio D_made_ratio.kp b_made_ratio takes0 (d_acons (d_var 11) (d_acons (d_var 4) d_anil))))))) d_anil)) d_anil)))))) (s_one (s_ret (d_r (d_var 5)))))))))
theorem r_least_common (D : FnP K "least_common" s_least_common f fd)
    (h_gcd : mg "gcd" = some (.builtin "math.gcd")) : FnG P w K mg base 1 f fd ["numbers"] (spF K mg 1 F_least_common) := by
  exact fn_mk (N := ["numbers", "found", "number"]) (ps := ["numbers"]) D sc_least_common fun cdv A outer s H E hr gu Φ => (s_cons (s_set 1 sc_least_common.nd (d_r d_int)) (s_cons (s_for (passes_of rfl) rfl (i_seq (d_var 0)) (g_name 2 sc_least_common.nd) (s_one (s_set 1 sc_least_common.nd (d_r (d_op op_dMul (d_op op_dFdiv (d_var 1) (d_callF cr_dGcd h_gcd (d_acons (d_var 1) (d_acons (d_var 2) d_anil)))) (d_var 2)))))) (s_one (s_ret (d_r (d_var 1))))))
theorem r_as_whole (D : FnP K "as_whole" s_as_whole f fd)
    {a_least_common : Addr} {fd_least_common : FuncData} (D_least_common : FnP K "least_common" s_least_common a_least_common fd_least_common) (g_least_common : mg "least_common" = some (.ref a_least_common)) (R_least_common : FnG P w K mg base 1 a_least_common fd_least_common ["numbers"] (spF K mg 1 F_least_common)) : FnG P w K mg base 2 f fd ["row"] (spF K mg 1 F_as_whole) := by
  have b_least_common : Binds K fd_least_common ["numbers"] [] := D_least_common.bindsN fun _ _ _ _ _ _ us hl => match us, hl with | [_], _ => rfl
  exact fn_mk (N := ["row", "times", "number", "under"]) (ps := ["row"]) D sc_as_whole fun cdv A outer s H E hr gu Φ => (s_cons (s_set 1 sc_as_whole.nd (d_call [false] R_least_common (hr.mono (by omega)) gu g_least_common D_least_common.kp b_least_common (takes_of rfl rfl rfl rfl) (d_acons (d_fz (d_lc (own := [("number", 2), ("under", 3)]) rfl sc_as_whole.nd (i_seq (d_var 0)) (blkOk_by (by first | (show blkC ["row", "times", "number", "under"] (defScope s_as_whole) _ _ = true; decide +kernel) | kernel_rfl | rfl)) (fun Ψ s H C cl fp => (g_tup rfl (g_scons (g_name 2 sc_as_whole.nd) (g_scons (g_name 3 sc_as_whole.nd) g_snil)) (gs_len (gs_len gs_len0)))) (fun Ψ s H C cl fp => t_yes) (fun Ψ s H C cl fp => (d_var 3)))) d_anil))) (s_one (s_ret (d_lc (own := [("number", 2), ("under", 3)]) rfl sc_as_whole.nd (i_seq (d_var 0)) (blkOk_by (by first | (show blkC ["row", "times", "number", "under"] (defScope s_as_whole) _ _ = true; decide +kernel) | kernel_rfl | rfl)) (fun Ψ s H C cl fp => (g_tup rfl (g_scons (g_name 2 sc_as_whole.nd) (g_scons (g_name 3 sc_as_whole.nd) g_snil)) (gs_len (gs_len gs_len0)))) (fun Ψ s H C cl fp => t_yes) (fun Ψ s H C cl fp => (d_op op_dMul (d_var 2) (d_op op_dFdiv (d_var 1) (d_var 3))))))))
theorem r_is_list (D : FnP K "is_list" s_is_list f fd)
    (h_isinstance : mg "isinstance" = none)
    (h_list : mg "list" = none)
    (h_tuple : mg "tuple" = none) : FnG P w K mg base 1 f fd ["value"] (spF K mg 1 F_is_list) := by
  exact fn_mk (N := ["value"]) (ps := ["value"]) D sc_is_list fun cdv A outer s H E hr gu Φ => (s_one (s_ret (d_r (d_isi2 .list .tuple h_isinstance h_list h_tuple (d_var 0)))))
theorem r_is_integer (D : FnP K "is_integer" s_is_integer f fd)
    (h_isinstance : mg "isinstance" = none)
    (h_bool : mg "bool" = none)
    (h_int : mg "int" = none) : FnG P w K mg base 1 f fd ["value"] (spF K mg 1 F_is_integer) := by
  exact fn_mk (N := ["value"]) (ps := ["value"]) D sc_is_integer fun cdv A outer s H E hr gu Φ => (s_one (s_ret (d_r (d_and (d_isi .int h_isinstance h_int (d_var 0)) (d_bone (d_not (d_isi .bool h_isinstance h_bool (d_var 0))))))))
theorem r_is_ratio (D : FnP K "is_ratio" s_is_ratio f fd)
    (h_gcd : mg "gcd" = some (.builtin "math.gcd"))
    {a_is_integer : Addr} {fd_is_integer : FuncData} (D_is_integer : FnP K "is_integer" s_is_integer a_is_integer fd_is_integer) (g_is_integer : mg "is_integer" = some (.ref a_is_integer)) (R_is_integer : FnG P w K mg base 1 a_is_integer fd_is_integer ["value"] (spF K mg 1 F_is_integer))
    (h_len : mg "len" = none)
    (h_isinstance : mg "isinstance" = none)
    (h_tuple : mg "tuple" = none) : FnG P w K mg base 2 f fd ["value"] (spF K mg 1 F_is_ratio) := by
  have b_is_integer : Binds K fd_is_integer ["value"] [] := D_is_integer.bindsN fun _ _ _ _ _ _ us hl => match us, hl with | [_], _ => rfl
  exact fn_mk (N := ["value"]) (ps := ["value"]) D sc_is_ratio fun cdv A outer s H E hr gu Φ => (s_cons (s_if (t_w (w_or (t_not (t_tr (d_isi .tuple h_isinstance h_tuple (d_var 0)))) (w_or (t_cmp (op_dNe hr.units) (d_callB cr_dLen h_len (d_acons (d_var 0) d_anil)) d_int (nomark _)) (w_or (t_not (t_tr (d_fz (d_call [false] R_is_integer (hr.mono (by omega)) gu g_is_integer D_is_integer.kp b_is_integer (takes_of rfl rfl rfl rfl) (d_acons (d_ix (d_var 0) d_int (fun _ _ => rfl)) d_anil))))) (w_or1 (t_not (t_tr (d_fz (d_call [false] R_is_integer (hr.mono (by omega)) gu g_is_integer D_is_integer.kp b_is_integer (takes_of rfl rfl rfl rfl) (d_acons (d_ix (d_var 0) d_int (fun _ _ => rfl)) d_anil)))))))))) (s_one (s_ret (d_r d_bool))) s_nil) (s_one (s_ret (d_r (d_and (d_cmp op_dGe (d_ix (d_var 0) d_int (fun _ _ => rfl)) d_int (nomark _)) (d_bone (d_cmp (op_dEq hr.units) (d_callF cr_dGcd h_gcd (d_acons (d_ix (d_var 0) d_int (fun _ _ => rfl)) (d_acons (d_ix (d_var 0) d_int (fun _ _ => rfl)) d_anil))) d_int (nomark _))))))))
theorem r_is_ratio_row (D : FnP K "is_ratio_row" s_is_ratio_row f fd)
    {a_is_ratio : Addr} {fd_is_ratio : FuncData} (D_is_ratio : FnP K "is_ratio" s_is_ratio a_is_ratio fd_is_ratio) (g_is_ratio : mg "is_ratio" = some (.ref a_is_ratio)) (R_is_ratio : FnG P w K mg base 2 a_is_ratio fd_is_ratio ["value"] (spF K mg 1 F_is_ratio))
    (h_all : mg "all" = none)
    (h_len : mg "len" = none)
    {a_is_list : Addr} {fd_is_list : FuncData} (D_is_list : FnP K "is_list" s_is_list a_is_list fd_is_list) (g_is_list : mg "is_list" = some (.ref a_is_list)) (R_is_list : FnG P w K mg base 1 a_is_list fd_is_list ["value"] (spF K mg 1 F_is_list)) : FnG P w K mg base 3 f fd ["many", "value"] (spF K mg 2 F_is_ratio_row) := by
  have b_is_list : Binds K fd_is_list ["value"] [] := D_is_list.bindsN fun _ _ _ _ _ _ us hl => match us, hl with | [_], _ => rfl
  have b_is_ratio : Binds K fd_is_ratio ["value"] [] := D_is_ratio.bindsN fun _ _ _ _ _ _ us hl => match us, hl with | [_], _ => rfl
  exact fn_mk (N := ["many", "value", "one"]) (ps := ["many", "value"]) D sc_is_ratio_row fun cdv A outer s H E hr gu Φ => (s_one (s_ret (d_r (d_and (d_fz (d_call [false] R_is_list (hr.mono (by omega)) gu g_is_list D_is_list.kp b_is_list (takes_of rfl rfl rfl rfl) (d_acons (d_var 1) d_anil))) (d_and (d_cmp (op_dEq hr.units) (d_callB cr_dLen h_len (d_acons (d_var 1) d_anil)) (d_var 0) (nomark _)) (d_bone (d_callB (cr_dAll rfl) h_all (d_acons (d_fz (d_lc (own := [("one", 2)]) rfl sc_is_ratio_row.nd (i_seq (d_var 1)) (blkOk_by (by first | (show blkC ["many", "value", "one"] (defScope s_is_ratio_row) _ _ = true; decide +kernel) | kernel_rfl | rfl)) (fun Ψ s H C cl fp => (g_name 2 sc_is_ratio_row.nd)) (fun Ψ s H C cl fp => t_yes) (fun Ψ s H C cl fp => (d_fz (d_call [false] R_is_ratio (hr.mono (by omega)) gu g_is_ratio D_is_ratio.kp b_is_ratio takes0 (d_acons (d_var 2) d_anil)))))) d_anil))))))))
theorem r_want_equations (D : FnP K "want_equations" s_want_equations f fd)
    {a_is_ratio_row : Addr} {fd_is_ratio_row : FuncData} (D_is_ratio_row : FnP K "is_ratio_row" s_is_ratio_row a_is_ratio_row fd_is_ratio_row) (g_is_ratio_row : mg "is_ratio_row" = some (.ref a_is_ratio_row)) (R_is_ratio_row : FnG P w K mg base 3 a_is_ratio_row fd_is_ratio_row ["many", "value"] (spF K mg 2 F_is_ratio_row))
    (h_len : mg "len" = none)
    {C_InvalidRight : Addr} (o_InvalidRight : ExR P w K mg base C_InvalidRight "value") (g_InvalidRight : mg "InvalidRight" = some (.ref C_InvalidRight))
    (h_all : mg "all" = none)
    {C_InvalidRows : Addr} (o_InvalidRows : ExR P w K mg base C_InvalidRows "value") (g_InvalidRows : mg "InvalidRows" = some (.ref C_InvalidRows))
    {u_MOST_ROWS : Value} {w_MOST_ROWS : V} (v_MOST_ROWS : (mg "MOST_ROWS" = some u_MOST_ROWS ∧ RelV w_MOST_ROWS u_MOST_ROWS) ∧ ∀ G, Dp K G w_MOST_ROWS (.int (20)))
    {a_is_list : Addr} {fd_is_list : FuncData} (D_is_list : FnP K "is_list" s_is_list a_is_list fd_is_list) (g_is_list : mg "is_list" = some (.ref a_is_list)) (R_is_list : FnG P w K mg base 1 a_is_list fd_is_list ["value"] (spF K mg 1 F_is_list)) : FnG P w K mg base 4 f fd ["rows", "right"] (spF K mg 2 F_want_equations) := by
  have b_is_list : Binds K fd_is_list ["value"] [] := D_is_list.bindsN fun _ _ _ _ _ _ us hl => match us, hl with | [_], _ => rfl
  have b_is_ratio_row : Binds K fd_is_ratio_row ["many", "value"] [] := D_is_ratio_row.bindsN fun _ _ _ _ _ _ us hl => match us, hl with | [_, _], _ => rfl
  exact fn_mk (N := ["rows", "right", "row"]) (ps := ["rows", "right"]) D sc_want_equations fun cdv A outer s H E hr gu Φ => (s_cons (s_if (t_w (w_or (t_not (t_tr (d_fz (d_call [false] R_is_list (hr.mono (by omega)) gu g_is_list D_is_list.kp b_is_list (takes_of rfl rfl rfl rfl) (d_acons (d_var 0) d_anil))))) (w_or1 (t_not (t_chain op_dLe op_dLe d_int (d_callB cr_dLen h_len (d_acons (d_var 0) d_anil)) (d_glob v_MOST_ROWS.1.1 v_MOST_ROWS.1.2 v_MOST_ROWS.2)))))) (s_one (s_raiseX o_InvalidRows (hr.mono (by omega)) rfl (takes_of rfl rfl rfl rfl) g_InvalidRows (d_var 0))) s_nil) (s_cons (s_if (t_not (t_tr (d_callB (cr_dAll rfl) h_all (d_acons (d_fz (d_lc (own := [("row", 2)]) rfl sc_want_equations.nd (i_seq (d_var 0)) (blkOk_by (by first | (show blkC ["rows", "right", "row"] (defScope s_want_equations) _ _ = true; decide +kernel) | kernel_rfl | rfl)) (fun Ψ s H C cl fp => (g_name 2 sc_want_equations.nd)) (fun Ψ s H C cl fp => t_yes) (fun Ψ s H C cl fp => (d_fz (d_call [false, false] R_is_ratio_row (hr.mono (by omega)) gu g_is_ratio_row D_is_ratio_row.kp b_is_ratio_row takes0 (d_acons (d_callB cr_dLen h_len (d_acons (d_var 0) d_anil)) (d_acons (d_var 2) d_anil))))))) d_anil)))) (s_one (s_raiseX o_InvalidRows (hr.mono (by omega)) rfl (takes_of rfl rfl rfl rfl) g_InvalidRows (d_var 0))) s_nil) (s_one (s_if (t_not (t_tr (d_fz (d_call [false, false] R_is_ratio_row (hr.mono (by omega)) gu g_is_ratio_row D_is_ratio_row.kp b_is_ratio_row (takes_of rfl rfl rfl rfl) (d_acons (d_callB cr_dLen h_len (d_acons (d_var 0) d_anil)) (d_acons (d_var 1) d_anil)))))) (s_one (s_raiseX o_InvalidRight (hr.mono (by omega)) rfl (takes_of rfl rfl rfl rfl) g_InvalidRight (d_var 1))) s_nil))))
theorem r_solved_equations (D : FnP K "solved_equations" s_solved_equations f fd)
    {a_reduced_solution : Addr} {fd_reduced_solution : FuncData} (D_reduced_solution : FnP K "reduced_solution" s_reduced_solution a_reduced_solution fd_reduced_solution) (g_reduced_solution : mg "reduced_solution" = some (.ref a_reduced_solution)) (R_reduced_solution : FnG P w K mg base 3 a_reduced_solution fd_reduced_solution ["rows", "rights"] (spF K mg 2 F_reduced_solution))
    (h_zip : mg "zip" = none)
    {a_as_whole : Addr} {fd_as_whole : FuncData} (D_as_whole : FnP K "as_whole" s_as_whole a_as_whole fd_as_whole) (g_as_whole : mg "as_whole" = some (.ref a_as_whole)) (R_as_whole : FnG P w K mg base 2 a_as_whole fd_as_whole ["row"] (spF K mg 1 F_as_whole))
    (h_list : mg "list" = none)
    {a_want_equations : Addr} {fd_want_equations : FuncData} (D_want_equations : FnP K "want_equations" s_want_equations a_want_equations fd_want_equations) (g_want_equations : mg "want_equations" = some (.ref a_want_equations)) (R_want_equations : FnG P w K mg base 4 a_want_equations fd_want_equations ["rows", "right"] (spF K mg 2 F_want_equations)) : FnG P w K mg base 5 f fd ["rows", "right"] (spF K mg 2 F_solved_equations) := by
  have b_reduced_solution : Binds K fd_reduced_solution ["rows", "rights"] [] := D_reduced_solution.bindsN fun _ _ _ _ _ _ us hl => match us, hl with | [_, _], _ => rfl
  have b_as_whole : Binds K fd_as_whole ["row"] [] := D_as_whole.bindsN fun _ _ _ _ _ _ us hl => match us, hl with | [_], _ => rfl
  have b_want_equations : Binds K fd_want_equations ["rows", "right"] [] := D_want_equations.bindsN fun _ _ _ _ _ _ us hl => match us, hl with | [_, _], _ => rfl
  exact fn_mk (N := ["rows", "right", "whole", "found", "row", "number"]) (ps := ["rows", "right"]) D sc_solved_equations fun cdv A outer s H E hr gu Φ => (s_cons (s_expr (d_fz (d_call [false, false] R_want_equations (hr.mono (by omega)) gu g_want_equations D_want_equations.kp b_want_equations (takes_of rfl rfl rfl rfl) (d_acons (d_var 0) (d_acons (d_var 1) d_anil))))) (s_cons (s_setLc 2 (own := [("row", 4), ("number", 5)]) rfl sc_solved_equations.nd (sw_true rfl rfl rfl rfl) (i_zip2 h_zip (d_acons (d_var 0) (d_acons (d_var 1) d_anil))) (blkOk_by (by first | (show blkC ["rows", "right", "whole", "found", "row", "number"] (defScope s_solved_equations) _ _ = true; decide +kernel) | kernel_rfl | rfl)) (fun Ψ s H C cl fp => (g_tup rfl (g_scons (g_name 4 sc_solved_equations.nd) (g_scons (g_name 5 sc_solved_equations.nd) g_snil)) (gs_len (gs_len gs_len0)))) (fun Ψ s H C cl fp => t_yes) (fun Ψ s H C cl fp => (d_fz (d_call [false] R_as_whole (hr.mono (by omega)) gu g_as_whole D_as_whole.kp b_as_whole takes0 (d_acons (d_fz (d_cat (d_callTyN cr_dList h_list (d_acons (d_var 4) d_anil)) (fun Φ => (d_lst (d_acons (d_var 5) d_anil))))) d_anil))))) (s_cons (s_set 3 sc_solved_equations.nd (d_call [false, false] R_reduced_solution (hr.mono (by omega)) gu g_reduced_solution D_reduced_solution.kp b_reduced_solution (takes_of rfl rfl rfl rfl) (d_acons (d_fz (d_lc (own := [("row", 4)]) rfl sc_solved_equations.nd (i_seq (d_var 2)) (blkOk_by (by first | (show blkC ["rows", "right", "whole", "found", "row", "number"] (defScope s_solved_equations) _ _ = true; decide +kernel) | kernel_rfl | rfl)) (fun Ψ s H C cl fp => (g_name 4 sc_solved_equations.nd)) (fun Ψ s H C cl fp => t_yes) (fun Ψ s H C cl fp => (d_fz (d_cut (d_var 4) d_onone (d_osome (d_un op_dNeg d_int))))))) (d_acons (d_fz (d_lst (d_acons (d_fz (d_lc (own := [("row", 4)]) rfl sc_solved_equations.nd (i_seq (d_var 2)) (blkOk_by (by first | (show blkC ["rows", "right", "whole", "found", "row", "number"] (defScope s_solved_equations) _ _ = true; decide +kernel) | kernel_rfl | rfl)) (fun Ψ s H C cl fp => (g_name 4 sc_solved_equations.nd)) (fun Ψ s H C cl fp => t_yes) (fun Ψ s H C cl fp => (d_ix (d_var 4) (d_un op_dNeg d_int) (fun _ _ => rfl))))) d_anil))) d_anil)))) (s_one (s_ret (d_r (d_if (t_cmp op_dIs (d_var 3) d_none (nomark _)) d_none (d_ix (d_var 3) d_int (fun _ _ => rfl)))))))))
theorem r_add_ratios (D : FnP K "add_ratios" s_add_ratios f fd)
    {a_made_ratio : Addr} {fd_made_ratio : FuncData} (D_made_ratio : FnP K "made_ratio" s_made_ratio a_made_ratio fd_made_ratio) (g_made_ratio : mg "made_ratio" = some (.ref a_made_ratio)) (R_made_ratio : FnG P w K mg base 1 a_made_ratio fd_made_ratio ["number", "under"] (spF K mg 2 F_made_ratio)) : FnG P w K mg base 2 f fd ["one", "other"] (spF K mg 2 F_add_ratios) := by
  have b_made_ratio : Binds K fd_made_ratio ["number", "under"] [] := D_made_ratio.bindsN fun _ _ _ _ _ _ us hl => match us, hl with | [_, _], _ => rfl
  exact fn_mk (N := ["one", "other"]) (ps := ["one", "other"]) D sc_add_ratios fun cdv A outer s H E hr gu Φ => (s_one (s_ret (d_call [false, false] R_made_ratio (hr.mono (by omega)) gu g_made_ratio D_made_ratio.kp b_made_ratio (takes_of rfl rfl rfl rfl) (d_acons (d_op op_dAdd (d_op op_dMul (d_ix (d_var 0) d_int (fun _ _ => rfl)) (d_ix (d_var 1) d_int (fun _ _ => rfl))) (d_op op_dMul (d_ix (d_var 1) d_int (fun _ _ => rfl)) (d_ix (d_var 0) d_int (fun _ _ => rfl)))) (d_acons (d_op op_dMul (d_ix (d_var 0) d_int (fun _ _ => rfl)) (d_ix (d_var 1) d_int (fun _ _ => rfl))) d_anil)))))
theorem r_mul_ratios (D : FnP K "mul_ratios" s_mul_ratios f fd)
    {a_made_ratio : Addr} {fd_made_ratio : FuncData} (D_made_ratio : FnP K "made_ratio" s_made_ratio a_made_ratio fd_made_ratio) (g_made_ratio : mg "made_ratio" = some (.ref a_made_ratio)) (R_made_ratio : FnG P w K mg base 1 a_made_ratio fd_made_ratio ["number", "under"] (spF K mg 2 F_made_ratio)) : FnG P w K mg base 2 f fd ["one", "other"] (spF K mg 2 F_mul_ratios) := by
  have b_made_ratio : Binds K fd_made_ratio ["number", "under"] [] := D_made_ratio.bindsN fun _ _ _ _ _ _ us hl => match us, hl with | [_, _], _ => rfl
  exact fn_mk (N := ["one", "other"]) (ps := ["one", "other"]) D sc_mul_ratios fun cdv A outer s H E hr gu Φ => (s_one (s_ret (d_call [false, false] R_made_ratio (hr.mono (by omega)) gu g_made_ratio D_made_ratio.kp b_made_ratio (takes_of rfl rfl rfl rfl) (d_acons (d_op op_dMul (d_ix (d_var 0) d_int (fun _ _ => rfl)) (d_ix (d_var 1) d_int (fun _ _ => rfl))) (d_acons (d_op op_dMul (d_ix (d_var 0) d_int (fun _ _ => rfl)) (d_ix (d_var 1) d_int (fun _ _ => rfl))) d_anil)))))
theorem r_sum_of_products (D : FnP K "sum_of_products" s_sum_of_products f fd)
    (h_zip : mg "zip" = none)
    {a_add_ratios : Addr} {fd_add_ratios : FuncData} (D_add_ratios : FnP K "add_ratios" s_add_ratios a_add_ratios fd_add_ratios) (g_add_ratios : mg "add_ratios" = some (.ref a_add_ratios)) (R_add_ratios : FnG P w K mg base 2 a_add_ratios fd_add_ratios ["one", "other"] (spF K mg 2 F_add_ratios))
    {a_mul_ratios : Addr} {fd_mul_ratios : FuncData} (D_mul_ratios : FnP K "mul_ratios" s_mul_ratios a_mul_ratios fd_mul_ratios) (g_mul_ratios : mg "mul_ratios" = some (.ref a_mul_ratios)) (R_mul_ratios : FnG P w K mg base 2 a_mul_ratios fd_mul_ratios ["one", "other"] (spF K mg 2 F_mul_ratios))
    {u_NOUGHT : Value} {w_NOUGHT : V} (v_NOUGHT : (mg "NOUGHT" = some u_NOUGHT ∧ RelV w_NOUGHT u_NOUGHT) ∧ ∀ G, Dp K G w_NOUGHT (.tuple [(.int (0)), (.int (1))])) : FnG P w K mg base 3 f fd ["row", "values"] (spF K mg 2 F_sum_of_products) := by
  have b_add_ratios : Binds K fd_add_ratios ["one", "other"] [] := D_add_ratios.bindsN fun _ _ _ _ _ _ us hl => match us, hl with | [_, _], _ => rfl
  have b_mul_ratios : Binds K fd_mul_ratios ["one", "other"] [] := D_mul_ratios.bindsN fun _ _ _ _ _ _ us hl => match us, hl with | [_, _], _ => rfl
  exact fn_mk (N := ["row", "values", "found", "one", "other"]) (ps := ["row", "values"]) D sc_sum_of_products fun cdv A outer s H E hr gu Φ => (s_cons (s_set 2 sc_sum_of_products.nd (d_r (d_glob v_NOUGHT.1.1 v_NOUGHT.1.2 v_NOUGHT.2))) (s_cons (s_for (passes_of rfl) rfl (i_zip2 h_zip (d_acons (d_var 0) (d_acons (d_var 1) d_anil))) (g_tup rfl (g_scons (g_name 3 sc_sum_of_products.nd) (g_scons (g_name 4 sc_sum_of_products.nd) g_snil)) (gs_len (gs_len gs_len0))) (s_one (s_set 2 sc_sum_of_products.nd (d_call [false, false] R_add_ratios (hr.mono (by omega)) gu g_add_ratios D_add_ratios.kp b_add_ratios (takes_of rfl rfl rfl rfl) (d_acons (d_var 2) (d_acons (d_fz (d_call [false, false] R_mul_ratios (hr.mono (by omega)) gu g_mul_ratios D_mul_ratios.kp b_mul_ratios (takes_of rfl rfl rfl rfl) (d_acons (d_var 3) (d_acons (d_var 4) d_anil)))) d_anil)))))) (s_one (s_ret (d_r (d_var 2))))))
theorem r_is_solution (D : FnP K "is_solution" s_is_solution f fd)
    (h_zip : mg "zip" = none)
    {a_sum_of_products : Addr} {fd_sum_of_products : FuncData} (D_sum_of_products : FnP K "sum_of_products" s_sum_of_products a_sum_of_products fd_sum_of_products) (g_sum_of_products : mg "sum_of_products" = some (.ref a_sum_of_products)) (R_sum_of_products : FnG P w K mg base 3 a_sum_of_products fd_sum_of_products ["row", "values"] (spF K mg 2 F_sum_of_products))
    (h_all : mg "all" = none)
    {a_is_ratio_row : Addr} {fd_is_ratio_row : FuncData} (D_is_ratio_row : FnP K "is_ratio_row" s_is_ratio_row a_is_ratio_row fd_is_ratio_row) (g_is_ratio_row : mg "is_ratio_row" = some (.ref a_is_ratio_row)) (R_is_ratio_row : FnG P w K mg base 3 a_is_ratio_row fd_is_ratio_row ["many", "value"] (spF K mg 2 F_is_ratio_row))
    (h_len : mg "len" = none)
    (h_isinstance : mg "isinstance" = none)
    (h_tuple : mg "tuple" = none)
    {a_want_equations : Addr} {fd_want_equations : FuncData} (D_want_equations : FnP K "want_equations" s_want_equations a_want_equations fd_want_equations) (g_want_equations : mg "want_equations" = some (.ref a_want_equations)) (R_want_equations : FnG P w K mg base 4 a_want_equations fd_want_equations ["rows", "right"] (spF K mg 2 F_want_equations)) : FnG P w K mg base 5 f fd ["rows", "right", "value"] (spF K mg 3 F_is_solution) := by
  have b_is_ratio_row : Binds K fd_is_ratio_row ["many", "value"] [] := D_is_ratio_row.bindsN fun _ _ _ _ _ _ us hl => match us, hl with | [_, _], _ => rfl
  have b_want_equations : Binds K fd_want_equations ["rows", "right"] [] := D_want_equations.bindsN fun _ _ _ _ _ _ us hl => match us, hl with | [_, _], _ => rfl
  have b_sum_of_products : Binds K fd_sum_of_products ["row", "values"] [] := D_sum_of_products.bindsN fun _ _ _ _ _ _ us hl => match us, hl with | [_, _], _ => rfl
  exact fn_mk (N := ["rows", "right", "value", "row", "number"]) (ps := ["rows", "right", "value"]) D sc_is_solution fun cdv A outer s H E hr gu Φ => (s_cons (s_expr (d_fz (d_call [false, false] R_want_equations (hr.mono (by omega)) gu g_want_equations D_want_equations.kp b_want_equations (takes_of rfl rfl rfl rfl) (d_acons (d_var 0) (d_acons (d_var 1) d_anil))))) (s_cons (s_if (t_w (w_or (t_not (t_tr (d_isi .tuple h_isinstance h_tuple (d_var 2)))) (w_or1 (t_not (t_tr (d_fz (d_call [false, false] R_is_ratio_row (hr.mono (by omega)) gu g_is_ratio_row D_is_ratio_row.kp b_is_ratio_row (takes_of rfl rfl rfl rfl) (d_acons (d_callB cr_dLen h_len (d_acons (d_var 0) d_anil)) (d_acons (d_var 2) d_anil))))))))) (s_one (s_ret (d_r d_bool))) s_nil) (s_one (s_ret (d_r (d_callB (cr_dAll rfl) h_all (d_acons (d_fz (d_lc (own := [("row", 3), ("number", 4)]) rfl sc_is_solution.nd (i_zip2 h_zip (d_acons (d_var 0) (d_acons (d_var 1) d_anil))) (blkOk_by (by first | (show blkC ["rows", "right", "value", "row", "number"] (defScope s_is_solution) _ _ = true; decide +kernel) | kernel_rfl | rfl)) (fun Ψ s H C cl fp => (g_tup rfl (g_scons (g_name 3 sc_is_solution.nd) (g_scons (g_name 4 sc_is_solution.nd) g_snil)) (gs_len (gs_len gs_len0)))) (fun Ψ s H C cl fp => t_yes) (fun Ψ s H C cl fp => (d_cmp (op_dEq hr.units) (d_fz (d_call [false, false] R_sum_of_products (hr.mono (by omega)) gu g_sum_of_products D_sum_of_products.kp b_sum_of_products takes0 (d_acons (d_var 3) (d_acons (d_var 2) d_anil)))) (d_var 4) (nomark _))))) d_anil)))))))
theorem r__law_draw (D : FnP K "_law_draw" s__law_draw f fd)
    (h_int : mg "int" = none)
    (h_divmod : mg "divmod" = none) : FnG P w K mg base 1 f fd ["_law_pot_here", "_law_size"] (spF K mg 2 F__law_draw) := by
  exact fn_mk (N := ["_law_pot_here", "_law_size", "_law_digit"]) (ps := ["_law_pot_here", "_law_size"]) D sc__law_draw fun cdv A outer s H E hr gu Φ => (s_cons (s_if (t_cmp op_dGt (d_ix (d_var 0) d_int (fun _ _ => rfl)) d_int (nomark _)) (s_cons (s_asg (d_callB cr_dDivmod h_divmod (d_acons (d_ix (d_var 0) d_int (fun _ _ => rfl)) (d_acons (d_var 1) d_anil))) (g_tup rfl (g_scons (g_sub (d_var 0) d_int (fun _ => rfl)) (g_scons (g_name 2 sc__law_draw.nd) g_snil)) (gs_len (gs_len gs_len0)))) (s_one (s_ret (d_r (d_var 2))))) s_nil) (s_cons (s_asg (d_op op_dMod (d_callTy cr_dInt h_int (d_acons (d_op op_dAdd (d_op op_dMul (d_ix (d_var 0) d_int (fun _ _ => rfl)) d_int) d_int) d_anil)) d_int) (g_sub (d_var 0) d_int (fun _ => rfl))) (s_one (s_ret (d_r (d_op op_dMod (d_callTy cr_dInt h_int (d_acons (d_op op_dFdiv (d_op op_dMod (d_callTy cr_dInt h_int (d_acons (d_op op_dMul (d_ix (d_var 0) d_int (fun _ _ => rfl)) (d_ix (d_var 0) d_int (fun _ _ => rfl))) d_anil)) d_int) d_int) d_anil)) (d_var 1)))))))
theorem r__law_made (D : FnP K "_law_made" s__law_made f fd)
    (h_int : mg "int" = none)
    (h_abs : mg "abs" = none) : FnG P w K mg base 1 f fd ["_law_number", "_law_under"] (spF K mg 2 F__law_made) := by
  exact fn_mk (N := ["_law_number", "_law_under", "_law_one", "_law_other"]) (ps := ["_law_number", "_law_under"]) D sc__law_made fun cdv A outer s H E hr gu Φ => (s_cons (s_par 2 3 rfl sc__law_made.nd (d_r (d_callB cr_dAbs h_abs (d_acons (d_var 0) d_anil))) (fun Φ => (d_r (d_callB cr_dAbs h_abs (d_acons (d_var 1) d_anil)))) rfl) (s_cons (s_while (passes_of rfl) (t_cmp op_dGt (d_var 3) d_int (nomark _)) (s_one (s_par 2 3 rfl sc__law_made.nd (d_r (d_var 3)) (fun Φ => (d_r (d_op op_dMod (d_callTy cr_dInt h_int (d_acons (d_var 2) d_anil)) (d_var 3)))) rfl))) (s_cons (s_set 2 sc__law_made.nd (d_r (d_if (t_cmp op_dGt (d_var 1) d_int (nomark _)) (d_var 2) (d_op op_dSub d_int (d_var 2))))) (s_one (s_ret (d_r (d_tup (d_acons (d_op op_dFdiv (d_var 0) (d_var 2)) (d_acons (d_op op_dFdiv (d_var 1) (d_var 2)) d_anil)))))))))
theorem r__law_sum (D : FnP K "_law_sum" s__law_sum f fd)
    {a__law_made : Addr} {fd__law_made : FuncData} (D__law_made : FnP K "_law_made" s__law_made a__law_made fd__law_made) (g__law_made : mg "_law_made" = some (.ref a__law_made)) (R__law_made : FnG P w K mg base 1 a__law_made fd__law_made ["_law_number", "_law_under"] (spF K mg 2 F__law_made)) : FnG P w K mg base 2 f fd ["_law_one", "_law_other"] (spF K mg 2 F__law_sum) := by
  have b__law_made : Binds K fd__law_made ["_law_number", "_law_under"] [] := D__law_made.bindsN fun _ _ _ _ _ _ us hl => match us, hl with | [_, _], _ => rfl
  exact fn_mk (N := ["_law_one", "_law_other"]) (ps := ["_law_one", "_law_other"]) D sc__law_sum fun cdv A outer s H E hr gu Φ => (s_one (s_ret (d_call [false, false] R__law_made (hr.mono (by omega)) gu g__law_made D__law_made.kp b__law_made (takes_of rfl rfl rfl rfl) (d_acons (d_op op_dAdd (d_op op_dMul (d_ix (d_var 0) d_int (fun _ _ => rfl)) (d_ix (d_var 1) d_int (fun _ _ => rfl))) (d_op op_dMul (d_ix (d_var 1) d_int (fun _ _ => rfl)) (d_ix (d_var 0) d_int (fun _ _ => rfl)))) (d_acons (d_op op_dMul (d_ix (d_var 0) d_int (fun _ _ => rfl)) (d_ix (d_var 1) d_int (fun _ _ => rfl))) d_anil)))))
theorem r__law_times (D : FnP K "_law_times" s__law_times f fd)
    {a__law_made : Addr} {fd__law_made : FuncData} (D__law_made : FnP K "_law_made" s__law_made a__law_made fd__law_made) (g__law_made : mg "_law_made" = some (.ref a__law_made)) (R__law_made : FnG P w K mg base 1 a__law_made fd__law_made ["_law_number", "_law_under"] (spF K mg 2 F__law_made)) : FnG P w K mg base 2 f fd ["_law_one", "_law_other"] (spF K mg 2 F__law_times) := by
  have b__law_made : Binds K fd__law_made ["_law_number", "_law_under"] [] := D__law_made.bindsN fun _ _ _ _ _ _ us hl => match us, hl with | [_, _], _ => rfl
  exact fn_mk (N := ["_law_one", "_law_other"]) (ps := ["_law_one", "_law_other"]) D sc__law_times fun cdv A outer s H E hr gu Φ => (s_one (s_ret (d_call [false, false] R__law_made (hr.mono (by omega)) gu g__law_made D__law_made.kp b__law_made (takes_of rfl rfl rfl rfl) (d_acons (d_op op_dMul (d_ix (d_var 0) d_int (fun _ _ => rfl)) (d_ix (d_var 1) d_int (fun _ _ => rfl))) (d_acons (d_op op_dMul (d_ix (d_var 0) d_int (fun _ _ => rfl)) (d_ix (d_var 1) d_int (fun _ _ => rfl))) d_anil)))))
theorem r__law_less (D : FnP K "_law_less" s__law_less f fd)
    {a__law_sum : Addr} {fd__law_sum : FuncData} (D__law_sum : FnP K "_law_sum" s__law_sum a__law_sum fd__law_sum) (g__law_sum : mg "_law_sum" = some (.ref a__law_sum)) (R__law_sum : FnG P w K mg base 2 a__law_sum fd__law_sum ["_law_one", "_law_other"] (spF K mg 2 F__law_sum)) : FnG P w K mg base 3 f fd ["_law_one", "_law_other"] (spF K mg 2 F__law_less) := by
  have b__law_sum : Binds K fd__law_sum ["_law_one", "_law_other"] [] := D__law_sum.bindsN fun _ _ _ _ _ _ us hl => match us, hl with | [_, _], _ => rfl
  exact fn_mk (N := ["_law_one", "_law_other"]) (ps := ["_law_one", "_law_other"]) D sc__law_less fun cdv A outer s H E hr gu Φ => (s_one (s_ret (d_call [false, false] R__law_sum (hr.mono (by omega)) gu g__law_sum D__law_sum.kp b__law_sum (takes_of rfl rfl rfl rfl) (d_acons (d_var 0) (d_acons (d_tup (d_acons (d_op op_dSub d_int (d_ix (d_var 1) d_int (fun _ _ => rfl))) (d_acons (d_ix (d_var 1) d_int (fun _ _ => rfl)) d_anil))) d_anil)))))
theorem r__law_freed (D : FnP K "_law_freed" s__law_freed f fd)
    (h_zip : mg "zip" = none)
    {a__law_less : Addr} {fd__law_less : FuncData} (D__law_less : FnP K "_law_less" s__law_less a__law_less fd__law_less) (g__law_less : mg "_law_less" = some (.ref a__law_less)) (R__law_less : FnG P w K mg base 3 a__law_less fd__law_less ["_law_one", "_law_other"] (spF K mg 2 F__law_less))
    {a__law_times : Addr} {fd__law_times : FuncData} (D__law_times : FnP K "_law_times" s__law_times a__law_times fd__law_times) (g__law_times : mg "_law_times" = some (.ref a__law_times)) (R__law_times : FnG P w K mg base 2 a__law_times fd__law_times ["_law_one", "_law_other"] (spF K mg 2 F__law_times)) : FnG P w K mg base 4 f fd ["_law_row_here", "_law_head", "_law_place"] (spF K mg 3 F__law_freed) := by
  have b__law_times : Binds K fd__law_times ["_law_one", "_law_other"] [] := D__law_times.bindsN fun _ _ _ _ _ _ us hl => match us, hl with | [_, _], _ => rfl
  have b__law_less : Binds K fd__law_less ["_law_one", "_law_other"] [] := D__law_less.bindsN fun _ _ _ _ _ _ us hl => match us, hl with | [_, _], _ => rfl
  exact fn_mk (N := ["_law_row_here", "_law_head", "_law_place", "_law_often", "_law_one", "_law_late"]) (ps := ["_law_row_here", "_law_head", "_law_place"]) D sc__law_freed fun cdv A outer s H E hr gu Φ => (s_cons (s_set 3 sc__law_freed.nd (d_r (d_ix (d_var 0) (d_var 2) (fun _ _ => rfl)))) (s_one (s_ret (d_lc (own := [("_law_one", 4), ("_law_late", 5)]) rfl sc__law_freed.nd (i_zip2 h_zip (d_acons (d_var 0) (d_acons (d_var 1) d_anil))) (blkOk_by (by first | (show blkC ["_law_row_here", "_law_head", "_law_place", "_law_often", "_law_one", "_law_late"] (defScope s__law_freed) _ _ = true; decide +kernel) | kernel_rfl | rfl)) (fun Ψ s H C cl fp => (g_tup rfl (g_scons (g_name 4 sc__law_freed.nd) (g_scons (g_name 5 sc__law_freed.nd) g_snil)) (gs_len (gs_len gs_len0)))) (fun Ψ s H C cl fp => t_yes) (fun Ψ s H C cl fp => (d_fz (d_call [false, false] R__law_less (hr.mono (by omega)) gu g__law_less D__law_less.kp b__law_less takes0 (d_acons (d_var 4) (d_acons (d_fz (d_call [false, false] R__law_times (hr.mono (by omega)) gu g__law_times D__law_times.kp b__law_times takes0 (d_acons (d_var 3) (d_acons (d_var 5) d_anil)))) d_anil)))))))))
theorem r__law_solved (D : FnP K "_law_solved" s__law_solved f fd)
    (h_tuple : mg "tuple" = none)
    (h_range : mg "range" = none)
    {a__law_freed : Addr} {fd__law_freed : FuncData} (D__law_freed : FnP K "_law_freed" s__law_freed a__law_freed fd__law_freed) (g__law_freed : mg "_law_freed" = some (.ref a__law_freed)) (R__law_freed : FnG P w K mg base 4 a__law_freed fd__law_freed ["_law_row_here", "_law_head", "_law_place"] (spF K mg 3 F__law_freed))
    {a__law_times : Addr} {fd__law_times : FuncData} (D__law_times : FnP K "_law_times" s__law_times a__law_times fd__law_times) (g__law_times : mg "_law_times" = some (.ref a__law_times)) (R__law_times : FnG P w K mg base 2 a__law_times fd__law_times ["_law_one", "_law_other"] (spF K mg 2 F__law_times))
    {a__law_made : Addr} {fd__law_made : FuncData} (D__law_made : FnP K "_law_made" s__law_made a__law_made fd__law_made) (g__law_made : mg "_law_made" = some (.ref a__law_made)) (R__law_made : FnG P w K mg base 1 a__law_made fd__law_made ["_law_number", "_law_under"] (spF K mg 2 F__law_made))
    (h_enumerate : mg "enumerate" = none)
    (h_len : mg "len" = none)
    (h_list : mg "list" = none) : FnG P w K mg base 5 f fd ["_law_rows_here"] (spF K mg 1 F__law_solved) := by
  have b__law_made : Binds K fd__law_made ["_law_number", "_law_under"] [] := D__law_made.bindsN fun _ _ _ _ _ _ us hl => match us, hl with | [_, _], _ => rfl
  have b__law_times : Binds K fd__law_times ["_law_one", "_law_other"] [] := D__law_times.bindsN fun _ _ _ _ _ _ us hl => match us, hl with | [_, _], _ => rfl
  have b__law_freed : Binds K fd__law_freed ["_law_row_here", "_law_head", "_law_place"] [] := D__law_freed.bindsN fun _ _ _ _ _ _ us hl => match us, hl with | [_, _, _], _ => rfl
  exact fn_mk (N := ["_law_rows_here", "_law_many", "_law_left", "_law_heads", "_law_place", "_law_some", "_law_head", "_law_often", "_law_row_here", "_law_at", "_law_one"]) (ps := ["_law_rows_here"]) D sc__law_solved fun cdv A outer s H E hr gu Φ => (s_cons (s_parT3 1 2 3 rfl sc__law_solved.nd (d_r (d_op op_dSub (d_callB cr_dLen h_len (d_acons (d_ix (d_var 0) d_int (fun _ _ => rfl)) d_anil)) d_int)) (fun Φ => (d_lc (own := [("_law_row_here", 8)]) rfl sc__law_solved.nd (i_seq (d_var 0)) (blkOk_by (by first | (show blkC ["_law_rows_here", "_law_many", "_law_left", "_law_heads", "_law_place", "_law_some", "_law_head", "_law_often", "_law_row_here", "_law_at", "_law_one"] (defScope s__law_solved) _ _ = true; decide +kernel) | kernel_rfl | rfl)) (fun Ψ s H C cl fp => (g_name 8 sc__law_solved.nd)) (fun Ψ s H C cl fp => t_yes) (fun Ψ s H C cl fp => (d_fz (d_callTyN cr_dList h_list (d_acons (d_var 8) d_anil)))))) (fun Φ => (d_lst d_anil))) (s_cons (s_for (passes_of rfl) rfl (i_rng1 h_range (d_acons (d_var 1) d_anil)) (g_name 4 sc__law_solved.nd) (s_cons (s_setLc 5 (own := [("_law_at", 9), ("_law_row_here", 8)]) rfl sc__law_solved.nd (sw_true rfl rfl rfl rfl) (i_enum h_enumerate (d_acons (d_var 2) d_anil)) (blkOk_by (by first | (show blkC ["_law_rows_here", "_law_many", "_law_left", "_law_heads", "_law_place", "_law_some", "_law_head", "_law_often", "_law_row_here", "_law_at", "_law_one"] (defScope s__law_solved) _ _ = true; decide +kernel) | kernel_rfl | rfl)) (fun Ψ s H C cl fp => (g_tup rfl (g_scons (g_name 9 sc__law_solved.nd) (g_scons (g_name 8 sc__law_solved.nd) g_snil)) (gs_len (gs_len gs_len0)))) (fun Ψ s H C cl fp => (t_one (t_cmp (op_dNe hr.units) (d_ix (d_ix (d_var 8) (d_var 4) (fun _ _ => rfl)) d_int (fun _ _ => rfl)) d_int (nomark _)))) (fun Ψ s H C cl fp => (d_var 9))) (s_cons (s_if (t_cmp (op_dEq hr.units) (d_var 5) (d_fz (d_lst d_anil)) (nomark _)) (s_one (s_ret (d_r d_none))) s_nil) (s_cons (s_parT 6 2 rfl sc__law_solved.nd (d_r (d_ix (d_var 2) (d_ix (d_var 5) d_int (fun _ _ => rfl)) (fun _ _ => rfl))) (fun Φ => (d_cat (d_cut (d_var 2) d_onone (d_osome (d_ix (d_var 5) d_int (fun _ _ => rfl)))) (fun Φ => (d_cut (d_var 2) (d_osome (d_op op_dAdd (d_ix (d_var 5) d_int (fun _ _ => rfl)) d_int)) d_onone))))) (s_cons (s_set 7 sc__law_solved.nd (d_r (d_tup (d_acons (d_ix (d_ix (d_var 6) (d_var 4) (fun _ _ => rfl)) d_int (fun _ _ => rfl)) (d_acons (d_ix (d_ix (d_var 6) (d_var 4) (fun _ _ => rfl)) d_int (fun _ _ => rfl)) d_anil))))) (s_cons (s_set 6 sc__law_solved.nd (d_lc (own := [("_law_one", 10)]) rfl sc__law_solved.nd (i_seq (d_var 6)) (blkOk_by (by first | (show blkC ["_law_rows_here", "_law_many", "_law_left", "_law_heads", "_law_place", "_law_some", "_law_head", "_law_often", "_law_row_here", "_law_at", "_law_one"] (defScope s__law_solved) _ _ = true; decide +kernel) | kernel_rfl | rfl)) (fun Ψ s H C cl fp => (g_name 10 sc__law_solved.nd)) (fun Ψ s H C cl fp => t_yes) (fun Ψ s H C cl fp => (d_fz (d_call [false, false] R__law_times (hr.mono (by omega)) gu g__law_times D__law_times.kp b__law_times takes0 (d_acons (d_var 10) (d_acons (d_fz (d_call [false, false] R__law_made (hr.mono (by omega)) gu g__law_made D__law_made.kp b__law_made takes0 (d_acons (d_ix (d_var 7) d_int (fun _ _ => rfl)) (d_acons (d_ix (d_var 7) d_int (fun _ _ => rfl)) d_anil)))) d_anil))))))) (s_cons (s_setLc 2 (own := [("_law_row_here", 8)]) rfl sc__law_solved.nd (sw_true rfl rfl rfl rfl) (i_seq (d_var 2)) (blkOk_by (by first | (show blkC ["_law_rows_here", "_law_many", "_law_left", "_law_heads", "_law_place", "_law_some", "_law_head", "_law_often", "_law_row_here", "_law_at", "_law_one"] (defScope s__law_solved) _ _ = true; decide +kernel) | kernel_rfl | rfl)) (fun Ψ s H C cl fp => (g_name 8 sc__law_solved.nd)) (fun Ψ s H C cl fp => t_yes) (fun Ψ s H C cl fp => (d_fz (d_call [false, false, false] R__law_freed (hr.mono (by omega)) gu g__law_freed D__law_freed.kp b__law_freed takes0 (d_acons (d_var 8) (d_acons (d_var 6) (d_acons (d_var 4) d_anil))))))) (s_one (s_set 3 sc__law_solved.nd (d_cat (d_lc (own := [("_law_row_here", 8)]) rfl sc__law_solved.nd (i_seq (d_var 3)) (blkOk_by (by first | (show blkC ["_law_rows_here", "_law_many", "_law_left", "_law_heads", "_law_place", "_law_some", "_law_head", "_law_often", "_law_row_here", "_law_at", "_law_one"] (defScope s__law_solved) _ _ = true; decide +kernel) | kernel_rfl | rfl)) (fun Ψ s H C cl fp => (g_name 8 sc__law_solved.nd)) (fun Ψ s H C cl fp => t_yes) (fun Ψ s H C cl fp => (d_fz (d_call [false, false, false] R__law_freed (hr.mono (by omega)) gu g__law_freed D__law_freed.kp b__law_freed takes0 (d_acons (d_var 8) (d_acons (d_var 6) (d_acons (d_var 4) d_anil))))))) (fun Φ => (d_lst (d_acons (d_var 6) d_anil))))))))))))) (s_cons (s_if (t_cmp (op_dNe hr.units) (d_fz (d_lc (own := [("_law_row_here", 8)]) rfl sc__law_solved.nd (i_seq (d_var 2)) (blkOk_by (by first | (show blkC ["_law_rows_here", "_law_many", "_law_left", "_law_heads", "_law_place", "_law_some", "_law_head", "_law_often", "_law_row_here", "_law_at", "_law_one"] (defScope s__law_solved) _ _ = true; decide +kernel) | kernel_rfl | rfl)) (fun Ψ s H C cl fp => (g_name 8 sc__law_solved.nd)) (fun Ψ s H C cl fp => (t_one (t_cmp (op_dNe hr.units) (d_ix (d_ix (d_var 8) (d_var 1) (fun _ _ => rfl)) d_int (fun _ _ => rfl)) d_int (nomark _)))) (fun Ψ s H C cl fp => (d_var 8)))) (d_fz (d_lst d_anil)) (nomark _)) (s_one (s_ret (d_r d_none))) s_nil) (s_one (s_ret (d_r (d_callTy cr_dTuple h_tuple (d_acons (d_fz (d_lc (own := [("_law_row_here", 8)]) rfl sc__law_solved.nd (i_seq (d_var 3)) (blkOk_by (by first | (show blkC ["_law_rows_here", "_law_many", "_law_left", "_law_heads", "_law_place", "_law_some", "_law_head", "_law_often", "_law_row_here", "_law_at", "_law_one"] (defScope s__law_solved) _ _ = true; decide +kernel) | kernel_rfl | rfl)) (fun Ψ s H C cl fp => (g_name 8 sc__law_solved.nd)) (fun Ψ s H C cl fp => t_yes) (fun Ψ s H C cl fp => (d_ix (d_var 8) (d_var 1) (fun _ _ => rfl))))) d_anil))))))))
theorem r__law_pick (D : FnP K "_law_pick" s__law_pick f fd)
    {a__law_draw : Addr} {fd__law_draw : FuncData} (D__law_draw : FnP K "_law_draw" s__law_draw a__law_draw fd__law_draw) (g__law_draw : mg "_law_draw" = some (.ref a__law_draw)) (R__law_draw : FnG P w K mg base 1 a__law_draw fd__law_draw ["_law_pot_here", "_law_size"] (spF K mg 2 F__law_draw))
    (h_len : mg "len" = none) : FnG P w K mg base 2 f fd ["_law_pot_here", "_law_some"] (spF K mg 2 F__law_pick) := by
  have b__law_draw : Binds K fd__law_draw ["_law_pot_here", "_law_size"] [] := D__law_draw.bindsN fun _ _ _ _ _ _ us hl => match us, hl with | [_, _], _ => rfl
  exact fn_mk (N := ["_law_pot_here", "_law_some"]) (ps := ["_law_pot_here", "_law_some"]) D sc__law_pick fun cdv A outer s H E hr gu Φ => (s_one (s_ret (d_r (d_ix (d_var 1) (d_fz (d_call [true, false] R__law_draw (hr.mono (by omega)) gu g__law_draw D__law_draw.kp b__law_draw (takes_of rfl rfl rfl rfl) (d_acons (d_var 0) (d_acons (d_callB cr_dLen h_len (d_acons (d_var 1) d_anil)) d_anil)))) (fun _ _ => rfl)))))
theorem r__law_ratio (D : FnP K "_law_ratio" s__law_ratio f fd)
    {a__law_made : Addr} {fd__law_made : FuncData} (D__law_made : FnP K "_law_made" s__law_made a__law_made fd__law_made) (g__law_made : mg "_law_made" = some (.ref a__law_made)) (R__law_made : FnG P w K mg base 1 a__law_made fd__law_made ["_law_number", "_law_under"] (spF K mg 2 F__law_made))
    {a__law_draw : Addr} {fd__law_draw : FuncData} (D__law_draw : FnP K "_law_draw" s__law_draw a__law_draw fd__law_draw) (g__law_draw : mg "_law_draw" = some (.ref a__law_draw)) (R__law_draw : FnG P w K mg base 1 a__law_draw fd__law_draw ["_law_pot_here", "_law_size"] (spF K mg 2 F__law_draw))
    {a__law_pick : Addr} {fd__law_pick : FuncData} (D__law_pick : FnP K "_law_pick" s__law_pick a__law_pick fd__law_pick) (g__law_pick : mg "_law_pick" = some (.ref a__law_pick)) (R__law_pick : FnG P w K mg base 2 a__law_pick fd__law_pick ["_law_pot_here", "_law_some"] (spF K mg 2 F__law_pick)) : FnG P w K mg base 3 f fd ["_law_pot_here"] (spF K mg 1 F__law_ratio) := by
  have b__law_draw : Binds K fd__law_draw ["_law_pot_here", "_law_size"] [] := D__law_draw.bindsN fun _ _ _ _ _ _ us hl => match us, hl with | [_, _], _ => rfl
  have b__law_made : Binds K fd__law_made ["_law_number", "_law_under"] [] := D__law_made.bindsN fun _ _ _ _ _ _ us hl => match us, hl with | [_, _], _ => rfl
  have b__law_pick : Binds K fd__law_pick ["_law_pot_here", "_law_some"] [] := D__law_pick.bindsN fun _ _ _ _ _ _ us hl => match us, hl with | [_, _], _ => rfl
  exact fn_mk (N := ["_law_pot_here"]) (ps := ["_law_pot_here"]) D sc__law_ratio fun cdv A outer s H E hr gu Φ => (s_one (s_ret (d_call [false, false] R__law_made (hr.mono (by omega)) gu g__law_made D__law_made.kp b__law_made (takes_of rfl rfl rfl rfl) (d_acons (d_op op_dSub (d_fz (d_call [true, false] R__law_draw (hr.mono (by omega)) gu g__law_draw D__law_draw.kp b__law_draw (takes_of rfl rfl rfl rfl) (d_acons (d_var 0) (d_acons d_int d_anil)))) d_int) (d_acons (d_fz (d_call [true, false] R__law_pick (hr.mono (by omega)) gu g__law_pick D__law_pick.kp b__law_pick (takes_of rfl rfl rfl rfl) (d_acons (d_var 0) (d_acons (d_fz (d_lst (d_acons d_int (d_acons d_int (d_acons d_int (d_acons d_int d_anil)))))) d_anil)))) d_anil)))))
theorem r__law_row (D : FnP K "_law_row" s__law_row f fd)
    (h_range : mg "range" = none)
    {a__law_ratio : Addr} {fd__law_ratio : FuncData} (D__law_ratio : FnP K "_law_ratio" s__law_ratio a__law_ratio fd__law_ratio) (g__law_ratio : mg "_law_ratio" = some (.ref a__law_ratio)) (R__law_ratio : FnG P w K mg base 3 a__law_ratio fd__law_ratio ["_law_pot_here"] (spF K mg 1 F__law_ratio)) : FnG P w K mg base 4 f fd ["_law_pot_here", "_law_many"] (spF K mg 2 F__law_row) := by
  have b__law_ratio : Binds K fd__law_ratio ["_law_pot_here"] [] := D__law_ratio.bindsN fun _ _ _ _ _ _ us hl => match us, hl with | [_], _ => rfl
  exact fn_mk (N := ["_law_pot_here", "_law_many", "_law_found", "_law_turn"]) (ps := ["_law_pot_here", "_law_many"]) D sc__law_row fun cdv A outer s H E hr gu Φ => (s_cons (s_set 2 sc__law_row.nd (d_lst d_anil)) (s_cons (s_for (passes_of rfl) rfl (i_rng1 h_range (d_acons (d_var 1) d_anil)) (g_name 3 sc__law_row.nd) (s_one (s_expr (d_mt PySem.F.slot_list_append PySem.F.type_list_append mt_dApp (d_var 2) (d_acons (d_fz (d_call [true] R__law_ratio (hr.mono (by omega)) gu g__law_ratio D__law_ratio.kp b__law_ratio (takes_of rfl rfl rfl rfl) (d_acons (d_var 0) d_anil))) d_anil))))) (s_one (s_ret (d_r (d_var 2))))))
theorem r__law_rows (D : FnP K "_law_rows" s__law_rows f fd)
    (h_range : mg "range" = none)
    {a__law_draw : Addr} {fd__law_draw : FuncData} (D__law_draw : FnP K "_law_draw" s__law_draw a__law_draw fd__law_draw) (g__law_draw : mg "_law_draw" = some (.ref a__law_draw)) (R__law_draw : FnG P w K mg base 1 a__law_draw fd__law_draw ["_law_pot_here", "_law_size"] (spF K mg 2 F__law_draw))
    {a__law_sum : Addr} {fd__law_sum : FuncData} (D__law_sum : FnP K "_law_sum" s__law_sum a__law_sum fd__law_sum) (g__law_sum : mg "_law_sum" = some (.ref a__law_sum)) (R__law_sum : FnG P w K mg base 2 a__law_sum fd__law_sum ["_law_one", "_law_other"] (spF K mg 2 F__law_sum))
    {a__law_times : Addr} {fd__law_times : FuncData} (D__law_times : FnP K "_law_times" s__law_times a__law_times fd__law_times) (g__law_times : mg "_law_times" = some (.ref a__law_times)) (R__law_times : FnG P w K mg base 2 a__law_times fd__law_times ["_law_one", "_law_other"] (spF K mg 2 F__law_times))
    {a__law_ratio : Addr} {fd__law_ratio : FuncData} (D__law_ratio : FnP K "_law_ratio" s__law_ratio a__law_ratio fd__law_ratio) (g__law_ratio : mg "_law_ratio" = some (.ref a__law_ratio)) (R__law_ratio : FnG P w K mg base 3 a__law_ratio fd__law_ratio ["_law_pot_here"] (spF K mg 1 F__law_ratio))
    {a__law_row : Addr} {fd__law_row : FuncData} (D__law_row : FnP K "_law_row" s__law_row a__law_row fd__law_row) (g__law_row : mg "_law_row" = some (.ref a__law_row)) (R__law_row : FnG P w K mg base 4 a__law_row fd__law_row ["_law_pot_here", "_law_many"] (spF K mg 2 F__law_row)) : FnG P w K mg base 5 f fd ["_law_pot_here"] (spF K mg 1 F__law_rows) := by
  have b__law_draw : Binds K fd__law_draw ["_law_pot_here", "_law_size"] [] := D__law_draw.bindsN fun _ _ _ _ _ _ us hl => match us, hl with | [_, _], _ => rfl
  have b__law_sum : Binds K fd__law_sum ["_law_one", "_law_other"] [] := D__law_sum.bindsN fun _ _ _ _ _ _ us hl => match us, hl with | [_, _], _ => rfl
  have b__law_times : Binds K fd__law_times ["_law_one", "_law_other"] [] := D__law_times.bindsN fun _ _ _ _ _ _ us hl => match us, hl with | [_, _], _ => rfl
  have b__law_ratio : Binds K fd__law_ratio ["_law_pot_here"] [] := D__law_ratio.bindsN fun _ _ _ _ _ _ us hl => match us, hl with | [_], _ => rfl
  have b__law_row : Binds K fd__law_row ["_law_pot_here", "_law_many"] [] := D__law_row.bindsN fun _ _ _ _ _ _ us hl => match us, hl with | [_, _], _ => rfl
  exact fn_mk (N := ["_law_pot_here", "_law_many", "_law_rows_here", "_law_turn", "_law_row_here", "_law_often", "_law_one"]) (ps := ["_law_pot_here"]) D sc__law_rows fun cdv A outer s H E hr gu Φ => (s_cons (s_par 1 2 rfl sc__law_rows.nd (d_r (d_op op_dAdd d_int (d_fz (d_call [true, false] R__law_draw (hr.mono (by omega)) gu g__law_draw D__law_draw.kp b__law_draw (takes_of rfl rfl rfl rfl) (d_acons (d_var 0) (d_acons d_int d_anil)))))) (fun Φ => (d_lst d_anil)) rfl) (s_cons (s_for (passes_of rfl) rfl (i_rng1 h_range (d_acons (d_var 1) d_anil)) (g_name 3 sc__law_rows.nd) (s_cons (s_set 4 sc__law_rows.nd (d_call [true, false] R__law_row (hr.mono (by omega)) gu g__law_row D__law_row.kp b__law_row (takes_of rfl rfl rfl rfl) (d_acons (d_var 0) (d_acons (d_op op_dAdd (d_var 1) d_int) d_anil)))) (s_cons (s_if (t_w (w_and (t_cmp (op_dNe hr.units) (d_var 2) (d_fz (d_lst d_anil)) (nomark _)) (w_and1 (t_cmp (op_dEq hr.units) (d_fz (d_call [true, false] R__law_draw (hr.mono (by omega)) gu g__law_draw D__law_draw.kp b__law_draw (takes_of rfl rfl rfl rfl) (d_acons (d_var 0) (d_acons d_int d_anil)))) d_int (nomark _))))) (s_cons (s_set 5 sc__law_rows.nd (d_call [true] R__law_ratio (hr.mono (by omega)) gu g__law_ratio D__law_ratio.kp b__law_ratio (takes_of rfl rfl rfl rfl) (d_acons (d_var 0) d_anil))) (s_cons (s_setLc 4 (own := [("_law_one", 6)]) rfl sc__law_rows.nd (sw_true rfl rfl rfl rfl) (i_seq (d_ix (d_var 2) d_int (fun _ _ => rfl))) (blkOk_by (by first | (show blkC ["_law_pot_here", "_law_many", "_law_rows_here", "_law_turn", "_law_row_here", "_law_often", "_law_one"] (defScope s__law_rows) _ _ = true; decide +kernel) | kernel_rfl | rfl)) (fun Ψ s H C cl fp => (g_name 6 sc__law_rows.nd)) (fun Ψ s H C cl fp => t_yes) (fun Ψ s H C cl fp => (d_fz (d_call [false, false] R__law_times (hr.mono (by omega)) gu g__law_times D__law_times.kp b__law_times takes0 (d_acons (d_var 5) (d_acons (d_var 6) d_anil)))))) (s_one (s_if (t_cmp (op_dEq hr.units) (d_fz (d_call [true, false] R__law_draw (hr.mono (by omega)) gu g__law_draw D__law_draw.kp b__law_draw (takes_of rfl rfl rfl rfl) (d_acons (d_var 0) (d_acons d_int d_anil)))) d_int (nomark _)) (s_one (s_asg (d_fz (d_call [false, false] R__law_sum (hr.mono (by omega)) gu g__law_sum D__law_sum.kp b__law_sum (takes_of rfl rfl rfl rfl) (d_acons (d_ix (d_var 4) (d_un op_dNeg d_int) (fun _ _ => rfl)) (d_acons (d_tup (d_acons d_int (d_acons d_int d_anil))) d_anil)))) (g_sub (d_var 4) (d_un op_dNeg d_int) (fun _ => rfl)))) s_nil)))) s_nil) (s_one (s_expr (d_mt PySem.F.slot_list_append PySem.F.type_list_append mt_dApp (d_var 2) (d_acons (d_var 4) d_anil))))))) (s_one (s_ret (d_r (d_var 2))))))
theorem r__law_sums (D : FnP K "_law_sums" s__law_sums f fd)
    (h_zip : mg "zip" = none)
    {a__law_sum : Addr} {fd__law_sum : FuncData} (D__law_sum : FnP K "_law_sum" s__law_sum a__law_sum fd__law_sum) (g__law_sum : mg "_law_sum" = some (.ref a__law_sum)) (R__law_sum : FnG P w K mg base 2 a__law_sum fd__law_sum ["_law_one", "_law_other"] (spF K mg 2 F__law_sum))
    {a__law_times : Addr} {fd__law_times : FuncData} (D__law_times : FnP K "_law_times" s__law_times a__law_times fd__law_times) (g__law_times : mg "_law_times" = some (.ref a__law_times)) (R__law_times : FnG P w K mg base 2 a__law_times fd__law_times ["_law_one", "_law_other"] (spF K mg 2 F__law_times)) : FnG P w K mg base 3 f fd ["_law_row_here", "_law_some"] (spF K mg 2 F__law_sums) := by
  have b__law_sum : Binds K fd__law_sum ["_law_one", "_law_other"] [] := D__law_sum.bindsN fun _ _ _ _ _ _ us hl => match us, hl with | [_, _], _ => rfl
  have b__law_times : Binds K fd__law_times ["_law_one", "_law_other"] [] := D__law_times.bindsN fun _ _ _ _ _ _ us hl => match us, hl with | [_, _], _ => rfl
  exact fn_mk (N := ["_law_row_here", "_law_some", "_law_found", "_law_one", "_law_late"]) (ps := ["_law_row_here", "_law_some"]) D sc__law_sums fun cdv A outer s H E hr gu Φ => (s_cons (s_set 2 sc__law_sums.nd (d_r (d_tup (d_acons d_int (d_acons d_int d_anil))))) (s_cons (s_for (passes_of rfl) rfl (i_zip2 h_zip (d_acons (d_var 0) (d_acons (d_var 1) d_anil))) (g_tup rfl (g_scons (g_name 3 sc__law_sums.nd) (g_scons (g_name 4 sc__law_sums.nd) g_snil)) (gs_len (gs_len gs_len0))) (s_one (s_set 2 sc__law_sums.nd (d_call [false, false] R__law_sum (hr.mono (by omega)) gu g__law_sum D__law_sum.kp b__law_sum (takes_of rfl rfl rfl rfl) (d_acons (d_var 2) (d_acons (d_fz (d_call [false, false] R__law_times (hr.mono (by omega)) gu g__law_times D__law_times.kp b__law_times (takes_of rfl rfl rfl rfl) (d_acons (d_var 3) (d_acons (d_var 4) d_anil)))) d_anil)))))) (s_one (s_ret (d_r (d_var 2))))))
theorem r__law_is_ratio (D : FnP K "_law_is_ratio" s__law_is_ratio f fd)
    {a__law_made : Addr} {fd__law_made : FuncData} (D__law_made : FnP K "_law_made" s__law_made a__law_made fd__law_made) (g__law_made : mg "_law_made" = some (.ref a__law_made)) (R__law_made : FnG P w K mg base 1 a__law_made fd__law_made ["_law_number", "_law_under"] (spF K mg 2 F__law_made))
    (h_isinstance : mg "isinstance" = none)
    (h_bool : mg "bool" = none)
    (h_int : mg "int" = none)
    (h_all : mg "all" = none)
    (h_len : mg "len" = none)
    (h_tuple : mg "tuple" = none) : FnG P w K mg base 2 f fd ["_law_value"] (spF K mg 1 F__law_is_ratio) := by
  have b__law_made : Binds K fd__law_made ["_law_number", "_law_under"] [] := D__law_made.bindsN fun _ _ _ _ _ _ us hl => match us, hl with | [_, _], _ => rfl
  exact fn_mk (N := ["_law_value", "_law_one"]) (ps := ["_law_value"]) D sc__law_is_ratio fun cdv A outer s H E hr gu Φ => (s_cons (s_if (t_w (w_or (t_not (t_tr (d_isi .tuple h_isinstance h_tuple (d_var 0)))) (w_or1 (t_cmp (op_dNe hr.units) (d_callB cr_dLen h_len (d_acons (d_var 0) d_anil)) d_int (nomark _))))) (s_one (s_ret (d_r d_bool))) s_nil) (s_cons (s_if (t_not (t_tr (d_callB (cr_dAll rfl) h_all (d_acons (d_fz (d_lc (own := [("_law_one", 1)]) rfl sc__law_is_ratio.nd (i_seq (d_var 0)) (blkOk_by (by first | (show blkC ["_law_value", "_law_one"] (defScope s__law_is_ratio) _ _ = true; decide +kernel) | kernel_rfl | rfl)) (fun Ψ s H C cl fp => (g_name 1 sc__law_is_ratio.nd)) (fun Ψ s H C cl fp => t_yes) (fun Ψ s H C cl fp => (d_and (d_isi .int h_isinstance h_int (d_var 1)) (d_bone (d_not (d_isi .bool h_isinstance h_bool (d_var 1)))))))) d_anil)))) (s_one (s_ret (d_r d_bool))) s_nil) (s_one (s_ret (d_r (d_and (d_cmp op_dGt (d_ix (d_var 0) d_int (fun _ _ => rfl)) d_int (nomark _)) (d_bone (d_cmp (op_dEq hr.units) (d_fz (d_call [false, false] R__law_made (hr.mono (by omega)) gu g__law_made D__law_made.kp b__law_made (takes_of rfl rfl rfl rfl) (d_acons (d_ix (d_var 0) d_int (fun _ _ => rfl)) (d_acons (d_ix (d_var 0) d_int (fun _ _ => rfl)) d_anil)))) (d_var 0) (nomark _)))))))))
theorem r__law_is_solution (D : FnP K "_law_is_solution" s__law_is_solution f fd)
    {a__law_sums : Addr} {fd__law_sums : FuncData} (D__law_sums : FnP K "_law_sums" s__law_sums a__law_sums fd__law_sums) (g__law_sums : mg "_law_sums" = some (.ref a__law_sums)) (R__law_sums : FnG P w K mg base 3 a__law_sums fd__law_sums ["_law_row_here", "_law_some"] (spF K mg 2 F__law_sums))
    (h_all : mg "all" = none)
    {a__law_is_ratio : Addr} {fd__law_is_ratio : FuncData} (D__law_is_ratio : FnP K "_law_is_ratio" s__law_is_ratio a__law_is_ratio fd__law_is_ratio) (g__law_is_ratio : mg "_law_is_ratio" = some (.ref a__law_is_ratio)) (R__law_is_ratio : FnG P w K mg base 2 a__law_is_ratio fd__law_is_ratio ["_law_value"] (spF K mg 1 F__law_is_ratio))
    (h_len : mg "len" = none)
    (h_isinstance : mg "isinstance" = none)
    (h_tuple : mg "tuple" = none) : FnG P w K mg base 4 f fd ["_law_rows_here", "_law_value"] (spF K mg 2 F__law_is_solution) := by
  have b__law_sums : Binds K fd__law_sums ["_law_row_here", "_law_some"] [] := D__law_sums.bindsN fun _ _ _ _ _ _ us hl => match us, hl with | [_, _], _ => rfl
  have b__law_is_ratio : Binds K fd__law_is_ratio ["_law_value"] [] := D__law_is_ratio.bindsN fun _ _ _ _ _ _ us hl => match us, hl with | [_], _ => rfl
  exact fn_mk (N := ["_law_rows_here", "_law_value", "_law_row_here", "_law_one"]) (ps := ["_law_rows_here", "_law_value"]) D sc__law_is_solution fun cdv A outer s H E hr gu Φ => (s_cons (s_if (t_w (w_or (t_not (t_tr (d_isi .tuple h_isinstance h_tuple (d_var 1)))) (w_or1 (t_cmp (op_dNe hr.units) (d_callB cr_dLen h_len (d_acons (d_var 1) d_anil)) (d_callB cr_dLen h_len (d_acons (d_var 0) d_anil)) (nomark _))))) (s_one (s_ret (d_r d_bool))) s_nil) (s_cons (s_if (t_not (t_tr (d_callB (cr_dAll rfl) h_all (d_acons (d_fz (d_lc (own := [("_law_one", 3)]) rfl sc__law_is_solution.nd (i_seq (d_var 1)) (blkOk_by (by first | (show blkC ["_law_rows_here", "_law_value", "_law_row_here", "_law_one"] (defScope s__law_is_solution) _ _ = true; decide +kernel) | kernel_rfl | rfl)) (fun Ψ s H C cl fp => (g_name 3 sc__law_is_solution.nd)) (fun Ψ s H C cl fp => t_yes) (fun Ψ s H C cl fp => (d_fz (d_call [false] R__law_is_ratio (hr.mono (by omega)) gu g__law_is_ratio D__law_is_ratio.kp b__law_is_ratio takes0 (d_acons (d_var 3) d_anil)))))) d_anil)))) (s_one (s_ret (d_r d_bool))) s_nil) (s_one (s_ret (d_r (d_callB (cr_dAll rfl) h_all (d_acons (d_fz (d_lc (own := [("_law_row_here", 2)]) rfl sc__law_is_solution.nd (i_seq (d_var 0)) (blkOk_by (by first | (show blkC ["_law_rows_here", "_law_value", "_law_row_here", "_law_one"] (defScope s__law_is_solution) _ _ = true; decide +kernel) | kernel_rfl | rfl)) (fun Ψ s H C cl fp => (g_name 2 sc__law_is_solution.nd)) (fun Ψ s H C cl fp => t_yes) (fun Ψ s H C cl fp => (d_cmp (op_dEq hr.units) (d_fz (d_call [false, false] R__law_sums (hr.mono (by omega)) gu g__law_sums D__law_sums.kp b__law_sums takes0 (d_acons (d_var 2) (d_acons (d_var 1) d_anil)))) (d_ix (d_var 2) (d_un op_dNeg d_int) (fun _ _ => rfl)) (nomark _))))) d_anil)))))))
theorem r__law_right (D : FnP K "_law_right" s__law_right f fd)
    (h_repr : mg "repr" = none)
    {a_is_solution : Addr} {fd_is_solution : FuncData} (D_is_solution : FnP K "is_solution" s_is_solution a_is_solution fd_is_solution) (g_is_solution : mg "is_solution" = some (.ref a_is_solution)) (R_is_solution : FnG P w K mg base 5 a_is_solution fd_is_solution ["rows", "right", "value"] (spF K mg 3 F_is_solution))
    {a__law_is_solution : Addr} {fd__law_is_solution : FuncData} (D__law_is_solution : FnP K "_law_is_solution" s__law_is_solution a__law_is_solution fd__law_is_solution) (g__law_is_solution : mg "_law_is_solution" = some (.ref a__law_is_solution)) (R__law_is_solution : FnG P w K mg base 4 a__law_is_solution fd__law_is_solution ["_law_rows_here", "_law_value"] (spF K mg 2 F__law_is_solution))
    {a__law_made : Addr} {fd__law_made : FuncData} (D__law_made : FnP K "_law_made" s__law_made a__law_made fd__law_made) (g__law_made : mg "_law_made" = some (.ref a__law_made)) (R__law_made : FnG P w K mg base 1 a__law_made fd__law_made ["_law_number", "_law_under"] (spF K mg 2 F__law_made))
    {a__law_sum : Addr} {fd__law_sum : FuncData} (D__law_sum : FnP K "_law_sum" s__law_sum a__law_sum fd__law_sum) (g__law_sum : mg "_law_sum" = some (.ref a__law_sum)) (R__law_sum : FnG P w K mg base 2 a__law_sum fd__law_sum ["_law_one", "_law_other"] (spF K mg 2 F__law_sum))
    (h_list : mg "list" = none)
    {a__law_draw : Addr} {fd__law_draw : FuncData} (D__law_draw : FnP K "_law_draw" s__law_draw a__law_draw fd__law_draw) (g__law_draw : mg "_law_draw" = some (.ref a__law_draw)) (R__law_draw : FnG P w K mg base 1 a__law_draw fd__law_draw ["_law_pot_here", "_law_size"] (spF K mg 2 F__law_draw))
    {a__law_row : Addr} {fd__law_row : FuncData} (D__law_row : FnP K "_law_row" s__law_row a__law_row fd__law_row) (g__law_row : mg "_law_row" = some (.ref a__law_row)) (R__law_row : FnG P w K mg base 4 a__law_row fd__law_row ["_law_pot_here", "_law_many"] (spF K mg 2 F__law_row))
    (h_tuple : mg "tuple" = none)
    {a_solved_equations : Addr} {fd_solved_equations : FuncData} (D_solved_equations : FnP K "solved_equations" s_solved_equations a_solved_equations fd_solved_equations) (g_solved_equations : mg "solved_equations" = some (.ref a_solved_equations)) (R_solved_equations : FnG P w K mg base 5 a_solved_equations fd_solved_equations ["rows", "right"] (spF K mg 2 F_solved_equations))
    {a__law_solved : Addr} {fd__law_solved : FuncData} (D__law_solved : FnP K "_law_solved" s__law_solved a__law_solved fd__law_solved) (g__law_solved : mg "_law_solved" = some (.ref a__law_solved)) (R__law_solved : FnG P w K mg base 5 a__law_solved fd__law_solved ["_law_rows_here"] (spF K mg 1 F__law_solved))
    (h_len : mg "len" = none)
    {a__law_rows : Addr} {fd__law_rows : FuncData} (D__law_rows : FnP K "_law_rows" s__law_rows a__law_rows fd__law_rows) (g__law_rows : mg "_law_rows" = some (.ref a__law_rows)) (R__law_rows : FnG P w K mg base 5 a__law_rows fd__law_rows ["_law_pot_here"] (spF K mg 1 F__law_rows)) : FnG P w K mg base 6 f fd ["_law_pot_here"] (spF K mg 1 F__law_right) := by
  have b_solved_equations : Binds K fd_solved_equations ["rows", "right"] [] := D_solved_equations.bindsN fun _ _ _ _ _ _ us hl => match us, hl with | [_, _], _ => rfl
  have b_is_solution : Binds K fd_is_solution ["rows", "right", "value"] [] := D_is_solution.bindsN fun _ _ _ _ _ _ us hl => match us, hl with | [_, _, _], _ => rfl
  have b__law_draw : Binds K fd__law_draw ["_law_pot_here", "_law_size"] [] := D__law_draw.bindsN fun _ _ _ _ _ _ us hl => match us, hl with | [_, _], _ => rfl
  have b__law_made : Binds K fd__law_made ["_law_number", "_law_under"] [] := D__law_made.bindsN fun _ _ _ _ _ _ us hl => match us, hl with | [_, _], _ => rfl
  have b__law_sum : Binds K fd__law_sum ["_law_one", "_law_other"] [] := D__law_sum.bindsN fun _ _ _ _ _ _ us hl => match us, hl with | [_, _], _ => rfl
  have b__law_solved : Binds K fd__law_solved ["_law_rows_here"] [] := D__law_solved.bindsN fun _ _ _ _ _ _ us hl => match us, hl with | [_], _ => rfl
  have b__law_row : Binds K fd__law_row ["_law_pot_here", "_law_many"] [] := D__law_row.bindsN fun _ _ _ _ _ _ us hl => match us, hl with | [_, _], _ => rfl
  have b__law_rows : Binds K fd__law_rows ["_law_pot_here"] [] := D__law_rows.bindsN fun _ _ _ _ _ _ us hl => match us, hl with | [_], _ => rfl
  have b__law_is_solution : Binds K fd__law_is_solution ["_law_rows_here", "_law_value"] [] := D__law_is_solution.bindsN fun _ _ _ _ _ _ us hl => match us, hl with | [_, _], _ => rfl
  exact fn_mk (N := ["_law_pot_here", "_law_rows_here", "_law_due", "_law_many", "_law_left", "_law_right_here", "_law_shown", "_law_late", "_law_base", "_law_at", "_law_values", "_law_one", "_law_value", "_law_is_due", "_law_row_here"]) (ps := ["_law_pot_here"]) D sc__law_right fun cdv A outer s H E hr gu Φ => (s_cons (s_set 1 sc__law_right.nd (d_call [true] R__law_rows (hr.mono (by omega)) gu g__law_rows D__law_rows.kp b__law_rows (takes_of rfl rfl rfl rfl) (d_acons (d_var 0) d_anil))) (s_cons (s_par 2 3 rfl sc__law_right.nd (d_call [false] R__law_solved (hr.mono (by omega)) gu g__law_solved D__law_solved.kp b__law_solved (takes_of rfl rfl rfl rfl) (d_acons (d_var 1) d_anil)) (fun Φ => (d_r (d_callB cr_dLen h_len (d_acons (d_var 1) d_anil)))) rfl) (s_cons (s_par 4 5 rfl sc__law_right.nd (d_lc (own := [("_law_row_here", 14)]) rfl sc__law_right.nd (i_seq (d_var 1)) (blkOk_by (by first | (show blkC ["_law_pot_here", "_law_rows_here", "_law_due", "_law_many", "_law_left", "_law_right_here", "_law_shown", "_law_late", "_law_base", "_law_at", "_law_values", "_law_one", "_law_value", "_law_is_due", "_law_row_here"] (defScope s__law_right) _ _ = true; decide +kernel) | kernel_rfl | rfl)) (fun Ψ s H C cl fp => (g_name 14 sc__law_right.nd)) (fun Ψ s H C cl fp => t_yes) (fun Ψ s H C cl fp => (d_fz (d_cut (d_var 14) d_onone (d_osome (d_un op_dNeg d_int)))))) (fun Φ => (d_lc (own := [("_law_row_here", 14)]) rfl sc__law_right.nd (i_seq (d_var 1)) (blkOk_by (by first | (show blkC ["_law_pot_here", "_law_rows_here", "_law_due", "_law_many", "_law_left", "_law_right_here", "_law_shown", "_law_late", "_law_base", "_law_at", "_law_values", "_law_one", "_law_value", "_law_is_due", "_law_row_here"] (defScope s__law_right) _ _ = true; decide +kernel) | kernel_rfl | rfl)) (fun Ψ s H C cl fp => (g_name 14 sc__law_right.nd)) (fun Ψ s H C cl fp => t_yes) (fun Ψ s H C cl fp => (d_ix (d_var 14) (d_un op_dNeg d_int) (fun _ _ => rfl))))) rfl) (s_cons (s_set 6 sc__law_right.nd (d_r (d_callB (cr_dRepr hr.units gu) h_repr (d_acons (d_fz (d_lst (d_acons (d_var 4) (d_acons (d_var 5) d_anil)))) d_anil)))) (s_cons (s_if (t_cmp (op_dNe hr.units) (d_callB (cr_dRepr hr.units gu) h_repr (d_acons (d_fz (d_call [false, false] R_solved_equations (hr.mono (by omega)) gu g_solved_equations D_solved_equations.kp b_solved_equations (takes_of rfl rfl rfl rfl) (d_acons (d_var 4) (d_acons (d_var 5) d_anil)))) d_anil)) (d_callB (cr_dRepr hr.units gu) h_repr (d_acons (d_var 2) d_anil)) (nomark _)) (s_one (s_ret (d_r d_bool))) s_nil) (s_cons (s_set 7 sc__law_right.nd (d_r (d_callTy cr_dTuple h_tuple (d_acons (d_fz (d_lc (own := [("_law_row_here", 14)]) rfl sc__law_right.nd (i_seq (d_var 4)) (blkOk_by (by first | (show blkC ["_law_pot_here", "_law_rows_here", "_law_due", "_law_many", "_law_left", "_law_right_here", "_law_shown", "_law_late", "_law_base", "_law_at", "_law_values", "_law_one", "_law_value", "_law_is_due", "_law_row_here"] (defScope s__law_right) _ _ = true; decide +kernel) | kernel_rfl | rfl)) (fun Ψ s H C cl fp => (g_name 14 sc__law_right.nd)) (fun Ψ s H C cl fp => t_yes) (fun Ψ s H C cl fp => (d_callTy cr_dTuple h_tuple (d_acons (d_var 14) d_anil))))) d_anil)))) (s_cons (s_if (t_cmp (op_dNe hr.units) (d_callB (cr_dRepr hr.units gu) h_repr (d_acons (d_fz (d_callK0 [false, false] [1, 0] [] R_solved_equations (hr.mono (by omega)) gu g_solved_equations D_solved_equations.kp (kw_binds D_solved_equations (ps := ["rows", "right"]) (ks := ["right", "rows"]) (n := 0) (ix := [1, 0]) fun _ _ _ _ _ _ us ws l1 l2 => match us, ws, l1, l2 with | [], [_, _], _, _ => rfl) .nil (fun _ => .nil) (takes_of rfl rfl rfl rfl) (k_cons (d_callTy cr_dTuple h_tuple (d_acons (d_var 5) d_anil)) (k_cons (d_var 7) k_nil)))) d_anil)) (d_callB (cr_dRepr hr.units gu) h_repr (d_acons (d_var 2) d_anil)) (nomark _)) (s_one (s_ret (d_r d_bool))) s_nil) (s_cons (s_set 8 sc__law_right.nd (d_r (d_if (t_cmp op_dIsN (d_var 2) d_none (nomark _)) (d_var 2) (d_callTy cr_dTuple h_tuple (d_acons (d_fz (d_call [true, false] R__law_row (hr.mono (by omega)) gu g__law_row D__law_row.kp b__law_row (takes_of rfl rfl rfl rfl) (d_acons (d_var 0) (d_acons (d_var 3) d_anil)))) d_anil))))) (s_cons (s_set 9 sc__law_right.nd (d_call [true, false] R__law_draw (hr.mono (by omega)) gu g__law_draw D__law_draw.kp b__law_draw (takes_of rfl rfl rfl rfl) (d_acons (d_var 0) (d_acons (d_var 3) d_anil)))) (s_cons (s_set 10 sc__law_right.nd (d_lst (d_acons (d_var 8) (d_acons (d_fz (d_callTyN cr_dList h_list (d_acons (d_var 8) d_anil))) (d_acons (d_fz (d_cut (d_var 8) (d_osome d_int) d_onone)) (d_acons (d_op op_dAdd (d_var 8) (d_tup (d_acons (d_tup (d_acons d_int (d_acons d_int d_anil))) d_anil))) (d_acons d_none (d_acons d_int (d_acons (d_tup d_anil) (d_acons d_str (d_acons (d_op op_dMulQ (d_tup (d_acons d_bool d_anil)) (d_var 3)) d_anil))))))))))) (s_cons (s_expr (d_mt PySem.F.slot_list_append PySem.F.type_list_append mt_dApp (d_var 10) (d_acons (d_op op_dAdd (d_op op_dAdd (d_fz (d_cut (d_var 8) d_onone (d_osome (d_var 9)))) (d_tup (d_acons (d_fz (d_call [false, false] R__law_sum (hr.mono (by omega)) gu g__law_sum D__law_sum.kp b__law_sum (takes_of rfl rfl rfl rfl) (d_acons (d_ix (d_var 8) (d_var 9) (fun _ _ => rfl)) (d_acons (d_tup (d_acons d_int (d_acons d_int d_anil))) d_anil)))) d_anil))) (d_fz (d_cut (d_var 8) (d_osome (d_op op_dAdd (d_var 9) d_int)) d_onone))) d_anil))) (s_cons (s_expr (d_mt PySem.F.slot_list_append PySem.F.type_list_append mt_dApp (d_var 10) (d_acons (d_op op_dAdd (d_op op_dAdd (d_fz (d_cut (d_var 8) d_onone (d_osome (d_var 9)))) (d_tup (d_acons (d_tup (d_acons (d_op op_dMul (d_ix (d_ix (d_var 8) (d_var 9) (fun _ _ => rfl)) d_int (fun _ _ => rfl)) d_int) (d_acons (d_op op_dMul (d_ix (d_ix (d_var 8) (d_var 9) (fun _ _ => rfl)) d_int (fun _ _ => rfl)) d_int) d_anil))) d_anil))) (d_fz (d_cut (d_var 8) (d_osome (d_op op_dAdd (d_var 9) d_int)) d_onone))) d_anil))) (s_cons (s_if (t_cmp (op_dNe hr.units) (d_ix (d_ix (d_ix (d_var 4) d_int (fun _ _ => rfl)) d_int (fun _ _ => rfl)) d_int (fun _ _ => rfl)) d_int (nomark _)) (s_cons (s_set 11 sc__law_right.nd (d_call [false, false] R__law_made (hr.mono (by omega)) gu g__law_made D__law_made.kp b__law_made (takes_of rfl rfl rfl rfl) (d_acons (d_op op_dMul (d_ix (d_ix (d_var 5) d_int (fun _ _ => rfl)) d_int (fun _ _ => rfl)) (d_ix (d_ix (d_ix (d_var 4) d_int (fun _ _ => rfl)) d_int (fun _ _ => rfl)) d_int (fun _ _ => rfl))) (d_acons (d_op op_dMul (d_ix (d_ix (d_var 5) d_int (fun _ _ => rfl)) d_int (fun _ _ => rfl)) (d_ix (d_ix (d_ix (d_var 4) d_int (fun _ _ => rfl)) d_int (fun _ _ => rfl)) d_int (fun _ _ => rfl))) d_anil)))) (s_one (s_expr (d_mt PySem.F.slot_list_append PySem.F.type_list_append mt_dApp (d_var 10) (d_acons (d_op op_dAdd (d_tup (d_acons (d_var 11) d_anil)) (d_op op_dMulQ (d_tup (d_acons (d_tup (d_acons d_int (d_acons d_int d_anil))) d_anil)) (d_op op_dSub (d_var 3) d_int))) d_anil))))) s_nil) (s_cons (s_for (passes_of rfl) rfl (i_seq (d_var 10)) (g_name 12 sc__law_right.nd) (s_cons (s_set 13 sc__law_right.nd (d_call [false, false] R__law_is_solution (hr.mono (by omega)) gu g__law_is_solution D__law_is_solution.kp b__law_is_solution (takes_of rfl rfl rfl rfl) (d_acons (d_var 1) (d_acons (d_var 12) d_anil)))) (s_cons (s_if (t_cmp (op_dNe hr.units) (d_callB (cr_dRepr hr.units gu) h_repr (d_acons (d_fz (d_call [false, false, false] R_is_solution (hr.mono (by omega)) gu g_is_solution D_is_solution.kp b_is_solution (takes_of rfl rfl rfl rfl) (d_acons (d_var 4) (d_acons (d_var 5) (d_acons (d_var 12) d_anil))))) d_anil)) (d_callB (cr_dRepr hr.units gu) h_repr (d_acons (d_var 13) d_anil)) (nomark _)) (s_one (s_ret (d_r d_bool))) s_nil) (s_one (s_if (t_cmp (op_dNe hr.units) (d_callB (cr_dRepr hr.units gu) h_repr (d_acons (d_fz (d_callK0 [false, false, false] [2, 1, 0] [] R_is_solution (hr.mono (by omega)) gu g_is_solution D_is_solution.kp (kw_binds D_is_solution (ps := ["rows", "right", "value"]) (ks := ["value", "right", "rows"]) (n := 0) (ix := [2, 1, 0]) fun _ _ _ _ _ _ us ws l1 l2 => match us, ws, l1, l2 with | [], [_, _, _], _, _ => rfl) .nil (fun _ => .nil) (takes_of rfl rfl rfl rfl) (k_cons (d_var 12) (k_cons (d_var 5) (k_cons (d_var 4) k_nil))))) d_anil)) (d_callB (cr_dRepr hr.units gu) h_repr (d_acons (d_var 13) d_anil)) (nomark _)) (s_one (s_ret (d_r d_bool))) s_nil))))) (s_one (s_ret (d_r (d_cmp (op_dEq hr.units) (d_callB (cr_dRepr hr.units gu) h_repr (d_acons (d_fz (d_lst (d_acons (d_var 4) (d_acons (d_var 5) d_anil)))) d_anil)) (d_var 6) (nomark _)))))))))))))))))))
theorem r_law (D : FnP K "law" s_law f fd)
    {a__law_right : Addr} {fd__law_right : FuncData} (D__law_right : FnP K "_law_right" s__law_right a__law_right fd__law_right) (g__law_right : mg "_law_right" = some (.ref a__law_right)) (R__law_right : FnG P w K mg base 6 a__law_right fd__law_right ["_law_pot_here"] (spF K mg 1 F__law_right))
    {a__law_pot : Addr} {fd__law_pot : FuncData} (D__law_pot : FnP K "_law_pot" s__law_pot a__law_pot fd__law_pot) (g__law_pot : mg "_law_pot" = some (.ref a__law_pot)) (R__law_pot : FnG P w K mg base 1 a__law_pot fd__law_pot ["_law_script", "_law_k"] (spF K mg 2 F__law_pot)) : FnG P w K mg base 7 f fd ["_law_script"] (spF K mg 1 F_law) := by
  have b__law_pot : Binds K fd__law_pot ["_law_script", "_law_k"] [] := D__law_pot.bindsN fun _ _ _ _ _ _ us hl => match us, hl with | [_, _], _ => rfl
  have b__law_right : Binds K fd__law_right ["_law_pot_here"] [] := D__law_right.bindsN fun _ _ _ _ _ _ us hl => match us, hl with | [_], _ => rfl
  exact fn_mk (N := ["_law_script"]) (ps := ["_law_script"]) D sc_law fun cdv A outer s H E hr gu Φ => (s_one (s_ret (d_call1 R__law_right (hr.mono (by omega)) gu g__law_right D__law_right.kp b__law_right (takes_of rfl rfl rfl rfl) (d_call [false, false] R__law_pot (hr.mono (by omega)) gu g__law_pot D__law_pot.kp b__law_pot (takes_of rfl rfl rfl rfl) (d_acons (d_var 0) (d_acons d_int d_anil))))))
end
end
end K45
set_option Elab.async false
set_option linter.all false
set_option maxRecDepth 100000
set_option maxHeartbeats 4000000
namespace K45
open PySem L2 DL
/-! ### ratios as the program reckons them -/
theorem ev_made {a b : Int} {n : Nat} (hb : b ≠ 0) (hs : b.natAbs < 2 ^ n) (hn : n ≤ 9000) :
    F_made_ratio [.sh (.int a), .sh (.int b)] = .ok (.sh (rD (Rat.divInt a b))) [.sh (.int a), .sh (.int b)] := by
  have g0 : 0 < Nat.gcd a.natAbs b.natAbs := Nat.gcd_pos_of_pos_right _ (by omega)
  have gle : Nat.gcd a.natAbs b.natAbs < 2 ^ n := Nat.lt_of_le_of_lt (Nat.gcd_le_right _ (by omega)) hs
  rcases Int.lt_or_gt_of_ne hb with h | h
  · obtain ⟨h1, h2⟩ := made_neg (a := a) h
    have f1 : dFdiv (.int a) (.int (0 - (Nat.gcd a.natAbs b.natAbs : Nat))) = some (.int (Rat.divInt a b).num) := by
      rw [fdiv_ok (n := n) (by omega) (by omega) hn, h1]
    have f2 : dFdiv (.int b) (.int (0 - (Nat.gcd a.natAbs b.natAbs : Nat))) = some (.int (Rat.divInt a b).den) := by
      rw [fdiv_ok (n := n) (by omega) (by omega) hn, h2]
    simp [F_made_ratio, m_made_ratio, h, -Int.zero_sub, f1, f2, rD]
  · obtain ⟨h1, h2⟩ := made_pos (a := a) h
    have f1 : dFdiv (.int a) (.int (Nat.gcd a.natAbs b.natAbs : Nat)) = some (.int (Rat.divInt a b).num) := by
      rw [fdiv_ok (n := n) (by omega) (by omega) hn, h1]
    have f2 : dFdiv (.int b) (.int (Nat.gcd a.natAbs b.natAbs : Nat)) = some (.int (Rat.divInt a b).den) := by
      rw [fdiv_ok (n := n) (by omega) (by omega) hn, h2]
    have h3 : ¬ b < 0 := by omega
    simp [F_made_ratio, m_made_ratio, h3, f1, f2, rD]
theorem ev_add {p q : Rat} {m n : Nat} (hp : Sz m p) (hq : Sz n q) (hn : m + n ≤ 8900) :
    F_add_ratios [.sh (rD p), .sh (rD q)] = .ok (.sh (rD (p + q))) [.sh (rD p), .sh (rD q)] := by
  have hd : ((p.den : Int)).natAbs < 2 ^ m := by simpa using hp.den
  have he : ((q.den : Int)).natAbs < 2 ^ n := by simpa using hq.den
  have e1 := mul_ok hp.num he (by omega)
  have e2 := mul_ok hq.num hd (by omega)
  have e3 := mul_ok hd he (by omega)
  have e4 := ev_made (a := p.num * q.den + q.num * p.den) (Int.mul_ne_zero (den_ne p) (den_ne q)) (abs_mul_lt hd he) (by omega)
  rw [← add_eq] at e4
  simp [F_add_ratios, m_add_ratios, e1, e2, e3, e4, z_callR]
theorem ev_mul {p q : Rat} {m n : Nat} (hp : Sz m p) (hq : Sz n q) (hn : m + n ≤ 8900) :
    F_mul_ratios [.sh (rD p), .sh (rD q)] = .ok (.sh (rD (p * q))) [.sh (rD p), .sh (rD q)] := by
  have hd : ((p.den : Int)).natAbs < 2 ^ m := by simpa using hp.den
  have he : ((q.den : Int)).natAbs < 2 ^ n := by simpa using hq.den
  have e1 := mul_ok hp.num hq.num (by omega)
  have e3 := mul_ok hd he (by omega)
  have e4 := ev_made (a := p.num * q.num) (Int.mul_ne_zero (den_ne p) (den_ne q)) (abs_mul_lt hd he) (by omega)
  rw [← mul_eq] at e4
  simp [F_mul_ratios, m_mul_ratios, e1, e3, e4, z_callR]
theorem ev_is_integer (a : Int) : F_is_integer [.sh (.int a)] = .ok (.sh (.bool true)) [.sh (.int a)] := by
  simp [F_is_integer, m_is_integer, isT]
/-! ### the law's own -/
theorem fmod_small (a : Int) {b : Int} (h : b ≠ 0) : (a.fmod b).natAbs < b.natAbs := by
  have h1 := Int.emod_nonneg a h
  have h2 := Int.emod_lt a h
  rw [Int.fmod_eq_emod]
  split
  · omega
  · rename_i z
    have z1 : ¬ 0 ≤ b := fun q => z (.inl q)
    have z2 : a % b ≠ 0 := fun q => z (.inr (Int.dvd_of_emod_eq_zero q))
    omega
theorem gcd_fmod (a b : Int) : Nat.gcd b.natAbs (a.fmod b).natAbs = Nat.gcd a.natAbs b.natAbs := by
  show Int.gcd b (a.fmod b) = Int.gcd a b
  rw [Int.gcd_comm a b]
  refine Nat.dvd_antisymm ?_ ?_
  · refine Int.dvd_gcd (Int.gcd_dvd_left ..) ?_
    have h1 : ((Int.gcd b (a.fmod b) : Nat) : Int) ∣ b * (a.fdiv b) + a.fmod b := Int.dvd_add (Int.dvd_mul_of_dvd_left (Int.gcd_dvd_left ..)) (Int.gcd_dvd_right ..)
    rwa [Int.mul_fdiv_add_fmod] at h1
  · refine Int.dvd_gcd (Int.gcd_dvd_left ..) ?_
    have h1 : ((Int.gcd b a : Nat) : Int) ∣ a - b * (a.fdiv b) := Int.dvd_sub (Int.gcd_dvd_right ..) (Int.dvd_mul_of_dvd_left (Int.gcd_dvd_left ..))
    rwa [← Int.fmod_def] at h1
theorem gcd_walk (u v : D) : ∀ (k : Nat) (a b : Int), b.natAbs < k → 0 ≤ a → 0 ≤ b → ∃ (n : Nat), 
    whileN (tOf (eOp2 dGt (eVar 3) (eC (.int 0)))) (sPar 2 3 (eR (eVar 3)) (eR (eOp2 dMod (eCall bInt (aCons (eVar 2) aNil)) (eVar 3)))) n [.sh u, .sh v, .sh (.int a), .sh (.int b)] = some (.ok .nx [.sh u, .sh v, .sh (.int (Nat.gcd a.natAbs b.natAbs : Nat)), .sh (.int 0)])
  | 0, a, b, h, _, _ => absurd h (by omega)
  | k + 1, a, b, h, ha, h0 => by
    by_cases hb : b = 0
    · subst hb
      refine ⟨1, ?_⟩
      have : ((Nat.gcd a.natAbs (0 : Int).natAbs : Nat) : Int) = a := by simp; omega
      rw [this]
      simp [whileN]
    · have sm := fmod_small a hb
      have nn : 0 ≤ a.fmod b := by rw [Int.fmod_eq_emod_of_nonneg _ h0]; exact Int.emod_nonneg _ hb
      obtain ⟨n, hw⟩ := gcd_walk u v k b (a.fmod b) (by omega) h0 nn
      rw [gcd_fmod] at hw
      have hp : 0 < b := by omega
      refine ⟨n + 1, ?_⟩
      rw [whileN]
      simp [hb, fmod_ok hb, hp]
      exact hw
theorem ev_lmade {a b : Int} {n : Nat} (hb : b ≠ 0) (hs : b.natAbs < 2 ^ n) (hn : n ≤ 9000) :
    F__law_made [.sh (.int a), .sh (.int b)] = .ok (.sh (rD (Rat.divInt a b))) [.sh (.int a), .sh (.int b)] := by
  have g0 : 0 < Nat.gcd a.natAbs b.natAbs := Nat.gcd_pos_of_pos_right _ (by omega)
  have gle : Nat.gcd a.natAbs b.natAbs < 2 ^ n := Nat.lt_of_le_of_lt (Nat.gcd_le_right _ (by omega)) hs
  obtain ⟨k, hw⟩ := gcd_walk (.int a) (.int b) ((b.natAbs : Int).natAbs + 1) (a.natAbs : Int) (b.natAbs : Int) (by omega) (by omega) (by omega)
  have ga : ∀ x : Int, (if x < 0 then -x else x) = (x.natAbs : Int) := fun x => by split <;> omega
  rw [show ((a.natAbs : Int)).natAbs = a.natAbs by omega, show ((b.natAbs : Int)).natAbs = b.natAbs by omega] at hw
  rcases Int.lt_or_gt_of_ne hb with h | h
  · obtain ⟨h1, h2⟩ := made_neg (a := a) h
    have f1 : dFdiv (.int a) (.int (0 - (Nat.gcd a.natAbs b.natAbs : Nat))) = some (.int (Rat.divInt a b).num) := by
      rw [fdiv_ok (n := n) (by omega) (by omega) hn, h1]
    have f2 : dFdiv (.int b) (.int (0 - (Nat.gcd a.natAbs b.natAbs : Nat))) = some (.int (Rat.divInt a b).den) := by
      rw [fdiv_ok (n := n) (by omega) (by omega) hn, h2]
    have h3 : ¬ 0 < b := by omega
    simp [F__law_made, m__law_made, h3, -Int.zero_sub, ga, sWhile_of hw, f1, f2, rD]
  · obtain ⟨h1, h2⟩ := made_pos (a := a) h
    have f1 : dFdiv (.int a) (.int (Nat.gcd a.natAbs b.natAbs : Nat)) = some (.int (Rat.divInt a b).num) := by
      rw [fdiv_ok (n := n) (by omega) (by omega) hn, h1]
    have f2 : dFdiv (.int b) (.int (Nat.gcd a.natAbs b.natAbs : Nat)) = some (.int (Rat.divInt a b).den) := by
      rw [fdiv_ok (n := n) (by omega) (by omega) hn, h2]
    simp [F__law_made, m__law_made, h, ga, sWhile_of hw, f1, f2, rD]
theorem ev_lsum {p q : Rat} {m n : Nat} (hp : Sz m p) (hq : Sz n q) (hn : m + n ≤ 8900) :
    F__law_sum [.sh (rD p), .sh (rD q)] = .ok (.sh (rD (p + q))) [.sh (rD p), .sh (rD q)] := by
  have hd : ((p.den : Int)).natAbs < 2 ^ m := by simpa using hp.den
  have he : ((q.den : Int)).natAbs < 2 ^ n := by simpa using hq.den
  have e1 := mul_ok hp.num he (by omega)
  have e2 := mul_ok hq.num hd (by omega)
  have e3 := mul_ok hd he (by omega)
  have e4 := ev_lmade (a := p.num * q.den + q.num * p.den) (Int.mul_ne_zero (den_ne p) (den_ne q)) (abs_mul_lt hd he) (by omega)
  rw [← add_eq] at e4
  simp [F__law_sum, m__law_sum, e1, e2, e3, e4, z_callR]
theorem ev_ltimes {p q : Rat} {m n : Nat} (hp : Sz m p) (hq : Sz n q) (hn : m + n ≤ 8900) :
    F__law_times [.sh (rD p), .sh (rD q)] = .ok (.sh (rD (p * q))) [.sh (rD p), .sh (rD q)] := by
  have hd : ((p.den : Int)).natAbs < 2 ^ m := by simpa using hp.den
  have he : ((q.den : Int)).natAbs < 2 ^ n := by simpa using hq.den
  have e1 := mul_ok hp.num hq.num (by omega)
  have e3 := mul_ok hd he (by omega)
  have e4 := ev_lmade (a := p.num * q.num) (Int.mul_ne_zero (den_ne p) (den_ne q)) (abs_mul_lt hd he) (by omega)
  rw [← mul_eq] at e4
  simp [F__law_times, m__law_times, e1, e3, e4, z_callR]
theorem ev_lless {p q : Rat} {m n : Nat} (hp : Sz m p) (hq : Sz n q) (hn : m + n ≤ 8900) :
    F__law_less [.sh (rD p), .sh (rD q)] = .ok (.sh (rD (p - q))) [.sh (rD p), .sh (rD q)] := by
  have e := ev_lsum hp hq.neg hn
  rw [← Rat.sub_eq_add_neg] at e
  have h : (.tuple [.int (0 - q.num), .int q.den] : D) = rD (-q) := by
    unfold rD
    rw [Rat.neg_num, Rat.neg_den, Int.zero_sub]
  have i0 : dIx (rD q) (.int 0) = some (.int q.num) := rfl
  have i1 : dIx (rD q) (.int 1) = some (.int q.den) := rfl
  simp [F__law_less, m__law_less, i0, i1, -Int.zero_sub, h, e, z_callR]
/-! ### draws -/
theorem ev_draw {p : List D} (P : Pot p) {r : Int} (h0 : 0 < r) (h1 : r < 1000) : ∃ p' dg, Pot p' ∧ 0 ≤ dg ∧ dg < r ∧ F__law_draw [.io (.ls p), .sh (.int r)] = .ok (.sh (.int dg)) [.io (.ls p'), .sh (.int r)] :=
  draw_ok (A := 40014) (B := 9433) (M := 2147483563) (N := 2147483629) (S := 19) (by omega) (by omega) (by omega) (by omega) (by omega) (by omega) P h0 h1
end K45
set_option Elab.async false
set_option linter.all false
set_option maxRecDepth 100000
set_option maxHeartbeats 4000000
namespace K45
open PySem L2 DL
@[simp] theorem z_eIsi2 (T U : Ty) (fa : Ef) (e : Fr) : eIsi2 T U fa e = (fa e).bind (useI fun d => isT T d || isT U d) := rfl
abbrev lD (r : List Rat) : D := .list (r.map rD)
abbrev tD (r : List Rat) : D := .tuple (r.map rD)
abbrev mD (m : List (List Rat)) : D := .list (m.map lD)
def SzL (n : Nat) (r : List Rat) : Prop := ∀ q ∈ r, Sz n q
theorem SzL.up {m n : Nat} {r : List Rat} (h : SzL m r) (l : m ≤ n) : SzL n r := fun q hq => (h q hq).up l
theorem ix_map {α : Type} {f : α → D} {xs : List α} {n : Nat} {x : α} (h : xs[n]? = some x) : dIx (.list (xs.map f)) (.int (n : Int)) = some (f x) := by
  have hl : n < xs.length := (List.getElem?_eq_some_iff.mp h).1
  have i1 : L2.ixN (xs.map f).length (n : Int) = some n := by
    simp only [L2.ixN, List.length_map]
    rw [if_pos (by omega), if_pos (by omega)]
    rfl
  show (L2.ixN (xs.map f).length (n : Int)).bind _ = _
  rw [i1]
  show (xs.map f)[n]? = _
  rw [List.getElem?_map, h]
  rfl
theorem ix_mapT {α : Type} {f : α → D} {xs : List α} {n : Nat} {x : α} (h : xs[n]? = some x) : dIx (.tuple (xs.map f)) (.int (n : Int)) = some (f x) := by
  have hl : n < xs.length := (List.getElem?_eq_some_iff.mp h).1
  have i1 : L2.ixN (xs.map f).length (n : Int) = some n := by
    simp only [L2.ixN, List.length_map]
    rw [if_pos (by omega), if_pos (by omega)]
    rfl
  show (L2.ixN (xs.map f).length (n : Int)).bind _ = _
  rw [i1]
  show (xs.map f)[n]? = _
  rw [List.getElem?_map, h]
  rfl
theorem ix_last {α : Type} {f : α → D} {xs : List α} {x : α} (h : xs.getLast? = some x) : dIx (.list (xs.map f)) (.int (-1)) = some (f x) := by
  have h' : xs[xs.length - 1]? = some x := by rw [← List.getLast?_eq_getElem?]; exact h
  have hl : xs.length - 1 < xs.length := (List.getElem?_eq_some_iff.mp h').1
  have i1 : L2.ixN (xs.map f).length (-1) = some (xs.length - 1) := by
    simp only [L2.ixN, List.length_map]
    rw [if_neg (by omega), if_pos (by omega)]
    congr 1
    omega
  show (L2.ixN (xs.map f).length (-1)).bind _ = _
  rw [i1]
  show (xs.map f)[xs.length - 1]? = _
  rw [List.getElem?_map, h']
  rfl
/-! ### rows freed -/
def freed (r h : List Rat) (q : Rat) : List Rat := (r.zip h).map fun p => p.1 - q * p.2
theorem freed_sz {r h : List Rat} {q : Rat} {m n : Nat} (hr : SzL m r) (hh : SzL n h) (hq : Sz m q) : SzL (m + (m + n) + 1) (freed r h q) := fun x hx => by
  obtain ⟨p, hp, rfl⟩ := List.mem_map.mp hx
  exact (hr _ (List.of_mem_zip hp).1).sub (hq.mul (hh _ (List.of_mem_zip hp).2))
theorem ev_freed {r h : List Rat} {k m n : Nat} {q : Rat} (hq : r[k]? = some q) (hr : SzL m r) (hh : SzL n h) (hn : m + (m + n) ≤ 8900) (hl : r.length ≤ 1000) :
    F__law_freed [.sh (lD r), .sh (lD h), .sh (.int k)] = .ok (.own (.ls ((freed r h q).map rD))) [.sh (lD r), .sh (lD h), .sh (.int k)] := by
  have i := ix_map (f := rD) hq
  have sq : Sz m q := hr q (List.mem_of_getElem? hq)
  have c := lcL_map (g := gTupF (gsCons (gSet 4) (gsCons (gSet 5) gsNil))) (ts := tYesF) (a := eFz (eFnC F__law_less [false, false] (aCons (eVar 4) (aCons (eFz (eFnC F__law_times [false, false] (aCons (eVar 3) (aCons (eVar 5) aNil)))) aNil)))) (vs := [4, 5])
    (fun p : Rat × Rat => .tuple [rD p.1, rD p.2]) (fun p => rD (p.1 - q * p.2)) (r.zip h) [.sh (lD r), .sh (lD h), .sh (.int k), .sh (rD q), .un, .un] (fun p hp => by
      have s1 := hr _ (List.of_mem_zip hp).1
      have s2 := hh _ (List.of_mem_zip hp).2
      have e1 := ev_ltimes sq s2 (by omega)
      have e2 := ev_lless s1 (sq.mul s2) (by omega)
      simp [z_callR, e1, e2]) (by rw [List.length_zip]; omega)
  simp [F__law_freed, m__law_freed, i, zipD_map, c, freed, List.map_map, Function.comp_def]
/-! ### sums of products -/
def dotZ : Rat → List (Rat × Rat) → Rat := List.foldl fun s p => s + p.1 * p.2
theorem ev_lsums {r v : List Rat} {m n : Nat} (hr : SzL m r) (hv : SzL n v) (hl : v.length ≤ 4) (hn : 4 * (m + n + 1) + 1 ≤ 8900) :
    F__law_sums [.sh (lD r), .sh (tD v)] = .ok (.sh (rD (dotZ 0 (r.zip v)))) [.sh (lD r), .sh (tD v)] := by
  have n0 : (.tuple [.int 0, .int 1] : D) = rD 0 := rfl
  have go : ∀ (ps : List (Rat × Rat)) (c : Nat) (s : Rat) (x y : Sl), ((x = .un ∧ y = .un) ∨ ∃ a b, x = .sh a ∧ y = .sh b) → (∀ p ∈ ps, Sz m p.1 ∧ Sz n p.2) → Sz c s → c + ps.length * (m + n + 1) ≤ 8900 →
      ∃ x' y', forL (gTupF (gsCons (gSet 3) (gsCons (gSet 4) gsNil))) (sSet 2 (eFnC F__law_sum [false, false] (aCons (eVar 2) (aCons (eFz (eFnC F__law_times [false, false] (aCons (eVar 3) (aCons (eVar 4) aNil)))) aNil)))) (ps.map fun p => .tuple [rD p.1, rD p.2]) [.sh (lD r), .sh (tD v), .sh (rD s), x, y]
        = .ok .nx [.sh (lD r), .sh (tD v), .sh (rD (dotZ s ps)), x', y'] := by
    intro ps
    induction ps with
    | nil => exact fun c s x y _ _ _ _ => ⟨x, y, rfl⟩
    | cons p ps ih =>
      intro c s x y hx hp hs hc
      obtain ⟨s1, s2⟩ := hp p (List.mem_cons_self ..)
      have hc' : c + (ps.length + 1) * (m + n + 1) ≤ 8900 := hc
      rw [Nat.add_mul, Nat.one_mul] at hc'
      have e1 := ev_ltimes s1 s2 (by omega)
      have e2 := ev_lsum hs (s1.mul s2) (by omega)
      obtain ⟨x', y', w⟩ := ih (c + (m + n) + 1) (s + p.1 * p.2) (.sh (rD p.1)) (.sh (rD p.2)) (.inr ⟨_, _, rfl, rfl⟩) (fun z hz => hp z (List.mem_cons_of_mem _ hz)) (hs.add (s1.mul s2)) (by omega)
      refine ⟨x', y', ?_⟩
      rw [List.map_cons, forL_nx (e' := [.sh (lD r), .sh (tD v), .sh (rD (s + p.1 * p.2)), .sh (rD p.1), .sh (rD p.2)])]
      · exact w
      · rcases hx with ⟨rfl, rfl⟩ | ⟨a, b, rfl, rfl⟩ <;> simp [z_callR, e1, e2]
  have lz : (r.zip v).length ≤ 4 := by rw [List.length_zip]; omega
  obtain ⟨x', y', w⟩ := go (r.zip v) 1 0 .un .un (.inl ⟨rfl, rfl⟩) (fun p hp => ⟨hr _ (List.of_mem_zip hp).1, hv _ (List.of_mem_zip hp).2⟩) ⟨by decide, by decide⟩ (by
    have := Nat.mul_le_mul_right (m + n + 1) lz
    omega)
  simp [F__law_sums, m__law_sums, n0, zipD_map, w]
theorem ev_sums {r v : List Rat} {m n : Nat} (hr : SzL m r) (hv : SzL n v) (hl : v.length ≤ 4) (hn : 4 * (m + n + 1) + 1 ≤ 8900) :
    F_sum_of_products [.sh (lD r), .sh (tD v)] = .ok (.sh (rD (dotZ 0 (r.zip v)))) [.sh (lD r), .sh (tD v)] := by
  have n0 : (.tuple [.int 0, .int 1] : D) = rD 0 := rfl
  have go : ∀ (ps : List (Rat × Rat)) (c : Nat) (s : Rat) (x y : Sl), ((x = .un ∧ y = .un) ∨ ∃ a b, x = .sh a ∧ y = .sh b) → (∀ p ∈ ps, Sz m p.1 ∧ Sz n p.2) → Sz c s → c + ps.length * (m + n + 1) ≤ 8900 →
      ∃ x' y', forL (gTupF (gsCons (gSet 3) (gsCons (gSet 4) gsNil))) (sSet 2 (eFnC F_add_ratios [false, false] (aCons (eVar 2) (aCons (eFz (eFnC F_mul_ratios [false, false] (aCons (eVar 3) (aCons (eVar 4) aNil)))) aNil)))) (ps.map fun p => .tuple [rD p.1, rD p.2]) [.sh (lD r), .sh (tD v), .sh (rD s), x, y]
        = .ok .nx [.sh (lD r), .sh (tD v), .sh (rD (dotZ s ps)), x', y'] := by
    intro ps
    induction ps with
    | nil => exact fun c s x y _ _ _ _ => ⟨x, y, rfl⟩
    | cons p ps ih =>
      intro c s x y hx hp hs hc
      obtain ⟨s1, s2⟩ := hp p (List.mem_cons_self ..)
      have hc' : c + (ps.length + 1) * (m + n + 1) ≤ 8900 := hc
      rw [Nat.add_mul, Nat.one_mul] at hc'
      have e1 := ev_mul s1 s2 (by omega)
      have e2 := ev_add hs (s1.mul s2) (by omega)
      obtain ⟨x', y', w⟩ := ih (c + (m + n) + 1) (s + p.1 * p.2) (.sh (rD p.1)) (.sh (rD p.2)) (.inr ⟨_, _, rfl, rfl⟩) (fun z hz => hp z (List.mem_cons_of_mem _ hz)) (hs.add (s1.mul s2)) (by omega)
      refine ⟨x', y', ?_⟩
      rw [List.map_cons, forL_nx (e' := [.sh (lD r), .sh (tD v), .sh (rD (s + p.1 * p.2)), .sh (rD p.1), .sh (rD p.2)])]
      · exact w
      · rcases hx with ⟨rfl, rfl⟩ | ⟨a, b, rfl, rfl⟩ <;> simp [z_callR, e1, e2]
  have lz : (r.zip v).length ≤ 4 := by rw [List.length_zip]; omega
  obtain ⟨x', y', w⟩ := go (r.zip v) 1 0 .un .un (.inl ⟨rfl, rfl⟩) (fun p hp => ⟨hr _ (List.of_mem_zip hp).1, hv _ (List.of_mem_zip hp).2⟩) ⟨by decide, by decide⟩ (by
    have := Nat.mul_le_mul_right (m + n + 1) lz
    omega)
  simp [F_sum_of_products, m_sum_of_products, n0, zipD_map, w]
end K45
set_option Elab.async false
set_option linter.all false
set_option maxRecDepth 100000
set_option maxHeartbeats 4000000
namespace K45
open PySem L2 DL
/-! ### what a ratio is -/
structure El (d : D) (b : Bool) : Prop where
  p : F_is_ratio [.sh d] = .ok (.sh (.bool b)) [.sh d]
  l : F__law_is_ratio [.sh d] = .ok (.sh (.bool b)) [.sh d]
theorem made_self (q : Rat) : Rat.divInt q.num q.den = q := Rat.num_divInt_den q
theorem el_rat {q : Rat} {n : Nat} (h : Sz n q) (hn : n ≤ 9000) : El (rD q) true := by
  have h1 : (1 : Int) ≤ q.den := by have := den_pos q; omega
  have h0 : 0 < q.den := den_pos q
  have h2 : Nat.gcd q.num.natAbs q.den = 1 := q.reduced
  have i1 : isT .bool (.int q.num) = false := rfl
  have i2 : isT .bool (.int (q.den : Int)) = false := rfl
  have s1 : seqOf (rD q) = some [.int q.num, .int q.den] := rfl
  have e := ev_lmade (a := q.num) (den_ne q) (n := n) (by have := h.den; omega) hn
  rw [made_self] at e
  exact ⟨by simp [F_is_ratio, m_is_ratio, ev_is_integer, z_callR, h1, h2], by simp [F__law_is_ratio, m__law_is_ratio, s1, z_lcL2, i1, i2, e, z_callR, h0]⟩
theorem el_bool (b : Bool) : El (.bool b) false := by
  have h : isT .tuple (.bool b) = false := rfl
  exact ⟨by simp [F_is_ratio, m_is_ratio, h], by simp [F__law_is_ratio, m__law_is_ratio, h]⟩
theorem el_two {q : Rat} {n : Nat} (h : Sz n q) (hn : n ≤ 8000) : El (.tuple [.int (q.num * 2), .int (q.den * 2)]) false := by
  have h0 : 0 < q.den := den_pos q
  have h2 : ¬ Nat.gcd (q.num * 2).natAbs ((q.den : Int) * 2).natAbs = 1 := by
    rw [Int.natAbs_mul, Int.natAbs_mul]
    show ¬ Nat.gcd (q.num.natAbs * 2) (q.den * 2) = 1
    rw [Nat.gcd_mul_right]
    omega
  have i1 : isT .bool (.int (q.num * 2)) = false := rfl
  have i2 : isT .bool (.int ((q.den : Int) * 2)) = false := rfl
  have i3 : isT .tuple (.tuple [.int (q.num * 2), .int ((q.den : Int) * 2)]) = true := rfl
  have l2 : (((q.den : Int) * 2)).natAbs < 2 ^ (n + 2) := abs_mul_lt (n := 2) (by have := h.den; omega) (by decide)
  have e := ev_lmade (a := q.num * 2) (b := q.den * 2) (n := n + 2) (by omega) l2 (by omega)
  have e2 : Rat.divInt (q.num * 2) (q.den * 2) = q := by
    rw [Rat.divInt_mul_right (by decide)]
    exact made_self q
  rw [e2] at e
  have sh : SeqAt.shaped (.tuple [.int (q.num * 2), .int ((q.den : Int) * 2)]) = true := (Shp.tuple (k := 0) (fun d hd => by
    rcases List.mem_cons.mp hd with rfl | hd
    · exact .int _
    · rw [List.mem_singleton.mp hd]
      exact .int _)).ok (by decide)
  have ne : dEq (rD q) (.tuple [.int (q.num * 2), .int ((q.den : Int) * 2)]) = some (.bool false) := eq_of rfl ((Shp.rD q).ok (by decide)) sh (by
    unfold DL.rD
    simp only [PyData.eqv, PyData.eqvAll]
    rw [Bool.eq_false_iff]
    intro z
    simp only [Bool.and_true, Bool.and_eq_true, beq_iff_eq] at z
    omega)
  have h3 : (1 : Int) ≤ (q.den : Int) * 2 := by omega
  have h4 : (0 : Int) < (q.den : Int) * 2 := by omega
  have h2i : ¬ ((Nat.gcd (q.num * 2).natAbs ((q.den : Int) * 2).natAbs : Nat) : Int) = 1 := by omega
  exact ⟨by simp [F_is_ratio, m_is_ratio, i3, ev_is_integer, z_callR, h2i, h3], by simp [F__law_is_ratio, m__law_is_ratio, i3, z_lcL2, i1, i2, e, ne, z_callR, h4]⟩
/-! ### rows of ratios -/
def Els (xs : List (D × Bool)) : Prop := ∀ p ∈ xs, El p.1 p.2
theorem allB_map (xs : List (D × Bool)) : allB (xs.map fun p => .bool p.2) = some (xs.map (·.2)) := by
  induction xs with
  | nil => rfl
  | cons x xs ih => rw [List.map_cons, z_allB1, ih]; rfl
theorem ev_is_list_l (xs : List D) : F_is_list [.sh (.list xs)] = .ok (.sh (.bool true)) [.sh (.list xs)] := by
  have h : isT .list (.list xs) = true := rfl
  simp [F_is_list, m_is_list, h]
theorem ev_is_list_t (xs : List D) : F_is_list [.sh (.tuple xs)] = .ok (.sh (.bool true)) [.sh (.tuple xs)] := by
  have h : isT .list (.tuple xs) = false := rfl
  have h2 : isT .tuple (.tuple xs) = true := rfl
  simp [F_is_list, m_is_list, h, h2]
inductive Seq2 (xs : List D) : D → Prop where
  | l : Seq2 xs (.list xs)
  | t : Seq2 xs (.tuple xs)
theorem Seq2.is {xs : List D} {d : D} (h : Seq2 xs d) : F_is_list [.sh d] = .ok (.sh (.bool true)) [.sh d] := by
  cases h
  · exact ev_is_list_l _
  · exact ev_is_list_t _
theorem Seq2.len {xs : List D} {d : D} (h : Seq2 xs d) : bLen [d] = some (.int xs.length) := by cases h <;> rfl
theorem Seq2.seq {xs : List D} {d : D} (h : Seq2 xs d) : seqOf d = some xs := by cases h <;> rfl
theorem Seq2.sq {xs : List D} {d : D} (h : Seq2 xs d) : ∃ k, seqD d = some (k, xs) := by cases h <;> exact ⟨_, rfl⟩
theorem ev_row {xs : List (D × Bool)} {d : D} (n : Int) (hs : Seq2 (xs.map (·.1)) d) (hx : Els xs) (hl : xs.length ≤ 1000) :
    F_is_ratio_row [.sh (.int n), .sh d] = .ok (.sh (.bool (decide ((xs.length : Int) = n) && xs.all (·.2)))) [.sh (.int n), .sh d] := by
  have c := lcL_map (g := gSet 2) (ts := tYesF) (a := eFz (eFnC F_is_ratio [false] (aCons (eVar 2) aNil))) (vs := [2]) (fun p : D × Bool => p.1) (fun p => .bool p.2) xs [.sh (.int n), .sh d, .un] (fun p hp => by
      have e := (hx p hp).p
      simp [z_callR, e]) (by omega)
  have le : bLen [d] = some (.int xs.length) := by rw [hs.len, List.length_map]
  by_cases h : (xs.length : Int) = n
  · simp [F_is_ratio_row, m_is_ratio_row, hs.is, hs.seq, le, z_callR, h, c, allB_map, List.all_map, Function.comp_def]
  · simp [F_is_ratio_row, m_is_ratio_row, hs.is, hs.seq, le, z_callR, h]
theorem els_rat {r : List Rat} {m : Nat} (h : SzL m r) (hm : m ≤ 8000) : Els (r.map fun q => (rD q, true)) := fun p hp => by
  obtain ⟨q, hq, rfl⟩ := List.mem_map.mp hp
  exact el_rat (h q hq) (by omega)
theorem ev_rowR {r : List Rat} {d : D} {n m : Nat} (hs : Seq2 (r.map rD) d) (hr : SzL m r) (hm : m ≤ 8000) (hl : r.length = n) (hn : n ≤ 1000) : F_is_ratio_row [.sh (.int n), .sh d] = .ok (.sh (.bool true)) [.sh (.int n), .sh d] := by
  have := ev_row (xs := r.map fun q => (rD q, true)) (d := d) n (by rw [List.map_map]; exact hs) (els_rat hr hm) (by rw [List.length_map]; omega)
  rw [this]
  simp [hl]
/-! ### equations: rows, their right sides; lists or tuples -/
structure Eqs (n : Nat) (A : List (List Rat)) (b : List Rat) (dr db : D) : Prop where
  n0 : 1 ≤ n
  n4 : n ≤ 4
  la : A.length = n
  lb : b.length = n
  row : ∀ r ∈ A, r.length = n ∧ SzL 7 r
  sb : SzL 7 b
  rows : ∃ rs : List (List Rat × D), rs.map (·.1) = A ∧ (∀ p ∈ rs, Seq2 (p.1.map rD) p.2) ∧ Seq2 (rs.map (·.2)) dr
  right : Seq2 (b.map rD) db
theorem ev_want {n : Nat} {A : List (List Rat)} {b : List Rat} {dr db : D} (E : Eqs n A b dr db) : F_want_equations [.sh dr, .sh db] = .ok (.sh .none) [.sh dr, .sh db] := by
  obtain ⟨rs, h1, h2, h3⟩ := E.rows
  have h1l : rs.length = n := by rw [← E.la, ← h1, List.length_map]
  have le : bLen [dr] = some (.int n) := by rw [h3.len, List.length_map, h1l]
  have c := lcL_map (g := gSet 2) (ts := tYesF) (a := eFz (eFnC F_is_ratio_row [false, false] (aCons (eCall bLen (aCons (eVar 0) aNil)) (aCons (eVar 2) aNil)))) (vs := [2]) (fun p : List Rat × D => p.2) (fun p => .bool true) rs [.sh dr, .sh db, .un] (fun p hp => by
      have hr := E.row p.1 (by rw [← h1]; exact List.mem_map_of_mem hp)
      have e := ev_rowR (h2 p hp) hr.2 (by decide) hr.1 (by have := E.n4; omega)
      simp [z_callR, e, le]) (by rw [h1l]; have := E.n4; omega)
  have al : allB (rs.map fun p => .bool true) = some (rs.map fun _ => true) := by
    have := allB_map (rs.map fun p => (p.2, true))
    rw [List.map_map, List.map_map] at this
    exact this
  have al2 : (rs.all fun _ => true) = true := List.all_eq_true.mpr fun _ _ => rfl
  have e2 := ev_rowR E.right E.sb (by decide) E.lb (by have := E.n4; omega)
  have n1 : (1 : Int) ≤ n := by have := E.n0; omega
  have n2 : (n : Int) ≤ 20 := by have := E.n4; omega
  simp [F_want_equations, m_want_equations, h3.is, h3.seq, le, z_callR, c, al, al2, e2, n1, n2, List.all_map, Function.comp_def]
end K45
set_option Elab.async false
set_option linter.all false
set_option maxRecDepth 100000
set_option maxHeartbeats 4000000
namespace K45
open PySem L2 DL
/-! ### is it a solution -/
theorem eqs_l {n : Nat} {A : List (List Rat)} {b : List Rat} (n0 : 1 ≤ n) (n4 : n ≤ 4) (la : A.length = n) (lb : b.length = n) (row : ∀ r ∈ A, r.length = n ∧ SzL 7 r) (sb : SzL 7 b) : Eqs n A b (mD A) (lD b) :=
  ⟨n0, n4, la, lb, row, sb, ⟨A.map fun r => (r, lD r), by rw [List.map_map]; exact List.map_id A, fun p hp => by
    obtain ⟨r, _, rfl⟩ := List.mem_map.mp hp
    exact .l, by rw [List.map_map]; exact .l⟩, .l⟩
theorem eqs_t {n : Nat} {A : List (List Rat)} {b : List Rat} (n0 : 1 ≤ n) (n4 : n ≤ 4) (la : A.length = n) (lb : b.length = n) (row : ∀ r ∈ A, r.length = n ∧ SzL 7 r) (sb : SzL 7 b) : Eqs n A b (.tuple (A.map tD)) (tD b) :=
  ⟨n0, n4, la, lb, row, sb, ⟨A.map fun r => (r, tD r), by rw [List.map_map]; exact List.map_id A, fun p hp => by
    obtain ⟨r, _, rfl⟩ := List.mem_map.mp hp
    exact .t, by rw [List.map_map]; exact .t⟩, .t⟩
theorem allB_mapb {α : Type} (xs : List α) (f : α → Bool) : allB (xs.map fun p => .bool (f p)) = some (xs.map f) := by
  induction xs with
  | nil => rfl
  | cons x xs ih => rw [List.map_cons, z_allB1, ih]; rfl
theorem all_map_id {α : Type} (xs : List α) (f : α → Bool) : (xs.map f).all id = xs.all f := by
  rw [List.all_map]
  rfl
structure Par (n : Nat) (A : List (List Rat)) (b : List Rat) : Prop where
  n0 : 1 ≤ n
  n4 : n ≤ 4
  la : A.length = n
  lb : b.length = n
  row : ∀ r ∈ A, r.length = n ∧ SzL 7 r
  sb : SzL 7 b
theorem Par.eqs {n : Nat} {A : List (List Rat)} {b : List Rat} (P : Par n A b) : Eqs n A b (mD A) (lD b) := eqs_l P.n0 P.n4 P.la P.lb P.row P.sb
theorem isol_no {n : Nat} {A : List (List Rat)} {b : List Rat} (P : Par n A b) {v : D} (hv : isT .tuple v = false) :
    F_is_solution [.sh (mD A), .sh (lD b), .sh v] = .ok (.sh (.bool false)) [.sh (mD A), .sh (lD b), .sh v] := by
  simp [F_is_solution, m_is_solution, ev_want P.eqs, z_callR, hv]
theorem isol_els {n : Nat} {A : List (List Rat)} {b : List Rat} (P : Par n A b) {xs : List (D × Bool)} (hx : Els xs) (hl : xs.length ≤ 1000) (hf : (decide ((xs.length : Int) = n) && xs.all (·.2)) = false) :
    F_is_solution [.sh (mD A), .sh (lD b), .sh (.tuple (xs.map (·.1)))] = .ok (.sh (.bool false)) [.sh (mD A), .sh (lD b), .sh (.tuple (xs.map (·.1)))] := by
  have h2 : isT .tuple (.tuple (xs.map (·.1))) = true := rfl
  have e := ev_row (n : Int) (Seq2.t (xs := xs.map (·.1))) hx hl
  rw [hf] at e
  simp [F_is_solution, m_is_solution, ev_want P.eqs, z_callR, h2, P.la, e]
theorem isol_vec {n : Nat} {A : List (List Rat)} {b : List Rat} (P : Par n A b) {v : List Rat} {m : Nat} (hv : SzL m v) (hm : m ≤ 2000) (hl : v.length = n) :
    F_is_solution [.sh (mD A), .sh (lD b), .sh (tD v)] = .ok (.sh (.bool ((A.zip b).all fun p => decide (dotZ 0 (p.1.zip v) = p.2)))) [.sh (mD A), .sh (lD b), .sh (tD v)] := by
  have h2 : isT .tuple (tD v) = true := rfl
  have e := ev_rowR (Seq2.t (xs := v.map rD)) hv (by omega) hl (by have := P.n4; omega)
  have c := lcL_map (g := gTupF (gsCons (gSet 3) (gsCons (gSet 4) gsNil))) (ts := tYesF) (a := eOp2 dEq (eFz (eFnC F_sum_of_products [false, false] (aCons (eVar 3) (aCons (eVar 2) aNil)))) (eVar 4)) (vs := [3, 4])
    (fun p : List Rat × Rat => .tuple [lD p.1, rD p.2]) (fun p => .bool (decide (dotZ 0 (p.1.zip v) = p.2))) (A.zip b) [.sh (mD A), .sh (lD b), .sh (tD v), .un, .un] (fun p hp => by
      have hr := (P.row _ (List.of_mem_zip hp).1).2
      have e1 := ev_sums hr hv (by have := P.n4; omega) (by omega)
      simp [z_callR, e1]) (by rw [List.length_zip, P.la]; have := P.n4; omega)
  simp [F_is_solution, m_is_solution, ev_want P.eqs, z_callR, h2, P.la, e, zipD_map, c, allB_mapb, all_map_id, List.all_map, Function.comp_def]
theorem lsol_no {m : List (List Rat)} {v : D} (hv : isT .tuple v = false) :
    F__law_is_solution [.sh (mD m), .sh v] = .ok (.sh (.bool false)) [.sh (mD m), .sh v] := by
  simp [F__law_is_solution, m__law_is_solution, z_callR, hv]
theorem lsol_els {m : List (List Rat)} {xs : List (D × Bool)} (hx : Els xs) (hl : xs.length ≤ 1000) (hf : (decide ((xs.length : Int) = m.length) && xs.all (·.2)) = false) :
    F__law_is_solution [.sh (mD m), .sh (.tuple (xs.map (·.1)))] = .ok (.sh (.bool false)) [.sh (mD m), .sh (.tuple (xs.map (·.1)))] := by
  have h2 : isT .tuple (.tuple (xs.map (·.1))) = true := rfl
  have c := lcL_map (g := gSet 3) (ts := tYesF) (a := eFz (eFnC F__law_is_ratio [false] (aCons (eVar 3) aNil))) (vs := [3]) (fun p : D × Bool => p.1) (fun p => .bool p.2) xs [.sh (mD m), .sh (.tuple (xs.map (·.1))), .un, .un] (fun p hp => by
      have e := (hx p hp).l
      simp [z_callR, e]) (by omega)
  by_cases h : (xs.length : Int) = m.length
  · have hf' : xs.all (·.2) = false := by simpa [h] using hf
    simp [F__law_is_solution, m__law_is_solution, z_callR, h2, h, c, allB_map, all_map_id, List.all_map, Function.comp_def, hf']
  · simp [F__law_is_solution, m__law_is_solution, z_callR, h2, h]
theorem lsol_vec {m : List (List Rat)} {v : List Rat} {n k : Nat} (hr : ∀ r ∈ m, SzL 7 r ∧ r ≠ []) (hv : SzL k v) (hk : k ≤ 2000) (hl : v.length = m.length) (h4 : v.length ≤ 4) :
    F__law_is_solution [.sh (mD m), .sh (tD v)] = .ok (.sh (.bool (m.all fun r => decide (dotZ 0 (r.zip v) = r.getLastD 0)))) [.sh (mD m), .sh (tD v)] := by
  have h2 : isT .tuple (tD v) = true := rfl
  have hl' : (v.length : Int) = m.length := by omega
  have c := lcL_map (g := gSet 3) (ts := tYesF) (a := eFz (eFnC F__law_is_ratio [false] (aCons (eVar 3) aNil))) (vs := [3]) rD (fun p => .bool true) v [.sh (mD m), .sh (tD v), .un, .un] (fun p hp => by
      have e := (el_rat (hv p hp) (by omega)).l
      simp [z_callR, e]) (by omega)
  have c2 := lcL_map (g := gSet 2) (ts := tYesF) (a := eOp2 dEq (eFz (eFnC F__law_sums [false, false] (aCons (eVar 2) (aCons (eVar 1) aNil)))) (eOp2 dIx (eVar 2) (eOp1 dNeg (eC (.int 1))))) (vs := [2]) lD (fun r => .bool (decide (dotZ 0 (r.zip v) = r.getLastD 0))) m [.sh (mD m), .sh (tD v), .un, .un] (fun r hr' => by
      obtain ⟨s, ne⟩ := hr r hr'
      have e := ev_lsums s hv h4 (by omega)
      have i := ix_last (f := rD) (xs := r) (x := r.getLastD 0) (by cases r with
        | nil => exact absurd rfl ne
        | cons a t => simp [List.getLastD_eq_getLast?, List.getLast?_cons])
      simp [z_callR, e, i]) (by omega)
  have al2 : (v.all fun _ => true) = true := List.all_eq_true.mpr fun _ _ => rfl
  simp [F__law_is_solution, m__law_is_solution, z_callR, h2, hl', c, c2, allB_mapb, all_map_id, List.all_map, Function.comp_def, al2]
end K45
set_option Elab.async false
set_option linter.all false
set_option maxRecDepth 100000
set_option maxHeartbeats 4000000
namespace K45
open PySem L2 DL
theorem inv_eq {q : Rat} (h : q ≠ 0) : q⁻¹ = Rat.divInt q.den q.num := by
  rw [Rat.inv_def]
theorem Sz.inv {n : Nat} {q : Rat} (h : q ≠ 0) (hq : Sz n q) : Sz n q⁻¹ := by
  rw [inv_eq h]
  exact sz_divInt (fun z => h (Rat.num_eq_zero.mp z)) (by simpa using hq.den) hq.num
theorem cutD_to {l : List D} {n : Nat} : cutD l none (some (n : Int)) = l.take n := by
  unfold cutD
  rw [HT.sIx_nat]
  show (l.drop 0).take (min n l.length - 0) = _
  rw [List.drop_zero, Nat.sub_zero]
  rcases Nat.le_total n l.length with h | h
  · rw [Nat.min_eq_left h]
  · rw [Nat.min_eq_right h, List.take_of_length_le (Nat.le_refl _), List.take_of_length_le h]
theorem cutD_from {l : List D} {n : Nat} : cutD l (some (n : Int)) none = l.drop n := by
  unfold cutD
  rw [HT.sIx_nat]
  show (l.drop (min n l.length)).take (l.length - min n l.length) = _
  rw [List.take_of_length_le (by rw [List.length_drop]; exact Nat.le_refl _)]
  rcases Nat.le_total n l.length with h | h
  · rw [Nat.min_eq_left h]
  · rw [Nat.min_eq_right h, List.drop_of_length_le (Nat.le_refl _), List.drop_of_length_le h]
theorem cutD_last {l : List D} : cutD l none (some (-1)) = l.dropLast := by
  unfold cutD
  show (l.drop 0).take ((if (-1 : Int) < 0 then ((-1 : Int) + (l.length : Int)).toNat else min (-1 : Int).toNat l.length) - 0) = _
  rw [List.drop_zero, if_pos (by omega), List.dropLast_eq_take]
  congr 1
  omega
/-! ### one place freed -/
def Wid (n : Nat) (m : List (List Rat)) : Prop := ∀ r ∈ m, r.length = n + 1
def SzM (k : Nat) (m : List (List Rat)) : Prop := ∀ r ∈ m, SzL k r
def headOf (r : List Rat) (q : Rat) : List Rat := r.map fun x => x * q⁻¹
def frd (k : Nat) (h r : List Rat) : List Rat := freed r h (r.getD k 0)
def some_ (k : Nat) (left : List (List Rat)) : List Nat := (left.zipIdx 0).filterMap fun p => if p.1.getD k 0 = 0 then none else some p.2
theorem getD_ix {r : List Rat} {k : Nat} (h : k < r.length) : r[k]? = some (r.getD k 0) := by
  rw [List.getD_eq_getElem?_getD, List.getElem?_eq_getElem h]
  rfl
noncomputable abbrev bodyS : Sf := (sSeq (sSet 5 (eLc (iEnumF (aCons (eVar 2) aNil)) (gTupF (gsCons (gSet 9) (gsCons (gSet 8) gsNil))) (tOf (eOp2 dNe (eOp2 dIx (eOp2 dIx (eVar 8) (eVar 4)) (eC (.int 0))) (eC (.int 0)))) (eVar 9) [9, 8])) (sSeq (sIf (tOf (eOp2 dEq (eVar 5) (eFz (eLst aNil)))) (sRet (eR (eC .none))) sNil) (sSeq (sPar 6 2 (eR (eOp2 dIx (eVar 2) (eOp2 dIx (eVar 5) (eC (.int 0))))) (eCat (eCut (eVar 2) oNone (oSome (eOp2 dIx (eVar 5) (eC (.int 0))))) (eCut (eVar 2) (oSome (eOp2 dAdd (eOp2 dIx (eVar 5) (eC (.int 0))) (eC (.int 1)))) oNone))) (sSeq (sSet 7 (eR (eTup (aCons (eOp2 dIx (eOp2 dIx (eVar 6) (eVar 4)) (eC (.int 1))) (aCons (eOp2 dIx (eOp2 dIx (eVar 6) (eVar 4)) (eC (.int 0))) aNil))))) (sSeq (sSet 6 (eLc (iSeq (eVar 6)) (gSet 10) tYesF (eFz (eFnC F__law_times [false, false] (aCons (eVar 10) (aCons (eFz (eFnC F__law_made [false, false] (aCons (eOp2 dIx (eVar 7) (eC (.int 0))) (aCons (eOp2 dIx (eVar 7) (eC (.int 1))) aNil)))) aNil)))) [10])) (sSeq (sSet 2 (eLc (iSeq (eVar 2)) (gSet 8) tYesF (eFz (eFnC F__law_freed [false, false, false] (aCons (eVar 8) (aCons (eVar 6) (aCons (eVar 4) aNil))))) [8])) (sSet 3 (eCat (eLc (iSeq (eVar 3)) (gSet 8) tYesF (eFz (eFnC F__law_freed [false, false, false] (aCons (eVar 8) (aCons (eVar 6) (aCons (eVar 4) aNil))))) [8]) (eLst (aCons (eVar 6) aNil))))))))))
theorem c_some {k : Nat} {left : List (List Rat)} (hw : ∀ r ∈ left, k < r.length) (hl : left.length ≤ 1000) (x0 x1 x2 x3 x5 x6 x7 : Sl) :
    lcL (gTupF (gsCons (gSet 9) (gsCons (gSet 8) gsNil))) (tOf (eOp2 dNe (eOp2 dIx (eOp2 dIx (eVar 8) (eVar 4)) (eC (.int 0))) (eC (.int 0)))) (eVar 9) [9, 8] (enumFrom 0 (left.map lD)) [x0, x1, x2, x3, .sh (.int k), x5, x6, x7, .un, .un, .un] []
      = .ok ((some_ k left).map fun (i : Nat) => PyData.int (i : Int)) [x0, x1, x2, x3, .sh (.int k), x5, x6, x7, .un, .un, .un] := by
  rw [enum_map]
  obtain ⟨e', h, q⟩ := lcL_walk (g := gTupF (gsCons (gSet 9) (gsCons (gSet 8) gsNil))) (ts := tOf (eOp2 dNe (eOp2 dIx (eOp2 dIx (eVar 8) (eVar 4)) (eC (.int 0))) (eC (.int 0)))) (a := eVar 9) (vs := [9, 8])
    (fun z => z = [x0, x1, x2, x3, .sh (.int k), x5, x6, x7, .un, .un, .un]) (fun p : List Rat × Nat => .tuple [.int (p.2 : Int), lD p.1]) (fun p => (if p.1.getD k 0 = 0 then none else some p.2).map fun (i : Nat) => PyData.int (i : Int)) (left.zipIdx 0) _ [] rfl (fun p hp z hz => by
      subst hz
      have hm : p.1 ∈ left := List.fst_mem_of_mem_zipIdx hp
      have i := ix_map (f := rD) (getD_ix (hw _ hm))
      by_cases h0 : p.1.getD k 0 = 0
      · have n0 : (p.1.getD k 0).num = 0 := by rw [h0]; rfl
        rw [if_pos h0]
        simp [i, n0, -List.getD_eq_getElem?_getD]
      · have n0 : ¬ (p.1.getD k 0).num = 0 := fun z => h0 (Rat.num_eq_zero.mp z)
        rw [if_neg h0]
        simp [i, n0, -List.getD_eq_getElem?_getD]) (by rw [List.length_zipIdx]; simp; omega)
  subst h
  rw [q]
  unfold some_
  rw [List.nil_append, List.map_filterMap]
/-- freed rows, the head at hand -/
theorem c_freed {k m n : Nat} {h : List Rat} {rows : List (List Rat)} (hw : ∀ r ∈ rows, k < r.length ∧ r.length ≤ 1000) (hr : SzM m rows) (hh : SzL n h) (hn : m + (m + n) ≤ 8900) (hl : rows.length ≤ 1000) (x0 x1 x2 x3 x5 x7 : Sl) (x6 : Sl) (h6 : x6 = .own (.ls (h.map rD)) ∨ x6 = .sh (lD h)) :
    ∃ y6, (y6 = .own (.ls (h.map rD)) ∨ y6 = .sh (lD h)) ∧ lcL (gSet 8) tYesF (eFz (eFnC F__law_freed [false, false, false] (aCons (eVar 8) (aCons (eVar 6) (aCons (eVar 4) aNil))))) [8] (rows.map lD) [x0, x1, x2, x3, .sh (.int k), x5, x6, x7, .un, .un, .un] []
      = .ok ((rows.map (frd k h)).map lD) [x0, x1, x2, x3, .sh (.int k), x5, y6, x7, .un, .un, .un] := by
  obtain ⟨e', ⟨y6, hy, rfl⟩, q⟩ := lcL_walk (g := gSet 8) (ts := tYesF) (a := eFz (eFnC F__law_freed [false, false, false] (aCons (eVar 8) (aCons (eVar 6) (aCons (eVar 4) aNil))))) (vs := [8])
    (fun z => ∃ y6, (y6 = .own (.ls (h.map rD)) ∨ y6 = .sh (lD h)) ∧ z = [x0, x1, x2, x3, .sh (.int k), x5, y6, x7, .un, .un, .un]) lD (fun r => some (lD (frd k h r))) rows _ [] ⟨x6, h6, rfl⟩ (fun r hm z ⟨y6, hy, hz⟩ => by
      subst hz
      obtain ⟨w1, w2⟩ := hw r hm
      have e := ev_freed (getD_ix w1) (hr r hm) hh hn w2
      refine ⟨[x0, x1, x2, x3, .sh (.int k), x5, .sh (lD h), x7, .sh (lD r), .un, .un], ?_, .sh (lD h), .inr rfl, rfl⟩
      rcases hy with rfl | rfl <;> simp [z_callR, e, frd, -List.getD_eq_getElem?_getD]) (by simp; omega)
  refine ⟨y6, hy, ?_⟩
  rw [q, filterMap_some, List.map_map]
  rfl
theorem c_head {q : Rat} {r : List Rat} {m : Nat} (h0 : q ≠ 0) (hr : SzL m r) (hq : Sz m q) (hm : m ≤ 4000) (hl : r.length ≤ 1000) (x0 x1 x2 x3 x4 x5 x6 : Sl) :
    lcL (gSet 10) tYesF (eFz (eFnC F__law_times [false, false] (aCons (eVar 10) (aCons (eFz (eFnC F__law_made [false, false] (aCons (eOp2 dIx (eVar 7) (eC (.int 0))) (aCons (eOp2 dIx (eVar 7) (eC (.int 1))) aNil)))) aNil)))) [10] (r.map rD) [x0, x1, x2, x3, x4, x5, x6, .sh (.tuple [.int q.den, .int q.num]), .un, .un, .un] []
      = .ok ((headOf r q).map rD) [x0, x1, x2, x3, x4, x5, x6, .sh (.tuple [.int q.den, .int q.num]), .un, .un, .un] := by
  have e1 := ev_lmade (a := (q.den : Int)) (b := q.num) (fun z => h0 (Rat.num_eq_zero.mp z)) hq.num (by omega)
  rw [← inv_eq h0] at e1
  have c := lcL_map (g := gSet 10) (ts := tYesF) (a := eFz (eFnC F__law_times [false, false] (aCons (eVar 10) (aCons (eFz (eFnC F__law_made [false, false] (aCons (eOp2 dIx (eVar 7) (eC (.int 0))) (aCons (eOp2 dIx (eVar 7) (eC (.int 1))) aNil)))) aNil)))) (vs := [10]) rD (fun x => rD (x * q⁻¹)) r
    [x0, x1, x2, x3, x4, x5, x6, .sh (.tuple [.int q.den, .int q.num]), .un, .un, .un] (fun x hx => by
      have e2 := ev_ltimes (hr x hx) (Sz.inv h0 hq) (by omega)
      simp [z_callR, e1, e2]) (by omega)
  rw [c, headOf, List.map_map]
  rfl
end K45
set_option Elab.async false
set_option linter.all false
set_option maxRecDepth 100000
set_option maxHeartbeats 4000000
namespace K45
open PySem L2 DL
def Jk (x4 x5 x6 x7 : Sl) : Prop := (x4 = .un ∧ x5 = .un ∧ x6 = .un ∧ x7 = .un) ∨ ∃ a b c d, x4 = .sh a ∧ x5 = .own (.ls b) ∧ x6 = .sh c ∧ x7 = .sh d
theorem shp_ints (S : List Nat) : ∀ d ∈ S.map (fun (i : Nat) => (PyData.int (i : Int) : D)), Shp 0 d := fun d hd => by
  obtain ⟨i, _, rfl⟩ := List.mem_map.mp hd
  exact .int _
theorem step_none {k n : Nat} {R N : D} {left heads : List (List Rat)} (hw : ∀ r ∈ left, k < r.length) (hl : left.length ≤ 1000) (hS : some_ k left = []) {x4 x5 x6 x7 : Sl} (J : Jk x4 x5 x6 x7) :
    ∃ s e', for1 (gSet 4) bodyS (.int (k : Int)) [.sh R, .sh N, .own (.ls (left.map lD)), .own (.ls (heads.map lD)), x4, x5, x6, x7, .un, .un, .un] = .ok (.rt (.sh .none)) (s :: e') := by
  have c1 := c_some (k := k) hw hl (.sh R) (.sh N) (.sh (mD left)) (.own (.ls (heads.map lD)))
  rw [hS] at c1
  have e0 := eq_nil (shp_ints []) (by decide : 0 < 64)
  rcases J with ⟨rfl, rfl, rfl, rfl⟩ | ⟨a, b, c, d, rfl, rfl, rfl, rfl⟩
  · have c1' := c1 .un .un .un
    exact ⟨_, _, by simp [c1', e0]; rfl⟩
  · have c1' := c1 (.own (.ls b)) (.sh c) (.sh d)
    exact ⟨_, _, by simp [c1', e0]; rfl⟩
theorem step_some {k n m w : Nat} {R N : D} {left heads : List (List Rat)} (hw : ∀ r ∈ left, k < r.length ∧ r.length ≤ 1000) (hw2 : ∀ r ∈ heads, k < r.length ∧ r.length ≤ 1000) (hl : left.length ≤ 100) (hl2 : heads.length ≤ 100)
    (hs : SzM m left) (hs2 : SzM m heads) (hm : m ≤ 2000) {i : Nat} {S : List Nat} (hS : some_ k left = i :: S) {r : List Rat} (hi : left[i]? = some r) (hq : r.getD k 0 ≠ 0) {x4 x5 x6 x7 : Sl} (J : Jk x4 x5 x6 x7) :
    ∃ y4 y5 y6 y7, Jk y4 y5 y6 y7 ∧ for1 (gSet 4) bodyS (.int (k : Int)) [.sh R, .sh N, .own (.ls (left.map lD)), .own (.ls (heads.map lD)), x4, x5, x6, x7, .un, .un, .un]
      = .ok .nx [.sh R, .sh N, .own (.ls (((left.take i ++ left.drop (i + 1)).map (frd k (headOf r (r.getD k 0)))).map lD)), .own (.ls ((heads.map (frd k (headOf r (r.getD k 0))) ++ [headOf r (r.getD k 0)]).map lD)), y4, y5, y6, y7, .un, .un, .un] := by
  have hr : r ∈ left := List.mem_of_getElem? hi
  obtain ⟨r1, r2⟩ := hw r hr
  generalize hqq : r.getD k 0 = q at hq
  have sr := hs r hr
  have sq : Sz m q := by rw [← hqq]; exact sr _ (by rw [List.getD_eq_getElem?_getD, List.getElem?_eq_getElem r1]; exact List.getElem_mem _)
  have iq : r[k]? = some q := by rw [← hqq]; exact getD_ix r1
  have i1 := ix_map (f := lD) hi
  have i2 := ix_map (f := rD) iq
  have hin : i < left.length := (List.getElem?_eq_some_iff.mp hi).1
  have ne := eq_nil (shp_ints (i :: S)) (by decide : 0 < 64)
  obtain ⟨L', hL'⟩ : ∃ L', L' = left.take i ++ left.drop (i + 1) := ⟨_, rfl⟩
  have mem : ∀ x ∈ L', x ∈ left := fun x hx => by
    rw [hL'] at hx
    rcases List.mem_append.mp hx with h | h
    · exact List.mem_of_mem_take h
    · exact List.mem_of_mem_drop h
  have lenL : L'.length ≤ 100 := by
    rw [hL', List.length_append, List.length_take, List.length_drop]
    omega
  obtain ⟨X, hX⟩ : ∃ X, X = (left.take i).map lD := ⟨_, rfl⟩
  obtain ⟨Y, hY⟩ : ∃ Y, Y = (left.drop (i + 1)).map lD := ⟨_, rfl⟩
  have cut1 : cutD (left.map lD) none (some (i : Int)) = X := by rw [cutD_to, hX, List.map_take]
  have cut2 : cutD (left.map lD) (some ((i : Int) + 1)) none = Y := by
    have := cutD_from (l := left.map lD) (n := i + 1)
    rw [hY, List.map_drop]
    exact this
  have hXY : X ++ Y = L'.map lD := by rw [hX, hY, hL', List.map_append]
  have lenXY : X.length + Y.length ≤ 1000000 := by
    rw [← List.length_append, hXY, List.length_map]
    omega
  have c1 := c_some (k := k) (fun r h => (hw r h).1) (by omega : left.length ≤ 1000) (.sh R) (.sh N) (.sh (mD left)) (.own (.ls (heads.map lD)))
  rw [hS] at c1
  have c2 := c_head hq sr sq (by omega) r2 (.sh R) (.sh N) (.own (.ls (L'.map lD))) (.own (.ls (heads.map lD))) (.sh (.int k)) (.own (.ls ((i :: S).map fun (i : Nat) => PyData.int (i : Int)))) (.sh (lD r))
  have sh : SzL (m + m) (headOf r q) := fun x hx => by
    obtain ⟨y, hy, rfl⟩ := List.mem_map.mp hx
    exact (sr y hy).mul (Sz.inv hq sq)
  obtain ⟨y6, hy6, c3⟩ := c_freed (k := k) (h := headOf r q) (rows := L') (fun x hx => hw x (mem x hx)) (fun x hx => hs x (mem x hx)) sh (by omega) (by omega) (.sh R) (.sh N) (.sh (mD L')) (.own (.ls (heads.map lD))) (.own (.ls ((i :: S).map fun (i : Nat) => PyData.int (i : Int)))) (.sh (.tuple [.int q.den, .int q.num])) (.own (.ls ((headOf r q).map rD))) (.inl rfl)
  obtain ⟨z6, hz6, c4⟩ := c_freed (k := k) (h := headOf r q) (rows := heads) hw2 hs2 sh (by omega) (by omega) (.sh R) (.sh N) (.own (.ls ((L'.map (frd k (headOf r q))).map lD))) (.sh (mD heads)) (.own (.ls ((i :: S).map fun (i : Nat) => PyData.int (i : Int)))) (.sh (.tuple [.int q.den, .int q.num])) y6 hy6
  have lenH : (heads.map (frd k (headOf r q))).length + 1 ≤ 1000000 := by rw [List.length_map]; omega
  obtain ⟨Z, hZ⟩ : ∃ Z, Z = (heads.map (frd k (headOf r q))).map lD := ⟨_, rfl⟩
  rw [← hZ] at c4
  have lenZ : Z.length + 1 ≤ 1000000 := by rw [hZ, List.length_map]; exact lenH
  refine ⟨.sh (.int k), .own (.ls ((i :: S).map fun (i : Nat) => PyData.int (i : Int))), .sh (lD (headOf r q)), .sh (.tuple [.int q.den, .int q.num]), .inr ⟨_, _, _, _, rfl, rfl, rfl, rfl⟩, ?_⟩
  rw [List.map_append (l₁ := heads.map _), ← hZ, ← hL']
  simp only [List.map_cons] at c1 c2 c3 c4 ne
  rcases J with ⟨rfl, rfl, rfl, rfl⟩ | ⟨a, b, c, d, rfl, rfl, rfl, rfl⟩
  · have c1' := c1 .un .un .un
    clear c1
    rcases hz6 with rfl | rfl <;> rcases hy6 with rfl | rfl <;> simp [c1', c2, c3, c4, ne, i1, i2, cut1, cut2, hXY, lenXY, lenZ, -List.map_append, -List.append_assoc, -List.map_map]
  · have c1' := c1 (.own (.ls b)) (.sh c) (.sh d)
    clear c1
    rcases hz6 with rfl | rfl <;> rcases hy6 with rfl | rfl <;> simp [c1', c2, c3, c4, ne, i1, i2, cut1, cut2, hXY, lenXY, lenZ, -List.map_append, -List.append_assoc, -List.map_map]
end K45
set_option Elab.async false
set_option linter.all false
set_option maxRecDepth 100000
set_option maxHeartbeats 4000000
namespace K45
open PySem L2 DL
theorem some_nil {k : Nat} {l : List (List Rat)} (h : some_ k l = []) : ∀ r ∈ l, r.getD k 0 = 0 := fun r hr => by
  obtain ⟨i, hi⟩ := List.getElem?_of_mem hr
  have hm : (r, i) ∈ l.zipIdx 0 := List.mk_mem_zipIdx_iff_getElem?.mpr hi
  have := List.filterMap_eq_nil_iff.mp h (r, i) hm
  dsimp only at this
  split at this
  · assumption
  · cases this
theorem some_cons {k i : Nat} {S : List Nat} {l : List (List Rat)} (h : some_ k l = i :: S) : ∃ r, l[i]? = some r ∧ r.getD k 0 ≠ 0 := by
  have hm : i ∈ some_ k l := by rw [h]; exact List.mem_cons_self ..
  obtain ⟨⟨r, j⟩, h1, h2⟩ := List.mem_filterMap.mp hm
  dsimp only at h2
  split at h2
  · cases h2
  · rename_i z
    cases h2
    exact ⟨r, List.mk_mem_zipIdx_iff_getElem?.mp h1, z⟩
def gj : List Nat → List (List Rat) → List (List Rat) → Option (List (List Rat) × List (List Rat))
  | [], l, h => some (l, h)
  | k :: ks, l, h => match some_ k l with
    | [] => none
    | i :: _ => gj ks ((l.take i ++ l.drop (i + 1)).map (frd k (headOf (l.getD i []) ((l.getD i []).getD k 0)))) (h.map (frd k (headOf (l.getD i []) ((l.getD i []).getD k 0))) ++ [headOf (l.getD i []) ((l.getD i []).getD k 0)])
def up4 : Nat → Nat → Nat
  | 0, m => m
  | k + 1, m => up4 k (4 * m + 1)
theorem up4_le : ∀ (k m : Nat), m ≤ up4 k m
  | 0, m => Nat.le_refl _
  | k + 1, m => Nat.le_trans (by omega) (up4_le k (4 * m + 1))
theorem headOf_len (r : List Rat) (q : Rat) : (headOf r q).length = r.length := List.length_map ..
theorem frd_len {k : Nat} {h r : List Rat} (e : h.length = r.length) : (frd k h r).length = r.length := by
  unfold frd freed
  rw [List.length_map, List.length_zip, e, Nat.min_self]
theorem headOf_sz {m : Nat} {r : List Rat} {q : Rat} (hr : SzL m r) (hq : Sz m q) (h0 : q ≠ 0) : SzL (m + m) (headOf r q) := fun x hx => by
  obtain ⟨y, hy, rfl⟩ := List.mem_map.mp hx
  exact (hr y hy).mul (Sz.inv h0 hq)
/-- what one step keeps -/
structure Sh (n m c : Nat) (l h : List (List Rat)) : Prop where
  wl : Wid n l
  wh : Wid n h
  sl : SzM m l
  sh : SzM m h
  len : l.length + h.length = c
theorem Sh.step {n m c k i : Nat} {l h : List (List Rat)} (s : Sh n m c l h) {r : List Rat} (hi : l[i]? = some r) (h0 : r.getD k 0 ≠ 0) (hk : k < n + 1) :
    Sh n (4 * m + 1) c ((l.take i ++ l.drop (i + 1)).map (frd k (headOf r (r.getD k 0)))) (h.map (frd k (headOf r (r.getD k 0))) ++ [headOf r (r.getD k 0)]) ∧
    ((l.take i ++ l.drop (i + 1)).map (frd k (headOf r (r.getD k 0)))).length + 1 = l.length := by
  have hr : r ∈ l := List.mem_of_getElem? hi
  have lr := s.wl r hr
  have hin : i < l.length := (List.getElem?_eq_some_iff.mp hi).1
  have lh : (headOf r (r.getD k 0)).length = n + 1 := by rw [headOf_len, lr]
  have mem : ∀ x ∈ l.take i ++ l.drop (i + 1), x ∈ l := fun x hx => by
    rcases List.mem_append.mp hx with h | h
    · exact List.mem_of_mem_take h
    · exact List.mem_of_mem_drop h
  have len : (l.take i ++ l.drop (i + 1)).length + 1 = l.length := by
    rw [List.length_append, List.length_take, List.length_drop]
    omega
  have szq : ∀ x : List Rat, x.length = n + 1 → SzL m x → Sz m (x.getD k 0) := fun x e z => z _ (List.mem_of_getElem? (getD_ix (by omega)))
  have sh := headOf_sz (s.sl r hr) (szq r lr (s.sl r hr)) h0
  have sf : ∀ x : List Rat, x.length = n + 1 → SzL m x → SzL (4 * m + 1) (frd k (headOf r (r.getD k 0)) x) := fun x e z => (freed_sz z sh (szq x e z)).up (by omega)
  refine ⟨⟨fun x hx => ?_, fun x hx => ?_, fun x hx => ?_, fun x hx => ?_, ?_⟩, by rw [List.length_map]; exact len⟩
  · obtain ⟨y, hy, rfl⟩ := List.mem_map.mp hx
    have := s.wl y (mem y hy)
    rw [frd_len (by omega), this]
  · rcases List.mem_append.mp hx with hx | hx
    · obtain ⟨y, hy, rfl⟩ := List.mem_map.mp hx
      have := s.wh y hy
      rw [frd_len (by omega), this]
    · rw [List.mem_singleton.mp hx]
      exact lh
  · obtain ⟨y, hy, rfl⟩ := List.mem_map.mp hx
    exact sf y (s.wl y (mem y hy)) (s.sl y (mem y hy))
  · rcases List.mem_append.mp hx with hx | hx
    · obtain ⟨y, hy, rfl⟩ := List.mem_map.mp hx
      exact sf y (s.wh y hy) (s.sh y hy)
    · rw [List.mem_singleton.mp hx]
      exact sh.up (by omega)
  · simp only [List.length_map, List.length_append, List.length_singleton] at len ⊢
    have := s.len
    omega
theorem gj_loop {n : Nat} (hn : n ≤ 50) (R N : D) : ∀ (ks : List Nat) (m : Nat) (l h : List (List Rat)) (x4 x5 x6 x7 : Sl), (∀ k ∈ ks, k < n + 1) → Sh n m n l h → up4 ks.length m ≤ 2000 → Jk x4 x5 x6 x7 →
    (gj ks l h = none ∧ ∃ s e', forL (gSet 4) bodyS (ks.map fun (k : Nat) => PyData.int (k : Int)) [.sh R, .sh N, .own (.ls (l.map lD)), .own (.ls (h.map lD)), x4, x5, x6, x7, .un, .un, .un] = .ok (.rt (.sh .none)) (s :: e')) ∨
    ∃ l' h' y4 y5 y6 y7, gj ks l h = some (l', h') ∧ Sh n (up4 ks.length m) n l' h' ∧ l'.length + ks.length = l.length ∧
      forL (gSet 4) bodyS (ks.map fun (k : Nat) => PyData.int (k : Int)) [.sh R, .sh N, .own (.ls (l.map lD)), .own (.ls (h.map lD)), x4, x5, x6, x7, .un, .un, .un] = .ok .nx [.sh R, .sh N, .own (.ls (l'.map lD)), .own (.ls (h'.map lD)), y4, y5, y6, y7, .un, .un, .un]
  | [], m, l, h, x4, x5, x6, x7, _, s, _, _ => .inr ⟨l, h, x4, x5, x6, x7, rfl, s, rfl, rfl⟩
  | k :: ks, m, l, h, x4, x5, x6, x7, hk, s, hm, J => by
    have hk0 := hk k (List.mem_cons_self ..)
    have sl := s.len
    have m4 : 4 * m + 1 ≤ 2000 := Nat.le_trans (up4_le ks.length (4 * m + 1)) hm
    cases hS : some_ k l with
    | nil =>
      obtain ⟨z, e', q⟩ := step_none (n := 0) (R := R) (N := N) (heads := h) (fun r hr => by rw [s.wl r hr]; exact hk0) (by omega) hS J
      refine .inl ⟨by rw [gj, hS], z, e', ?_⟩
      rw [List.map_cons]
      exact forL_rt q
    | cons i S =>
      obtain ⟨r, hi, h0⟩ := some_cons hS
      have eg : l.getD i [] = r := by rw [List.getD_eq_getElem?_getD, hi]; rfl
      obtain ⟨y4, y5, y6, y7, J', q⟩ := step_some (n := 0) (R := R) (N := N) (w := 0) (fun r hr => by rw [s.wl r hr]; omega) (fun r hr => by rw [s.wh r hr]; omega) (by omega) (by omega) s.sl s.sh (by omega) hS hi h0 J
      obtain ⟨s', le⟩ := s.step hi h0 hk0
      have ih := gj_loop hn R N ks (4 * m + 1) _ _ y4 y5 y6 y7 (fun z hz => hk z (List.mem_cons_of_mem _ hz)) s' hm J'
      have e : gj (k :: ks) l h = gj ks ((l.take i ++ l.drop (i + 1)).map (frd k (headOf r (r.getD k 0)))) (h.map (frd k (headOf r (r.getD k 0))) ++ [headOf r (r.getD k 0)]) := by
        rw [gj, hS]
        dsimp only
        rw [eg]
      rw [List.map_cons, forL_nx q, e]
      rcases ih with ⟨g, z, e', w⟩ | ⟨l', h', z4, z5, z6, z7, g, s2, l2, w⟩
      · exact .inl ⟨g, z, e', w⟩
      · exact .inr ⟨l', h', z4, z5, z6, z7, g, s2, by rw [List.length_cons]; omega, w⟩
theorem u4 {n : Nat} (h1 : 1 ≤ n) (h4 : n ≤ 4) : up4 n 7 ≤ 1877 := by
  obtain rfl | rfl | rfl | rfl : n = 1 ∨ n = 2 ∨ n = 3 ∨ n = 4 := by omega
  all_goals simp [up4]
theorem small_n {n : Nat} (h : n < 4611686018427387904) : small62 (n : Int) = true := by
  unfold small62
  rw [decide_eq_true_iff]
  omega
def atN (n : Nat) (r : List Rat) : Rat := r.getD n 0
def resD : Option (List (List Rat) × List (List Rat)) → Nat → D
  | none, _ => .none
  | some (_, h), n => tD (h.map (atN n))
theorem ls_none {N : Int} {L : List D} {M : List (List Rat)} {r0 : List Rat} (i0 : dIx (mD M) (.int 0) = some (lD r0)) (lm : ((r0.length : Int) - 1) = N) (sm : small62 N = true) (rg : (List.range N.toNat).map (fun (i : Nat) => (PyData.int (0 + (i : Int)) : D)) = L)
    (c0 : lcL (gSet 8) tYesF (eFz (eCallN bList (aCons (eVar 8) aNil))) [8] (M.map lD) [.sh (mD M), .un, .un, .un, .un, .un, .un, .un, .un, .un, .un] [] = .ok (M.map lD) [.sh (mD M), .un, .un, .un, .un, .un, .un, .un, .un, .un, .un]) {z : Sl} {e' : Fr}
    (w : forL (gSet 4) bodyS L [.sh (mD M), .sh (.int N), .own (.ls (M.map lD)), .own (.ls []), .un, .un, .un, .un, .un, .un, .un] = .ok (.rt (.sh .none)) (z :: e')) :
    F__law_solved [.sh (mD M)] = .ok (.sh .none) [.sh (mD M)] := by
  unfold bodyS at w
  simp only [Int.zero_add] at rg
  simp [F__law_solved, m__law_solved, i0, lm, sm, rg, c0, w]
theorem ls_some {N : Int} {L : List D} {M h' : List (List Rat)} {f : List Rat → Rat} {r0 : List Rat} (i0 : dIx (mD M) (.int 0) = some (lD r0)) (lm : ((r0.length : Int) - 1) = N) (sm : small62 N = true) (rg : (List.range N.toNat).map (fun (i : Nat) => (PyData.int (0 + (i : Int)) : D)) = L)
    (c0 : lcL (gSet 8) tYesF (eFz (eCallN bList (aCons (eVar 8) aNil))) [8] (M.map lD) [.sh (mD M), .un, .un, .un, .un, .un, .un, .un, .un, .un, .un] [] = .ok (M.map lD) [.sh (mD M), .un, .un, .un, .un, .un, .un, .un, .un, .un, .un]) {y4 y5 y6 y7 : Sl}
    (w : forL (gSet 4) bodyS L [.sh (mD M), .sh (.int N), .own (.ls (M.map lD)), .own (.ls []), .un, .un, .un, .un, .un, .un, .un] = .ok .nx [.sh (mD M), .sh (.int N), .own (.ls []), .own (.ls (h'.map lD)), y4, y5, y6, y7, .un, .un, .un])
    (e0 : dNe (.list []) (.list []) = some (.bool false))
    (c1 : lcL (gSet 8) tYesF (eOp2 dIx (eVar 8) (eVar 1)) [8] (h'.map lD) [.sh (mD M), .sh (.int N), .sh (.list []), .sh (mD h'), y4, y5, y6, y7, .un, .un, .un] [] = .ok (h'.map fun r => rD (f r)) [.sh (mD M), .sh (.int N), .sh (.list []), .sh (mD h'), y4, y5, y6, y7, .un, .un, .un]) :
    F__law_solved [.sh (mD M)] = .ok (.sh (tD (h'.map f))) [.sh (mD M)] := by
  unfold bodyS at w
  simp only [Int.zero_add] at rg
  simp [F__law_solved, m__law_solved, i0, lm, sm, rg, c0, w, e0, c1, List.map_map, Function.comp_def]
theorem ev_lsolved {n : Nat} {M : List (List Rat)} (hn : 1 ≤ n) (h4 : n ≤ 4) (hw : Wid n M) (hs : SzM 7 M) (hl : M.length = n) :
    F__law_solved [.sh (mD M)] = .ok (.sh (resD (gj (List.range n) M []) n)) [.sh (mD M)] := by
  obtain ⟨r0, hr0⟩ : ∃ r, M[0]? = some r := ⟨M[0], List.getElem?_eq_getElem (by omega)⟩
  have i0 : dIx (mD M) (.int 0) = some (lD r0) := ix_map (f := lD) hr0
  have l0 := hw r0 (List.mem_of_getElem? hr0)
  have c0 := lcL_map (g := gSet 8) (ts := tYesF) (a := eFz (eCallN bList (aCons (eVar 8) aNil))) (vs := [8]) lD lD M [.sh (mD M), .un, .un, .un, .un, .un, .un, .un, .un, .un, .un] (fun r hr => by simp) (by omega)
  have lm : ((r0.length : Int) - 1) = n := by omega
  have sm : small62 (n : Int) = true := small_n (by omega)
  have rg : (List.range n).map (fun (i : Nat) => (PyData.int (0 + (i : Int)) : D)) = (List.range n).map fun (i : Nat) => PyData.int (i : Int) := by simp
  have u : up4 (List.range n).length 7 ≤ 1877 := by
    rw [List.length_range]
    exact u4 hn h4
  have s0 : Sh n 7 n M [] := ⟨hw, (fun r hr => by cases hr), hs, (fun r hr => by cases hr), by rw [hl]; rfl⟩
  rcases gj_loop (by omega) (mD M) (.int n) (List.range n) 7 M [] .un .un .un .un (fun k hk => by have := List.mem_range.mp hk; omega) s0 (by omega) (.inl ⟨rfl, rfl, rfl, rfl⟩) with ⟨g, z, e', w⟩ | ⟨l', h', y4, y5, y6, y7, g, s', le, w⟩
  · rw [g]
    exact ls_none i0 lm sm rg c0 w
  · rw [g]
    rw [List.length_range] at le
    have l0 : l' = [] := List.eq_nil_of_length_eq_zero (by omega)
    subst l0
    have c1 := lcL_map (g := gSet 8) (ts := tYesF) (a := eOp2 dIx (eVar 8) (eVar 1)) (vs := [8]) lD (fun r => rD (atN n r)) h' [.sh (mD M), .sh (.int n), .sh (.list []), .sh (mD h'), y4, y5, y6, y7, .un, .un, .un] (fun r hr => by
      have i := ix_map (f := rD) (getD_ix (by rw [s'.wh r hr]; omega : n < r.length))
      simp [i, atN, -List.getD_eq_getElem?_getD]) (by have := s'.len; omega)
    exact ls_some i0 lm sm rg c0 w (ne_nil (shp_ints []) (by decide : 0 < 64)) c1
end K45
set_option Elab.async false
set_option linter.all false
set_option maxRecDepth 100000
set_option maxHeartbeats 4000000
namespace K45
/-! ### sums over places -/
def S : Nat → (Nat → Rat) → Rat
  | 0, _ => 0
  | n + 1, f => S n f + f n
theorem S_ext {n : Nat} {f g : Nat → Rat} (h : ∀ j, j < n → f j = g j) : S n f = S n g := by
  induction n with
  | zero => rfl
  | succ n ih =>
    show S n f + f n = S n g + g n
    rw [ih fun j hj => h j (by omega), h n (by omega)]
theorem S_zero {n : Nat} {f : Nat → Rat} (h : ∀ j, j < n → f j = 0) : S n f = 0 := by
  induction n with
  | zero => rfl
  | succ n ih =>
    show S n f + f n = 0
    rw [ih fun j hj => h j (by omega), h n (by omega)]
    grind
theorem S_add {n : Nat} {f g : Nat → Rat} : S n (fun j => f j + g j) = S n f + S n g := by
  induction n with
  | zero => show (0 : Rat) = 0 + 0; grind
  | succ n ih =>
    show S n (fun j => f j + g j) + (f n + g n) = S n f + f n + (S n g + g n)
    rw [ih]
    grind
theorem S_sub {n : Nat} {f g : Nat → Rat} : S n (fun j => f j - g j) = S n f - S n g := by
  induction n with
  | zero => show (0 : Rat) = 0 - 0; grind
  | succ n ih =>
    show S n (fun j => f j - g j) + (f n - g n) = S n f + f n - (S n g + g n)
    rw [ih]
    grind
theorem S_mul {n : Nat} {f : Nat → Rat} {c : Rat} : S n (fun j => f j * c) = S n f * c := by
  induction n with
  | zero => show (0 : Rat) = 0 * c; grind
  | succ n ih =>
    show S n (fun j => f j * c) + f n * c = (S n f + f n) * c
    rw [ih]
    grind
theorem S_one {n i : Nat} {f : Nat → Rat} (hi : i < n) (h : ∀ j, j < n → j ≠ i → f j = 0) : S n f = f i := by
  induction n with
  | zero => omega
  | succ n ih =>
    show S n f + f n = f i
    by_cases e : i = n
    · subst e
      rw [S_zero fun j hj => h j (by omega) (by omega)]
      grind
    · rw [ih (by omega) fun j hj => h j (by omega), h n (by omega) (fun z => e z.symm)]
      grind
theorem S_two {n i p : Nat} {f : Nat → Rat} (hi : i < n) (hp : p < n) (hn : i ≠ p) (h : ∀ j, j < n → j ≠ i → j ≠ p → f j = 0) : S n f = f i + f p := by
  have e : S n f = S n (fun j => (if j = i then f j else 0) + (if j = i then 0 else f j)) := S_ext fun j _ => by
    by_cases e : j = i
    · rw [if_pos e, if_pos e]; grind
    · rw [if_neg e, if_neg e]; grind
  rw [e, S_add, S_one hi (fun j _ e => if_neg e), S_one hp (fun j hj e => ?_), if_pos rfl, if_neg (fun z => hn z.symm)]
  by_cases e2 : j = i
  · exact if_pos e2
  · show (if j = i then 0 else f j) = 0
    rw [if_neg e2]
    exact h j hj e2 e
/-! ### rows at vectors -/
def dot (n : Nat) (r : List Rat) (v : Nat → Rat) : Rat := S (n + 1) fun j => r.getD j 0 * v j
theorem getD_headOf (r : List Rat) (q : Rat) (j : Nat) : (headOf r q).getD j 0 = r.getD j 0 * q⁻¹ := by
  unfold headOf
  simp only [List.getD_eq_getElem?_getD, List.getElem?_map]
  cases r[j]? with
  | none => show (0 : Rat) = 0 * q⁻¹; grind
  | some x => rfl
theorem getD_freed {r h : List Rat} (q : Rat) (j : Nat) (e : h.length = r.length) : (freed r h q).getD j 0 = r.getD j 0 - q * h.getD j 0 := by
  unfold freed
  simp only [List.getD_eq_getElem?_getD, List.getElem?_map]
  by_cases hj : j < r.length
  · have h1 : (r.zip h)[j]? = some (r[j], h[j]) := List.getElem?_zip_eq_some.mpr ⟨List.getElem?_eq_getElem hj, List.getElem?_eq_getElem (by omega)⟩
    rw [h1, List.getElem?_eq_getElem hj, List.getElem?_eq_getElem (show j < h.length by omega)]
    rfl
  · have h1 : (r.zip h)[j]? = none := List.getElem?_eq_none (by rw [List.length_zip]; omega)
    rw [h1, List.getElem?_eq_none (by omega), List.getElem?_eq_none (show h.length ≤ j by omega)]
    show (0 : Rat) = 0 - q * 0
    grind
theorem dot_headOf (n : Nat) (r : List Rat) (q : Rat) (v : Nat → Rat) : dot n (headOf r q) v = dot n r v * q⁻¹ := by
  unfold dot
  rw [← S_mul]
  exact S_ext fun j _ => by rw [getD_headOf]; grind
theorem dot_frd (n k : Nat) {r h : List Rat} (v : Nat → Rat) (e : h.length = r.length) : dot n (frd k h r) v = dot n r v - r.getD k 0 * dot n h v := by
  unfold dot frd
  have : r.getD k 0 * S (n + 1) (fun j => h.getD j 0 * v j) = S (n + 1) (fun j => (h.getD j 0 * v j) * r.getD k 0) := by
    rw [S_mul]
    grind
  rw [this, ← S_sub]
  exact S_ext fun j _ => by rw [getD_freed _ _ e]; grind
def Zs (n : Nat) (m : List (List Rat)) (v : Nat → Rat) : Prop := ∀ r ∈ m, dot n r v = 0
/-- which places are freed -/
structure Col (k : Nat) (l h : List (List Rat)) : Prop where
  len : h.length = k
  low : ∀ r ∈ l, ∀ j, j < k → r.getD j 0 = 0
  one : ∀ i r, h[i]? = some r → ∀ j, j < k → r.getD j 0 = if j = i then 1 else 0
theorem step_zs {n k i : Nat} {l h : List (List Rat)} {r : List Rat} (wl : Wid n l) (wh : Wid n h) (hi : l[i]? = some r) (h0 : r.getD k 0 ≠ 0) (v : Nat → Rat) :
    Zs n ((l.take i ++ l.drop (i + 1)).map (frd k (headOf r (r.getD k 0))) ++ (h.map (frd k (headOf r (r.getD k 0))) ++ [headOf r (r.getD k 0)])) v ↔ Zs n (l ++ h) v := by
  have hr : r ∈ l := List.mem_of_getElem? hi
  have lr := wl r hr
  have lh : (headOf r (r.getD k 0)).length = n + 1 := by rw [headOf_len, lr]
  have hin : i < l.length := (List.getElem?_eq_some_iff.mp hi).1
  have er : l[i] = r := Option.some.inj ((List.getElem?_eq_getElem hin).symm.trans hi)
  have mem : ∀ x, x ∈ l ↔ x = r ∨ x ∈ l.take i ++ l.drop (i + 1) := fun x => by
    have e : l = l.take i ++ r :: l.drop (i + 1) := by
      rw [← er]
      simp
    constructor
    · intro hx
      rw [e] at hx
      rcases List.mem_append.mp hx with h | h
      · exact .inr (List.mem_append_left _ h)
      · rcases List.mem_cons.mp h with h | h
        · exact .inl h
        · exact .inr (List.mem_append_right _ h)
    · rintro (rfl | hx)
      · exact hr
      · rcases List.mem_append.mp hx with h | h
        · exact List.mem_of_mem_take h
        · exact List.mem_of_mem_drop h
  have hd : dot n (headOf r (r.getD k 0)) v = 0 ↔ dot n r v = 0 := by
    rw [dot_headOf]
    constructor
    · intro z
      rcases Rat.mul_eq_zero.mp z with z | z
      · exact z
      · have := Rat.mul_inv_cancel _ h0
        rw [z] at this
        grind
    · intro z
      rw [z]
      grind
  constructor
  · intro z x hx
    have zr : dot n (headOf r (r.getD k 0)) v = 0 := z _ (List.mem_append_right _ (List.mem_append_right _ (List.mem_singleton.mpr rfl)))
    have fr : ∀ y : List Rat, y.length = n + 1 → dot n (frd k (headOf r (r.getD k 0)) y) v = 0 → dot n y v = 0 := fun y ly q => by
      rw [dot_frd n k v (by omega), zr] at q
      grind
    rcases List.mem_append.mp hx with hx | hx
    · rcases (mem x).mp hx with rfl | hx'
      · exact hd.mp zr
      · exact fr x (wl x hx) (z _ (List.mem_append_left _ (List.mem_map_of_mem hx')))
    · exact fr x (wh x hx) (z _ (List.mem_append_right _ (List.mem_append_left _ (List.mem_map_of_mem hx))))
  · intro z x hx
    have zr : dot n (headOf r (r.getD k 0)) v = 0 := hd.mpr (z r (List.mem_append_left _ hr))
    have fr : ∀ y : List Rat, y.length = n + 1 → dot n y v = 0 → dot n (frd k (headOf r (r.getD k 0)) y) v = 0 := fun y ly q => by
      rw [dot_frd n k v (by omega), zr, q]
      grind
    rcases List.mem_append.mp hx with hx | hx
    · obtain ⟨y, hy, rfl⟩ := List.mem_map.mp hx
      have hy' := (mem y).mpr (.inr hy)
      exact fr y (wl y hy') (z y (List.mem_append_left _ hy'))
    · rcases List.mem_append.mp hx with hx | hx
      · obtain ⟨y, hy, rfl⟩ := List.mem_map.mp hx
        exact fr y (wh y hy) (z y (List.mem_append_right _ hy))
      · rw [List.mem_singleton.mp hx]
        exact zr
theorem step_col {n k i : Nat} {l h : List (List Rat)} {r : List Rat} (wl : Wid n l) (wh : Wid n h) (hi : l[i]? = some r) (h0 : r.getD k 0 ≠ 0) (c : Col k l h) :
    Col (k + 1) ((l.take i ++ l.drop (i + 1)).map (frd k (headOf r (r.getD k 0)))) (h.map (frd k (headOf r (r.getD k 0))) ++ [headOf r (r.getD k 0)]) := by
  have hr : r ∈ l := List.mem_of_getElem? hi
  have lr := wl r hr
  have lh : (headOf r (r.getD k 0)).length = n + 1 := by rw [headOf_len, lr]
  have hk : (headOf r (r.getD k 0)).getD k 0 = 1 := by
    rw [getD_headOf]
    exact Rat.mul_inv_cancel _ h0
  have hlow : ∀ j, j < k → (headOf r (r.getD k 0)).getD j 0 = 0 := fun j hj => by
    rw [getD_headOf, c.low r hr j hj]
    grind
  have mem : ∀ x ∈ l.take i ++ l.drop (i + 1), x ∈ l := fun x hx => by
    rcases List.mem_append.mp hx with h | h
    · exact List.mem_of_mem_take h
    · exact List.mem_of_mem_drop h
  have gf : ∀ (y : List Rat) (j : Nat), y.length = n + 1 → (frd k (headOf r (r.getD k 0)) y).getD j 0 = y.getD j 0 - y.getD k 0 * (headOf r (r.getD k 0)).getD j 0 := fun y j ly => getD_freed _ _ (by omega)
  refine ⟨by rw [List.length_append, List.length_map, c.len]; rfl, fun x hx j hj => ?_, fun a x hx j hj => ?_⟩
  · obtain ⟨y, hy, rfl⟩ := List.mem_map.mp hx
    rw [gf y j (wl y (mem y hy))]
    by_cases e : j = k
    · subst e
      rw [hk]
      grind
    · rw [c.low y (mem y hy) j (by omega), hlow j (by omega)]
      grind
  · by_cases ha : a < h.length
    · rw [List.getElem?_append_left (by rw [List.length_map]; exact ha), List.getElem?_map] at hx
      obtain ⟨y, hy, rfl⟩ := Option.map_eq_some_iff.mp hx
      have my := List.mem_of_getElem? hy
      rw [gf y j (wh y my)]
      by_cases e : j = k
      · subst e
        rw [hk, if_neg (by have := c.len; omega)]
        grind
      · rw [c.one a y hy j (by omega), hlow j (by omega)]
        grind
    · rw [List.getElem?_append_right (by rw [List.length_map]; omega), List.length_map] at hx
      have e0 : a - h.length = 0 := by
        by_cases z : a - h.length = 0
        · exact z
        · have : ([headOf r (r.getD k 0)] : List (List Rat))[a - h.length]? = none := List.getElem?_eq_none (by show 1 ≤ _; omega)
          rw [this] at hx
          cases hx
      rw [e0] at hx
      cases hx
      have ea : a = k := by have := c.len; omega
      subst ea
      by_cases e : j = a
      · subst e
        rw [hk, if_pos rfl]
      · rw [hlow j (by omega), if_neg e]
end K45
set_option Elab.async false
set_option linter.all false
set_option maxRecDepth 100000
set_option maxHeartbeats 4000000
namespace K45
open PySem L2 DL
theorem gj_some {n : Nat} : ∀ (c k : Nat) (l h l' h' : List (List Rat)), k + c ≤ n → Wid n l → Wid n h → Col k l h → gj (List.range' k c) l h = some (l', h') → Col (k + c) l' h' ∧ Wid n l' ∧ Wid n h' ∧ ∀ v, Zs n (l' ++ h') v ↔ Zs n (l ++ h) v
  | 0, k, l, h, l', h', _, wl, wh, C, e => by
    cases e
    exact ⟨C, wl, wh, fun v => Iff.rfl⟩
  | c + 1, k, l, h, l', h', hk, wl, wh, C, e => by
    rw [List.range'_succ, gj] at e
    cases hS : some_ k l with
    | nil =>
      rw [hS] at e
      cases e
    | cons i S =>
      rw [hS] at e
      obtain ⟨r, hi, h0⟩ := some_cons hS
      have eg : l.getD i [] = r := by rw [List.getD_eq_getElem?_getD, hi]; rfl
      dsimp only at e
      rw [eg] at e
      have lr := wl r (List.mem_of_getElem? hi)
      have lh : (headOf r (r.getD k 0)).length = n + 1 := by rw [headOf_len, lr]
      have mem : ∀ x ∈ l.take i ++ l.drop (i + 1), x ∈ l := fun x hx => by
        rcases List.mem_append.mp hx with h | h
        · exact List.mem_of_mem_take h
        · exact List.mem_of_mem_drop h
      obtain ⟨C', wl', wh', z⟩ := gj_some (n := n) c (k + 1) _ _ l' h' (by omega) (fun x hx => by
        obtain ⟨y, hy, rfl⟩ := List.mem_map.mp hx
        have := wl y (mem y hy)
        rw [frd_len (by omega), this]) (fun x hx => by
        rcases List.mem_append.mp hx with hx | hx
        · obtain ⟨y, hy, rfl⟩ := List.mem_map.mp hx
          have := wh y hy
          rw [frd_len (by omega), this]
        · rw [List.mem_singleton.mp hx]
          exact lh) (step_col wl wh hi h0 C) e
      refine ⟨by rw [Nat.add_comm c 1, ← Nat.add_assoc]; exact C', wl', wh', fun v => (z v).trans (step_zs wl wh hi h0 v)⟩
theorem col_none {n k : Nat} {l h : List (List Rat)} (hk : k < n) (wl : Wid n l) (wh : Wid n h) (C : Col k l h) (hz : ∀ r ∈ l, r.getD k 0 = 0) : ∃ v : Nat → Rat, v k ≠ 0 ∧ v n = 0 ∧ Zs n (l ++ h) v := by
  refine ⟨fun j => if j = k then 1 else if j < k then - (h.getD j []).getD k 0 else 0, ?_, ?_, fun r hr => ?_⟩
  · simp
  · dsimp only
    rw [if_neg (by omega), if_neg (by omega)]
  · rcases List.mem_append.mp hr with hr | hr
    · refine S_zero fun j hj => ?_
      dsimp only
      by_cases e : j = k
      · subst e
        rw [hz r hr]
        grind
      · rw [if_neg e]
        by_cases e2 : j < k
        · rw [C.low r hr j e2]
          grind
        · rw [if_neg e2]
          grind
    · obtain ⟨i, hi⟩ := List.getElem?_of_mem hr
      have li : i < k := by
        rw [← C.len]
        exact (List.getElem?_eq_some_iff.mp hi).1
      have eg : h.getD i [] = r := by rw [List.getD_eq_getElem?_getD, hi]; rfl
      show S (n + 1) _ = 0
      rw [S_two (i := i) (p := k) (by omega) (by omega) (by omega) fun j hj e1 e2 => ?_]
      · dsimp only
        rw [if_neg (by omega : ¬ i = k), if_pos li, if_pos rfl, eg, C.one i r hi i li, if_pos rfl]
        grind
      · dsimp only
        rw [if_neg e2]
        by_cases e3 : j < k
        · rw [C.one i r hi j e3, if_neg e1]
          grind
        · rw [if_neg e3]
          grind
theorem gj_none {n : Nat} : ∀ (c k : Nat) (l h : List (List Rat)), k + c ≤ n → Wid n l → Wid n h → Col k l h → gj (List.range' k c) l h = none → ∃ (v : Nat → Rat) (p : Nat), p < n ∧ v p ≠ 0 ∧ v n = 0 ∧ Zs n (l ++ h) v
  | 0, k, l, h, _, _, _, _, e => by cases e
  | c + 1, k, l, h, hk, wl, wh, C, e => by
    rw [List.range'_succ, gj] at e
    cases hS : some_ k l with
    | nil =>
      obtain ⟨v, h1, h2, h3⟩ := col_none (by omega) wl wh C (some_nil hS)
      exact ⟨v, k, by omega, h1, h2, h3⟩
    | cons i S =>
      rw [hS] at e
      obtain ⟨r, hi, h0⟩ := some_cons hS
      have eg : l.getD i [] = r := by rw [List.getD_eq_getElem?_getD, hi]; rfl
      dsimp only at e
      rw [eg] at e
      have lr := wl r (List.mem_of_getElem? hi)
      have lh : (headOf r (r.getD k 0)).length = n + 1 := by rw [headOf_len, lr]
      have mem : ∀ x ∈ l.take i ++ l.drop (i + 1), x ∈ l := fun x hx => by
        rcases List.mem_append.mp hx with h | h
        · exact List.mem_of_mem_take h
        · exact List.mem_of_mem_drop h
      obtain ⟨v, p, h1, h2, h3, h4⟩ := gj_none (n := n) c (k + 1) _ _ (by omega) (fun x hx => by
        obtain ⟨y, hy, rfl⟩ := List.mem_map.mp hx
        have := wl y (mem y hy)
        rw [frd_len (by omega), this]) (fun x hx => by
        rcases List.mem_append.mp hx with hx | hx
        · obtain ⟨y, hy, rfl⟩ := List.mem_map.mp hx
          have := wh y hy
          rw [frd_len (by omega), this]
        · rw [List.mem_singleton.mp hx]
          exact lh) (step_col wl wh hi h0 C) e
      exact ⟨v, p, h1, h2, h3, (step_zs wl wh hi h0 v).mp h4⟩
/-- the law's own answer: None only where more than the nought is led to nought, otherwise the one solution -/
theorem own_none {n : Nat} {M : List (List Rat)} (w : Wid n M) (e : gj (List.range n) M [] = none) : ∃ (v : Nat → Rat) (p : Nat), p < n ∧ v p ≠ 0 ∧ v n = 0 ∧ Zs n M v := by
  rw [List.range_eq_range'] at e
  have := gj_none n 0 M [] (by omega) w (fun r hr => by cases hr) ⟨rfl, fun r _ j hj => absurd hj (by omega), fun i r hi => by cases hi⟩ e
  rwa [List.append_nil] at this
theorem own_some {n : Nat} {M l' h' : List (List Rat)} (w : Wid n M) (e : gj (List.range n) M [] = some (l', h')) (hl : l' = []) : h'.length = n ∧ ∀ v : Nat → Rat, Zs n M v ↔ ∀ i, i < n → v i + (h'.map (atN n)).getD i 0 * v n = 0 := by
  subst hl
  rw [List.range_eq_range'] at e
  obtain ⟨C, _, wh, z⟩ := gj_some n 0 M [] [] h' (by omega) w (fun r hr => by cases hr) ⟨rfl, fun r _ j hj => absurd hj (by omega), fun i r hi => by cases hi⟩ e
  rw [List.append_nil] at z
  rw [List.nil_append] at z
  rw [Nat.zero_add] at C
  refine ⟨C.len, fun v => (z v).symm.trans ?_⟩
  have row : ∀ i r, h'[i]? = some r → dot n r v = v i + r.getD n 0 * v n := fun i r hi => by
    have li : i < n := by
      rw [← C.len]
      exact (List.getElem?_eq_some_iff.mp hi).1
    unfold dot
    rw [S_two (i := i) (p := n) (by omega) (by omega) (by omega) fun j hj e1 e2 => ?_]
    · rw [C.one i r hi i li, if_pos rfl]
      grind
    · rw [C.one i r hi j (by omega), if_neg e1]
      grind
  constructor
  · intro q i hi
    have lt : i < h'.length := by rw [C.len]; exact hi
    have hi' : h'[i]? = some h'[i] := List.getElem?_eq_getElem lt
    have := q _ (List.mem_of_getElem? hi')
    rw [row i _ hi'] at this
    have e2 : (h'.map (atN n)).getD i 0 = h'[i].getD n 0 := by
      rw [List.getD_eq_getElem?_getD, List.getElem?_map, hi']
      rfl
    rw [e2]
    exact this
  · intro q r hr
    obtain ⟨i, hi⟩ := List.getElem?_of_mem hr
    rw [row i r hi]
    have e2 : (h'.map (atN n)).getD i 0 = r.getD n 0 := by
      rw [List.getD_eq_getElem?_getD, List.getElem?_map, hi]
      rfl
    rw [← e2]
    exact q i (by rw [← C.len]; exact (List.getElem?_eq_some_iff.mp hi).1)
end K45
set_option Elab.async false
set_option linter.all false
set_option maxRecDepth 100000
set_option maxHeartbeats 4000000
namespace K45
open PySem L2 DL
abbrev iL (r : List Int) : D := .list (r.map PyData.int)
abbrev mI (m : List (List Int)) : D := .list (m.map iL)
def BL (b : Nat) (r : List Int) : Prop := ∀ x ∈ r, x.natAbs < 2 ^ b
/-! ### a row made whole -/
def lcmL : Nat → List Rat → Nat := List.foldl fun f q => f / Nat.gcd f q.den * q.den
theorem lcm_dvd {f d : Nat} : f ∣ f / Nat.gcd f d * d ∧ d ∣ f / Nat.gcd f d * d := by
  have h1 : f / Nat.gcd f d * d = Nat.lcm f d := by
    unfold Nat.lcm
    rw [Nat.div_mul_right_comm (Nat.gcd_dvd_left f d)]
  rw [h1]
  exact ⟨Nat.dvd_lcm_left f d, Nat.dvd_lcm_right f d⟩
theorem lcm_pos {f d : Nat} (hf : 0 < f) (hd : 0 < d) : 0 < f / Nat.gcd f d * d := Nat.mul_pos (Nat.div_pos (Nat.le_of_dvd hf (Nat.gcd_dvd_left f d)) (Nat.gcd_pos_of_pos_left _ hf)) hd
theorem lcm_lt {f d m n : Nat} (hf : f < 2 ^ m) (hd : d < 2 ^ n) : f / Nat.gcd f d * d < 2 ^ (m + n) := by
  rw [Nat.pow_add]
  by_cases z : d = 0
  · subst z
    rw [Nat.mul_zero]
    exact Nat.mul_pos (Nat.pow_pos (by decide)) (Nat.pow_pos (by decide))
  · exact Nat.lt_of_le_of_lt (Nat.mul_le_mul_right d (Nat.div_le_self f _)) (Nat.mul_lt_mul_of_lt_of_lt hf hd)
theorem lcmL_ok : ∀ (r : List Rat) (f m : Nat), 0 < f → f < 2 ^ m → (∀ q ∈ r, q.den < 2 ^ 7) → 0 < lcmL f r ∧ lcmL f r < 2 ^ (m + r.length * 7) ∧ f ∣ lcmL f r ∧ ∀ q ∈ r, q.den ∣ lcmL f r
  | [], f, m, hf, hm, _ => ⟨hf, by simpa [lcmL] using hm, Nat.dvd_refl _, fun q hq => by cases hq⟩
  | q :: r, f, m, hf, hm, hq => by
    obtain ⟨h1, h2, h3, h4⟩ := lcmL_ok r (f / Nat.gcd f q.den * q.den) (m + 7) (lcm_pos hf (den_pos q)) (lcm_lt hm (hq q (List.mem_cons_self ..))) fun x hx => hq x (List.mem_cons_of_mem _ hx)
    refine ⟨h1, ?_, Nat.dvd_trans lcm_dvd.1 h3, fun x hx => ?_⟩
    · rw [List.length_cons, Nat.add_mul, Nat.one_mul, Nat.add_comm (r.length * 7) 7, ← Nat.add_assoc]
      exact h2
    · rcases List.mem_cons.mp hx with rfl | hx
      · exact Nat.dvd_trans lcm_dvd.2 h3
      · exact h4 x hx
theorem ev_lcm {r : List Rat} (hs : SzL 7 r) (hl : r.length ≤ 50) : F_least_common [.sh (iL (r.map fun q => (q.den : Int)))] = .ok (.sh (.int (lcmL 1 r))) [.sh (iL (r.map fun q => (q.den : Int)))] := by
  have go : ∀ (t : List Rat) (f m : Nat) (x : Sl), (x = .un ∨ ∃ d, x = .sh d) → 0 < f → f < 2 ^ m → m + t.length * 7 ≤ 8000 → SzL 7 t → ∃ x', forL (gSet 2) (sSet 1 (eR (eOp2 dMul (eOp2 dFdiv (eVar 1) (eCall bGcd (aCons (eVar 1) (aCons (eVar 2) aNil)))) (eVar 2)))) (t.map fun q => PyData.int (q.den : Int)) [.sh (iL (r.map fun q => (q.den : Int))), .sh (.int (f : Int)), x]
      = .ok .nx [.sh (iL (r.map fun q => (q.den : Int))), .sh (.int (lcmL f t : Nat)), x'] := by
    intro t
    induction t with
    | nil => exact fun f m x _ _ _ _ _ => ⟨x, rfl⟩
    | cons q t ih =>
      intro f m x hx hf hm hl hs
      have hq := (hs q (List.mem_cons_self ..)).den
      have hl' : m + (t.length + 1) * 7 ≤ 8000 := hl
      obtain ⟨x', w⟩ := ih (f / Nat.gcd f q.den * q.den) (m + 7) (.sh (.int q.den)) (.inr ⟨_, rfl⟩) (lcm_pos hf (den_pos q)) (lcm_lt hm hq) (by omega) (fun y hy => hs y (List.mem_cons_of_mem _ hy))
      refine ⟨x', ?_⟩
      have hu0 : f / Nat.gcd f q.den ≤ f := Nat.div_le_self ..
      have g0 : 0 < Nat.gcd f q.den := Nat.gcd_pos_of_pos_left _ hf
      have gl : Nat.gcd f q.den ≤ f := Nat.le_of_dvd hf (Nat.gcd_dvd_left ..)
      have gz : ((Nat.gcd (f : Int).natAbs (q.den : Int).natAbs : Nat) : Int) = (Nat.gcd f q.den : Nat) := rfl
      have e1 : dFdiv (.int (f : Int)) (.int (Nat.gcd f q.den : Nat)) = some (.int ((f / Nat.gcd f q.den : Nat) : Int)) := by
        rw [fdiv_ok (n := m) (by omega) (by omega) (by omega), Int.fdiv_eq_ediv_of_nonneg _ (by omega)]
        rfl
      have el : lcmL f (q :: t) = lcmL (f / Nat.gcd f q.den * q.den) t := rfl
      rw [el]
      generalize hgg : Nat.gcd f q.den = gg at *
      generalize hu : f / gg = u at *
      have e2 : dMul (.int (u : Int)) (.int q.den) = some (.int ((u * q.den : Nat) : Int)) := by
        rw [mul_ok (m := m) (n := 7) (by omega) (by omega) (by omega)]
        rfl
      rw [List.map_cons, forL_nx (e' := [.sh (iL (r.map fun q => (q.den : Int))), .sh (.int ((u * q.den : Nat) : Int)), .sh (.int q.den)])]
      · exact w
      · rcases hx with rfl | ⟨d, rfl⟩ <;> simp only [z_for1, z_gSet] <;> simp [e1, e2, gz, hgg]
  obtain ⟨x', w⟩ := go r 1 1 .un (.inl rfl) (by decide) (by decide) (by omega) hs
  simp [F_least_common, m_least_common, Function.comp_def]
  have w' := w
  simp only [Int.natCast_one] at w'
  simp [w']
def cof (L d : Nat) : Nat := L / d
theorem cof_le (L d : Nat) : cof L d ≤ L := Nat.div_le_self ..
def whole (r : List Rat) : List Int := r.map fun q => q.num * ((cof (lcmL 1 r) q.den : Nat) : Int)
theorem ev_whole {r : List Rat} (hs : SzL 7 r) (hl : r.length ≤ 50) : F_as_whole [.sh (lD r)] = .ok (.own (.ls ((whole r).map PyData.int))) [.sh (lD r)] := by
  obtain ⟨l1, l2, _, l4⟩ := lcmL_ok r 1 1 (by decide) (by decide) fun q hq => (hs q hq).den
  have e := ev_lcm hs hl
  have e' : F_least_common [.sh (.list (r.map fun q => PyData.int (q.den : Int)))] = .ok (.sh (.int (lcmL 1 r : Nat))) [.sh (.list (r.map fun q => PyData.int (q.den : Int)))] := by
    have z : iL (r.map fun q => (q.den : Int)) = .list (r.map fun q => PyData.int (q.den : Int)) := by
      show PyData.list _ = _
      rw [List.map_map]
      rfl
    rw [z] at e
    exact e
  have c1 := lcL_map (g := gTupF (gsCons (gSet 2) (gsCons (gSet 3) gsNil))) (ts := tYesF) (a := eVar 3) (vs := [2, 3]) rD (fun q => .int q.den) r [.sh (lD r), .un, .un, .un] (fun q hq => by simp [rD]) (by omega)
  have c2 := lcL_map (g := gTupF (gsCons (gSet 2) (gsCons (gSet 3) gsNil))) (ts := tYesF) (a := eOp2 dMul (eVar 2) (eOp2 dFdiv (eVar 1) (eVar 3))) (vs := [2, 3]) rD (fun q => .int (q.num * ((cof (lcmL 1 r) q.den : Nat) : Int))) r [.sh (lD r), .sh (.int (lcmL 1 r : Nat)), .un, .un] (fun q hq => by
    have sq := hs q hq
    have d0 := den_pos q
    have e1 : dFdiv (.int (lcmL 1 r : Nat)) (.int (q.den : Int)) = some (.int ((cof (lcmL 1 r) q.den : Nat) : Int)) := by
      have := sq.den
      rw [fdiv_ok (n := 7) (by omega) (by omega) (by omega), Int.fdiv_eq_ediv_of_nonneg _ (by omega)]
      rfl
    have e2 : dMul (.int q.num) (.int ((cof (lcmL 1 r) q.den : Nat) : Int)) = some (.int (q.num * ((cof (lcmL 1 r) q.den : Nat) : Int))) := by
      have := cof_le (lcmL 1 r) q.den
      exact mul_ok (m := 7) (n := 1 + r.length * 7) sq.num (by omega) (by omega)
    simp [rD, e1, e2]) (by omega)
  simp [F_as_whole, m_as_whole, c1, c2, e', z_callR, whole, List.map_map, Function.comp_def]
end K45
set_option Elab.async false
set_option linter.all false
set_option maxRecDepth 100000
set_option maxHeartbeats 4000000
namespace K45
open PySem L2 DL
def rowb (h y : List Int) (k : Nat) (last : Int) : List Int := (y.zip h).map fun p => (p.1 * h.getD k 0 - y.getD k 0 * p.2).fdiv last
theorem getDI_ix {r : List Int} {k : Nat} (h : k < r.length) : r[k]? = some (r.getD k 0) := by
  rw [List.getD_eq_getElem?_getD, List.getElem?_eq_getElem h]
  rfl
theorem ev_rowb {h y : List Int} {k b : Nat} {last : Int} (hk : k < h.length) (hk2 : k < y.length) (hh : BL b h) (hy : BL b y) (h0 : last ≠ 0) (hl : last.natAbs < 2 ^ b) (hb : b ≤ 4000) (ll : y.length ≤ 1000) :
    F_row_below [.sh (iL y), .sh (iL h), .sh (.int k), .sh (.int last)] = .ok (.own (.ls ((rowb h y k last).map PyData.int))) [.sh (iL y), .sh (iL h), .sh (.int k), .sh (.int last)] := by
  have i1 := ix_map (f := PyData.int) (getDI_ix hk)
  have i2 := ix_map (f := PyData.int) (getDI_ix hk2)
  have b1 := hh _ (List.mem_of_getElem? (getDI_ix hk))
  have b2 := hy _ (List.mem_of_getElem? (getDI_ix hk2))
  unfold rowb
  generalize h.getD k 0 = hv at *
  generalize y.getD k 0 = yv at *
  have c := lcL_map (g := gTupF (gsCons (gSet 4) (gsCons (gSet 5) gsNil))) (ts := tYesF) (a := eOp2 dFdiv (eOp2 dSub (eOp2 dMul (eVar 4) (eOp2 dIx (eVar 1) (eVar 2))) (eOp2 dMul (eOp2 dIx (eVar 0) (eVar 2)) (eVar 5))) (eVar 3)) (vs := [4, 5])
    (fun p : Int × Int => .tuple [.int p.1, .int p.2]) (fun p => .int ((p.1 * hv - yv * p.2).fdiv last)) (y.zip h) [.sh (iL y), .sh (iL h), .sh (.int k), .sh (.int last), .un, .un] (fun p hp => by
      have e1 := mul_ok (hy _ (List.of_mem_zip hp).1) b1 (by omega)
      have e2 := mul_ok b2 (hh _ (List.of_mem_zip hp).2) (by omega)
      have e3 := fdiv_ok (a := p.1 * hv - yv * p.2) h0 hl (by omega)
      simp [i1, i2, e1, e2, e3]) (by rw [List.length_zip]; omega)
  simp [F_row_below, m_row_below, zipD_map, c, List.map_map, Function.comp_def]
/-! ### led to the head -/
abbrev bodyH : Sf := (sIf (tOf (eOp2 dNe (eOp2 dIx (eOp2 dIx (eVar 0) (eVar 2)) (eVar 1)) (eC (.int 0)))) (sSeq (sAsg (eTup (aCons (eOp2 dIx (eVar 0) (eVar 2)) (aCons (eOp2 dIx (eVar 0) (eVar 1)) aNil))) (gTupF (gsCons (gSubF (eVar 0) (eVar 1)) (gsCons (gSubF (eVar 0) (eVar 2)) gsNil)))) (sRet (eR (eC (.bool true))))) sNil)
theorem ixN_nat {n i : Nat} (h : i < n) : L2.ixN n (i : Int) = some i := by
  simp only [L2.ixN]
  rw [if_pos (by omega), if_pos (by omega)]
  rfl
theorem led_no {T : List (List Int)} {k i : Nat} {r : List Int} (hi : T[i]? = some r) (hk : k < r.length) (hz : r.getD k 0 = 0) {x : Sl} (hx : x = .un ∨ ∃ d, x = .sh d) :
    for1 (gSet 2) bodyH (.int (i : Int)) [.io (.ls (T.map iL)), .sh (.int k), x] = .ok .nx [.io (.ls (T.map iL)), .sh (.int k), .sh (.int i)] := by
  have i1 := ix_map (f := iL) hi
  have i2 := ix_map (f := PyData.int) (getDI_ix hk)
  rw [hz] at i2
  rcases hx with rfl | ⟨d, rfl⟩ <;> simp [i1, i2]
theorem led_yes {T : List (List Int)} {k i : Nat} {r a : List Int} (hi : T[i]? = some r) (hk0 : T[k]? = some a) (hk : k < r.length) (hz : r.getD k 0 ≠ 0) {x : Sl} (hx : x = .un ∨ ∃ d, x = .sh d) :
    for1 (gSet 2) bodyH (.int (i : Int)) [.io (.ls (T.map iL)), .sh (.int k), x] = .ok (.rt (.sh (.bool true))) [.io (.ls (((T.set k r).set i a).map iL)), .sh (.int k), .sh (.int i)] := by
  have i1 := ix_map (f := iL) hi
  have i3 := ix_map (f := iL) hk0
  have i2 := ix_map (f := PyData.int) (getDI_ix hk)
  generalize r.getD k 0 = q at *
  have n1 : L2.ixN T.length (k : Int) = some k := ixN_nat (List.getElem?_eq_some_iff.mp hk0).1
  have n2 : L2.ixN T.length (i : Int) = some i := ixN_nat (List.getElem?_eq_some_iff.mp hi).1
  have m1 : ((T.map iL).set k (iL r)).set i (iL a) = ((T.set k r).set i a).map iL := by rw [List.map_set, List.map_set]
  rcases hx with rfl | ⟨d, rfl⟩ <;> simp [i1, i2, i3, hz, n1, n2, m1, -List.map_set]
theorem led_loop {T : List (List Int)} {k : Nat} (hw : ∀ r ∈ T, k < r.length) {a : List Int} (hk0 : T[k]? = some a) : ∀ (c i : Nat) (x : Sl), i + c = T.length → (x = .un ∨ ∃ d, x = .sh d) →
    ((∀ j r, i ≤ j → T[j]? = some r → r.getD k 0 = 0) ∧ ∃ x', forL (gSet 2) bodyH ((List.range' i c).map fun (j : Nat) => PyData.int (j : Int)) [.io (.ls (T.map iL)), .sh (.int k), x] = .ok .nx [.io (.ls (T.map iL)), .sh (.int k), x']) ∨
    ∃ j r, i ≤ j ∧ T[j]? = some r ∧ r.getD k 0 ≠ 0 ∧ forL (gSet 2) bodyH ((List.range' i c).map fun (j : Nat) => PyData.int (j : Int)) [.io (.ls (T.map iL)), .sh (.int k), x] = .ok (.rt (.sh (.bool true))) [.io (.ls (((T.set k r).set j a).map iL)), .sh (.int k), .sh (.int j)]
  | 0, i, x, hl, hx => .inl ⟨fun j r h1 h2 => by
      have := (List.getElem?_eq_some_iff.mp h2).1
      omega, x, rfl⟩
  | c + 1, i, x, hl, hx => by
    have hi : T[i]? = some T[i] := List.getElem?_eq_getElem (by omega)
    have hk := hw _ (List.mem_of_getElem? hi)
    rw [List.range'_succ, List.map_cons]
    by_cases z : T[i].getD k 0 = 0
    · rw [forL_nx (led_no hi hk z hx)]
      rcases led_loop hw hk0 c (i + 1) (.sh (.int i)) (by omega) (.inr ⟨_, rfl⟩) with ⟨h1, h2⟩ | ⟨j, r, h1, h2, h3, h4⟩
      · refine .inl ⟨fun j r h3 h4 => ?_, h2⟩
        by_cases e : j = i
        · subst e
          rw [hi] at h4
          cases h4
          exact z
        · exact h1 j r (by omega) h4
      · exact .inr ⟨j, r, by omega, h2, h3, h4⟩
    · exact .inr ⟨i, T[i], Nat.le_refl _, hi, z, forL_rt (led_yes hi hk0 hk z hx)⟩
theorem led_a {T T' : List D} {K N : Int} {L : List D} {s : Sl} {e : List Sl} (sk : small62 K = true) (sn : small62 N = true) (hN : bLen [.list T] = some (.int N)) (hL : ((List.range (N - K).toNat).map fun (i : Nat) => (PyData.int (K + (i : Int)) : D)) = L)
    (w : forL (gSet 2) bodyH L [.io (.ls T), .sh (.int K), .un] = .ok (.rt (.sh (.bool true))) (.io (.ls T') :: s :: e)) :
    F_led_head [.io (.ls T), .sh (.int K)] = .ok (.sh (.bool true)) [.io (.ls T'), .sh (.int K)] := by
  unfold bodyH at w
  simp [F_led_head, m_led_head, sk, sn, hN, hL, w]
theorem led_b {T : List D} {K N : Int} {L : List D} {s x : Sl} (sk : small62 K = true) (sn : small62 N = true) (hN : bLen [.list T] = some (.int N)) (hL : ((List.range (N - K).toNat).map fun (i : Nat) => (PyData.int (K + (i : Int)) : D)) = L)
    (w : forL (gSet 2) bodyH L [.io (.ls T), .sh (.int K), .un] = .ok .nx [.io (.ls T), .sh (.int K), x]) :
    F_led_head [.io (.ls T), .sh (.int K)] = .ok (.sh (.bool false)) [.io (.ls T), .sh (.int K)] := by
  unfold bodyH at w
  simp [F_led_head, m_led_head, sk, sn, hN, hL, w]
theorem rng_from {n k : Nat} (h : k ≤ n) : ((List.range ((n : Int) - (k : Int)).toNat).map fun (i : Nat) => (PyData.int ((k : Int) + (i : Int)) : D)) = (List.range' k (n - k)).map fun (j : Nat) => PyData.int (j : Int) := by
  have e : ((n : Int) - (k : Int)).toNat = n - k := by omega
  rw [e, List.range'_eq_map_range, List.map_map]
  apply List.map_congr_left
  intro a _
  show PyData.int ((k : Int) + (a : Int)) = PyData.int ((k + a : Nat) : Int)
  rw [Int.natCast_add]
theorem ev_led {T : List (List Int)} {k : Nat} (hw : ∀ r ∈ T, k < r.length) {a : List Int} (hk0 : T[k]? = some a) (hl : T.length ≤ 1000) :
    ((∀ j r, k ≤ j → T[j]? = some r → r.getD k 0 = 0) ∧ F_led_head [.io (.ls (T.map iL)), .sh (.int k)] = .ok (.sh (.bool false)) [.io (.ls (T.map iL)), .sh (.int k)]) ∨
    ∃ j r, k ≤ j ∧ T[j]? = some r ∧ r.getD k 0 ≠ 0 ∧ F_led_head [.io (.ls (T.map iL)), .sh (.int k)] = .ok (.sh (.bool true)) [.io (.ls (((T.set k r).set j a).map iL)), .sh (.int k)] := by
  have lk : k < T.length := (List.getElem?_eq_some_iff.mp hk0).1
  have hN : bLen [.list (T.map iL)] = some (.int (T.length : Int)) := by rw [z_bLen1, List.length_map]
  rcases led_loop hw hk0 (T.length - k) k .un (by omega) (.inl rfl) with ⟨h1, x', w⟩ | ⟨j, r, h1, h2, h3, w⟩
  · exact .inl ⟨h1, led_b (s := .un) (small_n (by omega)) (small_n (by omega)) hN (rng_from (by omega)) w⟩
  · exact .inr ⟨j, r, h1, h2, h3, led_a (small_n (by omega)) (small_n (by omega)) hN (rng_from (by omega)) w⟩
end K45
set_option Elab.async false
set_option linter.all false
set_option maxRecDepth 100000
set_option maxHeartbeats 4000000
namespace K45
open PySem L2 DL
noncomputable abbrev innB : Sf := (sAsg (eFz (eFnC F_row_below [false, false, false, false] (aCons (eOp2 dIx (eVar 1) (eVar 4)) (aCons (eOp2 dIx (eVar 1) (eVar 3)) (aCons (eVar 3) (aCons (eVar 2) aNil)))))) (gSubF (eVar 1) (eVar 4)))
noncomputable abbrev bodR : Sf := (sSeq (sIf (tNotF (tTr (eFz (eFnC F_led_head [true, false] (aCons (eVar 1) (aCons (eVar 3) aNil)))))) (sRet (eR (eC .none))) sNil) (sSeq (sFor (iRng2F (aCons (eOp2 dAdd (eVar 3) (eC (.int 1))) (aCons (eCall bLen (aCons (eVar 1) aNil)) aNil))) (gSet 4) innB) (sSet 2 (eR (eOp2 dIx (eOp2 dIx (eVar 1) (eVar 3)) (eVar 3))))))
def Us (x : Sl) : Prop := x = .un ∨ ∃ d, x = .sh d
theorem inner_loop {tab : D} {h : List Int} {k b : Nat} {last : Int} (hk : k < h.length) (hh : BL b h) (h0 : last ≠ 0) (hl : last.natAbs < 2 ^ b) (hb : b ≤ 4000) : ∀ (tail P : List (List Int)) (x4 : Sl), P[k]? = some h → (∀ y ∈ tail, k < y.length ∧ y.length ≤ 1000 ∧ BL b y) → P.length + tail.length ≤ 1000 → Us x4 →
    ∃ x4', Us x4' ∧ forL (gSet 4) innB ((List.range' P.length tail.length).map fun (j : Nat) => PyData.int (j : Int)) [.sh tab, .own (.ls ((P ++ tail).map iL)), .sh (.int last), .sh (.int (k : Int)), x4, .un] = .ok .nx [.sh tab, .own (.ls ((P ++ tail.map fun y => rowb h y k last).map iL)), .sh (.int last), .sh (.int (k : Int)), x4', .un]
  | [], P, x4, _, _, _, hx => ⟨x4, hx, rfl⟩
  | y :: t, P, x4, hp, hy, hlen, hx => by
    obtain ⟨y1, y2, y3⟩ := hy y (List.mem_cons_self ..)
    have hlen' : P.length + (t.length + 1) ≤ 1000 := hlen
    have lk : k < P.length := (List.getElem?_eq_some_iff.mp hp).1
    obtain ⟨x4', hx', w⟩ := inner_loop hk hh h0 hl hb t (P ++ [rowb h y k last]) (.sh (.int (P.length : Int))) (by rw [List.getElem?_append_left lk]; exact hp) (fun z hz => hy z (List.mem_cons_of_mem _ hz)) (by rw [List.length_append]; show P.length + 1 + t.length ≤ 1000; omega) (.inr ⟨_, rfl⟩)
    refine ⟨x4', hx', ?_⟩
    have e := ev_rowb hk y1 hh y3 h0 hl hb y2
    have i1 : dIx (.list ((P ++ y :: t).map iL)) (.int (P.length : Int)) = some (iL y) := ix_map (f := iL) (by rw [List.getElem?_append_right (Nat.le_refl _), Nat.sub_self]; rfl)
    have i2 : dIx (.list ((P ++ y :: t).map iL)) (.int (k : Int)) = some (iL h) := ix_map (f := iL) (by rw [List.getElem?_append_left lk]; exact hp)
    have n1 : L2.ixN ((P ++ y :: t).map iL).length (P.length : Int) = some P.length := ixN_nat (by rw [List.length_map, List.length_append]; show P.length < P.length + (t.length + 1); omega)
    have s1 : ((P ++ y :: t).map iL).set P.length (iL (rowb h y k last)) = ((P ++ [rowb h y k last]) ++ t).map iL := by
      rw [← List.map_set, List.set_append_right (h := Nat.le_refl _), Nat.sub_self, List.set_cons_zero, List.append_assoc]
      rfl
    have g1 : (y :: t).map (fun y => rowb h y k last) = rowb h y k last :: t.map (fun y => rowb h y k last) := rfl
    have r1 : List.range' P.length (y :: t).length = P.length :: List.range' (P ++ [rowb h y k last]).length t.length := by
      rw [List.length_cons, List.range'_succ, List.length_append]
      rfl
    rw [r1, List.map_cons, forL_nx (e' := [.sh tab, .own (.ls (((P ++ [rowb h y k last]) ++ t).map iL)), .sh (.int last), .sh (.int (k : Int)), .sh (.int (P.length : Int)), .un])]
    · rw [w, g1, List.append_assoc]
      rfl
    · generalize hT : (P ++ y :: t).map iL = T at *
      rcases hx with rfl | ⟨d, rfl⟩ <;> simp [i1, i2, e, n1, s1, z_callR, -List.map_append, -List.append_assoc]
theorem step_no {tab : D} {T : List D} {K : Int} {last : D} (e : F_led_head [.io (.ls T), .sh (.int K)] = .ok (.sh (.bool false)) [.io (.ls T), .sh (.int K)]) {x3 x4 : Sl} (h3 : Us x3) :
    ∃ e', for1 (gSet 3) bodR (.int K) [.sh tab, .own (.ls T), .sh last, x3, x4, .un] = .ok (.rt (.sh .none)) (.sh tab :: e') := by
  rcases h3 with rfl | ⟨d, rfl⟩
  · exact ⟨_, by simp [e, z_callR]; rfl⟩
  · exact ⟨_, by simp [e, z_callR]; rfl⟩
theorem step_yes_a {tab : D} {T T1 T2 : List D} {K K1 N last q : Int} {L : List D} {hd : D} (e : F_led_head [.io (.ls T), .sh (.int K)] = .ok (.sh (.bool true)) [.io (.ls T1), .sh (.int K)]) (hK1 : K + 1 = K1) (sk : small62 K1 = true) (sn : small62 N = true) (hN : bLen [.list T1] = some (.int N))
    (hL : ((List.range (N - K1).toNat).map fun (i : Nat) => (PyData.int (K1 + (i : Int)) : D)) = L) {x3 x4 x4' : Sl} (h3 : Us x3)
    (w : forL (gSet 4) innB L [.sh tab, .own (.ls T1), .sh (.int last), .sh (.int K), x4, .un] = .ok .nx [.sh tab, .own (.ls T2), .sh (.int last), .sh (.int K), x4', .un]) (i1 : dIx (.list T2) (.int K) = some hd) (i2 : dIx hd (.int K) = some (.int q)) :
    for1 (gSet 3) bodR (.int K) [.sh tab, .own (.ls T), .sh (.int last), x3, x4, .un] = .ok .nx [.sh tab, .own (.ls T2), .sh (.int q), .sh (.int K), x4', .un] := by
  unfold innB at w
  rcases h3 with rfl | ⟨d, rfl⟩ <;> simp [e, z_callR, hK1, sk, sn, hN, hL, w, i1, i2]
end K45
set_option Elab.async false
set_option linter.all false
set_option maxRecDepth 100000
set_option maxHeartbeats 4000000
namespace K45
/-! ### determinants of few rows -/
def det2 (a b : Nat → Int) (p q : Nat) : Int := a p * b q - a q * b p
def det3 (a b c : Nat → Int) (p q r : Nat) : Int := a p * det2 b c q r - a q * det2 b c p r + a r * det2 b c p q
def det4 (a b c d : Nat → Int) (p q r s : Nat) : Int := a p * det3 b c d q r s - a q * det3 b c d p r s + a r * det3 b c d p q s - a s * det3 b c d p q r
theorem sylv2 (a b y : Nat → Int) (j : Nat) : det2 a y 0 j * det2 a b 0 1 - det2 a y 0 1 * det2 a b 0 j = a 0 * det3 a b y 0 1 j := by
  simp only [det2, det3]
  generalize a 0 = a0
  generalize a 1 = a1
  generalize a j = aj
  generalize b 0 = b0
  generalize b 1 = b1
  generalize b j = bj
  generalize y 0 = y0
  generalize y 1 = y1
  generalize y j = yj
  grind
theorem sylv3 (a b c y : Nat → Int) (j : Nat) : det3 a b y 0 1 j * det3 a b c 0 1 2 - det3 a b y 0 1 2 * det3 a b c 0 1 j = det2 a b 0 1 * det4 a b c y 0 1 2 j := by
  simp only [det2, det3, det4]
  generalize a 0 = a0
  generalize a 1 = a1
  generalize a 2 = a2
  generalize a j = aj
  generalize b 0 = b0
  generalize b 1 = b1
  generalize b 2 = b2
  generalize b j = bj
  generalize c 0 = c0
  generalize c 1 = c1
  generalize c 2 = c2
  generalize c j = cj
  generalize y 0 = y0
  generalize y 1 = y1
  generalize y 2 = y2
  generalize y j = yj
  grind
end K45
namespace K45
/-! ### Cramer's rule -/
def q2 (a b : Nat → Rat) (p q : Nat) : Rat := a p * b q - a q * b p
def q3 (a b c : Nat → Rat) (p q r : Nat) : Rat := a p * q2 b c q r - a q * q2 b c p r + a r * q2 b c p q
def q4 (a b c d : Nat → Rat) (p q r s : Nat) : Rat := a p * q3 b c d q r s - a q * q3 b c d p r s + a r * q3 b c d p q s - a s * q3 b c d p q r
def cq (a : Nat → Int) : Nat → Rat := fun j => (a j : Rat)
theorem c_det2 (a b : Nat → Int) (p q : Nat) : ((det2 a b p q : Int) : Rat) = q2 (cq a) (cq b) p q := by
  simp only [det2, q2, cq, Rat.intCast_sub, Rat.intCast_mul]
theorem c_det3 (a b c : Nat → Int) (p q r : Nat) : ((det3 a b c p q r : Int) : Rat) = q3 (cq a) (cq b) (cq c) p q r := by
  simp only [det3, q3, Rat.intCast_sub, Rat.intCast_mul, Rat.intCast_add, c_det2]
  rfl
theorem c_det4 (a b c d : Nat → Int) (p q r s : Nat) : ((det4 a b c d p q r s : Int) : Rat) = q4 (cq a) (cq b) (cq c) (cq d) p q r s := by
  simp only [det4, q4, Rat.intCast_sub, Rat.intCast_mul, Rat.intCast_add, c_det3]
  rfl
theorem cr2 {a b : Nat → Rat} {D x0 x1 : Rat} (hD : D = q2 a b 0 1) (ha : a 0 * x0 + a 1 * x1 = D * a 2) (hb : b 0 * x0 + b 1 * x1 = D * b 2) : D * x0 = D * q2 a b 2 1 ∧ D * x1 = D * q2 a b 0 2 := by
  simp only [q2] at *
  generalize a 0 = a0 at *
  generalize a 1 = a1 at *
  generalize a 2 = a2 at *
  generalize b 0 = b0 at *
  generalize b 1 = b1 at *
  generalize b 2 = b2 at *
  constructor
  · have e : D * (a2 * b1 - a1 * b2) = b1 * (D * a2) - a1 * (D * b2) := by grind
    rw [e, ← ha, ← hb, hD]
    clear ha hb hD e
    grind
  · have e : D * (a0 * b2 - a2 * b0) = a0 * (D * b2) - b0 * (D * a2) := by grind
    rw [e, ← ha, ← hb, hD]
    clear ha hb hD e
    grind
theorem cr3 {a b c : Nat → Rat} {D x0 x1 x2 : Rat} (hD : D = q3 a b c 0 1 2) (ha : a 0 * x0 + a 1 * x1 + a 2 * x2 = D * a 3) (hb : b 0 * x0 + b 1 * x1 + b 2 * x2 = D * b 3) (hc : c 0 * x0 + c 1 * x1 + c 2 * x2 = D * c 3) :
    D * x0 = D * q3 a b c 3 1 2 ∧ D * x1 = D * q3 a b c 0 3 2 ∧ D * x2 = D * q3 a b c 0 1 3 := by
  simp only [q2, q3] at *
  generalize a 0 = a0 at *
  generalize a 1 = a1 at *
  generalize a 2 = a2 at *
  generalize a 3 = a3 at *
  generalize b 0 = b0 at *
  generalize b 1 = b1 at *
  generalize b 2 = b2 at *
  generalize b 3 = b3 at *
  generalize c 0 = c0 at *
  generalize c 1 = c1 at *
  generalize c 2 = c2 at *
  generalize c 3 = c3 at *
  refine ⟨?_, ?_, ?_⟩
  · have e : D * (a3 * (b1 * c2 - b2 * c1) - a1 * (b3 * c2 - b2 * c3) + a2 * (b3 * c1 - b1 * c3)) = (D * a3) * (b1 * c2 - b2 * c1) - a1 * ((D * b3) * c2 - b2 * (D * c3)) + a2 * ((D * b3) * c1 - b1 * (D * c3)) := by grind
    rw [e, ← ha, ← hb, ← hc, hD]
    clear ha hb hc hD e
    grind
  · have e : D * (a0 * (b3 * c2 - b2 * c3) - a3 * (b0 * c2 - b2 * c0) + a2 * (b0 * c3 - b3 * c0)) = a0 * ((D * b3) * c2 - b2 * (D * c3)) - (D * a3) * (b0 * c2 - b2 * c0) + a2 * (b0 * (D * c3) - (D * b3) * c0) := by grind
    rw [e, ← ha, ← hb, ← hc, hD]
    clear ha hb hc hD e
    grind
  · have e : D * (a0 * (b1 * c3 - b3 * c1) - a1 * (b0 * c3 - b3 * c0) + a3 * (b0 * c1 - b1 * c0)) = a0 * (b1 * (D * c3) - (D * b3) * c1) - a1 * (b0 * (D * c3) - (D * b3) * c0) + (D * a3) * (b0 * c1 - b1 * c0) := by grind
    rw [e, ← ha, ← hb, ← hc, hD]
    clear ha hb hc hD e
    grind
end K45
set_option Elab.async false
set_option linter.all false
set_option maxRecDepth 100000
set_option maxHeartbeats 4000000
namespace K45
theorem crs4_0 (a0 a1 a2 a3 a4 b0 b1 b2 b3 b4 c0 c1 c2 c3 c4 d0 d1 d2 d3 d4 x0 x1 x2 x3 : Rat) : ((a0 * x0 + a1 * x1 + a2 * x2 + a3 * x3) * (b1 * (c2 * d3 - c3 * d2) - b2 * (c1 * d3 - c3 * d1) + b3 * (c1 * d2 - c2 * d1)) - a1 * ((b0 * x0 + b1 * x1 + b2 * x2 + b3 * x3) * (c2 * d3 - c3 * d2) - b2 * ((c0 * x0 + c1 * x1 + c2 * x2 + c3 * x3) * d3 - c3 * (d0 * x0 + d1 * x1 + d2 * x2 + d3 * x3)) + b3 * ((c0 * x0 + c1 * x1 + c2 * x2 + c3 * x3) * d2 - c2 * (d0 * x0 + d1 * x1 + d2 * x2 + d3 * x3))) + a2 * ((b0 * x0 + b1 * x1 + b2 * x2 + b3 * x3) * (c1 * d3 - c3 * d1) - b1 * ((c0 * x0 + c1 * x1 + c2 * x2 + c3 * x3) * d3 - c3 * (d0 * x0 + d1 * x1 + d2 * x2 + d3 * x3)) + b3 * ((c0 * x0 + c1 * x1 + c2 * x2 + c3 * x3) * d1 - c1 * (d0 * x0 + d1 * x1 + d2 * x2 + d3 * x3))) - a3 * ((b0 * x0 + b1 * x1 + b2 * x2 + b3 * x3) * (c1 * d2 - c2 * d1) - b1 * ((c0 * x0 + c1 * x1 + c2 * x2 + c3 * x3) * d2 - c2 * (d0 * x0 + d1 * x1 + d2 * x2 + d3 * x3)) + b2 * ((c0 * x0 + c1 * x1 + c2 * x2 + c3 * x3) * d1 - c1 * (d0 * x0 + d1 * x1 + d2 * x2 + d3 * x3)))) = (a0 * (b1 * (c2 * d3 - c3 * d2) - b2 * (c1 * d3 - c3 * d1) + b3 * (c1 * d2 - c2 * d1)) - a1 * (b0 * (c2 * d3 - c3 * d2) - b2 * (c0 * d3 - c3 * d0) + b3 * (c0 * d2 - c2 * d0)) + a2 * (b0 * (c1 * d3 - c3 * d1) - b1 * (c0 * d3 - c3 * d0) + b3 * (c0 * d1 - c1 * d0)) - a3 * (b0 * (c1 * d2 - c2 * d1) - b1 * (c0 * d2 - c2 * d0) + b2 * (c0 * d1 - c1 * d0))) * x0 := by grind
theorem crd4_0 (a0 a1 a2 a3 a4 b0 b1 b2 b3 b4 c0 c1 c2 c3 c4 d0 d1 d2 d3 d4 D : Rat) : D * (a4 * (b1 * (c2 * d3 - c3 * d2) - b2 * (c1 * d3 - c3 * d1) + b3 * (c1 * d2 - c2 * d1)) - a1 * (b4 * (c2 * d3 - c3 * d2) - b2 * (c4 * d3 - c3 * d4) + b3 * (c4 * d2 - c2 * d4)) + a2 * (b4 * (c1 * d3 - c3 * d1) - b1 * (c4 * d3 - c3 * d4) + b3 * (c4 * d1 - c1 * d4)) - a3 * (b4 * (c1 * d2 - c2 * d1) - b1 * (c4 * d2 - c2 * d4) + b2 * (c4 * d1 - c1 * d4))) = ((D * a4) * (b1 * (c2 * d3 - c3 * d2) - b2 * (c1 * d3 - c3 * d1) + b3 * (c1 * d2 - c2 * d1)) - a1 * ((D * b4) * (c2 * d3 - c3 * d2) - b2 * ((D * c4) * d3 - c3 * (D * d4)) + b3 * ((D * c4) * d2 - c2 * (D * d4))) + a2 * ((D * b4) * (c1 * d3 - c3 * d1) - b1 * ((D * c4) * d3 - c3 * (D * d4)) + b3 * ((D * c4) * d1 - c1 * (D * d4))) - a3 * ((D * b4) * (c1 * d2 - c2 * d1) - b1 * ((D * c4) * d2 - c2 * (D * d4)) + b2 * ((D * c4) * d1 - c1 * (D * d4)))) := by grind
theorem crs4_1 (a0 a1 a2 a3 a4 b0 b1 b2 b3 b4 c0 c1 c2 c3 c4 d0 d1 d2 d3 d4 x0 x1 x2 x3 : Rat) : (a0 * ((b0 * x0 + b1 * x1 + b2 * x2 + b3 * x3) * (c2 * d3 - c3 * d2) - b2 * ((c0 * x0 + c1 * x1 + c2 * x2 + c3 * x3) * d3 - c3 * (d0 * x0 + d1 * x1 + d2 * x2 + d3 * x3)) + b3 * ((c0 * x0 + c1 * x1 + c2 * x2 + c3 * x3) * d2 - c2 * (d0 * x0 + d1 * x1 + d2 * x2 + d3 * x3))) - (a0 * x0 + a1 * x1 + a2 * x2 + a3 * x3) * (b0 * (c2 * d3 - c3 * d2) - b2 * (c0 * d3 - c3 * d0) + b3 * (c0 * d2 - c2 * d0)) + a2 * (b0 * ((c0 * x0 + c1 * x1 + c2 * x2 + c3 * x3) * d3 - c3 * (d0 * x0 + d1 * x1 + d2 * x2 + d3 * x3)) - (b0 * x0 + b1 * x1 + b2 * x2 + b3 * x3) * (c0 * d3 - c3 * d0) + b3 * (c0 * (d0 * x0 + d1 * x1 + d2 * x2 + d3 * x3) - (c0 * x0 + c1 * x1 + c2 * x2 + c3 * x3) * d0)) - a3 * (b0 * ((c0 * x0 + c1 * x1 + c2 * x2 + c3 * x3) * d2 - c2 * (d0 * x0 + d1 * x1 + d2 * x2 + d3 * x3)) - (b0 * x0 + b1 * x1 + b2 * x2 + b3 * x3) * (c0 * d2 - c2 * d0) + b2 * (c0 * (d0 * x0 + d1 * x1 + d2 * x2 + d3 * x3) - (c0 * x0 + c1 * x1 + c2 * x2 + c3 * x3) * d0))) = (a0 * (b1 * (c2 * d3 - c3 * d2) - b2 * (c1 * d3 - c3 * d1) + b3 * (c1 * d2 - c2 * d1)) - a1 * (b0 * (c2 * d3 - c3 * d2) - b2 * (c0 * d3 - c3 * d0) + b3 * (c0 * d2 - c2 * d0)) + a2 * (b0 * (c1 * d3 - c3 * d1) - b1 * (c0 * d3 - c3 * d0) + b3 * (c0 * d1 - c1 * d0)) - a3 * (b0 * (c1 * d2 - c2 * d1) - b1 * (c0 * d2 - c2 * d0) + b2 * (c0 * d1 - c1 * d0))) * x1 := by grind
theorem crd4_1 (a0 a1 a2 a3 a4 b0 b1 b2 b3 b4 c0 c1 c2 c3 c4 d0 d1 d2 d3 d4 D : Rat) : D * (a0 * (b4 * (c2 * d3 - c3 * d2) - b2 * (c4 * d3 - c3 * d4) + b3 * (c4 * d2 - c2 * d4)) - a4 * (b0 * (c2 * d3 - c3 * d2) - b2 * (c0 * d3 - c3 * d0) + b3 * (c0 * d2 - c2 * d0)) + a2 * (b0 * (c4 * d3 - c3 * d4) - b4 * (c0 * d3 - c3 * d0) + b3 * (c0 * d4 - c4 * d0)) - a3 * (b0 * (c4 * d2 - c2 * d4) - b4 * (c0 * d2 - c2 * d0) + b2 * (c0 * d4 - c4 * d0))) = (a0 * ((D * b4) * (c2 * d3 - c3 * d2) - b2 * ((D * c4) * d3 - c3 * (D * d4)) + b3 * ((D * c4) * d2 - c2 * (D * d4))) - (D * a4) * (b0 * (c2 * d3 - c3 * d2) - b2 * (c0 * d3 - c3 * d0) + b3 * (c0 * d2 - c2 * d0)) + a2 * (b0 * ((D * c4) * d3 - c3 * (D * d4)) - (D * b4) * (c0 * d3 - c3 * d0) + b3 * (c0 * (D * d4) - (D * c4) * d0)) - a3 * (b0 * ((D * c4) * d2 - c2 * (D * d4)) - (D * b4) * (c0 * d2 - c2 * d0) + b2 * (c0 * (D * d4) - (D * c4) * d0))) := by grind
theorem crs4_2 (a0 a1 a2 a3 a4 b0 b1 b2 b3 b4 c0 c1 c2 c3 c4 d0 d1 d2 d3 d4 x0 x1 x2 x3 : Rat) : (a0 * (b1 * ((c0 * x0 + c1 * x1 + c2 * x2 + c3 * x3) * d3 - c3 * (d0 * x0 + d1 * x1 + d2 * x2 + d3 * x3)) - (b0 * x0 + b1 * x1 + b2 * x2 + b3 * x3) * (c1 * d3 - c3 * d1) + b3 * (c1 * (d0 * x0 + d1 * x1 + d2 * x2 + d3 * x3) - (c0 * x0 + c1 * x1 + c2 * x2 + c3 * x3) * d1)) - a1 * (b0 * ((c0 * x0 + c1 * x1 + c2 * x2 + c3 * x3) * d3 - c3 * (d0 * x0 + d1 * x1 + d2 * x2 + d3 * x3)) - (b0 * x0 + b1 * x1 + b2 * x2 + b3 * x3) * (c0 * d3 - c3 * d0) + b3 * (c0 * (d0 * x0 + d1 * x1 + d2 * x2 + d3 * x3) - (c0 * x0 + c1 * x1 + c2 * x2 + c3 * x3) * d0)) + (a0 * x0 + a1 * x1 + a2 * x2 + a3 * x3) * (b0 * (c1 * d3 - c3 * d1) - b1 * (c0 * d3 - c3 * d0) + b3 * (c0 * d1 - c1 * d0)) - a3 * (b0 * (c1 * (d0 * x0 + d1 * x1 + d2 * x2 + d3 * x3) - (c0 * x0 + c1 * x1 + c2 * x2 + c3 * x3) * d1) - b1 * (c0 * (d0 * x0 + d1 * x1 + d2 * x2 + d3 * x3) - (c0 * x0 + c1 * x1 + c2 * x2 + c3 * x3) * d0) + (b0 * x0 + b1 * x1 + b2 * x2 + b3 * x3) * (c0 * d1 - c1 * d0))) = (a0 * (b1 * (c2 * d3 - c3 * d2) - b2 * (c1 * d3 - c3 * d1) + b3 * (c1 * d2 - c2 * d1)) - a1 * (b0 * (c2 * d3 - c3 * d2) - b2 * (c0 * d3 - c3 * d0) + b3 * (c0 * d2 - c2 * d0)) + a2 * (b0 * (c1 * d3 - c3 * d1) - b1 * (c0 * d3 - c3 * d0) + b3 * (c0 * d1 - c1 * d0)) - a3 * (b0 * (c1 * d2 - c2 * d1) - b1 * (c0 * d2 - c2 * d0) + b2 * (c0 * d1 - c1 * d0))) * x2 := by grind
theorem crd4_2 (a0 a1 a2 a3 a4 b0 b1 b2 b3 b4 c0 c1 c2 c3 c4 d0 d1 d2 d3 d4 D : Rat) : D * (a0 * (b1 * (c4 * d3 - c3 * d4) - b4 * (c1 * d3 - c3 * d1) + b3 * (c1 * d4 - c4 * d1)) - a1 * (b0 * (c4 * d3 - c3 * d4) - b4 * (c0 * d3 - c3 * d0) + b3 * (c0 * d4 - c4 * d0)) + a4 * (b0 * (c1 * d3 - c3 * d1) - b1 * (c0 * d3 - c3 * d0) + b3 * (c0 * d1 - c1 * d0)) - a3 * (b0 * (c1 * d4 - c4 * d1) - b1 * (c0 * d4 - c4 * d0) + b4 * (c0 * d1 - c1 * d0))) = (a0 * (b1 * ((D * c4) * d3 - c3 * (D * d4)) - (D * b4) * (c1 * d3 - c3 * d1) + b3 * (c1 * (D * d4) - (D * c4) * d1)) - a1 * (b0 * ((D * c4) * d3 - c3 * (D * d4)) - (D * b4) * (c0 * d3 - c3 * d0) + b3 * (c0 * (D * d4) - (D * c4) * d0)) + (D * a4) * (b0 * (c1 * d3 - c3 * d1) - b1 * (c0 * d3 - c3 * d0) + b3 * (c0 * d1 - c1 * d0)) - a3 * (b0 * (c1 * (D * d4) - (D * c4) * d1) - b1 * (c0 * (D * d4) - (D * c4) * d0) + (D * b4) * (c0 * d1 - c1 * d0))) := by grind
theorem crs4_3 (a0 a1 a2 a3 a4 b0 b1 b2 b3 b4 c0 c1 c2 c3 c4 d0 d1 d2 d3 d4 x0 x1 x2 x3 : Rat) : (a0 * (b1 * (c2 * (d0 * x0 + d1 * x1 + d2 * x2 + d3 * x3) - (c0 * x0 + c1 * x1 + c2 * x2 + c3 * x3) * d2) - b2 * (c1 * (d0 * x0 + d1 * x1 + d2 * x2 + d3 * x3) - (c0 * x0 + c1 * x1 + c2 * x2 + c3 * x3) * d1) + (b0 * x0 + b1 * x1 + b2 * x2 + b3 * x3) * (c1 * d2 - c2 * d1)) - a1 * (b0 * (c2 * (d0 * x0 + d1 * x1 + d2 * x2 + d3 * x3) - (c0 * x0 + c1 * x1 + c2 * x2 + c3 * x3) * d2) - b2 * (c0 * (d0 * x0 + d1 * x1 + d2 * x2 + d3 * x3) - (c0 * x0 + c1 * x1 + c2 * x2 + c3 * x3) * d0) + (b0 * x0 + b1 * x1 + b2 * x2 + b3 * x3) * (c0 * d2 - c2 * d0)) + a2 * (b0 * (c1 * (d0 * x0 + d1 * x1 + d2 * x2 + d3 * x3) - (c0 * x0 + c1 * x1 + c2 * x2 + c3 * x3) * d1) - b1 * (c0 * (d0 * x0 + d1 * x1 + d2 * x2 + d3 * x3) - (c0 * x0 + c1 * x1 + c2 * x2 + c3 * x3) * d0) + (b0 * x0 + b1 * x1 + b2 * x2 + b3 * x3) * (c0 * d1 - c1 * d0)) - (a0 * x0 + a1 * x1 + a2 * x2 + a3 * x3) * (b0 * (c1 * d2 - c2 * d1) - b1 * (c0 * d2 - c2 * d0) + b2 * (c0 * d1 - c1 * d0))) = (a0 * (b1 * (c2 * d3 - c3 * d2) - b2 * (c1 * d3 - c3 * d1) + b3 * (c1 * d2 - c2 * d1)) - a1 * (b0 * (c2 * d3 - c3 * d2) - b2 * (c0 * d3 - c3 * d0) + b3 * (c0 * d2 - c2 * d0)) + a2 * (b0 * (c1 * d3 - c3 * d1) - b1 * (c0 * d3 - c3 * d0) + b3 * (c0 * d1 - c1 * d0)) - a3 * (b0 * (c1 * d2 - c2 * d1) - b1 * (c0 * d2 - c2 * d0) + b2 * (c0 * d1 - c1 * d0))) * x3 := by grind
theorem crd4_3 (a0 a1 a2 a3 a4 b0 b1 b2 b3 b4 c0 c1 c2 c3 c4 d0 d1 d2 d3 d4 D : Rat) : D * (a0 * (b1 * (c2 * d4 - c4 * d2) - b2 * (c1 * d4 - c4 * d1) + b4 * (c1 * d2 - c2 * d1)) - a1 * (b0 * (c2 * d4 - c4 * d2) - b2 * (c0 * d4 - c4 * d0) + b4 * (c0 * d2 - c2 * d0)) + a2 * (b0 * (c1 * d4 - c4 * d1) - b1 * (c0 * d4 - c4 * d0) + b4 * (c0 * d1 - c1 * d0)) - a4 * (b0 * (c1 * d2 - c2 * d1) - b1 * (c0 * d2 - c2 * d0) + b2 * (c0 * d1 - c1 * d0))) = (a0 * (b1 * (c2 * (D * d4) - (D * c4) * d2) - b2 * (c1 * (D * d4) - (D * c4) * d1) + (D * b4) * (c1 * d2 - c2 * d1)) - a1 * (b0 * (c2 * (D * d4) - (D * c4) * d2) - b2 * (c0 * (D * d4) - (D * c4) * d0) + (D * b4) * (c0 * d2 - c2 * d0)) + a2 * (b0 * (c1 * (D * d4) - (D * c4) * d1) - b1 * (c0 * (D * d4) - (D * c4) * d0) + (D * b4) * (c0 * d1 - c1 * d0)) - (D * a4) * (b0 * (c1 * d2 - c2 * d1) - b1 * (c0 * d2 - c2 * d0) + b2 * (c0 * d1 - c1 * d0))) := by grind
theorem cr4 {a b c d : Nat → Rat} {D x0 x1 x2 x3 : Rat} (hD : D = q4 a b c d 0 1 2 3) (ha : a 0 * x0 + a 1 * x1 + a 2 * x2 + a 3 * x3 = D * a 4) (hb : b 0 * x0 + b 1 * x1 + b 2 * x2 + b 3 * x3 = D * b 4) (hc : c 0 * x0 + c 1 * x1 + c 2 * x2 + c 3 * x3 = D * c 4) (hd : d 0 * x0 + d 1 * x1 + d 2 * x2 + d 3 * x3 = D * d 4) :
    D * x0 = D * q4 a b c d 4 1 2 3 ∧ D * x1 = D * q4 a b c d 0 4 2 3 ∧ D * x2 = D * q4 a b c d 0 1 4 3 ∧ D * x3 = D * q4 a b c d 0 1 2 4 := by
  simp only [q2, q3, q4] at *
  generalize a 0 = a0 at *
  generalize a 1 = a1 at *
  generalize a 2 = a2 at *
  generalize a 3 = a3 at *
  generalize a 4 = a4 at *
  generalize b 0 = b0 at *
  generalize b 1 = b1 at *
  generalize b 2 = b2 at *
  generalize b 3 = b3 at *
  generalize b 4 = b4 at *
  generalize c 0 = c0 at *
  generalize c 1 = c1 at *
  generalize c 2 = c2 at *
  generalize c 3 = c3 at *
  generalize c 4 = c4 at *
  generalize d 0 = d0 at *
  generalize d 1 = d1 at *
  generalize d 2 = d2 at *
  generalize d 3 = d3 at *
  generalize d 4 = d4 at *
  refine ⟨?_, ?_, ?_, ?_⟩
  · rw [crd4_0 a0 a1 a2 a3 a4 b0 b1 b2 b3 b4 c0 c1 c2 c3 c4 d0 d1 d2 d3 d4 D, ← ha, ← hb, ← hc, ← hd, crs4_0 a0 a1 a2 a3 a4 b0 b1 b2 b3 b4 c0 c1 c2 c3 c4 d0 d1 d2 d3 d4 x0 x1 x2 x3, hD]
  · rw [crd4_1 a0 a1 a2 a3 a4 b0 b1 b2 b3 b4 c0 c1 c2 c3 c4 d0 d1 d2 d3 d4 D, ← ha, ← hb, ← hc, ← hd, crs4_1 a0 a1 a2 a3 a4 b0 b1 b2 b3 b4 c0 c1 c2 c3 c4 d0 d1 d2 d3 d4 x0 x1 x2 x3, hD]
  · rw [crd4_2 a0 a1 a2 a3 a4 b0 b1 b2 b3 b4 c0 c1 c2 c3 c4 d0 d1 d2 d3 d4 D, ← ha, ← hb, ← hc, ← hd, crs4_2 a0 a1 a2 a3 a4 b0 b1 b2 b3 b4 c0 c1 c2 c3 c4 d0 d1 d2 d3 d4 x0 x1 x2 x3, hD]
  · rw [crd4_3 a0 a1 a2 a3 a4 b0 b1 b2 b3 b4 c0 c1 c2 c3 c4 d0 d1 d2 d3 d4 D, ← ha, ← hb, ← hc, ← hd, crs4_3 a0 a1 a2 a3 a4 b0 b1 b2 b3 b4 c0 c1 c2 c3 c4 d0 d1 d2 d3 d4 x0 x1 x2 x3, hD]
end K45
set_option Elab.async false
set_option linter.all false
set_option maxRecDepth 100000
set_option maxHeartbeats 4000000
namespace K45
def ri (r : List Int) : Nat → Int := fun j => r.getD j 0
def F : List (List Int) → List Int → Nat → Int
  | [], y => ri y
  | [a], y => fun j => det2 (ri a) (ri y) 0 j
  | [a, b], y => fun j => det3 (ri a) (ri b) (ri y) 0 1 j
  | [a, b, c], y => fun j => det4 (ri a) (ri b) (ri c) (ri y) 0 1 2 j
  | _, _ => fun _ => 0
def lst : List (List Int) → Int
  | [] => 1
  | [a] => F [] a 0
  | [a, b] => F [a] b 1
  | [a, b, c] => F [a, b] c 2
  | [a, b, c, d] => F [a, b, c] d 3
  | _ => 1
def frow (n : Nat) (ds : List (List Int)) (y : List Int) : List Int := (List.range (n + 1)).map (F ds y)
theorem frow_len (n : Nat) (ds : List (List Int)) (y : List Int) : (frow n ds y).length = n + 1 := by rw [frow, List.length_map, List.length_range]
theorem frow_at {n j : Nat} (ds : List (List Int)) (y : List Int) (h : j ≤ n) : (frow n ds y).getD j 0 = F ds y j := by
  unfold frow
  rw [List.getD_eq_getElem?_getD, List.getElem?_map, List.getElem?_range (by omega)]
  rfl
theorem frow_nil {n : Nat} {y : List Int} (h : y.length = n + 1) : frow n [] y = y := by
  apply List.ext_getElem?
  intro j
  by_cases hj : j < n + 1
  · unfold frow
    rw [List.getElem?_map, List.getElem?_range hj, getDI_ix (by omega)]
    rfl
  · rw [List.getElem?_eq_none (by rw [frow_len]; omega), List.getElem?_eq_none (by omega)]
theorem bare_id {ds : List (List Int)} (h : ds.length ≤ 2) (w z : List Int) (j : Nat) : F ds z j * F ds w ds.length - F ds z ds.length * F ds w j = lst ds * F (ds ++ [w]) z j := by
  match ds, h with
  | [], _ =>
    show ri z j * ri w 0 - ri z 0 * ri w j = 1 * det2 (ri w) (ri z) 0 j
    unfold det2
    grind
  | [a], _ => exact sylv2 (ri a) (ri w) (ri z) j
  | [a, b], _ => exact sylv3 (ri a) (ri b) (ri w) (ri z) j
theorem F_zero {ds : List (List Int)} (h : ds.length ≤ 3) (y : List Int) {j : Nat} (hj : j < ds.length) : F ds y j = 0 := by
  match ds, h, hj with
  | [a], _, hj =>
    obtain rfl : j = 0 := by simp at hj; omega
    show det2 (ri a) (ri y) 0 0 = 0
    unfold det2
    grind
  | [a, b], _, hj =>
    have : j = 0 ∨ j = 1 := by simp at hj; omega
    rcases this with rfl | rfl
    · show det3 (ri a) (ri b) (ri y) 0 1 0 = 0
      unfold det3 det2
      grind
    · show det3 (ri a) (ri b) (ri y) 0 1 1 = 0
      unfold det3 det2
      grind
  | [a, b, c], _, hj =>
    have : j = 0 ∨ j = 1 ∨ j = 2 := by simp at hj; omega
    rcases this with rfl | rfl | rfl
    · show det4 (ri a) (ri b) (ri c) (ri y) 0 1 2 0 = 0
      unfold det4 det3 det2
      grind
    · show det4 (ri a) (ri b) (ri c) (ri y) 0 1 2 1 = 0
      unfold det4 det3 det2
      grind
    · show det4 (ri a) (ri b) (ri c) (ri y) 0 1 2 2 = 0
      unfold det4 det3 det2
      grind
theorem rowb_frow {n : Nat} {ds : List (List Int)} (h : ds.length ≤ 2) (hn : ds.length ≤ n) (h0 : lst ds ≠ 0) (w z : List Int) : rowb (frow n ds w) (frow n ds z) ds.length (lst ds) = frow n (ds ++ [w]) z := by
  unfold rowb
  rw [frow_at ds w hn, frow_at ds z hn]
  unfold frow
  rw [List.zip_map', List.map_map]
  apply List.map_congr_left
  intro j _
  show (F ds z j * F ds w ds.length - F ds z ds.length * F ds w j).fdiv (lst ds) = F (ds ++ [w]) z j
  rw [bare_id h, Int.mul_fdiv_cancel_left _ h0]
/-! ### whole rows at vectors -/
def Zi (n : Nat) (r : List Int) (v : Nat → Rat) : Rat := S (n + 1) fun j => (r.getD j 0 : Rat) * v j
def Za (n : Nat) (m : List (List Int)) (v : Nat → Rat) : Prop := ∀ r ∈ m, Zi n r v = 0
theorem Zi_step {n : Nat} {ds : List (List Int)} (h : ds.length ≤ 2) (hn : ds.length ≤ n) (w z : List Int) (v : Nat → Rat) :
    Zi n (frow n ds z) v * (F ds w ds.length : Rat) - (F ds z ds.length : Rat) * Zi n (frow n ds w) v = (lst ds : Rat) * Zi n (frow n (ds ++ [w]) z) v := by
  unfold Zi
  have e1 : S (n + 1) (fun j => ((frow n ds z).getD j 0 : Rat) * v j) * (F ds w ds.length : Rat) = S (n + 1) (fun j => (((frow n ds z).getD j 0 : Rat) * v j) * (F ds w ds.length : Rat)) := S_mul.symm
  have e2 : (F ds z ds.length : Rat) * S (n + 1) (fun j => ((frow n ds w).getD j 0 : Rat) * v j) = S (n + 1) (fun j => (((frow n ds w).getD j 0 : Rat) * v j) * (F ds z ds.length : Rat)) := by
    rw [S_mul]
    grind
  have e3 : (lst ds : Rat) * S (n + 1) (fun j => ((frow n (ds ++ [w]) z).getD j 0 : Rat) * v j) = S (n + 1) (fun j => (((frow n (ds ++ [w]) z).getD j 0 : Rat) * v j) * (lst ds : Rat)) := by
    rw [S_mul]
    grind
  rw [e1, e2, e3, ← S_sub]
  refine S_ext fun j hj => ?_
  rw [frow_at ds z (by omega), frow_at ds w (by omega), frow_at (ds ++ [w]) z (by omega)]
  have := congrArg (fun t : Int => (t : Rat)) (bare_id h w z j)
  simp only [Rat.intCast_sub, Rat.intCast_mul] at this
  grind
def dn (n : Nat) (ds : List (List Int)) : List (List Int) := (List.range ds.length).map fun i => frow n (ds.take i) (ds.getD i [])
theorem dn_app (n : Nat) (ds : List (List Int)) (y : List Int) : dn n (ds ++ [y]) = dn n ds ++ [frow n ds y] := by
  unfold dn
  rw [List.length_append, List.length_singleton, List.range_succ, List.map_append]
  congr 1
  · apply List.map_congr_left
    intro i hi
    have hi := List.mem_range.mp hi
    rw [List.take_append_of_le_length (by omega), List.getD_eq_getElem?_getD, List.getD_eq_getElem?_getD, List.getElem?_append_left hi]
  · show [frow n ((ds ++ [y]).take ds.length) ((ds ++ [y]).getD ds.length [])] = _
    rw [List.take_append_of_le_length (Nat.le_refl _), List.take_length, List.getD_eq_getElem?_getD, List.getElem?_append_right (Nat.le_refl _), Nat.sub_self]
    rfl
structure St (n : Nat) (W ds ws T : List (List Int)) : Prop where
  len : ds.length + ws.length = n
  wid : ∀ x ∈ ds ++ ws, x.length = n + 1
  sub : ∀ x ∈ ds ++ ws, x ∈ W
  eT : T = dn n ds ++ ws.map (frow n ds)
  piv : ∀ i, i < ds.length → F (ds.take i) (ds.getD i []) i ≠ 0
  eqv : ∀ v, Za n W v ↔ Za n T v
theorem St.lst0 {n : Nat} {W ds ws T : List (List Int)} (s : St n W ds ws T) : lst ds ≠ 0 := by
  match ds, s.piv with
  | [], _ => decide
  | [a], p => exact p 0 (by simp)
  | [a, b], p => exact p 1 (by simp)
  | [a, b, c], p => exact p 2 (by simp)
  | [a, b, c, d], p => exact p 3 (by simp)
  | _ :: _ :: _ :: _ :: _ :: _, _ => exact (by decide : (1 : Int) ≠ 0)
end K45
set_option Elab.async false
set_option linter.all false
set_option maxRecDepth 100000
set_option maxHeartbeats 4000000
namespace K45
theorem dn_len (n : Nat) (ds : List (List Int)) : (dn n ds).length = ds.length := by rw [dn, List.length_map, List.length_range]
theorem St.tlen {n : Nat} {W ds ws T : List (List Int)} (s : St n W ds ws T) : T.length = n := by
  rw [s.eT, List.length_append, List.length_map, dn_len]
  exact s.len
theorem St.trow {n : Nat} {W ds ws T : List (List Int)} (s : St n W ds ws T) : ∀ r ∈ T, r.length = n + 1 := fun r hr => by
  rw [s.eT] at hr
  rcases List.mem_append.mp hr with h | h
  · obtain ⟨i, _, rfl⟩ := List.mem_map.mp h
    exact frow_len ..
  · obtain ⟨y, _, rfl⟩ := List.mem_map.mp h
    exact frow_len ..
theorem mem_swap {α : Type} {l : List α} {i : Nat} {a b : α} (ha : l[0]? = some a) (hb : l[i]? = some b) (x : α) : x ∈ (l.set 0 b).set i a ↔ x ∈ l := by
  have l0 := (List.getElem?_eq_some_iff.mp ha).1
  have li := (List.getElem?_eq_some_iff.mp hb).1
  have ma := List.mem_of_getElem? ha
  have mb := List.mem_of_getElem? hb
  constructor
  · intro h
    rcases List.mem_or_eq_of_mem_set h with h | rfl
    · rcases List.mem_or_eq_of_mem_set h with h | rfl
      · exact h
      · exact mb
    · exact ma
  · intro h
    obtain ⟨j, hj⟩ := List.getElem?_of_mem h
    have lj := (List.getElem?_eq_some_iff.mp hj).1
    by_cases e1 : j = i
    · subst e1
      rw [hb] at hj
      cases hj
      by_cases e2 : j = 0
      · subst e2
        rw [hb] at ha
        cases ha
        refine List.mem_of_getElem? (i := 0) ?_
        rw [List.getElem?_set_self (by rw [List.length_set]; exact l0)]
      · refine List.mem_of_getElem? (i := 0) ?_
        rw [List.getElem?_set_ne e2, List.getElem?_set_self l0]
    · by_cases e2 : j = 0
      · subst e2
        rw [ha] at hj
        cases hj
        refine List.mem_of_getElem? (i := i) ?_
        rw [List.getElem?_set_self (by rw [List.length_set]; exact li)]
      · refine List.mem_of_getElem? (i := j) ?_
        rw [List.getElem?_set_ne (fun z => e1 z.symm), List.getElem?_set_ne (fun z => e2 z.symm)]
        exact hj
/-- the table behind one place -/
def nxt (T : List (List Int)) (k j : Nat) (r a : List Int) (last : Int) : List (List Int) := ((T.set k r).set j a).take (k + 1) ++ (((T.set k r).set j a).drop (k + 1)).map fun y => rowb r y k last
theorem St.step {n : Nat} (h4 : n ≤ 4) {W ds ws T : List (List Int)} (s : St n W ds ws T) (hk : ds.length < n) {j : Nat} {r a : List Int} (hj : ds.length ≤ j) (hr : T[j]? = some r) (h0 : r.getD ds.length 0 ≠ 0) (ha : T[ds.length]? = some a) :
    ∃ y wt, St n W (ds ++ [y]) wt (nxt T ds.length j r a (lst ds)) ∧ lst (ds ++ [y]) = r.getD ds.length 0 ∧ ((T.set ds.length r).set j a)[ds.length]? = some r := by
  have tl := s.tlen
  have eT := s.eT
  have k3 : ds.length ≤ 3 := by omega
  rw [eT, List.getElem?_append_right (by rw [dn_len]; exact hj), dn_len, List.getElem?_map] at hr
  rw [eT, List.getElem?_append_right (by rw [dn_len]; exact Nat.le_refl _), dn_len, Nat.sub_self, List.getElem?_map] at ha
  obtain ⟨y, hy, rfl⟩ := Option.map_eq_some_iff.mp hr
  obtain ⟨w0, hw, rfl⟩ := Option.map_eq_some_iff.mp ha
  rw [frow_at ds y (by omega)] at h0
  have ly := (List.getElem?_eq_some_iff.mp hy).1
  obtain ⟨ws', hws⟩ : ∃ ws', ws' = (ws.set 0 y).set (j - ds.length) w0 := ⟨_, rfl⟩
  have lws : ws'.length = ws.length := by rw [hws, List.length_set, List.length_set]
  have mem : ∀ x, x ∈ ws' ↔ x ∈ ws := fun x => by rw [hws]; exact mem_swap hw hy x
  have hd0 : ws'[0]? = some y := by
    rw [hws]
    by_cases e : j - ds.length = 0
    · rw [e] at hy ⊢
      rw [List.getElem?_set_self (by rw [List.length_set]; omega)]
      rw [hw] at hy
      exact hy
    · rw [List.getElem?_set_ne e, List.getElem?_set_self (by omega)]
  obtain ⟨wt, hwt⟩ : ∃ wt, ws' = y :: wt := by
    cases ws' with
    | nil => cases hd0
    | cons b t =>
      cases hd0
      exact ⟨t, rfl⟩
  have T1 : (T.set ds.length (frow n ds y)).set j (frow n ds w0) = dn n ds ++ frow n ds y :: wt.map (frow n ds) := by
    have e : frow n ds y :: wt.map (frow n ds) = ws'.map (frow n ds) := by rw [hwt]; rfl
    rw [e, hws, eT, List.set_append_right (h := by rw [dn_len]; exact Nat.le_refl _), List.set_append_right (h := by rw [dn_len]; exact hj), dn_len, Nat.sub_self, List.map_set, List.map_set]
  have pre : dn n ds ++ frow n ds y :: wt.map (frow n ds) = dn n (ds ++ [y]) ++ wt.map (frow n ds) := by
    rw [dn_app, List.append_assoc]
    rfl
  have lwt : wt.length + 1 = ws.length := by rw [← lws, hwt]; rfl
  have lenp : (dn n (ds ++ [y])).length = ds.length + 1 := by rw [dn_len, List.length_append]; rfl
  have N : nxt T ds.length j (frow n ds y) (frow n ds w0) (lst ds) = dn n (ds ++ [y]) ++ (wt.map (frow n ds)).map fun z => rowb (frow n ds y) z ds.length (lst ds) := by
    unfold nxt
    rw [T1, pre, ← lenp, List.take_left, List.drop_left]
  have case : ds.length ≤ 2 ∨ wt = [] := by
    by_cases e : ds.length ≤ 2
    · exact .inl e
    · exact .inr (List.eq_nil_of_length_eq_zero (by have := s.len; omega))
  have l0 := s.lst0
  have N2 : nxt T ds.length j (frow n ds y) (frow n ds w0) (lst ds) = dn n (ds ++ [y]) ++ wt.map (frow n (ds ++ [y])) := by
    rw [N, List.map_map]
    congr 1
    rcases case with c | c
    · apply List.map_congr_left
      intro z _
      exact rowb_frow c (by omega) l0 y z
    · rw [c]
      rfl
  have el : lst (ds ++ [y]) = F ds y ds.length := by
    match ds, k3 with
    | [], _ => rfl
    | [a], _ => rfl
    | [a, b], _ => rfl
    | [a, b, c], _ => rfl
  have memT : ∀ x, x ∈ dn n ds ++ frow n ds y :: wt.map (frow n ds) ↔ x ∈ T := fun x => by
    have e : frow n ds y :: wt.map (frow n ds) = ws'.map (frow n ds) := by rw [hwt]; rfl
    rw [e, eT, List.mem_append, List.mem_append, List.mem_map, List.mem_map]
    constructor
    · rintro (h | ⟨z, hz, rfl⟩)
      · exact .inl h
      · exact .inr ⟨z, (mem z).mp hz, rfl⟩
    · rintro (h | ⟨z, hz, rfl⟩)
      · exact .inl h
      · exact .inr ⟨z, (mem z).mpr hz, rfl⟩
  refine ⟨y, wt, ⟨by rw [List.length_append, List.length_singleton]; have := s.len; omega, fun x hx => ?_, fun x hx => ?_, N2, fun i hi => ?_, fun v => (s.eqv v).trans ?_⟩, by rw [el, frow_at ds y (by omega)], ?_⟩
  · rw [List.append_assoc] at hx
    rcases List.mem_append.mp hx with h | h
    · exact s.wid x (List.mem_append_left _ h)
    · exact s.wid x (List.mem_append_right _ ((mem x).mp (by rw [hwt]; exact h)))
  · rw [List.append_assoc] at hx
    rcases List.mem_append.mp hx with h | h
    · exact s.sub x (List.mem_append_left _ h)
    · exact s.sub x (List.mem_append_right _ ((mem x).mp (by rw [hwt]; exact h)))
  · rw [List.length_append, List.length_singleton] at hi
    by_cases e : i < ds.length
    · rw [List.take_append_of_le_length (by omega), List.getD_eq_getElem?_getD, List.getElem?_append_left e, ← List.getD_eq_getElem?_getD]
      exact s.piv i e
    · have e' : i = ds.length := by omega
      subst e'
      rw [List.take_append_of_le_length (Nat.le_refl _), List.take_length, List.getD_eq_getElem?_getD, List.getElem?_append_right (Nat.le_refl _), Nat.sub_self]
      exact h0
  · have l0q : (lst ds : Rat) ≠ 0 := fun z => l0 (Rat.intCast_eq_zero_iff.mp z)
    have h0q : (F ds y ds.length : Rat) ≠ 0 := fun z => h0 (Rat.intCast_eq_zero_iff.mp z)
    rw [N2]
    constructor
    · intro z x hx
      have zy : Zi n (frow n ds y) v = 0 := z _ ((memT _).mp (List.mem_append_right _ (List.mem_cons_self ..)))
      rw [dn_app, List.append_assoc] at hx
      rcases List.mem_append.mp hx with h | h
      · exact z x ((memT x).mp (List.mem_append_left _ h))
      · rcases List.mem_append.mp h with h | h
        · rw [List.mem_singleton.mp h]
          exact zy
        · obtain ⟨u, hu, rfl⟩ := List.mem_map.mp h
          rcases case with c | c
          · have zu : Zi n (frow n ds u) v = 0 := z _ ((memT _).mp (List.mem_append_right _ (List.mem_cons_of_mem _ (List.mem_map_of_mem hu))))
            have e := Zi_step c (by omega : ds.length ≤ n) y u v
            rw [zy, zu] at e
            have e2 : (lst ds : Rat) * Zi n (frow n (ds ++ [y]) u) v = 0 := by rw [← e]; grind
            rcases Rat.mul_eq_zero.mp e2 with q | q
            · exact absurd q l0q
            · exact q
          · rw [c] at hu
            cases hu
    · intro z x hx
      have zy : Zi n (frow n ds y) v = 0 := z _ (by rw [dn_app, List.append_assoc]; exact List.mem_append_right _ (List.mem_append_left _ (List.mem_singleton.mpr rfl)))
      rcases List.mem_append.mp ((memT x).mpr hx) with h | h
      · exact z x (by rw [dn_app, List.append_assoc]; exact List.mem_append_left _ h)
      · rcases List.mem_cons.mp h with rfl | h
        · exact zy
        · obtain ⟨u, hu, rfl⟩ := List.mem_map.mp h
          rcases case with c | c
          · have zu : Zi n (frow n (ds ++ [y]) u) v = 0 := z _ (List.mem_append_right _ (List.mem_map_of_mem hu))
            have e := Zi_step c (by omega : ds.length ≤ n) y u v
            rw [zy, zu] at e
            have e2 : Zi n (frow n ds u) v * (F ds y ds.length : Rat) = 0 := by grind
            rcases Rat.mul_eq_zero.mp e2 with q | q
            · exact q
            · exact absurd q h0q
          · rw [c] at hu
            cases hu
  · rw [T1, List.getElem?_append_right (by rw [dn_len]; exact Nat.le_refl _), dn_len, Nat.sub_self]
    rfl
end K45
set_option Elab.async false
set_option linter.all false
set_option maxRecDepth 100000
set_option maxHeartbeats 4000000
namespace K45
def Tr (k : Nat) (T : List (List Int)) : Prop := ∀ i, i < k → ∃ r, T[i]? = some r ∧ (∀ j, j < i → r.getD j 0 = 0) ∧ r.getD i 0 ≠ 0
theorem Zi_split {n i : Nat} {r : List Int} (hi : i ≤ n) (h : ∀ j, j < i → r.getD j 0 = 0) (v : Nat → Rat) : Zi n r v = (r.getD i 0 : Rat) * v i + S (n + 1) (fun j => if i < j then (r.getD j 0 : Rat) * v j else 0) := by
  have e : Zi n r v = S (n + 1) (fun j => (if j = i then (r.getD j 0 : Rat) * v j else 0) + (if i < j then (r.getD j 0 : Rat) * v j else 0)) := S_ext fun j hj => by
    by_cases e1 : j = i
    · subst e1
      rw [if_pos rfl, if_neg (by omega)]
      grind
    · rw [if_neg e1]
      by_cases e2 : i < j
      · rw [if_pos e2]
        grind
      · rw [if_neg e2, h j (by omega)]
        show ((0 : Int) : Rat) * v j = 0 + 0
        rw [show ((0 : Int) : Rat) = 0 from rfl]
        grind
  rw [e, S_add, S_one (by omega : i < n + 1) (fun j _ e => if_neg e), if_pos rfl]
theorem tri_ext {n : Nat} {T : List (List Int)} : ∀ (k : Nat), k ≤ n → Tr k T → ∀ u : Nat → Rat, ∃ v : Nat → Rat, (∀ j, k ≤ j → v j = u j) ∧ ∀ i r, i < k → T[i]? = some r → Zi n r v = 0
  | 0, _, _, u => ⟨u, fun j _ => rfl, fun i r hi => absurd hi (by omega)⟩
  | k + 1, hk, t, u => by
    obtain ⟨r, hr, hz, hp⟩ := t k (by omega)
    have hq : (r.getD k 0 : Rat) ≠ 0 := fun z => hp (Rat.intCast_eq_zero_iff.mp z)
    obtain ⟨v, h1, h2⟩ := tri_ext (n := n) k (by omega) (fun i hi => t i (by omega)) fun j => if j = k then - (S (n + 1) fun j => if k < j then (r.getD j 0 : Rat) * u j else 0) * (r.getD k 0 : Rat)⁻¹ else u j
    refine ⟨v, fun j hj => ?_, fun i x hi hx => ?_⟩
    · rw [h1 j (by omega)]
      exact if_neg (show ¬ j = k by omega)
    · by_cases e : i = k
      · subst e
        rw [hr] at hx
        cases hx
        rw [Zi_split (n := n) (i := i) (by omega) hz, h1 i (Nat.le_refl _), if_pos rfl]
        have e2 : S (n + 1) (fun j => if i < j then (r.getD j 0 : Rat) * v j else 0) = S (n + 1) (fun j => if i < j then (r.getD j 0 : Rat) * u j else 0) := S_ext fun j _ => by
          by_cases e3 : i < j
          · rw [if_pos e3, if_pos e3, h1 j (by omega), if_neg (show ¬ j = i by omega)]
          · rw [if_neg e3, if_neg e3]
        rw [e2]
        have := Rat.mul_inv_cancel _ hq
        generalize S (n + 1) (fun j => if i < j then (r.getD j 0 : Rat) * u j else 0) = s
        generalize (r.getD i 0 : Rat) = p at *
        generalize p⁻¹ = p' at *
        grind
      · exact h2 i x (by omega) hx
theorem tri_uniq {n : Nat} {T : List (List Int)} (t : Tr n T) {v : Nat → Rat} (hz : ∀ i r, i < n → T[i]? = some r → Zi n r v = 0) (hn : v n = 0) : ∀ (c i : Nat), i + c = n → ∀ j, i ≤ j → j < n → v j = 0
  | 0, i, e, j, h1, h2 => absurd h2 (by omega)
  | c + 1, i, e, j, h1, h2 => by
    have ih := tri_uniq t hz hn c (i + 1) (by omega)
    by_cases e1 : j = i
    · subst e1
      obtain ⟨r, hr, hl, hp⟩ := t j (by omega)
      have z := hz j r (by omega) hr
      rw [Zi_split (by omega) hl, S_zero (n := n + 1) (fun l hl2 => ?_)] at z
      · have hq : (r.getD j 0 : Rat) ≠ 0 := fun z => hp (Rat.intCast_eq_zero_iff.mp z)
        have z2 : (r.getD j 0 : Rat) * v j = 0 := by grind
        rcases Rat.mul_eq_zero.mp z2 with q | q
        · exact absurd q hq
        · exact q
      · by_cases e2 : j < l
        · rw [if_pos e2]
          by_cases e3 : l = n
          · rw [e3, hn]
            grind
          · rw [ih l (by omega) (by omega)]
            grind
        · rw [if_neg e2]
    · exact ih j (by omega) h2
theorem St.tr {n : Nat} (h4 : n ≤ 4) {W ds ws T : List (List Int)} (s : St n W ds ws T) : Tr ds.length T := fun i hi => by
  have sl := s.len
  refine ⟨frow n (ds.take i) (ds.getD i []), ?_, fun j hj => ?_, ?_⟩
  · rw [s.eT, List.getElem?_append_left (by rw [dn_len]; exact hi), dn, List.getElem?_map, List.getElem?_range hi]
    rfl
  · rw [frow_at _ _ (by omega)]
    exact F_zero (by rw [List.length_take]; omega) _ (by rw [List.length_take]; omega)
  · rw [frow_at _ _ (by omega)]
    exact s.piv i hi
/-- no head: more than the nought is led to nought -/
theorem St.none {n : Nat} (h4 : n ≤ 4) {W ds ws T : List (List Int)} (s : St n W ds ws T) (hk : ds.length < n) (hz : ∀ j r, ds.length ≤ j → T[j]? = some r → r.getD ds.length 0 = 0) : ∃ v : Nat → Rat, v ds.length ≠ 0 ∧ v n = 0 ∧ Za n W v := by
  obtain ⟨v, h1, h2⟩ := tri_ext (n := n) ds.length (by omega) (s.tr h4) fun j => if j = ds.length then 1 else 0
  refine ⟨v, ?_, ?_, (s.eqv v).mpr fun r hr => ?_⟩
  · rw [h1 _ (Nat.le_refl _), if_pos rfl]
    decide
  · rw [h1 n (by omega), if_neg (by omega)]
  · obtain ⟨j, hj⟩ := List.getElem?_of_mem hr
    by_cases e : j < ds.length
    · exact h2 j r e hj
    · have zk := hz j r (by omega) hj
      have eT := s.eT
      rw [eT, List.getElem?_append_right (by rw [dn_len]; omega), dn_len, List.getElem?_map] at hj
      obtain ⟨y, hy, rfl⟩ := Option.map_eq_some_iff.mp hj
      refine S_zero fun l hl => ?_
      by_cases e1 : l < ds.length
      · rw [frow_at ds y (by omega), F_zero (by omega) y e1]
        show ((0 : Int) : Rat) * v l = 0
        rw [show ((0 : Int) : Rat) = 0 from rfl]
        grind
      · by_cases e2 : l = ds.length
        · rw [e2, zk]
          show ((0 : Int) : Rat) * v _ = 0
          rw [show ((0 : Int) : Rat) = 0 from rfl]
          grind
        · rw [h1 l (by omega), if_neg e2]
          grind
theorem can {D x : Rat} {z : Int} (h0 : D ≠ 0) (h : D * x = D * (z : Rat)) : x = (z : Rat) := by
  have : D * (x - (z : Rat)) = 0 := by grind
  rcases Rat.mul_eq_zero.mp this with q | q
  · exact absurd q h0
  · grind
/-- all freed: the whole solution, as often as the last head -/
theorem St.some {n : Nat} (h1 : 1 ≤ n) (h4 : n ≤ 4) {W ds T : List (List Int)} (s : St n W ds [] T) : ∃ (v : Nat → Rat) (z : Nat → Int), v n = - (lst ds : Rat) ∧ (∀ i, i < n → v i = (z i : Rat)) ∧ Za n T v ∧ Za n W v := by
  have sl : ds.length = n := s.len
  obtain ⟨v, e1, e2⟩ := tri_ext (n := n) n (Nat.le_refl _) (by have := s.tr h4; rw [sl] at this; exact this) fun _ => - (lst ds : Rat)
  have vn := e1 n (Nat.le_refl _)
  have zT : Za n T v := fun r hr => by
    obtain ⟨j, hj⟩ := List.getElem?_of_mem hr
    exact e2 j r (by rw [← s.tlen]; exact (List.getElem?_eq_some_iff.mp hj).1) hj
  have zW := (s.eqv v).mpr zT
  have l0 : (lst ds : Rat) ≠ 0 := fun z => s.lst0 (Rat.intCast_eq_zero_iff.mp z)
  have sub := s.sub
  clear s e1 e2
  suffices h : ∃ z : Nat → Int, ∀ i, i < n → v i = (z i : Rat) by
    obtain ⟨z, hz⟩ := h
    exact ⟨v, z, vn, hz, zT, zW⟩
  match ds, sl, sub, vn, l0 with
  | [a], rfl, sub, vn, l0 =>
    have ha := zW a (sub a (by simp))
    have vn' : v 1 = - (lst [a] : Rat) := vn
    refine ⟨fun _ => ri a 1, fun i hi => ?_⟩
    have hi' : i = 0 := by simp at hi; omega
    subst hi'
    have ha' : (0 + (ri a 0 : Rat) * v 0) + (ri a 1 : Rat) * v 1 = 0 := ha
    have l : (lst [a] : Rat) = (ri a 0 : Rat) := rfl
    refine can l0 ?_
    rw [vn', l] at ha'
    rw [l]
    grind
  | [a, b], rfl, sub, vn, l0 =>
    have ha := zW a (sub a (by simp))
    have hb := zW b (sub b (by simp))
    have vn' : v 2 = - (lst [a, b] : Rat) := vn
    have ha' : ((0 + (ri a 0 : Rat) * v 0) + (ri a 1 : Rat) * v 1) + (ri a 2 : Rat) * v 2 = 0 := ha
    have hb' : ((0 + (ri b 0 : Rat) * v 0) + (ri b 1 : Rat) * v 1) + (ri b 2 : Rat) * v 2 = 0 := hb
    rw [vn'] at ha' hb'
    have l : (lst [a, b] : Rat) = q2 (cq (ri a)) (cq (ri b)) 0 1 := c_det2 _ _ _ _
    obtain ⟨c0, c1⟩ := cr2 (a := cq (ri a)) (b := cq (ri b)) (x0 := v 0) (x1 := v 1) l (by show (ri a 0 : Rat) * v 0 + (ri a 1 : Rat) * v 1 = _ * (ri a 2 : Rat); grind) (by show (ri b 0 : Rat) * v 0 + (ri b 1 : Rat) * v 1 = _ * (ri b 2 : Rat); grind)
    rw [← c_det2] at c0 c1
    refine ⟨fun i => if i = 0 then det2 (ri a) (ri b) 2 1 else det2 (ri a) (ri b) 0 2, fun i hi => ?_⟩
    have : i = 0 ∨ i = 1 := by simp at hi; omega
    rcases this with rfl | rfl
    · exact can l0 c0
    · exact can l0 c1
  | [a, b, c], rfl, sub, vn, l0 =>
    have ha := zW a (sub a (by simp))
    have hb := zW b (sub b (by simp))
    have hc := zW c (sub c (by simp))
    have vn' : v 3 = - (lst [a, b, c] : Rat) := vn
    have ha' : (((0 + (ri a 0 : Rat) * v 0) + (ri a 1 : Rat) * v 1) + (ri a 2 : Rat) * v 2) + (ri a 3 : Rat) * v 3 = 0 := ha
    have hb' : (((0 + (ri b 0 : Rat) * v 0) + (ri b 1 : Rat) * v 1) + (ri b 2 : Rat) * v 2) + (ri b 3 : Rat) * v 3 = 0 := hb
    have hc' : (((0 + (ri c 0 : Rat) * v 0) + (ri c 1 : Rat) * v 1) + (ri c 2 : Rat) * v 2) + (ri c 3 : Rat) * v 3 = 0 := hc
    rw [vn'] at ha' hb' hc'
    have l : (lst [a, b, c] : Rat) = q3 (cq (ri a)) (cq (ri b)) (cq (ri c)) 0 1 2 := c_det3 _ _ _ _ _ _
    obtain ⟨c0, c1, c2⟩ := cr3 (a := cq (ri a)) (b := cq (ri b)) (c := cq (ri c)) (x0 := v 0) (x1 := v 1) (x2 := v 2) l
      (by show (ri a 0 : Rat) * v 0 + (ri a 1 : Rat) * v 1 + (ri a 2 : Rat) * v 2 = _ * (ri a 3 : Rat); grind)
      (by show (ri b 0 : Rat) * v 0 + (ri b 1 : Rat) * v 1 + (ri b 2 : Rat) * v 2 = _ * (ri b 3 : Rat); grind)
      (by show (ri c 0 : Rat) * v 0 + (ri c 1 : Rat) * v 1 + (ri c 2 : Rat) * v 2 = _ * (ri c 3 : Rat); grind)
    rw [← c_det3] at c0 c1 c2
    refine ⟨fun i => if i = 0 then det3 (ri a) (ri b) (ri c) 3 1 2 else if i = 1 then det3 (ri a) (ri b) (ri c) 0 3 2 else det3 (ri a) (ri b) (ri c) 0 1 3, fun i hi => ?_⟩
    have : i = 0 ∨ i = 1 ∨ i = 2 := by simp at hi; omega
    rcases this with rfl | rfl | rfl
    · exact can l0 c0
    · exact can l0 c1
    · exact can l0 c2
  | [a, b, c, d], rfl, sub, vn, l0 =>
    have ha := zW a (sub a (by simp))
    have hb := zW b (sub b (by simp))
    have hc := zW c (sub c (by simp))
    have hd := zW d (sub d (by simp))
    have vn' : v 4 = - (lst [a, b, c, d] : Rat) := vn
    have ha' : ((((0 + (ri a 0 : Rat) * v 0) + (ri a 1 : Rat) * v 1) + (ri a 2 : Rat) * v 2) + (ri a 3 : Rat) * v 3) + (ri a 4 : Rat) * v 4 = 0 := ha
    have hb' : ((((0 + (ri b 0 : Rat) * v 0) + (ri b 1 : Rat) * v 1) + (ri b 2 : Rat) * v 2) + (ri b 3 : Rat) * v 3) + (ri b 4 : Rat) * v 4 = 0 := hb
    have hc' : ((((0 + (ri c 0 : Rat) * v 0) + (ri c 1 : Rat) * v 1) + (ri c 2 : Rat) * v 2) + (ri c 3 : Rat) * v 3) + (ri c 4 : Rat) * v 4 = 0 := hc
    have hd' : ((((0 + (ri d 0 : Rat) * v 0) + (ri d 1 : Rat) * v 1) + (ri d 2 : Rat) * v 2) + (ri d 3 : Rat) * v 3) + (ri d 4 : Rat) * v 4 = 0 := hd
    rw [vn'] at ha' hb' hc' hd'
    have l : (lst [a, b, c, d] : Rat) = q4 (cq (ri a)) (cq (ri b)) (cq (ri c)) (cq (ri d)) 0 1 2 3 := c_det4 _ _ _ _ _ _ _ _
    obtain ⟨c0, c1, c2, c3⟩ := cr4 (a := cq (ri a)) (b := cq (ri b)) (c := cq (ri c)) (d := cq (ri d)) (x0 := v 0) (x1 := v 1) (x2 := v 2) (x3 := v 3) l
      (by show (ri a 0 : Rat) * v 0 + (ri a 1 : Rat) * v 1 + (ri a 2 : Rat) * v 2 + (ri a 3 : Rat) * v 3 = _ * (ri a 4 : Rat); grind)
      (by show (ri b 0 : Rat) * v 0 + (ri b 1 : Rat) * v 1 + (ri b 2 : Rat) * v 2 + (ri b 3 : Rat) * v 3 = _ * (ri b 4 : Rat); grind)
      (by show (ri c 0 : Rat) * v 0 + (ri c 1 : Rat) * v 1 + (ri c 2 : Rat) * v 2 + (ri c 3 : Rat) * v 3 = _ * (ri c 4 : Rat); grind)
      (by show (ri d 0 : Rat) * v 0 + (ri d 1 : Rat) * v 1 + (ri d 2 : Rat) * v 2 + (ri d 3 : Rat) * v 3 = _ * (ri d 4 : Rat); grind)
    rw [← c_det4] at c0 c1 c2 c3
    refine ⟨fun i => if i = 0 then det4 (ri a) (ri b) (ri c) (ri d) 4 1 2 3 else if i = 1 then det4 (ri a) (ri b) (ri c) (ri d) 0 4 2 3 else if i = 2 then det4 (ri a) (ri b) (ri c) (ri d) 0 1 4 3 else det4 (ri a) (ri b) (ri c) (ri d) 0 1 2 4, fun i hi => ?_⟩
    have : i = 0 ∨ i = 1 ∨ i = 2 ∨ i = 3 := by simp at hi; omega
    rcases this with rfl | rfl | rfl | rfl
    · exact can l0 c0
    · exact can l0 c1
    · exact can l0 c2
    · exact can l0 c3
  | [], e, _, _, _ => exact absurd e (by show ¬ 0 = n; omega)
  | _ :: _ :: _ :: _ :: _ :: t, e, _, _, _ => exact absurd e (by show ¬ t.length + 5 = n; omega)
end K45
set_option Elab.async false
set_option linter.all false
set_option maxRecDepth 100000
set_option maxHeartbeats 4000000
namespace K45
open PySem L2 DL
def BM (b : Nat) (T : List (List Int)) : Prop := ∀ r ∈ T, BL b r
theorem BM.up {a b : Nat} {T : List (List Int)} (h : BM a T) (l : a ≤ b) : BM b T := fun r hr x hx => abs_up (h r hr x hx) l
theorem bl_get {b : Nat} {r : List Int} (h : BL b r) (hb : 0 < b) (k : Nat) : (r.getD k 0).natAbs < 2 ^ b := by
  rw [List.getD_eq_getElem?_getD]
  cases e : r[k]? with
  | none => exact Nat.pow_pos (by decide)
  | some x => exact h x (List.mem_of_getElem? e)
theorem rowb_bl {b : Nat} {h y : List Int} {k : Nat} {last : Int} (hh : BL b h) (hy : BL b y) (hb : 0 < b) : BL (2 * b + 1) (rowb h y k last) := fun x hx => by
  obtain ⟨p, hp, rfl⟩ := List.mem_map.mp hx
  have e1 := abs_mul_lt (hy _ (List.of_mem_zip hp).1) (bl_get hh hb k)
  have e2 := abs_mul_lt (bl_get hy hb k) (hh _ (List.of_mem_zip hp).2)
  have e3 := abs_sub_lt e1 e2
  refine Nat.lt_of_le_of_lt (Int.natAbs_fdiv_le_natAbs _ _) ?_
  rw [show 2 * b + 1 = b + b + 1 by omega]
  exact e3
theorem nxt_bm {b k j : Nat} {T : List (List Int)} {r a : List Int} {last : Int} (h : BM b T) (hr : BL b r) (ha : BL b a) (hb : 0 < b) : BM (2 * b + 1) (nxt T k j r a last) := fun x hx => by
  have m1 : ∀ y ∈ (T.set k r).set j a, BL b y := fun y hy => by
    rcases List.mem_or_eq_of_mem_set hy with hy | rfl
    · rcases List.mem_or_eq_of_mem_set hy with hy | rfl
      · exact h y hy
      · exact hr
    · exact ha
  rcases List.mem_append.mp hx with hx | hx
  · exact fun z hz => abs_up (m1 x (List.mem_of_mem_take hx) z hz) (by omega)
  · obtain ⟨y, hy, rfl⟩ := List.mem_map.mp hx
    exact rowb_bl hr (m1 y (List.mem_of_mem_drop hy)) hb
def up2 : Nat → Nat → Nat
  | 0, b => b
  | c + 1, b => up2 c (2 * b + 1)
theorem up2_le : ∀ (c b : Nat), b ≤ up2 c b
  | 0, b => Nat.le_refl _
  | c + 1, b => Nat.le_trans (by omega) (up2_le c (2 * b + 1))
theorem red_loop {n : Nat} (h4 : n ≤ 4) {W : List (List Int)} (tab : D) : ∀ (c b : Nat) (ds ws T : List (List Int)) (x3 x4 : Sl), St n W ds ws T → ds.length + c = n → BM b T → (lst ds).natAbs < 2 ^ b → 0 < b → up2 c b ≤ 4000 → Us x3 → Us x4 →
    ((∃ (v : Nat → Rat) (p : Nat), p < n ∧ v p ≠ 0 ∧ v n = 0 ∧ Za n W v) ∧ ∃ e', forL (gSet 3) bodR ((List.range' ds.length c).map fun (j : Nat) => PyData.int (j : Int)) [.sh tab, .own (.ls (T.map iL)), .sh (.int (lst ds)), x3, x4, .un] = .ok (.rt (.sh .none)) (.sh tab :: e')) ∨
    ∃ ds' T' y3 y4, St n W ds' [] T' ∧ BM (up2 c b) T' ∧ forL (gSet 3) bodR ((List.range' ds.length c).map fun (j : Nat) => PyData.int (j : Int)) [.sh tab, .own (.ls (T.map iL)), .sh (.int (lst ds)), x3, x4, .un] = .ok .nx [.sh tab, .own (.ls (T'.map iL)), .sh (.int (lst ds')), y3, y4, .un]
  | 0, b, ds, ws, T, x3, x4, s, hc, hT, _, _, _, _, _ => by
    have : ws = [] := List.eq_nil_of_length_eq_zero (by have := s.len; omega)
    subst this
    exact .inr ⟨ds, T, x3, x4, s, hT, rfl⟩
  | c + 1, b, ds, ws, T, x3, x4, s, hc, hT, hl, hb, hu, h3, hx4 => by
    have tl := s.tlen
    have wid := s.trow
    have hk : ds.length < n := by omega
    have b4 : 2 * b + 1 ≤ 4000 := Nat.le_trans (up2_le c (2 * b + 1)) hu
    have ha : T[ds.length]? = some T[ds.length] := List.getElem?_eq_getElem (by omega)
    generalize hae : T[ds.length]'(by omega) = a at ha
    rw [List.range'_succ, List.map_cons]
    rcases ev_led (T := T) (k := ds.length) (fun r hr => by rw [wid r hr]; omega) ha (by omega) with ⟨hz, e⟩ | ⟨j, r, hj, hr, h0, e⟩
    · obtain ⟨v, v1, v2, v3⟩ := s.none h4 hk hz
      obtain ⟨e', q⟩ := step_no (tab := tab) (last := .int (lst ds)) (x4 := x4) e h3
      exact .inl ⟨⟨v, ds.length, hk, v1, v2, v3⟩, e', forL_rt q⟩
    · obtain ⟨y, wt, s', el, hT1⟩ := s.step h4 hk hj hr h0 ha
      have mr := List.mem_of_getElem? hr
      have ma := List.mem_of_getElem? ha
      have br := hT r mr
      have nb := nxt_bm (k := ds.length) (j := j) (last := lst ds) hT br (hT a ma) hb
      generalize hT1e : (T.set ds.length r).set j a = T1 at e hT1
      have t1l : T1.length = n := by rw [← hT1e, List.length_set, List.length_set, tl]
      have mem1 : ∀ y ∈ T1, y ∈ T := fun y hy => by
        rw [← hT1e] at hy
        rcases List.mem_or_eq_of_mem_set hy with hy | rfl
        · rcases List.mem_or_eq_of_mem_set hy with hy | rfl
          · exact hy
          · exact mr
        · exact ma
      have lr := wid r mr
      obtain ⟨x4', hx4', w⟩ := inner_loop (tab := tab) (h := r) (k := ds.length) (b := b) (last := lst ds) (by omega) br s.lst0 hl (by omega) (T1.drop (ds.length + 1)) (T1.take (ds.length + 1)) x4 (by rw [List.getElem?_take, if_pos (by omega)]; exact hT1) (fun y hy => by
        have my := mem1 y (List.mem_of_mem_drop hy)
        have := wid y my
        exact ⟨by omega, by omega, hT y my⟩) (by rw [List.length_take, List.length_drop]; omega) hx4
      have nx : T1.take (ds.length + 1) ++ (T1.drop (ds.length + 1)).map (fun y => rowb r y ds.length (lst ds)) = nxt T ds.length j r a (lst ds) := by
        rw [nxt, hT1e]
      have ltk : (T1.take (ds.length + 1)).length = ds.length + 1 := by rw [List.length_take]; omega
      have ldr : (T1.drop (ds.length + 1)).length = n - (ds.length + 1) := by rw [List.length_drop, t1l]
      rw [nx, List.take_append_drop, ltk, ldr] at w
      generalize hTn : nxt T ds.length j r a (lst ds) = Tn at *
      have i1 : Tn[ds.length]? = some r := by
        rw [← nx, List.getElem?_append_left (by omega), List.getElem?_take, if_pos (by omega)]
        exact hT1
      have hN : bLen [.list (T1.map iL)] = some (.int (n : Int)) := by rw [z_bLen1, List.length_map, t1l]
      have q := step_yes_a (tab := tab) (last := lst ds) (K := (ds.length : Int)) (K1 := ((ds.length + 1 : Nat) : Int)) (N := (n : Int)) e (by rw [Int.natCast_add]; rfl) (small_n (by omega)) (small_n (by omega)) hN (rng_from (by omega)) h3 w (ix_map (f := iL) i1) (ix_map (f := PyData.int) (getDI_ix (by omega)))
      have le : (ds ++ [y]).length = ds.length + 1 := by rw [List.length_append]; rfl
      have ih := red_loop h4 tab c (2 * b + 1) (ds ++ [y]) wt Tn (.sh (.int (ds.length : Int))) x4' s' (by omega) nb (by rw [el]; exact abs_up (bl_get br hb _) (by omega)) (by omega) hu (.inr ⟨_, rfl⟩) hx4'
      rw [forL_nx q, ← el, ← le]
      rcases ih with ⟨g, e', w2⟩ | ⟨ds', T', y3, y4, s2, b2, w2⟩
      · exact .inl ⟨g, e', w2⟩
      · exact .inr ⟨ds', T', y3, y4, s2, b2, w2⟩
theorem st_0 {n : Nat} {W : List (List Int)} (hl : W.length = n) (hw : ∀ r ∈ W, r.length = n + 1) : St n W [] W W := by
  have e : W.map (frow n []) = W := by
    have : W.map (frow n []) = W.map id := List.map_congr_left fun r hr => frow_nil (hw r hr)
    rw [this, List.map_id]
  exact ⟨by rw [hl]; exact Nat.zero_add n, fun x hx => hw x hx, fun x hx => hx, by rw [e]; rfl, fun i hi => absurd hi (by simp), fun v => Iff.rfl⟩
theorem B1 {W : List (List Int)} (c0 : lcL (gSet 5) tYesF (eFz (eCallN bList (aCons (eVar 5) aNil))) [5] (W.map iL) [.sh (mI W), .un, .un, .un, .un, .un] [] = .ok (W.map iL) [.sh (mI W), .un, .un, .un, .un, .un]) :
  (sPar 1 2 (eLc (iSeq (eVar 0)) (gSet 5) tYesF (eFz (eCallN bList (aCons (eVar 5) aNil))) [5]) (eR (eC (.int 1)))) [.sh (mI W), .un, .un, .un, .un, .un] = .ok .nx [.sh (mI W), .own (.ls (W.map iL)), .sh (.int 1), .un, .un, .un] := by
  simp [c0]
theorem B2 {W : List (List Int)} {N : Int} {L : List D} {e' : Fr} {f : Fl} (sn : small62 N = true) (hN : bLen [.list (W.map iL)] = some (.int N)) (hL : ((List.range N.toNat).map fun (i : Nat) => (PyData.int (i : Int) : D)) = L) 
    (w : forL (gSet 3) bodR L [.sh (mI W), .own (.ls (W.map iL)), .sh (.int 1), .un, .un, .un] = .ok f e') :
   (sFor (iRng1F (aCons (eCall bLen (aCons (eVar 1) aNil)) aNil)) (gSet 3) bodR) [.sh (mI W), .own (.ls (W.map iL)), .sh (.int 1), .un, .un, .un] = .ok f e' := by
  generalize bodR = bb at w
  simp [sn, hN, hL, w, -z_bLen1]
theorem key1 {W : D} {fr1 e' : Fr} (A B : Sf) (hA : A [.sh W, .un, .un, .un, .un, .un] = .ok .nx fr1) (hB : B fr1 = .ok (.rt (.sh .none)) (.sh W :: e')) : runF 1 6 (sSeq A (sSeq B (sRet (eR (eVar 1))))) [.sh W] = .ok (.sh .none) [.sh W] := by
  simp [hA, hB]
theorem key2 {W : D} {T' : List D} {fr1 : Fr} {y2 y3 y4 y5 : Sl} (A B : Sf) (hA : A [.sh W, .un, .un, .un, .un, .un] = .ok .nx fr1) (hB : B fr1 = .ok .nx [.sh W, .own (.ls T'), y2, y3, y4, y5]) : runF 1 6 (sSeq A (sSeq B (sRet (eR (eVar 1))))) [.sh W] = .ok (.own (.ls T')) [.sh W] := by
  simp [hA, hB]
theorem red_none {W : List (List Int)} {N : Int} {L : List D} {e' : Fr} (sn : small62 N = true) (hN : bLen [.list (W.map iL)] = some (.int N)) (hL : ((List.range N.toNat).map fun (i : Nat) => (PyData.int (0 + (i : Int)) : D)) = L) (c0 : lcL (gSet 5) tYesF (eFz (eCallN bList (aCons (eVar 5) aNil))) [5] (W.map iL) [.sh (mI W), .un, .un, .un, .un, .un] [] = .ok (W.map iL) [.sh (mI W), .un, .un, .un, .un, .un])
    (w : forL (gSet 3) bodR L [.sh (mI W), .own (.ls (W.map iL)), .sh (.int 1), .un, .un, .un] = .ok (.rt (.sh .none)) (.sh (mI W) :: e')) :
    F_reduced_table [.sh (mI W)] = .ok (.sh .none) [.sh (mI W)] := by
  simp only [Int.zero_add] at hL
  exact key1 _ _ (B1 c0) (B2 sn hN hL w)
theorem red_some {W : List (List Int)} {T' : List D} {y2 y3 y4 : Sl} {N : Int} {L : List D} (sn : small62 N = true) (hN : bLen [.list (W.map iL)] = some (.int N)) (hL : ((List.range N.toNat).map fun (i : Nat) => (PyData.int (0 + (i : Int)) : D)) = L) (c0 : lcL (gSet 5) tYesF (eFz (eCallN bList (aCons (eVar 5) aNil))) [5] (W.map iL) [.sh (mI W), .un, .un, .un, .un, .un] [] = .ok (W.map iL) [.sh (mI W), .un, .un, .un, .un, .un])
    (w : forL (gSet 3) bodR L [.sh (mI W), .own (.ls (W.map iL)), .sh (.int 1), .un, .un, .un] = .ok .nx [.sh (mI W), .own (.ls T'), y2, y3, y4, .un]) :
    F_reduced_table [.sh (mI W)] = .ok (.own (.ls T')) [.sh (mI W)] := by
  simp only [Int.zero_add] at hL
  exact key2 _ _ (B1 c0) (B2 sn hN hL w)
theorem ev_red {n b : Nat} (h4 : n ≤ 4) {W : List (List Int)} (hl : W.length = n) (hw : ∀ r ∈ W, r.length = n + 1) (hb : BM b W) (b0 : 0 < b) (hu : up2 n b ≤ 4000) :
    ((∃ (v : Nat → Rat) (p : Nat), p < n ∧ v p ≠ 0 ∧ v n = 0 ∧ Za n W v) ∧ F_reduced_table [.sh (mI W)] = .ok (.sh .none) [.sh (mI W)]) ∨
    ∃ ds' T', St n W ds' [] T' ∧ BM (up2 n b) T' ∧ F_reduced_table [.sh (mI W)] = .ok (.own (.ls (T'.map iL))) [.sh (mI W)] := by
  have c0 := lcL_map (g := gSet 5) (ts := tYesF) (a := eFz (eCallN bList (aCons (eVar 5) aNil))) (vs := [5]) iL iL W [.sh (mI W), .un, .un, .un, .un, .un] (fun r hr => by simp) (by omega)
  have hN : bLen [.list (W.map iL)] = some (.int (n : Int)) := by rw [z_bLen1, List.length_map, hl]
  have hL := rng_from (n := n) (k := 0) (Nat.zero_le _)
  have hL' : ((List.range ((n : Int)).toNat).map fun (i : Nat) => (PyData.int (0 + (i : Int)) : D)) = (List.range' 0 n).map fun (j : Nat) => PyData.int (j : Int) := by
    have e : ((n : Int) - ((0 : Nat) : Int)).toNat = ((n : Int)).toNat := by omega
    rw [e] at hL
    exact hL
  rcases red_loop h4 (mI W) n b [] W W .un .un (st_0 hl hw) (Nat.zero_add n) hb (by
    show 1 < 2 ^ b
    exact Nat.one_lt_two_pow (by omega)) b0 hu (.inl rfl) (.inl rfl) with ⟨g, e', w⟩ | ⟨ds', T', y3, y4, s, b2, w⟩
  · exact .inl ⟨g, red_none (small_n (by omega)) hN hL' c0 w⟩
  · exact .inr ⟨ds', T', s, b2, red_some (small_n (by omega)) hN hL' c0 w⟩
end K45
set_option Elab.async false
set_option linter.all false
set_option maxRecDepth 100000
set_option maxHeartbeats 4000000
namespace K45
open PySem L2 DL
abbrev innN : Sf := (sSet 6 (eR (eOp2 dSub (eVar 6) (eOp2 dMul (eOp2 dIx (eOp2 dIx (eVar 0) (eVar 5)) (eVar 7)) (eOp2 dIx (eVar 4) (eVar 7))))))
abbrev bodN : Sf := (sSeq (sSet 6 (eR (eOp2 dMul (eVar 3) (eOp2 dIx (eOp2 dIx (eVar 0) (eVar 5)) (eVar 1))))) (sSeq (sFor (iRng2F (aCons (eOp2 dAdd (eVar 5) (eC (.int 1))) (aCons (eVar 2) aNil))) (gSet 7) innN) (sAsg (eOp2 dFdiv (eVar 6) (eOp2 dIx (eOp2 dIx (eVar 0) (eVar 5)) (eVar 5))) (gSubF (eVar 4) (eVar 5)))))
def fl (n : Nat) (z : Nat → Int) (m : Nat) : List Int := (List.range n).map fun j => if m ≤ j then z j else 0
theorem fl_len (n : Nat) (z : Nat → Int) (m : Nat) : (fl n z m).length = n := by rw [fl, List.length_map, List.length_range]
theorem fl_at {n m j : Nat} (z : Nat → Int) (hj : j < n) (hm : m ≤ j) : (fl n z m)[j]? = some (z j) := by
  rw [fl, List.getElem?_map, List.getElem?_range hj]
  show some (if m ≤ j then z j else 0) = _
  rw [if_pos hm]
theorem fl_set {n m : Nat} (z : Nat → Int) : (fl n z (m + 1)).set m (z m) = fl n z m := by
  apply List.ext_getElem?
  intro j
  by_cases hj : j < n
  · by_cases e : j = m
    · subst e
      rw [List.getElem?_set_self (by rw [fl_len]; exact hj), fl_at z hj (Nat.le_refl _)]
    · rw [List.getElem?_set_ne (fun q => e q.symm), fl, fl, List.getElem?_map, List.getElem?_map, List.getElem?_range hj]
      show some (if m + 1 ≤ j then z j else 0) = some (if m ≤ j then z j else 0)
      by_cases e2 : m + 1 ≤ j
      · rw [if_pos e2, if_pos (by omega)]
      · rw [if_neg e2, if_neg (by omega)]
  · rw [List.getElem?_eq_none (by rw [List.length_set, fl_len]; omega), List.getElem?_eq_none (by rw [fl_len]; omega)]
def inn (r : List Int) (z : Nat → Int) : Nat → Nat → Int → Int
  | _, 0, acc => acc
  | m, c + 1, acc => inn r z (m + 1) c (acc - r.getD m 0 * z m)
theorem inn_lt {r : List Int} {z : Nat → Int} {b e : Nat} (hr : BL b r) (hb : 0 < b) : ∀ (c m x : Nat) (acc : Int), b + e ≤ x → acc.natAbs < 2 ^ x → (∀ j, m ≤ j → j < m + c → (z j).natAbs < 2 ^ e) → (inn r z m c acc).natAbs < 2 ^ (x + c)
  | 0, m, x, acc, _, h, _ => h
  | c + 1, m, x, acc, hx, h, hz => by
    have t := abs_mul_lt (bl_get hr hb m) (hz m (Nat.le_refl _) (by omega))
    have := inn_lt hr hb c (m + 1) (x + 1) (acc - r.getD m 0 * z m) (by omega) (abs_sub_lt h (abs_up t hx)) (fun j h1 h2 => hz j (by omega) (by omega))
    rw [show x + (c + 1) = x + 1 + c by omega]
    exact this
theorem inn_loop {T : D} {r f : List Int} {z : Nat → Int} {b e n : Nat} {x1 x2 x3 : Sl} {at_ : D} (i0 : dIx T at_ = some (iL r)) (hr : BL b r) (hb : 0 < b) (hn : n ≤ r.length) (be : b + e ≤ 100000) : ∀ (c m : Nat) (acc : Int) (x7 : Sl), m + c = n → Us x7 → (∀ j, m ≤ j → j < n → f[j]? = some (z j) ∧ (z j).natAbs < 2 ^ e) →
    ∃ x7', Us x7' ∧ forL (gSet 7) innN ((List.range' m c).map fun (j : Nat) => PyData.int (j : Int)) [.sh T, x1, x2, x3, .own (.ls (f.map PyData.int)), .sh at_, .sh (.int acc), x7] = .ok .nx [.sh T, x1, x2, x3, .own (.ls (f.map PyData.int)), .sh at_, .sh (.int (inn r z m c acc)), x7']
  | 0, m, acc, x7, _, hx, _ => ⟨x7, hx, rfl⟩
  | c + 1, m, acc, x7, hm, hx, hf => by
    obtain ⟨f1, f2⟩ := hf m (Nat.le_refl _) (by omega)
    obtain ⟨x7', hx', w⟩ := inn_loop (x1 := x1) (x2 := x2) (x3 := x3) i0 hr hb hn be c (m + 1) (acc - r.getD m 0 * z m) (.sh (.int (m : Int))) (by omega) (.inr ⟨_, rfl⟩) (fun j h1 h2 => hf j (by omega) h2)
    refine ⟨x7', hx', ?_⟩
    have i1 := ix_map (f := PyData.int) (getDI_ix (by omega : m < r.length))
    have i2 := ix_map (f := PyData.int) f1
    have e1 := mul_ok (bl_get hr hb m) f2 (by omega)
    rw [List.range'_succ, List.map_cons, forL_nx (e' := [.sh T, x1, x2, x3, .own (.ls (f.map PyData.int)), .sh at_, .sh (.int (acc - r.getD m 0 * z m)), .sh (.int (m : Int))])]
    · exact w
    · generalize r.getD m 0 = q at *
      rcases hx with rfl | ⟨d, rfl⟩ <;> simp [i0, i1, i2, e1]
theorem stp {T rD_ : D} {f : List D} {f2 : List D} {col K K1 N Dv q acc res p zz : Int} {L : List D} (i0 : dIx T (.int K) = some rD_) (i1 : dIx rD_ (.int col) = some (.int q)) (e1 : dMul (.int Dv) (.int q) = some (.int acc)) (hK1 : K + 1 = K1) (sk : small62 K1 = true) (sn : small62 N = true)
    (hL : ((List.range (N - K1).toNat).map fun (i : Nat) => (PyData.int (K1 + (i : Int)) : D)) = L) {x5 x6 x7 x7' : Sl} (h5 : Us x5) (h6 : Us x6)
    (w : forL (gSet 7) innN L [.sh T, .sh (.int col), .sh (.int N), .sh (.int Dv), .own (.ls f), .sh (.int K), .sh (.int acc), x7] = .ok .nx [.sh T, .sh (.int col), .sh (.int N), .sh (.int Dv), .own (.ls f), .sh (.int K), .sh (.int res), x7'])
    (i2 : dIx rD_ (.int K) = some (.int p)) (e2 : dFdiv (.int res) (.int p) = some (.int zz)) {k : Nat} (n1 : L2.ixN f.length K = some k) (s1 : f.set k (.int zz) = f2) :
    for1 (gSet 5) bodN (.int K) [.sh T, .sh (.int col), .sh (.int N), .sh (.int Dv), .own (.ls f), x5, x6, x7] = .ok .nx [.sh T, .sh (.int col), .sh (.int N), .sh (.int Dv), .own (.ls f2), .sh (.int K), .sh (.int res), x7'] := by
  unfold innN at w
  rcases h5 with rfl | ⟨d5, rfl⟩ <;> rcases h6 with rfl | ⟨d6, rfl⟩ <;> simp [i0, i1, e1, hK1, sk, sn, hL, w, i2, e2, n1, s1]
end K45
set_option Elab.async false
set_option linter.all false
set_option maxRecDepth 100000
set_option maxHeartbeats 4000000
namespace K45
open PySem L2 DL
theorem inn_rat {r : List Int} {z : Nat → Int} {g : Nat → Rat} {n : Nat} : ∀ (c m : Nat) (acc : Int), m + c = n → (∀ j, m ≤ j → j < n → g j = (r.getD j 0 : Rat) * (z j : Rat)) → ((inn r z m c acc : Int) : Rat) = (acc : Rat) - (S n g - S m g)
  | 0, m, acc, h, _ => by
    have : m = n := by omega
    subst this
    show (acc : Rat) = _
    grind
  | c + 1, m, acc, h, hg => by
    have ih := inn_rat (r := r) (z := z) (g := g) c (m + 1) (acc - r.getD m 0 * z m) (by omega) fun j h1 h2 => hg j (by omega) h2
    show ((inn r z (m + 1) c (acc - r.getD m 0 * z m) : Int) : Rat) = _
    rw [ih, Rat.intCast_sub, Rat.intCast_mul]
    have e := hg m (Nat.le_refl _) (by omega)
    have e2 : S (m + 1) g = S m g + g m := rfl
    rw [e2, e]
    grind
theorem inn_eq {n a : Nat} {r : List Int} {v : Nat → Rat} {z : Nat → Int} {Dv : Int} (ha : a < n) (h : Zi n r v = 0) (hl : ∀ j, j < a → r.getD j 0 = 0) (hn : v n = - (Dv : Rat)) (hz : ∀ i, i < n → v i = (z i : Rat)) : inn r z (a + 1) (n - (a + 1)) (Dv * r.getD n 0) = r.getD a 0 * z a := by
  apply Rat.intCast_inj.mp
  have e := inn_rat (r := r) (z := z) (n := n) (g := fun j => if a < j then (r.getD j 0 : Rat) * v j else 0) (n - (a + 1)) (a + 1) (Dv * r.getD n 0) (by omega) fun j h1 h2 => by
    show (if a < j then (r.getD j 0 : Rat) * v j else 0) = _
    rw [if_pos (show a < j by omega), hz j h2]
  rw [e]
  rw [Zi_split (i := a) (by omega) hl] at h
  have e2 : S (n + 1) (fun j => if a < j then (r.getD j 0 : Rat) * v j else 0) = S n (fun j => if a < j then (r.getD j 0 : Rat) * v j else 0) + (r.getD n 0 : Rat) * v n := by
    show S n _ + (if a < n then (r.getD n 0 : Rat) * v n else 0) = _
    rw [if_pos ha]
  have e3 : S (a + 1) (fun j => if a < j then (r.getD j 0 : Rat) * v j else 0) = 0 := S_zero fun j hj => if_neg (by omega)
  rw [e2, hn, hz a ha] at h
  rw [e3, Rat.intCast_mul, Rat.intCast_mul]
  grind
def dwn (c : Nat) : List D := (List.range c).map fun i => PyData.int (((c - 1 - i : Nat)) : Int)
theorem dwn_succ (c : Nat) : dwn (c + 1) = PyData.int (c : Int) :: dwn c := by
  unfold dwn
  rw [List.range_succ_eq_map, List.map_cons, List.map_map]
  congr 1
  apply List.map_congr_left
  intro i _
  show PyData.int ((c + 1 - 1 - (i + 1) : Nat) : Int) = PyData.int ((c - 1 - i : Nat) : Int)
  congr 2
  omega
theorem num_loop {n b : Nat} {T : List (List Int)} {v : Nat → Rat} {z : Nat → Int} {Dv : Int} (h4 : n ≤ 4) (tr : Tr n T) (wid : ∀ r ∈ T, r.length = n + 1) (hT : BM b T) (hb : 0 < b) (b4 : b ≤ 4000) (hD : Dv.natAbs < 2 ^ b) (zT : Za n T v) (hn : v n = - (Dv : Rat)) (hz : ∀ i, i < n → v i = (z i : Rat)) :
    ∀ (c e : Nat) (x5 x6 x7 : Sl), c ≤ n → Us x5 → Us x6 → Us x7 → b ≤ e → e + c * (b + n) ≤ 50000 → (∀ j, c ≤ j → j < n → (z j).natAbs < 2 ^ e) →
    ∃ y5 y6 y7, forL (gSet 5) bodN (dwn c) [.sh (mI T), .sh (.int n), .sh (.int n), .sh (.int Dv), .own (.ls ((fl n z c).map PyData.int)), x5, x6, x7] = .ok .nx [.sh (mI T), .sh (.int n), .sh (.int n), .sh (.int Dv), .own (.ls ((fl n z 0).map PyData.int)), y5, y6, y7]
  | 0, e, x5, x6, x7, _, _, _, _, _, _, _ => ⟨x5, x6, x7, rfl⟩
  | c + 1, e, x5, x6, x7, hc, h5, h6, h7, be, ee, hs => by
    obtain ⟨r, hr, hl, hp⟩ := tr c (by omega)
    have mr := List.mem_of_getElem? hr
    have lr := wid r mr
    have br := hT r mr
    have ee' : e + (c * (b + n) + (b + n)) ≤ 50000 := by rw [Nat.add_mul, Nat.one_mul] at ee; exact ee
    have i0 := ix_map (f := iL) hr
    have i1 := ix_map (f := PyData.int) (getDI_ix (by omega : n < r.length))
    have i2 := ix_map (f := PyData.int) (getDI_ix (by omega : c < r.length))
    have e1 := mul_ok hD (bl_get br hb n) (by omega)
    have a0 := abs_mul_lt hD (bl_get br hb n)
    obtain ⟨x7', hx7, w⟩ := inn_loop (T := mI T) (x1 := .sh (.int n)) (x2 := .sh (.int n)) (x3 := .sh (.int Dv)) (f := fl n z (c + 1)) (e := e) i0 br hb (by omega) (by omega) (n - (c + 1)) (c + 1) (Dv * r.getD n 0) x7 (by omega) h7 fun j h1 h2 => ⟨fl_at z h2 h1, hs j h1 h2⟩
    have ie := inn_eq (by omega) (zT r mr) hl hn hz
    have il := inn_lt (z := z) (e := e) br hb (n - (c + 1)) (c + 1) (b + e) (Dv * r.getD n 0) (Nat.le_refl _) (abs_up a0 (by omega)) fun j h1 h2 => hs j h1 (by omega)
    rw [ie] at w il
    have zl : (z c).natAbs < 2 ^ (e + (b + n)) := by
      rw [Int.natAbs_mul] at il
      have p0 : 0 < (r.getD c 0).natAbs := Int.natAbs_pos.mpr hp
      have := Nat.le_mul_of_pos_left (z c).natAbs p0
      exact abs_up (Nat.lt_of_le_of_lt this il) (by omega)
    have e2 : dFdiv (.int (r.getD c 0 * z c)) (.int (r.getD c 0)) = some (.int (z c)) := by
      rw [fdiv_ok hp (bl_get br hb c) (by omega), Int.mul_fdiv_cancel_left _ hp]
    have n1 : L2.ixN ((fl n z (c + 1)).map PyData.int).length (c : Int) = some c := ixN_nat (by rw [List.length_map, fl_len]; omega)
    have s1 : ((fl n z (c + 1)).map PyData.int).set c (.int (z c)) = (fl n z c).map PyData.int := by
      rw [← fl_set (n := n) (m := c) z, List.map_set]
    have q := stp (N := (n : Int)) (K1 := ((c + 1 : Nat) : Int)) i0 i1 e1 (by rw [Int.natCast_add]; rfl) (small_n (by omega)) (small_n (by omega)) (rng_from (by omega)) h5 h6 w i2 e2 n1 s1
    obtain ⟨y5, y6, y7, w2⟩ := num_loop h4 tr wid hT hb b4 hD zT hn hz c (e + (b + n)) (.sh (.int c)) (.sh (.int (r.getD c 0 * z c))) x7' (by omega) (.inr ⟨_, rfl⟩) (.inr ⟨_, rfl⟩) hx7 (by omega) (by omega) (fun j h1 h2 => by
      by_cases ej : j = c
      · subst ej
        exact zl
      · exact abs_up (hs j (by omega) h2) (by omega))
    exact ⟨y5, y6, y7, by rw [dwn_succ, forL_nx q, w2]⟩
theorem keyN {Tm : D} {fs : List D} {N N1 Dv col : Int} {hd : D} {L : List D} {y5 y6 y7 : Sl} {rep : List D} (B : Sf) (hN : bLen [Tm] = some (.int N)) (hN1 : N - 1 = N1) (i0 : dIx Tm (.int N1) = some hd) (i1 : dIx hd (.int N1) = some (.int Dv)) (n0 : 0 ≤ N) (n1 : N ≤ 1000) (hrep : List.replicate N.toNat (PyData.int 0) = rep)
    (sk : small62 N1 = true) (sm : small62 (-1) = true) (hL : ((List.range (N1 - -1).toNat).map fun (i : Nat) => (PyData.int (N1 + (i : Int) * (-1)) : D)) = L)
    (w : forL (gSet 5) B L [.sh Tm, .sh (.int col), .sh (.int N), .sh (.int Dv), .own (.ls rep), .un, .un, .un] = .ok .nx [.sh Tm, .sh (.int col), .sh (.int N), .sh (.int Dv), .own (.ls fs), y5, y6, y7]) :
    runF 2 8 (sSeq (sSet 2 (eR (eCall bLen (aCons (eVar 0) aNil)))) (sSeq (sPar 3 4 (eR (eOp2 dIx (eOp2 dIx (eVar 0) (eOp2 dSub (eVar 2) (eC (.int 1)))) (eOp2 dSub (eVar 2) (eC (.int 1))))) (eRep (eLst (aCons (eC (.int 0)) aNil)) (eVar 2))) (sSeq (sFor (iDownF (aCons (eOp2 dSub (eVar 2) (eC (.int 1))) (aCons (eOp1 dNeg (eC (.int 1))) (aCons (eOp1 dNeg (eC (.int 1))) aNil)))) (gSet 5) B) (sRet (eR (eVar 4)))))) [.sh Tm, .sh (.int col)]
      = .ok (.own (.ls fs)) [.sh Tm, .sh (.int col)] := by
  have hrep' : (List.replicate N.toNat [PyData.int 0]).flatten = rep := by
    rw [← hrep]
    simp
  have hL' : ((List.range (N1 + 1).toNat).map fun (i : Nat) => (PyData.int (N1 + -(i : Int)) : D)) = L := by
    rw [← hL]
    simp
  simp [hN, hN1, i0, i1, n0, n1, hrep', sk, sm, hL', w, -List.flatten_replicate_singleton]
theorem ev_numbers {n b : Nat} {T : List (List Int)} {v : Nat → Rat} {z : Nat → Int} {Dv : Int} (h1 : 1 ≤ n) (h4 : n ≤ 4) (tr : Tr n T) (lT : T.length = n) (wid : ∀ r ∈ T, r.length = n + 1) (hT : BM b T) (hb : 0 < b) (b4 : b ≤ 1000) (hD : Dv.natAbs < 2 ^ b) (zT : Za n T v) (hn : v n = - (Dv : Rat)) (hz : ∀ i, i < n → v i = (z i : Rat))
    {r : List Int} (hr : T[n - 1]? = some r) (hp : r.getD (n - 1) 0 = Dv) :
    F_numbers_from_below [.sh (mI T), .sh (.int n)] = .ok (.own (.ls ((fl n z 0).map PyData.int))) [.sh (mI T), .sh (.int n)] := by
  obtain ⟨y5, y6, y7, w⟩ := num_loop h4 tr wid hT hb (by omega) hD zT hn hz n b .un .un .un (Nat.le_refl _) (.inl rfl) (.inl rfl) (.inl rfl) (Nat.le_refl _) (by
    have := Nat.mul_le_mul h4 (show b + n ≤ 1004 by omega)
    omega) (fun j h1 h2 => absurd h1 (by omega))
  have lr := wid r (List.mem_of_getElem? hr)
  have i0 : dIx (mI T) (.int ((n - 1 : Nat) : Int)) = some (iL r) := ix_map (f := iL) hr
  have i1 : dIx (iL r) (.int ((n - 1 : Nat) : Int)) = some (.int Dv) := by
    rw [← hp]
    exact ix_map (f := PyData.int) (getDI_ix (by omega))
  have f0 : (fl n z n).map PyData.int = List.replicate (n : Int).toNat (PyData.int 0) := by
    rw [Int.toNat_natCast]
    refine List.eq_replicate_iff.mpr ⟨by rw [List.length_map, fl_len], fun x hx => ?_⟩
    obtain ⟨y, hy, rfl⟩ := List.mem_map.mp hx
    obtain ⟨j, hj, rfl⟩ := List.mem_map.mp hy
    have := List.mem_range.mp hj
    rw [if_neg (by omega)]
  have hL : ((List.range (((n - 1 : Nat) : Int) - -1).toNat).map fun (i : Nat) => (PyData.int (((n - 1 : Nat) : Int) + (i : Int) * (-1)) : D)) = dwn n := by
    have e : (((n - 1 : Nat) : Int) - -1).toNat = n := by omega
    rw [e]
    unfold dwn
    apply List.map_congr_left
    intro i hi
    have := List.mem_range.mp hi
    congr 1
    omega
  exact keyN bodN (by show bLen [PyData.list _] = _; rw [z_bLen1, List.length_map, lT]) (by omega) i0 i1 (by omega) (by omega) f0.symm (small_n (by omega)) (by decide +kernel) hL w
end K45
set_option Elab.async false
set_option linter.all false
set_option maxRecDepth 100000
set_option maxHeartbeats 4000000
namespace K45
open PySem L2 DL
abbrev cmpE : Ef := eFz (eCat (eCallN bList (aCons (eVar 9) aNil)) (eLc (iSeq (eVar 1)) (gSet 10) tYesF (eOp2 dIx (eVar 10) (eVar 8)) [10]))
theorem isNone_l (xs : List D) : isNone (.list xs) = false := rfl
theorem rs_comp {n : Nat} {W : List (List Int)} (hl : W.length = n) (h4 : n ≤ 4) (hw : ∀ r ∈ W, r.length = n + 1) (A : D) (x2 : Sl) :
    lcL (gTupF (gsCons (gSet 8) (gsCons (gSet 9) gsNil))) tYesF cmpE [8, 9] (enumFrom 0 (W.map fun r => iL r.dropLast)) [.sh A, .sh (.list [iL (W.map fun r => r.getD n 0)]), x2, .un, .un, .un, .un, .un, .un, .un, .un, .un] []
      = .ok (W.map iL) [.sh A, .sh (.list [iL (W.map fun r => r.getD n 0)]), x2, .un, .un, .un, .un, .un, .un, .un, .un, .un] := by
  rw [enum_map]
  obtain ⟨bb, hbb⟩ : ∃ bb : D, bb = iL (W.map fun r => r.getD n 0) := ⟨_, rfl⟩
  rw [← hbb]
  have c := lcL_map (g := gTupF (gsCons (gSet 8) (gsCons (gSet 9) gsNil))) (ts := tYesF) (a := cmpE) (vs := [8, 9]) (fun p : List Int × Nat => .tuple [.int (p.2 : Int), iL p.1.dropLast]) (fun p => iL p.1) (W.zipIdx 0)
    [.sh A, .sh (.list [bb]), x2, .un, .un, .un, .un, .un, .un, .un, .un, .un] (fun p hp => by
      have hi : W[p.2]? = some p.1 := List.mk_mem_zipIdx_iff_getElem?.mp hp
      have lr := hw _ (List.mem_of_getElem? hi)
      have i1 : dIx bb (.int (p.2 : Int)) = some (.int (p.1.getD n 0)) := by
        rw [hbb]
        exact ix_map (f := PyData.int) (xs := W.map fun r => r.getD n 0) (by rw [List.getElem?_map, hi]; rfl)
      have e : (p.1.dropLast).map PyData.int ++ [PyData.int (p.1.getD n 0)] = p.1.map PyData.int := by
        have : p.1.dropLast ++ [p.1.getD n 0] = p.1 := by
          have ne : p.1 ≠ [] := fun z => by rw [z] at lr; cases lr
          have g : p.1.getLast ne = p.1.getD n 0 := by
            rw [List.getLast_eq_getElem, List.getD_eq_getElem?_getD, List.getElem?_eq_getElem (show n < p.1.length by omega)]
            show p.1[p.1.length - 1] = p.1[n]
            congr 1
            omega
          rw [← g]
          exact List.dropLast_concat_getLast ne
        have h2 := congrArg (List.map PyData.int) this
        rw [List.map_append] at h2
        exact h2
      have ll : (p.1.dropLast.map PyData.int).length + 1 ≤ 1000000 := by
        rw [List.length_map, List.length_dropLast]
        omega
      have eX : (iL p.1.dropLast : D) = .list (p.1.dropLast.map PyData.int) := rfl
      rw [eX]
      generalize p.1.getD n 0 = q at *
      generalize p.1.dropLast.map PyData.int = X at *
      simp [z_lcL2, i1, e, ll]) (by rw [List.length_zipIdx]; omega)
  rw [c]
  congr 1
  rw [show (fun p : List Int × Nat => (iL p.1 : D)) = iL ∘ Prod.fst from rfl, ← List.map_map, List.zipIdx_map_fst]
theorem rs_none {A : D} {Wd Rd : List D} {As : List D} {N : Int} (hA : A = .list As) (hN : bLen [A] = some (.int N)) (c0 : lcL (gTupF (gsCons (gSet 8) (gsCons (gSet 9) gsNil))) tYesF cmpE [8, 9] (enumFrom 0 As) [.sh A, .sh (.list Rd), .sh (.int N), .un, .un, .un, .un, .un, .un, .un, .un, .un] [] = .ok Wd [.sh A, .sh (.list Rd), .sh (.int N), .un, .un, .un, .un, .un, .un, .un, .un, .un])
    (e : F_reduced_table [.sh (.list Wd)] = .ok (.sh .none) [.sh (.list Wd)]) : F_reduced_solution [.sh A, .sh (.list Rd)] = .ok (.sh .none) [.sh A, .sh (.list Rd)] := by
  subst hA
  unfold cmpE at c0
  simp [F_reduced_solution, m_reduced_solution, hN, c0, e, z_callR, -z_bLen1]
end K45
set_option Elab.async false
set_option linter.all false
set_option maxRecDepth 100000
set_option maxHeartbeats 4000000
namespace K45
open PySem L2 DL
theorem rs_some {A : D} {Rb : D} {Ws T zs qs : List D} {As : List D} {N N1 Dv : Int} {hd : D} (hA : A = .list As) (hN : bLen [A] = some (.int N)) (c0 : lcL (gTupF (gsCons (gSet 8) (gsCons (gSet 9) gsNil))) tYesF cmpE [8, 9] (enumFrom 0 As) [.sh A, .sh (.list [Rb]), .sh (.int N), .un, .un, .un, .un, .un, .un, .un, .un, .un] [] = .ok Ws [.sh A, .sh (.list [Rb]), .sh (.int N), .un, .un, .un, .un, .un, .un, .un, .un, .un])
    (e : F_reduced_table [.sh (.list Ws)] = .ok (.own (.ls T)) [.sh (.list Ws)]) (hN1 : N - 1 = N1) (i0 : dIx (.list T) (.int N1) = some hd) (i1 : dIx hd (.int N1) = some (.int Dv))
    (eN : F_numbers_from_below [.sh (.list T), .sh (.int N)] = .ok (.own (.ls zs)) [.sh (.list T), .sh (.int N)])
    (c2 : lcL (gSet 11) tYesF (eFz (eFnC F_made_ratio [false, false] (aCons (eVar 11) (aCons (eVar 4) aNil)))) [11] zs [.sh A, .sh (.list [Rb]), .sh (.int N), .sh (.list T), .sh (.int Dv), .own (.ls []), .sh (.int 0), .sh (.list zs), .un, .un, .un, .un] [] = .ok qs [.sh A, .sh (.list [Rb]), .sh (.int N), .sh (.list T), .sh (.int Dv), .own (.ls []), .sh (.int 0), .sh (.list zs), .un, .un, .un, .un]) :
    F_reduced_solution [.sh A, .sh (.list [Rb])] = .ok (.own (.ls [.tuple qs])) [.sh A, .sh (.list [Rb])] := by
  subst hA
  unfold cmpE at c0
  have s1 : small62 1 = true := by decide +kernel
  have l1 : bLen [.list [Rb]] = some (.int 1) := rfl
  have r1 : List.range (1 : Int).toNat = [0] := rfl
  simp [F_reduced_solution, m_reduced_solution, hN, c0, e, z_callR, hN1, i0, i1, l1, s1, r1, eN, c2, isNone_l, z_forL2, mApp, -z_bLen1]
end K45
set_option Elab.async false
set_option linter.all false
set_option maxRecDepth 100000
set_option maxHeartbeats 4000000
namespace K45
open PySem L2 DL
theorem whole_bl {r : List Rat} (hs : SzL 7 r) (hl : r.length ≤ 5) : BL 43 (whole r) := fun x hx => by
  obtain ⟨q, hq, rfl⟩ := List.mem_map.mp hx
  obtain ⟨l1, l2, _, l4⟩ := lcmL_ok r 1 1 (by decide) (by decide) fun q hq => (hs q hq).den
  have l3 : lcmL 1 r < 2 ^ 36 := Nat.lt_of_lt_of_le l2 (Nat.pow_le_pow_right (by decide) (by omega))
  have := cof_le (lcmL 1 r) q.den
  have e := abs_mul_lt (hs q hq).num (b := ((cof (lcmL 1 r) q.den : Nat) : Int)) (n := 36) (by omega)
  exact e
theorem whole_len (r : List Rat) : (whole r).length = r.length := List.length_map ..
theorem whole_zi {n : Nat} {r : List Rat} (hs : SzL 7 r) (v : Nat → Rat) : Zi n (whole r) v = ((lcmL 1 r : Int) : Rat) * dot n r v := by
  obtain ⟨l1, l2, _, l4⟩ := lcmL_ok r 1 1 (by decide) (by decide) fun q hq => (hs q hq).den
  unfold Zi dot
  have e : ((lcmL 1 r : Int) : Rat) * S (n + 1) (fun j => r.getD j 0 * v j) = S (n + 1) (fun j => (r.getD j 0 * v j) * ((lcmL 1 r : Int) : Rat)) := by
    rw [S_mul]
    grind
  rw [e]
  refine S_ext fun j _ => ?_
  have g : ((whole r).getD j 0 : Rat) = ((lcmL 1 r : Int) : Rat) * r.getD j 0 := by
    unfold whole
    rw [List.getD_eq_getElem?_getD, List.getD_eq_getElem?_getD, List.getElem?_map]
    cases hj : r[j]? with
    | none =>
      show ((0 : Int) : Rat) = _ * 0
      rw [show ((0 : Int) : Rat) = 0 from rfl]
      grind
    | some q => exact whl_rat (l4 q (List.mem_of_getElem? hj))
  rw [g]
  grind
theorem whole_za {n : Nat} {M : List (List Rat)} (hs : SzM 7 M) (v : Nat → Rat) : Za n (M.map whole) v ↔ Zs n M v := by
  have go : ∀ r ∈ M, Zi n (whole r) v = 0 ↔ dot n r v = 0 := fun r hr => by
    rw [whole_zi (hs r hr)]
    obtain ⟨l1, _, _, _⟩ := lcmL_ok r 1 1 (by decide) (by decide) fun q hq => (hs r hr q hq).den
    have l0 : ((lcmL 1 r : Int) : Rat) ≠ 0 := fun z => by
      have := Rat.intCast_eq_zero_iff.mp z
      omega
    constructor
    · intro z
      rcases Rat.mul_eq_zero.mp z with q | q
      · exact absurd q l0
      · exact q
    · intro z
      rw [z]
      grind
  constructor
  · intro z r hr
    exact (go r hr).mp (z _ (List.mem_map_of_mem hr))
  · intro z x hx
    obtain ⟨r, hr, rfl⟩ := List.mem_map.mp hx
    exact (go r hr).mpr (z r hr)
/-! ### the sizes of the law's own answer -/
theorem own_sz {n : Nat} {M l' h' : List (List Rat)} (hn : 1 ≤ n) (h4 : n ≤ 4) (hw : Wid n M) (hs : SzM 7 M) (hl : M.length = n) (e : gj (List.range n) M [] = some (l', h')) : l' = [] ∧ h'.length = n ∧ SzL 1877 (h'.map (atN n)) := by
  have s0 : Sh n 7 n M [] := ⟨hw, (fun r hr => by cases hr), hs, (fun r hr => by cases hr), by rw [hl]; rfl⟩
  have u : up4 (List.range n).length 7 ≤ 1877 := by
    rw [List.length_range]
    exact u4 hn h4
  rcases gj_loop (by omega) .none .none (List.range n) 7 M [] .un .un .un .un (fun k hk => by have := List.mem_range.mp hk; omega) s0 (by omega) (.inl ⟨rfl, rfl, rfl, rfl⟩) with ⟨g, z, e', w⟩ | ⟨l2, h2, y4, y5, y6, y7, g, s', le, w⟩
  · rw [g] at e
    cases e
  · rw [g] at e
    cases e
    rw [List.length_range] at le
    have l0 : l' = [] := List.eq_nil_of_length_eq_zero (by omega)
    subst l0
    refine ⟨rfl, by have := s'.len; simpa using this, fun x hx => ?_⟩
    obtain ⟨r, hr, rfl⟩ := List.mem_map.mp hx
    exact (s'.sh r hr _ (List.mem_of_getElem? (getD_ix (by rw [s'.wh r hr]; omega)))).up u
end K45
set_option Elab.async false
set_option linter.all false
set_option maxRecDepth 100000
set_option maxHeartbeats 4000000
namespace K45
open PySem L2 DL
theorem zipD_same {α : Type} (f g : α → D) : ∀ xs : List α, zipD (xs.map f) (xs.map g) = xs.map fun x => .tuple [f x, g x]
  | [] => rfl
  | x :: xs => by
    show PyData.tuple [f x, g x] :: zipD (xs.map f) (xs.map g) = _
    rw [zipD_same f g xs]
    rfl
theorem last_app {α : Type} {r : List α} {n : Nat} (h : r.length = n + 1) (d : α) : r.dropLast ++ [r.getD n d] = r := by
  have ne : r ≠ [] := fun z => by rw [z] at h; cases h
  have g : r.getLast ne = r.getD n d := by
    rw [List.getLast_eq_getElem, List.getD_eq_getElem?_getD, List.getElem?_eq_getElem (show n < r.length by omega)]
    show r[r.length - 1] = r[n]
    congr 1
    omega
  rw [← g]
  exact List.dropLast_concat_getLast ne
theorem lst_last {n : Nat} {ds : List (List Int)} (h : ds.length = n) (h1 : 1 ≤ n) (h4 : n ≤ 4) : lst ds = F (ds.take (n - 1)) (ds.getD (n - 1) []) (n - 1) := by
  subst h
  match ds, h1, h4 with
  | [a], _, _ => rfl
  | [a, b], _, _ => rfl
  | [a, b, c], _, _ => rfl
  | [a, b, c, d], _, _ => rfl
theorem sv_none {dr db : D} {k1 k2 : _} {xs ys Ws As bs : List D} (want : F_want_equations [.sh dr, .sh db] = .ok (.sh .none) [.sh dr, .sh db]) (h1 : seqD dr = some (k1, xs)) (h2 : seqD db = some (k2, ys))
    (c1 : lcL (gTupF (gsCons (gSet 4) (gsCons (gSet 5) gsNil))) tYesF (eFz (eFnC F_as_whole [false] (aCons (eFz (eCat (eCallN bList (aCons (eVar 4) aNil)) (eLst (aCons (eVar 5) aNil)))) aNil))) [4, 5] (zipD xs ys) [.sh dr, .sh db, .un, .un, .un, .un] [] = .ok Ws [.sh dr, .sh db, .un, .un, .un, .un])
    (c2 : lcL (gSet 4) tYesF (eFz (eCut (eVar 4) oNone (oSome (eOp1 dNeg (eC (.int 1)))))) [4] Ws [.sh dr, .sh db, .sh (.list Ws), .un, .un, .un] [] = .ok As [.sh dr, .sh db, .sh (.list Ws), .un, .un, .un])
    (c3 : lcL (gSet 4) tYesF (eOp2 dIx (eVar 4) (eOp1 dNeg (eC (.int 1)))) [4] Ws [.sh dr, .sh db, .sh (.list Ws), .un, .un, .un] [] = .ok bs [.sh dr, .sh db, .sh (.list Ws), .un, .un, .un])
    (e : F_reduced_solution [.sh (.list As), .sh (.list [.list bs])] = .ok (.sh .none) [.sh (.list As), .sh (.list [.list bs])]) :
    F_solved_equations [.sh dr, .sh db] = .ok (.sh .none) [.sh dr, .sh db] := by
  simp [F_solved_equations, m_solved_equations, want, z_callR, h1, h2, c1, c2, c3, e]
theorem sv_some {dr db q : D} {k1 k2 : _} {xs ys Ws As bs : List D} (want : F_want_equations [.sh dr, .sh db] = .ok (.sh .none) [.sh dr, .sh db]) (h1 : seqD dr = some (k1, xs)) (h2 : seqD db = some (k2, ys))
    (c1 : lcL (gTupF (gsCons (gSet 4) (gsCons (gSet 5) gsNil))) tYesF (eFz (eFnC F_as_whole [false] (aCons (eFz (eCat (eCallN bList (aCons (eVar 4) aNil)) (eLst (aCons (eVar 5) aNil)))) aNil))) [4, 5] (zipD xs ys) [.sh dr, .sh db, .un, .un, .un, .un] [] = .ok Ws [.sh dr, .sh db, .un, .un, .un, .un])
    (c2 : lcL (gSet 4) tYesF (eFz (eCut (eVar 4) oNone (oSome (eOp1 dNeg (eC (.int 1)))))) [4] Ws [.sh dr, .sh db, .sh (.list Ws), .un, .un, .un] [] = .ok As [.sh dr, .sh db, .sh (.list Ws), .un, .un, .un])
    (c3 : lcL (gSet 4) tYesF (eOp2 dIx (eVar 4) (eOp1 dNeg (eC (.int 1)))) [4] Ws [.sh dr, .sh db, .sh (.list Ws), .un, .un, .un] [] = .ok bs [.sh dr, .sh db, .sh (.list Ws), .un, .un, .un])
    (e : F_reduced_solution [.sh (.list As), .sh (.list [.list bs])] = .ok (.own (.ls [q])) [.sh (.list As), .sh (.list [.list bs])]) :
    F_solved_equations [.sh dr, .sh db] = .ok (.sh q) [.sh dr, .sh db] := by
  simp [F_solved_equations, m_solved_equations, want, z_callR, h1, h2, c1, c2, c3, e, isNone_l]
theorem ev_solved {n : Nat} {M : List (List Rat)} (hn : 1 ≤ n) (h4 : n ≤ 4) (hw : Wid n M) (hs : SzM 7 M) (hl : M.length = n) {f : List Rat → D} {dr db : D} (want : F_want_equations [.sh dr, .sh db] = .ok (.sh .none) [.sh dr, .sh db]) (hf : ∀ r, bList [f r] = some (r.map rD)) {k1 k2 : _} (h1 : seqD dr = some (k1, M.map fun r => f r.dropLast)) (h2 : seqD db = some (k2, M.map fun r => rD (atN n r))) :
    F_solved_equations [.sh dr, .sh db] = .ok (.sh (resD (gj (List.range n) M []) n)) [.sh dr, .sh db] := by
  have hz := zipD_same (fun r => f r.dropLast) (fun r => rD (atN n r)) M
  have c1 := lcL_map (g := gTupF (gsCons (gSet 4) (gsCons (gSet 5) gsNil))) (ts := tYesF) (a := eFz (eFnC F_as_whole [false] (aCons (eFz (eCat (eCallN bList (aCons (eVar 4) aNil)) (eLst (aCons (eVar 5) aNil)))) aNil))) (vs := [4, 5]) (fun r => .tuple [f r.dropLast, rD (atN n r)]) (fun r => iL (whole r)) M [.sh dr, .sh db, .un, .un, .un, .un] (fun r hr => by
    have lr := hw r hr
    have e := ev_whole (hs r hr) (by omega)
    have la : r.dropLast.map rD ++ [rD (atN n r)] = r.map rD := by
      have := congrArg (List.map rD) (last_app lr 0)
      rw [List.map_append] at this
      exact this
    have b := hf r.dropLast
    have ll : (r.dropLast.map rD).length + 1 ≤ 1000000 := by rw [List.length_map, List.length_dropLast]; omega
    generalize r.dropLast.map rD = X at *
    simp [b, la, ll, e, z_callR]) (by omega)
  rw [← hz] at c1
  have eW : M.map (fun r => (iL (whole r) : D)) = (M.map whole).map iL := by rw [List.map_map]; rfl
  rw [eW] at c1
  have wl : ∀ w ∈ M.map whole, w.length = n + 1 := fun w hw' => by
    obtain ⟨r, hr, rfl⟩ := List.mem_map.mp hw'
    rw [whole_len, hw r hr]
  have lW : (M.map whole).length = n := by rw [List.length_map, hl]
  have bW : BM 43 (M.map whole) := fun w hw' => by
    obtain ⟨r, hr, rfl⟩ := List.mem_map.mp hw'
    exact whole_bl (hs r hr) (by rw [hw r hr]; omega)
  have za : ∀ v, Za n (M.map whole) v ↔ Zs n M v := fun v => whole_za hs v
  generalize M.map whole = W at *
  have c2 := lcL_map (g := gSet 4) (ts := tYesF) (a := eFz (eCut (eVar 4) oNone (oSome (eOp1 dNeg (eC (.int 1)))))) (vs := [4]) iL (fun w => iL w.dropLast) W [.sh dr, .sh db, .sh (.list (W.map iL)), .un, .un, .un] (fun w hw' => by
    have e : cutD (w.map PyData.int) none (some (-1)) = (w.map PyData.int).dropLast := cutD_last
    simp [e]) (by omega)
  have c3 := lcL_map (g := gSet 4) (ts := tYesF) (a := eOp2 dIx (eVar 4) (eOp1 dNeg (eC (.int 1)))) (vs := [4]) iL (fun w => .int (w.getD n 0)) W [.sh dr, .sh db, .sh (.list (W.map iL)), .un, .un, .un] (fun w hw' => by
    have lw := wl w hw'
    have e := ix_last (f := PyData.int) (xs := w) (x := w.getD n 0) (by rw [List.getLast?_eq_getElem?, lw]; exact getDI_ix (by omega))
    generalize w.getD n 0 = X at *
    simp [e]) (by omega)
  have eb : W.map (fun w => (PyData.int (w.getD n 0) : D)) = (W.map fun w => w.getD n 0).map PyData.int := by rw [List.map_map]; rfl
  rw [eb] at c3
  have hN : bLen [.list (W.map fun w => iL w.dropLast)] = some (.int (n : Int)) := by rw [z_bLen1, List.length_map, lW]
  have cc := rs_comp lW h4 wl (.list (W.map fun w => iL w.dropLast)) (.sh (.int n))
  have up : up2 n 43 ≤ 703 := by
    obtain rfl | rfl | rfl | rfl : n = 1 ∨ n = 2 ∨ n = 3 ∨ n = 4 := by omega
    all_goals simp [up2]
  rcases ev_red h4 lW wl bW (by decide) (by omega) with ⟨⟨v, p, p1, p2, p3, p4⟩, er⟩ | ⟨ds, T, s, bT, er⟩
  · have er' := rs_none rfl hN cc er
    rw [sv_none want h1 h2 c1 c2 c3 er']
    cases hg : gj (List.range n) M [] with
    | none => rfl
    | some lh =>
      obtain ⟨l', h'⟩ := lh
      obtain ⟨e0, _, _⟩ := own_sz hn h4 hw hs hl hg
      have := ((own_some hw hg e0).2 v).mp ((za v).mp p4) p p1
      rw [p3] at this
      exact absurd (by grind) p2
  · obtain ⟨v, z, vn, vz, zT, zW⟩ := s.some hn h4
    have sl : ds.length = n := s.len
    have tr : Tr n T := by
      have := s.tr h4
      rw [sl] at this
      exact this
    have hlast : T[n - 1]? = some (frow n (ds.take (n - 1)) (ds.getD (n - 1) [])) := by
      rw [s.eT, List.getElem?_append_left (by rw [dn_len]; omega), dn, List.getElem?_map, List.getElem?_range (by omega)]
      rfl
    have hp : (frow n (ds.take (n - 1)) (ds.getD (n - 1) [])).getD (n - 1) 0 = lst ds := by
      rw [frow_at _ _ (by omega), lst_last sl hn h4]
    have bD : (lst ds).natAbs < 2 ^ up2 n 43 := by
      rw [← hp]
      exact bl_get (bT _ (List.mem_of_getElem? hlast)) (by have := up2_le n 43; omega) _
    have eN := ev_numbers hn h4 tr s.tlen s.trow bT (by have := up2_le n 43; omega) (by omega) bD zT vn vz hlast hp
    have l0 := s.lst0
    have cm := lcL_map (g := gSet 11) (ts := tYesF) (a := eFz (eFnC F_made_ratio [false, false] (aCons (eVar 11) (aCons (eVar 4) aNil)))) (vs := [11]) PyData.int (fun x => rD (Rat.divInt x (lst ds))) (fl n z 0)
      [.sh (.list (W.map fun w => iL w.dropLast)), .sh (.list [iL (W.map fun r => r.getD n 0)]), .sh (.int n), .sh (.list (T.map iL)), .sh (.int (lst ds)), .own (.ls []), .sh (.int 0), .sh (.list ((fl n z 0).map PyData.int)), .un, .un, .un, .un] (fun x hx => by
        have e := ev_made (a := x) l0 bD (by omega)
        generalize lst ds = DD at *
        simp [e, z_callR]) (by rw [fl_len]; omega)
    have i0 : dIx (.list (T.map iL)) (.int ((n - 1 : Nat) : Int)) = some (iL (frow n (ds.take (n - 1)) (ds.getD (n - 1) []))) := ix_map (f := iL) hlast
    have i1 : dIx (iL (frow n (ds.take (n - 1)) (ds.getD (n - 1) []))) (.int ((n - 1 : Nat) : Int)) = some (.int (lst ds)) := by
      have := ix_map (f := PyData.int) (getDI_ix (r := frow n (ds.take (n - 1)) (ds.getD (n - 1) [])) (k := n - 1) (by rw [frow_len]; omega))
      rw [hp] at this
      exact this
    have er' := rs_some rfl hN cc er (by omega : (n : Int) - 1 = ((n - 1 : Nat) : Int)) i0 i1 eN cm
    rw [sv_some want h1 h2 c1 c2 c3 er']
    cases hg : gj (List.range n) M [] with
    | none =>
      obtain ⟨u, p, p1, p2, p3, p4⟩ := own_none hw hg
      have zu : Za n T u := (s.eqv u).mp ((za u).mpr p4)
      have := tri_uniq tr (fun i r hi hr => zu r (List.mem_of_getElem? hr)) p3 n 0 (by omega) p (by omega) p1
      exact absurd this p2
    | some lh =>
      obtain ⟨l', h'⟩ := lh
      obtain ⟨e0, lh', _⟩ := own_sz hn h4 hw hs hl hg
      have so := ((own_some hw hg e0).2 v).mp ((za v).mp zW)
      have l0q : (lst ds : Rat) ≠ 0 := fun z => l0 (Rat.intCast_eq_zero_iff.mp z)
      have eq : (fl n z 0).map (fun x => Rat.divInt x (lst ds)) = h'.map (atN n) := by
        apply List.ext_getElem?
        intro i
        by_cases hi : i < n
        · have e1 := so i hi
          rw [vn, vz i hi] at e1
          have gi : (h'.map (atN n))[i]? = some ((h'.map (atN n)).getD i 0) := getD_ix (by rw [List.length_map, lh']; exact hi)
          rw [gi, List.getElem?_map, fl_at z hi (Nat.zero_le _)]
          show some (Rat.divInt (z i) (lst ds)) = _
          congr 1
          rw [Rat.divInt_eq_div]
          generalize (h'.map (atN n)).getD i 0 = x at *
          generalize (lst ds : Rat) = DD at *
          have e2 : (z i : Rat) = x * DD := by grind
          rw [e2]
          exact Rat.mul_div_cancel l0q
        · rw [List.getElem?_eq_none (by rw [List.length_map, fl_len]; omega), List.getElem?_eq_none (by rw [List.length_map, lh']; omega)]
      have eq2 := congrArg (List.map rD) eq
      rw [List.map_map] at eq2
      show DL.R.ok (Sl.sh (.tuple ((fl n z 0).map fun x => rD (Rat.divInt x (lst ds))))) _ = DL.R.ok (Sl.sh (.tuple ((h'.map (atN n)).map rD))) _
      rw [← eq2]
      rfl
end K45
set_option Elab.async false
set_option linter.all false
set_option maxRecDepth 100000
set_option maxHeartbeats 4000000
namespace K45
open PySem L2 DL
/-! ### draws -/
theorem ev_pick {p : List D} (P : Pot p) : ∃ p' b, Pot p' ∧ 1 ≤ b ∧ b ≤ 3 ∧ F__law_pick [.io (.ls p), .sh (.list [.int 1, .int 1, .int 2, .int 3])] = .ok (.sh (.int b)) [.io (.ls p'), .sh (.list [.int 1, .int 1, .int 2, .int 3])] := by
  obtain ⟨p', d, P', d0, d1, e⟩ := ev_draw P (r := 4) (by decide) (by decide)
  have : d = 0 ∨ d = 1 ∨ d = 2 ∨ d = 3 := by omega
  rcases this with rfl | rfl | rfl | rfl
  · exact ⟨p', 1, P', by decide, by decide, by simp [F__law_pick, m__law_pick, e, z_callR]⟩
  · exact ⟨p', 1, P', by decide, by decide, by simp [F__law_pick, m__law_pick, e, z_callR]⟩
  · exact ⟨p', 2, P', by decide, by decide, by simp [F__law_pick, m__law_pick, e, z_callR]⟩
  · exact ⟨p', 3, P', by decide, by decide, by simp [F__law_pick, m__law_pick, e, z_callR]⟩
theorem ev_ratio {p : List D} (P : Pot p) : ∃ p' q, Pot p' ∧ Sz 3 q ∧ F__law_ratio [.io (.ls p)] = .ok (.sh (rD q)) [.io (.ls p')] := by
  obtain ⟨p1, a, P1, a0, a1, e1⟩ := ev_draw P (r := 9) (by decide) (by decide)
  obtain ⟨p2, b, P2, b0, b1, e2⟩ := ev_pick P1
  have e3 := ev_lmade (a := a - 4) (b := b) (n := 3) (by omega) (by omega) (by decide)
  exact ⟨p2, _, P2, sz_divInt (a := a - 4) (b := b) (n := 3) (by omega) (by omega) (by omega), by simp [F__law_ratio, m__law_ratio, e1, e2, e3, z_callR]⟩
theorem row_loop {N : D} : ∀ (L : List D) (p : List D) (acc : List Rat) (x3 : Sl), Pot p → acc.length + L.length ≤ 1000 → Us x3 →
    ∃ p' rs x3', Pot p' ∧ rs.length = L.length ∧ SzL 3 rs ∧ forL (gSet 3) (sDrop (eMt mApp (eVar 2) (aCons (eFz (eFnC F__law_ratio [true] (aCons (eVar 0) aNil))) aNil))) L [.io (.ls p), .sh N, .own (.ls (acc.map rD)), x3] = .ok .nx [.io (.ls p'), .sh N, .own (.ls ((acc ++ rs).map rD)), x3']
  | [], p, acc, x3, P, _, _ => ⟨p, [], x3, P, rfl, (fun q hq => by cases hq), by rw [List.append_nil]; rfl⟩
  | d :: L, p, acc, x3, P, hl, hx => by
    have hl' : acc.length + (L.length + 1) ≤ 1000 := hl
    obtain ⟨p1, q, P1, sq, e⟩ := ev_ratio P
    obtain ⟨p', rs, x3', P', lr, sr, w⟩ := row_loop (N := N) L p1 (acc ++ [q]) (.sh d) P1 (by rw [List.length_append]; show acc.length + 1 + L.length ≤ 1000; omega) (.inr ⟨_, rfl⟩)
    refine ⟨p', q :: rs, x3', P', by rw [List.length_cons, lr]; rfl, fun x hx => ?_, ?_⟩
    · rcases List.mem_cons.mp hx with rfl | hx
      · exact sq
      · exact sr x hx
    · have ll : (acc.map rD).length < 1000000 := by rw [List.length_map]; omega
      have e2 : acc.map rD ++ [rD q] = (acc ++ [q]).map rD := by rw [List.map_append]; rfl
      rw [forL_nx (e' := [.io (.ls p1), .sh N, .own (.ls ((acc ++ [q]).map rD)), .sh d]), w, List.append_assoc]
      · rfl
      · generalize acc.map rD = X at *
        rcases hx with rfl | ⟨d', rfl⟩ <;> simp [e, z_callR, mApp, ll, e2, -List.map_append]
theorem row_gen {p p' X : List D} {N : Int} {L : List D} {x : Sl} (sn : small62 N = true) (hL : ((List.range N.toNat).map fun (i : Nat) => (PyData.int (i : Int) : D)) = L)
    (w : forL (gSet 3) (sDrop (eMt mApp (eVar 2) (aCons (eFz (eFnC F__law_ratio [true] (aCons (eVar 0) aNil))) aNil))) L [.io (.ls p), .sh (.int N), .own (.ls []), .un] = .ok .nx [.io (.ls p'), .sh (.int N), .own (.ls X), x]) :
    F__law_row [.io (.ls p), .sh (.int N)] = .ok (.own (.ls X)) [.io (.ls p'), .sh (.int N)] := by
  simp [F__law_row, m__law_row, sn, hL, w]
theorem ev_lrow {p : List D} (P : Pot p) {n : Nat} (hn : n ≤ 100) : ∃ p' rs, Pot p' ∧ rs.length = n ∧ SzL 3 rs ∧ F__law_row [.io (.ls p), .sh (.int n)] = .ok (.own (.ls (rs.map rD))) [.io (.ls p'), .sh (.int n)] := by
  obtain ⟨p', rs, x, P', lr, sr, w⟩ := row_loop (N := .int n) ((List.range n).map fun (i : Nat) => (PyData.int (i : Int) : D)) p [] .un P (by rw [List.length_map, List.length_range]; show 0 + n ≤ 1000; omega) (.inl rfl)
  rw [List.length_map, List.length_range] at lr
  exact ⟨p', rs, P', lr, sr, row_gen (small_n (by omega)) rfl w⟩
theorem Sz.one {p : Rat} (h : Sz 6 p) : Sz 7 (p + 1) := by
  rw [add_eq]
  have h1 := h.num
  have h2 := h.den
  have d0 := den_pos p
  refine sz_divInt ?_ ?_ ?_
  · show (p.den : Int) * (1 : Int) ≠ 0
    omega
  · show (p.num * (1 : Int) + (1 : Int) * (p.den : Int)).natAbs < 2 ^ 7
    omega
  · show ((p.den : Int) * (1 : Int)).natAbs < 2 ^ 7
    omega
end K45
set_option Elab.async false
set_option linter.all false
set_option maxRecDepth 100000
set_option maxHeartbeats 4000000
namespace K45
open PySem L2 DL
noncomputable abbrev bodW : Sf := (sSeq (sSet 4 (eFnC F__law_row [true, false] (aCons (eVar 0) (aCons (eOp2 dAdd (eVar 1) (eC (.int 1))) aNil)))) (sSeq (sIf (tAndF (tOf (eOp2 dNe (eVar 2) (eFz (eLst aNil)))) (tOf (eOp2 dEq (eFz (eFnC F__law_draw [true, false] (aCons (eVar 0) (aCons (eC (.int 5)) aNil)))) (eC (.int 0))))) (sSeq (sSet 5 (eFnC F__law_ratio [true] (aCons (eVar 0) aNil))) (sSeq (sSet 4 (eLc (iSeq (eOp2 dIx (eVar 2) (eC (.int 0)))) (gSet 6) tYesF (eFz (eFnC F__law_times [false, false] (aCons (eVar 5) (aCons (eVar 6) aNil)))) [6])) (sIf (tOf (eOp2 dEq (eFz (eFnC F__law_draw [true, false] (aCons (eVar 0) (aCons (eC (.int 2)) aNil)))) (eC (.int 0)))) (sAsg (eFz (eFnC F__law_sum [false, false] (aCons (eOp2 dIx (eVar 4) (eOp1 dNeg (eC (.int 1)))) (aCons (eTup (aCons (eC (.int 1)) (aCons (eC (.int 1)) aNil))) aNil)))) (gSubF (eVar 4) (eOp1 dNeg (eC (.int 1))))) sNil))) sNil) (sDrop (eMt mApp (eVar 2) (aCons (eVar 4) aNil)))))
theorem shp_l (r : List Rat) : Shp 2 (lD r) := .list fun d hd => by
  obtain ⟨q, _, rfl⟩ := List.mem_map.mp hd
  exact .rD q
theorem shp_m (R : List (List Rat)) : ∀ d ∈ R.map lD, Shp 2 d := fun d hd => by
  obtain ⟨r, _, rfl⟩ := List.mem_map.mp hd
  exact shp_l r
theorem ixN_last {len n : Nat} (h : len = n + 1) : L2.ixN len (-1) = some n := by
  subst h
  simp only [L2.ixN]
  rw [if_neg (by omega), if_pos (by omega)]
  congr 1
  omega
section
variable {p p1 p2 p3 p4 X X2 Y Y2 Z : List D} {N N1 dg dh : Int} {d q lv : D} {x3 x4 x5 : Sl}
theorem stA (hN1 : N + 1 = N1) (e1 : F__law_row [.io (.ls p), .sh (.int N1)] = .ok (.own (.ls Y)) [.io (.ls p1), .sh (.int N1)]) (ne : dNe (.list []) (.list []) = some (.bool false)) (u3 : Us x3) (u4 : Us x4) (u5 : Us x5) :
    for1 (gSet 3) bodW d [.io (.ls p), .sh (.int N), .own (.ls []), x3, x4, x5, .un] = .ok .nx [.io (.ls p1), .sh (.int N), .own (.ls [.list Y]), .sh d, .sh (.list Y), x5, .un] := by
  rcases u3 with rfl | ⟨d3, rfl⟩ <;> rcases u4 with rfl | ⟨d4, rfl⟩ <;> rcases u5 with rfl | ⟨d5, rfl⟩ <;> simp [hN1, e1, z_callR, ne, mApp]
theorem stB (hN1 : N + 1 = N1) (e1 : F__law_row [.io (.ls p), .sh (.int N1)] = .ok (.own (.ls Y)) [.io (.ls p1), .sh (.int N1)]) (ne : dNe (.list X) (.list []) = some (.bool true)) (e2 : F__law_draw [.io (.ls p1), .sh (.int 5)] = .ok (.sh (.int dg)) [.io (.ls p2), .sh (.int 5)]) (hd : dg ≠ 0) (ll : X.length < 1000000) (ha : X ++ [.list Y] = X2) (u3 : Us x3) (u4 : Us x4) (u5 : Us x5) :
    for1 (gSet 3) bodW d [.io (.ls p), .sh (.int N), .own (.ls X), x3, x4, x5, .un] = .ok .nx [.io (.ls p2), .sh (.int N), .own (.ls X2), .sh d, .sh (.list Y), x5, .un] := by
  rcases u3 with rfl | ⟨d3, rfl⟩ <;> rcases u4 with rfl | ⟨d4, rfl⟩ <;> rcases u5 with rfl | ⟨d5, rfl⟩ <;> simp [hN1, e1, z_callR, ne, e2, hd, mApp, ll, ha]
theorem stC (hN1 : N + 1 = N1) (e1 : F__law_row [.io (.ls p), .sh (.int N1)] = .ok (.own (.ls Y)) [.io (.ls p1), .sh (.int N1)]) (ne : dNe (.list X) (.list []) = some (.bool true)) (e2 : F__law_draw [.io (.ls p1), .sh (.int 5)] = .ok (.sh (.int 0)) [.io (.ls p2), .sh (.int 5)])
    (e3 : F__law_ratio [.io (.ls p2)] = .ok (.sh q) [.io (.ls p3)]) (i0 : dIx (.list X) (.int 0) = some (.list Z)) (c : ∀ (a b c2 d : Sl), lcL (gSet 6) tYesF (eFz (eFnC F__law_times [false, false] (aCons (eVar 5) (aCons (eVar 6) aNil)))) [6] Z [a, b, c2, d, .own (.ls Y), .sh q, .un] [] = .ok Y2 [a, b, c2, d, .own (.ls Y), .sh q, .un])
    (e4 : F__law_draw [.io (.ls p3), .sh (.int 2)] = .ok (.sh (.int dh)) [.io (.ls p4), .sh (.int 2)]) (hh : dh ≠ 0) (ll : X.length < 1000000) (ha : X ++ [.list Y2] = X2) (u3 : Us x3) (u4 : Us x4) (u5 : Us x5) :
    for1 (gSet 3) bodW d [.io (.ls p), .sh (.int N), .own (.ls X), x3, x4, x5, .un] = .ok .nx [.io (.ls p4), .sh (.int N), .own (.ls X2), .sh d, .sh (.list Y2), .sh q, .un] := by
  rcases u3 with rfl | ⟨d3, rfl⟩ <;> rcases u4 with rfl | ⟨d4, rfl⟩ <;> rcases u5 with rfl | ⟨d5, rfl⟩ <;> simp [hN1, e1, z_callR, ne, e2, e3, i0, c, e4, hh, mApp, ll, ha]
theorem stD {lw : D} {Y3 : List D} {k : Nat} (hN1 : N + 1 = N1) (e1 : F__law_row [.io (.ls p), .sh (.int N1)] = .ok (.own (.ls Y)) [.io (.ls p1), .sh (.int N1)]) (ne : dNe (.list X) (.list []) = some (.bool true)) (e2 : F__law_draw [.io (.ls p1), .sh (.int 5)] = .ok (.sh (.int 0)) [.io (.ls p2), .sh (.int 5)])
    (e3 : F__law_ratio [.io (.ls p2)] = .ok (.sh q) [.io (.ls p3)]) (i0 : dIx (.list X) (.int 0) = some (.list Z)) (c : ∀ (a b c2 d : Sl), lcL (gSet 6) tYesF (eFz (eFnC F__law_times [false, false] (aCons (eVar 5) (aCons (eVar 6) aNil)))) [6] Z [a, b, c2, d, .own (.ls Y), .sh q, .un] [] = .ok Y2 [a, b, c2, d, .own (.ls Y), .sh q, .un])
    (e4 : F__law_draw [.io (.ls p3), .sh (.int 2)] = .ok (.sh (.int 0)) [.io (.ls p4), .sh (.int 2)]) (i1 : dIx (.list Y2) (.int (-1)) = some lv) (e5 : F__law_sum [.sh lv, .sh (.tuple [.int 1, .int 1])] = .ok (.sh lw) [.sh lv, .sh (.tuple [.int 1, .int 1])]) (n1 : L2.ixN Y2.length (-1) = some k) (st : Y2.set k lw = Y3)
    (ll : X.length < 1000000) (ha : X ++ [.list Y3] = X2) (u3 : Us x3) (u4 : Us x4) (u5 : Us x5) :
    for1 (gSet 3) bodW d [.io (.ls p), .sh (.int N), .own (.ls X), x3, x4, x5, .un] = .ok .nx [.io (.ls p4), .sh (.int N), .own (.ls X2), .sh d, .sh (.list Y3), .sh q, .un] := by
  rcases u3 with rfl | ⟨d3, rfl⟩ <;> rcases u4 with rfl | ⟨d4, rfl⟩ <;> rcases u5 with rfl | ⟨d5, rfl⟩ <;> simp [hN1, e1, z_callR, ne, e2, e3, i0, c, e4, i1, e5, n1, st, mApp, ll, ha]
end
end K45
set_option Elab.async false
set_option linter.all false
set_option maxRecDepth 100000
set_option maxHeartbeats 4000000
namespace K45
open PySem L2 DL
theorem rows_step {n : Nat} (h1 : 1 ≤ n) (h4 : n ≤ 4) {R : List (List Rat)} (h0 : ∀ r, R[0]? = some r → r.length = n + 1 ∧ SzL 3 r) (hl : R.length ≤ 100) {p : List D} (P : Pot p) (d : D) {x3 x4 x5 : Sl} (u3 : Us x3) (u4 : Us x4) (u5 : Us x5) :
    ∃ p' r y5, Pot p' ∧ Us y5 ∧ r.length = n + 1 ∧ SzL 7 r ∧ (R = [] → SzL 3 r) ∧ for1 (gSet 3) bodW d [.io (.ls p), .sh (.int n), .own (.ls (R.map lD)), x3, x4, x5, .un] = .ok .nx [.io (.ls p'), .sh (.int n), .own (.ls ((R ++ [r]).map lD)), .sh d, .sh (lD r), y5, .un] := by
  obtain ⟨p1, r1, P1, l1, s1, e1⟩ := ev_lrow P (n := n + 1) (by omega)
  have hN1 : (n : Int) + 1 = ((n + 1 : Nat) : Int) := by rw [Int.natCast_add]; rfl
  have ll : (R.map lD).length < 1000000 := by rw [List.length_map]; omega
  have ap : ∀ r, R.map lD ++ [lD r] = (R ++ [r]).map lD := fun r => by rw [List.map_append]; rfl
  cases R with
  | nil => exact ⟨p1, r1, x5, P1, u5, l1, s1.up (by decide), fun _ => s1, stA hN1 e1 (ne_nil (shp_ints []) (by decide : 0 < 64)) u3 u4 u5⟩
  | cons r0 R' =>
    obtain ⟨l0, s0⟩ := h0 r0 rfl
    obtain ⟨p2, dg, P2, _, _, e2⟩ := ev_draw P1 (r := 5) (by decide) (by decide)
    have i0 : dIx (.list ((r0 :: R').map lD)) (.int 0) = some (lD r0) := z_dIxl0 _ _
    have ne : dNe (.list ((r0 :: R').map lD)) (.list []) = some (.bool true) := ne_nil (shp_m (r0 :: R')) (by decide : 2 < 64)
    by_cases hd : dg = 0
    · subst hd
      obtain ⟨p3, q, P3, sq, e3⟩ := ev_ratio P2
      obtain ⟨p4, dh, P4, _, _, e4⟩ := ev_draw P3 (r := 2) (by decide) (by decide)
      have sc : SzL 6 (r0.map fun x => q * x) := fun y hy => by
        obtain ⟨x, hx, rfl⟩ := List.mem_map.mp hy
        exact sq.mul (s0 x hx)
      have lc : (r0.map fun x => q * x).length = n + 1 := by rw [List.length_map, l0]
      have c : ∀ (a b c2 d : Sl), lcL (gSet 6) tYesF (eFz (eFnC F__law_times [false, false] (aCons (eVar 5) (aCons (eVar 6) aNil)))) [6] (r0.map rD) [a, b, c2, d, .own (.ls (r1.map rD)), .sh (rD q), .un] [] = .ok ((r0.map fun x => q * x).map rD) [a, b, c2, d, .own (.ls (r1.map rD)), .sh (rD q), .un] := fun a b c2 d => by
        rw [lcL_map (g := gSet 6) (ts := tYesF) (a := eFz (eFnC F__law_times [false, false] (aCons (eVar 5) (aCons (eVar 6) aNil)))) (vs := [6]) rD (fun x => rD (q * x)) r0 _ (fun x hx => by
          have e := ev_ltimes sq (s0 x hx) (by decide)
          simp [e, z_callR]) (by omega), List.map_map]
        rfl
      generalize hr : (r0.map fun x => q * x) = r2 at *
      by_cases hh : dh = 0
      · subst hh
        have hlast : r2.getLast? = some (r2.getD n 0) := by rw [List.getLast?_eq_getElem?, lc]; exact getD_ix (by omega)
        have i1 := ix_last (f := rD) hlast
        have sl : Sz 6 (r2.getD n 0) := sc _ (List.mem_of_getElem? (getD_ix (by omega)))
        have e5 := ev_lsum (p := r2.getD n 0) (q := 1) sl (n := 1) ⟨by decide, by decide⟩ (by decide)
        have o : (rD 1 : D) = .tuple [.int 1, .int 1] := rfl
        rw [o] at e5
        have st : (r2.map rD).set n (rD (r2.getD n 0 + 1)) = (r2.set n (r2.getD n 0 + 1)).map rD := by rw [List.map_set]
        refine ⟨p4, r2.set n (r2.getD n 0 + 1), .sh (rD q), P4, .inr ⟨_, rfl⟩, by rw [List.length_set]; exact lc, fun y hy => ?_, (fun z => by cases z), stD hN1 e1 ne e2 e3 i0 c e4 i1 e5 (ixN_last (by rw [List.length_map, lc])) st ll (ap _) u3 u4 u5⟩
        rcases List.mem_or_eq_of_mem_set hy with hy | rfl
        · exact (sc y hy).up (by decide)
        · exact Sz.one sl
      · exact ⟨p4, r2, .sh (rD q), P4, .inr ⟨_, rfl⟩, lc, sc.up (by decide), (fun z => by cases z), stC hN1 e1 ne e2 e3 i0 c e4 hh ll (ap _) u3 u4 u5⟩
    · exact ⟨p2, r1, x5, P2, u5, l1, s1.up (by decide), (fun z => by cases z), stB hN1 e1 ne e2 hd ll (ap _) u3 u4 u5⟩
theorem rows_loop {n : Nat} (h1 : 1 ≤ n) (h4 : n ≤ 4) : ∀ (L : List D) (R : List (List Rat)) (p : List D) (x3 x4 x5 : Sl), (∀ r, R[0]? = some r → SzL 3 r) → Wid n R → SzM 7 R → R.length + L.length ≤ 100 → Pot p → Us x3 → Us x4 → Us x5 →
    ∃ p' M y3 y4 y5, Pot p' ∧ Wid n M ∧ SzM 7 M ∧ M.length = R.length + L.length ∧ forL (gSet 3) bodW L [.io (.ls p), .sh (.int n), .own (.ls (R.map lD)), x3, x4, x5, .un] = .ok .nx [.io (.ls p'), .sh (.int n), .own (.ls (M.map lD)), y3, y4, y5, .un]
  | [], R, p, x3, x4, x5, _, w, s, _, P, _, _, _ => ⟨p, R, x3, x4, x5, P, w, s, rfl, rfl⟩
  | d :: L, R, p, x3, x4, x5, h0, w, s, hl, P, u3, u4, u5 => by
    have hl' : R.length + (L.length + 1) ≤ 100 := hl
    obtain ⟨p1, r, y5, P1, v5, lr, sr, s3, q⟩ := rows_step h1 h4 (fun r hr => ⟨w r (List.mem_of_getElem? hr), h0 r hr⟩) (by omega) P d u3 u4 u5
    obtain ⟨p', M, z3, z4, z5, P', w', s', l', q'⟩ := rows_loop h1 h4 L (R ++ [r]) p1 (.sh d) (.sh (lD r)) y5 (fun x hx => by
      cases R with
      | nil =>
        cases hx
        exact s3 rfl
      | cons a R' => exact h0 x hx) (fun x hx => by
      rcases List.mem_append.mp hx with h | h
      · exact w x h
      · rw [List.mem_singleton.mp h]; exact lr) (fun x hx => by
      rcases List.mem_append.mp hx with h | h
      · exact s x h
      · rw [List.mem_singleton.mp h]; exact sr) (by rw [List.length_append]; show R.length + 1 + L.length ≤ 100; omega) P1 (.inr ⟨_, rfl⟩) (.inr ⟨_, rfl⟩) v5
    exact ⟨p', M, z3, z4, z5, P', w', s', by simp only [List.length_append, List.length_cons, List.length_nil] at l' ⊢; omega, by rw [forL_nx q, q']⟩
theorem key3 {p p1 p2 X : List D} {N : Int} {dg : Int} {L : List D} {y3 y4 y5 : Sl} (B : Sf) (e : F__law_draw [.io (.ls p), .sh (.int 4)] = .ok (.sh (.int dg)) [.io (.ls p1), .sh (.int 4)]) (hN : 1 + dg = N) (sn : small62 N = true) (hL : ((List.range N.toNat).map fun (i : Nat) => (PyData.int (i : Int) : D)) = L)
    (w : forL (gSet 3) B L [.io (.ls p1), .sh (.int N), .own (.ls []), .un, .un, .un, .un] = .ok .nx [.io (.ls p2), .sh (.int N), .own (.ls X), y3, y4, y5, .un]) :
    runF 1 7 (sSeq (sPar 1 2 (eR (eOp2 dAdd (eC (.int 1)) (eFz (eFnC F__law_draw [true, false] (aCons (eVar 0) (aCons (eC (.int 4)) aNil)))))) (eLst aNil)) (sSeq (sFor (iRng1F (aCons (eVar 1) aNil)) (gSet 3) B) (sRet (eR (eVar 2))))) [.io (.ls p)] = .ok (.own (.ls X)) [.io (.ls p2)] := by
  simp [e, hN, sn, hL, w, z_callR]
theorem ev_rows {p : List D} (P : Pot p) : ∃ p' n M, Pot p' ∧ 1 ≤ n ∧ n ≤ 4 ∧ Wid n M ∧ SzM 7 M ∧ M.length = n ∧ F__law_rows [.io (.ls p)] = .ok (.own (.ls (M.map lD))) [.io (.ls p')] := by
  obtain ⟨p1, dg, P1, d0, d1, e⟩ := ev_draw P (r := 4) (by decide) (by decide)
  obtain ⟨m, rfl⟩ : ∃ m : Nat, dg = (m : Int) := ⟨dg.toNat, by omega⟩
  have hN : 1 + (m : Int) = ((m + 1 : Nat) : Int) := by rw [Int.natCast_add, Int.add_comm]; rfl
  obtain ⟨p2, M, y3, y4, y5, P2, w, s, l, q⟩ := rows_loop (n := m + 1) (by omega) (by omega) ((List.range ((m + 1 : Nat) : Int).toNat).map fun (i : Nat) => (PyData.int (i : Int) : D)) [] p1 .un .un .un (fun r hr => by cases hr) (fun r hr => by cases hr) (fun r hr => by cases hr) (by rw [List.length_map, List.length_range]; show 0 + _ ≤ 100; omega) P1 (.inl rfl) (.inl rfl) (.inl rfl)
  refine ⟨p2, m + 1, M, P2, by omega, by omega, w, s, ?_, key3 bodW e hN (small_n (by omega)) rfl q⟩
  rw [l, List.length_map, List.length_range]
  show 0 + ((m + 1 : Nat) : Int).toNat = m + 1
  omega
end K45
set_option Elab.async false
set_option linter.all false
set_option maxRecDepth 100000
set_option maxHeartbeats 4000000
namespace K45
open PySem L2 DL
def mPot2 (A B M Q U V N O C E : Int) : Sf := (sSeq (sSet 2 (eR (eIf (tOf (eOp2 dLt (eVar 1) (eCall bLen (aCons (eVar 0) aNil)))) (eCall bAbs (aCons (eOp2 dIx (eVar 0) (eVar 1)) aNil)) (eOp2 dAdd (eOp2 dMul (eC (.int A)) (eVar 1)) (eC (.int B)))))) (sSeq (sSet 3 (eR (eOp2 dAdd (eOp2 dMod (eCall bInt (aCons (eOp2 dAdd (eOp2 dAdd (eOp2 dMul (eOp2 dMod (eCall bInt (aCons (eVar 2) aNil)) (eC (.int M))) (eC (.int Q))) (eOp2 dMul (eC (.int U)) (eVar 1))) (eC (.int V))) aNil)) (eC (.int N))) (eC (.int O))))) (sRet (eLst (aCons (eCall bMax2 (aCons (eC (.int 0)) (aCons (eOp2 dSub (eVar 2) (eOp2 dPow (eC (.int C)) (eC (.int E)))) aNil))) (aCons (eVar 3) aNil))))))
theorem pot2_gen {A B M Q U V N O C E k k1 len cell T r rq uk z : Int} {script : D} (hl : bLen [script] = some (.int len)) (e1 : dMul (.int A) (.int k) = some (.int k1))
    (hv : (¬ k < len ∧ cell = k1 + B) ∨ (k < len ∧ ∃ v, dIx script (.int k) = some (.int v) ∧ cell = if v < 0 then -v else v)) (e2 : dPow (.int C) (.int E) = some (.int T)) (e3 : dMod (.int cell) (.int M) = some (.int r))
    (e4 : dMul (.int r) (.int Q) = some (.int rq)) (e5 : dMul (.int U) (.int k) = some (.int uk)) (e6 : dMod (.int (rq + uk + V)) (.int N) = some (.int z)) :
    runF 2 4 (mPot2 A B M Q U V N O C E) [.sh script, .sh (.int k)] = .ok (.own (.ls [.int (if cell - T > 0 then cell - T else 0), .int (z + O)])) [.sh script, .sh (.int k)] := by
  rcases hv with ⟨hk, hc⟩ | ⟨hk, v, hd, hc⟩
  · subst hc
    simp [mPot2, hl, e1, hk, e2, e3, e4, e5, e6]
  · rw [hc] at e3 ⊢
    simp [mPot2, hl, e1, hk, hd, e2, e3, e4, e5, e6]
theorem pot2_all {A B M Q U V N O C E : Int} (hA : A.natAbs < 2 ^ 31) (hM : 0 < M) (hM2 : M ≤ 2 ^ 31) (hQ : Q.natAbs < 2 ^ 31) (hU : U.natAbs < 2 ^ 31) (hN : 0 < N) (hN2 : N < 2147483640) (hO : 0 ≤ O) (hO2 : O ≤ 1) (hC : C = 10) (hE : E = 18) {ns : List Int} :
    ∃ p, Pot p ∧ runF 2 4 (mPot2 A B M Q U V N O C E) [.sh (.list (ns.map PyData.int)), .sh (.int 0)] = .ok (.own (.ls p)) [.sh (.list (ns.map PyData.int)), .sh (.int 0)] := by
  subst hC hE
  have pw : ∀ i j : Int, 0 ≤ j → j ≤ 1000000 → i.natAbs < 2 ^ 64 → dPow (.int i) (.int j) = some (.int (i ^ j.toNat)) := fun i j h1 h2 h3 => if_pos ⟨h1, h2, h3⟩
  have p2 := pw 10 18 (by omega) (by omega) (by omega)
  generalize (10 : Int) ^ (18 : Int).toNat = T at p2
  have go : ∀ cell : Int, ((¬ (0 : Int) < ns.length ∧ cell = A * 0 + B) ∨ ((0 : Int) < ns.length ∧ ∃ v, dIx (.list (ns.map PyData.int)) (.int 0) = some (.int v) ∧ cell = if v < 0 then -v else v)) →
      ∃ p, Pot p ∧ runF 2 4 (mPot2 A B M Q U V N O 10 18) [.sh (.list (ns.map PyData.int)), .sh (.int 0)] = .ok (.own (.ls p)) [.sh (.list (ns.map PyData.int)), .sh (.int 0)] := by
    intro cell hv
    have e3 : dMod (.int cell) (.int M) = some (.int (cell % M)) := by
      rw [fmod_ok (by omega), Int.fmod_eq_emod_of_nonneg _ (by omega)]
    have l1 : 0 ≤ cell % M := Int.emod_nonneg _ (by omega)
    have l2 : cell % M < M := Int.emod_lt_of_pos _ (by omega)
    generalize cell % M = r at e3 l1 l2
    have e4 : dMul (.int r) (.int Q) = some (.int (r * Q)) := mul_ok (m := 32) (by omega) hQ (by omega)
    have e5 : dMul (.int U) (.int 0) = some (.int (U * 0)) := mul_ok (n := 1) hU (by decide) (by omega)
    have e1 : dMul (.int A) (.int 0) = some (.int (A * 0)) := mul_ok (n := 1) hA (by decide) (by omega)
    have e6 : dMod (.int (r * Q + U * 0 + V)) (.int N) = some (.int ((r * Q + U * 0 + V) % N)) := by
      rw [fmod_ok (by omega), Int.fmod_eq_emod_of_nonneg _ (by omega)]
    have l3 : 0 ≤ (r * Q + U * 0 + V) % N := Int.emod_nonneg _ (by omega)
    have l4 : (r * Q + U * 0 + V) % N < N := Int.emod_lt_of_pos _ (by omega)
    generalize (r * Q + U * 0 + V) % N = z at e6 l3 l4
    refine ⟨_, ⟨⟨_, _, rfl, ?_, ?_, ?_⟩⟩, pot2_gen (len := ns.length) (by rw [z_bLen1, List.length_map]) e1 hv p2 e3 e4 e5 e6⟩
    · split <;> omega
    · omega
    · omega
  cases ns with
  | nil => exact go _ (.inl ⟨by decide, rfl⟩)
  | cons a t => exact go _ (.inr ⟨by show (0 : Int) < ((t.length + 1 : Nat) : Int); omega, a, z_dIxl0 _ _, rfl⟩)
theorem ev_pot (ns : List Int) : ∃ p, Pot p ∧ F__law_pot [.sh (.list (ns.map PyData.int)), .sh (.int 0)] = .ok (.own (.ls p)) [.sh (.list (ns.map PyData.int)), .sh (.int 0)] :=
  pot2_all (A := 1021) (B := 557) (M := 2147483549) (Q := 40014) (U := 9433) (V := 107) (N := 2147483563) (O := 1) (C := 10) (E := 18) (by omega) (by omega) (by omega) (by omega) (by omega) (by omega) (by omega) (by omega) (by omega) rfl rfl
end K45
set_option Elab.async false
set_option linter.all false
set_option maxRecDepth 100000
set_option maxHeartbeats 4000000
namespace K45
open PySem L2 DL
abbrev leftM (M : List (List Rat)) : List (List Rat) := M.map List.dropLast
abbrev rightM (n : Nat) (M : List (List Rat)) : List Rat := M.map (atN n)
theorem par_of {n : Nat} {M : List (List Rat)} (h1 : 1 ≤ n) (h4 : n ≤ 4) (hw : Wid n M) (hs : SzM 7 M) (hl : M.length = n) : Par n (leftM M) (rightM n M) := by
  refine ⟨h1, h4, by rw [List.length_map, hl], by rw [List.length_map, hl], fun r hr => ?_, fun q hq => ?_⟩
  · obtain ⟨x, hx, rfl⟩ := List.mem_map.mp hr
    exact ⟨by rw [List.length_dropLast, hw x hx]; rfl, fun q hq => hs x hx q (List.dropLast_subset _ hq)⟩
  · obtain ⟨x, hx, rfl⟩ := List.mem_map.mp hq
    exact hs x hx _ (List.mem_of_getElem? (getD_ix (by rw [hw x hx]; omega)))
structure Val (n : Nat) (M : List (List Rat)) (v : D) : Prop where
  ex : ∃ b : Bool, F__law_is_solution [.sh (mD M), .sh v] = .ok (.sh (.bool b)) [.sh (mD M), .sh v] ∧ F_is_solution [.sh (mD (leftM M)), .sh (lD (rightM n M)), .sh v] = .ok (.sh (.bool b)) [.sh (mD (leftM M)), .sh (lD (rightM n M)), .sh v]
section
variable {n : Nat} {M : List (List Rat)} (h1 : 1 ≤ n) (h4 : n ≤ 4) (hw : Wid n M) (hs : SzM 7 M) (hl : M.length = n)
include h1 h4 hw hs hl
theorem val_no {v : D} (hv : isT .tuple v = false) : Val n M v := ⟨false, lsol_no hv, isol_no (par_of h1 h4 hw hs hl) hv⟩
theorem val_els {xs : List (D × Bool)} (hx : Els xs) (hlx : xs.length ≤ 1000) (hf : (decide ((xs.length : Int) = n) && xs.all (·.2)) = false) : Val n M (.tuple (xs.map (·.1))) :=
  ⟨false, lsol_els hx hlx (by rw [hl]; exact hf), isol_els (par_of h1 h4 hw hs hl) hx hlx hf⟩
theorem val_vec {v : List Rat} {k : Nat} (hv : SzL k v) (hk : k ≤ 2000) (lv : v.length = n) : Val n M (tD v) := by
  have e1 := lsol_vec (n := 0) (m := M) (v := v) (fun r hr => ⟨hs r hr, fun z => by have := hw r hr; rw [z] at this; cases this⟩) hv hk (by rw [lv, hl]) (by omega)
  have e2 := isol_vec (par_of h1 h4 hw hs hl) hv hk lv
  have e : ((leftM M).zip (rightM n M)).all (fun p => decide (dotZ 0 (p.1.zip v) = p.2)) = M.all fun r => decide (dotZ 0 (r.zip v) = r.getLastD 0) := by
    rw [List.zip_map', List.all_map]
    have go : ∀ r ∈ M, (decide (dotZ 0 (r.dropLast.zip v) = atN n r)) = decide (dotZ 0 (r.zip v) = r.getLastD 0) := fun r hr => by
      have lr := hw r hr
      have la := last_app lr 0
      have z : r.zip v = r.dropLast.zip v := by
        have h := List.zip_append (l₁ := r.dropLast) (r₁ := [r.getD n 0]) (l₂ := v) (r₂ := []) (by rw [List.length_dropLast]; omega)
        rw [la, List.append_nil] at h
        rw [h]
        simp
      have g : r.getLastD 0 = atN n r := by
        unfold atN
        rw [List.getLastD_eq_getLast?, List.getLast?_eq_getElem?, lr, List.getD_eq_getElem?_getD]
        rfl
      rw [z, g]
    rw [Bool.eq_iff_iff, List.all_eq_true, List.all_eq_true]
    constructor
    · intro h r hr
      rw [← go r hr]
      exact h r hr
    · intro h r hr
      have := h r hr
      rw [← go r hr] at this
      exact this
  rw [e] at e2
  exact ⟨_, e1, e2⟩
end
end K45
set_option Elab.async false
set_option linter.all false
set_option maxRecDepth 100000
set_option maxHeartbeats 4000000
namespace K45
open PySem L2 DL
theorem seq_nx {f g : Sf} {e e' : Fr} (h : f e = .ok .nx e') : sSeq f g e = g e' := by
  show (f e).bind _ = _
  rw [h]
  rfl
theorem rp_bool (b : Bool) : bRepr [.bool b] = some (.str (PyData.bool b).shown) := z_bRepr _ ((Rp.bool b).ok (by decide) (by decide))
noncomputable abbrev bodV : Sf := (sSeq (sSet 13 (eFnC F__law_is_solution [false, false] (aCons (eVar 1) (aCons (eVar 12) aNil)))) (sSeq (sIf (tOf (eOp2 dNe (eCall bRepr (aCons (eFz (eFnC F_is_solution [false, false, false] (aCons (eVar 4) (aCons (eVar 5) (aCons (eVar 12) aNil))))) aNil)) (eCall bRepr (aCons (eVar 13) aNil)))) (sRet (eR (eC (.bool false)))) sNil) (sIf (tOf (eOp2 dNe (eCall bRepr (aCons (eFz (eFnK F_is_solution [false, false, false] [2, 1, 0] [] 0 3 aNil (aCons (eVar 12) (aCons (eVar 5) (aCons (eVar 4) aNil))))) aNil)) (eCall bRepr (aCons (eVar 13) aNil)))) (sRet (eR (eC (.bool false)))) sNil)))
theorem v_step {Md Ld bd v : D} {b : Bool} (e1 : F__law_is_solution [.sh Md, .sh v] = .ok (.sh (.bool b)) [.sh Md, .sh v]) (e2 : F_is_solution [.sh Ld, .sh bd, .sh v] = .ok (.sh (.bool b)) [.sh Ld, .sh bd, .sh v]) (a0 a2 a3 a6 a7 a8 a9 a10 a11 : Sl) {x12 x13 : Sl} (u12 : Us x12) (u13 : Us x13) :
    for1 (gSet 12) bodV v [a0, .sh Md, a2, a3, .sh Ld, .sh bd, a6, a7, a8, a9, a10, a11, x12, x13, .un] = .ok .nx [a0, .sh Md, a2, a3, .sh Ld, .sh bd, a6, a7, a8, a9, a10, a11, .sh v, .sh (.bool b), .un] := by
  have rb := rp_bool b
  generalize (PyData.bool b).shown = s at *
  rcases u12 with rfl | ⟨d12, rfl⟩ <;> rcases u13 with rfl | ⟨d13, rfl⟩ <;> simp [e1, e2, rb, z_callR]
theorem v_loop {n : Nat} {M : List (List Rat)} (a0 a2 a3 a6 a7 a8 a9 a10 a11 : Sl) : ∀ (vs : List D) (x12 x13 : Sl), (∀ v ∈ vs, Val n M v) → Us x12 → Us x13 →
    ∃ y12 y13, forL (gSet 12) bodV vs [a0, .sh (mD M), a2, a3, .sh (mD (leftM M)), .sh (lD (rightM n M)), a6, a7, a8, a9, a10, a11, x12, x13, .un] = .ok .nx [a0, .sh (mD M), a2, a3, .sh (mD (leftM M)), .sh (lD (rightM n M)), a6, a7, a8, a9, a10, a11, y12, y13, .un]
  | [], x12, x13, _, _, _ => ⟨x12, x13, rfl⟩
  | v :: vs, x12, x13, h, u12, u13 => by
    obtain ⟨b, e1, e2⟩ := (h v (List.mem_cons_self ..)).ex
    obtain ⟨y12, y13, w⟩ := v_loop a0 a2 a3 a6 a7 a8 a9 a10 a11 vs (.sh v) (.sh (.bool b)) (fun x hx => h x (List.mem_cons_of_mem _ hx)) (.inr ⟨_, rfl⟩) (.inr ⟨_, rfl⟩)
    exact ⟨y12, y13, by rw [forL_nx (v_step e1 e2 a0 a2 a3 a6 a7 a8 a9 a10 a11 u12 u13), w]⟩
section
variable {p p1 p2 p3 Ms Ls bs Ts Bs vs ws : List D} {due base : D} {N dg : Int} {s s2 : Str}
theorem st1 (e : F__law_rows [.io (.ls p)] = .ok (.own (.ls Ms)) [.io (.ls p1)]) : sSet 1 (eFnC F__law_rows [true] (aCons (eVar 0) aNil)) [.io (.ls p), .un, .un, .un, .un, .un, .un, .un, .un, .un, .un, .un, .un, .un, .un] = .ok .nx [.io (.ls p1), .own (.ls Ms), .un, .un, .un, .un, .un, .un, .un, .un, .un, .un, .un, .un, .un] := by
  simp [e, z_callR]
theorem st2 (e : F__law_solved [.sh (.list Ms)] = .ok (.sh due) [.sh (.list Ms)]) (hN : bLen [.list Ms] = some (.int N)) : ∃ s1, (s1 = .own (.ls Ms) ∨ s1 = .sh (.list Ms)) ∧
    sPar 2 3 (eFnC F__law_solved [false] (aCons (eVar 1) aNil)) (eR (eCall bLen (aCons (eVar 1) aNil))) [.io (.ls p1), .own (.ls Ms), .un, .un, .un, .un, .un, .un, .un, .un, .un, .un, .un, .un, .un] = .ok .nx [.io (.ls p1), s1, .sh due, .sh (.int N), .un, .un, .un, .un, .un, .un, .un, .un, .un, .un, .un] := by
  cases hf : flatD due with
  | true => exact ⟨_, .inl rfl, by simp [e, z_callR, hf, hN, -z_bLen1]⟩
  | false => exact ⟨_, .inr rfl, by simp [e, z_callR, hf, hN, -z_bLen1]⟩
theorem st3 {s1 : Sl} (hs : s1 = .own (.ls Ms) ∨ s1 = .sh (.list Ms))
    (c4 : ∀ a0 a2 a3, lcL (gSet 14) tYesF (eFz (eCut (eVar 14) oNone (oSome (eOp1 dNeg (eC (.int 1)))))) [14] Ms [a0, .sh (.list Ms), a2, a3, .un, .un, .un, .un, .un, .un, .un, .un, .un, .un, .un] [] = .ok Ls [a0, .sh (.list Ms), a2, a3, .un, .un, .un, .un, .un, .un, .un, .un, .un, .un, .un])
    (c5 : ∀ a0 a2 a3, lcL (gSet 14) tYesF (eOp2 dIx (eVar 14) (eOp1 dNeg (eC (.int 1)))) [14] Ms [a0, .sh (.list Ms), a2, a3, .un, .un, .un, .un, .un, .un, .un, .un, .un, .un, .un] [] = .ok bs [a0, .sh (.list Ms), a2, a3, .un, .un, .un, .un, .un, .un, .un, .un, .un, .un, .un]) :
    sPar 4 5 (eLc (iSeq (eVar 1)) (gSet 14) tYesF (eFz (eCut (eVar 14) oNone (oSome (eOp1 dNeg (eC (.int 1)))))) [14]) (eLc (iSeq (eVar 1)) (gSet 14) tYesF (eOp2 dIx (eVar 14) (eOp1 dNeg (eC (.int 1)))) [14]) [.io (.ls p1), s1, .sh due, .sh (.int N), .un, .un, .un, .un, .un, .un, .un, .un, .un, .un, .un]
      = .ok .nx [.io (.ls p1), .sh (.list Ms), .sh due, .sh (.int N), .own (.ls Ls), .own (.ls bs), .un, .un, .un, .un, .un, .un, .un, .un, .un] := by
  rcases hs with rfl | rfl <;> simp [c4, c5]
theorem st4 (r : bRepr [.list [.list Ls, .list bs]] = some (.str s)) : sSet 6 (eR (eCall bRepr (aCons (eFz (eLst (aCons (eVar 4) (aCons (eVar 5) aNil)))) aNil))) [.io (.ls p1), .sh (.list Ms), .sh due, .sh (.int N), .own (.ls Ls), .own (.ls bs), .un, .un, .un, .un, .un, .un, .un, .un, .un]
      = .ok .nx [.io (.ls p1), .sh (.list Ms), .sh due, .sh (.int N), .sh (.list Ls), .sh (.list bs), .sh (.str s), .un, .un, .un, .un, .un, .un, .un, .un] := by
  simp [r]
theorem st5 (e : F_solved_equations [.sh (.list Ls), .sh (.list bs)] = .ok (.sh due) [.sh (.list Ls), .sh (.list bs)]) (r : bRepr [due] = some (.str s2)) (f : Sf) : sIf (tOf (eOp2 dNe (eCall bRepr (aCons (eFz (eFnC F_solved_equations [false, false] (aCons (eVar 4) (aCons (eVar 5) aNil)))) aNil)) (eCall bRepr (aCons (eVar 2) aNil)))) f sNil [.io (.ls p1), .sh (.list Ms), .sh due, .sh (.int N), .sh (.list Ls), .sh (.list bs), .sh (.str s), .un, .un, .un, .un, .un, .un, .un, .un]
      = .ok .nx [.io (.ls p1), .sh (.list Ms), .sh due, .sh (.int N), .sh (.list Ls), .sh (.list bs), .sh (.str s), .un, .un, .un, .un, .un, .un, .un, .un] := by
  simp [e, r, z_callR]
theorem st6 (c : ∀ a0 a2 a3 a6, lcL (gSet 14) tYesF (eCall bTuple (aCons (eVar 14) aNil)) [14] Ls [a0, .sh (.list Ms), a2, a3, .sh (.list Ls), .sh (.list bs), a6, .un, .un, .un, .un, .un, .un, .un, .un] [] = .ok Ts [a0, .sh (.list Ms), a2, a3, .sh (.list Ls), .sh (.list bs), a6, .un, .un, .un, .un, .un, .un, .un, .un]) :
    sSet 7 (eR (eCall bTuple (aCons (eFz (eLc (iSeq (eVar 4)) (gSet 14) tYesF (eCall bTuple (aCons (eVar 14) aNil)) [14])) aNil))) [.io (.ls p1), .sh (.list Ms), .sh due, .sh (.int N), .sh (.list Ls), .sh (.list bs), .sh (.str s), .un, .un, .un, .un, .un, .un, .un, .un]
      = .ok .nx [.io (.ls p1), .sh (.list Ms), .sh due, .sh (.int N), .sh (.list Ls), .sh (.list bs), .sh (.str s), .sh (.tuple Ts), .un, .un, .un, .un, .un, .un, .un] := by
  simp [c]
theorem st7 (e : F_solved_equations [.sh (.tuple Ts), .sh (.tuple bs)] = .ok (.sh due) [.sh (.tuple Ts), .sh (.tuple bs)]) (r : bRepr [due] = some (.str s2)) (f : Sf) : sIf (tOf (eOp2 dNe (eCall bRepr (aCons (eFz (eFnK F_solved_equations [false, false] [1, 0] [] 0 2 aNil (aCons (eCall bTuple (aCons (eVar 5) aNil)) (aCons (eVar 7) aNil)))) aNil)) (eCall bRepr (aCons (eVar 2) aNil)))) f sNil [.io (.ls p1), .sh (.list Ms), .sh due, .sh (.int N), .sh (.list Ls), .sh (.list bs), .sh (.str s), .sh (.tuple Ts), .un, .un, .un, .un, .un, .un, .un]
      = .ok .nx [.io (.ls p1), .sh (.list Ms), .sh due, .sh (.int N), .sh (.list Ls), .sh (.list bs), .sh (.str s), .sh (.tuple Ts), .un, .un, .un, .un, .un, .un, .un] := by
  simp [e, r, z_callR]
end
end K45
set_option Elab.async false
set_option linter.all false
set_option maxRecDepth 100000
set_option maxHeartbeats 4000000
namespace K45
open PySem L2 DL
section
variable {p p1 p2 p3 Ms Ls bs Ts Bs B1 vs X1 X2 : List D} {due base v4 v9 v10 v11 v12 t1 t2 bq bq2 l0 lq lq0 rb w Md Ld bd : D} {N dg dg1 a b a2 b2 c1 c2 d1 d2 : Int} {s s2 : Str} {a1 a4 a5 a6 a7 a8 a9 a11 : Sl}
theorem st8a (e : F__law_row [.io (.ls p1), .sh (.int N)] = .ok (.own (.ls Bs)) [.io (.ls p2), .sh (.int N)]) :
    sSet 8 (eR (eIf (tOf (eOp2 dIsN (eVar 2) (eC .none))) (eVar 2) (eCall bTuple (aCons (eFz (eFnC F__law_row [true, false] (aCons (eVar 0) (aCons (eVar 3) aNil)))) aNil)))) [.io (.ls p1), .sh Md, .sh .none, .sh (.int N), .sh Ld, .sh bd, a6, a7, .un, .un, .un, .un, .un, .un, .un]
      = .ok .nx [.io (.ls p2), .sh Md, .sh .none, .sh (.int N), .sh Ld, .sh bd, a6, a7, .sh (.tuple Bs), .un, .un, .un, .un, .un, .un] := by
  simp [e, z_callR]
theorem st8b : sSet 8 (eR (eIf (tOf (eOp2 dIsN (eVar 2) (eC .none))) (eVar 2) (eCall bTuple (aCons (eFz (eFnC F__law_row [true, false] (aCons (eVar 0) (aCons (eVar 3) aNil)))) aNil)))) [.io (.ls p1), .sh Md, .sh (.tuple Bs), .sh (.int N), .sh Ld, .sh bd, a6, a7, .un, .un, .un, .un, .un, .un, .un]
      = .ok .nx [.io (.ls p1), .sh Md, .sh (.tuple Bs), .sh (.int N), .sh Ld, .sh bd, a6, a7, .sh (.tuple Bs), .un, .un, .un, .un, .un, .un] := by
  simp
theorem st9 (e : F__law_draw [.io (.ls p2), .sh (.int N)] = .ok (.sh (.int dg)) [.io (.ls p3), .sh (.int N)]) :
    sSet 9 (eFnC F__law_draw [true, false] (aCons (eVar 0) (aCons (eVar 3) aNil))) [.io (.ls p2), .sh Md, .sh due, .sh (.int N), .sh Ld, .sh bd, a6, a7, .sh (.tuple Bs), .un, .un, .un, .un, .un, .un]
      = .ok .nx [.io (.ls p3), .sh Md, .sh due, .sh (.int N), .sh Ld, .sh bd, a6, a7, .sh (.tuple Bs), .sh (.int dg), .un, .un, .un, .un, .un] := by
  simp [e, z_callR]
theorem st10 (cut : cutD Bs (some 1) none = B1) (ad : dAdd (.tuple Bs) (.tuple [.tuple [.int 0, .int 1]]) = some v4) (mq : dMulQ (.tuple [.bool true]) (.int N) = some v9) :
    sSet 10 (eLst (aCons (eVar 8) (aCons (eFz (eCallN bList (aCons (eVar 8) aNil))) (aCons (eFz (eCut (eVar 8) (oSome (eC (.int 1))) oNone)) (aCons (eOp2 dAdd (eVar 8) (eTup (aCons (eTup (aCons (eC (.int 0)) (aCons (eC (.int 1)) aNil))) aNil))) (aCons (eC .none) (aCons (eC (.int 0)) (aCons (eTup aNil) (aCons (eC (.str "x")) (aCons (eOp2 dMulQ (eTup (aCons (eC (.bool true)) aNil)) (eVar 3)) aNil)))))))))) [.io (.ls p3), .sh Md, .sh due, .sh (.int N), .sh Ld, .sh bd, a6, a7, .sh (.tuple Bs), .sh (.int dg), .un, .un, .un, .un, .un]
      = .ok .nx [.io (.ls p3), .sh Md, .sh due, .sh (.int N), .sh Ld, .sh bd, a6, a7, .sh (.tuple Bs), .sh (.int dg), .own (.ls [.tuple Bs, .list Bs, .tuple B1, v4, .none, .int 0, .tuple [], .str "x", v9]), .un, .un, .un, .un] := by
  simp [cut, ad, mq]
theorem st11 (hd : dg + 1 = dg1) (cutA : cutD Bs none (some dg) = X1) (cutB : cutD Bs (some dg1) none = X2) (ib : dIx (.tuple Bs) (.int dg) = some bq) (es : F__law_sum [.sh bq, .sh (.tuple [.int 1, .int 7])] = .ok (.sh bq2) [.sh bq, .sh (.tuple [.int 1, .int 7])]) (ad1 : dAdd (.tuple X1) (.tuple [bq2]) = some t1) (ad2 : dAdd t1 (.tuple X2) = some v10) (ll : vs.length < 1000000) :
    sDrop (eMt mApp (eVar 10) (aCons (eOp2 dAdd (eOp2 dAdd (eFz (eCut (eVar 8) oNone (oSome (eVar 9)))) (eTup (aCons (eFz (eFnC F__law_sum [false, false] (aCons (eOp2 dIx (eVar 8) (eVar 9)) (aCons (eTup (aCons (eC (.int 1)) (aCons (eC (.int 7)) aNil))) aNil)))) aNil))) (eFz (eCut (eVar 8) (oSome (eOp2 dAdd (eVar 9) (eC (.int 1)))) oNone))) aNil)) [.io (.ls p3), .sh Md, .sh due, .sh (.int N), .sh Ld, .sh bd, a6, a7, .sh (.tuple Bs), .sh (.int dg), .own (.ls vs), .un, .un, .un, .un]
      = .ok .nx [.io (.ls p3), .sh Md, .sh due, .sh (.int N), .sh Ld, .sh bd, a6, a7, .sh (.tuple Bs), .sh (.int dg), .own (.ls (vs ++ [v10])), .un, .un, .un, .un] := by
  simp [hd, cutA, cutB, ib, es, ad1, ad2, mApp, ll, z_callR]
theorem st12 {tw : Int} (hd : dg + 1 = dg1) (cutA : cutD Bs none (some dg) = X1) (cutB : cutD Bs (some dg1) none = X2) (ib : dIx (.tuple Bs) (.int dg) = some bq) (i0 : dIx bq (.int 0) = some (.int a)) (i1 : dIx bq (.int 1) = some (.int b)) (m0 : dMul (.int a) (.int tw) = some (.int a2)) (m1 : dMul (.int b) (.int tw) = some (.int b2)) (ad1 : dAdd (.tuple X1) (.tuple [.tuple [.int a2, .int b2]]) = some t2) (ad2 : dAdd t2 (.tuple X2) = some v11) (ll : vs.length < 1000000) :
    sDrop (eMt mApp (eVar 10) (aCons (eOp2 dAdd (eOp2 dAdd (eFz (eCut (eVar 8) oNone (oSome (eVar 9)))) (eTup (aCons (eTup (aCons (eOp2 dMul (eOp2 dIx (eOp2 dIx (eVar 8) (eVar 9)) (eC (.int 0))) (eC (.int tw))) (aCons (eOp2 dMul (eOp2 dIx (eOp2 dIx (eVar 8) (eVar 9)) (eC (.int 1))) (eC (.int tw))) aNil))) aNil))) (eFz (eCut (eVar 8) (oSome (eOp2 dAdd (eVar 9) (eC (.int 1)))) oNone))) aNil)) [.io (.ls p3), .sh Md, .sh due, .sh (.int N), .sh Ld, .sh bd, a6, a7, .sh (.tuple Bs), .sh (.int dg), .own (.ls vs), .un, .un, .un, .un]
      = .ok .nx [.io (.ls p3), .sh Md, .sh due, .sh (.int N), .sh Ld, .sh bd, a6, a7, .sh (.tuple Bs), .sh (.int dg), .own (.ls (vs ++ [v11])), .un, .un, .un, .un] := by
  simp [hd, cutA, cutB, ib, i0, i1, m0, m1, ad1, ad2, mApp, ll]
noncomputable abbrev sOne : Sf := (sIf (tOf (eOp2 dNe (eOp2 dIx (eOp2 dIx (eOp2 dIx (eVar 4) (eC (.int 0))) (eC (.int 0))) (eC (.int 0))) (eC (.int 0)))) (sSeq (sSet 11 (eFnC F__law_made [false, false] (aCons (eOp2 dMul (eOp2 dIx (eOp2 dIx (eVar 5) (eC (.int 0))) (eC (.int 0))) (eOp2 dIx (eOp2 dIx (eOp2 dIx (eVar 4) (eC (.int 0))) (eC (.int 0))) (eC (.int 1)))) (aCons (eOp2 dMul (eOp2 dIx (eOp2 dIx (eVar 5) (eC (.int 0))) (eC (.int 1))) (eOp2 dIx (eOp2 dIx (eOp2 dIx (eVar 4) (eC (.int 0))) (eC (.int 0))) (eC (.int 0)))) aNil)))) (sDrop (eMt mApp (eVar 10) (aCons (eOp2 dAdd (eTup (aCons (eVar 11) aNil)) (eOp2 dMulQ (eTup (aCons (eTup (aCons (eC (.int 0)) (aCons (eC (.int 1)) aNil))) aNil)) (eOp2 dSub (eVar 3) (eC (.int 1))))) aNil)))) sNil)
theorem st13a (il : dIx Ld (.int 0) = some l0) (ii : dIx l0 (.int 0) = some lq0) (i0 : dIx lq0 (.int 0) = some (.int a)) (h : a = 0) : sOne [.io (.ls p3), .sh Md, .sh due, .sh (.int N), .sh Ld, .sh bd, a6, a7, a8, a9, .own (.ls vs), .un, .un, .un, .un]
      = .ok .nx [.io (.ls p3), .sh Md, .sh due, .sh (.int N), .sh Ld, .sh bd, a6, a7, a8, a9, .own (.ls vs), .un, .un, .un, .un] := by
  simp [il, ii, i0, h]
theorem st13b (il : dIx Ld (.int 0) = some l0) (ii : dIx l0 (.int 0) = some lq0) (i0 : dIx lq0 (.int 0) = some (.int a)) (i1 : dIx lq0 (.int 1) = some (.int b)) (h : a ≠ 0) (ir : dIx bd (.int 0) = some rb) (r0 : dIx rb (.int 0) = some (.int c1)) (r1 : dIx rb (.int 1) = some (.int c2)) (m0 : dMul (.int c1) (.int b) = some (.int d1)) (m1 : dMul (.int c2) (.int a) = some (.int d2))
    (e : F__law_made [.sh (.int d1), .sh (.int d2)] = .ok (.sh lq) [.sh (.int d1), .sh (.int d2)]) (hn : N - 1 = dg1) (mq : dMulQ (.tuple [.tuple [.int 0, .int 1]]) (.int dg1) = some w) (ad : dAdd (.tuple [lq]) w = some v12) (ll : vs.length < 1000000) : sOne [.io (.ls p3), .sh Md, .sh due, .sh (.int N), .sh Ld, .sh bd, a6, a7, a8, a9, .own (.ls vs), .un, .un, .un, .un]
      = .ok .nx [.io (.ls p3), .sh Md, .sh due, .sh (.int N), .sh Ld, .sh bd, a6, a7, a8, a9, .own (.ls (vs ++ [v12])), .sh lq, .un, .un, .un] := by
  simp [il, ii, i0, i1, h, ir, r0, r1, m0, m1, e, hn, mq, ad, mApp, ll, z_callR]
theorem st14 {y12 y13 : Sl} (B : Sf) (w : forL (gSet 12) B vs [.io (.ls p3), .sh Md, .sh due, .sh (.int N), .sh Ld, .sh bd, a6, a7, a8, a9, .sh (.list vs), a11, .un, .un, .un] = .ok .nx [.io (.ls p3), .sh Md, .sh due, .sh (.int N), .sh Ld, .sh bd, a6, a7, a8, a9, .sh (.list vs), a11, y12, y13, .un]) :
    sFor (iSeq (eVar 10)) (gSet 12) B [.io (.ls p3), .sh Md, .sh due, .sh (.int N), .sh Ld, .sh bd, a6, a7, a8, a9, .own (.ls vs), a11, .un, .un, .un] = .ok .nx [.io (.ls p3), .sh Md, .sh due, .sh (.int N), .sh Ld, .sh bd, a6, a7, a8, a9, .sh (.list vs), a11, y12, y13, .un] := by
  simp [w]
theorem st15 {y12 y13 a10 a12 a13 a14 : Sl} (r : bRepr [.list [Ld, bd]] = some (.str s)) :
    sRet (eR (eOp2 dEq (eCall bRepr (aCons (eFz (eLst (aCons (eVar 4) (aCons (eVar 5) aNil)))) aNil)) (eVar 6))) [.io (.ls p3), .sh Md, .sh due, .sh (.int N), .sh Ld, .sh bd, .sh (.str s), a7, a8, a9, a10, a11, a12, a13, a14] = .ok (.rt (.sh (.bool true))) [.io (.ls p3), .sh Md, .sh due, .sh (.int N), .sh Ld, .sh bd, .sh (.str s), a7, a8, a9, a10, a11, a12, a13, a14] := by
  simp [r]
end
end K45
set_option Elab.async false
set_option linter.all false
set_option maxRecDepth 100000
set_option maxHeartbeats 4000000
namespace K45
open PySem L2 DL
theorem chain {A1 A2 A3 A4 A5 A6 A7 A8 A9 A10 A11 A12 A13 A14 A15 : Sf} {p q : List D} {f1 f2 f3 f4 f5 f6 f7 f8 f9 f10 f11 f12 f13 f14 e : Fr}
    (h1 : A1 [.io (.ls p), .un, .un, .un, .un, .un, .un, .un, .un, .un, .un, .un, .un, .un, .un] = .ok .nx f1) (h2 : A2 f1 = .ok .nx f2) (h3 : A3 f2 = .ok .nx f3) (h4 : A4 f3 = .ok .nx f4) (h5 : A5 f4 = .ok .nx f5) (h6 : A6 f5 = .ok .nx f6) (h7 : A7 f6 = .ok .nx f7) (h8 : A8 f7 = .ok .nx f8) (h9 : A9 f8 = .ok .nx f9) (h10 : A10 f9 = .ok .nx f10) (h11 : A11 f10 = .ok .nx f11) (h12 : A12 f11 = .ok .nx f12) (h13 : A13 f12 = .ok .nx f13) (h14 : A14 f13 = .ok .nx f14)
    (h15 : A15 f14 = .ok (.rt (.sh (.bool true))) (.io (.ls q) :: e)) :
    runF 1 15 (sSeq A1 (sSeq A2 (sSeq A3 (sSeq A4 (sSeq A5 (sSeq A6 (sSeq A7 (sSeq A8 (sSeq A9 (sSeq A10 (sSeq A11 (sSeq A12 (sSeq A13 (sSeq A14 A15)))))))))))))) [.io (.ls p)] = .ok (.sh (.bool true)) [.io (.ls q)] := by
  have e0 : sSeq A1 (sSeq A2 (sSeq A3 (sSeq A4 (sSeq A5 (sSeq A6 (sSeq A7 (sSeq A8 (sSeq A9 (sSeq A10 (sSeq A11 (sSeq A12 (sSeq A13 (sSeq A14 A15))))))))))))) [.io (.ls p), .un, .un, .un, .un, .un, .un, .un, .un, .un, .un, .un, .un, .un, .un] = .ok (.rt (.sh (.bool true))) (.io (.ls q) :: e) := by
    rw [seq_nx h1, seq_nx h2, seq_nx h3, seq_nx h4, seq_nx h5, seq_nx h6, seq_nx h7, seq_nx h8, seq_nx h9, seq_nx h10, seq_nx h11, seq_nx h12, seq_nx h13, seq_nx h14, h15]
  generalize sSeq A1 (sSeq A2 (sSeq A3 (sSeq A4 (sSeq A5 (sSeq A6 (sSeq A7 (sSeq A8 (sSeq A9 (sSeq A10 (sSeq A11 (sSeq A12 (sSeq A13 (sSeq A14 A15))))))))))))) = B at *
  simp [e0]
def q7 : Rat := ⟨1, 7, by decide, by decide⟩
theorem addT {xs ys : List D} (h : xs.length + ys.length ≤ 1000000) : dAdd (.tuple xs) (.tuple ys) = some (.tuple (xs ++ ys)) := if_pos (by rw [sizeLine_eq]; omega)
end K45
set_option Elab.async false
set_option linter.all false
set_option maxRecDepth 100000
set_option maxHeartbeats 4000000
namespace K45
open PySem L2 DL
theorem els_r {r : List Rat} {m : Nat} (h : SzL m r) (hm : m ≤ 7000) : Els (r.map fun q => (rD q, true)) := els_rat h (by omega)
theorem map_fst_r (r : List Rat) : (r.map fun q => ((rD q : D), true)).map (·.1) = r.map rD := by
  rw [List.map_map]
  rfl
section
variable {n : Nat} {M : List (List Rat)} (h1 : 1 ≤ n) (h4 : n ≤ 4) (hw : Wid n M) (hs : SzM 7 M) (hl : M.length = n)
include h1 h4 hw hs hl
/-- a tuple of ratios, another number of them -/
theorem val_len {qs : List Rat} {m : Nat} (sq : SzL m qs) (hm : m ≤ 7000) (hq : qs.length ≠ n) (h10 : qs.length ≤ 10) : Val n M (tD qs) := by
  have := val_els h1 h4 hw hs hl (xs := qs.map fun q => (rD q, true)) (els_r sq hm) (by rw [List.length_map]; omega) (by
    rw [List.length_map, decide_eq_false (by omega)]
    rfl)
  rw [map_fst_r] at this
  exact this
theorem val_true : Val n M (.tuple (List.replicate n (.bool true))) := by
  have := val_els h1 h4 hw hs hl (xs := List.replicate n (.bool true, false)) (fun p hp => by
    rw [List.eq_of_mem_replicate hp]
    exact el_bool true) (by rw [List.length_replicate]; omega) (by
    obtain ⟨m, rfl⟩ : ∃ m, n = m + 1 := ⟨n - 1, by omega⟩
    rw [List.replicate_succ]
    simp)
  rw [List.map_replicate] at this
  exact this
theorem val_two {x1 x2 : List Rat} {q : Rat} {m : Nat} (s1 : SzL m x1) (s2 : SzL m x2) (sq : Sz m q) (hm : m ≤ 7000) (hl1 : x1.length + x2.length ≤ 10) : Val n M (.tuple (x1.map rD ++ [.tuple [.int (q.num * 2), .int (q.den * 2)]] ++ x2.map rD)) := by
  have := val_els h1 h4 hw hs hl (xs := (x1.map fun q => ((rD q : D), true)) ++ [((.tuple [.int (q.num * 2), .int (q.den * 2)] : D), false)] ++ (x2.map fun q => ((rD q : D), true))) (fun p hp => by
    rcases List.mem_append.mp hp with hp | hp
    · rcases List.mem_append.mp hp with hp | hp
      · exact els_r s1 hm p hp
      · rw [List.mem_singleton.mp hp]
        exact el_two sq (by omega)
    · exact els_r s2 hm p hp) (by simp only [List.length_append, List.length_map, List.length_singleton]; omega) (by
    rw [Bool.and_eq_false_iff]
    right
    simp)
  rw [List.map_append, List.map_append, map_fst_r, map_fst_r] at this
  exact this
end
end K45
set_option Elab.async false
set_option linter.all false
set_option maxRecDepth 100000
set_option maxHeartbeats 4000000
namespace K45
open PySem L2 DL
theorem mulQ {ds : List D} {k : Nat} (h : ds ≠ []) (h1 : k ≤ 1000) (h2 : ds.length ≤ 1000) : dMulQ (.tuple ds) (.int (k : Int)) = some (.tuple (List.replicate k ds).flatten) := if_pos ⟨h, by omega, by omega, h2⟩
theorem right_base {n : Nat} {M : List (List Rat)} (h1 : 1 ≤ n) (h4 : n ≤ 4) (hw : Wid n M) (hs : SzM 7 M) (hl : M.length = n) {p p1 p2 : List D} (P2 : Pot p2) {qs : List Rat} (lq : qs.length = n) (sq : SzL 1877 qs) {due : D} {s2 : Str}
    (e1 : F__law_rows [.io (.ls p)] = .ok (.own (.ls (M.map lD))) [.io (.ls p1)]) (hdue : resD (gj (List.range n) M []) n = due) (rd : bRepr [due] = some (.str s2))
    (e8 : ∀ Md Ld bd a6 a7, sSet 8 (eR (eIf (tOf (eOp2 dIsN (eVar 2) (eC .none))) (eVar 2) (eCall bTuple (aCons (eFz (eFnC F__law_row [true, false] (aCons (eVar 0) (aCons (eVar 3) aNil)))) aNil)))) [.io (.ls p1), .sh Md, .sh due, .sh (.int n), .sh Ld, .sh bd, a6, a7, .un, .un, .un, .un, .un, .un, .un]
      = .ok .nx [.io (.ls p2), .sh Md, .sh due, .sh (.int n), .sh Ld, .sh bd, a6, a7, .sh (tD qs), .un, .un, .un, .un, .un, .un]) :
    ∃ q, F__law_right [.io (.ls p)] = .ok (.sh (.bool true)) [.io (.ls q)] := by
  have par := par_of h1 h4 hw hs hl
  have e2 := ev_lsolved h1 h4 hw hs hl
  rw [hdue] at e2
  have hN : bLen [mD M] = some (.int n) := by show bLen [.list _] = _; rw [z_bLen1, List.length_map, hl]
  obtain ⟨s1, hs1, h2⟩ := st2 (p1 := p1) e2 hN
  have cL : ∀ (a0 a2 a3 : Sl), lcL (gSet 14) tYesF (eFz (eCut (eVar 14) oNone (oSome (eOp1 dNeg (eC (.int 1)))))) [14] (M.map lD) [a0, .sh (mD M), a2, a3, .un, .un, .un, .un, .un, .un, .un, .un, .un, .un, .un] [] = .ok ((leftM M).map lD) [a0, .sh (mD M), a2, a3, .un, .un, .un, .un, .un, .un, .un, .un, .un, .un, .un] := fun a0 a2 a3 => by
    rw [lcL_map (g := gSet 14) (ts := tYesF) (a := eFz (eCut (eVar 14) oNone (oSome (eOp1 dNeg (eC (.int 1)))))) (vs := [14]) lD (fun r => lD r.dropLast) M _ (fun r hr => by
      have e : cutD (r.map rD) none (some (-1)) = (r.map rD).dropLast := cutD_last
      simp [e]) (by omega), List.map_map]
    rfl
  have cR : ∀ (a0 a2 a3 : Sl), lcL (gSet 14) tYesF (eOp2 dIx (eVar 14) (eOp1 dNeg (eC (.int 1)))) [14] (M.map lD) [a0, .sh (mD M), a2, a3, .un, .un, .un, .un, .un, .un, .un, .un, .un, .un, .un] [] = .ok ((rightM n M).map rD) [a0, .sh (mD M), a2, a3, .un, .un, .un, .un, .un, .un, .un, .un, .un, .un, .un] := fun a0 a2 a3 => by
    rw [lcL_map (g := gSet 14) (ts := tYesF) (a := eOp2 dIx (eVar 14) (eOp1 dNeg (eC (.int 1)))) (vs := [14]) lD (fun r => rD (atN n r)) M _ (fun r hr => by
      have lr := hw r hr
      have e := ix_last (f := rD) (xs := r) (x := atN n r) (by rw [List.getLast?_eq_getElem?, lr]; exact getD_ix (by omega))
      simp [e]) (by omega), List.map_map]
    rfl
  have h3 := st3 (p1 := p1) (due := due) (N := n) hs1 cL cR
  have rpl : ∀ r ∈ leftM M, Rp 19514 2 (lD r) := fun r hr => Rp.up (Rp.list (n := 5) (w := 3900) (k := 1) (fun d hd => by
    obtain ⟨q, hq, rfl⟩ := List.mem_map.mp hd
    exact Rp.rD ((par.row r hr).2 q hq) (by decide)) (by rw [List.length_map, (par.row r hr).1]; omega)) (by decide) (Nat.le_refl _)
  have rpL : Rp 97583 3 (mD (leftM M)) := Rp.up (Rp.list (n := 5) (w := 19514) (k := 2) (fun d hd => by
    obtain ⟨r, hr, rfl⟩ := List.mem_map.mp hd
    exact rpl r hr) (by rw [List.length_map, par.la]; omega)) (by decide) (Nat.le_refl _)
  have rpb : Rp 97583 3 (lD (rightM n M)) := Rp.up (Rp.list (n := 5) (w := 3900) (k := 1) (fun d hd => by
    obtain ⟨q, hq, rfl⟩ := List.mem_map.mp hd
    exact Rp.rD (par.sb q hq) (by decide)) (by rw [List.length_map, par.lb]; omega)) (by decide) (by decide)
  have r4 := z_bRepr (.list [mD (leftM M), lD (rightM n M)]) ((Rp.list (n := 2) (w := 97583) (k := 3) (fun d hd => by
    rcases List.mem_cons.mp hd with rfl | hd
    · exact rpL
    · rw [List.mem_singleton.mp hd]
      exact rpb) (Nat.le_refl _)).ok (by decide) (by decide))
  have h4' := st4 (p1 := p1) (Ms := M.map lD) (due := due) (N := n) r4
  have eA : M.map (fun r => (lD r.dropLast : D)) = (leftM M).map lD := by rw [List.map_map]; rfl
  have eB : M.map (fun r => (rD (atN n r) : D)) = (rightM n M).map rD := by rw [List.map_map]; rfl
  have eT : M.map (fun r => (tD r.dropLast : D)) = (leftM M).map tD := by rw [List.map_map]; rfl
  have e5 := ev_solved h1 h4 hw hs hl (f := lD) (dr := mD (leftM M)) (db := lD (rightM n M)) (k1 := .l) (k2 := .l) (ev_want par.eqs) (fun r => rfl) (by rw [eA]; rfl) (by rw [eB]; rfl)
  have e7 := ev_solved h1 h4 hw hs hl (f := tD) (dr := .tuple ((leftM M).map tD)) (db := tD (rightM n M)) (k1 := .t) (k2 := .t) (ev_want (eqs_t h1 h4 par.la par.lb par.row par.sb)) (fun r => rfl) (by rw [eT]; rfl) (by rw [eB]; rfl)
  rw [hdue] at e5 e7
  have h5 := st5 (p1 := p1) (Ms := M.map lD) (N := n) (s := (PyData.list [mD (leftM M), lD (rightM n M)]).shown) e5 rd (sRet (eR (eC (.bool false))))
  have cT : ∀ (a0 a2 a3 a6 : Sl), lcL (gSet 14) tYesF (eCall bTuple (aCons (eVar 14) aNil)) [14] ((leftM M).map lD) [a0, .sh (mD M), a2, a3, .sh (mD (leftM M)), .sh (lD (rightM n M)), a6, .un, .un, .un, .un, .un, .un, .un, .un] [] = .ok ((leftM M).map tD) [a0, .sh (mD M), a2, a3, .sh (mD (leftM M)), .sh (lD (rightM n M)), a6, .un, .un, .un, .un, .un, .un, .un, .un] := fun a0 a2 a3 a6 =>
    lcL_map (g := gSet 14) (ts := tYesF) (a := eCall bTuple (aCons (eVar 14) aNil)) (vs := [14]) lD tD (leftM M) _ (fun r hr => by simp) (by rw [par.la]; omega)
  have h6 := st6 (p1 := p1) (due := due) (N := n) (s := (PyData.list [mD (leftM M), lD (rightM n M)]).shown) cT
  have h7 := st7 (p1 := p1) (Ms := M.map lD) (Ls := (leftM M).map lD) (N := n) (s := (PyData.list [mD (leftM M), lD (rightM n M)]).shown) e7 rd (sRet (eR (eC (.bool false))))
  have h8 := e8 (mD M) (mD (leftM M)) (lD (rightM n M)) (.sh (.str (PyData.list [mD (leftM M), lD (rightM n M)]).shown)) (.sh (.tuple ((leftM M).map tD)))
  obtain ⟨p3, dg, P3, d0, d1, e9⟩ := ev_draw P2 (r := (n : Int)) (by omega) (by omega)
  obtain ⟨i, rfl⟩ : ∃ i : Nat, dg = (i : Int) := ⟨dg.toNat, by omega⟩
  have hi : i < n := by omega
  have h9 := st9 (Md := mD M) (due := due) (Ld := mD (leftM M)) (bd := lD (rightM n M)) (a6 := .sh (.str (PyData.list [mD (leftM M), lD (rightM n M)]).shown)) (a7 := .sh (.tuple ((leftM M).map tD))) (Bs := qs.map rD) e9
  have cut1 : cutD (qs.map rD) (some 1) none = (qs.drop 1).map rD := by
    rw [List.map_drop]
    exact cutD_from (n := 1)
  have mq : dMulQ (.tuple [.bool true]) (.int (n : Int)) = some (.tuple (List.replicate n (.bool true))) := by
    rw [mulQ (by simp) (by omega) (by decide)]
    simp
  have h10 := st10 (p3 := p3) (Md := mD M) (due := due) (Ld := mD (leftM M)) (bd := lD (rightM n M)) (dg := (i : Int)) (a6 := .sh (.str (PyData.list [mD (leftM M), lD (rightM n M)]).shown)) (a7 := .sh (.tuple ((leftM M).map tD))) cut1 (addT (by rw [List.length_map, lq]; show n + 1 ≤ _; omega)) mq
  have hdg : (i : Int) + 1 = ((i + 1 : Nat) : Int) := by rw [Int.natCast_add]; rfl
  have cutA : cutD (qs.map rD) none (some (i : Int)) = (qs.take i).map rD := by
    rw [List.map_take]
    exact cutD_to
  have cutB : cutD (qs.map rD) (some ((i + 1 : Nat) : Int)) none = (qs.drop (i + 1)).map rD := by
    rw [List.map_drop]
    exact cutD_from
  have gi : qs[i]? = some (qs.getD i 0) := getD_ix (by omega)
  have ib := ix_mapT (f := rD) gi
  have si : Sz 1877 (qs.getD i 0) := sq _ (List.mem_of_getElem? gi)
  have s7 : Sz 3 q7 := ⟨by decide, by decide⟩
  have es := ev_lsum si s7 (by decide)
  have lt : (qs.take i).length = i := by rw [List.length_take]; omega
  have ld : (qs.drop (i + 1)).length = n - (i + 1) := by rw [List.length_drop, lq]
  have h11 := st11 (p3 := p3) (Md := mD M) (due := due) (Ld := mD (leftM M)) (bd := lD (rightM n M)) (N := (n : Int)) (a6 := .sh (.str (PyData.list [mD (leftM M), lD (rightM n M)]).shown)) (a7 := .sh (.tuple ((leftM M).map tD)))
    (vs := [tD qs, .list (qs.map rD), tD (qs.drop 1), .tuple (qs.map rD ++ [.tuple [.int 0, .int 1]]), .none, .int 0, .tuple [], .str "x", .tuple (List.replicate n (.bool true))]) hdg cutA cutB ib es
    (addT (by rw [List.length_map, lt]; show i + 1 ≤ _; omega)) (addT (by rw [List.length_append, List.length_map, List.length_map, lt, ld]; show i + 1 + (n - (i + 1)) ≤ _; omega)) (by simp)
  have m0 := mul_ok si.num (b := 2) (n := 2) (by decide) (by omega)
  have m1 := mul_ok (a := ((qs.getD i 0).den : Int)) (m := 1877) (by have := si.den; omega) (b := 2) (n := 2) (by decide) (by omega)
  have h12 := st12 (p3 := p3) (Md := mD M) (due := due) (Ld := mD (leftM M)) (bd := lD (rightM n M)) (N := (n : Int)) (a6 := .sh (.str (PyData.list [mD (leftM M), lD (rightM n M)]).shown)) (a7 := .sh (.tuple ((leftM M).map tD)))
    (vs := [tD qs, .list (qs.map rD), tD (qs.drop 1), .tuple (qs.map rD ++ [.tuple [.int 0, .int 1]]), .none, .int 0, .tuple [], .str "x", .tuple (List.replicate n (.bool true))] ++ [.tuple ((qs.take i).map rD ++ [rD (qs.getD i 0 + q7)] ++ (qs.drop (i + 1)).map rD)]) hdg cutA cutB ib (z_rD0 _) (z_rD1 _) m0 m1
    (addT (by rw [List.length_map, lt]; show i + 1 ≤ _; omega)) (addT (by rw [List.length_append, List.length_map, List.length_map, lt, ld]; show i + 1 + (n - (i + 1)) ≤ _; omega)) (by simp)
  have fin : ∀ (vs : List D) (a11 : Sl), (∀ v ∈ vs, Val n M v) → _ := fun vs a11 hv =>
    v_loop (n := n) (M := M) (.io (.ls p3)) (.sh due) (.sh (.int n)) (.sh (.str (PyData.list [mD (leftM M), lD (rightM n M)]).shown)) (.sh (.tuple ((leftM M).map tD))) (.sh (tD qs)) (.sh (.int (i : Int))) (.sh (.list vs)) a11 vs .un .un hv (.inl rfl) (.inl rfl)
  have vbase : ∀ v ∈ (([tD qs, .list (qs.map rD), tD (qs.drop 1), .tuple (qs.map rD ++ [.tuple [.int 0, .int 1]]), .none, .int 0, .tuple [], .str "x", .tuple (List.replicate n (.bool true))] : List D) ++ [.tuple ((qs.take i).map rD ++ [rD (qs.getD i 0 + q7)] ++ (qs.drop (i + 1)).map rD)]) ++ [.tuple ((qs.take i).map rD ++ [.tuple [.int ((qs.getD i 0).num * 2), .int (((qs.getD i 0).den : Int) * 2)]] ++ (qs.drop (i + 1)).map rD)], Val n M v := fun v hv => by
    have stake : SzL 1877 (qs.take i) := fun x hx => sq x (List.mem_of_mem_take hx)
    have sdrop : SzL 1877 (qs.drop (i + 1)) := fun x hx => sq x (List.mem_of_mem_drop hx)
    rcases List.mem_append.mp hv with hv | hv
    · rcases List.mem_append.mp hv with hv | hv
      · simp only [List.mem_cons, List.not_mem_nil, or_false] at hv
        rcases hv with rfl | rfl | rfl | rfl | rfl | rfl | rfl | rfl | rfl
        · exact val_vec h1 h4 hw hs hl sq (by decide) lq
        · exact val_no h1 h4 hw hs hl rfl
        · exact val_len h1 h4 hw hs hl (fun x hx => sq x (List.mem_of_mem_drop hx)) (by decide) (by rw [List.length_drop]; omega) (by rw [List.length_drop]; omega)
        · have := val_len h1 h4 hw hs hl (qs := qs ++ [0]) (m := 1877) (fun x hx => by
            rcases List.mem_append.mp hx with hx | hx
            · exact sq x hx
            · rw [List.mem_singleton.mp hx]
              exact (⟨by decide, by decide⟩ : Sz 1 (0 : Rat)).up (by decide)) (by decide) (by rw [List.length_append]; show qs.length + 1 ≠ n; omega) (by rw [List.length_append]; show qs.length + 1 ≤ 10; omega)
          rw [show tD (qs ++ [0]) = .tuple (qs.map rD ++ [.tuple [.int 0, .int 1]]) by show PyData.tuple _ = _; rw [List.map_append]; rfl] at this
          exact this
        · exact val_no h1 h4 hw hs hl rfl
        · exact val_no h1 h4 hw hs hl rfl
        · exact val_len h1 h4 hw hs hl (qs := []) (m := 1) (fun x hx => by cases hx) (by decide) (by show 0 ≠ n; omega) (by decide)
        · exact val_no h1 h4 hw hs hl rfl
        · exact val_true h1 h4 hw hs hl
      · rw [List.mem_singleton.mp hv]
        have := val_vec h1 h4 hw hs hl (v := qs.take i ++ [qs.getD i 0 + q7] ++ qs.drop (i + 1)) (k := 1881) (fun x hx => by
          rcases List.mem_append.mp hx with hx | hx
          · rcases List.mem_append.mp hx with hx | hx
            · exact (stake x hx).up (by decide)
            · rw [List.mem_singleton.mp hx]
              exact si.add s7
          · exact (sdrop x hx).up (by decide)) (by decide) (by rw [List.length_append, List.length_append, lt, ld]; show i + 1 + (n - (i + 1)) = n; omega)
        rw [show tD (qs.take i ++ [qs.getD i 0 + q7] ++ qs.drop (i + 1)) = .tuple ((qs.take i).map rD ++ [rD (qs.getD i 0 + q7)] ++ (qs.drop (i + 1)).map rD) by show PyData.tuple _ = _; rw [List.map_append, List.map_append]; rfl] at this
        exact this
    · rw [List.mem_singleton.mp hv]
      exact val_two h1 h4 hw hs hl stake sdrop si (by decide) (by rw [lt, ld]; omega)
  have g0 : (leftM M)[0]? = some ((leftM M).getD 0 []) := by
    rw [List.getD_eq_getElem?_getD, List.getElem?_eq_getElem (show 0 < (leftM M).length by rw [par.la]; omega)]
    rfl
  have gb : (rightM n M)[0]? = some ((rightM n M).getD 0 0) := getD_ix (by rw [par.lb]; omega)
  have p0 := par.row _ (List.mem_of_getElem? g0)
  have gq : ((leftM M).getD 0 [])[0]? = some (((leftM M).getD 0 []).getD 0 0) := getD_ix (by rw [p0.1]; omega)
  have s0 : Sz 7 (((leftM M).getD 0 []).getD 0 0) := p0.2 _ (List.mem_of_getElem? gq)
  have s1' : Sz 7 ((rightM n M).getD 0 0) := par.sb _ (List.mem_of_getElem? gb)
  have il : dIx (mD (leftM M)) (.int 0) = some (lD ((leftM M).getD 0 [])) := ix_map (f := lD) (n := 0) g0
  have ii : dIx (lD ((leftM M).getD 0 [])) (.int 0) = some (rD (((leftM M).getD 0 []).getD 0 0)) := ix_map (f := rD) (n := 0) gq
  have ir : dIx (lD (rightM n M)) (.int 0) = some (rD ((rightM n M).getD 0 0)) := ix_map (f := rD) (n := 0) gb
  generalize ((leftM M).getD 0 []).getD 0 0 = q0 at *
  generalize (rightM n M).getD 0 0 = qb at *
  by_cases z : q0.num = 0
  · obtain ⟨y12, y13, w⟩ := fin _ .un vbase
    exact ⟨_, chain (st1 e1) h2 h3 h4' h5 h6 h7 h8 h9 h10 h11 h12 (st13a il ii (z_rD0 _) z) (st14 bodV w) (st15 (y12 := .un) (y13 := .un) r4)⟩
  · have n0 : ((qb.den : Int)) * q0.num ≠ 0 := Int.mul_ne_zero (den_ne qb) z
    have b0 : ((q0.den : Int)).natAbs < 2 ^ 7 := by simpa using s0.den
    have b1 : ((qb.den : Int)).natAbs < 2 ^ 7 := by simpa using s1'.den
    have k0 := mul_ok s1'.num b0 (by omega)
    have k1 := mul_ok b1 s0.num (by omega)
    have em := ev_lmade (a := qb.num * q0.den) n0 (abs_mul_lt b1 s0.num) (by omega)
    have sd : Sz 14 (Rat.divInt (qb.num * q0.den) (qb.den * q0.num)) := sz_divInt n0 (abs_mul_lt s1'.num b0) (abs_mul_lt b1 s0.num)
    generalize Rat.divInt (qb.num * q0.den) (qb.den * q0.num) = qq at *
    have mz : dMulQ (.tuple [.tuple [.int 0, .int 1]]) (.int ((n - 1 : Nat) : Int)) = some (.tuple (List.replicate (n - 1) (.tuple [.int 0, .int 1]))) := by
      rw [mulQ (fun z => by cases z) (by omega) (by decide), List.flatten_replicate_singleton]
    have h13 : ∀ vs : List D, vs.length < 1000000 → _ := fun vs hvs => st13b (vs := vs) (p3 := p3) (Md := mD M) (due := due) (N := (n : Int)) (dg1 := ((n - 1 : Nat) : Int)) (a6 := .sh (.str (PyData.list [mD (leftM M), lD (rightM n M)]).shown)) (a7 := .sh (.tuple ((leftM M).map tD))) (a8 := .sh (tD qs)) (a9 := .sh (.int (i : Int))) il ii (z_rD0 _) (z_rD1 _) z ir (z_rD0 _) (z_rD1 _) k0 k1 em (by omega) mz
      (addT (by rw [List.length_replicate]; show 1 + (n - 1) ≤ _;omega)) hvs
    have vv := val_vec h1 h4 hw hs hl (v := qq :: List.replicate (n - 1) 0) (k := 14) (fun x hx => by
      rcases List.mem_cons.mp hx with rfl | hx
      · exact sd
      · rw [List.eq_of_mem_replicate hx]
        exact (⟨by decide, by decide⟩ : Sz 1 (0 : Rat)).up (by decide)) (by decide) (by rw [List.length_cons, List.length_replicate]; omega)
    have tz : tD (qq :: List.replicate (n - 1) 0) = .tuple ([rD qq] ++ List.replicate (n - 1) (.tuple [.int 0, .int 1])) := by
      show PyData.tuple _ = _
      rw [List.map_cons, List.map_replicate]
      rfl
    rw [tz] at vv
    obtain ⟨y12, y13, w⟩ := fin _ (.sh (rD qq)) (fun v hv => (List.mem_append.mp hv).elim (vbase v) fun hv => by rw [List.mem_singleton.mp hv]; exact vv)
    exact ⟨_, chain (st1 e1) h2 h3 h4' h5 h6 h7 h8 h9 h10 h11 h12 (h13 _ (by simp only [List.length_append, List.length_cons, List.length_nil]; omega)) (st14 bodV w) (st15 (y12 := .un) (y13 := .un) r4)⟩
end K45
set_option Elab.async false
set_option linter.all false
set_option maxRecDepth 100000
set_option maxHeartbeats 4000000
namespace K45
open PySem L2 DL
theorem ev_right {p : List D} (P : Pot p) : ∃ q, F__law_right [.io (.ls p)] = .ok (.sh (.bool true)) [.io (.ls q)] := by
  obtain ⟨p1, n, M, P1, h1, h4, hw, hs, hl, e1⟩ := ev_rows P
  cases hg : gj (List.range n) M [] with
  | none =>
    obtain ⟨p2, qs, P2, lq, sq, er⟩ := ev_lrow P1 (n := n) (by omega)
    refine right_base h1 h4 hw hs hl (due := .none) P2 lq (SzL.up sq (by decide)) e1 (by rw [hg]; rfl) (z_bRepr _ (Rp.ok (Rp.none) (by decide) (by decide))) fun Md Ld bd a6 a7 => ?_
    exact st8a er
  | some lh =>
    obtain ⟨l', h'⟩ := lh
    obtain ⟨_, lh', sz⟩ := own_sz h1 h4 hw hs hl hg
    have rp : Rp 97583 3 (tD (h'.map (atN n))) := Rp.up (Rp.tuple (n := 5) (w := 3900) (k := 1) (fun d hd => by
      obtain ⟨q, hq, rfl⟩ := List.mem_map.mp hd
      exact Rp.rD (sz q hq) (by decide)) (by rw [List.length_map, List.length_map]; omega)) (by decide) (by decide)
    refine right_base h1 h4 hw hs hl (due := tD (h'.map (atN n))) (qs := h'.map (atN n)) P1 (by rw [List.length_map]; exact lh') sz e1 (by rw [hg]; rfl) (z_bRepr _ (Rp.ok rp (by decide) (by decide))) fun Md Ld bd a6 a7 => ?_
    exact st8b
theorem say_all : ∀ ns : List Int, ns.length ≤ 63 → (∀ z ∈ ns, Builtin.Int.intBits z ≤ 1048576) → ∃ os, F_law [.sh (DL.scr ns)] = .ok (.sh (.bool true)) os := fun ns _ _ => by
  obtain ⟨p, P, e⟩ := ev_pot ns
  obtain ⟨os, er⟩ := ev_right P
  have e' : F__law_pot [.sh (scr ns), .sh (.int 0)] = .ok (.own (.ls p)) [.sh (scr ns), .sh (.int 0)] := e
  refine ⟨[.sh (scr ns)], ?_⟩
  cases fl : p.all flatD <;> cases fq : os.all flatD <;> simp [F_law, m_law, e', er, z_callR, fl, fq]
end K45
set_option Elab.async false
set_option linter.all false
set_option maxRecDepth 100000
set_option maxHeartbeats 0
/-! printed by gen.py: the head by facts, the law down to its frame function -/
namespace K45
open PySem PySem.Spec PyProof.Rows L2 DL
def dd__law_pot : He.DefD := ⟨("_law_pot", none), "_law_pot", "_law_pot", defArgs s__law_pot, defBody s__law_pot, defScope s__law_pot, [], []⟩
def dd_made_ratio : He.DefD := ⟨("made_ratio", none), "made_ratio", "made_ratio", defArgs s_made_ratio, defBody s_made_ratio, defScope s_made_ratio, [], []⟩
def dd_led_head : He.DefD := ⟨("led_head", none), "led_head", "led_head", defArgs s_led_head, defBody s_led_head, defScope s_led_head, [], []⟩
def dd_row_below : He.DefD := ⟨("row_below", none), "row_below", "row_below", defArgs s_row_below, defBody s_row_below, defScope s_row_below, [], []⟩
def dd_reduced_table : He.DefD := ⟨("reduced_table", none), "reduced_table", "reduced_table", defArgs s_reduced_table, defBody s_reduced_table, defScope s_reduced_table, [], []⟩
def dd_numbers_from_below : He.DefD := ⟨("numbers_from_below", none), "numbers_from_below", "numbers_from_below", defArgs s_numbers_from_below, defBody s_numbers_from_below, defScope s_numbers_from_below, [], []⟩
def dd_reduced_solution : He.DefD := ⟨("reduced_solution", none), "reduced_solution", "reduced_solution", defArgs s_reduced_solution, defBody s_reduced_solution, defScope s_reduced_solution, [], []⟩
def dd_least_common : He.DefD := ⟨("least_common", none), "least_common", "least_common", defArgs s_least_common, defBody s_least_common, defScope s_least_common, [], []⟩
def dd_as_whole : He.DefD := ⟨("as_whole", none), "as_whole", "as_whole", defArgs s_as_whole, defBody s_as_whole, defScope s_as_whole, [], []⟩
def dd_is_list : He.DefD := ⟨("is_list", none), "is_list", "is_list", defArgs s_is_list, defBody s_is_list, defScope s_is_list, [], []⟩
def dd_is_integer : He.DefD := ⟨("is_integer", none), "is_integer", "is_integer", defArgs s_is_integer, defBody s_is_integer, defScope s_is_integer, [], []⟩
def dd_is_ratio : He.DefD := ⟨("is_ratio", none), "is_ratio", "is_ratio", defArgs s_is_ratio, defBody s_is_ratio, defScope s_is_ratio, [], []⟩
def dd_is_ratio_row : He.DefD := ⟨("is_ratio_row", none), "is_ratio_row", "is_ratio_row", defArgs s_is_ratio_row, defBody s_is_ratio_row, defScope s_is_ratio_row, [], []⟩
def dd_want_equations : He.DefD := ⟨("want_equations", none), "want_equations", "want_equations", defArgs s_want_equations, defBody s_want_equations, defScope s_want_equations, [], []⟩
def dd_solved_equations : He.DefD := ⟨("solved_equations", none), "solved_equations", "solved_equations", defArgs s_solved_equations, defBody s_solved_equations, defScope s_solved_equations, [], []⟩
def dd_add_ratios : He.DefD := ⟨("add_ratios", none), "add_ratios", "add_ratios", defArgs s_add_ratios, defBody s_add_ratios, defScope s_add_ratios, [], []⟩
def dd_mul_ratios : He.DefD := ⟨("mul_ratios", none), "mul_ratios", "mul_ratios", defArgs s_mul_ratios, defBody s_mul_ratios, defScope s_mul_ratios, [], []⟩
def dd_sum_of_products : He.DefD := ⟨("sum_of_products", none), "sum_of_products", "sum_of_products", defArgs s_sum_of_products, defBody s_sum_of_products, defScope s_sum_of_products, [], []⟩
def dd_is_solution : He.DefD := ⟨("is_solution", none), "is_solution", "is_solution", defArgs s_is_solution, defBody s_is_solution, defScope s_is_solution, [], []⟩
def dd__law_draw : He.DefD := ⟨("_law_draw", none), "_law_draw", "_law_draw", defArgs s__law_draw, defBody s__law_draw, defScope s__law_draw, [], []⟩
def dd__law_made : He.DefD := ⟨("_law_made", none), "_law_made", "_law_made", defArgs s__law_made, defBody s__law_made, defScope s__law_made, [], []⟩
def dd__law_sum : He.DefD := ⟨("_law_sum", none), "_law_sum", "_law_sum", defArgs s__law_sum, defBody s__law_sum, defScope s__law_sum, [], []⟩
def dd__law_times : He.DefD := ⟨("_law_times", none), "_law_times", "_law_times", defArgs s__law_times, defBody s__law_times, defScope s__law_times, [], []⟩
def dd__law_less : He.DefD := ⟨("_law_less", none), "_law_less", "_law_less", defArgs s__law_less, defBody s__law_less, defScope s__law_less, [], []⟩
def dd__law_freed : He.DefD := ⟨("_law_freed", none), "_law_freed", "_law_freed", defArgs s__law_freed, defBody s__law_freed, defScope s__law_freed, [], []⟩
def dd__law_solved : He.DefD := ⟨("_law_solved", none), "_law_solved", "_law_solved", defArgs s__law_solved, defBody s__law_solved, defScope s__law_solved, [], []⟩
def dd__law_pick : He.DefD := ⟨("_law_pick", none), "_law_pick", "_law_pick", defArgs s__law_pick, defBody s__law_pick, defScope s__law_pick, [], []⟩
def dd__law_ratio : He.DefD := ⟨("_law_ratio", none), "_law_ratio", "_law_ratio", defArgs s__law_ratio, defBody s__law_ratio, defScope s__law_ratio, [], []⟩
def dd__law_row : He.DefD := ⟨("_law_row", none), "_law_row", "_law_row", defArgs s__law_row, defBody s__law_row, defScope s__law_row, [], []⟩
def dd__law_rows : He.DefD := ⟨("_law_rows", none), "_law_rows", "_law_rows", defArgs s__law_rows, defBody s__law_rows, defScope s__law_rows, [], []⟩
def dd__law_sums : He.DefD := ⟨("_law_sums", none), "_law_sums", "_law_sums", defArgs s__law_sums, defBody s__law_sums, defScope s__law_sums, [], []⟩
def dd__law_is_ratio : He.DefD := ⟨("_law_is_ratio", none), "_law_is_ratio", "_law_is_ratio", defArgs s__law_is_ratio, defBody s__law_is_ratio, defScope s__law_is_ratio, [], []⟩
def dd__law_is_solution : He.DefD := ⟨("_law_is_solution", none), "_law_is_solution", "_law_is_solution", defArgs s__law_is_solution, defBody s__law_is_solution, defScope s__law_is_solution, [], []⟩
def dd__law_right : He.DefD := ⟨("_law_right", none), "_law_right", "_law_right", defArgs s__law_right, defBody s__law_right, defScope s__law_right, [], []⟩
def dd_law : He.DefD := ⟨("law", none), "law", "law", defArgs s_law, defBody s_law, defScope s_law, [], []⟩
def ddi_InvalidRight : He.DefD := ⟨("InvalidRight", some "__init__"), "__init__", "WebError.__init__", defArgs si_WebError, defBody si_WebError, defScope si_WebError, [.non], []⟩
def ddi_InvalidRows : He.DefD := ⟨("InvalidRows", some "__init__"), "__init__", "WebError.__init__", defArgs si_WebError, defBody si_WebError, defScope si_WebError, [.non], []⟩
def fn : List He.DefD := [dd__law_pot, dd_made_ratio, dd_led_head, dd_row_below, dd_reduced_table, dd_numbers_from_below, dd_reduced_solution, dd_least_common, dd_as_whole, dd_is_list, dd_is_integer, dd_is_ratio, dd_is_ratio_row, dd_want_equations, dd_solved_equations, dd_add_ratios, dd_mul_ratios, dd_sum_of_products, dd_is_solution, dd__law_draw, dd__law_made, dd__law_sum, dd__law_times, dd__law_less, dd__law_freed, dd__law_solved, dd__law_pick, dd__law_ratio, dd__law_row, dd__law_rows, dd__law_sums, dd__law_is_ratio, dd__law_is_solution, dd__law_right, dd_law, ddi_InvalidRight, ddi_InvalidRows]
def fa : List He.Fa := [.glo "_law_pot", .glo "made_ratio", .glo "led_head", .glo "row_below", .glo "reduced_table", .glo "numbers_from_below", .glo "reduced_solution", .glo "least_common", .glo "as_whole", .glo "is_list", .glo "is_integer", .glo "is_ratio", .glo "is_ratio_row", .glo "want_equations", .glo "solved_equations", .glo "add_ratios", .glo "mul_ratios", .glo "sum_of_products", .glo "is_solution", .glo "_law_draw", .glo "_law_made", .glo "_law_sum", .glo "_law_times", .glo "_law_less", .glo "_law_freed", .glo "_law_solved", .glo "_law_pick", .glo "_law_ratio", .glo "_law_row", .glo "_law_rows", .glo "_law_sums", .glo "_law_is_ratio", .glo "_law_is_solution", .glo "_law_right", .glo "law", .free "max", .free "int", .free "len", .free "abs", .free "range", .free "zip", .free "list", .free "tuple", .free "enumerate", .free "isinstance", .free "bool", .free "all", .glo "InvalidRight", .glo "InvalidRows", .int "MOST_ROWS" (20), .glo "NOUGHT", .free "divmod", .free "repr"]
def ex (K : PySem.W.Frag) : Bool := (He.tupB K "NOUGHT" [.int (0), .int (1)] && (He.eqO (PySem.W.nsIn K mainGlobals "gcd") (some (some (.builtin "math.gcd"))) && (oexAll K (He.ga K "InvalidRight") (He.ma K (He.ga K "InvalidRight") "__init__") "value" && (oexAll K (He.ga K "InvalidRows") (He.ma K (He.ga K "InvalidRows") "__init__") "value" && true))))
theorem keeps {P : Program} {w : World} {K : PySem.W.Frag} {h : Heap} {mg : Str → Option Value} {f : Addr} (X : K.In h) (G : h.Ns mainGlobals mg) (hfa : mg ("law" : Str) = some (.ref f)) (cc : He.SaysD fa fn K ∧ ex K = true) :
    ∃ fd : FuncData, (∀ (s : Shared) (v : Value), BindsTo s fd ⟨[v], []⟩ [("_law_script", v)]) ∧ ∀ base : Heap, K.In base → base.Ns mainGlobals mg → FnG P w K mg base 7 f fd ["_law_script"] (spF K mg 1 F_law) := by
  have cd : He.SaysD fa fn K := cc.1
  have cx : ex K = true := cc.2
  unfold ex at cx
  obtain ⟨cx0, cx⟩ := He.ba cx
  obtain ⟨cx1, cx⟩ := He.ba cx
  obtain ⟨cx2, cx⟩ := He.ba cx
  obtain ⟨cx3, cx⟩ := He.ba cx
  obtain ⟨fd__law_pot, D__law_pot⟩ := cd.def_ 0 (d := dd__law_pot) rfl
  have g__law_pot := He.glo_ok X G (cd.fact 0 (f := .glo "_law_pot") rfl)
  obtain ⟨fd_made_ratio, D_made_ratio⟩ := cd.def_ 1 (d := dd_made_ratio) rfl
  have g_made_ratio := He.glo_ok X G (cd.fact 1 (f := .glo "made_ratio") rfl)
  obtain ⟨fd_led_head, D_led_head⟩ := cd.def_ 2 (d := dd_led_head) rfl
  have g_led_head := He.glo_ok X G (cd.fact 2 (f := .glo "led_head") rfl)
  obtain ⟨fd_row_below, D_row_below⟩ := cd.def_ 3 (d := dd_row_below) rfl
  have g_row_below := He.glo_ok X G (cd.fact 3 (f := .glo "row_below") rfl)
  obtain ⟨fd_reduced_table, D_reduced_table⟩ := cd.def_ 4 (d := dd_reduced_table) rfl
  have g_reduced_table := He.glo_ok X G (cd.fact 4 (f := .glo "reduced_table") rfl)
  obtain ⟨fd_numbers_from_below, D_numbers_from_below⟩ := cd.def_ 5 (d := dd_numbers_from_below) rfl
  have g_numbers_from_below := He.glo_ok X G (cd.fact 5 (f := .glo "numbers_from_below") rfl)
  obtain ⟨fd_reduced_solution, D_reduced_solution⟩ := cd.def_ 6 (d := dd_reduced_solution) rfl
  have g_reduced_solution := He.glo_ok X G (cd.fact 6 (f := .glo "reduced_solution") rfl)
  obtain ⟨fd_least_common, D_least_common⟩ := cd.def_ 7 (d := dd_least_common) rfl
  have g_least_common := He.glo_ok X G (cd.fact 7 (f := .glo "least_common") rfl)
  obtain ⟨fd_as_whole, D_as_whole⟩ := cd.def_ 8 (d := dd_as_whole) rfl
  have g_as_whole := He.glo_ok X G (cd.fact 8 (f := .glo "as_whole") rfl)
  obtain ⟨fd_is_list, D_is_list⟩ := cd.def_ 9 (d := dd_is_list) rfl
  have g_is_list := He.glo_ok X G (cd.fact 9 (f := .glo "is_list") rfl)
  obtain ⟨fd_is_integer, D_is_integer⟩ := cd.def_ 10 (d := dd_is_integer) rfl
  have g_is_integer := He.glo_ok X G (cd.fact 10 (f := .glo "is_integer") rfl)
  obtain ⟨fd_is_ratio, D_is_ratio⟩ := cd.def_ 11 (d := dd_is_ratio) rfl
  have g_is_ratio := He.glo_ok X G (cd.fact 11 (f := .glo "is_ratio") rfl)
  obtain ⟨fd_is_ratio_row, D_is_ratio_row⟩ := cd.def_ 12 (d := dd_is_ratio_row) rfl
  have g_is_ratio_row := He.glo_ok X G (cd.fact 12 (f := .glo "is_ratio_row") rfl)
  obtain ⟨fd_want_equations, D_want_equations⟩ := cd.def_ 13 (d := dd_want_equations) rfl
  have g_want_equations := He.glo_ok X G (cd.fact 13 (f := .glo "want_equations") rfl)
  obtain ⟨fd_solved_equations, D_solved_equations⟩ := cd.def_ 14 (d := dd_solved_equations) rfl
  have g_solved_equations := He.glo_ok X G (cd.fact 14 (f := .glo "solved_equations") rfl)
  obtain ⟨fd_add_ratios, D_add_ratios⟩ := cd.def_ 15 (d := dd_add_ratios) rfl
  have g_add_ratios := He.glo_ok X G (cd.fact 15 (f := .glo "add_ratios") rfl)
  obtain ⟨fd_mul_ratios, D_mul_ratios⟩ := cd.def_ 16 (d := dd_mul_ratios) rfl
  have g_mul_ratios := He.glo_ok X G (cd.fact 16 (f := .glo "mul_ratios") rfl)
  obtain ⟨fd_sum_of_products, D_sum_of_products⟩ := cd.def_ 17 (d := dd_sum_of_products) rfl
  have g_sum_of_products := He.glo_ok X G (cd.fact 17 (f := .glo "sum_of_products") rfl)
  obtain ⟨fd_is_solution, D_is_solution⟩ := cd.def_ 18 (d := dd_is_solution) rfl
  have g_is_solution := He.glo_ok X G (cd.fact 18 (f := .glo "is_solution") rfl)
  obtain ⟨fd__law_draw, D__law_draw⟩ := cd.def_ 19 (d := dd__law_draw) rfl
  have g__law_draw := He.glo_ok X G (cd.fact 19 (f := .glo "_law_draw") rfl)
  obtain ⟨fd__law_made, D__law_made⟩ := cd.def_ 20 (d := dd__law_made) rfl
  have g__law_made := He.glo_ok X G (cd.fact 20 (f := .glo "_law_made") rfl)
  obtain ⟨fd__law_sum, D__law_sum⟩ := cd.def_ 21 (d := dd__law_sum) rfl
  have g__law_sum := He.glo_ok X G (cd.fact 21 (f := .glo "_law_sum") rfl)
  obtain ⟨fd__law_times, D__law_times⟩ := cd.def_ 22 (d := dd__law_times) rfl
  have g__law_times := He.glo_ok X G (cd.fact 22 (f := .glo "_law_times") rfl)
  obtain ⟨fd__law_less, D__law_less⟩ := cd.def_ 23 (d := dd__law_less) rfl
  have g__law_less := He.glo_ok X G (cd.fact 23 (f := .glo "_law_less") rfl)
  obtain ⟨fd__law_freed, D__law_freed⟩ := cd.def_ 24 (d := dd__law_freed) rfl
  have g__law_freed := He.glo_ok X G (cd.fact 24 (f := .glo "_law_freed") rfl)
  obtain ⟨fd__law_solved, D__law_solved⟩ := cd.def_ 25 (d := dd__law_solved) rfl
  have g__law_solved := He.glo_ok X G (cd.fact 25 (f := .glo "_law_solved") rfl)
  obtain ⟨fd__law_pick, D__law_pick⟩ := cd.def_ 26 (d := dd__law_pick) rfl
  have g__law_pick := He.glo_ok X G (cd.fact 26 (f := .glo "_law_pick") rfl)
  obtain ⟨fd__law_ratio, D__law_ratio⟩ := cd.def_ 27 (d := dd__law_ratio) rfl
  have g__law_ratio := He.glo_ok X G (cd.fact 27 (f := .glo "_law_ratio") rfl)
  obtain ⟨fd__law_row, D__law_row⟩ := cd.def_ 28 (d := dd__law_row) rfl
  have g__law_row := He.glo_ok X G (cd.fact 28 (f := .glo "_law_row") rfl)
  obtain ⟨fd__law_rows, D__law_rows⟩ := cd.def_ 29 (d := dd__law_rows) rfl
  have g__law_rows := He.glo_ok X G (cd.fact 29 (f := .glo "_law_rows") rfl)
  obtain ⟨fd__law_sums, D__law_sums⟩ := cd.def_ 30 (d := dd__law_sums) rfl
  have g__law_sums := He.glo_ok X G (cd.fact 30 (f := .glo "_law_sums") rfl)
  obtain ⟨fd__law_is_ratio, D__law_is_ratio⟩ := cd.def_ 31 (d := dd__law_is_ratio) rfl
  have g__law_is_ratio := He.glo_ok X G (cd.fact 31 (f := .glo "_law_is_ratio") rfl)
  obtain ⟨fd__law_is_solution, D__law_is_solution⟩ := cd.def_ 32 (d := dd__law_is_solution) rfl
  have g__law_is_solution := He.glo_ok X G (cd.fact 32 (f := .glo "_law_is_solution") rfl)
  obtain ⟨fd__law_right, D__law_right⟩ := cd.def_ 33 (d := dd__law_right) rfl
  have g__law_right := He.glo_ok X G (cd.fact 33 (f := .glo "_law_right") rfl)
  obtain ⟨fd_law, D_law⟩ := cd.def_ 34 (d := dd_law) rfl
  have h_max := He.free_ok X G (cd.fact 35 (f := .free "max") rfl)
  have h_int := He.free_ok X G (cd.fact 36 (f := .free "int") rfl)
  have h_len := He.free_ok X G (cd.fact 37 (f := .free "len") rfl)
  have h_abs := He.free_ok X G (cd.fact 38 (f := .free "abs") rfl)
  have h_gcd := PySem.W.mg_of X G (He.eqO_ok cx1)
  have h_range := He.free_ok X G (cd.fact 39 (f := .free "range") rfl)
  have h_zip := He.free_ok X G (cd.fact 40 (f := .free "zip") rfl)
  have h_list := He.free_ok X G (cd.fact 41 (f := .free "list") rfl)
  have h_tuple := He.free_ok X G (cd.fact 42 (f := .free "tuple") rfl)
  have h_enumerate := He.free_ok X G (cd.fact 43 (f := .free "enumerate") rfl)
  have h_isinstance := He.free_ok X G (cd.fact 44 (f := .free "isinstance") rfl)
  have h_bool := He.free_ok X G (cd.fact 45 (f := .free "bool") rfl)
  have h_all := He.free_ok X G (cd.fact 46 (f := .free "all") rfl)
  have g_InvalidRight := He.glo_ok X G (cd.fact 47 (f := .glo "InvalidRight") rfl)
  have g_InvalidRows := He.glo_ok X G (cd.fact 48 (f := .glo "InvalidRows") rfl)
  obtain ⟨t_MOST_ROWS, z_MOST_ROWS⟩ := He.int_ok X G (cd.fact 49 (f := .int "MOST_ROWS" (20)) rfl)
  have v_MOST_ROWS := And.intro (And.intro z_MOST_ROWS (show RelV (.int (20)) (.int (20) t_MOST_ROWS) from ⟨_, rfl⟩)) (fun G : Hp => (Dp.int (K := K) (H := G) (20)))
  have v_NOUGHT : (mg "NOUGHT" = some (.ref (He.ga K "NOUGHT")) ∧ RelV (.ref (He.ga K "NOUGHT")) (.ref (He.ga K "NOUGHT"))) ∧ ∀ G, Dp K G (.ref (He.ga K "NOUGHT")) (.tuple [(.int (0)), (.int (1))]) := ⟨⟨He.glo_ok X G (cd.fact 50 (f := .glo "NOUGHT") rfl), rfl⟩, fun G => .tup (He.tupB_ok cx0 G) (.cons (.int _) (.cons (.int _) .nil))⟩
  have h_divmod := He.free_ok X G (cd.fact 51 (f := .free "divmod") rfl)
  have h_repr := He.free_ok X G (cd.fact 52 (f := .free "repr") rfl)
  have e := hfa.symm.trans (He.glo_ok X G (cd.fact 34 (f := .glo "law") rfl))
  cases e
  have b := FunD.bindsA (ps := ["_law_script"]) D_law fun _ _ _ _ _ _ us hl => match us, hl with | [_], _ => rfl
  refine ⟨fd_law, fun s v => b s [v] rfl, fun base _ _ => ?_⟩
  obtain ⟨fdI_InvalidRight, DI_InvalidRight⟩ := cd.def_ 35 (d := ddi_InvalidRight) rfl
  have o_InvalidRight : ExR P w K mg base (He.ga K "InvalidRight") "value" := ⟨He.ma K (He.ga K "InvalidRight") "__init__", fdI_InvalidRight, ["self", "value"], oex_ok cx2, init_ok (P := P) (w := w) (mg := mg) (base := base) DI_InvalidRight sci_WebError rfl, binds_def DI_InvalidRight 2 rfl rfl fun _ _ _ _ _ _ _ us its h1 h2 => match us, its, h1, h2 with | [_, _], [_], _, _ => ⟨_, rfl, rfl⟩⟩
  obtain ⟨fdI_InvalidRows, DI_InvalidRows⟩ := cd.def_ 36 (d := ddi_InvalidRows) rfl
  have o_InvalidRows : ExR P w K mg base (He.ga K "InvalidRows") "value" := ⟨He.ma K (He.ga K "InvalidRows") "__init__", fdI_InvalidRows, ["self", "value"], oex_ok cx3, init_ok (P := P) (w := w) (mg := mg) (base := base) DI_InvalidRows sci_WebError rfl, binds_def DI_InvalidRows 2 rfl rfl fun _ _ _ _ _ _ _ us its h1 h2 => match us, its, h1, h2 with | [_, _], [_], _, _ => ⟨_, rfl, rfl⟩⟩
  have R__law_pot := r__law_pot (P := P) (w := w) (mg := mg) (base := base) D__law_pot h_max h_int h_len h_abs
  have R_made_ratio := r_made_ratio (P := P) (w := w) (mg := mg) (base := base) D_made_ratio h_gcd
  have R_led_head := r_led_head (P := P) (w := w) (mg := mg) (base := base) D_led_head h_len h_range
  have R_row_below := r_row_below (P := P) (w := w) (mg := mg) (base := base) D_row_below h_zip
  have R_reduced_table := r_reduced_table (P := P) (w := w) (mg := mg) (base := base) D_reduced_table h_len h_range D_row_below g_row_below R_row_below D_led_head g_led_head R_led_head h_list
  have R_numbers_from_below := r_numbers_from_below (P := P) (w := w) (mg := mg) (base := base) D_numbers_from_below h_range h_len
  have R_reduced_solution := r_reduced_solution (P := P) (w := w) (mg := mg) (base := base) D_reduced_solution h_len h_range D_made_ratio g_made_ratio R_made_ratio h_tuple D_numbers_from_below g_numbers_from_below R_numbers_from_below D_reduced_table g_reduced_table R_reduced_table h_enumerate h_list
  have R_least_common := r_least_common (P := P) (w := w) (mg := mg) (base := base) D_least_common h_gcd
  have R_as_whole := r_as_whole (P := P) (w := w) (mg := mg) (base := base) D_as_whole D_least_common g_least_common R_least_common
  have R_is_list := r_is_list (P := P) (w := w) (mg := mg) (base := base) D_is_list h_isinstance h_list h_tuple
  have R_is_integer := r_is_integer (P := P) (w := w) (mg := mg) (base := base) D_is_integer h_isinstance h_bool h_int
  have R_is_ratio := r_is_ratio (P := P) (w := w) (mg := mg) (base := base) D_is_ratio h_gcd D_is_integer g_is_integer R_is_integer h_len h_isinstance h_tuple
  have R_is_ratio_row := r_is_ratio_row (P := P) (w := w) (mg := mg) (base := base) D_is_ratio_row D_is_ratio g_is_ratio R_is_ratio h_all h_len D_is_list g_is_list R_is_list
  have R_want_equations := r_want_equations (P := P) (w := w) (mg := mg) (base := base) D_want_equations D_is_ratio_row g_is_ratio_row R_is_ratio_row h_len o_InvalidRight g_InvalidRight h_all o_InvalidRows g_InvalidRows v_MOST_ROWS D_is_list g_is_list R_is_list
  have R_solved_equations := r_solved_equations (P := P) (w := w) (mg := mg) (base := base) D_solved_equations D_reduced_solution g_reduced_solution R_reduced_solution h_zip D_as_whole g_as_whole R_as_whole h_list D_want_equations g_want_equations R_want_equations
  have R_add_ratios := r_add_ratios (P := P) (w := w) (mg := mg) (base := base) D_add_ratios D_made_ratio g_made_ratio R_made_ratio
  have R_mul_ratios := r_mul_ratios (P := P) (w := w) (mg := mg) (base := base) D_mul_ratios D_made_ratio g_made_ratio R_made_ratio
  have R_sum_of_products := r_sum_of_products (P := P) (w := w) (mg := mg) (base := base) D_sum_of_products h_zip D_add_ratios g_add_ratios R_add_ratios D_mul_ratios g_mul_ratios R_mul_ratios v_NOUGHT
  have R_is_solution := r_is_solution (P := P) (w := w) (mg := mg) (base := base) D_is_solution h_zip D_sum_of_products g_sum_of_products R_sum_of_products h_all D_is_ratio_row g_is_ratio_row R_is_ratio_row h_len h_isinstance h_tuple D_want_equations g_want_equations R_want_equations
  have R__law_draw := r__law_draw (P := P) (w := w) (mg := mg) (base := base) D__law_draw h_int h_divmod
  have R__law_made := r__law_made (P := P) (w := w) (mg := mg) (base := base) D__law_made h_int h_abs
  have R__law_sum := r__law_sum (P := P) (w := w) (mg := mg) (base := base) D__law_sum D__law_made g__law_made R__law_made
  have R__law_times := r__law_times (P := P) (w := w) (mg := mg) (base := base) D__law_times D__law_made g__law_made R__law_made
  have R__law_less := r__law_less (P := P) (w := w) (mg := mg) (base := base) D__law_less D__law_sum g__law_sum R__law_sum
  have R__law_freed := r__law_freed (P := P) (w := w) (mg := mg) (base := base) D__law_freed h_zip D__law_less g__law_less R__law_less D__law_times g__law_times R__law_times
  have R__law_solved := r__law_solved (P := P) (w := w) (mg := mg) (base := base) D__law_solved h_tuple h_range D__law_freed g__law_freed R__law_freed D__law_times g__law_times R__law_times D__law_made g__law_made R__law_made h_enumerate h_len h_list
  have R__law_pick := r__law_pick (P := P) (w := w) (mg := mg) (base := base) D__law_pick D__law_draw g__law_draw R__law_draw h_len
  have R__law_ratio := r__law_ratio (P := P) (w := w) (mg := mg) (base := base) D__law_ratio D__law_made g__law_made R__law_made D__law_draw g__law_draw R__law_draw D__law_pick g__law_pick R__law_pick
  have R__law_row := r__law_row (P := P) (w := w) (mg := mg) (base := base) D__law_row h_range D__law_ratio g__law_ratio R__law_ratio
  have R__law_rows := r__law_rows (P := P) (w := w) (mg := mg) (base := base) D__law_rows h_range D__law_draw g__law_draw R__law_draw D__law_sum g__law_sum R__law_sum D__law_times g__law_times R__law_times D__law_ratio g__law_ratio R__law_ratio D__law_row g__law_row R__law_row
  have R__law_sums := r__law_sums (P := P) (w := w) (mg := mg) (base := base) D__law_sums h_zip D__law_sum g__law_sum R__law_sum D__law_times g__law_times R__law_times
  have R__law_is_ratio := r__law_is_ratio (P := P) (w := w) (mg := mg) (base := base) D__law_is_ratio D__law_made g__law_made R__law_made h_isinstance h_bool h_int h_all h_len h_tuple
  have R__law_is_solution := r__law_is_solution (P := P) (w := w) (mg := mg) (base := base) D__law_is_solution D__law_sums g__law_sums R__law_sums h_all D__law_is_ratio g__law_is_ratio R__law_is_ratio h_len h_isinstance h_tuple
  have R__law_right := r__law_right (P := P) (w := w) (mg := mg) (base := base) D__law_right h_repr D_is_solution g_is_solution R_is_solution D__law_is_solution g__law_is_solution R__law_is_solution D__law_made g__law_made R__law_made D__law_sum g__law_sum R__law_sum h_list D__law_draw g__law_draw R__law_draw D__law_row g__law_row R__law_row h_tuple D_solved_equations g_solved_equations R_solved_equations D__law_solved g__law_solved R__law_solved h_len D__law_rows g__law_rows R__law_rows
  have R_law := r_law (P := P) (w := w) (mg := mg) (base := base) D_law D__law_right g__law_right R__law_right D__law_pot g__law_pot R__law_pot
  exact R_law
end K45
open PySem PySem.W PySem.Calls PyProof.Rows
theorem PySem.Challenge.cw_websolids_k45_whole_equations_holds : PySem.Challenge.rw_websolids_k45_whole_equations.Holds := by
  w_on; o_law; k_head; (case hw => w_witness2)
  k_fill
  exact DL.walk_k (l := PySem.Challenge.rw_websolids_k45_whole_equations) (n := 63) (k := 7) (x := "_law_script") (fun K => He.SaysD K45.fa K45.fn K ∧ K45.ex K = true) K45.F_law rfl (by decide) (by first | rfl | kernel_rfl) ⟨rfl, by decide, by decide⟩ (fun w h Y => PySem.W.kIn_of Y) (fun w => ⟨by unfold He.SaysD; kernel_rfl, by kernel_rfl⟩)
    (fun w K mg fa h X c G hmg => K45.keeps X G hmg c) K45.say_all
