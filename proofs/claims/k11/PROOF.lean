import PyProof.Rows.All
import Wide.All
import OpenK.AllK
import Wide.FinOn
import HandS.ForMost
import HandS.ForExc
import HandS.WideBits
import HandS.Gcd
import HandS.Zip
import HandS.Style
import HandS.CallSlots
import HandS.IsInst
import HandS.TupAny
import HandS.Flow
import HandS.Walk
import HandS.Defaults
import HandS.HeadHook4
import HandS.EndBits
import PyProof.ReprRoads
import PyProof.ReprLen
import HandS.TryOnly
import HandS.Deep
import HandS.TryMany
import HandS.Small
import PyProof.ExcBaseAll.RuntimeError
import PyProof.ExcBaseAll.ValueError
import HandS.ExcInit
import HandS.ExcField
import HandS.ExcIs
import KE.KExcIs
import HandS.Text
import PyProof.StrBlock2
import HandS.Replace
import HandS.ReplaceLit
import HandS.ReplaceDef
import KE.IntTextLaws
import PyProof.Rows.StrStrike
import KE.KIntText
import PyProof.Rows.StrDigitsNeg
import PySem.Challenge.RW_websolids_k11_whole_ratios_and_texts
set_option Elab.async false
set_option linter.all false
set_option maxRecDepth 100000
set_option maxHeartbeats 4000000
/-! DlA: a layer of own over the hand layer: values as data, frames as lists of slots, and what a state of the machine has to do with them. -/
namespace DL
open PySem L2

abbrev D := PyData

/-- what an owned object holds -/
inductive Ow where
  | ls (ds : List D)
  | ll (dss : List (List D))
def Ow.toD : Ow → D
  | .ls ds => .list ds
  | .ll dss => .list (dss.map .list)

/-- a slot of a frame: nothing known, a value that never changes, an object of the frame's own, an object of the caller's that is written -/
inductive Sl where
  | un
  | sh (d : D)
  | own (o : Ow)
  | io (o : Ow)
  | xn
abbrev Fr := List Sl
def Sl.owned : Sl → Bool
  | .own _ => true
  | .io _ => true
  | _ => false

structure Exn where
  cls : Str
  flds : List (Str × D)

inductive R (α : Type) where
  | ok (a : α) (e : Fr)
  | ex (x : Exn) (e : Fr)
  | no
def R.bind {α β : Type} (r : R α) (f : α → Fr → R β) : R β := match r with
  | .ok a e => f a e
  | .ex x e => .ex x e
  | .no => .no
@[simp] theorem R.bind_ok {α β : Type} (a : α) (e : Fr) (f : α → Fr → R β) : (R.ok a e).bind f = f a e := rfl
@[simp] theorem R.bind_ex {α β : Type} (x : Exn) (e : Fr) (f : α → Fr → R β) : (R.ex x e).bind f = .ex x e := rfl
@[simp] theorem R.bind_no {α β : Type} (f : α → Fr → R β) : (R.no : R α).bind f = .no := rfl
def R.of {α : Type} (o : Option α) (e : Fr) : R α := match o with
  | some a => .ok a e
  | none => .no
@[simp] theorem R.of_some {α : Type} (a : α) (e : Fr) : R.of (some a) e = .ok a e := rfl
@[simp] theorem R.of_none {α : Type} (e : Fr) : R.of (none : Option α) e = .no := rfl

/-! ### data, one heap under another -/
section
variable {K : PySem.W.Frag} {H G H' G' : Hp}
theorem same_rd (e : Same H H') {a : Addr} {u : HO} (h : Rd H a u) : Rd H' a u := by
  rcases h with h | ⟨o, h⟩
  · exact .inl (e _ _ h)
  · exact .inr ⟨o, e _ _ h⟩
theorem same_l (e : Same H H') {a : Addr} {xs : List V} (h : SqL K H a xs) : SqL K H' a xs := h.elim (fun z => .inl (same_rd e z)) .inr
theorem same_t (e : Same H H') {a : Addr} {xs : List V} (h : SqT K H a xs) : SqT K H' a xs := h.elim (fun z => .inl (same_rd e z)) .inr
mutual
theorem dp_mono (e : Same H H') : ∀ (d : D) (v : V), Dp K H v d → Dp K H' v d
  | .none, _, h => by cases h; exact .non
  | .bool b, _, h => by cases h; exact .bl b
  | .int i, _, h => by cases h; exact .int i
  | .str x, _, h => by cases h; exact .str x
  | .list ds, _, h => by
    cases h with
    | lst hs ha => exact .lst (same_l e hs) (dpa_mono e ds _ ha)
  | .tuple ds, _, h => by
    cases h with
    | tup hs ha => exact .tup (same_t e hs) (dpa_mono e ds _ ha)
  | .dict _, _, h => by cases h
theorem dpa_mono (e : Same H H') : ∀ (ds : List D) (vs : List V), DpAll K H vs ds → DpAll K H' vs ds
  | [], _, h => by cases h; exact .nil
  | d :: ds, _, h => by
    cases h with
    | cons h1 h2 => exact .cons (dp_mono e d _ h1) (dpa_mono e ds _ h2)
end
theorem DpAll.len : ∀ {vs : List V} {ds : List D}, DpAll K H vs ds → vs.length = ds.length
  | _, _, .nil => rfl
  | _, _, .cons _ t => by rw [List.length_cons, List.length_cons, DpAll.len t]
theorem DpAll.at : ∀ {vs : List V} {ds : List D} {i : Nat} {d : D}, DpAll K H vs ds → ds[i]? = some d → ∃ v, vs[i]? = some v ∧ Dp K H v d
  | _, _, _, _, .nil, e => by simp at e
  | _, _, 0, _, .cons h _, e => by
    simp at e
    subst e
    exact ⟨_, rfl, h⟩
  | _, _, i + 1, _, .cons _ t, e => by
    obtain ⟨v, e1, h1⟩ := DpAll.at (i := i) t (by simpa using e)
    exact ⟨v, by simpa using e1, h1⟩
theorem DpAll.at' : ∀ {vs : List V} {ds : List D} {i : Nat} {v : V}, DpAll K H vs ds → vs[i]? = some v → ∃ d, ds[i]? = some d ∧ Dp K H v d
  | _, _, _, _, .nil, e => by simp at e
  | _, _, 0, _, .cons h _, e => by
    simp at e
    subst e
    exact ⟨_, rfl, h⟩
  | _, _, i + 1, _, .cons _ t, e => by
    obtain ⟨v, e1, h1⟩ := DpAll.at' (i := i) t (by simpa using e)
    exact ⟨v, by simpa using e1, h1⟩
theorem DpAll.app : ∀ {vs ws : List V} {ds es : List D}, DpAll K H vs ds → DpAll K H ws es → DpAll K H (vs ++ ws) (ds ++ es)
  | _, _, _, _, .nil, h => h
  | _, _, _, _, .cons a t, h => .cons a (DpAll.app t h)
theorem DpAll.take (n : Nat) : ∀ {vs : List V} {ds : List D}, DpAll K H vs ds → DpAll K H (vs.take n) (ds.take n) := by
  induction n with
  | zero => intro vs ds _; exact .nil
  | succ n ih =>
    intro vs ds h
    cases h with
    | nil => exact .nil
    | cons a t => exact .cons a (ih t)
theorem DpAll.drop (n : Nat) : ∀ {vs : List V} {ds : List D}, DpAll K H vs ds → DpAll K H (vs.drop n) (ds.drop n) := by
  induction n with
  | zero => intro vs ds h; exact h
  | succ n ih =>
    intro vs ds h
    cases h with
    | nil => exact .nil
    | cons a t => exact ih t
theorem DpAll.set {v : V} {d : D} (h : Dp K H v d) (i : Nat) : ∀ {vs : List V} {ds : List D}, DpAll K H vs ds → DpAll K H (vs.set i v) (ds.set i d) := by
  induction i with
  | zero =>
    intro vs ds t
    cases t with
    | nil => exact .nil
    | cons _ r => exact .cons h r
  | succ i ih =>
    intro vs ds t
    cases t with
    | nil => exact .nil
    | cons a r => exact .cons a (ih r)
theorem DpAll.rev : ∀ {vs : List V} {ds : List D}, DpAll K H vs ds → DpAll K H vs.reverse ds.reverse
  | _, _, .nil => .nil
  | _, _, .cons a t => by
    rw [List.reverse_cons, List.reverse_cons]
    exact DpAll.app (DpAll.rev t) (.cons a .nil)
theorem dp_ints : ∀ (ns : List Int), DpAll K H (ns.map V.int) (ns.map PyData.int)
  | [] => .nil
  | n :: r => .cons (.int n) (dp_ints r)
theorem dpa_ints : ∀ {vs : List V} {ns : List Int}, DpAll K H vs (ns.map PyData.int) → vs = ns.map V.int
  | _, [], h => by cases h; rfl
  | _, n :: r, h => by
    cases h with
    | cons h1 h2 =>
      cases h1
      rw [dpa_ints h2]
      rfl
theorem dpa_bools : ∀ {vs : List V} {bs : List Bool}, DpAll K H vs (bs.map PyData.bool) → vs = bs.map V.bl
  | _, [], h => by cases h; rfl
  | _, b :: r, h => by
    cases h with
    | cons h1 h2 =>
      cases h1
      rw [dpa_bools h2]
      rfl

/-! ### how heap and frozen part grow -/
structure Grow (H G H' G' : Hp) : Prop where
  gg : Same G G'
  hh : Same H H'
  gh : Same G' H'
  new : ∀ b, H b ≠ none → G' b = G b
theorem Grow.refl (h : Same G H) : Grow H G H G := ⟨Same.refl G, Same.refl H, h, fun _ _ => rfl⟩
theorem Grow.trans {H1 G1 : Hp} (a : Grow H G H1 G1) (b : Grow H1 G1 H' G') : Grow H G H' G' :=
  ⟨a.gg.trans b.gg, a.hh.trans b.hh, b.gh, fun x hx => by
    have h1 : H1 x ≠ none := fun z => by
      cases q : H x with
      | none => exact hx q
      | some o =>
        rw [a.hh x o q] at z
        cases z
    rw [b.new x h1, a.new x hx]⟩
theorem same_new {p : Addr} {o : HO} (hp : H p = none) : Same H (upd H p o) := fun b u e => by
  rw [upd_ne (ne_of_none e hp)]
  exact e
theorem same_back {p : Addr} (h : Same G H) (hp : H p = none) : G p = none := by
  cases q : G p with
  | none => rfl
  | some o =>
    rw [h p o q] at hp
    cases hp
theorem same_upd {p : Addr} {o : HO} (h : Same G H) (hp : H p = none) : Same (upd G p o) (upd H p o) := fun b u e => by
  by_cases hb : b = p
  · subst hb
    rw [upd_same] at e ⊢
    exact e
  · rw [upd_ne hb] at e ⊢
    exact h b u e
/-- a new object, frozen at once -/
theorem Grow.laid {p : Addr} {o : HO} (h : Same G H) (hp : H p = none) : Grow H G (upd H p o) (upd G p o) :=
  ⟨same_new (same_back h hp), same_new hp, same_upd h hp, fun b hb => upd_ne fun z => hb (by rw [z]; exact hp)⟩
/-- a new object, not frozen -/
theorem Grow.own {p : Addr} {o : HO} (h : Same G H) (hp : H p = none) : Grow H G (upd H p o) G :=
  ⟨Same.refl G, same_new hp, h.trans (same_new hp), fun _ _ => rfl⟩
end

/-! ### what an owned object is -/
inductive OwAt (K : PySem.W.Frag) (G H : Hp) : Ow → Addr → List Addr → Prop where
  | ls {a : Addr} {vs : List V} {ds : List D} : H a = some (.lst vs) → DpAll K G vs ds → OwAt K G H (.ls ds) a [a]
  | ll {a : Addr} {bs : List Addr} {dss : List (List D)} : H a = some (.lst (bs.map V.ref)) → bs.length = dss.length → (a :: bs).Nodup →
      (∀ (j : Nat) (b : Addr) (ds : List D), bs[j]? = some b → dss[j]? = some ds → ∃ vs, H b = some (.lst vs) ∧ DpAll K G vs ds) → OwAt K G H (.ll dss) a (a :: bs)
section
variable {K : PySem.W.Frag} {H G H' G' : Hp}
theorem OwAt.there {o : Ow} {a : Addr} {A : List Addr} (h : OwAt K G H o a A) : ∀ b ∈ A, ∃ vs, H b = some (.lst vs) := by
  cases h with
  | ls h1 _ =>
    intro b hb
    rw [List.mem_singleton.mp hb]
    exact ⟨_, h1⟩
  | ll h1 h2 h3 h4 =>
    rename_i bs dss
    intro b hb
    rcases List.mem_cons.mp hb with rfl | hb
    · exact ⟨_, h1⟩
    · obtain ⟨j, hj, e⟩ := List.mem_iff_getElem.mp hb
      obtain ⟨vs, h5, _⟩ := h4 j b (dss[j]'(h2 ▸ hj)) (by rw [List.getElem?_eq_getElem hj, e]) (List.getElem?_eq_getElem _)
      exact ⟨vs, h5⟩
theorem OwAt.head {o : Ow} {a : Addr} {A : List Addr} (h : OwAt K G H o a A) : a ∈ A := by
  cases h with
  | ls _ _ => exact List.mem_singleton.mpr rfl
  | ll _ _ _ _ => exact List.mem_cons_self
theorem OwAt.mono {o : Ow} {a : Addr} {A : List Addr} (h : OwAt K G H o a A) (gg : Same G G') (hh : ∀ b ∈ A, ∀ u, H b = some u → H' b = some u) : OwAt K G' H' o a A := by
  cases h with
  | ls h1 h2 => exact .ls (hh _ (List.mem_singleton.mpr rfl) _ h1) (dpa_mono gg _ _ h2)
  | ll h1 h2 h3 h4 =>
    refine .ll (hh _ List.mem_cons_self _ h1) h2 h3 fun j b ds e1 e2 => ?_
    obtain ⟨vs, h5, h6⟩ := h4 j b ds e1 e2
    exact ⟨vs, hh _ (List.mem_cons_of_mem _ (List.mem_of_getElem? e1)) _ h5, dpa_mono gg _ _ h6⟩
end

/-! ### what a frame has to do with a state -/
/-- a def's running: the heap and the frozen part at its entry, the objects of its caller that it may write, by their slots -/
structure Fx where
  H_0 : Hp
  G_0 : Hp
  io : Nat → List Addr
  at_ : Nat → Addr

def slotOk (K : PySem.W.Frag) (Φ : Fx) (H G : Hp) (A : List Addr) (i : Nat) : Sl → Option (Option V) → Prop
  | .un, _ => True
  | .sh d, o => ∃ v, o = some (some v) ∧ Dp K G v d
  | .own w, o => ∃ a, o = some (some (.ref a)) ∧ OwAt K G H w a A ∧ ∀ b ∈ A, G b = none ∧ Φ.H_0 b = none
  | .io w, o => ∃ a, o = some (some (.ref a)) ∧ OwAt K G H w a A ∧ ∀ b ∈ A, G b = none ∧ ((b ∈ Φ.io i ∨ Φ.H_0 b = none) ∧ a = Φ.at_ i)
  | .xn, o => o = some (some (.ref (Φ.at_ i)))

structure Ok (K : PySem.W.Frag) (Φ : Fx) (H G : Hp) (F : Nat → List Addr) (σ : L2.St) (e : Fr) : Prop where
  gh : Same G H
  len : e.length = σ.length
  slots : ∀ i s, e[i]? = some s → slotOk K Φ H G (F i) i s σ[i]?
  sep : ∀ i j s t, i ≠ j → e[i]? = some s → e[j]? = some t → s.owned = true → t.owned = true → ∀ b ∈ F i, b ∉ F j
  f0 : ∀ b, Φ.H_0 b ≠ none → H b ≠ none
  f1 : ∀ b o, Φ.H_0 b = some o → (∀ i, b ∉ Φ.io i) → H b = some o
  f2 : ∀ b, Φ.H_0 b ≠ none → G b = Φ.G_0 b

section
variable {K : PySem.W.Frag} {Φ : Fx} {H G H' G' : Hp} {F : Nat → List Addr} {σ : L2.St} {e : Fr}
theorem slotOk.grow {A : List Addr} {i : Nat} {s : Sl} {o : Option (Option V)} (g : Grow H G H' G') (h : slotOk K Φ H G A i s o) : slotOk K Φ H' G' A i s o := by
  have keep : ∀ {w : Ow} {a : Addr}, OwAt K G H w a A → ∀ b ∈ A, G b = none → G' b = none := fun w b hb n => by
    obtain ⟨vs, q⟩ := w.there b hb
    rw [g.new b (by rw [q]; exact fun z => nomatch z)]
    exact n
  cases s with
  | un => trivial
  | sh d =>
    obtain ⟨v, e1, h1⟩ := h
    exact ⟨v, e1, dp_mono g.gg _ _ h1⟩
  | own w =>
    obtain ⟨a, e1, h1, h2⟩ := h
    exact ⟨a, e1, h1.mono g.gg (fun b _ u q => g.hh b u q), fun b hb => ⟨keep h1 b hb (h2 b hb).1, (h2 b hb).2⟩⟩
  | io w =>
    obtain ⟨a, e1, h1, h2⟩ := h
    exact ⟨a, e1, h1.mono g.gg (fun b _ u q => g.hh b u q), fun b hb => ⟨keep h1 b hb (h2 b hb).1, (h2 b hb).2⟩⟩
  | xn => exact h
theorem ne_none_of_same (h : Same H H') {b : Addr} (hb : H b ≠ none) : H' b ≠ none := fun z => by
  cases q : H b with
  | none => exact hb q
  | some o =>
    rw [h b o q] at z
    cases z
/-- new objects change nothing -/
theorem Ok.grow (O : Ok K Φ H G F σ e) (g : Grow H G H' G') : Ok K Φ H' G' F σ e :=
  ⟨g.gh, O.len, fun i s q => (O.slots i s q).grow g, O.sep, fun b hb => ne_none_of_same g.hh (O.f0 b hb), fun b o q n => g.hh b o (O.f1 b o q n), fun b hb => by
    rw [g.new b (O.f0 b hb)]
    exact O.f2 b hb⟩
/-- a value is stored -/
theorem Ok.set {v : V} {d : D} (O : Ok K Φ H G F σ e) (h : Dp K G v d) (i : Nat) : Ok K Φ H G F (σ.set i (some v)) (e.set i (.sh d)) where
  gh := O.gh
  len := by rw [List.length_set, List.length_set]; exact O.len
  slots := fun j s q => by
    by_cases hj : i = j
    · subst hj
      by_cases hl : i < e.length
      · rw [List.getElem?_set_self hl] at q
        cases q
        refine ⟨v, ?_, h⟩
        rw [List.getElem?_set_self (by rw [← O.len]; exact hl)]
      · rw [List.getElem?_eq_none (by rw [List.length_set]; omega)] at q
        cases q
    · rw [List.getElem?_set_ne hj] at q ⊢
      exact O.slots j s q
  sep := fun j k s t hjk q1 q2 o1 o2 => by
    have old : ∀ {j : Nat} {s : Sl}, (e.set i (.sh d))[j]? = some s → s.owned = true → e[j]? = some s := fun {j s} q o => by
      by_cases hj : i = j
      · subst hj
        by_cases hl : i < e.length
        · rw [List.getElem?_set_self hl] at q
          cases q
          cases o
        · rw [List.getElem?_eq_none (by rw [List.length_set]; omega)] at q
          cases q
      · rw [List.getElem?_set_ne hj] at q
        exact q
    exact O.sep j k s t hjk (old q1 o1) (old q2 o2) o1 o2
  f0 := O.f0
  f1 := O.f1
  f2 := O.f2
/-- an object of the frame's own is stored: it stands apart from all others -/
theorem Ok.setOwn {w : Ow} {a : Addr} {A : List Addr} (O : Ok K Φ H G F σ e) (h : OwAt K G H w a A) (n : ∀ b ∈ A, G b = none ∧ Φ.H_0 b = none)
    (ap : ∀ j t, e[j]? = some t → t.owned = true → ∀ b ∈ A, b ∉ F j) (i : Nat) : Ok K Φ H G (fun j => if j = i then A else F j) (σ.set i (some (.ref a))) (e.set i (.own w)) where
  gh := O.gh
  len := by rw [List.length_set, List.length_set]; exact O.len
  slots := fun j s q => by
    by_cases hj : i = j
    · subst hj
      rw [if_pos rfl]
      by_cases hl : i < e.length
      · rw [List.getElem?_set_self hl] at q
        cases q
        exact ⟨a, List.getElem?_set_self (by rw [← O.len]; exact hl), h, n⟩
      · rw [List.getElem?_eq_none (by rw [List.length_set]; omega)] at q
        cases q
    · rw [if_neg (Ne.symm hj)]
      rw [List.getElem?_set_ne hj] at q ⊢
      exact O.slots j s q
  sep := fun j k s t hjk q1 q2 o1 o2 => by
    have old : ∀ {j : Nat} {s : Sl}, ¬ j = i → (e.set i (.own w))[j]? = some s → e[j]? = some s := fun {j s} hj q => by
      rw [List.getElem?_set_ne (Ne.symm hj)] at q
      exact q
    by_cases hj : j = i
    · have hk : ¬ k = i := fun z => hjk (hj.trans z.symm)
      rw [if_pos hj, if_neg hk]
      exact ap k t (old hk q2) o2
    · rw [if_neg hj]
      by_cases hk : k = i
      · rw [if_pos hk]
        exact fun b hb hb2 => ap j s (old hj q1) o1 b hb2 hb
      · rw [if_neg hk]
        exact O.sep j k s t hjk (old hj q1) (old hk q2) o1 o2
  f0 := O.f0
  f1 := O.f1
  f2 := O.f2
theorem Ok.setUn (O : Ok K Φ H G F σ e) (i : Nat) : Ok K Φ H G F (σ.set i none) (e.set i .un) where
  gh := O.gh
  len := by rw [List.length_set, List.length_set]; exact O.len
  slots := fun j s q => by
    by_cases hj : i = j
    · subst hj
      by_cases hl : i < e.length
      · rw [List.getElem?_set_self hl] at q
        cases q
        trivial
      · rw [List.getElem?_eq_none (by rw [List.length_set]; omega)] at q
        cases q
    · rw [List.getElem?_set_ne hj] at q ⊢
      exact O.slots j s q
  sep := fun j k s t hjk q1 q2 o1 o2 => by
    have old : ∀ {j : Nat} {s : Sl}, (e.set i .un)[j]? = some s → s.owned = true → e[j]? = some s := fun {j s} q o => by
      by_cases hj : i = j
      · subst hj
        by_cases hl : i < e.length
        · rw [List.getElem?_set_self hl] at q
          cases q
          cases o
        · rw [List.getElem?_eq_none (by rw [List.length_set]; omega)] at q
          cases q
      · rw [List.getElem?_set_ne hj] at q
        exact q
    exact O.sep j k s t hjk (old q1 o1) (old q2 o2) o1 o2
  f0 := O.f0
  f1 := O.f1
  f2 := O.f2
end
end DL
set_option Elab.async false
set_option linter.all false
set_option maxRecDepth 100000
set_option maxHeartbeats 4000000
/-! DlB: freezing, writing, wiping; readings by what a frame's function tells. -/
namespace DL
open PySem L2

section
variable {K : PySem.W.Frag} {Φ : Fx} {H G H' G' : Hp} {F : Nat → List Addr} {σ : L2.St} {e : Fr}
theorem OwAt.dp {w : Ow} {a : Addr} {A : List Addr} (h : OwAt K G H w a A) (hg : Same G G') (ha : ∀ b ∈ A, G' b = H b) : Dp K G' (.ref a) w.toD := by
  cases h with
  | ls h1 h2 => exact .lst (.of ((ha _ (List.mem_singleton.mpr rfl)).trans h1)) (dpa_mono hg _ _ h2)
  | ll h1 h2 h3 h4 =>
    rename_i bs dss
    refine .lst (.of ((ha _ List.mem_cons_self).trans h1)) ?_
    have go : ∀ (bs' : List Addr) (ess : List (List D)), bs'.length = ess.length → (∀ b ∈ bs', b ∈ bs) → (∀ (j : Nat) (b : Addr) (ds : List D), bs'[j]? = some b → ess[j]? = some ds → ∃ vs, H b = some (.lst vs) ∧ DpAll K G vs ds) →
        DpAll K G' (bs'.map V.ref) (ess.map PyData.list) := by
      intro bs'
      induction bs' with
      | nil =>
        intro ess hl _ _
        cases ess with
        | nil => exact .nil
        | cons _ _ => cases hl
      | cons b r ih =>
        intro ess hl hm hx
        cases ess with
        | nil => cases hl
        | cons ds rs =>
          obtain ⟨vs, h5, h6⟩ := hx 0 b ds rfl rfl
          refine .cons (.lst (.of ((ha b (List.mem_cons_of_mem _ (hm b List.mem_cons_self))).trans h5)) (dpa_mono hg _ _ h6)) ?_
          exact ih rs (by simpa using hl) (fun c hc => hm c (List.mem_cons_of_mem _ hc)) fun j c es e1 e2 => hx (j + 1) c es (by simpa using e1) (by simpa using e2)
    exact go bs dss h2 (fun _ h => h) h4

/-- a slot's object, written -/
def _root_.DL.Sl.put (s : Sl) (w : Ow) : Sl := match s with
  | .io _ => .io w
  | _ => .own w
/-- the frozen part takes in an object -/
def takeIn (H G : Hp) (A : List Addr) : Hp := fun b => if b ∈ A then H b else G b
theorem takeIn_in {A : List Addr} {b : Addr} (h : b ∈ A) : takeIn H G A b = H b := if_pos h
theorem takeIn_out {A : List Addr} {b : Addr} (h : b ∉ A) : takeIn H G A b = G b := if_neg h
theorem takeIn_same {A : List Addr} (h : ∀ b ∈ A, G b = none) : Same G (takeIn H G A) := fun b o q => by
  have hb : b ∉ A := fun z => by
    rw [h b z] at q
    cases q
  rw [takeIn_out hb]
  exact q
theorem takeIn_sub {A : List Addr} (h : Same G H) : Same (takeIn H G A) H := fun b o q => by
  by_cases hb : b ∈ A
  · rw [takeIn_in hb] at q
    exact q
  · rw [takeIn_out hb] at q
    exact h b o q
/-- a slot's own object is frozen -/
theorem Ok.freeze {w : Ow} (O : Ok K Φ H G F σ e) {i : Nat} (hi : e[i]? = some (.own w)) :
    Same G (takeIn H G (F i)) ∧ Ok K Φ H (takeIn H G (F i)) F σ (e.set i (.sh w.toD)) ∧ ∀ v, σ[i]? = some (some v) → Dp K (takeIn H G (F i)) v w.toD := by
  obtain ⟨a, e1, h1, h2⟩ := O.slots i _ hi
  have hs : Same G (takeIn H G (F i)) := takeIn_same fun b hb => (h2 b hb).1
  have hd : Dp K (takeIn H G (F i)) (.ref a) w.toD := h1.dp hs fun b hb => takeIn_in hb
  refine ⟨hs, ?_, fun v hv => ?_⟩
  · refine ⟨takeIn_sub O.gh, by rw [List.length_set]; exact O.len, fun j s q => ?_, fun j k s t hjk q1 q2 o1 o2 => ?_, O.f0, O.f1, fun b hb => ?_⟩
    · by_cases hj : i = j
      · subst hj
        rw [List.getElem?_set_self (List.getElem?_eq_some_iff.mp hi).1] at q
        cases q
        exact ⟨_, e1, hd⟩
      · rw [List.getElem?_set_ne hj] at q
        have old := O.slots j s q
        have out : s.owned = true → ∀ b ∈ F j, b ∉ F i := fun o b hb hb2 => O.sep j i s (.own w) (Ne.symm hj) q hi o rfl b hb hb2
        cases s with
        | un => trivial
        | xn => first | exact old | exact h | exact h1 | exact h2 | exact q | exact O.slots _ _ ‹_›
        | sh d =>
          obtain ⟨v, e2, h3⟩ := old
          exact ⟨v, e2, dp_mono hs _ _ h3⟩
        | own u =>
          obtain ⟨a2, e2, h3, h4⟩ := old
          exact ⟨a2, e2, h3.mono hs (fun _ _ _ q => q), fun b hb => ⟨by rw [takeIn_out (out rfl b hb)]; exact (h4 b hb).1, (h4 b hb).2⟩⟩
        | io u =>
          obtain ⟨a2, e2, h3, h4⟩ := old
          exact ⟨a2, e2, h3.mono hs (fun _ _ _ q => q), fun b hb => ⟨by rw [takeIn_out (out rfl b hb)]; exact (h4 b hb).1, (h4 b hb).2⟩⟩
    · have old : ∀ {j : Nat} {s : Sl}, (e.set i (.sh w.toD))[j]? = some s → s.owned = true → e[j]? = some s := fun {j s} q o => by
        by_cases hj : i = j
        · subst hj
          rw [List.getElem?_set_self (List.getElem?_eq_some_iff.mp hi).1] at q
          cases q
          cases o
        · rw [List.getElem?_set_ne hj] at q
          exact q
      exact O.sep j k s t hjk (old q1 o1) (old q2 o2) o1 o2
    · rw [takeIn_out fun z => hb (h2 b z).2]
      exact O.f2 b hb
  · rw [e1] at hv
    cases hv
    exact hd
/-- a slot's object is written -/
theorem Ok.write {s : Sl} {w' : Ow} {a : Addr} {A' : List Addr} (O : Ok K Φ H G F σ e) {i : Nat} (hi : e[i]? = some s) (ho : s.owned = true) (ha : σ[i]? = some (some (.ref a))) (h : OwAt K G H' w' a A')
    (hA : ∀ b ∈ F i, b ∈ A') (hN : ∀ b ∈ A', b ∈ F i ∨ H b = none) (hH : ∀ b, b ∉ A' → H' b = H b) :
    Ok K Φ H' G (fun j => if j = i then A' else F j) σ (e.set i (s.put w')) := by
  have gi : ∀ b ∈ F i, G b = none := fun b hb => by
    have q := O.slots i s hi
    cases s with
    | un => cases ho
    | xn => cases ho
    | sh d => cases ho
    | own w =>
      obtain ⟨_, _, _, h2⟩ := q
      exact (h2 b hb).1
    | io w =>
      obtain ⟨_, _, _, h2⟩ := q
      exact (h2 b hb).1
  have gA : ∀ b ∈ A', G b = none := fun b hb => (hN b hb).elim (gi b) fun z => same_back O.gh z
  have inH : ∀ b ∈ A', H' b ≠ none := fun b hb z => by
    obtain ⟨vs, q⟩ := h.there b hb
    rw [q] at z
    cases z
  have h0A : ∀ b ∈ A', H b = none → Φ.H_0 b = none := fun b _ z => by
    cases q : Φ.H_0 b with
    | none => rfl
    | some o => exact absurd z (O.f0 b (by rw [q]; exact fun z => nomatch z))
  refine ⟨fun b o q => ?_, by rw [List.length_set]; exact O.len, fun j t q => ?_, fun j k t u hjk q1 q2 o1 o2 => ?_, fun b hb => ?_, fun b o q n => ?_, O.f2⟩
  · rw [hH b fun z => by rw [gA b z] at q; cases q]
    exact O.gh b o q
  · by_cases hj : i = j
    · subst hj
      rw [if_pos rfl]
      rw [List.getElem?_set_self (List.getElem?_eq_some_iff.mp hi).1] at q
      have old := O.slots i s hi
      cases s with
      | un => cases ho
      | xn => cases ho
      | sh d => cases ho
      | own w =>
        cases q
        obtain ⟨_, _, _, h2⟩ := old
        exact ⟨a, ha, h, fun b hb => ⟨gA b hb, (hN b hb).elim (fun z => (h2 b z).2) (h0A b hb)⟩⟩
      | io w =>
        cases q
        obtain ⟨a2, e2, h1, h2⟩ := old
        rw [ha] at e2
        cases e2
        exact ⟨a, ha, h, fun b hb => ⟨gA b hb, (hN b hb).elim (fun z => (h2 b z).2) fun z => ⟨.inr (h0A b hb z), (h2 a h1.head).2.2⟩⟩⟩
    · rw [if_neg (Ne.symm hj)]
      rw [List.getElem?_set_ne hj] at q
      have old := O.slots j t q
      have out : t.owned = true → ∀ b ∈ F j, H b ≠ none → b ∉ A' := fun o b hb hz hb2 => by
        rcases hN b hb2 with z | z
        · exact O.sep j i t s (Ne.symm hj) q hi o ho b hb z
        · exact hz z
      cases t with
      | un => trivial
      | xn => first | exact old | exact h | exact h1 | exact h2 | exact q | exact O.slots _ _ ‹_›
      | sh d => exact old
      | own u =>
        obtain ⟨a2, e2, h3, h4⟩ := old
        refine ⟨a2, e2, h3.mono (Same.refl G) (fun b hb v z => ?_), h4⟩
        rw [hH b (out rfl b hb (by rw [z]; exact fun z => nomatch z))]
        exact z
      | io u =>
        obtain ⟨a2, e2, h3, h4⟩ := old
        refine ⟨a2, e2, h3.mono (Same.refl G) (fun b hb v z => ?_), h4⟩
        rw [hH b (out rfl b hb (by rw [z]; exact fun z => nomatch z))]
        exact z
  · have old : ∀ {j : Nat} {t : Sl}, ¬ j = i → (e.set i (s.put w'))[j]? = some t → e[j]? = some t := fun {j t} hj q => by
      rw [List.getElem?_set_ne (Ne.symm hj)] at q
      exact q
    have live : ∀ {j : Nat} {t : Sl}, e[j]? = some t → t.owned = true → ∀ b ∈ F j, H b ≠ none := fun {j t} q o b hb z => by
      have old := O.slots j t q
      cases t with
      | un => cases o
      | xn => cases o
      | sh d => cases o
      | own u =>
        obtain ⟨_, _, h3, _⟩ := old
        obtain ⟨vs, q⟩ := h3.there b hb
        rw [z] at q
        cases q
      | io u =>
        obtain ⟨_, _, h3, _⟩ := old
        obtain ⟨vs, q⟩ := h3.there b hb
        rw [z] at q
        cases q
    by_cases hj : j = i
    · have hk : ¬ k = i := fun z => hjk (hj.trans z.symm)
      rw [if_pos hj, if_neg hk]
      intro b hb hb2
      rcases hN b hb with z | z
      · exact O.sep k i u s hk (old hk q2) hi o2 ho b hb2 z
      · exact live (old hk q2) o2 b hb2 z
    · rw [if_neg hj]
      by_cases hk : k = i
      · rw [if_pos hk]
        intro b hb hb2
        rcases hN b hb2 with z | z
        · exact O.sep j i t s hj (old hj q1) hi o1 ho b hb z
        · exact live (old hj q1) o1 b hb z
      · rw [if_neg hk]
        exact O.sep j k t u hjk (old hj q1) (old hk q2) o1 o2
  · by_cases hA' : b ∈ A'
    · exact inH b hA'
    · rw [hH b hA']
      exact O.f0 b hb
  · by_cases hA' : b ∈ A'
    · have hb := O.f1 b o q n
      rcases hN b hA' with z | z
      · have old := O.slots i s hi
        cases s with
        | un => cases ho
        | xn => cases ho
        | sh d => cases ho
        | own w =>
          obtain ⟨_, _, _, h2⟩ := old
          rw [(h2 b z).2] at q
          cases q
        | io w =>
          obtain ⟨_, _, _, h2⟩ := old
          rcases (h2 b z).2.1 with z2 | z2
          · exact absurd z2 (n i)
          · rw [z2] at q
            cases q
      · rw [z] at hb
        cases hb
    · rw [hH b hA']
      exact O.f1 b o q n
end

/-! ### the slots of a comprehension -/
def wipeE (e : Fr) : List Nat → Fr
  | [] => e
  | v :: vs => (wipeE e vs).set v .un
def backE (e e1 : Fr) : List Nat → Fr
  | [] => e1
  | v :: vs => (backE e e1 vs).set v (e.getD v .un)
def bare (e : Fr) (vs : List Nat) : Bool := vs.all fun j => !(e.getD j .un).owned
section
variable {K : PySem.W.Frag} {Φ : Fx} {H G H' G' : Hp} {F F' : Nat → List Addr} {σ : L2.St} {e e1 : Fr} {vs : List Nat}
theorem Ok.wiped (O : Ok K Φ H G F σ e) : ∀ vs : List Nat, Ok K Φ H G F (wipe σ vs) (wipeE e vs)
  | [] => O
  | v :: vs => by
    have h := (Ok.wiped O vs).setUn v
    exact h
theorem wipe_out {j : Nat} : ∀ {vs : List Nat}, j ∉ vs → (wipe σ vs)[j]? = σ[j]?
  | [], _ => rfl
  | v :: vs, h => by
    unfold wipe
    rw [List.getElem?_set_ne (fun z => h (by rw [z]; exact List.mem_cons_self))]
    exact wipe_out fun z => h (List.mem_cons_of_mem _ z)
theorem backE_len : ∀ vs : List Nat, (backE e e1 vs).length = e1.length
  | [] => rfl
  | v :: vs => by
    unfold backE
    rw [List.length_set]
    exact backE_len vs
theorem backE_out {j : Nat} : ∀ {vs : List Nat}, j ∉ vs → (backE e e1 vs)[j]? = e1[j]?
  | [], _ => rfl
  | v :: vs, h => by
    unfold backE
    rw [List.getElem?_set_ne (fun z => h (by rw [z]; exact List.mem_cons_self))]
    exact backE_out fun z => h (List.mem_cons_of_mem _ z)
theorem backE_in {j : Nat} {s : Sl} : ∀ {vs : List Nat}, j ∈ vs → (backE e e1 vs)[j]? = some s → s = e.getD j .un
  | v :: vs, h, q => by
    unfold backE at q
    by_cases hv : v = j
    · subst hv
      by_cases hl : v < (backE e e1 vs).length
      · rw [List.getElem?_set_self hl] at q
        exact (Option.some.inj q).symm
      · rw [List.getElem?_eq_none (by rw [List.length_set]; omega)] at q
        cases q
    · rw [List.getElem?_set_ne hv] at q
      rcases List.mem_cons.mp h with z | z
      · exact absurd z.symm hv
      · exact backE_in z q
/-- behind the block -/
theorem Ok.back (O : Ok K Φ H G F σ e) (O1 : Ok K Φ H' G' F' (wipe σ vs) e1) (gg : Same G G') (hb : bare e vs = true) : Ok K Φ H' G' F' σ (backE e e1 vs) := by
  have lw : (wipe σ vs).length = σ.length := wipe_length σ vs
  have no : ∀ j s, j ∈ vs → (backE e e1 vs)[j]? = some s → s.owned = false := fun j s hj q => by
    rw [backE_in hj q]
    have := List.all_eq_true.mp hb j hj
    simpa using this
  refine ⟨O1.gh, by rw [backE_len, O1.len, lw], fun j s q => ?_, fun j k s t hjk q1 q2 o1 o2 => ?_, O1.f0, O1.f1, O1.f2⟩
  · by_cases hj : j ∈ vs
    · have hs := backE_in hj q
      have hn := no j s hj q
      cases s with
      | un => trivial
      | xn =>
        have hl : j < e.length := by
          by_cases z : j < e.length
          · exact z
          · rw [List.getD_eq_getElem?_getD, List.getElem?_eq_none (by omega)] at hs
            cases hs
        have q2 : e[j]? = some .xn := by
          rw [List.getD_eq_getElem?_getD, List.getElem?_eq_getElem hl] at hs
          rw [List.getElem?_eq_getElem hl]
          exact congrArg some hs.symm
        exact O.slots j _ q2
      | own w => cases hn
      | io w => cases hn
      | sh d =>
        have hl : j < e.length := by
          by_cases z : j < e.length
          · exact z
          · rw [List.getD_eq_getElem?_getD, List.getElem?_eq_none (by omega)] at hs
            cases hs
        have q2 : e[j]? = some (.sh d) := by
          rw [List.getD_eq_getElem?_getD, List.getElem?_eq_getElem hl] at hs
          rw [List.getElem?_eq_getElem hl]
          exact congrArg some hs.symm
        obtain ⟨v, e2, h2⟩ := O.slots j _ q2
        exact ⟨v, e2, dp_mono gg _ _ h2⟩
    · rw [backE_out hj] at q
      have h := O1.slots j s q
      rw [wipe_out hj] at h
      exact h
  · have nv : ∀ {j : Nat} {s : Sl}, (backE e e1 vs)[j]? = some s → s.owned = true → e1[j]? = some s := fun {j s} q o => by
      by_cases hj : j ∈ vs
      · rw [no j s hj q] at o
        cases o
      · rw [backE_out hj] at q
        exact q
    exact O1.sep j k s t hjk (nv q1 o1) (nv q2 o2) o1 o2
end

/-! ### readings -/
/-- what an expression gives: a value, or a name's slot (read when it is used) -/
inductive Arg where
  | val (d : D)
  | slot (i : Nat)
/-- .. or an object of its own, new -/
inductive RV where
  | arg (a : Arg)
  | new (w : Ow)

abbrev Rel (α β : Type) := α → β → Hp → Hp → (Nat → List Addr) → L2.St → Fr → Prop
def ExOk (mg : Str → Option Value) (K : PySem.W.Frag) (G H : Hp) (x : Exn) (c : Value) (d : Option Addr) : Prop :=
  mg x.cls = some c ∧ ((x.flds = [] ∧ d = none) ∨ ∃ dx fs, d = some dx ∧ H dx = some (.xd fs) ∧ Paired (fun (p : Str × V) (q : Str × D) => p.1 = q.1 ∧ Dp K G p.2 q.2) fs x.flds)
section
variable {α β γ δ : Type}
def Wp (K : PySem.W.Frag) (mg : Str → Option Value) (Φ : Fx) (W : WX) (σ : L2.St) (ρ : Rel α β) (G : Hp) (r : R α) (Q : β → Hp → Prop) : Prop := match r with
  | .no => False
  | .ok a e => ∀ v H' G' F', Same G G' → Ok K Φ H' G' F' σ e → ρ a v H' G' F' σ e → Q v H'
  | .ex x e => ∀ c d H' G' F', Same G G' → Ok K Φ H' G' F' σ e → ExOk mg K G' H' x c d → W c d σ H'
def tG (K : PySem.W.Frag) (mg : Str → Option Value) (Φ : Fx) (W : WX) (ρ : Rel α β) (f : Fr → R α) : L2.St → Hp → (β → Hp → Prop) → Prop := fun σ H Q => ∃ G F e, Ok K Φ H G F σ e ∧ Wp K mg Φ W σ ρ G (f e) Q
variable {K : PySem.W.Frag} {mg : Str → Option Value} {Φ : Fx} {W : WX} {σ : L2.St} {ρ : Rel α β} {ρ' : Rel γ δ} {G G' : Hp} {r : R α}
theorem Wp.up {Q : β → Hp → Prop} (h : Wp K mg Φ W σ ρ G r Q) (gg : Same G G') : Wp K mg Φ W σ ρ G' r Q := by
  cases r with
  | no => exact h
  | ok a e => exact fun v H' G2 F' s o p => h v H' G2 F' (gg.trans s) o p
  | ex x e => exact fun c d H' G2 F' s o p => h c d H' G2 F' (gg.trans s) o p
/-- one behind the other -/
theorem Wp.seq {f : α → Fr → R γ} {Q : δ → Hp → Prop} (h : Wp K mg Φ W σ ρ' G (r.bind f) Q) :
    Wp K mg Φ W σ ρ G r (fun v H1 => ∃ G1 F1 e1 a, Same G G1 ∧ Ok K Φ H1 G1 F1 σ e1 ∧ ρ a v H1 G1 F1 σ e1 ∧ Wp K mg Φ W σ ρ' G1 (f a e1) Q) := by
  cases r with
  | no => exact h
  | ok a e => exact fun v H' G2 F' s o p => ⟨G2, F', e, a, s, o, p, Wp.up h s⟩
  | ex x e => exact h
theorem Wp.imp {Q Q' : β → Hp → Prop} (h : Wp K mg Φ W σ ρ G r Q) (w : ∀ v H, Q v H → Q' v H) : Wp K mg Φ W σ ρ G r Q' := by
  cases r with
  | no => exact h
  | ok a e => exact fun v H' G2 F' s o p => w _ _ (h v H' G2 F' s o p)
  | ex x e => exact h
/-- to show a reading: from a state -/
theorem tG.mk {f : Fr → R α} {H : Hp} {F : Nat → List Addr} {e : Fr} {Q : β → Hp → Prop} (O : Ok K Φ H G F σ e) (h : Wp K mg Φ W σ ρ G (f e) Q) : tG K mg Φ W ρ f σ H Q := ⟨G, F, e, O, h⟩
end

/-- an argument's value -/
def ra (K : PySem.W.Frag) : Rel Arg V := fun a v _ G _ σ _ => match a with
  | .val d => Dp K G v d
  | .slot i => σ[i]? = some (some v)
theorem ra_up {K : PySem.W.Frag} {a : Arg} {v : V} {H G H' G' : Hp} {F F' : Nat → List Addr} {σ : L2.St} {e e' : Fr} (h : ra K a v H G F σ e) (gg : Same G G') : ra K a v H' G' F' σ e' := by
  cases a with
  | val d => exact dp_mono gg _ _ h
  | slot i => exact h
/-- a value that may be new -/
def rr (K : PySem.W.Frag) (Φ : Fx) : Rel RV V := fun r v H G F σ e => match r with
  | .arg a => ra K a v H G F σ e
  | .new w => ∃ a A, v = .ref a ∧ OwAt K G H w a A ∧ (∀ b ∈ A, G b = none ∧ Φ.H_0 b = none) ∧ ∀ j t, e[j]? = some t → t.owned = true → ∀ b ∈ A, b ∉ F j
/-- a list of arguments -/
def rs (K : PySem.W.Frag) : Rel (List Arg) (List V) := fun as vs H G F σ e => Paired (fun a v => ra K a v H G F σ e) as vs
theorem rs_up {K : PySem.W.Frag} {H G H' G' : Hp} {F F' : Nat → List Addr} {σ : L2.St} {e e' : Fr} (gg : Same G G') : ∀ {as : List Arg} {vs : List V}, rs K as vs H G F σ e → rs K as vs H' G' F' σ e'
  | _, _, .nil => .nil
  | _, _, .cons h t => .cons (ra_up h gg) (rs_up gg t)
/-- a truth -/
def rb : Rel Bool Bool := fun a b _ _ _ _ _ => b = a

/-! ### judgements -/
abbrev Ef := Fr → R Arg
abbrev Rf := Fr → R RV
abbrev Af := Fr → R (List Arg)
abbrev Tf := Fr → R Bool
abbrev DE (X : Cx) (Φ : Fx) (W : WX) (e : Expr) (f : Ef) : Prop := PE X e (tG X.K X.mg Φ W (ra X.K) f)
abbrev DR (X : Cx) (Φ : Fx) (W : WX) (e : Expr) (f : Rf) : Prop := PE X e (tG X.K X.mg Φ W (rr X.K Φ) f)
abbrev DA (X : Cx) (Φ : Fx) (W : WX) (es : List Expr) (f : Af) : Prop := PA X es (tG X.K X.mg Φ W (rs X.K) f)
abbrev DT (X : Cx) (Φ : Fx) (W : WX) (e : Expr) (f : Tf) : Prop := PT X e (tG X.K X.mg Φ W rb f)
theorem pe_weak {X : Cx} {e : Expr} {t t' : TE} (h : PE X e t) (w : ∀ σ H Q, t' σ H Q → t σ H Q) : PE X e t' := ⟨fun pins s σ H Q I q => h.run pins s σ H Q I (w σ H Q q)⟩
theorem pt_weak {X : Cx} {e : Expr} {t t' : TT} (h : PT X e t) (w : ∀ σ H Q, t' σ H Q → t σ H Q) : PT X e t' := ⟨fun pins s σ H Q I q => h.run pins s σ H Q I (w σ H Q q)⟩
theorem pw_weak {X : Cx} {e : Expr} {t t' : TT} (h : PW X e t) (w : ∀ σ H Q, t' σ H Q → t σ H Q) : PW X e t' := ⟨fun wh pins s σ H Q I q => h.run wh pins s σ H Q I (w σ H Q q)⟩
theorem pa_weak {X : Cx} {es : List Expr} {t t' : TA} (h : PA X es t) (w : ∀ σ H Q, t' σ H Q → t σ H Q) : PA X es t' := ⟨fun pos pins s σ H Q I q => h.run pos pins s σ H Q I (w σ H Q q)⟩
theorem ps_weak {X : Cx} {st : Stmt} {t t' : TS} (h : PS X st t) (w : ∀ D σ H, t' D σ H → t D σ H) : PS X st t' := ⟨fun pins s σ H D I q => h.run pins s σ H D I (w D σ H q)⟩
theorem pss_weak {X : Cx} {st : List Stmt} {t t' : TS} (h : PSs X st t) (w : ∀ D σ H, t' D σ H → t D σ H) : PSs X st t' := ⟨fun pins s σ H D I q => h.run pins s σ H D I (w D σ H q)⟩
end DL
set_option Elab.async false
set_option linter.all false
set_option maxRecDepth 100000
set_option maxHeartbeats 4000000
/-! DlC: what a use of arguments reads; operations on data. -/
namespace DL
open PySem L2

/-- read now: frozen, or an object of the frame's own of frozen items -/
inductive Bp (K : PySem.W.Frag) (H G : Hp) : V → D → Prop where
  | dp {v : V} {d : D} (h : Dp K G v d) : Bp K H G v d
  | own {a : Addr} {vs : List V} {ds : List D} (h : H a = some (.lst vs)) (r : DpAll K G vs ds) : Bp K H G (.ref a) (.list ds)
abbrev BpAll (K : PySem.W.Frag) (H G : Hp) : List V → List D → Prop := Paired (Bp K H G)
section
variable {K : PySem.W.Frag} {H G : Hp} {v : V} {d : D}
theorem Bp.none (b : Bp K H G v .none) : v = .non := by cases b with | dp h => cases h; rfl
theorem Bp.bool {x : Bool} (b : Bp K H G v (.bool x)) : v = .bl x := by cases b with | dp h => cases h; rfl
theorem Bp.int {x : Int} (b : Bp K H G v (.int x)) : v = .int x := by cases b with | dp h => cases h; rfl
theorem Bp.str {x : Str} (b : Bp K H G v (.str x)) : v = .str x := by cases b with | dp h => cases h; rfl
theorem Bp.tup {ds : List D} (b : Bp K H G v (.tuple ds)) (gh : Same G H) : ∃ a vs, v = .ref a ∧ SqT K H a vs ∧ DpAll K G vs ds := by
  cases b with
  | dp h =>
    cases h with
    | tup h1 h2 => exact ⟨_, _, rfl, same_t gh h1, h2⟩
theorem Bp.tupG {ds : List D} (b : Bp K H G v (.tuple ds)) : ∃ a vs, v = .ref a ∧ SqT K G a vs ∧ DpAll K G vs ds := by
  cases b with
  | dp h =>
    cases h with
    | tup h1 h2 => exact ⟨_, _, rfl, h1, h2⟩
theorem Bp.lst {ds : List D} (b : Bp K H G v (.list ds)) (gh : Same G H) : ∃ a vs, v = .ref a ∧ SqL K H a vs ∧ DpAll K G vs ds := by
  cases b with
  | dp h =>
    cases h with
    | lst h1 h2 => exact ⟨_, _, rfl, same_l gh h1, h2⟩
  | own h r => exact ⟨_, _, rfl, .of h, r⟩
theorem Bp.dpH (b : Bp K H G v d) (gh : Same G H) : Dp K H v d := by
  cases b with
  | dp h => exact dp_mono gh _ _ h
  | own h r => exact .lst (.of h) (dpa_mono gh _ _ r)
theorem Bp.nodict {kvs : List (D × D)} (b : Bp K H G v (.dict kvs)) : False := by cases b with | dp h => cases h
end

theorem owls {K : PySem.W.Frag} {G H : Hp} {ds : List D} {a : Addr} {A : List Addr} (h : OwAt K G H (.ls ds) a A) : ∃ vs, H a = some (.lst vs) ∧ DpAll K G vs ds ∧ A = [a] := by
  cases h with
  | ls h1 h2 => exact ⟨_, h1, h2, rfl⟩
theorem owll {K : PySem.W.Frag} {G H : Hp} {dss : List (List D)} {a : Addr} {A : List Addr} (h : OwAt K G H (.ll dss) a A) : ∃ bs : List Addr, H a = some (.lst (bs.map V.ref)) ∧ bs.length = dss.length ∧ (a :: bs).Nodup ∧
    (∀ (j : Nat) (b : Addr) (ds : List D), bs[j]? = some b → dss[j]? = some ds → ∃ vs, H b = some (.lst vs) ∧ DpAll K G vs ds) ∧ A = a :: bs := by
  cases h with
  | ll h1 h2 h3 h4 => exact ⟨_, h1, h2, h3, h4, rfl⟩
/-- an argument, read now -/
def rd1 (e : Fr) : Arg → Option D
  | .val d => some d
  | .slot i => match e[i]? with
    | some (.sh d) => some d
    | some (.own (.ls ds)) => some (.list ds)
    | some (.io (.ls ds)) => some (.list ds)
    | _ => none
def rdA (e : Fr) : List Arg → Option (List D)
  | [] => some []
  | a :: as => match rd1 e a with
    | some d => match rdA e as with
      | some ds => some (d :: ds)
      | none => none
    | none => none
section
variable {K : PySem.W.Frag} {Φ : Fx} {H G : Hp} {F : Nat → List Addr} {σ : L2.St} {e : Fr}
theorem bp_of (O : Ok K Φ H G F σ e) {a : Arg} {v : V} {d : D} (r : ra K a v H G F σ e) (q : rd1 e a = some d) : Bp K H G v d := by
  cases a with
  | val d' =>
    cases q
    exact .dp r
  | slot i =>
    have r' : σ[i]? = some (some v) := r
    have q' : (match e[i]? with
      | some (.sh d) => some d
      | some (.own (.ls ds)) => some (PyData.list ds)
      | some (.io (.ls ds)) => some (PyData.list ds)
      | _ => none) = some d := q
    split at q'
    · rename_i d2 he
      cases q'
      obtain ⟨v2, e2, h2⟩ := O.slots i _ he
      rw [r'] at e2
      cases e2
      exact .dp h2
    · rename_i ds he
      cases q'
      obtain ⟨a2, e2, h2, _⟩ := O.slots i _ he
      rw [r'] at e2
      cases e2
      obtain ⟨vs, h3, h4, _⟩ := owls h2
      exact .own h3 h4
    · rename_i ds he
      cases q'
      obtain ⟨a2, e2, h2, _⟩ := O.slots i _ he
      rw [r'] at e2
      cases e2
      obtain ⟨vs, h3, h4, _⟩ := owls h2
      exact .own h3 h4
    · cases q'
theorem bps_of (O : Ok K Φ H G F σ e) : ∀ {as : List Arg} {vs : List V} {ds : List D}, rs K as vs H G F σ e → rdA e as = some ds → BpAll K H G vs ds
  | [], _, _, r, q => by
    cases r
    cases q
    exact .nil
  | a :: as, _, _, r, q => by
    cases r with
    | cons h t =>
      have q' : (match rd1 e a with
        | some d => match rdA e as with
          | some ds => some (d :: ds)
          | none => none
        | none => none) = some _ := q
      split at q'
      · rename_i d e1
        split at q'
        · rename_i ds e2
          cases q'
          exact .cons (bp_of O h e1) (bps_of O t e2)
        · cases q'
      · cases q'
end

/-! ### operations that give a value -/
/-- what a rule on values asks, when it does op on data -/
def r2 (K : PySem.W.Frag) (op : D → D → Option D) : R2 := fun x y H Q => ∃ G d1 d2 d, Same G H ∧ Bp K H G x d1 ∧ Bp K H G y d2 ∧ op d1 d2 = some d ∧ ∀ v H' G', Grow H G H' G' → Dp K G' v d → Q v H'
def r1 (K : PySem.W.Frag) (op : D → Option D) : V → Hp → VK → Prop := fun x H Q => ∃ G d1 d, Same G H ∧ Bp K H G x d1 ∧ op d1 = some d ∧ ∀ v H' G', Grow H G H' G' → Dp K G' v d → Q v H'
def rP (K : PySem.W.Frag) (op : List D → Option D) : List V → Hp → VK → Prop := fun xs H Q => ∃ G ds d, Same G H ∧ BpAll K H G xs ds ∧ op ds = some d ∧ ∀ v H' G', Grow H G H' G' → Dp K G' v d → Q v H'
/-- .. a new list -/
def rN (K : PySem.W.Frag) (op : List D → Option (List D)) : List V → Hp → VK → Prop := fun xs H Q => ∃ G ds es, Same G H ∧ BpAll K H G xs ds ∧ op ds = some es ∧ ∀ p vs, H p = none → vs.length = es.length → DpAll K G vs es → Q (.ref p) (upd H p (.lst vs))

def dAdd : D → D → Option D
  | .int i, .int j => some (.int (i + j))
  | .str x, .str y => if x.length + y.length ≤ sizeLine then some (.str (x ++ y)) else none
  | .tuple xs, .tuple ys => if xs.length + ys.length ≤ sizeLine then some (.tuple (xs ++ ys)) else none
  | _, _ => none
def dSub : D → D → Option D
  | .int i, .int j => some (.int (i - j))
  | _, _ => none
def dMul : D → D → Option D
  | .int i, .int j => if (Builtin.Int.intBits i : Int) + (Builtin.Int.intBits j : Int) ≤ 134217728 then some (.int (i * j)) else none
  | _, _ => none
def dFdiv : D → D → Option D
  | .int i, .int j => if j ≠ 0 ∧ j.natAbs.log2 < 9000 then some (.int (i.fdiv j)) else none
  | _, _ => none
def dMod : D → D → Option D
  | .int i, .int j => if j ≠ 0 then some (.int (i.fmod j)) else none
  | _, _ => none
def dPow : D → D → Option D
  | .int i, .int j => if 0 ≤ j ∧ j ≤ 1000000 ∧ i.natAbs < 2 ^ 64 then some (.int (i ^ j.toNat)) else none
  | _, _ => none
def dNeg : D → Option D
  | .int i => some (.int (-i))
  | _ => none
def dLt : D → D → Option D
  | .int i, .int j => some (.bool (decide (i < j)))
  | _, _ => none
def dLe : D → D → Option D
  | .int i, .int j => some (.bool (decide (i ≤ j)))
  | _, _ => none
def dGt : D → D → Option D
  | .int i, .int j => some (.bool (decide (j < i)))
  | _, _ => none
def dGe : D → D → Option D
  | .int i, .int j => some (.bool (decide (j ≤ i)))
  | _, _ => none
def bothStr : D → D → Bool
  | .str _, .str _ => true
  | _, _ => false
def dEq : D → D → Option D := fun x y => if bothStr x y = true then some (.bool (PyData.eqv x y)) else if SeqAt.shaped x = true ∧ SeqAt.shaped y = true then some (.bool (PyData.eqv x y)) else none
def dNe : D → D → Option D := fun x y => if bothStr x y = true then some (.bool (!PyData.eqv x y)) else if SeqAt.shaped x = true ∧ SeqAt.shaped y = true then some (.bool (!PyData.eqv x y)) else none
def isNone : D → Bool
  | .none => true
  | _ => false
def dIs : D → D → Option D
  | .bool a, .bool b => some (.bool (decide (a = b)))
  | x, .none => some (.bool (isNone x))
  | _, _ => none
def dIsN : D → D → Option D
  | .bool a, .bool b => some (.bool (!decide (a = b)))
  | x, .none => some (.bool (!isNone x))
  | _, _ => none
/-- x[i] -/
def dIx : D → D → Option D
  | .list xs, .int i => atI xs i
  | .tuple xs, .int i => atI xs i
  | .str z, .int i => if z.length ≤ sizeLine then (atI z.cps.toList i).map fun c => .str ⟨#[c]⟩ else none
  | _, _ => none

section
variable {X : Cx}
theorem op_dAdd : OpR X (binaryOp .Add) (r2 X.K dAdd) := by
  intro pins s σ H x y v u Q I rx ry h
  obtain ⟨G, d1, d2, d, gh, b1, b2, ho, k⟩ := h
  unfold dAdd at ho
  split at ho
  · cases ho
    obtain rfl := b1.int
    obtain rfl := b2.int
    exact op_add pins s σ H _ _ v u Q I rx ry ⟨_, _, rfl, rfl, k _ _ _ (Grow.refl gh) (.int _)⟩
  · split at ho
    · rename_i hz
      cases ho
      obtain rfl := b1.str
      obtain rfl := b2.str
      exact op_add_str pins s σ H _ _ v u Q I rx ry ⟨_, _, rfl, rfl, hz, k _ _ _ (Grow.refl gh) (.str _)⟩
    · cases ho
  · split at ho
    · rename_i hz
      cases ho
      obtain ⟨a1, vs1, rfl, t1, p1⟩ := b1.tup gh
      obtain ⟨a2, vs2, rfl, t2, p2⟩ := b2.tup gh
      have l1 := DpAll.len p1
      have l2 := DpAll.len p2
      refine op_catA pins s σ H _ _ v u Q I rx ry ⟨a1, a2, vs1, vs2, rfl, rfl, t1, t2, by rw [l1, l2]; exact hz, fun z => ?_, fun _ z => ?_, fun _ _ p hp => ?_⟩
      · subst z
        cases p1
        refine k _ H G (Grow.refl gh) ?_
        cases b2 with
        | dp h => exact h
      · subst z
        cases p2
        refine k _ H G (Grow.refl gh) ?_
        rw [List.append_nil]
        cases b1 with
        | dp h => exact h
      · exact k _ _ _ (Grow.laid gh hp) (.tup (.of upd_same) (dpa_mono (same_new (same_back gh hp)) _ _ (DpAll.app p1 p2)))
    · cases ho
  · cases ho
theorem op_dSub : OpR X (binaryOp .Sub) (r2 X.K dSub) := by
  intro pins s σ H x y v u Q I rx ry h
  obtain ⟨G, d1, d2, d, gh, b1, b2, ho, k⟩ := h
  unfold dSub at ho
  split at ho
  · cases ho
    obtain rfl := b1.int
    obtain rfl := b2.int
    exact op_sub pins s σ H _ _ v u Q I rx ry ⟨_, _, rfl, rfl, k _ _ _ (Grow.refl gh) (.int _)⟩
  · cases ho
theorem op_dMul : OpR X (binaryOp .Mult) (r2 X.K dMul) := by
  intro pins s σ H x y v u Q I rx ry h
  obtain ⟨G, d1, d2, d, gh, b1, b2, ho, k⟩ := h
  unfold dMul at ho
  split at ho
  · split at ho
    · rename_i hc
      cases ho
      obtain rfl := b1.int
      obtain rfl := b2.int
      exact op_mulX pins s σ H _ _ v u Q I rx ry ⟨_, _, rfl, rfl, hc, k _ _ _ (Grow.refl gh) (.int _)⟩
    · cases ho
  · cases ho
theorem op_fdivX : OpR X (binaryOp .FloorDiv) (rI (fun _ j => j ≠ 0 ∧ j.natAbs.log2 < 9000) fun i j => .int (i.fdiv j)) := opI fun i j _ _ _ _ _ hc q => PyProof.Rows.floordiv_int hc.1 q (.inl (PyProof.noPylong_of_log2 hc.2))
theorem op_dFdiv : OpR X (binaryOp .FloorDiv) (r2 X.K dFdiv) := by
  intro pins s σ H x y v u Q I rx ry h
  obtain ⟨G, d1, d2, d, gh, b1, b2, ho, k⟩ := h
  unfold dFdiv at ho
  split at ho
  · split at ho
    · rename_i hc
      cases ho
      obtain rfl := b1.int
      obtain rfl := b2.int
      exact op_fdivX pins s σ H _ _ v u Q I rx ry ⟨_, _, rfl, rfl, hc, k _ _ _ (Grow.refl gh) (.int _)⟩
    · cases ho
  · cases ho
theorem op_dMod : OpR X (binaryOp .Mod) (r2 X.K dMod) := by
  intro pins s σ H x y v u Q I rx ry h
  obtain ⟨G, d1, d2, d, gh, b1, b2, ho, k⟩ := h
  unfold dMod at ho
  split at ho
  · split at ho
    · rename_i hc
      cases ho
      obtain rfl := b1.int
      obtain rfl := b2.int
      exact op_modN pins s σ H _ _ v u Q I rx ry ⟨_, _, rfl, rfl, hc, k _ _ _ (Grow.refl gh) (.int _)⟩
    · cases ho
  · cases ho
theorem op_dPow : OpR X (binaryOp .Pow) (r2 X.K dPow) := by
  intro pins s σ H x y v u Q I rx ry h
  obtain ⟨G, d1, d2, d, gh, b1, b2, ho, k⟩ := h
  unfold dPow at ho
  split at ho
  · split at ho
    · rename_i hc
      cases ho
      obtain rfl := b1.int
      obtain rfl := b2.int
      exact op_pow pins s σ H _ _ v u Q I rx ry ⟨_, _, rfl, rfl, hc, k _ _ _ (Grow.refl gh) (.int _)⟩
    · cases ho
  · cases ho
theorem op_dNeg : UnR X (unaryOp .USub) (r1 X.K dNeg) := by
  intro pins s σ H x v Q I rx h
  obtain ⟨G, d1, d, gh, b1, ho, k⟩ := h
  unfold dNeg at ho
  split at ho
  · cases ho
    obtain rfl := b1.int
    exact un_neg pins s σ H _ v Q I rx ⟨_, rfl, k _ _ _ (Grow.refl gh) (.int _)⟩
  · cases ho
theorem op_dLt : OpR X (compareOp .Lt) (r2 X.K dLt) := by
  intro pins s σ H x y v u Q I rx ry h
  obtain ⟨G, d1, d2, d, gh, b1, b2, ho, k⟩ := h
  unfold dLt at ho
  split at ho
  · cases ho
    obtain rfl := b1.int
    obtain rfl := b2.int
    exact op_lt pins s σ H _ _ v u Q I rx ry ⟨_, _, rfl, rfl, k _ _ _ (Grow.refl gh) (.bl _)⟩
  · cases ho
theorem op_dLe : OpR X (compareOp .LtE) (r2 X.K dLe) := by
  intro pins s σ H x y v u Q I rx ry h
  obtain ⟨G, d1, d2, d, gh, b1, b2, ho, k⟩ := h
  unfold dLe at ho
  split at ho
  · cases ho
    obtain rfl := b1.int
    obtain rfl := b2.int
    exact op_le pins s σ H _ _ v u Q I rx ry ⟨_, _, rfl, rfl, k _ _ _ (Grow.refl gh) (.bl _)⟩
  · cases ho
theorem op_dGt : OpR X (compareOp .Gt) (r2 X.K dGt) := by
  intro pins s σ H x y v u Q I rx ry h
  obtain ⟨G, d1, d2, d, gh, b1, b2, ho, k⟩ := h
  unfold dGt at ho
  split at ho
  · cases ho
    obtain rfl := b1.int
    obtain rfl := b2.int
    exact op_gt pins s σ H _ _ v u Q I rx ry ⟨_, _, rfl, rfl, k _ _ _ (Grow.refl gh) (.bl _)⟩
  · cases ho
theorem op_dGe : OpR X (compareOp .GtE) (r2 X.K dGe) := by
  intro pins s σ H x y v u Q I rx ry h
  obtain ⟨G, d1, d2, d, gh, b1, b2, ho, k⟩ := h
  unfold dGe at ho
  split at ho
  · cases ho
    obtain rfl := b1.int
    obtain rfl := b2.int
    exact op_ge pins s σ H _ _ v u Q I rx ry ⟨_, _, rfl, rfl, k _ _ _ (Grow.refl gh) (.bl _)⟩
  · cases ho
theorem dec_str {i j : Str} : decide (V.str i = V.str j) = PyData.eqv (.str i) (.str j) := by
  simp only [PyData.eqv]
  rw [Bool.eq_iff_iff]
  simp
theorem op_dEq (hu : X.A.units + 64 < cLine) : OpR X (compareOp .Eq) (r2 X.K dEq) := by
  intro pins s σ H x y v u Q I rx ry h
  obtain ⟨G, d1, d2, d, gh, b1, b2, ho, k⟩ := h
  unfold dEq at ho
  split at ho
  · rename_i hc
    cases ho
    cases d1 <;> first | exact absurd hc Bool.false_ne_true | skip
    cases d2 <;> first | exact absurd hc Bool.false_ne_true | skip
    rename_i z1 z2
    obtain rfl := b1.str
    obtain rfl := b2.str
    refine op_eq pins s σ H _ _ v u Q I rx ry ⟨rfl, ?_⟩
    rw [dec_str]
    exact k _ _ _ (Grow.refl gh) (.bl _)
  split at ho
  · rename_i hc
    cases ho
    exact op_eqD hu pins s σ H _ _ v u Q I rx ry ⟨_, _, b1.dpH gh, b2.dpH gh, hc.1, hc.2, k _ _ _ (Grow.refl gh) (.bl _)⟩
  · cases ho
theorem op_dNe (hu : X.A.units + 64 < cLine) : OpR X (compareOp .NotEq) (r2 X.K dNe) := by
  intro pins s σ H x y v u Q I rx ry h
  obtain ⟨G, d1, d2, d, gh, b1, b2, ho, k⟩ := h
  unfold dNe at ho
  split at ho
  · rename_i hc
    cases ho
    cases d1 <;> first | exact absurd hc Bool.false_ne_true | skip
    cases d2 <;> first | exact absurd hc Bool.false_ne_true | skip
    rename_i z1 z2
    obtain rfl := b1.str
    obtain rfl := b2.str
    refine op_ne pins s σ H _ _ v u Q I rx ry ⟨rfl, ?_⟩
    rw [dec_str]
    exact k _ _ _ (Grow.refl gh) (.bl _)
  split at ho
  · rename_i hc
    cases ho
    exact op_neD hu pins s σ H _ _ v u Q I rx ry ⟨_, _, b1.dpH gh, b2.dpH gh, hc.1, hc.2, k _ _ _ (Grow.refl gh) (.bl _)⟩
  · cases ho
theorem isNone_v {K : PySem.W.Frag} {H : Hp} {v : V} {d : D} (h : Dp K H v d) : decide (v = .non) = isNone d := by
  cases h <;> rfl
theorem op_dIs : OpR X (compareOp .Is) (r2 X.K dIs) := by
  intro pins s σ H x y v u Q I rx ry h
  obtain ⟨G, d1, d2, d, gh, b1, b2, ho, k⟩ := h
  unfold dIs at ho
  split at ho
  · cases ho
    obtain rfl := b1.bool
    obtain rfl := b2.bool
    exact op_isBl pins s σ H _ _ v u Q I rx ry ⟨_, _, rfl, rfl, k _ _ _ (Grow.refl gh) (.bl _)⟩
  · cases ho
    obtain rfl := b2.none
    exact op_isN pins s σ H _ _ v u Q I rx ry ⟨rfl, k _ _ _ (Grow.refl gh) (by rw [isNone_v (b1.dpH gh)]; exact .bl _)⟩
  · cases ho
theorem op_dIsN : OpR X (compareOp .IsNot) (r2 X.K dIsN) := by
  intro pins s σ H x y v u Q I rx ry h
  obtain ⟨G, d1, d2, d, gh, b1, b2, ho, k⟩ := h
  unfold dIsN at ho
  split at ho
  · cases ho
    obtain rfl := b1.bool
    obtain rfl := b2.bool
    exact op_notBl pins s σ H _ _ v u Q I rx ry ⟨_, _, rfl, rfl, k _ _ _ (Grow.refl gh) (.bl _)⟩
  · cases ho
    obtain rfl := b2.none
    exact op_notN pins s σ H _ _ v u Q I rx ry ⟨rfl, k _ _ _ (Grow.refl gh) (by rw [isNone_v (b1.dpH gh)]; exact .bl _)⟩
  · cases ho
theorem atI_dp {K : PySem.W.Frag} {G : Hp} {vs : List V} {ds : List D} {i : Int} {d : D} (p : DpAll K G vs ds) (h : atI ds i = some d) : ∃ v, atI vs i = some v ∧ Dp K G v d := by
  unfold atI at h ⊢
  rw [DpAll.len p]
  cases e : ixN ds.length i with
  | none =>
    rw [e] at h
    cases h
  | some j =>
    rw [e] at h
    exact DpAll.at p h
theorem ix_d : IxR X (r2 X.K dIx) := by
  intro value slice pins s σ H x y v u Q I rx ry h hs
  obtain ⟨G, d1, d2, d, gh, b1, b2, ho, k⟩ := h
  unfold dIx at ho
  split at ho
  · rename_i xs i
    obtain ⟨a, vs, rfl, t, p⟩ := b1.lst gh
    obtain ⟨w, e1, h1⟩ := atI_dp p ho
    obtain rfl := b2.int
    exact ix_list value slice pins s σ H _ _ v u Q I rx ry ⟨a, vs, i, w, rfl, rfl, t, e1, k _ _ _ (Grow.refl gh) h1⟩ hs
  · rename_i xs i
    obtain ⟨a, vs, rfl, t, p⟩ := b1.tup gh
    obtain ⟨w, e1, h1⟩ := atI_dp p ho
    obtain rfl := b2.int
    exact ix_tup value slice pins s σ H _ _ v u Q I rx ry ⟨a, vs, i, w, rfl, rfl, t, e1, k _ _ _ (Grow.refl gh) h1⟩ hs
  · rename_i z i
    split at ho
    · rename_i hz
      cases e : atI z.cps.toList i with
      | none =>
        rw [e] at ho
        cases ho
      | some c =>
        rw [e] at ho
        cases ho
        obtain rfl := b1.str
        obtain rfl := b2.int
        exact ix_str value slice pins s σ H _ _ v u Q I rx ry ⟨z, i, c, rfl, rfl, hz, e, k _ _ _ (Grow.refl gh) (.str _)⟩ hs
    · cases ho
  · cases ho
end

/-! ### slices -/
def cutD (xs : List D) (lo hi : Option Int) : List D := (xs.drop (HT.sIx xs.length 0 lo)).take (HT.sIx xs.length xs.length hi - HT.sIx xs.length 0 lo)
theorem cut_dp {K : PySem.W.Frag} {G : Hp} {vs : List V} {ds : List D} (p : DpAll K G vs ds) (lo hi : Option Int) : DpAll K G (cutV vs lo hi) (cutD ds lo hi) := by
  unfold cutV cutD
  rw [DpAll.len p]
  exact DpAll.take _ (DpAll.drop _ p)
/-- a slice of a tuple, a text; of a list it is a new list -/
def dCut : D → Option Int → Option Int → Option D
  | .tuple xs, lo, hi => some (.tuple (cutD xs lo hi))
  | .str z, lo, hi => if z.length ≤ sizeLine then some (.str (cutS z lo hi)) else none
  | _, _, _ => none
def rCut (K : PySem.W.Frag) : V → Option Int → Option Int → Hp → VK → Prop := fun x lo hi H Q => ∃ G d1 d, Same G H ∧ Bp K H G x d1 ∧ dCut d1 lo hi = some d ∧ ∀ v H' G', Grow H G H' G' → Dp K G' v d → Q v H'
def rCutN (K : PySem.W.Frag) : V → Option Int → Option Int → Hp → VK → Prop := fun x lo hi H Q => ∃ G ds, Same G H ∧ Bp K H G x (.list ds) ∧ ∀ p vs, H p = none → DpAll K G vs (cutD ds lo hi) → Q (.ref p) (upd H p (.lst vs))
section
variable {X : Cx}
theorem cutD_whole {xs : List D} {lo hi : Option Int} (h : HT.sIx xs.length 0 lo = 0 ∧ HT.sIx xs.length xs.length hi = xs.length) : cutD xs lo hi = xs := by
  unfold cutD
  rw [h.1, h.2]
  simp
theorem sl_d : SlR X (rCut X.K) := by
  intro pins s σ H x v vl vu lo hi sl Q I rx hs pl pu h
  obtain ⟨G, d1, d, gh, b1, ho, k⟩ := h
  unfold dCut at ho
  split at ho
  · rename_i xs
    cases ho
    obtain ⟨a, vs, rfl, t, p⟩ := b1.tup gh
    have l := DpAll.len p
    refine sl_tupA pins s σ H _ v vl vu lo hi sl Q I rx hs pl pu ⟨a, vs, rfl, t, fun z => ?_, fun _ q hq => ?_⟩
    · rw [l] at z
      rw [cutD_whole z] at k
      refine k _ H G (Grow.refl gh) ?_
      cases b1 with
      | dp h => exact h
    · exact k _ _ _ (Grow.laid gh hq) (.tup (.of upd_same) (dpa_mono (same_new (same_back gh hq)) _ _ (cut_dp p lo hi)))
  · split at ho
    · rename_i hz
      cases ho
      obtain rfl := b1.str
      exact sl_str pins s σ H _ v vl vu lo hi sl Q I rx hs pl pu ⟨_, rfl, hz, k _ _ _ (Grow.refl gh) (.str _)⟩
    · cases ho
  · cases ho
theorem sl_dN : SlR X (rCutN X.K) := by
  intro pins s σ H x v vl vu lo hi sl Q I rx hs pl pu h
  obtain ⟨G, ds, gh, b1, k⟩ := h
  obtain ⟨a, vs, rfl, t, p⟩ := b1.lst gh
  exact sl_list pins s σ H _ v vl vu lo hi sl Q I rx hs pl pu ⟨a, vs, rfl, t, fun q hq => k q _ hq (cut_dp p lo hi)⟩
end

/-! ### truth -/
def truth : D → Option Bool
  | .none => some false
  | .bool b => some b
  | .int i => some (i != 0)
  | .str y => if y.length ≤ sizeLine then some ((y.length : Int) != 0) else none
  | .list xs => some (!xs.isEmpty)
  | .tuple xs => some (!xs.isEmpty)
  | .dict _ => none
theorem truth_v {K : PySem.W.Frag} {H G : Hp} {v : V} {d : D} {k : Bool} (b : Bp K H G v d) (gh : Same G H) (h : truth d = some k) : TruV K v H k := by
  have emp : ∀ {vs : List V} {ds : List D}, DpAll K G vs ds → (!ds.isEmpty) = !vs.isEmpty := fun p => by
    cases p <;> rfl
  unfold truth at h
  split at h
  · cases h
    rw [b.none]
    rfl
  · cases h
    rw [b.bool]
    rfl
  · cases h
    rw [b.int]
    rfl
  · split at h
    · rename_i hz
      cases h
      rw [b.str]
      exact ⟨hz, rfl⟩
    · cases h
  · cases h
    obtain ⟨a, vs, rfl, t, p⟩ := b.lst gh
    exact .inl ⟨vs, t, emp p⟩
  · cases h
    obtain ⟨a, vs, rfl, t, p⟩ := b.tup gh
    exact .inr (.inl ⟨vs, t, emp p⟩)
  · cases h
end DL
set_option Elab.async false
set_option linter.all false
set_option maxRecDepth 100000
set_option maxHeartbeats 4000000
/-! DlD: expressions. -/
namespace DL
open PySem L2

section
variable {K : PySem.W.Frag} {Φ : Fx} {H G : Hp} {F : Nat → List Addr} {σ : L2.St} {e : Fr}
/-- an object that no slot has is frozen -/
theorem Ok.takes {w : Ow} {a : Addr} {A : List Addr} (O : Ok K Φ H G F σ e) (h : OwAt K G H w a A) (n : ∀ b ∈ A, G b = none ∧ Φ.H_0 b = none) (ap : ∀ j t, e[j]? = some t → t.owned = true → ∀ b ∈ A, b ∉ F j) :
    Same G (takeIn H G A) ∧ Ok K Φ H (takeIn H G A) F σ e ∧ Dp K (takeIn H G A) (.ref a) w.toD := by
  have hs : Same G (takeIn H G A) := takeIn_same fun b hb => (n b hb).1
  refine ⟨hs, ?_, h.dp hs fun b hb => takeIn_in hb⟩
  refine ⟨takeIn_sub O.gh, O.len, fun j s q => ?_, O.sep, O.f0, O.f1, fun b hb => ?_⟩
  · have old := O.slots j s q
    have out : s.owned = true → ∀ b ∈ F j, b ∉ A := fun o b hb hb2 => ap j s q o b hb2 hb
    cases s with
    | un => trivial
    | xn => first | exact old | exact h | exact h1 | exact h2 | exact q | exact O.slots _ _ ‹_›
    | sh d =>
      obtain ⟨v, e2, h3⟩ := old
      exact ⟨v, e2, dp_mono hs _ _ h3⟩
    | own u =>
      obtain ⟨a2, e2, h3, h4⟩ := old
      exact ⟨a2, e2, h3.mono hs (fun _ _ _ q => q), fun b hb => ⟨by rw [takeIn_out (out rfl b hb)]; exact (h4 b hb).1, (h4 b hb).2⟩⟩
    | io u =>
      obtain ⟨a2, e2, h3, h4⟩ := old
      exact ⟨a2, e2, h3.mono hs (fun _ _ _ q => q), fun b hb => ⟨by rw [takeIn_out (out rfl b hb)]; exact (h4 b hb).1, (h4 b hb).2⟩⟩
  · rw [takeIn_out fun z => hb (n b z).2]
    exact O.f2 b hb
end

/-! ### names, constants -/
def eVar (i : Nat) : Ef := fun e => match e[i]? with
  | none => .no
  | some .un => .no
  | some _ => .ok (.slot i) e
def eC (d : D) : Ef := fun e => .ok (.val d) e
section
variable {X : Cx} {Φ : Fx} {W : WX}
theorem d_var (i : Nat) {x : Str} {pos : Pos} (hN : X.N[i]? = some x := by rfl) (hv : Vis X.env.scope x := by first | exact Or.inl rfl | exact Or.inr (Or.inl rfl) | exact Or.inr (Or.inr rfl)) (hd : (x == ("__debug__" : Str)) = false := by decide)
    (hcd : (x == ("__classdict__" : Str)) = false := by decide) : DE X Φ W (.Name x pos) (eVar i) := pe_weak (pv i hN hv hd hcd) fun σ H Q ⟨G, F, e, O, h⟩ => by
  have h' : Wp X.K X.mg Φ W σ (ra X.K) G (match e[i]? with
    | none => .no
    | some .un => .no
    | some _ => .ok (.slot i) e) Q := h
  have fin : ∀ {v : V}, σ[i]? = some (some v) → Wp X.K X.mg Φ W σ (ra X.K) G (R.ok (.slot i) e) Q → tVar i σ H Q := fun {v} q z => ⟨v, q, z v H G F (Same.refl G) O q⟩
  split at h'
  · exact h'.elim
  · exact h'.elim
  · rename_i s hs hi
    have sl := O.slots i s hi
    cases s with
    | un => exact (hs rfl).elim
    | xn => exact fin sl h'
    | sh d =>
      obtain ⟨v, q, _⟩ := sl
      exact fin q h'
    | own w =>
      obtain ⟨a, q, _⟩ := sl
      exact fin q h'
    | io w =>
      obtain ⟨a, q, _⟩ := sl
      exact fin q h'
theorem tC_weak {v : V} {d : D} (hd : ∀ G, Dp X.K G v d) (σ : L2.St) (H : Hp) (Q : VK) (t : tG X.K X.mg Φ W (ra X.K) (eC d) σ H Q) : tC v σ H Q := by
  obtain ⟨G, F, e, O, h⟩ := t
  exact h v H G F (Same.refl G) O (hd G)
theorem d_int {i : Int} {j pos} : DE X Φ W (.Constant (.int i) j pos) (eC (.int i)) := pe_weak pe_int (tC_weak fun _ => .int i)
theorem d_bool {b : Bool} {j pos} : DE X Φ W (.Constant (.bool b) j pos) (eC (.bool b)) := pe_weak pe_bl (tC_weak fun _ => .bl b)
theorem d_none {j pos} : DE X Φ W (.Constant .none j pos) (eC .none) := pe_weak pe_non (tC_weak fun _ => .non)
theorem d_str {x : Str} {j pos} : DE X Φ W (.Constant (.str x) j pos) (eC (.str x)) := pe_weak pe_str (tC_weak fun _ => .str x)
theorem d_glob {x : Str} {v : V} {u : Value} {d : D} {pos : Pos} (hm : X.mg x = some u) (r : RelV v u) (hd : ∀ G, Dp X.K G v d) (hg : Gl X x := by rfl) (hb : (x == ("__debug__" : Str)) = false := by decide) : DE X Φ W (.Name x pos) (eC d) :=
  pe_weak (pe_glob hg hm r hb) (tC_weak hd)
end

/-! ### new objects as values -/
def eFz (f : Rf) : Ef := fun e => (f e).bind fun r e1 => match r with
  | .arg a => .ok a e1
  | .new w => .ok (.val w.toD) e1
def eR (f : Ef) : Rf := fun e => (f e).bind fun a e1 => .ok (.arg a) e1
section
variable {X : Cx} {Φ : Fx} {W : WX} {x : Expr}
theorem eFz_weak {f : Rf} {σ : L2.St} {H : Hp} {Q : VK} (t : tG X.K X.mg Φ W (ra X.K) (eFz f) σ H Q) : tG X.K X.mg Φ W (rr X.K Φ) f σ H Q := by
  obtain ⟨G, F, e, O, h⟩ := t
  refine ⟨G, F, e, O, Wp.imp (Wp.seq h) fun v H1 ⟨G1, F1, e1, r, g1, O1, r1, h1⟩ => ?_⟩
  cases r with
  | arg a => exact h1 v H1 G1 F1 (Same.refl _) O1 r1
  | new w =>
    obtain ⟨a, A, rfl, o, n, ap⟩ := r1
    obtain ⟨s1, s2, s3⟩ := O1.takes o n ap
    exact h1 _ H1 _ F1 s1 s2 s3
theorem d_fz {f : Rf} (h : DR X Φ W x f) : DE X Φ W x (eFz f) := pe_weak h fun _ _ _ t => eFz_weak t
theorem eR_weak {f : Ef} {σ : L2.St} {H : Hp} {Q : VK} (t : tG X.K X.mg Φ W (rr X.K Φ) (eR f) σ H Q) : tG X.K X.mg Φ W (ra X.K) f σ H Q := by
  obtain ⟨G, F, e, O, h⟩ := t
  exact ⟨G, F, e, O, Wp.imp (Wp.seq h) fun v H1 ⟨G1, F1, e1, r, g1, O1, r1, h1⟩ => h1 v H1 G1 F1 (Same.refl _) O1 r1⟩
theorem d_r {f : Ef} (h : DE X Φ W x f) : DR X Φ W x (eR f) := pe_weak h fun _ _ _ t => eR_weak t
end

/-! ### arguments kept for good -/
def fz (a : Arg) (e : Fr) : R D := match a with
  | .val d => .ok d e
  | .slot i => match e[i]? with
    | some (.sh d) => .ok d e
    | some (.own w) => .ok w.toD (e.set i (.sh w.toD))
    | _ => .no
def fzA : List Arg → Fr → R (List D)
  | [], e => .ok [] e
  | a :: as, e => (fz a e).bind fun d e1 => (fzA as e1).bind fun ds e2 => .ok (d :: ds) e2
/-- a data value -/
def rd (K : PySem.W.Frag) : Rel D V := fun d v _ G _ _ _ => Dp K G v d
section
variable {K : PySem.W.Frag} {mg : Str → Option Value} {Φ : Fx} {W : WX} {H G : Hp} {F : Nat → List Addr} {σ : L2.St} {e : Fr}
theorem fz_ok (O : Ok K Φ H G F σ e) {a : Arg} {v : V} (r : ra K a v H G F σ e) {d : D} {e' : Fr} (q : fz a e = .ok d e') : ∃ G', Same G G' ∧ Ok K Φ H G' F σ e' ∧ Dp K G' v d := by
  cases a with
  | val d' =>
    cases q
    exact ⟨G, Same.refl _, O, r⟩
  | slot i =>
    have q' : (match e[i]? with
      | some (.sh d) => R.ok d e
      | some (.own w) => R.ok w.toD (e.set i (.sh w.toD))
      | _ => R.no) = R.ok d e' := q
    split at q'
    · rename_i d2 he
      cases q'
      obtain ⟨v2, e2, h2⟩ := O.slots i _ he
      have r' : σ[i]? = some (some v) := r
      rw [r'] at e2
      cases e2
      exact ⟨G, Same.refl _, O, h2⟩
    · rename_i w he
      cases q'
      obtain ⟨s1, s2, s3⟩ := O.freeze he
      exact ⟨_, s1, s2, s3 v r⟩
    · cases q'
theorem fz_no {a : Arg} {x : Exn} {e' : Fr} (q : fz a e = .ex x e') : False := by
  cases a with
  | val d' => cases q
  | slot i =>
    have q' : (match e[i]? with
      | some (.sh d) => R.ok d e
      | some (.own w) => R.ok w.toD (e.set i (.sh w.toD))
      | _ => R.no) = R.ex x e' := q
    split at q' <;> cases q'
theorem fzA_ok : ∀ {as : List Arg} {vs : List V} {H G : Hp} {F : Nat → List Addr} {e : Fr} {ds : List D} {e' : Fr}, Ok K Φ H G F σ e → rs K as vs H G F σ e → fzA as e = .ok ds e' → ∃ G', Same G G' ∧ Ok K Φ H G' F σ e' ∧ DpAll K G' vs ds
  | [], _, H, G, F, e, _, _, O, r, q => by
    cases r
    cases q
    exact ⟨G, Same.refl _, O, .nil⟩
  | a :: as, _, H, G, F, e, _, _, O, r, q => by
    cases r with
    | cons h t =>
      have q' : ((fz a e).bind fun d e1 => (fzA as e1).bind fun ds e2 => R.ok (d :: ds) e2) = _ := q
      cases q1 : fz a e with
      | no =>
        rw [q1] at q'
        cases q'
      | ex x e1 =>
        rw [q1] at q'
        cases q'
      | ok d e1 =>
        rw [q1, R.bind_ok] at q'
        obtain ⟨G1, s1, O1, h1⟩ := fz_ok O h q1
        cases q2 : fzA as e1 with
        | no =>
          rw [q2] at q'
          cases q'
        | ex x e2 =>
          rw [q2] at q'
          cases q'
        | ok ds e2 =>
          rw [q2, R.bind_ok] at q'
          cases q'
          obtain ⟨G2, s2, O2, h2⟩ := fzA_ok O1 (rs_up s1 t) q2
          exact ⟨G2, s1.trans s2, O2, .cons (dp_mono s2 _ _ h1) h2⟩
theorem fzA_no : ∀ {as : List Arg} {e : Fr} {x : Exn} {e' : Fr}, fzA as e = .ex x e' → False
  | [], _, _, _, q => by cases q
  | a :: as, e, x, e', q => by
    have q' : ((fz a e).bind fun d e1 => (fzA as e1).bind fun ds e2 => R.ok (d :: ds) e2) = .ex x e' := q
    cases q1 : fz a e with
    | no =>
      rw [q1] at q'
      cases q'
    | ex x e1 => exact fz_no q1
    | ok d e1 =>
      rw [q1, R.bind_ok] at q'
      cases q2 : fzA as e1 with
      | no =>
        rw [q2] at q'
        cases q'
      | ex x e2 => exact fzA_no q2
      | ok ds e2 =>
        rw [q2, R.bind_ok] at q'
        cases q'
/-- freezing, in a reading -/
theorem Wp.fz {α β : Type} {ρ : Rel α β} {a : Arg} {v : V} {f : D → Fr → R α} {Q : β → Hp → Prop} (O : Ok K Φ H G F σ e) (r : ra K a v H G F σ e) (h : Wp K mg Φ W σ ρ G ((DL.fz a e).bind f) Q) :
    ∃ G1 e1 d, Same G G1 ∧ Ok K Φ H G1 F σ e1 ∧ Dp K G1 v d ∧ Wp K mg Φ W σ ρ G1 (f d e1) Q := by
  cases q : DL.fz a e with
  | no =>
    rw [q] at h
    exact h.elim
  | ex x e1 => exact (fz_no q).elim
  | ok d e1 =>
    rw [q] at h
    obtain ⟨G1, s1, O1, h1⟩ := fz_ok O r q
    exact ⟨G1, e1, d, s1, O1, h1, Wp.up h s1⟩
theorem Wp.fzA {α β : Type} {ρ : Rel α β} {as : List Arg} {vs : List V} {f : List D → Fr → R α} {Q : β → Hp → Prop} (O : Ok K Φ H G F σ e) (r : rs K as vs H G F σ e) (h : Wp K mg Φ W σ ρ G ((DL.fzA as e).bind f) Q) :
    ∃ G1 e1 ds, Same G G1 ∧ Ok K Φ H G1 F σ e1 ∧ DpAll K G1 vs ds ∧ Wp K mg Φ W σ ρ G1 (f ds e1) Q := by
  cases q : DL.fzA as e with
  | no =>
    rw [q] at h
    exact h.elim
  | ex x e1 => exact (fzA_no q).elim
  | ok ds e1 =>
    rw [q] at h
    obtain ⟨G1, s1, O1, h1⟩ := fzA_ok O r q
    exact ⟨G1, e1, ds, s1, O1, h1, Wp.up h s1⟩
end

/-! ### argument lists, displays -/
def aNil : Af := fun e => .ok [] e
def aCons (fa : Ef) (fr : Af) : Af := fun e => (fa e).bind fun a e1 => (fr e1).bind fun as e2 => .ok (a :: as) e2
def eTup (fa : Af) : Ef := fun e => (fa e).bind fun as e1 => (fzA as e1).bind fun ds e2 => if ds.length ≤ 1000 then .ok (.val (.tuple ds)) e2 else .no
def eLst (fa : Af) : Rf := fun e => (fa e).bind fun as e1 => (fzA as e1).bind fun ds e2 => if ds.length ≤ 1000 then .ok (.new (.ls ds)) e2 else .no
theorem line1000 {n : Nat} (h : n ≤ 1000) : n ≤ sizeLine := Nat.le_trans h (by decide)
section
variable {X : Cx} {Φ : Fx} {W : WX} {x : Expr} {xs : List Expr} {pos : Pos}
theorem d_anil : DA X Φ W [] aNil := pa_weak pa_nil fun σ H Q ⟨G, F, e, O, h⟩ => h [] H G F (Same.refl _) O .nil
theorem d_acons {fa : Ef} {fr : Af} (ha : DE X Φ W x fa) (hr : DA X Φ W xs fr) (hs : starEach (x :: xs) X.env = (false, eval x X.env) :: starEach xs X.env := by rfl) : DA X Φ W (x :: xs) (aCons fa fr) :=
  pa_weak (pa_cons ha hr hs) fun σ H Q ⟨G, F, e, O, h⟩ => ⟨G, F, e, O, Wp.imp (Wp.seq h) fun v H1 ⟨G1, F1, e1, a, g1, O1, r1, h1⟩ => ⟨G1, F1, e1, O1, Wp.imp (Wp.seq h1) fun vs H2 ⟨G2, F2, e2, as, g2, O2, r2, h2⟩ =>
    h2 (v :: vs) H2 G2 F2 (Same.refl _) O2 (.cons (ra_up r1 g2) r2)⟩⟩
theorem d_tup {fa : Af} {k} (ha : DA X Φ W xs fa) : DE X Φ W (.Tuple xs k pos) (eTup fa) :=
  pe_weak (pe_tup ha) fun σ H Q ⟨G, F, e, O, h⟩ => ⟨G, F, e, O, Wp.imp (Wp.seq h) fun vs H1 ⟨G1, F1, e1, as, g1, O1, r1, h1⟩ => by
    obtain ⟨G2, e2, ds, g2, O2, d2, h2⟩ := Wp.fzA O1 r1 h1
    split at h2
    · rename_i hl
      refine ⟨by rw [DpAll.len d2]; exact line1000 hl, fun p hp => ?_⟩
      have g := Grow.laid (o := .tup vs) O2.gh hp
      exact h2 _ _ _ F1 g.gg (O2.grow g) (.tup (.of upd_same) (dpa_mono g.gg _ _ d2))
    · exact h2.elim⟩
theorem Ok.noslot {K : PySem.W.Frag} {H G : Hp} {F : Nat → List Addr} {σ : L2.St} {e : Fr} (O : Ok K Φ H G F σ e) {p : Addr} (hp : H p = none) : ∀ j t, e[j]? = some t → t.owned = true → p ∉ F j := fun j t q o hm => by
  have old := O.slots j t q
  cases t with
  | un => cases o
  | xn => cases o
  | sh d => cases o
  | own u =>
    obtain ⟨_, _, h3, _⟩ := old
    obtain ⟨vs, q⟩ := h3.there p hm
    rw [hp] at q
    cases q
  | io u =>
    obtain ⟨_, _, h3, _⟩ := old
    obtain ⟨vs, q⟩ := h3.there p hm
    rw [hp] at q
    cases q
theorem Ok.noentry {K : PySem.W.Frag} {H G : Hp} {F : Nat → List Addr} {σ : L2.St} {e : Fr} (O : Ok K Φ H G F σ e) {p : Addr} (hp : H p = none) : Φ.H_0 p = none := by
  cases q : Φ.H_0 p with
  | none => rfl
  | some o => exact absurd hp (O.f0 p (by rw [q]; exact fun z => nomatch z))
/-- a new list of its own -/
theorem rr_new {K : PySem.W.Frag} {H G : Hp} {F : Nat → List Addr} {σ : L2.St} {e : Fr} (O : Ok K Φ H G F σ e) {p : Addr} (hp : H p = none) {vs : List V} {ds : List D} (d : DpAll K G vs ds) :
    Ok K Φ (upd H p (.lst vs)) G F σ e ∧ rr K Φ (.new (.ls ds)) (.ref p) (upd H p (.lst vs)) G F σ e := by
  have g := Grow.own (o := .lst vs) O.gh hp
  refine ⟨O.grow g, p, [p], rfl, .ls upd_same d, fun b hb => ?_, fun j t q o b hb => ?_⟩
  · rw [List.mem_singleton.mp hb]
    exact ⟨same_back O.gh hp, O.noentry hp⟩
  · rw [List.mem_singleton.mp hb]
    exact O.noslot hp j t q o
theorem d_lst {fa : Af} (ha : DA X Φ W xs fa) : DR X Φ W (.List xs pos) (eLst fa) :=
  pe_weak (pe_lst ha) fun σ H Q ⟨G, F, e, O, h⟩ => ⟨G, F, e, O, Wp.imp (Wp.seq h) fun vs H1 ⟨G1, F1, e1, as, g1, O1, r1, h1⟩ => by
    obtain ⟨G2, e2, ds, g2, O2, d2, h2⟩ := Wp.fzA O1 r1 h1
    split at h2
    · rename_i hl
      refine ⟨by rw [DpAll.len d2]; exact line1000 hl, fun p hp => ?_⟩
      obtain ⟨z1, z2⟩ := rr_new O2 hp d2
      exact h2 _ _ _ F1 (Same.refl _) z1 z2
    · exact h2.elim⟩
end

/-! ### operations -/
def use1 (op : D → Option D) (a : Arg) (e : Fr) : R Arg := match rd1 e a with
  | some x => match op x with
    | some d => .ok (.val d) e
    | none => .no
  | none => .no
def use2 (op : D → D → Option D) (a b : Arg) (e : Fr) : R Arg := match rd1 e a with
  | some x => match rd1 e b with
    | some y => match op x y with
      | some d => .ok (.val d) e
      | none => .no
    | none => .no
  | none => .no
def useN (op : List D → Option D) (as : List Arg) (e : Fr) : R Arg := match rdA e as with
  | some ds => match op ds with
    | some d => .ok (.val d) e
    | none => .no
  | none => .no
def useL (op : List D → Option (List D)) (as : List Arg) (e : Fr) : R RV := match rdA e as with
  | some ds => match op ds with
    | some es => .ok (.new (.ls es)) e
    | none => .no
  | none => .no
def eOp1 (op : D → Option D) (fa : Ef) : Ef := fun e => (fa e).bind (use1 op)
def eOp2 (op : D → D → Option D) (fa fb : Ef) : Ef := fun e => (fa e).bind fun a e1 => (fb e1).bind fun b e2 => use2 op a b e2
def eCall (op : List D → Option D) (fa : Af) : Ef := fun e => (fa e).bind (useN op)
def eCallN (op : List D → Option (List D)) (fa : Af) : Rf := fun e => (fa e).bind (useL op)
section
variable {K : PySem.W.Frag} {mg : Str → Option Value} {Φ : Fx} {W : WX} {H G : Hp} {F : Nat → List Addr} {σ : L2.St} {e : Fr}
theorem use1_ok {op : D → Option D} {a : Arg} {x : V} {Q : VK} (O : Ok K Φ H G F σ e) (r : ra K a x H G F σ e) (h : Wp K mg Φ W σ (ra K) G (use1 op a e) Q) : r1 K op x H Q := by
  unfold use1 at h
  split at h
  · rename_i d1 q1
    split at h
    · rename_i d q2
      exact ⟨G, d1, d, O.gh, bp_of O r q1, q2, fun v H' G' g hd => h v H' G' F g.gg (O.grow g) hd⟩
    · exact h.elim
  · exact h.elim
theorem use2_ok {op : D → D → Option D} {a b : Arg} {x y : V} {Q : VK} (O : Ok K Φ H G F σ e) (ra1 : ra K a x H G F σ e) (ra2 : ra K b y H G F σ e) (h : Wp K mg Φ W σ (ra K) G (use2 op a b e) Q) : r2 K op x y H Q := by
  unfold use2 at h
  split at h
  · rename_i d1 q1
    split at h
    · rename_i d2 q2
      split at h
      · rename_i d q3
        exact ⟨G, d1, d2, d, O.gh, bp_of O ra1 q1, bp_of O ra2 q2, q3, fun v H' G' g hd => h v H' G' F g.gg (O.grow g) hd⟩
      · exact h.elim
    · exact h.elim
  · exact h.elim
theorem useN_ok {op : List D → Option D} {as : List Arg} {xs : List V} {Q : VK} (O : Ok K Φ H G F σ e) (r : rs K as xs H G F σ e) (h : Wp K mg Φ W σ (ra K) G (useN op as e) Q) : rP K op xs H Q := by
  unfold useN at h
  split at h
  · rename_i ds q1
    split at h
    · rename_i d q2
      exact ⟨G, ds, d, O.gh, bps_of O r q1, q2, fun v H' G' g hd => h v H' G' F g.gg (O.grow g) hd⟩
    · exact h.elim
  · exact h.elim
theorem useL_ok {op : List D → Option (List D)} {as : List Arg} {xs : List V} {Q : VK} (O : Ok K Φ H G F σ e) (r : rs K as xs H G F σ e) (h : Wp K mg Φ W σ (rr K Φ) G (useL op as e) Q) : rN K op xs H Q := by
  unfold useL at h
  split at h
  · rename_i ds q1
    split at h
    · rename_i es q2
      refine ⟨G, ds, es, O.gh, bps_of O r q1, q2, fun p vs hp hl hd => ?_⟩
      obtain ⟨z1, z2⟩ := rr_new O hp hd
      exact h _ _ _ F (Same.refl _) z1 z2
    · exact h.elim
  · exact h.elim
theorem eOp2_weak {X : Cx} {op : D → D → Option D} {fa fb : Ef} {H : Hp} {Q : VK} (t : tG X.K X.mg Φ W (ra X.K) (eOp2 op fa fb) σ H Q) : tOp (r2 X.K op) (tG X.K X.mg Φ W (ra X.K) fa) (tG X.K X.mg Φ W (ra X.K) fb) σ H Q := by
  obtain ⟨G, F, e, O, h⟩ := t
  exact ⟨G, F, e, O, Wp.imp (Wp.seq h) fun x H1 ⟨G1, F1, e1, a, g1, O1, r1, h1⟩ => ⟨G1, F1, e1, O1, Wp.imp (Wp.seq h1) fun y H2 ⟨G2, F2, e2, b, g2, O2, r2, h2⟩ => use2_ok O2 (ra_up r1 g2) r2 h2⟩⟩
theorem eOp1_weak {X : Cx} {op : D → Option D} {fa : Ef} {H : Hp} {Q : VK} (t : tG X.K X.mg Φ W (ra X.K) (eOp1 op fa) σ H Q) : tUn (r1 X.K op) (tG X.K X.mg Φ W (ra X.K) fa) σ H Q := by
  obtain ⟨G, F, e, O, h⟩ := t
  exact ⟨G, F, e, O, Wp.imp (Wp.seq h) fun x H1 ⟨G1, F1, e1, a, g1, O1, r1, h1⟩ => use1_ok O1 r1 h1⟩
theorem eCall_weak {X : Cx} {op : List D → Option D} {fa : Af} {H : Hp} {Q : VK} (t : tG X.K X.mg Φ W (ra X.K) (eCall op fa) σ H Q) : tCB (rP X.K op) (tG X.K X.mg Φ W (rs X.K) fa) σ H Q := by
  obtain ⟨G, F, e, O, h⟩ := t
  exact ⟨G, F, e, O, Wp.imp (Wp.seq h) fun x H1 ⟨G1, F1, e1, a, g1, O1, r1, h1⟩ => useN_ok O1 r1 h1⟩
theorem eCallN_weak {X : Cx} {op : List D → Option (List D)} {fa : Af} {H : Hp} {Q : VK} (t : tG X.K X.mg Φ W (rr X.K Φ) (eCallN op fa) σ H Q) : tCB (rN X.K op) (tG X.K X.mg Φ W (rs X.K) fa) σ H Q := by
  obtain ⟨G, F, e, O, h⟩ := t
  exact ⟨G, F, e, O, Wp.imp (Wp.seq h) fun x H1 ⟨G1, F1, e1, a, g1, O1, r1, h1⟩ => useL_ok O1 r1 h1⟩
end
section
variable {X : Cx} {Φ : Fx} {W : WX} {x y : Expr} {xs : List Expr} {pos p : Pos} {fa fb : Ef} {fs : Af} {ft : Tf}
theorem d_op {op : Operator} {f : D → D → Option D} (ho : OpR X (binaryOp op) (r2 X.K f)) (ha : DE X Φ W x fa) (hb : DE X Φ W y fb) : DE X Φ W (.BinOp x op y pos) (eOp2 f fa fb) := pe_weak (pe_op ho ha hb) fun _ _ _ t => eOp2_weak t
theorem d_un {op : UnaryOp} {f : D → Option D} (ho : UnR X (unaryOp op) (r1 X.K f)) (ha : DE X Φ W x fa) : DE X Φ W (.UnaryOp op x pos) (eOp1 f fa) := pe_weak (pe_un ho ha) fun _ _ _ t => eOp1_weak t
theorem d_cmp {op : CmpOp} {f : D → D → Option D} (ho : OpR X (compareOp op) (r2 X.K f)) (ha : DE X Φ W x fa) (hb : DE X Φ W y fb) (hm : behindInMarks op y = false) : DE X Φ W (.Compare x [op] [y] pos) (eOp2 f fa fb) := pe_weak (pe_cmpR ho ha hb hm) fun _ _ _ t => eOp2_weak t
theorem d_ix (ha : DE X Φ W x fa) (hb : DE X Φ W y fb) (hs : PlainIx y) : DE X Φ W (.Subscript x y pos) (eOp2 dIx fa fb) := pe_weak (pe_ix ix_d ha hb hs) fun _ _ _ t => eOp2_weak t
variable {n : Str} {op : List D → Option D} {opN : List D → Option (List D)} {id : String}
theorem d_callB (hc : CallR X (.builtin id) (rP X.K op)) (hm : X.mg n = none) (ha : DA X Φ W (x :: xs) fs) (hv : bootBuiltins n = some (.builtin id) := by decide +kernel) (hg : Gl X n := by rfl) (hn : n ≠ "__name__" := by decide) (hdb : (n == ("__debug__" : Str)) = false := by decide)
    (he : starEach (x :: xs) X.env = (false, eval x X.env) :: starEach xs X.env := by rfl) (hpl : (backTo pos (starEach xs X.env)).any (·.1) = false := by rfl) : DE X Φ W (.Call (.Name n p) (x :: xs) [] pos) (eCall op fs) := pe_weak (pe_callB hc hg hm hv ha hn hdb he hpl) fun _ _ _ t => eCall_weak t
theorem d_callTy (hc : CallR X (.type id) (rP X.K op)) (hm : X.mg n = none) (ha : DA X Φ W (x :: xs) fs) (hv : bootBuiltins n = some (.type id) := by decide +kernel) (hg : Gl X n := by rfl) (hn : n ≠ "__name__" := by decide) (hdb : (n == ("__debug__" : Str)) = false := by decide)
    (he : starEach (x :: xs) X.env = (false, eval x X.env) :: starEach xs X.env := by rfl) (hpl : (backTo pos (starEach xs X.env)).any (·.1) = false := by rfl) : DE X Φ W (.Call (.Name n p) (x :: xs) [] pos) (eCall op fs) := pe_weak (pe_callTy hc hg hm hv ha hn hdb he hpl) fun _ _ _ t => eCall_weak t
theorem d_callF (hc : CallR X (.builtin id) (rP X.K op)) (hm : X.mg n = some (.builtin id)) (ha : DA X Φ W (x :: xs) fs) (hg : Gl X n := by rfl) (hdb : (n == ("__debug__" : Str)) = false := by decide)
    (he : starEach (x :: xs) X.env = (false, eval x X.env) :: starEach xs X.env := by rfl) (hpl : (backTo pos (starEach xs X.env)).any (·.1) = false := by rfl) : DE X Φ W (.Call (.Name n p) (x :: xs) [] pos) (eCall op fs) := pe_weak (pe_callBfun hc hg hm ha hdb he hpl) fun _ _ _ t => eCall_weak t
theorem d_callBN (hc : CallR X (.builtin id) (rN X.K opN)) (hm : X.mg n = none) (ha : DA X Φ W (x :: xs) fs) (hv : bootBuiltins n = some (.builtin id) := by decide +kernel) (hg : Gl X n := by rfl) (hn : n ≠ "__name__" := by decide) (hdb : (n == ("__debug__" : Str)) = false := by decide)
    (he : starEach (x :: xs) X.env = (false, eval x X.env) :: starEach xs X.env := by rfl) (hpl : (backTo pos (starEach xs X.env)).any (·.1) = false := by rfl) : DR X Φ W (.Call (.Name n p) (x :: xs) [] pos) (eCallN opN fs) := pe_weak (pe_callB hc hg hm hv ha hn hdb he hpl) fun _ _ _ t => eCallN_weak t
theorem d_callTyN (hc : CallR X (.type id) (rN X.K opN)) (hm : X.mg n = none) (ha : DA X Φ W (x :: xs) fs) (hv : bootBuiltins n = some (.type id) := by decide +kernel) (hg : Gl X n := by rfl) (hn : n ≠ "__name__" := by decide) (hdb : (n == ("__debug__" : Str)) = false := by decide)
    (he : starEach (x :: xs) X.env = (false, eval x X.env) :: starEach xs X.env := by rfl) (hpl : (backTo pos (starEach xs X.env)).any (·.1) = false := by rfl) : DR X Φ W (.Call (.Name n p) (x :: xs) [] pos) (eCallN opN fs) := pe_weak (pe_callTy hc hg hm hv ha hn hdb he hpl) fun _ _ _ t => eCallN_weak t
end

/-! ### tests -/
def tOf (f : Ef) : Tf := fun e => (f e).bind fun a e1 => match rd1 e1 a with
  | some (.bool b) => .ok b e1
  | _ => .no
def useT (a : Arg) (e : Fr) : R Bool := match rd1 e a with
  | some d => match truth d with
    | some b => .ok b e
    | none => .no
  | none => .no
def tTr (f : Ef) : Tf := fun e => (f e).bind useT
def tAndF (f g : Tf) : Tf := fun e => (f e).bind fun b e1 => match b with
  | true => g e1
  | false => .ok false e1
def tOrF (f g : Tf) : Tf := fun e => (f e).bind fun b e1 => match b with
  | true => .ok true e1
  | false => g e1
def tNotF (f : Tf) : Tf := fun e => (f e).bind fun b e1 => .ok (!b) e1
def eIf (t : Tf) (fa fb : Ef) : Ef := fun e => (t e).bind fun b e1 => match b with
  | true => fa e1
  | false => fb e1
def eIfR (t : Tf) (fa fb : Rf) : Rf := fun e => (t e).bind fun b e1 => match b with
  | true => fa e1
  | false => fb e1
def eAnd (fa fb : Ef) : Ef := fun e => (fa e).bind fun a e1 => (useT a e1).bind fun b e2 => match b with
  | true => fb e2
  | false => .ok a e2
def eOr (fa fb : Ef) : Ef := fun e => (fa e).bind fun a e1 => (useT a e1).bind fun b e2 => match b with
  | true => .ok a e2
  | false => fb e2
def eNot (fa : Ef) : Ef := fun e => (fa e).bind fun a e1 => (useT a e1).bind fun b e2 => .ok (.val (.bool (!b))) e2
abbrev DW (X : Cx) (Φ : Fx) (W : WX) (e : Expr) (f : Tf) : Prop := PW X e (tG X.K X.mg Φ W rb f)
section
variable {X : Cx} {Φ : Fx} {W : WX} {x y : Expr} {rest : List Expr} {pos : Pos} {fa fb : Ef} {ga gb : Rf} {ft fu : Tf}
theorem tOf_weak {f : Ef} {σ : L2.St} {H : Hp} {Q : Bool → Hp → Prop} (t : tG X.K X.mg Φ W rb (tOf f) σ H Q) : tTest (tG X.K X.mg Φ W (ra X.K) f) σ H Q := by
  obtain ⟨G, F, e, O, h⟩ := t
  refine ⟨G, F, e, O, Wp.imp (Wp.seq h) fun v H1 ⟨G1, F1, e1, a, g1, O1, r1, h1⟩ => ?_⟩
  split at h1
  · rename_i b q
    exact ⟨b, (bp_of O1 r1 q).bool, h1 b H1 G1 F1 (Same.refl _) O1 rfl⟩
  · exact h1.elim
theorem useT_ok {K : PySem.W.Frag} {mg : Str → Option Value} {H G : Hp} {F : Nat → List Addr} {σ : L2.St} {e : Fr} {α β : Type} {ρ : Rel α β} {a : Arg} {v : V} {f : Bool → Fr → R α} {Q : β → Hp → Prop} (O : Ok K Φ H G F σ e) (r : ra K a v H G F σ e)
    (h : Wp K mg Φ W σ ρ G ((useT a e).bind f) Q) : ∃ k, TruV K v H k ∧ Wp K mg Φ W σ ρ G (f k e) Q := by
  unfold useT at h
  split at h
  · rename_i d q
    split at h
    · rename_i b q2
      exact ⟨b, truth_v (bp_of O r q) O.gh q2, h⟩
    · exact h.elim
  · exact h.elim
theorem t_cmp {op : CmpOp} {f : D → D → Option D} (ho : OpR X (compareOp op) (r2 X.K f)) (ha : DE X Φ W x fa) (hb : DE X Φ W y fb) (hm : behindInMarks op y = false) : DT X Φ W (.Compare x [op] [y] pos) (tOf (eOp2 f fa fb)) :=
  pt_weak (pt_cmpR ho ha hb hm) fun σ H Q t => eOp2_weak (tOf_weak t)
theorem t_tr (ha : DE X Φ W x fa) (he : ∀ whole, isTrue x X.env whole = (do let v ← whole; standAt x.pos; holding [v] (truthy v)) := by intro _; rfl) : DT X Φ W x (tTr fa) :=
  pt_weak (pt_truth ha he) fun σ H Q ⟨G, F, e, O, h⟩ => ⟨G, F, e, O, Wp.imp (Wp.seq h) fun v H1 ⟨G1, F1, e1, a, g1, O1, r1, h1⟩ => by
    unfold useT at h1
    split at h1
    · rename_i d q
      split at h1
      · rename_i b q2
        exact ⟨b, truth_v (bp_of O1 r1 q) O1.gh q2, h1 b H1 G1 F1 (Same.refl _) O1 rfl⟩
      · exact h1.elim
    · exact h1.elim⟩
theorem w_and1 (ha : DT X Φ W x ft) : DW X Φ W (.BoolOp .And [x] pos) ft := pw_and1 ha
theorem w_or1 (ha : DT X Φ W x ft) : DW X Φ W (.BoolOp .Or [x] pos) ft := pw_or1 ha
theorem w_and (ha : DT X Φ W x ft) (hb : DW X Φ W (.BoolOp .And (y :: rest) pos) fu) : DW X Φ W (.BoolOp .And (x :: y :: rest) pos) (tAndF ft fu) :=
  pw_weak (pw_and ha hb) fun σ H Q ⟨G, F, e, O, h⟩ => ⟨G, F, e, O, Wp.imp (Wp.seq h) fun v H1 ⟨G1, F1, e1, b, g1, O1, r1, h1⟩ => by
    cases (show v = b from r1)
    cases v with
    | true => exact (iteT ⟨G1, F1, e1, O1, h1⟩)
    | false => exact (iteF (h1 false H1 G1 F1 (Same.refl _) O1 rfl))⟩
theorem w_or (ha : DT X Φ W x ft) (hb : DW X Φ W (.BoolOp .Or (y :: rest) pos) fu) : DW X Φ W (.BoolOp .Or (x :: y :: rest) pos) (tOrF ft fu) :=
  pw_weak (pw_or ha hb) fun σ H Q ⟨G, F, e, O, h⟩ => ⟨G, F, e, O, Wp.imp (Wp.seq h) fun v H1 ⟨G1, F1, e1, b, g1, O1, r1, h1⟩ => by
    cases (show v = b from r1)
    cases v with
    | true => exact (iteT (h1 true H1 G1 F1 (Same.refl _) O1 rfl))
    | false => exact (iteF ⟨G1, F1, e1, O1, h1⟩)⟩
theorem t_w (h : DW X Φ W x ft) : DT X Φ W x ft := PW.pt h
theorem t_not (h : DT X Φ W x ft) : DT X Φ W (.UnaryOp .Not x pos) (tNotF ft) :=
  pt_weak (pt_not h) fun σ H Q ⟨G, F, e, O, h⟩ => ⟨G, F, e, O, Wp.imp (Wp.seq h) fun v H1 ⟨G1, F1, e1, b, g1, O1, r1, h1⟩ => by
    cases (show v = b from r1)
    exact h1 (!v) H1 G1 F1 (Same.refl _) O1 rfl⟩
theorem d_if {c : Expr} (ht : DT X Φ W c ft) (ha : DE X Φ W x fa) (hb : DE X Φ W y fb) : DE X Φ W (.IfExp c x y pos) (eIf ft fa fb) :=
  pe_weak (pe_ifExp ht ha hb) fun σ H Q ⟨G, F, e, O, h⟩ => ⟨G, F, e, O, Wp.imp (Wp.seq h) fun v H1 ⟨G1, F1, e1, b, g1, O1, r1, h1⟩ => by
    cases (show v = b from r1)
    cases v with
    | true => exact (iteT ⟨G1, F1, e1, O1, h1⟩)
    | false => exact (iteF ⟨G1, F1, e1, O1, h1⟩)⟩
theorem d_ifR {c : Expr} (ht : DT X Φ W c ft) (ha : DR X Φ W x ga) (hb : DR X Φ W y gb) : DR X Φ W (.IfExp c x y pos) (eIfR ft ga gb) :=
  pe_weak (pe_ifExp ht ha hb) fun σ H Q ⟨G, F, e, O, h⟩ => ⟨G, F, e, O, Wp.imp (Wp.seq h) fun v H1 ⟨G1, F1, e1, b, g1, O1, r1, h1⟩ => by
    cases (show v = b from r1)
    cases v with
    | true => exact (iteT ⟨G1, F1, e1, O1, h1⟩)
    | false => exact (iteF ⟨G1, F1, e1, O1, h1⟩)⟩
theorem d_and (ha : DE X Φ W x fa) (hb : DE X Φ W (.BoolOp .And (y :: rest) pos) fb) : DE X Φ W (.BoolOp .And (x :: y :: rest) pos) (eAnd fa fb) :=
  pe_weak (pe_andT ha hb) fun σ H Q ⟨G, F, e, O, h⟩ => ⟨G, F, e, O, Wp.imp (Wp.seq h) fun v H1 ⟨G1, F1, e1, a, g1, O1, r1, h1⟩ => by
    obtain ⟨k, tv, h2⟩ := useT_ok O1 r1 h1
    refine ⟨k, tv, ?_⟩
    cases k with
    | true => exact (iteT ⟨G1, F1, e1, O1, h2⟩)
    | false => exact (iteF (h2 v H1 G1 F1 (Same.refl _) O1 r1))⟩
theorem d_or (ha : DE X Φ W x fa) (hb : DE X Φ W (.BoolOp .Or (y :: rest) pos) fb) : DE X Φ W (.BoolOp .Or (x :: y :: rest) pos) (eOr fa fb) :=
  pe_weak (pe_orT ha hb) fun σ H Q ⟨G, F, e, O, h⟩ => ⟨G, F, e, O, Wp.imp (Wp.seq h) fun v H1 ⟨G1, F1, e1, a, g1, O1, r1, h1⟩ => by
    obtain ⟨k, tv, h2⟩ := useT_ok O1 r1 h1
    refine ⟨k, tv, ?_⟩
    cases k with
    | true => exact (iteT (h2 v H1 G1 F1 (Same.refl _) O1 r1))
    | false => exact (iteF ⟨G1, F1, e1, O1, h2⟩)⟩
theorem d_bone {op} (h : DE X Φ W x fa) : DE X Φ W (.BoolOp op [x] pos) fa := pe_one h
theorem d_not (ha : DE X Φ W x fa) : DE X Φ W (.UnaryOp .Not x pos) (eNot fa) :=
  pe_weak (pe_notT ha) fun σ H Q ⟨G, F, e, O, h⟩ => ⟨G, F, e, O, Wp.imp (Wp.seq h) fun v H1 ⟨G1, F1, e1, a, g1, O1, r1, h1⟩ => by
    obtain ⟨k, tv, h2⟩ := useT_ok O1 r1 h1
    exact ⟨k, tv, h2 _ H1 G1 F1 (Same.refl _) O1 (.bl _)⟩⟩
end

/-! ### slices -/
abbrev Of := Fr → R (Option Int)
def ro : Rel (Option Int) (Option Int) := fun a b _ _ _ _ _ => b = a
abbrev DO (X : Cx) (Φ : Fx) (W : WX) (e : Option Expr) (f : Of) : Prop := PO X e (tG X.K X.mg Φ W ro f)
def oNone : Of := fun e => .ok none e
def oSome (f : Ef) : Of := fun e => (f e).bind fun a e1 => match rd1 e1 a with
  | some (.int i) => .ok (some i) e1
  | _ => .no
def useC (a : Arg) (lo hi : Option Int) (e : Fr) : R RV := match rd1 e a with
  | some (.list ds) => .ok (.new (.ls (cutD ds lo hi))) e
  | some d => match dCut d lo hi with
    | some r => .ok (.arg (.val r)) e
    | none => .no
  | none => .no
def eCut (fa : Ef) (fl fh : Of) : Rf := fun e => (fa e).bind fun a e1 => (fl e1).bind fun lo e2 => (fh e2).bind fun hi e3 => useC a lo hi e3
section
variable {X : Cx} {Φ : Fx} {W : WX} {x : Expr} {lo hi : Option Expr} {pos p2 : Pos} {fa : Ef} {fl fh : Of}
theorem po_weak {o : Option Expr} {t t' : TO} (h : PO X o t) (w : ∀ σ H Q, t' σ H Q → t σ H Q) : PO X o t' := ⟨fun pins s σ H Q I q => h.run pins s σ H Q I (w σ H Q q)⟩
theorem d_onone : DO X Φ W none oNone := po_weak po_none fun σ H Q ⟨G, F, e, O, h⟩ => h none H G F (Same.refl _) O rfl
theorem d_osome (h : DE X Φ W x fa) : DO X Φ W (some x) (oSome fa) := po_weak (po_some h) fun σ H Q ⟨G, F, e, O, h⟩ => ⟨G, F, e, O, Wp.imp (Wp.seq h) fun v H1 ⟨G1, F1, e1, a, g1, O1, r1, h1⟩ => by
  split at h1
  · rename_i i q
    exact ⟨i, (bp_of O1 r1 q).int, h1 (some i) H1 G1 F1 (Same.refl _) O1 rfl⟩
  · exact h1.elim⟩
theorem sl_or {r r' : V → Option Int → Option Int → Hp → VK → Prop} (h : SlR X r) (h' : SlR X r') : SlR X (fun x lo hi H Q => r x lo hi H Q ∨ r' x lo hi H Q) := by
  intro pins s σ H x v vl vu lo hi sl Q I rx hs pl pu q
  rcases q with q | q
  · exact h pins s σ H x v vl vu lo hi sl Q I rx hs pl pu q
  · exact h' pins s σ H x v vl vu lo hi sl Q I rx hs pl pu q
theorem d_cut (ha : DE X Φ W x fa) (hl : DO X Φ W lo fl) (hh : DO X Φ W hi fh) : DR X Φ W (.Subscript x (.Slice lo hi none p2) pos) (eCut fa fl fh) :=
  pe_weak (pe_slice (sl_or sl_d sl_dN) ha hl hh) fun σ H Q ⟨G, F, e, O, h⟩ => ⟨G, F, e, O, Wp.imp (Wp.seq h) fun v H1 ⟨G1, F1, e1, a, g1, O1, r1, h1⟩ => ⟨G1, F1, e1, O1, Wp.imp (Wp.seq h1) fun l H2 ⟨G2, F2, e2, lo', g2, O2, r2, h2⟩ =>
    ⟨G2, F2, e2, O2, Wp.imp (Wp.seq h2) fun u H3 ⟨G3, F3, e3, hi', g3, O3, r3, h3⟩ => by
      cases (show l = lo' from r2)
      cases (show u = hi' from r3)
      have rv : ra X.K a v H3 G3 F3 σ e3 := ra_up r1 (g2.trans g3)
      unfold useC at h3
      split at h3
      · rename_i ds q
        refine .inr ⟨G3, ds, O3.gh, bp_of O3 rv q, fun p vs hp hd => ?_⟩
        obtain ⟨z1, z2⟩ := rr_new O3 hp hd
        exact h3 _ _ _ F3 (Same.refl _) z1 z2
      · rename_i d _ q
        split at h3
        · rename_i r q2
          exact .inl ⟨G3, d, r, O3.gh, bp_of O3 rv q, q2, fun v H' G' g hd => h3 v H' G' F3 g.gg (O3.grow g) hd⟩
        · exact h3.elim
      · exact h3.elim⟩⟩⟩
end
end DL
set_option Elab.async false
set_option linter.all false
set_option maxRecDepth 100000
set_option maxHeartbeats 4000000
/-! DlE: what is walked, targets, statements. -/
namespace DL
open PySem L2

/-! ### what a for walks -/
/-- one thing given: a frozen value, or a new tuple of such -/
def YD (K : PySem.W.Frag) (G : Hp) (ds : List D) : Nat → Hp → V → Hp → Prop := fun i H x H' => ∃ d, ds[i]? = some d ∧ ((H' = H ∧ Dp K G x d) ∨ ∃ p vs es, x = .ref p ∧ H p = none ∧ H' = upd H p (.tup vs) ∧ d = .tuple es ∧ DpAll K G vs es)
def rf (K : PySem.W.Frag) : Rel (List D) It := fun ds J _ G _ _ _ => Walk J ds.length (Same G) (YD K G ds)
abbrev Lf := Fr → R (List D)
abbrev DI (X : Cx) (Φ : Fx) (W : WX) (tg e : Expr) (f : Lf) : Prop := PI X tg e (tG X.K X.mg Φ W (rf X.K) f)
theorem pi_weak {X : Cx} {tg e : Expr} {t t' : TI} (h : PI X tg e t) (w : ∀ σ H Q, t' σ H Q → t σ H Q) : PI X tg e t' := ⟨fun pins s σ H R I q => h.run pins s σ H R I (w σ H R q)⟩
section
variable {K : PySem.W.Frag} {G : Hp} {xs ys : List V} {ds es : List D} {a b : Addr}
theorem walk_l (h : SqL K G a xs) (p : DpAll K G xs ds) : Walk (Itl K a) ds.length (Same G) (YD K G ds) := by
  have w := walk_list (K := K) (a := a) (xs := xs)
  rw [DpAll.len p] at w
  exact w.mono (fun H s => same_l s h) fun i H x H' hi _ ⟨e1, e2⟩ => by
    obtain ⟨d, q, hd⟩ := DpAll.at' p e2
    exact ⟨d, q, .inl ⟨e1, hd⟩⟩
theorem walk_t (h : SqT K G a xs) (p : DpAll K G xs ds) : Walk (Itt K a) ds.length (Same G) (YD K G ds) := by
  have w := walk_tup (K := K) (a := a) (xs := xs)
  rw [DpAll.len p] at w
  exact w.mono (fun H s => same_t s h) fun i H x H' hi _ ⟨e1, e2⟩ => by
    obtain ⟨d, q, hd⟩ := DpAll.at' p e2
    exact ⟨d, q, .inl ⟨e1, hd⟩⟩
theorem walk_s {z : Str} : Walk (Its z) (z.cps.toList.map fun c => (PyData.str ⟨#[c]⟩ : D)).length (Same G) (YD K G (z.cps.toList.map fun c => PyData.str ⟨#[c]⟩)) := by
  have w := walk_str (z := z)
  have e : (z.cps.toList.map fun c => (PyData.str ⟨#[c]⟩ : D)).length = z.cps.size := by simp
  rw [e]
  refine w.mono (fun _ _ => trivial) fun i H x H' hi _ ⟨e1, c, e2, e3⟩ => ⟨.str ⟨#[c]⟩, ?_, .inl ⟨e1, by rw [e3]; exact .str _⟩⟩
  rw [List.getElem?_map]
  have : z.cps.toList[i]? = some c := by rw [Array.getElem?_toList]; exact e2
  rw [this]
  rfl
theorem walk_r {lo : Int} {n : Nat} : Walk (Itr lo n) ((List.range n).map fun (i : Nat) => (PyData.int (lo + (i : Int)) : D)).length (Same G) (YD K G ((List.range n).map fun (i : Nat) => PyData.int (lo + (i : Int)))) := by
  have w := walk_range (lo := lo) (n := n)
  have e : ((List.range n).map fun (i : Nat) => (PyData.int (lo + (i : Int)) : D)).length = n := by simp
  rw [e]
  refine w.mono (fun _ _ => trivial) fun i H x H' hi _ ⟨e1, e2⟩ => ⟨.int (lo + (i : Int)), ?_, .inl ⟨e1, by rw [e2]; exact .int _⟩⟩
  rw [List.getElem?_map, List.getElem?_range hi]
  rfl
theorem walk_rc {lo c : Int} {n : Nat} : Walk (Itc lo c n) ((List.range n).map fun (i : Nat) => (PyData.int (lo + (i : Int) * c) : D)).length (Same G) (YD K G ((List.range n).map fun (i : Nat) => PyData.int (lo + (i : Int) * c))) := by
  have w := walk_rangeC (lo := lo) (c := c) (n := n)
  have e : ((List.range n).map fun (i : Nat) => (PyData.int (lo + (i : Int) * c) : D)).length = n := by simp
  rw [e]
  refine w.mono (fun _ _ => trivial) fun i H x H' hi _ ⟨e1, e2⟩ => ⟨.int (lo + (i : Int) * c), ?_, .inl ⟨e1, by rw [e2]; exact .int _⟩⟩
  rw [List.getElem?_map, List.getElem?_range hi]
  rfl
def zipD (xs ys : List D) : List D := (xs.zip ys).map fun p => .tuple [p.1, p.2]
theorem zipD_at {i : Nat} {x y : D} (h1 : xs'[i]? = some x) (h2 : ys'[i]? = some y) : (zipD xs' ys')[i]? = some (.tuple [x, y]) := by
  unfold zipD
  have h : (xs'.zip ys')[i]? = some (x, y) := List.getElem?_zip_eq_some.mpr ⟨h1, h2⟩
  rw [List.getElem?_map, h]
  rfl
theorem zipD_len (xs ys : List D) : (zipD xs ys).length = min xs.length ys.length := by simp [zipD]
theorem yd_pair {i : Nat} {H : Hp} {v : V} {H' : Hp} (p : DpAll K G xs ds) (q : DpAll K G ys es) (y : YPair (fun i => xs[i]?) (fun i => ys[i]?) i H v H') : YD K G (zipD ds es) i H v H' := by
  obtain ⟨T, x, z, h1, h2, h3, h4, h5⟩ := y
  obtain ⟨d1, e1, hd1⟩ := DpAll.at' p h4
  obtain ⟨d2, e2, hd2⟩ := DpAll.at' q h5
  exact ⟨.tuple [d1, d2], zipD_at e1 e2, .inr ⟨T, [x, z], [d1, d2], h1, h2, h3, rfl, .cons hd1 (.cons hd2 .nil)⟩⟩
theorem walk_zl (h : SqL K G a xs) (h' : SqL K G b ys) (p : DpAll K G xs ds) (q : DpAll K G ys es) : Walk (Itz K a b) (zipD ds es).length (Same G) (YD K G (zipD ds es)) := by
  have w := walk_zip (K := K) (a := a) (b := b) (xs := xs) (ys := ys) (n := (zipD ds es).length) (by rw [zipD_len, DpAll.len p, DpAll.len q])
  exact w.mono (fun H s => ⟨same_l s h, same_l s h'⟩) fun i H x H' hi _ y => yd_pair p q y
theorem walk_zipT {n : Nat} (hn : n = min xs.length ys.length) : Walk (RZ.ItzT K a b) n (fun H => SqT K H a xs ∧ SqT K H b ys) (YPair (fun i => xs[i]?) (fun i => ys[i]?)) := by
  subst hn
  refine ⟨fun i _ hi q => ?_, fun _ q => ⟨xs, ys, q.1, q.2, by omega⟩, fun i H v H' _ q y => ?_⟩
  · have h1 : i < xs.length := by omega
    have h2 : i < ys.length := by omega
    exact ⟨xs, ys, xs[i], ys[i], q.1, q.2, by simp [h1], by simp [h2]⟩
  · obtain ⟨T, x, z, h1, h2, h3, h4, h5⟩ := y
    exact ⟨T, x, z, h1, h2, h3, h4 xs q.1, h5 ys q.2⟩
theorem walk_zt (h : SqT K G a xs) (h' : SqT K G b ys) (p : DpAll K G xs ds) (q : DpAll K G ys es) : Walk (RZ.ItzT K a b) (zipD ds es).length (Same G) (YD K G (zipD ds es)) := by
  have w := walk_zipT (K := K) (a := a) (b := b) (xs := xs) (ys := ys) (n := (zipD ds es).length) (by rw [zipD_len, DpAll.len p, DpAll.len q])
  exact w.mono (fun H s => ⟨same_t s h, same_t s h'⟩) fun i H x H' hi _ y => yd_pair p q y
def enumFrom : Nat → List D → List D
  | _, [] => []
  | n, d :: ds => .tuple [.int (n : Int), d] :: enumFrom (n + 1) ds
theorem enumFrom_len : ∀ (n : Nat) (ds : List D), (enumFrom n ds).length = ds.length
  | _, [] => rfl
  | n, d :: ds => by show (enumFrom (n + 1) ds).length + 1 = ds.length + 1; rw [enumFrom_len]
theorem enumFrom_at : ∀ (n : Nat) (ds : List D) (i : Nat) (d : D), ds[i]? = some d → (enumFrom n ds)[i]? = some (.tuple [.int ((n + i : Nat) : Int), d])
  | _, [], _, _, h => by simp at h
  | n, d :: ds, 0, _, h => by
    simp at h
    subst h
    rfl
  | n, d :: ds, i + 1, x, h => by
    have h' : ds[i]? = some x := by simpa using h
    show (enumFrom (n + 1) ds)[i]? = _
    rw [enumFrom_at (n + 1) ds i x h']
    have : n + 1 + i = n + (i + 1) := by omega
    rw [this]
theorem walk_en (h : SqL K G a xs) (p : DpAll K G xs ds) : Walk (Ite K a) (enumFrom 0 ds).length (Same G) (YD K G (enumFrom 0 ds)) := by
  have w := walk_enum (K := K) (a := a) (xs := xs)
  rw [DpAll.len p] at w
  rw [enumFrom_len]
  refine w.mono (fun H s => same_l s h) fun i H x H' hi _ y => ?_
  obtain ⟨T, n, z, h1, h2, h3, h4, h5⟩ := y
  obtain ⟨d, e1, hd⟩ := DpAll.at' p h5
  have e4 : V.int (i : Nat) = n := Option.some.inj h4
  subst e4
  exact ⟨.tuple [.int ((0 + i : Nat) : Int), d], enumFrom_at 0 ds i d e1, .inr ⟨T, _, _, h1, h2, h3, rfl, by rw [Nat.zero_add]; exact .cons (.int _) (.cons hd .nil)⟩⟩
end

def seqOf : D → Option (List D)
  | .list ds => some ds
  | .tuple ds => some ds
  | .str z => some (z.cps.toList.map fun c => .str ⟨#[c]⟩)
  | _ => none
def iSeq (fa : Ef) : Lf := fun e => (fa e).bind fun a e1 => (fz a e1).bind fun d e2 => R.of (seqOf d) e2
def small62 (n : Int) : Bool := decide (-(2 ^ 62) ≤ n ∧ n < 2 ^ 62)
def iRng1F (fs : Af) : Lf := fun e => (fs e).bind fun as e1 => match rdA e1 as with
  | some [.int n] => if small62 n = true then .ok ((List.range n.toNat).map fun (i : Nat) => .int (0 + (i : Int))) e1 else .no
  | _ => .no
def iRng2F (fs : Af) : Lf := fun e => (fs e).bind fun as e1 => match rdA e1 as with
  | some [.int m, .int n] => if small62 m = true ∧ small62 n = true then .ok ((List.range (n - m).toNat).map fun (i : Nat) => .int (m + (i : Int))) e1 else .no
  | _ => .no
def iDownF (fs : Af) : Lf := fun e => (fs e).bind fun as e1 => match rdA e1 as with
  | some [.int m, .int n, .int c] => if c = -1 ∧ small62 m = true ∧ small62 n = true then .ok ((List.range (m - n).toNat).map fun (i : Nat) => .int (m + (i : Int) * (-1))) e1 else .no
  | _ => .no
def iZipF (fs : Af) : Lf := fun e => (fs e).bind fun as e1 => (fzA as e1).bind fun ds e2 => match ds with
  | [.list xs, .list ys] => .ok (zipD xs ys) e2
  | [.tuple xs, .tuple ys] => .ok (zipD xs ys) e2
  | _ => .no
def iEnumF (fs : Af) : Lf := fun e => (fs e).bind fun as e1 => (fzA as e1).bind fun ds e2 => match ds with
  | [.list xs] => .ok (enumFrom 0 xs) e2
  | _ => .no
theorem small62_iff {n : Int} (h : small62 n = true) : -(2 ^ 62) ≤ n ∧ n < 2 ^ 62 := of_decide_eq_true h
section
variable {X : Cx} {Φ : Fx} {W : WX} {tg x y : Expr} {fa : Ef} {fs : Af} {pos p : Pos}
theorem i_seq (ha : DE X Φ W x fa) : DI X Φ W tg x (iSeq fa) := ⟨fun pins s σ H R I ⟨G, F, e, O, h⟩ => by
  cases q1 : fa e with
  | no =>
    unfold iSeq at h
    rw [q1] at h
    exact h.elim
  | ex z e1 =>
    unfold iSeq at h
    rw [q1] at h
    exact (pi_list ha).run pins s σ H R I ⟨G, F, e, O, by rw [q1]; exact h⟩
  | ok a e1 =>
    unfold iSeq at h
    rw [q1, DL.R.bind_ok] at h
    cases q2 : fz a e1 with
    | no =>
      rw [q2] at h
      exact h.elim
    | ex z e2 => exact (fz_no q2).elim
    | ok d e2 =>
      rw [q2, DL.R.bind_ok] at h
      cases d with
      | list ds =>
        refine (pi_list ha).run pins s σ H R I ⟨G, F, e, O, ?_⟩
        rw [q1]
        intro v H1 G1 F1 s1 O1 r1
        obtain ⟨G2, s2, O2, hd⟩ := fz_ok O1 r1 q2
        cases hd with
        | lst h1 h2 => exact ⟨_, rfl, ⟨_, same_l O2.gh h1⟩, h _ H1 G2 F1 (s1.trans s2) O2 (walk_l h1 h2)⟩
      | tuple ds =>
        refine (pi_tup ha).run pins s σ H R I ⟨G, F, e, O, ?_⟩
        rw [q1]
        intro v H1 G1 F1 s1 O1 r1
        obtain ⟨G2, s2, O2, hd⟩ := fz_ok O1 r1 q2
        cases hd with
        | tup h1 h2 => exact ⟨_, rfl, ⟨_, same_t O2.gh h1⟩, h _ H1 G2 F1 (s1.trans s2) O2 (walk_t h1 h2)⟩
      | str z =>
        refine (pi_str ha).run pins s σ H R I ⟨G, F, e, O, ?_⟩
        rw [q1]
        intro v H1 G1 F1 s1 O1 r1
        obtain ⟨G2, s2, O2, hd⟩ := fz_ok O1 r1 q2
        cases hd
        exact ⟨z, rfl, h _ H1 G2 F1 (s1.trans s2) O2 walk_s⟩
      | none => exact h.elim
      | bool _ => exact h.elim
      | int _ => exact h.elim
      | dict _ => exact h.elim⟩
theorem bpa1 {K : PySem.W.Frag} {H G : Hp} {vs : List V} {d : D} (b : BpAll K H G vs [d]) : ∃ v, vs = [v] ∧ Bp K H G v d := by
  cases b with
  | cons h t =>
    cases t
    exact ⟨_, rfl, h⟩
theorem bpa2 {K : PySem.W.Frag} {H G : Hp} {vs : List V} {d d' : D} (b : BpAll K H G vs [d, d']) : ∃ v v', vs = [v, v'] ∧ Bp K H G v d ∧ Bp K H G v' d' := by
  cases b with
  | cons h t =>
    obtain ⟨v, e, h'⟩ := bpa1 t
    exact ⟨_, _, by rw [e], h, h'⟩
theorem bpa3 {K : PySem.W.Frag} {H G : Hp} {vs : List V} {d d' d'' : D} (b : BpAll K H G vs [d, d', d'']) : ∃ v v' v'', vs = [v, v', v''] ∧ Bp K H G v d ∧ Bp K H G v' d' ∧ Bp K H G v'' d'' := by
  cases b with
  | cons h t =>
    obtain ⟨v, v', e, h', h''⟩ := bpa2 t
    exact ⟨_, _, _, by rw [e], h, h', h''⟩
theorem i_rng1 (hm : X.mg "range" = none) (ha : DA X Φ W [x] fs) (hg : Gl X "range" := by rfl) (hs : starEach [x] X.env = [(false, eval x X.env)] := by rfl) : DI X Φ W tg (.Call (.Name "range" p) [x] [] pos) (iRng1F fs) :=
  pi_weak (pi_range1 hg hm ha hs) fun σ H R ⟨G, F, e, O, h⟩ => ⟨G, F, e, O, Wp.imp (Wp.seq h) fun vs H1 ⟨G1, F1, e1, as, g1, O1, r1, h1⟩ => by
    split at h1
    · rename_i n q
      split at h1
      · rename_i hn
        obtain ⟨v, rfl, b⟩ := bpa1 (bps_of O1 r1 q)
        obtain rfl := b.int
        exact ⟨n, rfl, (small62_iff hn).1, (small62_iff hn).2, h1 _ H1 G1 F1 (Same.refl _) O1 walk_r⟩
      · exact h1.elim
    · exact h1.elim⟩
theorem i_rng2 (hm : X.mg "range" = none) (ha : DA X Φ W [x, y] fs) (hg : Gl X "range" := by rfl) (hs : starEach [x, y] X.env = [(false, eval x X.env), (false, eval y X.env)] := by rfl) (hs2 : starEach [y] X.env = [(false, eval y X.env)] := by rfl) : DI X Φ W tg (.Call (.Name "range" p) [x, y] [] pos) (iRng2F fs) :=
  pi_weak (pi_range2 hg hm ha hs hs2) fun σ H R ⟨G, F, e, O, h⟩ => ⟨G, F, e, O, Wp.imp (Wp.seq h) fun vs H1 ⟨G1, F1, e1, as, g1, O1, r1, h1⟩ => by
    split at h1
    · rename_i m n q
      split at h1
      · rename_i hn
        obtain ⟨v, v', rfl, b, b'⟩ := bpa2 (bps_of O1 r1 q)
        obtain rfl := b.int
        obtain rfl := b'.int
        exact ⟨m, n, rfl, ⟨(small62_iff hn.1).1, (small62_iff hn.1).2, (small62_iff hn.2).1, (small62_iff hn.2).2⟩, h1 _ H1 G1 F1 (Same.refl _) O1 walk_r⟩
      · exact h1.elim
    · exact h1.elim⟩
theorem i_zip {elts : List Expr} {kk : Nat} {tpos : Pos} (hm : X.mg "zip" = none) (ha : DA X Φ W [x, y] fs) (hg : Gl X "zip" := by rfl) (hs : starEach [x, y] X.env = (false, eval x X.env) :: starEach [y] X.env := by rfl) (hpl : (backTo pos (starEach [y] X.env)).any (·.1) = false := by rfl) :
    DI X Φ W (.Tuple elts kk tpos) (.Call (.Name "zip" p) [x, y] [] pos) (iZipF fs) :=
  pi_weak (RZ.pi_zipA hg hm ha hs hpl) fun σ H R ⟨G, F, e, O, h⟩ => ⟨G, F, e, O, Wp.imp (Wp.seq h) fun vs H1 ⟨G1, F1, e1, as, g1, O1, r1, h1⟩ => by
    obtain ⟨G2, e2, ds, g2, O2, d2, h2⟩ := Wp.fzA O1 r1 h1
    split at h2
    · rename_i xs ys
      cases d2 with
      | cons a t =>
        cases t with
        | cons b t =>
          cases t
          cases a with
          | lst l1 p1 =>
            cases b with
            | lst l2 p2 => exact ⟨_, _, _, _, rfl, .inl ⟨same_l O2.gh l1, same_l O2.gh l2, h2 _ H1 G2 F1 (Same.refl _) O2 (walk_zl l1 l2 p1 p2)⟩⟩
    · rename_i xs ys
      cases d2 with
      | cons a t =>
        cases t with
        | cons b t =>
          cases t
          cases a with
          | tup l1 p1 =>
            cases b with
            | tup l2 p2 => exact ⟨_, _, _, _, rfl, .inr ⟨same_t O2.gh l1, same_t O2.gh l2, h2 _ H1 G2 F1 (Same.refl _) O2 (walk_zt l1 l2 p1 p2)⟩⟩
    · exact h2.elim⟩
end

/-! ### targets -/
abbrev Gf := D → Fr → R Unit
/-- a target's reading: js are the slots that it may store at -/
def tGt (K : PySem.W.Frag) (Φ : Fx) (js : List Nat) (f : Gf) : TG := fun v σ H Q => ∃ G F e d, Ok K Φ H G F σ e ∧ Dp K G v d ∧ match f d e with
  | .ok _ e' => ∀ σ' H' G' F', Same G G' → Ok K Φ H' G' F' σ' e' → (σ'.length = σ.length ∧ ∀ j, j ∉ js → σ'[j]? = σ[j]?) → Q σ' H'
  | _ => False
abbrev DG (X : Cx) (Φ : Fx) (js : List Nat) (tg : Expr) (f : Gf) : Prop := PG X tg (tGt X.K Φ js f)
theorem pg_weak {X : Cx} {tg : Expr} {t t' : TG} (h : PG X tg t) (w : ∀ v σ H Q, t' v σ H Q → t v σ H Q) : PG X tg t' := ⟨fun pins s σ H v u Q I r q => h.run pins s σ H v u Q I r (w v σ H Q q)⟩
def gSet (i : Nat) : Gf := fun d e => match e[i]? with
  | some (.io _) => .no
  | none => .no
  | _ => .ok () (e.set i (.sh d))
/-- a row of targets, on a row of values -/
abbrev Gfs := List D → Fr → R Unit
def gsNil : Gfs := fun ds e => match ds with
  | [] => .ok () e
  | _ => .no
def gsCons (g : Gf) (r : Gfs) : Gfs := fun ds e => match ds with
  | d :: ds => (g d e).bind fun _ e1 => r ds e1
  | [] => .no
def gTupF (r : Gfs) : Gf := fun d e => match d with
  | .tuple ds => r ds e
  | _ => .no
def tGts (K : PySem.W.Frag) (Φ : Fx) (js : List Nat) (f : Gfs) : TGs := fun vs σ H Q => ∃ G F e ds, Ok K Φ H G F σ e ∧ DpAll K G vs ds ∧ match f ds e with
  | .ok _ e' => ∀ σ' H' G' F', Same G G' → Ok K Φ H' G' F' σ' e' → (σ'.length = σ.length ∧ ∀ j, j ∉ js → σ'[j]? = σ[j]?) → Q σ' H'
  | _ => False
abbrev DGs (X : Cx) (Φ : Fx) (js : List Nat) (tgs : List Expr) (f : Gfs) : Prop := PGs X tgs (tGts X.K Φ js f)
theorem pgs_weak {X : Cx} {tgs : List Expr} {t t' : TGs} (h : PGs X tgs t) (w : ∀ v σ H Q, t' v σ H Q → t v σ H Q) : PGs X tgs t' := ⟨fun pins s σ H v u Q I r q => h.run pins s σ H v u Q I r (w v σ H Q q)⟩
section
variable {X : Cx} {Φ : Fx} {tg : Expr} {tgs : List Expr} {pos : Pos} {js ks : List Nat} {g : Gf} {r : Gfs}
theorem g_name (i : Nat) {x : Str} (hN : X.N.Nodup) (hi : X.N[i]? = some x := by rfl) (hx : Loc X.env.scope x := by first | exact Or.inl rfl | exact Or.inr rfl) (hf : X.fn x = true ∨ X.env.scope.names.lookup x = some .local := by first | exact .inl rfl | exact .inr rfl) : DG X Φ [i] (.Name x pos) (gSet i) :=
  pg_weak (pg_name hN hi hx hf) fun v σ H Q ⟨G, F, e, d, O, hd, h⟩ => by
    have fin : (∀ σ' H' G' F', Same G G' → Ok X.K Φ H' G' F' σ' (e.set i (.sh d)) → (σ'.length = σ.length ∧ ∀ j, j ∉ [i] → σ'[j]? = σ[j]?) → Q σ' H') → Q (σ.set i (some v)) H := fun z =>
      z _ H G F (Same.refl _) (O.set hd i) ⟨List.length_set, fun j hj => List.getElem?_set_ne (fun q => hj (by rw [q]; exact List.mem_singleton.mpr rfl))⟩
    unfold gSet at h
    split at h
    · rename_i q
      split at q
      · cases q
      · cases q
      · cases q
        exact fin h
    · exact h.elim
theorem g_snil : DGs X Φ [] [] gsNil := pgs_weak pgs_nil fun vs σ H Q ⟨G, F, e, ds, O, hd, h⟩ => by
  cases hd with
  | nil => exact ⟨rfl, h σ H G F (Same.refl _) O ⟨rfl, fun _ _ => rfl⟩⟩
  | cons _ _ => exact h.elim
theorem g_scons (h1 : DG X Φ js tg g) (h2 : DGs X Φ ks tgs r) (hs : (assignEach (tg :: tgs) X.env).map (·.2) = assign tg X.env :: (assignEach tgs X.env).map (·.2) := by rfl) : DGs X Φ (js ++ ks) (tg :: tgs) (gsCons g r) :=
  pgs_weak (pgs_cons h1 h2 hs) fun vs σ H Q ⟨G, F, e, ds, O, hd, h⟩ => by
    cases hd with
    | nil => exact h.elim
    | @cons v vs d ds a t =>
      have h' : (match (g d e).bind fun _ e1 => r ds e1 with
        | .ok _ e' => ∀ σ' H' G' F', Same G G' → Ok X.K Φ H' G' F' σ' e' → (σ'.length = σ.length ∧ ∀ j, j ∉ js ++ ks → σ'[j]? = σ[j]?) → Q σ' H'
        | _ => False) := h
      refine ⟨v, vs, rfl, G, F, e, d, O, a, ?_⟩
      cases q : g d e with
      | no =>
        rw [q] at h'
        exact h'
      | ex x e1 =>
        rw [q] at h'
        exact h'
      | ok u e1 =>
        rw [q, R.bind_ok] at h'
        intro σ1 H1 G1 F1 s1 O1 ⟨l1, k1⟩
        refine ⟨G1, F1, e1, ds, O1, dpa_mono s1 _ _ t, ?_⟩
        cases q2 : r ds e1 with
        | no =>
          rw [q2] at h'
          exact h'
        | ex x e2 =>
          rw [q2] at h'
          exact h'
        | ok u2 e2 =>
          rw [q2] at h'
          exact fun σ2 H2 G2 F2 s2 O2 ⟨l2, k2⟩ => h' σ2 H2 G2 F2 (s1.trans s2) O2 ⟨l2.trans l1, fun j hj => (k2 j fun z => hj (List.mem_append_right _ z)).trans (k1 j fun z => hj (List.mem_append_left _ z))⟩
theorem g_tup {k : Nat} {n : Nat} (hc : X.calm = true) (h : DGs X Φ js tgs r) (hl : ∀ ds e u e', r ds e = .ok u e' → ds.length = n) (hn : (assignEach tgs X.env).length = n := by rfl) (hst : (assignEach tgs X.env).findIdx? (·.1) = none := by rfl) : DG X Φ js (.Tuple tgs k pos) (gTupF r) :=
  pg_weak (pg_tup hc h hn hst) fun v σ H Q ⟨G, F, e, d, O, hd, h⟩ => by
    cases hd with
    | @tup a xs ds t1 t2 =>
      refine ⟨a, xs, rfl, same_t O.gh t1, ?_, G, F, e, ds, O, t2, h⟩
      rw [DpAll.len t2]
      have h' : (match r ds e with
        | .ok _ e' => ∀ σ' H' G' F', Same G G' → Ok X.K Φ H' G' F' σ' e' → (σ'.length = σ.length ∧ ∀ j, j ∉ js → σ'[j]? = σ[j]?) → Q σ' H'
        | _ => False) := h
      cases q : r ds e with
      | no =>
        rw [q] at h'
        exact h'.elim
      | ex x e1 =>
        rw [q] at h'
        exact h'.elim
      | ok u e1 => exact hl ds e u e1 q
    | _ => exact h.elim
theorem gs_len0 : ∀ ds e u e', gsNil ds e = .ok u e' → ds.length = 0 := fun ds e u e' q => by
  cases ds with
  | nil => rfl
  | cons _ _ => cases q
theorem gs_len {n : Nat} (h : ∀ ds e u e', r ds e = .ok u e' → ds.length = n) : ∀ ds e u e', gsCons g r ds e = .ok u e' → ds.length = n + 1 := fun ds e u e' q => by
  cases ds with
  | nil => cases q
  | cons d ds =>
    have q' : ((g d e).bind fun _ e1 => r ds e1) = .ok u e' := q
    cases q1 : g d e with
    | no =>
      rw [q1] at q'
      cases q'
    | ex x e1 =>
      rw [q1] at q'
      cases q'
    | ok v e1 =>
      rw [q1, R.bind_ok] at q'
      show ds.length + 1 = n + 1
      rw [h ds e1 u e' q']
end

/-! ### writing at a slot's list -/
def wrL (a : Arg) (g : List D → Option (List D)) (e : Fr) : R Unit := match a with
  | .slot i => match e[i]? with
    | some (.own (.ls ds)) => match g ds with
      | some es => .ok () (e.set i (.own (.ls es)))
      | none => .no
    | some (.io (.ls ds)) => match g ds with
      | some es => .ok () (e.set i (.io (.ls es)))
      | none => .no
    | _ => .no
  | _ => .no
section
variable {K : PySem.W.Frag} {mg : Str → Option Value} {Φ : Fx} {W : WX} {H G : Hp} {F : Nat → List Addr} {σ : L2.St} {e e' : Fr}
theorem wrL_ok (O : Ok K Φ H G F σ e) {a : Arg} {v : V} (r : ra K a v H G F σ e) {g : List D → Option (List D)} {u : Unit} (q : wrL a g e = .ok u e') :
    ∃ l vs ds es, v = .ref l ∧ H l = some (.lst vs) ∧ DpAll K G vs ds ∧ g ds = some es ∧ ∀ ws, DpAll K G ws es → ∃ F', Ok K Φ (upd H l (.lst ws)) G F' σ e' := by
  cases a with
  | val d => cases q
  | slot i =>
    have r' : σ[i]? = some (some v) := r
    have q' : (match e[i]? with
      | some (.own (.ls ds)) => match g ds with
        | some es => R.ok () (e.set i (.own (.ls es)))
        | none => .no
      | some (.io (.ls ds)) => match g ds with
        | some es => R.ok () (e.set i (.io (.ls es)))
        | none => .no
      | _ => R.no) = R.ok u e' := q
    split at q'
    · rename_i ds hi
      split at q'
      · rename_i es hg
        cases q'
        obtain ⟨l, e1, o1, n1⟩ := O.slots i _ hi
        rw [r'] at e1
        cases e1
        obtain ⟨vs, h1, h2, hA⟩ := owls o1
        refine ⟨l, vs, ds, es, rfl, h1, h2, hg, fun ws hw => ⟨_, O.write (w' := .ls es) (A' := [l]) hi rfl r' (.ls upd_same hw) (fun b hb => by rw [hA] at hb; exact hb) (fun b hb => .inl (by rw [hA]; exact hb)) fun b hb => upd_ne fun z => hb (List.mem_singleton.mpr z)⟩⟩
      · cases q'
    · rename_i ds hi
      split at q'
      · rename_i es hg
        cases q'
        obtain ⟨l, e1, o1, n1⟩ := O.slots i _ hi
        rw [r'] at e1
        cases e1
        obtain ⟨vs, h1, h2, hA⟩ := owls o1
        refine ⟨l, vs, ds, es, rfl, h1, h2, hg, fun ws hw => ⟨_, O.write (w' := .ls es) (A' := [l]) hi rfl r' (.ls upd_same hw) (fun b hb => by rw [hA] at hb; exact hb) (fun b hb => .inl (by rw [hA]; exact hb)) fun b hb => upd_ne fun z => hb (List.mem_singleton.mpr z)⟩⟩
      · cases q'
    · cases q'
theorem wrL_no {a : Arg} {g : List D → Option (List D)} {x : Exn} (q : wrL a g e = .ex x e') : False := by
  cases a with
  | val d => cases q
  | slot i =>
    have q' : (match e[i]? with
      | some (.own (.ls ds)) => match g ds with
        | some es => R.ok () (e.set i (.own (.ls es)))
        | none => .no
      | some (.io (.ls ds)) => match g ds with
        | some es => R.ok () (e.set i (.io (.ls es)))
        | none => .no
      | _ => R.no) = R.ex x e' := q
    split at q'
    · split at q' <;> cases q'
    · split at q' <;> cases q'
    · cases q'
end
/-- o[i] = v -/
def gSubF (fa fb : Ef) : Gf := fun d e => (fa e).bind fun a e1 => (fb e1).bind fun b e2 => match rd1 e2 b with
  | some (.int k) => wrL a (fun ds => (ixN ds.length k).map fun n => ds.set n d) e2
  | _ => .no
section
variable {X : Cx} {Φ : Fx} {x y : Expr} {pos : Pos} {fa fb : Ef}
theorem g_sub (ha : DE X Φ (fun _ _ _ _ => False) x fa) (hb : DE X Φ (fun _ _ _ _ => False) y fb)
    (hs : ∀ v, assign (.Subscript x y pos) X.env v = (do
      let ov ← holding [v] (eval x X.env)
      let iv ← holding [v, ov] (eval y X.env)
      standAt pos
      holding [v, ov, iv] (setItem ov iv v)
      release [v, ov, iv] []) := by intro _; rfl) : DG X Φ [] (.Subscript x y pos) (gSubF fa fb) :=
  pg_weak (pg_sub ha hb set_list hs) fun v σ H Q ⟨G, F, e, d, O, hd, h⟩ => by
    have h' : (match (fa e).bind fun a e1 => (fb e1).bind fun b e2 => match rd1 e2 b with
        | some (.int k) => wrL a (fun ds => (ixN ds.length k).map fun n => ds.set n d) e2
        | _ => .no with
      | .ok _ e' => ∀ σ' H' G' F', Same G G' → Ok X.K Φ H' G' F' σ' e' → (σ'.length = σ.length ∧ ∀ j, j ∉ [] → σ'[j]? = σ[j]?) → Q σ' H'
      | _ => False) := h
    refine ⟨G, F, e, O, ?_⟩
    cases q1 : fa e with
    | no =>
      rw [q1] at h'
      exact h'
    | ex z e1 =>
      rw [q1] at h'
      exact h'.elim
    | ok a e1 =>
      rw [q1, R.bind_ok] at h'
      intro o H1 G1 F1 s1 O1 r1
      refine ⟨G1, F1, e1, O1, ?_⟩
      cases q2 : fb e1 with
      | no =>
        rw [q2] at h'
        exact h'
      | ex z e2 =>
        rw [q2] at h'
        exact h'.elim
      | ok b e2 =>
        rw [q2, R.bind_ok] at h'
        intro w H2 G2 F2 s2 O2 r2
        split at h'
        · rename_i q3
          split at q3
          · rename_i k q4
            obtain rfl := (bp_of O2 r2 q4).int
            obtain ⟨l, vs, ds, es, rfl, e5, p5, g5, k5⟩ := wrL_ok O2 (ra_up r1 s2) q3
            cases q6 : ixN ds.length k with
            | none =>
              rw [q6] at g5
              cases g5
            | some n =>
              rw [q6] at g5
              cases g5
              obtain ⟨F', O3⟩ := k5 _ (DpAll.set (dp_mono (s1.trans s2) _ _ hd) n p5)
              exact ⟨l, vs, k, n, rfl, rfl, e5, by rw [DpAll.len p5]; exact q6, h' σ _ G2 F' (s1.trans s2) O3 ⟨rfl, fun _ _ => rfl⟩⟩
          · cases q3
        · exact h'.elim
end
end DL
set_option Elab.async false
set_option linter.all false
set_option maxRecDepth 100000
set_option maxHeartbeats 4000000
/-! DlF: statements, comprehensions. -/
namespace DL
open PySem L2

inductive Fl where
  | nx
  | rt (s : Sl)
  | bk
  | ct
abbrev Sf := Fr → R Fl
/-- what a def hands back -/
def rv (K : PySem.W.Frag) (Φ : Fx) : Rel Sl V := fun s v H G F _ e => match s with
  | .sh d => Dp K G v d
  | .own w => ∃ a A, v = .ref a ∧ OwAt K G H w a A ∧ (∀ b ∈ A, G b = none ∧ Φ.H_0 b = none) ∧ ∀ j t, e[j]? = some t → t.owned = true → ∀ b ∈ A, b ∉ F j
  | _ => False
/-- what is wanted behind a statement, by what it came to -/
def Wend (K : PySem.W.Frag) (Φ : Fx) (Dn : Ends) (fl : Fl) (v : V) (σ : L2.St) (H G : Hp) (F : Nat → List Addr) (e : Fr) : Prop := match fl with
  | .nx => Dn.nx σ H
  | .bk => Dn.bk σ H
  | .ct => Dn.ct σ H
  | .rt s => rv K Φ s v H G F σ e → Dn.rt v H
def WS (K : PySem.W.Frag) (mg : Str → Option Value) (Φ : Fx) (W : WX) (G : Hp) (r : R Fl) (Dn : Ends) : Prop := match r with
  | .no => False
  | .ok fl e => ∀ v σ H' G' F', Same G G' → Ok K Φ H' G' F' σ e → Wend K Φ Dn fl v σ H' G' F' e
  | .ex x e => ∀ c d σ H' G' F', Same G G' → Ok K Φ H' G' F' σ e → ExOk mg K G' H' x c d → W c d σ H'
def tS (K : PySem.W.Frag) (mg : Str → Option Value) (Φ : Fx) (W : WX) (f : Sf) : TS := fun Dn σ H => ∃ G F e, Ok K Φ H G F σ e ∧ WS K mg Φ W G (f e) Dn
abbrev DS (X : Cx) (Φ : Fx) (W : WX) (st : Stmt) (f : Sf) : Prop := PS X st (tS X.K X.mg Φ W f)
abbrev DSs (X : Cx) (Φ : Fx) (W : WX) (st : List Stmt) (f : Sf) : Prop := PSs X st (tS X.K X.mg Φ W f)
section
variable {K : PySem.W.Frag} {mg : Str → Option Value} {Φ : Fx} {W : WX} {G G' : Hp} {r : R Fl} {Dn : Ends} {σ : L2.St}
theorem WS.up (h : WS K mg Φ W G r Dn) (gg : Same G G') : WS K mg Φ W G' r Dn := by
  cases r with
  | no => exact h
  | ok a e => exact fun v σ H' G2 F' s o => h v σ H' G2 F' (gg.trans s) o
  | ex x e => exact fun c d σ H' G2 F' s o p => h c d σ H' G2 F' (gg.trans s) o p
/-- a part of a statement's value, then the rest -/
theorem WS.seq {α β : Type} {ρ : Rel α β} {q : R α} {f : α → Fr → R Fl} (h : WS K mg Φ W G (q.bind f) Dn) :
    Wp K mg Φ W σ ρ G q (fun v H1 => ∃ G1 F1 e1 a, Same G G1 ∧ Ok K Φ H1 G1 F1 σ e1 ∧ ρ a v H1 G1 F1 σ e1 ∧ WS K mg Φ W G1 (f a e1) Dn) := by
  cases q with
  | no => exact h
  | ok a e => exact fun v H' G2 F' s o p => ⟨G2, F', e, a, s, o, p, WS.up h s⟩
  | ex x e => exact fun c d H' G2 F' s o p => h c d σ H' G2 F' s o p
theorem WS.fz {H : Hp} {F : Nat → List Addr} {e : Fr} {a : Arg} {v : V} {f : D → Fr → R Fl} (O : Ok K Φ H G F σ e) (r : ra K a v H G F σ e) (h : WS K mg Φ W G ((DL.fz a e).bind f) Dn) :
    ∃ G1 e1 d, Same G G1 ∧ Ok K Φ H G1 F σ e1 ∧ Dp K G1 v d ∧ WS K mg Φ W G1 (f d e1) Dn := by
  cases q : DL.fz a e with
  | no =>
    rw [q] at h
    exact h.elim
  | ex x e1 => exact (fz_no q).elim
  | ok d e1 =>
    rw [q] at h
    obtain ⟨G1, s1, O1, h1⟩ := fz_ok O r q
    exact ⟨G1, e1, d, s1, O1, h1, WS.up h s1⟩
end

/-! ### rows of statements -/
def sNil : Sf := fun e => .ok .nx e
def sSeq (f g : Sf) : Sf := fun e => (f e).bind fun fl e1 => match fl with
  | .nx => g e1
  | fl => .ok fl e1
section
variable {X : Cx} {Φ : Fx} {W : WX} {st : Stmt} {sts : List Stmt} {pos : Pos} {f g : Sf} {fa : Ef} {fr : Rf} {ft : Tf} {x : Expr}
theorem s_nil : DSs X Φ W [] sNil := pss_weak pss_nil fun Dn σ H ⟨G, F, e, O, h⟩ => h .non σ H G F (Same.refl _) O
theorem s_cons (h1 : DS X Φ W st f) (h2 : DSs X Φ W sts g) : DSs X Φ W (st :: sts) (sSeq f g) :=
  pss_weak (pss_cons h1 h2) fun Dn σ H ⟨G, F, e, O, h⟩ => ⟨G, F, e, O, by
    have h' : WS X.K X.mg Φ W G ((f e).bind fun fl e1 => match fl with
      | .nx => g e1
      | fl => .ok fl e1) Dn := h
    cases q : f e with
    | no =>
      rw [q] at h'
      exact h'
    | ex z e1 =>
      rw [q] at h'
      exact h'
    | ok fl e1 =>
      rw [q, R.bind_ok] at h'
      cases fl with
      | nx => exact fun v σ1 H1 G1 F1 s1 O1 => ⟨G1, F1, e1, O1, WS.up h' s1⟩
      | bk => exact h'
      | ct => exact h'
      | rt s => exact h'⟩
theorem s_one (h1 : DS X Φ W st f) : DSs X Φ W [st] f := pss_weak (pss_one h1) fun _ _ _ h => h
def sPass : Sf := fun e => .ok .nx e
def sBrk : Sf := fun e => .ok .bk e
def sCnt : Sf := fun e => .ok .ct e
theorem s_pass : DS X Φ W (.Pass pos) sPass := ps_weak ps_pass fun Dn σ H ⟨G, F, e, O, h⟩ => h .non σ H G F (Same.refl _) O
theorem s_brk : DS X Φ W (.Break pos) sBrk := ps_weak ps_break fun Dn σ H ⟨G, F, e, O, h⟩ => h .non σ H G F (Same.refl _) O
theorem s_cnt : DS X Φ W (.Continue pos) sCnt := ps_weak ps_continue fun Dn σ H ⟨G, F, e, O, h⟩ => h .non σ H G F (Same.refl _) O
def sNo : Sf := fun _ => .no
theorem s_no : DS X Φ W st sNo := ps_weak ps_never fun Dn σ H ⟨G, F, e, O, h⟩ => h.elim
/-- e as a statement -/
def sDrop (f : Ef) : Sf := fun e => (f e).bind fun _ e1 => .ok .nx e1
theorem s_expr (h : DE X Φ W x fa) (hs : swapsWith x none pos.line X.env = pure false := by rfl) : DS X Φ W (.Expr x pos) (sDrop fa) :=
  ps_weak (ps_expr h hs) fun Dn σ H ⟨G, F, e, O, h⟩ => ⟨G, F, e, O, Wp.imp (WS.seq (σ := σ) h) fun v H1 ⟨G1, F1, e1, a, g1, O1, r1, h1⟩ => h1 .non σ H1 G1 F1 (Same.refl _) O1⟩
/-- if -/
def sIf (t : Tf) (f g : Sf) : Sf := fun e => (t e).bind fun b e1 => match b with
  | true => f e1
  | false => g e1
theorem s_if {a b : List Stmt} (ht : DT X Φ W x ft) (ha : DSs X Φ W a f) (hb : DSs X Φ W b g) : DS X Φ W (.If x a b pos) (sIf ft f g) :=
  ps_weak (ps_if ht ha hb) fun Dn σ H ⟨G, F, e, O, h⟩ => ⟨G, F, e, O, Wp.imp (WS.seq (σ := σ) h) fun v H1 ⟨G1, F1, e1, b, g1, O1, r1, h1⟩ => by
    cases (show v = b from r1)
    cases v with
    | true => exact iteT ⟨G1, F1, e1, O1, h1⟩
    | false => exact iteF ⟨G1, F1, e1, O1, h1⟩⟩
/-- return -/
def retR (r : RV) (e : Fr) : R Fl := match r with
  | .arg (.val d) => .ok (.rt (.sh d)) e
  | .arg (.slot i) => match e[i]? with
    | some (.sh d) => .ok (.rt (.sh d)) e
    | some (.own w) => .ok (.rt (.own w)) (e.set i .un)
    | _ => .no
  | .new w => .ok (.rt (.own w)) e
def sRet (f : Rf) : Sf := fun e => (f e).bind retR
theorem Ok.lose {K : PySem.W.Frag} {H G : Hp} {F : Nat → List Addr} {σ : L2.St} {e : Fr} (O : Ok K Φ H G F σ e) (i : Nat) : Ok K Φ H G F σ (e.set i .un) where
  gh := O.gh
  len := by rw [List.length_set]; exact O.len
  slots := fun j s q => by
    by_cases hj : i = j
    · subst hj
      by_cases hl : i < e.length
      · rw [List.getElem?_set_self hl] at q
        cases q
        trivial
      · rw [List.getElem?_eq_none (by rw [List.length_set]; omega)] at q
        cases q
    · rw [List.getElem?_set_ne hj] at q
      exact O.slots j s q
  sep := fun j k s t hjk q1 q2 o1 o2 => by
    have old : ∀ {j : Nat} {s : Sl}, (e.set i .un)[j]? = some s → s.owned = true → e[j]? = some s := fun {j s} q o => by
      by_cases hj : i = j
      · subst hj
        by_cases hl : i < e.length
        · rw [List.getElem?_set_self hl] at q
          cases q
          cases o
        · rw [List.getElem?_eq_none (by rw [List.length_set]; omega)] at q
          cases q
      · rw [List.getElem?_set_ne hj] at q
        exact q
    exact O.sep j k s t hjk (old q1 o1) (old q2 o2) o1 o2
  f0 := O.f0
  f1 := O.f1
  f2 := O.f2
theorem retR_ok {K : PySem.W.Frag} {mg : Str → Option Value} {H G : Hp} {F : Nat → List Addr} {σ : L2.St} {e : Fr} {r : RV} {v : V} {Dn : Ends} (O : Ok K Φ H G F σ e) (h : rr K Φ r v H G F σ e) (w : WS K mg Φ W G (retR r e) Dn) : Dn.rt v H := by
  cases r with
  | new u => exact w v σ H G F (Same.refl _) O h
  | arg a =>
    cases a with
    | val d => exact w v σ H G F (Same.refl _) O h
    | slot i =>
      have h' : σ[i]? = some (some v) := h
      have w' : WS K mg Φ W G (match e[i]? with
        | some (.sh d) => .ok (.rt (.sh d)) e
        | some (.own w) => .ok (.rt (.own w)) (e.set i .un)
        | _ => .no) Dn := w
      split at w'
      · rename_i d q
        obtain ⟨v2, e2, h2⟩ := O.slots i _ q
        rw [h'] at e2
        cases e2
        exact w' v σ H G F (Same.refl _) O h2
      · rename_i u q
        obtain ⟨a, e2, h2, n2⟩ := O.slots i _ q
        rw [h'] at e2
        cases e2
        refine w' _ σ H G F (Same.refl _) (O.lose i) ⟨a, F i, rfl, h2, n2, fun j t q2 o b hb => ?_⟩
        by_cases hj : i = j
        · subst hj
          by_cases hl : i < e.length
          · rw [List.getElem?_set_self hl] at q2
            cases q2
            cases o
          · rw [List.getElem?_eq_none (by rw [List.length_set]; omega)] at q2
            cases q2
        · rw [List.getElem?_set_ne hj] at q2
          exact O.sep i j _ t hj q q2 rfl o b hb
      · exact w'.elim
theorem s_ret (h : DR X Φ W x fr) : DS X Φ W (.Return (some x) pos) (sRet fr) :=
  ps_weak (ps_ret h) fun Dn σ H ⟨G, F, e, O, h⟩ => ⟨G, F, e, O, Wp.imp (WS.seq (σ := σ) h) fun v H1 ⟨G1, F1, e1, r, g1, O1, r1, h1⟩ => retR_ok O1 r1 h1⟩
def sRetN : Sf := fun e => .ok (.rt (.sh .none)) e
theorem s_retN : DS X Φ W (.Return none pos) sRetN := ps_weak ps_retN fun Dn σ H ⟨G, F, e, O, h⟩ => h .non σ H G F (Same.refl _) O .non
/-- name = .. -/
def setR (i : Nat) (r : RV) (e : Fr) : R Fl := match e[i]? with
  | some (.io _) => .no
  | none => .no
  | _ => match r with
    | .arg a => (fz a e).bind fun d e2 => .ok .nx (e2.set i (.sh d))
    | .new w => .ok .nx (e.set i (.own w))
def sSet (i : Nat) (f : Rf) : Sf := fun e => (f e).bind (setR i)
theorem setR_ok {K : PySem.W.Frag} {mg : Str → Option Value} {H G : Hp} {F : Nat → List Addr} {σ : L2.St} {e : Fr} {i : Nat} {r : RV} {v : V} {Dn : Ends} (O : Ok K Φ H G F σ e) (h : rr K Φ r v H G F σ e) (w : WS K mg Φ W G (setR i r e) Dn) : Dn.nx (σ.set i (some v)) H := by
  unfold setR at w
  split at w
  · exact w.elim
  · exact w.elim
  · cases r with
    | arg a =>
      obtain ⟨G1, e1, d, s1, O1, hd, w1⟩ := WS.fz O h w
      exact w1 .non _ H G1 F (Same.refl _) (O1.set hd i)
    | new u =>
      obtain ⟨a, A, rfl, o, n, ap⟩ := h
      exact w .non _ H G _ (Same.refl _) (O.setOwn o n ap i)
theorem s_set (i : Nat) {n : Str} {pos' : Pos} (hN : X.N.Nodup) (he : DR X Φ W x fr) (hi : X.N[i]? = some n := by rfl) (hx : Loc X.env.scope n := by first | exact Or.inl rfl | exact Or.inr rfl) (hs : swapsWith x (some (.Name n pos')) pos.line X.env = pure false := by rfl)
    (hf : X.fn n = true ∨ X.env.scope.names.lookup n = some .local := by first | exact .inl rfl | exact .inr rfl) : DS X Φ W (.Assign [.Name n pos'] x pos) (sSet i fr) :=
  ps_weak (ps_set hN hi hx he hs hf) fun Dn σ H ⟨G, F, e, O, h⟩ => ⟨G, F, e, O, Wp.imp (WS.seq (σ := σ) h) fun v H1 ⟨G1, F1, e1, r, g1, O1, r1, h1⟩ => setR_ok O1 r1 h1⟩
/-- a = b = .. no; target = .. -/
def sAsg (f : Ef) (g : Gf) : Sf := fun e => (f e).bind fun a e1 => (fz a e1).bind fun d e2 => match g d e2 with
  | .ok _ e3 => .ok .nx e3
  | _ => .no
theorem s_asg {js : List Nat} {tg : Expr} {g : Gf} (he : DE X Φ W x fa) (hg : DG X Φ js tg g) (hs : swapsWithSole [tg] x pos.line X.env = pure false := by rfl) (hw : swappedStores [tg] x X.env = pure none := by rfl)
    (h1 : (assignEach [tg] X.env).map (·.2) = [assign tg X.env] := by rfl) : DS X Φ W (.Assign [tg] x pos) (sAsg fa g) :=
  ps_weak (ps_asg he hg hs hw h1) fun Dn σ H ⟨G, F, e, O, h⟩ => ⟨G, F, e, O, Wp.imp (WS.seq (σ := σ) h) fun v H1 ⟨G1, F1, e1, a, g1, O1, r1, h1⟩ => by
    obtain ⟨G2, e2, d, s2, O2, hd, h2⟩ := WS.fz O1 r1 h1
    refine ⟨G2, F1, e2, d, O2, hd, ?_⟩
    cases q : g d e2 with
    | no =>
      rw [q] at h2
      exact h2
    | ex z e3 =>
      rw [q] at h2
      exact h2
    | ok u e3 =>
      rw [q] at h2
      exact fun σ' H' G' F' s3 O3 _ => h2 .non σ' H' G' F' s3 O3⟩
end

/-! ### a new object is held while something else is reckoned -/
def Fx.plus (Φ : Fx) (H : Hp) (A : List Addr) : Fx := ⟨fun b => if b ∈ A then H b else Φ.H_0 b, fun b => if b ∈ A then none else Φ.G_0 b, fun i => (Φ.io i).filter fun b => decide (b ∉ A), Φ.at_⟩
section
variable {K : PySem.W.Frag} {Φ : Fx} {H G H' G' : Hp} {F F' : Nat → List Addr} {σ σ' : L2.St} {e e' : Fr} {A : List Addr}
theorem Ok.hold (O : Ok K Φ H G F σ e) (th : ∀ b ∈ A, H b ≠ none) (n : ∀ b ∈ A, G b = none) (ap : ∀ j t, e[j]? = some t → t.owned = true → ∀ b ∈ A, b ∉ F j) : Ok K (Φ.plus H A) H G F σ e where
  gh := O.gh
  len := O.len
  slots := fun i s q => by
    have old := O.slots i s q
    cases s with
    | un => trivial
    | xn => first | exact old | exact h | exact h1 | exact h2 | exact q | exact O.slots _ _ ‹_›
    | sh d => exact old
    | own w =>
      obtain ⟨a, e1, h1, h2⟩ := old
      refine ⟨a, e1, h1, fun b hb => ⟨(h2 b hb).1, ?_⟩⟩
      show (if b ∈ A then H b else Φ.H_0 b) = none
      rw [if_neg fun z => ap i _ q rfl b z hb]
      exact (h2 b hb).2
    | io w =>
      obtain ⟨a, e1, h1, h2⟩ := old
      refine ⟨a, e1, h1, fun b hb => ⟨(h2 b hb).1, ?_, (h2 b hb).2.2⟩⟩
      have nA : b ∉ A := fun z => ap i _ q rfl b z hb
      rcases (h2 b hb).2.1 with z | z
      · exact .inl (List.mem_filter.mpr ⟨z, decide_eq_true nA⟩)
      · refine .inr ?_
        show (if b ∈ A then H b else Φ.H_0 b) = none
        rw [if_neg nA]
        exact z
  sep := O.sep
  f0 := fun b hb => by
    by_cases hA : b ∈ A
    · exact th b hA
    · refine O.f0 b fun z => hb ?_
      show (if b ∈ A then H b else Φ.H_0 b) = none
      rw [if_neg hA]
      exact z
  f1 := fun b o q m => by
    have q' : (if b ∈ A then H b else Φ.H_0 b) = some o := q
    by_cases hA : b ∈ A
    · rw [if_pos hA] at q'
      exact q'
    · rw [if_neg hA] at q'
      exact O.f1 b o q' fun i z => m i (List.mem_filter.mpr ⟨z, decide_eq_true hA⟩)
  f2 := fun b hb => by
    show G b = if b ∈ A then none else Φ.G_0 b
    by_cases hA : b ∈ A
    · rw [if_pos hA]
      exact n b hA
    · rw [if_neg hA]
      refine O.f2 b fun z => hb ?_
      show (if b ∈ A then H b else Φ.H_0 b) = none
      rw [if_neg hA]
      exact z
theorem Ok.unhold (O : Ok K (Φ.plus H A) H' G' F' σ' e') (th : ∀ b ∈ A, H b ≠ none) (n : ∀ b ∈ A, Φ.H_0 b = none) :
    Ok K Φ H' G' F' σ' e' ∧ (∀ b ∈ A, H' b = H b) ∧ (∀ b ∈ A, G' b = none) ∧ ∀ j t, e'[j]? = some t → t.owned = true → ∀ b ∈ A, b ∉ F' j := by
  have h0 : ∀ b, b ∉ A → (Φ.plus H A).H_0 b = Φ.H_0 b := fun b hb => if_neg hb
  have hA : ∀ b, b ∈ A → (Φ.plus H A).H_0 b = H b := fun b hb => if_pos hb
  have back : ∀ b, (Φ.plus H A).H_0 b = none → Φ.H_0 b = none := fun b hb => by
    by_cases z : b ∈ A
    · exact n b z
    · rw [h0 b z] at hb
      exact hb
  refine ⟨⟨O.gh, O.len, fun i s q => ?_, O.sep, fun b hb => O.f0 b fun z => hb (back b z), fun b o q m => ?_, fun b hb => ?_⟩, fun b hb => ?_, fun b hb => ?_, fun j t q o b hb hf => ?_⟩
  · have old := O.slots i s q
    cases s with
    | un => trivial
    | xn => first | exact old | exact h | exact h1 | exact h2 | exact q | exact O.slots _ _ ‹_›
    | sh d => exact old
    | own w =>
      obtain ⟨a, e1, h1, h2⟩ := old
      exact ⟨a, e1, h1, fun b hb => ⟨(h2 b hb).1, back b (h2 b hb).2⟩⟩
    | io w =>
      obtain ⟨a, e1, h1, h2⟩ := old
      exact ⟨a, e1, h1, fun b hb => ⟨(h2 b hb).1, (h2 b hb).2.1.elim (fun z => .inl (List.mem_filter.mp z).1) (fun z => .inr (back b z)), (h2 b hb).2.2⟩⟩
  · have nA : b ∉ A := fun z => by rw [n b z] at q; cases q
    exact O.f1 b o (by rw [h0 b nA]; exact q) fun i z => m i (List.mem_filter.mp z).1
  · have nA : b ∉ A := fun z => hb (n b z)
    have := O.f2 b (by rw [h0 b nA]; exact hb)
    rw [this]
    exact if_neg nA
  · cases q : H b with
    | none => exact absurd q (th b hb)
    | some o => exact O.f1 b o (by rw [hA b hb]; exact q) fun i z => of_decide_eq_true (List.mem_filter.mp z).2 hb
  · have := O.f2 b (by rw [hA b hb]; exact th b hb)
    rw [this]
    exact if_pos hb
  · have old := O.slots j t q
    cases t with
    | un => cases o
    | xn => cases o
    | sh d => cases o
    | own w =>
      obtain ⟨a, e1, h1, h2⟩ := old
      have := (h2 b hf).2
      rw [hA b hb] at this
      exact th b hb this
    | io w =>
      obtain ⟨a, e1, h1, h2⟩ := old
      rcases (h2 b hf).2.1 with z | z
      · exact of_decide_eq_true (List.mem_filter.mp z).2 hb
      · rw [hA b hb] at z
        exact th b hb z
theorem OwAt.live {w : Ow} {a : Addr} (h : OwAt K G H w a A) : ∀ b ∈ A, H b ≠ none := fun b hb z => by
  obtain ⟨vs, q⟩ := h.there b hb
  rw [z] at q
  cases q
end

/-! ### a, b = x, y with plain names -/
def fzR (r : RV) (e : Fr) : R RV := match r with
  | .arg a => (fz a e).bind fun d e1 => .ok (.arg (.val d)) e1
  | .new w => .ok (.new w) e
def putR (i : Nat) (r : RV) (e : Fr) : R Unit := match e[i]? with
  | some (.io _) => .no
  | none => .no
  | _ => match r with
    | .arg (.val d) => .ok () (e.set i (.sh d))
    | .new w => .ok () (e.set i (.own w))
    | _ => .no
section
variable {K : PySem.W.Frag} {mg : Str → Option Value} {Φ : Fx} {W : WX} {H G : Hp} {F : Nat → List Addr} {σ : L2.St} {e : Fr}
theorem WS.fzR {r : RV} {v : V} {f : RV → Fr → R Fl} {Dn : Ends} (O : Ok K Φ H G F σ e) (h : rr K Φ r v H G F σ e) (w : WS K mg Φ W G ((DL.fzR r e).bind f) Dn) :
    ∃ G1 e1 r1, Same G G1 ∧ Ok K Φ H G1 F σ e1 ∧ rr K Φ r1 v H G1 F σ e1 ∧ (∀ i, r1 ≠ .arg (.slot i)) ∧ WS K mg Φ W G1 (f r1 e1) Dn := by
  cases r with
  | arg a =>
    have w' : WS K mg Φ W G (((DL.fz a e).bind fun d e1 => .ok (.arg (.val d)) e1).bind f) Dn := w
    cases q : DL.fz a e with
    | no =>
      rw [q] at w'
      exact w'.elim
    | ex x e1 => exact (fz_no q).elim
    | ok d e1 =>
      rw [q] at w'
      obtain ⟨G1, s1, O1, h1⟩ := fz_ok O h q
      exact ⟨G1, e1, .arg (.val d), s1, O1, h1, (fun i z => by cases z), WS.up w' s1⟩
  | new u => exact ⟨G, e, .new u, Same.refl _, O, h, (fun i z => by cases z), w⟩
/-- what a new object is, when other things are looked at -/
theorem rr_hold {r : RV} {v : V} (O : Ok K Φ H G F σ e) (h : rr K Φ r v H G F σ e) : ∃ A : List Addr, Ok K (Φ.plus H A) H G F σ e ∧
    (∀ {σ' : L2.St} {H' G' : Hp} {F' : Nat → List Addr} {e' : Fr}, Ok K (Φ.plus H A) H' G' F' σ' e' → Ok K Φ H' G' F' σ' e') ∧
    (∀ {H' G' : Hp} {F' : Nat → List Addr} {e' : Fr}, Same G G' → Ok K (Φ.plus H A) H' G' F' σ e' → rr K Φ r v H' G' F' σ e') ∧
    (∀ {r' : RV} {v' : V} {H' G' : Hp} {F' : Nat → List Addr} {e' : Fr}, rr K (Φ.plus H A) r' v' H' G' F' σ e' → rr K Φ r' v' H' G' F' σ e') ∧
    (∀ b ∈ A, H b ≠ none) ∧ ∀ w, r = .new w → ∃ a, v = .ref a ∧ OwAt K G H w a A := by
  cases r with
  | arg a =>
    have e0 : ∀ {σ' : L2.St} {H' G' : Hp} {F' : Nat → List Addr} {e' : Fr}, Ok K (Φ.plus H []) H' G' F' σ' e' → Ok K Φ H' G' F' σ' e' := fun O' => (O'.unhold (fun b hb => by cases hb) (fun b hb => by cases hb)).1
    refine ⟨[], O.hold (fun b hb => by cases hb) (fun b hb => by cases hb) (fun _ _ _ _ b hb => by cases hb), e0, fun {H'} {G'} {F'} {e'} s _ => @ra_up K a v H G H' G' F F' σ e e' h s, fun {r'} {v'} {H'} {G'} {F'} {e'} h' => ?_, (fun b hb => by cases hb), fun w z => by cases z⟩
    cases r' with
    | arg _ => exact h'
    | new w =>
      obtain ⟨a, A, e1, o1, n1, ap⟩ := h'
      exact ⟨a, A, e1, o1, fun b hb => ⟨(n1 b hb).1, by have := (n1 b hb).2; simpa [Fx.plus] using this⟩, ap⟩
  | new u =>
    obtain ⟨a, A, e1, o1, n1, ap⟩ := h
    have lv := o1.live
    refine ⟨A, O.hold lv (fun b hb => (n1 b hb).1) ap, fun O' => (O'.unhold lv fun b hb => (n1 b hb).2).1, fun {H'} {G'} {F'} {e'} s O' => ?_, fun {r'} {v'} {H'} {G'} {F'} {e'} h' => ?_, lv, fun w z => by cases z; exact ⟨a, e1, o1⟩⟩
    · obtain ⟨_, k1, k2, k3⟩ := O'.unhold lv fun b hb => (n1 b hb).2
      exact ⟨a, A, e1, o1.mono s (fun b hb u q => (k1 b hb).trans q), fun b hb => ⟨k2 b hb, (n1 b hb).2⟩, k3⟩
    · cases r' with
      | arg _ => exact h'
      | new w =>
        obtain ⟨a2, A2, e2, o2, n2, ap2⟩ := h'
        refine ⟨a2, A2, e2, o2, fun b hb => ⟨(n2 b hb).1, ?_⟩, ap2⟩
        have z : (if b ∈ A then H b else Φ.H_0 b) = none := (n2 b hb).2
        by_cases hA : b ∈ A
        · exact (n1 b hA).2
        · rw [if_neg hA] at z
          exact z
end
def sPar (i j : Nat) (fa fb : Rf) : Sf := fun e => (fa e).bind fun r1 e1 => (fb e1).bind fun r2 e2 => (fzR r1 e2).bind fun r3 e3 => (fzR r2 e3).bind fun r4 e4 => (putR i r3 e4).bind fun _ e5 => (putR j r4 e5).bind fun _ e6 => .ok .nx e6
def sPar3 (i j l : Nat) (fa fb fc : Rf) : Sf := fun e => (fa e).bind fun r1 e1 => (fb e1).bind fun r2 e2 => (fc e2).bind fun r5 e7 => (fzR r1 e7).bind fun r3 e3 => (fzR r2 e3).bind fun r4 e4 => (fzR r5 e4).bind fun r6 e8 =>
  (putR i r3 e8).bind fun _ e5 => (putR j r4 e5).bind fun _ e6 => (putR l r6 e6).bind fun _ e9 => .ok .nx e9
section
variable {K : PySem.W.Frag} {mg : Str → Option Value} {Φ : Fx} {W : WX} {H G : Hp} {F : Nat → List Addr} {σ : L2.St} {e : Fr}
/-- a thing to be put, with the objects that it is -/
def rx (K : PySem.W.Frag) (Φ : Fx) (A : List Addr) (r : RV) (v : V) (H G : Hp) (F : Nat → List Addr) (e : Fr) : Prop := match r with
  | .arg (.val d) => Dp K G v d ∧ A = []
  | .arg (.slot _) => False
  | .new w => ∃ a, v = .ref a ∧ OwAt K G H w a A ∧ (∀ b ∈ A, G b = none ∧ Φ.H_0 b = none) ∧ ∀ j t, e[j]? = some t → t.owned = true → ∀ b ∈ A, b ∉ F j
theorem putR_ok {i : Nat} {r : RV} {v : V} {A : List Addr} {f : Unit → Fr → R Fl} {Dn : Ends} (O : Ok K Φ H G F σ e) (h : rx K Φ A r v H G F e) (w : WS K mg Φ W G ((putR i r e).bind f) Dn) :
    ∃ F1 e1, Ok K Φ H G F1 (σ.set i (some v)) e1 ∧ WS K mg Φ W G (f () e1) Dn ∧ ∀ A2 r2 v2, (∀ b ∈ A2, b ∉ A) → rx K Φ A2 r2 v2 H G F e → rx K Φ A2 r2 v2 H G F1 e1 := by
  unfold putR at w
  split at w
  · exact w.elim
  · exact w.elim
  · cases r with
    | arg a =>
      cases a with
      | slot j => exact w.elim
      | val d =>
        refine ⟨F, _, O.set h.1 i, w, fun A2 r2 v2 _ h2 => ?_⟩
        cases r2 with
        | arg a2 => cases a2 <;> exact h2
        | new u2 =>
          obtain ⟨a2, e2, o2, n2, ap2⟩ := h2
          refine ⟨a2, e2, o2, n2, fun j t q o => ?_⟩
          by_cases hj : i = j
          · subst hj
            by_cases hl : i < e.length
            · rw [List.getElem?_set_self hl] at q
              cases q
              cases o
            · rw [List.getElem?_eq_none (by rw [List.length_set]; omega)] at q
              cases q
          · rw [List.getElem?_set_ne hj] at q
            exact ap2 j t q o
    | new u =>
      obtain ⟨a, rfl, o, n, ap⟩ := h
      refine ⟨_, _, O.setOwn o n ap i, w, fun A2 r2 v2 dj h2 => ?_⟩
      cases r2 with
      | arg a2 => cases a2 <;> exact h2
      | new u2 =>
        obtain ⟨a2, e2, o2, n2, ap2⟩ := h2
        refine ⟨a2, e2, o2, n2, fun j t q o b hb => ?_⟩
        show b ∉ (if j = i then A else F j)
        by_cases hj : j = i
        · rw [if_pos hj]
          exact dj b hb
        · rw [if_neg hj]
          rw [List.getElem?_set_ne (Ne.symm hj)] at q
          exact ap2 j t q o b hb
theorem WS.fzX {Φ1 : Fx} {r : RV} {v : V} {f : RV → Fr → R Fl} {Dn : Ends} (O : Ok K Φ1 H G F σ e) (h : ∀ a, r = .arg a → ra K a v H G F σ e) (w : WS K mg Φ W G ((DL.fzR r e).bind f) Dn) :
    ∃ G1 e1 r1, Same G G1 ∧ Ok K Φ1 H G1 F σ e1 ∧ ((∃ d, r1 = .arg (.val d) ∧ Dp K G1 v d) ∨ (∃ u, r1 = .new u ∧ r = .new u)) ∧ WS K mg Φ W G1 (f r1 e1) Dn := by
  cases r with
  | arg a =>
    have w' : WS K mg Φ W G (((DL.fz a e).bind fun d e1 => .ok (.arg (.val d)) e1).bind f) Dn := w
    cases q : DL.fz a e with
    | no =>
      rw [q] at w'
      exact w'.elim
    | ex x e1 => exact (fz_no q).elim
    | ok d e1 =>
      rw [q] at w'
      obtain ⟨G1, s1, O1, h1⟩ := fz_ok O (h a rfl) q
      exact ⟨G1, e1, .arg (.val d), s1, O1, .inl ⟨d, rfl, h1⟩, WS.up w' s1⟩
  | new u => exact ⟨G, e, .new u, Same.refl _, O, .inr ⟨u, rfl, rfl⟩, w⟩
theorem WS.seqP {α β : Type} {Φ1 : Fx} {ρ : Rel α β} {q : R α} {f : α → Fr → R Fl} {Dn : Ends} (cv : ∀ {H' G' : Hp} {F' : Nat → List Addr} {e' : Fr}, Ok K Φ1 H' G' F' σ e' → Ok K Φ H' G' F' σ e') (h : WS K mg Φ W G (q.bind f) Dn) :
    Wp K mg Φ1 W σ ρ G q (fun v H1 => ∃ G1 F1 e1 a, Same G G1 ∧ Ok K Φ1 H1 G1 F1 σ e1 ∧ ρ a v H1 G1 F1 σ e1 ∧ WS K mg Φ W G1 (f a e1) Dn) := by
  cases q with
  | no => exact h
  | ok a e => exact fun v H' G2 F' s o p => ⟨G2, F', e, a, s, o, p, WS.up h s⟩
  | ex x e => exact fun c d H' G2 F' s o p => h c d σ H' G2 F' s (cv o) p
/-- what is known of a thing that is held: the objects, where it stays -/
structure Held (K : PySem.W.Frag) (Φ : Fx) (H G : Hp) (σ : L2.St) (A : List Addr) (r : RV) (v : V) : Prop where
  th : ∀ b ∈ A, H b ≠ none
  n0 : ∀ b ∈ A, Φ.H_0 b = none
  ow : ∀ w, r = .new w → ∃ a, v = .ref a ∧ OwAt K G H w a A
  ar : ∀ a, r = .arg a → ra K a v H G (fun _ => []) σ []
theorem Held.mk' {r : RV} {v : V} (O : Ok K Φ H G F σ e) (h : rr K Φ r v H G F σ e) : ∃ A, Held K Φ H G σ A r v ∧ Ok K (Φ.plus H A) H G F σ e := by
  cases r with
  | arg a =>
    refine ⟨[], ⟨(fun b hb => by cases hb), (fun b hb => by cases hb), (fun w z => by cases z), fun a' z => ?_⟩, O.hold (fun b hb => by cases hb) (fun b hb => by cases hb) (fun _ _ _ _ b hb => by cases hb)⟩
    cases z
    exact @ra_up K a v H G H G F (fun _ => []) σ e [] h (Same.refl _)
  | new u =>
    obtain ⟨a, A, e1, o1, n1, ap⟩ := h
    exact ⟨A, ⟨o1.live, fun b hb => (n1 b hb).2, (fun w z => by cases z; exact ⟨a, e1, o1⟩), (fun a' z => by cases z)⟩, O.hold o1.live (fun b hb => (n1 b hb).1) ap⟩
theorem Held.cv {A : List Addr} {r : RV} {v : V} (h : Held K Φ H G σ A r v) {σ' : L2.St} {H' G' : Hp} {F' : Nat → List Addr} {e' : Fr} (O : Ok K (Φ.plus H A) H' G' F' σ' e') : Ok K Φ H' G' F' σ' e' := (O.unhold h.th h.n0).1
/-- the thing, put: r1 is r, frozen if it was no new one -/
theorem Held.rx {A : List Addr} {r r1 : RV} {v : V} (h : Held K Φ H G σ A r v) {σ' : L2.St} {H' G1 G' : Hp} {F' : Nat → List Addr} {e' : Fr} (O : Ok K (Φ.plus H A) H' G' F' σ' e') (gg : Same G G') (g1 : Same G1 G') (q : (∃ d, r1 = .arg (.val d) ∧ Dp K G1 v d) ∨ (∃ u, r1 = .new u ∧ r = .new u)) :
    ∃ A1, (∀ b ∈ A1, b ∈ A) ∧ rx K Φ A1 r1 v H' G' F' e' := by
  obtain ⟨_, k1, k2, k3⟩ := O.unhold h.th h.n0
  rcases q with ⟨d, rfl, hd⟩ | ⟨u, rfl, rfl⟩
  · exact ⟨[], (fun b hb => by cases hb), dp_mono g1 _ _ hd, rfl⟩
  · obtain ⟨a, e1, o1⟩ := h.ow u rfl
    exact ⟨A, fun _ z => z, a, e1, o1.mono gg (fun b hb u q => (k1 b hb).trans q), fun b hb => ⟨k2 b hb, h.n0 b hb⟩, k3⟩
end
theorem pe_ex {X : Cx} {x : Expr} {ι : Type} {t : ι → TE} (h : ∀ i, PE X x (t i)) : PE X x (fun σ H Q => ∃ i, t i σ H Q) := ⟨fun pins s σ H Q I ⟨i, q⟩ => (h i).run pins s σ H Q I q⟩
section
variable {X : Cx} {Φ : Fx} {W : WX} {x y z : Expr} {fa fb fc : Rf} {pos px py pz pt p2 : Pos} {kt k2 : Nat} {n m l : Str}
theorem s_par (i j : Nat) (hc : X.calm = true) (hN : X.N.Nodup) (ha : DR X Φ W x fa) (hb : ∀ Φ, DR X Φ W y fb) (hw : swappedStores [.Tuple [.Name n px, .Name m py] kt pt] (.Tuple [x, y] k2 p2) X.env = pure (some [n, m]))
    (hi : X.N[i]? = some n := by rfl) (hj : X.N[j]? = some m := by rfl) (hij : i ≠ j := by decide) (hx : X.env.scope.names.lookup n = some .local := by rfl) (hy : X.env.scope.names.lookup m = some .local := by rfl)
    (hs : swapsWithSole [.Tuple [.Name n px, .Name m py] kt pt] (.Tuple [x, y] k2 p2) pos.line X.env = pure false := by rfl) (h1 : starEach [x, y] X.env = (false, eval x X.env) :: starEach [y] X.env := by rfl) (h2 : starEach [y] X.env = (false, eval y X.env) :: starEach [] X.env := by rfl) :
    DS X Φ W (.Assign [.Tuple [.Name n px, .Name m py] kt pt] (.Tuple [x, y] k2 p2) pos) (sPar i j fa fb) :=
  ps_weak (ps_par hc hN hi hj hij hx hy (pa_cons ha (pa_cons (pe_ex hb) pa_nil h2) h1) hw hs) fun Dn σ H ⟨G, F, e, O, h⟩ => ⟨G, F, e, O, Wp.imp (WS.seq (σ := σ) h) fun v H1 ⟨G1, F1, e1, r1, g1, O1, q1, h1⟩ => by
    obtain ⟨A1, L1, P1⟩ := Held.mk' O1 q1
    refine ⟨_, G1, F1, e1, P1, Wp.imp (WS.seqP (fun o => L1.cv o) h1) fun w H2 ⟨G2, F2, e2, r2, g2, O2, q2, h2⟩ => ?_⟩
    obtain ⟨A2, L2, P2⟩ := Held.mk' O2 q2
    have a1 : ∀ a, r1 = .arg a → ra X.K a v H2 G2 F2 σ e2 := fun a z => ra_up (L1.ar a z) g2
    obtain ⟨G3, e3, r3, s3, O3, z3, h3⟩ := WS.fzX P2 a1 h2
    have a2 : ∀ a, r2 = .arg a → ra X.K a w H2 G3 F2 σ e3 := fun a z => ra_up (L2.ar a z) s3
    obtain ⟨G4, e4, r4, s4, O4, z4, h4⟩ := WS.fzX O3 a2 h3
    obtain ⟨B1, b1, y1⟩ := L1.rx (L2.cv O4) (g2.trans (s3.trans s4)) s4 z3
    obtain ⟨B2, b2, y2⟩ := L2.rx O4 (s3.trans s4) (Same.refl _) z4
    have y2' : rx X.K Φ B2 r4 w H2 G4 F2 e4 := by
      cases r4 with
      | arg a => cases a <;> exact y2
      | new u =>
        obtain ⟨a, ea, oa, na, ap⟩ := y2
        refine ⟨a, ea, oa, fun b hb => ⟨(na b hb).1, ?_⟩, ap⟩
        have z : (if b ∈ A1 then H1 b else Φ.H_0 b) = none := (na b hb).2
        by_cases hA : b ∈ A1
        · rw [if_pos hA] at z
          exact absurd z (L1.th b hA)
        · rw [if_neg hA] at z
          exact z
    have dj : ∀ b ∈ B2, b ∉ B1 := fun b hb hb1 => by
      have z : (if b ∈ A1 then H1 b else Φ.H_0 b) = none := L2.n0 b (b2 b hb)
      rw [if_pos (b1 b hb1)] at z
      exact L1.th b (b1 b hb1) z
    obtain ⟨F5, e5, O5, h5, k5⟩ := putR_ok (L1.cv (L2.cv O4)) y1 h4
    obtain ⟨F6, e6, O6, h6, _⟩ := putR_ok O5 (k5 B2 r4 w dj y2') h5
    exact ⟨v, w, rfl, h6 .non _ H2 G4 F6 (Same.refl _) O6⟩⟩
end
end DL
set_option Elab.async false
set_option linter.all false
set_option maxRecDepth 100000
set_option maxHeartbeats 4000000
/-! DlG: loops, comprehensions, methods that write. -/
namespace DL
open PySem L2

/-! ### for -/
def forL (g : Gf) (b : Sf) : List D → Fr → R Fl
  | [], e => .ok .nx e
  | d :: ds, e => match g d e with
    | .ok _ e1 => match b e1 with
      | .ok .nx e2 => forL g b ds e2
      | .ok .ct e2 => forL g b ds e2
      | .ok .bk e2 => .ok .nx e2
      | .ok (.rt s) e2 => .ok (.rt s) e2
      | .ex x e2 => .ex x e2
      | .no => .no
    | _ => .no
def sFor (fi : Lf) (g : Gf) (b : Sf) : Sf := fun e => (fi e).bind (forL g b)
section
variable {X : Cx} {Φ : Fx} {W : WX} {x tg : Expr} {pos : Pos} {fi : Lf} {g : Gf} {b : Sf} {js : List Nat} {body : List Stmt}
/-- what is given, as a frozen value -/
theorem yd_ok {K : PySem.W.Frag} {G G1 H H' : Hp} {F : Nat → List Addr} {σ : L2.St} {e : Fr} {ds : List D} {i : Nat} {v : V} (O : Ok K Φ H G1 F σ e) (s : Same G G1) (y : YD K G ds i H v H') :
    ∃ d G2, ds[i]? = some d ∧ Same G1 G2 ∧ Ok K Φ H' G2 F σ e ∧ Dp K G2 v d ∧ Grow H G1 H' G2 := by
  obtain ⟨d, q, z⟩ := y
  rcases z with ⟨rfl, hd⟩ | ⟨p, vs, es, rfl, hp, rfl, rfl, hd⟩
  · exact ⟨d, G1, q, Same.refl _, O, dp_mono s _ _ hd, Grow.refl O.gh⟩
  · have gr := Grow.laid (o := .tup vs) O.gh hp
    exact ⟨_, _, q, gr.gg, O.grow gr, .tup (.of upd_same) (dpa_mono (s.trans gr.gg) _ _ hd), gr⟩
theorem s_for (hp : PassesOwn (model X.prog X.w) X.A X.env X.xe) (hc : X.calm = true) (hi : DI X Φ W tg x fi) (hg : DG X Φ js tg g) (hb : DSs X Φ W body b) (hs : ∀ v, foldedSetIterable x X.env v = pure v := by intro _; rfl) : DS X Φ W (.For tg x body [] pos) (sFor fi g b) :=
  ps_weak (ps_for hp hc hi hg hb hs) fun Dn σ H ⟨G, F, e, O, h⟩ => ⟨G, F, e, O, Wp.imp (WS.seq (σ := σ) h) fun J H1 ⟨G1, F1, e1, ds, g1, O1, w, h1⟩ => by
    refine for_it w (fun i σ' H' => ∃ G' F' e', Same G1 G' ∧ Ok X.K Φ H' G' F' σ' e' ∧ WS X.K X.mg Φ W G' (forL g b (ds.drop i) e') Dn) ⟨G1, F1, e1, Same.refl _, O1, h1⟩ (fun i σ' H' _ ⟨G', F', e', s, O', _⟩ => s.trans O'.gh) (fun i v σ' H' H'' hi ⟨G', F', e', s, O', h'⟩ y => ?_) fun σ' H' ⟨G', F', e', s, O', h'⟩ => ?_
    · obtain ⟨d, G2, q, s2, O2, hd, _⟩ := yd_ok O' s y
      have ed : ds.drop i = d :: ds.drop (i + 1) := by
        obtain ⟨hl, q2⟩ := List.getElem?_eq_some_iff.mp q
        rw [← q2]
        exact List.drop_eq_getElem_cons hl
      rw [ed] at h'
      unfold forL at h'
      refine ⟨G2, F', e', d, O2, hd, ?_⟩
      cases q1 : g d e' with
      | no =>
        simp only [q1] at h'
        exact h'
      | ex z e2 =>
        simp only [q1] at h'
        exact h'
      | ok u e2 =>
        simp only [q1] at h'
        intro σ3 H3 G3 F3 s3 O3 _
        refine ⟨G3, F3, e2, O3, ?_⟩
        have h2 := WS.up h' (s2.trans s3)
        have sG : Same G1 G3 := s.trans (s2.trans s3)
        cases q2 : b e2 with
        | no =>
          simp only [q2] at h2
          exact h2
        | ex z e3 =>
          simp only [q2] at h2
          exact h2
        | ok fl e3 =>
          simp only [q2] at h2
          cases fl with
          | nx => exact fun v σ4 H4 G4 F4 s4 O4 => ⟨G4, F4, e3, sG.trans s4, O4, WS.up h2 s4⟩
          | ct => exact fun v σ4 H4 G4 F4 s4 O4 => ⟨G4, F4, e3, sG.trans s4, O4, WS.up h2 s4⟩
          | bk => exact h2
          | rt s => exact h2
    · rw [List.drop_length] at h'
      exact h' .non σ' H' G' F' (Same.refl _) O'⟩
end

/-! ### while -/
def whileN (t : Tf) (b : Sf) : Nat → Fr → Option (R Fl)
  | 0, _ => none
  | n + 1, e => match t e with
    | .no => some .no
    | .ex x e1 => some (.ex x e1)
    | .ok false e1 => some (.ok .nx e1)
    | .ok true e1 => match b e1 with
      | .ok .nx e2 => whileN t b n e2
      | .ok .ct e2 => whileN t b n e2
      | .ok .bk e2 => some (.ok .nx e2)
      | .ok (.rt s) e2 => some (.ok (.rt s) e2)
      | .ex x e2 => some (.ex x e2)
      | .no => some .no
theorem whileN_up {t : Tf} {b : Sf} : ∀ {n m : Nat} {e : Fr} {r : R Fl}, n ≤ m → whileN t b n e = some r → whileN t b m e = some r
  | 0, _, _, _, _, h => by cases h
  | n + 1, 0, _, _, hl, _ => by omega
  | n + 1, m + 1, e, r, hl, h => by
    unfold whileN at h ⊢
    cases q : t e with
    | no =>
      rw [q] at h
      exact h
    | ex x e1 =>
      rw [q] at h
      exact h
    | ok c e1 =>
      rw [q] at h
      cases c with
      | false => exact h
      | true =>
        cases q2 : b e1 with
        | no =>
          simp only [q2] at h ⊢
          exact h
        | ex x e2 =>
          simp only [q2] at h ⊢
          exact h
        | ok fl e2 =>
          simp only [q2] at h ⊢
          cases fl with
          | nx => exact whileN_up (Nat.le_of_succ_le_succ hl) h
          | ct => exact whileN_up (Nat.le_of_succ_le_succ hl) h
          | bk => exact h
          | rt s => exact h
open Classical in
noncomputable def sWhile (t : Tf) (b : Sf) : Sf := fun e => if h : ∃ n r, whileN t b n e = some r then h.choose_spec.choose else .no
theorem sWhile_of {t : Tf} {b : Sf} {n : Nat} {e : Fr} {r : R Fl} (h : whileN t b n e = some r) : sWhile t b e = r := by
  have hx : ∃ n r, whileN t b n e = some r := ⟨n, r, h⟩
  unfold sWhile
  rw [dif_pos hx]
  have q := hx.choose_spec.choose_spec
  have h1 := whileN_up (Nat.le_max_left n hx.choose) h
  have h2 := whileN_up (Nat.le_max_right n hx.choose) q
  rw [h1] at h2
  exact (Option.some.inj h2).symm
theorem sWhile_ends {t : Tf} {b : Sf} {e : Fr} (h : sWhile t b e ≠ .no) : ∃ n, whileN t b n e = some (sWhile t b e) := by
  by_cases hx : ∃ n r, whileN t b n e = some r
  · obtain ⟨n, r, q⟩ := hx
    exact ⟨n, by rw [sWhile_of q]; exact q⟩
  · refine absurd ?_ h
    unfold sWhile
    rw [dif_neg hx]
section
variable {X : Cx} {Φ : Fx} {W : WX} {x : Expr} {pos : Pos} {t : Tf} {b : Sf} {body : List Stmt}
theorem s_while (hp : PassesOwn (model X.prog X.w) X.A X.env X.xe) (ht : DT X Φ W x t) (hb : DSs X Φ W body b) : DS X Φ W (.While x body [] pos) (sWhile t b) :=
  ps_weak (ps_while hp ht hb) fun Dn σ H ⟨G, F, e, O, h⟩ => by
    have hn : sWhile t b e ≠ .no := fun z => by
      rw [z] at h
      exact h.elim
    obtain ⟨n, hn⟩ := sWhile_ends hn
    refine ⟨fun m σ' H' => ∃ G' F' e' r, Ok X.K Φ H' G' F' σ' e' ∧ whileN t b m e' = some r ∧ WS X.K X.mg Φ W G' r Dn, ⟨n, G, F, e, _, O, hn, h⟩, fun m σ1 H1 ⟨G1, F1, e1, r, O1, q, h1⟩ => ?_⟩
    cases m with
    | zero => cases q
    | succ m =>
      unfold whileN at q
      refine ⟨G1, F1, e1, O1, ?_⟩
      cases q1 : t e1 with
      | no =>
        simp only [q1] at q
        cases q
        exact h1
      | ex z e2 =>
        simp only [q1] at q
        cases q
        exact fun c d H' G' F' s o p => h1 c d σ1 H' G' F' s o p
      | ok c e2 =>
        simp only [q1] at q
        intro v H2 G2 F2 s2 O2 hv
        cases (show v = c from hv)
        cases c with
        | false =>
          cases q
          exact iteF (h1 .non σ1 H2 G2 F2 s2 O2)
        | true =>
          refine iteT ⟨fun σ' H' => ∃ G' F' e' r, Ok X.K Φ H' G' F' σ' e' ∧ whileN t b m e' = some r ∧ WS X.K X.mg Φ W G' r Dn, fun σ' H' z => ⟨m, Nat.lt_succ_self m, z⟩, G2, F2, e2, O2, ?_⟩
          have h2 := WS.up h1 s2
          cases q2 : b e2 with
          | no =>
            simp only [q2] at q
            cases q
            exact h2
          | ex z e3 =>
            simp only [q2] at q
            cases q
            exact h2
          | ok fl e3 =>
            simp only [q2] at q
            cases fl with
            | nx => exact fun v σ4 H4 G4 F4 s4 O4 => ⟨G4, F4, e3, r, O4, q, WS.up h2 s4⟩
            | ct => exact fun v σ4 H4 G4 F4 s4 O4 => ⟨G4, F4, e3, r, O4, q, WS.up h2 s4⟩
            | bk =>
              cases q
              exact h2
            | rt s =>
              cases q
              exact h2
end

/-! ### comprehensions -/
def lcL (g : Gf) (ft : Tf) (fe : Ef) (vs : List Nat) : List D → Fr → List D → R (List D)
  | [], e, acc => .ok acc e
  | d :: ds, e, acc => match g d e with
    | .ok _ e1 => match ft e1 with
      | .ok true e2 => match fe e2 with
        | .ok a e3 => match fz a e3 with
          | .ok d' e4 => if acc.length < 1000000 then lcL g ft fe vs ds (wipeE e4 vs) (acc ++ [d']) else .no
          | _ => .no
        | _ => .no
      | .ok false e2 => lcL g ft fe vs ds (wipeE e2 vs) acc
      | _ => .no
    | _ => .no
def eLc (fi : Lf) (g : Gf) (ft : Tf) (fe : Ef) (vs : List Nat) : Rf := fun e => (fi e).bind fun ds e1 => match bare e1 vs with
  | true => match lcL g ft fe vs ds (wipeE e1 vs) [] with
    | .ok es e2 => .ok (.new (.ls es)) (backE e1 e2 vs)
    | _ => .no
  | false => .no
def W0 : WX := fun _ _ _ _ => False
abbrev DTs (X : Cx) (Φ : Fx) (W : WX) (es : List Expr) (f : Tf) : Prop := PTs X es (tG X.K X.mg Φ W rb f)
def tYesF : Tf := fun e => .ok true e
section
variable {X : Cx} {Φ : Fx} {W : WX} {x tg elt : Expr} {ifs : List Expr} {pos : Pos} {fi : Lf} {g : Gf} {ft : Tf} {fe : Ef} {js : List Nat}
theorem t_yes : DTs X Φ W [] tYesF := ⟨fun pins s σ H Q I ⟨G, F, e, O, h⟩ => pts_nil.run pins s σ H Q I (h true H G F (Same.refl _) O rfl)⟩
theorem t_one (h : DT X Φ W x ft) : DTs X Φ W [x] ft := pts_one h
theorem wipe_eq {σ σ' : L2.St} {vs : List Nat} (hl : σ'.length = σ.length) (h : ∀ j, j ∉ vs → σ'[j]? = σ[j]?) : wipe σ' vs = wipe σ vs := by
  have lw : ∀ (τ : L2.St) (vs : List Nat), (wipe τ vs).length = τ.length := wipe_length
  have inn : ∀ (τ : L2.St) (vs : List Nat) (j : Nat), j ∈ vs → j < τ.length → (wipe τ vs)[j]? = some none := by
    intro τ vs
    induction vs with
    | nil => intro j hj; cases hj
    | cons v r ih =>
      intro j hj hlt
      unfold wipe
      by_cases e : v = j
      · subst e
        exact List.getElem?_set_self (by rw [lw]; exact hlt)
      · rw [List.getElem?_set_ne e]
        rcases List.mem_cons.mp hj with z | z
        · exact absurd z.symm e
        · exact ih j z hlt
  apply List.ext_getElem?
  intro j
  by_cases hj : j ∈ vs
  · by_cases hlt : j < σ.length
    · rw [inn σ vs j hj hlt, inn σ' vs j hj (by rw [hl]; exact hlt)]
    · rw [List.getElem?_eq_none (by rw [lw]; omega), List.getElem?_eq_none (by rw [lw]; omega)]
  · rw [wipe_out hj, wipe_out hj]
    exact h j hj
theorem tG_ex {X : Cx} {e : Expr} {ι : Type} {t : ι → TT} (h : ∀ i, PT X e (t i)) : PT X e (fun σ H Q => ∃ i, t i σ H Q) := ⟨fun pins s σ H Q I ⟨i, q⟩ => (h i).run pins s σ H Q I q⟩
theorem pts_ex {X : Cx} {es : List Expr} {ι : Type} {t : ι → TT} (h : ∀ i, PTs X es (t i)) : PTs X es (fun σ H Q => ∃ i, t i σ H Q) := ⟨fun pins s σ H Q I ⟨i, q⟩ => (h i).run pins s σ H Q I q⟩
theorem pg_ex {X : Cx} {e : Expr} {ι : Type} {t : ι → TG} (h : ∀ i, PG X e (t i)) : PG X e (fun v σ H Q => ∃ i, t i v σ H Q) := ⟨fun pins s σ H v u Q I r ⟨i, q⟩ => (h i).run pins s σ H v u Q I r q⟩
theorem wipe_wipe {σ : L2.St} {vs : List Nat} : wipe (wipe σ vs) vs = wipe σ vs := wipe_eq (wipe_length σ vs) fun j hj => wipe_out hj
abbrev lcT (K : PySem.W.Frag) (mg : Str → Option Value) (Φ : Fx) (W : WX) (js : List Nat) (fi : Lf) (g : Gf) (ft : Tf) (fe : Ef) (vs : List Nat) : TE :=
  tLc (tG K mg Φ W (rf K) fi) (fun v σ H Q => ∃ Ψ : Fx, tGt K Ψ js g v σ H Q) (fun σ H Q => ∃ Ψ : Fx, tG K mg Ψ W0 rb ft σ H Q) (fun σ H Q => ∃ Ψ : Fx, tG K mg Ψ W0 (ra K) fe σ H Q) vs
theorem lc_weak {K : PySem.W.Frag} {mg : Str → Option Value} {vs : List Nat} (hjs : ∀ j ∈ js, j ∈ vs) {σ : L2.St} {H : Hp} {Q : VK} (t : tG K mg Φ W (rr K Φ) (eLc fi g ft fe vs) σ H Q) : lcT K mg Φ W js fi g ft fe vs σ H Q := by
  obtain ⟨G, F, e, O, h⟩ := t
  refine ⟨G, F, e, O, Wp.imp (Wp.seq h) fun J H1 ⟨G1, F1, e1, ds, g1, O1, w, h1⟩ => ?_⟩
  intro Dl hD
  cases hb : bare e1 vs with
  | false =>
    rw [hb] at h1
    exact h1.elim
  | true =>
    rw [hb] at h1
    have nG1 : G1 Dl = none := same_back O1.gh hD
    have n0 : Φ.H_0 Dl = none := O1.noentry hD
    cases qr : lcL g ft fe vs ds (wipeE e1 vs) [] with
    | no =>
      simp only [qr] at h1
      exact h1.elim
    | ex z e2 =>
      simp only [qr] at h1
      exact h1.elim
    | ok es e2 =>
      simp only [qr] at h1
      have inDl : ∀ {b : Addr}, b ∈ [Dl] → b = Dl := fun hb => List.mem_singleton.mp hb
      refine lc_it (g := fun v σ H Q => ∃ Ψ : Fx, tGt K Ψ js g v σ H Q) (tt := fun σ H Q => ∃ Ψ : Fx, tG K mg Ψ W0 rb ft σ H Q) (te := fun σ H Q => ∃ Ψ : Fx, tG K mg Ψ W0 (ra K) fe σ H Q) (vs := vs) (σ := σ) (H1 := H1) (D := Dl) (Qd := fun H => Q (.ref Dl) H) w (fun i H' => ∃ G' F' e' acc vacc, Same G1 G' ∧ Ok K Φ H' G' F' (wipe σ vs) e' ∧ H' Dl = some (.lst vacc) ∧ DpAll K G' vacc acc ∧ G' Dl = none ∧ (∀ j t, e'[j]? = some t → t.owned = true → Dl ∉ F' j) ∧ lcL g ft fe vs (ds.drop i) e' acc = .ok es e2) ?_
        (fun i H' _ ⟨G', F', e', acc, vacc, s, O', _⟩ => s.trans O'.gh) (fun i v H' H'' hi ⟨G', F', e', acc, vacc, s, O', hDl, ha, nG, ap, q⟩ y => ?_) fun H' ⟨G', F', e', acc, vacc, s, O', hDl, ha, nG, ap, q⟩ => ?_
      · have gr := Grow.own (o := .lst []) O1.gh hD
        have O2 := (O1.grow gr).wiped vs
        refine ⟨G1, F1, wipeE e1 vs, [], [], Same.refl _, O2, upd_same, .nil, nG1, fun j t q o hm => ?_, qr⟩
        have : ∃ t', e1[j]? = some t' ∧ t'.owned = true := by
          have go : ∀ (vs : List Nat) (t : Sl), (wipeE e1 vs)[j]? = some t → t.owned = true → ∃ t', e1[j]? = some t' ∧ t'.owned = true := by
            intro vs
            induction vs with
            | nil => exact fun t q o => ⟨t, q, o⟩
            | cons v r ih =>
              intro t q o
              unfold wipeE at q
              by_cases ev : v = j
              · subst ev
                by_cases hl : v < (wipeE e1 r).length
                · rw [List.getElem?_set_self hl] at q
                  cases q
                  cases o
                · rw [List.getElem?_eq_none (by rw [List.length_set]; omega)] at q
                  cases q
              · rw [List.getElem?_set_ne ev] at q
                exact ih t q o
          exact go vs t q o
        obtain ⟨t', q', o'⟩ := this
        exact O1.noslot hD j t' q' o' hm
      · -- a turn
        obtain ⟨d, G2, qd, s2, O2, hd, gr⟩ := yd_ok O' s y
        have ed : ds.drop i = d :: ds.drop (i + 1) := by
          obtain ⟨hl, q2⟩ := List.getElem?_eq_some_iff.mp qd
          rw [← q2]
          exact List.drop_eq_getElem_cons hl
        rw [ed] at q
        unfold lcL at q
        have hDl2 : H'' Dl = some (.lst vacc) := gr.hh _ _ hDl
        have nG2 : G2 Dl = none := by rw [gr.new Dl (by rw [hDl]; exact fun z => nomatch z)]; exact nG
        have P2 : Ok K (Φ.plus H'' [Dl]) H'' G2 F' (wipe σ vs) e' := O2.hold (fun b hb => by rw [inDl hb, hDl2]; exact fun z => nomatch z) (fun b hb => by rw [inDl hb]; exact nG2) fun j t q o b hb => by rw [inDl hb]; exact ap j t q o
        have th : ∀ b ∈ [Dl], H'' b ≠ none := fun b hb => by rw [inDl hb, hDl2]; exact fun z => nomatch z
        have n0' : ∀ b ∈ [Dl], Φ.H_0 b = none := fun b hb => by rw [inDl hb]; exact n0
        refine ⟨Φ.plus H'' [Dl], G2, F', e', d, P2, hd, ?_⟩
        cases q1 : g d e' with
        | no =>
          simp only [q1] at q
          cases q
        | ex z e3 =>
          simp only [q1] at q
          cases q
        | ok u e3 =>
          simp only [q1] at q
          intro σ3 H3 G3 F3 s3 P3 ⟨l3, k3⟩
          have ws : wipe σ3 vs = wipe σ vs := (wipe_eq l3 fun j hj => k3 j fun z => hj (hjs j z)).trans wipe_wipe
          refine ⟨ws, Φ.plus H'' [Dl], G3, F3, e3, P3, ?_⟩
          cases q2 : ft e3 with
          | no =>
            simp only [q2] at q
            cases q
          | ex z e4 =>
            simp only [q2] at q
            cases q
          | ok c e4 =>
            simp only [q2] at q
            intro b H4 G4 F4 s4 P4 hbc
            cases (show b = c from hbc)
            -- back to the block's start
            have fin : ∀ {H5 G5 : Hp} {F5 : Nat → List Addr} {e5 : Fr} (P5 : Ok K (Φ.plus H'' [Dl]) H5 G5 F5 σ3 e5), Ok K Φ H5 G5 F5 (wipe σ vs) (wipeE e5 vs) ∧ H5 Dl = some (.lst vacc) ∧ G5 Dl = none ∧ ∀ j t, (wipeE e5 vs)[j]? = some t → t.owned = true → Dl ∉ F5 j := fun {H5 G5 F5 e5} P5 => by
              have P6 := P5.wiped vs
              rw [ws] at P6
              obtain ⟨z1, z2, z3, z4⟩ := P6.unhold th n0'
              have hm : Dl ∈ [Dl] := List.mem_singleton.mpr rfl
              exact ⟨z1, (z2 Dl hm).trans hDl2, z3 Dl hm, fun j t q o => z4 j t q o Dl hm⟩
            cases c with
            | false =>
              obtain ⟨y1, y2, y3, y4⟩ := fin P4
              refine iteF ⟨G4, F4, _, acc, vacc, s.trans (s2.trans (s3.trans s4)), y1, y2, dpa_mono (s2.trans (s3.trans s4)) _ _ ha, y3, y4, q⟩
            | true =>
              refine iteT ⟨Φ.plus H'' [Dl], G4, F4, e4, P4, ?_⟩
              cases q3 : fe e4 with
              | no =>
                simp only [q3] at q
                cases q
              | ex z e5 =>
                simp only [q3] at q
                cases q
              | ok a e5 =>
                simp only [q3] at q
                intro yv H5 G5 F5 s5 P5 ry
                cases q4 : fz a e5 with
                | no =>
                  simp only [q4] at q
                  cases q
                | ex z e6 => exact (fz_no q4).elim
                | ok d' e6 =>
                  simp only [q4] at q
                  obtain ⟨G6, s6, P6, hd6⟩ := fz_ok P5 ry q4
                  split at q
                  · rename_i hlen
                    obtain ⟨y1, y2, y3, y4⟩ := fin P6
                    have sG : Same G' G6 := s2.trans (s3.trans (s4.trans (s5.trans s6)))
                    have la := DpAll.len ha
                    refine ⟨vacc, y2, by rw [la]; exact Nat.lt_trans hlen (by decide), G6, F5, _, acc ++ [d'], vacc ++ [yv], s.trans sG, ?_, upd_same, DpAll.app (dpa_mono sG _ _ ha) (.cons hd6 .nil), y3, y4, q⟩
                    -- the list is written: nothing that is known leans on it
                    refine ⟨fun b o z => ?_, y1.len, fun j t qj => ?_, y1.sep, fun b hb => ?_, fun b o z m => ?_, y1.f2⟩
                    · rw [upd_ne fun zb => by rw [zb, y3] at z; cases z]
                      exact y1.gh b o z
                    · have old := y1.slots j t qj
                      cases t with
                      | un => trivial
                      | xn => first | exact old | exact h | exact h1 | exact h2 | exact q | exact O.slots _ _ ‹_›
                      | sh _ => exact old
                      | own u =>
                        obtain ⟨a2, e2', o2, n2⟩ := old
                        exact ⟨a2, e2', o2.mono (Same.refl _) (fun b hb u z => by rw [upd_ne (show b ≠ Dl from fun zb => y4 j _ qj rfl (by rw [← zb]; exact hb))]; exact z), n2⟩
                      | io u =>
                        obtain ⟨a2, e2', o2, n2⟩ := old
                        exact ⟨a2, e2', o2.mono (Same.refl _) (fun b hb u z => by rw [upd_ne (show b ≠ Dl from fun zb => y4 j _ qj rfl (by rw [← zb]; exact hb))]; exact z), n2⟩
                    · by_cases zb : b = Dl
                      · rw [zb, upd_same]
                        exact fun z => nomatch z
                      · rw [upd_ne zb]
                        exact y1.f0 b hb
                    · rw [upd_ne fun zb => by rw [zb, n0] at z; cases z]
                      exact y1.f1 b o z m
                  · cases q
      · -- the end
        rw [List.drop_length] at q
        cases q
        refine h1 _ H' G' F' s (O1.back O' s hb) ⟨Dl, [Dl], rfl, .ls hDl ha, fun b hb => ?_, fun j t q o b hbm => ?_⟩
        · rw [inDl hb]
          exact ⟨nG, n0⟩
        · rw [inDl hbm]
          have : e2[j]? = some t := by
            by_cases hj : j ∈ vs
            · have := backE_in hj q
              have nb := List.all_eq_true.mp (show bare e1 vs = true from hb) j hj
              rw [← this, o] at nb
              cases nb
            · rw [backE_out hj] at q
              exact q
          exact ap j t this o
theorem d_lc {scope : Scope} {own : List (Str × Nat)} (hc : X.calm = true) (hN : X.N.Nodup) (hi : DI X Φ W tg x fi) (ok : BlkOk X.N X.env.scope scope own)
    (hg : ∀ (Ψ : Fx) (s : Shared) (H : Hp) (C : Addr) (cl : List (Str × Addr)) (fp : List Addr), DG (X.blk s H scope (compEnvC scope cl C X.env) fp) Ψ js tg g)
    (ht : ∀ (Ψ : Fx) (s : Shared) (H : Hp) (C : Addr) (cl : List (Str × Addr)) (fp : List Addr), DTs (X.blk s H scope (compEnvC scope cl C X.env) fp) Ψ W0 ifs ft)
    (he : ∀ (Ψ : Fx) (s : Shared) (H : Hp) (C : Addr) (cl : List (Str × Addr)) (fp : List Addr), DE (X.blk s H scope (compEnvC scope cl C X.env) fp) Ψ W0 elt fe) (hjs : ∀ j ∈ js, j ∈ own.map (·.2) := by decide)
    (hs : ∀ v, foldedSetIterable x X.env v = pure v := by intro _; rfl) : DR X Φ W (.ListComp elt [⟨tg, x, ifs, 0⟩] scope pos) (eLc fi g ft fe (own.map (·.2))) :=
  pe_weak (pe_lc hc hN hi ok (fun s H C cl fp => pg_ex fun Ψ => hg Ψ s H C cl fp) (fun s H C cl fp => pts_ex fun Ψ => ht Ψ s H C cl fp) (fun s H C cl fp => pe_ex fun Ψ => he Ψ s H C cl fp) hs) fun σ H Q t => lc_weak hjs t
/-- name = [..] on one line, the name a local -/
theorem s_setLc (i : Nat) {n : Str} {py spos : Pos} {scope : Scope} {own : List (Str × Nat)} (hc : X.calm = true) (hN : X.N.Nodup) (hsw : swapsWith (.ListComp elt [⟨tg, x, ifs, 0⟩] scope pos) (some (.Name n py)) spos.line X.env = pure true) (hi : DI X Φ W tg x fi) (ok : BlkOk X.N X.env.scope scope own)
    (hg : ∀ (Ψ : Fx) (s : Shared) (H : Hp) (C : Addr) (cl : List (Str × Addr)) (fp : List Addr), DG (X.blk s H scope (compEnvC scope cl C X.env) fp) Ψ js tg g)
    (ht : ∀ (Ψ : Fx) (s : Shared) (H : Hp) (C : Addr) (cl : List (Str × Addr)) (fp : List Addr), DTs (X.blk s H scope (compEnvC scope cl C X.env) fp) Ψ W0 ifs ft)
    (he : ∀ (Ψ : Fx) (s : Shared) (H : Hp) (C : Addr) (cl : List (Str × Addr)) (fp : List Addr), DE (X.blk s H scope (compEnvC scope cl C X.env) fp) Ψ W0 elt fe) (hjs : ∀ j ∈ js, j ∈ own.map (·.2) := by decide) (hy : X.N[i]? = some n := by rfl) (hyl : X.env.scope.names.lookup n = some .local := by rfl)
    (hs : ∀ v, foldedSetIterable x X.env v = pure v := by intro _; rfl) : DS X Φ W (.Assign [.Name n py] (.ListComp elt [⟨tg, x, ifs, 0⟩] scope pos) spos) (sSet i (eLc fi g ft fe (own.map (·.2)))) :=
  ps_weak (ps_setLc hc hN hy hyl hsw hi ok (fun s H C cl fp => pg_ex fun Ψ => hg Ψ s H C cl fp) (fun s H C cl fp => pts_ex fun Ψ => ht Ψ s H C cl fp) (fun s H C cl fp => pe_ex fun Ψ => he Ψ s H C cl fp) hs) fun Dn σ H ⟨G, F, e, O, h⟩ =>
    lc_weak (Φ := Φ) (W := W) hjs ⟨G, F, e, O, Wp.imp (WS.seq (σ := σ) h) fun v H1 ⟨G1, F1, e1, r, g1, O1, r1, h1⟩ => setR_ok O1 r1 h1⟩
end
end DL
set_option Elab.async false
set_option linter.all false
set_option maxRecDepth 100000
set_option maxHeartbeats 4000000
/-! DlHa: a def's promise where it is known that no guard runs (so that a value's repr can be told); the law's own call. -/
namespace DL
open PySem L2

structure FnG (P : Program) (w : World) (K : PySem.W.Frag) (mg : Str → Option Value) (base : Heap) (k : Nat) (f : Addr) (fd : FuncData) (ps : List Str) (sp : Sp) : Prop where
  len : ∀ vs H Q E, sp vs H Q E → vs.length = ps.length
  run : ∀ (A : Around) (outer : List Env) (s : Shared) (H : Hp) (args : Args) (us : List Value) (vs : List V) (Q : VK) (E : XK), Room k A → A.guards = some [] → Env0 P w K mg base A outer s H → BindsTo s fd args (ps.zip us) → Vals vs us →
    sp vs H Q E → codeAny (model P w) A (.call (.ref f) args) (CR (L2.CX P w) outer P w H s Q E) s
theorem FnG.up {P : Program} {w : World} {K : PySem.W.Frag} {mg : Str → Option Value} {base : Heap} {j k : Nat} {f : Addr} {fd : FuncData} {ps : List Str} {sp : Sp} (F : FnG P w K mg base j f fd ps sp) (h : j ≤ k) : FnG P w K mg base k f fd ps sp :=
  ⟨F.len, fun A outer s H args us vs Q E room gu => F.run A outer s H args us vs Q E (room.mono h) gu⟩
section
variable {P : Program} {w : World} {K : PySem.W.Frag} {mg : Str → Option Value} {base : Heap} {x qual : Str} {params : Arguments} {body : List Stmt} {scope : Scope} {dvs : List V} {kws : List (Str × V)} {f : Addr} {fd : FuncData} {N ps : List Str} {k : Nat} {sp : Sp}
theorem fn_g (Fd : FunD K x qual params body scope dvs kws f fd) (S : FnScope N ps scope) (len : ∀ vs H Q E, sp vs H Q E → vs.length = ps.length)
    (hb : ∀ (cdv : Value) (A : Around) (outer : List Env) (s : Shared) (H : Hp) (vs : List V) (Q : VK) (E : XK), Room k (A.deeper (PyProof.Rows.envOfC qual scope s.heap.objs.size f cdv)) → A.guards = some [] → sp vs H Q E →
      ∃ t, PSs (cxOf (L2.CX P w) P w K mg base N qual scope f cdv A outer s H E) body t ∧ t { nx := fun _ H' => Q .non H', rt := Q } (L2.start N vs) H) : FnG P w K mg base (k + 1) f fd ps sp := by
  obtain ⟨oc, od, dV, kV, doc, pm, an, cdv, ct, osl, rfl, look, codeOk, _, _⟩ := Fd.ex
  constructor
  · exact len
  · intro A outer s H args us vs Q E room gu env0 binds vals prom
    have inHeap : K.In s.heap := env0.mod.kin.keeps fun b o z => (env0.bs b o z).1
    have slots : ∀ y ∈ ps.zip us, scope.names.lookup y.1 = some .local ∨ (scope.names.lookup y.1 = some .cell ∧ ((PySem.cellsFrom (s.heap.objs.size + 1) scope.names []).lookup y.1).isSome = true) := by
      rintro ⟨n, v⟩ hy
      cases S.par n (List.of_mem_zip hy).1 with
      | inl q => exact Or.inl q
      | inr q => exact Or.inr ⟨q, PySem.W.cellsFrom_some _ _ _ (Or.inl q)⟩
    apply codeAny_call_function room.depth (inHeap _ _ look) rfl S.co S.gen rfl (PySem.W.codeRec_of inHeap codeOk)
    apply binds
    apply wpAny_newFunctionEnv_cells S.kind slots
    rintro env rfl s1 inc
    constructor
    · exact (env0.mod.nolimit.keeps fun b o z => (env0.bs b o z).1).keeps inc.toInCall.keep
    · apply codeAny_func
      obtain ⟨t, deriv, reading⟩ := hb cdv A outer s H vs Q E (room.deeper _) gu prom
      have begun := inv_start (CX := L2.CX P w) (E := E) S room.hd env0 (len _ _ _ _ prom) vals inc
      refine wpAny_mono (deriv.run [] s1 (L2.start N vs) H _ begun reading) (fun fl s' ended => ?_) fun _ _ raised => raised
      have leave : ∀ {τ : L2.St} {H' : Hp} {v : V} {u : Value}, Inv (cxOf (L2.CX P w) P w K mg base N qual scope f cdv A outer s H E) [] τ H' s' → RelV v u → Q v H' → CE outer P w H s Q u s' := by
        intro τ H' v u J rel q
        exact ⟨v, H', J.os, J.bare, J.base, J.hok, rel, q⟩
      match fl, ended with
      | .next, ⟨_, _, J, q⟩ => exact leave (v := .non) (u := .none) J rfl q
      | .ret _, ⟨_, _, _, J, rel, q⟩ => exact leave J rel q
      | .brk, ⟨_, _, _, q⟩ => exact q.elim
      | .cont, ⟨_, _, _, q⟩ => exact q.elim
end
section
variable {X : Cx} {k : Nat} {f : Addr} {fd : FuncData} {ps : List Str} {sp : Sp} {W : WX} {x : Str} {p pos : Pos} {e : Expr} {es : List Expr} {t : TA} {dvs : List V} {ds : List Value}
/-- the callee runs from a body -/
theorem run_g {pins : List (Addr × Obj)} {σ : L2.St} {H : Hp} {s : Shared} {Q : VK} {us : List Value} {vs : List V} {args : Args} (Fo : FnG X.prog X.w X.K X.mg X.base k f fd ps sp) (room : Room k X.A) (gu : X.A.guards = some []) (tk : Takes X W)
    (I : Inv X pins σ H s) (b : BindsTo s fd args (ps.zip us)) (r : Vals vs us) (h : sp vs H Q (WE W σ)) : codeAny (model X.prog X.w) X.A (.call (.ref f) args) (fun r s' => match r with
      | .ok (.ret u) => EP X pins σ Q u s'
      | .ok _ => False
      | .error er => X.xe er s') s := by
  refine codeAny_mono (Fo.run X.A X.stack s H args us vs Q (WE W σ) room gu I.env0 b r h) fun r s' hq => ?_
  match r, hq with
  | .ok (.ret _), hq => exact I.after hq
  | .error er, hq => exact passAt tk σ pins H s er s' I hq
def tCallG (sp : Sp) (dvs : List V) (W : WX) (t : TA) : TE := fun σ H Q => t σ H fun vs H1 => sp (vs ++ dvs) H1 Q (WE W σ)
theorem pe_callG (Fo : FnG X.prog X.w X.K X.mg X.base k f fd ps sp) (room : Room k X.A) (gu : X.A.guards = some []) (hg : Gl X x) (hm : X.mg x = some (.ref f)) (hk : PySem.W.keepIn X.K (.ref f) = true) (hb : Binds X.K fd ps ds) (hd : Vals dvs ds) (tk : Takes X W)
    (ha : PA X (e :: es) t) (hdb : (x == ("__debug__" : Str)) = false := by decide) (he : starEach (e :: es) X.env = (false, eval e X.env) :: starEach es X.env := by rfl) (hpl : (backTo pos (starEach es X.env)).any (·.1) = false := by rfl) :
    PE X (.Call (.Name x p) (e :: es) [] pos) (tCallG sp dvs W t) := by
  constructor
  intro pins s σ H Q I reading
  apply wpAny_Call_Name_kw
  apply ld_glob I hg hm _ hdb
  apply PySem.W.callWith_K (h₀ := X.base) I.ok.mod.kin hk _ he hpl
  apply thn (ha.run pos pins s σ H _ I reading)
  rintro us s1 ⟨vs, H1, I1, r, q⟩
  constructor
  · exact I1.kIn
  · have both : Vals (vs ++ dvs) (us ++ ds) := r.append hd
    have same : (us ++ ds).length = ps.length := both.length ▸ Fo.len _ _ _ _ q
    exact wpAny_call (codeAny_mono (run_g Fo room gu tk I1 (hb s1 us I1.kIn same) both q) fun r s' z => match r, z with
      | .ok (.ret _), z => z
      | .error _, z => z)
end
/-- the law's own call, behind the top -/
theorem law_g {P : Program} {w : World} {K : PySem.W.Frag} {mg mb : Str → Option Value} {k : Nat} {fa a : Addr} {fd : FuncData} {x : Str} {sp : Sp} {s1 : Shared} {vs : List Value} {ns : List Int}
    (KX : K.In s1.heap) (hns : s1.heap.Ns mainGlobals mg) (hb : s1.heap.Ns builtinsNs mb) (hbb : ∀ x : Str, x ≠ "__name__" → mb x = bootBuiltins x) (hlim : s1.heap.NoLimit) (hg : s1.gens = #[])
    (ha : s1.heap.get? a = some { cls := .type "list", data := .seq vs.toArray }) (hi : PyProof.Rows.IntsAre vs ns) (hl : ns.length ≤ sizeLine) (room : Room k callerA)
    (F : ∀ base : Heap, K.In base → base.Ns mainGlobals mg → FnG P w K mg base k fa fd [x] sp) (hbind : ∀ (s : Shared) (u : Value), BindsTo s fd ⟨[u], []⟩ [(x, u)])
    (hsp : ∀ H : Hp, SqL K H a (ns.map V.int) → sp [.ref a] H (fun v _ => v = .bl true) fun _ _ _ => False) :
    codeAny (model P w) callerA (.call (.ref fa) ⟨[.ref a], []⟩) (fun r s' => r = .ok (.ret (.bool true)) ∧ OldK s1.heap s'.heap ∧ s'.os = s1.os ∧ PyProof.Rows.AllBare s'.gens) s1 := by
  -- what is tracked: the script, if it is no object of the module
  have main : ∀ H : Hp, Only H → SqL K H a (ns.map V.int) → HOk P w H s1.heap → (∀ b, H b ≠ none → b = a ∧ K.lookup a = none) →
      codeAny (model P w) callerA (.call (.ref fa) ⟨[.ref a], []⟩) (fun r s' => r = .ok (.ret (.bool true)) ∧ OldK s1.heap s'.heap ∧ s'.os = s1.os ∧ PyProof.Rows.AllBare s'.gens) s1 := by
    intro H only seq held one
    have dictFree : ∀ {b : Addr} {o : Obj} {es : Array DictEntry} {n : Nat}, s1.heap.get? b = some o → o.data = .dict es n → H b = none := by
      intro b o es n q d
      match e : H b with
      | none => rfl
      | some u =>
        have ab := (one b (by rw [e]; exact fun z => nomatch z)).1
        rw [ab, ha] at q
        cases q
        cases (show Data.seq vs.toArray _ = Data.dict es n from d)
    have names : ∀ {b : Addr} {m : Str → Option Value}, s1.heap.Ns b m → (hidT s1.heap H).Ns b m := by
      rintro b m ⟨o, es, n, q, d, r⟩
      exact ⟨o, es, n, hidT_get q (dictFree q d), d, r⟩
    have kept : K.In (hidT s1.heap H) := by
      intro b o q
      refine hidT_get (KX b o q) ?_
      match e : H b with
      | none => rfl
      | some u =>
        obtain ⟨ab, no⟩ := one b (by rw [e]; exact fun z => nomatch z)
        rw [ab, no] at q
        cases q
    obtain ⟨mc, lim1, lim2⟩ := hlim
    have env0 : Env0 P w K mg (hidT s1.heap H) callerA [] s1 H :=
      { frames := rfl, mod := ⟨kept, names hns, ⟨mb, names hb, hbb⟩, mc, names lim1, lim2⟩, bs := fun b o q => of_hidT q, bsz := Nat.le_of_eq (hidT_size _ _), funs := trivial, frf := (fun b z => by cases z), hok := held, bare := .of_eq hg }
    refine codeAny_mono ((F _ kept (names hns)).run callerA [] s1 H ⟨[.ref a], []⟩ [.ref a] [.ref a] _ _ room rfl env0 (hbind s1 (.ref a)) (.cons rfl .nil) (hsp H seq)) fun r s' z => ?_
    match r, z with
    | .error er, z =>
      obtain ⟨_, _, _, _, _, _, _, _, _, _, _, _, y⟩ := z
      exact y.elim
    | .ok (.ret u), z =>
      obtain ⟨v, H', os, gens, un, held', rel, q⟩ := z
      cases (show v = .bl true from q)
      cases (show u = Value.bool true from rel)
      refine ⟨rfl, OldK.of_keep fun b o q => ?_, os, gens⟩
      match only b with
      | .inl n => exact un.keep b o q n (fun y => by cases y) (fun y => by cases y)
      | .inr ⟨ob, xs, n⟩ =>
        have q1 := (held b _ n).1
        have q2 := (held' b _ (un.frzs b ob _ n)).1
        rw [q] at q1
        cases q1
        exact q2
  have rv := vals_ints hi
  match lk : K.lookup a with
  | some o =>
    have q := KX a o lk
    rw [ha] at q
    cases q
    exact main (fun _ => none) (fun _ => .inl rfl) (.inr ⟨_, vs.toArray, _, lk, rfl, rfl, rfl, by rw [List.size_toArray, hi.length]; exact hl, by simpa using rv⟩) (fun b u z => nomatch (show (none : Option HO) = some u from z)) fun b z => absurd rfl z
  | none =>
    let H : Hp := upd (fun _ => none) a (.frz { cls := .type "list", data := .seq vs.toArray } (.lst (ns.map V.int)))
    have at_ : ∀ {b : Addr} {u : HO}, H b = some u → b = a ∧ u = .frz { cls := .type "list", data := .seq vs.toArray } (.lst (ns.map V.int)) := by
      intro b u q
      by_cases hb : b = a
      · rw [hb, show H a = _ from upd_same] at q
        exact ⟨hb, (Option.some.inj q).symm⟩
      · rw [show H b = none from upd_ne hb] at q
        cases q
    refine main H (fun b => ?_) (.inl (.inr ⟨_, upd_same⟩)) (fun b u q => ?_) fun b n => ?_
    · match e : H b with
      | none => exact .inl rfl
      | some u => exact .inr ⟨_, _, congrArg some (at_ e).2⟩
    · obtain ⟨rfl, rfl⟩ := at_ q
      exact ⟨ha, by rw [List.length_map]; exact hl, vs, _, rv, ha⟩
    · match e : H b with
      | none => exact absurd e n
      | some u => exact ⟨(at_ e).1, lk⟩
/-- the law's end over a head by facts; the script's bits are told -/
theorem walk_g {l : PySem.W.OpenLaw} {n k : Nat} {q : Program} {loose : List Str} {XP : (Str → Option Value) → Heap → Prop} {YP : World → Heap → Prop} {d : DefRec} {x : Str}
    (hn : l.most = some n) (hn2 : n ≤ sizeLine) (hdf : d.params.defaults = []) (room : Room k callerA)
    (F : ∀ (w : World) (mg : Str → Option Value) (fa : Addr) (h : Heap), YP w h → h.Ns mainGlobals mg → mg d.name = some (.ref fa) →
      ∃ (K : PySem.W.Frag) (fd : FuncData) (sp : Sp), K.In h ∧ (∀ (s : Shared) (u : Value), BindsTo s fd ⟨[u], []⟩ [(x, u)]) ∧
        (∀ (H : Hp) (a : Addr) (ns : List Int), ns.length ≤ n → (∀ z ∈ ns, Builtin.Int.intBits z ≤ 1048576) → SqL K H a (ns.map V.int) → sp [.ref a] H (fun v _ => v = .bl true) fun _ _ _ => False) ∧
        ∀ base : Heap, K.In base → base.Ns mainGlobals mg → FnG l.prog w K mg base k fa fd [x] sp) :
    PySem.W.WalkO q loose XP YP l.row.toRowW d [] (fun f vs => PySem.call f vs) := by
  apply Att.attach_callB hn hdf
  intro w s0 s1 mg mb fa o pm cd doc a vs ns G Y ho hd hcd hmg hobj hints hlen hbits hg
  obtain ⟨K, fd, sp, KX, hb, hsp, hF⟩ := F w mg fa _ Y G.T.g hmg
  exact law_g KX G.T.g G.T.b G.T.builtins G.T.nolimit hg hobj hints (Nat.le_trans hlen hn2) room hF hb fun H hS => hsp H a ns hlen hbits hS
end DL
set_option Elab.async false
set_option linter.all false
set_option maxRecDepth 100000
set_option maxHeartbeats 4000000
/-! DlH: what a def promises, how it is called. -/
namespace DL
open PySem L2

abbrev Fn := Fr → R Sl
/-- the arguments behind the call: those that are written as they came out -/
def outs : Fr → Fr → Option Fr
  | [], _ => some []
  | .io _ :: as, .io w :: e => match outs as e with
    | some r => some (.io w :: r)
    | none => none
  | .sh d :: as, _ :: e => match outs as e with
    | some r => some (.sh d :: r)
    | none => none
  | _, _ => none
def endF (as : Fr) (s : Sl) (e : Fr) : R Sl := match outs as e with
  | some r => .ok s r
  | none => .no
def runF (n m : Nat) (f : Sf) : Fn := fun as => match f (as ++ List.replicate (m - n) .un) with
  | .ok (.rt s) e => endF as s e
  | .ok .nx e => endF as (.sh .none) e
  | .ex x e => match outs as e with
    | some r => .ex x r
    | none => .no
  | _ => .no
def argsOnly (as : Fr) : Bool := as.all fun s => match s with
  | .sh _ => true
  | .io _ => true
  | _ => false
/-- the promise: what F tells of the arguments' data -/
def spF (K : PySem.W.Frag) (mg : Str → Option Value) (n : Nat) (F : Fn) : Sp := fun vs H Q E => vs.length = n ∧ ∃ (G : Hp) (as : Fr) (A : Nat → List Addr) (t : Nat → Addr),
  Ok K ⟨H, G, A, t⟩ H G A (vs.map some) as ∧ argsOnly as = true ∧ Wp K mg ⟨H, G, A, t⟩ (fun c d _ H' => E c d H') (vs.map some) (rv K ⟨H, G, A, t⟩) G (F as) Q
theorem outs_at : ∀ {as e r : Fr} {i : Nat} {s : Sl}, outs as e = some r → r[i]? = some s → (∃ d, as[i]? = some (.sh d) ∧ s = .sh d) ∨ ∃ w w', as[i]? = some (.io w) ∧ e[i]? = some (.io w') ∧ s = .io w'
  | [], e, r, i, s, h, q => by
    cases h
    simp at q
  | .un :: _, [], _, _, _, h, _ => by cases h
  | .un :: _, _ :: _, _, _, _, h, _ => by cases h
  | .own _ :: _, [], _, _, _, h, _ => by cases h
  | .own _ :: _, _ :: _, _, _, _, h, _ => by cases h
  | .sh d :: as, [], r, i, s, h, q => by cases h
  | .sh d :: as, x :: e, r, i, s, h, q => by
    have h' : (match outs as e with
      | some r => some (Sl.sh d :: r)
      | none => none) = some r := by cases x <;> exact h
    split at h'
    · rename_i r' hr
      cases h'
      cases i with
      | zero =>
        simp at q
        exact .inl ⟨d, rfl, q.symm⟩
      | succ i =>
        have q' : r'[i]? = some s := by simpa using q
        rcases outs_at hr q' with ⟨d', h1, h2⟩ | ⟨w, w', h1, h2, h3⟩
        · exact .inl ⟨d', by simpa using h1, h2⟩
        · exact .inr ⟨w, w', by simpa using h1, by simpa using h2, h3⟩
    · cases h'
  | .io w0 :: as, [], r, i, s, h, q => by cases h
  | .io w0 :: as, .io w1 :: e, r, i, s, h, q => by
    have h' : (match outs as e with
      | some r => some (Sl.io w1 :: r)
      | none => none) = some r := h
    split at h'
    · rename_i r' hr
      cases h'
      cases i with
      | zero =>
        simp at q
        exact .inr ⟨w0, w1, rfl, rfl, q.symm⟩
      | succ i =>
        have q' : r'[i]? = some s := by simpa using q
        rcases outs_at hr q' with ⟨d', h1, h2⟩ | ⟨w, w', h1, h2, h3⟩
        · exact .inl ⟨d', by simpa using h1, h2⟩
        · exact .inr ⟨w, w', by simpa using h1, by simpa using h2, h3⟩
    · cases h'
  | .io w0 :: as, .un :: e, r, i, s, h, q => by cases h
  | .io w0 :: as, .sh _ :: e, r, i, s, h, q => by cases h
  | .io w0 :: as, .own _ :: e, r, i, s, h, q => by cases h
theorem outs_len : ∀ {as e r : Fr}, outs as e = some r → r.length = as.length
  | [], _, _, h => by
    cases h
    rfl
  | .un :: _, [], _, h => by cases h
  | .un :: _, _ :: _, _, h => by cases h
  | .own _ :: _, [], _, h => by cases h
  | .own _ :: _, _ :: _, _, h => by cases h
  | .sh d :: as, [], r, h => by cases h
  | .sh d :: as, x :: e, r, h => by
    have h' : (match outs as e with
      | some r => some (Sl.sh d :: r)
      | none => none) = some r := by cases x <;> exact h
    split at h'
    · rename_i r' hr
      cases h'
      exact congrArg Nat.succ (outs_len hr)
    · cases h'
  | .io w0 :: as, [], r, h => by cases h
  | .io w0 :: as, .io w1 :: e, r, h => by
    have h' : (match outs as e with
      | some r => some (Sl.io w1 :: r)
      | none => none) = some r := h
    split at h'
    · rename_i r' hr
      cases h'
      exact congrArg Nat.succ (outs_len hr)
    · cases h'
  | .io w0 :: as, .un :: e, r, h => by cases h
  | .io w0 :: as, .sh _ :: e, r, h => by cases h
  | .io w0 :: as, .own _ :: e, r, h => by cases h
section
variable {K : PySem.W.Frag} {mg : Str → Option Value} {Φ : Fx} {H G H' G' : Hp} {A F' : Nat → List Addr} {vs : List V} {as e r : Fr} {σ' : L2.St}
/-- behind the body: the arguments -/
theorem Ok.outs (O : Ok K Φ H G A (vs.map some) as) (O' : Ok K Φ H' G' F' σ' e) (gg : Same G G') (h : DL.outs as e = some r) : Ok K Φ H' G' F' (vs.map some) r where
  gh := O'.gh
  len := by rw [outs_len h]; exact O.len
  slots := fun i s q => by
    rcases outs_at h q with ⟨d, h1, rfl⟩ | ⟨w, w', h1, h2, rfl⟩
    · obtain ⟨v, e1, hd⟩ := O.slots i _ h1
      exact ⟨v, e1, dp_mono gg _ _ hd⟩
    · obtain ⟨a, e1, o1, n1⟩ := O.slots i _ h1
      obtain ⟨a2, e2, o2, n2⟩ := O'.slots i _ h2
      have ea : a = a2 := (n1 a o1.head).2.2.trans (n2 a2 o2.head).2.2.symm
      subst ea
      exact ⟨a, e1, o2, n2⟩
  sep := fun i j s t hij q1 q2 o1 o2 => by
    have old : ∀ {i : Nat} {s : Sl}, r[i]? = some s → s.owned = true → e[i]? = some s := fun {i s} q o => by
      rcases outs_at h q with ⟨d, _, rfl⟩ | ⟨w, w', _, h2, rfl⟩
      · cases o
      · exact h2
    exact O'.sep i j s t hij (old q1 o1) (old q2 o2) o1 o2
  f0 := O'.f0
  f1 := O'.f1
  f2 := O'.f2
theorem rv_outs {s : Sl} {v : V} (h : DL.outs as e = some r) (q : rv K Φ s v H' G' F' σ' e) : rv K Φ s v H' G' F' (vs.map some) r := by
  cases s with
  | un => exact q
  | xn => exact q
  | io _ => exact q
  | sh d => exact q
  | own w =>
    obtain ⟨a, A, e1, o1, n1, ap⟩ := q
    refine ⟨a, A, e1, o1, n1, fun j t q o => ?_⟩
    rcases outs_at h q with ⟨d, _, rfl⟩ | ⟨w, w', _, h2, rfl⟩
    · cases o
    · exact ap j _ h2 rfl
end
section
variable {P : Program} {w : World} {K : PySem.W.Frag} {mg : Str → Option Value} {base : Heap} {x qual : Str} {params : Arguments} {body : List Stmt} {scope : Scope} {dvs : List V} {kws : List (Str × V)} {f : Addr} {fd : FuncData} {N ps : List Str} {k : Nat}
/-- a def keeps the promise that its body tells -/
theorem fn_mk {bf : Sf} (Fd : FunD K x qual params body scope dvs kws f fd) (S : FnScope N ps scope)
    (hb : ∀ (cdv : Value) (A : Around) (outer : List Env) (s : Shared) (H : Hp) (E : XK), Room k (A.deeper (PyProof.Rows.envOfC qual scope s.heap.objs.size f cdv)) → A.guards = some [] → ∀ Φ : Fx, DSs (cxOf (L2.CX P w) P w K mg base N qual scope f cdv A outer s H E) Φ (fun c d _ H' => E c d H') body bf) :
    FnG P w K mg base (k + 1) f fd ps (spF K mg ps.length (runF ps.length N.length bf)) := by
  refine fn_g Fd S (fun vs H Q E h => h.1) (fun cdv A outer s H vs Q E hr gu h => ?_)
  obtain ⟨hl, G, as, Aa, t, O, ao, hw⟩ := h
  have lN : ps.length ≤ N.length := by
    have := congrArg List.length S.pre
    rw [List.length_take] at this
    omega
  have la : as.length = ps.length := by rw [O.len, List.length_map, hl]
  refine ⟨_, hb cdv A outer s H E hr gu ⟨H, G, Aa, t⟩, G, Aa, as ++ List.replicate (N.length - ps.length) .un, ?_, ?_⟩
  · have e1 : ∀ {i : Nat} {s : Sl}, (as ++ List.replicate (N.length - ps.length) Sl.un)[i]? = some s → as[i]? = some s ∨ s = .un := fun {i s} q => by
      by_cases hi : i < as.length
      · rw [List.getElem?_append_left hi] at q
        exact .inl q
      · rw [List.getElem?_append_right (by omega)] at q
        exact .inr (List.eq_of_mem_replicate (List.mem_of_getElem? q))
    refine ⟨O.gh, ?_, fun i s q => ?_, fun i j s t hij q1 q2 o1 o2 => ?_, O.f0, O.f1, O.f2⟩
    · rw [List.length_append, List.length_replicate, la]
      unfold L2.start
      rw [List.length_append, List.length_replicate, List.length_map, hl]
    · rcases e1 q with h1 | rfl
      · have hi : i < (vs.map some).length := by rw [← O.len]; exact (List.getElem?_eq_some_iff.mp h1).1
        unfold L2.start
        rw [List.getElem?_append_left hi]
        exact O.slots i s h1
      · trivial
    · have old : ∀ {i : Nat} {s : Sl}, (as ++ List.replicate (N.length - ps.length) Sl.un)[i]? = some s → s.owned = true → as[i]? = some s := fun {i s} q o => by
        rcases e1 q with h1 | rfl
        · exact h1
        · cases o
      exact O.sep i j s t hij (old q1 o1) (old q2 o2) o1 o2
  · have hw' : Wp K mg ⟨H, G, Aa, t⟩ (fun c d _ H' => E c d H') (vs.map some) (rv K ⟨H, G, Aa, t⟩) G (match bf (as ++ List.replicate (N.length - ps.length) .un) with
      | .ok (.rt s) e => endF as s e
      | .ok .nx e => endF as (.sh .none) e
      | .ex x e => match outs as e with
        | some r => .ex x r
        | none => .no
      | _ => .no) Q := hw
    cases q : bf (as ++ List.replicate (N.length - ps.length) .un) with
    | no =>
      simp only [q] at hw'
      exact hw'.elim
    | ex z e =>
      simp only [q] at hw'
      split at hw'
      · rename_i r hr
        exact fun c d σ' H' G' F' s' o p => hw' c d H' G' F' s' (O.outs o s' hr) p
      · exact hw'.elim
    | ok fl e =>
      simp only [q] at hw'
      have fin : ∀ {s : Sl}, Wp K mg ⟨H, G, Aa, t⟩ (fun c d _ H' => E c d H') (vs.map some) (rv K ⟨H, G, Aa, t⟩) G (endF as s e) Q → ∀ v σ' H' G' F', Same G G' → Ok K ⟨H, G, Aa, t⟩ H' G' F' σ' e → rv K ⟨H, G, Aa, t⟩ s v H' G' F' σ' e → Q v H' := fun {s} z v σ' H' G' F' s' o p => by
        unfold endF at z
        split at z
        · rename_i r hr
          exact z v H' G' F' s' (O.outs o s' hr) (rv_outs hr p)
        · exact z.elim
      cases fl with
      | nx => exact fun v σ' H' G' F' s' o => fin hw' .non σ' H' G' F' s' o .non
      | rt s => exact fun v σ' H' G' F' s' o p => fin hw' v σ' H' G' F' s' o p
      | bk => exact hw'.elim
      | ct => exact hw'.elim
end

/-! ### a call -/
abbrev Ps := List (Bool × Arg)
/-- an argument as the callee has it: written (true), or read -/
def arg1 (e : Fr) : Bool × Arg → Option Sl
  | (true, .slot i) => match e[i]? with
    | some (.own w) => some (.io w)
    | some (.io w) => some (.io w)
    | _ => none
  | (true, .val _) => none
  | (false, .val d) => some (.sh d)
  | (false, .slot i) => match e[i]? with
    | some (.sh d) => some (.sh d)
    | some (.own w) => some (.sh w.toD)
    | some (.io w) => some (.sh w.toD)
    | _ => none
def argS (e : Fr) : Ps → Option Fr
  | [] => some []
  | p :: r => match arg1 e p with
    | some s => match argS e r with
      | some ss => some (s :: ss)
      | none => none
    | none => none
/-- the slots that are written, those whose objects are lent -/
def ioL : Ps → List Nat
  | [] => []
  | (true, .slot i) :: r => i :: ioL r
  | _ :: r => ioL r
def boL (e : Fr) : Ps → List Nat
  | [] => []
  | (false, .slot i) :: r => match e[i]? with
    | some (.own _) => i :: boL e r
    | some (.io _) => i :: boL e r
    | _ => boL e r
  | _ :: r => boL e r
def apart : List Nat → List Nat → Bool
  | [], _ => true
  | i :: r, bo => !(r.contains i) && !(bo.contains i) && apart r bo
def outAt : Ps → Fr → Nat → Option Ow
  | (true, .slot i) :: r, s :: ss, j => if i = j then (match s with
    | .io w => some w
    | _ => none) else outAt r ss j
  | _ :: r, _ :: ss, j => outAt r ss j
  | _, _, _ => none
/-- a slot behind the call -/
def slB (ps : Ps) (os : Fr) (fr : Bool) (bo : List Nat) (j : Nat) (s : Sl) : Sl := match outAt ps os j with
  | some w => s.put w
  | none => if (ioL ps).contains j then .un else if fr && bo.contains j then (match s with
    | .own w => .sh w.toD
    | s => s) else s
def slsB (ps : Ps) (os : Fr) (fr : Bool) (bo : List Nat) : Nat → Fr → Fr
  | _, [] => []
  | j, s :: r => slB ps os fr bo j s :: slsB ps os fr bo (j + 1) r
def flatD : D → Bool
  | .none => true
  | .bool _ => true
  | .int _ => true
  | .str _ => true
  | _ => false
def flatS : Sl → Bool
  | .sh d => flatD d
  | _ => false
def flatO : Fr → Bool
  | [] => true
  | .sh _ :: r => flatO r
  | .io (.ls ds) :: r => ds.all flatD && flatO r
  | _ => false
def noIo (e : Fr) (bo : List Nat) : Bool := bo.all fun i => match e[i]? with
  | some (.io _) => false
  | _ => true
def toRV : Sl → R RV → R RV
  | .sh d, .ok _ e => .ok (.arg (.val d)) e
  | .own w, .ok _ e => .ok (.new w) e
  | _, _ => .no
def callR (F : Fn) (ps : Ps) (e : Fr) : R RV := match apart (ioL ps) (boL e ps) with
  | false => .no
  | true => match argS e ps with
    | none => .no
    | some sl => match F sl with
      | .no => .no
      | .ex x os => if noIo e (boL e ps) = true then .ex x (slsB ps os true (boL e ps) 0 e) else .no
      | .ok s os => if (flatS s && flatO os) = true then toRV s (.ok (.arg (.val .none)) (slsB ps os false (boL e ps) 0 e)) else
        if noIo e (boL e ps) = true then toRV s (.ok (.arg (.val .none)) (slsB ps os true (boL e ps) 0 e)) else .no
def eFn (F : Fn) (ms : List Bool) (fa : Af) : Rf := fun e => (fa e).bind fun as e1 => callR F (ms.zip as) e1
theorem slsB_at {ps : Ps} {os : Fr} {fr : Bool} {bo : List Nat} : ∀ {e : Fr} {n i : Nat} {s : Sl}, (slsB ps os fr bo n e)[i]? = some s → ∃ t, e[i]? = some t ∧ s = slB ps os fr bo (n + i) t
  | [], n, i, s, h => by simp [slsB] at h
  | t :: r, n, 0, s, h => by
    simp [slsB] at h
    exact ⟨t, rfl, h.symm⟩
  | t :: r, n, i + 1, s, h => by
    have h' : (slsB ps os fr bo (n + 1) r)[i]? = some s := by simpa [slsB] using h
    obtain ⟨u, h1, h2⟩ := slsB_at h'
    refine ⟨u, by simpa using h1, ?_⟩
    have : n + 1 + i = n + (i + 1) := by omega
    rw [← this]
    exact h2
theorem slsB_len {ps : Ps} {os : Fr} {fr : Bool} {bo : List Nat} : ∀ {e : Fr} {n : Nat}, (slsB ps os fr bo n e).length = e.length
  | [], _ => rfl
  | _ :: r, n => congrArg Nat.succ (slsB_len (e := r) (n := n + 1))
end DL
set_option Elab.async false
set_option linter.all false
set_option maxRecDepth 100000
set_option maxHeartbeats 4000000
/-! DlI: calls of defs. -/
namespace DL
open PySem L2

theorem apart_io : ∀ {l bo : List Nat}, apart l bo = true → l.Nodup ∧ ∀ i ∈ l, i ∉ bo
  | [], _, _ => ⟨.nil, fun i h => by cases h⟩
  | i :: r, bo, h => by
    unfold apart at h
    simp only [Bool.and_eq_true, Bool.not_eq_true', List.contains_eq_mem, decide_eq_false_iff_not] at h
    obtain ⟨⟨h1, h2⟩, h3⟩ := h
    obtain ⟨h4, h5⟩ := apart_io h3
    refine ⟨List.nodup_cons.mpr ⟨h1, h4⟩, fun j hj => ?_⟩
    rcases List.mem_cons.mp hj with rfl | hj
    · exact h2
    · exact h5 j hj
theorem ioL_mem : ∀ {ps : Ps} {k i : Nat}, ps[k]? = some (true, .slot i) → i ∈ ioL ps
  | [], k, i, h => by simp at h
  | p :: r, 0, i, h => by
    simp at h
    subst h
    exact List.mem_cons_self
  | p :: r, k + 1, i, h => by
    have h' : r[k]? = some (true, .slot i) := by simpa using h
    have := ioL_mem h'
    obtain ⟨m, a⟩ := p
    cases m <;> cases a <;> first | exact this | exact List.mem_cons_of_mem _ this
theorem ioL_uniq : ∀ {ps : Ps} {k k' i : Nat}, (ioL ps).Nodup → ps[k]? = some (true, .slot i) → ps[k']? = some (true, .slot i) → k = k'
  | [], k, k', i, _, h, _ => by simp at h
  | p :: r, 0, 0, i, _, _, _ => rfl
  | p :: r, 0, k' + 1, i, nd, h, h' => by
    simp at h
    subst h
    have q : r[k']? = some (true, .slot i) := by simpa using h'
    exact absurd (ioL_mem q) (List.nodup_cons.mp (show (i :: ioL r).Nodup from nd)).1
  | p :: r, k + 1, 0, i, nd, h, h' => by
    simp at h'
    subst h'
    have q : r[k]? = some (true, .slot i) := by simpa using h
    exact absurd (ioL_mem q) (List.nodup_cons.mp (show (i :: ioL r).Nodup from nd)).1
  | p :: r, k + 1, k' + 1, i, nd, h, h' => by
    have q : r[k]? = some (true, .slot i) := by simpa using h
    have q' : r[k']? = some (true, .slot i) := by simpa using h'
    have nd' : (ioL r).Nodup := by
      obtain ⟨m, a⟩ := p
      cases m <;> cases a <;> first | exact nd | exact (List.nodup_cons.mp (show (_ :: ioL r).Nodup from nd)).2
    exact congrArg Nat.succ (ioL_uniq nd' q q')
theorem ioL_of : ∀ {ps : Ps} {i : Nat}, i ∈ ioL ps → ∃ k : Nat, ps[k]? = some (true, Arg.slot i)
  | [], i, h => by cases h
  | (true, .slot j) :: r, i, h => by
    rcases List.mem_cons.mp (show i ∈ j :: ioL r from h) with rfl | h
    · exact ⟨0, rfl⟩
    · obtain ⟨k, q⟩ := ioL_of h
      exact ⟨k + 1, by simpa using q⟩
  | (true, .val _) :: r, i, h => by
    obtain ⟨k, q⟩ := ioL_of (show i ∈ ioL r from h)
    exact ⟨k + 1, by simpa using q⟩
  | (false, .slot _) :: r, i, h => by
    obtain ⟨k, q⟩ := ioL_of (show i ∈ ioL r from h)
    exact ⟨k + 1, by simpa using q⟩
  | (false, .val _) :: r, i, h => by
    obtain ⟨k, q⟩ := ioL_of (show i ∈ ioL r from h)
    exact ⟨k + 1, by simpa using q⟩
theorem boL_mem {e : Fr} : ∀ {ps : Ps} {k i : Nat} {s : Sl}, ps[k]? = some (false, .slot i) → e[i]? = some s → s.owned = true → i ∈ boL e ps
  | [], k, i, s, h, _, _ => by simp at h
  | p :: r, 0, i, s, h, q, o => by
    simp at h
    subst h
    unfold boL
    rw [q]
    cases s with
    | un => cases o
    | xn => cases o
    | sh _ => cases o
    | own _ => exact List.mem_cons_self
    | io _ => exact List.mem_cons_self
  | p :: r, k + 1, i, s, h, q, o => by
    have h' : r[k]? = some (false, .slot i) := by simpa using h
    have := boL_mem h' q o
    obtain ⟨m, a⟩ := p
    cases m with
    | true => cases a <;> exact this
    | false =>
      cases a with
      | val _ => exact this
      | slot j =>
        unfold boL
        split
        · exact List.mem_cons_of_mem _ this
        · exact List.mem_cons_of_mem _ this
        · exact this
theorem boL_of {e : Fr} : ∀ {ps : Ps} {i : Nat}, i ∈ boL e ps → ∃ s, e[i]? = some s ∧ s.owned = true
  | [], i, h => by cases h
  | (true, a) :: r, i, h => by
    have : i ∈ boL e r := by cases a <;> exact h
    exact boL_of this
  | (false, .val _) :: r, i, h => boL_of (show i ∈ boL e r from h)
  | (false, .slot j) :: r, i, h => by
    unfold boL at h
    split at h
    · rename_i w q
      rcases List.mem_cons.mp h with rfl | h
      · exact ⟨_, q, rfl⟩
      · exact boL_of h
    · rename_i w q
      rcases List.mem_cons.mp h with rfl | h
      · exact ⟨_, q, rfl⟩
      · exact boL_of h
    · exact boL_of h
theorem outAt_of : ∀ {ps : Ps} {os : Fr} {j : Nat} {w : Ow}, outAt ps os j = some w → ∃ k : Nat, ps[k]? = some (true, Arg.slot j) ∧ os[k]? = some (Sl.io w)
  | [], _, _, _, h => by
    unfold outAt at h
    cases h
  | (true, .slot i) :: r, [], _, _, h => by
    unfold outAt at h
    cases h
  | (true, .slot i) :: r, s :: ss, j, w, h => by
    unfold outAt at h
    split at h
    · rename_i e
      subst e
      split at h
      · cases h
        exact ⟨0, rfl, rfl⟩
      · cases h
    · obtain ⟨k, h1, h2⟩ := outAt_of h
      exact ⟨k + 1, by simpa using h1, by simpa using h2⟩
  | (true, .val _) :: r, [], _, _, h => by
    unfold outAt at h
    cases h
  | (false, _) :: r, [], _, _, h => by
    unfold outAt at h
    cases h
  | (true, .val _) :: r, s :: ss, j, w, h => by
    obtain ⟨k, h1, h2⟩ := outAt_of (show outAt r ss j = some w from h)
    exact ⟨k + 1, by simpa using h1, by simpa using h2⟩
  | (false, .val _) :: r, s :: ss, j, w, h => by
    obtain ⟨k, h1, h2⟩ := outAt_of (show outAt r ss j = some w from h)
    exact ⟨k + 1, by simpa using h1, by simpa using h2⟩
  | (false, .slot _) :: r, s :: ss, j, w, h => by
    obtain ⟨k, h1, h2⟩ := outAt_of (show outAt r ss j = some w from h)
    exact ⟨k + 1, by simpa using h1, by simpa using h2⟩
theorem argS_at {e : Fr} : ∀ {ps : Ps} {sl : Fr} {k : Nat} {s : Sl}, argS e ps = some sl → sl[k]? = some s → ∃ p, ps[k]? = some p ∧ arg1 e p = some s
  | [], sl, k, s, h, q => by
    cases h
    simp at q
  | p :: r, sl, k, s, h, q => by
    unfold argS at h
    split at h
    · rename_i s0 e0
      split at h
      · rename_i ss e1
        cases h
        cases k with
        | zero =>
          simp at q
          subst q
          exact ⟨p, rfl, e0⟩
        | succ k =>
          obtain ⟨p', h1, h2⟩ := argS_at e1 (show ss[k]? = some s by simpa using q)
          exact ⟨p', by simpa using h1, h2⟩
      · cases h
    · cases h
theorem argS_len {e : Fr} : ∀ {ps : Ps} {sl : Fr}, argS e ps = some sl → sl.length = ps.length
  | [], sl, h => by
    cases h
    rfl
  | p :: r, sl, h => by
    unfold argS at h
    split at h
    · split at h
      · rename_i ss e1
        cases h
        exact congrArg Nat.succ (argS_len e1)
      · cases h
    · cases h
theorem argS_only {e : Fr} : ∀ {ps : Ps} {sl : Fr}, argS e ps = some sl → argsOnly sl = true
  | [], sl, h => by
    cases h
    rfl
  | p :: r, sl, h => by
    unfold argS at h
    split at h
    · rename_i s0 e0
      split at h
      · rename_i ss e1
        cases h
        have := argS_only e1
        unfold argsOnly at this ⊢
        rw [List.all_cons, this, Bool.and_true]
        obtain ⟨m, a⟩ := p
        cases m <;> cases a <;> unfold arg1 at e0
        · cases e0
          rfl
        · simp only at e0
          split at e0 <;> cases e0 <;> rfl
        · cases e0
        · simp only at e0
          split at e0 <;> cases e0 <;> rfl
      · cases h
    · cases h
mutual
theorem flat_any {K : PySem.W.Frag} {G G' : Hp} : ∀ {v : V} {d : D}, flatD d = true → Dp K G v d → Dp K G' v d
  | _, .none, _, h => by cases h; exact .non
  | _, .bool b, _, h => by cases h; exact .bl b
  | _, .int i, _, h => by cases h; exact .int i
  | _, .str x, _, h => by cases h; exact .str x
  | _, .list _, f, _ => by cases f
  | _, .tuple _, f, _ => by cases f
  | _, .dict _, f, _ => by cases f
end
theorem flat_all {K : PySem.W.Frag} {G G' : Hp} : ∀ {vs : List V} {ds : List D}, ds.all flatD = true → DpAll K G vs ds → DpAll K G' vs ds
  | _, [], _, h => by cases h; exact .nil
  | _, d :: ds, f, h => by
    cases h with
    | cons h1 h2 =>
      rw [List.all_cons, Bool.and_eq_true] at f
      exact .cons (flat_any f.1 h1) (flat_all f.2 h2)
theorem flatO_at : ∀ {os : Fr} {k : Nat} {w : Ow}, flatO os = true → os[k]? = some (.io w) → ∃ ds, w = .ls ds ∧ ds.all flatD = true
  | [], k, w, _, q => by simp at q
  | .un :: _, _, _, f, _ => by cases f
  | .own _ :: _, _, _, f, _ => by cases f
  | .sh _ :: r, 0, w, _, q => by simp at q
  | .sh _ :: r, k + 1, w, f, q => flatO_at (show flatO r = true from f) (by simpa using q)
  | .io (.ls ds) :: r, 0, w, f, q => by
    simp at q
    exact ⟨ds, q.symm, (Bool.and_eq_true_iff.mp (show (ds.all flatD && flatO r) = true from f)).1⟩
  | .io (.ls ds) :: r, k + 1, w, f, q => flatO_at (Bool.and_eq_true_iff.mp (show (ds.all flatD && flatO r) = true from f)).2 (by simpa using q)
  | .io (.ll _) :: r, _, _, f, _ => by cases f
section
variable {K : PySem.W.Frag} {mg : Str → Option Value} {Φ : Fx} {W : WX} {H G : Hp} {F : Nat → List Addr} {σ : L2.St} {e : Fr} {as : List Arg} {vs : List V} {ms : List Bool} {sl : Fr}
/-- the lent objects -/
def lent (F : Nat → List Addr) (bo : List Nat) : List Addr := bo.flatMap F
/-- the written objects, by the places of the arguments -/
def wrote (F : Nat → List Addr) (ps : Ps) (k : Nat) : List Addr := match ps[k]? with
  | some (true, .slot i) => F i
  | _ => []
def addrAt (vs : List V) (k : Nat) : Addr := match vs[k]? with
  | some (.ref a) => a
  | _ => 0
abbrev callFx (H G : Hp) (F : Nat → List Addr) (ps : Ps) (bo : List Nat) (vs : List V) : Fx := ⟨H, takeIn H G (lent F bo), wrote F ps, addrAt vs⟩
theorem Ok.frees (O : Ok K Φ H G F σ e) {i : Nat} {s : Sl} (q : e[i]? = some s) (o : s.owned = true) : ∀ b ∈ F i, G b = none ∧ ∃ vs, H b = some (.lst vs) := fun b hb => by
  have old := O.slots i s q
  cases s with
  | un => cases o
  | xn => cases o
  | sh _ => cases o
  | own w =>
    obtain ⟨a, _, h1, h2⟩ := old
    exact ⟨(h2 b hb).1, h1.there b hb⟩
  | io w =>
    obtain ⟨a, _, h1, h2⟩ := old
    exact ⟨(h2 b hb).1, h1.there b hb⟩
theorem rs_at : ∀ {as : List Arg} {vs : List V} {k : Nat} {a : Arg}, rs K as vs H G F σ e → as[k]? = some a → ∃ v, vs[k]? = some v ∧ ra K a v H G F σ e
  | [], vs, k, a, r, q => by simp at q
  | b :: as, _, 0, a, r, q => by
    cases r with
    | cons h t =>
      simp at q
      subst q
      exact ⟨_, rfl, h⟩
  | b :: as, _, k + 1, a, r, q => by
    cases r with
    | cons h t =>
      obtain ⟨v, h1, h2⟩ := rs_at t (show as[k]? = some a by simpa using q)
      exact ⟨v, by simpa using h1, h2⟩
theorem zip_at {m : Bool} {a : Arg} {k : Nat} (h : (ms.zip as)[k]? = some (m, a)) : as[k]? = some a := (List.getElem?_zip_eq_some.mp h).2
theorem call_start (O : Ok K Φ H G F σ e) (r : rs K as vs H G F σ e) (hl : ms.length = as.length) (ap : apart (ioL (ms.zip as)) (boL e (ms.zip as)) = true) (q : argS e (ms.zip as) = some sl) :
    Same G (takeIn H G (lent F (boL e (ms.zip as)))) ∧ Ok K (callFx H G F (ms.zip as) (boL e (ms.zip as)) vs) H (takeIn H G (lent F (boL e (ms.zip as)))) (wrote F (ms.zip as)) (vs.map some) sl := by
  generalize hbo : boL e (ms.zip as) = bo at *
  obtain ⟨nd, dj⟩ := apart_io ap
  have lv := r.length
  have lentG : ∀ b ∈ lent F bo, G b = none := fun b hb => by
    obtain ⟨i, hi, hb⟩ := List.mem_flatMap.mp hb
    rw [← hbo] at hi
    obtain ⟨s, q, o⟩ := boL_of hi
    exact (O.frees q o b hb).1
  have hs : Same G (takeIn H G (lent F bo)) := takeIn_same lentG
  have key : ∀ {k : Nat} {s : Sl}, sl[k]? = some s → ∃ m a v, (ms.zip as)[k]? = some (m, a) ∧ arg1 e (m, a) = some s ∧ vs[k]? = some v ∧ ra K a v H G F σ e := fun {k s} z => by
    obtain ⟨⟨m, a⟩, h1, h2⟩ := argS_at q z
    obtain ⟨v, h3, h4⟩ := rs_at r (zip_at h1)
    exact ⟨m, a, v, h1, h2, h3, h4⟩
  have ioKey : ∀ {k : Nat} {s : Sl}, sl[k]? = some s → s.owned = true → ∃ i t w, (ms.zip as)[k]? = some (true, .slot i) ∧ e[i]? = some t ∧ t.owned = true ∧ s = .io w ∧ (∀ {H' G' : Hp}, True) := fun {k s} z o => by
    obtain ⟨m, a, v, h1, h2, h3, h4⟩ := key z
    cases m with
    | false =>
      cases a with
      | val d =>
        cases h2
        cases o
      | slot i =>
        unfold arg1 at h2
        simp only at h2
        split at h2 <;> cases h2 <;> cases o
    | true =>
      cases a with
      | val d => cases h2
      | slot i =>
        unfold arg1 at h2
        simp only at h2
        split at h2
        · rename_i w hw
          cases h2
          exact ⟨i, _, w, h1, hw, rfl, rfl, trivial⟩
        · rename_i w hw
          cases h2
          exact ⟨i, _, w, h1, hw, rfl, rfl, trivial⟩
        · cases h2
  refine ⟨hs, takeIn_sub O.gh, ?_, fun k s z => ?_, fun k k' s t hk z1 z2 o1 o2 => ?_, fun b hb => hb, fun b o z _ => z, fun b _ => rfl⟩
  · rw [argS_len q, List.length_map, ← lv, List.length_zip, hl, Nat.min_self]
  · obtain ⟨m, a, v, h1, h2, h3, h4⟩ := key z
    have ev : (vs.map some)[k]? = some (some v) := by rw [List.getElem?_map, h3]; rfl
    have lend : ∀ {i : Nat} {w : Ow} {t : Sl} {b : Addr}, a = .slot i → m = false → e[i]? = some t → t.owned = true → OwAt K G H w b (F i) → v = .ref b → Dp K (takeIn H G (lent F bo)) v w.toD := fun {i w t b} ea em hq ho o1 e1 => by
      rw [e1]
      refine o1.dp hs fun c hc => takeIn_in (List.mem_flatMap.mpr ⟨i, ?_, hc⟩)
      rw [← hbo]
      rw [ea, em] at h1
      exact boL_mem h1 hq ho
    have wrt : ∀ {i : Nat} {w : Ow} {t : Sl} {b : Addr}, (ms.zip as)[k]? = some (true, .slot i) → e[i]? = some t → t.owned = true → OwAt K G H w b (F i) → v = .ref b → slotOk K (callFx H G F (ms.zip as) bo vs) H (takeIn H G (lent F bo)) (wrote F (ms.zip as) k) k (.io w) (vs.map some)[k]? := fun {i w t b} hk hq ho o1 e1 => by
      have ew : wrote F (ms.zip as) k = F i := by unfold wrote; rw [hk]
      rw [ew]
      refine ⟨b, by rw [ev, e1], o1.mono hs (fun _ _ _ z => z), fun c hc => ⟨?_, .inl (by show c ∈ wrote F (ms.zip as) k; rw [ew]; exact hc), ?_⟩⟩
      · rw [takeIn_out ?_]
        · exact (O.frees hq ho c hc).1
        · intro hm
          obtain ⟨j, hj, hc2⟩ := List.mem_flatMap.mp hm
          have hj' := hj
          rw [← hbo] at hj'
          obtain ⟨u, hu, ou⟩ := boL_of hj'
          by_cases eij : i = j
          · exact dj i (ioL_mem hk) (by rw [eij]; exact hj)
          · exact O.sep i j t u eij hq hu ho ou c hc hc2
      · show b = addrAt vs k
        unfold addrAt
        rw [h3, e1]
    cases m with
    | false =>
      cases a with
      | val d =>
        cases h2
        exact ⟨v, ev, dp_mono hs _ _ h4⟩
      | slot i =>
        have h4' : σ[i]? = some (some v) := h4
        unfold arg1 at h2
        simp only at h2
        split at h2
        · rename_i d hq
          cases h2
          obtain ⟨v2, e2, hd⟩ := O.slots i _ hq
          rw [h4'] at e2
          cases e2
          exact ⟨v, ev, dp_mono hs _ _ hd⟩
        · rename_i w hq
          cases h2
          obtain ⟨b, e2, o1, _⟩ := O.slots i _ hq
          rw [h4'] at e2
          cases e2
          exact ⟨_, ev, lend rfl rfl hq rfl o1 rfl⟩
        · rename_i w hq
          cases h2
          obtain ⟨b, e2, o1, _⟩ := O.slots i _ hq
          rw [h4'] at e2
          cases e2
          exact ⟨_, ev, lend rfl rfl hq rfl o1 rfl⟩
        · cases h2
    | true =>
      cases a with
      | val d => cases h2
      | slot i =>
        have h4' : σ[i]? = some (some v) := h4
        unfold arg1 at h2
        simp only at h2
        split at h2
        · rename_i w hq
          cases h2
          obtain ⟨b, e2, o1, _⟩ := O.slots i _ hq
          rw [h4'] at e2
          cases e2
          exact wrt h1 hq rfl o1 rfl
        · rename_i w hq
          cases h2
          obtain ⟨b, e2, o1, _⟩ := O.slots i _ hq
          rw [h4'] at e2
          cases e2
          exact wrt h1 hq rfl o1 rfl
        · cases h2
  · obtain ⟨i, t1, w1, p1, q1, u1, _, _⟩ := ioKey z1 o1
    obtain ⟨j, t2, w2, p2, q2, u2, _, _⟩ := ioKey z2 o2
    have hij : i ≠ j := fun z => hk (ioL_uniq nd p1 (by rw [z]; exact p2))
    intro b hb
    have e1 : wrote F (ms.zip as) k = F i := by unfold wrote; rw [p1]
    have e2 : wrote F (ms.zip as) k' = F j := by unfold wrote; rw [p2]
    rw [e1] at hb
    rw [e2]
    exact O.sep i j t1 t2 hij q1 q2 u1 u2 b hb
end
end DL
set_option Elab.async false
set_option linter.all false
set_option maxRecDepth 100000
set_option maxHeartbeats 4000000
/-! DlJ: behind a call. -/
namespace DL
open PySem L2

open Classical in
/-- the footprints behind the call -/
noncomputable def foot (F F2 : Nat → List Addr) (ps : Ps) (j : Nat) : List Addr := if h : ∃ k : Nat, ps[k]? = some (true, Arg.slot j) then F2 h.choose else F j
theorem foot_io {F F2 : Nat → List Addr} {ps : Ps} {k j : Nat} (nd : (ioL ps).Nodup) (h : ps[k]? = some (true, Arg.slot j)) : foot F F2 ps j = F2 k := by
  have hx : ∃ k : Nat, ps[k]? = some (true, Arg.slot j) := ⟨k, h⟩
  unfold foot
  rw [dif_pos hx, ioL_uniq nd hx.choose_spec h]
theorem foot_no {F F2 : Nat → List Addr} {ps : Ps} {j : Nat} (h : j ∉ ioL ps) : foot F F2 ps j = F j := by
  unfold foot
  rw [dif_neg]
  exact fun ⟨k, q⟩ => h (ioL_mem q)
section
variable {K : PySem.W.Frag} {mg : Str → Option Value} {Φ : Fx} {W : WX} {H G H' G' Gn : Hp} {F F2 : Nat → List Addr} {σ : L2.St} {e os : Fr} {as : List Arg} {vs : List V} {ms : List Bool} {sl : Fr} {fr : Bool}
theorem argS_io {ps : Ps} (q : argS e ps = some sl) : ∀ {k i : Nat}, ps[k]? = some (true, Arg.slot i) → ∃ t, e[i]? = some t ∧ t.owned = true := by
  intro k i hk
  have hl : k < sl.length := by rw [argS_len q]; exact (List.getElem?_eq_some_iff.mp hk).1
  obtain ⟨p, h1, h2⟩ := argS_at q (List.getElem?_eq_getElem hl)
  rw [hk] at h1
  cases h1
  unfold arg1 at h2
  simp only at h2
  split at h2
  · rename_i w hw
    exact ⟨_, hw, rfl⟩
  · rename_i w hw
    exact ⟨_, hw, rfl⟩
  · cases h2
theorem slB_cases {ps : Ps} {bo : List Nat} {j : Nat} {t s : Sl} (h : s = slB ps os fr bo j t) :
    (∃ w, outAt ps os j = some w ∧ s = t.put w) ∨ (s = .un) ∨ (j ∉ ioL ps ∧ fr = true ∧ j ∈ bo ∧ ∃ w, t = .own w ∧ s = .sh w.toD) ∨ (j ∉ ioL ps ∧ s = t ∧ (fr = true → j ∈ bo → ∀ w, t ≠ .own w)) := by
  unfold slB at h
  cases q : outAt ps os j with
  | some w =>
    rw [q] at h
    exact .inl ⟨w, rfl, h⟩
  | none =>
    rw [q] at h
    simp only at h
    split at h
    · exact .inr (.inl h)
    · rename_i hn
      have hn' : j ∉ ioL ps := by simpa using hn
      split at h
      · rename_i hb
        rw [Bool.and_eq_true] at hb
        have hb' : j ∈ bo := by simpa using hb.2
        cases t with
        | own w => exact .inr (.inr (.inl ⟨hn', hb.1, hb', w, rfl, h⟩))
        | un => exact .inr (.inr (.inr ⟨hn', h, fun _ _ w z => by cases z⟩))
        | xn => exact .inr (.inr (.inr ⟨hn', h, fun _ _ w z => by cases z⟩))
        | sh _ => exact .inr (.inr (.inr ⟨hn', h, fun _ _ w z => by cases z⟩))
        | io _ => exact .inr (.inr (.inr ⟨hn', h, fun _ _ w z => by cases z⟩))
      · rename_i hb
        exact .inr (.inr (.inr ⟨hn', h, fun hf hm => absurd (by rw [hf, Bool.true_and]; simpa using hm) hb⟩))
theorem put_owned {t : Sl} {w : Ow} : (t.put w).owned = true := by cases t <;> rfl
theorem call_end (O : Ok K Φ H G F σ e) (r : rs K as vs H G F σ e) (hl : ms.length = as.length) (ap : apart (ioL (ms.zip as)) (boL e (ms.zip as)) = true) (q : argS e (ms.zip as) = some sl)
    (O' : Ok K (callFx H G F (ms.zip as) (boL e (ms.zip as)) vs) H' G' F2 (vs.map some) os) (gg : Same (takeIn H G (lent F (boL e (ms.zip as)))) G')
    (hG : (fr = true ∧ Gn = G' ∧ noIo e (boL e (ms.zip as)) = true) ∨ (fr = false ∧ Gn = G ∧ flatO os = true)) :
    Same G Gn ∧ Ok K Φ H' Gn (foot F F2 (ms.zip as)) σ (slsB (ms.zip as) os fr (boL e (ms.zip as)) 0 e) := by
  obtain ⟨hs, O1⟩ := call_start O r hl ap q
  have ioA := @argS_io e sl _ q
  generalize hbo : boL e (ms.zip as) = bo at *
  generalize hps : ms.zip as = ps at *
  obtain ⟨nd, dj⟩ := apart_io ap
  have sG : Same G Gn := by
    rcases hG with ⟨_, rfl, _⟩ | ⟨_, rfl, _⟩
    · exact hs.trans gg
    · exact Same.refl _
  have lentBo : ∀ b ∈ lent F bo, ∃ i ∈ bo, b ∈ F i ∧ ∃ s, e[i]? = some s ∧ s.owned = true := fun b hb => by
    obtain ⟨i, hi, hb⟩ := List.mem_flatMap.mp hb
    have hi' := hi
    rw [← hbo] at hi'
    exact ⟨i, hi, hb, boL_of hi'⟩
  have wr : ∀ {k : Nat} {b : Addr}, b ∈ wrote F ps k → ∃ i t, ps[k]? = some (true, Arg.slot i) ∧ b ∈ F i ∧ e[i]? = some t ∧ t.owned = true := fun {k b} hb => by
    unfold wrote at hb
    split at hb
    · rename_i i hk
      obtain ⟨t, h1, h2⟩ := ioA hk
      exact ⟨i, t, hk, hb, h1, h2⟩
    · cases hb
  have keepH : ∀ {j : Nat} {t : Sl} {b : Addr}, e[j]? = some t → t.owned = true → j ∉ ioL ps → b ∈ F j → ∀ o, H b = some o → H' b = some o := fun {j t b} hj ho hn hb o ho2 => by
    refine O'.f1 b o ho2 fun k hk => ?_
    obtain ⟨i, u, h1, h2, h3, h4⟩ := wr (show b ∈ wrote F ps k from hk)
    exact O.sep j i t u (fun z => hn (by rw [z]; exact ioL_mem h1)) hj h3 ho h4 b hb h2
  have outLent : ∀ {j : Nat} {t : Sl} {b : Addr}, e[j]? = some t → t.owned = true → j ∉ bo → b ∈ F j → b ∉ lent F bo := fun {j t b} hj ho hn hb hm => by
    obtain ⟨i, hi, hb2, s, h1, h2⟩ := lentBo b hm
    exact O.sep j i t s (fun z => hn (by rw [z]; exact hi)) hj h1 ho h2 b hb hb2
  have noneGn : ∀ {j : Nat} {t : Sl} {b : Addr}, e[j]? = some t → t.owned = true → (fr = true → j ∉ bo) → b ∈ F j → Gn b = none := fun {j t b} hj ho hn hb => by
    obtain ⟨n1, vs1, l1⟩ := O.frees hj ho b hb
    rcases hG with ⟨hf, rfl, _⟩ | ⟨_, rfl, _⟩
    · have := O'.f2 b (show H b ≠ none by rw [l1]; exact fun z => nomatch z)
      rw [this]
      show takeIn H G (lent F bo) b = none
      rw [takeIn_out (outLent hj ho (hn hf) hb)]
      exact n1
    · exact n1
  have sigma : ∀ {k i : Nat}, ps[k]? = some (true, Arg.slot i) → ∃ v, vs[k]? = some v ∧ σ[i]? = some (some v) := fun {k i} hk => by
    rw [← hps] at hk
    obtain ⟨v, h1, h2⟩ := rs_at r (zip_at hk)
    exact ⟨v, h1, h2⟩
  have h0 : ∀ {b : Addr}, H b = none → Φ.H_0 b = none := fun {b} z => O.noentry z
  have ioNot : ∀ {j : Nat}, j ∈ ioL ps → j ∉ bo := fun {j} h => dj j h
  refine ⟨sG, ?_, ?_, fun j s z => ?_, fun i j s t hij z1 z2 o1 o2 => ?_, fun b hb => O'.f0 b (O.f0 b hb), fun b o z m => ?_, fun b hb => ?_⟩
  · rcases hG with ⟨_, rfl, _⟩ | ⟨_, rfl, _⟩
    · exact O'.gh
    · intro b o z
      refine O'.f1 b o (O.gh b o z) fun k hk => ?_
      obtain ⟨i, u, h1, h2, h3, h4⟩ := wr (show b ∈ wrote F ps k from hk)
      rw [(O.frees h3 h4 b h2).1] at z
      cases z
  · rw [slsB_len]
    exact O.len
  · obtain ⟨t, ht, es⟩ := slsB_at z
    rw [Nat.zero_add] at es
    have old := O.slots j t ht
    rcases slB_cases es with ⟨w, hw, rfl⟩ | rfl | ⟨hn, hf, hb, w, rfl, rfl⟩ | ⟨hn, rfl, hx⟩
    · obtain ⟨k, hk, hos⟩ := outAt_of hw
      obtain ⟨t', ht', ho⟩ := ioA hk
      rw [ht] at ht'
      cases ht'
      rw [foot_io nd hk]
      obtain ⟨a, ea, oa, na⟩ := O'.slots k _ hos
      obtain ⟨v, ev, sv⟩ := sigma hk
      have ea' : v = .ref a := by
        rw [List.getElem?_map, ev] at ea
        exact Option.some.inj (Option.some.inj ea)
      subst ea'
      have ow : OwAt K Gn H' w a (F2 k) := by
        rcases hG with ⟨_, rfl, _⟩ | ⟨_, rfl, hfl⟩
        · exact oa
        · obtain ⟨ds, rfl, fl⟩ := flatO_at hfl hos
          obtain ⟨vs', h1, h2, h3⟩ := owls oa
          rw [h3]
          exact .ls h1 (flat_all fl h2)
      have nG : ∀ b ∈ F2 k, Gn b = none := fun b hb => by
        rcases hG with ⟨_, rfl, _⟩ | ⟨_, rfl, hfl⟩
        · exact (na b hb).1
        · rcases (na b hb).2.1 with z | z
          · obtain ⟨i, u, h1, h2, h3, h4⟩ := wr (show b ∈ wrote F ps k from z)
            exact (O.frees h3 h4 b h2).1
          · exact same_back O.gh (show H b = none from z)
      have src : ∀ b ∈ F2 k, b ∈ F j ∨ H b = none := fun b hb => by
        rcases (na b hb).2.1 with z | z
        · have z' : b ∈ wrote F ps k := z
          unfold wrote at z'
          rw [hk] at z'
          exact .inl z'
        · exact .inr z
      cases t with
      | un => cases ho
      | xn => cases ho
      | sh _ => cases ho
      | own u =>
        obtain ⟨a0, e0, _, n0⟩ := old
        exact ⟨a, sv, ow, fun b hb => ⟨nG b hb, (src b hb).elim (fun z => (n0 b z).2) h0⟩⟩
      | io u =>
        obtain ⟨a0, e0, o0, n0⟩ := old
        rw [sv] at e0
        cases e0
        exact ⟨a, sv, ow, fun b hb => ⟨nG b hb, (src b hb).elim (fun z => (n0 b z).2.1) (fun z => .inr (h0 z)), (n0 a o0.head).2.2⟩⟩
    · trivial
    · obtain ⟨a, ea, oa, na⟩ := old
      refine ⟨.ref a, ea, ?_⟩
      rcases hG with ⟨_, rfl, _⟩ | ⟨hf', _, _⟩
      · exact dp_mono gg _ _ (oa.dp hs fun b hb2 => takeIn_in (List.mem_flatMap.mpr ⟨j, hb, hb2⟩))
      · rw [hf'] at hf
        cases hf
    · rw [foot_no hn]
      cases s with
      | un => trivial
      | xn => first | exact old | exact h | exact h1 | exact h2 | exact q | exact O.slots _ _ ‹_›
      | sh d =>
        obtain ⟨v, ev, hd⟩ := old
        exact ⟨v, ev, dp_mono sG _ _ hd⟩
      | own u =>
        obtain ⟨a, ea, oa, na⟩ := old
        exact ⟨a, ea, oa.mono sG (fun b hb o z => keepH ht rfl hn hb o z), fun b hb => ⟨noneGn ht rfl (fun hf hm => hx hf hm u rfl) hb, (na b hb).2⟩⟩
      | io u =>
        obtain ⟨a, ea, oa, na⟩ := old
        refine ⟨a, ea, oa.mono sG (fun b hb o z => keepH ht rfl hn hb o z), fun b hb => ⟨noneGn ht rfl (fun hf hm => ?_) hb, (na b hb).2⟩⟩
        rcases hG with ⟨_, _, hno⟩ | ⟨hf', _, _⟩
        · have := List.all_eq_true.mp hno j hm
          rw [ht] at this
          cases this
        · rw [hf'] at hf
          cases hf
  · -- apart
    have cas : ∀ {j : Nat} {s : Sl}, (slsB ps os fr bo 0 e)[j]? = some s → s.owned = true → (∃ (k : Nat) (w : Ow), ps[k]? = some (true, Arg.slot j) ∧ os[k]? = some (Sl.io w)) ∨ (j ∉ ioL ps ∧ e[j]? = some s) := fun {j s} z o => by
      obtain ⟨t, ht, es⟩ := slsB_at z
      rw [Nat.zero_add] at es
      rcases slB_cases es with ⟨w, hw, rfl⟩ | rfl | ⟨hn, hf, hb, w, rfl, rfl⟩ | ⟨hn, rfl, hx⟩
      · obtain ⟨k, hk, hos⟩ := outAt_of hw
        exact .inl ⟨k, w, hk, hos⟩
      · cases o
      · cases o
      · exact .inr ⟨hn, ht⟩
    have mix : ∀ {i j k : Nat} {w : Ow} {t : Sl}, i ≠ j → ps[k]? = some (true, Arg.slot i) → os[k]? = some (Sl.io w) → j ∉ ioL ps → e[j]? = some t → t.owned = true → ∀ b ∈ F2 k, b ∉ F j := fun {i j k w t} hij hk hos hn hj ho b hb hb2 => by
      obtain ⟨a, _, oa, na⟩ := O'.slots k _ hos
      rcases (na b hb).2.1 with z | z
      · have z' : b ∈ wrote F ps k := z
        unfold wrote at z'
        rw [hk] at z'
        obtain ⟨u, h3, h4⟩ := ioA hk
        exact O.sep i j u t hij h3 hj h4 ho b z' hb2
      · obtain ⟨_, vs1, l1⟩ := O.frees hj ho b hb2
        rw [show H b = none from z] at l1
        cases l1
    rcases cas z1 o1 with ⟨k1, w1, p1, q1⟩ | ⟨n1, y1⟩
    · rw [foot_io nd p1]
      rcases cas z2 o2 with ⟨k2, w2, p2, q2⟩ | ⟨n2, y2⟩
      · rw [foot_io nd p2]
        refine O'.sep k1 k2 _ _ (fun z => hij ?_) q1 q2 rfl rfl
        rw [z, p2] at p1
        cases p1
        rfl
      · rw [foot_no n2]
        exact mix hij p1 q1 n2 y2 o2
    · rw [foot_no n1]
      rcases cas z2 o2 with ⟨k2, w2, p2, q2⟩ | ⟨n2, y2⟩
      · rw [foot_io nd p2]
        exact fun b hb hb2 => mix (Ne.symm hij) p2 q2 n1 y1 o1 b hb2 hb
      · rw [foot_no n2]
        exact O.sep i j s t hij y1 y2 o1 o2
  · refine O'.f1 b o (O.f1 b o z m) fun k hk => ?_
    obtain ⟨i, u, h1, h2, h3, h4⟩ := wr (show b ∈ wrote F ps k from hk)
    have old := O.slots i u h3
    cases u with
    | un => cases h4
    | xn => cases h4
    | sh _ => cases h4
    | own w =>
      obtain ⟨_, _, _, n2⟩ := old
      rw [(n2 b h2).2] at z
      cases z
    | io w =>
      obtain ⟨_, _, _, n2⟩ := old
      rcases (n2 b h2).2.1 with y | y
      · exact m i y
      · rw [y] at z
        cases z
  · rcases hG with ⟨_, rfl, hno⟩ | ⟨_, rfl, _⟩
    · rw [O'.f2 b (O.f0 b hb)]
      show takeIn H G (lent F bo) b = _
      rw [takeIn_out]
      · exact O.f2 b hb
      · intro hm
        obtain ⟨i, hi, hb2, s, h1, h2⟩ := lentBo b hm
        have old := O.slots i s h1
        cases s with
        | un => cases h2
        | xn => cases h2
        | sh _ => cases h2
        | own w =>
          obtain ⟨_, _, _, n2⟩ := old
          exact hb (n2 b hb2).2
        | io w =>
          have := List.all_eq_true.mp hno i hi
          rw [h1] at this
          cases this
    · exact O.f2 b hb
end
end DL
set_option Elab.async false
set_option linter.all false
set_option maxRecDepth 100000
set_option maxHeartbeats 4000000
/-! DlK: the rules of calls, of methods that write, of built-ins. -/
namespace DL
open PySem L2

section
variable {K : PySem.W.Frag} {mg : Str → Option Value} {Φ : Fx} {W : WX} {H G : Hp} {F : Nat → List Addr} {σ : L2.St} {e : Fr} {as : List Arg} {vs : List V} {ms : List Bool}
theorem foot_fresh (O : Ok K Φ H G F σ e) (r : rs K as vs H G F σ e) {F2 : Nat → List Addr} {os sl : Fr} {fr : Bool} {bo : List Nat} (nd : (ioL (ms.zip as)).Nodup) {A : List Addr} (hA : ∀ b ∈ A, H b = none) (ap : ∀ j t, os[j]? = some t → t.owned = true → ∀ b ∈ A, b ∉ F2 j) :
    ∀ j t, (slsB (ms.zip as) os fr bo 0 e)[j]? = some t → t.owned = true → ∀ b ∈ A, b ∉ foot F F2 (ms.zip as) j := fun j s z o b hb => by
  obtain ⟨t, ht, es⟩ := slsB_at z
  rw [Nat.zero_add] at es
  rcases slB_cases es with ⟨w, hw, rfl⟩ | rfl | ⟨hn, hf, hb, w, rfl, rfl⟩ | ⟨hn, rfl, hx⟩
  · obtain ⟨k, hk, hos⟩ := outAt_of hw
    rw [foot_io nd hk]
    exact ap k _ hos rfl b hb
  · cases o
  · cases o
  · rw [foot_no hn]
    intro hm
    obtain ⟨_, vs1, l1⟩ := O.frees ht o b hm
    rw [hA b hb] at l1
    cases l1
/-- the callee's promise, asked -/
theorem callR_ok {Fs : Fn} {Q : VK} (O : Ok K Φ H G F σ e) (r : rs K as vs H G F σ e) (hl : ms.length = as.length) (h : Wp K mg Φ W σ (rr K Φ) G (callR Fs (ms.zip as) e) Q) : spF K mg ms.length Fs vs H Q (WE W σ) := by
  unfold callR at h
  split at h
  · exact h.elim
  · rename_i ap
    split at h
    · exact h.elim
    · rename_i sl q
      obtain ⟨hs, O1⟩ := call_start O r hl ap q
      obtain ⟨nd, dj⟩ := apart_io ap
      have lv : vs.length = ms.length := by rw [hl]; exact r.length.symm
      refine ⟨lv, _, sl, _, _, O1, argS_only q, ?_⟩
      cases z : Fs sl with
      | no =>
        rw [z] at h
        exact h.elim
      | ex x os =>
        rw [z] at h
        have h' : Wp K mg Φ W σ (rr K Φ) G (if noIo e (boL e (ms.zip as)) = true then .ex x (slsB (ms.zip as) os true (boL e (ms.zip as)) 0 e) else .no) Q := h
        split at h'
        · rename_i hn
          intro c d H' G' F2 gg O' p
          obtain ⟨s1, O2⟩ := call_end (fr := true) O r hl ap q O' gg (.inl ⟨rfl, rfl, hn⟩)
          exact h' c d H' G' _ s1 O2 p
        · exact h'.elim
      | ok s os =>
        rw [z] at h
        have h' : Wp K mg Φ W σ (rr K Φ) G (if (flatS s && flatO os) = true then toRV s (.ok (.arg (.val .none)) (slsB (ms.zip as) os false (boL e (ms.zip as)) 0 e)) else
          if noIo e (boL e (ms.zip as)) = true then toRV s (.ok (.arg (.val .none)) (slsB (ms.zip as) os true (boL e (ms.zip as)) 0 e)) else .no) Q := h
        intro v H' G' F2 gg O' p
        split at h'
        · rename_i hf
          rw [Bool.and_eq_true] at hf
          obtain ⟨s1, O2⟩ := call_end (fr := false) O r hl ap q O' gg (.inr ⟨rfl, rfl, hf.2⟩)
          cases s with
          | un => cases hf.1
          | xn => cases hf.1
          | own _ => cases hf.1
          | io _ => cases hf.1
          | sh d => exact h' v H' G _ s1 O2 (flat_any hf.1 p)
        · split at h'
          · rename_i hn
            obtain ⟨s1, O2⟩ := call_end (fr := true) O r hl ap q O' gg (.inl ⟨rfl, rfl, hn⟩)
            cases s with
            | un => exact h'.elim
            | xn => exact h'.elim
            | io _ => exact h'.elim
            | sh d => exact h' v H' G' _ s1 O2 p
            | own w =>
              obtain ⟨a, A, e1, o1, n1, ap1⟩ := p
              exact h' v H' G' _ s1 O2 ⟨a, A, e1, o1, fun b hb => ⟨(n1 b hb).1, O.noentry (show H b = none from (n1 b hb).2)⟩, foot_fresh (sl := sl) O r nd (fun b hb => (n1 b hb).2) ap1⟩
          · exact h'.elim
end
def eFnC (Fs : Fn) (ms : List Bool) (fa : Af) : Rf := fun e => (fa e).bind fun as e1 => if ms.length = as.length then callR Fs (ms.zip as) e1 else .no
section
variable {X : Cx} {Φ : Fx} {W : WX} {x y : Expr} {xs : List Expr} {pos p : Pos} {n : Str} {fs : Af} {k : Nat} {f : Addr} {fd : FuncData} {ps : List Str} {Fs : Fn}
theorem d_call (ms : List Bool) (Fo : FnG X.prog X.w X.K X.mg X.base k f fd ps (spF X.K X.mg ms.length Fs)) (hr : Room k X.A) (gu : X.A.guards = some []) (hm : X.mg n = some (.ref f)) (hk : PySem.W.keepIn X.K (.ref f) = true) (hb : Binds X.K fd ps []) (tk : Takes X W)
    (ha : DA X Φ W (x :: xs) fs) (hg : Gl X n := by rfl) (hdb : (n == ("__debug__" : Str)) = false := by decide) (he : starEach (x :: xs) X.env = (false, eval x X.env) :: starEach xs X.env := by rfl) (hpl : (backTo pos (starEach xs X.env)).any (·.1) = false := by rfl) :
    DR X Φ W (.Call (.Name n p) (x :: xs) [] pos) (eFnC Fs ms fs) :=
  pe_weak (pe_callG Fo hr gu hg hm hk hb .nil tk ha hdb he hpl) fun σ H Q ⟨G, F, e, O, h⟩ => ⟨G, F, e, O, Wp.imp (Wp.seq h) fun vs H1 ⟨G1, F1, e1, as, g1, O1, r1, h1⟩ => by
    split at h1
    · rename_i hl
      have z := callR_ok O1 r1 hl h1
      show spF X.K X.mg ms.length Fs (vs ++ []) H1 Q (WE W σ)
      rw [List.append_nil]
      exact z
    · exact h1.elim⟩
end

/-! ### methods that write a list -/
/-- what a method does: the content and the arguments give a result and the new content -/
abbrev Mop := List D → List D → Option (D × List D)
def useM (op : Mop) (a : Arg) (ds : List D) (e : Fr) : R Arg := match a with
  | .slot i => match e[i]? with
    | some (.own (.ls cs)) => match op cs ds with
      | some (d, es) => .ok (.val d) (e.set i (.own (.ls es)))
      | none => .no
    | some (.io (.ls cs)) => match op cs ds with
      | some (d, es) => .ok (.val d) (e.set i (.io (.ls es)))
      | none => .no
    | _ => .no
  | _ => .no
def isLs (a : Arg) (e : Fr) : Bool := match a with
  | .slot i => match e[i]? with
    | some (.own (.ls _)) => true
    | some (.io (.ls _)) => true
    | _ => false
  | _ => false
def eMt (op : Mop) (fa : Ef) (fs : Af) : Ef := fun e => (fa e).bind fun a e1 => match isLs a e1 with
  | true => (fs e1).bind fun as e2 => (fzA as e2).bind fun ds e3 => useM op a ds e3
  | false => .no
def rMt (K : PySem.W.Frag) (op : Mop) : V → List V → Hp → VK → Prop := fun x xs H Q => ∃ G l vs cs ds d es, Same G H ∧ x = .ref l ∧ H l = some (.lst vs) ∧ DpAll K G vs cs ∧ DpAll K G xs ds ∧ op cs ds = some (d, es) ∧
  ∀ v ws, Dp K G v d → DpAll K G ws es → Q v (upd H l (.lst ws))
section
variable {K : PySem.W.Frag} {mg : Str → Option Value} {Φ : Fx} {W : WX} {H G : Hp} {F : Nat → List Addr} {σ : L2.St} {e : Fr}
theorem useM_ok {op : Mop} {a : Arg} {x : V} {xs : List V} {ds : List D} {Q : VK} (O : Ok K Φ H G F σ e) (r : ra K a x H G F σ e) (hd : DpAll K G xs ds) (h : Wp K mg Φ W σ (ra K) G (useM op a ds e) Q) : rMt K op x xs H Q := by
  cases a with
  | val d => exact h.elim
  | slot i =>
    have r' : σ[i]? = some (some x) := r
    have h' : Wp K mg Φ W σ (ra K) G (match e[i]? with
      | some (.own (.ls cs)) => match op cs ds with
        | some (d, es) => .ok (.val d) (e.set i (.own (.ls es)))
        | none => .no
      | some (.io (.ls cs)) => match op cs ds with
        | some (d, es) => .ok (.val d) (e.set i (.io (.ls es)))
        | none => .no
      | _ => .no) Q := h
    split at h'
    · rename_i cs hi
      split at h'
      · rename_i d es ho
        obtain ⟨l, e1, o1, n1⟩ := O.slots i _ hi
        rw [r'] at e1
        cases e1
        obtain ⟨vs, h1, h2, hA⟩ := owls o1
        exact ⟨G, l, vs, cs, ds, d, es, O.gh, rfl, h1, h2, hd, ho, fun v ws hv hw => h' v _ G _ (Same.refl _) (O.write (w' := .ls es) (A' := [l]) hi rfl r' (.ls upd_same hw) (fun b hb => by rw [hA] at hb; exact hb) (fun b hb => .inl (by rw [hA]; exact hb)) fun b hb => upd_ne fun z => hb (List.mem_singleton.mpr z)) hv⟩
      · exact h'.elim
    · rename_i cs hi
      split at h'
      · rename_i d es ho
        obtain ⟨l, e1, o1, n1⟩ := O.slots i _ hi
        rw [r'] at e1
        cases e1
        obtain ⟨vs, h1, h2, hA⟩ := owls o1
        exact ⟨G, l, vs, cs, ds, d, es, O.gh, rfl, h1, h2, hd, ho, fun v ws hv hw => h' v _ G _ (Same.refl _) (O.write (w' := .ls es) (A' := [l]) hi rfl r' (.ls upd_same hw) (fun b hb => by rw [hA] at hb; exact hb) (fun b hb => .inl (by rw [hA]; exact hb)) fun b hb => upd_ne fun z => hb (List.mem_singleton.mpr z)) hv⟩
      · exact h'.elim
    · exact h'.elim
theorem isLs_ok (O : Ok K Φ H G F σ e) {a : Arg} {x : V} (r : ra K a x H G F σ e) (h : isLs a e = true) : tyV K "list" x H := by
  have fin : ∀ {cs : List D}, rd1 e a = some (.list cs) → tyV K "list" x H := fun {cs} q => by
    obtain ⟨l, vs, rfl, t, _⟩ := (bp_of O r q).lst O.gh
    exact .inl ⟨rfl, vs, t⟩
  cases a with
  | val d => cases h
  | slot i =>
    unfold isLs at h
    simp only at h
    split at h
    · rename_i cs hi
      exact fin (cs := cs) (by unfold rd1; simp only; rw [hi])
    · rename_i cs hi
      exact fin (cs := cs) (by unfold rd1; simp only; rw [hi])
    · cases h
end
section
variable {X : Cx} {Φ : Fx} {W : WX} {x y : Expr} {xs : List Expr} {apos cpos : Pos} {n : Str} {fa : Ef} {fs : Af} {id : String} {op : Mop}
theorem d_mt (slot : Slot "list" n id) (hty : typeOf (.builtin id) = pure (.type "method_descriptor")) (hm : MtR X id (rMt X.K op)) (hx : DE X Φ W x fa) (ha : DA X Φ W (y :: xs) fs) (hbase : attributeBase x n X.env (eval x X.env) = eval x X.env := by rfl)
    (hfew : ((backTo cpos (starEach (y :: xs) X.env)).all (fun x => !x.1) && (backToKw cpos (keywordEach [] X.env)).all (fun x => x.1.isSome)
      && decide ((y :: xs).length + ([] : List Keyword).length + (if ([] : List Keyword).isEmpty then 0 else 1) < 30)) = true := by rfl)
    (hline : (apos.endLine == cpos.line) = true := by rfl) (hs : starEach (y :: xs) X.env = (false, eval y X.env) :: starEach xs X.env := by rfl) (hplain : (backTo cpos (starEach xs X.env)).any (·.1) = false := by rfl) :
    DE X Φ W (.Call (.Attribute x n apos) (y :: xs) [] cpos) (eMt op fa fs) :=
  pe_weak (pe_bm PySem.F.plainAttrs_list slot hty hm hx ha hbase hfew hline hs hplain) fun σ H Q ⟨G, F, e, O, h⟩ => ⟨G, F, e, O, Wp.imp (Wp.seq h) fun v H1 ⟨G1, F1, e1, a, g1, O1, r1, h1⟩ => by
    split at h1
    · rename_i hi
      refine ⟨isLs_ok O1 r1 hi, G1, F1, e1, O1, Wp.imp (Wp.seq h1) fun vs H2 ⟨G2, F2, e2, as, g2, O2, r2, h2⟩ => ?_⟩
      obtain ⟨G3, e3, ds, g3, O3, d3, h3⟩ := Wp.fzA O2 r2 h2
      exact useM_ok O3 (ra_up (H' := H2) (F' := F2) (e' := e3) (G' := G3) r1 (g2.trans g3)) d3 h3
    · exact h1.elim⟩
theorem d_mt0 (slot : Slot "list" n id) (hty : typeOf (.builtin id) = pure (.type "method_descriptor")) (hm : MtR X id (rMt X.K op)) (hx : DE X Φ W x fa) (hbase : attributeBase x n X.env (eval x X.env) = eval x X.env := by rfl) (hline : (apos.endLine == cpos.line) = true := by rfl) :
    DE X Φ W (.Call (.Attribute x n apos) [] [] cpos) (eMt op fa aNil) :=
  pe_weak (pe_bm0 PySem.F.plainAttrs_list slot hty hm hx hbase hline) fun σ H Q ⟨G, F, e, O, h⟩ => ⟨G, F, e, O, Wp.imp (Wp.seq h) fun v H1 ⟨G1, F1, e1, a, g1, O1, r1, h1⟩ => by
    split at h1
    · rename_i hi
      exact ⟨isLs_ok O1 r1 hi, useM_ok O1 r1 .nil h1⟩
    · exact h1.elim⟩
/-- xs.append(y), xs.pop(), xs.pop(i), xs.extend(ys) -/
def mApp : Mop := fun cs ds => match ds with
  | [d] => if cs.length < 1000000 then some (.none, cs ++ [d]) else none
  | _ => none
def mPop : Mop := fun cs ds => match ds with
  | [] => match cs[cs.length - 1]? with
    | some d => some (d, cs.dropLast)
    | none => none
  | _ => none
def mPopAt : Mop := fun cs ds => match ds with
  | [.int i] => if -(2 ^ 63) ≤ i ∧ i < 2 ^ 63 then match seqIndex? i cs.length with
    | some k => match cs[k]? with
      | some d => some (d, cs.eraseIdx k)
      | none => none
    | none => none
    else none
  | _ => none
theorem line1m {n : Nat} (h : n < 1000000) : n < sizeLine := Nat.lt_trans h (by decide)
theorem mt_dApp : MtR X "list.append" (rMt X.K mApp) := by
  intro pins s σ H x xs v us Q I rx rv h
  obtain ⟨G, l, vs, cs, ds, d, es, gh, rfl, h1, h2, h3, ho, k⟩ := h
  unfold mApp at ho
  split at ho
  · rename_i d'
    split at ho
    · rename_i hl
      cases ho
      cases h3 with
      | cons a t =>
        cases t
        exact mt_append pins s σ H _ _ v us Q I rx rv ⟨l, vs, _, rfl, rfl, h1, by rw [DpAll.len h2]; exact line1m hl, k _ _ .non (DpAll.app h2 (.cons a .nil))⟩
    · cases ho
  · cases ho
theorem DpAll.dropLast {K : PySem.W.Frag} {G : Hp} {vs : List V} {ds : List D} (h : DpAll K G vs ds) : DpAll K G vs.dropLast ds.dropLast := by
  rw [List.dropLast_eq_take, List.dropLast_eq_take, DpAll.len h]
  exact DpAll.take _ h
theorem DpAll.erase {K : PySem.W.Frag} {G : Hp} {vs : List V} {ds : List D} (h : DpAll K G vs ds) (k : Nat) : DpAll K G (vs.eraseIdx k) (ds.eraseIdx k) := by
  rw [List.eraseIdx_eq_take_drop_succ, List.eraseIdx_eq_take_drop_succ]
  exact DpAll.app (DpAll.take _ h) (DpAll.drop _ h)
theorem mt_dPop : MtR X "list.pop" (rMt X.K mPop) := by
  intro pins s σ H x xs v us Q I rx rv h
  obtain ⟨G, l, vs, cs, ds, d, es, gh, rfl, h1, h2, h3, ho, k⟩ := h
  unfold mPop at ho
  split at ho
  · split at ho
    · rename_i d' hd
      cases ho
      cases h3
      obtain ⟨y, e1, hy⟩ := DpAll.at h2 hd
      rw [← DpAll.len h2] at e1
      exact mt_pop pins s σ H _ _ v us Q I rx rv ⟨l, vs, y, rfl, rfl, h1, e1, k _ _ hy (DpAll.dropLast h2)⟩
    · cases ho
  · cases ho
theorem mt_dPopAt : MtR X "list.pop" (rMt X.K mPopAt) := by
  intro pins s σ H x xs v us Q I rx rv h
  obtain ⟨G, l, vs, cs, ds, d, es, gh, rfl, h1, h2, h3, ho, k⟩ := h
  unfold mPopAt at ho
  split at ho
  · rename_i i
    split at ho
    · rename_i hi
      split at ho
      · rename_i j hj
        split at ho
        · rename_i d' hd
          cases ho
          cases h3 with
          | cons a t =>
            cases t
            cases a
            obtain ⟨y, e1, hy⟩ := DpAll.at h2 hd
            exact mt_popAt pins s σ H _ _ v us Q I rx rv ⟨l, vs, i, j, y, rfl, rfl, h1, hi.1, hi.2, by rw [DpAll.len h2]; exact hj, e1, k _ _ hy (DpAll.erase h2 j)⟩
        · cases ho
      · cases ho
    · cases ho
  · cases ho
end

/-! ### built-ins -/
def bLen : List D → Option D
  | [.list xs] => some (.int xs.length)
  | [.tuple xs] => some (.int xs.length)
  | [.str z] => if z.length ≤ sizeLine then some (.int z.length) else none
  | _ => none
def bAbs : List D → Option D
  | [.int i] => some (.int (if i < 0 then -i else i))
  | _ => none
def bMax2 : List D → Option D
  | [.int i, .int j] => some (.int (if j > i then j else i))
  | _ => none
def bMin2 : List D → Option D
  | [.int i, .int j] => some (.int (if j < i then j else i))
  | _ => none
def bInt : List D → Option D
  | [.int i] => some (.int i)
  | _ => none
def bGcd : List D → Option D
  | [.int i, .int j] => some (.int ((Nat.gcd i.natAbs j.natAbs : Nat) : Int))
  | _ => none
def bDivmod : List D → Option D
  | [.int i, .int j] => if 0 < j ∧ j.natAbs.log2 < 9000 then some (.tuple [.int (i / j), .int (i % j)]) else none
  | _ => none
def bTuple : List D → Option D
  | [.list xs] => some (.tuple xs)
  | [.tuple xs] => some (.tuple xs)
  | _ => none
def bList : List D → Option (List D)
  | [.list xs] => some xs
  | [.tuple xs] => some xs
  | _ => none
def allB : List D → Option (List Bool)
  | [] => some []
  | .bool b :: r => match allB r with
    | some bs => some (b :: bs)
    | none => none
  | _ => none
def bAll : List D → Option D
  | [.list xs] => (allB xs).map fun bs => .bool (bs.all id)
  | _ => none
def bAny : List D → Option D
  | [.list xs] => (allB xs).map fun bs => .bool (bs.any id)
  | _ => none
theorem allB_eq : ∀ {ds : List D} {bs : List Bool}, allB ds = some bs → ds = bs.map PyData.bool
  | [], _, h => by cases h; rfl
  | .bool b :: r, bs, h => by
    unfold allB at h
    split at h
    · rename_i cs q
      cases h
      rw [allB_eq q]
      rfl
    · cases h
  | .none :: _, _, h => by cases h
  | .int _ :: _, _, h => by cases h
  | .str _ :: _, _, h => by cases h
  | .list _ :: _, _, h => by cases h
  | .tuple _ :: _, _, h => by cases h
  | .dict _ :: _, _, h => by cases h
section
variable {X : Cx}
theorem cr_dLen : CallR X (.builtin "len") (rP X.K bLen) := by
  intro pins s σ H xs us Q I r h
  obtain ⟨G, ds, d, gh, b, ho, k⟩ := h
  unfold bLen at ho
  split at ho
  · cases ho
    obtain ⟨v, rfl, b1⟩ := bpa1 b
    obtain ⟨a, vs, rfl, t, p⟩ := b1.lst gh
    exact call_len_seq pins s σ H _ us Q I r ⟨a, vs, rfl, .inl t, by rw [DpAll.len p]; exact k _ _ _ (Grow.refl gh) (.int _)⟩
  · cases ho
    obtain ⟨v, rfl, b1⟩ := bpa1 b
    obtain ⟨a, vs, rfl, t, p⟩ := b1.tup gh
    exact call_len_seq pins s σ H _ us Q I r ⟨a, vs, rfl, .inr t, by rw [DpAll.len p]; exact k _ _ _ (Grow.refl gh) (.int _)⟩
  · split at ho
    · rename_i hz
      cases ho
      obtain ⟨v, rfl, b1⟩ := bpa1 b
      obtain rfl := b1.str
      exact call_len pins s σ H _ us Q I r ⟨_, _, rfl, ⟨hz, rfl⟩, k _ _ _ (Grow.refl gh) (.int _)⟩
    · cases ho
  · cases ho
theorem cr_dAbs : CallR X (.builtin "abs") (rP X.K bAbs) := by
  intro pins s σ H xs us Q I r h
  obtain ⟨G, ds, d, gh, b, ho, k⟩ := h
  unfold bAbs at ho
  split at ho
  · cases ho
    obtain ⟨v, rfl, b1⟩ := bpa1 b
    obtain rfl := b1.int
    exact call_abs pins s σ H _ us Q I r ⟨_, rfl, k _ _ _ (Grow.refl gh) (.int _)⟩
  · cases ho
theorem cr_dMax2 (hc : X.calm = true) : CallR X (.builtin "max") (rP X.K bMax2) := by
  intro pins s σ H xs us Q I r h
  obtain ⟨G, ds, d, gh, b, ho, k⟩ := h
  unfold bMax2 at ho
  split at ho
  · cases ho
    obtain ⟨v, v', rfl, b, b'⟩ := bpa2 b
    obtain rfl := b.int
    obtain rfl := b'.int
    exact call_max2 hc pins s σ H _ us Q I r ⟨_, _, rfl, k _ _ _ (Grow.refl gh) (.int _)⟩
  · cases ho
theorem cr_dMin2 (hc : X.calm = true) : CallR X (.builtin "min") (rP X.K bMin2) := by
  intro pins s σ H xs us Q I r h
  obtain ⟨G, ds, d, gh, b, ho, k⟩ := h
  unfold bMin2 at ho
  split at ho
  · cases ho
    obtain ⟨v, v', rfl, b, b'⟩ := bpa2 b
    obtain rfl := b.int
    obtain rfl := b'.int
    exact call_min2 hc pins s σ H _ us Q I r ⟨_, _, rfl, k _ _ _ (Grow.refl gh) (.int _)⟩
  · cases ho
theorem cr_dInt : CallR X (.type "int") (rP X.K bInt) := by
  intro pins s σ H xs us Q I r h
  obtain ⟨G, ds, d, gh, b, ho, k⟩ := h
  unfold bInt at ho
  split at ho
  · cases ho
    obtain ⟨v, rfl, b1⟩ := bpa1 b
    obtain rfl := b1.int
    exact call_int1 pins s σ H _ us Q I r (.inl ⟨_, rfl, k _ _ _ (Grow.refl gh) (.int _)⟩)
  · cases ho
theorem cr_dGcd : CallR X (.builtin "math.gcd") (rP X.K bGcd) := by
  intro pins s σ H xs us Q I r h
  obtain ⟨G, ds, d, gh, b, ho, k⟩ := h
  unfold bGcd at ho
  split at ho
  · cases ho
    obtain ⟨v, v', rfl, b, b'⟩ := bpa2 b
    obtain rfl := b.int
    obtain rfl := b'.int
    exact cr_gcd pins s σ H _ us Q I r ⟨_, _, rfl, k _ _ _ (Grow.refl gh) (.int _)⟩
  · cases ho
theorem cr_dDivmod : CallR X (.builtin "divmod") (rP X.K bDivmod) := by
  intro pins s σ H xs us Q I r h
  obtain ⟨G, ds, d, gh, b, ho, k⟩ := h
  unfold bDivmod at ho
  split at ho
  · split at ho
    · rename_i hc
      cases ho
      obtain ⟨v, v', rfl, b, b'⟩ := bpa2 b
      obtain rfl := b.int
      obtain rfl := b'.int
      refine call_divmodW pins s σ H _ us Q I r ⟨_, _, rfl, ⟨hc.1, PyProof.noPylong_of_log2 hc.2⟩, fun p hp => ?_⟩
      exact k _ _ _ (Grow.laid gh hp) (.tup (.of upd_same) (.cons (.int _) (.cons (.int _) .nil)))
    · cases ho
  · cases ho
theorem cr_dTuple : CallR X (.type "tuple") (rP X.K bTuple) := by
  intro pins s σ H xs us Q I r h
  obtain ⟨G, ds, d, gh, b, ho, k⟩ := h
  unfold bTuple at ho
  split at ho
  · cases ho
    obtain ⟨v, rfl, b1⟩ := bpa1 b
    obtain ⟨a, vs, rfl, t, p⟩ := b1.lst gh
    exact call_tuple_of pins s σ H _ us Q I r ⟨a, vs, rfl, .inl ⟨t, fun l hl => k _ _ _ (Grow.laid gh hl) (.tup (.of upd_same) (dpa_mono (same_new (same_back gh hl)) _ _ p))⟩⟩
  · cases ho
    obtain ⟨v, rfl, b1⟩ := bpa1 b
    obtain ⟨a, vs, rfl, t, p⟩ := b1.tupG
    exact call_tuple_of pins s σ H _ us Q I r ⟨a, vs, rfl, .inr ⟨same_t gh t, k _ _ _ (Grow.refl gh) (.tup t p)⟩⟩
  · cases ho
theorem cr_dList : CallR X (.type "list") (rN X.K bList) := by
  intro pins s σ H xs us Q I r h
  obtain ⟨G, ds, es, gh, b, ho, k⟩ := h
  unfold bList at ho
  split at ho
  · cases ho
    obtain ⟨v, rfl, b1⟩ := bpa1 b
    obtain ⟨a, vs, rfl, t, p⟩ := b1.lst gh
    exact call_list_of pins s σ H _ us Q I r ⟨a, vs, rfl, .inl t, fun l hl => k l vs hl (DpAll.len p) p⟩
  · cases ho
    obtain ⟨v, rfl, b1⟩ := bpa1 b
    obtain ⟨a, vs, rfl, t, p⟩ := b1.tup gh
    exact call_list_of pins s σ H _ us Q I r ⟨a, vs, rfl, .inr t, fun l hl => k l vs hl (DpAll.len p) p⟩
  · cases ho
theorem cr_dAll (hc : X.calm = true) : CallR X (.builtin "all") (rP X.K bAll) := by
  intro pins s σ H xs us Q I r h
  obtain ⟨G, ds, d, gh, b, ho, k⟩ := h
  unfold bAll at ho
  split at ho
  · rename_i xs'
    cases q : allB xs' with
    | none =>
      rw [q] at ho
      cases ho
    | some bs =>
      rw [q] at ho
      cases ho
      obtain ⟨v, rfl, b1⟩ := bpa1 b
      obtain ⟨a, vs, rfl, t, p⟩ := b1.lst gh
      rw [allB_eq q] at p
      rw [dpa_bools p] at t
      exact cr_all hc pins s σ H _ us Q I r ⟨a, bs, rfl, t, k _ _ _ (Grow.refl gh) (.bl _)⟩
  · cases ho
theorem cr_dAny (hc : X.calm = true) : CallR X (.builtin "any") (rP X.K bAny) := by
  intro pins s σ H xs us Q I r h
  obtain ⟨G, ds, d, gh, b, ho, k⟩ := h
  unfold bAny at ho
  split at ho
  · rename_i xs'
    cases q : allB xs' with
    | none =>
      rw [q] at ho
      cases ho
    | some bs =>
      rw [q] at ho
      cases ho
      obtain ⟨v, rfl, b1⟩ := bpa1 b
      obtain ⟨a, vs, rfl, t, p⟩ := b1.lst gh
      rw [allB_eq q] at p
      rw [dpa_bools p] at t
      exact cr_any hc pins s σ H _ us Q I r ⟨a, bs, rfl, t, k _ _ _ (Grow.refl gh) (.bl _)⟩
  · cases ho
end
end DL
set_option Elab.async false
set_option linter.all false
set_option maxRecDepth 100000
set_option maxHeartbeats 4000000
/-! DlL: isinstance, repr, calls with keywords, three at once. -/
namespace DL
open PySem L2

/-! ### isinstance -/
def tyN : D → String
  | .none => "NoneType"
  | .bool _ => "bool"
  | .int _ => "int"
  | .str _ => "str"
  | .list _ => "list"
  | .tuple _ => "tuple"
  | .dict _ => "dict"
inductive Ty where
  | int | bool | str | list | tuple
def Ty.name : Ty → String
  | .int => "int"
  | .bool => "bool"
  | .str => "str"
  | .list => "list"
  | .tuple => "tuple"
def isT : Ty → D → Bool
  | .int, .int _ => true
  | .int, .bool _ => true
  | .bool, .bool _ => true
  | .str, .str _ => true
  | .list, .list _ => true
  | .tuple, .tuple _ => true
  | _, _ => false
theorem kit_tab : ([Ty.int, .bool, .str, .list, .tuple].all fun T => decide (kitB "NoneType" T.name = some (isT T .none)) && (decide (kitB "bool" T.name = some (isT T (.bool true))) && (decide (kitB "int" T.name = some (isT T (.int 0))) &&
    (decide (kitB "str" T.name = some (isT T (.str ""))) && (decide (kitB "list" T.name = some (isT T (.list []))) && decide (kitB "tuple" T.name = some (isT T (.tuple [])))))))) = true := by decide +kernel
theorem kit_isT {K : PySem.W.Frag} (T : Ty) (d : D) (h : ∀ kvs, d ≠ .dict kvs) : PySem.W.kitOne K (.type (tyN d)) (.type T.name) = some (isT T d) := by
  have z := List.all_eq_true.mp kit_tab T (by cases T <;> simp)
  simp only [Bool.and_eq_true, decide_eq_true_eq] at z
  obtain ⟨z1, z2, z3, z4, z5, z6⟩ := z
  apply kit_ty
  cases d with
  | none => exact z1
  | bool _ => exact z2.trans (by cases T <;> rfl)
  | int _ => exact z3.trans (by cases T <;> rfl)
  | str _ => exact z4.trans (by cases T <;> rfl)
  | list _ => exact z5.trans (by cases T <;> rfl)
  | tuple _ => exact z6.trans (by cases T <;> rfl)
  | dict kvs => exact absurd rfl (h kvs)
theorem tyx_l {K : PySem.W.Frag} {H : Hp} {a : Addr} {xs : List V} (h : SqL K H a xs) : TyX K H (.ref a) (.type "list") := by
  rcases h with (h | ⟨o, h⟩) | ⟨o, its, n, h1, h2, _⟩
  · exact .base (.lst h)
  · exact .base (.frz h)
  · exact .kList h1 h2
theorem tyx_t {K : PySem.W.Frag} {H : Hp} {a : Addr} {xs : List V} (h : SqT K H a xs) : TyX K H (.ref a) (.type "tuple") := by
  rcases h with (h | ⟨o, h⟩) | ⟨o, its, n, h1, h2, _⟩
  · exact .base (.tup h)
  · exact .fTuple h
  · exact .kTuple h1 h2
theorem tyx_d {K : PySem.W.Frag} {H : Hp} : ∀ {v : V} {d : D}, Dp K H v d → TyX K H v (.type (tyN d)) ∧ ∀ kvs, d ≠ .dict kvs
  | _, _, .non => ⟨.base .non, fun _ z => by cases z⟩
  | _, _, .bl b => ⟨.base (.bl b), fun _ z => by cases z⟩
  | _, _, .int b => ⟨.base (.int b), fun _ z => by cases z⟩
  | _, _, .str b => ⟨.base (.str b), fun _ z => by cases z⟩
  | _, _, .lst h _ => ⟨tyx_l h, fun _ z => by cases z⟩
  | _, _, .tup h _ => ⟨tyx_t h, fun _ z => by cases z⟩
def useI (f : D → Bool) (a : Arg) (e : Fr) : R Arg := match rd1 e a with
  | some d => .ok (.val (.bool (f d))) e
  | none => .no
def eIsi (T : Ty) (fa : Ef) : Ef := fun e => (fa e).bind (useI (isT T))
def eIsi2 (T U : Ty) (fa : Ef) : Ef := fun e => (fa e).bind (useI fun d => isT T d || isT U d)
section
variable {X : Cx} {Φ : Fx} {W : WX} {x : Expr} {pos p p2 p3 tp : Pos} {n m : Str} {fa : Ef} {kt : Nat}
theorem d_isi (T : Ty) (hm : X.mg "isinstance" = none) (hm2 : X.mg n = none) (hx : DE X Φ W x fa) (hv2 : bootBuiltins n = some (.type T.name) := by decide +kernel) (hg : Gl X "isinstance" := by rfl) (hg2 : Gl X n := by rfl) (hn2 : n ≠ "__name__" := by decide) (hd2 : (n == ("__debug__" : Str)) = false := by decide)
    (he : starEach [x, .Name n p2] X.env = (false, eval x X.env) :: starEach [.Name n p2] X.env := by rfl) (he2 : starEach [.Name n p2] X.env = (false, eval (.Name n p2) X.env) :: starEach [] X.env := by rfl) (hpl : (backTo pos (starEach [.Name n p2] X.env)).any (·.1) = false := by rfl) :
    DE X Φ W (.Call (.Name "isinstance" p) [x, .Name n p2] [] pos) (eIsi T fa) :=
  pe_weak (pe_callB call_isi hg hm (by decide +kernel) (pa_cons hx (pa_cons (pe_bltn (v := .ty T.name) hg2 hm2 hv2 rfl hn2 hd2) pa_nil he2) he) (by decide) (by decide) he hpl) fun σ H Q ⟨G, F, e, O, h⟩ => ⟨G, F, e, O, Wp.imp (Wp.seq h) fun v H1 ⟨G1, F1, e1, a, g1, O1, r1, h1⟩ => by
    unfold useI at h1
    split at h1
    · rename_i d q
      obtain ⟨ty, nd⟩ := tyx_d ((bp_of O1 r1 q).dpH O1.gh)
      exact ⟨v, .ty T.name, _, _, _, rfl, .ty _, ty, kit_isT T d nd, h1 _ H1 G1 F1 (Same.refl _) O1 (.bl _)⟩
    · exact h1.elim⟩
theorem d_isi2 (T U : Ty) (hm : X.mg "isinstance" = none) (hm2 : X.mg n = none) (hm3 : X.mg m = none) (hx : DE X Φ W x fa) (hv2 : bootBuiltins n = some (.type T.name) := by decide +kernel) (hv3 : bootBuiltins m = some (.type U.name) := by decide +kernel) (hg : Gl X "isinstance" := by rfl) (hg2 : Gl X n := by rfl) (hg3 : Gl X m := by rfl)
    (hn2 : n ≠ "__name__" := by decide) (hd2 : (n == ("__debug__" : Str)) = false := by decide) (hn3 : m ≠ "__name__" := by decide) (hd3 : (m == ("__debug__" : Str)) = false := by decide)
    (he : starEach [x, .Tuple [.Name n p2, .Name m p3] kt tp] X.env = (false, eval x X.env) :: starEach [.Tuple [.Name n p2, .Name m p3] kt tp] X.env := by rfl) (he1 : starEach [.Tuple [.Name n p2, .Name m p3] kt tp] X.env = (false, eval (.Tuple [.Name n p2, .Name m p3] kt tp) X.env) :: starEach [] X.env := by rfl)
    (he2 : starEach [.Name n p2, .Name m p3] X.env = (false, eval (.Name n p2) X.env) :: starEach [.Name m p3] X.env := by rfl) (he3 : starEach [.Name m p3] X.env = (false, eval (.Name m p3) X.env) :: starEach [] X.env := by rfl)
    (hpl : (backTo pos (starEach [.Tuple [.Name n p2, .Name m p3] kt tp] X.env)).any (·.1) = false := by rfl) :
    DE X Φ W (.Call (.Name "isinstance" p) [x, .Tuple [.Name n p2, .Name m p3] kt tp] [] pos) (eIsi2 T U fa) :=
  pe_weak (pe_callB call_isiT hg hm (by decide +kernel) (pa_cons hx (pa_cons (pe_tup (pa_cons (pe_bltn (v := .ty T.name) hg2 hm2 hv2 rfl hn2 hd2) (pa_cons (pe_bltn (v := .ty U.name) hg3 hm3 hv3 rfl hn3 hd3) pa_nil he3) he2)) pa_nil he1) he) (by decide) (by decide) he hpl)
    fun σ H Q ⟨G, F, e, O, h⟩ => ⟨G, F, e, O, Wp.imp (Wp.seq h) fun v H1 ⟨G1, F1, e1, a, g1, O1, r1, h1⟩ => by
    unfold useI at h1
    split at h1
    · rename_i d q
      refine ⟨by show 2 ≤ sizeLine; decide, fun tp ht => ?_⟩
      have gr := Grow.own (o := .tup [.ty T.name, .ty U.name]) O1.gh ht
      have O2 := O1.grow gr
      have d2 := dp_mono gr.hh _ _ ((bp_of O1 r1 q).dpH O1.gh)
      obtain ⟨ty, nd⟩ := tyx_d d2
      refine ⟨v, tp, [.ty T.name, .ty U.name], _, [.type T.name, .type U.name], isT T d || isT U d, rfl, upd_same, .cons (.ty _) (.cons (.ty _) .nil), ty, ?_, h1 _ _ G1 F1 (Same.refl _) O2 (.bl _)⟩
      have k1 := kit_isT (K := X.K) T d nd
      have k2 := kit_isT (K := X.K) U d nd
      refine kitAny_cons k1 (fun z => ?_) (fun z => by rw [z]; rfl)
      rw [z, Bool.false_or]
      exact kitAny_cons k2 (fun z2 => by rw [z2]; exact kitAny_nil) (fun z2 => by rw [z2])
    · exact h1.elim⟩
end

/-! ### repr -/
mutual
def wD : D → Nat
  | .none => 5
  | .bool _ => 5
  | .int _ => 1921
  | .str x => (reprText x).length
  | .list xs => wAll xs + 3
  | .tuple xs => wAll xs + 3
  | .dict _ => 0
def wAll : List D → Nat
  | [] => 0
  | x :: xs => wD x + 2 + wAll xs
end
mutual
theorem shown_w : ∀ d : D, d.showable = true → d.hasDict = false → d.shown.length ≤ wD d
  | .none, _, _ => by simp only [PyData.shown, wD]; decide +kernel
  | .bool b, _, _ => by cases b <;> simp only [PyData.shown, wD] <;> decide +kernel
  | .int i, h, _ => by
    simp only [PyData.shown, wD]
    exact PyProof.Rows.int_text_len_1921 (of_decide_eq_true (by simpa only [PyData.showable] using h))
  | .str x, _, _ => by simp only [PyData.shown, wD]; exact Nat.le_refl _
  | .list xs, h, n => by
    simp only [PyData.shown, wD]
    have := shown_ws xs (by simpa only [PyData.showable] using h) (by simpa only [PyData.hasDict] using n)
    have := listText_len_le (PyData.shownAll xs)
    omega
  | .tuple xs, h, n => by
    simp only [PyData.shown, wD]
    have := shown_ws xs (by simpa only [PyData.showable] using h) (by simpa only [PyData.hasDict] using n)
    have := tupleText_len_le (PyData.shownAll xs)
    omega
  | .dict _, _, n => by simp only [PyData.hasDict] at n; cases n
theorem shown_ws : ∀ ds : List D, PyData.showableAll ds = true → PyData.hasDictAll ds = false → ((PyData.shownAll ds).map (·.length)).sum + 2 * (PyData.shownAll ds).length ≤ wAll ds
  | [], _, _ => by simp [PyData.shownAll, wAll]
  | d :: ds, h, n => by
    simp only [PyData.showableAll, Bool.and_eq_true] at h
    simp only [PyData.hasDictAll, Bool.or_eq_false_iff] at n
    have h1 := shown_w d h.1 n.1
    have h2 := shown_ws ds h.2 n.2
    simp only [PyData.shownAll, List.map_cons, List.sum_cons, List.length_cons, wAll]
    omega
end
def reprOk (d : D) : Bool := d.showable && (!d.hasDict && (decide (wD d ≤ sizeLine) && decide (d.depth ≤ 30)))
def bRepr : List D → Option D
  | [d] => if reprOk d = true then some (.str d.shown) else none
  | _ => none
theorem cr_dRepr {X : Cx} (hu : X.A.units + 64 < cLine) (gu : X.A.guards = some []) : CallR X (.builtin "repr") (rP X.K bRepr) := by
  intro pins s σ H xs us Q I r h
  obtain ⟨G, ds, d, gh, b, ho, k⟩ := h
  unfold bRepr at ho
  split at ho
  · rename_i d0
    split at ho
    · rename_i hok
      cases ho
      obtain ⟨v, rfl, b1⟩ := bpa1 b
      unfold reprOk at hok
      simp only [Bool.and_eq_true, Bool.not_eq_true', decide_eq_true_eq] at hok
      obtain ⟨h1, h2, h3, h4⟩ := hok
      have hsz : d0.shown.length ≤ sizeLine := Nat.le_trans (shown_w d0 h1 h2) h3
      have dp := b1.dpH gh
      cases r with
      | cons rv rn =>
        cases rn
        obtain ⟨as, rds⟩ := Dp.reads I d0 v _ dp rv
        have fin : ∀ (h' : Heap) (u tk : Tok), (∀ b o, s.heap.get? b = some o → h'.get? b = some o) → EP X pins σ Q (.str d0.shown u) { s with heap := h', toks := tk } := fun h' u tk hk => ⟨.str d0.shown, H, I.kept hk, ⟨_, rfl⟩, k _ _ _ (Grow.refl gh) (.str _)⟩
        cases dp with
        | non =>
          cases rv
          exact P.repr_of_none (fin s.heap s.toks (s.toks + 1) fun _ _ z => z)
        | bl b =>
          cases rv
          exact P.repr_of_bool (by cases b <;> exact fin s.heap s.toks (s.toks + 1) fun _ _ z => z)
        | int i =>
          obtain ⟨t, rfl⟩ := rv
          exact P.repr_of_int (of_decide_eq_true (by simpa only [PyData.showable] using h1)) (fin s.heap s.toks (s.toks + 1) fun _ _ z => z)
        | str x =>
          obtain ⟨t, rfl⟩ := rv
          exact P.repr_of_str (fin s.heap s.toks (s.toks + 1) fun _ _ z => z) hsz
        | lst hs ha =>
          cases rv
          exact repr_of_reads' rds h1 (PyData.noDict_hsm h2) gu (by omega) (fun _ _ z => z) (fun h' u tk hk => fin h' u tk hk) hsz
        | tup hs ha =>
          cases rv
          exact repr_of_reads' rds h1 (PyData.noDict_hsm h2) gu (by omega) (fun _ _ z => z) (fun h' u tk hk => fin h' u tk hk) hsz
    · cases ho
  · cases ho
end DL
set_option Elab.async false
set_option linter.all false
set_option maxRecDepth 100000
set_option maxHeartbeats 4000000
/-! DlM: calls with keywords and defaults, three stored at once. -/
namespace DL
open PySem L2

def pickA (ix : List Nat) (l : List Arg) : List Arg := ix.map fun i => l.getD i (.val .none)
def pickV (ix : List Nat) (l : List V) : List V := ix.map fun i => l.getD i .non
def pickU (ix : List Nat) (l : List Value) : List Value := ix.map fun i => l.getD i .none
theorem vals_pick {vs : List V} {us : List Value} (h : Vals vs us) : ∀ ix : List Nat, Vals (pickV ix vs) (pickU ix us)
  | [] => .nil
  | i :: ix => by
    refine .cons ?_ (vals_pick h ix)
    show RelV (vs.getD i .non) (us.getD i .none)
    rw [List.getD_eq_getElem?_getD, List.getD_eq_getElem?_getD]
    cases q : vs[i]? with
    | none =>
      rw [h.none_of q]
      rfl
    | some v =>
      obtain ⟨u, e, r⟩ := h.get q
      rw [e]
      exact r
section
variable {K : PySem.W.Frag} {H G : Hp} {F : Nat → List Addr} {σ : L2.St} {e : Fr}
theorem rs_none : ∀ {as : List Arg} {vs : List V} {i : Nat}, rs K as vs H G F σ e → as[i]? = none → vs[i]? = none := fun {as vs i} r h => by
  have := r.length
  rw [List.getElem?_eq_none_iff] at h ⊢
  omega
theorem rs_pick {as : List Arg} {vs : List V} (h : rs K as vs H G F σ e) : ∀ ix : List Nat, rs K (pickA ix as) (pickV ix vs) H G F σ e
  | [] => .nil
  | i :: ix => by
    refine .cons ?_ (rs_pick h ix)
    show ra K (as.getD i (.val .none)) (vs.getD i .non) H G F σ e
    rw [List.getD_eq_getElem?_getD, List.getD_eq_getElem?_getD]
    cases q : as[i]? with
    | none =>
      rw [rs_none h q]
      exact Dp.non
    | some a =>
      obtain ⟨v, e, r⟩ := rs_at h q
      rw [e]
      exact r
theorem rs_app : ∀ {as bs : List Arg} {vs ws : List V}, rs K as vs H G F σ e → rs K bs ws H G F σ e → rs K (as ++ bs) (vs ++ ws) H G F σ e
  | [], _, _, _, r, q => by
    cases r
    exact q
  | _ :: _, _, _, _, r, q => by
    cases r with
    | cons h t => exact .cons h (rs_app t q)
theorem rs_data : ∀ {ds : List D} {vs : List V}, DpAll K G vs ds → rs K (ds.map Arg.val) vs H G F σ e
  | [], _, h => by
    cases h
    exact .nil
  | _ :: _, _, h => by
    cases h with
    | cons a t => exact .cons a (rs_data t)
end
abbrev DK (X : Cx) (Φ : Fx) (W : WX) (kws : List Keyword) (f : Af) : Prop := PK X kws (tG X.K X.mg Φ W (rs X.K) f)
def eFnK (Fs : Fn) (ms : List Bool) (ix : List Nat) (dd : List D) (n m : Nat) (fa fk : Af) : Rf := fun e => (fa e).bind fun as e1 => (fk e1).bind fun bs e2 =>
  if as.length = n ∧ bs.length = m ∧ ms.length = ix.length then callR Fs (ms.zip (pickA ix (as ++ bs ++ dd.map Arg.val))) e2 else .no
section
variable {X : Cx} {Φ : Fx} {W : WX} {x : Expr} {xs : List Expr} {pos p kpos : Pos} {n : Str} {fa fk : Af} {fe : Ef} {k : Nat} {f : Addr} {fd : FuncData} {ps ks : List Str} {Fs : Fn} {kws : List Keyword} {nm : Option Str} {ms : List Bool} {dvs : List V} {ds : List Value} {dd : List D} {i j : Nat}
theorem pk_weak {t t' : TA} (h : PK X kws t) (w : ∀ σ H Q, t' σ H Q → t σ H Q) : PK X kws t' := ⟨fun pos pins s σ H Q I q => h.run pos pins s σ H Q I (w σ H Q q)⟩
theorem k_nil : DK X Φ W [] aNil := pk_weak pk_nil fun σ H Q ⟨G, F, e, O, h⟩ => h [] H G F (Same.refl _) O .nil
theorem k_cons (ha : DE X Φ W x fe) (hr : DK X Φ W kws fk) : DK X Φ W (⟨nm, x, kpos⟩ :: kws) (aCons fe fk) :=
  pk_weak (pk_cons ha hr) fun σ H Q ⟨G, F, e, O, h⟩ => ⟨G, F, e, O, Wp.imp (Wp.seq h) fun v H1 ⟨G1, F1, e1, a, g1, O1, r1, h1⟩ => ⟨G1, F1, e1, O1, Wp.imp (Wp.seq h1) fun vs H2 ⟨G2, F2, e2, as, g2, O2, r2, h2⟩ =>
    h2 (v :: vs) H2 G2 F2 (Same.refl _) O2 (.cons (ra_up r1 g2) r2)⟩⟩
/-- how such a call binds: n positional values, keywords ks, the defaults' values behind; ix says where each parameter's value stands -/
structure KwB (K : PySem.W.Frag) (fd : FuncData) (ps ks : List Str) (n : Nat) (ix : List Nat) (ds : List Value) : Prop where
  to : ∀ (s : Shared) (us ws : List Value), K.In s.heap → us.length = n → ws.length = ks.length → BindsTo s fd ⟨us, ks.zip ws⟩ (ps.zip (pickU ix (us ++ ws ++ ds)))
theorem kcall {pins : List (Addr × Obj)} {σ : L2.St} {H : Hp} {s : Shared} {Q : VK} {ix : List Nat} {us ws : List Value} {vs zs : List V} (Fo : FnG X.prog X.w X.K X.mg X.base k f fd ps (spF X.K X.mg ms.length Fs)) (hr : Room k X.A) (gu : X.A.guards = some []) (tk : Takes X W)
    (hb : KwB X.K fd ps ks i ix ds) (hd : Vals dvs ds) (I : Inv X pins σ H s) (r : Vals vs us) (rz : Vals zs ws) (l1 : vs.length = i) (l2 : zs.length = ks.length) (h : spF X.K X.mg ms.length Fs (pickV ix (vs ++ zs ++ dvs)) H Q (WE W σ)) :
    wpAny (model X.prog X.w) X.A (call (.ref f) us (ks.zip ws)) (EP X pins σ Q) X.xe s := by
  have both : Vals (vs ++ zs ++ dvs) (us ++ ws ++ ds) := (r.append rz).append hd
  exact wpAny_call (codeAny_mono (run_g Fo hr gu tk I (hb.to s us ws I.kIn (r.length.symm.trans l1) (rz.length.symm.trans l2)) (vals_pick both ix) h) fun r s' z => match r, z with
    | .ok (.ret _), z => z
    | .error _, z => z)
def tCallX (i m : Nat) (ix : List Nat) (sp : Sp) (dvs : List V) (W : WX) (t tk : TA) : TE := fun σ H Q => t σ H fun vs H1 => tk σ H1 fun zs H2 => vs.length = i ∧ zs.length = m ∧ sp (pickV ix (vs ++ zs ++ dvs)) H2 Q (WE W σ)
theorem pe_callX {t tkw : TA} {ix : List Nat} (Fo : FnG X.prog X.w X.K X.mg X.base k f fd ps (spF X.K X.mg ms.length Fs)) (hr : Room k X.A) (gu : X.A.guards = some []) (hg : Gl X n) (hm : X.mg n = some (.ref f)) (hk : PySem.W.keepIn X.K (.ref f) = true) (hb : KwB X.K fd ps ks i ix ds) (hd : Vals dvs ds) (tk : Takes X W)
    (ha : PA X (x :: xs) t) (hkw : PK X kws tkw) (hall : (backToKw pos (keywordEach kws X.env)).all (·.1.isSome) = true := by rfl) (hks : (backToKw pos (keywordEach kws X.env)).filterMap (·.1) = ks := by rfl) (hdb : (n == ("__debug__" : Str)) = false := by decide)
    (he : starEach (x :: xs) X.env = (false, eval x X.env) :: starEach xs X.env := by rfl) (hpl : ((backTo pos (starEach (x :: xs) X.env)).any (·.1) || (backToKw pos (keywordEach kws X.env)).any (·.1.isNone)) = false := by rfl) :
    PE X (.Call (.Name n p) (x :: xs) kws pos) (tCallX i ks.length ix (spF X.K X.mg ms.length Fs) dvs W t tkw) := by
  constructor
  intro pins s σ H Q I reading
  apply wpAny_Call_Name_kw
  apply ld_glob I hg hm _ hdb
  apply PySem.W.callWith_KW (h₀ := X.base) I.ok.mod.kin hk hall _ hpl he
  apply thn (ha.run pos pins s σ H _ I reading)
  rintro us s1 ⟨vs, H1, I1, r, q⟩
  apply thn (hkw.run pos pins s1 σ H1 _ I1 q)
  rintro ws s2 ⟨zs, H2, I2, rz, l1, l2, q2⟩
  refine ⟨I2.kIn, ?_⟩
  rw [hks]
  exact kcall Fo hr gu tk hb hd I2 r rz l1 l2 q2
theorem pe_callX0 {tkw : TA} {ix : List Nat} (Fo : FnG X.prog X.w X.K X.mg X.base k f fd ps (spF X.K X.mg ms.length Fs)) (hr : Room k X.A) (gu : X.A.guards = some []) (hg : Gl X n) (hm : X.mg n = some (.ref f)) (hk : PySem.W.keepIn X.K (.ref f) = true) (hb : KwB X.K fd ps ks 0 ix ds) (hd : Vals dvs ds) (tk : Takes X W)
    (hkw : PK X kws tkw) (hall : (backToKw pos (keywordEach kws X.env)).all (·.1.isSome) = true := by rfl) (hks : (backToKw pos (keywordEach kws X.env)).filterMap (·.1) = ks := by rfl) (hdb : (n == ("__debug__" : Str)) = false := by decide)
    (hpl : ((backTo pos (starEach [] X.env)).any (·.1) || (backToKw pos (keywordEach kws X.env)).any (·.1.isNone)) = false := by rfl) :
    PE X (.Call (.Name n p) [] kws pos) (tCallX 0 ks.length ix (spF X.K X.mg ms.length Fs) dvs W tNil tkw) := by
  constructor
  intro pins s σ H Q I reading
  apply wpAny_Call_Name_kw
  apply ld_glob I hg hm _ hdb
  apply PySem.W.callWith_KW0 (h₀ := X.base) I.ok.mod.kin hk hall _ hpl
  apply thn (hkw.run pos pins s σ H _ I reading)
  rintro ws s2 ⟨zs, H2, I2, rz, l1, l2, q2⟩
  refine ⟨I2.kIn, ?_⟩
  rw [hks]
  exact kcall (us := []) (vs := []) Fo hr gu tk hb hd I2 .nil rz l1 l2 q2
theorem eFnK_weak {ix : List Nat} {σ : L2.St} {H : Hp} {Q : VK} (hdd : ∀ G, DpAll X.K G dvs dd) (t : tG X.K X.mg Φ W (rr X.K Φ) (eFnK Fs ms ix dd i j fa fk) σ H Q) :
    tCallX i j ix (spF X.K X.mg ms.length Fs) dvs W (tG X.K X.mg Φ W (rs X.K) fa) (tG X.K X.mg Φ W (rs X.K) fk) σ H Q := by
  obtain ⟨G, F, e, O, h⟩ := t
  refine ⟨G, F, e, O, Wp.imp (Wp.seq h) fun vs H1 ⟨G1, F1, e1, as, g1, O1, r1, h1⟩ => ⟨G1, F1, e1, O1, Wp.imp (Wp.seq h1) fun zs H2 ⟨G2, F2, e2, bs, g2, O2, r2, h2⟩ => ?_⟩⟩
  split at h2
  · rename_i hl
    have q1 := r1.length
    have q2 := r2.length
    refine ⟨by omega, by omega, ?_⟩
    have all := rs_pick (rs_app (rs_app (rs_up g2 r1) r2) (rs_data (H := H2) (F := F2) (σ := σ) (e := e2) (hdd G2))) ix
    exact callR_ok O2 all (by rw [hl.2.2]; exact (List.length_map _).symm) h2
  · exact h2.elim
theorem d_callK (ms : List Bool) (ix : List Nat) (dd : List D) (Fo : FnG X.prog X.w X.K X.mg X.base k f fd ps (spF X.K X.mg ms.length Fs)) (hr : Room k X.A) (gu : X.A.guards = some []) (hm : X.mg n = some (.ref f)) (hk : PySem.W.keepIn X.K (.ref f) = true) (hb : KwB X.K fd ps ks i ix ds) (hd : Vals dvs ds) (hdd : ∀ G, DpAll X.K G dvs dd) (tk : Takes X W)
    (ha : DA X Φ W (x :: xs) fa) (hkw : DK X Φ W kws fk) (hg : Gl X n := by rfl) (hall : (backToKw pos (keywordEach kws X.env)).all (·.1.isSome) = true := by rfl) (hks : (backToKw pos (keywordEach kws X.env)).filterMap (·.1) = ks := by rfl) (hdb : (n == ("__debug__" : Str)) = false := by decide)
    (he : starEach (x :: xs) X.env = (false, eval x X.env) :: starEach xs X.env := by rfl) (hpl : ((backTo pos (starEach (x :: xs) X.env)).any (·.1) || (backToKw pos (keywordEach kws X.env)).any (·.1.isNone)) = false := by rfl) :
    DR X Φ W (.Call (.Name n p) (x :: xs) kws pos) (eFnK Fs ms ix dd i ks.length fa fk) := pe_weak (pe_callX Fo hr gu hg hm hk hb hd tk ha hkw hall hks hdb he hpl) fun _ _ _ t => eFnK_weak hdd t
theorem d_callK0 (ms : List Bool) (ix : List Nat) (dd : List D) (Fo : FnG X.prog X.w X.K X.mg X.base k f fd ps (spF X.K X.mg ms.length Fs)) (hr : Room k X.A) (gu : X.A.guards = some []) (hm : X.mg n = some (.ref f)) (hk : PySem.W.keepIn X.K (.ref f) = true) (hb : KwB X.K fd ps ks 0 ix ds) (hd : Vals dvs ds) (hdd : ∀ G, DpAll X.K G dvs dd) (tk : Takes X W)
    (hkw : DK X Φ W kws fk) (hg : Gl X n := by rfl) (hall : (backToKw pos (keywordEach kws X.env)).all (·.1.isSome) = true := by rfl) (hks : (backToKw pos (keywordEach kws X.env)).filterMap (·.1) = ks := by rfl) (hdb : (n == ("__debug__" : Str)) = false := by decide)
    (hpl : ((backTo pos (starEach [] X.env)).any (·.1) || (backToKw pos (keywordEach kws X.env)).any (·.1.isNone)) = false := by rfl) :
    DR X Φ W (.Call (.Name n p) [] kws pos) (eFnK Fs ms ix dd 0 ks.length aNil fk) := pe_weak (pe_callX0 Fo hr gu hg hm hk hb hd tk hkw hall hks hdb hpl) fun σ H Q t => by
  obtain ⟨G, F, e, O, h⟩ := (eFnK_weak (fa := aNil) hdd t)
  exact h [] H G F (Same.refl _) O .nil
end
section
variable {K : PySem.W.Frag} {x qual : Str} {params : Arguments} {body : List Stmt} {scope : Scope} {f : Addr} {fd : FuncData} {ps ks : List Str} {n : Nat} {ix : List Nat}
/-- a def without defaults -/
theorem kw_binds (Fd : FunD K x qual params body scope [] [] f fd) (h : ∀ (kV doc pm : Value) (an : Option Addr) (cdv ct : Value) (us ws : List Value), us.length = n → ws.length = ks.length →
    bindArgs (PySem.W.fnOf x qual params body scope .none kV doc pm an cdv ct) ⟨us, ks.zip ws⟩ = pure (ps.zip (pickU ix (us ++ ws ++ [])))) : KwB K fd ps ks n ix [] := by
  obtain ⟨oc, od, dV, kV, doc, pm, an, cdv, ct, osl, rfl, lk, hcd, hD, hK⟩ := Fd.ex
  rcases hD with ⟨_, rfl⟩ | ⟨z, _⟩
  · exact ⟨fun s us ws _ l1 l2 => .of_eq (h kV doc pm an cdv ct us ws l1 l2)⟩
  · exact absurd rfl z
end

/-! ### a, b, c = x, y, z with plain names -/
section
variable {X : Cx} {Φ : Fx} {W : WX} {x y z : Expr} {fa fb fc : Rf} {pos px py pz pt p2 : Pos} {kt k2 : Nat} {n m l : Str}
theorem s_par3 (i j k : Nat) (hc : X.calm = true) (hN : X.N.Nodup) (ha : DR X Φ W x fa) (hb : ∀ Φ, DR X Φ W y fb) (hc3 : ∀ Φ, DR X Φ W z fc) (hw : swappedStores [.Tuple [.Name n px, .Name m py, .Name l pz] kt pt] (.Tuple [x, y, z] k2 p2) X.env = pure (some [n, m, l]))
    (hi : X.N[i]? = some n := by rfl) (hj : X.N[j]? = some m := by rfl) (hk : X.N[k]? = some l := by rfl) (hij : i ≠ j := by decide) (hik : i ≠ k := by decide) (hjk : j ≠ k := by decide) (hx : X.env.scope.names.lookup n = some .local := by rfl) (hy : X.env.scope.names.lookup m = some .local := by rfl) (hz : X.env.scope.names.lookup l = some .local := by rfl)
    (hs : swapsWithSole [.Tuple [.Name n px, .Name m py, .Name l pz] kt pt] (.Tuple [x, y, z] k2 p2) pos.line X.env = pure false := by rfl) (h1 : starEach [x, y, z] X.env = (false, eval x X.env) :: starEach [y, z] X.env := by rfl) (h2 : starEach [y, z] X.env = (false, eval y X.env) :: starEach [z] X.env := by rfl) (h3 : starEach [z] X.env = (false, eval z X.env) :: starEach [] X.env := by rfl) :
    DS X Φ W (.Assign [.Tuple [.Name n px, .Name m py, .Name l pz] kt pt] (.Tuple [x, y, z] k2 p2) pos) (sPar3 i j k fa fb fc) :=
  ps_weak (ps_par3 hc hN hi hj hk hij hik hjk hx hy hz (pa_cons ha (pa_cons (pe_ex hb) (pa_cons (pe_ex hc3) pa_nil h3) h2) h1) hw hs) fun Dn σ H ⟨G, F, e, O, h⟩ => ⟨G, F, e, O, Wp.imp (WS.seq (σ := σ) h) fun v H1 ⟨G1, F1, e1, r1, g1, O1, q1, h1⟩ => by
    obtain ⟨A1, L1, P1⟩ := Held.mk' O1 q1
    refine ⟨_, G1, F1, e1, P1, Wp.imp (WS.seqP (fun o => L1.cv o) h1) fun w H2 ⟨G2, F2, e2, r2, g2, O2, q2, h2⟩ => ?_⟩
    obtain ⟨A2, L2', P2⟩ := Held.mk' O2 q2
    refine ⟨_, G2, F2, e2, P2, Wp.imp (WS.seqP (fun o => L1.cv (L2'.cv o)) h2) fun u H3 ⟨G3, F3, e3, r3, g3, O3, q3, h3⟩ => ?_⟩
    obtain ⟨A3, L3, P3⟩ := Held.mk' O3 q3
    have a1 : ∀ a, r1 = .arg a → ra X.K a v H3 G3 F3 σ e3 := fun a z => ra_up (L1.ar a z) (g2.trans g3)
    obtain ⟨G4, e4, s1, t4, O4, z4, h4⟩ := WS.fzX P3 a1 h3
    have a2 : ∀ a, r2 = .arg a → ra X.K a w H3 G4 F3 σ e4 := fun a z => ra_up (L2'.ar a z) (g3.trans t4)
    obtain ⟨G5, e5, s2, t5, O5, z5, h5⟩ := WS.fzX O4 a2 h4
    have a3 : ∀ a, r3 = .arg a → ra X.K a u H3 G5 F3 σ e5 := fun a z => ra_up (L3.ar a z) (t4.trans t5)
    obtain ⟨G6, e6, s3, t6, O6, z6, h6⟩ := WS.fzX O5 a3 h5
    have O6b := L3.cv O6
    have O6a := L2'.cv O6b
    obtain ⟨B1, b1, y1⟩ := L1.rx O6a (g2.trans (g3.trans (t4.trans (t5.trans t6)))) (t5.trans t6) z4
    obtain ⟨B2, b2, y2⟩ := L2'.rx O6b (g3.trans (t4.trans (t5.trans t6))) t6 z5
    obtain ⟨B3, b3, y3⟩ := L3.rx O6 (t4.trans (t5.trans t6)) (Same.refl _) z6
    have down : ∀ {Ψ : Fx} {Hh : Hp} {A B : List Addr} {r : RV} {v : V}, (∀ b ∈ A, Hh b ≠ none) → rx X.K (Ψ.plus Hh A) B r v H3 G6 F3 e6 → rx X.K Ψ B r v H3 G6 F3 e6 := fun {Ψ Hh A B r v} th y => by
      cases r with
      | arg a => cases a <;> exact y
      | new o =>
        obtain ⟨a, ea, oa, na, ap⟩ := y
        refine ⟨a, ea, oa, fun b hb => ⟨(na b hb).1, ?_⟩, ap⟩
        have z : (if b ∈ A then Hh b else Ψ.H_0 b) = none := (na b hb).2
        by_cases hA : b ∈ A
        · rw [if_pos hA] at z
          exact absurd z (th b hA)
        · rw [if_neg hA] at z
          exact z
    have y2' := down L1.th y2
    have y3' := down L1.th (down L2'.th y3)
    have dj12 : ∀ b ∈ B2, b ∉ B1 := fun b hb hb1 => by
      have z : (if b ∈ A1 then H1 b else Φ.H_0 b) = none := L2'.n0 b (b2 b hb)
      rw [if_pos (b1 b hb1)] at z
      exact L1.th b (b1 b hb1) z
    have n3 : ∀ b ∈ B3, (if b ∈ A2 then H2 b else (if b ∈ A1 then H1 b else Φ.H_0 b)) = none := fun b hb => L3.n0 b (b3 b hb)
    have dj23 : ∀ b ∈ B3, b ∉ B2 := fun b hb hb2 => by
      have z := n3 b hb
      rw [if_pos (b2 b hb2)] at z
      exact L2'.th b (b2 b hb2) z
    have dj13 : ∀ b ∈ B3, b ∉ B1 := fun b hb hb1 => by
      have z := n3 b hb
      by_cases hA : b ∈ A2
      · rw [if_pos hA] at z
        exact L2'.th b hA z
      · rw [if_neg hA, if_pos (b1 b hb1)] at z
        exact L1.th b (b1 b hb1) z
    obtain ⟨F7, e7, O7, h7, k7⟩ := putR_ok (L1.cv O6a) y1 h6
    obtain ⟨F8, e8, O8, h8, k8⟩ := putR_ok O7 (k7 B2 s2 w dj12 y2') h7
    obtain ⟨F9, e9, O9, h9, _⟩ := putR_ok O8 (k8 B3 s3 u dj23 (k7 B3 s3 u dj13 y3')) h8
    exact ⟨v, w, u, rfl, h9 .non _ H3 G6 F9 (Same.refl _) O9⟩⟩
end
end DL
set_option Elab.async false
set_option linter.all false
set_option maxRecDepth 100000
set_option maxHeartbeats 4000000
/-! DlN: the law's own promise out of its frame function. -/
namespace DL
open PySem L2

/-- the script as data -/
def scr (ns : List Int) : D := .list (ns.map PyData.int)
theorem spF_law {K : PySem.W.Frag} {mg : Str → Option Value} {F : Fn} {H : Hp} {a : Addr} {ns : List Int} {os : Fr} {E : XK} (h : F [.sh (scr ns)] = .ok (.sh (.bool true)) os) (hs : SqL K H a (ns.map V.int)) :
    spF K mg 1 F [.ref a] H (fun v _ => v = .bl true) E := by
  refine ⟨rfl, H, [.sh (scr ns)], fun _ => [], fun _ => 0, ⟨fun _ _ q => q, rfl, fun i s q => ?_, fun i j s t hij q1 q2 o1 o2 => ?_, ?_, ?_, ?_⟩, rfl, ?_⟩
  · match i, q with
    | 0, q =>
      cases (show s = .sh (scr ns) from by simpa using q.symm)
      exact ⟨.ref a, rfl, .lst hs (dp_ints ns)⟩
    | i + 1, q => cases q
  · match i, q1 with
    | 0, q1 =>
      cases (show s = .sh (scr ns) from by simpa using q1.symm)
      cases o1
    | i + 1, q1 => cases q1
  · intros
    first | rfl | assumption | trivial
  · intros
    first | assumption | (rename_i z; exact absurd z (by simp)) | trivial
  · intros
    first | trivial | assumption | (rename_i z; cases z)
  · rw [h]
    intro v H' G' F' _ _ r
    cases (show Dp K G' v (.bool true) from r)
    rfl
/-- the law's end behind k_head, k_fill: K is what the head leaves, Fc what is read off it -/
theorem walk_k {l : PySem.W.OpenLaw} {n k : Nat} {q : Program} {loose : List Str} {XP : (Str → Option Value) → Heap → Prop} {YP : World → Heap → Prop} {d : DefRec} {x : Str} {K : Params → PySem.W.Frag} (Fc : PySem.W.Frag → Prop) (Fl : Fn)
    (hn : l.most = some n) (hn2 : n ≤ sizeLine) (hdf : d.params.defaults = []) (room : Room k callerA) (hY : ∀ (w : World) (h : Heap), YP w h → (K w.params).In h) (hC : ∀ w : World, Fc (K w.params))
    (F : ∀ (w : World) (K : PySem.W.Frag) (mg : Str → Option Value) (fa : Addr) (h : Heap), K.In h → Fc K → h.Ns mainGlobals mg → mg d.name = some (.ref fa) →
      ∃ fd : FuncData, (∀ (s : Shared) (u : Value), BindsTo s fd ⟨[u], []⟩ [(x, u)]) ∧ ∀ base : Heap, K.In base → base.Ns mainGlobals mg → FnG l.prog w K mg base k fa fd [x] (spF K mg 1 Fl))
    (say : ∀ ns : List Int, ns.length ≤ n → (∀ z ∈ ns, Builtin.Int.intBits z ≤ 1048576) → ∃ os, Fl [.sh (scr ns)] = .ok (.sh (.bool true)) os) :
    PySem.W.WalkO q loose XP YP l.row.toRowW d [] (fun f vs => PySem.call f vs) := by
  refine walk_g (x := x) hn hn2 hdf room fun w mg fa h Y G hmg => ?_
  have KX := hY w h Y
  obtain ⟨fd, hb, hF⟩ := F w _ mg fa h KX (hC w) G hmg
  refine ⟨K w.params, fd, spF (K w.params) mg 1 Fl, KX, hb, fun H a ns hl hbits hS => ?_, hF⟩
  obtain ⟨os, hos⟩ := say ns hl hbits
  exact spF_law hos hS
end DL
set_option Elab.async false
set_option linter.all false
set_option maxRecDepth 100000
set_option maxHeartbeats 4000000
/-! DlO: a call with one new object that the callee writes, f(made()). -/
namespace DL
open PySem L2
section
variable {K : PySem.W.Frag} {mg : Str → Option Value} {Φ : Fx} {W : WX} {H G : Hp} {F : Nat → List Addr} {σ : L2.St} {e : Fr}
theorem Ok.push {w : Ow} {a : Addr} {A : List Addr} (O : Ok K Φ H G F σ e) (h : OwAt K G H w a A) (n : ∀ b ∈ A, G b = none ∧ Φ.H_0 b = none)
    (ap : ∀ j t, e[j]? = some t → t.owned = true → ∀ b ∈ A, b ∉ F j) : Ok K Φ H G (fun j => if j = e.length then A else F j) (σ ++ [some (.ref a)]) (e ++ [.own w]) := by
  have at_ : ∀ {j : Nat} {s : Sl}, (e ++ [Sl.own w])[j]? = some s → (e[j]? = some s ∧ j < e.length) ∨ (j = e.length ∧ s = .own w) := fun {j s} q => by
    by_cases hj : j < e.length
    · rw [List.getElem?_append_left hj] at q
      exact .inl ⟨q, hj⟩
    · rw [List.getElem?_append_right (by omega)] at q
      match z : j - e.length, q with
      | 0, q =>
        exact .inr ⟨by omega, by simpa using q.symm⟩
      | k + 1, q =>
        simp at q
  refine ⟨O.gh, by simp [O.len], fun j s q => ?_, fun j k s t hjk q1 q2 o1 o2 => ?_, O.f0, O.f1, O.f2⟩
  · rcases at_ q with ⟨q1, hj⟩ | ⟨rfl, rfl⟩
    · rw [if_neg (by omega), List.getElem?_append_left (by rw [← O.len]; exact hj)]
      exact O.slots j s q1
    · rw [if_pos rfl]
      refine ⟨a, ?_, h, n⟩
      rw [List.getElem?_append_right (by rw [O.len]; omega), O.len]
      simp
  · rcases at_ q1 with ⟨p1, hj⟩ | ⟨rfl, rfl⟩
    · rw [if_neg (by omega)]
      rcases at_ q2 with ⟨p2, hk⟩ | ⟨rfl, rfl⟩
      · rw [if_neg (by omega)]
        exact O.sep j k s t hjk p1 p2 o1 o2
      · rw [if_pos rfl]
        exact fun b hb hb2 => ap j s p1 o1 b hb2 hb
    · rw [if_pos rfl]
      rcases at_ q2 with ⟨p2, hk⟩ | ⟨rfl, rfl⟩
      · rw [if_neg (by omega)]
        exact ap k t p2 o2
      · exact absurd rfl hjk
theorem Ok.pop {o : Option V} (O : Ok K Φ H G F (σ ++ [o]) e) : Ok K Φ H G F σ (e.take σ.length) := by
  have l : e.length = σ.length + 1 := by rw [O.len, List.length_append]; rfl
  have at_ : ∀ {j : Nat} {s : Sl}, (e.take σ.length)[j]? = some s → e[j]? = some s ∧ j < σ.length := fun {j s} q => by
    rw [List.getElem?_take] at q
    split at q
    · exact ⟨q, by assumption⟩
    · cases q
  refine ⟨O.gh, by rw [List.length_take]; omega, fun j s q => ?_, fun j k s t hjk q1 q2 o1 o2 => O.sep j k s t hjk (at_ q1).1 (at_ q2).1 o1 o2, O.f0, O.f1, O.f2⟩
  obtain ⟨q1, hj⟩ := at_ q
  have z := O.slots j s q1
  rw [List.getElem?_append_left hj] at z
  exact z
def popR (n : Nat) : R RV → R RV
  | .ok (.arg (.val d)) e => .ok (.arg (.val d)) (e.take n)
  | .ok (.arg (.slot _)) _ => .no
  | .ok (.new w) e => .ok (.new w) (e.take n)
  | .ex x e => .ex x (e.take n)
  | .no => .no
/-- f(made()), the made object written by f -/
def eFn1 (Fs : Fn) (fr : Rf) : Rf := fun e => (fr e).bind fun r e1 => match r with
  | .new w => popR e1.length (callR Fs [(true, .slot e1.length)] (e1 ++ [.own w]))
  | .arg _ => .no
theorem call1_ok {Fs : Fn} {Q : VK} {w : Ow} {v : V} (O : Ok K Φ H G F σ e) (r : rr K Φ (.new w) v H G F σ e) (h : Wp K mg Φ W σ (rr K Φ) G (popR e.length (callR Fs [(true, .slot e.length)] (e ++ [.own w]))) Q) : spF K mg 1 Fs [v] H Q (WE W σ) := by
  obtain ⟨a, A, rfl, o, n, ap⟩ := r
  have O1 := O.push o n ap
  have rs1 : rs K [.slot e.length] [.ref a] H G (fun j => if j = e.length then A else F j) (σ ++ [some (.ref a)]) (e ++ [.own w]) :=
    .cons (show (σ ++ [some (V.ref a)])[e.length]? = some (some (.ref a)) from by rw [List.getElem?_append_right (by rw [O.len]; omega), O.len]; simp) .nil
  have z := callR_ok (W := fun c d _ H => W c d σ H) (mg := mg) (Fs := Fs) (ms := [true]) (Q := Q) O1 rs1 rfl (by
    show Wp K mg Φ (fun c d _ H => W c d σ H) (σ ++ [some (.ref a)]) (rr K Φ) G (callR Fs [(true, .slot e.length)] (e ++ [.own w])) Q
    cases q : callR Fs [(true, .slot e.length)] (e ++ [.own w]) with
    | no =>
      rw [q] at h
      exact h.elim
    | ex x e2 =>
      rw [q] at h
      intro c d H' G' F' s O2 p
      have O3 := O2.pop
      rw [O.len] at h
      exact h c d H' G' F' s O3 p
    | ok r e2 =>
      rw [q] at h
      intro v' H' G' F' s O2 p
      have O3 := O2.pop
      rw [O.len] at h
      cases r with
      | arg b =>
        cases b with
        | slot i => exact h.elim
        | val d => exact h v' H' G' F' s O3 p
      | new u =>
        obtain ⟨a1, A1, e1, o1, n1, ap1⟩ := p
        refine h v' H' G' F' s O3 ⟨a1, A1, e1, o1, n1, fun j t q2 => ap1 j t ?_⟩
        rw [List.getElem?_take] at q2
        split at q2
        · exact q2
        · cases q2)
  exact z
end
section
variable {X : Cx} {Φ : Fx} {W : WX} {x : Expr} {pos p : Pos} {n : Str} {fr : Rf} {k : Nat} {f : Addr} {fd : FuncData} {ps : List Str} {Fs : Fn}
theorem d_call1 (Fo : FnG X.prog X.w X.K X.mg X.base k f fd ps (spF X.K X.mg 1 Fs)) (hr : Room k X.A) (gu : X.A.guards = some []) (hm : X.mg n = some (.ref f)) (hk : PySem.W.keepIn X.K (.ref f) = true) (hb : Binds X.K fd ps []) (tk : Takes X W)
    (ha : DR X Φ W x fr) (hg : Gl X n := by rfl) (hdb : (n == ("__debug__" : Str)) = false := by decide) (he : starEach [x] X.env = (false, eval x X.env) :: starEach [] X.env := by rfl) (hpl : (backTo pos (starEach [] X.env)).any (·.1) = false := by rfl) :
    DR X Φ W (.Call (.Name n p) [x] [] pos) (eFn1 Fs fr) :=
  pe_weak (pe_callG Fo hr gu hg hm hk hb .nil tk (pa_cons ha pa_nil he) hdb he hpl) fun σ H Q ⟨G, F, e, O, h⟩ => ⟨G, F, e, O, Wp.imp (Wp.seq h) fun v H1 ⟨G1, F1, e1, r, g1, O1, r1, h1⟩ => by
    cases r with
    | arg _ => exact h1.elim
    | new w => exact call1_ok O1 r1 h1⟩
end
end DL
set_option Elab.async false
set_option linter.all false
set_option maxRecDepth 100000
set_option maxHeartbeats 4000000
/-! DlP: a, b = x, y by a tuple between (where a name is a cell), new objects kept own. -/
namespace DL
open PySem L2
theorem rr_grow {K : PySem.W.Frag} {Φ : Fx} {r : RV} {v : V} {H G H' : Hp} {F : Nat → List Addr} {σ : L2.St} {e : Fr} (h : rr K Φ r v H G F σ e) (hh : Same H H') : rr K Φ r v H' G F σ e := by
  cases r with
  | arg a => cases a <;> exact h
  | new w =>
    obtain ⟨a, A, e1, o, n, ap⟩ := h
    exact ⟨a, A, e1, o.mono (Same.refl _) (fun b _ u q => hh b u q), n, ap⟩
section
variable {X : Cx} {Φ : Fx} {W : WX} {x y z : Expr} {fa fb fc : Rf} {pos px py pz pt p2 : Pos} {kt k2 : Nat} {n m l : Str}
theorem s_parT (i j : Nat) (hc : X.calm = true) (hN : X.N.Nodup) (ha : DR X Φ W x fa) (hb : ∀ Φ, DR X Φ W y fb) (hw : swappedStores [.Tuple [.Name n px, .Name m py] kt pt] (.Tuple [x, y] k2 p2) X.env = pure none := by rfl)
    (hi : X.N[i]? = some n := by rfl) (hj : X.N[j]? = some m := by rfl) (hx : Loc X.env.scope n := by first | exact Or.inl rfl | exact Or.inr rfl) (hy : Loc X.env.scope m := by first | exact Or.inl rfl | exact Or.inr rfl)
    (hfx : X.fn n = true ∨ X.env.scope.names.lookup n = some .local := by first | exact .inl rfl | exact .inr rfl) (hfy : X.fn m = true ∨ X.env.scope.names.lookup m = some .local := by first | exact .inl rfl | exact .inr rfl)
    (hs : swapsWithSole [.Tuple [.Name n px, .Name m py] kt pt] (.Tuple [x, y] k2 p2) pos.line X.env = pure false := by rfl) (h1 : starEach [x, y] X.env = (false, eval x X.env) :: starEach [y] X.env := by rfl) (h2 : starEach [y] X.env = (false, eval y X.env) :: starEach [] X.env := by rfl) :
    DS X Φ W (.Assign [.Tuple [.Name n px, .Name m py] kt pt] (.Tuple [x, y] k2 p2) pos) (sPar i j fa fb) :=
  ps_weak (ps_asg (pe_tup (pa_cons ha (pa_cons (pe_ex hb) pa_nil h2) h1)) (pg_tup hc (pgs_cons (pg_name hN hi hx hfx) (pgs_cons (pg_name hN hj hy hfy) pgs_nil))) hs hw) fun Dn σ H ⟨G, F, e, O, h⟩ => ⟨G, F, e, O, Wp.imp (WS.seq (σ := σ) h) fun v H1 ⟨G1, F1, e1, r1, g1, O1, q1, h1⟩ => by
    obtain ⟨A1, L1, P1⟩ := Held.mk' O1 q1
    refine ⟨_, G1, F1, e1, P1, Wp.imp (WS.seqP (fun o => L1.cv o) h1) fun w H0 ⟨G2, F2, e2, r2, g2, O0, q0, h2⟩ => ⟨line1000 (by simp), fun p hp => ?_⟩⟩
    have gr := Grow.own (o := .tup [v, w]) O0.gh hp
    obtain ⟨H2, eH⟩ : ∃ H2, H2 = upd H0 p (.tup [v, w]) := ⟨_, rfl⟩
    have O2 := O0.grow gr
    have q2 := rr_grow q0 gr.hh
    rw [← eH] at O2 q2
    have tp : SqT X.K H2 p [v, w] := .of (by rw [eH]; exact upd_same)
    rw [← eH]
    obtain ⟨A2, L2, P2⟩ := Held.mk' O2 q2
    have a1 : ∀ a, r1 = .arg a → ra X.K a v H2 G2 F2 σ e2 := fun a z => ra_up (L1.ar a z) g2
    obtain ⟨G3, e3, r3, s3, O3, z3, h3⟩ := WS.fzX P2 a1 h2
    have a2 : ∀ a, r2 = .arg a → ra X.K a w H2 G3 F2 σ e3 := fun a z => ra_up (L2.ar a z) s3
    obtain ⟨G4, e4, r4, s4, O4, z4, h4⟩ := WS.fzX O3 a2 h3
    obtain ⟨B1, b1, y1⟩ := L1.rx (L2.cv O4) (g2.trans (s3.trans s4)) s4 z3
    obtain ⟨B2, b2, y2⟩ := L2.rx O4 (s3.trans s4) (Same.refl _) z4
    have y2' : rx X.K Φ B2 r4 w H2 G4 F2 e4 := by
      cases r4 with
      | arg a => cases a <;> exact y2
      | new u =>
        obtain ⟨a, ea, oa, na, ap⟩ := y2
        refine ⟨a, ea, oa, fun b hb => ⟨(na b hb).1, ?_⟩, ap⟩
        have z : (if b ∈ A1 then H1 b else Φ.H_0 b) = none := (na b hb).2
        by_cases hA : b ∈ A1
        · rw [if_pos hA] at z
          exact absurd z (L1.th b hA)
        · rw [if_neg hA] at z
          exact z
    have dj : ∀ b ∈ B2, b ∉ B1 := fun b hb hb1 => by
      have z : (if b ∈ A1 then H1 b else Φ.H_0 b) = none := L2.n0 b (b2 b hb)
      rw [if_pos (b1 b hb1)] at z
      exact L1.th b (b1 b hb1) z
    obtain ⟨F5, e5, O5, h5, k5⟩ := putR_ok (L1.cv (L2.cv O4)) y1 h4
    obtain ⟨F6, e6, O6, h6, _⟩ := putR_ok O5 (k5 B2 r4 w dj y2') h5
    exact ⟨p, [v, w], rfl, tp, rfl, v, [w], rfl, w, [], rfl, rfl, h6 .non _ H2 G4 F6 (Same.refl _) O6⟩⟩
theorem s_parT3 (i j k : Nat) (hc : X.calm = true) (hN : X.N.Nodup) (ha : DR X Φ W x fa) (hb : ∀ Φ, DR X Φ W y fb) (hc3 : ∀ Φ, DR X Φ W z fc) (hw : swappedStores [.Tuple [.Name n px, .Name m py, .Name l pz] kt pt] (.Tuple [x, y, z] k2 p2) X.env = pure none := by rfl)
    (hi : X.N[i]? = some n := by rfl) (hj : X.N[j]? = some m := by rfl) (hk : X.N[k]? = some l := by rfl) (hx : Loc X.env.scope n := by first | exact Or.inl rfl | exact Or.inr rfl) (hy : Loc X.env.scope m := by first | exact Or.inl rfl | exact Or.inr rfl) (hz : Loc X.env.scope l := by first | exact Or.inl rfl | exact Or.inr rfl)
    (hfx : X.fn n = true ∨ X.env.scope.names.lookup n = some .local := by first | exact .inl rfl | exact .inr rfl) (hfy : X.fn m = true ∨ X.env.scope.names.lookup m = some .local := by first | exact .inl rfl | exact .inr rfl) (hfz : X.fn l = true ∨ X.env.scope.names.lookup l = some .local := by first | exact .inl rfl | exact .inr rfl)
    (hs : swapsWithSole [.Tuple [.Name n px, .Name m py, .Name l pz] kt pt] (.Tuple [x, y, z] k2 p2) pos.line X.env = pure false := by rfl) (h1 : starEach [x, y, z] X.env = (false, eval x X.env) :: starEach [y, z] X.env := by rfl) (h2 : starEach [y, z] X.env = (false, eval y X.env) :: starEach [z] X.env := by rfl) (h3 : starEach [z] X.env = (false, eval z X.env) :: starEach [] X.env := by rfl) :
    DS X Φ W (.Assign [.Tuple [.Name n px, .Name m py, .Name l pz] kt pt] (.Tuple [x, y, z] k2 p2) pos) (sPar3 i j k fa fb fc) :=
  ps_weak (ps_asg (pe_tup (pa_cons ha (pa_cons (pe_ex hb) (pa_cons (pe_ex hc3) pa_nil h3) h2) h1)) (pg_tup hc (pgs_cons (pg_name hN hi hx hfx) (pgs_cons (pg_name hN hj hy hfy) (pgs_cons (pg_name hN hk hz hfz) pgs_nil)))) hs hw) fun Dn σ H ⟨G, F, e, O, h⟩ => ⟨G, F, e, O, Wp.imp (WS.seq (σ := σ) h) fun v H1 ⟨G1, F1, e1, r1, g1, O1, q1, h1⟩ => by
    obtain ⟨A1, L1, P1⟩ := Held.mk' O1 q1
    refine ⟨_, G1, F1, e1, P1, Wp.imp (WS.seqP (fun o => L1.cv o) h1) fun w H2 ⟨G2, F2, e2, r2, g2, O2, q2, h2⟩ => ?_⟩
    obtain ⟨A2, L2', P2⟩ := Held.mk' O2 q2
    refine ⟨_, G2, F2, e2, P2, Wp.imp (WS.seqP (fun o => L1.cv (L2'.cv o)) h2) fun u H0 ⟨G3, F3, e3, r3, g3, O0, q0, h3⟩ => ⟨line1000 (by simp), fun p hp => ?_⟩⟩
    have gr := Grow.own (o := .tup [v, w, u]) O0.gh hp
    obtain ⟨H3, eH⟩ : ∃ H3, H3 = upd H0 p (.tup [v, w, u]) := ⟨_, rfl⟩
    have O3 := O0.grow gr
    have q3 := rr_grow q0 gr.hh
    rw [← eH] at O3 q3
    have tp : SqT X.K H3 p [v, w, u] := .of (by rw [eH]; exact upd_same)
    rw [← eH]
    obtain ⟨A3, L3, P3⟩ := Held.mk' O3 q3
    have a1 : ∀ a, r1 = .arg a → ra X.K a v H3 G3 F3 σ e3 := fun a z => ra_up (L1.ar a z) (g2.trans g3)
    obtain ⟨G4, e4, s1, t4, O4, z4, h4⟩ := WS.fzX P3 a1 h3
    have a2 : ∀ a, r2 = .arg a → ra X.K a w H3 G4 F3 σ e4 := fun a z => ra_up (L2'.ar a z) (g3.trans t4)
    obtain ⟨G5, e5, s2, t5, O5, z5, h5⟩ := WS.fzX O4 a2 h4
    have a3 : ∀ a, r3 = .arg a → ra X.K a u H3 G5 F3 σ e5 := fun a z => ra_up (L3.ar a z) (t4.trans t5)
    obtain ⟨G6, e6, s3, t6, O6, z6, h6⟩ := WS.fzX O5 a3 h5
    have O6b := L3.cv O6
    have O6a := L2'.cv O6b
    obtain ⟨B1, b1, y1⟩ := L1.rx O6a (g2.trans (g3.trans (t4.trans (t5.trans t6)))) (t5.trans t6) z4
    obtain ⟨B2, b2, y2⟩ := L2'.rx O6b (g3.trans (t4.trans (t5.trans t6))) t6 z5
    obtain ⟨B3, b3, y3⟩ := L3.rx O6 (t4.trans (t5.trans t6)) (Same.refl _) z6
    have down : ∀ {Ψ : Fx} {Hh : Hp} {A B : List Addr} {r : RV} {v : V}, (∀ b ∈ A, Hh b ≠ none) → rx X.K (Ψ.plus Hh A) B r v H3 G6 F3 e6 → rx X.K Ψ B r v H3 G6 F3 e6 := fun {Ψ Hh A B r v} th y => by
      cases r with
      | arg a => cases a <;> exact y
      | new o =>
        obtain ⟨a, ea, oa, na, ap⟩ := y
        refine ⟨a, ea, oa, fun b hb => ⟨(na b hb).1, ?_⟩, ap⟩
        have z : (if b ∈ A then Hh b else Ψ.H_0 b) = none := (na b hb).2
        by_cases hA : b ∈ A
        · rw [if_pos hA] at z
          exact absurd z (th b hA)
        · rw [if_neg hA] at z
          exact z
    have y2' := down L1.th y2
    have y3' := down L1.th (down L2'.th y3)
    have dj12 : ∀ b ∈ B2, b ∉ B1 := fun b hb hb1 => by
      have z : (if b ∈ A1 then H1 b else Φ.H_0 b) = none := L2'.n0 b (b2 b hb)
      rw [if_pos (b1 b hb1)] at z
      exact L1.th b (b1 b hb1) z
    have n3 : ∀ b ∈ B3, (if b ∈ A2 then H2 b else (if b ∈ A1 then H1 b else Φ.H_0 b)) = none := fun b hb => L3.n0 b (b3 b hb)
    have dj23 : ∀ b ∈ B3, b ∉ B2 := fun b hb hb2 => by
      have z := n3 b hb
      rw [if_pos (b2 b hb2)] at z
      exact L2'.th b (b2 b hb2) z
    have dj13 : ∀ b ∈ B3, b ∉ B1 := fun b hb hb1 => by
      have z := n3 b hb
      by_cases hA : b ∈ A2
      · rw [if_pos hA] at z
        exact L2'.th b hA z
      · rw [if_neg hA, if_pos (b1 b hb1)] at z
        exact L1.th b (b1 b hb1) z
    obtain ⟨F7, e7, O7, h7, k7⟩ := putR_ok (L1.cv O6a) y1 h6
    obtain ⟨F8, e8, O8, h8, k8⟩ := putR_ok O7 (k7 B2 s2 w dj12 y2') h7
    obtain ⟨F9, e9, O9, h9, _⟩ := putR_ok O8 (k8 B3 s3 u dj23 (k7 B3 s3 u dj13 y3')) h8
    exact ⟨p, [v, w, u], rfl, tp, rfl, v, [w, u], rfl, w, [u], rfl, u, [], rfl, rfl, h9 .non _ H3 G6 F9 (Same.refl _) O9⟩⟩
end
end DL
set_option Elab.async false
set_option linter.all false
set_option maxRecDepth 100000
set_option maxHeartbeats 4000000
/-! DlR: targets over lists and tuples, in, chains of comparisons, lists put together. -/
namespace DL
open PySem L2

/-! ### a, b = a list or a tuple -/
theorem pg_or {X : Cx} {tg : Expr} {t u : TG} (h1 : PG X tg t) (h2 : PG X tg u) : PG X tg (fun v σ H Q => t v σ H Q ∨ u v σ H Q) := ⟨fun pins s σ H v w Q I r q => q.elim (h1.run pins s σ H v w Q I r) (h2.run pins s σ H v w Q I r)⟩
def gSeqF (r : Gfs) : Gf := fun d e => match d with
  | .tuple ds => r ds e
  | .list ds => r ds e
  | _ => .no
section
variable {X : Cx} {Φ : Fx} {W : WX} {tgs : List Expr} {pos : Pos} {js : List Nat} {r : Gfs}
theorem g_seq {k : Nat} {n : Nat} (hc : X.calm = true) (h : DGs X Φ js tgs r) (hl : ∀ ds e u e', r ds e = .ok u e' → ds.length = n) (hn : (assignEach tgs X.env).length = n := by rfl) (hst : (assignEach tgs X.env).findIdx? (·.1) = none := by rfl) : DG X Φ js (.Tuple tgs k pos) (gSeqF r) :=
  pg_weak (pg_or (pg_tup hc h hn hst) (pg_lst hc h hn hst)) fun v σ H Q ⟨G, F, e, d, O, hd, h⟩ => by
    have len : ∀ {ds : List D} (_ : match r ds e with
        | .ok _ e' => ∀ σ' H' G' F', Same G G' → Ok X.K Φ H' G' F' σ' e' → (σ'.length = σ.length ∧ ∀ j, j ∉ js → σ'[j]? = σ[j]?) → Q σ' H'
        | _ => False), ds.length = n := fun {ds} h' => by
      cases q : r ds e with
      | no =>
        rw [q] at h'
        exact h'.elim
      | ex x e1 =>
        rw [q] at h'
        exact h'.elim
      | ok u e1 => exact hl ds e u e1 q
    cases hd with
    | @tup a xs ds t1 t2 => exact .inl ⟨a, xs, rfl, same_t O.gh t1, (DpAll.len t2).trans (len h), G, F, e, ds, O, t2, h⟩
    | @lst a xs ds t1 t2 => exact .inr ⟨a, xs, rfl, same_l O.gh t1, (DpAll.len t2).trans (len h), G, F, e, ds, O, t2, h⟩
    | _ => exact h.elim
end

/-! ### x in a list or a tuple -/
def flat1 : D → Bool
  | .none => true
  | .bool _ => true
  | .int _ => true
  | .str _ => true
  | _ => false
def hasD (x : D) (ds : List D) : Option Bool := if SeqAt.shaped x = true ∧ SeqAt.shaped (.list ds) = true then some (ds.any fun z => PyData.eqv z x) else none
def dIn : D → D → Option D
  | x, .list ds => (hasD x ds).map PyData.bool
  | x, .tuple ds => if flat1 x = true ∧ ds.all flat1 = true then some (.bool (ds.any fun z => PyData.eqv z x)) else none
  | _, _ => none
def dNotIn : D → D → Option D
  | x, .list ds => (hasD x ds).map fun b => .bool (!b)
  | x, .tuple ds => if flat1 x = true ∧ ds.all flat1 = true then some (.bool (!ds.any fun z => PyData.eqv z x)) else none
  | _, _ => none
section
variable {K : PySem.W.Frag} {H : Hp}
theorem flat1_v {v : V} {d : D} (h : Dp K H v d) (f : flat1 d = true) : flatV v = true := by
  cases h <;> first | rfl | cases f
theorem flat1_all : ∀ {vs : List V} {ds : List D}, DpAll K H vs ds → ds.all flat1 = true → vs.all flatV = true
  | _, _, .nil, _ => rfl
  | _, _, .cons a t, h => by
    simp only [List.all_cons, Bool.and_eq_true] at h ⊢
    exact ⟨flat1_v a h.1, flat1_all t h.2⟩
theorem eqv_v {v w : V} {d c : D} (h : Dp K H v d) (g : Dp K H w c) (f : flat1 d = true) (f2 : flat1 c = true) : eqV v w = PyData.eqv d c := by
  cases h <;> first | cases f | skip
  all_goals cases g <;> first | cases f2 | skip
  all_goals simp only [eqV, PyData.eqv]
theorem in_v {v : V} {d : D} (h : Dp K H v d) (f : flat1 d = true) : ∀ {vs : List V} {ds : List D}, DpAll K H vs ds → ds.all flat1 = true → inV v vs = ds.any fun z => PyData.eqv z d
  | _, _, .nil, _ => rfl
  | _, _, .cons a t, g => by
    simp only [List.all_cons, Bool.and_eq_true] at g
    have e := in_v h f t g.2
    unfold inV at e ⊢
    rw [List.any_cons, List.any_cons, e, eqv_v a h g.1 f]
end
section
variable {X : Cx}
theorem op_dIn (hu : X.A.units + 65 < cLine) : OpR X (compareOp .In) (r2 X.K dIn) := by
  intro pins s σ H x y v u Q I rx ry h
  obtain ⟨G, d1, d2, d, gh, b1, b2, ho, k⟩ := h
  unfold dIn at ho
  split at ho
  · rename_i ds
    unfold hasD at ho
    split at ho
    · rename_i hc
      cases ho
      exact op_inD hu pins s σ H _ _ v u Q I rx ry ⟨_, _, b1.dpH gh, b2.dpH gh, hc.1, hc.2, k _ _ _ (Grow.refl gh) (.bl _)⟩
    · cases ho
  · rename_i ds
    split at ho
    · rename_i hc
      cases ho
      obtain ⟨a, vs, rfl, ht, hd⟩ := b2.tup gh
      have h1 := b1.dpH gh
      have hd' := dpa_mono gh _ _ hd
      refine op_in_seq pins s σ H _ _ v u Q I rx ry ⟨a, vs, rfl, .inr ht, flat1_v h1 hc.1, flat1_all hd' hc.2, ?_⟩
      rw [if_neg (by decide), in_v h1 hc.1 hd' hc.2]
      exact k _ _ _ (Grow.refl gh) (.bl _)
    · cases ho
  · cases ho
theorem op_dNotIn (hu : X.A.units + 65 < cLine) : OpR X (compareOp .NotIn) (r2 X.K dNotIn) := by
  intro pins s σ H x y v u Q I rx ry h
  obtain ⟨G, d1, d2, d, gh, b1, b2, ho, k⟩ := h
  unfold dNotIn at ho
  split at ho
  · rename_i ds
    unfold hasD at ho
    split at ho
    · rename_i hc
      cases ho
      exact op_notInD hu pins s σ H _ _ v u Q I rx ry ⟨_, _, b1.dpH gh, b2.dpH gh, hc.1, hc.2, k _ _ _ (Grow.refl gh) (.bl _)⟩
    · cases ho
  · rename_i ds
    split at ho
    · rename_i hc
      cases ho
      obtain ⟨a, vs, rfl, ht, hd⟩ := b2.tup gh
      have h1 := b1.dpH gh
      have hd' := dpa_mono gh _ _ hd
      refine op_notIn_seq pins s σ H _ _ v u Q I rx ry ⟨a, vs, rfl, .inr ht, flat1_v h1 hc.1, flat1_all hd' hc.2, ?_⟩
      rw [if_pos rfl, in_v h1 hc.1 hd' hc.2]
      exact k _ _ _ (Grow.refl gh) (.bl _)
    · cases ho
  · cases ho
end

/-! ### a < b < c -/
def eChain (f g : D → D → Option D) (fa fb fc : Ef) : Ef := fun e => (fa e).bind fun a e1 => (fb e1).bind fun b e2 => (use2 f a b e2).bind fun k e3 => match rd1 e3 k with
  | some (.bool true) => (fc e3).bind fun c e4 => use2 g b c e4
  | some (.bool false) => .ok (.val (.bool false)) e3
  | _ => .no
section
variable {X : Cx} {Φ : Fx} {W : WX} {a b c : Expr} {fa fb fc : Ef} {f g : D → D → Option D} {pos : Pos} {op op' : CmpOp} {σ : L2.St} {H : Hp} {Q : VK}
theorem use2_val {f : D → D → Option D} {x y : Arg} {e e1 : Fr} {k : Arg} (h : use2 f x y e = .ok k e1) : ∃ d, k = .val d ∧ e1 = e := by
  unfold use2 at h
  split at h
  · split at h
    · split at h
      · cases h
        exact ⟨_, rfl, rfl⟩
      · cases h
    · cases h
  · cases h
theorem eChain_weak (t : tG X.K X.mg Φ W (ra X.K) (eChain f g fa fb fc) σ H Q) : tChain (r2 X.K f) (r2 X.K g) (tG X.K X.mg Φ W (ra X.K) fa) (tG X.K X.mg Φ W (ra X.K) fb) (tG X.K X.mg Φ W (ra X.K) fc) σ H Q := by
  obtain ⟨G, F, e, O, h⟩ := t
  refine ⟨G, F, e, O, Wp.imp (Wp.seq h) fun x H1 ⟨G1, F1, e1, a, g1, O1, r1, h1⟩ => ⟨G1, F1, e1, O1, Wp.imp (Wp.seq h1) fun y H2 ⟨G2, F2, e2, b, g2, O2, r2', h2⟩ => ?_⟩⟩
  refine use2_ok O2 (ra_up r1 g2) r2' (Wp.imp (Wp.seq h2) fun z H3 ⟨G3, F3, e3, k, g3, O3, r3, h3⟩ => ?_)
  split at h3
  · rename_i q
    refine ⟨true, (bp_of O3 r3 q).bool, ?_⟩
    rw [if_pos rfl]
    exact ⟨G3, F3, e3, O3, Wp.imp (Wp.seq h3) fun w H4 ⟨G4, F4, e4, c, g4, O4, r4, h4⟩ => use2_ok O4 (ra_up r2' (g3.trans g4)) r4 h4⟩
  · rename_i q
    refine ⟨false, (bp_of O3 r3 q).bool, ?_⟩
    rw [if_neg Bool.false_ne_true]
    exact h3 _ H3 G3 F3 (Same.refl _) O3 (.bl false)
  · exact h3.elim
theorem d_chain (ho : OpR X (compareOp op) (r2 X.K f)) (ho' : OpR X (compareOp op') (r2 X.K g)) (ha : DE X Φ W a fa) (hb : DE X Φ W b fb) (hc : DE X Φ W c fc) (hm : lastMarks [op, op'] [b, c] = false := by with_unfolding_all rfl) :
    DE X Φ W (.Compare a [op, op'] [b, c] pos) (eChain f g fa fb fc) := pe_weak (pe_chain ho ho' ha hb hc hm) fun _ _ _ t => eChain_weak t
theorem t_chain (ho : OpR X (compareOp op) (r2 X.K f)) (ho' : OpR X (compareOp op') (r2 X.K g)) (ha : DE X Φ W a fa) (hb : DE X Φ W b fb) (hc : DE X Φ W c fc) (hm : lastMarks [op, op'] [b, c] = false := by with_unfolding_all rfl) :
    DT X Φ W (.Compare a [op, op'] [b, c] pos) (tOf (eChain f g fa fb fc)) := pt_weak (pt_chain ho ho' ha hb hc hm) fun _ _ _ t => eChain_weak (tOf_weak t)
end
end DL
set_option Elab.async false
set_option linter.all false
set_option maxRecDepth 100000
set_option maxHeartbeats 4000000
/-! DlW: lists put together, raise, try. -/
namespace DL
open PySem L2

theorem room65 {k : Nat} {A : Around} (r : Room k A) : A.units + 65 < cLine := by
  have := r.un
  omega
/-! ### list + list, both at hand -/
def lsR (r : RV) (e : Fr) : Option (List D) := match r with
  | .new (.ls xs) => some xs
  | .arg (.slot i) => match e[i]? with
    | some (.own (.ls ds)) => some ds
    | some (.io (.ls ds)) => some ds
    | _ => none
  | _ => none
def eCat (fa fb : Rf) : Rf := fun e => (fa e).bind fun r e1 => (fb e1).bind fun s e2 => match lsR r e2 with
  | some xs => match lsR s e2 with
    | some ys => if xs.length + ys.length ≤ 1000000 then .ok (.new (.ls (xs ++ ys))) e2 else .no
    | none => .no
  | none => .no
section
variable {K : PySem.W.Frag} {mg : Str → Option Value} {Φ : Fx} {W : WX} {H G : Hp} {F : Nat → List Addr} {σ : L2.St} {e : Fr}
theorem lsR_ok {r : RV} {v : V} {xs : List D} (O : Ok K Φ H G F σ e) (h : (∃ a, r = .arg a ∧ ra K a v H G F σ e) ∨ ∃ w A a, r = .new w ∧ v = .ref a ∧ OwAt K G H w a A) (q : lsR r e = some xs) : ∃ l vs, v = .ref l ∧ H l = some (.lst vs) ∧ DpAll K G vs xs := by
  rcases h with ⟨a, rfl, h⟩ | ⟨w, A, a, rfl, rfl, h⟩
  · cases a with
    | val d => cases q
    | slot i =>
      have at_ : ∀ {a : Addr}, σ[i]? = some (some (.ref a)) → v = .ref a := fun {a} z => by
        have z2 : σ[i]? = some (some v) := h
        rw [z] at z2
        exact (Option.some.inj (Option.some.inj z2)).symm
      have q' : (match e[i]? with
        | some (.own (.ls ds)) => some ds
        | some (.io (.ls ds)) => some ds
        | _ => none) = some xs := q
      split at q'
      · rename_i ds hi
        cases q'
        obtain ⟨a, e1, o, _⟩ := O.slots i _ hi
        generalize F i = A at o
        cases o with
        | ls h1 h2 => exact ⟨a, _, at_ e1, h1, h2⟩
      · rename_i ds hi
        cases q'
        obtain ⟨a, e1, o, _⟩ := O.slots i _ hi
        generalize F i = A at o
        cases o with
        | ls h1 h2 => exact ⟨a, _, at_ e1, h1, h2⟩
      · cases q'
  · cases h with
    | ls h1 h2 =>
      cases q
      exact ⟨a, _, rfl, h1, h2⟩
    | ll _ _ _ _ => cases q
theorem Wp.seqP {α β γ δ : Type} {Φ1 : Fx} {ρ : Rel α β} {ρ' : Rel γ δ} {q : R α} {f : α → Fr → R γ} {Q : δ → Hp → Prop} (cv : ∀ {H' G' : Hp} {F' : Nat → List Addr} {e' : Fr}, Ok K Φ1 H' G' F' σ e' → Ok K Φ H' G' F' σ e') (h : Wp K mg Φ W σ ρ' G (q.bind f) Q) :
    Wp K mg Φ1 W σ ρ G q (fun v H1 => ∃ G1 F1 e1 a, Same G G1 ∧ Ok K Φ1 H1 G1 F1 σ e1 ∧ ρ a v H1 G1 F1 σ e1 ∧ Wp K mg Φ W σ ρ' G1 (f a e1) Q) := by
  cases q with
  | no => exact h
  | ok a e => exact fun v H' G2 F' s o p => ⟨G2, F', e, a, s, o, p, Wp.up h s⟩
  | ex x e => exact fun c d H' G2 F' s o p => h c d H' G2 F' s (cv o) p
end
section
variable {X : Cx} {Φ : Fx} {W : WX} {x y : Expr} {fa fb : Rf} {pos : Pos}
theorem d_cat (ha : DR X Φ W x fa) (hb : ∀ Φ, DR X Φ W y fb) : DR X Φ W (.BinOp x .Add y pos) (eCat fa fb) :=
  pe_weak (pe_op op_cat ha (pe_ex hb)) fun σ H Q ⟨G, F, e, O, h⟩ => ⟨G, F, e, O, Wp.imp (Wp.seq h) fun v H1 ⟨G1, F1, e1, r1, g1, O1, q1, h1⟩ => by
    obtain ⟨A1, L1, P1⟩ := Held.mk' O1 q1
    refine ⟨_, G1, F1, e1, P1, Wp.imp (Wp.seqP (fun o => L1.cv o) h1) fun w H2 ⟨G2, F2, e2, r2, g2, O2, q2, h2⟩ => ?_⟩
    have O3 := L1.cv O2
    have k1 : (∃ a, r1 = .arg a ∧ ra X.K a v H2 G2 F2 σ e2) ∨ ∃ w A a, r1 = .new w ∧ v = .ref a ∧ OwAt X.K G2 H2 w a A := by
      cases r1 with
      | arg a => exact .inl ⟨a, rfl, ra_up (L1.ar a rfl) g2⟩
      | new u =>
        obtain ⟨A, _, y1⟩ := L1.rx O2 g2 (Same.refl _) (.inr ⟨u, rfl, rfl⟩)
        obtain ⟨a, ea, oa, _⟩ := y1
        exact .inr ⟨u, A, a, rfl, ea, oa⟩
    have k2 : (∃ a, r2 = .arg a ∧ ra X.K a w H2 G2 F2 σ e2) ∨ ∃ u A a, r2 = .new u ∧ w = .ref a ∧ OwAt X.K G2 H2 u a A := by
      cases r2 with
      | arg a => exact .inl ⟨a, rfl, q2⟩
      | new u =>
        obtain ⟨a, A, ea, oa, _⟩ := q2
        exact .inr ⟨u, A, a, rfl, ea, oa⟩
    split at h2
    · rename_i xs z1
      split at h2
      · rename_i ys z2
        split at h2
        · rename_i hl
          obtain ⟨l, vs, rfl, hH, d1⟩ := lsR_ok O3 k1 z1
          obtain ⟨b, ws, rfl, hB, d2⟩ := lsR_ok O3 k2 z2
          refine ⟨l, b, vs, ws, rfl, rfl, hH, hB, by rw [DpAll.len d1, DpAll.len d2]; exact Nat.le_trans hl (by decide), fun p hp => ?_⟩
          obtain ⟨z1, z2⟩ := rr_new O3 hp (DL.DpAll.app d1 d2)
          exact h2 _ _ _ F2 (Same.refl _) z1 z2
        · exact h2.elim
      · exact h2.elim
    · exact h2.elim⟩
end

/-! ### raise of an own class without fields -/
theorem pmk_own0 {X : Cx} {C : Addr} {bmB : List Value} {B newId initId : String} {x : Str} {p pos : Pos} (F : ExcBaseFacts B newId initId bmB) (q : PySem.W.excIn X.K C bmB newId = true) (gC : X.mg x = some (.ref C))
    (kC : PySem.W.keepIn X.K (.ref C) = true) (r : Raises X (.ref C)) (hg : Gl X x) (hdb : (x == ("__debug__" : Str)) = false := by decide) :
    PMk X (.Call (.Name x p) [] [] pos) (fun _ H Q => Q (.ref C) none H) := by
  intro pins s σ H Q I h
  refine wpAny_Call_Name_kw (ld_glob I hg gC ?_ hdb)
  refine PySem.W.callWith_K0 I.kIn kC ?_
  obtain ⟨bm, N, nm, qn, bs, hdct, sn, sub, ab, col, dd, k0, k1, k2, k3, k5, mN, hC, hN, hni, T⟩ := exc_obj I.kIn q
  refine wpAny_call_exc_subT F T hC hN hni (fun h' e hm => ?_) (Nat.zero_le _)
  exact mk_of I hm r h (I.hok.gone hm.new)
def sRaise (x : Exn) : Sf := fun e => .ex x e
section
variable {X : Cx} {Φ : Fx} {W : WX}
theorem s_raise0 {C : Addr} {bmB : List Value} {B newId initId : String} {x : Str} {p pos pos' : Pos} (F : ExcBaseFacts B newId initId bmB) (hc : X.calm = true) (tk : Takes X W) (gC : X.mg x = some (.ref C)) (q : PySem.W.excIn X.K C bmB newId = true)
    (kC : PySem.W.keepIn X.K (.ref C) = true) (h1 : PySem.W.subIn X.K (.ref C) (.type "BaseException") = some true) (h2 : PySem.W.typeIn X.K (.ref C) = some (.type "type")) (hg : Gl X x := by rfl) (hdb : (x == ("__debug__" : Str)) = false := by decide) :
    DS X Φ W (.Raise (some (.Call (.Name x p) [] [] pos)) none pos') (sRaise ⟨x, []⟩) :=
  ps_weak (ps_raise hc tk (pmk_own0 F q gC kC (raises_own h1 h2) hg hdb)) fun Dn σ H ⟨G, F, e, O, h⟩ => h _ none σ H G F (Same.refl _) O ⟨gC, .inl ⟨rfl, rfl⟩⟩
end

/-! ### try -/
abbrev Hdl := (Str → Option Bool) × Sf
def handle : List Hdl → Exn → Fr → R Fl
  | [], x, e => .ex x e
  | (mt, g) :: r, x, e => match mt x.cls with
    | some true => g e
    | some false => handle r x e
    | none => .no
def sTry (f : Sf) (l : List Hdl) : Sf := fun e => match f e with
  | .ex x e1 => handle l x e1
  | r => r
inductive DH (X : Cx) (Φ : Fx) (W : WX) : List ExceptHandler → List Hdl → Prop
  | nil : DH X Φ W [] []
  | cons {x : Str} {c : Value} {mt : Str → Option Bool} {g : Sf} {b₀ : Stmt} {suite : List Stmt} {np pos' : Pos} {hds : List ExceptHandler} {l : List Hdl} (hc : Names X x c) (hm : ∀ y b d, mt y = some b → X.mg y = some d → PySem.W.exmOne X.K d c = some b)
      (hsu : ∀ (a : Addr) (oe : Obj) (pn : List (Addr × Obj)), DSs (X.suite a ((a, oe) :: pn)) Φ W (b₀ :: suite) g) (r : DH X Φ W hds l) :
      DH X Φ W (.ExceptHandler (some (.Name x np)) none (b₀ :: suite) pos' :: hds) ((mt, g) :: l)
theorem dh_ok {X : Cx} {Φ : Fx} {W : WX} {hds : List ExceptHandler} {l : List Hdl} (h : DH X Φ W hds l) : ∃ l', HdsOk X hds l' ∧ ∀ (Dn : Ends) (x : Exn) (e1 : Fr) (G : Hp) (c : Value) (d : Option Addr) (σ' : L2.St) (H' G' : Hp) (F' : Nat → List Addr),
    WS X.K X.mg Φ W G (handle l x e1) Dn → Same G G' → Ok X.K Φ H' G' F' σ' e1 → ExOk X.mg X.K G' H' x c d → wMany X.K W Dn l' c d σ' H' := by
  induction h with
  | nil => exact ⟨[], .nil, fun Dn x e1 G c d σ' H' G' F' h s o p => h c d σ' H' G' F' s o p⟩
  | @cons x c mt g b₀ suite np pos' hds l hc hm hsu r ih =>
    obtain ⟨l', h1, h2⟩ := ih
    refine ⟨(c, fun _ _ _ => tS X.K X.mg Φ W g) :: l', .cons hc (fun a oe cls d pn _ _ => hsu a oe pn) h1, fun Dn y e1 G cls d σ' H' G' F' h s o p => ?_⟩
    unfold handle at h
    split at h
    · rename_i q
      exact ⟨true, hm _ _ _ q p.1, (fun _ a _ => ⟨G', F', e1, o, WS.up h s⟩), (fun z => Bool.noConfusion z)⟩
    · rename_i q
      exact ⟨false, hm _ _ _ q p.1, (fun z => Bool.noConfusion z), (fun _ => h2 Dn y e1 G cls d σ' H' G' F' h s o p)⟩
    · exact h.elim
section
variable {X : Cx} {Φ : Fx} {W : WX} {body : List Stmt} {h₀ : ExceptHandler} {hds : List ExceptHandler} {l : List Hdl} {pos : Pos} {f : Sf}
theorem s_try (tk : Takes X W) (hb : ∀ (W' : WX) (pn : List (Addr × Obj)) (xe : Value → Shared → Prop), Takes (X.tr pn xe) W' → PassesOwn (model X.prog X.w) X.A X.env xe → DSs (X.tr pn xe) Φ W' body f)
    (hh : DH X Φ W (h₀ :: hds) l) (hs : X.stack = X.env :: X.outer := by rfl) (hf : X.env.frame = some X.env.locals := by rfl) : DS X Φ W (.Try body (h₀ :: hds) [] [] pos) (sTry f l) := by
  obtain ⟨l', h1, h2⟩ := dh_ok hh
  refine ps_weak (ps_try_many (tb := fun W' => tS X.K X.mg Φ W' f) hs hf tk hb h1) fun Dn σ H ⟨G, F, e, O, h⟩ => ⟨G, F, e, O, ?_⟩
  unfold sTry at h
  cases q : f e with
  | no =>
    rw [q] at h
    exact h
  | ok fl e1 =>
    rw [q] at h
    exact h
  | ex x e1 =>
    rw [q] at h
    exact fun c d σ' H' G' F' s o p => h2 Dn x e1 G c d σ' H' G' F' h s o p
end
end DL
set_option Elab.async false
set_option linter.all false
set_option maxRecDepth 100000
set_option maxHeartbeats 4000000
/-! DlX: raise of own errors with a field, except .. as n: the held error's fields, isinstance. -/
namespace DL
open PySem L2

/-! ### facts of an own error class, told by a look at the written part -/
def oexB (K : PySem.W.Frag) (C : Addr) : Bool := match K.lookup C with
  | some ⟨.type "type", _, .cls cd, sl⟩ => (match cd.mro, sl.toList with
    | .ref C' :: bm, [_, _, _, _, some (.builtin n), _] => C' == C && (n == "ValueError.__new__" && (!cd.hasDel && (cd.hasDict && PySem.HandSPX.refsVE bm)))
    | _, _ => false)
  | _ => false
def oexAll (K : PySem.W.Frag) (C fI : Addr) (f : Str) : Bool := oexB K C && (decide (PySem.W.findIn K (.ref C) "__setattr__" = some (some (.builtin "object.__setattr__"))) && (decide (PySem.W.subIn K (.ref C) (.type "BaseException") = some true) &&
  (decide (PySem.W.typeIn K (.ref C) = some (.type "type")) && (PySem.W.keepIn K (.ref C) && (decide (PySem.W.findIn K (.ref C) f = some none) && (decide (PySem.W.findIn K (.ref C) "__init__" = some (some (.ref fI))) && decide (PySem.W.typeIn K (.ref fI) = some (.type "function"))))))))
structure OexF (K : PySem.W.Frag) (C fI : Addr) (f : Str) : Prop where
  ox : OexC K C
  no : PySem.W.findIn K (.ref C) f = some none
  iC : PySem.W.findIn K (.ref C) "__init__" = some (some (.ref fI))
  tI : PySem.W.typeIn K (.ref fI) = some (.type "function")
theorem oex_cls {K : PySem.W.Frag} {C : Addr} (h : oexB K C = true) : ∃ nm q N bs bm sn sub ab col dd k0 k1 k2 k3 k5, K.lookup C = some (excClassObj nm q C N bs bm true sn sub ab col dd k0 k1 k2 k3 k5 "ValueError.__new__") ∧ PySem.HandSPX.refsVE bm = true := by
  unfold oexB at h
  split at h
  · rename_i dd cd sl ho
    split at h
    · rename_i C' bm k0 k1 k2 k3 n k5 hm hs
      simp only [Bool.and_eq_true, beq_iff_eq, Bool.not_eq_true'] at h
      obtain ⟨rfl, rfl, hdel, hd, hr⟩ := h
      obtain ⟨nm, bs, mro, ns, qn, hdct, sn, sub, ab, col, del⟩ := cd
      dsimp only at hm hdel hd
      subst hm hdel hd
      have hsl : sl = #[k0, k1, k2, k3, some (.builtin "ValueError.__new__"), k5] := by
        obtain ⟨l⟩ := sl
        simp only at hs
        rw [hs]
      subst hsl
      exact ⟨nm, qn, ns, bs, bm, sn, sub, ab, col, dd, k0, k1, k2, k3, k5, ho, hr⟩
    · cases h
  · cases h
theorem oex_ok {K : PySem.W.Frag} {C fI : Addr} {f : Str} (h : oexAll K C fI f = true) : OexF K C fI f := by
  unfold oexAll at h
  simp only [Bool.and_eq_true, decide_eq_true_eq] at h
  obtain ⟨h1, h2, h3, h4, h5, h6, h7, h8⟩ := h
  exact ⟨⟨oex_cls h1, h2, h3, h4, h5⟩, h6, h7, h8⟩

/-! ### __init__(self, value): self.value = value -/
def spI (K : PySem.W.Frag) (f : Str) : Sp := fun vs H Q _ => ∃ (a C : Addr) (v : V), vs = [.ref a, v] ∧ OexC K C ∧ PySem.W.findIn K (.ref C) f = some none ∧ H a = some (exo a C none) ∧
  ∀ dx, H dx = none → dx ≠ a → Q .non (upd (upd H dx (exd dx [(f, v)])) a (exo a C (some dx)))
section
variable {P : Program} {w : World} {K : PySem.W.Frag} {mg : Str → Option Value} {base : Heap} {x qual : Str} {params : Arguments} {body : List Stmt} {scope : Scope} {dvs : List V} {kws : List (Str × V)} {f : Addr} {fd : FuncData}
theorem init_ok {n m fl : Str} {p1 p2 p3 p4 : Pos} (D : FunD K x qual params body scope dvs kws f fd) (S : FnScope [n, m] [n, m] scope) (hb : body = [.Assign [.Attribute (.Name n p1) fl p2] (.Name m p3) p4])
    (hv1 : Vis scope n := by first | exact Or.inl rfl | exact Or.inr (Or.inl rfl) | exact Or.inr (Or.inr rfl)) (hv2 : Vis scope m := by first | exact Or.inl rfl | exact Or.inr (Or.inl rfl) | exact Or.inr (Or.inr rfl))
    (hd1 : (n == ("__debug__" : Str)) = false := by decide) (hc1 : (n == ("__classdict__" : Str)) = false := by decide) (hd2 : (m == ("__debug__" : Str)) = false := by decide) (hc2 : (m == ("__classdict__" : Str)) = false := by decide)
    (hs : ∀ (cdv : Value) (L : Addr), swapsWith (.Name m p3) (some (.Attribute (.Name n p1) fl p2)) p4.line (PyProof.Rows.envOfC qual scope L f cdv) = pure false := by intros; rfl) :
    FnOk P w K mg base CX0 1 f fd [n, m] (spI K fl) := by
  subst hb
  refine D.ok (k := 0) S (fun vs H Q E ⟨a, C, v, e, _⟩ => by rw [e]; rfl) fun cdv A outer s H vs Q E hr hsp => ?_
  obtain ⟨a, C, v, rfl, ox, no, hH, hQ⟩ := hsp
  refine ⟨_, pss_one (ps_ost (pv 0 rfl hv1 hd1 hc1) (pv 1 rfl hv2 hd2 hc2) (hs _ _)), ?_⟩
  exact ⟨v, rfl, .ref a, rfl, a, C, rfl, ox, no, .inl ⟨hH, fun dx h1 h2 => hQ dx h1 h2⟩⟩
end

/-! ### raise C(e) -/
def argD (a : Arg) (e : Fr) : Option D := match a with
  | .val d => some d
  | .slot i => match e[i]? with
    | some (.sh d) => some d
    | _ => none
def sRaise1 (x fl : Str) (fa : Ef) : Sf := fun e => (fa e).bind fun a e1 => match argD a e1 with
  | some d => .ex ⟨x, [(fl, d)]⟩ e1
  | none => .no
theorem argD_dp {K : PySem.W.Frag} {Φ : Fx} {H G : Hp} {F : Nat → List Addr} {σ : L2.St} {e : Fr} {a : Arg} {v : V} {d : D} (O : Ok K Φ H G F σ e) (r : ra K a v H G F σ e) (q : argD a e = some d) : Dp K G v d := by
  cases a with
  | val d' =>
    cases q
    exact r
  | slot i =>
    have q' : (match e[i]? with
      | some (.sh d) => some d
      | _ => none) = some d := q
    split at q'
    · rename_i d' hi
      cases q'
      obtain ⟨v', h1, h2⟩ := O.slots i _ hi
      have r' : σ[i]? = some (some v) := r
      rw [h1] at r'
      cases r'
      exact h2
    · cases q'
/-- a fresh object that no slot has, and nothing else, is laid -/
theorem Ok.laid {K : PySem.W.Frag} {Φ : Fx} {H G : Hp} {F : Nat → List Addr} {σ : L2.St} {e : Fr} (O : Ok K Φ H G F σ e) {p : Addr} {o : HO} (hp : H p = none) : Ok K Φ (upd H p o) G F σ e := O.grow (Grow.own O.gh hp)
section
variable {X : Cx} {Φ : Fx} {W : WX}
theorem s_raise1 {C fI : Addr} {x fl : Str} {p pos pos' : Pos} {a : Expr} {fa : Ef} {fd : FuncData} {ps : List Str} (T : OexF X.K C fI fl) (F1 : FnOk X.prog X.w X.K X.mg X.base CX0 1 fI fd ps (spI X.K fl)) (hr : Room 2 X.A) (hb : Binds X.K fd ps []) (hc : X.calm = true) (tk : Takes X W) (gC : X.mg x = some (.ref C)) (ha : DE X Φ W a fa) (hg : Gl X x := by rfl) (hdb : (x == ("__debug__" : Str)) = false := by decide)
    (he : starEach (a :: []) X.env = (false, eval a X.env) :: starEach [] X.env := by rfl) (hpl : (backTo pos (starEach [] X.env)).any (·.1) = false := by rfl) :
    DS X Φ W (.Raise (some (.Call (.Name x p) [a] [] pos)) none pos') (sRaise1 x fl fa) :=
  ps_weak (ps_raise hc tk (pmk_oex T.ox T.iC T.tI F1 hr hb (.nil : Vals [] []) pass0 hg gC (pa_cons ha pa_nil he) hdb he hpl)) fun Dn σ H ⟨G, F, e, O, h⟩ => by
    refine ⟨G, F, e, O, Wp.imp (WS.seq (σ := σ) h) fun v H1 ⟨G1, F1, e1, r, g1, O1, r1, h1⟩ => ?_⟩
    split at h1
    · rename_i d q
      have dp := argD_dp O1 r1 q
      refine ⟨by show 1 ≤ 1000; decide, fun b hb => ⟨b, C, v, rfl, T.ox, T.no, upd_same, fun dx h2 h3 => ⟨rfl, dx, [(fl, v)], upd_same, ?_, ?_, ?_⟩⟩⟩
      · rw [upd_ne h3, upd_same]
      · rw [upd_ne h3] at h2
        exact h2
      · have hdx : H1 dx = none := by
          rw [upd_ne h3] at h2
          exact h2
        have e2 : upd (del (upd (upd (upd H1 b (exo b C none)) dx (exd dx [(fl, v)])) b (exo b C (some dx))) b) dx (.xd [(fl, v)]) = upd H1 dx (.xd [(fl, v)]) := by
          funext c
          by_cases c1 : c = dx
          · rw [c1, upd_same, upd_same]
          · rw [upd_ne c1, upd_ne c1]
            by_cases c2 : c = b
            · rw [c2, del_same, hb]
            · rw [del_ne c2, upd_ne c2, upd_ne c1, upd_ne c2]
        rw [e2]
        exact h1 _ (some dx) σ _ _ _ (Same.refl _) (O1.grow (Grow.own O1.gh hdx)) ⟨gC, .inr ⟨dx, [(fl, v)], rfl, upd_same, .cons ⟨rfl, dp⟩ .nil⟩⟩
    · exact h1.elim
end
end DL
set_option Elab.async false
set_option linter.all false
set_option maxRecDepth 100000
set_option maxHeartbeats 4000000
/-! DlX2: except .. as n. -/
namespace DL
open PySem L2

/-! ### the suite's own view: the held error's dict and the frozen part stand -/
/-- what stands while the suite runs: the frozen part, the held error's dict at dx -/
def Fx.suit (Φ : Fx) (H G : Hp) (dx : Option Addr) (i : Nat) (a : Addr) : Fx :=
  ⟨fun b => if G b ≠ none ∨ dx = some b then H b else Φ.H_0 b, fun b => if G b ≠ none ∨ dx = some b then G b else (match Φ.H_0 b with | none => none | some _ => Φ.G_0 b), fun j => (Φ.io j).filter fun b => decide (¬ (G b ≠ none ∨ dx = some b)), fun j => if j = i then a else Φ.at_ j⟩
section
variable {K : PySem.W.Frag} {Φ : Fx} {H G H' G' : Hp} {F F' : Nat → List Addr} {σ σ' : L2.St} {e e' : Fr} {dx : Option Addr} {i : Nat} {a : Addr}
theorem ow_lst {w : Ow} {p b : Addr} {A : List Addr} (h : OwAt K G H w p A) (hb : b ∈ A) : ∃ vs, H b = some (.lst vs) := by
  obtain ⟨vs, q⟩ := h.there b hb
  exact ⟨vs, q⟩
theorem Ok.suit (O : Ok K Φ H G F σ e) (hd : ∀ b, dx = some b → ∃ fs, H b = some (.xd fs)) : Ok K (Φ.suit H G dx i a) H G F (σ.set i (some (.ref a))) (e.set i .xn) where
  gh := O.gh
  len := by rw [List.length_set, List.length_set]; exact O.len
  slots := fun j s q => by
    by_cases hj : i = j
    · subst hj
      have hl : i < e.length := by
        have := (List.getElem?_eq_some_iff.mp q).1
        rw [List.length_set] at this
        exact this
      rw [List.getElem?_set_self hl] at q
      cases q
      show (σ.set i (some (.ref a)))[i]? = some (some (.ref (if i = i then a else Φ.at_ i)))
      rw [List.getElem?_set_self (by rw [← O.len]; exact hl), if_pos rfl]
    · rw [List.getElem?_set_ne hj] at q
      rw [List.getElem?_set_ne hj]
      have old := O.slots j s q
      have at_ : (if j = i then a else Φ.at_ j) = Φ.at_ j := if_neg (Ne.symm hj)
      have out : ∀ {w : Ow} {p b : Addr} {A : List Addr}, OwAt K G H w p A → b ∈ A → G b = none → ¬ (G b ≠ none ∨ dx = some b) := fun ho hb n z => by
        rcases z with z | z
        · exact z n
        · obtain ⟨vs, q1⟩ := ow_lst ho hb
          obtain ⟨fs, q2⟩ := hd _ z
          rw [q1] at q2
          cases q2
      cases s with
      | un => trivial
      | xn =>
        show σ[j]? = some (some (.ref (if j = i then a else Φ.at_ j)))
        rw [at_]
        exact old
      | sh d => exact old
      | own w =>
        obtain ⟨p, e1, h1, h2⟩ := old
        refine ⟨p, e1, h1, fun b hb => ⟨(h2 b hb).1, ?_⟩⟩
        show (if G b ≠ none ∨ dx = some b then H b else Φ.H_0 b) = none
        rw [if_neg (out h1 hb (h2 b hb).1)]
        exact (h2 b hb).2
      | io w =>
        obtain ⟨p, e1, h1, h2⟩ := old
        refine ⟨p, e1, h1, fun b hb => ⟨(h2 b hb).1, ?_, (h2 b hb).2.2.trans at_.symm⟩⟩
        have nA := out h1 hb (h2 b hb).1
        rcases (h2 b hb).2.1 with z | z
        · exact .inl (List.mem_filter.mpr ⟨z, decide_eq_true nA⟩)
        · refine .inr ?_
          show (if G b ≠ none ∨ dx = some b then H b else Φ.H_0 b) = none
          rw [if_neg nA]
          exact z
  sep := fun j k s t hjk q1 q2 o1 o2 => by
    have back : ∀ {j : Nat} {s : Sl}, (e.set i .xn)[j]? = some s → s.owned = true → e[j]? = some s := fun {j s} q o => by
      by_cases hj : i = j
      · subst hj
        have hl : i < e.length := by
          have := (List.getElem?_eq_some_iff.mp q).1
          rw [List.length_set] at this
          exact this
        rw [List.getElem?_set_self hl] at q
        cases q
        cases o
      · rw [List.getElem?_set_ne hj] at q
        exact q
    exact O.sep j k s t hjk (back q1 o1) (back q2 o2) o1 o2
  f0 := fun b hb => by
    have hb' : (if G b ≠ none ∨ dx = some b then H b else Φ.H_0 b) ≠ none := hb
    split at hb'
    · exact hb'
    · exact O.f0 b hb'
  f1 := fun b o q m => by
    have q' : (if G b ≠ none ∨ dx = some b then H b else Φ.H_0 b) = some o := q
    split at q'
    · exact q'
    · rename_i z
      exact O.f1 b o q' fun j y => m j (List.mem_filter.mpr ⟨y, decide_eq_true z⟩)
  f2 := fun b hb => by
    have hb' : (if G b ≠ none ∨ dx = some b then H b else Φ.H_0 b) ≠ none := hb
    show G b = if G b ≠ none ∨ dx = some b then G b else (match Φ.H_0 b with | none => none | some _ => Φ.G_0 b)
    by_cases z : G b ≠ none ∨ dx = some b
    · rw [if_pos z]
    · rw [if_neg z] at hb' ⊢
      rw [O.f2 b hb']
      split
      · rename_i z2
        exact absurd z2 hb'
      · rfl
/-- behind the suite -/
theorem suit_none {b : Addr} (O : Ok K Φ H G F σ e) (h : (Φ.suit H G dx i a).H_0 b = none) : Φ.H_0 b = none := by
  have h' : (if G b ≠ none ∨ dx = some b then H b else Φ.H_0 b) = none := h
  split at h'
  · cases q : Φ.H_0 b with
    | none => rfl
    | some o => exact absurd h' (O.f0 b (by rw [q]; exact fun z => nomatch z))
  · exact h'
theorem Ok.unsuit (O : Ok K Φ H G F σ e) (O' : Ok K (Φ.suit H G dx i a) H' G' F' σ' e') : Ok K Φ H' G' F' (σ'.set i none) (e'.set i .un) where
  gh := O'.gh
  len := by rw [List.length_set, List.length_set]; exact O'.len
  slots := fun j s q => by
    by_cases hj : i = j
    · subst hj
      have hl : i < e'.length := by
        have := (List.getElem?_eq_some_iff.mp q).1
        rw [List.length_set] at this
        exact this
      rw [List.getElem?_set_self hl] at q
      cases q
      trivial
    · rw [List.getElem?_set_ne hj] at q
      rw [List.getElem?_set_ne hj]
      have old := O'.slots j s q
      have at_ : (if j = i then a else Φ.at_ j) = Φ.at_ j := if_neg (Ne.symm hj)
      cases s with
      | un => trivial
      | xn =>
        have old' : σ'[j]? = some (some (.ref (if j = i then a else Φ.at_ j))) := old
        rw [at_] at old'
        exact old'
      | sh d => exact old
      | own w =>
        obtain ⟨p, e1, h1, h2⟩ := old
        exact ⟨p, e1, h1, fun b hb => ⟨(h2 b hb).1, suit_none O (h2 b hb).2⟩⟩
      | io w =>
        obtain ⟨p, e1, h1, h2⟩ := old
        exact ⟨p, e1, h1, fun b hb => ⟨(h2 b hb).1, (h2 b hb).2.1.elim (fun z => .inl (List.mem_filter.mp z).1) (fun z => .inr (suit_none O z)), (h2 b hb).2.2.trans at_⟩⟩
  sep := fun j k s t hjk q1 q2 o1 o2 => by
    have back : ∀ {j : Nat} {s : Sl}, (e'.set i .un)[j]? = some s → s.owned = true → e'[j]? = some s := fun {j s} q o => by
      by_cases hj : i = j
      · subst hj
        have hl : i < e'.length := by
          have := (List.getElem?_eq_some_iff.mp q).1
          rw [List.length_set] at this
          exact this
        rw [List.getElem?_set_self hl] at q
        cases q
        cases o
      · rw [List.getElem?_set_ne hj] at q
        exact q
    exact O'.sep j k s t hjk (back q1 o1) (back q2 o2) o1 o2
  f0 := fun b hb => O'.f0 b fun z => hb (suit_none O z)
  f1 := fun b o q m => by
    have hH : H b = some o := O.f1 b o q m
    refine O'.f1 b o ?_ fun j z => m j (List.mem_filter.mp z).1
    show (if G b ≠ none ∨ dx = some b then H b else Φ.H_0 b) = some o
    split
    · exact hH
    · exact q
  f2 := fun b hb => by
    have := O'.f2 b fun z => hb (suit_none O z)
    rw [this]
    show (if G b ≠ none ∨ dx = some b then G b else (match Φ.H_0 b with | none => none | some _ => Φ.G_0 b)) = Φ.G_0 b
    split
    · exact O.f2 b hb
    · split
      · rename_i z
        exact absurd z hb
      · rfl
end
end DL
set_option Elab.async false
set_option linter.all false
set_option maxRecDepth 100000
set_option maxHeartbeats 4000000
/-! DlX3: except .. as n: the statement; the held error's fields; isinstance of it. -/
namespace DL
open PySem L2
/-- the suite's view of the held error x (at a, its class cls, its dict d) -/
structure SuOk (X : Cx) (Φ : Fx) (mt : Str → Option Bool) (i : Nat) (a : Addr) (cls : Value) (d : Option Addr) (x : Exn) : Prop where
  at_ : Φ.at_ i = a
  mt : mt x.cls = some true
  mg : X.mg x.cls = some cls
  fl : (x.flds = [] ∧ d = none) ∨ ∃ dx fs, d = some dx ∧ Φ.H_0 dx = some (.xd fs) ∧ (∀ j, dx ∉ Φ.io j) ∧ Paired (fun (p : Str × V) (q : Str × D) => p.1 = q.1 ∧ Dp X.K Φ.G_0 p.2 q.2) fs x.flds
  gg : ∀ b, Φ.G_0 b ≠ none → Φ.H_0 b ≠ none
def unX (i : Nat) : R Fl → R Fl
  | .ok fl e => .ok fl (e.set i .un)
  | _ => .no
def sTryAs (f : Sf) (i : Nat) (mt : Str → Option Bool) (g : Exn → Sf) : Sf := fun e => match f e with
  | .ex x e1 => match mt x.cls with
    | some true => unX i (g x (e1.set i .xn))
    | some false => .ex x e1
    | none => .no
  | r => r
/-- a def's promise may be told by the suite's view: the old data stand -/
theorem dp_suit {K : PySem.W.Frag} {Φ : Fx} {H G : Hp} {F : Nat → List Addr} {σ : L2.St} {e : Fr} {v : V} {d : D} (O : Ok K Φ H G F σ e) (gg : ∀ b, Φ.G_0 b ≠ none → Φ.H_0 b ≠ none) (h : Dp K Φ.G_0 v d) : Dp K G v d :=
  dp_mono (fun b o q => by
    have n : Φ.G_0 b ≠ none := by rw [q]; exact fun z => nomatch z
    rw [O.f2 b (gg b n)]
    exact q) _ _ h
section
variable {X : Cx} {Φ : Fx} {W : WX} {body suite : List Stmt} {b₀ : Stmt} {x n : Str} {c : Value} {np pos pos' : Pos} {f : Sf} {g : Exn → Sf} {mt : Str → Option Bool} {i : Nat}
theorem s_tryAs (i : Nat) (hN : X.N.Nodup) (hi : X.N[i]? = some n) (hln : X.env.kindOf n = some .local) (tk : Takes X W) (hc : Names X x c) (hm : ∀ y b d, mt y = some b → X.mg y = some d → PySem.W.exmOne X.K d c = some b)
    (hb : ∀ (W' : WX) (pn : List (Addr × Obj)) (xe : Value → Shared → Prop), Takes (X.tr pn xe) W' → PassesOwn (model X.prog X.w) X.A X.env xe → DSs (X.tr pn xe) Φ W' body f)
    (hsu : ∀ (a : Addr) (oe : Obj) (cls : Value) (d : Option Addr) (pn : List (Addr × Obj)) (x : Exn) (Φ' : Fx), Zc cls d oe → (∃ vs, oe.data = .fields vs) → SuOk X Φ' mt i a cls d x → DSs (X.suite a ((a, oe) :: pn)) Φ' W (b₀ :: suite) (g x))
    (hs : X.stack = X.env :: X.outer := by rfl) (hf : X.env.frame = some X.env.locals := by rfl) : DS X Φ W (.Try body [.ExceptHandler (some (.Name x np)) (some n) (b₀ :: suite) pos'] [] [] pos) (sTryAs f i mt g) := by
  refine ps_weak (ps_try_as (i := i) (tb := fun W' => tS X.K X.mg Φ W' f) (ts := fun a cls d Dn σ H => ∃ (x : Exn) (Φ' : Fx), SuOk X Φ' mt i a cls d x ∧ tS X.K X.mg Φ' W (g x) Dn σ H) hs hf hN hi hln hc tk hb
    (fun a oe cls d pn hz hf' => ⟨fun pins s σ H Dn I ⟨x, Φ', su, h⟩ => (hsu a oe cls d pn x Φ' hz hf' su).run pins s σ H Dn I h⟩)) fun Dn σ H ⟨G, F, e, O, h⟩ => ⟨G, F, e, O, ?_⟩
  unfold sTryAs at h
  cases q : f e with
  | no =>
    rw [q] at h
    exact h
  | ok fl e1 =>
    rw [q] at h
    exact h
  | ex x e1 =>
    rw [q] at h
    have h' : WS X.K X.mg Φ W G (match mt x.cls with
      | some true => unX i (g x (e1.set i .xn))
      | some false => .ex x e1
      | none => .no) Dn := h
    intro cls d σ' H' G' F' s' o p
    split at h'
    · rename_i hmt
      refine ⟨true, hm _ _ _ hmt p.1, fun _ a na => ?_, fun z => Bool.noConfusion z⟩
      have hd : ∀ b, d = some b → ∃ fs, H' b = some (.xd fs) := fun b z => by
        rcases p.2 with ⟨_, z2⟩ | ⟨dx, fs, z2, z3, _⟩
        · rw [z2] at z
          cases z
        · rw [z2] at z
          cases z
          exact ⟨fs, z3⟩
      refine ⟨x, Φ.suit H' G' d i a, ⟨if_pos rfl, hmt, p.1, ?_, fun b hb => ?_⟩, G', F', e1.set i .xn, o.suit hd, ?_⟩
      · rcases p.2 with z | ⟨dx, fs, z2, z3, z4⟩
        · exact .inl z
        · refine .inr ⟨dx, fs, z2, ?_, fun j z => ?_, ?_⟩
          · show (if G' dx ≠ none ∨ d = some dx then H' dx else Φ.H_0 dx) = _
            rw [if_pos (.inr z2)]
            exact z3
          · exact of_decide_eq_true (List.mem_filter.mp z).2 (.inr z2)
          · have sg : Same G' (Φ.suit H' G' d i a).G_0 := fun b u q => by
              show (if G' b ≠ none ∨ d = some b then G' b else (match Φ.H_0 b with | none => none | some _ => Φ.G_0 b)) = _
              rw [if_pos (.inl (by rw [q]; exact fun z => nomatch z))]
              exact q
            exact L2.Paired.mapP z4 fun p q ⟨h1, h2⟩ => ⟨h1, dp_mono sg _ _ h2⟩
      · have hb' : (if G' b ≠ none ∨ d = some b then G' b else (match Φ.H_0 b with | none => none | some _ => Φ.G_0 b)) ≠ none := hb
        show (if G' b ≠ none ∨ d = some b then H' b else Φ.H_0 b) ≠ none
        by_cases z : G' b ≠ none ∨ d = some b
        · rw [if_pos z]
          rcases z with z | z
          · exact ne_none_of_same o.gh z
          · obtain ⟨fs, q⟩ := hd b z
            rw [q]
            exact fun z => nomatch z
        · rw [if_neg z] at hb' ⊢
          intro z2
          rw [z2] at hb'
          exact hb' rfl
      · cases r : g x (e1.set i .xn) with
        | no =>
          rw [r] at h'
          exact h'.elim
        | ex y e2 =>
          rw [r] at h'
          exact h'.elim
        | ok fl e2 =>
          rw [r] at h'
          intro v σ2 H2 G2 F2 s2 o2
          have back := Ok.unsuit o o2
          have hw := h' v _ H2 G2 F2 (s'.trans s2) back
          cases fl with
          | nx => exact hw
          | bk => exact hw
          | ct => exact hw
          | rt s =>
            intro rs
            refine hw ?_
            cases s with
            | sh d => exact rs
            | own w =>
              obtain ⟨p, A, h1, h2, h3, h4⟩ := rs
              refine ⟨p, A, h1, h2, fun b hb => ⟨(h3 b hb).1, suit_none o (h3 b hb).2⟩, fun j t q ow => h4 j t ?_ ow⟩
              by_cases hj : i = j
              · subst hj
                have hl : i < e2.length := by
                  have := (List.getElem?_eq_some_iff.mp q).1
                  rw [List.length_set] at this
                  exact this
                rw [List.getElem?_set_self hl] at q
                cases q
                cases ow
              · rw [List.getElem?_set_ne hj] at q
                exact q
            | un => exact rs
            | io w => exact rs
            | xn => exact rs
    · rename_i hmt
      exact ⟨false, hm _ _ _ hmt p.1, fun z => Bool.noConfusion z, fun _ => h' cls d σ' H' G' F' s' o p⟩
    · exact h'.elim
end
end DL
set_option Elab.async false
set_option linter.all false
set_option maxRecDepth 100000
set_option maxHeartbeats 4000000
/-! DlX4: in the suite: e.f, isinstance(e, C). -/
namespace DL
open PySem L2
theorem lookup_paired {P : V → D → Prop} {f : Str} : ∀ {fs : List (Str × V)} {ds : List (Str × D)} {d : D}, Paired (fun (p : Str × V) (q : Str × D) => p.1 = q.1 ∧ P p.2 q.2) fs ds → ds.lookup f = some d → ∃ v, fs.lookup f = some v ∧ P v d
  | _, _, d, .nil, h => by cases h
  | (n, v) :: fs, (m, u) :: ds, d, .cons ⟨h1, h2⟩ t, h => by
    have h1' : n = m := h1
    subst h1'
    rw [List.lookup_cons] at h
    split at h
    · rename_i z
      cases h
      exact ⟨v, by rw [List.lookup_cons, z], h2⟩
    · rename_i z
      obtain ⟨w, q1, q2⟩ := lookup_paired t h
      exact ⟨w, by rw [List.lookup_cons, z]; exact q1, q2⟩
def eXf (x : Exn) (i : Nat) (f : Str) : Ef := fun e => match e[i]? with
  | some .xn => (match x.flds.lookup f with
    | some d => .ok (.val d) e
    | none => .no)
  | _ => .no
def eXis (x : Exn) (i : Nat) (mi : Str → Option Bool) : Ef := fun e => match e[i]? with
  | some .xn => (match mi x.cls with
    | some b => .ok (.val (.bool b)) e
    | none => .no)
  | _ => .no
/-- isinstance(e, c), e the exception that the suite holds -/
def rIsX (K : PySem.W.Frag) (D a : Addr) (d : Option Addr) : List V → Hp → VK → Prop := fun xs H Q => ∃ (c : V) (cv : Value) (b : Bool), xs = [.ref a, c] ∧ (∀ u, RelV c u → u = cv) ∧ PySem.W.kitOne K (.ref D) cv = some b ∧ (d = none ∨ ∃ dd fs, d = some dd ∧ H dd = some (.xd fs)) ∧ Q (.bl b) H
theorem call_isX {X : Cx} {a D : Addr} {d : Option Addr} {oe : Obj} {pn : List (Addr × Obj)} (C : ExcC X.K D) (hz : Zc (.ref D) d oe) (hf : ∃ vs, oe.data = .fields vs) : CallR (X.suite a ((a, oe) :: pn)) (.builtin "isinstance") (rIsX X.K D a d) := by
  intro pins s σ H xs us Q I r h
  obtain ⟨c, cv, b, rfl, hcv, e, dd, q⟩ := h
  cases r with
  | cons rx rr =>
    cases rr with
    | cons rt rr =>
      cases rr
      cases rx
      have ec := hcv _ rt
      subst ec
      obtain ⟨hget, _⟩ := I.pin (a, oe) (List.mem_append.mpr (.inl List.mem_cons_self))
      obtain ⟨vs, hv⟩ := hf
      have J : ∃ od, PySem.W.InstAt s.heap a oe D od := by
        rcases dd with rfl | ⟨dd, fs, rfl, ea⟩
        · exact ⟨none, hget, hz.1, by unfold PySem.W.notCls; rw [hv] <;> rfl, by rw [hz.2]; trivial⟩
        · have hx : ObjOk X.prog X.w H s.heap dd (.xd fs) := I.hok dd _ ea
          obtain ⟨mA, hns, hr⟩ := hx
          obtain ⟨od, ho, hl⟩ := lookIn_ns hns
          exact ⟨some od, hget, hz.1, by unfold PySem.W.notCls; rw [hv] <;> rfl, by rw [hz.2]; exact ho⟩
      obtain ⟨od, J⟩ := J
      have hcl : (PySem.W.clsIn X.K D).isSome = true := by
        obtain ⟨cd, hc, _⟩ := PySem.W.any_some C.hd
        rw [hc]
        rfl
      exact PySem.W.kia_one (PySem.W.kitx_exc hcl C.hg C.hk C.hs C.ha C.hn C.ht C.hm) I.kIn J e (fun z => nomatch z) fun tk => ⟨.bl b, H, I.kept (t' := tk) fun _ _ z => z, rfl, q⟩
section
variable {X : Cx} {Φ : Fx} {W : WX} {mt mi : Str → Option Bool} {i : Nat} {a : Addr} {oe : Obj} {cls : Value} {d : Option Addr} {pn : List (Addr × Obj)} {x : Exn} {n f : Str} {p p2 pos : Pos}
theorem xn_at {K : PySem.W.Frag} {H G : Hp} {F : Nat → List Addr} {σ : L2.St} {e : Fr} {v : V} (O : Ok K Φ H G F σ e) (h : e[i]? = some .xn) (r : ra K (.slot i) v H G F σ e) : v = .ref (Φ.at_ i) := by
  have q : σ[i]? = some (some (.ref (Φ.at_ i))) := O.slots i .xn h
  have r' : σ[i]? = some (some v) := r
  rw [q] at r'
  cases r'
  rfl
theorem d_xf (su : SuOk X Φ mt i a cls d x) (hz : Zc cls d oe) (hf : ∃ vs, oe.data = .fields vs) (T : ∀ y c, mt y = some true → X.mg y = some c → ∃ C, c = .ref C ∧ XfC X.K C ∧ PySem.W.findIn X.K (.ref C) f = some none)
    (hn : DE (X.suite a ((a, oe) :: pn)) Φ W (.Name n p) (eVar i)) (hb : attributeBase (.Name n p) f X.env (eval (.Name n p) X.env) = eval (.Name n p) X.env := by rfl) :
    DE (X.suite a ((a, oe) :: pn)) Φ W (.Attribute (.Name n p) f pos) (eXf x i f) := by
  obtain ⟨C, rfl, T1, T2⟩ := T _ _ su.mt su.mg
  refine pe_weak (pe_xf T1 T2 hz hf hn hb) fun σ H Q ⟨G, F, e, O, h⟩ => ⟨G, F, e, O, ?_⟩
  unfold eXf at h
  split at h
  · rename_i hi
    split at h
    · rename_i dv hl
      have ev : eVar i e = .ok (.slot i) e := by
        unfold eVar
        rw [hi]
      rw [ev]
      intro v H' G' F' s o r
      have hv := xn_at o hi r
      rw [su.at_] at hv
      rcases su.fl with ⟨z, _⟩ | ⟨dx, fs, q1, q2, q3, q4⟩
      · rw [z] at hl
        cases hl
      · obtain ⟨w, w1, w2⟩ := lookup_paired q4 hl
        exact ⟨hv, rfl, dx, fs, w, q1, o.f1 dx _ q2 q3, w1, h w H' G' F' s o (dp_suit o su.gg w2)⟩
    · exact h.elim
  · exact h.elim
theorem is_read {c : V} {cv : Value} {b : Bool} {K : PySem.W.Frag} {mg : Str → Option Value} {σ : L2.St} {H G : Hp} {F : Nat → List Addr} {e : Fr} {Q : VK} {D : Addr} (su : SuOk X Φ mt i a cls d x) (hi : e[i]? = some .xn) (O : Ok X.K Φ H G F σ e) (hcv : ∀ u, RelV c u → u = cv) (k : PySem.W.kitOne X.K (.ref D) cv = some b)
    (h : Wp X.K X.mg Φ W σ (ra X.K) G (.ok (.val (.bool b)) e) Q) : Wp X.K X.mg Φ W σ (ra X.K) G (eVar i e) fun v H1 => rIsX X.K D a d [v, c] H1 Q := by
  have ev : eVar i e = .ok (.slot i) e := by
    unfold eVar
    rw [hi]
  rw [ev]
  intro v H' G' F' s o r
  have hv := xn_at o hi r
  rw [su.at_] at hv
  subst hv
  refine ⟨c, cv, b, rfl, hcv, k, ?_, h (.bl b) H' G' F' s o (.bl b)⟩
  rcases su.fl with ⟨_, z⟩ | ⟨dx, fs, q1, q2, q3, q4⟩
  · exact .inl z
  · exact .inr ⟨dx, fs, q1, o.f1 dx _ q2 q3⟩
/-- an own class -/
theorem d_xisO {m : Str} {C2 : Addr} (su : SuOk X Φ mt i a cls d x) (hz : Zc cls d oe) (hf : ∃ vs, oe.data = .fields vs) (T : ∀ y c b, mi y = some b → X.mg y = some c → ∃ C, c = .ref C ∧ ExcC X.K C ∧ PySem.W.kitOne X.K (.ref C) (.ref C2) = some b)
    (hm : X.mg "isinstance" = none) (hm2 : X.mg m = some (.ref C2)) (hn : DE (X.suite a ((a, oe) :: pn)) Φ W (.Name n p) (eVar i)) (hg : Gl X "isinstance" := by rfl) (hg2 : Gl X m := by rfl) (hd2 : (m == ("__debug__" : Str)) = false := by decide)
    (he : starEach [.Name n p, .Name m p2] X.env = (false, eval (.Name n p) X.env) :: starEach [.Name m p2] X.env := by rfl) (he2 : starEach [.Name m p2] X.env = (false, eval (.Name m p2) X.env) :: starEach [] X.env := by rfl) (hpl : (backTo pos (starEach [.Name m p2] X.env)).any (·.1) = false := by rfl) {p3 : Pos} :
    DE (X.suite a ((a, oe) :: pn)) Φ W (.Call (.Name "isinstance" p3) [.Name n p, .Name m p2] [] pos) (eXis x i mi) := by
  constructor
  intro pins s σ H Q I h
  obtain ⟨G, F, e, O, h⟩ := h
  unfold eXis at h
  split at h
  · rename_i hi
    split at h
    · rename_i b hl
      obtain ⟨C, rfl, T1, T2⟩ := T _ _ _ hl su.mg
      exact (pe_callB (X := X.suite a ((a, oe) :: pn)) (call_isX T1 hz hf) hg hm (by decide +kernel) (pa_cons hn (pa_cons (pe_glob (v := .ref C2) hg2 hm2 rfl hd2) pa_nil he2) he) (by decide) (by decide) he hpl).run pins s σ H Q I
        ⟨G, F, e, O, is_read (X := X) (K := X.K) (mg := X.mg) su hi O (fun u r => r) T2 h⟩
    · exact h.elim
  · exact h.elim
/-- a built-in class -/
theorem d_xisB {m : Str} {T2 : String} (su : SuOk X Φ mt i a cls d x) (hz : Zc cls d oe) (hf : ∃ vs, oe.data = .fields vs) (T : ∀ y c b, mi y = some b → X.mg y = some c → ∃ C, c = .ref C ∧ ExcC X.K C ∧ PySem.W.kitOne X.K (.ref C) (.type T2) = some b)
    (hm : X.mg "isinstance" = none) (hm2 : X.mg m = none) (hn : DE (X.suite a ((a, oe) :: pn)) Φ W (.Name n p) (eVar i)) (hv2 : bootBuiltins m = some (.type T2) := by decide +kernel) (hg : Gl X "isinstance" := by rfl) (hg2 : Gl X m := by rfl) (hn2 : m ≠ "__name__" := by decide) (hd2 : (m == ("__debug__" : Str)) = false := by decide)
    (he : starEach [.Name n p, .Name m p2] X.env = (false, eval (.Name n p) X.env) :: starEach [.Name m p2] X.env := by rfl) (he2 : starEach [.Name m p2] X.env = (false, eval (.Name m p2) X.env) :: starEach [] X.env := by rfl) (hpl : (backTo pos (starEach [.Name m p2] X.env)).any (·.1) = false := by rfl) {p3 : Pos} :
    DE (X.suite a ((a, oe) :: pn)) Φ W (.Call (.Name "isinstance" p3) [.Name n p, .Name m p2] [] pos) (eXis x i mi) := by
  constructor
  intro pins s σ H Q I h
  obtain ⟨G, F, e, O, h⟩ := h
  unfold eXis at h
  split at h
  · rename_i hi
    split at h
    · rename_i b hl
      obtain ⟨C, rfl, T1, T3⟩ := T _ _ _ hl su.mg
      exact (pe_callB (X := X.suite a ((a, oe) :: pn)) (call_isX T1 hz hf) hg hm (by decide +kernel) (pa_cons hn (pa_cons (pe_bltn (v := .ty T2) hg2 hm2 hv2 rfl hn2 hd2) pa_nil he2) he) (by decide) (by decide) he hpl).run pins s σ H Q I
        ⟨G, F, e, O, is_read (X := X) (K := X.K) (mg := X.mg) su hi O (fun u r => r) T3 h⟩
    · exact h.elim
  · exact h.elim
end
end DL
namespace DL
open PySem L2
def clsBody : Stmt → List Stmt
  | .ClassDef (body := b) .. => b
  | _ => []
/-- an own error with one field can be made -/
def ExR (P : Program) (w : World) (K : PySem.W.Frag) (mg : Str → Option Value) (base : Heap) (C : Addr) (f : Str) : Prop := ∃ fI fd ps, OexF K C fI f ∧ FnOk P w K mg base CX0 1 fI fd ps (spI K f) ∧ Binds K fd ps []
theorem s_raiseX {X : Cx} {Φ : Fx} {W : WX} {C : Addr} {x fl : Str} {p pos pos' : Pos} {a : Expr} {fa : Ef} (T : ExR X.prog X.w X.K X.mg X.base C fl) (hr : Room 2 X.A) (hc : X.calm = true) (tk : Takes X W) (gC : X.mg x = some (.ref C)) (ha : DE X Φ W a fa) (hg : Gl X x := by rfl) (hdb : (x == ("__debug__" : Str)) = false := by decide)
    (he : starEach (a :: []) X.env = (false, eval a X.env) :: starEach [] X.env := by rfl) (hpl : (backTo pos (starEach [] X.env)).any (·.1) = false := by rfl) :
    DS X Φ W (.Raise (some (.Call (.Name x p) [a] [] pos)) none pos') (sRaise1 x fl fa) := by
  obtain ⟨fI, fd, ps, T, F1, hb⟩ := T
  exact s_raise1 T F1 hr hb hc tk gC ha hg hdb he hpl
def excCB (K : PySem.W.Frag) (D : Addr) : Bool := decide (PySem.W.findIn K (.ref D) "__getattribute__" = some (some (.builtin "BaseException.__getattribute__"))) && (decide (PySem.W.findIn K (.ref D) "__getattr__" = some none) && (decide (PySem.W.subIn K (.ref D) (.type "BaseException") = some true) && (PySem.W.hasDictIn K D &&
  (decide (PySem.W.findIn K (.ref D) "__class__" = some (some (.builtin "object.__class__"))) && (decide (PySem.W.specialIn K (.builtin "object.__class__") "__get__" = some (some (.builtin "getset_descriptor.__get__"))) && (decide (PySem.W.takesIn K (.builtin "object.__class__") = some true) && decide (PySem.W.mroIn K D (.type "object") = some true)))))))
theorem excC_ok {K : PySem.W.Frag} {D : Addr} (h : excCB K D = true) : ExcC K D := by
  unfold excCB at h
  simp only [Bool.and_eq_true, decide_eq_true_eq] at h
  obtain ⟨h1, h2, h3, h4, h5, h6, h7, h8⟩ := h
  exact ⟨h1, h2, h3, h4, h5, h6, h7, h8⟩
/-- what the suite of `except .. as e` may ask of a class: its fields, isinstance -/
def heldB (K : PySem.W.Frag) (D : Addr) (f : Str) : Bool := excCB K D && (xfB K D && decide (PySem.W.findIn K (.ref D) f = some none))
structure XHeld (K : PySem.W.Frag) (D : Addr) (f : Str) : Prop where
  c : ExcC K D
  x : XfC K D
  n : PySem.W.findIn K (.ref D) f = some none
theorem held_ok {K : PySem.W.Frag} {D : Addr} {f : Str} (h : heldB K D f = true) : XHeld K D f := by
  unfold heldB at h
  simp only [Bool.and_eq_true, decide_eq_true_eq] at h
  exact ⟨excC_ok h.1, xfB_ok h.2.1, h.2.2⟩
end DL
namespace DL
open PySem L2
/-! ### f() -/
def tCallG0 (sp : Sp) (W : WX) : TE := fun σ H Q => sp [] H Q (WE W σ)
section
variable {X : Cx} {Φ : Fx} {W : WX} {pos p : Pos} {n : Str} {k : Nat} {f : Addr} {fd : FuncData} {ps : List Str} {Fs : Fn} {sp : Sp}
theorem pe_callG0 (Fo : FnG X.prog X.w X.K X.mg X.base k f fd ps sp) (room : Room k X.A) (gu : X.A.guards = some []) (hg : Gl X n) (hm : X.mg n = some (.ref f)) (hk : PySem.W.keepIn X.K (.ref f) = true) (hb : Binds X.K fd ps []) (tk : Takes X W)
    (hdb : (n == ("__debug__" : Str)) = false := by decide) : PE X (.Call (.Name n p) [] [] pos) (tCallG0 sp W) := by
  constructor
  intro pins s σ H Q I h
  refine wpAny_Call_Name_kw (ld_glob I hg hm ?_ hdb)
  have hl : ([] : List Value).length = ps.length := Fo.len _ _ _ _ h
  refine PySem.W.callWith_K0 I.kIn hk (wpAny_call (codeAny_mono (run_g (us := []) Fo room gu tk I ?_ .nil h) fun r s' z => match r, z with
      | .ok (.ret _), z => z
      | .error _, z => z))
  exact hb s [] I.kIn hl
theorem d_call0 (Fo : FnG X.prog X.w X.K X.mg X.base k f fd ps (spF X.K X.mg 0 Fs)) (hr : Room k X.A) (gu : X.A.guards = some []) (hm : X.mg n = some (.ref f)) (hk : PySem.W.keepIn X.K (.ref f) = true) (hb : Binds X.K fd ps []) (tk : Takes X W)
    (hg : Gl X n := by rfl) (hdb : (n == ("__debug__" : Str)) = false := by decide) :
    DR X Φ W (.Call (.Name n p) [] [] pos) (eFnC Fs [] aNil) :=
  pe_weak (pe_callG0 Fo hr gu hg hm hk hb tk hdb) fun σ H Q ⟨G, F, e, O, h⟩ => callR_ok (ms := []) (as := []) (vs := []) O .nil rfl h
end
end DL
namespace DL
open PySem L2
/-- one default that is not wanted: every parameter is given -/
theorem binds_def {K : PySem.W.Frag} {x qual : Str} {params : Arguments} {body : List Stmt} {scope : Scope} {dvs : List V} {kws : List (Str × V)} {f : Addr} {fd : FuncData} {ps : List Str} (F : FunD K x qual params body scope dvs kws f fd) (n : Nat) (hl : dvs.length = 1) (hn : n = ps.length)
    (h : ∀ (T : Addr) (kV doc pm : Value) (an : Option Addr) (cdv ct : Value) (us its : List Value), us.length = n → its.length = 1 → ∃ k, bindArgs (PySem.W.fnOf x qual params body scope (.ref T) kV doc pm an cdv ct) ⟨us, []⟩ = seqItems? (.ref T) >>= k ∧ k (some its.toArray) = pure (ps.zip us)) : Binds K fd ps [] := by
  have d1 : dvs.drop 1 = [] := List.drop_of_length_le (by omega)
  obtain ⟨ds, v, b⟩ := F.binds1 (ps := ps) n 1 (fun z => by rw [z] at hl; cases hl) (by omega) fun T kV doc pm an cdv ct us its h1 h2 => by
    obtain ⟨k, e1, e2⟩ := h T kV doc pm an cdv ct us its h1 (by omega)
    refine ⟨k, e1, ?_⟩
    rw [List.drop_of_length_le (by omega), List.append_nil]
    exact e2
  rw [d1] at v
  cases v
  exact b
end DL
set_option Elab.async false
set_option linter.all false
set_option maxRecDepth 100000
set_option maxHeartbeats 4000000
/-! DlTx: texts: str(n), int(text), one sign * n, a sign in a text. -/
namespace DL
open PySem L2
def sOf (l : List Nat) : Str := ⟨l.toArray⟩
def bStr : List D → Option D
  | [.int i] => if i.natAbs.log2 < 1920 then some (.str (Str.ofString (toString i))) else none
  | _ => none
def bIntT : List D → Option D
  | [.int i] => some (.int i)
  | [.str a] => if a.length ≤ 640 then (PySem.intText? a).map PyData.int else none
  | _ => none
def one? (x : Str) : Option Nat := match x.cps.toList with
  | [c] => some c
  | _ => none
theorem one_ok {x : Str} {c : Nat} (h : one? x = some c) : x = ⟨#[c]⟩ := by
  unfold one? at h
  split at h
  · rename_i q
    cases h
    obtain ⟨⟨l⟩⟩ := x
    have q' : l = [c] := q
    subst q'
    rfl
  · cases h
def dMulT : D → D → Option D
  | .int i, .int j => if (Builtin.Int.intBits i : Int) + (Builtin.Int.intBits j : Int) ≤ 134217728 then some (.int (i * j)) else none
  | .str x, .int k => match one? x with
    | some c => if -1000000 ≤ k ∧ k ≤ 1000000 then some (.str (sOf (List.replicate k.toNat c))) else none
    | none => none
  | _, _ => none
def dInT : D → D → Option D
  | .str x, .str z => (one? x).map fun c => .bool (decide (c ∈ z.cps.toList))
  | x, y => dIn x y
def dNotInT : D → D → Option D
  | .str x, .str z => (one? x).map fun c => .bool (!decide (c ∈ z.cps.toList))
  | x, y => dNotIn x y
section
variable {X : Cx}
theorem cr_dStr : CallR X (.type "str") (rP X.K bStr) := by
  intro pins s σ H xs us Q I r h
  obtain ⟨G, ds, d, gh, b, ho, k⟩ := h
  unfold bStr at ho
  split at ho
  · split at ho
    · rename_i hc
      cases ho
      obtain ⟨v, rfl, b1⟩ := bpa1 b
      obtain rfl := b1.int
      exact call_str_int pins s σ H _ us Q I r ⟨_, rfl, hc, k _ _ _ (Grow.refl gh) (.str _)⟩
    · cases ho
  · cases ho
theorem cr_dIntT : CallR X (.type "int") (rP X.K bIntT) := by
  intro pins s σ H xs us Q I r h
  obtain ⟨G, ds, d, gh, b, ho, k⟩ := h
  unfold bIntT at ho
  split at ho
  · cases ho
    obtain ⟨v, rfl, b1⟩ := bpa1 b
    obtain rfl := b1.int
    exact call_int1 pins s σ H _ us Q I r (.inl ⟨_, rfl, k _ _ _ (Grow.refl gh) (.int _)⟩)
  · split at ho
    · rename_i hc
      obtain ⟨v, rfl, b1⟩ := bpa1 b
      obtain rfl := b1.str
      obtain ⟨n, h1, h2⟩ := Option.map_eq_some_iff.mp ho
      subst h2
      exact call_int_str pins s σ H _ us Q I r ⟨_, n, rfl, h1, hc, k _ _ _ (Grow.refl gh) (.int _)⟩
    · cases ho
  · cases ho
theorem rep_fold (c : Nat) : ∀ (n : Nat) (a : Array Nat), (List.replicate n #[c]).foldl (· ++ ·) a = a ++ (List.replicate n c).toArray
  | 0, a => by simp
  | n + 1, a => by
    rw [List.replicate_succ, List.foldl_cons, rep_fold c n, List.replicate_succ]
    apply Array.toList_inj.mp
    simp
theorem mul_one (c : Nat) (k : Int) : Txt.mul ⟨#[c]⟩ k = sOf (List.replicate k.toNat c) := by
  unfold Txt.mul sOf
  by_cases h1 : k < 1
  · rw [if_pos h1]
    have : k.toNat = 0 := by omega
    rw [this]
    rfl
  · rw [if_neg h1]
    by_cases h2 : k = 1
    · subst h2
      rfl
    · have e : (k == 1 || (⟨#[c]⟩ : Str).length == 0) = false := by
        have e1 : (k == 1) = false := by simpa using h2
        rw [e1]
        rfl
      rw [if_neg (by rw [e]; exact Bool.false_ne_true)]
      show (⟨(List.replicate k.toNat #[c]).foldl (· ++ ·) #[]⟩ : Str) = _
      rw [rep_fold]
      simp
theorem mulOk_one (c : Nat) {k : Int} (h1 : -1000000 ≤ k) (h2 : k ≤ 1000000) : MulOk ⟨#[c]⟩ k := by
  have hl : (⟨#[c]⟩ : Str).length = 1 := rfl
  refine ⟨?_, fun q _ => ?_, fun q _ => ?_⟩
  · rw [decide_eq_false (by omega), decide_eq_false (by omega)]
    rfl
  · rw [hl]
    intro z
    have : ((2 : Int) ^ 63 - 1) / k ≥ 1 := by
      have := Int.le_ediv_of_mul_le (a := 1) (b := (2 : Int) ^ 63 - 1) (c := k) (by omega) (by omega)
      exact this
    omega
  · rw [hl, Nat.one_mul]
    unfold Builtin.Str.tooLong
    have : ¬ k.toNat > sizeLine := by
      rw [sizeLine_eq]
      omega
    exact decide_eq_false this
theorem op_dMulT : OpR X (binaryOp .Mult) (r2 X.K dMulT) := by
  intro pins s σ H x y v u Q I rx ry h
  obtain ⟨G, d1, d2, d, gh, b1, b2, ho, k⟩ := h
  unfold dMulT at ho
  split at ho
  · split at ho
    · rename_i hc
      cases ho
      obtain rfl := b1.int
      obtain rfl := b2.int
      exact op_mulX pins s σ H _ _ v u Q I rx ry ⟨_, _, rfl, rfl, hc, k _ _ _ (Grow.refl gh) (.int _)⟩
    · cases ho
  · split at ho
    · rename_i c q
      split at ho
      · rename_i hc
        cases ho
        obtain rfl := one_ok q
        obtain rfl := b1.str
        obtain rfl := b2.int
        obtain ⟨t, rfl⟩ := rx
        obtain ⟨t', rfl⟩ := ry
        refine SB.mul (mulOk_one c hc.1 hc.2) fun t2 tk => ⟨.str (Txt.mul ⟨#[c]⟩ _), _, I.tok _, ⟨t2, rfl⟩, ?_⟩
        rw [mul_one]
        exact k _ _ _ (Grow.refl gh) (.str _)
      · cases ho
    · cases ho
  · cases ho
theorem op_dInT (hu : X.A.units + 65 < cLine) : OpR X (compareOp .In) (r2 X.K dInT) := by
  intro pins s σ H x y v u Q I rx ry h
  obtain ⟨G, d1, d2, d, gh, b1, b2, ho, k⟩ := h
  unfold dInT at ho
  split at ho
  · obtain ⟨c, h1, h2⟩ := Option.map_eq_some_iff.mp ho
    subst h2
    obtain rfl := one_ok h1
    obtain rfl := b1.str
    obtain rfl := b2.str
    exact op_in_sign pins s σ H _ _ v u Q I rx ry ⟨_, _, rfl, rfl, k _ _ _ (Grow.refl gh) (.bl _)⟩
  · exact op_dIn hu pins s σ H x y v u Q I rx ry ⟨G, _, _, d, gh, b1, b2, ho, k⟩
theorem op_dNotInT (hu : X.A.units + 65 < cLine) : OpR X (compareOp .NotIn) (r2 X.K dNotInT) := by
  intro pins s σ H x y v u Q I rx ry h
  obtain ⟨G, d1, d2, d, gh, b1, b2, ho, k⟩ := h
  unfold dNotInT at ho
  split at ho
  · obtain ⟨c, h1, h2⟩ := Option.map_eq_some_iff.mp ho
    subst h2
    obtain rfl := one_ok h1
    obtain rfl := b1.str
    obtain rfl := b2.str
    exact op_notIn_sign pins s σ H _ _ v u Q I rx ry ⟨_, _, rfl, rfl, k _ _ _ (Grow.refl gh) (.bl _)⟩
  · exact op_dNotIn hu pins s σ H x y v u Q I rx ry ⟨G, _, _, d, gh, b1, b2, ho, k⟩
end
end DL
set_option Elab.async false
set_option linter.all false
set_option maxRecDepth 100000
set_option maxHeartbeats 4000000
/-! DlRp: text.replace(..) of written texts, in defs that begin with a token out (HandS.Replace). -/
namespace DL
open PySem L2 PyProof.Rows
abbrev DET (X : Cx) (Φ : Fx) (W : WX) (e : Expr) (f : Ef) : Prop := PET X e (tG X.K X.mg Φ W (ra X.K) f)
abbrev DST (X : Cx) (Φ : Fx) (W : WX) (st : Stmt) (f : Sf) : Prop := PST X st (tS X.K X.mg Φ W f)
abbrev DSsT (X : Cx) (Φ : Fx) (W : WX) (st : List Stmt) (f : Sf) : Prop := PSsT X st (tS X.K X.mg Φ W f)
theorem pet_weak {X : Cx} {e : Expr} {t t' : TE} (h : PET X e t) (w : ∀ σ H Q, t' σ H Q → t σ H Q) : PET X e t' := fun pins s σ H Q h0 I q => h pins s σ H Q h0 I (w σ H Q q)
theorem pst_weak {X : Cx} {st : Stmt} {t t' : TS} (h : PST X st t) (w : ∀ D σ H, t' D σ H → t D σ H) : PST X st t' := fun pins s σ H D h0 I q => h pins s σ H D h0 I (w D σ H q)
theorem psst_weak {X : Cx} {st : List Stmt} {t t' : TS} (h : PSsT X st t) (w : ∀ D σ H, t' D σ H → t D σ H) : PSsT X st t' := fun pins s σ H D h0 I q => h pins s σ H D h0 I (w D σ H q)
def eRepl (y z : Str) (fa : Ef) : Ef := fun e => (fa e).bind fun a e1 => match rd1 e1 a with
  | some (.str x) => if x.length + (x.length + 1) * z.length ≤ 16777216 then .ok (.val (.str (Txt.replace x y z))) e1 else .no
  | _ => .no
section
variable {X : Cx} {Φ : Fx} {W : WX} {x : Expr} {st : Stmt} {sts : List Stmt} {f g : Sf} {fa : Ef} {y z n : Str} {j k : Nat} {c0 c1 apos p pos : Pos} {id : String} {op : List D → Option D}
theorem et_repl (ho : DE X Φ W x fa) (hyz : (y == z) = false := by decide)
    (hst : starEach [.Constant (.str y) j c0, .Constant (.str z) k c1] X.env = [(false, eval (.Constant (.str y) j c0) X.env), (false, eval (.Constant (.str z) k c1) X.env)] := by rfl)
    (hbase : attributeBase x "replace" X.env (eval x X.env) = eval x X.env := by rfl) (hline : (apos.endLine == pos.line) = true := by rfl) :
    DET X Φ W (.Call (.Attribute x "replace" apos) [.Constant (.str y) j c0, .Constant (.str z) k c1] [] pos) (eRepl y z fa) :=
  pet_weak (CwR.pet_replC ho hyz hst hbase hline) fun σ H Q ⟨G, F, e, O, h⟩ => ⟨G, F, e, O, Wp.imp (Wp.seq h) fun v H1 ⟨G1, F1, e1, a, g1, O1, r1, h1⟩ => by
    split at h1
    · rename_i x q
      split at h1
      · rename_i hb
        obtain rfl := (bp_of O1 r1 q).str
        exact ⟨x, rfl, hb, h1 _ H1 G1 F1 (Same.refl _) O1 (.str _)⟩
      · exact h1.elim
    · exact h1.elim⟩
theorem et_callTy (hc : CallR X (.type id) (rP X.K op)) (hm : X.mg n = none) (ha : DET X Φ W x fa) (hv : bootBuiltins n = some (.type id) := by decide +kernel) (hg : Gl X n := by rfl) (hn : n ≠ "__name__" := by decide) (hdb : (n == ("__debug__" : Str)) = false := by decide)
    (he : starEach (x :: []) X.env = (false, eval x X.env) :: starEach [] X.env := by rfl) (hpl : (backTo pos (starEach [] X.env)).any (·.1) = false := by rfl) : DET X Φ W (.Call (.Name n p) (x :: []) [] pos) (eCall op (aCons fa aNil)) := by
  refine pet_weak (t := tCB (rP X.K op) (tCons (tG X.K X.mg Φ W (ra X.K) fa) tNil)) (fun pins s σ H Q h0 I h => ?_) fun σ H Q t => ?_
  · refine wpAny_Call_Name_kw (ld_blt I hg hm hv ?_ hn hdb)
    exact PyProof.Rows.callWith_type1 (thn (pat_cons ha pat_nil he pos pins s σ H _ h0 I h) fun us s1 ⟨vs, H1, I1, r1, q1⟩ => hc pins s1 σ H1 vs us Q I1 r1 q1) he hpl
  · have e : ∀ {σ : L2.St} {H : Hp} {Q : List V → Hp → Prop}, tG X.K X.mg Φ W (rs X.K) (aCons fa aNil) σ H Q → tCons (tG X.K X.mg Φ W (ra X.K) fa) tNil σ H Q := fun {σ H Q} ⟨G, F, e, O, h⟩ => ⟨G, F, e, O, Wp.imp (Wp.seq h) fun v H1 ⟨G1, F1, e1, a, g1, O1, r1, h1⟩ => h1 _ H1 G1 F1 (Same.refl _) O1 (.cons r1 .nil)⟩
    exact e (eCall_weak t)
theorem st_cons (h1 : DST X Φ W st f) (h2 : DSsT X Φ W sts g) : DSsT X Φ W (st :: sts) (sSeq f g) :=
  psst_weak (psst_cons h1 h2) fun Dn σ H ⟨G, F, e, O, h⟩ => ⟨G, F, e, O, by
    have h' : WS X.K X.mg Φ W G ((f e).bind fun fl e1 => match fl with
      | .nx => g e1
      | fl => .ok fl e1) Dn := h
    cases q : f e with
    | no =>
      rw [q] at h'
      exact h'
    | ex z e1 =>
      rw [q] at h'
      exact h'
    | ok fl e1 =>
      rw [q, R.bind_ok] at h'
      cases fl with
      | nx => exact fun v σ1 H1 G1 F1 s1 O1 => ⟨G1, F1, e1, O1, WS.up h' s1⟩
      | bk => exact h'
      | ct => exact h'
      | rt s => exact h'⟩
theorem st_one (h1 : DST X Φ W st f) : DSsT X Φ W [st] f := psst_weak (CwR.psst_one h1) fun Dn σ H h => h
theorem st_of (h1 : DS X Φ W st f) : DST X Φ W st f := PST.of h1
theorem et_of (h1 : DE X Φ W x fa) : DET X Φ W x fa := CwR.PET.of h1
end
section
variable {K : PySem.W.Frag} {mg : Str → Option Value} {Φ : Fx} {W : WX} {fa fb : Rf} {σ : L2.St} {H : Hp} {Dn : Ends}
theorem par_weak (i j : Nat) (t : tS K mg Φ W (sPar i j fa fb) Dn σ H) : tPar i j (tCons (tG K mg Φ W (rr K Φ) fa) (tCons (fun σ H Q => ∃ Φ : Fx, tG K mg Φ W (rr K Φ) fb σ H Q) tNil)) Dn σ H := by
  obtain ⟨G, F, e, O, h⟩ := t
  exact ⟨G, F, e, O, Wp.imp (WS.seq (σ := σ) h) fun v H1 ⟨G1, F1, e1, r1, g1, O1, q1, h1⟩ => by
    obtain ⟨A1, L1, P1⟩ := Held.mk' O1 q1
    refine ⟨_, G1, F1, e1, P1, Wp.imp (WS.seqP (fun o => L1.cv o) h1) fun w H2 ⟨G2, F2, e2, r2, g2, O2, q2, h2⟩ => ?_⟩
    obtain ⟨A2, L2, P2⟩ := Held.mk' O2 q2
    have a1 : ∀ a, r1 = .arg a → ra K a v H2 G2 F2 σ e2 := fun a z => ra_up (L1.ar a z) g2
    obtain ⟨G3, e3, r3, s3, O3, z3, h3⟩ := WS.fzX P2 a1 h2
    have a2 : ∀ a, r2 = .arg a → ra K a w H2 G3 F2 σ e3 := fun a z => ra_up (L2.ar a z) s3
    obtain ⟨G4, e4, r4, s4, O4, z4, h4⟩ := WS.fzX O3 a2 h3
    obtain ⟨B1, b1, y1⟩ := L1.rx (L2.cv O4) (g2.trans (s3.trans s4)) s4 z3
    obtain ⟨B2, b2, y2⟩ := L2.rx O4 (s3.trans s4) (Same.refl _) z4
    have y2' : rx K Φ B2 r4 w H2 G4 F2 e4 := by
      cases r4 with
      | arg a => cases a <;> exact y2
      | new u =>
        obtain ⟨a, ea, oa, na, ap⟩ := y2
        refine ⟨a, ea, oa, fun b hb => ⟨(na b hb).1, ?_⟩, ap⟩
        have z : (if b ∈ A1 then H1 b else Φ.H_0 b) = none := (na b hb).2
        by_cases hA : b ∈ A1
        · rw [if_pos hA] at z
          exact absurd z (L1.th b hA)
        · rw [if_neg hA] at z
          exact z
    have dj : ∀ b ∈ B2, b ∉ B1 := fun b hb hb1 => by
      have z : (if b ∈ A1 then H1 b else Φ.H_0 b) = none := L2.n0 b (b2 b hb)
      rw [if_pos (b1 b hb1)] at z
      exact L1.th b (b1 b hb1) z
    obtain ⟨F5, e5, O5, h5, k5⟩ := putR_ok (L1.cv (L2.cv O4)) y1 h4
    obtain ⟨F6, e6, O6, h6, _⟩ := putR_ok O5 (k5 B2 r4 w dj y2') h5
    exact ⟨v, w, rfl, h6 .non _ H2 G4 F6 (Same.refl _) O6⟩⟩
end
/-- a, b = x, y: the first value may want a token -/
theorem pst_par {X : Cx} {i j : Nat} {x y : Str} {a b : Expr} {ta : TA} {px py pt pos : Pos} {kt k2 : Nat} {pt2 : Pos} (hc : X.calm = true) (hN : X.N.Nodup) (hi : X.N[i]? = some x) (hj : X.N[j]? = some y) (hij : i ≠ j)
    (hx : X.env.scope.names.lookup x = some .local) (hy : X.env.scope.names.lookup y = some .local) (ha : PAT X [a, b] ta)
    (hw : swappedStores [.Tuple [.Name x px, .Name y py] kt pt] (.Tuple [a, b] k2 pt2) X.env = pure (some [x, y]))
    (hs : swapsWithSole [.Tuple [.Name x px, .Name y py] kt pt] (.Tuple [a, b] k2 pt2) pos.line X.env = pure false := by rfl) :
    PST X (.Assign [.Tuple [.Name x px, .Name y py] kt pt] (.Tuple [a, b] k2 pt2) pos) (tPar i j ta) := by
  intro pins s σ H D h0 I h
  have two : ∀ {us : List Value} {v w : V}, Vals [v, w] us → ∃ u1 u2, us = [u1, u2] ∧ RelV v u1 ∧ RelV w u2 := fun r => by
    cases r with
    | cons p q =>
      cases q with
      | cons p' q' =>
        cases q'
        exact ⟨_, _, rfl, p, p'⟩
  rw [exec_Assign_arm]
  refine wpAny_bind (wpAny_standAt ?_)
  rw [hs]
  refine wpAny_bind (wpAny_pure ?_)
  rw [if_neg (by decide)]
  refine wpAny_bind (PyProof.Rows.Tuple_ (thn (ha _ pins s σ H _ h0 I h) fun us s1 ⟨vs, H1, I1, r1, v, w, e1, q1⟩ => ?_))
  subst e1
  obtain ⟨u1, u2, rfl, rv, rw'⟩ := two r1
  refine wpAny_newObj_type ?_ (by show 2 ≤ sizeLine; decide)
  have I2 : Inv X pins σ H1 { s1 with heap := s1.heap.push { cls := .type "tuple", data := .seq [u1, u2].toArray } } := I1.kept (t' := s1.toks) fun b o e => Heap.get?_push_of_some _ e
  rw [hw]
  refine wpAny_bind (wpAny_pure ?_)
  show wpAny (model X.prog X.w) X.A (do rule "assign.swapped-stores"; let items ← unpackItems (.ref s1.heap.objs.size) 2 none; assignInOrder [fun v => bindName X.env y v, fun v => bindName X.env x v] items.reverse; pure Flow.next) _ _ _
  refine wpAny_bind (wpAny_rule (wpAny_bind (unpackItems_tuple (items := #[u1, u2]) (I.ok.hd hc) (IsTup.new s1.heap _) fun h' hx' => ?_)))
  have I3 := I2.kept (h' := h') (t' := s1.toks) fun b o e => hx' b o (Nat.ne_of_lt (Heap.lt_size e)) e
  show wpAny _ _ (assignInOrder [fun v => bindName X.env y v, fun v => bindName X.env x v] [u2, u1] >>= fun _ => pure Flow.next) _ _ _
  refine wpAny_bind (assignInOrder_cons (wpAny_bindName (store_ok I3 hN hj (.inl hy) rw' (fun s2 I4 => ?_) (.inr hy))))
  refine assignInOrder_cons (wpAny_bindName (store_ok I4 hN hi (.inl hx) rv (fun s3 I5 => assignInOrder_nil (wpAny_pure ?_)) (.inr hx)))
  rw [List.set_comm _ _ (Ne.symm hij)] at I5
  exact ⟨_, H1, I5, q1⟩
section
variable {X : Cx} {Φ : Fx} {W : WX} {x y : Expr} {fa : Ef} {fb : Rf} {pos px py pt p2 : Pos} {kt k2 : Nat} {n m : Str}
theorem r_weak {K : PySem.W.Frag} {mg : Str → Option Value} {σ : L2.St} {H : Hp} {Q : VK} (t : tG K mg Φ W (rr K Φ) (eR fa) σ H Q) : tG K mg Φ W (ra K) fa σ H Q := by
  obtain ⟨G, F, e, O, h⟩ := t
  exact ⟨G, F, e, O, Wp.imp (Wp.seq h) fun v H1 ⟨G1, F1, e1, a, g1, O1, r1, h1⟩ => h1 v H1 G1 F1 (Same.refl _) O1 r1⟩
theorem st_par (i j : Nat) (hc : X.calm = true) (hN : X.N.Nodup) (ha : DET X Φ W x fa) (hb : ∀ Φ, DR X Φ W y fb) (hw : swappedStores [.Tuple [.Name n px, .Name m py] kt pt] (.Tuple [x, y] k2 p2) X.env = pure (some [n, m]))
    (hi : X.N[i]? = some n := by rfl) (hj : X.N[j]? = some m := by rfl) (hij : i ≠ j := by decide) (hx : X.env.scope.names.lookup n = some .local := by rfl) (hy : X.env.scope.names.lookup m = some .local := by rfl)
    (hs : swapsWithSole [.Tuple [.Name n px, .Name m py] kt pt] (.Tuple [x, y] k2 p2) pos.line X.env = pure false := by rfl) (h1 : starEach [x, y] X.env = (false, eval x X.env) :: starEach [y] X.env := by rfl) (h2 : starEach [y] X.env = (false, eval y X.env) :: starEach [] X.env := by rfl) :
    DST X Φ W (.Assign [.Tuple [.Name n px, .Name m py] kt pt] (.Tuple [x, y] k2 p2) pos) (sPar i j (eR fa) fb) :=
  pst_weak (pst_par hc hN hi hj hij hx hy (pat_cons (pet_weak ha fun _ _ _ t => r_weak t) (pat_cons (CwR.PET.of (pe_ex hb)) pat_nil h2) h1) hw hs) fun Dn σ H t => par_weak i j t
end

/-! ### a def that begins with a token out -/
section
variable {P : Program} {w : World} {K : PySem.W.Frag} {mg : Str → Option Value} {base : Heap} {x qual : Str} {params : Arguments} {body : List Stmt} {scope : Scope} {dvs : List V} {kws : List (Str × V)} {f : Addr} {fd : FuncData} {N ps : List Str} {k : Nat} {sp : Sp}
theorem fn_gT (Fd : FunD K x qual params body scope dvs kws f fd) (S : FnScope N ps scope) (hnc : ∀ y ∈ scope.names, y.2 ≠ .cell) (hps : 1 ≤ ps.length) (len : ∀ vs H Q E, sp vs H Q E → vs.length = ps.length)
    (hb : ∀ (cdv : Value) (A : Around) (outer : List Env) (s : Shared) (H : Hp) (vs : List V) (Q : VK) (E : XK), Room k (A.deeper (PyProof.Rows.envOfC qual scope s.heap.objs.size f cdv)) → A.guards = some [] → sp vs H Q E →
      ∃ t, PSsT (cxOf (L2.CX P w) P w K mg base N qual scope f cdv A outer s H E) body t ∧ t { nx := fun _ H' => Q .non H', rt := Q } (L2.start N vs) H) : FnG P w K mg base (k + 1) f fd ps sp := by
  obtain ⟨oc, od, dV, kV, doc, pm, an, cdv, ct, osl, rfl, look, codeOk, _, _⟩ := Fd.ex
  constructor
  · exact len
  · intro A outer s H args us vs Q E room gu e0 binds vals prom
    have hl := len _ _ _ _ prom
    have hul : us.length = ps.length := by rw [← vals.length, hl]
    have KX : K.In s.heap := e0.mod.kin.keeps fun b o e => (e0.bs b o e).1
    have lim : s.heap.NoLimit := e0.mod.nolimit.keeps fun b o e => (e0.bs b o e).1
    have hloc : ∀ y ∈ ps.zip us, scope.names.lookup y.1 = some .local := fun ⟨n, v⟩ hy => by
      rcases S.par n (List.of_mem_zip hy).1 with q | q
      · exact q
      · exact absurd rfl (hnc _ (PySem.mem_of_lookup q))
    have hz : (ps.zip us).length = ps.length := by rw [List.length_zip, hul, Nat.min_self]
    apply codeAny_call_function room.depth (KX _ _ look) rfl S.co S.gen rfl (PySem.W.codeRec_of KX codeOk)
    apply binds
    refine wpAny_newFunctionEnv hnc hloc (fun h1 hns hsb => ?_) S.kind
    have keep : ∀ b o, s.heap.get? b = some o → h1.get? b = some o := fun b o e => hsb.extBut b o (Nat.ne_of_lt (Heap.lt_size e)) (Heap.get?_push_of_some _ e)
    have hcl : cellsFrom (s.heap.objs.size + 1) scope.names [] = [] := cells_none _ _ _ hnc
    have hkl : ∀ y ∈ ps.zip us, (envOfC qual scope s.heap.objs.size f cdv).kindOf y.1 = some .local := fun y hy => by
      first
      | exact hloc y hy
      | (simp only [Env.kindOf]; exact hloc y hy)
      | (unfold Env.kindOf; rw [if_pos S.kind]; exact hloc y hy)
      | simpa [Env.kindOf, envOfC, newEnv, S.kind] using hloc y hy
    have hm : (bindL (envOfC qual scope s.heap.objs.size f cdv).kindOf (ps.zip us) fun _ => none) = fun x => (ps.zip us).reverse.lookup x := by
      funext y
      rw [bindL_loc _ _ hkl y]
      cases (ps.zip us).reverse.lookup y <;> rfl
    have inc : InCallC s s.heap.objs.size (bindL (envOfC qual scope s.heap.objs.size f cdv).kindOf (ps.zip us) fun _ => none) (cellsFrom (s.heap.objs.size + 1) scope.names [])
        (bindC (envOfC qual scope s.heap.objs.size f cdv).kindOf (ps.zip us) fun _ => none) ({ s with heap := h1, toks := s.toks + (ps.zip us).length } : Shared) := by
      rw [hm, hcl]
      exact ⟨⟨⟨_, _, rfl⟩, hns, keep, Nat.le_refl _⟩, fun n c hc => absurd hc (by simp), .nil, fun n c hc => absurd hc (by simp)⟩
    have henv : newEnv scope s.heap.objs.size mainGlobals [] (qual ++ ".<locals>.") (some f) cdv none builtinsNs = envOfC qual scope s.heap.objs.size f cdv := by
      unfold envOfC
      rw [hcl] <;> rfl
    have hto : 1 ≤ ({ s with heap := h1, toks := s.toks + (ps.zip us).length } : Shared).toks := by
      show 1 ≤ s.toks + (ps.zip us).length
      omega
    show ({ s with heap := h1, toks := s.toks + (ps.zip us).length } : Shared).heap.NoLimit ∧ codeAny (model P w) A (.func body (newEnv scope s.heap.objs.size mainGlobals [] (qual ++ ".<locals>.") (some f) cdv none builtinsNs)) _ ({ s with heap := h1, toks := s.toks + (ps.zip us).length } : Shared)
    rw [henv]
    generalize ({ s with heap := h1, toks := s.toks + (ps.zip us).length } : Shared) = s1 at inc hto ⊢
    constructor
    · exact (e0.mod.nolimit.keeps fun b o z => (e0.bs b o z).1).keeps inc.toInCall.keep
    · apply codeAny_func
      obtain ⟨t, deriv, reading⟩ := hb cdv A outer s H vs Q E (room.deeper _) gu prom
      have begun := inv_start (CX := L2.CX P w) (E := E) S room.hd e0 (len _ _ _ _ prom) vals inc
      refine wpAny_mono (deriv [] s1 (L2.start N vs) H _ hto begun reading) (fun fl s' ended => ?_) fun _ _ raised => raised
      have leave : ∀ {τ : L2.St} {H' : Hp} {v : V} {u : Value}, Inv (cxOf (L2.CX P w) P w K mg base N qual scope f cdv A outer s H E) [] τ H' s' → RelV v u → Q v H' → CE outer P w H s Q u s' := by
        intro τ H' v u J rel q
        exact ⟨v, H', J.os, J.bare, J.base, J.hok, rel, q⟩
      match fl, ended with
      | .next, ⟨_, _, J, q⟩ => exact leave (v := .non) (u := .none) J rfl q
      | .ret _, ⟨_, _, _, J, rel, q⟩ => exact leave J rel q
      | .brk, ⟨_, _, _, q⟩ => exact q.elim
      | .cont, ⟨_, _, _, q⟩ => exact q.elim
/-- a def keeps the promise that its body tells -/
theorem fn_mkT {bf : Sf} (Fd : FunD K x qual params body scope dvs kws f fd) (S : FnScope N ps scope) (hnc : ∀ y ∈ scope.names, y.2 ≠ .cell) (hps : 1 ≤ ps.length)
    (hb : ∀ (cdv : Value) (A : Around) (outer : List Env) (s : Shared) (H : Hp) (E : XK), Room k (A.deeper (PyProof.Rows.envOfC qual scope s.heap.objs.size f cdv)) → A.guards = some [] → ∀ Φ : Fx, DSsT (cxOf (L2.CX P w) P w K mg base N qual scope f cdv A outer s H E) Φ (fun c d _ H' => E c d H') body bf) :
    FnG P w K mg base (k + 1) f fd ps (spF K mg ps.length (runF ps.length N.length bf)) := by
  refine fn_gT Fd S hnc hps (fun vs H Q E h => h.1) (fun cdv A outer s H vs Q E hr gu h => ?_)
  obtain ⟨hl, G, as, Aa, t, O, ao, hw⟩ := h
  have lN : ps.length ≤ N.length := by
    have := congrArg List.length S.pre
    rw [List.length_take] at this
    omega
  have la : as.length = ps.length := by rw [O.len, List.length_map, hl]
  refine ⟨_, hb cdv A outer s H E hr gu ⟨H, G, Aa, t⟩, G, Aa, as ++ List.replicate (N.length - ps.length) .un, ?_, ?_⟩
  · have e1 : ∀ {i : Nat} {s : Sl}, (as ++ List.replicate (N.length - ps.length) Sl.un)[i]? = some s → as[i]? = some s ∨ s = .un := fun {i s} q => by
      by_cases hi : i < as.length
      · rw [List.getElem?_append_left hi] at q
        exact .inl q
      · rw [List.getElem?_append_right (by omega)] at q
        exact .inr (List.eq_of_mem_replicate (List.mem_of_getElem? q))
    refine ⟨O.gh, ?_, fun i s q => ?_, fun i j s t hij q1 q2 o1 o2 => ?_, O.f0, O.f1, O.f2⟩
    · rw [List.length_append, List.length_replicate, la]
      unfold L2.start
      rw [List.length_append, List.length_replicate, List.length_map, hl]
    · rcases e1 q with h1 | rfl
      · have hi : i < (vs.map some).length := by rw [← O.len]; exact (List.getElem?_eq_some_iff.mp h1).1
        unfold L2.start
        rw [List.getElem?_append_left hi]
        exact O.slots i s h1
      · trivial
    · have old : ∀ {i : Nat} {s : Sl}, (as ++ List.replicate (N.length - ps.length) Sl.un)[i]? = some s → s.owned = true → as[i]? = some s := fun {i s} q o => by
        rcases e1 q with h1 | rfl
        · exact h1
        · cases o
      exact O.sep i j s t hij (old q1 o1) (old q2 o2) o1 o2
  · have hw' : Wp K mg ⟨H, G, Aa, t⟩ (fun c d _ H' => E c d H') (vs.map some) (rv K ⟨H, G, Aa, t⟩) G (match bf (as ++ List.replicate (N.length - ps.length) .un) with
      | .ok (.rt s) e => endF as s e
      | .ok .nx e => endF as (.sh .none) e
      | .ex x e => match outs as e with
        | some r => .ex x r
        | none => .no
      | _ => .no) Q := hw
    cases q : bf (as ++ List.replicate (N.length - ps.length) .un) with
    | no =>
      simp only [q] at hw'
      exact hw'.elim
    | ex z e =>
      simp only [q] at hw'
      split at hw'
      · rename_i r hr
        exact fun c d σ' H' G' F' s' o p => hw' c d H' G' F' s' (O.outs o s' hr) p
      · exact hw'.elim
    | ok fl e =>
      simp only [q] at hw'
      have fin : ∀ {s : Sl}, Wp K mg ⟨H, G, Aa, t⟩ (fun c d _ H' => E c d H') (vs.map some) (rv K ⟨H, G, Aa, t⟩) G (endF as s e) Q → ∀ v σ' H' G' F', Same G G' → Ok K ⟨H, G, Aa, t⟩ H' G' F' σ' e → rv K ⟨H, G, Aa, t⟩ s v H' G' F' σ' e → Q v H' := fun {s} z v σ' H' G' F' s' o p => by
        unfold endF at z
        split at z
        · rename_i r hr
          exact z v H' G' F' s' (O.outs o s' hr) (rv_outs hr p)
        · exact z.elim
      cases fl with
      | nx => exact fun v σ' H' G' F' s' o => fin hw' .non σ' H' G' F' s' o .non
      | rt s => exact fun v σ' H' G' F' s' o p => fin hw' v σ' H' G' F' s' o p
      | bk => exact hw'.elim
      | ct => exact hw'.elim
end
end DL
set_option Elab.async false
set_option linter.all false
set_option maxRecDepth 100000
set_option maxHeartbeats 4000000
/-! DlZ: zip over any two of lists and tuples (one proof for the four cases, by the kind of each side). -/
namespace DL
open PySem PySem.Spec PyProof.Rows L2

/-- a side of a zip: a list, a tuple -/
inductive SK where
  | l
  | t
def SK.has : SK → Heap → Addr → Array Value → Prop
  | .l, h, a, xs => h.IsList a xs
  | .t, h, a, xs => h.IsTuple a xs
def SK.cur : SK → Heap → Addr → Addr → Nat → Prop
  | .l, h, it, a, i => h.IsListIter it a i
  | .t, h, it, a, i => h.IsTupleIter it a i
def SK.sq (k : SK) (K : PySem.W.Frag) (H : Hp) (a : Addr) (xs : List V) : Prop := match k with
  | .l => SqL K H a xs
  | .t => SqT K H a xs
def SK.new (k : SK) (a : Addr) : Obj := match k with
  | .l => { cls := .type "list_iterator", data := .fields #[.ref a, .int 0 0] }
  | .t => { cls := .type "tuple_iterator", data := .fields #[.ref a, .int 0 0] }
section
variable {h h' : Heap} {b a it : Addr} {xs : Array Value} {i : Nat}
theorem SK.has_ext (k : SK) (x : k.has h a xs) (e : Heap.ExtBut b h h') (n : a ≠ b) : k.has h' a xs := by
  cases k with
  | l => exact Heap.IsList.extBut x e n
  | t => exact Heap.IsTuple.extBut x e n
theorem SK.cur_ext (k : SK) (x : k.cur h it a i) (e : Heap.ExtBut b h h') (n : it ≠ b) : k.cur h' it a i := by
  cases k with
  | l => exact Heap.IsListIter.extBut x e n
  | t => exact Heap.IsTupleIter.extBut x e n
theorem SK.cur_at (k : SK) (x : k.cur h it a i) (f : ∀ o, h.get? it = some o → h'.get? it = some o) : k.cur h' it a i := by
  cases k with
  | l => exact Heap.IsListIter.at x f
  | t => exact Heap.IsTupleIter.at x f
theorem SK.cur_lt (k : SK) (x : k.cur h it a i) : it < h.objs.size := by
  cases k with
  | l =>
    obtain ⟨_, e, _⟩ := x
    exact Heap.lt_size e
  | t =>
    obtain ⟨_, e, _⟩ := x
    exact Heap.lt_size e
theorem SK.cur_obj (k : SK) (x : k.cur h it a i) : ∃ o, h.get? it = some o ∧ ∃ vs, o.data = .fields vs := by
  cases k with
  | l =>
    obtain ⟨o, e, _, d⟩ := x
    exact ⟨o, e, _, d⟩
  | t =>
    obtain ⟨o, e, _, d⟩ := x
    exact ⟨o, e, _, d⟩
theorem SK.has_lt (k : SK) (x : k.has h a xs) : a < h.objs.size := by
  cases k with
  | l =>
    obtain ⟨_, e, _⟩ := x
    exact Heap.lt_size e
  | t =>
    obtain ⟨_, e, _⟩ := x
    exact Heap.lt_size e
theorem SK.has_push (k : SK) (x : k.has h a xs) (o : Obj) : k.has (h.push o) a xs := by
  cases k with
  | l => exact Heap.IsList.push x _
  | t => exact Heap.IsTuple.push x _
theorem SK.cur_new (k : SK) (e : h.get? it = some (k.new a)) : k.cur h it a 0 := by
  cases k with
  | l => exact ⟨_, e, rfl, rfl⟩
  | t => exact ⟨_, e, rfl, rfl⟩
end
section
variable {prog : Program} {w : World} {A : Around} {E : Value → Shared → Prop} {s : Shared} {it a : Addr} {i : Nat} {xs : Array Value} {x : Value}
theorem SK.step (k : SK) {Q : Value → Shared → Prop} (c : k.cur s.heap it a i) (l : k.has s.heap a xs) (e : xs[i]? = some x) (hQ : ∀ h', k.cur h' it a (i + 1) → Heap.SameBut it s.heap h' → Q x { s with heap := h' }) :
    wpAny (model prog w) A (Builtin.SmallTypes.nextOf (.ref it)) Q E s := by
  cases k with
  | l => exact wpAny_nextOf_list_item c l e hQ
  | t => exact RZ.nextOf_tuple_item c l e hQ
theorem SK.stop (k : SK) {Q : Value → Shared → Prop} (hh : A.handled = none) (c : k.cur s.heap it a i) (l : k.has s.heap a xs) (e : xs[i]? = none)
    (hE : ∀ h' e, Heap.ExtBut it s.heap h' → (∃ o, h'.get? e = some o ∧ o.cls = .type "StopIteration") → E (.ref e) { s with heap := h' }) : wpAny (model prog w) A (Builtin.SmallTypes.nextOf (.ref it)) Q E s := by
  cases k with
  | l => exact wpAny_nextOf_list_end hh c l e hE
  | t => exact RZ.nextOf_tuple_end hh c l e hE
theorem SK.iter (k : SK) {Q : Value → Shared → Prop} (l : k.has s.heap a xs) (hQ : Q (.ref s.heap.objs.size) { s with heap := s.heap.push (k.new a) }) : wpAny (model prog w) A (pyIter (.ref a)) Q E s := by
  cases k with
  | l => exact wpAny_pyIter_list l hQ
  | t => exact wpAny_pyIter_tuple l hQ
end

/-- the state of a zip between two turns -/
structure ZSt (k1 k2 : SK) (h : Heap) (z TI TO i1 i2 l1 l2 : Addr) (n1 n2 : Nat) : Prop where
  z : IsZip h z TI TO .none
  ti : IsPair h TI (.ref i1) (.ref i2)
  c1 : k1.cur h i1 l1 n1
  c2 : k2.cur h i2 l2 n2
section
variable {prog : Program} {w : World} {A : Around} {E : Value → Shared → Prop} {s : Shared} {k1 k2 : SK} {z TI TO i1 i2 l1 l2 : Addr} {n1 n2 : Nat} {xs ys : Array Value} {x y a b : Value}
theorem zip_item (D : ZipApart z TI TO i1 i2 l1 l2) (S : ZSt k1 k2 s.heap z TI TO i1 i2 l1 l2 n1 n2) (hTO : IsPair s.heap TO a b) (hl1 : k1.has s.heap l1 xs) (hl2 : k2.has s.heap l2 ys) (hx : xs[n1]? = some x) (hy : ys[n2]? = some y) {Q : Value → Shared → Prop}
    (hQ : ∀ h', IsZip h' z TI TO (rawInt s.heap.objs.size) → IsPair h' TO x y → k1.cur h' i1 l1 (n1 + 1) → k2.cur h' i2 l2 (n2 + 1) → IsPair h' s.heap.objs.size x y → h'.objs.size = s.heap.objs.size + 1 →
      (∀ c o, c ≠ z → c ≠ TO → c ≠ i1 → c ≠ i2 → s.heap.get? c = some o → h'.get? c = some o) → Q (.ref s.heap.objs.size) { s with heap := h' }) :
    wpAny (model prog w) A (Builtin.«zip.__next__» ⟨[.ref z], []⟩) (fun fin s' => ∃ v, fin = .done (.ret v) ∧ Q v s') E s := by
  show wpAny _ _ (field (.ref z) 2 >>= _) _ _ _
  refine wpAny_bind (wpAny_field S.z rfl (x := .bool false) rfl ?_)
  show wpAny _ _ (field (.ref z) 3 >>= _) _ _ _
  refine wpAny_bind (wpAny_field S.z rfl (x := .ref TI) rfl (wpAny_bind (wpAny_seqItems S.ti rfl ?_)))
  show wpAny _ _ (Builtin.SmallTypes.ownedTupleIsFree (.ref z) >>= _) _ _ _
  refine wpAny_bind ?_
  unfold Builtin.SmallTypes.ownedTupleIsFree
  refine wpAny_bind (wpAny_field S.z rfl (x := .none) rfl (wpAny_pure ?_))
  simp only [if_true]
  refine wpAny_bind (wpAny_rule (wpAny_bind (wpAny_field S.z rfl (x := .ref TO) rfl (wpAny_bind (wpAny_setField_rec S.z (by simp) fun g1 zz1 e1 => ?_)))))
  replace zz1 : IsZip g1 z TI TO .ellipsis := zz1
  refine wpAny_bind ?_
  simp only [List.zipIdx_cons, List.zipIdx_nil, List.forIn_cons, List.forIn_nil]
  refine wpAny_bind (wpAny_bind (wpAny_onRaise ?_))
  show wpAny _ _ (Builtin.SmallTypes.nextOf (.ref i1) >>= _) _ _ _
  refine wpAny_bind (k1.step (k1.cur_ext S.c1 e1.extBut D.i1z) (k1.has_ext hl1 e1.extBut D.l1z) hx fun g2 c2 e2 => wpAny_pure ?_)
  have t2 : IsPair g2 TO a b := e2.extBut _ _ D.TOi1 (e1.extBut _ _ D.TOz hTO)
  refine wpAny_bind (wpAny_seqItems t2 rfl (wpAny_bind (wpAny_updateSeq_pair t2 fun g3 t3 e3 => wpAny_bind (wpAny_letGo (wpAny_pure ?_)))))
  replace t3 : IsPair g3 TO x b := t3
  refine wpAny_bind (wpAny_bind (wpAny_onRaise ?_))
  show wpAny _ _ (Builtin.SmallTypes.nextOf (.ref i2) >>= _) _ _ _
  have u2 := k2.cur_ext (k2.cur_ext (k2.cur_ext S.c2 e1.extBut D.i2z) e2.extBut D.i12.symm) e3.extBut D.TOi2.symm
  have v2 := k2.has_ext (k2.has_ext (k2.has_ext hl2 e1.extBut D.l2z) e2.extBut D.l2i1) e3.extBut D.l2TO
  refine wpAny_bind (k2.step u2 v2 hy fun g4 c4 e4 => wpAny_pure ?_)
  have t4 : IsPair g4 TO x b := e4.extBut _ _ D.TOi2 t3
  refine wpAny_bind (wpAny_seqItems t4 rfl (wpAny_bind (wpAny_updateSeq_pair t4 fun g5 t5 e5 => wpAny_bind (wpAny_letGo (wpAny_pure (wpAny_pure ?_))))))
  replace t5 : IsPair g5 TO x y := t5
  refine wpAny_bind (wpAny_seqItems t5 rfl (wpAny_bind (wpAny_newTuple ?_)))
  have size5 : g5.objs.size = s.heap.objs.size := e5.1.trans (e4.1.trans (e3.1.trans (e2.1.trans e1.1)))
  have zz5 : IsZip g5 z TI TO .ellipsis := e5.extBut _ _ D.TOz.symm (e4.extBut _ _ D.i2z.symm (e3.extBut _ _ D.TOz.symm (e2.extBut _ _ D.i1z.symm zz1)))
  have old5 : ∀ c o, c ≠ z → c ≠ TO → c ≠ i1 → c ≠ i2 → s.heap.get? c = some o → g5.get? c = some o := fun c o q1 q2 q3 q4 e => e5.extBut _ _ q2 (e4.extBut _ _ q4 (e3.extBut _ _ q2 (e2.extBut _ _ q3 (e1.extBut _ _ q1 e))))
  have c15 : k1.cur g5 i1 l1 (n1 + 1) := k1.cur_ext (k1.cur_ext (k1.cur_ext c2 e3.extBut D.TOi1.symm) e4.extBut D.i12) e5.extBut D.TOi1.symm
  have c25 : k2.cur g5 i2 l2 (n2 + 1) := k2.cur_ext c4 e5.extBut D.TOi2.symm
  have zl : z < g5.objs.size := Heap.lt_size zz5
  show wpAny _ _ (Builtin.SmallTypes.ownedTupleHandOut (.ref z) (.ref g5.objs.size) >>= _) _ _ _
  refine wpAny_bind ?_
  unfold Builtin.SmallTypes.ownedTupleHandOut
  have zz6 : IsZip (g5.push { cls := .type "tuple", data := .seq #[x, y] }) z TI TO .ellipsis := Heap.get?_push_of_some _ zz5
  refine wpAny_bind (wpAny_setField_rec zz6 (by simp) fun g7 zz7 e7 => ?_)
  replace zz7 : IsZip g7 z TI TO (rawInt g5.objs.size) := zz7
  refine wpAny_setField_rec zz7 (by simp) fun g8 zz8 e8 => ?_
  replace zz8 : IsZip g8 z TI TO (rawInt g5.objs.size) := zz8
  have up : ∀ c o, c ≠ z → g5.get? c = some o → g8.get? c = some o := fun c o q e => e8.extBut _ _ q (e7.extBut _ _ q (Heap.get?_push_of_some _ e))
  have t8 : IsPair g8 g5.objs.size x y := e8.extBut _ _ (Nat.ne_of_gt zl) (e7.extBut _ _ (Nat.ne_of_gt zl) (Heap.get?_push_size _ rfl))
  have size8 : g8.objs.size = g5.objs.size + 1 := by rw [e8.1, e7.1, Heap.size_push]
  rw [size5] at zz8 t8 size8
  refine wpAny_pure ⟨_, rfl, ?_⟩
  show Q (.ref g5.objs.size) _
  rw [size5]
  exact hQ g8 zz8 (up _ _ D.TOz t5) (k1.cur_at c15 fun o e => up _ o D.i1z e) (k2.cur_at c25 fun o e => up _ o D.i2z e) t8 size8 fun c o q1 q2 q3 q4 e => up c o q1 (old5 c o q1 q2 q3 q4 e)
theorem zip_end (hh : A.handled = none) (D : ZipApart z TI TO i1 i2 l1 l2) (S : ZSt k1 k2 s.heap z TI TO i1 i2 l1 l2 n1 n2) (hTO : IsPair s.heap TO a b) (hl1 : k1.has s.heap l1 xs) (hl2 : k2.has s.heap l2 ys) (hend : xs[n1]? = none ∨ ys[n2]? = none) {Q : Fin → Shared → Prop}
    (hE : ∀ h' e, (∀ c o, c ≠ z → c ≠ TO → c ≠ i1 → c ≠ i2 → s.heap.get? c = some o → h'.get? c = some o) → (∃ o, h'.get? e = some o ∧ o.cls = .type "StopIteration") → E (.ref e) { s with heap := h' }) :
    wpAny (model prog w) A (Builtin.«zip.__next__» ⟨[.ref z], []⟩) Q E s := by
  show wpAny _ _ (field (.ref z) 2 >>= _) _ _ _
  refine wpAny_bind (wpAny_field S.z rfl (x := .bool false) rfl ?_)
  show wpAny _ _ (field (.ref z) 3 >>= _) _ _ _
  refine wpAny_bind (wpAny_field S.z rfl (x := .ref TI) rfl (wpAny_bind (wpAny_seqItems S.ti rfl ?_)))
  show wpAny _ _ (Builtin.SmallTypes.ownedTupleIsFree (.ref z) >>= _) _ _ _
  refine wpAny_bind ?_
  unfold Builtin.SmallTypes.ownedTupleIsFree
  refine wpAny_bind (wpAny_field S.z rfl (x := .none) rfl (wpAny_pure ?_))
  simp only [if_true]
  refine wpAny_bind (wpAny_rule (wpAny_bind (wpAny_field S.z rfl (x := .ref TO) rfl (wpAny_bind (wpAny_setField_rec S.z (by simp) fun g1 zz1 e1 => ?_)))))
  replace zz1 : IsZip g1 z TI TO .ellipsis := zz1
  refine wpAny_bind ?_
  simp only [List.zipIdx_cons, List.zipIdx_nil, List.forIn_cons, List.forIn_nil]
  refine wpAny_bind (wpAny_bind (wpAny_onRaise ?_))
  show wpAny _ _ (Builtin.SmallTypes.nextOf (.ref i1) >>= _) _ _ _
  have u1 := k1.cur_ext S.c1 e1.extBut D.i1z
  have v1 := k1.has_ext hl1 e1.extBut D.l1z
  cases hx : xs[n1]? with
  | none =>
    refine wpAny_bind (k1.stop hh u1 v1 hx fun g2 e f2 ⟨oe, he, ce⟩ => ?_)
    have zz2 : IsZip g2 z TI TO .ellipsis := f2 _ _ D.i1z.symm zz1
    have ez : e ≠ z := fun q => by
      subst q
      rw [zz2] at he
      cases he
      simp at ce
    exact wpAny_setField_rec zz2 (by simp) fun g3 _ e3 => hE g3 e (fun c o q1 _ q3 _ k => e3.extBut _ _ q1 (f2 _ _ q3 (e1.extBut _ _ q1 k))) ⟨oe, e3.extBut _ _ ez he, ce⟩
  | some x =>
    have hy : ys[n2]? = none := hend.elim (fun q => by rw [hx] at q; cases q) id
    refine wpAny_bind (k1.step u1 v1 hx fun g2 c2 e2 => wpAny_pure ?_)
    have t2 : IsPair g2 TO a b := e2.extBut _ _ D.TOi1 (e1.extBut _ _ D.TOz hTO)
    refine wpAny_bind (wpAny_seqItems t2 rfl (wpAny_bind (wpAny_updateSeq_pair t2 fun g3 t3 e3 => wpAny_bind (wpAny_letGo (wpAny_pure ?_)))))
    refine wpAny_bind (wpAny_bind (wpAny_onRaise ?_))
    show wpAny _ _ (Builtin.SmallTypes.nextOf (.ref i2) >>= _) _ _ _
    have u2 := k2.cur_ext (k2.cur_ext (k2.cur_ext S.c2 e1.extBut D.i2z) e2.extBut D.i12.symm) e3.extBut D.TOi2.symm
    have v2 := k2.has_ext (k2.has_ext (k2.has_ext hl2 e1.extBut D.l2z) e2.extBut D.l2i1) e3.extBut D.l2TO
    refine wpAny_bind (k2.stop hh u2 v2 hy fun g4 e f4 ⟨oe, he, ce⟩ => ?_)
    have zz4 : IsZip g4 z TI TO .ellipsis := f4 _ _ D.i2z.symm (e3.extBut _ _ D.TOz.symm (e2.extBut _ _ D.i1z.symm zz1))
    have ez : e ≠ z := fun q => by
      subst q
      rw [zz4] at he
      cases he
      simp at ce
    exact wpAny_setField_rec zz4 (by simp) fun g5 _ e5 => hE g5 e (fun c o q1 q2 q3 q4 k => e5.extBut _ _ q1 (f4 _ _ q4 (e3.extBut _ _ q2 (e2.extBut _ _ q3 (e1.extBut _ _ q1 k))))) ⟨oe, e5.extBut _ _ ez he, ce⟩
end
end DL
set_option Elab.async false
set_option linter.all false
set_option maxRecDepth 100000
set_option maxHeartbeats 4000000
/-! DlY: zip over any two of lists and tuples, as an iteration. -/
namespace DL
open PySem PySem.Spec PyProof.Rows L2
section
variable {prog : Program} {w : World} {A : Around} {E : Value → Shared → Prop} {s : Shared} {k1 k2 : SK} {z TI TO i1 i2 l1 l2 : Addr} {n1 n2 : Nat} {xs ys : Array Value} {x y a b : Value}
theorem zip_next (D : ZipApart z TI TO i1 i2 l1 l2) (S : ZSt k1 k2 s.heap z TI TO i1 i2 l1 l2 n1 n2) (hTO : IsPair s.heap TO a b) (hl1 : k1.has s.heap l1 xs) (hl2 : k2.has s.heap l2 ys) (hx : xs[n1]? = some x) (hy : ys[n2]? = some y) {Q : Option Value → Shared → Prop}
    (hQ : ∀ h', IsZip h' z TI TO (rawInt s.heap.objs.size) → IsPair h' TO x y → k1.cur h' i1 l1 (n1 + 1) → k2.cur h' i2 l2 (n2 + 1) → IsPair h' s.heap.objs.size x y → h'.objs.size = s.heap.objs.size + 1 →
      (∀ c o, c ≠ z → c ≠ TO → c ≠ i1 → c ≠ i2 → s.heap.get? c = some o → h'.get? c = some o) → Q (some (.ref s.heap.objs.size)) { s with heap := h' }) :
    wpAny (model prog w) A (pyNext (.ref z)) Q E s := by
  have hT : s.TypeIs (.ref z) "zip" := ⟨_, S.z, rfl⟩
  unfold pyNext
  exact wpAny_bind (wpAny_attempt (wpAny_callSpecial?_slot (name := Str.ofString "__next__") hT F.slot_zip_next (wpAny_call_entry F.slot_zip_next hT F.entry_zip_next
    (zip_item D S hTO hl1 hl2 hx hy fun h' a1 a2 a3 a4 a5 a6 a7 => wpAny_pure (hQ h' a1 a2 a3 a4 a5 a6 a7)) (F.args_zip_next_1 _))))
theorem zip_done (hh : A.handled = none) (D : ZipApart z TI TO i1 i2 l1 l2) (S : ZSt k1 k2 s.heap z TI TO i1 i2 l1 l2 n1 n2) (hTO : IsPair s.heap TO a b) (hl1 : k1.has s.heap l1 xs) (hl2 : k2.has s.heap l2 ys) (hend : xs[n1]? = none ∨ ys[n2]? = none) {Q : Option Value → Shared → Prop}
    (hQ : ∀ h', (∀ c o, c ≠ z → c ≠ TO → c ≠ i1 → c ≠ i2 → s.heap.get? c = some o → h'.get? c = some o) → Q none { s with heap := h' }) : wpAny (model prog w) A (pyNext (.ref z)) Q E s := by
  have hT : s.TypeIs (.ref z) "zip" := ⟨_, S.z, rfl⟩
  unfold pyNext
  refine wpAny_bind (wpAny_attempt (wpAny_callSpecial?_slot (name := Str.ofString "__next__") hT F.slot_zip_next (wpAny_call_entry F.slot_zip_next hT F.entry_zip_next
    (zip_end (A := A.in1) hh D S hTO hl1 hl2 hend fun h' e hk he => ?_) (F.args_zip_next_1 _))))
  obtain ⟨o, ho, hc⟩ := he
  exact wpAny_bind (wpAny_isInstance (T := "StopIteration") (b := true) ⟨o, ho, hc⟩ isSubtype_stop (wpAny_pure (hQ _ hk)))
end
abbrev zh1 (k1 : SK) (h : Heap) (l1 : Addr) : Heap := h.push (k1.new l1)
abbrev zh2 (k1 k2 : SK) (h : Heap) (l1 l2 : Addr) : Heap := (zh1 k1 h l1).push (k2.new l2)
abbrev zh3 (k1 k2 : SK) (h : Heap) (l1 l2 : Addr) : Heap := (zh2 k1 k2 h l1 l2).push { cls := .type "tuple", data := .seq #[.ref h.objs.size, .ref (zh1 k1 h l1).objs.size] }
abbrev zh4 (k1 k2 : SK) (h : Heap) (l1 l2 : Addr) : Heap := (zh3 k1 k2 h l1 l2).push { cls := .type "tuple", data := .seq #[.none, .none] }
abbrev zh5 (k1 k2 : SK) (h : Heap) (l1 l2 : Addr) : Heap := (zh4 k1 k2 h l1 l2).push { cls := .type "zip", data := .fields #[.none, .bool false, .bool false, .ref (zh2 k1 k2 h l1 l2).objs.size, .ref (zh3 k1 k2 h l1 l2).objs.size] }
theorem meets_zip (k1 k2 : SK) (l1 l2 : Addr) (xs ys : Array Value) :
    Meets (Builtin.«zip.__new__» ⟨[.type "zip", .ref l1, .ref l2], []⟩) (fun _ R s => k1.has s.heap l1 xs ∧ k2.has s.heap l2 ys ∧ R (.ok (.ret (.ref (zh4 k1 k2 s.heap l1 l2).objs.size))) { s with heap := zh5 k1 k2 s.heap l1 l2 }) :=
  .of_wp fun prog w A R s h => by
    obtain ⟨hp, g, d, tk, os⟩ := s
    obtain ⟨hl1, hl2, h⟩ := h
    have hsub := sub_zip
    have h1 : k1.has (Shared.heap ⟨hp, g, d, tk, os⟩) l1 xs := hl1
    have h2 : k2.has (Shared.heap ⟨hp.push (k1.new l1), g, d, tk, os⟩) l2 ys := k2.has_push hl2 _
    wp_walk using k1.iter h1, k2.iter h2
    exact ⟨_, rfl, h⟩
section
variable {prog : Program} {w : World} {A : Around} {E : Value → Shared → Prop} {s : Shared} {k1 k2 : SK}
theorem call_zipK {l1 l2 : Addr} {xs ys : Array Value} {Q : Value → Shared → Prop} (hl1 : k1.has s.heap l1 xs) (hl2 : k2.has s.heap l2 ys)
    (h : ∀ h', ZSt k1 k2 h' (s.heap.objs.size + 4) (s.heap.objs.size + 2) (s.heap.objs.size + 3) s.heap.objs.size (s.heap.objs.size + 1) l1 l2 0 0 → IsPair h' (s.heap.objs.size + 3) .none .none → h'.objs.size = s.heap.objs.size + 5 →
      (∀ c o, s.heap.get? c = some o → h'.get? c = some o) → Q (.ref (s.heap.objs.size + 4)) { s with heap := h' }) :
    wpAny (model prog w) A (call (.type "zip") [.ref l1, .ref l2]) Q E s := by
  refine callType_new F.called_zip (by decide) (F.typeCall_zip_2 _ _) (F.newCall_zip_2 _ _) (fun obj => F.args_object_init_3 obj _ _) F.entry_zip_new (meets_zip k1 k2 l1 l2 xs ys) ⟨hl1, hl2, ?_⟩
  have s1 : (zh1 k1 s.heap l1).objs.size = s.heap.objs.size + 1 := Heap.size_push ..
  have s2 : (zh2 k1 k2 s.heap l1 l2).objs.size = s.heap.objs.size + 2 := by rw [Heap.size_push, s1]
  have s3 : (zh3 k1 k2 s.heap l1 l2).objs.size = s.heap.objs.size + 3 := by rw [Heap.size_push, s2]
  have s4 : (zh4 k1 k2 s.heap l1 l2).objs.size = s.heap.objs.size + 4 := by rw [Heap.size_push, s3]
  have s5 : (zh5 k1 k2 s.heap l1 l2).objs.size = s.heap.objs.size + 5 := by rw [Heap.size_push, s4]
  have free : ∀ (k : SK) (a : Addr), (k.new a).isFreed = false := fun k a => by cases k <;> rfl
  have g5 : (zh5 k1 k2 s.heap l1 l2).get? (zh4 k1 k2 s.heap l1 l2).objs.size = some _ := Heap.get?_push_size _ rfl
  have g4 : (zh5 k1 k2 s.heap l1 l2).get? (zh3 k1 k2 s.heap l1 l2).objs.size = some _ := Heap.get?_push_of_some _ (Heap.get?_push_size _ rfl)
  have g3 : (zh5 k1 k2 s.heap l1 l2).get? (zh2 k1 k2 s.heap l1 l2).objs.size = some _ := Heap.get?_push_of_some _ (Heap.get?_push_of_some _ (Heap.get?_push_size _ rfl))
  have g2 : (zh5 k1 k2 s.heap l1 l2).get? (zh1 k1 s.heap l1).objs.size = some _ := Heap.get?_push_of_some _ (Heap.get?_push_of_some _ (Heap.get?_push_of_some _ (Heap.get?_push_size _ (free k2 l2))))
  have g1 : (zh5 k1 k2 s.heap l1 l2).get? s.heap.objs.size = some _ := Heap.get?_push_of_some _ (Heap.get?_push_of_some _ (Heap.get?_push_of_some _ (Heap.get?_push_of_some _ (Heap.get?_push_size _ (free k1 l1)))))
  show _ ∧ _
  rw [s2, s3, s4] at g5
  rw [s1, s2] at g3
  rw [s3] at g4
  rw [s1] at g2
  rw [s4]
  exact ⟨⟨_, g5, rfl⟩, h _ ⟨g5, g3, k1.cur_new g1, k2.cur_new g2⟩ g4 s5 fun c o x => Heap.get?_push_of_some _ (Heap.get?_push_of_some _ (Heap.get?_push_of_some _ (Heap.get?_push_of_some _ (Heap.get?_push_of_some _ x))))⟩
end
/-- the sides at a and b as they stand at each turn, the items in new pairs -/
def ItK (k1 k2 : SK) (K : PySem.W.Frag) (a b : Addr) : It :=
  ⟨fun i H => ∃ (xs ys : List V) (x y : V), k1.sq K H a xs ∧ k2.sq K H b ys ∧ xs[i]? = some x ∧ ys[i]? = some y,
    fun i H v H' => ∃ T x y, v = .ref T ∧ H T = none ∧ H' = upd H T (.tup [x, y]) ∧ (∀ xs, k1.sq K H a xs → xs[i]? = some x) ∧ ∀ ys, k2.sq K H b ys → ys[i]? = some y,
    fun i H => ∃ xs ys : List V, k1.sq K H a xs ∧ k2.sq K H b ys ∧ (xs.length ≤ i ∨ ys.length ≤ i)⟩
theorem sq_held {X : Cx} {pins : List (Addr × Obj)} {σ : L2.St} {H : Hp} {s : Shared} {a : Addr} {xs : List V} (k : SK) (I : Inv X pins σ H s) (h : k.sq X.K H a xs) : ∃ its : List Value, Vals xs its ∧ k.has s.heap a its.toArray := by
  cases k with
  | l =>
    obtain ⟨its, r, p, _⟩ := I.list h
    exact ⟨its, r, p.isList⟩
  | t =>
    obtain ⟨its, r, p, _⟩ := I.tuple h
    exact ⟨its, r, p⟩
theorem sq_inj {X : Cx} {pins : List (Addr × Obj)} {σ : L2.St} {H : Hp} {s : Shared} {a : Addr} {xs ys : List V} (k : SK) (I : Inv X pins σ H s) (h : k.sq X.K H a xs) (h' : k.sq X.K H a ys) : xs = ys := by
  cases k with
  | l => exact I.list_inj h h'
  | t => exact I.tuple_inj h h'
theorem turn_zipK {P : Program} {w : World} {K : PySem.W.Frag} {elts : List Expr} {kk : Nat} {tpos : Pos} {k1 k2 : SK} {a b z TI TO i1 i2 : Addr} (D : ZipApart z TI TO i1 i2 a b) :
    Turn P w K (.Tuple elts kk tpos) (ItK k1 k2 K a b) [z, TI, TO, i1, i2] z (fun i h => ZSt k1 k2 h z TI TO i1 i2 a b i i ∧ ∃ x y, IsPair h TO x y) where
  mem := by simp
  obj := fun i h ⟨S, x, y, hTO⟩ c hc => by
    have e' : c = z ∨ c = TI ∨ c = TO ∨ c = i1 ∨ c = i2 := by simpa using hc
    rcases e' with q | q | q | q | q
    · rw [q]; exact ⟨_, S.z, fun v q => nomatch q⟩
    · rw [q]; exact ⟨_, S.ti, fun v q => nomatch q⟩
    · rw [q]; exact ⟨_, hTO, fun v q => nomatch q⟩
    · rw [q]
      obtain ⟨o, e, vs, d⟩ := k1.cur_obj S.c1
      exact ⟨o, e, fun v q => by rw [d] at q; cases q⟩
    · rw [q]
      obtain ⟨o, e, vs, d⟩ := k2.cur_obj S.c2
      exact ⟨o, e, fun v q => by rw [d] at q; cases q⟩
  keep := fun i h h' ⟨S, x, y, hTO⟩ k =>
    ⟨⟨k z (by simp) _ S.z, k TI (by simp) _ S.ti, k1.cur_at S.c1 fun o q => k i1 (by simp) o q, k2.cur_at S.c2 fun o q => k i2 (by simp) o q⟩, x, y, k TO (by simp) _ hTO⟩
  item := by
    intro X hP hw hK hc i pins s σ H E I hf ⟨S, x0, y0, hTO⟩ ⟨xs, ys, x, y, qx, qy, hx, hy⟩
    subst hP hw hK
    obtain ⟨its, rv, p⟩ := sq_held k1 I qx
    obtain ⟨its2, rv2, p2⟩ := sq_held k2 I qy
    obtain ⟨u, hu, ru⟩ := rv.get hx
    obtain ⟨u2, hu2, ru2⟩ := rv2.get hy
    have zl : z < s.heap.objs.size := Heap.lt_size S.z
    refine zip_next D S hTO p p2 (x := u) (y := u2) (by simpa using hu) (by simpa using hu2) fun h' z' TO' c1' c2' hT hsz hk => ?_
    refine ⟨_, rfl, wpAny_letOwnedTupleGo_zip (s := { s with heap := h' }) z' fun h'' z'' sb => ?_⟩
    have hT2 : h''.get? s.heap.objs.size = some { cls := .type "tuple", data := .seq #[u, u2] } := (sb.2 _ (Nat.ne_of_gt zl)).trans hT
    have new : ObjOk X.prog X.w (upd H s.heap.objs.size (.tup [x, y])) h'' s.heap.objs.size (.tup [x, y]) := ⟨by show 2 ≤ sizeLine; decide, [u, u2], .cons ru (.cons ru2 .nil), ⟨_, hT2, rfl, _, rfl⟩⟩
    have I1 : Inv X pins σ (upd H s.heap.objs.size (.tup [x, y])) { s with heap := h'' } :=
      I.turnedNew (t' := s.toks) (ch := [z, TI, TO, i1, i2]) (fun c o hb q => (sb.2 c (fun q' => hb (by simp [q']))).trans (hk c o (fun q' => hb (by simp [q'])) (fun q' => hb (by simp [q'])) (fun q' => hb (by simp [q'])) (fun q' => hb (by simp [q'])) q)) hf (Nat.le_refl _) new
    refine ⟨.ref s.heap.objs.size, _, I1, rfl, ⟨_, x, y, rfl, I.hok.fresh (Nat.le_refl _), rfl, fun l hl => by rw [sq_inj k1 I hl qx]; exact hx, fun l hl => by rw [sq_inj k2 I hl qy]; exact hy⟩, ⟨⟨z'', ?_, ?_, ?_⟩, u, u2, ?_⟩, fun c hcm => ?_⟩
    · exact (sb.2 _ D.TIz).trans (hk _ _ D.TIz D.TITO D.TIi1 D.TIi2 S.ti)
    · exact k1.cur_at c1' fun o q => (sb.2 _ D.i1z).trans q
    · exact k2.cur_at c2' fun o q => (sb.2 _ D.i2z).trans q
    · exact (sb.2 _ D.TOz).trans TO'
    · have hlt : c < s.heap.objs.size := by
        have e' : c = z ∨ c = TI ∨ c = TO ∨ c = i1 ∨ c = i2 := by simpa using hcm
        rcases e' with q | q | q | q | q
        · rw [q]; exact zl
        · rw [q]; exact Heap.lt_size S.ti
        · rw [q]; exact Heap.lt_size hTO
        · rw [q]; exact k1.cur_lt S.c1
        · rw [q]; exact k2.cur_lt S.c2
      rw [upd_ne (Nat.ne_of_lt hlt)]
      exact (hf c hcm).1
  done := by
    intro X hP hw hK hc i pins s σ H E I hf ⟨S, x0, y0, hTO⟩ ⟨xs, ys, qx, qy, hend⟩
    subst hP hw hK
    obtain ⟨its, rv, p⟩ := sq_held k1 I qx
    obtain ⟨its2, rv2, p2⟩ := sq_held k2 I qy
    have l1 := rv.length
    have l2 := rv2.length
    have he : its.toArray[i]? = none ∨ its2.toArray[i]? = none := by
      rcases hend with q | q
      · exact .inl (by simp; omega)
      · exact .inr (by simp; omega)
    exact zip_done (I.ok.hd hc) D S hTO p p2 he fun h' hk => ⟨rfl, I.turnedL (t' := s.toks) (ch := [z, TI, TO, i1, i2]) (fun c o hb q =>
      hk c o (fun q' => hb (by simp [q'])) (fun q' => hb (by simp [q'])) (fun q' => hb (by simp [q'])) (fun q' => hb (by simp [q'])) q) hf⟩
  self := fun A i s Q E ⟨S, _⟩ h => wpAny_pyIter_zip S.z h

def iZipK (K : PySem.W.Frag) (ta : TA) : TI := fun σ H R => ta σ H fun vs H1 => ∃ k1 k2 a b xs ys, vs = [.ref a, .ref b] ∧ SK.sq k1 K H1 a xs ∧ SK.sq k2 K H1 b ys ∧ R (ItK k1 k2 K a b) H1
theorem pi_zipK {X : Cx} {e e2 : Expr} {ta : TA} {p pos tpos : Pos} {elts : List Expr} {kk : Nat} (hg : Gl X "zip") (hm : X.mg "zip" = none) (ha : PA X [e, e2] ta)
    (hs : starEach [e, e2] X.env = (false, eval e X.env) :: starEach [e2] X.env := by rfl) (hpl : (backTo pos (starEach [e2] X.env)).any (·.1) = false := by rfl) :
    PI X (.Tuple elts kk tpos) (.Call (.Name "zip" p) [e, e2] [] pos) (iZipK X.K ta) := by
  refine ⟨fun pins s σ H R I h => ?_⟩
  refine Call_ (ld_blt I hg hm PyProof.Rows.boot_zip (PyProof.Rows.callWith_type1 (thn (ha.run pos pins s σ H _ I h) fun us s1 ⟨vs, H1, I1, r1, k1, k2, a, b, xs, ys, ex, qx, qy, q⟩ => ?_) hs hpl))
  subst ex
  cases r1 with
  | cons r rr =>
    cases rr with
    | cons r' rr =>
      cases rr
      cases r
      cases r'
      have fresh : ∀ c, c ∈ [s1.heap.objs.size + 4, s1.heap.objs.size + 2, s1.heap.objs.size + 3, s1.heap.objs.size, s1.heap.objs.size + 1] → FpOk X pins H1 c := fun c hcm => by
        have e' : c = s1.heap.objs.size + 4 ∨ c = s1.heap.objs.size + 2 ∨ c = s1.heap.objs.size + 3 ∨ c = s1.heap.objs.size ∨ c = s1.heap.objs.size + 1 := by simpa using hcm
        have le : s1.heap.objs.size ≤ c := by
          rcases e' with z | z | z | z | z <;> rw [z] <;> omega
        exact I1.fpOk le (I1.hok.fresh le)
      obtain ⟨its, rv, p1⟩ := sq_held k1 I1 qx
      obtain ⟨its2, rv2, p2⟩ := sq_held k2 I1 qy
      refine call_zipK p1 p2 fun h' S hTO hsz hk => wpAny_pyIter_zip S.z ?_
      have I2 : Inv X pins σ H1 { s1 with heap := h' } := I1.kept (t' := s1.toks) hk
      exact ⟨s1.heap.objs.size + 4, [s1.heap.objs.size + 4, s1.heap.objs.size + 2, s1.heap.objs.size + 3, s1.heap.objs.size, s1.heap.objs.size + 1], _, _, H1, rfl, I2, turn_zipK (PySem.W.ktu_apart s1.heap.objs.size a b (k1.has_lt p1) (k2.has_lt p2)), ⟨S, _, _, hTO⟩, fresh, q⟩
section
variable {K : PySem.W.Frag} {G : Hp} {a b : Addr} {xs ys : List V} {ds es : List D} {k1 k2 : SK}
theorem sq_same {H H' : Hp} (k : SK) (s : Same H H') (h : k.sq K H a xs) : k.sq K H' a xs := by
  cases k with
  | l => exact same_l s h
  | t => exact same_t s h
theorem walk_zk (h : k1.sq K G a xs) (h' : k2.sq K G b ys) (p : DpAll K G xs ds) (q : DpAll K G ys es) : Walk (ItK k1 k2 K a b) (zipD ds es).length (Same G) (YD K G (zipD ds es)) := by
  have ln : (zipD ds es).length = min xs.length ys.length := by rw [zipD_len, DpAll.len p, DpAll.len q]
  refine ⟨fun i H hi s => ?_, fun H s => ⟨xs, ys, sq_same k1 s h, sq_same k2 s h', by omega⟩, fun i H v H' hi s y => ?_⟩
  · have h1 : i < xs.length := by omega
    have h2 : i < ys.length := by omega
    exact ⟨xs, ys, xs[i], ys[i], sq_same k1 s h, sq_same k2 s h', by simp [h1], by simp [h2]⟩
  · obtain ⟨T, x, z, e1, e2, e3, e4, e5⟩ := y
    exact yd_pair p q ⟨T, x, z, e1, e2, e3, e4 xs (sq_same k1 s h), e5 ys (sq_same k2 s h')⟩
end
def seqD : D → Option (SK × List D)
  | .list ds => some (.l, ds)
  | .tuple ds => some (.t, ds)
  | _ => none
def iZip2F (fs : Af) : Lf := fun e => (fs e).bind fun as e1 => (fzA as e1).bind fun ds e2 => match ds with
  | [x, y] => match seqD x with
    | some (_, xs) => match seqD y with
      | some (_, ys) => .ok (zipD xs ys) e2
      | none => .no
    | none => .no
  | _ => .no
theorem seqD_at {K : PySem.W.Frag} {G : Hp} {v : V} {d : D} {k : SK} {ds : List D} (h : Dp K G v d) (q : seqD d = some (k, ds)) : ∃ a xs, v = .ref a ∧ k.sq K G a xs ∧ DpAll K G xs ds := by
  cases h with
  | lst h1 h2 =>
    cases q
    exact ⟨_, _, rfl, h1, h2⟩
  | tup h1 h2 =>
    cases q
    exact ⟨_, _, rfl, h1, h2⟩
  | _ => cases q
section
variable {X : Cx} {Φ : Fx} {W : WX} {x y : Expr} {fs : Af} {pos p : Pos}
theorem i_zip2 {elts : List Expr} {kk : Nat} {tpos : Pos} (hm : X.mg "zip" = none) (ha : DA X Φ W [x, y] fs) (hg : Gl X "zip" := by rfl) (hs : starEach [x, y] X.env = (false, eval x X.env) :: starEach [y] X.env := by rfl) (hpl : (backTo pos (starEach [y] X.env)).any (·.1) = false := by rfl) :
    DI X Φ W (.Tuple elts kk tpos) (.Call (.Name "zip" p) [x, y] [] pos) (iZip2F fs) :=
  pi_weak (pi_zipK hg hm ha hs hpl) fun σ H R ⟨G, F, e, O, h⟩ => ⟨G, F, e, O, Wp.imp (Wp.seq h) fun vs H1 ⟨G1, F1, e1, as, g1, O1, r1, h1⟩ => by
    obtain ⟨G2, e2, ds, g2, O2, d2, h2⟩ := Wp.fzA O1 r1 h1
    split at h2
    · rename_i dx dy
      split at h2
      · rename_i k1 xs q1
        split at h2
        · rename_i k2 ys q2
          cases d2 with
          | cons a t =>
            cases t with
            | cons b t =>
              cases t
              obtain ⟨l1, vs1, rfl, s1, p1⟩ := seqD_at a q1
              obtain ⟨l2, vs2, rfl, s2, p2⟩ := seqD_at b q2
              exact ⟨k1, k2, l1, l2, vs1, vs2, rfl, sq_same k1 O2.gh s1, sq_same k2 O2.gh s2, h2 _ H1 G2 F1 (Same.refl _) O2 (walk_zk s1 s2 p1 p2)⟩
        · exact h2.elim
      · exact h2.elim
    · exact h2.elim⟩
end
end DL
set_option Elab.async false
set_option linter.all false
set_option maxRecDepth 100000
set_option maxHeartbeats 4000000
/-! DlS: the frame functions' terms, opened by simp. -/
namespace DL
open PySem L2
section
variable (i j k : Nat) (e : Fr) (f g h : Sf) (a b c : Ef) (r s t : Rf) (as : Af) (ts us : Tf) (d : D)
@[simp] theorem z_eVar : eVar i e = (match e[i]? with
  | none => .no
  | some .un => .no
  | some _ => .ok (.slot i) e) := rfl
@[simp] theorem z_eC : eC d e = .ok (.val d) e := rfl
@[simp] theorem z_eFz : eFz r e = (r e).bind fun r e1 => match r with
  | .arg a => .ok a e1
  | .new w => .ok (.val w.toD) e1 := rfl
@[simp] theorem z_eR : eR a e = (a e).bind fun a e1 => .ok (.arg a) e1 := rfl
@[simp] theorem z_aNil : aNil e = .ok [] e := rfl
@[simp] theorem z_aCons : aCons a as e = (a e).bind fun a e1 => (as e1).bind fun as e2 => .ok (a :: as) e2 := rfl
@[simp] theorem z_eTup : eTup as e = (as e).bind fun as e1 => (fzA as e1).bind fun ds e2 => if ds.length ≤ 1000 then .ok (.val (.tuple ds)) e2 else .no := rfl
@[simp] theorem z_eLst : eLst as e = (as e).bind fun as e1 => (fzA as e1).bind fun ds e2 => if ds.length ≤ 1000 then .ok (.new (.ls ds)) e2 else .no := rfl
@[simp] theorem z_fz1 : fz (.val d) e = .ok d e := rfl
@[simp] theorem z_fz2 : fz (.slot i) e = (match e[i]? with
  | some (.sh d) => .ok d e
  | some (.own w) => .ok w.toD (e.set i (.sh w.toD))
  | _ => .no) := rfl
@[simp] theorem z_fzA1 : fzA [] e = .ok [] e := rfl
@[simp] theorem z_fzA2 (x : Arg) (xs : List Arg) : fzA (x :: xs) e = (fz x e).bind fun d e1 => (fzA xs e1).bind fun ds e2 => .ok (d :: ds) e2 := rfl
@[simp] theorem z_eOp1 (op : D → Option D) : eOp1 op a e = (a e).bind (use1 op) := rfl
@[simp] theorem z_eOp2 (op : D → D → Option D) : eOp2 op a b e = (a e).bind fun a e1 => (b e1).bind fun b e2 => use2 op a b e2 := rfl
@[simp] theorem z_eCall (op : List D → Option D) : eCall op as e = (as e).bind (useN op) := rfl
@[simp] theorem z_eCallN (op : List D → Option (List D)) : eCallN op as e = (as e).bind (useL op) := rfl
@[simp] theorem z_use1 (op : D → Option D) (x : Arg) : use1 op x e = (match rd1 e x with
  | some x => match op x with
    | some d => .ok (.val d) e
    | none => .no
  | none => .no) := rfl
@[simp] theorem z_use2 (op : D → D → Option D) (x y : Arg) : use2 op x y e = (match rd1 e x with
  | some x => match rd1 e y with
    | some y => match op x y with
      | some d => .ok (.val d) e
      | none => .no
    | none => .no
  | none => .no) := rfl
@[simp] theorem z_useN (op : List D → Option D) (x : List Arg) : useN op x e = (match rdA e x with
  | some ds => match op ds with
    | some d => .ok (.val d) e
    | none => .no
  | none => .no) := rfl
@[simp] theorem z_useL (op : List D → Option (List D)) (x : List Arg) : useL op x e = (match rdA e x with
  | some ds => match op ds with
    | some es => .ok (.new (.ls es)) e
    | none => .no
  | none => .no) := rfl
@[simp] theorem z_rd1a : rd1 e (.val d) = some d := rfl
@[simp] theorem z_rd1b : rd1 e (.slot i) = (match e[i]? with
    | some (.sh d) => some d
    | some (.own (.ls ds)) => some (.list ds)
    | some (.io (.ls ds)) => some (.list ds)
    | _ => none) := rfl
@[simp] theorem z_rdA1 : rdA e [] = some [] := rfl
@[simp] theorem z_rdA2 (x : Arg) (xs : List Arg) : rdA e (x :: xs) = (match rd1 e x with
    | some d => match rdA e xs with
      | some ds => some (d :: ds)
      | none => none
    | none => none) := rfl
@[simp] theorem z_tOf : tOf a e = (a e).bind fun a e1 => match rd1 e1 a with
  | some (.bool b) => .ok b e1
  | _ => .no := rfl
@[simp] theorem z_useT (x : Arg) : useT x e = (match rd1 e x with
  | some d => match truth d with
    | some b => .ok b e
    | none => .no
  | none => .no) := rfl
@[simp] theorem z_tTr : tTr a e = (a e).bind useT := rfl
@[simp] theorem z_tAndF : tAndF ts us e = (ts e).bind fun b e1 => match b with
  | true => us e1
  | false => .ok false e1 := rfl
@[simp] theorem z_tOrF : tOrF ts us e = (ts e).bind fun b e1 => match b with
  | true => .ok true e1
  | false => us e1 := rfl
@[simp] theorem z_tNotF : tNotF ts e = (ts e).bind fun b e1 => .ok (!b) e1 := rfl
@[simp] theorem z_eIf : eIf ts a b e = (ts e).bind fun b' e1 => match b' with
  | true => a e1
  | false => b e1 := rfl
@[simp] theorem z_eIfR : eIfR ts r s e = (ts e).bind fun b' e1 => match b' with
  | true => r e1
  | false => s e1 := rfl
@[simp] theorem z_eAnd : eAnd a b e = (a e).bind fun a e1 => (useT a e1).bind fun b' e2 => match b' with
  | true => b e2
  | false => .ok a e2 := rfl
@[simp] theorem z_eOr : eOr a b e = (a e).bind fun a e1 => (useT a e1).bind fun b' e2 => match b' with
  | true => .ok a e2
  | false => b e2 := rfl
@[simp] theorem z_eNot : eNot a e = (a e).bind fun a e1 => (useT a e1).bind fun b e2 => .ok (.val (.bool (!b))) e2 := rfl
@[simp] theorem z_sNil : sNil e = .ok .nx e := rfl
@[simp] theorem z_sSeq : sSeq f g e = (f e).bind fun fl e1 => match fl with
  | .nx => g e1
  | fl => .ok fl e1 := rfl
@[simp] theorem z_sDrop : sDrop a e = (a e).bind fun _ e1 => .ok .nx e1 := rfl
@[simp] theorem z_sIf : sIf ts f g e = (ts e).bind fun b e1 => match b with
  | true => f e1
  | false => g e1 := rfl
@[simp] theorem z_retR1 : retR (.arg (.val d)) e = .ok (.rt (.sh d)) e := rfl
@[simp] theorem z_retR2 : retR (.arg (.slot i)) e = (match e[i]? with
    | some (.sh d) => .ok (.rt (.sh d)) e
    | some (.own w) => .ok (.rt (.own w)) (e.set i .un)
    | _ => .no) := rfl
@[simp] theorem z_retR3 (w : Ow) : retR (.new w) e = .ok (.rt (.own w)) e := rfl
@[simp] theorem z_sRet : sRet r e = (r e).bind retR := rfl
@[simp] theorem z_setR1 (x : Arg) : setR i (.arg x) e = (match e[i]? with
  | some (.io _) => .no
  | none => .no
  | _ => (fz x e).bind fun d e2 => .ok .nx (e2.set i (.sh d))) := rfl
@[simp] theorem z_setR2 (w : Ow) : setR i (.new w) e = (match e[i]? with
  | some (.io _) => .no
  | none => .no
  | _ => .ok .nx (e.set i (.own w))) := rfl
@[simp] theorem z_sSet : sSet i r e = (r e).bind (setR i) := rfl
@[simp] theorem z_sAsg (g' : Gf) : sAsg a g' e = (a e).bind fun a e1 => (fz a e1).bind fun d e2 => match g' d e2 with
  | .ok _ e3 => .ok .nx e3
  | _ => .no := rfl
@[simp] theorem z_fzR1 (x : Arg) : fzR (.arg x) e = (fz x e).bind fun d e1 => .ok (.arg (.val d)) e1 := rfl
@[simp] theorem z_fzR2 (w : Ow) : fzR (.new w) e = .ok (.new w) e := rfl
@[simp] theorem z_putR1 : putR i (.arg (.val d)) e = (match e[i]? with
  | some (.io _) => .no
  | none => .no
  | _ => .ok () (e.set i (.sh d))) := rfl
@[simp] theorem z_putR2 (w : Ow) : putR i (.new w) e = (match e[i]? with
  | some (.io _) => .no
  | none => .no
  | _ => .ok () (e.set i (.own w))) := rfl
@[simp] theorem z_sPar : sPar i j r s e = (r e).bind fun r1 e1 => (s e1).bind fun r2 e2 => (fzR r1 e2).bind fun r3 e3 => (fzR r2 e3).bind fun r4 e4 => (putR i r3 e4).bind fun _ e5 => (putR j r4 e5).bind fun _ e6 => .ok .nx e6 := rfl
@[simp] theorem z_sPar3 : sPar3 i j k r s t e = (r e).bind fun r1 e1 => (s e1).bind fun r2 e2 => (t e2).bind fun r5 e7 => (fzR r1 e7).bind fun r3 e3 => (fzR r2 e3).bind fun r4 e4 => (fzR r5 e4).bind fun r6 e8 =>
  (putR i r3 e8).bind fun _ e5 => (putR j r4 e5).bind fun _ e6 => (putR k r6 e6).bind fun _ e9 => .ok .nx e9 := rfl
@[simp] theorem z_gSet : gSet i d e = (match e[i]? with
  | some (.io _) => .no
  | none => .no
  | _ => .ok () (e.set i (.sh d))) := rfl
@[simp] theorem z_gsNil (ds : List D) : gsNil ds e = (match ds with
  | [] => .ok () e
  | _ => .no) := rfl
@[simp] theorem z_gsCons (g' : Gf) (r' : Gfs) (ds : List D) : gsCons g' r' ds e = (match ds with
  | d :: ds => (g' d e).bind fun _ e1 => r' ds e1
  | [] => .no) := rfl
@[simp] theorem z_gTupF (r' : Gfs) : gTupF r' d e = (match d with
  | .tuple ds => r' ds e
  | _ => .no) := rfl
@[simp] theorem z_gSubF : gSubF a b d e = (a e).bind fun a e1 => (b e1).bind fun b e2 => match rd1 e2 b with
  | some (.int k) => wrL a (fun ds => (ixN ds.length k).map fun n => ds.set n d) e2
  | _ => .no := rfl
@[simp] theorem z_iSeq : iSeq a e = (a e).bind fun a e1 => (fz a e1).bind fun d e2 => R.of (seqOf d) e2 := rfl
@[simp] theorem z_iRng1F : iRng1F as e = (as e).bind fun as e1 => match rdA e1 as with
  | some [.int n] => if small62 n = true then .ok ((List.range n.toNat).map fun (i : Nat) => .int (0 + (i : Int))) e1 else .no
  | _ => .no := rfl
@[simp] theorem z_iRng2F : iRng2F as e = (as e).bind fun as e1 => match rdA e1 as with
  | some [.int m, .int n] => if small62 m = true ∧ small62 n = true then .ok ((List.range (n - m).toNat).map fun (i : Nat) => .int (m + (i : Int))) e1 else .no
  | _ => .no := rfl
@[simp] theorem z_iZipF : iZipF as e = (as e).bind fun as e1 => (fzA as e1).bind fun ds e2 => match ds with
  | [.list xs, .list ys] => .ok (zipD xs ys) e2
  | [.tuple xs, .tuple ys] => .ok (zipD xs ys) e2
  | _ => .no := rfl
@[simp] theorem z_forL1 (g' : Gf) : forL g' f [] e = .ok .nx e := rfl
theorem z_forL2 (g' : Gf) (ds : List D) : forL g' f (d :: ds) e = (match g' d e with
    | .ok _ e1 => match f e1 with
      | .ok .nx e2 => forL g' f ds e2
      | .ok .ct e2 => forL g' f ds e2
      | .ok .bk e2 => .ok .nx e2
      | .ok (.rt s) e2 => .ok (.rt s) e2
      | .ex x e2 => .ex x e2
      | .no => .no
    | _ => .no) := rfl
@[simp] theorem z_sFor (fi : Lf) (g' : Gf) : sFor fi g' f e = (fi e).bind (forL g' f) := rfl
@[simp] theorem z_eMt (op : Mop) : eMt op a as e = (a e).bind fun a e1 => match isLs a e1 with
  | true => (as e1).bind fun as e2 => (fzA as e2).bind fun ds e3 => useM op a ds e3
  | false => .no := rfl
@[simp] theorem z_useM (op : Mop) (ds : List D) : useM op (.slot i) ds e = (match e[i]? with
    | some (.own (.ls cs)) => match op cs ds with
      | some (d, es) => .ok (.val d) (e.set i (.own (.ls es)))
      | none => .no
    | some (.io (.ls cs)) => match op cs ds with
      | some (d, es) => .ok (.val d) (e.set i (.io (.ls es)))
      | none => .no
    | _ => .no) := rfl
@[simp] theorem z_isLs : isLs (.slot i) e = (match e[i]? with
    | some (.own (.ls _)) => true
    | some (.io (.ls _)) => true
    | _ => false) := rfl
@[simp] theorem z_eLc (fi : Lf) (g' : Gf) (vs : List Nat) : eLc fi g' ts a vs e = (fi e).bind fun ds e1 => match bare e1 vs with
  | true => match lcL g' ts a vs ds (wipeE e1 vs) [] with
    | .ok es e2 => .ok (.new (.ls es)) (backE e1 e2 vs)
    | _ => .no
  | false => .no := rfl
@[simp] theorem z_lcL1 (g' : Gf) (vs : List Nat) (acc : List D) : lcL g' ts a vs [] e acc = .ok acc e := rfl
theorem z_lcL2 (g' : Gf) (vs : List Nat) (acc ds : List D) : lcL g' ts a vs (d :: ds) e acc = (match g' d e with
    | .ok _ e1 => match ts e1 with
      | .ok true e2 => match a e2 with
        | .ok a' e3 => match fz a' e3 with
          | .ok d' e4 => if acc.length < 1000000 then lcL g' ts a vs ds (wipeE e4 vs) (acc ++ [d']) else .no
          | _ => .no
        | _ => .no
      | .ok false e2 => lcL g' ts a vs ds (wipeE e2 vs) acc
      | _ => .no
    | _ => .no) := rfl
@[simp] theorem z_tYesF : tYesF e = .ok true e := rfl
@[simp] theorem z_eFnC (F : Fn) (ms : List Bool) : eFnC F ms as e = (as e).bind fun as e1 => if ms.length = as.length then callR F (ms.zip as) e1 else .no := rfl
theorem z_callR (F : Fn) (ps : Ps) : callR F ps e = (match apart (ioL ps) (boL e ps) with
  | false => .no
  | true => match argS e ps with
    | none => .no
    | some sl => match F sl with
      | .no => .no
      | .ex x os => if noIo e (boL e ps) = true then .ex x (slsB ps os true (boL e ps) 0 e) else .no
      | .ok s os => if (flatS s && flatO os) = true then toRV s (.ok (.arg (.val .none)) (slsB ps os false (boL e ps) 0 e)) else
        if noIo e (boL e ps) = true then toRV s (.ok (.arg (.val .none)) (slsB ps os true (boL e ps) 0 e)) else .no) := rfl
end
end DL
set_option Elab.async false
set_option linter.all false
set_option maxRecDepth 100000
set_option maxHeartbeats 4000000
/-! DlT: calls and operations, opened by simp. -/
namespace DL
open PySem L2
section
variable (e r os : Fr) (ps : Ps) (i j : Nat) (d x y z u : D) (w : Ow) (xs ys : List D) (a b : Int)
@[simp] theorem z_ioL0 : ioL [] = [] := rfl
@[simp] theorem z_ioL1 : ioL ((true, .slot i) :: ps) = i :: ioL ps := rfl
@[simp] theorem z_ioL2 (g : Arg) : ioL ((false, g) :: ps) = ioL ps := by cases g <;> rfl
@[simp] theorem z_boL0 : boL e [] = [] := rfl
@[simp] theorem z_boL1 (g : Arg) : boL e ((true, g) :: ps) = boL e ps := by cases g <;> rfl
@[simp] theorem z_boL2 : boL e ((false, .val d) :: ps) = boL e ps := rfl
@[simp] theorem z_boL3 : boL e ((false, .slot i) :: ps) = (match e[i]? with
    | some (.own _) => i :: boL e ps
    | some (.io _) => i :: boL e ps
    | _ => boL e ps) := rfl
@[simp] theorem z_apart0 (bo : List Nat) : apart [] bo = true := rfl
@[simp] theorem z_apart1 (l bo : List Nat) : apart (i :: l) bo = (!(l.contains i) && !(bo.contains i) && apart l bo) := rfl
@[simp] theorem z_argS0 : argS e [] = some [] := rfl
@[simp] theorem z_argS1 (p : Bool × Arg) : argS e (p :: ps) = (match arg1 e p with
    | some s => match argS e ps with
      | some ss => some (s :: ss)
      | none => none
    | none => none) := rfl
@[simp] theorem z_arg1a : arg1 e (true, .slot i) = (match e[i]? with
    | some (.own w) => some (.io w)
    | some (.io w) => some (.io w)
    | _ => none) := rfl
@[simp] theorem z_arg1b : arg1 e (false, .val d) = some (.sh d) := rfl
@[simp] theorem z_arg1c : arg1 e (false, .slot i) = (match e[i]? with
    | some (.sh d) => some (.sh d)
    | some (.own w) => some (.sh w.toD)
    | some (.io w) => some (.sh w.toD)
    | _ => none) := rfl
@[simp] theorem z_outAt0 (os : Fr) : outAt [] os j = none := by cases os <;> rfl
@[simp] theorem z_outAt1 (s : Sl) (ss : Fr) : outAt ((true, .slot i) :: ps) (s :: ss) j = if i = j then (match s with
    | .io w => some w
    | _ => none) else outAt ps ss j := rfl
@[simp] theorem z_outAt2 (s : Sl) (ss : Fr) (g : Arg) : outAt ((false, g) :: ps) (s :: ss) j = outAt ps ss j := by cases g <;> rfl
@[simp] theorem z_slsB0 (fr : Bool) (bo : List Nat) : slsB ps os fr bo j [] = [] := rfl
@[simp] theorem z_slsB1 (fr : Bool) (bo : List Nat) (s : Sl) : slsB ps os fr bo j (s :: r) = slB ps os fr bo j s :: slsB ps os fr bo (j + 1) r := rfl
@[simp] theorem z_slB (fr : Bool) (bo : List Nat) (s : Sl) : slB ps os fr bo j s = (match outAt ps os j with
  | some w => s.put w
  | none => if (ioL ps).contains j then .un else if fr && bo.contains j then (match s with
    | .own w => .sh w.toD
    | s => s) else s) := rfl
@[simp] theorem z_put1 (v : Ow) : (Sl.io v).put w = .io w := rfl
@[simp] theorem z_put2 (v : Ow) : (Sl.own v).put w = .own w := rfl
@[simp] theorem z_toD1 : (Ow.ls xs).toD = .list xs := rfl
@[simp] theorem z_flatS1 : flatS (.sh d) = flatD d := rfl
@[simp] theorem z_flatS2 : flatS (.own w) = false := rfl
@[simp] theorem z_flatD1 : flatD (.int a) = true := rfl
@[simp] theorem z_flatD2 (b : Bool) : flatD (.bool b) = true := rfl
@[simp] theorem z_flatD3 : flatD (.none) = true := rfl
@[simp] theorem z_flatD4 (b : Str) : flatD (.str b) = true := rfl
@[simp] theorem z_flatD5 : flatD (.tuple xs) = false := rfl
@[simp] theorem z_flatD6 : flatD (.list xs) = false := rfl
@[simp] theorem z_flatO0 : flatO [] = true := rfl
@[simp] theorem z_flatO1 : flatO (.sh d :: r) = flatO r := rfl
@[simp] theorem z_flatO2 : flatO (.io (.ls xs) :: r) = (xs.all flatD && flatO r) := rfl
@[simp] theorem z_noIo (bo : List Nat) : noIo e bo = bo.all fun i => match e[i]? with
  | some (.io _) => false
  | _ => true := rfl
@[simp] theorem z_toRV1 (v : RV) : toRV (.sh d) (.ok v e) = .ok (.arg (.val d)) e := rfl
@[simp] theorem z_toRV2 (v : RV) : toRV (.own w) (.ok v e) = .ok (.new w) e := rfl
@[simp] theorem z_outs0 : outs [] e = some [] := by cases e <;> rfl
@[simp] theorem z_outs1 (s : Sl) : outs (.sh d :: r) (s :: e) = (match outs r e with
    | some r => some (.sh d :: r)
    | none => none) := by cases s <;> rfl
@[simp] theorem z_outs2 (v : Ow) : outs (.io w :: r) (.io v :: e) = (match outs r e with
    | some r => some (.io v :: r)
    | none => none) := rfl
@[simp] theorem z_endF (s : Sl) : endF r s e = (match outs r e with
  | some r => .ok s r
  | none => .no) := rfl
@[simp] theorem z_runF (n m : Nat) (f : Sf) (as : Fr) : runF n m f as = (match f (as ++ List.replicate (m - n) .un) with
  | .ok (.rt s) e => endF as s e
  | .ok .nx e => endF as (.sh .none) e
  | .ex x e => match outs as e with
    | some r => .ex x r
    | none => .no
  | _ => .no) := rfl
@[simp] theorem z_dAdd : dAdd (.int a) (.int b) = some (.int (a + b)) := rfl
@[simp] theorem z_dSub : dSub (.int a) (.int b) = some (.int (a - b)) := rfl
@[simp] theorem z_dNeg : dNeg (.int a) = some (.int (-a)) := rfl
@[simp] theorem z_dLt : dLt (.int a) (.int b) = some (.bool (decide (a < b))) := rfl
@[simp] theorem z_dLe : dLe (.int a) (.int b) = some (.bool (decide (a ≤ b))) := rfl
@[simp] theorem z_dGt : dGt (.int a) (.int b) = some (.bool (decide (b < a))) := rfl
@[simp] theorem z_dGe : dGe (.int a) (.int b) = some (.bool (decide (b ≤ a))) := rfl
@[simp] theorem z_dIxt0 : dIx (.tuple (x :: xs)) (.int 0) = some x := by
  have h : L2.ixN (x :: xs).length 0 = some 0 := by
    simp only [List.length_cons, L2.ixN]
    rw [if_pos (by omega), if_pos (by omega)]
    rfl
  show (L2.ixN (x :: xs).length 0).bind _ = _
  rw [h]
  rfl
@[simp] theorem z_dIxt1 : dIx (.tuple (x :: y :: xs)) (.int 1) = some y := by
  have h : L2.ixN (x :: y :: xs).length 1 = some 1 := by
    simp only [List.length_cons, L2.ixN]
    rw [if_pos (by omega), if_pos (by omega)]
    rfl
  show (L2.ixN (x :: y :: xs).length 1).bind _ = _
  rw [h]
  rfl
@[simp] theorem z_dIxt2 : dIx (.tuple (x :: y :: z :: xs)) (.int 2) = some z := by
  have h : L2.ixN (x :: y :: z :: xs).length 2 = some 2 := by
    simp only [List.length_cons, L2.ixN]
    rw [if_pos (by omega), if_pos (by omega)]
    rfl
  show (L2.ixN (x :: y :: z :: xs).length 2).bind _ = _
  rw [h]
  rfl
@[simp] theorem z_dIxt3 : dIx (.tuple (x :: y :: z :: u :: xs)) (.int 3) = some u := by
  have h : L2.ixN (x :: y :: z :: u :: xs).length 3 = some 3 := by
    simp only [List.length_cons, L2.ixN]
    rw [if_pos (by omega), if_pos (by omega)]
    rfl
  show (L2.ixN (x :: y :: z :: u :: xs).length 3).bind _ = _
  rw [h]
  rfl
@[simp] theorem z_dIxt4 : dIx (.tuple (x :: y :: z :: u :: d :: xs)) (.int 4) = some d := by
  have h : L2.ixN (x :: y :: z :: u :: d :: xs).length 4 = some 4 := by
    simp only [List.length_cons, L2.ixN]
    rw [if_pos (by omega), if_pos (by omega)]
    rfl
  show (L2.ixN (x :: y :: z :: u :: d :: xs).length 4).bind _ = _
  rw [h]
  rfl
@[simp] theorem z_dIxl0 : dIx (.list (x :: xs)) (.int 0) = some x := by
  have h : L2.ixN (x :: xs).length 0 = some 0 := by
    simp only [List.length_cons, L2.ixN]
    rw [if_pos (by omega), if_pos (by omega)]
    rfl
  show (L2.ixN (x :: xs).length 0).bind _ = _
  rw [h]
  rfl
@[simp] theorem z_dIxl1 : dIx (.list (x :: y :: xs)) (.int 1) = some y := by
  have h : L2.ixN (x :: y :: xs).length 1 = some 1 := by
    simp only [List.length_cons, L2.ixN]
    rw [if_pos (by omega), if_pos (by omega)]
    rfl
  show (L2.ixN (x :: y :: xs).length 1).bind _ = _
  rw [h]
  rfl
@[simp] theorem z_dIxl2 : dIx (.list (x :: y :: z :: xs)) (.int 2) = some z := by
  have h : L2.ixN (x :: y :: z :: xs).length 2 = some 2 := by
    simp only [List.length_cons, L2.ixN]
    rw [if_pos (by omega), if_pos (by omega)]
    rfl
  show (L2.ixN (x :: y :: z :: xs).length 2).bind _ = _
  rw [h]
  rfl
@[simp] theorem z_dIxl3 : dIx (.list (x :: y :: z :: u :: xs)) (.int 3) = some u := by
  have h : L2.ixN (x :: y :: z :: u :: xs).length 3 = some 3 := by
    simp only [List.length_cons, L2.ixN]
    rw [if_pos (by omega), if_pos (by omega)]
    rfl
  show (L2.ixN (x :: y :: z :: u :: xs).length 3).bind _ = _
  rw [h]
  rfl
@[simp] theorem z_dIxl4 : dIx (.list (x :: y :: z :: u :: d :: xs)) (.int 4) = some d := by
  have h : L2.ixN (x :: y :: z :: u :: d :: xs).length 4 = some 4 := by
    simp only [List.length_cons, L2.ixN]
    rw [if_pos (by omega), if_pos (by omega)]
    rfl
  show (L2.ixN (x :: y :: z :: u :: d :: xs).length 4).bind _ = _
  rw [h]
  rfl
@[simp] theorem z_bLen1 : bLen [.list xs] = some (.int xs.length) := rfl
@[simp] theorem z_bLen2 : bLen [.tuple xs] = some (.int xs.length) := rfl
@[simp] theorem z_bAbs : bAbs [.int a] = some (.int (if a < 0 then -a else a)) := rfl
@[simp] theorem z_bMax2 : bMax2 [.int a, .int b] = some (.int (if b > a then b else a)) := rfl
@[simp] theorem z_bInt : bInt [.int a] = some (.int a) := rfl
@[simp] theorem z_bGcd : bGcd [.int a, .int b] = some (.int ((Nat.gcd a.natAbs b.natAbs : Nat) : Int)) := rfl
@[simp] theorem z_bTuple1 : bTuple [.list xs] = some (.tuple xs) := rfl
@[simp] theorem z_bTuple2 : bTuple [.tuple xs] = some (.tuple xs) := rfl
@[simp] theorem z_bList1 : bList [.list xs] = some xs := rfl
@[simp] theorem z_bList2 : bList [.tuple xs] = some xs := rfl
@[simp] theorem z_bAll : bAll [.list xs] = (allB xs).map fun bs => .bool (bs.all id) := rfl
@[simp] theorem z_bAny : bAny [.list xs] = (allB xs).map fun bs => .bool (bs.any id) := rfl
@[simp] theorem z_allB0 : allB [] = some [] := rfl
@[simp] theorem z_allB1 (b : Bool) : allB (.bool b :: xs) = (match allB xs with
    | some bs => some (b :: bs)
    | none => none) := rfl
@[simp] theorem z_seqOf1 : seqOf (.list xs) = some xs := rfl
@[simp] theorem z_seqOf2 : seqOf (.tuple xs) = some xs := rfl
@[simp] theorem z_truth1 (b : Bool) : truth (.bool b) = some b := rfl
@[simp] theorem z_truth2 : truth (.int a) = some (a != 0) := rfl
@[simp] theorem z_truth3 : truth (.list xs) = some (!xs.isEmpty) := rfl
@[simp] theorem z_truth4 : truth (.tuple xs) = some (!xs.isEmpty) := rfl
@[simp] theorem z_truth5 : truth .none = some false := rfl
@[simp] theorem z_dIs1 (p q : Bool) : dIs (.bool p) (.bool q) = some (.bool (decide (p = q))) := rfl
@[simp] theorem z_dIs2 : dIs d .none = some (.bool (isNone d)) := by cases d <;> rfl
@[simp] theorem z_dIsN1 (p q : Bool) : dIsN (.bool p) (.bool q) = some (.bool (!decide (p = q))) := rfl
@[simp] theorem z_dIsN2 : dIsN d .none = some (.bool (!isNone d)) := by cases d <;> rfl
@[simp] theorem z_isNone1 : isNone .none = true := rfl
@[simp] theorem z_isNone2 : isNone (.tuple xs) = false := rfl
@[simp] theorem z_isNone3 : isNone (.int a) = false := rfl
@[simp] theorem z_isNone4 (p : Bool) : isNone (.bool p) = false := rfl
@[simp] theorem z_wrL1 (i : Nat) (g : List D → Option (List D)) : wrL (.slot i) g e = (match e[i]? with
    | some (.own (.ls ds)) => match g ds with
      | some es => .ok () (e.set i (.own (.ls es)))
      | none => .no
    | some (.io (.ls ds)) => match g ds with
      | some es => .ok () (e.set i (.io (.ls es)))
      | none => .no
    | _ => .no) := rfl
@[simp] theorem z_zipD0 : zipD [] ys = [] := rfl
@[simp] theorem z_zipD1 : zipD (x :: xs) (y :: ys) = .tuple [x, y] :: zipD xs ys := rfl
@[simp] theorem z_wipe0 : wipeE e [] = e := rfl
@[simp] theorem z_wipe1 (vs : List Nat) : wipeE e (i :: vs) = (wipeE e vs).set i .un := rfl
@[simp] theorem z_back0 (e1 : Fr) : backE e e1 [] = e1 := rfl
@[simp] theorem z_back1 (e1 : Fr) (vs : List Nat) : backE e e1 (i :: vs) = (backE e e1 vs).set i (e.getD i .un) := rfl
@[simp] theorem z_bare (vs : List Nat) : bare e vs = vs.all fun j => !(e.getD j .un).owned := rfl
@[simp] theorem z_owned1 : (Sl.sh d).owned = false := rfl
@[simp] theorem z_owned2 : Sl.un.owned = false := rfl
@[simp] theorem z_owned3 : (Sl.own w).owned = true := rfl
@[simp] theorem z_owned4 : (Sl.io w).owned = true := rfl
@[simp] theorem z_isT1 : isT .int (.int a) = true := rfl
@[simp] theorem z_eIsi (T : Ty) (fa : Ef) : eIsi T fa e = (fa e).bind (useI (isT T)) := rfl
@[simp] theorem z_useI (f : D → Bool) (g : Arg) : useI f g e = (match rd1 e g with
  | some d => .ok (.val (.bool (f d))) e
  | none => .no) := rfl
end
end DL
set_option Elab.async false
set_option linter.all false
set_option maxRecDepth 100000
set_option maxHeartbeats 4000000
/-! DlU: whole numbers' sizes; ratios as data. -/
namespace DL
open PySem L2
theorem bits_of {a : Int} {n : Nat} (h : a.natAbs < 2 ^ n) : Builtin.Int.intBits a ≤ n := by
  unfold Builtin.Int.intBits
  split
  · omega
  · rename_i z
    have z' : a.natAbs ≠ 0 := by
      intro q
      have : a = 0 := by omega
      simp [this] at z
    have := (Nat.log2_lt z').mpr h
    omega
theorem of_bits {a : Int} {n : Nat} (h : Builtin.Int.intBits a ≤ n) : a.natAbs < 2 ^ n := by
  unfold Builtin.Int.intBits at h
  split at h
  · rename_i z
    have : a = 0 := by simpa using z
    subst this
    exact Nat.two_pow_pos n
  · rename_i z
    have z' : a.natAbs ≠ 0 := by
      intro q
      have : a = 0 := by omega
      simp [this] at z
    exact (Nat.log2_lt z').mp (by omega)
theorem mul_ok {a b : Int} {m n : Nat} (ha : a.natAbs < 2 ^ m) (hb : b.natAbs < 2 ^ n) (h : m + n ≤ 134217728) : dMul (.int a) (.int b) = some (.int (a * b)) := by
  have h1 := bits_of ha
  have h2 := bits_of hb
  exact if_pos (by omega)
theorem fdiv_ok {a b : Int} {n : Nat} (h0 : b ≠ 0) (hb : b.natAbs < 2 ^ n) (h : n ≤ 9000) : dFdiv (.int a) (.int b) = some (.int (a.fdiv b)) := by
  refine if_pos ⟨h0, ?_⟩
  have z : b.natAbs ≠ 0 := by omega
  have := (Nat.log2_lt z).mpr hb
  omega
theorem fmod_ok {a b : Int} (h0 : b ≠ 0) : dMod (.int a) (.int b) = some (.int (a.fmod b)) := if_pos h0
theorem abs_mul_lt {a b : Int} {m n : Nat} (ha : a.natAbs < 2 ^ m) (hb : b.natAbs < 2 ^ n) : (a * b).natAbs < 2 ^ (m + n) := by
  rw [Int.natAbs_mul, Nat.pow_add]
  have := Nat.mul_le_mul (Nat.le_of_lt ha) (Nat.le_of_lt hb)
  rcases Nat.lt_or_eq_of_le this with h | h
  · exact h
  · exfalso
    by_cases z : b.natAbs = 0
    · rw [z, Nat.mul_zero] at h
      have := Nat.two_pow_pos m
      have := Nat.two_pow_pos n
      have := Nat.mul_pos ‹0 < 2 ^ m› ‹0 < 2 ^ n›
      omega
    · have h1 : a.natAbs * b.natAbs < 2 ^ m * b.natAbs := Nat.mul_lt_mul_of_pos_right ha (by omega)
      have h2 : 2 ^ m * b.natAbs ≤ 2 ^ m * 2 ^ n := Nat.mul_le_mul_left _ (Nat.le_of_lt hb)
      omega
theorem abs_add_lt {a b : Int} {n : Nat} (ha : a.natAbs < 2 ^ n) (hb : b.natAbs < 2 ^ n) : (a + b).natAbs < 2 ^ (n + 1) := by
  have := Int.natAbs_add_le a b
  rw [Nat.pow_succ]
  omega
theorem abs_sub_lt {a b : Int} {n : Nat} (ha : a.natAbs < 2 ^ n) (hb : b.natAbs < 2 ^ n) : (a - b).natAbs < 2 ^ (n + 1) := by
  have := Int.natAbs_sub_le a b
  rw [Nat.pow_succ]
  omega
theorem abs_up {a m n : Nat} (h : a < 2 ^ m) (l : m ≤ n) : a < 2 ^ n := Nat.lt_of_lt_of_le h (Nat.pow_le_pow_right (by decide) l)

/-- a ratio as the program has it -/
def rD (q : Rat) : D := .tuple [.int q.num, .int q.den]
@[simp] theorem z_rD0 (q : Rat) : dIx (rD q) (.int 0) = some (.int q.num) := z_dIxt0 _ _
@[simp] theorem z_rD1 (q : Rat) : dIx (rD q) (.int 1) = some (.int q.den) := z_dIxt1 _ _ _
@[simp] theorem z_rD2 (q : Rat) : flatD (rD q) = false := rfl
@[simp] theorem z_rD3 (q : Rat) : isNone (rD q) = false := rfl
@[simp] theorem z_rD4 (q : Rat) : isT .tuple (rD q) = true := rfl
@[simp] theorem z_rD5 (q : Rat) : bLen [rD q] = some (.int 2) := rfl
@[simp] theorem z_dEq (a b : Int) : dEq (.int a) (.int b) = some (.bool (decide (a = b))) := by
  unfold dEq
  have h : SeqAt.shaped (.int a) = true ∧ SeqAt.shaped (.int b) = true := ⟨rfl, rfl⟩
  rw [if_neg (show ¬ bothStr (.int a) (.int b) = true from Bool.false_ne_true), if_pos h]
  simp only [PyData.eqv]
  have e : (a == b) = decide (a = b) := by
    rw [Bool.eq_iff_iff]
    simp
  rw [e]
@[simp] theorem z_dNe (a b : Int) : dNe (.int a) (.int b) = some (.bool (!decide (a = b))) := by
  unfold dNe
  have h : SeqAt.shaped (.int a) = true ∧ SeqAt.shaped (.int b) = true := ⟨rfl, rfl⟩
  rw [if_neg (show ¬ bothStr (.int a) (.int b) = true from Bool.false_ne_true), if_pos h]
  simp only [PyData.eqv]
  have e : (a == b) = decide (a = b) := by
    rw [Bool.eq_iff_iff]
    simp
  rw [e]
@[simp] theorem z_dEqS (a b : Str) : dEq (.str a) (.str b) = some (.bool (decide (a = b))) := by
  unfold dEq
  rw [if_pos (show bothStr (.str a) (.str b) = true from rfl)]
  simp only [PyData.eqv]
  have e : (a == b) = decide (a = b) := by
    rw [Bool.eq_iff_iff]
    simp
  rw [e]
@[simp] theorem z_dNeS (a b : Str) : dNe (.str a) (.str b) = some (.bool (!decide (a = b))) := by
  unfold dNe
  rw [if_pos (show bothStr (.str a) (.str b) = true from rfl)]
  simp only [PyData.eqv]
  have e : (a == b) = decide (a = b) := by
    rw [Bool.eq_iff_iff]
    simp
  rw [e]
/-- a flat point, a point in space -/
def pD (x y : Rat) : D := .tuple [rD x, rD y]
def pD3 (x y z : Rat) : D := .tuple [rD x, rD y, rD z]
@[simp] theorem z_pD0 (x y : Rat) : dIx (pD x y) (.int 0) = some (rD x) := z_dIxt0 _ _
@[simp] theorem z_pD1 (x y : Rat) : dIx (pD x y) (.int 1) = some (rD y) := z_dIxt1 _ _ _
@[simp] theorem z_pD2 (x y : Rat) : flatD (pD x y) = false := rfl
@[simp] theorem z_pD3 (x y : Rat) : isNone (pD x y) = false := rfl
@[simp] theorem z_pD4 (x y : Rat) : isT .tuple (pD x y) = true := rfl
@[simp] theorem z_pE0 (x y z : Rat) : dIx (pD3 x y z) (.int 0) = some (rD x) := z_dIxt0 _ _
@[simp] theorem z_pE1 (x y z : Rat) : dIx (pD3 x y z) (.int 1) = some (rD y) := z_dIxt1 _ _ _
@[simp] theorem z_pE2 (x y z : Rat) : dIx (pD3 x y z) (.int 2) = some (rD z) := z_dIxt2 _ _ _ _
@[simp] theorem z_pE3 (x y z : Rat) : flatD (pD3 x y z) = false := rfl
@[simp] theorem z_pE4 (x y z : Rat) : isNone (pD3 x y z) = false := rfl
@[simp] theorem z_pE5 (x y z : Rat) : isT .tuple (pD3 x y z) = true := rfl
structure Sz (n : Nat) (q : Rat) : Prop where
  num : q.num.natAbs < 2 ^ n
  den : q.den < 2 ^ n
theorem Sz.up {m n : Nat} {q : Rat} (h : Sz m q) (l : m ≤ n) : Sz n q := ⟨abs_up h.num l, abs_up h.den l⟩
theorem sz_divInt {a b : Int} {n : Nat} (hb : b ≠ 0) (h1 : a.natAbs < 2 ^ n) (h2 : b.natAbs < 2 ^ n) : Sz n (Rat.divInt a b) := by
  have hg : 0 < b.gcd a := Int.gcd_pos_of_ne_zero_left _ hb
  constructor
  · rw [Rat.num_divInt]
    have : (b.sign * a / ((b.gcd a : Nat) : Int)).natAbs ≤ a.natAbs := by
      refine Nat.le_trans (Int.natAbs_ediv_le_natAbs _ _) ?_
      rw [Int.natAbs_mul]
      have hs : b.sign.natAbs ≤ 1 := by
        rw [Int.natAbs_sign]
        split <;> omega
      calc b.sign.natAbs * a.natAbs ≤ 1 * a.natAbs := Nat.mul_le_mul_right _ hs
        _ = a.natAbs := Nat.one_mul _
    omega
  · rw [Rat.den_divInt, if_neg hb]
    have := Nat.div_le_self b.natAbs (b.gcd a)
    omega
theorem den_pos (q : Rat) : 0 < q.den := Nat.pos_of_ne_zero q.den_nz
theorem den_ne (q : Rat) : (q.den : Int) ≠ 0 := by have := den_pos q; omega
theorem add_eq (p q : Rat) : p + q = Rat.divInt (p.num * q.den + q.num * p.den) (p.den * q.den) := by
  have h := Rat.divInt_add_divInt p.num q.num (den_ne p) (den_ne q)
  rwa [Rat.num_divInt_den, Rat.num_divInt_den] at h
theorem sub_eq (p q : Rat) : p - q = Rat.divInt (p.num * q.den - q.num * p.den) (p.den * q.den) := by
  have h := Rat.divInt_sub_divInt p.num q.num (den_ne p) (den_ne q)
  rwa [Rat.num_divInt_den, Rat.num_divInt_den] at h
theorem mul_eq (p q : Rat) : p * q = Rat.divInt (p.num * q.num) (p.den * q.den) := by
  have h := Rat.divInt_mul_divInt p.num q.num (d₁ := p.den) (d₂ := q.den)
  rwa [Rat.num_divInt_den, Rat.num_divInt_den] at h
theorem Sz.add {m n : Nat} {p q : Rat} (hp : Sz m p) (hq : Sz n q) : Sz (m + n + 1) (p + q) := by
  rw [add_eq]
  have hd : ((p.den : Int)).natAbs < 2 ^ m := by simpa using hp.den
  have he : ((q.den : Int)).natAbs < 2 ^ n := by simpa using hq.den
  refine sz_divInt (Int.mul_ne_zero (den_ne p) (den_ne q)) (abs_add_lt (abs_mul_lt hp.num he) ?_) (abs_up (abs_mul_lt hd he) (by omega))
  rw [Nat.add_comm m n]
  exact abs_mul_lt hq.num hd
theorem Sz.sub {m n : Nat} {p q : Rat} (hp : Sz m p) (hq : Sz n q) : Sz (m + n + 1) (p - q) := by
  rw [sub_eq]
  have hd : ((p.den : Int)).natAbs < 2 ^ m := by simpa using hp.den
  have he : ((q.den : Int)).natAbs < 2 ^ n := by simpa using hq.den
  refine sz_divInt (Int.mul_ne_zero (den_ne p) (den_ne q)) (abs_sub_lt (abs_mul_lt hp.num he) ?_) (abs_up (abs_mul_lt hd he) (by omega))
  rw [Nat.add_comm m n]
  exact abs_mul_lt hq.num hd
theorem Sz.mul {m n : Nat} {p q : Rat} (hp : Sz m p) (hq : Sz n q) : Sz (m + n) (p * q) := by
  rw [mul_eq]
  have hd : ((p.den : Int)).natAbs < 2 ^ m := by simpa using hp.den
  have he : ((q.den : Int)).natAbs < 2 ^ n := by simpa using hq.den
  exact sz_divInt (Int.mul_ne_zero (den_ne p) (den_ne q)) (abs_mul_lt hp.num hq.num) (abs_mul_lt hd he)
theorem Sz.neg {m : Nat} {p : Rat} (hp : Sz m p) : Sz m (-p) := ⟨by rw [Rat.neg_num, Int.natAbs_neg]; exact hp.num, by rw [Rat.neg_den]; exact hp.den⟩
/-- made lowest by the greatest common divisor -/
theorem made_pos {a b : Int} (h : 0 < b) : a.fdiv (Nat.gcd a.natAbs b.natAbs : Nat) = (Rat.divInt a b).num ∧ b.fdiv (Nat.gcd a.natAbs b.natAbs : Nat) = ((Rat.divInt a b).den : Int) := by
  have hg : b.gcd a = Nat.gcd a.natAbs b.natAbs := Nat.gcd_comm _ _
  constructor
  · rw [Rat.num_divInt, hg, Int.sign_eq_one_of_pos h, Int.one_mul, Int.fdiv_eq_ediv_of_nonneg _ (by omega)]
  · rw [Rat.den_divInt, if_neg (by omega), hg, Int.fdiv_eq_ediv_of_nonneg _ (by omega), Int.natCast_ediv, Int.natAbs_of_nonneg (by omega)]
theorem made_neg {a b : Int} (h : b < 0) : a.fdiv (0 - (Nat.gcd a.natAbs b.natAbs : Nat)) = (Rat.divInt a b).num ∧ b.fdiv (0 - (Nat.gcd a.natAbs b.natAbs : Nat)) = ((Rat.divInt a b).den : Int) := by
  have hg : b.gcd a = Nat.gcd a.natAbs b.natAbs := Nat.gcd_comm _ _
  have d1 : ((Nat.gcd a.natAbs b.natAbs : Nat) : Int) ∣ a := Int.ofNat_dvd_left.mpr (Nat.gcd_dvd_left _ _)
  have d2 : ((Nat.gcd a.natAbs b.natAbs : Nat) : Int) ∣ b := Int.ofNat_dvd_left.mpr (Nat.gcd_dvd_right _ _)
  have key : ∀ x : Int, ((Nat.gcd a.natAbs b.natAbs : Nat) : Int) ∣ x → x.fdiv (0 - (Nat.gcd a.natAbs b.natAbs : Nat)) = (-x) / (Nat.gcd a.natAbs b.natAbs : Nat) := by
    intro x hx
    have d : (-((Nat.gcd a.natAbs b.natAbs : Nat) : Int)) ∣ x := Int.neg_dvd.mpr hx
    rw [Int.zero_sub, Int.fdiv_eq_ediv_of_dvd d, Int.ediv_neg, Int.neg_ediv_of_dvd hx]
  constructor
  · rw [Rat.num_divInt, hg, Int.sign_eq_neg_one_of_neg h, key a d1, Int.neg_mul, Int.one_mul]
  · rw [Rat.den_divInt, if_neg (by omega), hg, key b d2, Int.natCast_ediv]
    congr 1
    omega
/-! ### signs -/
def sg (q : Rat) : Int := q.num.sign
theorem sign_div {x g : Int} (hg : 0 < g) (d : g ∣ x) : (x / g).sign = x.sign := by
  obtain ⟨y, rfl⟩ := d
  rw [Int.mul_ediv_cancel_left _ (by omega), Int.sign_mul, Int.sign_eq_one_of_pos hg, Int.one_mul]
theorem sg_divInt {a b : Int} (hb : b ≠ 0) : sg (Rat.divInt a b) = b.sign * a.sign := by
  unfold sg
  have hg : 0 < b.gcd a := Int.gcd_pos_of_ne_zero_left _ hb
  have d : ((b.gcd a : Nat) : Int) ∣ b.sign * a := Int.dvd_trans (Int.gcd_dvd_right ..) (Int.dvd_mul_left _ _)
  rw [Rat.num_divInt, sign_div (by omega) d, Int.sign_mul, Int.sign_sign]
theorem den_sign (q : Rat) : (q.den : Int).sign = 1 := Int.sign_eq_one_of_pos (by have := den_pos q; omega)
theorem sg_mul (p q : Rat) : sg (p * q) = sg p * sg q := by
  rw [mul_eq, sg_divInt (Int.mul_ne_zero (den_ne p) (den_ne q)), Int.sign_mul, Int.sign_mul, den_sign, den_sign]
  simp [sg]
theorem sg_neg (p : Rat) : sg (-p) = -sg p := by
  unfold sg
  rw [Rat.neg_num, Int.sign_neg]
theorem sg_zero {p : Rat} : sg p = 0 ↔ p = 0 := by
  unfold sg
  rw [Int.sign_eq_zero_iff_zero, Rat.num_eq_zero]
end DL
set_option Elab.async false
set_option linter.all false
set_option maxRecDepth 100000
set_option maxHeartbeats 4000000
/-! DlV: draws out of a pot. -/
namespace DL
open PySem L2
def mDraw (A B M N S : Int) : Sf := (sSeq (sIf (tOf (eOp2 dGt (eOp2 dIx (eVar 0) (eC (.int 0))) (eC (.int 0)))) (sSeq (sAsg (eCall bDivmod (aCons (eOp2 dIx (eVar 0) (eC (.int 0))) (aCons (eVar 1) aNil))) (gTupF (gsCons (gSubF (eVar 0) (eC (.int 0))) (gsCons (gSet 2) gsNil)))) (sRet (eR (eVar 2)))) sNil) (sSeq (sAsg (eOp2 dMod (eCall bInt (aCons (eOp2 dAdd (eOp2 dMul (eOp2 dIx (eVar 0) (eC (.int 1))) (eC (.int A))) (eC (.int B))) aNil)) (eC (.int M))) (gSubF (eVar 0) (eC (.int 1)))) (sRet (eR (eOp2 dMod (eCall bInt (aCons (eOp2 dFdiv (eOp2 dMod (eCall bInt (aCons (eOp2 dMul (eOp2 dIx (eVar 0) (eC (.int 1))) (eOp2 dIx (eVar 0) (eC (.int 1)))) aNil)) (eC (.int N))) (eC (.int S))) aNil)) (eVar 1))))))
theorem draw_low {A B M N S : Int} {a b c c1 g h q r : Int} (z : ¬ 0 < a) (e1 : dMul (.int b) (.int A) = some (.int c1))
 (e2 : dMod (.int (c1 + B)) (.int M) = some (.int c)) (e3 :  dMul (.int c) (.int c) = some (.int (c * c)))
 (e4 : dMod (.int (c * c)) (.int N) = some (.int g)) (e5 : dFdiv (.int g) (.int S) = some (.int h)) (e6 : dMod (.int h) (.int r) = some (.int q)) :
 runF 2 3 (mDraw A B M N S) [.io (.ls [.int a, .int b]), .sh (.int r)] = .ok (.sh (.int q)) [.io (.ls [.int a, .int c]), .sh (.int r)] := by
    simp [mDraw, z, e1, e2, e3, e4, e5, e6, ixN]
theorem draw_high {A B M N S : Int} {a b r : Int} (z : 0 < a) (e : bDivmod [.int a, .int r] = some (.tuple [.int (a / r), .int (a % r)])) :
 runF 2 3 (mDraw A B M N S) [.io (.ls [.int a, .int b]), .sh (.int r)] = .ok (.sh (.int (a % r))) [.io (.ls [.int (a/r), .int b]), .sh (.int r)] := by
    simp [mDraw, z, e, ixN]
/-- a pot: what is left of the cell, a number that is mixed on -/
structure Pot (p : List D) : Prop where
  ex : ∃ a b : Int, p = [.int a, .int b] ∧ 0 ≤ a ∧ 0 ≤ b ∧ b < 2 ^ 31
theorem draw_ok {A B M N S : Int} (hA : A.natAbs < 2 ^ 31) (hM : 0 < M) (hM2 : M ≤ 2 ^ 31) (hN : 0 < N) (hS : 0 < S) (hS2 : S < 2 ^ 31) {p : List D} (P : Pot p) {r : Int} (h0 : 0 < r) (h1 : r < 1000) :
    ∃ p' dg, Pot p' ∧ 0 ≤ dg ∧ dg < r ∧ runF 2 3 (mDraw A B M N S) [.io (.ls p), .sh (.int r)] = .ok (.sh (.int dg)) [.io (.ls p'), .sh (.int r)] := by
  obtain ⟨a, b, rfl, ha, hb, hb2⟩ := P.ex
  by_cases z : 0 < a
  · have e : bDivmod [.int a, .int r] = some (.tuple [.int (a / r), .int (a % r)]) := if_pos ⟨h0, by
      have := (Nat.log2_lt (n := r.natAbs) (k := 10) (by omega)).mpr (by omega)
      omega⟩
    exact ⟨[.int (a / r), .int b], a % r, ⟨⟨_, _, rfl, Int.ediv_nonneg ha (by omega), hb, hb2⟩⟩, Int.emod_nonneg _ (by omega), Int.emod_lt_of_pos _ h0, draw_high z e⟩
  · have e1 : dMul (.int b) (.int A) = some (.int (b * A)) := mul_ok (m := 31) (n := 31) (by omega) hA (by omega)
    have e2 : dMod (.int (b * A + B)) (.int M) = some (.int ((b * A + B) % M)) := by
      rw [fmod_ok (by omega), Int.fmod_eq_emod_of_nonneg _ (by omega)]
    have l1 : 0 ≤ (b * A + B) % M := Int.emod_nonneg _ (by omega)
    have l2 : (b * A + B) % M < M := Int.emod_lt_of_pos _ (by omega)
    generalize (b * A + B) % M = c at e2 l1 l2
    have e3 : dMul (.int c) (.int c) = some (.int (c * c)) := mul_ok (m := 31) (n := 31) (by omega) (by omega) (by omega)
    have e4 : dMod (.int (c * c)) (.int N) = some (.int ((c * c) % N)) := by
      rw [fmod_ok (by omega), Int.fmod_eq_emod_of_nonneg _ (by omega)]
    generalize (c * c) % N = g at e4
    have e5 : dFdiv (.int g) (.int S) = some (.int (g / S)) := by
      rw [fdiv_ok (n := 31) (by omega) (by omega) (by omega), Int.fdiv_eq_ediv_of_nonneg _ (by omega)]
    have e6 : dMod (.int (g / S)) (.int r) = some (.int ((g / S) % r)) := by
      rw [fmod_ok (by omega), Int.fmod_eq_emod_of_nonneg _ (by omega)]
    exact ⟨[.int a, .int c], (g / S) % r, ⟨⟨_, _, rfl, ha, l1, by omega⟩⟩, Int.emod_nonneg _ (by omega), Int.emod_lt_of_pos _ h0, draw_low z e1 e2 e3 e4 e5 e6⟩
/-! ### the pot -/
def mPot (A B C E M S U V W N O : Int) : Sf := (sSeq (sSet 2 (eR (eOp2 dAdd (eOp2 dMul (eC (.int A)) (eVar 1)) (eC (.int B))))) (sSeq (sIf (tOf (eOp2 dLt (eVar 1) (eCall bLen (aCons (eVar 0) aNil)))) (sSet 2 (eR (eCall bAbs (aCons (eOp2 dIx (eVar 0) (eVar 1)) aNil)))) sNil) (sRet (eLst (aCons (eCall bMax2 (aCons (eC (.int 0)) (aCons (eOp2 dSub (eVar 2) (eOp2 dPow (eC (.int C)) (eC (.int E)))) aNil))) (aCons (eOp2 dAdd (eOp2 dMod (eOp2 dMul (eCall bInt (aCons (eOp2 dAdd (eOp2 dMod (eCall bInt (aCons (eVar 2) aNil)) (eC (.int M))) (eC (.int S))) aNil)) (eOp2 dPow (eOp2 dAdd (eOp2 dMul (eC (.int U)) (eVar 1)) (eC (.int V))) (eC (.int W)))) (eC (.int N))) (eC (.int O))) aNil))))))
theorem pot_gen {A B C E M S U V W N O k k1 k2 len cell T r c y z : Int} {script : D} (hl : bLen [script] = some (.int len)) (e1 : dMul (.int A) (.int k) = some (.int k1))
    (hv : (¬ k < len ∧ cell = k1 + B) ∨ (k < len ∧ ∃ v, dIx script (.int k) = some (.int v) ∧ cell = if v < 0 then -v else v)) (e2 : dPow (.int C) (.int E) = some (.int T)) (e3 : dMod (.int cell) (.int M) = some (.int r))
    (e4 : dMul (.int U) (.int k) = some (.int k2)) (e5 : dPow (.int (k2 + V)) (.int W) = some (.int c)) (e6 : dMul (.int (r + S)) (.int c) = some (.int y)) (e7 : dMod (.int y) (.int N) = some (.int z)) :
    runF 2 3 (mPot A B C E M S U V W N O) [.sh script, .sh (.int k)] = .ok (.own (.ls [.int (if cell - T > 0 then cell - T else 0), .int (z + O)])) [.sh script, .sh (.int k)] := by
  rcases hv with ⟨hk, hc⟩ | ⟨hk, v, hd, hc⟩
  · subst hc
    simp [mPot, hl, e1, hk, e2, e3, e4, e5, e6, e7]
  · rw [hc] at e3 ⊢
    simp [mPot, hl, e1, hk, hd, e2, e3, e4, e5, e6, e7]
/-- a pot is made of a script, whatever it holds -/
theorem pot_ok {A B C E M S U V W N O : Int} (hM : 0 < M) (hM2 : M ≤ 2 ^ 31) (hS : 0 ≤ S) (hS2 : S ≤ 1000) (hN : 0 < N) (hN2 : N < 2147483640) (hO : 0 ≤ O) (hO2 : O ≤ 1) (hU : U = 2) (hV : V = 3) (hW : W = 3) (hC : C = 10) (hE : E = 18) (hA : A = 113) (hB : B = 61)
    {ns : List Int} {k : Nat} (hk : k < 64) :
    ∃ p, Pot p ∧ runF 2 3 (mPot A B C E M S U V W N O) [.sh (.list (ns.map PyData.int)), .sh (.int k)] = .ok (.own (.ls p)) [.sh (.list (ns.map PyData.int)), .sh (.int k)] := by
  subst hU hV hW hC hE hA hB
  have p5 : dPow (.int (2 * (k : Int) + 3)) (.int 3) = some (.int ((2 * (k : Int) + 3) ^ 3)) := by
    have l : (2 * (k : Int) + 3).natAbs < 2 ^ 64 := by omega
    exact if_pos ⟨by omega, by omega, l⟩
  have pw : ∀ i j : Int, 0 ≤ j → j ≤ 1000000 → i.natAbs < 2 ^ 64 → dPow (.int i) (.int j) = some (.int (i ^ j.toNat)) := fun i j h1 h2 h3 => if_pos ⟨h1, h2, h3⟩
  have p2 := pw 10 18 (by omega) (by omega) (by omega)
  generalize (10 : Int) ^ (18 : Int).toNat = T at p2
  have b3 : (2 * (k : Int) + 3).natAbs < 2 ^ 8 := by omega
  have bc : ((2 * (k : Int) + 3) ^ 3).natAbs < 2 ^ (8 + 8 + 8) := by
    have e : (2 * (k : Int) + 3) ^ 3 = (2 * (k : Int) + 3) * (2 * (k : Int) + 3) * (2 * (k : Int) + 3) := by
      rw [Int.pow_succ, Int.pow_succ, Int.pow_succ, Int.pow_zero, Int.one_mul]
    rw [e]
    exact abs_mul_lt (abs_mul_lt b3 b3) b3
  generalize (2 * (k : Int) + 3) ^ 3 = c at p5 bc
  have go : ∀ cell : Int, ((¬ (k : Int) < ns.length ∧ cell = 113 * (k : Int) + 61) ∨ ((k : Int) < ns.length ∧ ∃ v, dIx (.list (ns.map PyData.int)) (.int k) = some (.int v) ∧ cell = if v < 0 then -v else v)) →
      ∃ p, Pot p ∧ runF 2 3 (mPot 113 61 10 18 M S 2 3 3 N O) [.sh (.list (ns.map PyData.int)), .sh (.int k)] = .ok (.own (.ls p)) [.sh (.list (ns.map PyData.int)), .sh (.int k)] := by
    intro cell hv
    have e3 : dMod (.int cell) (.int M) = some (.int (cell % M)) := by
      rw [fmod_ok (by omega), Int.fmod_eq_emod_of_nonneg _ (by omega)]
    have l1 : 0 ≤ cell % M := Int.emod_nonneg _ (by omega)
    have l2 : cell % M < M := Int.emod_lt_of_pos _ (by omega)
    generalize cell % M = r at e3 l1 l2
    have e6 : dMul (.int (r + S)) (.int c) = some (.int ((r + S) * c)) := mul_ok (m := 32) (by omega) bc (by omega)
    have e7 : dMod (.int ((r + S) * c)) (.int N) = some (.int (((r + S) * c) % N)) := by
      rw [fmod_ok (by omega), Int.fmod_eq_emod_of_nonneg _ (by omega)]
    have l3 : 0 ≤ ((r + S) * c) % N := Int.emod_nonneg _ (by omega)
    have l4 : ((r + S) * c) % N < N := Int.emod_lt_of_pos _ (by omega)
    generalize ((r + S) * c) % N = z at e7 l3 l4
    have e1 : dMul (.int 113) (.int k) = some (.int (113 * (k : Int))) := mul_ok (m := 7) (n := 6) (by omega) (by omega) (by omega)
    have e4 : dMul (.int 2) (.int k) = some (.int (2 * (k : Int))) := mul_ok (m := 2) (n := 6) (by omega) (by omega) (by omega)
    refine ⟨_, ⟨⟨_, _, rfl, ?_, ?_, ?_⟩⟩, pot_gen (len := ns.length) (by rw [z_bLen1, List.length_map]) e1 hv p2 e3 e4 p5 e6 e7⟩
    · split <;> omega
    · omega
    · omega
  by_cases h : k < ns.length
  · refine go _ (.inr ⟨by omega, ns[k], ?_, rfl⟩)
    have i1 : L2.ixN (ns.map PyData.int).length (k : Int) = some k := by
      simp only [L2.ixN, List.length_map]
      rw [if_pos (by omega), if_pos (by omega)]
      rfl
    show (L2.ixN (ns.map PyData.int).length (k : Int)).bind _ = _
    rw [i1]
    show (ns.map PyData.int)[k]? = _
    rw [List.getElem?_map, List.getElem?_eq_getElem h]
    rfl
  · exact go _ (.inl ⟨by omega, rfl⟩)
end DL
set_option Elab.async false
set_option linter.all false
set_option maxRecDepth 100000
set_option maxHeartbeats 4000000
/-! DlQ: more to open by simp; reprs of small whole numbers. -/
namespace DL
open PySem L2
section
variable (i j k : Nat) (e : Fr) (f g h : Sf) (a b c : Ef) (r s t : Rf) (as : Af) (ts us : Tf) (d : D)
@[simp] theorem z_eFnK (F : Fn) (ms : List Bool) (ix : List Nat) (dd : List D) (n m : Nat) (bs : Af) : eFnK F ms ix dd n m as bs e = (as e).bind fun as e1 => (bs e1).bind fun bs e2 =>
  if as.length = n ∧ bs.length = m ∧ ms.length = ix.length then callR F (ms.zip (pickA ix (as ++ bs ++ dd.map Arg.val))) e2 else .no := rfl
@[simp] theorem z_pickA0 (l : List Arg) : pickA [] l = [] := rfl
@[simp] theorem z_pickA1 (ix : List Nat) (l : List Arg) : pickA (i :: ix) l = l.getD i (.val .none) :: pickA ix l := rfl
@[simp] theorem z_eFn1 (F : Fn) : eFn1 F r e = (r e).bind fun r e1 => match r with
  | .new w => popR e1.length (callR F [(true, .slot e1.length)] (e1 ++ [.own w]))
  | .arg _ => .no := rfl
@[simp] theorem z_popR1 (n : Nat) : popR n (.ok (.arg (.val d)) e) = .ok (.arg (.val d)) (e.take n) := rfl
@[simp] theorem z_popR2 (n : Nat) (w : Ow) : popR n (.ok (.new w) e) = .ok (.new w) (e.take n) := rfl
@[simp] theorem z_gSeqF (r' : Gfs) : gSeqF r' d e = (match d with
  | .tuple ds => r' ds e
  | .list ds => r' ds e
  | _ => .no) := rfl
@[simp] theorem z_iZip2F : iZip2F as e = (as e).bind fun as e1 => (fzA as e1).bind fun ds e2 => match ds with
  | [x, y] => match seqD x with
    | some (_, xs) => match seqD y with
      | some (_, ys) => .ok (zipD xs ys) e2
      | none => .no
    | none => .no
  | _ => .no := rfl
@[simp] theorem z_seqD1 (ds : List D) : seqD (.list ds) = some (.l, ds) := rfl
@[simp] theorem z_seqD2 (ds : List D) : seqD (.tuple ds) = some (.t, ds) := rfl
@[simp] theorem z_eCat : eCat r s e = (r e).bind fun r e1 => (s e1).bind fun s e2 => match lsR r e2 with
  | some xs => match lsR s e2 with
    | some ys => if xs.length + ys.length ≤ 1000000 then .ok (.new (.ls (xs ++ ys))) e2 else .no
    | none => .no
  | none => .no := rfl
@[simp] theorem z_lsR1 (xs : List D) : lsR (.new (.ls xs)) e = some xs := rfl
@[simp] theorem z_lsR2 : lsR (.arg (.slot i)) e = (match e[i]? with
    | some (.own (.ls ds)) => some ds
    | some (.io (.ls ds)) => some ds
    | _ => none) := rfl
@[simp] theorem z_eChain (u v : D → D → Option D) : eChain u v a b c e = (a e).bind fun a e1 => (b e1).bind fun b e2 => (use2 u a b e2).bind fun k e3 => match rd1 e3 k with
  | some (.bool true) => (c e3).bind fun c e4 => use2 v b c e4
  | some (.bool false) => .ok (.val (.bool false)) e3
  | _ => .no := rfl
@[simp] theorem z_sRaise (x : Exn) : sRaise x e = .ex x e := rfl
@[simp] theorem z_sTry (l : List Hdl) : sTry f l e = (match f e with
  | .ex x e1 => handle l x e1
  | r => r) := rfl
@[simp] theorem z_handle0 (x : Exn) : handle [] x e = .ex x e := rfl
@[simp] theorem z_handle1 (x : Exn) (mt : Str → Option Bool) (l : List Hdl) : handle ((mt, g) :: l) x e = (match mt x.cls with
    | some true => g e
    | some false => handle l x e
    | none => .no) := rfl
theorem z_bRepr (x : D) (h : reprOk x = true) : bRepr [x] = some (.str x.shown) := if_pos h
end
theorem small_log {a : Int} (h : a.natAbs < 2 ^ 1900) : a.natAbs.log2 < 1920 := by
  by_cases z : a.natAbs = 0
  · rw [z]
    decide
  · have := (Nat.log2_lt z).mpr h
    omega
theorem repr2 {a b : Int} (ha : a.natAbs < 2 ^ 1900) (hb : b.natAbs < 2 ^ 1900) : reprOk (.list [.int a, .int b]) = true := by
  have h1 := small_log ha
  have h2 := small_log hb
  have h3 : wD (.list [.int a, .int b]) ≤ sizeLine := by
    simp only [wD, wAll]
    decide
  have h4 : PyData.depth (.list [.int a, .int b]) ≤ 30 := by
    simp only [PyData.depth, PyData.depthAll]
    decide
  simp only [reprOk, PyData.showable, PyData.showableAll, PyData.hasDict, PyData.hasDictAll, h1, h2, h3, h4]
  decide
theorem repr3 {a b c : Int} (ha : a.natAbs < 2 ^ 1900) (hb : b.natAbs < 2 ^ 1900) (hc : c.natAbs < 2 ^ 1900) : reprOk (.list [.int a, .int b, .int c]) = true := by
  have h1 := small_log ha
  have h2 := small_log hb
  have h0 := small_log hc
  have h3 : wD (.list [.int a, .int b, .int c]) ≤ sizeLine := by
    simp only [wD, wAll]
    decide
  have h4 : PyData.depth (.list [.int a, .int b, .int c]) ≤ 30 := by
    simp only [PyData.depth, PyData.depthAll]
    decide
  simp only [reprOk, PyData.showable, PyData.showableAll, PyData.hasDict, PyData.hasDictAll, h1, h2, h0, h3, h4]
  decide
end DL
set_option Elab.async false
set_option linter.all false
set_option maxRecDepth 100000
set_option maxHeartbeats 4000000
/-! DlTs: texts as lists of signs, to open by simp. -/
namespace DL
open PySem L2 NumText
theorem sOf_inj {a b : List Nat} : sOf a = sOf b ↔ a = b := by
  unfold sOf
  constructor
  · intro h
    have := congrArg (fun s : Str => s.cps.toList) h
    simpa using this
  · rintro rfl
    rfl
theorem sOf_of (x : Str) : x = sOf x.cps.toList := by
  obtain ⟨⟨l⟩⟩ := x
  rfl
@[simp] theorem s_len (l : List Nat) : (sOf l).length = l.length := by simp [sOf, Str.length]
@[simp] theorem s_tl (l : List Nat) : (sOf l).cps.toList = l := by simp [sOf]
theorem s_add (a b : List Nat) : sOf a ++ sOf b = sOf (a ++ b) := by
  show (⟨(sOf a).cps ++ (sOf b).cps⟩ : Str) = _
  simp [sOf]
theorem z_addS {a b : List Nat} (h : a.length + b.length ≤ 1000000) : dAdd (.str (sOf a)) (.str (sOf b)) = some (.str (sOf (a ++ b))) := by
  unfold dAdd
  simp only [s_len]
  rw [if_pos (by rw [sizeLine_eq]; omega), s_add]
@[simp] theorem z_eqS (a b : List Nat) : dEq (.str (sOf a)) (.str (sOf b)) = some (.bool (decide (a = b))) := by
  rw [z_dEqS]
  simp only [sOf_inj]
@[simp] theorem z_neS (a b : List Nat) : dNe (.str (sOf a)) (.str (sOf b)) = some (.bool (!decide (a = b))) := by
  rw [z_dNeS]
  simp only [sOf_inj]
theorem z_lenS {l : List Nat} (h : l.length ≤ 1000000) : bLen [.str (sOf l)] = some (.int (l.length : Int)) := by
  show (if (sOf l).length ≤ sizeLine then some (PyData.int ((sOf l).length : Int)) else none) = _
  rw [s_len, if_pos (by rw [sizeLine_eq]; omega)]
def cutN (l : List Nat) (lo hi : Option Int) : List Nat := (l.drop (HT.sIx l.length 0 lo)).take (HT.sIx l.length l.length hi - HT.sIx l.length 0 lo)
theorem z_cutS {l : List Nat} (h : l.length ≤ 1000000) (lo hi : Option Int) : dCut (.str (sOf l)) lo hi = some (.str (sOf (cutN l lo hi))) := by
  unfold dCut
  simp only [s_len]
  rw [if_pos (by rw [sizeLine_eq]; omega)]
  unfold cutS cutN
  rw [s_len, s_tl]
  rfl
theorem cut_to {l : List Nat} {n : Nat} : cutN l none (some (n : Int)) = l.take n := by
  unfold cutN
  rw [HT.sIx_nat]
  show (l.drop 0).take (min n l.length - 0) = _
  rw [List.drop_zero, Nat.sub_zero]
  rcases Nat.le_total n l.length with h | h
  · rw [Nat.min_eq_left h]
  · rw [Nat.min_eq_right h, List.take_of_length_le (Nat.le_refl _), List.take_of_length_le h]
theorem cut_from {l : List Nat} {n : Nat} : cutN l (some (n : Int)) none = l.drop n := by
  unfold cutN
  rw [HT.sIx_nat]
  show (l.drop (min n l.length)).take (l.length - min n l.length) = _
  rw [List.take_of_length_le (by rw [List.length_drop]; exact Nat.le_refl _)]
  rcases Nat.le_total n l.length with h | h
  · rw [Nat.min_eq_left h]
  · rw [Nat.min_eq_right h, List.drop_of_length_le (Nat.le_refl _), List.drop_of_length_le h]
theorem cut_mid {l : List Nat} {m n : Nat} : cutN l (some (m : Int)) (some (n : Int)) = (l.drop m).take (n - m) := by
  unfold cutN
  rw [HT.sIx_nat, HT.sIx_nat]
  rcases Nat.le_total m l.length with h | h
  · rw [Nat.min_eq_left h]
    rcases Nat.le_total n l.length with h2 | h2
    · rw [Nat.min_eq_left h2]
    · rw [Nat.min_eq_right h2, List.take_of_length_le (by rw [List.length_drop]; exact Nat.le_refl _), List.take_of_length_le (by rw [List.length_drop]; omega)]
  · rw [Nat.min_eq_right h, List.drop_of_length_le (Nat.le_refl _), List.drop_of_length_le h]
    simp
theorem z_ixS {l : List Nat} {n c : Nat} (h : l[n]? = some c) (hl : l.length ≤ 1000000) : dIx (.str (sOf l)) (.int (n : Int)) = some (.str (sOf [c])) := by
  unfold dIx
  simp only [s_len, s_tl]
  rw [if_pos (by rw [sizeLine_eq]; omega)]
  have hn : n < l.length := (List.getElem?_eq_some_iff.mp h).1
  have e : atI l (n : Int) = some c := by
    unfold atI ixN
    rw [if_pos (by omega), if_pos (by omega), Int.toNat_natCast]
    exact h
  rw [e]
  rfl
@[simp] theorem one_s (c : Nat) : one? (sOf [c]) = some c := by
  unfold one?
  rw [s_tl]
@[simp] theorem z_inS (c : Nat) (z : List Nat) : dInT (.str (sOf [c])) (.str (sOf z)) = some (.bool (decide (c ∈ z))) := by
  show (one? (sOf [c])).map (fun c => PyData.bool (decide (c ∈ (sOf z).cps.toList))) = _
  rw [one_s, s_tl]
  rfl
theorem mulT_ok {a b : Int} {m n : Nat} (ha : a.natAbs < 2 ^ m) (hb : b.natAbs < 2 ^ n) (h : m + n ≤ 134217728) : dMulT (.int a) (.int b) = some (.int (a * b)) := mul_ok ha hb h
theorem z_mulS {c : Nat} {k : Int} (h1 : -1000000 ≤ k) (h2 : k ≤ 1000000) : dMulT (.str (sOf [c])) (.int k) = some (.str (sOf (List.replicate k.toNat c))) := by
  show (match one? (sOf [c]) with
      | some c => if -1000000 ≤ k ∧ k ≤ 1000000 then some (PyData.str (sOf (List.replicate k.toNat c))) else none
      | none => none) = _
  rw [one_s]
  exact if_pos ⟨h1, h2⟩
theorem z_intS {l : List Nat} (h : AllDigits l) (h1 : l ≠ []) (h2 : l.length ≤ 640) : bIntT [.str (sOf l)] = some (.int (NumText.digitsVal l : Nat)) := by
  unfold bIntT
  simp only [s_len]
  rw [if_pos h2, intText_digits (x := sOf l) (by rw [s_tl]; exact h) (by rw [s_tl]; exact h1) (by rw [s_len]; omega), s_tl]
  rfl
@[simp] theorem z_intT (a : Int) : bIntT [.int a] = some (.int a) := rfl
@[simp] theorem z_seqS (l : List Nat) : seqOf (.str (sOf l)) = some (l.map fun c => .str (sOf [c])) := by
  show some ((sOf l).cps.toList.map fun c => PyData.str ⟨#[c]⟩) = _
  rw [s_tl]
  rfl
@[simp] theorem z_eRepl (y z : Str) (fa : Ef) (e : Fr) : eRepl y z fa e = (fa e).bind fun a e1 => match rd1 e1 a with
  | some (.str x) => if x.length + (x.length + 1) * z.length ≤ 16777216 then .ok (.val (.str (Txt.replace x y z))) e1 else .no
  | _ => .no := rfl
@[simp] theorem z_sRaise1 (x fl : Str) (fa : Ef) (e : Fr) : sRaise1 x fl fa e = (fa e).bind fun a e1 => match argD a e1 with
  | some d => .ex ⟨x, [(fl, d)]⟩ e1
  | none => .no := rfl
@[simp] theorem z_argD1 (d : D) (e : Fr) : argD (.val d) e = some d := rfl
@[simp] theorem z_argD2 (i : Nat) (e : Fr) : argD (.slot i) e = (match e[i]? with
    | some (.sh d) => some d
    | _ => none) := rfl
@[simp] theorem z_sTryAs (f : Sf) (i : Nat) (mt : Str → Option Bool) (g : Exn → Sf) (e : Fr) : sTryAs f i mt g e = (match f e with
  | .ex x e1 => match mt x.cls with
    | some true => unX i (g x (e1.set i .xn))
    | some false => .ex x e1
    | none => .no
  | r => r) := rfl
@[simp] theorem z_unX1 (i : Nat) (fl : Fl) (e : Fr) : unX i (.ok fl e) = .ok fl (e.set i .un) := rfl
@[simp] theorem z_eXf (x : Exn) (i : Nat) (f : Str) (e : Fr) : eXf x i f e = (match e[i]? with
  | some .xn => (match x.flds.lookup f with
    | some d => .ok (.val d) e
    | none => .no)
  | _ => .no) := rfl
@[simp] theorem z_eXis (x : Exn) (i : Nat) (mi : Str → Option Bool) (e : Fr) : eXis x i mi e = (match e[i]? with
  | some .xn => (match mi x.cls with
    | some b => .ok (.val (.bool b)) e
    | none => .no)
  | _ => .no) := rfl
end DL
set_option Elab.async false
set_option linter.all false
set_option maxRecDepth 100000
set_option maxHeartbeats 4000000
/-! DlV2: pots of any law. -/
namespace DL
open PySem L2
/-- a pot is made of a script, whatever it holds -/
theorem pot_all {A B C E M S U V W N O : Int} (hM : 0 < M) (hM2 : M ≤ 2 ^ 31) (hS : 0 ≤ S) (hS2 : S ≤ 1000) (hN : 0 < N) (hN2 : N < 2147483640) (hO : 0 ≤ O) (hO2 : O ≤ 1) (hU : U = 2) (hV : V = 3) (hW : W = 3) (hC : C = 10) (hE : E = 18) (hA : A.natAbs < 2 ^ 31)
    {ns : List Int} {k : Nat} (hk : k < 64) :
    ∃ p, Pot p ∧ runF 2 3 (mPot A B C E M S U V W N O) [.sh (.list (ns.map PyData.int)), .sh (.int k)] = .ok (.own (.ls p)) [.sh (.list (ns.map PyData.int)), .sh (.int k)] := by
  subst hU hV hW hC hE
  have p5 : dPow (.int (2 * (k : Int) + 3)) (.int 3) = some (.int ((2 * (k : Int) + 3) ^ 3)) := by
    have l : (2 * (k : Int) + 3).natAbs < 2 ^ 64 := by omega
    exact if_pos ⟨by omega, by omega, l⟩
  have pw : ∀ i j : Int, 0 ≤ j → j ≤ 1000000 → i.natAbs < 2 ^ 64 → dPow (.int i) (.int j) = some (.int (i ^ j.toNat)) := fun i j h1 h2 h3 => if_pos ⟨h1, h2, h3⟩
  have p2 := pw 10 18 (by omega) (by omega) (by omega)
  generalize (10 : Int) ^ (18 : Int).toNat = T at p2
  have b3 : (2 * (k : Int) + 3).natAbs < 2 ^ 8 := by omega
  have bc : ((2 * (k : Int) + 3) ^ 3).natAbs < 2 ^ (8 + 8 + 8) := by
    have e : (2 * (k : Int) + 3) ^ 3 = (2 * (k : Int) + 3) * (2 * (k : Int) + 3) * (2 * (k : Int) + 3) := by
      rw [Int.pow_succ, Int.pow_succ, Int.pow_succ, Int.pow_zero, Int.one_mul]
    rw [e]
    exact abs_mul_lt (abs_mul_lt b3 b3) b3
  generalize (2 * (k : Int) + 3) ^ 3 = c at p5 bc
  have go : ∀ cell : Int, ((¬ (k : Int) < ns.length ∧ cell = A * (k : Int) + B) ∨ ((k : Int) < ns.length ∧ ∃ v, dIx (.list (ns.map PyData.int)) (.int k) = some (.int v) ∧ cell = if v < 0 then -v else v)) →
      ∃ p, Pot p ∧ runF 2 3 (mPot A B 10 18 M S 2 3 3 N O) [.sh (.list (ns.map PyData.int)), .sh (.int k)] = .ok (.own (.ls p)) [.sh (.list (ns.map PyData.int)), .sh (.int k)] := by
    intro cell hv
    have e3 : dMod (.int cell) (.int M) = some (.int (cell % M)) := by
      rw [fmod_ok (by omega), Int.fmod_eq_emod_of_nonneg _ (by omega)]
    have l1 : 0 ≤ cell % M := Int.emod_nonneg _ (by omega)
    have l2 : cell % M < M := Int.emod_lt_of_pos _ (by omega)
    generalize cell % M = r at e3 l1 l2
    have e6 : dMul (.int (r + S)) (.int c) = some (.int ((r + S) * c)) := mul_ok (m := 32) (by omega) bc (by omega)
    have e7 : dMod (.int ((r + S) * c)) (.int N) = some (.int (((r + S) * c) % N)) := by
      rw [fmod_ok (by omega), Int.fmod_eq_emod_of_nonneg _ (by omega)]
    have l3 : 0 ≤ ((r + S) * c) % N := Int.emod_nonneg _ (by omega)
    have l4 : ((r + S) * c) % N < N := Int.emod_lt_of_pos _ (by omega)
    generalize ((r + S) * c) % N = z at e7 l3 l4
    have e1 : dMul (.int A) (.int k) = some (.int (A * (k : Int))) := mul_ok (m := 31) (n := 6) hA (by omega) (by omega)
    have e4 : dMul (.int 2) (.int k) = some (.int (2 * (k : Int))) := mul_ok (m := 2) (n := 6) (by omega) (by omega) (by omega)
    refine ⟨_, ⟨⟨_, _, rfl, ?_, ?_, ?_⟩⟩, pot_gen (len := ns.length) (by rw [z_bLen1, List.length_map]) e1 hv p2 e3 e4 p5 e6 e7⟩
    · split <;> omega
    · omega
    · omega
  by_cases h : k < ns.length
  · refine go _ (.inr ⟨by omega, ns[k], ?_, rfl⟩)
    have i1 : L2.ixN (ns.map PyData.int).length (k : Int) = some k := by
      simp only [L2.ixN, List.length_map]
      rw [if_pos (by omega), if_pos (by omega)]
      rfl
    show (L2.ixN (ns.map PyData.int).length (k : Int)).bind _ = _
    rw [i1]
    show (ns.map PyData.int)[k]? = _
    rw [List.getElem?_map, List.getElem?_eq_getElem h]
    rfl
  · exact go _ (.inl ⟨by omega, rfl⟩)
end DL
set_option Elab.async false
set_option linter.all false
set_option maxRecDepth 100000
set_option maxHeartbeats 4000000
/-! DlVT: pots and draws, where * and int(..) stand for texts, too. -/
namespace DL
open PySem L2
def mDrawT (A B M N S : Int) : Sf := (sSeq (sIf (tOf (eOp2 dGt (eOp2 dIx (eVar 0) (eC (.int 0))) (eC (.int 0)))) (sSeq (sAsg (eCall bDivmod (aCons (eOp2 dIx (eVar 0) (eC (.int 0))) (aCons (eVar 1) aNil))) (gTupF (gsCons (gSubF (eVar 0) (eC (.int 0))) (gsCons (gSet 2) gsNil)))) (sRet (eR (eVar 2)))) sNil) (sSeq (sAsg (eOp2 dMod (eCall bIntT (aCons (eOp2 dAdd (eOp2 dMulT (eOp2 dIx (eVar 0) (eC (.int 1))) (eC (.int A))) (eC (.int B))) aNil)) (eC (.int M))) (gSubF (eVar 0) (eC (.int 1)))) (sRet (eR (eOp2 dMod (eCall bIntT (aCons (eOp2 dFdiv (eOp2 dMod (eCall bIntT (aCons (eOp2 dMulT (eOp2 dIx (eVar 0) (eC (.int 1))) (eOp2 dIx (eVar 0) (eC (.int 1)))) aNil)) (eC (.int N))) (eC (.int S))) aNil)) (eVar 1))))))
theorem draw_lowT {A B M N S : Int} {a b c c1 g h q r : Int} (z : ¬ 0 < a) (e1 : dMulT (.int b) (.int A) = some (.int c1))
 (e2 : dMod (.int (c1 + B)) (.int M) = some (.int c)) (e3 :  dMulT (.int c) (.int c) = some (.int (c * c)))
 (e4 : dMod (.int (c * c)) (.int N) = some (.int g)) (e5 : dFdiv (.int g) (.int S) = some (.int h)) (e6 : dMod (.int h) (.int r) = some (.int q)) :
 runF 2 3 (mDrawT A B M N S) [.io (.ls [.int a, .int b]), .sh (.int r)] = .ok (.sh (.int q)) [.io (.ls [.int a, .int c]), .sh (.int r)] := by
    simp [mDrawT, z, e1, e2, e3, e4, e5, e6, ixN]
theorem draw_highT {A B M N S : Int} {a b r : Int} (z : 0 < a) (e : bDivmod [.int a, .int r] = some (.tuple [.int (a / r), .int (a % r)])) :
 runF 2 3 (mDrawT A B M N S) [.io (.ls [.int a, .int b]), .sh (.int r)] = .ok (.sh (.int (a % r))) [.io (.ls [.int (a/r), .int b]), .sh (.int r)] := by
    simp [mDrawT, z, e, ixN]
theorem draw_okT {A B M N S : Int} (hA : A.natAbs < 2 ^ 31) (hM : 0 < M) (hM2 : M ≤ 2 ^ 31) (hN : 0 < N) (hS : 0 < S) (hS2 : S < 2 ^ 31) {p : List D} (P : Pot p) {r : Int} (h0 : 0 < r) (h1 : r < 1000000000) :
    ∃ p' dg, Pot p' ∧ 0 ≤ dg ∧ dg < r ∧ runF 2 3 (mDrawT A B M N S) [.io (.ls p), .sh (.int r)] = .ok (.sh (.int dg)) [.io (.ls p'), .sh (.int r)] := by
  obtain ⟨a, b, rfl, ha, hb, hb2⟩ := P.ex
  by_cases z : 0 < a
  · have e : bDivmod [.int a, .int r] = some (.tuple [.int (a / r), .int (a % r)]) := if_pos ⟨h0, by
      have := (Nat.log2_lt (n := r.natAbs) (k := 30) (by omega)).mpr (by omega)
      omega⟩
    exact ⟨[.int (a / r), .int b], a % r, ⟨⟨_, _, rfl, Int.ediv_nonneg ha (by omega), hb, hb2⟩⟩, Int.emod_nonneg _ (by omega), Int.emod_lt_of_pos _ h0, draw_highT z e⟩
  · have e1 : dMulT (.int b) (.int A) = some (.int (b * A)) := mulT_ok (m := 31) (n := 31) (by omega) hA (by omega)
    have e2 : dMod (.int (b * A + B)) (.int M) = some (.int ((b * A + B) % M)) := by
      rw [fmod_ok (by omega), Int.fmod_eq_emod_of_nonneg _ (by omega)]
    have l1 : 0 ≤ (b * A + B) % M := Int.emod_nonneg _ (by omega)
    have l2 : (b * A + B) % M < M := Int.emod_lt_of_pos _ (by omega)
    generalize (b * A + B) % M = c at e2 l1 l2
    have e3 : dMulT (.int c) (.int c) = some (.int (c * c)) := mulT_ok (m := 31) (n := 31) (by omega) (by omega) (by omega)
    have e4 : dMod (.int (c * c)) (.int N) = some (.int ((c * c) % N)) := by
      rw [fmod_ok (by omega), Int.fmod_eq_emod_of_nonneg _ (by omega)]
    generalize (c * c) % N = g at e4
    have e5 : dFdiv (.int g) (.int S) = some (.int (g / S)) := by
      rw [fdiv_ok (n := 31) (by omega) (by omega) (by omega), Int.fdiv_eq_ediv_of_nonneg _ (by omega)]
    have e6 : dMod (.int (g / S)) (.int r) = some (.int ((g / S) % r)) := by
      rw [fmod_ok (by omega), Int.fmod_eq_emod_of_nonneg _ (by omega)]
    exact ⟨[.int a, .int c], (g / S) % r, ⟨⟨_, _, rfl, ha, l1, by omega⟩⟩, Int.emod_nonneg _ (by omega), Int.emod_lt_of_pos _ h0, draw_lowT z e1 e2 e3 e4 e5 e6⟩
/-! ### the pot -/
def mPotT (A B C E M S U V W N O : Int) : Sf := (sSeq (sSet 2 (eR (eOp2 dAdd (eOp2 dMulT (eC (.int A)) (eVar 1)) (eC (.int B))))) (sSeq (sIf (tOf (eOp2 dLt (eVar 1) (eCall bLen (aCons (eVar 0) aNil)))) (sSet 2 (eR (eCall bAbs (aCons (eOp2 dIx (eVar 0) (eVar 1)) aNil)))) sNil) (sRet (eLst (aCons (eCall bMax2 (aCons (eC (.int 0)) (aCons (eOp2 dSub (eVar 2) (eOp2 dPow (eC (.int C)) (eC (.int E)))) aNil))) (aCons (eOp2 dAdd (eOp2 dMod (eOp2 dMulT (eCall bIntT (aCons (eOp2 dAdd (eOp2 dMod (eCall bIntT (aCons (eVar 2) aNil)) (eC (.int M))) (eC (.int S))) aNil)) (eOp2 dPow (eOp2 dAdd (eOp2 dMulT (eC (.int U)) (eVar 1)) (eC (.int V))) (eC (.int W)))) (eC (.int N))) (eC (.int O))) aNil))))))
theorem pot_genT {A B C E M S U V W N O k k1 k2 len cell T r c y z : Int} {script : D} (hl : bLen [script] = some (.int len)) (e1 : dMulT (.int A) (.int k) = some (.int k1))
    (hv : (¬ k < len ∧ cell = k1 + B) ∨ (k < len ∧ ∃ v, dIx script (.int k) = some (.int v) ∧ cell = if v < 0 then -v else v)) (e2 : dPow (.int C) (.int E) = some (.int T)) (e3 : dMod (.int cell) (.int M) = some (.int r))
    (e4 : dMulT (.int U) (.int k) = some (.int k2)) (e5 : dPow (.int (k2 + V)) (.int W) = some (.int c)) (e6 : dMulT (.int (r + S)) (.int c) = some (.int y)) (e7 : dMod (.int y) (.int N) = some (.int z)) :
    runF 2 3 (mPotT A B C E M S U V W N O) [.sh script, .sh (.int k)] = .ok (.own (.ls [.int (if cell - T > 0 then cell - T else 0), .int (z + O)])) [.sh script, .sh (.int k)] := by
  rcases hv with ⟨hk, hc⟩ | ⟨hk, v, hd, hc⟩
  · subst hc
    simp [mPotT, hl, e1, hk, e2, e3, e4, e5, e6, e7]
  · rw [hc] at e3 ⊢
    simp [mPotT, hl, e1, hk, hd, e2, e3, e4, e5, e6, e7]
/-- a pot is made of a script, whatever it holds -/
theorem pot_allT {A B C E M S U V W N O : Int} (hM : 0 < M) (hM2 : M ≤ 2 ^ 31) (hS : 0 ≤ S) (hS2 : S ≤ 1000) (hN : 0 < N) (hN2 : N < 2147483640) (hO : 0 ≤ O) (hO2 : O ≤ 1) (hU : U = 2) (hV : V = 3) (hW : W = 3) (hC : C = 10) (hE : E = 18) (hA : A.natAbs < 2 ^ 31)
    {ns : List Int} {k : Nat} (hk : k < 64) :
    ∃ p, Pot p ∧ runF 2 3 (mPotT A B C E M S U V W N O) [.sh (.list (ns.map PyData.int)), .sh (.int k)] = .ok (.own (.ls p)) [.sh (.list (ns.map PyData.int)), .sh (.int k)] := by
  subst hU hV hW hC hE
  have p5 : dPow (.int (2 * (k : Int) + 3)) (.int 3) = some (.int ((2 * (k : Int) + 3) ^ 3)) := by
    have l : (2 * (k : Int) + 3).natAbs < 2 ^ 64 := by omega
    exact if_pos ⟨by omega, by omega, l⟩
  have pw : ∀ i j : Int, 0 ≤ j → j ≤ 1000000 → i.natAbs < 2 ^ 64 → dPow (.int i) (.int j) = some (.int (i ^ j.toNat)) := fun i j h1 h2 h3 => if_pos ⟨h1, h2, h3⟩
  have p2 := pw 10 18 (by omega) (by omega) (by omega)
  generalize (10 : Int) ^ (18 : Int).toNat = T at p2
  have b3 : (2 * (k : Int) + 3).natAbs < 2 ^ 8 := by omega
  have bc : ((2 * (k : Int) + 3) ^ 3).natAbs < 2 ^ (8 + 8 + 8) := by
    have e : (2 * (k : Int) + 3) ^ 3 = (2 * (k : Int) + 3) * (2 * (k : Int) + 3) * (2 * (k : Int) + 3) := by
      rw [Int.pow_succ, Int.pow_succ, Int.pow_succ, Int.pow_zero, Int.one_mul]
    rw [e]
    exact abs_mul_lt (abs_mul_lt b3 b3) b3
  generalize (2 * (k : Int) + 3) ^ 3 = c at p5 bc
  have go : ∀ cell : Int, ((¬ (k : Int) < ns.length ∧ cell = A * (k : Int) + B) ∨ ((k : Int) < ns.length ∧ ∃ v, dIx (.list (ns.map PyData.int)) (.int k) = some (.int v) ∧ cell = if v < 0 then -v else v)) →
      ∃ p, Pot p ∧ runF 2 3 (mPotT A B 10 18 M S 2 3 3 N O) [.sh (.list (ns.map PyData.int)), .sh (.int k)] = .ok (.own (.ls p)) [.sh (.list (ns.map PyData.int)), .sh (.int k)] := by
    intro cell hv
    have e3 : dMod (.int cell) (.int M) = some (.int (cell % M)) := by
      rw [fmod_ok (by omega), Int.fmod_eq_emod_of_nonneg _ (by omega)]
    have l1 : 0 ≤ cell % M := Int.emod_nonneg _ (by omega)
    have l2 : cell % M < M := Int.emod_lt_of_pos _ (by omega)
    generalize cell % M = r at e3 l1 l2
    have e6 : dMulT (.int (r + S)) (.int c) = some (.int ((r + S) * c)) := mulT_ok (m := 32) (by omega) bc (by omega)
    have e7 : dMod (.int ((r + S) * c)) (.int N) = some (.int (((r + S) * c) % N)) := by
      rw [fmod_ok (by omega), Int.fmod_eq_emod_of_nonneg _ (by omega)]
    have l3 : 0 ≤ ((r + S) * c) % N := Int.emod_nonneg _ (by omega)
    have l4 : ((r + S) * c) % N < N := Int.emod_lt_of_pos _ (by omega)
    generalize ((r + S) * c) % N = z at e7 l3 l4
    have e1 : dMulT (.int A) (.int k) = some (.int (A * (k : Int))) := mulT_ok (m := 31) (n := 6) hA (by omega) (by omega)
    have e4 : dMulT (.int 2) (.int k) = some (.int (2 * (k : Int))) := mulT_ok (m := 2) (n := 6) (by omega) (by omega) (by omega)
    refine ⟨_, ⟨⟨_, _, rfl, ?_, ?_, ?_⟩⟩, pot_genT (len := ns.length) (by rw [z_bLen1, List.length_map]) e1 hv p2 e3 e4 p5 e6 e7⟩
    · split <;> omega
    · omega
    · omega
  by_cases h : k < ns.length
  · refine go _ (.inr ⟨by omega, ns[k], ?_, rfl⟩)
    have i1 : L2.ixN (ns.map PyData.int).length (k : Int) = some k := by
      simp only [L2.ixN, List.length_map]
      rw [if_pos (by omega), if_pos (by omega)]
      rfl
    show (L2.ixN (ns.map PyData.int).length (k : Int)).bind _ = _
    rw [i1]
    show (ns.map PyData.int)[k]? = _
    rw [List.getElem?_map, List.getElem?_eq_getElem h]
    rfl
  · exact go _ (.inl ⟨by omega, rfl⟩)
end DL
set_option Elab.async false
set_option linter.all false
set_option maxRecDepth 100000
set_option maxHeartbeats 4000000
/-! printed by gen.py: the frame function of each def, and that the def keeps it -/
namespace K11
open PySem PySem.Spec PyProof.Rows L2 DL
noncomputable section
def top (i : Nat) : Stmt := PySem.Challenge.pw_websolids_k11_whole_ratios_and_texts.main.body.getD i (.Pass ⟨0, 0, 0, 0⟩)
abbrev FnP (K : PySem.W.Frag) (x : Str) (st : Stmt) (f : Addr) (fd : FuncData) : Prop := FunD K x x (defArgs st) (defBody st) (defScope st) [] [] f fd
abbrev si_WebError : Stmt := (clsBody (top 2)).getD 0 (.Pass ⟨0, 0, 0, 0⟩)
theorem sci_WebError : FnScope (["self", "value"] : List Str) ["self", "value"] (defScope si_WebError) := ⟨rfl, rfl, rfl, by decide +kernel, rfl, by decide +kernel, by decide +kernel⟩
abbrev si_BadText : Stmt := (clsBody (top 6)).getD 0 (.Pass ⟨0, 0, 0, 0⟩)
theorem sci_BadText : FnScope (["self", "position"] : List Str) ["self", "position"] (defScope si_BadText) := ⟨rfl, rfl, rfl, by decide +kernel, rfl, by decide +kernel, by decide +kernel⟩
def mi_WebError (y : Str) : Option Bool := if y = "InvalidText" then some true else if y = "BadText" then some true else if y = "InvalidRatio" then some true else if y = "NoQuotient" then some false else if y = "InvalidInteger" then some true else none
def mt_BadText (y : Str) : Option Bool := if y = "InvalidText" then some false else if y = "BadText" then some true else if y = "InvalidRatio" then some false else if y = "NoQuotient" then some false else if y = "InvalidInteger" then some false else none
abbrev s__law_pot : Stmt := top 26
def N__law_pot : List Str := ["_law_script", "_law_k", "_law_cell"]
def m__law_pot : Sf := (sSeq (sSet 2 (eR (eOp2 dAdd (eOp2 dMulT (eC (.int 103)) (eVar 1)) (eC (.int 53))))) (sSeq (sIf (tOf (eOp2 dLt (eVar 1) (eCall bLen (aCons (eVar 0) aNil)))) (sSet 2 (eR (eCall bAbs (aCons (eOp2 dIx (eVar 0) (eVar 1)) aNil)))) sNil) (sRet (eLst (aCons (eCall bMax2 (aCons (eC (.int 0)) (aCons (eOp2 dSub (eVar 2) (eOp2 dPow (eC (.int 10)) (eC (.int 18)))) aNil))) (aCons (eOp2 dAdd (eOp2 dMod (eOp2 dMulT (eCall bIntT (aCons (eOp2 dAdd (eOp2 dMod (eCall bIntT (aCons (eVar 2) aNil)) (eC (.int 2147483549))) (eC (.int 53))) aNil)) (eOp2 dPow (eOp2 dAdd (eOp2 dMulT (eC (.int 2)) (eVar 1)) (eC (.int 3))) (eC (.int 3)))) (eC (.int 2147483477))) (eC (.int 1))) aNil))))))
def F__law_pot : Fn := runF 2 3 m__law_pot
theorem sc__law_pot : FnScope (["_law_script", "_law_k", "_law_cell"] : List Str) ["_law_script", "_law_k"] (defScope s__law_pot) := ⟨rfl, rfl, rfl, by decide +kernel, rfl, by decide +kernel, by decide +kernel⟩
abbrev s_made_ratio : Stmt := top 16
def N_made_ratio : List Str := ["number", "under", "part"]
def m_made_ratio : Sf := (sSeq (sSet 2 (eR (eCall bGcd (aCons (eVar 0) (aCons (eVar 1) aNil))))) (sSeq (sIf (tOf (eOp2 dLt (eVar 1) (eC (.int 0)))) (sSet 2 (eR (eOp2 dSub (eC (.int 0)) (eVar 2)))) sNil) (sRet (eR (eTup (aCons (eOp2 dFdiv (eVar 0) (eVar 2)) (aCons (eOp2 dFdiv (eVar 1) (eVar 2)) aNil)))))))
def F_made_ratio : Fn := runF 2 3 m_made_ratio
theorem sc_made_ratio : FnScope (["number", "under", "part"] : List Str) ["number", "under"] (defScope s_made_ratio) := ⟨rfl, rfl, rfl, by decide +kernel, rfl, by decide +kernel, by decide +kernel⟩
abbrev s_is_integer : Stmt := top 10
def N_is_integer : List Str := ["value"]
def m_is_integer : Sf := (sRet (eR (eAnd (eIsi .int (eVar 0)) (eNot (eIsi .bool (eVar 0))))))
def F_is_integer : Fn := runF 1 1 m_is_integer
theorem sc_is_integer : FnScope (["value"] : List Str) ["value"] (defScope s_is_integer) := ⟨rfl, rfl, rfl, by decide +kernel, rfl, by decide +kernel, by decide +kernel⟩
abbrev s_want_integer : Stmt := top 19
def N_want_integer : List Str := ["value"]
def m_want_integer : Sf := (sIf (tOrF (tNotF (tTr (eFz (eFnC F_is_integer [false] (aCons (eVar 0) aNil))))) (tOf (eOp2 dGe (eCall bAbs (aCons (eVar 0) aNil)) (eC (.int (10000000000000000000000000000000000000000)))))) (sRaise1 "InvalidInteger" "value" (eVar 0)) sNil)
def F_want_integer : Fn := runF 1 1 m_want_integer
theorem sc_want_integer : FnScope (["value"] : List Str) ["value"] (defScope s_want_integer) := ⟨rfl, rfl, rfl, by decide +kernel, rfl, by decide +kernel, by decide +kernel⟩
abbrev s_ratio : Stmt := top 20
def N_ratio : List Str := ["number", "under"]
def m_ratio : Sf := (sSeq (sDrop (eFz (eFnC F_want_integer [false] (aCons (eVar 0) aNil)))) (sSeq (sDrop (eFz (eFnC F_want_integer [false] (aCons (eVar 1) aNil)))) (sSeq (sIf (tOf (eOp2 dEq (eVar 1) (eC (.int 0)))) (sRaise ⟨"NoQuotient", []⟩) sNil) (sRet (eFnC F_made_ratio [false, false] (aCons (eVar 0) (aCons (eVar 1) aNil)))))))
def F_ratio : Fn := runF 2 2 m_ratio
theorem sc_ratio : FnScope (["number", "under"] : List Str) ["number", "under"] (defScope s_ratio) := ⟨rfl, rfl, rfl, by decide +kernel, rfl, by decide +kernel, by decide +kernel⟩
abbrev s_is_ratio : Stmt := top 17
def N_is_ratio : List Str := ["value"]
def m_is_ratio : Sf := (sSeq (sIf (tOrF (tNotF (tTr (eIsi .tuple (eVar 0)))) (tOrF (tOf (eOp2 dNe (eCall bLen (aCons (eVar 0) aNil)) (eC (.int 2)))) (tOrF (tNotF (tTr (eFz (eFnC F_is_integer [false] (aCons (eOp2 dIx (eVar 0) (eC (.int 0))) aNil))))) (tNotF (tTr (eFz (eFnC F_is_integer [false] (aCons (eOp2 dIx (eVar 0) (eC (.int 1))) aNil)))))))) (sRet (eR (eC (.bool false)))) sNil) (sRet (eR (eAnd (eOp2 dGe (eOp2 dIx (eVar 0) (eC (.int 1))) (eC (.int 1))) (eOp2 dEq (eCall bGcd (aCons (eOp2 dIx (eVar 0) (eC (.int 0))) (aCons (eOp2 dIx (eVar 0) (eC (.int 1))) aNil))) (eC (.int 1)))))))
def F_is_ratio : Fn := runF 1 1 m_is_ratio
theorem sc_is_ratio : FnScope (["value"] : List Str) ["value"] (defScope s_is_ratio) := ⟨rfl, rfl, rfl, by decide +kernel, rfl, by decide +kernel, by decide +kernel⟩
abbrev s_want_ratio : Stmt := top 18
def N_want_ratio : List Str := ["value"]
def m_want_ratio : Sf := (sSeq (sIf (tNotF (tTr (eFz (eFnC F_is_ratio [false] (aCons (eVar 0) aNil))))) (sRaise1 "InvalidRatio" "value" (eVar 0)) sNil) (sRet (eR (eVar 0))))
def F_want_ratio : Fn := runF 1 1 m_want_ratio
theorem sc_want_ratio : FnScope (["value"] : List Str) ["value"] (defScope s_want_ratio) := ⟨rfl, rfl, rfl, by decide +kernel, rfl, by decide +kernel, by decide +kernel⟩
abbrev s_ratio_text : Stmt := top 21
def N_ratio_text : List Str := ["ratio", "number", "under"]
def m_ratio_text : Sf := (sSeq (sAsg (eFz (eFnC F_want_ratio [false] (aCons (eVar 0) aNil))) (gSeqF (gsCons (gSet 1) (gsCons (gSet 2) gsNil)))) (sRet (eR (eIf (tOf (eOp2 dEq (eVar 2) (eC (.int 1)))) (eCall bStr (aCons (eVar 1) aNil)) (eOp2 dAdd (eOp2 dAdd (eCall bStr (aCons (eVar 1) aNil)) (eC (.str "/"))) (eCall bStr (aCons (eVar 2) aNil)))))))
def F_ratio_text : Fn := runF 1 3 m_ratio_text
theorem sc_ratio_text : FnScope (["ratio", "number", "under"] : List Str) ["ratio"] (defScope s_ratio_text) := ⟨rfl, rfl, rfl, by decide +kernel, rfl, by decide +kernel, by decide +kernel⟩
abbrev s_whole_power : Stmt := top 11
def N_whole_power : List Str := ["number", "many", "found", "turn"]
def m_whole_power : Sf := (sSeq (sSet 2 (eR (eC (.int 1)))) (sSeq (sFor (iRng1F (aCons (eVar 1) aNil)) (gSet 3) (sSet 2 (eR (eOp2 dMulT (eVar 2) (eVar 0))))) (sRet (eR (eVar 2)))))
def F_whole_power : Fn := runF 2 4 m_whole_power
theorem sc_whole_power : FnScope (["number", "many", "found", "turn"] : List Str) ["number", "many"] (defScope s_whole_power) := ⟨rfl, rfl, rfl, by decide +kernel, rfl, by decide +kernel, by decide +kernel⟩
abbrev s_is_nought : Stmt := top 23
def N_is_nought : List Str := ["digits", "sign"]
def m_is_nought : Sf := (sRet (eR (eCall bAll (aCons (eFz (eLc (iSeq (eVar 0)) (gSet 1) tYesF (eOp2 dEq (eVar 1) (eC (.str "0"))) [1])) aNil))))
def F_is_nought : Fn := runF 1 2 m_is_nought
theorem sc_is_nought : FnScope (["digits", "sign"] : List Str) ["digits"] (defScope s_is_nought) := ⟨rfl, rfl, rfl, by decide +kernel, rfl, by decide +kernel, by decide +kernel⟩
abbrev s_digits_end : Stmt := top 22
def N_digits_end : List Str := ["text", "place", "is_under", "end", "is_last"]
def m_digits_end : Sf := (sSeq (sSet 3 (eR (eVar 1))) (sSeq (sWhile (tAndF (tOf (eOp2 dLt (eVar 3) (eCall bLen (aCons (eVar 0) aNil)))) (tAndF (tOf (eOp2 dInT (eOp2 dIx (eVar 0) (eVar 3)) (eC (.str "0123456789")))) (tOf (eOp2 dLt (eOp2 dSub (eVar 3) (eVar 1)) (eC (.int (40))))))) (sSeq (sSet 4 (eR (eOp2 dEq (eOp2 dSub (eVar 3) (eVar 1)) (eOp2 dSub (eC (.int (40))) (eC (.int 1)))))) (sSeq (sIf (tAndF (tTr (eVar 2)) (tAndF (tTr (eVar 4)) (tAndF (tOf (eOp2 dEq (eOp2 dIx (eVar 0) (eVar 3)) (eC (.str "0")))) (tTr (eFz (eFnC F_is_nought [false] (aCons (eFz (eCut (eVar 0) (oSome (eVar 1)) (oSome (eVar 3)))) aNil))))))) (sRet (eR (eVar 3))) sNil) (sSet 3 (eR (eOp2 dAdd (eVar 3) (eC (.int 1)))))))) (sRet (eR (eVar 3)))))
def F_digits_end : Fn := runF 3 5 m_digits_end
theorem sc_digits_end : FnScope (["text", "place", "is_under", "end", "is_last"] : List Str) ["text", "place", "is_under"] (defScope s_digits_end) := ⟨rfl, rfl, rfl, by decide +kernel, rfl, by decide +kernel, by decide +kernel⟩
abbrev s_parse_ratio : Stmt := top 24
def N_parse_ratio : List Str := ["text", "first", "end", "number", "under", "sign", "late", "digits"]
def m_parse_ratio : Sf := (sSeq (sIf (tNotF (tTr (eIsi .str (eVar 0)))) (sRaise1 "InvalidText" "value" (eVar 0)) sNil) (sSeq (sSet 1 (eR (eIf (tOf (eOp2 dEq (eFz (eCut (eVar 0) oNone (oSome (eC (.int 1))))) (eC (.str "-")))) (eC (.int 1)) (eC (.int 0))))) (sSeq (sSet 2 (eFnC F_digits_end [false, false, false] (aCons (eVar 0) (aCons (eVar 1) (aCons (eC (.bool false)) aNil))))) (sSeq (sIf (tOf (eOp2 dEq (eVar 2) (eVar 1))) (sRaise1 "BadText" "position" (eVar 2)) sNil) (sSeq (sPar3 3 4 5 (eR (eCall bIntT (aCons (eFz (eCut (eVar 0) (oSome (eVar 1)) (oSome (eVar 2)))) aNil))) (eR (eC (.int 1))) (eCut (eVar 0) (oSome (eVar 2)) (oSome (eOp2 dAdd (eVar 2) (eC (.int 1)))))) (sSeq (sIf (tOf (eOp2 dInT (eVar 5) (eTup (aCons (eC (.str "/")) (aCons (eC (.str ".")) aNil))))) (sSeq (sSet 6 (eFnC F_digits_end [false, false, false] (aCons (eVar 0) (aCons (eOp2 dAdd (eVar 2) (eC (.int 1))) (aCons (eOp2 dEq (eVar 5) (eC (.str "/"))) aNil))))) (sSeq (sSet 7 (eCut (eVar 0) (oSome (eOp2 dAdd (eVar 2) (eC (.int 1)))) (oSome (eVar 6)))) (sSeq (sIf (tOrF (tOf (eOp2 dEq (eVar 7) (eC (.str "")))) (tOrF (tOf (eOp2 dLt (eVar 6) (eCall bLen (aCons (eVar 0) aNil)))) (tAndF (tOf (eOp2 dEq (eVar 5) (eC (.str "/")))) (tTr (eFz (eFnC F_is_nought [false] (aCons (eVar 7) aNil))))))) (sRaise1 "BadText" "position" (eVar 6)) sNil) (sSeq (sSet 4 (eIfR (tOf (eOp2 dEq (eVar 5) (eC (.str "/")))) (eR (eCall bIntT (aCons (eVar 7) aNil))) (eFnC F_whole_power [false, false] (aCons (eC (.int 10)) (aCons (eCall bLen (aCons (eVar 7) aNil)) aNil))))) (sSeq (sSet 3 (eR (eIf (tOf (eOp2 dEq (eVar 5) (eC (.str "/")))) (eVar 3) (eOp2 dAdd (eOp2 dMulT (eVar 3) (eVar 4)) (eCall bIntT (aCons (eVar 7) aNil)))))) (sSet 2 (eR (eVar 6)))))))) sNil) (sSeq (sIf (tOf (eOp2 dLt (eVar 2) (eCall bLen (aCons (eVar 0) aNil)))) (sRaise1 "BadText" "position" (eVar 2)) sNil) (sRet (eFnC F_made_ratio [false, false] (aCons (eIf (tOf (eOp2 dEq (eVar 1) (eC (.int 1)))) (eOp2 dSub (eC (.int 0)) (eVar 3)) (eVar 3)) (aCons (eVar 4) aNil)))))))))))
def F_parse_ratio : Fn := runF 1 8 m_parse_ratio
theorem sc_parse_ratio : FnScope (["text", "first", "end", "number", "under", "sign", "late", "digits"] : List Str) ["text"] (defScope s_parse_ratio) := ⟨rfl, rfl, rfl, by decide +kernel, rfl, by decide +kernel, by decide +kernel⟩
abbrev s__law_gcd : Stmt := top 30
def N__law_gcd : List Str := ["_law_one_here", "_law_other"]
def m__law_gcd : Sf := (sSeq (sWhile (tOf (eOp2 dNe (eVar 1) (eC (.int 0)))) (sPar 0 1 (eR (eVar 1)) (eR (eOp2 dMod (eVar 0) (eVar 1))))) (sRet (eR (eCall bAbs (aCons (eVar 0) aNil)))))
def F__law_gcd : Fn := runF 2 2 m__law_gcd
theorem sc__law_gcd : FnScope (["_law_one_here", "_law_other"] : List Str) ["_law_one_here", "_law_other"] (defScope s__law_gcd) := ⟨rfl, rfl, rfl, by decide +kernel, rfl, by decide +kernel, by decide +kernel⟩
abbrev s__law_ratio : Stmt := top 31
def N__law_ratio : List Str := ["_law_number_here", "_law_under", "_law_shared", "_law_sign"]
def m__law_ratio : Sf := (sSeq (sSet 2 (eFnC F__law_gcd [false, false] (aCons (eVar 0) (aCons (eVar 1) aNil)))) (sSeq (sSet 3 (eR (eIf (tOf (eOp2 dGt (eVar 1) (eC (.int 0)))) (eC (.int 1)) (eOp1 dNeg (eC (.int 1)))))) (sRet (eR (eTup (aCons (eOp2 dFdiv (eOp2 dMulT (eVar 3) (eVar 0)) (eVar 2)) (aCons (eOp2 dFdiv (eOp2 dMulT (eVar 3) (eVar 1)) (eVar 2)) aNil)))))))
def F__law_ratio : Fn := runF 2 4 m__law_ratio
theorem sc__law_ratio : FnScope (["_law_number_here", "_law_under", "_law_shared", "_law_sign"] : List Str) ["_law_number_here", "_law_under"] (defScope s__law_ratio) := ⟨rfl, rfl, rfl, by decide +kernel, rfl, by decide +kernel, by decide +kernel⟩
abbrev s__law_draw : Stmt := top 27
def N__law_draw : List Str := ["_law_pot_here", "_law_room", "_law_digit"]
def m__law_draw : Sf := (sSeq (sIf (tOf (eOp2 dGt (eOp2 dIx (eVar 0) (eC (.int 0))) (eC (.int 0)))) (sSeq (sAsg (eCall bDivmod (aCons (eOp2 dIx (eVar 0) (eC (.int 0))) (aCons (eVar 1) aNil))) (gTupF (gsCons (gSubF (eVar 0) (eC (.int 0))) (gsCons (gSet 2) gsNil)))) (sRet (eR (eVar 2)))) sNil) (sSeq (sAsg (eOp2 dMod (eCall bIntT (aCons (eOp2 dAdd (eOp2 dMulT (eOp2 dIx (eVar 0) (eC (.int 1))) (eC (.int 48271))) (eC (.int 18116))) aNil)) (eC (.int 2147483587))) (gSubF (eVar 0) (eC (.int 1)))) (sRet (eR (eOp2 dMod (eCall bIntT (aCons (eOp2 dFdiv (eOp2 dMod (eCall bIntT (aCons (eOp2 dMulT (eOp2 dIx (eVar 0) (eC (.int 1))) (eOp2 dIx (eVar 0) (eC (.int 1)))) aNil)) (eC (.int 2147483549))) (eC (.int 73))) aNil)) (eVar 1))))))
def F__law_draw : Fn := runF 2 3 m__law_draw
theorem sc__law_draw : FnScope (["_law_pot_here", "_law_room", "_law_digit"] : List Str) ["_law_pot_here", "_law_room"] (defScope s__law_draw) := ⟨rfl, rfl, rfl, by decide +kernel, rfl, by decide +kernel, by decide +kernel⟩
abbrev s__law_pick : Stmt := top 28
def N__law_pick : List Str := ["_law_pot_here", "_law_some"]
def m__law_pick : Sf := (sRet (eR (eOp2 dIx (eVar 1) (eFz (eFnC F__law_draw [true, false] (aCons (eVar 0) (aCons (eCall bLen (aCons (eVar 1) aNil)) aNil)))))))
def F__law_pick : Fn := runF 2 2 m__law_pick
theorem sc__law_pick : FnScope (["_law_pot_here", "_law_some"] : List Str) ["_law_pot_here", "_law_some"] (defScope s__law_pick) := ⟨rfl, rfl, rfl, by decide +kernel, rfl, by decide +kernel, by decide +kernel⟩
abbrev s__law_one : Stmt := top 29
def N__law_one : List Str := []
def m__law_one : Sf := (sRet (eR (eOp2 dPow (eC (.int 2)) (eC (.int 40)))))
def F__law_one : Fn := runF 0 0 m__law_one
theorem sc__law_one : FnScope ([] : List Str) [] (defScope s__law_one) := ⟨rfl, rfl, rfl, by decide +kernel, rfl, by decide +kernel, by decide +kernel⟩
abbrev s__law_size : Stmt := top 32
def N__law_size : List Str := ["_law_pot_here", "_law_way"]
def m__law_size : Sf := (sSeq (sSet 1 (eFnC F__law_draw [true, false] (aCons (eVar 0) (aCons (eC (.int 6)) aNil)))) (sSeq (sIf (tOf (eOp2 dEq (eVar 1) (eC (.int 0)))) (sRet (eFnC F__law_pick [true, false] (aCons (eVar 0) (aCons (eFz (eLst (aCons (eC (.int 0)) (aCons (eC (.int 1)) (aCons (eC (.int 2)) (aCons (eC (.int 3)) aNil)))))) aNil)))) sNil) (sSeq (sIf (tOf (eOp2 dEq (eVar 1) (eC (.int 1)))) (sRet (eR (eOp2 dFdiv (eOp2 dMulT (eFz (eFnC F__law_pick [true, false] (aCons (eVar 0) (aCons (eFz (eLst (aCons (eC (.int 1)) (aCons (eC (.int 2)) (aCons (eC (.int 3)) (aCons (eC (.int 5)) aNil)))))) aNil)))) (eFz (eFnC F__law_one [] aNil))) (eFz (eFnC F__law_pick [true, false] (aCons (eVar 0) (aCons (eFz (eLst (aCons (eC (.int 1)) (aCons (eC (.int 2)) (aCons (eC (.int 4)) (aCons (eC (.int 3)) aNil)))))) aNil))))))) sNil) (sSeq (sIf (tOf (eOp2 dEq (eVar 1) (eC (.int 2)))) (sRet (eR (eOp2 dAdd (eC (.int 1)) (eFz (eFnC F__law_draw [true, false] (aCons (eVar 0) (aCons (eC (.int 1000)) aNil))))))) sNil) (sSeq (sIf (tOf (eOp2 dEq (eVar 1) (eC (.int 3)))) (sRet (eR (eOp2 dMulT (eFz (eFnC F__law_draw [true, false] (aCons (eVar 0) (aCons (eC (.int 1000000)) aNil)))) (eFz (eFnC F__law_draw [true, false] (aCons (eVar 0) (aCons (eC (.int 1000000)) aNil))))))) sNil) (sRet (eR (eOp2 dAdd (eOp2 dMulT (eFz (eFnC F__law_draw [true, false] (aCons (eVar 0) (aCons (eC (.int 2000000)) aNil)))) (eC (.int 1048576))) (eFz (eFnC F__law_draw [true, false] (aCons (eVar 0) (aCons (eC (.int 1000000)) aNil))))))))))))
def F__law_size : Fn := runF 1 2 m__law_size
theorem sc__law_size : FnScope (["_law_pot_here", "_law_way"] : List Str) ["_law_pot_here"] (defScope s__law_size) := ⟨rfl, rfl, rfl, by decide +kernel, rfl, by decide +kernel, by decide +kernel⟩
abbrev s__law_number : Stmt := top 33
def N__law_number : List Str := ["_law_pot_here", "_law_size_here"]
def m__law_number : Sf := (sSeq (sSet 1 (eFnC F__law_size [true] (aCons (eVar 0) aNil))) (sRet (eR (eIf (tOf (eOp2 dEq (eFz (eFnC F__law_draw [true, false] (aCons (eVar 0) (aCons (eC (.int 2)) aNil)))) (eC (.int 0)))) (eOp1 dNeg (eVar 1)) (eVar 1)))))
def F__law_number : Fn := runF 1 2 m__law_number
theorem sc__law_number : FnScope (["_law_pot_here", "_law_size_here"] : List Str) ["_law_pot_here"] (defScope s__law_number) := ⟨rfl, rfl, rfl, by decide +kernel, rfl, by decide +kernel, by decide +kernel⟩
abbrev s__law_text : Stmt := top 34
def N__law_text : List Str := ["_law_told"]
def m__law_text : Sf := (sRet (eR (eIf (tOf (eOp2 dEq (eOp2 dIx (eVar 0) (eC (.int 1))) (eC (.int 1)))) (eCall bStr (aCons (eOp2 dIx (eVar 0) (eC (.int 0))) aNil)) (eOp2 dAdd (eOp2 dAdd (eCall bStr (aCons (eOp2 dIx (eVar 0) (eC (.int 0))) aNil)) (eC (.str "/"))) (eCall bStr (aCons (eOp2 dIx (eVar 0) (eC (.int 1))) aNil))))))
def F__law_text : Fn := runF 1 1 m__law_text
theorem sc__law_text : FnScope (["_law_told"] : List Str) ["_law_told"] (defScope s__law_text) := ⟨rfl, rfl, rfl, by decide +kernel, rfl, by decide +kernel, by decide +kernel⟩
abbrev s__law_read : Stmt := top 35
def N__law_read : List Str := ["_law_text_here", "_law_at", "_law_begin", "_law_sign", "_law_one_here", "_law_many", "_law_first", "_law_below", "_law_number_here", "_law_late"]
def m__law_read : Sf := (sSeq (sSet 1 (eR (eIf (tOf (eOp2 dEq (eFz (eCut (eVar 0) oNone (oSome (eC (.int 1))))) (eC (.str "-")))) (eC (.int 1)) (eC (.int 0))))) (sSeq (sPar 2 3 (eR (eVar 1)) (eR (eC (.str "")))) (sSeq (sWhile (tOf (eOp2 dLt (eVar 1) (eCall bLen (aCons (eVar 0) aNil)))) (sSeq (sSet 4 (eR (eOp2 dIx (eVar 0) (eVar 1)))) (sSeq (sIf (tOf (eOp2 dInT (eVar 4) (eC (.str "0123456789")))) (sSeq (sSet 5 (eR (eOp2 dAdd (eOp2 dSub (eVar 1) (eVar 2)) (eC (.int 1))))) (sIf (tOrF (tOf (eOp2 dGt (eVar 5) (eC (.int 40)))) (tAndF (tOf (eOp2 dEq (eVar 3) (eC (.str "/")))) (tAndF (tOf (eOp2 dEq (eVar 5) (eC (.int 40)))) (tAndF (tOf (eOp2 dEq (eVar 4) (eC (.str "0")))) (tOf (eOp2 dEq (eFz (eCut (eVar 0) (oSome (eVar 2)) (oSome (eVar 1)))) (eOp2 dMulT (eC (.str "0")) (eC (.int 39))))))))) (sRet (eR (eTup (aCons (eC .none) (aCons (eVar 1) aNil))))) sNil)) (sIf (tAndF (tOf (eOp2 dInT (eVar 4) (eC (.str "/.")))) (tAndF (tOf (eOp2 dEq (eVar 3) (eC (.str "")))) (tOf (eOp2 dGt (eVar 1) (eVar 2))))) (sPar 3 2 (eR (eVar 4)) (eR (eOp2 dAdd (eVar 1) (eC (.int 1))))) (sRet (eR (eTup (aCons (eC .none) (aCons (eVar 1) aNil))))))) (sSet 1 (eR (eOp2 dAdd (eVar 1) (eC (.int 1)))))))) (sSeq (sIf (tOrF (tOf (eOp2 dEq (eVar 1) (eVar 2))) (tAndF (tOf (eOp2 dEq (eVar 3) (eC (.str "/")))) (tOf (eOp2 dEq (eFz (eCut (eVar 0) (oSome (eVar 2)) oNone)) (eOp2 dMulT (eC (.str "0")) (eOp2 dSub (eVar 1) (eVar 2))))))) (sRet (eR (eTup (aCons (eC .none) (aCons (eCall bLen (aCons (eVar 0) aNil)) aNil))))) sNil) (sSeq (sSet 6 (eIfR (tOf (eOp2 dNe (eVar 3) (eC (.str "")))) (eCut (eVar 0) oNone (oSome (eOp2 dSub (eVar 2) (eC (.int 1))))) (eR (eVar 0)))) (sSeq (sSet 7 (eR (eIf (tOf (eOp2 dEq (eOp2 dIx (eVar 0) (eC (.int 0))) (eC (.str "-")))) (eOp1 dNeg (eC (.int 1))) (eC (.int 1))))) (sSeq (sPar 8 9 (eR (eCall bIntT (aCons (eRepl "-" "" (eVar 6)) aNil))) (eIfR (tOf (eOp2 dNe (eVar 3) (eC (.str "")))) (eCut (eVar 0) (oSome (eVar 2)) oNone) (eR (eC (.str "1"))))) (sSeq (sIf (tOf (eOp2 dEq (eVar 3) (eC (.str ".")))) (sRet (eR (eTup (aCons (eFz (eFnC F__law_ratio [false, false] (aCons (eOp2 dMulT (eVar 7) (eCall bIntT (aCons (eOp2 dAdd (eCall bStr (aCons (eVar 8) aNil)) (eVar 9)) aNil))) (aCons (eCall bIntT (aCons (eOp2 dAdd (eC (.str "1")) (eOp2 dMulT (eC (.str "0")) (eCall bLen (aCons (eVar 9) aNil)))) aNil)) aNil)))) (aCons (eC .none) aNil))))) sNil) (sRet (eR (eTup (aCons (eFz (eFnC F__law_ratio [false, false] (aCons (eOp2 dMulT (eVar 7) (eVar 8)) (aCons (eCall bIntT (aCons (eVar 9) aNil)) aNil)))) (aCons (eC .none) aNil)))))))))))))
def F__law_read : Fn := runF 1 10 m__law_read
theorem sc__law_read : FnScope (["_law_text_here", "_law_at", "_law_begin", "_law_sign", "_law_one_here", "_law_many", "_law_first", "_law_below", "_law_number_here", "_law_late"] : List Str) ["_law_text_here"] (defScope s__law_read) := ⟨rfl, rfl, rfl, by decide +kernel, rfl, by decide +kernel, by decide +kernel⟩
abbrev s__law_figures : Stmt := top 36
def N__law_figures : List Str := ["_law_pot_here", "_law_way"]
def m__law_figures : Sf := (sSeq (sSet 1 (eFnC F__law_draw [true, false] (aCons (eVar 0) (aCons (eC (.int 6)) aNil)))) (sSeq (sIf (tOf (eOp2 dEq (eVar 1) (eC (.int 0)))) (sRet (eFnC F__law_pick [true, false] (aCons (eVar 0) (aCons (eFz (eLst (aCons (eC (.str "0")) (aCons (eC (.str "00")) (aCons (eC (.str "000")) (aCons (eC (.str "1")) (aCons (eC (.str "10")) aNil))))))) aNil)))) sNil) (sSeq (sIf (tOf (eOp2 dEq (eVar 1) (eC (.int 1)))) (sRet (eFnC F__law_pick [true, false] (aCons (eVar 0) (aCons (eFz (eLst (aCons (eOp2 dAdd (eOp2 dMulT (eC (.str "0")) (eC (.int 39))) (eC (.str "7"))) (aCons (eOp2 dMulT (eC (.str "0")) (eC (.int 40))) (aCons (eOp2 dMulT (eC (.str "9")) (eC (.int 40))) (aCons (eOp2 dAdd (eC (.str "1")) (eOp2 dMulT (eC (.str "0")) (eC (.int 40)))) (aCons (eOp2 dMulT (eC (.str "0")) (eC (.int 38))) aNil))))))) aNil)))) sNil) (sRet (eR (eCall bStr (aCons (eFz (eFnC F__law_size [true] (aCons (eVar 0) aNil))) aNil)))))))
def F__law_figures : Fn := runF 1 2 m__law_figures
theorem sc__law_figures : FnScope (["_law_pot_here", "_law_way"] : List Str) ["_law_pot_here"] (defScope s__law_figures) := ⟨rfl, rfl, rfl, by decide +kernel, rfl, by decide +kernel, by decide +kernel⟩
abbrev s__law_drawn_text : Stmt := top 37
def N__law_drawn_text : List Str := ["_law_pot_here", "_law_found", "_law_way", "_law_at"]
def m__law_drawn_text : Sf := (sSeq (sSet 1 (eR (eOp2 dAdd (eFz (eFnC F__law_pick [true, false] (aCons (eVar 0) (aCons (eFz (eLst (aCons (eC (.str "")) (aCons (eC (.str "")) (aCons (eC (.str "-")) aNil))))) aNil)))) (eFz (eFnC F__law_figures [true] (aCons (eVar 0) aNil)))))) (sSeq (sIf (tOf (eOp2 dGt (eFz (eFnC F__law_draw [true, false] (aCons (eVar 0) (aCons (eC (.int 3)) aNil)))) (eC (.int 0)))) (sSet 1 (eR (eOp2 dAdd (eOp2 dAdd (eVar 1) (eFz (eFnC F__law_pick [true, false] (aCons (eVar 0) (aCons (eFz (eLst (aCons (eC (.str "/")) (aCons (eC (.str "/")) (aCons (eC (.str ".")) aNil))))) aNil))))) (eFz (eFnC F__law_figures [true] (aCons (eVar 0) aNil)))))) sNil) (sSeq (sPar 2 3 (eFnC F__law_draw [true, false] (aCons (eVar 0) (aCons (eC (.int 6)) aNil))) (eFnC F__law_draw [true, false] (aCons (eVar 0) (aCons (eOp2 dAdd (eCall bLen (aCons (eVar 1) aNil)) (eC (.int 1))) aNil)))) (sSeq (sIf (tOf (eOp2 dEq (eVar 2) (eC (.int 0)))) (sRet (eR (eOp2 dAdd (eOp2 dAdd (eFz (eCut (eVar 1) oNone (oSome (eVar 3)))) (eFz (eFnC F__law_pick [true, false] (aCons (eVar 0) (aCons (eFz (eLst (aCons (eC (.str "")) (aCons (eC (.str " ")) (aCons (eC (.str "-")) (aCons (eC (.str "/")) (aCons (eC (.str ".")) (aCons (eC (.str "+")) (aCons (eC (.str "x")) (aCons (eC (.str "0")) (aCons (eC (.str "\n")) (aCons (eC (.str "_")) aNil)))))))))))) aNil))))) (eFz (eCut (eVar 1) (oSome (eVar 3)) oNone))))) sNil) (sSeq (sIf (tOf (eOp2 dEq (eVar 2) (eC (.int 1)))) (sRet (eR (eOp2 dAdd (eFz (eCut (eVar 1) oNone (oSome (eVar 3)))) (eFz (eCut (eVar 1) (oSome (eOp2 dAdd (eVar 3) (eC (.int 1)))) oNone))))) sNil) (sRet (eIfR (tOf (eOp2 dEq (eVar 2) (eC (.int 2)))) (eCut (eVar 1) oNone (oSome (eVar 3))) (eR (eVar 1)))))))))
def F__law_drawn_text : Fn := runF 1 4 m__law_drawn_text
theorem sc__law_drawn_text : FnScope (["_law_pot_here", "_law_found", "_law_way", "_law_at"] : List Str) ["_law_pot_here"] (defScope s__law_drawn_text) := ⟨rfl, rfl, rfl, by decide +kernel, rfl, by decide +kernel, by decide +kernel⟩
abbrev s__law_heard : Stmt := top 38
def N__law_heard : List Str := ["_law_text_here", "_law_heard_here", "e"]
def m__law_heard : Sf := (sSeq (sSet 1 (eR (eC .none))) (sSeq (sTryAs (sSet 1 (eR (eTup (aCons (eFz (eFnK F_parse_ratio [false] [0] [] 0 1 aNil (aCons (eVar 0) aNil))) (aCons (eC .none) aNil))))) 2 mt_BadText fun x => (sSet 1 (eR (eIf (tTr (eXis x 2 mi_WebError)) (eTup (aCons (eC .none) (aCons (eXf x 2 "position") aNil))) (eC .none))))) (sRet (eR (eVar 1)))))
def F__law_heard : Fn := runF 1 3 m__law_heard
theorem sc__law_heard : FnScope (["_law_text_here", "_law_heard_here", "e"] : List Str) ["_law_text_here"] (defScope s__law_heard) := ⟨rfl, rfl, rfl, by decide +kernel, rfl, by decide +kernel, by decide +kernel⟩
abbrev s__law_right : Stmt := top 39
def N__law_right : List Str := ["_law_pot_here", "_law_turn", "_law_number_here", "_law_under", "_law_told", "_law_text_here"]
def m__law_right : Sf := (sSeq (sFor (iRng1F (aCons (eC (.int 4)) aNil)) (gSet 1) (sSeq (sPar 2 3 (eFnC F__law_number [true] (aCons (eVar 0) aNil)) (eFnC F__law_number [true] (aCons (eVar 0) aNil))) (sSeq (sSet 3 (eR (eIf (tOf (eOp2 dNe (eVar 3) (eC (.int 0)))) (eVar 3) (eOp1 dNeg (eC (.int 7)))))) (sSeq (sSet 4 (eFnC F_ratio [false, false] (aCons (eVar 2) (aCons (eVar 3) aNil)))) (sSeq (sIf (tOrF (tOf (eOp2 dNe (eCall bRepr (aCons (eVar 4) aNil)) (eCall bRepr (aCons (eFz (eFnC F__law_ratio [false, false] (aCons (eVar 2) (aCons (eVar 3) aNil)))) aNil)))) (tOf (eOp2 dNe (eFz (eFnK F_ratio [false, false] [1, 0] [] 0 2 aNil (aCons (eVar 3) (aCons (eVar 2) aNil)))) (eVar 4)))) (sRet (eR (eC (.bool false)))) sNil) (sIf (tOrF (tOf (eOp2 dNe (eFz (eFnC F_ratio_text [false] (aCons (eVar 4) aNil))) (eFz (eFnC F__law_text [false] (aCons (eVar 4) aNil))))) (tOf (eOp2 dNe (eFz (eFnC F_parse_ratio [false] (aCons (eFz (eFnK F_ratio_text [false] [0] [] 0 1 aNil (aCons (eVar 4) aNil))) aNil))) (eVar 4)))) (sRet (eR (eC (.bool false)))) sNil)))))) (sSeq (sFor (iRng1F (aCons (eC (.int 12)) aNil)) (gSet 1) (sSeq (sSet 5 (eFnC F__law_drawn_text [true] (aCons (eVar 0) aNil))) (sIf (tOf (eOp2 dNe (eCall bRepr (aCons (eFz (eFnC F__law_heard [false] (aCons (eVar 5) aNil))) aNil)) (eCall bRepr (aCons (eFz (eFnC F__law_read [false] (aCons (eVar 5) aNil))) aNil)))) (sRet (eR (eC (.bool false)))) sNil))) (sRet (eR (eAnd (eOp2 dEq (eFz (eFnC F__law_heard [false] (aCons (eC (.str "")) aNil))) (eTup (aCons (eC .none) (aCons (eC (.int 0)) aNil)))) (eOp2 dEq (eFz (eFnC F__law_heard [false] (aCons (eC (.str "-")) aNil))) (eTup (aCons (eC .none) (aCons (eC (.int 1)) aNil)))))))))
def F__law_right : Fn := runF 1 6 m__law_right
theorem sc__law_right : FnScope (["_law_pot_here", "_law_turn", "_law_number_here", "_law_under", "_law_told", "_law_text_here"] : List Str) ["_law_pot_here"] (defScope s__law_right) := ⟨rfl, rfl, rfl, by decide +kernel, rfl, by decide +kernel, by decide +kernel⟩
abbrev s_law : Stmt := top 40
def N_law : List Str := ["_law_script"]
def m_law : Sf := (sRet (eFn1 F__law_right (eFnC F__law_pot [false, false] (aCons (eVar 0) (aCons (eC (.int 0)) aNil)))))
def F_law : Fn := runF 1 1 m_law
theorem sc_law : FnScope (["_law_script"] : List Str) ["_law_script"] (defScope s_law) := ⟨rfl, rfl, rfl, by decide +kernel, rfl, by decide +kernel, by decide +kernel⟩
section
variable {P : Program} {w : World} {K : PySem.W.Frag} {mg : Str → Option Value} {base : Heap} {f : Addr} {fd : FuncData}
theorem r__law_pot (D : FnP K "_law_pot" s__law_pot f fd)
    (h_max : mg "max" = none)
    (h_int : mg "int" = none)
    (h_len : mg "len" = none)
    (h_abs : mg "abs" = none) : FnG P w K mg base 1 f fd ["_law_script", "_law_k"] (spF K mg 2 F__law_pot) := by
  exact fn_mk (N := ["_law_script", "_law_k", "_law_cell"]) (ps := ["_law_script", "_law_k"]) D sc__law_pot fun cdv A outer s H E hr gu Φ => (s_cons (s_set 2 sc__law_pot.nd (d_r (d_op op_dAdd (d_op op_dMulT d_int (d_var 1)) d_int))) (s_cons (s_if (t_cmp op_dLt (d_var 1) (d_callB cr_dLen h_len (d_acons (d_var 0) d_anil)) (nomark _)) (s_one (s_set 2 sc__law_pot.nd (d_r (d_callB cr_dAbs h_abs (d_acons (d_ix (d_var 0) (d_var 1) (fun _ _ => rfl)) d_anil))))) s_nil) (s_one (s_ret (d_lst (d_acons (d_callB (cr_dMax2 rfl) h_max (d_acons d_int (d_acons (d_op op_dSub (d_var 2) (d_op op_dPow d_int d_int)) d_anil))) (d_acons (d_op op_dAdd (d_op op_dMod (d_op op_dMulT (d_callTy cr_dIntT h_int (d_acons (d_op op_dAdd (d_op op_dMod (d_callTy cr_dIntT h_int (d_acons (d_var 2) d_anil)) d_int) d_int) d_anil)) (d_op op_dPow (d_op op_dAdd (d_op op_dMulT d_int (d_var 1)) d_int) d_int)) d_int) d_int) d_anil)))))))
theorem r_made_ratio (D : FnP K "made_ratio" s_made_ratio f fd)
    (h_gcd : mg "gcd" = some (.builtin "math.gcd")) : FnG P w K mg base 1 f fd ["number", "under"] (spF K mg 2 F_made_ratio) := by
  exact fn_mk (N := ["number", "under", "part"]) (ps := ["number", "under"]) D sc_made_ratio fun cdv A outer s H E hr gu Φ => (s_cons (s_set 2 sc_made_ratio.nd (d_r (d_callF cr_dGcd h_gcd (d_acons (d_var 0) (d_acons (d_var 1) d_anil))))) (s_cons (s_if (t_cmp op_dLt (d_var 1) d_int (nomark _)) (s_one (s_set 2 sc_made_ratio.nd (d_r (d_op op_dSub d_int (d_var 2))))) s_nil) (s_one (s_ret (d_r (d_tup (d_acons (d_op op_dFdiv (d_var 0) (d_var 2)) (d_acons (d_op op_dFdiv (d_var 1) (d_var 2)) d_anil))))))))
theorem r_is_integer (D : FnP K "is_integer" s_is_integer f fd)
    (h_isinstance : mg "isinstance" = none)
    (h_bool : mg "bool" = none)
    (h_int : mg "int" = none) : FnG P w K mg base 1 f fd ["value"] (spF K mg 1 F_is_integer) := by
  exact fn_mk (N := ["value"]) (ps := ["value"]) D sc_is_integer fun cdv A outer s H E hr gu Φ => (s_one (s_ret (d_r (d_and (d_isi .int h_isinstance h_int (d_var 0)) (d_bone (d_not (d_isi .bool h_isinstance h_bool (d_var 0))))))))
theorem r_want_integer (D : FnP K "want_integer" s_want_integer f fd)
    (h_abs : mg "abs" = none)
    {u_BEYOND : Value} {w_BEYOND : V} (v_BEYOND : (mg "BEYOND" = some u_BEYOND ∧ RelV w_BEYOND u_BEYOND) ∧ ∀ G, Dp K G w_BEYOND (.int (10000000000000000000000000000000000000000)))
    {a_is_integer : Addr} {fd_is_integer : FuncData} (D_is_integer : FnP K "is_integer" s_is_integer a_is_integer fd_is_integer) (g_is_integer : mg "is_integer" = some (.ref a_is_integer)) (R_is_integer : FnG P w K mg base 1 a_is_integer fd_is_integer ["value"] (spF K mg 1 F_is_integer))
    {C_InvalidInteger : Addr} (o_InvalidInteger : ExR P w K mg base C_InvalidInteger "value") (g_InvalidInteger : mg "InvalidInteger" = some (.ref C_InvalidInteger)) : FnG P w K mg base 3 f fd ["value"] (spF K mg 1 F_want_integer) := by
  have b_is_integer : Binds K fd_is_integer ["value"] [] := D_is_integer.bindsN fun _ _ _ _ _ _ us hl => match us, hl with | [_], _ => rfl
  exact fn_mk (N := ["value"]) (ps := ["value"]) D sc_want_integer fun cdv A outer s H E hr gu Φ => (s_one (s_if (t_w (w_or (t_not (t_tr (d_fz (d_call [false] R_is_integer (hr.mono (by omega)) gu g_is_integer D_is_integer.kp b_is_integer (takes_of rfl rfl rfl rfl) (d_acons (d_var 0) d_anil))))) (w_or1 (t_cmp op_dGe (d_callB cr_dAbs h_abs (d_acons (d_var 0) d_anil)) (d_glob v_BEYOND.1.1 v_BEYOND.1.2 v_BEYOND.2) (nomark _))))) (s_one (s_raiseX o_InvalidInteger (hr.mono (by omega)) rfl (takes_of rfl rfl rfl rfl) g_InvalidInteger (d_var 0))) s_nil))
theorem r_ratio (D : FnP K "ratio" s_ratio f fd)
    {a_made_ratio : Addr} {fd_made_ratio : FuncData} (D_made_ratio : FnP K "made_ratio" s_made_ratio a_made_ratio fd_made_ratio) (g_made_ratio : mg "made_ratio" = some (.ref a_made_ratio)) (R_made_ratio : FnG P w K mg base 1 a_made_ratio fd_made_ratio ["number", "under"] (spF K mg 2 F_made_ratio))
    {C_NoQuotient : Addr} (e_NoQuotient : PySem.W.excIn K C_NoQuotient [.type "RuntimeError", .type "Exception", .type "BaseException", .type "object"] "RuntimeError.__new__" = true ∧ PySem.W.keepIn K (.ref C_NoQuotient) = true ∧ PySem.W.subIn K (.ref C_NoQuotient) (.type "BaseException") = some true ∧ PySem.W.typeIn K (.ref C_NoQuotient) = some (.type "type")) (g_NoQuotient : mg "NoQuotient" = some (.ref C_NoQuotient))
    {a_want_integer : Addr} {fd_want_integer : FuncData} (D_want_integer : FnP K "want_integer" s_want_integer a_want_integer fd_want_integer) (g_want_integer : mg "want_integer" = some (.ref a_want_integer)) (R_want_integer : FnG P w K mg base 3 a_want_integer fd_want_integer ["value"] (spF K mg 1 F_want_integer)) : FnG P w K mg base 4 f fd ["number", "under"] (spF K mg 2 F_ratio) := by
  have b_made_ratio : Binds K fd_made_ratio ["number", "under"] [] := D_made_ratio.bindsN fun _ _ _ _ _ _ us hl => match us, hl with | [_, _], _ => rfl
  have b_want_integer : Binds K fd_want_integer ["value"] [] := D_want_integer.bindsN fun _ _ _ _ _ _ us hl => match us, hl with | [_], _ => rfl
  exact fn_mk (N := ["number", "under"]) (ps := ["number", "under"]) D sc_ratio fun cdv A outer s H E hr gu Φ => (s_cons (s_expr (d_fz (d_call [false] R_want_integer (hr.mono (by omega)) gu g_want_integer D_want_integer.kp b_want_integer (takes_of rfl rfl rfl rfl) (d_acons (d_var 0) d_anil)))) (s_cons (s_expr (d_fz (d_call [false] R_want_integer (hr.mono (by omega)) gu g_want_integer D_want_integer.kp b_want_integer (takes_of rfl rfl rfl rfl) (d_acons (d_var 1) d_anil)))) (s_cons (s_if (t_cmp (op_dEq hr.units) (d_var 1) d_int (nomark _)) (s_one (s_raise0 PySem.F.excBase_RuntimeError rfl (takes_of rfl rfl rfl rfl) g_NoQuotient e_NoQuotient.1 e_NoQuotient.2.1 e_NoQuotient.2.2.1 e_NoQuotient.2.2.2)) s_nil) (s_one (s_ret (d_call [false, false] R_made_ratio (hr.mono (by omega)) gu g_made_ratio D_made_ratio.kp b_made_ratio (takes_of rfl rfl rfl rfl) (d_acons (d_var 0) (d_acons (d_var 1) d_anil))))))))
theorem r_is_ratio (D : FnP K "is_ratio" s_is_ratio f fd)
    (h_gcd : mg "gcd" = some (.builtin "math.gcd"))
    {a_is_integer : Addr} {fd_is_integer : FuncData} (D_is_integer : FnP K "is_integer" s_is_integer a_is_integer fd_is_integer) (g_is_integer : mg "is_integer" = some (.ref a_is_integer)) (R_is_integer : FnG P w K mg base 1 a_is_integer fd_is_integer ["value"] (spF K mg 1 F_is_integer))
    (h_len : mg "len" = none)
    (h_isinstance : mg "isinstance" = none)
    (h_tuple : mg "tuple" = none) : FnG P w K mg base 2 f fd ["value"] (spF K mg 1 F_is_ratio) := by
  have b_is_integer : Binds K fd_is_integer ["value"] [] := D_is_integer.bindsN fun _ _ _ _ _ _ us hl => match us, hl with | [_], _ => rfl
  exact fn_mk (N := ["value"]) (ps := ["value"]) D sc_is_ratio fun cdv A outer s H E hr gu Φ => (s_cons (s_if (t_w (w_or (t_not (t_tr (d_isi .tuple h_isinstance h_tuple (d_var 0)))) (w_or (t_cmp (op_dNe hr.units) (d_callB cr_dLen h_len (d_acons (d_var 0) d_anil)) d_int (nomark _)) (w_or (t_not (t_tr (d_fz (d_call [false] R_is_integer (hr.mono (by omega)) gu g_is_integer D_is_integer.kp b_is_integer (takes_of rfl rfl rfl rfl) (d_acons (d_ix (d_var 0) d_int (fun _ _ => rfl)) d_anil))))) (w_or1 (t_not (t_tr (d_fz (d_call [false] R_is_integer (hr.mono (by omega)) gu g_is_integer D_is_integer.kp b_is_integer (takes_of rfl rfl rfl rfl) (d_acons (d_ix (d_var 0) d_int (fun _ _ => rfl)) d_anil)))))))))) (s_one (s_ret (d_r d_bool))) s_nil) (s_one (s_ret (d_r (d_and (d_cmp op_dGe (d_ix (d_var 0) d_int (fun _ _ => rfl)) d_int (nomark _)) (d_bone (d_cmp (op_dEq hr.units) (d_callF cr_dGcd h_gcd (d_acons (d_ix (d_var 0) d_int (fun _ _ => rfl)) (d_acons (d_ix (d_var 0) d_int (fun _ _ => rfl)) d_anil))) d_int (nomark _))))))))
theorem r_want_ratio (D : FnP K "want_ratio" s_want_ratio f fd)
    {a_is_ratio : Addr} {fd_is_ratio : FuncData} (D_is_ratio : FnP K "is_ratio" s_is_ratio a_is_ratio fd_is_ratio) (g_is_ratio : mg "is_ratio" = some (.ref a_is_ratio)) (R_is_ratio : FnG P w K mg base 2 a_is_ratio fd_is_ratio ["value"] (spF K mg 1 F_is_ratio))
    {C_InvalidRatio : Addr} (o_InvalidRatio : ExR P w K mg base C_InvalidRatio "value") (g_InvalidRatio : mg "InvalidRatio" = some (.ref C_InvalidRatio)) : FnG P w K mg base 3 f fd ["value"] (spF K mg 1 F_want_ratio) := by
  have b_is_ratio : Binds K fd_is_ratio ["value"] [] := D_is_ratio.bindsN fun _ _ _ _ _ _ us hl => match us, hl with | [_], _ => rfl
  exact fn_mk (N := ["value"]) (ps := ["value"]) D sc_want_ratio fun cdv A outer s H E hr gu Φ => (s_cons (s_if (t_not (t_tr (d_fz (d_call [false] R_is_ratio (hr.mono (by omega)) gu g_is_ratio D_is_ratio.kp b_is_ratio (takes_of rfl rfl rfl rfl) (d_acons (d_var 0) d_anil))))) (s_one (s_raiseX o_InvalidRatio (hr.mono (by omega)) rfl (takes_of rfl rfl rfl rfl) g_InvalidRatio (d_var 0))) s_nil) (s_one (s_ret (d_r (d_var 0)))))
theorem r_ratio_text (D : FnP K "ratio_text" s_ratio_text f fd)
    (h_str : mg "str" = none)
    {a_want_ratio : Addr} {fd_want_ratio : FuncData} (D_want_ratio : FnP K "want_ratio" s_want_ratio a_want_ratio fd_want_ratio) (g_want_ratio : mg "want_ratio" = some (.ref a_want_ratio)) (R_want_ratio : FnG P w K mg base 3 a_want_ratio fd_want_ratio ["value"] (spF K mg 1 F_want_ratio)) : FnG P w K mg base 4 f fd ["ratio"] (spF K mg 1 F_ratio_text) := by
  have b_want_ratio : Binds K fd_want_ratio ["value"] [] := D_want_ratio.bindsN fun _ _ _ _ _ _ us hl => match us, hl with | [_], _ => rfl
  exact fn_mk (N := ["ratio", "number", "under"]) (ps := ["ratio"]) D sc_ratio_text fun cdv A outer s H E hr gu Φ => (s_cons (s_asg (d_fz (d_call [false] R_want_ratio (hr.mono (by omega)) gu g_want_ratio D_want_ratio.kp b_want_ratio (takes_of rfl rfl rfl rfl) (d_acons (d_var 0) d_anil))) (g_seq rfl (g_scons (g_name 1 sc_ratio_text.nd) (g_scons (g_name 2 sc_ratio_text.nd) g_snil)) (gs_len (gs_len gs_len0)))) (s_one (s_ret (d_r (d_if (t_cmp (op_dEq hr.units) (d_var 2) d_int (nomark _)) (d_callTy cr_dStr h_str (d_acons (d_var 1) d_anil)) (d_op op_dAdd (d_op op_dAdd (d_callTy cr_dStr h_str (d_acons (d_var 1) d_anil)) d_str) (d_callTy cr_dStr h_str (d_acons (d_var 2) d_anil))))))))
theorem r_whole_power (D : FnP K "whole_power" s_whole_power f fd)
    (h_range : mg "range" = none) : FnG P w K mg base 1 f fd ["number", "many"] (spF K mg 2 F_whole_power) := by
  exact fn_mk (N := ["number", "many", "found", "turn"]) (ps := ["number", "many"]) D sc_whole_power fun cdv A outer s H E hr gu Φ => (s_cons (s_set 2 sc_whole_power.nd (d_r d_int)) (s_cons (s_for (passes_of rfl) rfl (i_rng1 h_range (d_acons (d_var 1) d_anil)) (g_name 3 sc_whole_power.nd) (s_one (s_set 2 sc_whole_power.nd (d_r (d_op op_dMulT (d_var 2) (d_var 0)))))) (s_one (s_ret (d_r (d_var 2))))))
theorem r_is_nought (D : FnP K "is_nought" s_is_nought f fd)
    (h_all : mg "all" = none) : FnG P w K mg base 1 f fd ["digits"] (spF K mg 1 F_is_nought) := by
  exact fn_mk (N := ["digits", "sign"]) (ps := ["digits"]) D sc_is_nought fun cdv A outer s H E hr gu Φ => (s_one (s_ret (d_r (d_callB (cr_dAll rfl) h_all (d_acons (d_fz (d_lc (own := [("sign", 1)]) rfl sc_is_nought.nd (i_seq (d_var 0)) (blkOk_by (by show blkC ["digits", "sign"] (defScope s_is_nought) _ _ = true; decide +kernel)) (fun Ψ s H C cl fp => (g_name 1 sc_is_nought.nd)) (fun Ψ s H C cl fp => t_yes) (fun Ψ s H C cl fp => (d_cmp (op_dEq hr.units) (d_var 1) d_str (nomark _))))) d_anil)))))
theorem r_digits_end (D : FnP K "digits_end" s_digits_end f fd)
    {u_MOST_DIGITS : Value} {w_MOST_DIGITS : V} (v_MOST_DIGITS : (mg "MOST_DIGITS" = some u_MOST_DIGITS ∧ RelV w_MOST_DIGITS u_MOST_DIGITS) ∧ ∀ G, Dp K G w_MOST_DIGITS (.int (40)))
    {u_DIGITS : Value} {w_DIGITS : V} (v_DIGITS : (mg "DIGITS" = some u_DIGITS ∧ RelV w_DIGITS u_DIGITS) ∧ ∀ G, Dp K G w_DIGITS (.str "0123456789"))
    (h_len : mg "len" = none)
    {a_is_nought : Addr} {fd_is_nought : FuncData} (D_is_nought : FnP K "is_nought" s_is_nought a_is_nought fd_is_nought) (g_is_nought : mg "is_nought" = some (.ref a_is_nought)) (R_is_nought : FnG P w K mg base 1 a_is_nought fd_is_nought ["digits"] (spF K mg 1 F_is_nought)) : FnG P w K mg base 2 f fd ["text", "place", "is_under"] (spF K mg 3 F_digits_end) := by
  have b_is_nought : Binds K fd_is_nought ["digits"] [] := D_is_nought.bindsN fun _ _ _ _ _ _ us hl => match us, hl with | [_], _ => rfl
  exact fn_mk (N := ["text", "place", "is_under", "end", "is_last"]) (ps := ["text", "place", "is_under"]) D sc_digits_end fun cdv A outer s H E hr gu Φ => (s_cons (s_set 3 sc_digits_end.nd (d_r (d_var 1))) (s_cons (s_while (passes_of rfl) (t_w (w_and (t_cmp op_dLt (d_var 3) (d_callB cr_dLen h_len (d_acons (d_var 0) d_anil)) (nomark _)) (w_and (t_cmp (op_dInT (room65 hr)) (d_ix (d_var 0) (d_var 3) (fun _ _ => rfl)) (d_glob v_DIGITS.1.1 v_DIGITS.1.2 v_DIGITS.2) (by with_unfolding_all rfl)) (w_and1 (t_cmp op_dLt (d_op op_dSub (d_var 3) (d_var 1)) (d_glob v_MOST_DIGITS.1.1 v_MOST_DIGITS.1.2 v_MOST_DIGITS.2) (nomark _)))))) (s_cons (s_set 4 sc_digits_end.nd (d_r (d_cmp (op_dEq hr.units) (d_op op_dSub (d_var 3) (d_var 1)) (d_op op_dSub (d_glob v_MOST_DIGITS.1.1 v_MOST_DIGITS.1.2 v_MOST_DIGITS.2) d_int) (nomark _)))) (s_cons (s_if (t_w (w_and (t_tr (d_var 2)) (w_and (t_tr (d_var 4)) (w_and (t_cmp (op_dEq hr.units) (d_ix (d_var 0) (d_var 3) (fun _ _ => rfl)) d_str (nomark _)) (w_and1 (t_tr (d_fz (d_call [false] R_is_nought (hr.mono (by omega)) gu g_is_nought D_is_nought.kp b_is_nought (takes_of rfl rfl rfl rfl) (d_acons (d_fz (d_cut (d_var 0) (d_osome (d_var 1)) (d_osome (d_var 3)))) d_anil))))))))) (s_one (s_ret (d_r (d_var 3)))) s_nil) (s_one (s_set 3 sc_digits_end.nd (d_r (d_op op_dAdd (d_var 3) d_int))))))) (s_one (s_ret (d_r (d_var 3))))))
theorem r_parse_ratio (D : FnP K "parse_ratio" s_parse_ratio f fd)
    {a_made_ratio : Addr} {fd_made_ratio : FuncData} (D_made_ratio : FnP K "made_ratio" s_made_ratio a_made_ratio fd_made_ratio) (g_made_ratio : mg "made_ratio" = some (.ref a_made_ratio)) (R_made_ratio : FnG P w K mg base 1 a_made_ratio fd_made_ratio ["number", "under"] (spF K mg 2 F_made_ratio))
    (h_len : mg "len" = none)
    {C_BadText : Addr} (o_BadText : ExR P w K mg base C_BadText "position") (g_BadText : mg "BadText" = some (.ref C_BadText))
    (h_int : mg "int" = none)
    {a_whole_power : Addr} {fd_whole_power : FuncData} (D_whole_power : FnP K "whole_power" s_whole_power a_whole_power fd_whole_power) (g_whole_power : mg "whole_power" = some (.ref a_whole_power)) (R_whole_power : FnG P w K mg base 1 a_whole_power fd_whole_power ["number", "many"] (spF K mg 2 F_whole_power))
    {a_is_nought : Addr} {fd_is_nought : FuncData} (D_is_nought : FnP K "is_nought" s_is_nought a_is_nought fd_is_nought) (g_is_nought : mg "is_nought" = some (.ref a_is_nought)) (R_is_nought : FnG P w K mg base 1 a_is_nought fd_is_nought ["digits"] (spF K mg 1 F_is_nought))
    {a_digits_end : Addr} {fd_digits_end : FuncData} (D_digits_end : FnP K "digits_end" s_digits_end a_digits_end fd_digits_end) (g_digits_end : mg "digits_end" = some (.ref a_digits_end)) (R_digits_end : FnG P w K mg base 2 a_digits_end fd_digits_end ["text", "place", "is_under"] (spF K mg 3 F_digits_end))
    (h_isinstance : mg "isinstance" = none)
    (h_str : mg "str" = none)
    {C_InvalidText : Addr} (o_InvalidText : ExR P w K mg base C_InvalidText "value") (g_InvalidText : mg "InvalidText" = some (.ref C_InvalidText)) : FnG P w K mg base 3 f fd ["text"] (spF K mg 1 F_parse_ratio) := by
  have b_made_ratio : Binds K fd_made_ratio ["number", "under"] [] := D_made_ratio.bindsN fun _ _ _ _ _ _ us hl => match us, hl with | [_, _], _ => rfl
  have b_whole_power : Binds K fd_whole_power ["number", "many"] [] := D_whole_power.bindsN fun _ _ _ _ _ _ us hl => match us, hl with | [_, _], _ => rfl
  have b_is_nought : Binds K fd_is_nought ["digits"] [] := D_is_nought.bindsN fun _ _ _ _ _ _ us hl => match us, hl with | [_], _ => rfl
  have b_digits_end : Binds K fd_digits_end ["text", "place", "is_under"] [] := D_digits_end.bindsN fun _ _ _ _ _ _ us hl => match us, hl with | [_, _, _], _ => rfl
  exact fn_mk (N := ["text", "first", "end", "number", "under", "sign", "late", "digits"]) (ps := ["text"]) D sc_parse_ratio fun cdv A outer s H E hr gu Φ => (s_cons (s_if (t_not (t_tr (d_isi .str h_isinstance h_str (d_var 0)))) (s_one (s_raiseX o_InvalidText (hr.mono (by omega)) rfl (takes_of rfl rfl rfl rfl) g_InvalidText (d_var 0))) s_nil) (s_cons (s_set 1 sc_parse_ratio.nd (d_r (d_if (t_cmp (op_dEq hr.units) (d_fz (d_cut (d_var 0) d_onone (d_osome d_int))) d_str (nomark _)) d_int d_int))) (s_cons (s_set 2 sc_parse_ratio.nd (d_call [false, false, false] R_digits_end (hr.mono (by omega)) gu g_digits_end D_digits_end.kp b_digits_end (takes_of rfl rfl rfl rfl) (d_acons (d_var 0) (d_acons (d_var 1) (d_acons d_bool d_anil))))) (s_cons (s_if (t_cmp (op_dEq hr.units) (d_var 2) (d_var 1) (nomark _)) (s_one (s_raiseX o_BadText (hr.mono (by omega)) rfl (takes_of rfl rfl rfl rfl) g_BadText (d_var 2))) s_nil) (s_cons (s_par3 3 4 5 rfl sc_parse_ratio.nd (d_r (d_callTy cr_dIntT h_int (d_acons (d_fz (d_cut (d_var 0) (d_osome (d_var 1)) (d_osome (d_var 2)))) d_anil))) (fun Φ => (d_r d_int)) (fun Φ => (d_cut (d_var 0) (d_osome (d_var 2)) (d_osome (d_op op_dAdd (d_var 2) d_int)))) rfl) (s_cons (s_if (t_cmp (op_dInT (room65 hr)) (d_var 5) (d_tup (d_acons d_str (d_acons d_str d_anil))) (by with_unfolding_all rfl)) (s_cons (s_set 6 sc_parse_ratio.nd (d_call [false, false, false] R_digits_end (hr.mono (by omega)) gu g_digits_end D_digits_end.kp b_digits_end (takes_of rfl rfl rfl rfl) (d_acons (d_var 0) (d_acons (d_op op_dAdd (d_var 2) d_int) (d_acons (d_cmp (op_dEq hr.units) (d_var 5) d_str (nomark _)) d_anil))))) (s_cons (s_set 7 sc_parse_ratio.nd (d_cut (d_var 0) (d_osome (d_op op_dAdd (d_var 2) d_int)) (d_osome (d_var 6)))) (s_cons (s_if (t_w (w_or (t_cmp (op_dEq hr.units) (d_var 7) d_str (nomark _)) (w_or (t_cmp op_dLt (d_var 6) (d_callB cr_dLen h_len (d_acons (d_var 0) d_anil)) (nomark _)) (w_or1 (t_w (w_and (t_cmp (op_dEq hr.units) (d_var 5) d_str (nomark _)) (w_and1 (t_tr (d_fz (d_call [false] R_is_nought (hr.mono (by omega)) gu g_is_nought D_is_nought.kp b_is_nought (takes_of rfl rfl rfl rfl) (d_acons (d_var 7) d_anil))))))))))) (s_one (s_raiseX o_BadText (hr.mono (by omega)) rfl (takes_of rfl rfl rfl rfl) g_BadText (d_var 6))) s_nil) (s_cons (s_set 4 sc_parse_ratio.nd (d_ifR (t_cmp (op_dEq hr.units) (d_var 5) d_str (nomark _)) (d_r (d_callTy cr_dIntT h_int (d_acons (d_var 7) d_anil))) (d_call [false, false] R_whole_power (hr.mono (by omega)) gu g_whole_power D_whole_power.kp b_whole_power (takes_of rfl rfl rfl rfl) (d_acons d_int (d_acons (d_callB cr_dLen h_len (d_acons (d_var 7) d_anil)) d_anil))))) (s_cons (s_set 3 sc_parse_ratio.nd (d_r (d_if (t_cmp (op_dEq hr.units) (d_var 5) d_str (nomark _)) (d_var 3) (d_op op_dAdd (d_op op_dMulT (d_var 3) (d_var 4)) (d_callTy cr_dIntT h_int (d_acons (d_var 7) d_anil)))))) (s_one (s_set 2 sc_parse_ratio.nd (d_r (d_var 6))))))))) s_nil) (s_cons (s_if (t_cmp op_dLt (d_var 2) (d_callB cr_dLen h_len (d_acons (d_var 0) d_anil)) (nomark _)) (s_one (s_raiseX o_BadText (hr.mono (by omega)) rfl (takes_of rfl rfl rfl rfl) g_BadText (d_var 2))) s_nil) (s_one (s_ret (d_call [false, false] R_made_ratio (hr.mono (by omega)) gu g_made_ratio D_made_ratio.kp b_made_ratio (takes_of rfl rfl rfl rfl) (d_acons (d_if (t_cmp (op_dEq hr.units) (d_var 1) d_int (nomark _)) (d_op op_dSub d_int (d_var 3)) (d_var 3)) (d_acons (d_var 4) d_anil))))))))))))
theorem r__law_gcd (D : FnP K "_law_gcd" s__law_gcd f fd)
    (h_abs : mg "abs" = none) : FnG P w K mg base 1 f fd ["_law_one_here", "_law_other"] (spF K mg 2 F__law_gcd) := by
  exact fn_mk (N := ["_law_one_here", "_law_other"]) (ps := ["_law_one_here", "_law_other"]) D sc__law_gcd fun cdv A outer s H E hr gu Φ => (s_cons (s_while (passes_of rfl) (t_cmp (op_dNe hr.units) (d_var 1) d_int (nomark _)) (s_one (s_par 0 1 rfl sc__law_gcd.nd (d_r (d_var 1)) (fun Φ => (d_r (d_op op_dMod (d_var 0) (d_var 1)))) rfl))) (s_one (s_ret (d_r (d_callB cr_dAbs h_abs (d_acons (d_var 0) d_anil))))))
theorem r__law_ratio (D : FnP K "_law_ratio" s__law_ratio f fd)
    {a__law_gcd : Addr} {fd__law_gcd : FuncData} (D__law_gcd : FnP K "_law_gcd" s__law_gcd a__law_gcd fd__law_gcd) (g__law_gcd : mg "_law_gcd" = some (.ref a__law_gcd)) (R__law_gcd : FnG P w K mg base 1 a__law_gcd fd__law_gcd ["_law_one_here", "_law_other"] (spF K mg 2 F__law_gcd)) : FnG P w K mg base 2 f fd ["_law_number_here", "_law_under"] (spF K mg 2 F__law_ratio) := by
  have b__law_gcd : Binds K fd__law_gcd ["_law_one_here", "_law_other"] [] := D__law_gcd.bindsN fun _ _ _ _ _ _ us hl => match us, hl with | [_, _], _ => rfl
  exact fn_mk (N := ["_law_number_here", "_law_under", "_law_shared", "_law_sign"]) (ps := ["_law_number_here", "_law_under"]) D sc__law_ratio fun cdv A outer s H E hr gu Φ => (s_cons (s_set 2 sc__law_ratio.nd (d_call [false, false] R__law_gcd (hr.mono (by omega)) gu g__law_gcd D__law_gcd.kp b__law_gcd (takes_of rfl rfl rfl rfl) (d_acons (d_var 0) (d_acons (d_var 1) d_anil)))) (s_cons (s_set 3 sc__law_ratio.nd (d_r (d_if (t_cmp op_dGt (d_var 1) d_int (nomark _)) d_int (d_un op_dNeg d_int)))) (s_one (s_ret (d_r (d_tup (d_acons (d_op op_dFdiv (d_op op_dMulT (d_var 3) (d_var 0)) (d_var 2)) (d_acons (d_op op_dFdiv (d_op op_dMulT (d_var 3) (d_var 1)) (d_var 2)) d_anil))))))))
theorem r__law_draw (D : FnP K "_law_draw" s__law_draw f fd)
    (h_int : mg "int" = none)
    (h_divmod : mg "divmod" = none) : FnG P w K mg base 1 f fd ["_law_pot_here", "_law_room"] (spF K mg 2 F__law_draw) := by
  exact fn_mk (N := ["_law_pot_here", "_law_room", "_law_digit"]) (ps := ["_law_pot_here", "_law_room"]) D sc__law_draw fun cdv A outer s H E hr gu Φ => (s_cons (s_if (t_cmp op_dGt (d_ix (d_var 0) d_int (fun _ _ => rfl)) d_int (nomark _)) (s_cons (s_asg (d_callB cr_dDivmod h_divmod (d_acons (d_ix (d_var 0) d_int (fun _ _ => rfl)) (d_acons (d_var 1) d_anil))) (g_tup rfl (g_scons (g_sub (d_var 0) d_int (fun _ => rfl)) (g_scons (g_name 2 sc__law_draw.nd) g_snil)) (gs_len (gs_len gs_len0)))) (s_one (s_ret (d_r (d_var 2))))) s_nil) (s_cons (s_asg (d_op op_dMod (d_callTy cr_dIntT h_int (d_acons (d_op op_dAdd (d_op op_dMulT (d_ix (d_var 0) d_int (fun _ _ => rfl)) d_int) d_int) d_anil)) d_int) (g_sub (d_var 0) d_int (fun _ => rfl))) (s_one (s_ret (d_r (d_op op_dMod (d_callTy cr_dIntT h_int (d_acons (d_op op_dFdiv (d_op op_dMod (d_callTy cr_dIntT h_int (d_acons (d_op op_dMulT (d_ix (d_var 0) d_int (fun _ _ => rfl)) (d_ix (d_var 0) d_int (fun _ _ => rfl))) d_anil)) d_int) d_int) d_anil)) (d_var 1)))))))
theorem r__law_pick (D : FnP K "_law_pick" s__law_pick f fd)
    {a__law_draw : Addr} {fd__law_draw : FuncData} (D__law_draw : FnP K "_law_draw" s__law_draw a__law_draw fd__law_draw) (g__law_draw : mg "_law_draw" = some (.ref a__law_draw)) (R__law_draw : FnG P w K mg base 1 a__law_draw fd__law_draw ["_law_pot_here", "_law_room"] (spF K mg 2 F__law_draw))
    (h_len : mg "len" = none) : FnG P w K mg base 2 f fd ["_law_pot_here", "_law_some"] (spF K mg 2 F__law_pick) := by
  have b__law_draw : Binds K fd__law_draw ["_law_pot_here", "_law_room"] [] := D__law_draw.bindsN fun _ _ _ _ _ _ us hl => match us, hl with | [_, _], _ => rfl
  exact fn_mk (N := ["_law_pot_here", "_law_some"]) (ps := ["_law_pot_here", "_law_some"]) D sc__law_pick fun cdv A outer s H E hr gu Φ => (s_one (s_ret (d_r (d_ix (d_var 1) (d_fz (d_call [true, false] R__law_draw (hr.mono (by omega)) gu g__law_draw D__law_draw.kp b__law_draw (takes_of rfl rfl rfl rfl) (d_acons (d_var 0) (d_acons (d_callB cr_dLen h_len (d_acons (d_var 1) d_anil)) d_anil)))) (fun _ _ => rfl)))))
theorem r__law_one (D : FnP K "_law_one" s__law_one f fd) : FnG P w K mg base 1 f fd [] (spF K mg 0 F__law_one) := by
  exact fn_mk (N := []) (ps := []) D sc__law_one fun cdv A outer s H E hr gu Φ => (s_one (s_ret (d_r (d_op op_dPow d_int d_int))))
theorem r__law_size (D : FnP K "_law_size" s__law_size f fd)
    {a__law_draw : Addr} {fd__law_draw : FuncData} (D__law_draw : FnP K "_law_draw" s__law_draw a__law_draw fd__law_draw) (g__law_draw : mg "_law_draw" = some (.ref a__law_draw)) (R__law_draw : FnG P w K mg base 1 a__law_draw fd__law_draw ["_law_pot_here", "_law_room"] (spF K mg 2 F__law_draw))
    {a__law_pick : Addr} {fd__law_pick : FuncData} (D__law_pick : FnP K "_law_pick" s__law_pick a__law_pick fd__law_pick) (g__law_pick : mg "_law_pick" = some (.ref a__law_pick)) (R__law_pick : FnG P w K mg base 2 a__law_pick fd__law_pick ["_law_pot_here", "_law_some"] (spF K mg 2 F__law_pick))
    {a__law_one : Addr} {fd__law_one : FuncData} (D__law_one : FnP K "_law_one" s__law_one a__law_one fd__law_one) (g__law_one : mg "_law_one" = some (.ref a__law_one)) (R__law_one : FnG P w K mg base 1 a__law_one fd__law_one [] (spF K mg 0 F__law_one)) : FnG P w K mg base 3 f fd ["_law_pot_here"] (spF K mg 1 F__law_size) := by
  have b__law_draw : Binds K fd__law_draw ["_law_pot_here", "_law_room"] [] := D__law_draw.bindsN fun _ _ _ _ _ _ us hl => match us, hl with | [_, _], _ => rfl
  have b__law_pick : Binds K fd__law_pick ["_law_pot_here", "_law_some"] [] := D__law_pick.bindsN fun _ _ _ _ _ _ us hl => match us, hl with | [_, _], _ => rfl
  have b__law_one : Binds K fd__law_one [] [] := D__law_one.bindsN fun _ _ _ _ _ _ us hl => match us, hl with | [], _ => rfl
  exact fn_mk (N := ["_law_pot_here", "_law_way"]) (ps := ["_law_pot_here"]) D sc__law_size fun cdv A outer s H E hr gu Φ => (s_cons (s_set 1 sc__law_size.nd (d_call [true, false] R__law_draw (hr.mono (by omega)) gu g__law_draw D__law_draw.kp b__law_draw (takes_of rfl rfl rfl rfl) (d_acons (d_var 0) (d_acons d_int d_anil)))) (s_cons (s_if (t_cmp (op_dEq hr.units) (d_var 1) d_int (nomark _)) (s_one (s_ret (d_call [true, false] R__law_pick (hr.mono (by omega)) gu g__law_pick D__law_pick.kp b__law_pick (takes_of rfl rfl rfl rfl) (d_acons (d_var 0) (d_acons (d_fz (d_lst (d_acons d_int (d_acons d_int (d_acons d_int (d_acons d_int d_anil)))))) d_anil))))) s_nil) (s_cons (s_if (t_cmp (op_dEq hr.units) (d_var 1) d_int (nomark _)) (s_one (s_ret (d_r (d_op op_dFdiv (d_op op_dMulT (d_fz (d_call [true, false] R__law_pick (hr.mono (by omega)) gu g__law_pick D__law_pick.kp b__law_pick (takes_of rfl rfl rfl rfl) (d_acons (d_var 0) (d_acons (d_fz (d_lst (d_acons d_int (d_acons d_int (d_acons d_int (d_acons d_int d_anil)))))) d_anil)))) (d_fz (d_call0 R__law_one (hr.mono (by omega)) gu g__law_one D__law_one.kp b__law_one (takes_of rfl rfl rfl rfl)))) (d_fz (d_call [true, false] R__law_pick (hr.mono (by omega)) gu g__law_pick D__law_pick.kp b__law_pick (takes_of rfl rfl rfl rfl) (d_acons (d_var 0) (d_acons (d_fz (d_lst (d_acons d_int (d_acons d_int (d_acons d_int (d_acons d_int d_anil)))))) d_anil)))))))) s_nil) (s_cons (s_if (t_cmp (op_dEq hr.units) (d_var 1) d_int (nomark _)) (s_one (s_ret (d_r (d_op op_dAdd d_int (d_fz (d_call [true, false] R__law_draw (hr.mono (by omega)) gu g__law_draw D__law_draw.kp b__law_draw (takes_of rfl rfl rfl rfl) (d_acons (d_var 0) (d_acons d_int d_anil)))))))) s_nil) (s_cons (s_if (t_cmp (op_dEq hr.units) (d_var 1) d_int (nomark _)) (s_one (s_ret (d_r (d_op op_dMulT (d_fz (d_call [true, false] R__law_draw (hr.mono (by omega)) gu g__law_draw D__law_draw.kp b__law_draw (takes_of rfl rfl rfl rfl) (d_acons (d_var 0) (d_acons d_int d_anil)))) (d_fz (d_call [true, false] R__law_draw (hr.mono (by omega)) gu g__law_draw D__law_draw.kp b__law_draw (takes_of rfl rfl rfl rfl) (d_acons (d_var 0) (d_acons d_int d_anil)))))))) s_nil) (s_one (s_ret (d_r (d_op op_dAdd (d_op op_dMulT (d_fz (d_call [true, false] R__law_draw (hr.mono (by omega)) gu g__law_draw D__law_draw.kp b__law_draw (takes_of rfl rfl rfl rfl) (d_acons (d_var 0) (d_acons d_int d_anil)))) d_int) (d_fz (d_call [true, false] R__law_draw (hr.mono (by omega)) gu g__law_draw D__law_draw.kp b__law_draw (takes_of rfl rfl rfl rfl) (d_acons (d_var 0) (d_acons d_int d_anil)))))))))))))
theorem r__law_number (D : FnP K "_law_number" s__law_number f fd)
    {a__law_draw : Addr} {fd__law_draw : FuncData} (D__law_draw : FnP K "_law_draw" s__law_draw a__law_draw fd__law_draw) (g__law_draw : mg "_law_draw" = some (.ref a__law_draw)) (R__law_draw : FnG P w K mg base 1 a__law_draw fd__law_draw ["_law_pot_here", "_law_room"] (spF K mg 2 F__law_draw))
    {a__law_size : Addr} {fd__law_size : FuncData} (D__law_size : FnP K "_law_size" s__law_size a__law_size fd__law_size) (g__law_size : mg "_law_size" = some (.ref a__law_size)) (R__law_size : FnG P w K mg base 3 a__law_size fd__law_size ["_law_pot_here"] (spF K mg 1 F__law_size)) : FnG P w K mg base 4 f fd ["_law_pot_here"] (spF K mg 1 F__law_number) := by
  have b__law_draw : Binds K fd__law_draw ["_law_pot_here", "_law_room"] [] := D__law_draw.bindsN fun _ _ _ _ _ _ us hl => match us, hl with | [_, _], _ => rfl
  have b__law_size : Binds K fd__law_size ["_law_pot_here"] [] := D__law_size.bindsN fun _ _ _ _ _ _ us hl => match us, hl with | [_], _ => rfl
  exact fn_mk (N := ["_law_pot_here", "_law_size_here"]) (ps := ["_law_pot_here"]) D sc__law_number fun cdv A outer s H E hr gu Φ => (s_cons (s_set 1 sc__law_number.nd (d_call [true] R__law_size (hr.mono (by omega)) gu g__law_size D__law_size.kp b__law_size (takes_of rfl rfl rfl rfl) (d_acons (d_var 0) d_anil))) (s_one (s_ret (d_r (d_if (t_cmp (op_dEq hr.units) (d_fz (d_call [true, false] R__law_draw (hr.mono (by omega)) gu g__law_draw D__law_draw.kp b__law_draw (takes_of rfl rfl rfl rfl) (d_acons (d_var 0) (d_acons d_int d_anil)))) d_int (nomark _)) (d_un op_dNeg (d_var 1)) (d_var 1))))))
theorem r__law_text (D : FnP K "_law_text" s__law_text f fd)
    (h_str : mg "str" = none) : FnG P w K mg base 1 f fd ["_law_told"] (spF K mg 1 F__law_text) := by
  exact fn_mk (N := ["_law_told"]) (ps := ["_law_told"]) D sc__law_text fun cdv A outer s H E hr gu Φ => (s_one (s_ret (d_r (d_if (t_cmp (op_dEq hr.units) (d_ix (d_var 0) d_int (fun _ _ => rfl)) d_int (nomark _)) (d_callTy cr_dStr h_str (d_acons (d_ix (d_var 0) d_int (fun _ _ => rfl)) d_anil)) (d_op op_dAdd (d_op op_dAdd (d_callTy cr_dStr h_str (d_acons (d_ix (d_var 0) d_int (fun _ _ => rfl)) d_anil)) d_str) (d_callTy cr_dStr h_str (d_acons (d_ix (d_var 0) d_int (fun _ _ => rfl)) d_anil)))))))
theorem r__law_read (D : FnP K "_law_read" s__law_read f fd)
    (h_len : mg "len" = none)
    (h_int : mg "int" = none)
    {a__law_ratio : Addr} {fd__law_ratio : FuncData} (D__law_ratio : FnP K "_law_ratio" s__law_ratio a__law_ratio fd__law_ratio) (g__law_ratio : mg "_law_ratio" = some (.ref a__law_ratio)) (R__law_ratio : FnG P w K mg base 2 a__law_ratio fd__law_ratio ["_law_number_here", "_law_under"] (spF K mg 2 F__law_ratio))
    (h_str : mg "str" = none) : FnG P w K mg base 3 f fd ["_law_text_here"] (spF K mg 1 F__law_read) := by
  have b__law_ratio : Binds K fd__law_ratio ["_law_number_here", "_law_under"] [] := D__law_ratio.bindsN fun _ _ _ _ _ _ us hl => match us, hl with | [_, _], _ => rfl
  exact fn_mkT (N := ["_law_text_here", "_law_at", "_law_begin", "_law_sign", "_law_one_here", "_law_many", "_law_first", "_law_below", "_law_number_here", "_law_late"]) (ps := ["_law_text_here"]) D sc__law_read (by decide +kernel) (by decide) fun cdv A outer s H E hr gu Φ => (st_cons (st_of (s_set 1 sc__law_read.nd (d_r (d_if (t_cmp (op_dEq hr.units) (d_fz (d_cut (d_var 0) d_onone (d_osome d_int))) d_str (nomark _)) d_int d_int)))) (st_cons (st_of (s_par 2 3 rfl sc__law_read.nd (d_r (d_var 1)) (fun Φ => (d_r d_str)) rfl)) (st_cons (st_of (s_while (passes_of rfl) (t_cmp op_dLt (d_var 1) (d_callB cr_dLen h_len (d_acons (d_var 0) d_anil)) (nomark _)) (s_cons (s_set 4 sc__law_read.nd (d_r (d_ix (d_var 0) (d_var 1) (fun _ _ => rfl)))) (s_cons (s_if (t_cmp (op_dInT (room65 hr)) (d_var 4) d_str (by with_unfolding_all rfl)) (s_cons (s_set 5 sc__law_read.nd (d_r (d_op op_dAdd (d_op op_dSub (d_var 1) (d_var 2)) d_int))) (s_one (s_if (t_w (w_or (t_cmp op_dGt (d_var 5) d_int (nomark _)) (w_or1 (t_w (w_and (t_cmp (op_dEq hr.units) (d_var 3) d_str (nomark _)) (w_and (t_cmp (op_dEq hr.units) (d_var 5) d_int (nomark _)) (w_and (t_cmp (op_dEq hr.units) (d_var 4) d_str (nomark _)) (w_and1 (t_cmp (op_dEq hr.units) (d_fz (d_cut (d_var 0) (d_osome (d_var 2)) (d_osome (d_var 1)))) (d_op op_dMulT d_str d_int) (nomark _)))))))))) (s_one (s_ret (d_r (d_tup (d_acons d_none (d_acons (d_var 1) d_anil)))))) s_nil))) (s_one (s_if (t_w (w_and (t_cmp (op_dInT (room65 hr)) (d_var 4) d_str (by with_unfolding_all rfl)) (w_and (t_cmp (op_dEq hr.units) (d_var 3) d_str (nomark _)) (w_and1 (t_cmp op_dGt (d_var 1) (d_var 2) (nomark _)))))) (s_one (s_par 3 2 rfl sc__law_read.nd (d_r (d_var 4)) (fun Φ => (d_r (d_op op_dAdd (d_var 1) d_int))) rfl)) (s_one (s_ret (d_r (d_tup (d_acons d_none (d_acons (d_var 1) d_anil))))))))) (s_one (s_set 1 sc__law_read.nd (d_r (d_op op_dAdd (d_var 1) d_int)))))))) (st_cons (st_of (s_if (t_w (w_or (t_cmp (op_dEq hr.units) (d_var 1) (d_var 2) (nomark _)) (w_or1 (t_w (w_and (t_cmp (op_dEq hr.units) (d_var 3) d_str (nomark _)) (w_and1 (t_cmp (op_dEq hr.units) (d_fz (d_cut (d_var 0) (d_osome (d_var 2)) d_onone)) (d_op op_dMulT d_str (d_op op_dSub (d_var 1) (d_var 2))) (nomark _)))))))) (s_one (s_ret (d_r (d_tup (d_acons d_none (d_acons (d_callB cr_dLen h_len (d_acons (d_var 0) d_anil)) d_anil)))))) s_nil)) (st_cons (st_of (s_set 6 sc__law_read.nd (d_ifR (t_cmp (op_dNe hr.units) (d_var 3) d_str (nomark _)) (d_cut (d_var 0) d_onone (d_osome (d_op op_dSub (d_var 2) d_int))) (d_r (d_var 0))))) (st_cons (st_of (s_set 7 sc__law_read.nd (d_r (d_if (t_cmp (op_dEq hr.units) (d_ix (d_var 0) d_int (fun _ _ => rfl)) d_str (nomark _)) (d_un op_dNeg d_int) d_int)))) (st_cons (st_par 8 9 rfl sc__law_read.nd (et_callTy cr_dIntT h_int (et_repl (d_var 6))) (fun Φ => (d_ifR (t_cmp (op_dNe hr.units) (d_var 3) d_str (nomark _)) (d_cut (d_var 0) (d_osome (d_var 2)) d_onone) (d_r d_str))) rfl) (st_cons (st_of (s_if (t_cmp (op_dEq hr.units) (d_var 3) d_str (nomark _)) (s_one (s_ret (d_r (d_tup (d_acons (d_fz (d_call [false, false] R__law_ratio (hr.mono (by omega)) gu g__law_ratio D__law_ratio.kp b__law_ratio (takes_of rfl rfl rfl rfl) (d_acons (d_op op_dMulT (d_var 7) (d_callTy cr_dIntT h_int (d_acons (d_op op_dAdd (d_callTy cr_dStr h_str (d_acons (d_var 8) d_anil)) (d_var 9)) d_anil))) (d_acons (d_callTy cr_dIntT h_int (d_acons (d_op op_dAdd d_str (d_op op_dMulT d_str (d_callB cr_dLen h_len (d_acons (d_var 9) d_anil)))) d_anil)) d_anil)))) (d_acons d_none d_anil)))))) s_nil)) (st_one (st_of (s_ret (d_r (d_tup (d_acons (d_fz (d_call [false, false] R__law_ratio (hr.mono (by omega)) gu g__law_ratio D__law_ratio.kp b__law_ratio (takes_of rfl rfl rfl rfl) (d_acons (d_op op_dMulT (d_var 7) (d_var 8)) (d_acons (d_callTy cr_dIntT h_int (d_acons (d_var 9) d_anil)) d_anil)))) (d_acons d_none d_anil)))))))))))))))
theorem r__law_figures (D : FnP K "_law_figures" s__law_figures f fd)
    {a__law_size : Addr} {fd__law_size : FuncData} (D__law_size : FnP K "_law_size" s__law_size a__law_size fd__law_size) (g__law_size : mg "_law_size" = some (.ref a__law_size)) (R__law_size : FnG P w K mg base 3 a__law_size fd__law_size ["_law_pot_here"] (spF K mg 1 F__law_size))
    (h_str : mg "str" = none)
    {a__law_pick : Addr} {fd__law_pick : FuncData} (D__law_pick : FnP K "_law_pick" s__law_pick a__law_pick fd__law_pick) (g__law_pick : mg "_law_pick" = some (.ref a__law_pick)) (R__law_pick : FnG P w K mg base 2 a__law_pick fd__law_pick ["_law_pot_here", "_law_some"] (spF K mg 2 F__law_pick))
    {a__law_draw : Addr} {fd__law_draw : FuncData} (D__law_draw : FnP K "_law_draw" s__law_draw a__law_draw fd__law_draw) (g__law_draw : mg "_law_draw" = some (.ref a__law_draw)) (R__law_draw : FnG P w K mg base 1 a__law_draw fd__law_draw ["_law_pot_here", "_law_room"] (spF K mg 2 F__law_draw)) : FnG P w K mg base 4 f fd ["_law_pot_here"] (spF K mg 1 F__law_figures) := by
  have b__law_draw : Binds K fd__law_draw ["_law_pot_here", "_law_room"] [] := D__law_draw.bindsN fun _ _ _ _ _ _ us hl => match us, hl with | [_, _], _ => rfl
  have b__law_pick : Binds K fd__law_pick ["_law_pot_here", "_law_some"] [] := D__law_pick.bindsN fun _ _ _ _ _ _ us hl => match us, hl with | [_, _], _ => rfl
  have b__law_size : Binds K fd__law_size ["_law_pot_here"] [] := D__law_size.bindsN fun _ _ _ _ _ _ us hl => match us, hl with | [_], _ => rfl
  exact fn_mk (N := ["_law_pot_here", "_law_way"]) (ps := ["_law_pot_here"]) D sc__law_figures fun cdv A outer s H E hr gu Φ => (s_cons (s_set 1 sc__law_figures.nd (d_call [true, false] R__law_draw (hr.mono (by omega)) gu g__law_draw D__law_draw.kp b__law_draw (takes_of rfl rfl rfl rfl) (d_acons (d_var 0) (d_acons d_int d_anil)))) (s_cons (s_if (t_cmp (op_dEq hr.units) (d_var 1) d_int (nomark _)) (s_one (s_ret (d_call [true, false] R__law_pick (hr.mono (by omega)) gu g__law_pick D__law_pick.kp b__law_pick (takes_of rfl rfl rfl rfl) (d_acons (d_var 0) (d_acons (d_fz (d_lst (d_acons d_str (d_acons d_str (d_acons d_str (d_acons d_str (d_acons d_str d_anil))))))) d_anil))))) s_nil) (s_cons (s_if (t_cmp (op_dEq hr.units) (d_var 1) d_int (nomark _)) (s_one (s_ret (d_call [true, false] R__law_pick (hr.mono (by omega)) gu g__law_pick D__law_pick.kp b__law_pick (takes_of rfl rfl rfl rfl) (d_acons (d_var 0) (d_acons (d_fz (d_lst (d_acons (d_op op_dAdd (d_op op_dMulT d_str d_int) d_str) (d_acons (d_op op_dMulT d_str d_int) (d_acons (d_op op_dMulT d_str d_int) (d_acons (d_op op_dAdd d_str (d_op op_dMulT d_str d_int)) (d_acons (d_op op_dMulT d_str d_int) d_anil))))))) d_anil))))) s_nil) (s_one (s_ret (d_r (d_callTy cr_dStr h_str (d_acons (d_fz (d_call [true] R__law_size (hr.mono (by omega)) gu g__law_size D__law_size.kp b__law_size (takes_of rfl rfl rfl rfl) (d_acons (d_var 0) d_anil))) d_anil))))))))
theorem r__law_drawn_text (D : FnP K "_law_drawn_text" s__law_drawn_text f fd)
    {a__law_pick : Addr} {fd__law_pick : FuncData} (D__law_pick : FnP K "_law_pick" s__law_pick a__law_pick fd__law_pick) (g__law_pick : mg "_law_pick" = some (.ref a__law_pick)) (R__law_pick : FnG P w K mg base 2 a__law_pick fd__law_pick ["_law_pot_here", "_law_some"] (spF K mg 2 F__law_pick))
    {a__law_draw : Addr} {fd__law_draw : FuncData} (D__law_draw : FnP K "_law_draw" s__law_draw a__law_draw fd__law_draw) (g__law_draw : mg "_law_draw" = some (.ref a__law_draw)) (R__law_draw : FnG P w K mg base 1 a__law_draw fd__law_draw ["_law_pot_here", "_law_room"] (spF K mg 2 F__law_draw))
    (h_len : mg "len" = none)
    {a__law_figures : Addr} {fd__law_figures : FuncData} (D__law_figures : FnP K "_law_figures" s__law_figures a__law_figures fd__law_figures) (g__law_figures : mg "_law_figures" = some (.ref a__law_figures)) (R__law_figures : FnG P w K mg base 4 a__law_figures fd__law_figures ["_law_pot_here"] (spF K mg 1 F__law_figures)) : FnG P w K mg base 5 f fd ["_law_pot_here"] (spF K mg 1 F__law_drawn_text) := by
  have b__law_draw : Binds K fd__law_draw ["_law_pot_here", "_law_room"] [] := D__law_draw.bindsN fun _ _ _ _ _ _ us hl => match us, hl with | [_, _], _ => rfl
  have b__law_pick : Binds K fd__law_pick ["_law_pot_here", "_law_some"] [] := D__law_pick.bindsN fun _ _ _ _ _ _ us hl => match us, hl with | [_, _], _ => rfl
  have b__law_figures : Binds K fd__law_figures ["_law_pot_here"] [] := D__law_figures.bindsN fun _ _ _ _ _ _ us hl => match us, hl with | [_], _ => rfl
  exact fn_mk (N := ["_law_pot_here", "_law_found", "_law_way", "_law_at"]) (ps := ["_law_pot_here"]) D sc__law_drawn_text fun cdv A outer s H E hr gu Φ => (s_cons (s_set 1 sc__law_drawn_text.nd (d_r (d_op op_dAdd (d_fz (d_call [true, false] R__law_pick (hr.mono (by omega)) gu g__law_pick D__law_pick.kp b__law_pick (takes_of rfl rfl rfl rfl) (d_acons (d_var 0) (d_acons (d_fz (d_lst (d_acons d_str (d_acons d_str (d_acons d_str d_anil))))) d_anil)))) (d_fz (d_call [true] R__law_figures (hr.mono (by omega)) gu g__law_figures D__law_figures.kp b__law_figures (takes_of rfl rfl rfl rfl) (d_acons (d_var 0) d_anil)))))) (s_cons (s_if (t_cmp op_dGt (d_fz (d_call [true, false] R__law_draw (hr.mono (by omega)) gu g__law_draw D__law_draw.kp b__law_draw (takes_of rfl rfl rfl rfl) (d_acons (d_var 0) (d_acons d_int d_anil)))) d_int (nomark _)) (s_one (s_set 1 sc__law_drawn_text.nd (d_r (d_op op_dAdd (d_op op_dAdd (d_var 1) (d_fz (d_call [true, false] R__law_pick (hr.mono (by omega)) gu g__law_pick D__law_pick.kp b__law_pick (takes_of rfl rfl rfl rfl) (d_acons (d_var 0) (d_acons (d_fz (d_lst (d_acons d_str (d_acons d_str (d_acons d_str d_anil))))) d_anil))))) (d_fz (d_call [true] R__law_figures (hr.mono (by omega)) gu g__law_figures D__law_figures.kp b__law_figures (takes_of rfl rfl rfl rfl) (d_acons (d_var 0) d_anil))))))) s_nil) (s_cons (s_par 2 3 rfl sc__law_drawn_text.nd (d_call [true, false] R__law_draw (hr.mono (by omega)) gu g__law_draw D__law_draw.kp b__law_draw (takes_of rfl rfl rfl rfl) (d_acons (d_var 0) (d_acons d_int d_anil))) (fun Φ => (d_call [true, false] R__law_draw (hr.mono (by omega)) gu g__law_draw D__law_draw.kp b__law_draw (takes_of rfl rfl rfl rfl) (d_acons (d_var 0) (d_acons (d_op op_dAdd (d_callB cr_dLen h_len (d_acons (d_var 1) d_anil)) d_int) d_anil)))) rfl) (s_cons (s_if (t_cmp (op_dEq hr.units) (d_var 2) d_int (nomark _)) (s_one (s_ret (d_r (d_op op_dAdd (d_op op_dAdd (d_fz (d_cut (d_var 1) d_onone (d_osome (d_var 3)))) (d_fz (d_call [true, false] R__law_pick (hr.mono (by omega)) gu g__law_pick D__law_pick.kp b__law_pick (takes_of rfl rfl rfl rfl) (d_acons (d_var 0) (d_acons (d_fz (d_lst (d_acons d_str (d_acons d_str (d_acons d_str (d_acons d_str (d_acons d_str (d_acons d_str (d_acons d_str (d_acons d_str (d_acons d_str (d_acons d_str d_anil)))))))))))) d_anil))))) (d_fz (d_cut (d_var 1) (d_osome (d_var 3)) d_onone)))))) s_nil) (s_cons (s_if (t_cmp (op_dEq hr.units) (d_var 2) d_int (nomark _)) (s_one (s_ret (d_r (d_op op_dAdd (d_fz (d_cut (d_var 1) d_onone (d_osome (d_var 3)))) (d_fz (d_cut (d_var 1) (d_osome (d_op op_dAdd (d_var 3) d_int)) d_onone)))))) s_nil) (s_one (s_ret (d_ifR (t_cmp (op_dEq hr.units) (d_var 2) d_int (nomark _)) (d_cut (d_var 1) d_onone (d_osome (d_var 3))) (d_r (d_var 1))))))))))
theorem r__law_heard (D : FnP K "_law_heard" s__law_heard f fd)
    {a_parse_ratio : Addr} {fd_parse_ratio : FuncData} (D_parse_ratio : FnP K "parse_ratio" s_parse_ratio a_parse_ratio fd_parse_ratio) (g_parse_ratio : mg "parse_ratio" = some (.ref a_parse_ratio)) (R_parse_ratio : FnG P w K mg base 3 a_parse_ratio fd_parse_ratio ["text"] (spF K mg 1 F_parse_ratio))
    {c_BadText : Value} (hc_BadText : mg "BadText" = some c_BadText) (x_BadText : ∀ y b d, mt_BadText y = some b → mg y = some d → PySem.W.exmOne K d c_BadText = some b)
    {C_WebError : Addr} (g_WebError : mg "WebError" = some (.ref C_WebError)) (xi_WebError : ∀ y c b, mi_WebError y = some b → mg y = some c → ∃ C, c = .ref C ∧ ExcC K C ∧ PySem.W.kitOne K (.ref C) (.ref C_WebError) = some b)
    (h_isinstance : mg "isinstance" = none)
    (xf_BadText_position : ∀ y c, mt_BadText y = some true → mg y = some c → ∃ C, c = .ref C ∧ XfC K C ∧ PySem.W.findIn K (.ref C) "position" = some none) : FnG P w K mg base 4 f fd ["_law_text_here"] (spF K mg 1 F__law_heard) := by
  have b_parse_ratio : Binds K fd_parse_ratio ["text"] [] := D_parse_ratio.bindsN fun _ _ _ _ _ _ us hl => match us, hl with | [_], _ => rfl
  exact fn_mk (N := ["_law_text_here", "_law_heard_here", "e"]) (ps := ["_law_text_here"]) D sc__law_heard fun cdv A outer s H E hr gu Φ => (s_cons (s_set 1 sc__law_heard.nd (d_r d_none)) (s_cons (s_tryAs 2 sc__law_heard.nd rfl rfl (takes_of rfl rfl rfl rfl) ⟨rfl, by decide, .inl hc_BadText⟩ x_BadText (fun W' pn xe tk' hp' => (s_one (s_set 1 sc__law_heard.nd (d_r (d_tup (d_acons (d_fz (d_callK0 [false] [0] [] R_parse_ratio (hr.mono (by omega)) gu g_parse_ratio D_parse_ratio.kp (kw_binds D_parse_ratio (ps := ["text"]) (ks := ["text"]) (n := 0) (ix := [0]) fun _ _ _ _ _ _ us ws l1 l2 => match us, ws, l1, l2 with | [], [_], _, _ => rfl) .nil (fun _ => .nil) tk' (k_cons (d_var 0) k_nil))) (d_acons d_none d_anil))))))) (fun a oe cls d pn x Φ' hz hf su => (s_one (s_set 1 sc__law_heard.nd (d_r (d_if (t_tr (d_xisO su hz hf xi_WebError h_isinstance g_WebError (d_var 2))) (d_tup (d_acons d_none (d_acons (d_xf su hz hf xf_BadText_position (d_var 2)) d_anil))) d_none)))))) (s_one (s_ret (d_r (d_var 1))))))
theorem r__law_right (D : FnP K "_law_right" s__law_right f fd)
    {a__law_heard : Addr} {fd__law_heard : FuncData} (D__law_heard : FnP K "_law_heard" s__law_heard a__law_heard fd__law_heard) (g__law_heard : mg "_law_heard" = some (.ref a__law_heard)) (R__law_heard : FnG P w K mg base 4 a__law_heard fd__law_heard ["_law_text_here"] (spF K mg 1 F__law_heard))
    (h_range : mg "range" = none)
    (h_repr : mg "repr" = none)
    {a__law_read : Addr} {fd__law_read : FuncData} (D__law_read : FnP K "_law_read" s__law_read a__law_read fd__law_read) (g__law_read : mg "_law_read" = some (.ref a__law_read)) (R__law_read : FnG P w K mg base 3 a__law_read fd__law_read ["_law_text_here"] (spF K mg 1 F__law_read))
    {a__law_drawn_text : Addr} {fd__law_drawn_text : FuncData} (D__law_drawn_text : FnP K "_law_drawn_text" s__law_drawn_text a__law_drawn_text fd__law_drawn_text) (g__law_drawn_text : mg "_law_drawn_text" = some (.ref a__law_drawn_text)) (R__law_drawn_text : FnG P w K mg base 5 a__law_drawn_text fd__law_drawn_text ["_law_pot_here"] (spF K mg 1 F__law_drawn_text))
    {a_parse_ratio : Addr} {fd_parse_ratio : FuncData} (D_parse_ratio : FnP K "parse_ratio" s_parse_ratio a_parse_ratio fd_parse_ratio) (g_parse_ratio : mg "parse_ratio" = some (.ref a_parse_ratio)) (R_parse_ratio : FnG P w K mg base 3 a_parse_ratio fd_parse_ratio ["text"] (spF K mg 1 F_parse_ratio))
    {a_ratio_text : Addr} {fd_ratio_text : FuncData} (D_ratio_text : FnP K "ratio_text" s_ratio_text a_ratio_text fd_ratio_text) (g_ratio_text : mg "ratio_text" = some (.ref a_ratio_text)) (R_ratio_text : FnG P w K mg base 4 a_ratio_text fd_ratio_text ["ratio"] (spF K mg 1 F_ratio_text))
    {a__law_text : Addr} {fd__law_text : FuncData} (D__law_text : FnP K "_law_text" s__law_text a__law_text fd__law_text) (g__law_text : mg "_law_text" = some (.ref a__law_text)) (R__law_text : FnG P w K mg base 1 a__law_text fd__law_text ["_law_told"] (spF K mg 1 F__law_text))
    {a_ratio : Addr} {fd_ratio : FuncData} (D_ratio : FnP K "ratio" s_ratio a_ratio fd_ratio) (g_ratio : mg "ratio" = some (.ref a_ratio)) (R_ratio : FnG P w K mg base 4 a_ratio fd_ratio ["number", "under"] (spF K mg 2 F_ratio))
    {a__law_ratio : Addr} {fd__law_ratio : FuncData} (D__law_ratio : FnP K "_law_ratio" s__law_ratio a__law_ratio fd__law_ratio) (g__law_ratio : mg "_law_ratio" = some (.ref a__law_ratio)) (R__law_ratio : FnG P w K mg base 2 a__law_ratio fd__law_ratio ["_law_number_here", "_law_under"] (spF K mg 2 F__law_ratio))
    {a__law_number : Addr} {fd__law_number : FuncData} (D__law_number : FnP K "_law_number" s__law_number a__law_number fd__law_number) (g__law_number : mg "_law_number" = some (.ref a__law_number)) (R__law_number : FnG P w K mg base 4 a__law_number fd__law_number ["_law_pot_here"] (spF K mg 1 F__law_number)) : FnG P w K mg base 6 f fd ["_law_pot_here"] (spF K mg 1 F__law_right) := by
  have b_ratio : Binds K fd_ratio ["number", "under"] [] := D_ratio.bindsN fun _ _ _ _ _ _ us hl => match us, hl with | [_, _], _ => rfl
  have b_ratio_text : Binds K fd_ratio_text ["ratio"] [] := D_ratio_text.bindsN fun _ _ _ _ _ _ us hl => match us, hl with | [_], _ => rfl
  have b_parse_ratio : Binds K fd_parse_ratio ["text"] [] := D_parse_ratio.bindsN fun _ _ _ _ _ _ us hl => match us, hl with | [_], _ => rfl
  have b__law_ratio : Binds K fd__law_ratio ["_law_number_here", "_law_under"] [] := D__law_ratio.bindsN fun _ _ _ _ _ _ us hl => match us, hl with | [_, _], _ => rfl
  have b__law_number : Binds K fd__law_number ["_law_pot_here"] [] := D__law_number.bindsN fun _ _ _ _ _ _ us hl => match us, hl with | [_], _ => rfl
  have b__law_text : Binds K fd__law_text ["_law_told"] [] := D__law_text.bindsN fun _ _ _ _ _ _ us hl => match us, hl with | [_], _ => rfl
  have b__law_read : Binds K fd__law_read ["_law_text_here"] [] := D__law_read.bindsN fun _ _ _ _ _ _ us hl => match us, hl with | [_], _ => rfl
  have b__law_drawn_text : Binds K fd__law_drawn_text ["_law_pot_here"] [] := D__law_drawn_text.bindsN fun _ _ _ _ _ _ us hl => match us, hl with | [_], _ => rfl
  have b__law_heard : Binds K fd__law_heard ["_law_text_here"] [] := D__law_heard.bindsN fun _ _ _ _ _ _ us hl => match us, hl with | [_], _ => rfl
  exact fn_mk (N := ["_law_pot_here", "_law_turn", "_law_number_here", "_law_under", "_law_told", "_law_text_here"]) (ps := ["_law_pot_here"]) D sc__law_right fun cdv A outer s H E hr gu Φ => (s_cons (s_for (passes_of rfl) rfl (i_rng1 h_range (d_acons d_int d_anil)) (g_name 1 sc__law_right.nd) (s_cons (s_par 2 3 rfl sc__law_right.nd (d_call [true] R__law_number (hr.mono (by omega)) gu g__law_number D__law_number.kp b__law_number (takes_of rfl rfl rfl rfl) (d_acons (d_var 0) d_anil)) (fun Φ => (d_call [true] R__law_number (hr.mono (by omega)) gu g__law_number D__law_number.kp b__law_number (takes_of rfl rfl rfl rfl) (d_acons (d_var 0) d_anil))) rfl) (s_cons (s_set 3 sc__law_right.nd (d_r (d_if (t_cmp (op_dNe hr.units) (d_var 3) d_int (nomark _)) (d_var 3) (d_un op_dNeg d_int)))) (s_cons (s_set 4 sc__law_right.nd (d_call [false, false] R_ratio (hr.mono (by omega)) gu g_ratio D_ratio.kp b_ratio (takes_of rfl rfl rfl rfl) (d_acons (d_var 2) (d_acons (d_var 3) d_anil)))) (s_cons (s_if (t_w (w_or (t_cmp (op_dNe hr.units) (d_callB (cr_dRepr hr.units gu) h_repr (d_acons (d_var 4) d_anil)) (d_callB (cr_dRepr hr.units gu) h_repr (d_acons (d_fz (d_call [false, false] R__law_ratio (hr.mono (by omega)) gu g__law_ratio D__law_ratio.kp b__law_ratio (takes_of rfl rfl rfl rfl) (d_acons (d_var 2) (d_acons (d_var 3) d_anil)))) d_anil)) (nomark _)) (w_or1 (t_cmp (op_dNe hr.units) (d_fz (d_callK0 [false, false] [1, 0] [] R_ratio (hr.mono (by omega)) gu g_ratio D_ratio.kp (kw_binds D_ratio (ps := ["number", "under"]) (ks := ["under", "number"]) (n := 0) (ix := [1, 0]) fun _ _ _ _ _ _ us ws l1 l2 => match us, ws, l1, l2 with | [], [_, _], _, _ => rfl) .nil (fun _ => .nil) (takes_of rfl rfl rfl rfl) (k_cons (d_var 3) (k_cons (d_var 2) k_nil)))) (d_var 4) (nomark _))))) (s_one (s_ret (d_r d_bool))) s_nil) (s_one (s_if (t_w (w_or (t_cmp (op_dNe hr.units) (d_fz (d_call [false] R_ratio_text (hr.mono (by omega)) gu g_ratio_text D_ratio_text.kp b_ratio_text (takes_of rfl rfl rfl rfl) (d_acons (d_var 4) d_anil))) (d_fz (d_call [false] R__law_text (hr.mono (by omega)) gu g__law_text D__law_text.kp b__law_text (takes_of rfl rfl rfl rfl) (d_acons (d_var 4) d_anil))) (nomark _)) (w_or1 (t_cmp (op_dNe hr.units) (d_fz (d_call [false] R_parse_ratio (hr.mono (by omega)) gu g_parse_ratio D_parse_ratio.kp b_parse_ratio (takes_of rfl rfl rfl rfl) (d_acons (d_fz (d_callK0 [false] [0] [] R_ratio_text (hr.mono (by omega)) gu g_ratio_text D_ratio_text.kp (kw_binds D_ratio_text (ps := ["ratio"]) (ks := ["ratio"]) (n := 0) (ix := [0]) fun _ _ _ _ _ _ us ws l1 l2 => match us, ws, l1, l2 with | [], [_], _, _ => rfl) .nil (fun _ => .nil) (takes_of rfl rfl rfl rfl) (k_cons (d_var 4) k_nil))) d_anil))) (d_var 4) (nomark _))))) (s_one (s_ret (d_r d_bool))) s_nil))))))) (s_cons (s_for (passes_of rfl) rfl (i_rng1 h_range (d_acons d_int d_anil)) (g_name 1 sc__law_right.nd) (s_cons (s_set 5 sc__law_right.nd (d_call [true] R__law_drawn_text (hr.mono (by omega)) gu g__law_drawn_text D__law_drawn_text.kp b__law_drawn_text (takes_of rfl rfl rfl rfl) (d_acons (d_var 0) d_anil))) (s_one (s_if (t_cmp (op_dNe hr.units) (d_callB (cr_dRepr hr.units gu) h_repr (d_acons (d_fz (d_call [false] R__law_heard (hr.mono (by omega)) gu g__law_heard D__law_heard.kp b__law_heard (takes_of rfl rfl rfl rfl) (d_acons (d_var 5) d_anil))) d_anil)) (d_callB (cr_dRepr hr.units gu) h_repr (d_acons (d_fz (d_call [false] R__law_read (hr.mono (by omega)) gu g__law_read D__law_read.kp b__law_read (takes_of rfl rfl rfl rfl) (d_acons (d_var 5) d_anil))) d_anil)) (nomark _)) (s_one (s_ret (d_r d_bool))) s_nil)))) (s_one (s_ret (d_r (d_and (d_cmp (op_dEq hr.units) (d_fz (d_call [false] R__law_heard (hr.mono (by omega)) gu g__law_heard D__law_heard.kp b__law_heard (takes_of rfl rfl rfl rfl) (d_acons d_str d_anil))) (d_tup (d_acons d_none (d_acons d_int d_anil))) (nomark _)) (d_bone (d_cmp (op_dEq hr.units) (d_fz (d_call [false] R__law_heard (hr.mono (by omega)) gu g__law_heard D__law_heard.kp b__law_heard (takes_of rfl rfl rfl rfl) (d_acons d_str d_anil))) (d_tup (d_acons d_none (d_acons d_int d_anil))) (nomark _)))))))))
theorem r_law (D : FnP K "law" s_law f fd)
    {a__law_right : Addr} {fd__law_right : FuncData} (D__law_right : FnP K "_law_right" s__law_right a__law_right fd__law_right) (g__law_right : mg "_law_right" = some (.ref a__law_right)) (R__law_right : FnG P w K mg base 6 a__law_right fd__law_right ["_law_pot_here"] (spF K mg 1 F__law_right))
    {a__law_pot : Addr} {fd__law_pot : FuncData} (D__law_pot : FnP K "_law_pot" s__law_pot a__law_pot fd__law_pot) (g__law_pot : mg "_law_pot" = some (.ref a__law_pot)) (R__law_pot : FnG P w K mg base 1 a__law_pot fd__law_pot ["_law_script", "_law_k"] (spF K mg 2 F__law_pot)) : FnG P w K mg base 7 f fd ["_law_script"] (spF K mg 1 F_law) := by
  have b__law_pot : Binds K fd__law_pot ["_law_script", "_law_k"] [] := D__law_pot.bindsN fun _ _ _ _ _ _ us hl => match us, hl with | [_, _], _ => rfl
  have b__law_right : Binds K fd__law_right ["_law_pot_here"] [] := D__law_right.bindsN fun _ _ _ _ _ _ us hl => match us, hl with | [_], _ => rfl
  exact fn_mk (N := ["_law_script"]) (ps := ["_law_script"]) D sc_law fun cdv A outer s H E hr gu Φ => (s_one (s_ret (d_call1 R__law_right (hr.mono (by omega)) gu g__law_right D__law_right.kp b__law_right (takes_of rfl rfl rfl rfl) (d_call [false, false] R__law_pot (hr.mono (by omega)) gu g__law_pot D__law_pot.kp b__law_pot (takes_of rfl rfl rfl rfl) (d_acons (d_var 0) (d_acons d_int d_anil))))))
end
end
end K11
set_option Elab.async false
set_option linter.all false
set_option maxRecDepth 100000
set_option maxHeartbeats 4000000
namespace K11
open PySem L2 DL NumText
/-! ### ratios -/
theorem ev_made {a b : Int} {n : Nat} (hb : b ≠ 0) (hs : b.natAbs < 2 ^ n) (hn : n ≤ 9000) :
    F_made_ratio [.sh (.int a), .sh (.int b)] = .ok (.sh (rD (Rat.divInt a b))) [.sh (.int a), .sh (.int b)] := by
  have g0 : 0 < Nat.gcd a.natAbs b.natAbs := Nat.gcd_pos_of_pos_right _ (by omega)
  have gle : Nat.gcd a.natAbs b.natAbs < 2 ^ n := Nat.lt_of_le_of_lt (Nat.gcd_le_right _ (by omega)) hs
  rcases Int.lt_or_gt_of_ne hb with h | h
  · obtain ⟨h1, h2⟩ := made_neg (a := a) h
    have f1 : dFdiv (.int a) (.int (0 - (Nat.gcd a.natAbs b.natAbs : Nat))) = some (.int (Rat.divInt a b).num) := by
      rw [fdiv_ok (n := n) (by omega) (by omega) hn, h1]
    have f2 : dFdiv (.int b) (.int (0 - (Nat.gcd a.natAbs b.natAbs : Nat))) = some (.int (Rat.divInt a b).den) := by
      rw [fdiv_ok (n := n) (by omega) (by omega) hn, h2]
    simp [F_made_ratio, m_made_ratio, h, -Int.zero_sub, f1, f2, rD]
  · obtain ⟨h1, h2⟩ := made_pos (a := a) h
    have f1 : dFdiv (.int a) (.int (Nat.gcd a.natAbs b.natAbs : Nat)) = some (.int (Rat.divInt a b).num) := by
      rw [fdiv_ok (n := n) (by omega) (by omega) hn, h1]
    have f2 : dFdiv (.int b) (.int (Nat.gcd a.natAbs b.natAbs : Nat)) = some (.int (Rat.divInt a b).den) := by
      rw [fdiv_ok (n := n) (by omega) (by omega) hn, h2]
    have h3 : ¬ b < 0 := by omega
    simp [F_made_ratio, m_made_ratio, h3, f1, f2, rD]
theorem ev_is_integer (a : Int) : F_is_integer [.sh (.int a)] = .ok (.sh (.bool true)) [.sh (.int a)] := by
  have h : isT .bool (.int a) = false := rfl
  simp [F_is_integer, m_is_integer, h]
theorem ev_is_ratio (p : Rat) : F_is_ratio [.sh (rD p)] = .ok (.sh (.bool true)) [.sh (rD p)] := by
  have h1 : (1 : Int) ≤ p.den := by have := den_pos p; omega
  have h2 : Nat.gcd p.num.natAbs p.den = 1 := p.reduced
  simp [F_is_ratio, m_is_ratio, ev_is_integer, z_callR, h1, h2]
theorem fmod_small (a : Int) {b : Int} (h : b ≠ 0) : (a.fmod b).natAbs < b.natAbs := by
  have h1 := Int.emod_nonneg a h
  have h2 := Int.emod_lt a h
  rw [Int.fmod_eq_emod]
  split
  · omega
  · rename_i z
    have z1 : ¬ 0 ≤ b := fun q => z (.inl q)
    have z2 : a % b ≠ 0 := fun q => z (.inr (Int.dvd_of_emod_eq_zero q))
    omega
theorem gcd_fmod (a b : Int) : Nat.gcd b.natAbs (a.fmod b).natAbs = Nat.gcd a.natAbs b.natAbs := by
  show Int.gcd b (a.fmod b) = Int.gcd a b
  rw [Int.gcd_comm a b]
  refine Nat.dvd_antisymm ?_ ?_
  · refine Int.dvd_gcd (Int.gcd_dvd_left ..) ?_
    have h1 : ((Int.gcd b (a.fmod b) : Nat) : Int) ∣ b * (a.fdiv b) + a.fmod b := Int.dvd_add (Int.dvd_mul_of_dvd_left (Int.gcd_dvd_left ..)) (Int.gcd_dvd_right ..)
    rwa [Int.mul_fdiv_add_fmod] at h1
  · refine Int.dvd_gcd (Int.gcd_dvd_left ..) ?_
    have h1 : ((Int.gcd b a : Nat) : Int) ∣ a - b * (a.fdiv b) := Int.dvd_sub (Int.gcd_dvd_right ..) (Int.dvd_mul_of_dvd_left (Int.gcd_dvd_left ..))
    rwa [← Int.fmod_def] at h1
theorem gcd_walk : ∀ (k : Nat) (a b : Int), b.natAbs < k → ∃ (n : Nat) (c : Int), c.natAbs = Nat.gcd a.natAbs b.natAbs ∧
    whileN (tOf (eOp2 dNe (eVar 1) (eC (.int 0)))) (sPar 0 1 (eR (eVar 1)) (eR (eOp2 dMod (eVar 0) (eVar 1)))) n [.sh (.int a), .sh (.int b)] = some (.ok .nx [.sh (.int c), .sh (.int 0)])
  | 0, a, b, h => absurd h (by omega)
  | k + 1, a, b, h => by
    by_cases hb : b = 0
    · subst hb
      exact ⟨1, a, by simp, by simp [whileN]⟩
    · have sm := fmod_small a hb
      obtain ⟨n, c, hc, hw⟩ := gcd_walk k b (a.fmod b) (by omega)
      refine ⟨n + 1, c, hc.trans (gcd_fmod a b), ?_⟩
      rw [whileN]
      simp [hb, fmod_ok hb]
      exact hw
theorem ev_lgcd (a b : Int) : F__law_gcd [.sh (.int a), .sh (.int b)] = .ok (.sh (.int (Nat.gcd a.natAbs b.natAbs : Nat))) [.sh (.int a), .sh (.int b)] := by
  obtain ⟨n, c, hc, hw⟩ := gcd_walk (b.natAbs + 1) a b (by omega)
  have e : (if c < 0 then -c else c) = ((Nat.gcd a.natAbs b.natAbs : Nat) : Int) := by
    rw [← hc]
    split <;> omega
  simp [F__law_gcd, m__law_gcd, sWhile_of hw, e]
theorem ev_lratio {a b : Int} {n : Nat} (hb : 0 < b) (ha : a.natAbs < 2 ^ n) (hs : b.natAbs < 2 ^ n) (hn : n ≤ 9000) :
    F__law_ratio [.sh (.int a), .sh (.int b)] = .ok (.sh (rD (Rat.divInt a b))) [.sh (.int a), .sh (.int b)] := by
  have g0 : 0 < Nat.gcd a.natAbs b.natAbs := Nat.gcd_pos_of_pos_right _ (by omega)
  have gle : Nat.gcd a.natAbs b.natAbs < 2 ^ n := Nat.lt_of_le_of_lt (Nat.gcd_le_right _ (by omega)) hs
  obtain ⟨h1, h2⟩ := made_pos (a := a) hb
  have f1 : dFdiv (.int a) (.int (Nat.gcd a.natAbs b.natAbs : Nat)) = some (.int (Rat.divInt a b).num) := by
    rw [fdiv_ok (n := n) (by omega) (by omega) hn, h1]
  have f2 : dFdiv (.int b) (.int (Nat.gcd a.natAbs b.natAbs : Nat)) = some (.int (Rat.divInt a b).den) := by
    rw [fdiv_ok (n := n) (by omega) (by omega) hn, h2]
  have o : (1 : Int).natAbs < 2 ^ 1 := by decide
  have e1 := mulT_ok o ha (by omega)
  have e2 := mulT_ok o hs (by omega)
  rw [Int.one_mul] at e1 e2
  simp [F__law_ratio, m__law_ratio, ev_lgcd a b, z_callR, hb, e1, e2, f1, f2]
  rfl
theorem divInt_nn (a b : Int) : Rat.divInt (-a) (-b) = Rat.divInt a b := by
  rw [Rat.divInt_eq_div, Rat.divInt_eq_div, Rat.intCast_neg, Rat.intCast_neg]
  by_cases h : (b : Rat) = 0
  · rw [h]
    simp [Rat.div_def, Rat.inv_zero]
  · have h1 := Rat.div_mul_cancel (a := (a : Rat)) h
    have h2 := Rat.div_mul_cancel (a := -(a : Rat)) (b := -(b : Rat)) (by grind)
    grind
theorem ev_lratio' {a b : Int} {n : Nat} (hb : b ≠ 0) (ha : a.natAbs < 2 ^ n) (hs : b.natAbs < 2 ^ n) (hn : n ≤ 9000) :
    F__law_ratio [.sh (.int a), .sh (.int b)] = .ok (.sh (rD (Rat.divInt a b))) [.sh (.int a), .sh (.int b)] := by
  rcases Int.lt_or_gt_of_ne hb with h | h
  · have g0 : 0 < Nat.gcd a.natAbs b.natAbs := Nat.gcd_pos_of_pos_right _ (by omega)
    have gle : Nat.gcd a.natAbs b.natAbs < 2 ^ n := Nat.lt_of_le_of_lt (Nat.gcd_le_right _ (by omega)) hs
    obtain ⟨h1, h2⟩ := made_pos (a := -a) (b := -b) (by omega)
    rw [Int.natAbs_neg, Int.natAbs_neg, divInt_nn] at h1 h2
    have f1 : dFdiv (.int (-a)) (.int (Nat.gcd a.natAbs b.natAbs : Nat)) = some (.int (Rat.divInt a b).num) := by
      rw [fdiv_ok (n := n) (by omega) (by omega) hn, h1]
    have f2 : dFdiv (.int (-b)) (.int (Nat.gcd a.natAbs b.natAbs : Nat)) = some (.int (Rat.divInt a b).den) := by
      rw [fdiv_ok (n := n) (by omega) (by omega) hn, h2]
    have o : (-1 : Int).natAbs < 2 ^ 1 := by decide
    have e1 : dMulT (.int (-1)) (.int a) = some (.int (-a)) := by
      rw [mulT_ok o ha (by omega), Int.neg_mul, Int.one_mul]
    have e2 : dMulT (.int (-1)) (.int b) = some (.int (-b)) := by
      rw [mulT_ok o hs (by omega), Int.neg_mul, Int.one_mul]
    have h3 : ¬ 0 < b := by omega
    have w := ev_lgcd a b
    simp [F__law_ratio, m__law_ratio, w, z_callR, h3, e1, e2, f1, f2]
    rfl
  · exact ev_lratio h ha hs hn
/-! ### written texts -/
@[simp] theorem l_e : (Str.ofString "") = sOf [] := rfl
@[simp] theorem l_m : (Str.ofString "-") = sOf [45] := rfl
@[simp] theorem l_0 : (Str.ofString "0") = sOf [48] := rfl
@[simp] theorem l_1 : (Str.ofString "1") = sOf [49] := rfl
@[simp] theorem l_s : (Str.ofString "/") = sOf [47] := rfl
@[simp] theorem l_p : (Str.ofString ".") = sOf [46] := rfl
@[simp] theorem l_sp : (Str.ofString "/.") = sOf [47, 46] := rfl
@[simp] theorem l_d : (Str.ofString "0123456789") = sOf [48, 49, 50, 51, 52, 53, 54, 55, 56, 57] := rfl
def isD (c : Nat) : Bool := decide (48 ≤ c ∧ c ≤ 57)
theorem mem_d (c : Nat) : decide (c ∈ [48, 49, 50, 51, 52, 53, 54, 55, 56, 57]) = isD c := by
  unfold isD
  rw [decide_eq_decide]
  simp only [List.mem_cons, List.not_mem_nil, or_false]
  omega
end K11
set_option Elab.async false
set_option linter.all false
set_option maxRecDepth 100000
set_option maxHeartbeats 4000000
namespace K11
open PySem L2 DL NumText
@[simp] theorem s_inj2 (a b : List Nat) : (sOf a = sOf b) ↔ a = b := sOf_inj
theorem allB_map (f : Nat → Bool) : ∀ l : List Nat, allB (l.map fun c => PyData.bool (f c)) = some (l.map f)
  | [] => rfl
  | c :: l => by
    rw [List.map_cons, z_allB1, allB_map f l]
    rfl
theorem lc_nought (x : Sl) : ∀ (l : List Nat) (acc : List D), acc.length + l.length < 1000000 →
    lcL (gSet 1) tYesF (eOp2 dEq (eVar 1) (eC (.str (sOf [48])))) [1] (l.map fun c => .str (sOf [c])) [x, .un] acc = .ok (acc ++ l.map fun c => .bool (decide (c = 48))) [x, .un]
  | [], acc, _ => by simp
  | c :: l, acc, h => by
    have hl : acc.length < 1000000 := by simp at h; omega
    have ih := lc_nought x l (acc ++ [.bool (decide (c = 48))]) (by simp at h ⊢; omega)
    rw [List.map_cons, z_lcL2]
    simp [hl, ih]
theorem ev_nought {l : List Nat} (h : l.length ≤ 1000) : F_is_nought [.sh (.str (sOf l))] = .ok (.sh (.bool (l.all fun c => decide (c = 48)))) [.sh (.str (sOf l))] := by
  have e := lc_nought (.sh (.str (sOf l))) l [] (by simp; omega)
  have e2 := allB_map (fun c => decide (c = 48)) l
  simp [F_is_nought, m_is_nought, e, e2]
/-- how many digits in a row: j of them are passed, all noughts or not -/
def run (u : Bool) : List Nat → Nat → Bool → Nat
  | [], j, _ => j
  | c :: r, j, z => if (isD c && decide (j < 40)) = true then (if (u && (decide (j = 39) && (decide (c = 48) && z))) = true then j else run u r (j + 1) (z && decide (c = 48))) else j
noncomputable def cE : Tf := (tAndF (tOf (eOp2 dLt (eVar 3) (eCall bLen (aCons (eVar 0) aNil)))) (tAndF (tOf (eOp2 dInT (eOp2 dIx (eVar 0) (eVar 3)) (eC (.str "0123456789")))) (tOf (eOp2 dLt (eOp2 dSub (eVar 3) (eVar 1)) (eC (.int (40)))))))
noncomputable def bE : Sf := (sSeq (sSet 4 (eR (eOp2 dEq (eOp2 dSub (eVar 3) (eVar 1)) (eOp2 dSub (eC (.int (40))) (eC (.int 1)))))) (sSeq (sIf (tAndF (tTr (eVar 2)) (tAndF (tTr (eVar 4)) (tAndF (tOf (eOp2 dEq (eOp2 dIx (eVar 0) (eVar 3)) (eC (.str "0")))) (tTr (eFz (eFnC F_is_nought [false] (aCons (eFz (eCut (eVar 0) (oSome (eVar 1)) (oSome (eVar 3)))) aNil))))))) (sRet (eR (eVar 3))) sNil) (sSet 3 (eR (eOp2 dAdd (eVar 3) (eC (.int 1)))))))
theorem m_de_eq : m_digits_end = (sSeq (sSet 3 (eR (eVar 1))) (sSeq (sWhile cE bE) (sRet (eR (eVar 3))))) := rfl
def frE (l : List Nat) (p : Nat) (u : Bool) (j : Nat) (s : Sl) : Fr := [.sh (.str (sOf l)), .sh (.int (p : Nat)), .sh (.bool u), .sh (.int ((p + j : Nat) : Int)), s]
theorem cE_end {l : List Nat} {p j : Nat} {u : Bool} {s : Sl} (hl : l.length ≤ 1000) (h : l.length ≤ p + j) : cE (frE l p u j s) = .ok false (frE l p u j s) := by
  have e := z_lenS (l := l) (by omega)
  have d : ¬ p + j < l.length := by omega
  simp only [cE, frE]
  simp [-Int.natCast_add, e, d]
theorem cE_go {l : List Nat} {p j c : Nat} {u : Bool} {s : Sl} (hl : l.length ≤ 1000) (h : l[p + j]? = some c) : cE (frE l p u j s) = .ok (isD c && decide (j < 40)) (frE l p u j s) := by
  have hlt := (List.getElem?_eq_some_iff.mp h).1
  have e := z_lenS (l := l) (by omega)
  have ix := z_ixS h (by omega)
  have d2 : decide (((p + j : Nat) : Int) - (p : Int) < 40) = decide (j < 40) := decide_eq_decide.mpr (by omega)
  have md := mem_d c
  cases hd : isD c with
  | false =>
    rw [hd] at md
    simp only [cE, frE, l_d]
    simp [-Int.natCast_add, -List.mem_cons, e, hlt, ix, md]
  | true =>
    rw [hd] at md
    simp only [cE, frE, l_d]
    simp [-Int.natCast_add, -List.mem_cons, e, hlt, ix, md, d2]
end K11
set_option Elab.async false
set_option linter.all false
set_option maxRecDepth 100000
set_option maxHeartbeats 4000000
namespace K11
open PySem L2 DL NumText
def z48 (l : List Nat) (p j : Nat) : Bool := ((l.drop p).take j).all fun c => decide (c = 48)
theorem z48_zero (l : List Nat) (p : Nat) : z48 l p 0 = true := rfl
theorem z48_succ {l : List Nat} {p j c : Nat} (h : l[p + j]? = some c) : z48 l p (j + 1) = (z48 l p j && decide (c = 48)) := by
  unfold z48
  have e : (l.drop p)[j]? = some c := by rw [List.getElem?_drop]; exact h
  rw [List.take_add_one, e]
  simp
theorem bE_go {l : List Nat} {p j c : Nat} {u : Bool} {s : Sl} (hs : s = .un ∨ ∃ d, s = .sh d) (hl : l.length ≤ 1000) (h : l[p + j]? = some c) :
    bE (frE l p u j s) = if (u && (decide (j = 39) && (decide (c = 48) && z48 l p j))) = true then .ok (.rt (.sh (.int ((p + j : Nat) : Int)))) (frE l p u j (.sh (.bool (decide (j = 39))))) else .ok .nx (frE l p u (j + 1) (.sh (.bool (decide (j = 39))))) := by
  have ix := z_ixS h (by omega)
  have cut : dCut (.str (sOf l)) (some (p : Int)) (some ((p + j : Nat) : Int)) = some (.str (sOf ((l.drop p).take j))) := by
    rw [z_cutS (by omega), cut_mid, Nat.add_sub_cancel_left]
  have d1 : decide (((p + j : Nat) : Int) - (p : Int) = 39) = decide (j = 39) := decide_eq_decide.mpr (by omega)
  have nx : ((p + j : Nat) : Int) + 1 = ((p + (j + 1) : Nat) : Int) := by omega
  have nt : F_is_nought [.sh (.str (sOf ((l.drop p).take j)))] = .ok (.sh (.bool (z48 l p j))) [.sh (.str (sOf ((l.drop p).take j)))] := ev_nought (l := (l.drop p).take j) (by rw [List.length_take, List.length_drop]; omega)
  have e39 : (40 : Int) - 1 = 39 := by decide
  simp only [bE, frE]
  rcases hs with rfl | ⟨d, rfl⟩ <;> cases u <;> cases hj : decide (j = 39) <;> cases hc : decide (c = 48) <;> cases hz : z48 l p j <;>
    simp [-Int.natCast_add, ix, cut, d1, nx, nt, e39, hj, hc, hz, eCut, oSome, useC, z_callR]
end K11
set_option Elab.async false
set_option linter.all false
set_option maxRecDepth 100000
set_option maxHeartbeats 4000000
namespace K11
open PySem L2 DL NumText
theorem de_walk {l : List Nat} {p : Nat} {u : Bool} (hl : l.length ≤ 1000) : ∀ (r : List Nat) (j : Nat) (s : Sl), (s = .un ∨ ∃ d, s = .sh d) → l.drop (p + j) = r →
    ∃ n s', whileN cE bE n (frE l p u j s) = some (.ok .nx (frE l p u (run u r j (z48 l p j)) s')) ∨ whileN cE bE n (frE l p u j s) = some (.ok (.rt (.sh (.int ((p + run u r j (z48 l p j) : Nat) : Int)))) (frE l p u (run u r j (z48 l p j)) s'))
  | [], j, s, hs, hr => by
    refine ⟨1, s, .inl ?_⟩
    have hlen : l.length ≤ p + j := by
      have := congrArg List.length hr
      rw [List.length_drop] at this
      simp at this
      omega
    rw [whileN, cE_end hl hlen]
    rfl
  | c :: r, j, s, hs, hr => by
    have hc : l[p + j]? = some c := by
      have : (l.drop (p + j))[0]? = some c := by rw [hr]; rfl
      rw [List.getElem?_drop] at this
      exact this
    have hr2 : l.drop (p + (j + 1)) = r := by
      have : (l.drop (p + j)).drop 1 = r := by rw [hr]; rfl
      rw [List.drop_drop] at this
      exact this
    have t1 := cE_go (u := u) (s := s) hl hc
    unfold run
    by_cases hd : (isD c && decide (j < 40)) = true
    · rw [if_pos hd]
      rw [hd] at t1
      have t2 := bE_go (u := u) hs hl hc
      by_cases hz : (u && (decide (j = 39) && (decide (c = 48) && z48 l p j))) = true
      · rw [if_pos hz] at t2 ⊢
        refine ⟨1, .sh (.bool (decide (j = 39))), .inr ?_⟩
        rw [whileN, t1]
        simp only
        rw [t2]
      · rw [if_neg hz] at t2 ⊢
        obtain ⟨n, s', h⟩ := de_walk hl r (j + 1) (.sh (.bool (decide (j = 39)))) (.inr ⟨_, rfl⟩) hr2
        rw [z48_succ hc] at h
        refine ⟨n + 1, s', ?_⟩
        rw [whileN, t1]
        simp only
        rw [t2]
        exact h
    · rw [if_neg hd]
      have t1' : cE (frE l p u j s) = .ok false (frE l p u j s) := by
        rw [t1]
        congr 1
        exact Bool.eq_false_iff.mpr hd
      refine ⟨1, s, .inl ?_⟩
      rw [whileN, t1']
theorem ev_digits_end {l : List Nat} {p : Nat} {u : Bool} (hl : l.length ≤ 1000) :
    F_digits_end [.sh (.str (sOf l)), .sh (.int (p : Int)), .sh (.bool u)] = .ok (.sh (.int ((p + run u (l.drop p) 0 true : Nat) : Int))) [.sh (.str (sOf l)), .sh (.int (p : Int)), .sh (.bool u)] := by
  obtain ⟨n, s', h⟩ := de_walk (p := p) (u := u) hl (l.drop p) 0 .un (.inl rfl) rfl
  rw [z48_zero] at h
  have e0 : frE l p u 0 .un = [.sh (.str (sOf l)), .sh (.int (p : Int)), .sh (.bool u), .sh (.int (p : Int)), .un] := rfl
  rw [e0] at h
  rcases h with h | h
  · have w := sWhile_of h
    simp only [frE] at w
    simp [-Int.natCast_add, F_digits_end, m_de_eq, w]
  · have w := sWhile_of h
    simp only [frE] at w
    simp [-Int.natCast_add, F_digits_end, m_de_eq, w]
/-! ### whole_power(10, n) -/
theorem pow10_lt : (10 : Nat) ^ 100 < 2 ^ 400 := by decide +kernel
theorem mul10 {m : Nat} (h : m ≤ 99) : dMulT (.int ((10 ^ m : Nat) : Int)) (.int 10) = some (.int ((10 ^ (m + 1) : Nat) : Int)) := by
  have h10 : (10 ^ m : Nat) < 2 ^ 400 := Nat.lt_of_le_of_lt (Nat.pow_le_pow_right (by omega) (show m ≤ 100 by omega)) pow10_lt
  rw [mulT_ok (m := 400) (n := 4) (by rw [Int.natAbs_natCast]; exact h10) (by decide) (by omega), Nat.pow_succ, Int.natCast_mul]
  rfl
noncomputable def bP : Sf := (sSet 2 (eR (eOp2 dMulT (eVar 2) (eVar 0))))
theorem m_pw_eq : m_whole_power = (sSeq (sSet 2 (eR (eC (.int 1)))) (sSeq (sFor (iRng1F (aCons (eVar 1) aNil)) (gSet 3) bP) (sRet (eR (eVar 2))))) := rfl
theorem bP_turn {t : Sl} {a b q : Int} {i : D} {s : Sl} (hs : s = .un ∨ ∃ d, s = .sh d) (h : dMulT (.int a) (.int q) = some (.int b)) :
    gSet 3 i [.sh (.int q), t, .sh (.int a), s] = .ok () [.sh (.int q), t, .sh (.int a), .sh i] ∧ bP [.sh (.int q), t, .sh (.int a), .sh i] = .ok .nx [.sh (.int q), t, .sh (.int b), .sh i] := by
  rcases hs with rfl | ⟨d, rfl⟩ <;> constructor <;> simp [bP, h]
theorem pw_loop {t : Sl} {q : Int} {v : Nat → Int} (hv : ∀ m, m < 100 → dMulT (.int (v m)) (.int q) = some (.int (v (m + 1)))) : ∀ (ds : List D) (s : Sl) (m : Nat), (s = .un ∨ ∃ d, s = .sh d) → m + ds.length ≤ 100 → ∃ s', forL (gSet 3) bP ds [.sh (.int q), t, .sh (.int (v m)), s] = .ok .nx [.sh (.int q), t, .sh (.int (v (m + ds.length))), s']
  | [], s, m, _, _ => ⟨s, rfl⟩
  | i :: ds, s, m, hs, h => by
    rw [List.length_cons] at h
    obtain ⟨t1, t2⟩ := bP_turn (t := t) (i := i) hs (hv m (by omega))
    obtain ⟨s', h3⟩ := pw_loop (t := t) hv ds (.sh i) (m + 1) (.inr ⟨_, rfl⟩) (by omega)
    refine ⟨s', ?_⟩
    rw [z_forL2, t1]
    simp only
    rw [t2]
    simp only
    rw [h3, List.length_cons, show m + 1 + ds.length = m + (ds.length + 1) by omega]
theorem pw_a {q w k : Int} {n : Nat} {s' : Sl} (sm : small62 k = true) (kn : k.toNat = n) (h : forL (gSet 3) bP ((List.range n).map fun (i : Nat) => .int (i : Int)) [.sh (.int q), .sh (.int k), .sh (.int 1), .un] = .ok .nx [.sh (.int q), .sh (.int k), .sh (.int w), s']) :
    F_whole_power [.sh (.int q), .sh (.int k)] = .ok (.sh (.int w)) [.sh (.int q), .sh (.int k)] := by
  simp [F_whole_power, m_pw_eq, sm, kn, h]
theorem small_n {n : Nat} (h : n < 4611686018427387904) : small62 (n : Int) = true := by
  unfold small62
  rw [decide_eq_true_iff]
  omega
theorem ev_power_gen {q : Int} {v : Nat → Int} (hv : ∀ m, m < 100 → dMulT (.int (v m)) (.int q) = some (.int (v (m + 1)))) (h0 : v 0 = 1) {n : Nat} (hn : n ≤ 100) : F_whole_power [.sh (.int q), .sh (.int (n : Int))] = .ok (.sh (.int (v n))) [.sh (.int q), .sh (.int (n : Int))] := by
  obtain ⟨s', h⟩ := pw_loop (t := .sh (.int (n : Int))) hv ((List.range n).map fun (i : Nat) => .int (i : Int)) .un 0 (.inl rfl) (by rw [List.length_map, List.length_range]; omega)
  rw [List.length_map, List.length_range, Nat.zero_add, h0] at h
  exact pw_a (small_n (by omega)) (Int.toNat_natCast n) h
theorem ev_power {n : Nat} (hn : n ≤ 100) : F_whole_power [.sh (.int 10), .sh (.int (n : Int))] = .ok (.sh (.int ((10 ^ n : Nat) : Int))) [.sh (.int 10), .sh (.int (n : Int))] :=
  ev_power_gen (v := fun n => ((10 ^ n : Nat) : Int)) (fun m hm => mul10 (by omega)) rfl hn
end K11
set_option Elab.async false
set_option linter.all false
set_option maxRecDepth 100000
set_option maxHeartbeats 4000000
namespace K11
open PySem L2 DL NumText
abbrev bad (p : Int) : Exn := ⟨"BadText", [("position", .int p)]⟩
theorem fl_rD (q : Rat) : flatD (rD q) = false := rfl
section
variable {t : Str} {h1 : List Nat} {f e n1 n2 nn la ln b : Int} {sg dg ds : List Nat} {q : Rat} {nz : Bool}
theorem parse_A (hf : (h1 = [45] ∧ f = 1) ∨ (h1 ≠ [45] ∧ f = 0)) (c1 : dCut (.str t) none (some 1) = some (.str (sOf h1))) (d1 : F_digits_end [.sh (.str t), .sh (.int f), .sh (.bool false)] = .ok (.sh (.int f)) [.sh (.str t), .sh (.int f), .sh (.bool false)]) :
    F_parse_ratio [.sh (.str t)] = .ex (bad f) [.sh (.str t)] := by
  rcases hf with ⟨hm, rfl⟩ | ⟨hm, rfl⟩ <;> simp [F_parse_ratio, m_parse_ratio, isT, eCut, oSome, oNone, useC, c1, hm, d1, z_callR]
theorem parse_F (hf : (h1 = [45] ∧ f = 1) ∨ (h1 ≠ [45] ∧ f = 0)) (c1 : dCut (.str t) none (some 1) = some (.str (sOf h1))) (d1 : F_digits_end [.sh (.str t), .sh (.int f), .sh (.bool false)] = .ok (.sh (.int e)) [.sh (.str t), .sh (.int f), .sh (.bool false)]) (he : ¬ e = f)
    (c2 : dCut (.str t) (some f) (some e) = some (.str (sOf dg))) (i1 : bIntT [.str (sOf dg)] = some (.int n1)) (c3 : dCut (.str t) (some e) (some (e + 1)) = some (.str (sOf sg))) (is : dInT (.str (sOf sg)) (.tuple [.str (sOf [47]), .str (sOf [46])]) = some (.bool false))
    (l1 : bLen [.str t] = some (.int ln)) (hl : e < ln) : F_parse_ratio [.sh (.str t)] = .ex (bad e) [.sh (.str t)] := by
  rcases hf with ⟨hm, rfl⟩ | ⟨hm, rfl⟩ <;>
    simp [F_parse_ratio, m_parse_ratio, isT, eCut, oSome, oNone, useC, c1, hm, d1, he, c2, i1, c3, is, l1, hl, z_callR]
theorem parse_G (hf : (h1 = [45] ∧ f = 1 ∧ nn = 0 - n1) ∨ (h1 ≠ [45] ∧ f = 0 ∧ nn = n1)) (c1 : dCut (.str t) none (some 1) = some (.str (sOf h1))) (d1 : F_digits_end [.sh (.str t), .sh (.int f), .sh (.bool false)] = .ok (.sh (.int e)) [.sh (.str t), .sh (.int f), .sh (.bool false)]) (he : ¬ e = f)
    (c2 : dCut (.str t) (some f) (some e) = some (.str (sOf dg))) (i1 : bIntT [.str (sOf dg)] = some (.int n1)) (c3 : dCut (.str t) (some e) (some (e + 1)) = some (.str (sOf sg))) (is : dInT (.str (sOf sg)) (.tuple [.str (sOf [47]), .str (sOf [46])]) = some (.bool false))
    (l1 : bLen [.str t] = some (.int ln)) (hl : ¬ e < ln) (mr : F_made_ratio [.sh (.int nn), .sh (.int 1)] = .ok (.sh (rD q)) [.sh (.int nn), .sh (.int 1)]) : F_parse_ratio [.sh (.str t)] = .ok (.sh (rD q)) [.sh (.str t)] := by
  rcases hf with ⟨hm, rfl, rfl⟩ | ⟨hm, rfl, rfl⟩ <;>
    simp [-Int.zero_sub, F_parse_ratio, m_parse_ratio, isT, eCut, oSome, oNone, useC, c1, hm, d1, he, c2, i1, c3, is, l1, hl, mr, z_callR]
/-- behind a stroke or a point -/
theorem parse_B (hf : (h1 = [45] ∧ f = 1) ∨ (h1 ≠ [45] ∧ f = 0)) (c1 : dCut (.str t) none (some 1) = some (.str (sOf h1))) (d1 : F_digits_end [.sh (.str t), .sh (.int f), .sh (.bool false)] = .ok (.sh (.int e)) [.sh (.str t), .sh (.int f), .sh (.bool false)]) (he : ¬ e = f)
    (c2 : dCut (.str t) (some f) (some e) = some (.str (sOf dg))) (i1 : bIntT [.str (sOf dg)] = some (.int n1)) (c3 : dCut (.str t) (some e) (some (e + 1)) = some (.str (sOf sg))) (is : dInT (.str (sOf sg)) (.tuple [.str (sOf [47]), .str (sOf [46])]) = some (.bool true))
    (d2 : F_digits_end [.sh (.str t), .sh (.int (e + 1)), .sh (.bool (decide (sg = [47])))] = .ok (.sh (.int la)) [.sh (.str t), .sh (.int (e + 1)), .sh (.bool (decide (sg = [47])))]) (c4 : dCut (.str t) (some (e + 1)) (some la) = some (.str (sOf ds)))
    (no : F_is_nought [.sh (.str (sOf ds))] = .ok (.sh (.bool nz)) [.sh (.str (sOf ds))]) (l1 : bLen [.str t] = some (.int ln)) (hb : ds = [] ∨ la < ln ∨ (sg = [47] ∧ nz = true)) : F_parse_ratio [.sh (.str t)] = .ex (bad la) [.sh (.str t)] := by
  rcases hf with ⟨hm, rfl⟩ | ⟨hm, rfl⟩ <;> by_cases hd : ds = [] <;> by_cases hl : la < ln <;> by_cases hg : sg = [47] <;> simp [hd, hl, hg] at hb <;> simp only [hg, decide_true, decide_false] at d2 c3 is <;>
    simp [F_parse_ratio, m_parse_ratio, isT, eCut, oSome, oNone, useC, c1, hm, d1, he, c2, i1, c3, is, d2, c4, no, l1, hd, hl, hg, hb, z_callR]
end
end K11
set_option Elab.async false
set_option linter.all false
set_option maxRecDepth 100000
set_option maxHeartbeats 4000000
namespace K11
open PySem L2 DL NumText
section
variable {t : Str} {h1 : List Nat} {f e n1 n2 nn la ln b pw ld pr : Int} {sg dg ds : List Nat} {q : Rat} {nz : Bool}
theorem parse_S (hf : (h1 = [45] ∧ f = 1 ∧ nn = 0 - n1) ∨ (h1 ≠ [45] ∧ f = 0 ∧ nn = n1)) (c1 : dCut (.str t) none (some 1) = some (.str (sOf h1))) (d1 : F_digits_end [.sh (.str t), .sh (.int f), .sh (.bool false)] = .ok (.sh (.int e)) [.sh (.str t), .sh (.int f), .sh (.bool false)]) (he : ¬ e = f)
    (c2 : dCut (.str t) (some f) (some e) = some (.str (sOf dg))) (i1 : bIntT [.str (sOf dg)] = some (.int n1)) (c3 : dCut (.str t) (some e) (some (e + 1)) = some (.str (sOf [47]))) (is : dInT (.str (sOf [47])) (.tuple [.str (sOf [47]), .str (sOf [46])]) = some (.bool true))
    (d2 : F_digits_end [.sh (.str t), .sh (.int (e + 1)), .sh (.bool true)] = .ok (.sh (.int la)) [.sh (.str t), .sh (.int (e + 1)), .sh (.bool true)]) (c4 : dCut (.str t) (some (e + 1)) (some la) = some (.str (sOf ds)))
    (no : F_is_nought [.sh (.str (sOf ds))] = .ok (.sh (.bool false)) [.sh (.str (sOf ds))]) (l1 : bLen [.str t] = some (.int ln)) (hd : ¬ ds = []) (hl : ¬ la < ln) (i2 : bIntT [.str (sOf ds)] = some (.int n2))
    (mr : F_made_ratio [.sh (.int nn), .sh (.int n2)] = .ok (.sh (rD q)) [.sh (.int nn), .sh (.int n2)]) : F_parse_ratio [.sh (.str t)] = .ok (.sh (rD q)) [.sh (.str t)] := by
  rcases hf with ⟨hm, rfl, rfl⟩ | ⟨hm, rfl, rfl⟩ <;>
    simp [-Int.zero_sub, F_parse_ratio, m_parse_ratio, isT, eCut, oSome, oNone, useC, c1, hm, d1, he, c2, i1, c3, is, d2, c4, no, l1, hd, hl, i2, mr, z_callR]
theorem parse_P (hf : (h1 = [45] ∧ f = 1 ∧ nn = 0 - (pr + n2)) ∨ (h1 ≠ [45] ∧ f = 0 ∧ nn = pr + n2)) (c1 : dCut (.str t) none (some 1) = some (.str (sOf h1))) (d1 : F_digits_end [.sh (.str t), .sh (.int f), .sh (.bool false)] = .ok (.sh (.int e)) [.sh (.str t), .sh (.int f), .sh (.bool false)]) (he : ¬ e = f)
    (c2 : dCut (.str t) (some f) (some e) = some (.str (sOf dg))) (i1 : bIntT [.str (sOf dg)] = some (.int n1)) (c3 : dCut (.str t) (some e) (some (e + 1)) = some (.str (sOf [46]))) (is : dInT (.str (sOf [46])) (.tuple [.str (sOf [47]), .str (sOf [46])]) = some (.bool true))
    (d2 : F_digits_end [.sh (.str t), .sh (.int (e + 1)), .sh (.bool false)] = .ok (.sh (.int la)) [.sh (.str t), .sh (.int (e + 1)), .sh (.bool false)]) (c4 : dCut (.str t) (some (e + 1)) (some la) = some (.str (sOf ds)))
    (l1 : bLen [.str t] = some (.int ln)) (hd : ¬ ds = []) (hl : ¬ la < ln) (i2 : bIntT [.str (sOf ds)] = some (.int n2)) (l2 : bLen [.str (sOf ds)] = some (.int ld)) {ten : Int} (h10 : ten = 10)
    (pw1 : F_whole_power [.sh (.int ten), .sh (.int ld)] = .ok (.sh (.int pw)) [.sh (.int ten), .sh (.int ld)]) (mu : dMulT (.int n1) (.int pw) = some (.int pr))
    (mr : F_made_ratio [.sh (.int nn), .sh (.int pw)] = .ok (.sh (rD q)) [.sh (.int nn), .sh (.int pw)]) : F_parse_ratio [.sh (.str t)] = .ok (.sh (rD q)) [.sh (.str t)] := by
  subst h10
  rcases hf with ⟨hm, rfl, rfl⟩ | ⟨hm, rfl, rfl⟩ <;>
    simp [-Int.zero_sub, F_parse_ratio, m_parse_ratio, isT, eCut, oSome, oNone, useC, c1, hm, d1, he, c2, i1, c3, is, d2, c4, l1, hd, hl, i2, l2, pw1, mu, mr, z_callR]
end
end K11
set_option Elab.async false
set_option linter.all false
set_option maxRecDepth 100000
set_option maxHeartbeats 4000000
namespace K11
open PySem L2 DL NumText
def us (s : Sl) : Prop := s = .un ∨ ∃ d, s = .sh d
noncomputable def cR : Tf := (tOf (eOp2 dLt (eVar 1) (eCall bLen (aCons (eVar 0) aNil))))
noncomputable def bR1 : Sf := (sIf (tOrF (tOf (eOp2 dGt (eVar 5) (eC (.int 40)))) (tAndF (tOf (eOp2 dEq (eVar 3) (eC (.str "/")))) (tAndF (tOf (eOp2 dEq (eVar 5) (eC (.int 40)))) (tAndF (tOf (eOp2 dEq (eVar 4) (eC (.str "0")))) (tOf (eOp2 dEq (eFz (eCut (eVar 0) (oSome (eVar 2)) (oSome (eVar 1)))) (eOp2 dMulT (eC (.str "0")) (eC (.int 39))))))))) (sRet (eR (eTup (aCons (eC .none) (aCons (eVar 1) aNil))))) sNil)
noncomputable def bR : Sf := (sSeq (sSet 4 (eR (eOp2 dIx (eVar 0) (eVar 1)))) (sSeq (sIf (tOf (eOp2 dInT (eVar 4) (eC (.str "0123456789")))) (sSeq (sSet 5 (eR (eOp2 dAdd (eOp2 dSub (eVar 1) (eVar 2)) (eC (.int 1))))) bR1) (sIf (tAndF (tOf (eOp2 dInT (eVar 4) (eC (.str "/.")))) (tAndF (tOf (eOp2 dEq (eVar 3) (eC (.str "")))) (tOf (eOp2 dGt (eVar 1) (eVar 2))))) (sPar 3 2 (eR (eVar 4)) (eR (eOp2 dAdd (eVar 1) (eC (.int 1))))) (sRet (eR (eTup (aCons (eC .none) (aCons (eVar 1) aNil))))))) (sSet 1 (eR (eOp2 dAdd (eVar 1) (eC (.int 1)))))))
noncomputable def tR : Sf := (sSeq (sIf (tOrF (tOf (eOp2 dEq (eVar 1) (eVar 2))) (tAndF (tOf (eOp2 dEq (eVar 3) (eC (.str "/")))) (tOf (eOp2 dEq (eFz (eCut (eVar 0) (oSome (eVar 2)) oNone)) (eOp2 dMulT (eC (.str "0")) (eOp2 dSub (eVar 1) (eVar 2))))))) (sRet (eR (eTup (aCons (eC .none) (aCons (eCall bLen (aCons (eVar 0) aNil)) aNil))))) sNil) (sSeq (sSet 6 (eIfR (tOf (eOp2 dNe (eVar 3) (eC (.str "")))) (eCut (eVar 0) oNone (oSome (eOp2 dSub (eVar 2) (eC (.int 1))))) (eR (eVar 0)))) (sSeq (sSet 7 (eR (eIf (tOf (eOp2 dEq (eOp2 dIx (eVar 0) (eC (.int 0))) (eC (.str "-")))) (eOp1 dNeg (eC (.int 1))) (eC (.int 1))))) (sSeq (sPar 8 9 (eR (eCall bIntT (aCons (eRepl "-" "" (eVar 6)) aNil))) (eIfR (tOf (eOp2 dNe (eVar 3) (eC (.str "")))) (eCut (eVar 0) (oSome (eVar 2)) oNone) (eR (eC (.str "1"))))) (sSeq (sIf (tOf (eOp2 dEq (eVar 3) (eC (.str ".")))) (sRet (eR (eTup (aCons (eFz (eFnC F__law_ratio [false, false] (aCons (eOp2 dMulT (eVar 7) (eCall bIntT (aCons (eOp2 dAdd (eCall bStr (aCons (eVar 8) aNil)) (eVar 9)) aNil))) (aCons (eCall bIntT (aCons (eOp2 dAdd (eC (.str "1")) (eOp2 dMulT (eC (.str "0")) (eCall bLen (aCons (eVar 9) aNil)))) aNil)) aNil)))) (aCons (eC .none) aNil))))) sNil) (sRet (eR (eTup (aCons (eFz (eFnC F__law_ratio [false, false] (aCons (eOp2 dMulT (eVar 7) (eVar 8)) (aCons (eCall bIntT (aCons (eVar 9) aNil)) aNil)))) (aCons (eC .none) aNil))))))))))
theorem m_rd_eq : m__law_read = (sSeq (sSet 1 (eR (eIf (tOf (eOp2 dEq (eFz (eCut (eVar 0) oNone (oSome (eC (.int 1))))) (eC (.str "-")))) (eC (.int 1)) (eC (.int 0))))) (sSeq (sPar 2 3 (eR (eVar 1)) (eR (eC (.str "")))) (sSeq (sWhile cR bR) tR))) := rfl
def frR (l : List Nat) (p j : Nat) (sg : List Nat) (s4 s5 : Sl) : Fr := [.sh (.str (sOf l)), .sh (.int ((p + j : Nat) : Int)), .sh (.int (p : Int)), .sh (.str (sOf sg)), s4, s5, .un, .un, .un, .un]
def badR (p : Nat) : D := .tuple [.none, .int (p : Int)]
theorem cR_end {l : List Nat} {p j : Nat} {sg : List Nat} {s4 s5 : Sl} (hl : l.length ≤ 1000) (h : l.length ≤ p + j) : cR (frR l p j sg s4 s5) = .ok false (frR l p j sg s4 s5) := by
  have e := z_lenS (l := l) (by omega)
  have d : ¬ p + j < l.length := by omega
  simp only [cR, frR]
  simp [-Int.natCast_add, e, d]
theorem cR_go {l : List Nat} {p j c : Nat} {sg : List Nat} {s4 s5 : Sl} (hl : l.length ≤ 1000) (h : l[p + j]? = some c) : cR (frR l p j sg s4 s5) = .ok true (frR l p j sg s4 s5) := by
  have hlt := (List.getElem?_eq_some_iff.mp h).1
  have e := z_lenS (l := l) (by omega)
  simp only [cR, frR]
  simp [-Int.natCast_add, e, hlt]
/-- a digit: is it one too many? -/
def over (sg : List Nat) (j c : Nat) (z : Bool) : Bool := decide (40 ≤ j) || (decide (sg = [47]) && (decide (j = 39) && (decide (c = 48) && z)))
theorem rep_all {l : List Nat} {n : Nat} (h : l.length = n) : decide (l = List.replicate n 48) = l.all fun c => decide (c = 48) := by
  rw [Bool.eq_iff_iff, decide_eq_true_iff, List.all_eq_true]
  constructor
  · intro e x hx
    rw [e] at hx
    exact decide_eq_true (List.eq_of_mem_replicate hx)
  · intro e
    exact List.eq_replicate_iff.mpr ⟨h, fun x hx => of_decide_eq_true (e x hx)⟩
theorem bR_digit {l : List Nat} {p j c : Nat} {sg : List Nat} {s4 s5 : Sl} (h4 : us s4) (h5 : us s5) (hl : l.length ≤ 1000) (h : l[p + j]? = some c) (hd : isD c = true) :
    bR (frR l p j sg s4 s5) = if over sg j c (z48 l p j) = true then .ok (.rt (.sh (badR (p + j)))) (frR l p j sg (.sh (.str (sOf [c]))) (.sh (.int ((j + 1 : Nat) : Int)))) else .ok .nx (frR l p (j + 1) sg (.sh (.str (sOf [c]))) (.sh (.int ((j + 1 : Nat) : Int)))) := by
  have ix := z_ixS h (by omega)
  have hlt := (List.getElem?_eq_some_iff.mp h).1
  have md := mem_d c
  rw [hd] at md
  have cut : dCut (.str (sOf l)) (some (p : Int)) (some ((p + j : Nat) : Int)) = some (.str (sOf ((l.drop p).take j))) := by
    rw [z_cutS (by omega), cut_mid, Nat.add_sub_cancel_left]
  have mm : ((p + j : Nat) : Int) - (p : Int) + 1 = ((j + 1 : Nat) : Int) := by omega
  have nx : ((p + j : Nat) : Int) + 1 = ((p + (j + 1) : Nat) : Int) := by omega
  have r39 := z_mulS (c := 48) (k := 39) (by omega) (by omega)
  have e39 : (39 : Int).toNat = 39 := rfl
  rw [e39] at r39
  have d1 : decide ((40 : Int) < ((j + 1 : Nat) : Int)) = decide (40 ≤ j) := decide_eq_decide.mpr (by omega)
  have d2 : decide (((j + 1 : Nat) : Int) = 40) = decide (j = 39) := decide_eq_decide.mpr (by omega)
  have ra : j = 39 → decide ((l.drop p).take j = List.replicate 39 48) = z48 l p j := fun e => by
    subst e
    exact rep_all (by rw [List.length_take, List.length_drop]; omega)
  have d40 : decide ((40 : Int) < ((j + 1 : Nat) : Int)) = decide (40 ≤ j) := d1
  simp only [frR, badR, bR, bR1, l_d]
  unfold over
  generalize hz : z48 l p j = z at ra ⊢
  generalize List.replicate 39 48 = rp at r39 ra
  generalize (l.drop p).take j = dj at cut ra
  generalize ((p + j : Nat) : Int) = at_ at ix cut mm nx ⊢
  generalize ((p + (j + 1) : Nat) : Int) = at2 at nx ⊢
  generalize ((j + 1 : Nat) : Int) = mj at mm d1 d2 ⊢
  by_cases b1 : 40 ≤ j
  · have q1 : 40 < mj := by simpa [b1] using d1
    rcases h4 with rfl | ⟨d4, rfl⟩ <;> rcases h5 with rfl | ⟨d5, rfl⟩ <;> simp [-List.mem_cons, ix, md, mm, q1, b1]
  · have q1 : ¬ 40 < mj := by simpa [b1] using d1
    by_cases b2 : sg = [47]
    · by_cases b3 : j = 39
      · have q2 : mj = 40 := by simpa [b3] using d2
        have ra' := ra b3
        by_cases b4 : c = 48
        · cases z with
          | true =>
            have q3 : dj = rp := of_decide_eq_true ra'
            rcases h4 with rfl | ⟨d4, rfl⟩ <;> rcases h5 with rfl | ⟨d5, rfl⟩ <;> simp [-List.mem_cons, ix, md, mm, q1, b1, b2, q2, b3, b4, cut, r39, q3, eCut, oSome, useC] <;> simp_all
          | false =>
            have q3 : ¬ dj = rp := of_decide_eq_false ra'
            rcases h4 with rfl | ⟨d4, rfl⟩ <;> rcases h5 with rfl | ⟨d5, rfl⟩ <;> simp [-List.mem_cons, ix, md, mm, q1, b1, b2, q2, b3, b4, cut, r39, q3, nx, eCut, oSome, useC] <;> simp_all
        · rcases h4 with rfl | ⟨d4, rfl⟩ <;> rcases h5 with rfl | ⟨d5, rfl⟩ <;> simp [-List.mem_cons, ix, md, mm, q1, b1, b2, q2, b3, b4, nx] <;> simp_all
      · have q2 : ¬ mj = 40 := by simpa [b3] using d2
        rcases h4 with rfl | ⟨d4, rfl⟩ <;> rcases h5 with rfl | ⟨d5, rfl⟩ <;> simp [-List.mem_cons, ix, md, mm, q1, b1, b2, q2, b3, nx]
    · rcases h4 with rfl | ⟨d4, rfl⟩ <;> rcases h5 with rfl | ⟨d5, rfl⟩ <;> simp [-List.mem_cons, ix, md, mm, q1, b1, b2, nx]
end K11
set_option Elab.async false
set_option linter.all false
set_option maxRecDepth 100000
set_option maxHeartbeats 4000000
namespace K11
open PySem L2 DL NumText
theorem bR_sign {l : List Nat} {p j c : Nat} {s4 s5 : Sl} (h4 : us s4) (h5 : us s5) (hl : l.length ≤ 1000) (h : l[p + j]? = some c) (hc : c = 47 ∨ c = 46) (hj : 0 < j) :
    bR (frR l p j [] s4 s5) = .ok .nx (frR l (p + j + 1) 0 [c] (.sh (.str (sOf [c]))) s5) := by
  have ix := z_ixS h (by omega)
  have md : decide (c ∈ [48, 49, 50, 51, 52, 53, 54, 55, 56, 57]) = false := by
    rw [mem_d]
    unfold isD
    exact decide_eq_false (by omega)
  have ms : decide (c ∈ [47, 46]) = true := decide_eq_true (by rcases hc with rfl | rfl <;> simp)
  have gt : (p : Int) < ((p + j : Nat) : Int) := by omega
  have nx : ((p + j : Nat) : Int) + 1 = ((p + j + 1 : Nat) : Int) := by omega
  have nx0 : ((p + j + 1 + 0 : Nat) : Int) = ((p + j + 1 : Nat) : Int) := rfl
  simp only [frR, badR, bR, bR1, l_d, l_sp, nx0]
  generalize ((p + j : Nat) : Int) = at_ at ix gt nx ⊢
  generalize ((p + j + 1 : Nat) : Int) = at2 at nx ⊢
  generalize (p : Int) = pi at gt
  rcases h4 with rfl | ⟨d4, rfl⟩ <;> rcases h5 with rfl | ⟨d5, rfl⟩ <;> simp [-List.mem_cons, ix, md, ms, gt, nx]
theorem bR_other {l : List Nat} {p j c : Nat} {sg : List Nat} {s4 s5 : Sl} (h4 : us s4) (h5 : us s5) (hl : l.length ≤ 1000) (h : l[p + j]? = some c) (hd : isD c = false) (hc : ¬ ((c = 47 ∨ c = 46) ∧ sg = [] ∧ 0 < j)) :
    bR (frR l p j sg s4 s5) = .ok (.rt (.sh (badR (p + j)))) (frR l p j sg (.sh (.str (sOf [c]))) s5) := by
  have ix := z_ixS h (by omega)
  have md := mem_d c
  rw [hd] at md
  simp only [frR, badR, bR, bR1, l_d, l_sp]
  by_cases m1 : c = 47 ∨ c = 46
  · have ms : decide (c ∈ [47, 46]) = true := decide_eq_true (by rcases m1 with rfl | rfl <;> simp)
    by_cases m2 : sg = []
    · have gt : ¬ (p : Int) < ((p + j : Nat) : Int) := by
        have : ¬ 0 < j := fun z => hc ⟨m1, m2, z⟩
        omega
      generalize ((p + j : Nat) : Int) = at_ at ix gt ⊢
      generalize (p : Int) = pi at gt ⊢
      rcases h4 with rfl | ⟨d4, rfl⟩ <;> rcases h5 with rfl | ⟨d5, rfl⟩ <;> simp [-List.mem_cons, ix, md, ms, m2, gt]
    · generalize ((p + j : Nat) : Int) = at_ at ix ⊢
      generalize (p : Int) = pi at ⊢
      rcases h4 with rfl | ⟨d4, rfl⟩ <;> rcases h5 with rfl | ⟨d5, rfl⟩ <;> simp [-List.mem_cons, ix, md, ms, m2]
  · have ms : decide (c ∈ [47, 46]) = false := decide_eq_false (by
      intro z
      apply m1
      simp at z
      exact z)
    generalize ((p + j : Nat) : Int) = at_ at ix ⊢
    generalize (p : Int) = pi at ⊢
    rcases h4 with rfl | ⟨d4, rfl⟩ <;> rcases h5 with rfl | ⟨d5, rfl⟩ <;> simp [-List.mem_cons, ix, md, ms]
/-! ### the walk -/
theorem us_sh (d : D) : us (.sh d) := .inr ⟨d, rfl⟩
theorem drop_cons {l : List Nat} {n c : Nat} {r : List Nat} (h : l.drop n = c :: r) : l[n]? = some c ∧ l.drop (n + 1) = r := by
  constructor
  · have : (l.drop n)[0]? = some c := by rw [h]; rfl
    rw [List.getElem?_drop] at this
    exact this
  · have : (l.drop n).drop 1 = r := by rw [h]; rfl
    rw [List.drop_drop] at this
    exact this
/-- over the digits of a row -/
theorem adv {l : List Nat} {p : Nat} {sg : List Nat} (hl : l.length ≤ 1000) (P : R Fl → Prop) : ∀ (r : List Nat) (j : Nat) (s4 s5 : Sl), us s4 → us s5 → l.drop (p + j) = r →
    (∀ s4 s5, us s4 → us s5 → ∃ n x, whileN cR bR n (frR l p (run (decide (sg = [47])) r j (z48 l p j)) sg s4 s5) = some x ∧ P x) → ∃ n x, whileN cR bR n (frR l p j sg s4 s5) = some x ∧ P x
  | [], j, s4, s5, h4, h5, hr, k => k s4 s5 h4 h5
  | c :: r, j, s4, s5, h4, h5, hr, k => by
    obtain ⟨hc, hr2⟩ := drop_cons hr
    unfold run at k
    by_cases hd : (isD c && decide (j < 40)) = true
    · rw [if_pos hd] at k
      by_cases hz : (decide (sg = [47]) && (decide (j = 39) && (decide (c = 48) && z48 l p j))) = true
      · rw [if_pos hz] at k
        exact k s4 s5 h4 h5
      · rw [if_neg hz] at k
        rw [Bool.and_eq_true, decide_eq_true_iff] at hd
        have ov : ¬ over sg j c (z48 l p j) = true := by
          unfold over
          rw [Bool.or_eq_true, decide_eq_true_iff]
          intro z
          rcases z with z | z
          · omega
          · exact hz z
        have t := bR_digit (sg := sg) h4 h5 hl hc hd.1
        rw [if_neg ov] at t
        rw [← z48_succ hc] at k
        obtain ⟨n, x, h1, h2⟩ := adv hl P r (j + 1) _ _ (us_sh (.str (sOf [c]))) (us_sh (.int ((j + 1 : Nat) : Int))) hr2 k
        refine ⟨n + 1, x, ?_, h2⟩
        rw [whileN, cR_go hl hc]
        simp only
        rw [t]
        exact h1
    · rw [if_neg hd] at k
      exact k s4 s5 h4 h5
end K11
set_option Elab.async false
set_option linter.all false
set_option maxRecDepth 100000
set_option maxHeartbeats 4000000
namespace K11
open PySem L2 DL NumText
structure RunF (l : List Nat) (p k : Nat) (u : Bool) : Prop where
  le40 : k ≤ 40
  len : p + k ≤ l.length
  dig : ∀ i, i < k → ∃ c, l[p + i]? = some c ∧ isD c = true
  stop : p + k = l.length ∨ ∃ c, l[p + k]? = some c ∧ (isD c = false ∨ 40 ≤ k ∨ (u = true ∧ k = 39 ∧ c = 48 ∧ z48 l p k = true))
theorem run_facts {l : List Nat} {p : Nat} {u : Bool} : ∀ (r : List Nat) (j : Nat), l.drop (p + j) = r → j ≤ 40 → p + j ≤ l.length → (∀ i, i < j → ∃ c, l[p + i]? = some c ∧ isD c = true) → RunF l p (run u r j (z48 l p j)) u
  | [], j, hr, h40, hle, hi => by
    unfold run
    have hlen : l.length ≤ p + j := by
      have := congrArg List.length hr
      rw [List.length_drop] at this
      simp at this
      omega
    exact ⟨h40, hle, hi, .inl (by omega)⟩
  | c :: r, j, hr, h40, hle, hi => by
    obtain ⟨hc, hr2⟩ := drop_cons hr
    have hlt := (List.getElem?_eq_some_iff.mp hc).1
    unfold run
    by_cases hd : (isD c && decide (j < 40)) = true
    · rw [if_pos hd]
      rw [Bool.and_eq_true, decide_eq_true_iff] at hd
      by_cases hz : (u && (decide (j = 39) && (decide (c = 48) && z48 l p j))) = true
      · rw [if_pos hz]
        simp only [Bool.and_eq_true, decide_eq_true_iff] at hz
        exact ⟨h40, hle, hi, .inr ⟨c, hc, .inr (.inr ⟨hz.1, hz.2.1, hz.2.2.1, hz.2.2.2⟩)⟩⟩
      · rw [if_neg hz, ← z48_succ hc]
        refine run_facts r (j + 1) hr2 (by omega) (by omega) fun i h => ?_
        by_cases e : i = j
        · subst e
          exact ⟨c, hc, hd.1⟩
        · exact hi i (by omega)
    · rw [if_neg hd]
      refine ⟨h40, hle, hi, .inr ⟨c, hc, ?_⟩⟩
      cases h : isD c with
      | false => exact .inl rfl
      | true =>
        rw [h] at hd
        have : ¬ j < 40 := by simpa using hd
        exact .inr (.inl (by omega))
theorem run0 {l : List Nat} {p : Nat} (u : Bool) (h : p ≤ l.length) : RunF l p (run u (l.drop p) 0 true) u := by
  have := run_facts (u := u) (l := l) (p := p) (l.drop p) 0 rfl (by omega) h (fun i hi => by omega)
  rw [z48_zero] at this
  exact this
theorem RunF.over {l : List Nat} {p k c : Nat} {u : Bool} {sg : List Nat} (R : RunF l p k u) (hu : u = decide (sg = [47])) (h : l[p + k]? = some c) (hd : isD c = true) : over sg k c (z48 l p k) = true := by
  rcases R.stop with z | ⟨c', h', z⟩
  · have := (List.getElem?_eq_some_iff.mp h).1
    omega
  · rw [h] at h'
    cases h'
    unfold K11.over
    rw [Bool.or_eq_true, decide_eq_true_iff]
    rcases z with z | z | ⟨z1, z2, z3, z4⟩
    · rw [hd] at z
      cases z
    · exact .inl z
    · right
      rw [hu] at z1
      rw [z1, decide_eq_true z2, decide_eq_true z3, z4]
      rfl
/-- the digits of a row, as a text -/
theorem RunF.all {l : List Nat} {p k : Nat} {u : Bool} (R : RunF l p k u) : AllDigits ((l.drop p).take k) := fun c hc => by
  obtain ⟨i, hi, e⟩ := List.mem_iff_getElem.mp hc
  rw [List.length_take] at hi
  have e2 : ((l.drop p).take k)[i]? = some c := by rw [List.getElem?_eq_getElem (by rw [List.length_take]; exact hi), e]
  rw [List.getElem?_take, if_pos (by omega), List.getElem?_drop] at e2
  obtain ⟨c', h1, h2⟩ := R.dig i (by omega)
  rw [e2] at h1
  cases h1
  exact of_decide_eq_true h2
theorem RunF.tl {l : List Nat} {p k : Nat} {u : Bool} (R : RunF l p k u) : ((l.drop p).take k).length = k := by
  rw [List.length_take, List.length_drop]
  have := R.len
  omega
theorem RunF.ne {l : List Nat} {p k : Nat} {u : Bool} (R : RunF l p k u) (h : k ≠ 0) : (l.drop p).take k ≠ [] := fun z => by
  have := R.tl
  rw [z] at this
  exact h this.symm
/-- a number of digits is small -/
theorem val_lt : ∀ (cs : List Nat), AllDigits cs → digitsVal cs < 10 ^ cs.length := by
  have key : ∀ (cs : List Nat) (a : Nat), AllDigits cs → cs.foldl (fun acc c => acc * 10 + (c - 48)) a < (a + 1) * 10 ^ cs.length := by
    intro cs
    induction cs with
    | nil => intro a _; simp
    | cons c cs ih =>
      intro a h
      have hc := h.head
      have := ih (a * 10 + (c - 48)) h.tail
      rw [List.foldl_cons, List.length_cons, Nat.pow_succ]
      refine Nat.lt_of_lt_of_le this ?_
      have : a * 10 + (c - 48) + 1 ≤ (a + 1) * 10 := by omega
      calc (a * 10 + (c - 48) + 1) * 10 ^ cs.length ≤ ((a + 1) * 10) * 10 ^ cs.length := Nat.mul_le_mul_right _ this
        _ = (a + 1) * (10 ^ cs.length * 10) := by rw [Nat.mul_assoc, Nat.mul_comm 10]
  intro cs h
  have := key cs 0 h
  rw [Nat.zero_add, Nat.one_mul] at this
  exact this
theorem val_add : ∀ (a b : List Nat), digitsVal (a ++ b) = digitsVal a * 10 ^ b.length + digitsVal b := by
  have key : ∀ (b : List Nat) (x : Nat), b.foldl (fun acc c => acc * 10 + (c - 48)) x = x * 10 ^ b.length + b.foldl (fun acc c => acc * 10 + (c - 48)) 0 := by
    intro b
    induction b with
    | nil => intro x; simp
    | cons c b ih =>
      intro x
      rw [List.foldl_cons, List.foldl_cons, ih, ih (0 * 10 + (c - 48)), List.length_cons, Nat.pow_succ, Nat.zero_mul, Nat.zero_add, Nat.add_mul, Nat.mul_assoc, Nat.mul_comm 10, Nat.add_assoc]
  intro a b
  unfold digitsVal
  rw [List.foldl_append, key]
theorem val_zero : ∀ (cs : List Nat), AllDigits cs → (digitsVal cs = 0 ↔ (cs.all fun c => decide (c = 48)) = true) := by
  have key : ∀ (cs : List Nat) (a : Nat), AllDigits cs → (cs.foldl (fun acc c => acc * 10 + (c - 48)) a = 0 ↔ a = 0 ∧ (cs.all fun c => decide (c = 48)) = true) := by
    intro cs
    induction cs with
    | nil => intro a _; simp
    | cons c cs ih =>
      intro a h
      have hc := h.head
      rw [List.foldl_cons, ih _ h.tail, List.all_cons, Bool.and_eq_true, decide_eq_true_iff]
      constructor
      · rintro ⟨h1, h2⟩
        exact ⟨by omega, by omega, h2⟩
      · rintro ⟨h1, h2, h3⟩
        exact ⟨by omega, h3⟩
  intro cs h
  have := key cs 0 h
  unfold digitsVal
  rw [this]
  simp
end K11
set_option Elab.async false
set_option linter.all false
set_option maxRecDepth 100000
set_option maxHeartbeats 4000000
namespace K11
open PySem L2 DL NumText
/-- a row of digits, then the end or a bad sign -/
def EndR (l : List Nat) (p k : Nat) (sg : List Nat) (x : R Fl) : Prop := (p + k < l.length ∧ ∃ e', x = .ok (.rt (.sh (badR (p + k)))) (.sh (.str (sOf l)) :: e')) ∨ (p + k = l.length ∧ ∃ s4 s5, us s4 ∧ us s5 ∧ x = .ok .nx (frR l p k sg s4 s5))
theorem one_turn {e e1 : Fr} {x : R Fl} (h1 : cR e = .ok true e) (h2 : bR e = .ok (.rt x') e1) : whileN cR bR 1 e = some (.ok (.rt x') e1) := by
  rw [whileN, h1]
  simp only
  rw [h2]
theorem no_turn {e : Fr} (h1 : cR e = .ok false e) : whileN cR bR 1 e = some (.ok .nx e) := by
  rw [whileN, h1]
theorem second {l : List Nat} {p c0 : Nat} {s4 s5 : Sl} (hl : l.length ≤ 1000) (hp : p ≤ l.length) (h4 : us s4) (h5 : us s5) :
    ∃ n x, whileN cR bR n (frR l p 0 [c0] s4 s5) = some x ∧ EndR l p (run (decide ([c0] = [47])) (l.drop p) 0 true) [c0] x := by
  have R := run0 (l := l) (p := p) (decide ([c0] = [47])) hp
  refine adv hl (EndR l p (run (decide ([c0] = [47])) (l.drop p) 0 true) [c0]) (l.drop p) 0 s4 s5 h4 h5 rfl fun s4 s5 h4 h5 => ?_
  rw [z48_zero]
  generalize run (decide ([c0] = [47])) (l.drop p) 0 true = k at R ⊢
  rcases R.stop with z | ⟨c, hc, _⟩
  · exact ⟨1, _, no_turn (cR_end hl (by omega)), .inr ⟨z, s4, s5, h4, h5, rfl⟩⟩
  · have hlt := (List.getElem?_eq_some_iff.mp hc).1
    cases hd : isD c with
    | true =>
      have t := bR_digit (sg := [c0]) h4 h5 hl hc hd
      rw [if_pos (R.over rfl hc hd)] at t
      exact ⟨1, _, one_turn (x := .no) (cR_go hl hc) t, .inl ⟨hlt, _, rfl⟩⟩
    | false =>
      have t := bR_other (sg := [c0]) h4 h5 hl hc hd (fun z => by cases z.2.1)
      exact ⟨1, _, one_turn (x := .no) (cR_go hl hc) t, .inl ⟨hlt, _, rfl⟩⟩
/-- the whole walk -/
theorem walk_rd {l : List Nat} {p : Nat} {s4 s5 : Sl} (hl : l.length ≤ 1000) (hp : p ≤ l.length) (h4 : us s4) (h5 : us s5) :
    ∃ n x, whileN cR bR n (frR l p 0 [] s4 s5) = some x ∧
      ((∃ c, l[p + run false (l.drop p) 0 true]? = some c ∧ (c = 47 ∨ c = 46) ∧ run false (l.drop p) 0 true ≠ 0 ∧ EndR l (p + run false (l.drop p) 0 true + 1) (run (decide ([c] = [47])) (l.drop (p + run false (l.drop p) 0 true + 1)) 0 true) [c] x) ∨
        (EndR l p (run false (l.drop p) 0 true) [] x ∧ ∀ c, l[p + run false (l.drop p) 0 true]? = some c → ¬ ((c = 47 ∨ c = 46) ∧ run false (l.drop p) 0 true ≠ 0))) := by
  have R := run0 (l := l) (p := p) false hp
  have u0 : decide (([] : List Nat) = [47]) = false := decide_eq_false (by simp)
  refine adv hl _ (l.drop p) 0 s4 s5 h4 h5 rfl fun s4 s5 h4 h5 => ?_
  rw [z48_zero, u0]
  generalize run false (l.drop p) 0 true = k at R ⊢
  rcases R.stop with z | ⟨c, hc, _⟩
  · refine ⟨1, _, no_turn (cR_end hl (by omega)), .inr ⟨.inr ⟨z, s4, s5, h4, h5, rfl⟩, fun c hc => ?_⟩⟩
    have := (List.getElem?_eq_some_iff.mp hc).1
    omega
  · have hlt := (List.getElem?_eq_some_iff.mp hc).1
    cases hd : isD c with
    | true =>
      have t := bR_digit (sg := []) h4 h5 hl hc hd
      rw [if_pos (R.over u0.symm hc hd)] at t
      refine ⟨1, _, one_turn (x := .no) (cR_go hl hc) t, .inr ⟨.inl ⟨hlt, _, rfl⟩, fun c' hc' z => ?_⟩⟩
      rw [hc] at hc'
      cases hc'
      unfold isD at hd
      have := of_decide_eq_true hd
      omega
    | false =>
      by_cases hs : (c = 47 ∨ c = 46) ∧ k ≠ 0
      · have t := bR_sign h4 h5 hl hc hs.1 (by omega)
        obtain ⟨n, x, h1, h2⟩ := second (c0 := c) hl (show p + k + 1 ≤ l.length by omega) (us_sh (.str (sOf [c]))) h5
        refine ⟨n + 1, x, ?_, .inl ⟨c, hc, hs.1, hs.2, h2⟩⟩
        rw [whileN, cR_go hl hc]
        simp only
        rw [t]
        exact h1
      · have t := bR_other (sg := []) h4 h5 hl hc hd (fun z => hs ⟨z.1, by omega⟩)
        refine ⟨1, _, one_turn (x := .no) (cR_go hl hc) t, .inr ⟨.inl ⟨hlt, _, rfl⟩, fun c' hc' z => ?_⟩⟩
        rw [hc] at hc'
        cases hc'
        exact hs z
end K11
set_option Elab.async false
set_option linter.all false
set_option maxRecDepth 100000
set_option maxHeartbeats 4000000
namespace K11
open PySem L2 DL NumText
def frT (t : Str) (at_ bg : Int) (sg : List Nat) (s4 s5 : Sl) : Fr := [.sh (.str t), .sh (.int at_), .sh (.int bg), .sh (.str (sOf sg)), s4, s5, .un, .un, .un, .un]
section
variable {t : Str} {at_ bg ln n1 n2 bl pr nv pw ld : Int} {c0 : Nat} {sg zs ds fs dg st sd tz : List Nat} {s4 s5 : Sl} {q : Rat}
theorem tail_bad (h4 : us s4) (h5 : us s5) (l1 : bLen [.str t] = some (.int ln)) (h : at_ = bg ∨ (¬ at_ = bg ∧ sg = [47] ∧ dCut (.str t) (some bg) none = some (.str (sOf zs)) ∧ dMulT (.str (sOf [48])) (.int (at_ - bg)) = some (.str (sOf zs)))) :
    ∃ e', tR (frT t at_ bg sg s4 s5) = .ok (.rt (.sh (.tuple [.none, .int ln]))) (.sh (.str t) :: e') := by
  rcases h with rfl | ⟨h0, rfl, h1, h2⟩ <;> rcases h4 with rfl | ⟨d4, rfl⟩ <;> rcases h5 with rfl | ⟨d5, rfl⟩ <;> simp [tR, frT, l1] <;> simp [*, eCut, oSome, oNone, useC]
theorem tail_N (h4 : us s4) (h5 : us s5) (h0 : ¬ at_ = bg) (i0 : dIx (.str t) (.int 0) = some (.str (sOf [c0]))) (hb : (c0 = 45 ∧ bl = -1) ∨ (c0 ≠ 45 ∧ bl = 1)) (tl : t.length ≤ 16777216) (rp : Txt.replace t (sOf [45]) (sOf []) = sOf dg)
    (i1 : bIntT [.str (sOf dg)] = some (.int n1)) (mu : dMulT (.int bl) (.int n1) = some (.int pr)) (i2 : bIntT [.str (sOf [49])] = some (.int 1)) (lr : F__law_ratio [.sh (.int pr), .sh (.int 1)] = .ok (.sh (rD q)) [.sh (.int pr), .sh (.int 1)]) :
    ∃ e', tR (frT t at_ bg [] s4 s5) = .ok (.rt (.sh (.tuple [rD q, .none]))) (.sh (.str t) :: e') := by
  rcases hb with ⟨hc, rfl⟩ | ⟨hc, rfl⟩ <;> rcases h4 with rfl | ⟨d4, rfl⟩ <;> rcases h5 with rfl | ⟨d5, rfl⟩ <;> simp [tR, frT, h0, i0, hc, tl, rp, i1, mu, i2, lr, eCut, oSome, oNone, useC, z_callR]
end
end K11
set_option Elab.async false
set_option linter.all false
set_option maxRecDepth 100000
set_option maxHeartbeats 4000000
namespace K11
open PySem L2 DL NumText
section
variable {t : Str} {at_ bg ln n1 n2 bl pr nv pw ld : Int} {c0 : Nat} {sg zs ds fs dg st sd tz z1 : List Nat} {s4 s5 : Sl} {q : Rat}
theorem tail_S (h4 : us s4) (h5 : us s5) (h0 : ¬ at_ = bg) (cd : dCut (.str t) (some bg) none = some (.str (sOf ds))) (mz : dMulT (.str (sOf [48])) (.int (at_ - bg)) = some (.str (sOf zs))) (nz : ¬ ds = zs)
    (cf : dCut (.str t) none (some (bg - 1)) = some (.str (sOf fs))) (i0 : dIx (.str t) (.int 0) = some (.str (sOf [c0]))) (hb : (c0 = 45 ∧ bl = -1) ∨ (c0 ≠ 45 ∧ bl = 1)) (tl : fs.length ≤ 16777216) (rp : Txt.replace (sOf fs) (sOf [45]) (sOf []) = sOf dg)
    (i1 : bIntT [.str (sOf dg)] = some (.int n1)) (mu : dMulT (.int bl) (.int n1) = some (.int pr)) (i2 : bIntT [.str (sOf ds)] = some (.int n2)) (lr : F__law_ratio [.sh (.int pr), .sh (.int n2)] = .ok (.sh (rD q)) [.sh (.int pr), .sh (.int n2)]) :
    ∃ e', tR (frT t at_ bg [47] s4 s5) = .ok (.rt (.sh (.tuple [rD q, .none]))) (.sh (.str t) :: e') := by
  rcases hb with ⟨hc, rfl⟩ | ⟨hc, rfl⟩ <;> rcases h4 with rfl | ⟨d4, rfl⟩ <;> rcases h5 with rfl | ⟨d5, rfl⟩ <;> simp [tR, frT, h0, cd, mz, nz, cf, i0, hc, tl, rp, i1, mu, i2, lr, eCut, oSome, oNone, useC, z_callR]
theorem tail_P (h4 : us s4) (h5 : us s5) (h0 : ¬ at_ = bg) (cd : dCut (.str t) (some bg) none = some (.str (sOf ds)))
    (cf : dCut (.str t) none (some (bg - 1)) = some (.str (sOf fs))) (i0 : dIx (.str t) (.int 0) = some (.str (sOf [c0]))) (hb : (c0 = 45 ∧ bl = -1) ∨ (c0 ≠ 45 ∧ bl = 1)) (tl : fs.length ≤ 16777216) (rp : Txt.replace (sOf fs) (sOf [45]) (sOf []) = sOf dg)
    (i1 : bIntT [.str (sOf dg)] = some (.int n1)) (bs : bStr [.int n1] = some (.str (sOf st))) (ad : dAdd (.str (sOf st)) (.str (sOf ds)) = some (.str (sOf sd))) (i3 : bIntT [.str (sOf sd)] = some (.int nv)) (mu : dMulT (.int bl) (.int nv) = some (.int pr))
    (l2 : bLen [.str (sOf ds)] = some (.int ld)) (m2 : dMulT (.str (sOf [48])) (.int ld) = some (.str (sOf z1))) (ad2 : dAdd (.str (sOf [49])) (.str (sOf z1)) = some (.str (sOf tz))) (i4 : bIntT [.str (sOf tz)] = some (.int pw))
    (lr : F__law_ratio [.sh (.int pr), .sh (.int pw)] = .ok (.sh (rD q)) [.sh (.int pr), .sh (.int pw)]) :
    ∃ e', tR (frT t at_ bg [46] s4 s5) = .ok (.rt (.sh (.tuple [rD q, .none]))) (.sh (.str t) :: e') := by
  rcases hb with ⟨hc, rfl⟩ | ⟨hc, rfl⟩ <;> rcases h4 with rfl | ⟨d4, rfl⟩ <;> rcases h5 with rfl | ⟨d5, rfl⟩ <;> simp [tR, frT, h0, cd, cf, i0, hc, tl, rp, i1, bs, ad, i3, mu, l2, m2, ad2, i4, lr, eCut, oSome, oNone, useC, z_callR]
/-- the walk's end, then the tail -/
theorem read_rt {l h1 : List Nat} {p n : Nat} {x : D} {e' : Fr} (hf : (h1 = [45] ∧ p = 1) ∨ (h1 ≠ [45] ∧ p = 0)) (c1 : dCut (.str (sOf l)) none (some 1) = some (.str (sOf h1))) (w : whileN cR bR n (frR l p 0 [] .un .un) = some (.ok (.rt (.sh x)) (.sh (.str (sOf l)) :: e'))) :
    F__law_read [.sh (.str (sOf l))] = .ok (.sh x) [.sh (.str (sOf l))] := by
  have w' := sWhile_of w
  simp only [frR] at w'
  rcases hf with ⟨hm, rfl⟩ | ⟨hm, rfl⟩
  · have e1 : (((1 + 0 : Nat)) : Int) = 1 := rfl
    have e2 : ((1 : Nat) : Int) = 1 := rfl
    rw [e1] at w'
    simp [F__law_read, m_rd_eq, eCut, oSome, oNone, useC, c1, hm, w']
  · have e1 : (((0 + 0 : Nat)) : Int) = 0 := rfl
    have e2 : ((0 : Nat) : Int) = 0 := rfl
    rw [e1] at w'
    simp [F__law_read, m_rd_eq, eCut, oSome, oNone, useC, c1, hm, w']
theorem read_nx {l h1 : List Nat} {p n : Nat} {x : D} {e e' : Fr} (hf : (h1 = [45] ∧ p = 1) ∨ (h1 ≠ [45] ∧ p = 0)) (c1 : dCut (.str (sOf l)) none (some 1) = some (.str (sOf h1))) (w : whileN cR bR n (frR l p 0 [] .un .un) = some (.ok .nx e)) (tt : tR e = .ok (.rt (.sh x)) (.sh (.str (sOf l)) :: e')) :
    F__law_read [.sh (.str (sOf l))] = .ok (.sh x) [.sh (.str (sOf l))] := by
  have w' := sWhile_of w
  simp only [frR] at w'
  rcases hf with ⟨hm, rfl⟩ | ⟨hm, rfl⟩
  · have e1 : (((1 + 0 : Nat)) : Int) = 1 := rfl
    have e2 : ((1 : Nat) : Int) = 1 := rfl
    rw [e1] at w'
    simp [F__law_read, m_rd_eq, eCut, oSome, oNone, useC, c1, hm, w', tt]
  · have e1 : (((0 + 0 : Nat)) : Int) = 0 := rfl
    have e2 : ((0 : Nat) : Int) = 0 := rfl
    rw [e1] at w'
    simp [F__law_read, m_rd_eq, eCut, oSome, oNone, useC, c1, hm, w', tt]
end
end K11
set_option Elab.async false
set_option linter.all false
set_option maxRecDepth 100000
set_option maxHeartbeats 4000000
namespace K11
open PySem L2 DL NumText
theorem is_gen (sg : List Nat) : dInT (.str (sOf sg)) (.tuple [.str (sOf [47]), .str (sOf [46])]) = some (.bool (decide (sg = [47]) || decide (sg = [46]))) := by
  show (if flat1 (.str (sOf sg)) = true ∧ [PyData.str (sOf [47]), .str (sOf [46])].all flat1 = true then some (PyData.bool ([PyData.str (sOf [47]), .str (sOf [46])].any fun z => PyData.eqv z (.str (sOf sg)))) else none) = _
  have e : ∀ a b : List Nat, PyData.eqv (.str (sOf a)) (.str (sOf b)) = decide (b = a) := fun a b => by
    simp only [PyData.eqv]
    rw [Bool.eq_iff_iff]
    simp
    exact eq_comm
  rw [if_pos ⟨rfl, rfl⟩]
  simp only [List.any_cons, List.any_nil, e, Bool.or_false]
/-- without the dash -/
theorem strike {l : List Nat} {p k : Nat} {u : Bool} (hp : (l.take 1 = [45] ∧ p = 1) ∨ (l.take 1 ≠ [45] ∧ p = 0)) (R : RunF l p k u) : Txt.replace (sOf (l.take (p + k))) (sOf [45]) (sOf []) = sOf ((l.drop p).take k) := by
  rw [sOf_of (Txt.replace _ _ _)]
  have e := PyProof.Rows.replace_strikes (sOf (l.take (p + k))) 45
  rw [s_tl] at e
  rw [show (sOf [45] : Str) = ⟨#[45]⟩ from rfl, show (sOf [] : Str) = ⟨#[]⟩ from rfl, e, List.take_add, List.filter_append]
  have h2 : ((l.drop p).take k).filter (· != 45) = (l.drop p).take k := List.filter_eq_self.mpr fun c hc => by
    have := R.all c hc
    simp
    omega
  have h1 : (l.take p).filter (· != 45) = [] := by
    rcases hp with ⟨h, rfl⟩ | ⟨_, rfl⟩
    · rw [h]
      rfl
    · rfl
  rw [h1, h2, List.nil_append]
/-- the number of a row of digits -/
theorem val_b {cs : List Nat} (h : AllDigits cs) (hl : cs.length ≤ 40) : digitsVal cs < 2 ^ 140 := by
  refine Nat.lt_of_lt_of_le (val_lt cs h) (Nat.le_trans (Nat.pow_le_pow_right (by omega) hl) ?_)
  decide +kernel
theorem pow_b {n : Nat} (h : n ≤ 40) : 10 ^ n < 2 ^ 140 := by
  refine Nat.lt_of_le_of_lt (Nat.pow_le_pow_right (by omega) h) ?_
  decide +kernel
/-- a ratio, made by both -/
theorem both_ratio {a b : Int} {n : Nat} (hb : b ≠ 0) (ha : a.natAbs < 2 ^ n) (hs : b.natAbs < 2 ^ n) (hn : n ≤ 1900) :
    ∃ q, Sz n q ∧ F_made_ratio [.sh (.int a), .sh (.int b)] = .ok (.sh (rD q)) [.sh (.int a), .sh (.int b)] ∧ F__law_ratio [.sh (.int a), .sh (.int b)] = .ok (.sh (rD q)) [.sh (.int a), .sh (.int b)] :=
  ⟨Rat.divInt a b, sz_divInt hb ha hs, ev_made hb hs (by omega), ev_lratio' hb ha hs (by omega)⟩
theorem zeros_val (n : Nat) : digitsVal (List.replicate n 48) = 0 := by
  rw [val_zero _ (fun c hc => by rw [List.eq_of_mem_replicate hc]; omega), List.all_eq_true]
  intro c hc
  exact decide_eq_true (List.eq_of_mem_replicate hc)
theorem str_num {v : Nat} (h : v < 2 ^ 1900) : bStr [.int (v : Int)] = some (.str (sOf (TL.numL v))) := by
  have e : Str.ofString (toString ((v : Nat) : Int)) = sOf (TL.numL v) := by
    rw [sOf_of (Str.ofString _)]
    exact congrArg sOf (TL.tl_num v)
  show (if ((v : Int)).natAbs.log2 < 1920 then some (PyData.str (Str.ofString (toString (v : Int)))) else none) = _
  rw [if_pos (small_log (by rw [Int.natAbs_natCast]; exact h)), e]
theorem int_app {v k : Nat} {ds : List Nat} (hv : v < 10 ^ 40) (hd : AllDigits ds) (hl : ds.length = k) (hk : k ≤ 40) : bIntT [.str (sOf (TL.numL v ++ ds))] = some (.int ((v * 10 ^ k + digitsVal ds : Nat) : Int)) := by
  have h1 := TL.numL_len (n := v) (k := 40) (by omega) hv
  rw [z_intS (fun c hc => (List.mem_append.mp hc).elim (TL.numL_digits v c) (hd c)) (by simp [TL.numL_ne]) (by rw [List.length_append]; omega), val_add, TL.numL_val, hl]
theorem int_ten {k : Nat} (hk : k ≤ 40) : bIntT [.str (sOf (49 :: List.replicate k 48))] = some (.int ((10 ^ k : Nat) : Int)) := by
  have e : (49 :: List.replicate k 48) = [49] ++ List.replicate k 48 := rfl
  rw [e, z_intS (fun c hc => (List.mem_append.mp hc).elim (fun z => by simp at z; omega) (fun z => by rw [List.eq_of_mem_replicate z]; omega)) (by simp) (by simp; omega), val_add, zeros_val, List.length_replicate]
  have : digitsVal [49] = 1 := rfl
  rw [this, Nat.one_mul, Nat.add_zero]
end K11
set_option Elab.async false
set_option linter.all false
set_option maxRecDepth 100000
set_option maxHeartbeats 4000000
namespace K11
open PySem L2 DL NumText
/-- a text read: both say it is bad at p, or both say the ratio -/
def Both (l : List Nat) : Prop :=
  (∃ p : Nat, p ≤ 1000 ∧ F_parse_ratio [.sh (.str (sOf l))] = .ex (bad p) [.sh (.str (sOf l))] ∧ F__law_read [.sh (.str (sOf l))] = .ok (.sh (badR p)) [.sh (.str (sOf l))]) ∨
  (∃ q : Rat, Sz 300 q ∧ F_parse_ratio [.sh (.str (sOf l))] = .ok (.sh (rD q)) [.sh (.str (sOf l))] ∧ F__law_read [.sh (.str (sOf l))] = .ok (.sh (.tuple [rD q, .none])) [.sh (.str (sOf l))])
theorem both (l : List Nat) (hl : l.length ≤ 900) : Both l := by
  obtain ⟨p, hf, hp⟩ : ∃ p, ((l.take 1 = [45] ∧ p = 1) ∨ (l.take 1 ≠ [45] ∧ p = 0)) ∧ p ≤ l.length := by
    by_cases h : l.take 1 = [45]
    · refine ⟨1, .inl ⟨h, rfl⟩, ?_⟩
      have := congrArg List.length h
      rw [List.length_take] at this
      simp at this
      omega
    · exact ⟨0, .inr ⟨h, rfl⟩, by omega⟩
  have hfI : (l.take 1 = [45] ∧ (p : Int) = 1) ∨ (l.take 1 ≠ [45] ∧ (p : Int) = 0) := by
    rcases hf with ⟨h, z⟩ | ⟨h, z⟩
    · exact .inl ⟨h, by rw [z]; rfl⟩
    · exact .inr ⟨h, by rw [z]; rfl⟩
  have c1 : dCut (.str (sOf l)) none (some 1) = some (.str (sOf (l.take 1))) := by
    rw [z_cutS (by omega), show ((1 : Int)) = ((1 : Nat) : Int) from rfl, cut_to]
  have R := run0 (l := l) (p := p) false hp
  have d1 := ev_digits_end (l := l) (p := p) (u := false) (by omega)
  have l1 := z_lenS (l := l) (by omega)
  obtain ⟨n, x, hw, hx⟩ := walk_rd (l := l) (p := p) (s4 := .un) (s5 := .un) (by omega) hp (.inl rfl) (.inl rfl)
  generalize run false (l.drop p) 0 true = k at R d1 hx
  have cd : ∀ m : Nat, dCut (.str (sOf l)) (some (m : Int)) none = some (.str (sOf (l.drop m))) := fun m => by rw [z_cutS (by omega), cut_from]
  have ct : ∀ m : Nat, dCut (.str (sOf l)) none (some (m : Int)) = some (.str (sOf (l.take m))) := fun m => by rw [z_cutS (by omega), cut_to]
  have cm : ∀ m n : Nat, dCut (.str (sOf l)) (some (m : Int)) (some (n : Int)) = some (.str (sOf ((l.drop m).take (n - m)))) := fun m n => by rw [z_cutS (by omega), cut_mid]
  have kp : p + k - p = k := by omega
  have ke1 : ((p + k : Nat) : Int) + 1 = ((p + k + 1 : Nat) : Int) := by omega
  by_cases k0 : k = 0
  · -- no digit at all
    subst k0
    have A : F_parse_ratio [.sh (.str (sOf l))] = .ex (bad ((p + 0 : Nat) : Int)) [.sh (.str (sOf l))] := parse_A hfI c1 d1
    rcases hx with ⟨c, _, _, z, _⟩ | ⟨hE, _⟩
    · exact absurd rfl z
    · rcases hE with ⟨_, e', rfl⟩ | ⟨hlen, s4, s5, h4, h5, rfl⟩
      · exact .inl ⟨p + 0, by omega, A, read_rt hf c1 hw⟩
      · obtain ⟨e', ht⟩ := tail_bad (t := sOf l) (at_ := ((p + 0 : Nat) : Int)) (bg := (p : Int)) (sg := []) (zs := []) h4 h5 l1 (.inl rfl)
        refine .inl ⟨p + 0, by omega, A, ?_⟩
        have e := read_nx hf c1 hw ht
        rw [← hlen] at e
        exact e
  have he : ¬ ((p + k : Nat) : Int) = (p : Int) := by omega
  have c2 := cm p (p + k)
  rw [kp] at c2
  have i1 := z_intS R.all (R.ne k0) (by rw [R.tl]; have := R.le40; omega)
  have c3 := cm (p + k) (p + k + 1)
  rw [show p + k + 1 - (p + k) = 1 by omega, ← ke1] at c3
  have vb := val_b R.all (by rw [R.tl]; exact R.le40)
  have v40 : digitsVal ((l.drop p).take k) < 10 ^ 40 := Nat.lt_of_lt_of_le (val_lt _ R.all) (Nat.pow_le_pow_right (by omega) (by rw [R.tl]; exact R.le40))
  -- the first sign
  obtain ⟨c0, h0, hb⟩ : ∃ c0, l[0]? = some c0 ∧ ((c0 = 45 ∧ p = 1) ∨ (c0 ≠ 45 ∧ p = 0)) := by
    cases l with
    | nil =>
      have := R.len
      simp at this
      omega
    | cons c0 r =>
      refine ⟨c0, rfl, ?_⟩
      rcases hf with ⟨h, z⟩ | ⟨h, z⟩
      · simp at h
        exact .inl ⟨h, z⟩
      · simp at h
        exact .inr ⟨h, z⟩
  have i0 : dIx (.str (sOf l)) (.int 0) = some (.str (sOf [c0])) := z_ixS (n := 0) h0 (by omega)
  have hbl : ∃ bl : Int, ((c0 = 45 ∧ bl = -1) ∨ (c0 ≠ 45 ∧ bl = 1)) ∧ bl.natAbs < 2 ^ 1 ∧ (∀ v : Int, (l.take 1 = [45] ∧ (p : Int) = 1 ∧ bl * v = 0 - v) ∨ (l.take 1 ≠ [45] ∧ (p : Int) = 0 ∧ bl * v = v)) := by
    rcases hb with ⟨h, z⟩ | ⟨h, z⟩
    · refine ⟨-1, .inl ⟨h, rfl⟩, by decide, fun v => .inl ⟨?_, by rw [z]; rfl, by omega⟩⟩
      rcases hf with ⟨h2, _⟩ | ⟨_, z2⟩
      · exact h2
      · omega
    · refine ⟨1, .inr ⟨h, rfl⟩, by decide, fun v => .inr ⟨?_, by rw [z]; rfl, by omega⟩⟩
      rcases hf with ⟨_, z2⟩ | ⟨h2, _⟩
      · omega
      · exact h2
  obtain ⟨bl, hb2, hbs, hbv⟩ := hbl
  have rp := strike hf R
  have nat1 : ∀ v : Nat, v < 2 ^ 280 → ((v : Nat) : Int).natAbs < 2 ^ 280 := fun v h => by rw [Int.natAbs_natCast]; exact h
  have vb2 : ((digitsVal ((l.drop p).take k) : Nat) : Int).natAbs < 2 ^ 140 := by rw [Int.natAbs_natCast]; exact vb
  have mu := mulT_ok hbs vb2 (by omega)
  rcases hx with ⟨c, hc, hcs, _, hE⟩ | ⟨hE, hno⟩
  · -- a stroke, a point
    have hlt := (List.getElem?_eq_some_iff.mp hc).1
    have sgc : (l.drop (p + k)).take 1 = [c] := by
      have e : (l.drop (p + k))[0]? = some c := by rw [List.getElem?_drop]; exact hc
      cases hd : l.drop (p + k) with
      | nil =>
        rw [hd] at e
        cases e
      | cons a r =>
        rw [hd] at e
        cases e
        rfl
    rw [sgc] at c3
    have is := is_gen [c]
    have ist : (decide ([c] = [47]) || decide ([c] = [46])) = true := by
      rcases hcs with rfl | rfl <;> rfl
    rw [ist] at is
    have R2 := run0 (l := l) (p := p + k + 1) (decide ([c] = [47])) (by omega)
    have d2 := ev_digits_end (l := l) (p := p + k + 1) (u := decide ([c] = [47])) (by omega)
    generalize run (decide ([c] = [47])) (l.drop (p + k + 1)) 0 true = k2 at R2 d2 hE
    rw [← ke1] at d2
    have c4 := cm (p + k + 1) (p + k + 1 + k2)
    rw [show p + k + 1 + k2 - (p + k + 1) = k2 by omega, ← ke1] at c4
    have no := ev_nought (l := (l.drop (p + k + 1)).take k2) (by rw [R2.tl]; have := R2.le40; omega)
    rcases hE with ⟨hlen, e', rfl⟩ | ⟨hlen, s4, s5, h4, h5, rfl⟩
    · exact .inl ⟨p + k + 1 + k2, by omega, parse_B hfI c1 d1 he c2 i1 c3 is d2 c4 no l1 (.inr (.inl (by omega))), read_rt hf c1 hw⟩
    · have dsE : (l.drop (p + k + 1)).take k2 = l.drop (p + k + 1) := List.take_of_length_le (by rw [List.length_drop]; omega)
      by_cases k20 : k2 = 0
      · subst k20
        obtain ⟨e', ht⟩ := tail_bad (t := sOf l) (at_ := ((p + k + 1 + 0 : Nat) : Int)) (bg := ((p + k + 1 : Nat) : Int)) (sg := [c]) (zs := []) h4 h5 l1 (.inl rfl)
        have e := read_nx hf c1 hw ht
        rw [← hlen] at e
        exact .inl ⟨p + k + 1 + 0, by omega, parse_B hfI c1 d1 he c2 i1 c3 is d2 c4 no l1 (.inl rfl), e⟩
      · have hat : ¬ ((p + k + 1 + k2 : Nat) : Int) = ((p + k + 1 : Nat) : Int) := by omega
        have adiff : ((p + k + 1 + k2 : Nat) : Int) - ((p + k + 1 : Nat) : Int) = (k2 : Int) := by omega
        have cd2 := cd (p + k + 1)
        rw [← dsE] at cd2
        have nd : ¬ (l.drop (p + k + 1)).take k2 = [] := R2.ne k20
        have dl := R2.tl
        have da := R2.all
        have k40 := R2.le40
        generalize (l.drop (p + k + 1)).take k2 = ds at c4 no cd2 nd dl da
        have mz := z_mulS (c := 48) (k := (k2 : Int)) (by omega) (by omega)
        rw [Int.toNat_natCast] at mz
        have mz2 : dMulT (.str (sOf [48])) (.int (((p + k + 1 + k2 : Nat) : Int) - ((p + k + 1 : Nat) : Int))) = some (.str (sOf (List.replicate k2 48))) := by
          rw [adiff]
          exact mz
        have cf : dCut (.str (sOf l)) none (some (((p + k + 1 : Nat) : Int) - 1)) = some (.str (sOf (l.take (p + k)))) := by
          have e : ((p + k + 1 : Nat) : Int) - 1 = ((p + k : Nat) : Int) := by omega
          rw [e]
          exact ct (p + k)
        have tl : (l.take (p + k)).length ≤ 16777216 := by
          rw [List.length_take]
          omega
        have i2 := z_intS da nd (by rw [dl]; omega)
        have vb3 := val_b da (by rw [dl]; exact k40)
        have nl : ¬ ((p + k + 1 + k2 : Nat) : Int) < (l.length : Int) := by omega
        rcases hcs with rfl | rfl
        · have ze := rep_all (l := ds) (n := k2) dl
          cases hz : ds.all fun c => decide (c = 48) with
          | true =>
            rw [hz] at ze no
            have ze' := of_decide_eq_true ze
            rw [← ze'] at mz2
            obtain ⟨e', ht⟩ := tail_bad (t := sOf l) (at_ := ((p + k + 1 + k2 : Nat) : Int)) (bg := ((p + k + 1 : Nat) : Int)) (sg := [47]) (zs := ds) h4 h5 l1 (.inr ⟨hat, rfl, cd2, mz2⟩)
            have e := read_nx hf c1 hw ht
            rw [← hlen] at e
            exact .inl ⟨p + k + 1 + k2, by omega, parse_B hfI c1 d1 he c2 i1 c3 is d2 c4 no l1 (.inr (.inr ⟨rfl, rfl⟩)), e⟩
          | false =>
            rw [hz] at ze no
            have n0 : digitsVal ds ≠ 0 := fun z => by
              rw [val_zero _ da, hz] at z
              cases z
            obtain ⟨q, hq, q1, q2⟩ := both_ratio (a := bl * ((digitsVal ((l.drop p).take k) : Nat) : Int)) (b := ((digitsVal ds : Nat) : Int)) (n := 300) (by omega) (abs_up (abs_mul_lt hbs vb2) (by omega)) (abs_up (by rw [Int.natAbs_natCast]; exact vb3) (by omega)) (by omega)
            obtain ⟨e', ht⟩ := tail_S (t := sOf l) h4 h5 hat cd2 mz2 (of_decide_eq_false ze) cf i0 hb2 tl rp i1 mu i2 q2
            exact .inr ⟨q, hq, parse_S (hbv _) c1 d1 he c2 i1 c3 is d2 c4 no l1 nd nl i2 q1, read_nx hf c1 hw ht⟩
        · have pb := pow_b k40
          have pb2 : ((10 ^ k2 : Nat) : Int).natAbs < 2 ^ 140 := by rw [Int.natAbs_natCast]; exact pb
          have p0 : ((10 ^ k2 : Nat) : Int) ≠ 0 := by
            have := Nat.pow_pos (n := k2) (show 0 < 10 by omega)
            omega
          have ia := int_app v40 da dl k40
          have nb : ((digitsVal ((l.drop p).take k) * 10 ^ k2 + digitsVal ds : Nat) : Int).natAbs < 2 ^ 281 := by
            have h1 := abs_mul_lt (m := 140) (n := 140) vb2 pb2
            have h2 := abs_add_lt (n := 280) h1 (abs_up (m := 140) (show (((digitsVal ds : Nat) : Int)).natAbs < 2 ^ 140 by rw [Int.natAbs_natCast]; exact vb3) (by omega))
            rw [← Int.natCast_mul, ← Int.natCast_add] at h2
            exact h2
          have mn := mulT_ok hbs nb (by omega)
          have mp := mulT_ok vb2 pb2 (by omega)
          rw [← Int.natCast_mul] at mp
          obtain ⟨q, hq, q1, q2⟩ := both_ratio (a := bl * ((digitsVal ((l.drop p).take k) * 10 ^ k2 + digitsVal ds : Nat) : Int)) (b := ((10 ^ k2 : Nat) : Int)) (n := 300) p0 (abs_up (abs_mul_lt hbs nb) (by omega)) (abs_up pb2 (by omega)) (by omega)
          have l2 := z_lenS (l := ds) (by rw [dl]; omega)
          rw [dl] at l2
          have nlen := TL.numL_len (n := digitsVal ((l.drop p).take k)) (k := 40) (by omega) v40
          obtain ⟨e', ht⟩ := tail_P (t := sOf l) h4 h5 hat cd2 cf i0 hb2 tl rp i1 (str_num (Nat.lt_of_lt_of_le vb (Nat.pow_le_pow_right (by omega) (by omega)))) (z_addS (by rw [dl]; omega)) ia mn l2 mz (z_addS (by rw [List.length_replicate]; simp; omega)) (int_ten k40) q2
          refine .inr ⟨q, hq, parse_P ?_ c1 d1 he c2 i1 c3 is d2 c4 l1 nd nl i2 l2 rfl (ev_power (by omega)) mp q1, read_nx hf c1 hw ht⟩
          rw [← Int.natCast_add]
          exact hbv _
  · have sgn : ∀ c, (l.drop (p + k)).take 1 = [c] → l[p + k]? = some c := fun c h => by
      have e : ((l.drop (p + k)).take 1)[0]? = some c := by rw [h]; rfl
      rw [List.getElem?_take, if_pos (by omega), List.getElem?_drop] at e
      exact e
    have is := is_gen ((l.drop (p + k)).take 1)
    have isf : (decide ((l.drop (p + k)).take 1 = [47]) || decide ((l.drop (p + k)).take 1 = [46])) = false := by
      rw [Bool.or_eq_false_iff]
      constructor
      · exact decide_eq_false fun z => hno 47 (sgn 47 z) ⟨.inl rfl, k0⟩
      · exact decide_eq_false fun z => hno 46 (sgn 46 z) ⟨.inr rfl, k0⟩
    rw [isf] at is
    rcases hE with ⟨hlen, e', rfl⟩ | ⟨hlen, s4, s5, h4, h5, rfl⟩
    · exact .inl ⟨p + k, by omega, parse_F hfI c1 d1 he c2 i1 c3 is l1 (by omega), read_rt hf c1 hw⟩
    · have lw : l.take (p + k) = l := List.take_of_length_le (by omega)
      rw [lw] at rp
      obtain ⟨q, hq, q1, q2⟩ := both_ratio (a := bl * ((digitsVal ((l.drop p).take k) : Nat) : Int)) (b := 1) (n := 300) (by decide) (abs_up (abs_mul_lt hbs vb2) (by omega)) (abs_up (m := 1) (by decide) (by omega)) (by omega)
      have i2 := int_ten (k := 0) (by omega)
      obtain ⟨e', ht⟩ := tail_N (t := sOf l) h4 h5 he i0 hb2 (by rw [s_len]; omega) rp i1 mu i2 q2
      exact .inr ⟨q, hq, parse_G (hbv _) c1 d1 he c2 i1 c3 is l1 (by omega) q1, read_nx hf c1 hw ht⟩
end K11
set_option Elab.async false
set_option linter.all false
set_option maxRecDepth 100000
set_option maxHeartbeats 4000000
namespace K11
open PySem L2 DL NumText
theorem ev_pot (ns : List Int) : ∃ p, Pot p ∧ F__law_pot [.sh (scr ns), .sh (.int 0)] = .ok (.own (.ls p)) [.sh (scr ns), .sh (.int 0)] :=
  pot_allT (A := 103) (B := 53) (C := 10) (E := 18) (M := 2147483549) (S := 53) (U := 2) (V := 3) (W := 3) (N := 2147483477) (O := 1) (by omega) (by omega) (by omega) (by omega) (by omega) (by omega) (by omega) (by omega) rfl rfl rfl rfl rfl (by omega) (k := 0) (by omega)
theorem ev_draw {p : List D} (P : Pot p) {r : Int} (h0 : 0 < r) (h1 : r < 1000000000) : ∃ p' dg, Pot p' ∧ 0 ≤ dg ∧ dg < r ∧ F__law_draw [.io (.ls p), .sh (.int r)] = .ok (.sh (.int dg)) [.io (.ls p'), .sh (.int r)] :=
  draw_okT (A := 48271) (B := 18116) (M := 2147483587) (N := 2147483549) (S := 73) (by omega) (by omega) (by omega) (by omega) (by omega) (by omega) P h0 h1
theorem ev_heard {l : List Nat} (hl : l.length ≤ 900) : (∃ p : Nat, p ≤ 1000 ∧ F__law_heard [.sh (.str (sOf l))] = .ok (.sh (badR p)) [.sh (.str (sOf l))] ∧ F__law_read [.sh (.str (sOf l))] = .ok (.sh (badR p)) [.sh (.str (sOf l))]) ∨
    (∃ q : Rat, Sz 300 q ∧ F__law_heard [.sh (.str (sOf l))] = .ok (.sh (.tuple [rD q, .none])) [.sh (.str (sOf l))] ∧ F__law_read [.sh (.str (sOf l))] = .ok (.sh (.tuple [rD q, .none])) [.sh (.str (sOf l))]) := by
  rcases both l hl with ⟨p, hp, e1, e2⟩ | ⟨q, hq, e1, e2⟩
  · refine .inl ⟨p, hp, ?_, e2⟩
    unfold badR
    generalize (p : Int) = pi at e1 ⊢
    have m1 : mt_BadText "BadText" = some true := by decide
    have m2 : mi_WebError "BadText" = some true := by decide
    simp [F__law_heard, m__law_heard, e1, m1, m2, List.lookup, z_callR]
  · refine .inr ⟨q, hq, ?_, e2⟩
    simp [F__law_heard, m__law_heard, e1, z_callR]
end K11
set_option Elab.async false
set_option linter.all false
set_option maxRecDepth 100000
set_option maxHeartbeats 4000000
namespace K11
open PySem L2 DL NumText
theorem atI_nat {xs : List D} {i : Nat} {d : D} (h : xs[i]? = some d) : dIx (.list xs) (.int (i : Int)) = some d := by
  have hn := (List.getElem?_eq_some_iff.mp h).1
  show atI xs (i : Int) = some d
  unfold atI ixN
  rw [if_pos (by omega), if_pos (by omega), Int.toNat_natCast]
  exact h
theorem pick_gen {p p' : List D} {xs : List D} {n i : Int} {d : D} (l : bLen [.list xs] = some (.int n)) (r : F__law_draw [.io (.ls p), .sh (.int n)] = .ok (.sh (.int i)) [.io (.ls p'), .sh (.int n)]) (ix : dIx (.list xs) (.int i) = some d) (fd : flatD d = true) :
    F__law_pick [.io (.ls p), .sh (.list xs)] = .ok (.sh d) [.io (.ls p'), .sh (.list xs)] := by
  have l' : n = (xs.length : Int) := by
    have : some (PyData.int (xs.length : Int)) = some (.int n) := l
    cases this
    rfl
  subst l'
  simp [F__law_pick, m__law_pick, r, ix, fd, z_callR]
theorem ev_pick {p : List D} (P : Pot p) {xs : List D} (h0 : 0 < xs.length) (h1 : xs.length < 1000) (fl : ∀ d ∈ xs, flatD d = true) : ∃ (p' : List D) (i : Nat) (d : D), Pot p' ∧ xs[i]? = some d ∧ F__law_pick [.io (.ls p), .sh (.list xs)] = .ok (.sh d) [.io (.ls p'), .sh (.list xs)] := by
  obtain ⟨p', dg, P', g0, g1, r⟩ := ev_draw P (r := (xs.length : Int)) (by omega) (by omega)
  have e : ((dg.toNat : Nat) : Int) = dg := by omega
  have hi : dg.toNat < xs.length := by omega
  have ix : xs[dg.toNat]? = some xs[dg.toNat] := List.getElem?_eq_getElem hi
  refine ⟨p', dg.toNat, _, P', ix, pick_gen rfl r ?_ (fl _ (List.getElem_mem hi))⟩
  have z := atI_nat ix
  rw [e] at z
  exact z
theorem ev_one : F__law_one [] = .ok (.sh (.int 1099511627776)) [] := by
  have pw : ∀ i j : Int, 0 ≤ j → j ≤ 1000000 → i.natAbs < 2 ^ 64 → dPow (.int i) (.int j) = some (.int (i ^ j.toNat)) := fun i j h1 h2 h3 => if_pos ⟨h1, h2, h3⟩
  have e : dPow (.int 2) (.int 40) = some (.int 1099511627776) := pw 2 40 (by omega) (by omega) (by omega)
  generalize (1099511627776 : Int) = v at e ⊢
  simp [F__law_one, m__law_one, e]
def mSz (k0 k1 k2 k3 : Int) : Sf := (sSeq (sSet 1 (eFnC F__law_draw [true, false] (aCons (eVar 0) (aCons (eC (.int 6)) aNil)))) (sSeq (sIf (tOf (eOp2 dEq (eVar 1) (eC (.int 0)))) (sRet (eFnC F__law_pick [true, false] (aCons (eVar 0) (aCons (eFz (eLst (aCons (eC (.int 0)) (aCons (eC (.int 1)) (aCons (eC (.int 2)) (aCons (eC (.int 3)) aNil)))))) aNil)))) sNil) (sSeq (sIf (tOf (eOp2 dEq (eVar 1) (eC (.int 1)))) (sRet (eR (eOp2 dFdiv (eOp2 dMulT (eFz (eFnC F__law_pick [true, false] (aCons (eVar 0) (aCons (eFz (eLst (aCons (eC (.int 1)) (aCons (eC (.int 2)) (aCons (eC (.int 3)) (aCons (eC (.int 5)) aNil)))))) aNil)))) (eFz (eFnC F__law_one [] aNil))) (eFz (eFnC F__law_pick [true, false] (aCons (eVar 0) (aCons (eFz (eLst (aCons (eC (.int 1)) (aCons (eC (.int 2)) (aCons (eC (.int 4)) (aCons (eC (.int 3)) aNil)))))) aNil))))))) sNil) (sSeq (sIf (tOf (eOp2 dEq (eVar 1) (eC (.int 2)))) (sRet (eR (eOp2 dAdd (eC (.int 1)) (eFz (eFnC F__law_draw [true, false] (aCons (eVar 0) (aCons (eC (.int k0)) aNil))))))) sNil) (sSeq (sIf (tOf (eOp2 dEq (eVar 1) (eC (.int 3)))) (sRet (eR (eOp2 dMulT (eFz (eFnC F__law_draw [true, false] (aCons (eVar 0) (aCons (eC (.int k1)) aNil)))) (eFz (eFnC F__law_draw [true, false] (aCons (eVar 0) (aCons (eC (.int k1)) aNil))))))) sNil) (sRet (eR (eOp2 dAdd (eOp2 dMulT (eFz (eFnC F__law_draw [true, false] (aCons (eVar 0) (aCons (eC (.int k2)) aNil)))) (eC (.int k3))) (eFz (eFnC F__law_draw [true, false] (aCons (eVar 0) (aCons (eC (.int k1)) aNil))))))))))))
theorem m_sz_eq : F__law_size = runF 1 2 (mSz 1000 1000000 2000000 1048576) := rfl
section
variable {p p1 p2 p3 : List D} {w v u o a b pr h k0 k1 k2 k3 : Int}
theorem size0 (r1 : F__law_draw [.io (.ls p), .sh (.int 6)] = .ok (.sh (.int 0)) [.io (.ls p1), .sh (.int 6)]) (r2 : F__law_pick [.io (.ls p1), .sh (.list [.int 0, .int 1, .int 2, .int 3])] = .ok (.sh (.int v)) [.io (.ls p2), .sh (.list [.int 0, .int 1, .int 2, .int 3])]) (q : ∀ x : List D, p2 = x → x.all flatD = true) :
    runF 1 2 (mSz k0 k1 k2 k3) [.io (.ls p)] = .ok (.sh (.int v)) [.io (.ls p2)] := by
  have q' := q p2 rfl
  simp [mSz, r1, r2, z_callR]
theorem size1 (r1 : F__law_draw [.io (.ls p), .sh (.int 6)] = .ok (.sh (.int 1)) [.io (.ls p1), .sh (.int 6)]) (r2 : F__law_pick [.io (.ls p1), .sh (.list [.int 1, .int 2, .int 3, .int 5])] = .ok (.sh (.int v)) [.io (.ls p2), .sh (.list [.int 1, .int 2, .int 3, .int 5])])
    (on : F__law_one [] = .ok (.sh (.int o)) []) (r3 : F__law_pick [.io (.ls p2), .sh (.list [.int 1, .int 2, .int 4, .int 3])] = .ok (.sh (.int u)) [.io (.ls p3), .sh (.list [.int 1, .int 2, .int 4, .int 3])]) (mu : dMulT (.int v) (.int o) = some (.int pr)) (fd : dFdiv (.int pr) (.int u) = some (.int h)) :
    runF 1 2 (mSz k0 k1 k2 k3) [.io (.ls p)] = .ok (.sh (.int h)) [.io (.ls p3)] := by
  simp [mSz, r1, r2, r3, on, mu, fd, z_callR]
theorem size2 (r1 : F__law_draw [.io (.ls p), .sh (.int 6)] = .ok (.sh (.int 2)) [.io (.ls p1), .sh (.int 6)]) (r2 : F__law_draw [.io (.ls p1), .sh (.int k0)] = .ok (.sh (.int v)) [.io (.ls p2), .sh (.int k0)]) :
    runF 1 2 (mSz k0 k1 k2 k3) [.io (.ls p)] = .ok (.sh (.int (1 + v))) [.io (.ls p2)] := by
  simp [mSz, r1, r2, z_callR]
theorem size3 (r1 : F__law_draw [.io (.ls p), .sh (.int 6)] = .ok (.sh (.int 3)) [.io (.ls p1), .sh (.int 6)]) (r2 : F__law_draw [.io (.ls p1), .sh (.int k1)] = .ok (.sh (.int v)) [.io (.ls p2), .sh (.int k1)]) (r3 : F__law_draw [.io (.ls p2), .sh (.int k1)] = .ok (.sh (.int u)) [.io (.ls p3), .sh (.int k1)])
    (mu : dMulT (.int v) (.int u) = some (.int h)) : runF 1 2 (mSz k0 k1 k2 k3) [.io (.ls p)] = .ok (.sh (.int h)) [.io (.ls p3)] := by
  simp [mSz, r1, r2, r3, mu, z_callR]
theorem size4 (r1 : F__law_draw [.io (.ls p), .sh (.int 6)] = .ok (.sh (.int w)) [.io (.ls p1), .sh (.int 6)]) (w0 : ¬ w = 0) (w1 : ¬ w = 1) (w2 : ¬ w = 2) (w3 : ¬ w = 3)
    (r2 : F__law_draw [.io (.ls p1), .sh (.int k2)] = .ok (.sh (.int v)) [.io (.ls p2), .sh (.int k2)]) (r3 : F__law_draw [.io (.ls p2), .sh (.int k1)] = .ok (.sh (.int u)) [.io (.ls p3), .sh (.int k1)])
    (mu : dMulT (.int v) (.int k3) = some (.int h)) : runF 1 2 (mSz k0 k1 k2 k3) [.io (.ls p)] = .ok (.sh (.int (h + u))) [.io (.ls p3)] := by
  simp [mSz, r1, w0, w1, w2, w3, r2, r3, mu, z_callR]
end
theorem ev_size {p : List D} (P : Pot p) : ∃ p' x, Pot p' ∧ 0 ≤ x ∧ x < 2 ^ 43 ∧ F__law_size [.io (.ls p)] = .ok (.sh (.int x)) [.io (.ls p')] := by
  rw [m_sz_eq]
  obtain ⟨p1, w, W1, w0, w1, r1⟩ := ev_draw P (r := 6) (by decide) (by decide)
  by_cases h0 : w = 0
  · subst h0
    obtain ⟨p2, i, d, W2, hi, r2⟩ := ev_pick W1 (xs := [.int 0, .int 1, .int 2, .int 3]) (by decide) (by decide) (by decide)
    have hd : ∃ v : Int, d = .int v ∧ 0 ≤ v ∧ v < 2 ^ 43 := by
      match i, hi with
      | 0, hi => cases hi; exact ⟨0, rfl, by decide, by decide⟩
      | 1, hi => cases hi; exact ⟨1, rfl, by decide, by decide⟩
      | 2, hi => cases hi; exact ⟨2, rfl, by decide, by decide⟩
      | 3, hi => cases hi; exact ⟨3, rfl, by decide, by decide⟩
      | i + 4, hi => cases hi
    obtain ⟨v, rfl, v0, v1⟩ := hd
    obtain ⟨a, b, rfl, _⟩ := W2.ex
    exact ⟨_, v, W2, v0, v1, size0 r1 r2 (fun x hx => by subst hx; rfl)⟩
  · by_cases h1 : w = 1
    · subst h1
      obtain ⟨p2, i, d, W2, hi, r2⟩ := ev_pick W1 (xs := [.int 1, .int 2, .int 3, .int 5]) (by decide) (by decide) (by decide)
      obtain ⟨p3, j, d2, W3, hj, r3⟩ := ev_pick W2 (xs := [.int 1, .int 2, .int 4, .int 3]) (by decide) (by decide) (by decide)
      have hd : ∃ v : Int, d = .int v ∧ 0 ≤ v ∧ v ≤ 5 := by
        match i, hi with
        | 0, hi => cases hi; exact ⟨1, rfl, by decide, by decide⟩
        | 1, hi => cases hi; exact ⟨2, rfl, by decide, by decide⟩
        | 2, hi => cases hi; exact ⟨3, rfl, by decide, by decide⟩
        | 3, hi => cases hi; exact ⟨5, rfl, by decide, by decide⟩
        | i + 4, hi => cases hi
      have hd2 : ∃ v : Int, d2 = .int v ∧ 0 < v ∧ v ≤ 4 := by
        match j, hj with
        | 0, hj => cases hj; exact ⟨1, rfl, by decide, by decide⟩
        | 1, hj => cases hj; exact ⟨2, rfl, by decide, by decide⟩
        | 2, hj => cases hj; exact ⟨4, rfl, by decide, by decide⟩
        | 3, hj => cases hj; exact ⟨3, rfl, by decide, by decide⟩
        | j + 4, hj => cases hj
      obtain ⟨v, rfl, v0, v1⟩ := hd
      obtain ⟨u, rfl, u0, u1⟩ := hd2
      have mu := mulT_ok (a := v) (b := 1099511627776) (m := 3) (n := 41) (by omega) (by omega) (by omega)
      have fd := fdiv_ok (a := v * 1099511627776) (b := u) (n := 3) (by omega) (by omega) (by omega)
      have q1 : 0 ≤ (v * 1099511627776).fdiv u := Int.fdiv_nonneg (by omega) (by omega)
      have q2 : (v * 1099511627776).fdiv u ≤ v * 1099511627776 := by
        rw [Int.fdiv_eq_ediv_of_nonneg _ (by omega)]
        exact Int.ediv_le_self _ (by omega)
      exact ⟨p3, _, W3, q1, by omega, size1 r1 r2 ev_one r3 mu fd⟩
    · by_cases h2 : w = 2
      · subst h2
        obtain ⟨p2, v, W2, v0, v1, r2⟩ := ev_draw W1 (r := 1000) (by decide) (by decide)
        exact ⟨p2, 1 + v, W2, by omega, by omega, size2 r1 r2⟩
      · by_cases h3 : w = 3
        · subst h3
          obtain ⟨p2, v, W2, v0, v1, r2⟩ := ev_draw W1 (r := 1000000) (by decide) (by decide)
          obtain ⟨p3, u, W3, u0, u1, r3⟩ := ev_draw W2 (r := 1000000) (by decide) (by decide)
          have mu := mulT_ok (a := v) (b := u) (m := 20) (n := 20) (by omega) (by omega) (by omega)
          have b := abs_mul_lt (a := v) (b := u) (m := 20) (n := 20) (by omega) (by omega)
          have b0 := Int.mul_nonneg v0 u0
          exact ⟨p3, v * u, W3, b0, by omega, size3 r1 r2 r3 mu⟩
        · obtain ⟨p2, v, W2, v0, v1, r2⟩ := ev_draw W1 (r := 2000000) (by decide) (by decide)
          obtain ⟨p3, u, W3, u0, u1, r3⟩ := ev_draw W2 (r := 1000000) (by decide) (by decide)
          have mu := mulT_ok (a := v) (b := 1048576) (m := 21) (n := 21) (by omega) (by omega) (by omega)
          exact ⟨p3, v * 1048576 + u, W3, by omega, by omega, size4 r1 h0 h1 h2 h3 r2 r3 mu⟩
theorem num_gen {p p1 p2 : List D} {x g : Int} (e1 : F__law_size [.io (.ls p)] = .ok (.sh (.int x)) [.io (.ls p1)]) (e2 : F__law_draw [.io (.ls p1), .sh (.int 2)] = .ok (.sh (.int g)) [.io (.ls p2), .sh (.int 2)]) :
    F__law_number [.io (.ls p)] = .ok (.sh (.int (if g = 0 then -x else x))) [.io (.ls p2)] := by
  by_cases h : g = 0 <;> simp [F__law_number, m__law_number, e1, e2, h, z_callR]
theorem ev_number {p : List D} (P : Pot p) : ∃ p' x, Pot p' ∧ x.natAbs < 2 ^ 43 ∧ F__law_number [.io (.ls p)] = .ok (.sh (.int x)) [.io (.ls p')] := by
  obtain ⟨p1, x, W1, x0, x1, e1⟩ := ev_size P
  obtain ⟨p2, g, W2, _, _, e2⟩ := ev_draw W1 (r := 2) (by decide) (by decide)
  refine ⟨p2, _, W2, ?_, num_gen e1 e2⟩
  split <;> omega
end K11
set_option Elab.async false
set_option linter.all false
set_option maxRecDepth 100000
set_option maxHeartbeats 4000000
namespace K11
open PySem L2 DL NumText
@[simp] theorem l_7 : (Str.ofString "7") = sOf [55] := rfl
@[simp] theorem l_9 : (Str.ofString "9") = sOf [57] := rfl
theorem str_of (x : Str) {n : Nat} (h : x.cps.toList.length ≤ n) : ∃ l, PyData.str x = .str (sOf l) ∧ l.length ≤ n := ⟨x.cps.toList, congrArg PyData.str (sOf_of x), h⟩
section
variable {p p1 p2 : List D} {d : D} {w x : Int} {a1 z40 n40 o40 z38 z39 l : List Nat}
theorem fig0 (r1 : F__law_draw [.io (.ls p), .sh (.int 6)] = .ok (.sh (.int 0)) [.io (.ls p1), .sh (.int 6)]) (r2 : F__law_pick [.io (.ls p1), .sh (.list [.str "0", .str "00", .str "000", .str "1", .str "10"])] = .ok (.sh (.str (sOf l))) [.io (.ls p2), .sh (.list [.str "0", .str "00", .str "000", .str "1", .str "10"])]) (hp : p2.all flatD = true) :
    F__law_figures [.io (.ls p)] = .ok (.sh (.str (sOf l))) [.io (.ls p2)] := by
  rw [l_0, l_1] at r2
  simp [F__law_figures, m__law_figures, r1, r2, hp, z_callR]
theorem fig1 (r1 : F__law_draw [.io (.ls p), .sh (.int 6)] = .ok (.sh (.int 1)) [.io (.ls p1), .sh (.int 6)]) (m39 : dMulT (.str (sOf [48])) (.int 39) = some (.str (sOf z39))) (m40 : dMulT (.str (sOf [48])) (.int 40) = some (.str (sOf z40))) (m9 : dMulT (.str (sOf [57])) (.int 40) = some (.str (sOf n40))) (m38 : dMulT (.str (sOf [48])) (.int 38) = some (.str (sOf z38)))
    (d1 : dAdd (.str (sOf z39)) (.str (sOf [55])) = some (.str (sOf a1))) (d2 : dAdd (.str (sOf [49])) (.str (sOf z40)) = some (.str (sOf o40)))
    (r2 : F__law_pick [.io (.ls p1), .sh (.list [.str (sOf a1), .str (sOf z40), .str (sOf n40), .str (sOf o40), .str (sOf z38)])] = .ok (.sh (.str (sOf l))) [.io (.ls p2), .sh (.list [.str (sOf a1), .str (sOf z40), .str (sOf n40), .str (sOf o40), .str (sOf z38)])]) (hp : p2.all flatD = true) :
    F__law_figures [.io (.ls p)] = .ok (.sh (.str (sOf l))) [.io (.ls p2)] := by
  simp [F__law_figures, m__law_figures, r1, m39, m40, m9, m38, d1, d2, r2, hp, z_callR]
theorem fig2 (r1 : F__law_draw [.io (.ls p), .sh (.int 6)] = .ok (.sh (.int w)) [.io (.ls p1), .sh (.int 6)]) (w0 : ¬ w = 0) (w1 : ¬ w = 1) (r2 : F__law_size [.io (.ls p1)] = .ok (.sh (.int x)) [.io (.ls p2)]) (bs : bStr [.int x] = some (.str (sOf l))) :
    F__law_figures [.io (.ls p)] = .ok (.sh (.str (sOf l))) [.io (.ls p2)] := by
  simp [F__law_figures, m__law_figures, r1, w0, w1, r2, bs, z_callR]
end
theorem pot_flat {p : List D} (P : Pot p) : p.all flatD = true := by
  obtain ⟨a, b, rfl, _⟩ := P.ex
  rfl
theorem ev_figures {p : List D} (P : Pot p) : ∃ p' l, Pot p' ∧ l.length ≤ 41 ∧ F__law_figures [.io (.ls p)] = .ok (.sh (.str (sOf l))) [.io (.ls p')] := by
  obtain ⟨p1, w, W1, w0, w1, r1⟩ := ev_draw P (r := 6) (by decide) (by decide)
  by_cases h0 : w = 0
  · subst h0
    obtain ⟨p2, i, d, W2, hi, r2⟩ := ev_pick W1 (xs := [.str "0", .str "00", .str "000", .str "1", .str "10"]) (by decide) (by decide) (fun d hd => by simp at hd; rcases hd with rfl | rfl | rfl | rfl | rfl <;> rfl)
    have hd : ∃ l, d = .str (sOf l) ∧ l.length ≤ 41 := by
      match i, hi with
      | 0, hi => cases hi; exact ⟨[48], rfl, by decide⟩
      | 1, hi => cases hi; exact ⟨[48, 48], rfl, by decide⟩
      | 2, hi => cases hi; exact ⟨[48, 48, 48], rfl, by decide⟩
      | 3, hi => cases hi; exact ⟨[49], rfl, by decide⟩
      | 4, hi => cases hi; exact ⟨[49, 48], rfl, by decide⟩
      | i + 5, hi => cases hi
    obtain ⟨l, rfl, hl⟩ := hd
    exact ⟨p2, l, W2, hl, fig0 r1 r2 (pot_flat W2)⟩
  · by_cases h1 : w = 1
    · subst h1
      have m39 := z_mulS (c := 48) (k := 39) (by omega) (by omega)
      have m40 := z_mulS (c := 48) (k := 40) (by omega) (by omega)
      have m9 := z_mulS (c := 57) (k := 40) (by omega) (by omega)
      have m38 := z_mulS (c := 48) (k := 38) (by omega) (by omega)
      have e39 : (List.replicate (39 : Int).toNat 48).length = 39 := by rw [List.length_replicate]; rfl
      have e40 : (List.replicate (40 : Int).toNat 48).length = 40 := by rw [List.length_replicate]; rfl
      have e9 : (List.replicate (40 : Int).toNat 57).length = 40 := by rw [List.length_replicate]; rfl
      have e38 : (List.replicate (38 : Int).toNat 48).length = 38 := by rw [List.length_replicate]; rfl
      generalize List.replicate (39 : Int).toNat 48 = z39 at m39 e39
      generalize List.replicate (40 : Int).toNat 48 = z40 at m40 e40
      generalize List.replicate (40 : Int).toNat 57 = n40 at m9 e9
      generalize List.replicate (38 : Int).toNat 48 = z38 at m38 e38
      have d1 := z_addS (a := z39) (b := [55]) (by simp; omega)
      have d2 := z_addS (a := [49]) (b := z40) (by simp; omega)
      obtain ⟨p2, i, d, W2, hi, r2⟩ := ev_pick W1 (xs := [.str (sOf (z39 ++ [55])), .str (sOf z40), .str (sOf n40), .str (sOf ([49] ++ z40)), .str (sOf z38)]) (by simp) (by simp) (fun d hd => by simp only [List.mem_cons, List.not_mem_nil, or_false] at hd; rcases hd with rfl | rfl | rfl | rfl | rfl <;> rfl)
      have hd : ∃ l, d = .str (sOf l) ∧ l.length ≤ 41 := by
        match i, hi with
        | 0, hi => cases hi; exact ⟨_, rfl, by simp; omega⟩
        | 1, hi => cases hi; exact ⟨_, rfl, by omega⟩
        | 2, hi => cases hi; exact ⟨_, rfl, by omega⟩
        | 3, hi => cases hi; exact ⟨_, rfl, by simp; omega⟩
        | 4, hi => cases hi; exact ⟨_, rfl, by omega⟩
        | i + 5, hi => cases hi
      obtain ⟨l, rfl, hl⟩ := hd
      exact ⟨p2, l, W2, hl, fig1 r1 m39 m40 m9 m38 d1 d2 r2 (pot_flat W2)⟩
    · obtain ⟨p2, x, W2, x0, x1, r2⟩ := ev_size W1
      have e : ((x.toNat : Nat) : Int) = x := by omega
      have bs := str_num (v := x.toNat) (Nat.lt_of_lt_of_le (show x.toNat < 2 ^ 43 by omega) (Nat.pow_le_pow_right (by omega) (by omega)))
      rw [e] at bs
      have len := TL.numL_len (n := x.toNat) (k := 13) (by omega) (by omega)
      exact ⟨p2, _, W2, by omega, fig2 r1 h0 h1 r2 bs⟩
noncomputable def t1 : Sf := (sSet 1 (eR (eOp2 dAdd (eFz (eFnC F__law_pick [true, false] (aCons (eVar 0) (aCons (eFz (eLst (aCons (eC (.str "")) (aCons (eC (.str "")) (aCons (eC (.str "-")) aNil))))) aNil)))) (eFz (eFnC F__law_figures [true] (aCons (eVar 0) aNil))))))
noncomputable def t2 : Sf := (sIf (tOf (eOp2 dGt (eFz (eFnC F__law_draw [true, false] (aCons (eVar 0) (aCons (eC (.int 3)) aNil)))) (eC (.int 0)))) (sSet 1 (eR (eOp2 dAdd (eOp2 dAdd (eVar 1) (eFz (eFnC F__law_pick [true, false] (aCons (eVar 0) (aCons (eFz (eLst (aCons (eC (.str "/")) (aCons (eC (.str "/")) (aCons (eC (.str ".")) aNil))))) aNil))))) (eFz (eFnC F__law_figures [true] (aCons (eVar 0) aNil)))))) sNil)
noncomputable def t3 : Sf := (sSeq (sPar 2 3 (eFnC F__law_draw [true, false] (aCons (eVar 0) (aCons (eC (.int 6)) aNil))) (eFnC F__law_draw [true, false] (aCons (eVar 0) (aCons (eOp2 dAdd (eCall bLen (aCons (eVar 1) aNil)) (eC (.int 1))) aNil)))) (sSeq (sIf (tOf (eOp2 dEq (eVar 2) (eC (.int 0)))) (sRet (eR (eOp2 dAdd (eOp2 dAdd (eFz (eCut (eVar 1) oNone (oSome (eVar 3)))) (eFz (eFnC F__law_pick [true, false] (aCons (eVar 0) (aCons (eFz (eLst (aCons (eC (.str "")) (aCons (eC (.str " ")) (aCons (eC (.str "-")) (aCons (eC (.str "/")) (aCons (eC (.str ".")) (aCons (eC (.str "+")) (aCons (eC (.str "x")) (aCons (eC (.str "0")) (aCons (eC (.str "\n")) (aCons (eC (.str "_")) aNil)))))))))))) aNil))))) (eFz (eCut (eVar 1) (oSome (eVar 3)) oNone))))) sNil) (sSeq (sIf (tOf (eOp2 dEq (eVar 2) (eC (.int 1)))) (sRet (eR (eOp2 dAdd (eFz (eCut (eVar 1) oNone (oSome (eVar 3)))) (eFz (eCut (eVar 1) (oSome (eOp2 dAdd (eVar 3) (eC (.int 1)))) oNone))))) sNil) (sRet (eIfR (tOf (eOp2 dEq (eVar 2) (eC (.int 2)))) (eCut (eVar 1) oNone (oSome (eVar 3))) (eR (eVar 1)))))))
theorem m_dt_eq : m__law_drawn_text = sSeq t1 (sSeq t2 t3) := rfl
end K11
set_option Elab.async false
set_option linter.all false
set_option maxRecDepth 100000
set_option maxHeartbeats 4000000
namespace K11
open PySem L2 DL NumText
@[simp] theorem l_sp1 : (Str.ofString " ") = sOf [32] := rfl
@[simp] theorem l_pl : (Str.ofString "+") = sOf [43] := rfl
@[simp] theorem l_x : (Str.ofString "x") = sOf [120] := rfl
@[simp] theorem l_nl : (Str.ofString "\n") = sOf [10] := rfl
@[simp] theorem l_us : (Str.ofString "_") = sOf [95] := rfl
def frD (p : List D) (f : List Nat) : Fr := [.io (.ls p), .sh (.str (sOf f)), .un, .un]
section
variable {p p1 p2 p3 p4 p5 : List D} {g w at_ n : Int} {a b c f f1 f2 f3 o s ab : List Nat}
theorem t1_go (r1 : F__law_pick [.io (.ls p), .sh (.list [.str (sOf []), .str (sOf []), .str (sOf [45])])] = .ok (.sh (.str (sOf a))) [.io (.ls p1), .sh (.list [.str (sOf []), .str (sOf []), .str (sOf [45])])]) (r2 : F__law_figures [.io (.ls p1)] = .ok (.sh (.str (sOf b))) [.io (.ls p2)]) (ad : dAdd (.str (sOf a)) (.str (sOf b)) = some (.str (sOf f))) (h1 : p1.all flatD = true) (h2 : p2.all flatD = true) :
    t1 [.io (.ls p), .un, .un, .un] = .ok .nx (frD p2 f) := by
  simp [t1, frD, r1, r2, ad, h1, h2, z_callR]
theorem t2_no (r1 : F__law_draw [.io (.ls p), .sh (.int 3)] = .ok (.sh (.int g)) [.io (.ls p1), .sh (.int 3)]) (hg : ¬ 0 < g) (h1 : p1.all flatD = true) : t2 (frD p f) = .ok .nx (frD p1 f) := by
  simp [t2, frD, r1, hg, h1, z_callR]
theorem t2_go (r1 : F__law_draw [.io (.ls p), .sh (.int 3)] = .ok (.sh (.int g)) [.io (.ls p1), .sh (.int 3)]) (hg : 0 < g) (h1 : p1.all flatD = true) (h2 : p2.all flatD = true) (h3 : p3.all flatD = true)
    (r2 : F__law_pick [.io (.ls p1), .sh (.list [.str (sOf [47]), .str (sOf [47]), .str (sOf [46])])] = .ok (.sh (.str (sOf s))) [.io (.ls p2), .sh (.list [.str (sOf [47]), .str (sOf [47]), .str (sOf [46])])]) (r3 : F__law_figures [.io (.ls p2)] = .ok (.sh (.str (sOf b))) [.io (.ls p3)])
    (d1 : dAdd (.str (sOf f)) (.str (sOf s)) = some (.str (sOf ab))) (d2 : dAdd (.str (sOf ab)) (.str (sOf b)) = some (.str (sOf f1))) : t2 (frD p f) = .ok .nx (frD p3 f1) := by
  simp [t2, frD, r1, hg, h1, r2, h2, r3, h3, d1, d2, z_callR]
theorem t3_gen (r1 : F__law_draw [.io (.ls p), .sh (.int 6)] = .ok (.sh (.int w)) [.io (.ls p1), .sh (.int 6)]) (l1 : bLen [.str (sOf f)] = some (.int n)) (r2 : F__law_draw [.io (.ls p1), .sh (.int (n + 1))] = .ok (.sh (.int at_)) [.io (.ls p2), .sh (.int (n + 1))]) (h1 : p1.all flatD = true) (h2 : p2.all flatD = true)
    (c1 : dCut (.str (sOf f)) none (some at_) = some (.str (sOf f1))) (c2 : dCut (.str (sOf f)) (some at_) none = some (.str (sOf f2))) (c3 : dCut (.str (sOf f)) (some (at_ + 1)) none = some (.str (sOf f3)))
    (alt : (w = 0 ∧ p3.all flatD = true ∧ F__law_pick [.io (.ls p2), .sh (.list [.str (sOf []), .str (sOf [32]), .str (sOf [45]), .str (sOf [47]), .str (sOf [46]), .str (sOf [43]), .str (sOf [120]), .str (sOf [48]), .str (sOf [10]), .str (sOf [95])])] = .ok (.sh (.str (sOf s))) [.io (.ls p3), .sh (.list [.str (sOf []), .str (sOf [32]), .str (sOf [45]), .str (sOf [47]), .str (sOf [46]), .str (sOf [43]), .str (sOf [120]), .str (sOf [48]), .str (sOf [10]), .str (sOf [95])])] ∧
        dAdd (.str (sOf f1)) (.str (sOf s)) = some (.str (sOf ab)) ∧ dAdd (.str (sOf ab)) (.str (sOf f2)) = some (.str (sOf o))) ∨ (w = 1 ∧ p3 = p2 ∧ dAdd (.str (sOf f1)) (.str (sOf f3)) = some (.str (sOf o))) ∨ (w = 2 ∧ p3 = p2 ∧ o = f1) ∨ (w ≠ 0 ∧ w ≠ 1 ∧ w ≠ 2 ∧ p3 = p2 ∧ o = f)) :
    ∃ e', t3 (frD p f) = .ok (.rt (.sh (.str (sOf o)))) (.io (.ls p3) :: e') := by
  rcases alt with ⟨rfl, h3, r3, d1, d2⟩ | ⟨rfl, rfl, d1⟩ | ⟨rfl, rfl, rfl⟩ | ⟨w0, w1, w2, rfl, rfl⟩
  · simp [t3, frD, r1, l1, r2, h1, h2, h3, c1, c2, r3, d1, d2, eCut, oSome, oNone, useC, z_callR]
  · simp [t3, frD, r1, l1, r2, h1, h2, c1, c3, d1, eCut, oSome, oNone, useC, z_callR]
  · simp [t3, frD, r1, l1, r2, h1, h2, c1, eCut, oSome, oNone, useC, z_callR]
  · simp [t3, frD, r1, l1, r2, h1, h2, w0, w1, w2, eCut, oSome, oNone, useC, z_callR]
end
theorem dt_join {p p1 p2 p3 : List D} {f f1 o : List Nat} {e' : Fr} (e1 : t1 [.io (.ls p), .un, .un, .un] = .ok .nx (frD p1 f)) (e2 : t2 (frD p1 f) = .ok .nx (frD p2 f1)) (e3 : t3 (frD p2 f1) = .ok (.rt (.sh (.str (sOf o)))) (.io (.ls p3) :: e')) :
    F__law_drawn_text [.io (.ls p)] = .ok (.sh (.str (sOf o))) [.io (.ls p3)] := by
  simp [F__law_drawn_text, m_dt_eq, e1, e2, e3]
theorem ev_drawn_text {p : List D} (P : Pot p) : ∃ p' l, Pot p' ∧ l.length ≤ 900 ∧ F__law_drawn_text [.io (.ls p)] = .ok (.sh (.str (sOf l))) [.io (.ls p')] := by
  obtain ⟨p1, i, d, W1, hi, r1⟩ := ev_pick P (xs := [.str (sOf []), .str (sOf []), .str (sOf [45])]) (by simp) (by simp) (fun d hd => by simp only [List.mem_cons, List.not_mem_nil, or_false] at hd; rcases hd with rfl | rfl | rfl <;> rfl)
  obtain ⟨a, rfl, ha⟩ : ∃ l, d = .str (sOf l) ∧ l.length ≤ 1 := by
    match i, hi with
    | 0, hi => cases hi; exact ⟨_, rfl, by simp⟩
    | 1, hi => cases hi; exact ⟨_, rfl, by simp⟩
    | 2, hi => cases hi; exact ⟨_, rfl, by simp⟩
    | i + 3, hi => cases hi
  obtain ⟨p2, b, W2, hb, r2⟩ := ev_figures W1
  have e1 := t1_go r1 r2 (z_addS (by omega)) (pot_flat W1) (pot_flat W2)
  have hab : (a ++ b).length ≤ 42 := by rw [List.length_append]; omega
  generalize a ++ b = f at e1 hab
  obtain ⟨p4, f1, W4, hf1, e2⟩ : ∃ p4 f1, Pot p4 ∧ f1.length ≤ 84 ∧ t2 (frD p2 f) = .ok .nx (frD p4 f1) := by
    obtain ⟨p3, g, W3, g0, g1, r3⟩ := ev_draw W2 (r := 3) (by decide) (by decide)
    by_cases hg : 0 < g
    · obtain ⟨p4, j, d, W4, hj, r4⟩ := ev_pick W3 (xs := [.str (sOf [47]), .str (sOf [47]), .str (sOf [46])]) (by simp) (by simp) (fun d hd => by simp only [List.mem_cons, List.not_mem_nil, or_false] at hd; rcases hd with rfl | rfl | rfl <;> rfl)
      obtain ⟨s, rfl, hs⟩ : ∃ l, d = .str (sOf l) ∧ l.length ≤ 1 := by
        match j, hj with
        | 0, hj => cases hj; exact ⟨_, rfl, by simp⟩
        | 1, hj => cases hj; exact ⟨_, rfl, by simp⟩
        | 2, hj => cases hj; exact ⟨_, rfl, by simp⟩
        | j + 3, hj => cases hj
      obtain ⟨p5, c, W5, hc, r5⟩ := ev_figures W4
      refine ⟨p5, _, W5, ?_, t2_go r3 hg (pot_flat W3) (pot_flat W4) (pot_flat W5) r4 r5 (z_addS (by omega)) (z_addS (by rw [List.length_append]; omega))⟩
      rw [List.length_append, List.length_append]
      omega
    · exact ⟨p3, f, W3, by omega, t2_no r3 hg (pot_flat W3)⟩
  obtain ⟨p5, w, W5, w0, w1, r5⟩ := ev_draw W4 (r := 6) (by decide) (by decide)
  have l1 := z_lenS (l := f1) (by omega)
  obtain ⟨p6, at_, W6, a0, a1, r6⟩ := ev_draw W5 (r := (f1.length : Int) + 1) (by omega) (by omega)
  obtain ⟨m, rfl⟩ : ∃ m : Nat, at_ = (m : Int) := ⟨at_.toNat, by omega⟩
  have c1 : dCut (.str (sOf f1)) none (some (m : Int)) = some (.str (sOf (f1.take m))) := by rw [z_cutS (by omega), cut_to]
  have c2 : dCut (.str (sOf f1)) (some (m : Int)) none = some (.str (sOf (f1.drop m))) := by rw [z_cutS (by omega), cut_from]
  have c3 : dCut (.str (sOf f1)) (some ((m : Int) + 1)) none = some (.str (sOf (f1.drop (m + 1)))) := by
    rw [show (m : Int) + 1 = ((m + 1 : Nat) : Int) by omega, z_cutS (by omega), cut_from]
  have q1 : (f1.take m).length ≤ 84 := by rw [List.length_take]; omega
  have q2 : (f1.drop m).length ≤ 84 := by rw [List.length_drop]; omega
  have q3 : (f1.drop (m + 1)).length ≤ 84 := by rw [List.length_drop]; omega
  by_cases h0 : w = 0
  · obtain ⟨p7, j, d, W7, hj, r7⟩ := ev_pick W6 (xs := [.str (sOf []), .str (sOf [32]), .str (sOf [45]), .str (sOf [47]), .str (sOf [46]), .str (sOf [43]), .str (sOf [120]), .str (sOf [48]), .str (sOf [10]), .str (sOf [95])]) (by simp) (by simp) (fun d hd => by simp only [List.mem_cons, List.not_mem_nil, or_false] at hd; rcases hd with rfl | rfl | rfl | rfl | rfl | rfl | rfl | rfl | rfl | rfl <;> rfl)
    obtain ⟨s, rfl, hs⟩ : ∃ l, d = .str (sOf l) ∧ l.length ≤ 1 := by
      match j, hj with
      | 0, hj => cases hj; exact ⟨_, rfl, by simp⟩
      | 1, hj => cases hj; exact ⟨_, rfl, by simp⟩
      | 2, hj => cases hj; exact ⟨_, rfl, by simp⟩
      | 3, hj => cases hj; exact ⟨_, rfl, by simp⟩
      | 4, hj => cases hj; exact ⟨_, rfl, by simp⟩
      | 5, hj => cases hj; exact ⟨_, rfl, by simp⟩
      | 6, hj => cases hj; exact ⟨_, rfl, by simp⟩
      | 7, hj => cases hj; exact ⟨_, rfl, by simp⟩
      | 8, hj => cases hj; exact ⟨_, rfl, by simp⟩
      | 9, hj => cases hj; exact ⟨_, rfl, by simp⟩
      | j + 10, hj => cases hj
    obtain ⟨e', e3⟩ := t3_gen r5 l1 r6 (pot_flat W5) (pot_flat W6) c1 c2 c3 (.inl ⟨h0, pot_flat W7, r7, z_addS (by omega), z_addS (by rw [List.length_append]; omega)⟩)
    exact ⟨p7, _, W7, by rw [List.length_append, List.length_append]; omega, dt_join e1 e2 e3⟩
  · by_cases h1 : w = 1
    · obtain ⟨e', e3⟩ := t3_gen (s := []) (ab := []) r5 l1 r6 (pot_flat W5) (pot_flat W6) c1 c2 c3 (.inr (.inl ⟨h1, rfl, z_addS (by omega)⟩))
      exact ⟨p6, _, W6, by rw [List.length_append]; omega, dt_join e1 e2 e3⟩
    · by_cases h2 : w = 2
      · obtain ⟨e', e3⟩ := t3_gen (s := []) (ab := []) r5 l1 r6 (pot_flat W5) (pot_flat W6) c1 c2 c3 (.inr (.inr (.inl ⟨h2, rfl, rfl⟩)))
        exact ⟨p6, _, W6, by omega, dt_join e1 e2 e3⟩
      · obtain ⟨e', e3⟩ := t3_gen (s := []) (ab := []) r5 l1 r6 (pot_flat W5) (pot_flat W6) c1 c2 c3 (.inr (.inr (.inr ⟨h0, h1, h2, rfl, rfl⟩)))
        exact ⟨p6, _, W6, by omega, dt_join e1 e2 e3⟩
end K11
set_option Elab.async false
set_option linter.all false
set_option maxRecDepth 100000
set_option maxHeartbeats 4000000
namespace K11
open PySem L2 DL NumText
theorem run_digits (u : Bool) : ∀ (ds rest : List Nat) (j : Nat) (z : Bool), AllDigits ds → j + ds.length ≤ 39 → (rest = [] ∨ ∃ c r, rest = c :: r ∧ isD c = false) → run u (ds ++ rest) j z = j + ds.length
  | [], rest, j, z, _, _, hr => by
    rcases hr with rfl | ⟨c, r, rfl, hc⟩
    · rfl
    · show run u (c :: r) j z = j + 0
      unfold run
      rw [hc]
      rfl
  | c :: ds, rest, j, z, h, hl, hr => by
    rw [List.length_cons] at hl
    have hc : isD c = true := decide_eq_true h.head
    have ih := run_digits u ds rest (j + 1) (z && decide (c = 48)) h.tail (by omega) hr
    rw [List.cons_append]
    unfold run
    rw [hc, decide_eq_true (show j < 40 by omega), decide_eq_false (show ¬ j = 39 by omega)]
    simp only [Bool.and_self, Bool.false_and, Bool.and_false, if_true, if_neg Bool.false_ne_true]
    rw [ih, List.length_cons]
    omega
/-- a whole number's text -/
def numZ (n : Int) : List Nat := (if n < 0 then [45] else []) ++ TL.numL n.natAbs
theorem str_int {n : Int} (h : n.natAbs < 2 ^ 1900) : bStr [.int n] = some (.str (sOf (numZ n))) := by
  show (if n.natAbs.log2 < 1920 then some (PyData.str (Str.ofString (toString n))) else none) = _
  rw [if_pos (small_log h)]
  congr 2
  rw [sOf_of (Str.ofString _)]
  congr 1
  unfold numZ
  by_cases hn : n < 0
  · rw [if_pos hn, PyProof.Rows.toString_neg hn]
    have e : (0 : Int) - n = ((n.natAbs : Nat) : Int) := by omega
    rw [e]
    have t := TL.tl_num n.natAbs
    have s : (Str.ofString ("-" ++ toString ((n.natAbs : Nat) : Int))).cps.toList = 45 :: (Str.ofString (toString ((n.natAbs : Nat) : Int))).cps.toList := by
      rw [Str.ofString_eq_toList, Str.ofString_eq_toList, String.toList_append, List.map_append]
      rfl
    rw [s]
    exact congrArg (45 :: ·) t
  · rw [if_neg hn]
    have e : n = ((n.natAbs : Nat) : Int) := by omega
    have t := TL.tl_num n.natAbs
    rw [← e] at t
    exact t
/-- a ratio's text -/
def tx (q : Rat) : List Nat := numZ q.num ++ (if q.den = 1 then [] else 47 :: TL.numL q.den)
theorem nl_len {n : Nat} (h : n < 2 ^ 44) : (TL.numL n).length ≤ 14 := TL.numL_len (by omega) (by omega)
theorem ev_want_ratio (q : Rat) : F_want_ratio [.sh (rD q)] = .ok (.sh (rD q)) [.sh (rD q)] := by
  simp [F_want_ratio, m_want_ratio, ev_is_ratio, z_callR]
theorem text_gen {a b : Int} {s1 s2 s3 o : List Nat} (w : F_want_ratio [.sh (.tuple [.int a, .int b])] = .ok (.sh (.tuple [.int a, .int b])) [.sh (.tuple [.int a, .int b])]) (b1 : bStr [.int a] = some (.str (sOf s1)))
    (alt : (dEq (.int b) (.int 1) = some (.bool true) ∧ o = s1) ∨ (dEq (.int b) (.int 1) = some (.bool false) ∧ bStr [.int b] = some (.str (sOf s2)) ∧ dAdd (.str (sOf s1)) (.str (sOf [47])) = some (.str (sOf s3)) ∧ dAdd (.str (sOf s3)) (.str (sOf s2)) = some (.str (sOf o)))) :
    F_ratio_text [.sh (.tuple [.int a, .int b])] = .ok (.sh (.str (sOf o))) [.sh (.tuple [.int a, .int b])] ∧ F__law_text [.sh (.tuple [.int a, .int b])] = .ok (.sh (.str (sOf o))) [.sh (.tuple [.int a, .int b])] := by
  rcases alt with ⟨e, rfl⟩ | ⟨e, b2, d1, d2⟩
  · constructor <;> simp [-z_dEq, F_ratio_text, m_ratio_text, F__law_text, m__law_text, w, e, b1, z_callR]
  · constructor <;> simp [-z_dEq, F_ratio_text, m_ratio_text, F__law_text, m__law_text, w, e, b1, b2, d1, d2, z_callR]
theorem ev_texts {q : Rat} (hn : q.num.natAbs < 2 ^ 44) (hd : q.den < 2 ^ 44) : F_ratio_text [.sh (rD q)] = .ok (.sh (.str (sOf (tx q)))) [.sh (rD q)] ∧ F__law_text [.sh (rD q)] = .ok (.sh (.str (sOf (tx q)))) [.sh (rD q)] := by
  have b1 := str_int (n := q.num) (Nat.lt_of_lt_of_le hn (Nat.pow_le_pow_right (by omega) (by omega)))
  have b2 := str_num (v := q.den) (Nat.lt_of_lt_of_le hd (Nat.pow_le_pow_right (by omega) (by omega)))
  have n1 := nl_len hn
  have n2 := nl_len hd
  have nz : (numZ q.num).length ≤ 15 := by
    unfold numZ
    rw [List.length_append]
    split <;> simp <;> omega
  refine text_gen (s2 := TL.numL q.den) (s3 := numZ q.num ++ [47]) (ev_want_ratio q) b1 ?_
  unfold tx
  by_cases h : q.den = 1
  · rw [if_pos h, List.append_nil]
    refine .inl ⟨?_, rfl⟩
    rw [z_dEq, decide_eq_true (by omega)]
  · rw [if_neg h]
    have e : numZ q.num ++ 47 :: TL.numL q.den = numZ q.num ++ [47] ++ TL.numL q.den := by simp
    rw [e]
    refine .inr ⟨?_, b2, z_addS (by simp; omega), z_addS (by rw [List.length_append]; simp; omega)⟩
    rw [z_dEq, decide_eq_false (by omega)]
/-- a ratio's text is read back -/
theorem parse_tx {q : Rat} (hn : q.num.natAbs < 2 ^ 44) (hd : q.den < 2 ^ 44) : F_parse_ratio [.sh (.str (sOf (tx q)))] = .ok (.sh (rD q)) [.sh (.str (sOf (tx q)))] := by
  have n1 := nl_len hn
  have n2 := nl_len hd
  have a1 := TL.numL_digits q.num.natAbs
  have a2 := TL.numL_digits q.den
  have v1 := TL.numL_val q.num.natAbs
  have v2 := TL.numL_val q.den
  have e1 := TL.numL_ne q.num.natAbs
  have e2 := TL.numL_ne q.den
  obtain ⟨p, hp1, hp⟩ : ∃ p, p ≤ 1 ∧ ((q.num < 0 ∧ p = 1) ∨ (¬ q.num < 0 ∧ p = 0)) := by
    by_cases h : q.num < 0
    · exact ⟨1, by omega, .inl ⟨h, rfl⟩⟩
    · exact ⟨0, by omega, .inr ⟨h, rfl⟩⟩
  obtain ⟨rest, hrest⟩ : ∃ rest, rest = if q.den = 1 then [] else 47 :: TL.numL q.den := ⟨_, rfl⟩
  have htx : tx q = (if q.num < 0 then [45] else []) ++ (TL.numL q.num.natAbs ++ rest) := by
    unfold tx numZ
    rw [hrest, List.append_assoc]
  have hdrop : (tx q).drop p = TL.numL q.num.natAbs ++ rest := by
    rw [htx]
    rcases hp with ⟨h, rfl⟩ | ⟨h, rfl⟩
    · rw [if_pos h]
      rfl
    · rw [if_neg h]
      rfl
  have hrest2 : rest = [] ∨ ∃ c r, rest = c :: r ∧ isD c = false := by
    rw [hrest]
    split
    · exact .inl rfl
    · exact .inr ⟨47, _, rfl, rfl⟩
  have hlen : (tx q).length = p + (TL.numL q.num.natAbs).length + rest.length := by
    rw [htx, List.length_append, List.length_append]
    rcases hp with ⟨h, rfl⟩ | ⟨h, rfl⟩
    · rw [if_pos h]
      simp
      omega
    · rw [if_neg h]
      simp
  have hrl : rest.length ≤ 15 := by
    rw [hrest]
    split
    · simp
    · rw [List.length_cons]
      omega
  have r1 := run_digits false (TL.numL q.num.natAbs) rest 0 true a1 (by omega) hrest2
  rw [← hdrop, Nat.zero_add] at r1
  have d1 := ev_digits_end (l := tx q) (p := p) (u := false) (by omega)
  rw [r1] at d1
  have take1 : ((tx q).take 1 = [45] ∧ (p : Int) = 1) ∨ ((tx q).take 1 ≠ [45] ∧ (p : Int) = 0) := by
    rw [htx]
    rcases hp with ⟨h, rfl⟩ | ⟨h, rfl⟩
    · rw [if_pos h]
      exact .inl ⟨rfl, rfl⟩
    · rw [if_neg h]
      refine .inr ⟨?_, rfl⟩
      cases hz : TL.numL q.num.natAbs with
      | nil => exact absurd hz e1
      | cons c r =>
        rw [hz] at a1
        have := a1.head
        simp
        omega
  have hf : ((tx q).take 1 = [45] ∧ (p : Int) = 1 ∧ q.num = 0 - ((q.num.natAbs : Nat) : Int)) ∨ ((tx q).take 1 ≠ [45] ∧ (p : Int) = 0 ∧ q.num = ((q.num.natAbs : Nat) : Int)) := by
    rcases take1 with ⟨t, z⟩ | ⟨t, z⟩
    · exact .inl ⟨t, z, by omega⟩
    · exact .inr ⟨t, z, by omega⟩
  have k0 : (TL.numL q.num.natAbs).length ≠ 0 := fun z => e1 (List.length_eq_zero_iff.mp z)
  have l1 := z_lenS (l := tx q) (by omega)
  have c1 : dCut (.str (sOf (tx q))) none (some 1) = some (.str (sOf ((tx q).take 1))) := by
    rw [z_cutS (by omega), show ((1 : Int)) = ((1 : Nat) : Int) from rfl, cut_to]
  have cm : ∀ m n : Nat, dCut (.str (sOf (tx q))) (some (m : Int)) (some (n : Int)) = some (.str (sOf (((tx q).drop m).take (n - m)))) := fun m n => by rw [z_cutS (by omega), cut_mid]
  have c2 := cm p (p + (TL.numL q.num.natAbs).length)
  rw [Nat.add_sub_cancel_left, hdrop, List.take_left] at c2
  have i1 := z_intS a1 e1 (by omega)
  rw [v1] at i1
  have ke1 : ((p + (TL.numL q.num.natAbs).length : Nat) : Int) + 1 = ((p + (TL.numL q.num.natAbs).length + 1 : Nat) : Int) := by omega
  have c3 := cm (p + (TL.numL q.num.natAbs).length) (p + (TL.numL q.num.natAbs).length + 1)
  have hdrop2 : (tx q).drop (p + (TL.numL q.num.natAbs).length) = rest := by
    rw [← List.drop_drop, hdrop, List.drop_left]
  rw [hdrop2, Nat.add_sub_cancel_left, ← ke1] at c3
  have he : ¬ ((p + (TL.numL q.num.natAbs).length : Nat) : Int) = (p : Int) := by omega
  have is := is_gen (rest.take 1)
  have qq : Rat.divInt q.num q.den = q := Rat.num_divInt_den q
  by_cases h1 : q.den = 1
  · rw [if_pos h1] at hrest
    subst hrest
    have mr := ev_made (a := q.num) (b := 1) (n := 1) (by decide) (by decide) (by decide)
    rw [h1] at qq
    have qq' : Rat.divInt q.num 1 = q := qq
    rw [qq'] at mr
    exact parse_G hf c1 d1 he c2 i1 c3 is l1 (by rw [hlen]; simp) mr
  · rw [if_neg h1] at hrest
    have hd3 : (tx q).drop (p + (TL.numL q.num.natAbs).length + 1) = TL.numL q.den := by
      rw [← List.drop_drop, hdrop2, hrest]
      rfl
    have t1 : rest.take 1 = [47] := by rw [hrest]; rfl
    rw [t1] at c3 is
    have r2 := run_digits true (TL.numL q.den) [] 0 true a2 (by omega) (.inl rfl)
    rw [List.append_nil, ← hd3, Nat.zero_add, hd3] at r2
    have d2 := ev_digits_end (l := tx q) (p := p + (TL.numL q.num.natAbs).length + 1) (u := true) (by omega)
    rw [hd3, r2, ← ke1] at d2
    have c4 := cm (p + (TL.numL q.num.natAbs).length + 1) (p + (TL.numL q.num.natAbs).length + 1 + (TL.numL q.den).length)
    rw [hd3, Nat.add_sub_cancel_left, List.take_of_length_le (Nat.le_refl _), ← ke1] at c4
    have no := ev_nought (l := TL.numL q.den) (by omega)
    have nz : ((TL.numL q.den).all fun c => decide (c = 48)) = false := by
      rw [Bool.eq_false_iff]
      intro z
      have := (val_zero _ a2).mpr z
      rw [v2] at this
      exact q.den_nz this
    rw [nz] at no
    have i2 := z_intS a2 e2 (by omega)
    rw [v2] at i2
    have mr := ev_made (a := q.num) (b := (q.den : Int)) (n := 44) (den_ne q) (by rw [Int.natAbs_natCast]; exact hd) (by omega)
    rw [qq] at mr
    refine parse_S hf c1 d1 he c2 i1 c3 is d2 c4 no l1 e2 ?_ i2 mr
    rw [hlen, hrest, List.length_cons]
    omega
end K11
set_option Elab.async false
set_option linter.all false
set_option maxRecDepth 100000
set_option maxHeartbeats 4000000
namespace K11
open PySem L2 DL NumText
def mWI (B : Int) : Sf := (sIf (tOrF (tNotF (tTr (eFz (eFnC F_is_integer [false] (aCons (eVar 0) aNil))))) (tOf (eOp2 dGe (eCall bAbs (aCons (eVar 0) aNil)) (eC (.int B))))) (sRaise1 "InvalidInteger" "value" (eVar 0)) sNil)
theorem m_wi_eq : F_want_integer = runF 1 1 (mWI 10000000000000000000000000000000000000000) := rfl
theorem wi_gen {B a : Int} (h : ¬ B ≤ (if a < 0 then -a else a)) : runF 1 1 (mWI B) [.sh (.int a)] = .ok (.sh .none) [.sh (.int a)] := by
  simp [mWI, ev_is_integer, h, z_callR]
theorem ev_want_integer {a : Int} (h : a.natAbs < 2 ^ 44) : F_want_integer [.sh (.int a)] = .ok (.sh .none) [.sh (.int a)] := by
  rw [m_wi_eq]
  exact wi_gen (by split <;> omega)
theorem ev_ratio {a b : Int} (ha : a.natAbs < 2 ^ 44) (hb : b.natAbs < 2 ^ 44) (b0 : b ≠ 0) : F_ratio [.sh (.int a), .sh (.int b)] = .ok (.sh (rD (Rat.divInt a b))) [.sh (.int a), .sh (.int b)] := by
  have w1 := ev_want_integer ha
  have w2 := ev_want_integer hb
  have m := ev_made (a := a) b0 hb (by omega)
  simp [F_ratio, m_ratio, w1, w2, b0, m, z_callR]
theorem eq_rD (q : Rat) : dNe (rD q) (rD q) = some (.bool false) := by
  have e : PyData.eqv (rD q) (rD q) = true := by
    simp [rD, PyData.eqv, PyData.eqvAll]
  unfold dNe
  rw [if_neg (show ¬ bothStr (rD q) (rD q) = true from Bool.false_ne_true), if_pos ⟨rfl, rfl⟩, e]
  rfl
theorem repr_q {q : Rat} {n : Nat} (h : Sz n q) (hn : n ≤ 1900) : reprOk (rD q) = true ∧ reprOk (.tuple [rD q, .none]) = true := by
  have h1 := small_log (abs_up h.num hn)
  have h2 := small_log (a := (q.den : Int)) (by simpa using abs_up h.den hn)
  constructor
  · have h7 : wD (rD q) ≤ sizeLine := by
      simp only [rD, wD, wAll]
      decide
    have h8 : PyData.depth (rD q) ≤ 30 := by
      simp only [rD, PyData.depth, PyData.depthAll]
      decide
    simp only [reprOk, h7, h8]
    simp only [rD, PyData.showable, PyData.showableAll, PyData.hasDict, PyData.hasDictAll, h1, h2]
    decide
  · have h7 : wD (.tuple [rD q, .none]) ≤ sizeLine := by
      simp only [rD, wD, wAll]
      decide
    have h8 : PyData.depth (.tuple [rD q, .none]) ≤ 30 := by
      simp only [rD, PyData.depth, PyData.depthAll]
      decide
    simp only [reprOk, h7, h8]
    simp only [rD, PyData.showable, PyData.showableAll, PyData.hasDict, PyData.hasDictAll, h1, h2]
    decide
theorem repr_b {p : Nat} (h : p ≤ 1000) : reprOk (badR p) = true := by
  have h1 : ((p : Int)).natAbs.log2 < 1920 := small_log (by
    rw [Int.natAbs_natCast]
    exact Nat.lt_of_lt_of_le (show p < 2 ^ 10 by omega) (Nat.pow_le_pow_right (by omega) (by omega)))
  unfold badR
  have h7 : wD (.tuple [.none, .int (p : Int)]) ≤ sizeLine := by
    simp only [wD, wAll]
    decide
  have h8 : PyData.depth (.tuple [.none, .int (p : Int)]) ≤ 30 := by
    simp only [PyData.depth, PyData.depthAll]
    decide
  simp only [reprOk, h7, h8]
  simp only [PyData.showable, PyData.showableAll, PyData.hasDict, PyData.hasDictAll, h1]
  decide
theorem heard_bad {t : Str} {p : Int} (e1 : F_parse_ratio [.sh (.str t)] = .ex (bad p) [.sh (.str t)]) : F__law_heard [.sh (.str t)] = .ok (.sh (.tuple [.none, .int p])) [.sh (.str t)] := by
  have m1 : mt_BadText "BadText" = some true := by decide
  have m2 : mi_WebError "BadText" = some true := by decide
  simp [F__law_heard, m__law_heard, e1, m1, m2, List.lookup, z_callR]
theorem heard_e : F__law_heard [.sh (.str (sOf []))] = .ok (.sh (.tuple [.none, .int 0])) [.sh (.str (sOf []))] := by
  have d1 := ev_digits_end (l := []) (p := 0) (u := false) (by decide)
  exact heard_bad (parse_A (h1 := []) (.inr ⟨by simp, rfl⟩) (z_cutS (by simp) _ _) d1)
theorem heard_m : F__law_heard [.sh (.str (sOf [45]))] = .ok (.sh (.tuple [.none, .int 1])) [.sh (.str (sOf [45]))] := by
  have d1 := ev_digits_end (l := [45]) (p := 1) (u := false) (by decide)
  exact heard_bad (parse_A (h1 := [45]) (.inl ⟨rfl, rfl⟩) (z_cutS (by simp) _ _) d1)
theorem eq_t (p : Int) : dEq (.tuple [.none, .int p]) (.tuple [.none, .int p]) = some (.bool true) := by
  have e : PyData.eqv (.tuple [.none, .int p]) (.tuple [.none, .int p]) = true := by
    simp [PyData.eqv, PyData.eqvAll]
  unfold dEq
  rw [if_neg (show ¬ bothStr (.tuple [.none, .int p]) (.tuple [.none, .int p]) = true from Bool.false_ne_true), if_pos ⟨rfl, rfl⟩, e]
noncomputable def bA : Sf := (sSeq (sPar 2 3 (eFnC F__law_number [true] (aCons (eVar 0) aNil)) (eFnC F__law_number [true] (aCons (eVar 0) aNil))) (sSeq (sSet 3 (eR (eIf (tOf (eOp2 dNe (eVar 3) (eC (.int 0)))) (eVar 3) (eOp1 dNeg (eC (.int 7)))))) (sSeq (sSet 4 (eFnC F_ratio [false, false] (aCons (eVar 2) (aCons (eVar 3) aNil)))) (sSeq (sIf (tOrF (tOf (eOp2 dNe (eCall bRepr (aCons (eVar 4) aNil)) (eCall bRepr (aCons (eFz (eFnC F__law_ratio [false, false] (aCons (eVar 2) (aCons (eVar 3) aNil)))) aNil)))) (tOf (eOp2 dNe (eFz (eFnK F_ratio [false, false] [1, 0] [] 0 2 aNil (aCons (eVar 3) (aCons (eVar 2) aNil)))) (eVar 4)))) (sRet (eR (eC (.bool false)))) sNil) (sIf (tOrF (tOf (eOp2 dNe (eFz (eFnC F_ratio_text [false] (aCons (eVar 4) aNil))) (eFz (eFnC F__law_text [false] (aCons (eVar 4) aNil))))) (tOf (eOp2 dNe (eFz (eFnC F_parse_ratio [false] (aCons (eFz (eFnK F_ratio_text [false] [0] [] 0 1 aNil (aCons (eVar 4) aNil))) aNil))) (eVar 4)))) (sRet (eR (eC (.bool false)))) sNil)))))
noncomputable def bB : Sf := (sSeq (sSet 5 (eFnC F__law_drawn_text [true] (aCons (eVar 0) aNil))) (sIf (tOf (eOp2 dNe (eCall bRepr (aCons (eFz (eFnC F__law_heard [false] (aCons (eVar 5) aNil))) aNil)) (eCall bRepr (aCons (eFz (eFnC F__law_read [false] (aCons (eVar 5) aNil))) aNil)))) (sRet (eR (eC (.bool false)))) sNil))
noncomputable def bF : Sf := (sRet (eR (eAnd (eOp2 dEq (eFz (eFnC F__law_heard [false] (aCons (eC (.str "")) aNil))) (eTup (aCons (eC .none) (aCons (eC (.int 0)) aNil)))) (eOp2 dEq (eFz (eFnC F__law_heard [false] (aCons (eC (.str "-")) aNil))) (eTup (aCons (eC .none) (aCons (eC (.int 1)) aNil)))))))
theorem m_right_eq : m__law_right = (sSeq (sFor (iRng1F (aCons (eC (.int 4)) aNil)) (gSet 1) bA) (sSeq (sFor (iRng1F (aCons (eC (.int 12)) aNil)) (gSet 1) bB) bF)) := rfl
theorem bA_go {p p1 p2 : List D} {n u u' : Int} {q : Rat} {t : List Nat} {i : D} {s2 s3 s4 : Sl} (hs : (s2 = .un ∧ s3 = .un ∧ s4 = .un) ∨ ∃ d2 d3 d4, s2 = .sh d2 ∧ s3 = .sh d3 ∧ s4 = .sh d4) (f1 : p1.all flatD = true) (f2 : p2.all flatD = true) (r1 : F__law_number [.io (.ls p)] = .ok (.sh (.int n)) [.io (.ls p1)]) (r2 : F__law_number [.io (.ls p1)] = .ok (.sh (.int u)) [.io (.ls p2)])
    (hu : (u = 0 ∧ u' = -7) ∨ (u ≠ 0 ∧ u' = u)) (e1 : F_ratio [.sh (.int n), .sh (.int u')] = .ok (.sh (rD q)) [.sh (.int n), .sh (.int u')]) (e2 : F__law_ratio [.sh (.int n), .sh (.int u')] = .ok (.sh (rD q)) [.sh (.int n), .sh (.int u')])
    (ro : reprOk (rD q) = true) (e3 : F_ratio_text [.sh (rD q)] = .ok (.sh (.str (sOf t))) [.sh (rD q)]) (e4 : F__law_text [.sh (rD q)] = .ok (.sh (.str (sOf t))) [.sh (rD q)]) (e5 : F_parse_ratio [.sh (.str (sOf t))] = .ok (.sh (rD q)) [.sh (.str (sOf t))]) :
    bA [.io (.ls p), .sh i, s2, s3, s4, .un] = .ok .nx [.io (.ls p2), .sh i, .sh (.int n), .sh (.int u'), .sh (rD q), .un] := by
  have r0 := z_bRepr _ ro
  have en := eq_rD q
  rcases hu with ⟨rfl, rfl⟩ | ⟨h0, rfl⟩
  · rcases hs with ⟨rfl, rfl, rfl⟩ | ⟨d2, d3, d4, rfl, rfl, rfl⟩ <;> simp [bA, f1, f2, r1, r2, e1, e2, r0, en, e3, e4, e5, z_callR]
  · rcases hs with ⟨rfl, rfl, rfl⟩ | ⟨d2, d3, d4, rfl, rfl, rfl⟩ <;> simp [bA, f1, f2, r1, r2, h0, e1, e2, r0, en, e3, e4, e5, z_callR]
end K11
set_option Elab.async false
set_option linter.all false
set_option maxRecDepth 100000
set_option maxHeartbeats 4000000
namespace K11
open PySem L2 DL NumText
theorem bB_go {p p1 : List D} {t : List Nat} {i o : D} {s2 s3 s4 s5 : Sl} (h5 : us s5) (f1 : p1.all flatD = true) (r1 : F__law_drawn_text [.io (.ls p)] = .ok (.sh (.str (sOf t))) [.io (.ls p1)]) (e1 : F__law_heard [.sh (.str (sOf t))] = .ok (.sh o) [.sh (.str (sOf t))]) (e2 : F__law_read [.sh (.str (sOf t))] = .ok (.sh o) [.sh (.str (sOf t))])
    (ro : reprOk o = true) (fo : flatD o = false) :
    bB [.io (.ls p), .sh i, s2, s3, s4, s5] = .ok .nx [.io (.ls p1), .sh i, s2, s3, s4, .sh (.str (sOf t))] := by
  have r0 := z_bRepr _ ro
  rcases h5 with rfl | ⟨d5, rfl⟩ <;> simp [bB, f1, r1, e1, e2, r0, fo, z_callR]
theorem gset1 {s0 s1 s2 s3 s4 s5 : Sl} (d : D) (h : us s1) : gSet 1 d [s0, s1, s2, s3, s4, s5] = .ok () [s0, .sh d, s2, s3, s4, s5] := by
  rcases h with rfl | ⟨_, rfl⟩ <;> rfl
theorem loopA : ∀ (ds : List D) {p : List D} {s1 s2 s3 s4 : Sl}, Pot p → us s1 → ((s2 = .un ∧ s3 = .un ∧ s4 = .un) ∨ ∃ d2 d3 d4, s2 = .sh d2 ∧ s3 = .sh d3 ∧ s4 = .sh d4) →
    ∃ p' x1 x2 x3 x4, Pot p' ∧ us x1 ∧ forL (gSet 1) bA ds [.io (.ls p), s1, s2, s3, s4, .un] = .ok .nx [.io (.ls p'), x1, x2, x3, x4, .un]
  | [], p, s1, s2, s3, s4, P, h1, hs => ⟨p, s1, s2, s3, s4, P, h1, rfl⟩
  | d :: ds, p, s1, s2, s3, s4, P, h1, hs => by
    obtain ⟨p1, n, W1, hn, r1⟩ := ev_number P
    obtain ⟨p2, u, W2, hu, r2⟩ := ev_number W1
    obtain ⟨u', hu', b, b0⟩ : ∃ u' : Int, ((u = 0 ∧ u' = -7) ∨ (u ≠ 0 ∧ u' = u)) ∧ u'.natAbs < 2 ^ 43 ∧ u' ≠ 0 := by
      by_cases h : u = 0
      · exact ⟨-7, .inl ⟨h, rfl⟩, by decide, by decide⟩
      · exact ⟨u, .inr ⟨h, rfl⟩, hu, h⟩
    have e1 := ev_ratio (a := n) (b := u') (by omega) (by omega) b0
    have e2 := ev_lratio' (a := n) (n := 43) b0 hn b (by omega)
    have sz := sz_divInt (a := n) b0 hn b
    have tt := ev_texts (q := Rat.divInt n u') (by have := sz.num; omega) (by have := sz.den; omega)
    have pt := parse_tx (q := Rat.divInt n u') (by have := sz.num; omega) (by have := sz.den; omega)
    have go := bA_go (i := d) hs (pot_flat W1) (pot_flat W2) r1 r2 hu' e1 e2 (repr_q sz (by omega)).1 tt.1 tt.2 pt
    obtain ⟨p', x1, x2, x3, x4, P', hx, hl⟩ := loopA ds W2 (us_sh d) (.inr ⟨_, _, _, rfl, rfl, rfl⟩)
    refine ⟨p', x1, x2, x3, x4, P', hx, ?_⟩
    rw [z_forL2, gset1 _ h1]
    simp only
    rw [go]
    exact hl
theorem loopB {s2 s3 s4 : Sl} : ∀ (ds : List D) {p : List D} {s1 s5 : Sl}, Pot p → us s1 → us s5 →
    ∃ p' x1 x5, Pot p' ∧ us x1 ∧ us x5 ∧ forL (gSet 1) bB ds [.io (.ls p), s1, s2, s3, s4, s5] = .ok .nx [.io (.ls p'), x1, s2, s3, s4, x5]
  | [], p, s1, s5, P, h1, h5 => ⟨p, s1, s5, P, h1, h5, rfl⟩
  | d :: ds, p, s1, s5, P, h1, h5 => by
    obtain ⟨p1, t, W1, ht, r1⟩ := ev_drawn_text P
    have go : bB [.io (.ls p), .sh d, s2, s3, s4, s5] = .ok .nx [.io (.ls p1), .sh d, s2, s3, s4, .sh (.str (sOf t))] := by
      rcases ev_heard ht with ⟨x, hx, e1, e2⟩ | ⟨q, hq, e1, e2⟩
      · exact bB_go h5 (pot_flat W1) r1 e1 e2 (repr_b hx) rfl
      · exact bB_go h5 (pot_flat W1) r1 e1 e2 (repr_q hq (by omega)).2 rfl
    obtain ⟨p', x1, x5, P', hx1, hx5, hl⟩ := loopB ds W1 (us_sh d) (us_sh (.str (sOf t)))
    refine ⟨p', x1, x5, P', hx1, hx5, ?_⟩
    rw [z_forL2, gset1 _ h1]
    simp only
    rw [go]
    exact hl
theorem bF_go {s0 s1 s2 s3 s4 s5 : Sl} : bF [s0, s1, s2, s3, s4, s5] = .ok (.rt (.sh (.bool true))) [s0, s1, s2, s3, s4, s5] := by
  have e0 := eq_t 0
  have e1 := eq_t 1
  have h0 := heard_e
  have h1 := heard_m
  simp [bF, h0, h1, e0, e1, z_callR]
theorem small62_4 : small62 4 = true := by decide
theorem small62_12 : small62 12 = true := by decide
theorem ev_right {p : List D} (P : Pot p) : ∃ p', Pot p' ∧ F__law_right [.io (.ls p)] = .ok (.sh (.bool true)) [.io (.ls p')] := by
  obtain ⟨p1, x1, x2, x3, x4, W1, hx1, l1⟩ := loopA ((List.range 4).map fun (i : Nat) => .int (i : Int)) P (.inl rfl) (.inl ⟨rfl, rfl, rfl⟩)
  obtain ⟨p2, y1, y5, W2, hy1, hy5, l2⟩ := loopB (s2 := x2) (s3 := x3) (s4 := x4) ((List.range 12).map fun (i : Nat) => .int (i : Int)) W1 hx1 (.inl rfl)
  refine ⟨p2, W2, ?_⟩
  have f := bF_go (s0 := .io (.ls p2)) (s1 := y1) (s2 := x2) (s3 := x3) (s4 := x4) (s5 := y5)
  simp [F__law_right, m_right_eq, small62_4, small62_12, l1, l2, f]
theorem say_all : ∀ ns : List Int, ns.length ≤ 63 → (∀ z ∈ ns, Builtin.Int.intBits z ≤ 1048576) → ∃ os, F_law [.sh (scr ns)] = .ok (.sh (.bool true)) os := by
  intro ns _ _
  obtain ⟨p, P, e⟩ := ev_pot ns
  obtain ⟨p', P', e2⟩ := ev_right P
  refine ⟨[.sh (scr ns)], ?_⟩
  simp [F_law, m_law, e, e2, z_callR]
end K11
set_option Elab.async false
set_option linter.all false
set_option maxRecDepth 100000
set_option maxHeartbeats 0
/-! printed by gen.py: the head by facts, the law down to its frame function -/
namespace K11
open PySem PySem.Spec PyProof.Rows L2 DL
def dd__law_pot : He.DefD := ⟨("_law_pot", none), "_law_pot", "_law_pot", defArgs s__law_pot, defBody s__law_pot, defScope s__law_pot, [], []⟩
def dd_made_ratio : He.DefD := ⟨("made_ratio", none), "made_ratio", "made_ratio", defArgs s_made_ratio, defBody s_made_ratio, defScope s_made_ratio, [], []⟩
def dd_is_integer : He.DefD := ⟨("is_integer", none), "is_integer", "is_integer", defArgs s_is_integer, defBody s_is_integer, defScope s_is_integer, [], []⟩
def dd_want_integer : He.DefD := ⟨("want_integer", none), "want_integer", "want_integer", defArgs s_want_integer, defBody s_want_integer, defScope s_want_integer, [], []⟩
def dd_ratio : He.DefD := ⟨("ratio", none), "ratio", "ratio", defArgs s_ratio, defBody s_ratio, defScope s_ratio, [], []⟩
def dd_is_ratio : He.DefD := ⟨("is_ratio", none), "is_ratio", "is_ratio", defArgs s_is_ratio, defBody s_is_ratio, defScope s_is_ratio, [], []⟩
def dd_want_ratio : He.DefD := ⟨("want_ratio", none), "want_ratio", "want_ratio", defArgs s_want_ratio, defBody s_want_ratio, defScope s_want_ratio, [], []⟩
def dd_ratio_text : He.DefD := ⟨("ratio_text", none), "ratio_text", "ratio_text", defArgs s_ratio_text, defBody s_ratio_text, defScope s_ratio_text, [], []⟩
def dd_whole_power : He.DefD := ⟨("whole_power", none), "whole_power", "whole_power", defArgs s_whole_power, defBody s_whole_power, defScope s_whole_power, [], []⟩
def dd_is_nought : He.DefD := ⟨("is_nought", none), "is_nought", "is_nought", defArgs s_is_nought, defBody s_is_nought, defScope s_is_nought, [], []⟩
def dd_digits_end : He.DefD := ⟨("digits_end", none), "digits_end", "digits_end", defArgs s_digits_end, defBody s_digits_end, defScope s_digits_end, [], []⟩
def dd_parse_ratio : He.DefD := ⟨("parse_ratio", none), "parse_ratio", "parse_ratio", defArgs s_parse_ratio, defBody s_parse_ratio, defScope s_parse_ratio, [], []⟩
def dd__law_gcd : He.DefD := ⟨("_law_gcd", none), "_law_gcd", "_law_gcd", defArgs s__law_gcd, defBody s__law_gcd, defScope s__law_gcd, [], []⟩
def dd__law_ratio : He.DefD := ⟨("_law_ratio", none), "_law_ratio", "_law_ratio", defArgs s__law_ratio, defBody s__law_ratio, defScope s__law_ratio, [], []⟩
def dd__law_draw : He.DefD := ⟨("_law_draw", none), "_law_draw", "_law_draw", defArgs s__law_draw, defBody s__law_draw, defScope s__law_draw, [], []⟩
def dd__law_pick : He.DefD := ⟨("_law_pick", none), "_law_pick", "_law_pick", defArgs s__law_pick, defBody s__law_pick, defScope s__law_pick, [], []⟩
def dd__law_one : He.DefD := ⟨("_law_one", none), "_law_one", "_law_one", defArgs s__law_one, defBody s__law_one, defScope s__law_one, [], []⟩
def dd__law_size : He.DefD := ⟨("_law_size", none), "_law_size", "_law_size", defArgs s__law_size, defBody s__law_size, defScope s__law_size, [], []⟩
def dd__law_number : He.DefD := ⟨("_law_number", none), "_law_number", "_law_number", defArgs s__law_number, defBody s__law_number, defScope s__law_number, [], []⟩
def dd__law_text : He.DefD := ⟨("_law_text", none), "_law_text", "_law_text", defArgs s__law_text, defBody s__law_text, defScope s__law_text, [], []⟩
def dd__law_read : He.DefD := ⟨("_law_read", none), "_law_read", "_law_read", defArgs s__law_read, defBody s__law_read, defScope s__law_read, [], []⟩
def dd__law_figures : He.DefD := ⟨("_law_figures", none), "_law_figures", "_law_figures", defArgs s__law_figures, defBody s__law_figures, defScope s__law_figures, [], []⟩
def dd__law_drawn_text : He.DefD := ⟨("_law_drawn_text", none), "_law_drawn_text", "_law_drawn_text", defArgs s__law_drawn_text, defBody s__law_drawn_text, defScope s__law_drawn_text, [], []⟩
def dd__law_heard : He.DefD := ⟨("_law_heard", none), "_law_heard", "_law_heard", defArgs s__law_heard, defBody s__law_heard, defScope s__law_heard, [], []⟩
def dd__law_right : He.DefD := ⟨("_law_right", none), "_law_right", "_law_right", defArgs s__law_right, defBody s__law_right, defScope s__law_right, [], []⟩
def dd_law : He.DefD := ⟨("law", none), "law", "law", defArgs s_law, defBody s_law, defScope s_law, [], []⟩
def ddi_InvalidInteger : He.DefD := ⟨("InvalidInteger", some "__init__"), "__init__", "WebError.__init__", defArgs si_WebError, defBody si_WebError, defScope si_WebError, [.non], []⟩
def ddi_InvalidRatio : He.DefD := ⟨("InvalidRatio", some "__init__"), "__init__", "WebError.__init__", defArgs si_WebError, defBody si_WebError, defScope si_WebError, [.non], []⟩
def ddi_BadText : He.DefD := ⟨("BadText", some "__init__"), "__init__", "BadText.__init__", defArgs si_BadText, defBody si_BadText, defScope si_BadText, [], []⟩
def ddi_InvalidText : He.DefD := ⟨("InvalidText", some "__init__"), "__init__", "WebError.__init__", defArgs si_WebError, defBody si_WebError, defScope si_WebError, [.non], []⟩
def fn : List He.DefD := [dd__law_pot, dd_made_ratio, dd_is_integer, dd_want_integer, dd_ratio, dd_is_ratio, dd_want_ratio, dd_ratio_text, dd_whole_power, dd_is_nought, dd_digits_end, dd_parse_ratio, dd__law_gcd, dd__law_ratio, dd__law_draw, dd__law_pick, dd__law_one, dd__law_size, dd__law_number, dd__law_text, dd__law_read, dd__law_figures, dd__law_drawn_text, dd__law_heard, dd__law_right, dd_law, ddi_InvalidInteger, ddi_InvalidRatio, ddi_BadText, ddi_InvalidText]
def fa : List He.Fa := [.glo "_law_pot", .glo "made_ratio", .glo "is_integer", .glo "want_integer", .glo "ratio", .glo "is_ratio", .glo "want_ratio", .glo "ratio_text", .glo "whole_power", .glo "is_nought", .glo "digits_end", .glo "parse_ratio", .glo "_law_gcd", .glo "_law_ratio", .glo "_law_draw", .glo "_law_pick", .glo "_law_one", .glo "_law_size", .glo "_law_number", .glo "_law_text", .glo "_law_read", .glo "_law_figures", .glo "_law_drawn_text", .glo "_law_heard", .glo "_law_right", .glo "law", .free "max", .free "int", .free "len", .free "abs", .free "isinstance", .free "bool", .int "BEYOND" (10000000000000000000000000000000000000000), .glo "InvalidInteger", .glo "NoQuotient", .free "tuple", .glo "InvalidRatio", .free "str", .free "range", .free "all", .int "MOST_DIGITS" (40), .str "DIGITS" "0123456789", .glo "BadText", .glo "InvalidText", .free "divmod", .glo "WebError", .free "repr", .exm "InvalidInteger" "BadText" false, .exm "NoQuotient" "BadText" false, .exm "InvalidRatio" "BadText" false, .exm "BadText" "BadText" true, .exm "InvalidText" "BadText" false]
def ex (K : PySem.W.Frag) : Bool := (He.eqO (PySem.W.nsIn K mainGlobals "gcd") (some (some (.builtin "math.gcd"))) && (oexAll K (He.ga K "InvalidInteger") (He.ma K (He.ga K "InvalidInteger") "__init__") "value" && ((PySem.W.excIn K (He.ga K "NoQuotient") [.type "RuntimeError", .type "Exception", .type "BaseException", .type "object"] "RuntimeError.__new__" && (PySem.W.keepIn K (.ref (He.ga K "NoQuotient")) && (decide (PySem.W.subIn K (.ref (He.ga K "NoQuotient")) (.type "BaseException") = some true) && decide (PySem.W.typeIn K (.ref (He.ga K "NoQuotient")) = some (.type "type"))))) && (oexAll K (He.ga K "InvalidRatio") (He.ma K (He.ga K "InvalidRatio") "__init__") "value" && (oexAll K (He.ga K "BadText") (He.ma K (He.ga K "BadText") "__init__") "position" && (oexAll K (He.ga K "InvalidText") (He.ma K (He.ga K "InvalidText") "__init__") "value" && ((excCB K (He.ga K "InvalidInteger") && decide (PySem.W.kitOne K (.ref (He.ga K "InvalidInteger")) (.ref (He.ga K "WebError")) = some true)) && ((excCB K (He.ga K "NoQuotient") && decide (PySem.W.kitOne K (.ref (He.ga K "NoQuotient")) (.ref (He.ga K "WebError")) = some false)) && ((excCB K (He.ga K "InvalidRatio") && decide (PySem.W.kitOne K (.ref (He.ga K "InvalidRatio")) (.ref (He.ga K "WebError")) = some true)) && ((excCB K (He.ga K "BadText") && decide (PySem.W.kitOne K (.ref (He.ga K "BadText")) (.ref (He.ga K "WebError")) = some true)) && ((excCB K (He.ga K "InvalidText") && decide (PySem.W.kitOne K (.ref (He.ga K "InvalidText")) (.ref (He.ga K "WebError")) = some true)) && (heldB K (He.ga K "BadText") "position" && true))))))))))))
theorem keeps {P : Program} {w : World} {K : PySem.W.Frag} {h : Heap} {mg : Str → Option Value} {f : Addr} (X : K.In h) (G : h.Ns mainGlobals mg) (hfa : mg ("law" : Str) = some (.ref f)) (cc : He.SaysD fa fn K ∧ ex K = true) :
    ∃ fd : FuncData, (∀ (s : Shared) (v : Value), BindsTo s fd ⟨[v], []⟩ [("_law_script", v)]) ∧ ∀ base : Heap, K.In base → base.Ns mainGlobals mg → FnG P w K mg base 7 f fd ["_law_script"] (spF K mg 1 F_law) := by
  have cd : He.SaysD fa fn K := cc.1
  have cx : ex K = true := cc.2
  unfold ex at cx
  obtain ⟨cx0, cx⟩ := He.ba cx
  obtain ⟨cx1, cx⟩ := He.ba cx
  obtain ⟨cx2, cx⟩ := He.ba cx
  obtain ⟨cx3, cx⟩ := He.ba cx
  obtain ⟨cx4, cx⟩ := He.ba cx
  obtain ⟨cx5, cx⟩ := He.ba cx
  obtain ⟨cx6, cx⟩ := He.ba cx
  obtain ⟨cx7, cx⟩ := He.ba cx
  obtain ⟨cx8, cx⟩ := He.ba cx
  obtain ⟨cx9, cx⟩ := He.ba cx
  obtain ⟨cx10, cx⟩ := He.ba cx
  obtain ⟨cx11, cx⟩ := He.ba cx
  obtain ⟨fd__law_pot, D__law_pot⟩ := cd.def_ 0 (d := dd__law_pot) rfl
  have g__law_pot := He.glo_ok X G (cd.fact 0 (f := .glo "_law_pot") rfl)
  obtain ⟨fd_made_ratio, D_made_ratio⟩ := cd.def_ 1 (d := dd_made_ratio) rfl
  have g_made_ratio := He.glo_ok X G (cd.fact 1 (f := .glo "made_ratio") rfl)
  obtain ⟨fd_is_integer, D_is_integer⟩ := cd.def_ 2 (d := dd_is_integer) rfl
  have g_is_integer := He.glo_ok X G (cd.fact 2 (f := .glo "is_integer") rfl)
  obtain ⟨fd_want_integer, D_want_integer⟩ := cd.def_ 3 (d := dd_want_integer) rfl
  have g_want_integer := He.glo_ok X G (cd.fact 3 (f := .glo "want_integer") rfl)
  obtain ⟨fd_ratio, D_ratio⟩ := cd.def_ 4 (d := dd_ratio) rfl
  have g_ratio := He.glo_ok X G (cd.fact 4 (f := .glo "ratio") rfl)
  obtain ⟨fd_is_ratio, D_is_ratio⟩ := cd.def_ 5 (d := dd_is_ratio) rfl
  have g_is_ratio := He.glo_ok X G (cd.fact 5 (f := .glo "is_ratio") rfl)
  obtain ⟨fd_want_ratio, D_want_ratio⟩ := cd.def_ 6 (d := dd_want_ratio) rfl
  have g_want_ratio := He.glo_ok X G (cd.fact 6 (f := .glo "want_ratio") rfl)
  obtain ⟨fd_ratio_text, D_ratio_text⟩ := cd.def_ 7 (d := dd_ratio_text) rfl
  have g_ratio_text := He.glo_ok X G (cd.fact 7 (f := .glo "ratio_text") rfl)
  obtain ⟨fd_whole_power, D_whole_power⟩ := cd.def_ 8 (d := dd_whole_power) rfl
  have g_whole_power := He.glo_ok X G (cd.fact 8 (f := .glo "whole_power") rfl)
  obtain ⟨fd_is_nought, D_is_nought⟩ := cd.def_ 9 (d := dd_is_nought) rfl
  have g_is_nought := He.glo_ok X G (cd.fact 9 (f := .glo "is_nought") rfl)
  obtain ⟨fd_digits_end, D_digits_end⟩ := cd.def_ 10 (d := dd_digits_end) rfl
  have g_digits_end := He.glo_ok X G (cd.fact 10 (f := .glo "digits_end") rfl)
  obtain ⟨fd_parse_ratio, D_parse_ratio⟩ := cd.def_ 11 (d := dd_parse_ratio) rfl
  have g_parse_ratio := He.glo_ok X G (cd.fact 11 (f := .glo "parse_ratio") rfl)
  obtain ⟨fd__law_gcd, D__law_gcd⟩ := cd.def_ 12 (d := dd__law_gcd) rfl
  have g__law_gcd := He.glo_ok X G (cd.fact 12 (f := .glo "_law_gcd") rfl)
  obtain ⟨fd__law_ratio, D__law_ratio⟩ := cd.def_ 13 (d := dd__law_ratio) rfl
  have g__law_ratio := He.glo_ok X G (cd.fact 13 (f := .glo "_law_ratio") rfl)
  obtain ⟨fd__law_draw, D__law_draw⟩ := cd.def_ 14 (d := dd__law_draw) rfl
  have g__law_draw := He.glo_ok X G (cd.fact 14 (f := .glo "_law_draw") rfl)
  obtain ⟨fd__law_pick, D__law_pick⟩ := cd.def_ 15 (d := dd__law_pick) rfl
  have g__law_pick := He.glo_ok X G (cd.fact 15 (f := .glo "_law_pick") rfl)
  obtain ⟨fd__law_one, D__law_one⟩ := cd.def_ 16 (d := dd__law_one) rfl
  have g__law_one := He.glo_ok X G (cd.fact 16 (f := .glo "_law_one") rfl)
  obtain ⟨fd__law_size, D__law_size⟩ := cd.def_ 17 (d := dd__law_size) rfl
  have g__law_size := He.glo_ok X G (cd.fact 17 (f := .glo "_law_size") rfl)
  obtain ⟨fd__law_number, D__law_number⟩ := cd.def_ 18 (d := dd__law_number) rfl
  have g__law_number := He.glo_ok X G (cd.fact 18 (f := .glo "_law_number") rfl)
  obtain ⟨fd__law_text, D__law_text⟩ := cd.def_ 19 (d := dd__law_text) rfl
  have g__law_text := He.glo_ok X G (cd.fact 19 (f := .glo "_law_text") rfl)
  obtain ⟨fd__law_read, D__law_read⟩ := cd.def_ 20 (d := dd__law_read) rfl
  have g__law_read := He.glo_ok X G (cd.fact 20 (f := .glo "_law_read") rfl)
  obtain ⟨fd__law_figures, D__law_figures⟩ := cd.def_ 21 (d := dd__law_figures) rfl
  have g__law_figures := He.glo_ok X G (cd.fact 21 (f := .glo "_law_figures") rfl)
  obtain ⟨fd__law_drawn_text, D__law_drawn_text⟩ := cd.def_ 22 (d := dd__law_drawn_text) rfl
  have g__law_drawn_text := He.glo_ok X G (cd.fact 22 (f := .glo "_law_drawn_text") rfl)
  obtain ⟨fd__law_heard, D__law_heard⟩ := cd.def_ 23 (d := dd__law_heard) rfl
  have g__law_heard := He.glo_ok X G (cd.fact 23 (f := .glo "_law_heard") rfl)
  obtain ⟨fd__law_right, D__law_right⟩ := cd.def_ 24 (d := dd__law_right) rfl
  have g__law_right := He.glo_ok X G (cd.fact 24 (f := .glo "_law_right") rfl)
  obtain ⟨fd_law, D_law⟩ := cd.def_ 25 (d := dd_law) rfl
  have h_max := He.free_ok X G (cd.fact 26 (f := .free "max") rfl)
  have h_int := He.free_ok X G (cd.fact 27 (f := .free "int") rfl)
  have h_len := He.free_ok X G (cd.fact 28 (f := .free "len") rfl)
  have h_abs := He.free_ok X G (cd.fact 29 (f := .free "abs") rfl)
  have h_gcd := PySem.W.mg_of X G (He.eqO_ok cx0)
  have h_isinstance := He.free_ok X G (cd.fact 30 (f := .free "isinstance") rfl)
  have h_bool := He.free_ok X G (cd.fact 31 (f := .free "bool") rfl)
  obtain ⟨t_BEYOND, z_BEYOND⟩ := He.int_ok X G (cd.fact 32 (f := .int "BEYOND" (10000000000000000000000000000000000000000)) rfl)
  have v_BEYOND := And.intro (And.intro z_BEYOND (show RelV (.int (10000000000000000000000000000000000000000)) (.int (10000000000000000000000000000000000000000) t_BEYOND) from ⟨_, rfl⟩)) (fun G : Hp => (Dp.int (K := K) (H := G) (10000000000000000000000000000000000000000)))
  have g_InvalidInteger := He.glo_ok X G (cd.fact 33 (f := .glo "InvalidInteger") rfl)
  have g_NoQuotient := He.glo_ok X G (cd.fact 34 (f := .glo "NoQuotient") rfl)
  have e_NoQuotient : _ ∧ _ ∧ _ ∧ _ := ⟨(He.ba cx2).1, (He.ba (He.ba cx2).2).1, of_decide_eq_true (He.ba (He.ba (He.ba cx2).2).2).1, of_decide_eq_true (He.ba (He.ba (He.ba cx2).2).2).2⟩
  have h_tuple := He.free_ok X G (cd.fact 35 (f := .free "tuple") rfl)
  have g_InvalidRatio := He.glo_ok X G (cd.fact 36 (f := .glo "InvalidRatio") rfl)
  have h_str := He.free_ok X G (cd.fact 37 (f := .free "str") rfl)
  have h_range := He.free_ok X G (cd.fact 38 (f := .free "range") rfl)
  have h_all := He.free_ok X G (cd.fact 39 (f := .free "all") rfl)
  obtain ⟨t_MOST_DIGITS, z_MOST_DIGITS⟩ := He.int_ok X G (cd.fact 40 (f := .int "MOST_DIGITS" (40)) rfl)
  have v_MOST_DIGITS := And.intro (And.intro z_MOST_DIGITS (show RelV (.int (40)) (.int (40) t_MOST_DIGITS) from ⟨_, rfl⟩)) (fun G : Hp => (Dp.int (K := K) (H := G) (40)))
  obtain ⟨t_DIGITS, z_DIGITS⟩ := He.str_ok X G (cd.fact 41 (f := .str "DIGITS" "0123456789") rfl)
  have v_DIGITS := And.intro (And.intro z_DIGITS (show RelV (.str "0123456789") (.str "0123456789" t_DIGITS) from ⟨_, rfl⟩)) (fun G : Hp => (Dp.str (K := K) (H := G) "0123456789"))
  have g_BadText := He.glo_ok X G (cd.fact 42 (f := .glo "BadText") rfl)
  have g_InvalidText := He.glo_ok X G (cd.fact 43 (f := .glo "InvalidText") rfl)
  have h_divmod := He.free_ok X G (cd.fact 44 (f := .free "divmod") rfl)
  have x_BadText : ∀ y b d, mt_BadText y = some b → mg y = some d → PySem.W.exmOne K d (.ref (He.ga K "BadText")) = some b := by
    intro y b d h1 h2
    unfold mt_BadText at h1
    split at h1
    · rename_i q
      rw [q, He.glo_ok X G (cd.fact 43 (f := .glo "InvalidText") rfl)] at h2
      cases h2
      rw [← Option.some.inj h1]
      exact He.exm_ok (cd.fact 51 (f := .exm "InvalidText" "BadText" false) rfl)
    split at h1
    · rename_i q
      rw [q, He.glo_ok X G (cd.fact 42 (f := .glo "BadText") rfl)] at h2
      cases h2
      rw [← Option.some.inj h1]
      exact He.exm_ok (cd.fact 50 (f := .exm "BadText" "BadText" true) rfl)
    split at h1
    · rename_i q
      rw [q, He.glo_ok X G (cd.fact 36 (f := .glo "InvalidRatio") rfl)] at h2
      cases h2
      rw [← Option.some.inj h1]
      exact He.exm_ok (cd.fact 49 (f := .exm "InvalidRatio" "BadText" false) rfl)
    split at h1
    · rename_i q
      rw [q, He.glo_ok X G (cd.fact 34 (f := .glo "NoQuotient") rfl)] at h2
      cases h2
      rw [← Option.some.inj h1]
      exact He.exm_ok (cd.fact 48 (f := .exm "NoQuotient" "BadText" false) rfl)
    split at h1
    · rename_i q
      rw [q, He.glo_ok X G (cd.fact 33 (f := .glo "InvalidInteger") rfl)] at h2
      cases h2
      rw [← Option.some.inj h1]
      exact He.exm_ok (cd.fact 47 (f := .exm "InvalidInteger" "BadText" false) rfl)
    cases h1
  have g_WebError := He.glo_ok X G (cd.fact 45 (f := .glo "WebError") rfl)
  have xi_WebError : ∀ y c b, mi_WebError y = some b → mg y = some c → ∃ C, c = .ref C ∧ ExcC K C ∧ PySem.W.kitOne K (.ref C) (.ref (He.ga K "WebError")) = some b := by
    intro y d b h1 h2
    unfold mi_WebError at h1
    split at h1
    · rename_i q
      rw [q, He.glo_ok X G (cd.fact 43 (f := .glo "InvalidText") rfl)] at h2
      cases h2
      cases h1
      exact ⟨_, rfl, excC_ok (He.ba cx10).1, of_decide_eq_true (He.ba cx10).2⟩
    split at h1
    · rename_i q
      rw [q, He.glo_ok X G (cd.fact 42 (f := .glo "BadText") rfl)] at h2
      cases h2
      cases h1
      exact ⟨_, rfl, excC_ok (He.ba cx9).1, of_decide_eq_true (He.ba cx9).2⟩
    split at h1
    · rename_i q
      rw [q, He.glo_ok X G (cd.fact 36 (f := .glo "InvalidRatio") rfl)] at h2
      cases h2
      cases h1
      exact ⟨_, rfl, excC_ok (He.ba cx8).1, of_decide_eq_true (He.ba cx8).2⟩
    split at h1
    · rename_i q
      rw [q, He.glo_ok X G (cd.fact 34 (f := .glo "NoQuotient") rfl)] at h2
      cases h2
      cases h1
      exact ⟨_, rfl, excC_ok (He.ba cx7).1, of_decide_eq_true (He.ba cx7).2⟩
    split at h1
    · rename_i q
      rw [q, He.glo_ok X G (cd.fact 33 (f := .glo "InvalidInteger") rfl)] at h2
      cases h2
      cases h1
      exact ⟨_, rfl, excC_ok (He.ba cx6).1, of_decide_eq_true (He.ba cx6).2⟩
    cases h1
  have xf_BadText_position : ∀ y c, mt_BadText y = some true → mg y = some c → ∃ C, c = .ref C ∧ XfC K C ∧ PySem.W.findIn K (.ref C) "position" = some none := by
    intro y d h1 h2
    unfold mt_BadText at h1
    split at h1
    · rename_i q
      cases h1
    split at h1
    · rename_i q
      rw [q, He.glo_ok X G (cd.fact 42 (f := .glo "BadText") rfl)] at h2
      cases h2
      exact ⟨_, rfl, (held_ok cx11).x, (held_ok cx11).n⟩
    split at h1
    · rename_i q
      cases h1
    split at h1
    · rename_i q
      cases h1
    split at h1
    · rename_i q
      cases h1
    cases h1
  have h_repr := He.free_ok X G (cd.fact 46 (f := .free "repr") rfl)
  have e := hfa.symm.trans (He.glo_ok X G (cd.fact 25 (f := .glo "law") rfl))
  cases e
  have b := FunD.bindsA (ps := ["_law_script"]) D_law fun _ _ _ _ _ _ us hl => match us, hl with | [_], _ => rfl
  refine ⟨fd_law, fun s v => b s [v] rfl, fun base _ _ => ?_⟩
  obtain ⟨fdI_InvalidInteger, DI_InvalidInteger⟩ := cd.def_ 26 (d := ddi_InvalidInteger) rfl
  have o_InvalidInteger : ExR P w K mg base (He.ga K "InvalidInteger") "value" := ⟨He.ma K (He.ga K "InvalidInteger") "__init__", fdI_InvalidInteger, ["self", "value"], oex_ok cx1, init_ok (P := P) (w := w) (mg := mg) (base := base) DI_InvalidInteger sci_WebError rfl, binds_def DI_InvalidInteger 2 rfl rfl fun _ _ _ _ _ _ _ us its h1 h2 => match us, its, h1, h2 with | [_, _], [_], _, _ => ⟨_, rfl, rfl⟩⟩
  obtain ⟨fdI_InvalidRatio, DI_InvalidRatio⟩ := cd.def_ 27 (d := ddi_InvalidRatio) rfl
  have o_InvalidRatio : ExR P w K mg base (He.ga K "InvalidRatio") "value" := ⟨He.ma K (He.ga K "InvalidRatio") "__init__", fdI_InvalidRatio, ["self", "value"], oex_ok cx3, init_ok (P := P) (w := w) (mg := mg) (base := base) DI_InvalidRatio sci_WebError rfl, binds_def DI_InvalidRatio 2 rfl rfl fun _ _ _ _ _ _ _ us its h1 h2 => match us, its, h1, h2 with | [_, _], [_], _, _ => ⟨_, rfl, rfl⟩⟩
  obtain ⟨fdI_BadText, DI_BadText⟩ := cd.def_ 28 (d := ddi_BadText) rfl
  have o_BadText : ExR P w K mg base (He.ga K "BadText") "position" := ⟨He.ma K (He.ga K "BadText") "__init__", fdI_BadText, ["self", "position"], oex_ok cx4, init_ok (P := P) (w := w) (mg := mg) (base := base) DI_BadText sci_BadText rfl, DI_BadText.bindsN fun _ _ _ _ _ _ us hl => match us, hl with | [_, _], _ => rfl⟩
  obtain ⟨fdI_InvalidText, DI_InvalidText⟩ := cd.def_ 29 (d := ddi_InvalidText) rfl
  have o_InvalidText : ExR P w K mg base (He.ga K "InvalidText") "value" := ⟨He.ma K (He.ga K "InvalidText") "__init__", fdI_InvalidText, ["self", "value"], oex_ok cx5, init_ok (P := P) (w := w) (mg := mg) (base := base) DI_InvalidText sci_WebError rfl, binds_def DI_InvalidText 2 rfl rfl fun _ _ _ _ _ _ _ us its h1 h2 => match us, its, h1, h2 with | [_, _], [_], _, _ => ⟨_, rfl, rfl⟩⟩
  have R__law_pot := r__law_pot (P := P) (w := w) (mg := mg) (base := base) D__law_pot h_max h_int h_len h_abs
  have R_made_ratio := r_made_ratio (P := P) (w := w) (mg := mg) (base := base) D_made_ratio h_gcd
  have R_is_integer := r_is_integer (P := P) (w := w) (mg := mg) (base := base) D_is_integer h_isinstance h_bool h_int
  have R_want_integer := r_want_integer (P := P) (w := w) (mg := mg) (base := base) D_want_integer h_abs v_BEYOND D_is_integer g_is_integer R_is_integer o_InvalidInteger g_InvalidInteger
  have R_ratio := r_ratio (P := P) (w := w) (mg := mg) (base := base) D_ratio D_made_ratio g_made_ratio R_made_ratio e_NoQuotient g_NoQuotient D_want_integer g_want_integer R_want_integer
  have R_is_ratio := r_is_ratio (P := P) (w := w) (mg := mg) (base := base) D_is_ratio h_gcd D_is_integer g_is_integer R_is_integer h_len h_isinstance h_tuple
  have R_want_ratio := r_want_ratio (P := P) (w := w) (mg := mg) (base := base) D_want_ratio D_is_ratio g_is_ratio R_is_ratio o_InvalidRatio g_InvalidRatio
  have R_ratio_text := r_ratio_text (P := P) (w := w) (mg := mg) (base := base) D_ratio_text h_str D_want_ratio g_want_ratio R_want_ratio
  have R_whole_power := r_whole_power (P := P) (w := w) (mg := mg) (base := base) D_whole_power h_range
  have R_is_nought := r_is_nought (P := P) (w := w) (mg := mg) (base := base) D_is_nought h_all
  have R_digits_end := r_digits_end (P := P) (w := w) (mg := mg) (base := base) D_digits_end v_MOST_DIGITS v_DIGITS h_len D_is_nought g_is_nought R_is_nought
  have R_parse_ratio := r_parse_ratio (P := P) (w := w) (mg := mg) (base := base) D_parse_ratio D_made_ratio g_made_ratio R_made_ratio h_len o_BadText g_BadText h_int D_whole_power g_whole_power R_whole_power D_is_nought g_is_nought R_is_nought D_digits_end g_digits_end R_digits_end h_isinstance h_str o_InvalidText g_InvalidText
  have R__law_gcd := r__law_gcd (P := P) (w := w) (mg := mg) (base := base) D__law_gcd h_abs
  have R__law_ratio := r__law_ratio (P := P) (w := w) (mg := mg) (base := base) D__law_ratio D__law_gcd g__law_gcd R__law_gcd
  have R__law_draw := r__law_draw (P := P) (w := w) (mg := mg) (base := base) D__law_draw h_int h_divmod
  have R__law_pick := r__law_pick (P := P) (w := w) (mg := mg) (base := base) D__law_pick D__law_draw g__law_draw R__law_draw h_len
  have R__law_one := r__law_one (P := P) (w := w) (mg := mg) (base := base) D__law_one 
  have R__law_size := r__law_size (P := P) (w := w) (mg := mg) (base := base) D__law_size D__law_draw g__law_draw R__law_draw D__law_pick g__law_pick R__law_pick D__law_one g__law_one R__law_one
  have R__law_number := r__law_number (P := P) (w := w) (mg := mg) (base := base) D__law_number D__law_draw g__law_draw R__law_draw D__law_size g__law_size R__law_size
  have R__law_text := r__law_text (P := P) (w := w) (mg := mg) (base := base) D__law_text h_str
  have R__law_read := r__law_read (P := P) (w := w) (mg := mg) (base := base) D__law_read h_len h_int D__law_ratio g__law_ratio R__law_ratio h_str
  have R__law_figures := r__law_figures (P := P) (w := w) (mg := mg) (base := base) D__law_figures D__law_size g__law_size R__law_size h_str D__law_pick g__law_pick R__law_pick D__law_draw g__law_draw R__law_draw
  have R__law_drawn_text := r__law_drawn_text (P := P) (w := w) (mg := mg) (base := base) D__law_drawn_text D__law_pick g__law_pick R__law_pick D__law_draw g__law_draw R__law_draw h_len D__law_figures g__law_figures R__law_figures
  have R__law_heard := r__law_heard (P := P) (w := w) (mg := mg) (base := base) D__law_heard D_parse_ratio g_parse_ratio R_parse_ratio g_BadText x_BadText g_WebError xi_WebError h_isinstance xf_BadText_position
  have R__law_right := r__law_right (P := P) (w := w) (mg := mg) (base := base) D__law_right D__law_heard g__law_heard R__law_heard h_range h_repr D__law_read g__law_read R__law_read D__law_drawn_text g__law_drawn_text R__law_drawn_text D_parse_ratio g_parse_ratio R_parse_ratio D_ratio_text g_ratio_text R_ratio_text D__law_text g__law_text R__law_text D_ratio g_ratio R_ratio D__law_ratio g__law_ratio R__law_ratio D__law_number g__law_number R__law_number
  have R_law := r_law (P := P) (w := w) (mg := mg) (base := base) D_law D__law_right g__law_right R__law_right D__law_pot g__law_pot R__law_pot
  exact R_law
end K11
open PySem PySem.W PySem.Calls PyProof.Rows
theorem PySem.Challenge.cw_websolids_k11_whole_ratios_and_texts_holds : PySem.Challenge.rw_websolids_k11_whole_ratios_and_texts.Holds := by
  w_on; o_law; k_head; (case hw => w_witness2)
  k_fill
  exact DL.walk_k (l := PySem.Challenge.rw_websolids_k11_whole_ratios_and_texts) (n := 63) (k := 7) (x := "_law_script") (fun K => He.SaysD K11.fa K11.fn K ∧ K11.ex K = true) K11.F_law rfl (by decide) (by first | rfl | kernel_rfl) ⟨rfl, by decide, by decide⟩ (fun w h Y => PySem.W.kIn_of Y) (fun w => ⟨by unfold He.SaysD; kernel_rfl, by kernel_rfl⟩)
    (fun w K mg fa h X c G hmg => K11.keeps X G hmg c) K11.say_all
#print axioms PySem.Challenge.cw_websolids_k11_whole_ratios_and_texts_holds
