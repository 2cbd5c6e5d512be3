import PyProof.Rows.All
import Wide.All
import OpenK.AllK
import Wide.FinOn
import HandS.ForMost
import HandS.ForExc
import HandS.WideBits
import HandS.Gcd
import HandS.Zip
import HandS.Style
import HandS.CallSlots
import HandS.IsInst
import HandS.TupAny
import HandS.Flow
import HandS.TupMul
import HandS.Walk
import HandS.Defaults
import HandS.HeadHook4
import HandS.EndBits
import PyProof.ReprRoads
import PyProof.ReprLen
import HandS.TryOnly
import HandS.Deep
import HandS.TryMany
import HandS.Small
import PyProof.ExcBaseAll.RuntimeError
import PyProof.ExcBaseAll.ValueError
import HandS.ExcInit
import HandS.ExcField
import HandS.ExcIs
import KE.KExcIs
import HandS.Text
import PyProof.StrBlock2
import HandS.SortOrd
import HandS.TupLe
import KE.KSortTup
import PyProof.WalkInts
import HandS.Conv
import KE.KDictZip
import HandS.Strs
import HandS.TupSets
import KE.DataMinMax
import HandS.HeadHook2
import PySem.Challenge.RW_websolids_k19_whole_rings_and_chords
set_option Elab.async false
set_option linter.all false
set_option maxRecDepth 100000
set_option maxHeartbeats 4000000
/-! DlA: a layer of own over the hand layer: values as data, frames as lists of slots, and what a state of the machine has to do with them. -/
namespace DL
open PySem L2

abbrev D := PyData

/-- what an owned object holds -/
inductive Ow where
  | ls (ds : List D)
  | ll (dss : List (List D))
  | dc (tk : Bool) (kvs : List (D × D))
def Ow.toD : Ow → D
  | .ls ds => .list ds
  | .ll dss => .list (dss.map .list)
  | .dc false kvs => .dict kvs
  | .dc true kvs => .dict ((.none, .none) :: kvs)

/-- a slot of a frame: nothing known, a value that never changes, an object of the frame's own, an object of the caller's that is written -/
inductive Sl where
  | un
  | sh (d : D)
  | own (o : Ow)
  | io (o : Ow)
  | xn
abbrev Fr := List Sl
def Sl.owned : Sl → Bool
  | .own _ => true
  | .io _ => true
  | _ => false

structure Exn where
  cls : Str
  flds : List (Str × D)

inductive R (α : Type) where
  | ok (a : α) (e : Fr)
  | ex (x : Exn) (e : Fr)
  | no
def R.bind {α β : Type} (r : R α) (f : α → Fr → R β) : R β := match r with
  | .ok a e => f a e
  | .ex x e => .ex x e
  | .no => .no
@[simp] theorem R.bind_ok {α β : Type} (a : α) (e : Fr) (f : α → Fr → R β) : (R.ok a e).bind f = f a e := rfl
@[simp] theorem R.bind_ex {α β : Type} (x : Exn) (e : Fr) (f : α → Fr → R β) : (R.ex x e).bind f = .ex x e := rfl
@[simp] theorem R.bind_no {α β : Type} (f : α → Fr → R β) : (R.no : R α).bind f = .no := rfl
def R.of {α : Type} (o : Option α) (e : Fr) : R α := match o with
  | some a => .ok a e
  | none => .no
@[simp] theorem R.of_some {α : Type} (a : α) (e : Fr) : R.of (some a) e = .ok a e := rfl
@[simp] theorem R.of_none {α : Type} (e : Fr) : R.of (none : Option α) e = .no := rfl

/-! ### data in the heap -/
/-- the object there has no dict of its own -/
def Nd (K : PySem.W.Frag) (H : Hp) (a : Addr) : Prop := (∃ o u, H a = some (.frz o u) ∧ o.dict = none) ∨ ∃ o, K.lookup a = some o ∧ o.dict = none
def kD : Key → D
  | .inl i => .int i
  | .inr s => .str s
mutual
/-- the hash of a tuple of whole numbers and of such tuples -/
def hashD : D → Int
  | .int i => hashInt i
  | .tuple ds => reduceHash (Builtin.Tuple.tupleHashOf (hashL ds))
  | _ => 0
def hashL : List D → List Int
  | [] => []
  | d :: ds => hashD d :: hashL ds
end
/-- a dict whose keys are tuples: for each entry its hash, where its key stands, its value -/
def DxO (a : Addr) (xs : List (Int × Addr × Value)) : HO := .ext fun h => (a == sysModules) = false ∧ ∃ o es ep, h.get? a = some o ∧ o.ExactDict ∧ o.data = .dict es ep ∧ es.toList = xs.map fun x => ⟨x.1, .ref x.2.1, x.2.2⟩
mutual
inductive Dq (K : PySem.W.Frag) (H : Hp) : V → D → Prop
  | non : Dq K H .non .none
  | bl (b : Bool) : Dq K H (.bl b) (.bool b)
  | int (i : Int) : Dq K H (.int i) (.int i)
  | str (x : Str) : Dq K H (.str x) (.str x)
  | lst {a : Addr} {xs : List V} {ds : List D} : SqL K H a xs → DqAll K H xs ds → Dq K H (.ref a) (.list ds)
  | tup {a : Addr} {xs : List V} {ds : List D} : SqT K H a xs → Nd K H a → DqAll K H xs ds → Dq K H (.ref a) (.tuple ds)
  | dk {a : Addr} {kk : List Key} {vs : List V} {kvs : List (D × D)} : Rd H a (.dK (kk.zip vs)) → kk.length = vs.length → kvs.map (·.1) = kk.map kD → DqAll K H vs (kvs.map (·.2)) → Dq K H (.ref a) (.dict kvs)
  | dt {a : Addr} {xs : List (Int × Addr × Value)} {vs : List V} {kvs : List (D × D)} : Rd H a (DxO a xs) → xs.map (·.1) = hashL (kvs.map (·.1)) → (kvs.map (·.1)).Nodup → Vals vs (xs.map (·.2.2)) → DqAll K H (xs.map fun x => V.ref x.2.1) (kvs.map (·.1)) → DqAll K H vs (kvs.map (·.2)) → Dq K H (.ref a) (.dict ((.none, .none) :: kvs))
inductive DqAll (K : PySem.W.Frag) (H : Hp) : List V → List D → Prop
  | nil : DqAll K H [] []
  | cons {v : V} {vs : List V} {d : D} {ds : List D} : Dq K H v d → DqAll K H vs ds → DqAll K H (v :: vs) (d :: ds)
end
/-! ### data, one heap under another -/
section
variable {K : PySem.W.Frag} {H G H' G' : Hp}
theorem same_rd (e : Same H H') {a : Addr} {u : HO} (h : Rd H a u) : Rd H' a u := by
  rcases h with h | ⟨o, h⟩
  · exact .inl (e _ _ h)
  · exact .inr ⟨o, e _ _ h⟩
theorem same_l (e : Same H H') {a : Addr} {xs : List V} (h : SqL K H a xs) : SqL K H' a xs := h.elim (fun z => .inl (same_rd e z)) .inr
theorem same_t (e : Same H H') {a : Addr} {xs : List V} (h : SqT K H a xs) : SqT K H' a xs := h.elim (fun z => .inl (same_rd e z)) .inr
theorem same_nd (e : Same H H') {a : Addr} (h : Nd K H a) : Nd K H' a := h.elim (fun ⟨o, u, q, n⟩ => .inl ⟨o, u, e _ _ q, n⟩) .inr
mutual
theorem dp_mono (e : Same H H') : ∀ {v : V} {d : D}, Dq K H v d → Dq K H' v d
  | _, _, .non => .non
  | _, _, .bl b => .bl b
  | _, _, .int i => .int i
  | _, _, .str x => .str x
  | _, _, .lst hs ha => .lst (same_l e hs) (dpa_mono e ha)
  | _, _, .tup hs nd ha => .tup (same_t e hs) (same_nd e nd) (dpa_mono e ha)
  | _, _, .dk h1 h2 h3 ha => .dk (same_rd e h1) h2 h3 (dpa_mono e ha)
  | _, _, .dt h1 h2 h3 h4 hk ha => .dt (same_rd e h1) h2 h3 h4 (dpa_mono e hk) (dpa_mono e ha)
theorem dpa_mono (e : Same H H') : ∀ {vs : List V} {ds : List D}, DqAll K H vs ds → DqAll K H' vs ds
  | _, _, .nil => .nil
  | _, _, .cons h t => .cons (dp_mono e h) (dpa_mono e t)
end
mutual
/-- the hand layer's data, where no dict is in it -/
theorem Dq.dp : ∀ {v : V} {d : D}, Dq K H v d → d.hasDict = false → Dp K H v d
  | _, _, .non, _ => .non
  | _, _, .bl b, _ => .bl b
  | _, _, .int i, _ => .int i
  | _, _, .str x, _ => .str x
  | _, _, .lst hs ha, h => .lst hs (DqAll.dpa ha (by simpa only [PyData.hasDict] using h))
  | _, _, .tup hs nd ha, h => .tup hs (DqAll.dpa ha (by simpa only [PyData.hasDict] using h))
  | _, _, .dk h1 h2 h3 ha, h => by simp [PyData.hasDict] at h
  | _, _, .dt h1 h2 h3 h4 hk ha, h => by simp [PyData.hasDict] at h
theorem DqAll.dpa : ∀ {vs : List V} {ds : List D}, DqAll K H vs ds → PyData.hasDictAll ds = false → DpAll K H vs ds
  | _, _, .nil, _ => .nil
  | _, _, .cons h t, q => by
    simp only [PyData.hasDictAll, Bool.or_eq_false_iff] at q
    exact .cons (Dq.dp h q.1) (DqAll.dpa t q.2)
end
theorem DqAll.len : ∀ {vs : List V} {ds : List D}, DqAll K H vs ds → vs.length = ds.length
  | _, _, .nil => rfl
  | _, _, .cons _ t => by rw [List.length_cons, List.length_cons, DqAll.len t]
theorem DqAll.at : ∀ {vs : List V} {ds : List D} {i : Nat} {d : D}, DqAll K H vs ds → ds[i]? = some d → ∃ v, vs[i]? = some v ∧ Dq K H v d
  | _, _, _, _, .nil, e => by simp at e
  | _, _, 0, _, .cons h _, e => by
    simp at e
    subst e
    exact ⟨_, rfl, h⟩
  | _, _, i + 1, _, .cons _ t, e => by
    obtain ⟨v, e1, h1⟩ := DqAll.at (i := i) t (by simpa using e)
    exact ⟨v, by simpa using e1, h1⟩
theorem DqAll.at' : ∀ {vs : List V} {ds : List D} {i : Nat} {v : V}, DqAll K H vs ds → vs[i]? = some v → ∃ d, ds[i]? = some d ∧ Dq K H v d
  | _, _, _, _, .nil, e => by simp at e
  | _, _, 0, _, .cons h _, e => by
    simp at e
    subst e
    exact ⟨_, rfl, h⟩
  | _, _, i + 1, _, .cons _ t, e => by
    obtain ⟨v, e1, h1⟩ := DqAll.at' (i := i) t (by simpa using e)
    exact ⟨v, by simpa using e1, h1⟩
theorem DqAll.app : ∀ {vs ws : List V} {ds es : List D}, DqAll K H vs ds → DqAll K H ws es → DqAll K H (vs ++ ws) (ds ++ es)
  | _, _, _, _, .nil, h => h
  | _, _, _, _, .cons a t, h => .cons a (DqAll.app t h)
theorem DqAll.take (n : Nat) : ∀ {vs : List V} {ds : List D}, DqAll K H vs ds → DqAll K H (vs.take n) (ds.take n) := by
  induction n with
  | zero => intro vs ds _; exact .nil
  | succ n ih =>
    intro vs ds h
    cases h with
    | nil => exact .nil
    | cons a t => exact .cons a (ih t)
theorem DqAll.drop (n : Nat) : ∀ {vs : List V} {ds : List D}, DqAll K H vs ds → DqAll K H (vs.drop n) (ds.drop n) := by
  induction n with
  | zero => intro vs ds h; exact h
  | succ n ih =>
    intro vs ds h
    cases h with
    | nil => exact .nil
    | cons a t => exact ih t
theorem DqAll.set {v : V} {d : D} (h : Dq K H v d) (i : Nat) : ∀ {vs : List V} {ds : List D}, DqAll K H vs ds → DqAll K H (vs.set i v) (ds.set i d) := by
  induction i with
  | zero =>
    intro vs ds t
    cases t with
    | nil => exact .nil
    | cons _ r => exact .cons h r
  | succ i ih =>
    intro vs ds t
    cases t with
    | nil => exact .nil
    | cons a r => exact .cons a (ih r)
theorem DqAll.rev : ∀ {vs : List V} {ds : List D}, DqAll K H vs ds → DqAll K H vs.reverse ds.reverse
  | _, _, .nil => .nil
  | _, _, .cons a t => by
    rw [List.reverse_cons, List.reverse_cons]
    exact DqAll.app (DqAll.rev t) (.cons a .nil)
theorem dp_ints : ∀ (ns : List Int), DqAll K H (ns.map V.int) (ns.map PyData.int)
  | [] => .nil
  | n :: r => .cons (.int n) (dp_ints r)
theorem dpa_ints : ∀ {vs : List V} {ns : List Int}, DqAll K H vs (ns.map PyData.int) → vs = ns.map V.int
  | _, [], h => by cases h; rfl
  | _, n :: r, h => by
    cases h with
    | cons h1 h2 =>
      cases h1
      rw [dpa_ints h2]
      rfl
theorem dpa_bools : ∀ {vs : List V} {bs : List Bool}, DqAll K H vs (bs.map PyData.bool) → vs = bs.map V.bl
  | _, [], h => by cases h; rfl
  | _, b :: r, h => by
    cases h with
    | cons h1 h2 =>
      cases h1
      rw [dpa_bools h2]
      rfl

/-! ### how heap and frozen part grow -/
structure Grow (H G H' G' : Hp) : Prop where
  gg : Same G G'
  hh : Same H H'
  gh : Same G' H'
  new : ∀ b, H b ≠ none → G' b = G b
theorem Grow.refl (h : Same G H) : Grow H G H G := ⟨Same.refl G, Same.refl H, h, fun _ _ => rfl⟩
theorem Grow.trans {H1 G1 : Hp} (a : Grow H G H1 G1) (b : Grow H1 G1 H' G') : Grow H G H' G' :=
  ⟨a.gg.trans b.gg, a.hh.trans b.hh, b.gh, fun x hx => by
    have h1 : H1 x ≠ none := fun z => by
      cases q : H x with
      | none => exact hx q
      | some o =>
        rw [a.hh x o q] at z
        cases z
    rw [b.new x h1, a.new x hx]⟩
theorem same_new {p : Addr} {o : HO} (hp : H p = none) : Same H (upd H p o) := fun b u e => by
  rw [upd_ne (ne_of_none e hp)]
  exact e
theorem same_back {p : Addr} (h : Same G H) (hp : H p = none) : G p = none := by
  cases q : G p with
  | none => rfl
  | some o =>
    rw [h p o q] at hp
    cases hp
theorem same_upd {p : Addr} {o : HO} (h : Same G H) (hp : H p = none) : Same (upd G p o) (upd H p o) := fun b u e => by
  by_cases hb : b = p
  · subst hb
    rw [upd_same] at e ⊢
    exact e
  · rw [upd_ne hb] at e ⊢
    exact h b u e
/-- a new object, frozen at once -/
theorem Grow.laid {p : Addr} {o : HO} (h : Same G H) (hp : H p = none) : Grow H G (upd H p o) (upd G p o) :=
  ⟨same_new (same_back h hp), same_new hp, same_upd h hp, fun b hb => upd_ne fun z => hb (by rw [z]; exact hp)⟩
/-- a new object, not frozen -/
theorem Grow.own {p : Addr} {o : HO} (h : Same G H) (hp : H p = none) : Grow H G (upd H p o) G :=
  ⟨Same.refl G, same_new hp, h.trans (same_new hp), fun _ _ => rfl⟩
end

/-! ### what an owned object is -/
inductive OwAt (K : PySem.W.Frag) (G H : Hp) : Ow → Addr → List Addr → Prop where
  | ls {a : Addr} {vs : List V} {ds : List D} : H a = some (.lst vs) → DqAll K G vs ds → OwAt K G H (.ls ds) a [a]
  | ll {a : Addr} {bs : List Addr} {dss : List (List D)} : H a = some (.lst (bs.map V.ref)) → bs.length = dss.length → (a :: bs).Nodup →
      (∀ (j : Nat) (b : Addr) (ds : List D), bs[j]? = some b → dss[j]? = some ds → ∃ vs, H b = some (.lst vs) ∧ DqAll K G vs ds) → OwAt K G H (.ll dss) a (a :: bs)
  | dk {a : Addr} {kk : List Key} {vs : List V} {kvs : List (D × D)} : H a = some (.dK (kk.zip vs)) → kk.length = vs.length → kvs.map (·.1) = kk.map kD → DqAll K G vs (kvs.map (·.2)) → OwAt K G H (.dc false kvs) a [a]
  | dt {a : Addr} {xs : List (Int × Addr × Value)} {vs : List V} {kvs : List (D × D)} : H a = some (DxO a xs) → xs.map (·.1) = hashL (kvs.map (·.1)) → (kvs.map (·.1)).Nodup → Vals vs (xs.map (·.2.2)) → DqAll K G (xs.map fun x => V.ref x.2.1) (kvs.map (·.1)) → DqAll K G vs (kvs.map (·.2)) → OwAt K G H (.dc true kvs) a [a]
/-- an object that an own one may be: a list, a dict -/
inductive Ob : HO → Prop where
  | lst (vs : List V) : Ob (.lst vs)
  | dK (kvs : List (Key × V)) : Ob (.dK kvs)
  | dx (a : Addr) (xs : List (Int × Addr × Value)) : Ob (DxO a xs)
section
variable {K : PySem.W.Frag} {H G H' G' : Hp}
theorem OwAt.there {o : Ow} {a : Addr} {A : List Addr} (h : OwAt K G H o a A) : ∀ b ∈ A, ∃ u, H b = some u ∧ Ob u := by
  cases h with
  | ls h1 _ =>
    intro b hb
    rw [List.mem_singleton.mp hb]
    exact ⟨_, h1, .lst _⟩
  | ll h1 h2 h3 h4 =>
    rename_i bs dss
    intro b hb
    rcases List.mem_cons.mp hb with rfl | hb
    · exact ⟨_, h1, .lst _⟩
    · obtain ⟨j, hj, e⟩ := List.mem_iff_getElem.mp hb
      obtain ⟨vs, h5, _⟩ := h4 j b (dss[j]'(h2 ▸ hj)) (by rw [List.getElem?_eq_getElem hj, e]) (List.getElem?_eq_getElem _)
      exact ⟨_, h5, .lst vs⟩
  | dk h1 _ _ _ =>
    intro b hb
    rw [List.mem_singleton.mp hb]
    exact ⟨_, h1, .dK _⟩
  | dt h1 _ _ _ _ _ =>
    intro b hb
    rw [List.mem_singleton.mp hb]
    exact ⟨_, h1, .dx _ _⟩
theorem OwAt.head {o : Ow} {a : Addr} {A : List Addr} (h : OwAt K G H o a A) : a ∈ A := by
  cases h with
  | ls _ _ => exact List.mem_singleton.mpr rfl
  | ll _ _ _ _ => exact List.mem_cons_self
  | dk _ _ _ _ => exact List.mem_singleton.mpr rfl
  | dt _ _ _ _ _ _ => exact List.mem_singleton.mpr rfl
theorem OwAt.mono {o : Ow} {a : Addr} {A : List Addr} (h : OwAt K G H o a A) (gg : Same G G') (hh : ∀ b ∈ A, ∀ u, H b = some u → H' b = some u) : OwAt K G' H' o a A := by
  cases h with
  | ls h1 h2 => exact .ls (hh _ (List.mem_singleton.mpr rfl) _ h1) (dpa_mono gg h2)
  | ll h1 h2 h3 h4 =>
    refine .ll (hh _ List.mem_cons_self _ h1) h2 h3 fun j b ds e1 e2 => ?_
    obtain ⟨vs, h5, h6⟩ := h4 j b ds e1 e2
    exact ⟨vs, hh _ (List.mem_cons_of_mem _ (List.mem_of_getElem? e1)) _ h5, dpa_mono gg h6⟩
  | dk h1 h2 h3 h4 => exact .dk (hh _ (List.mem_singleton.mpr rfl) _ h1) h2 h3 (dpa_mono gg h4)
  | dt h1 h2 h3 h4 h5 h6 => exact .dt (hh _ (List.mem_singleton.mpr rfl) _ h1) h2 h3 h4 (dpa_mono gg h5) (dpa_mono gg h6)
end

/-! ### what a frame has to do with a state -/
/-- a def's running: the heap and the frozen part at its entry, the objects of its caller that it may write, by their slots -/
structure Fx where
  H_0 : Hp
  G_0 : Hp
  io : Nat → List Addr
  at_ : Nat → Addr

def slotOk (K : PySem.W.Frag) (Φ : Fx) (H G : Hp) (A : List Addr) (i : Nat) : Sl → Option (Option V) → Prop
  | .un, _ => True
  | .sh d, o => ∃ v, o = some (some v) ∧ Dq K G v d
  | .own w, o => ∃ a, o = some (some (.ref a)) ∧ OwAt K G H w a A ∧ ∀ b ∈ A, G b = none ∧ Φ.H_0 b = none
  | .io w, o => ∃ a, o = some (some (.ref a)) ∧ OwAt K G H w a A ∧ ∀ b ∈ A, G b = none ∧ ((b ∈ Φ.io i ∨ Φ.H_0 b = none) ∧ a = Φ.at_ i)
  | .xn, o => o = some (some (.ref (Φ.at_ i)))

structure Ok (K : PySem.W.Frag) (Φ : Fx) (H G : Hp) (F : Nat → List Addr) (σ : L2.St) (e : Fr) : Prop where
  gh : Same G H
  len : e.length = σ.length
  slots : ∀ i s, e[i]? = some s → slotOk K Φ H G (F i) i s σ[i]?
  sep : ∀ i j s t, i ≠ j → e[i]? = some s → e[j]? = some t → s.owned = true → t.owned = true → ∀ b ∈ F i, b ∉ F j
  f0 : ∀ b, Φ.H_0 b ≠ none → H b ≠ none
  f1 : ∀ b o, Φ.H_0 b = some o → (∀ i, b ∉ Φ.io i) → H b = some o
  f2 : ∀ b, Φ.H_0 b ≠ none → G b = Φ.G_0 b

section
variable {K : PySem.W.Frag} {Φ : Fx} {H G H' G' : Hp} {F : Nat → List Addr} {σ : L2.St} {e : Fr}
theorem slotOk.grow {A : List Addr} {i : Nat} {s : Sl} {o : Option (Option V)} (g : Grow H G H' G') (h : slotOk K Φ H G A i s o) : slotOk K Φ H' G' A i s o := by
  have keep : ∀ {w : Ow} {a : Addr}, OwAt K G H w a A → ∀ b ∈ A, G b = none → G' b = none := fun w b hb n => by
    obtain ⟨vs, q, _⟩ := w.there b hb
    rw [g.new b (by rw [q]; exact fun z => nomatch z)]
    exact n
  cases s with
  | un => trivial
  | sh d =>
    obtain ⟨v, e1, h1⟩ := h
    exact ⟨v, e1, dp_mono g.gg h1⟩
  | own w =>
    obtain ⟨a, e1, h1, h2⟩ := h
    exact ⟨a, e1, h1.mono g.gg (fun b _ u q => g.hh b u q), fun b hb => ⟨keep h1 b hb (h2 b hb).1, (h2 b hb).2⟩⟩
  | io w =>
    obtain ⟨a, e1, h1, h2⟩ := h
    exact ⟨a, e1, h1.mono g.gg (fun b _ u q => g.hh b u q), fun b hb => ⟨keep h1 b hb (h2 b hb).1, (h2 b hb).2⟩⟩
  | xn => exact h
theorem ne_none_of_same (h : Same H H') {b : Addr} (hb : H b ≠ none) : H' b ≠ none := fun z => by
  cases q : H b with
  | none => exact hb q
  | some o =>
    rw [h b o q] at z
    cases z
/-- new objects change nothing -/
theorem Ok.grow (O : Ok K Φ H G F σ e) (g : Grow H G H' G') : Ok K Φ H' G' F σ e :=
  ⟨g.gh, O.len, fun i s q => (O.slots i s q).grow g, O.sep, fun b hb => ne_none_of_same g.hh (O.f0 b hb), fun b o q n => g.hh b o (O.f1 b o q n), fun b hb => by
    rw [g.new b (O.f0 b hb)]
    exact O.f2 b hb⟩
/-- a value is stored -/
theorem Ok.set {v : V} {d : D} (O : Ok K Φ H G F σ e) (h : Dq K G v d) (i : Nat) : Ok K Φ H G F (σ.set i (some v)) (e.set i (.sh d)) where
  gh := O.gh
  len := by rw [List.length_set, List.length_set]; exact O.len
  slots := fun j s q => by
    by_cases hj : i = j
    · subst hj
      by_cases hl : i < e.length
      · rw [List.getElem?_set_self hl] at q
        cases q
        refine ⟨v, ?_, h⟩
        rw [List.getElem?_set_self (by rw [← O.len]; exact hl)]
      · rw [List.getElem?_eq_none (by rw [List.length_set]; omega)] at q
        cases q
    · rw [List.getElem?_set_ne hj] at q ⊢
      exact O.slots j s q
  sep := fun j k s t hjk q1 q2 o1 o2 => by
    have old : ∀ {j : Nat} {s : Sl}, (e.set i (.sh d))[j]? = some s → s.owned = true → e[j]? = some s := fun {j s} q o => by
      by_cases hj : i = j
      · subst hj
        by_cases hl : i < e.length
        · rw [List.getElem?_set_self hl] at q
          cases q
          cases o
        · rw [List.getElem?_eq_none (by rw [List.length_set]; omega)] at q
          cases q
      · rw [List.getElem?_set_ne hj] at q
        exact q
    exact O.sep j k s t hjk (old q1 o1) (old q2 o2) o1 o2
  f0 := O.f0
  f1 := O.f1
  f2 := O.f2
/-- an object of the frame's own is stored: it stands apart from all others -/
theorem Ok.setOwn {w : Ow} {a : Addr} {A : List Addr} (O : Ok K Φ H G F σ e) (h : OwAt K G H w a A) (n : ∀ b ∈ A, G b = none ∧ Φ.H_0 b = none)
    (ap : ∀ j t, e[j]? = some t → t.owned = true → ∀ b ∈ A, b ∉ F j) (i : Nat) : Ok K Φ H G (fun j => if j = i then A else F j) (σ.set i (some (.ref a))) (e.set i (.own w)) where
  gh := O.gh
  len := by rw [List.length_set, List.length_set]; exact O.len
  slots := fun j s q => by
    by_cases hj : i = j
    · subst hj
      rw [if_pos rfl]
      by_cases hl : i < e.length
      · rw [List.getElem?_set_self hl] at q
        cases q
        exact ⟨a, List.getElem?_set_self (by rw [← O.len]; exact hl), h, n⟩
      · rw [List.getElem?_eq_none (by rw [List.length_set]; omega)] at q
        cases q
    · rw [if_neg (Ne.symm hj)]
      rw [List.getElem?_set_ne hj] at q ⊢
      exact O.slots j s q
  sep := fun j k s t hjk q1 q2 o1 o2 => by
    have old : ∀ {j : Nat} {s : Sl}, ¬ j = i → (e.set i (.own w))[j]? = some s → e[j]? = some s := fun {j s} hj q => by
      rw [List.getElem?_set_ne (Ne.symm hj)] at q
      exact q
    by_cases hj : j = i
    · have hk : ¬ k = i := fun z => hjk (hj.trans z.symm)
      rw [if_pos hj, if_neg hk]
      exact ap k t (old hk q2) o2
    · rw [if_neg hj]
      by_cases hk : k = i
      · rw [if_pos hk]
        exact fun b hb hb2 => ap j s (old hj q1) o1 b hb2 hb
      · rw [if_neg hk]
        exact O.sep j k s t hjk (old hj q1) (old hk q2) o1 o2
  f0 := O.f0
  f1 := O.f1
  f2 := O.f2
theorem Ok.setUn (O : Ok K Φ H G F σ e) (i : Nat) : Ok K Φ H G F (σ.set i none) (e.set i .un) where
  gh := O.gh
  len := by rw [List.length_set, List.length_set]; exact O.len
  slots := fun j s q => by
    by_cases hj : i = j
    · subst hj
      by_cases hl : i < e.length
      · rw [List.getElem?_set_self hl] at q
        cases q
        trivial
      · rw [List.getElem?_eq_none (by rw [List.length_set]; omega)] at q
        cases q
    · rw [List.getElem?_set_ne hj] at q ⊢
      exact O.slots j s q
  sep := fun j k s t hjk q1 q2 o1 o2 => by
    have old : ∀ {j : Nat} {s : Sl}, (e.set i .un)[j]? = some s → s.owned = true → e[j]? = some s := fun {j s} q o => by
      by_cases hj : i = j
      · subst hj
        by_cases hl : i < e.length
        · rw [List.getElem?_set_self hl] at q
          cases q
          cases o
        · rw [List.getElem?_eq_none (by rw [List.length_set]; omega)] at q
          cases q
      · rw [List.getElem?_set_ne hj] at q
        exact q
    exact O.sep j k s t hjk (old q1 o1) (old q2 o2) o1 o2
  f0 := O.f0
  f1 := O.f1
  f2 := O.f2
end
end DL
set_option Elab.async false
set_option linter.all false
set_option maxRecDepth 100000
set_option maxHeartbeats 4000000
/-! DlTf: new tuples, told with their object (so that they are known to have no dict of their own). -/
namespace DL
open PySem PySem.Spec PyProof.Rows L2
section
variable {K : PySem.W.Frag} {H G : Hp} {p : Addr} {o : Obj} {vs : List V} {ds : List D}
theorem sq_frz (h : H p = some (.frz o (.tup vs))) : SqT K H p vs := .inl (.inr ⟨o, h⟩)
/-- a new tuple, frozen, as data -/
theorem Dq.newT (hp : G p = none) (hd : o.dict = none) (h : DqAll K G vs ds) : Dq K (upd G p (.frz o (.tup vs))) (.ref p) (.tuple ds) :=
  .tup (sq_frz upd_same) (.inl ⟨o, _, upd_same, hd⟩) (dpa_mono (same_new hp) h)
end
section
variable {X : Cx}
theorem ok_frz {H : Hp} {h : Heap} {a : Addr} {o : Obj} {u : HO} (q : h.get? a = some o) (k : ObjOk X.prog X.w H h a u) : ObjOk X.prog X.w H h a (.frz o u) := ⟨q, k⟩
/-! ### a display -/
def tTupF (t : TA) : TE := fun σ H Q => t σ H fun xs H1 => xs.length ≤ sizeLine ∧ ∀ p o, H1 p = none → o.dict = none → Q (.ref p) (upd H1 p (.frz o (.tup xs)))
theorem pe_tupF {es : List Expr} {t : TA} {x1 : Nat} {pos : Pos} (h : PA X es t) : PE X (.Tuple es x1 pos) (tTupF t) := by
  refine ⟨fun pins s σ H Q I hq => ?_⟩
  refine wpAny_Tuple_spliced (thn (h.run pos pins s σ H _ I hq) fun us s1 ⟨xs, H1, I1, r, z, q⟩ => ⟨by rw [← r.length]; exact z, ?_⟩)
  have hf : H1 s1.heap.objs.size = none := I1.hok.fresh (Nat.le_refl _)
  refine ⟨.ref s1.heap.objs.size, upd H1 s1.heap.objs.size (.frz _ (.tup xs)), I1.laid (t' := s1.toks) (fun b u e => Heap.get?_push_of_some _ e) (Nat.le_refl _) (ok_frz (Heap.get?_push_size _ rfl) ?_), rfl, q _ _ hf rfl⟩
  exact ⟨z, us, r, ⟨_, Heap.get?_push_size _ rfl, rfl, _, rfl⟩⟩
/-! ### tuple(list), tuple(tuple) -/
theorem call_tuple_ofF : CallR X (.type "tuple") (fun xs H Q => ∃ p ys, xs = [.ref p] ∧ ((SqL X.K H p ys ∧ ∀ l o, H l = none → o.dict = none → Q (.ref l) (upd H l (.frz o (.tup ys)))) ∨ (SqT X.K H p ys ∧ Q (.ref p) H))) := by
  intro pins s σ H xs us Q I r h
  obtain ⟨p, ys, rfl, h⟩ := h
  obtain ⟨u, rfl, rx⟩ := vals1 r
  cases rx
  rcases h with ⟨hq, q⟩ | ⟨hq, q⟩
  · obtain ⟨its, r', pl, hz⟩ := I.list hq
    have hlen := r'.length
    refine call_tuple_list pl.isList (fun h' kp => ?_) (by simp only [List.size_toArray] <;> omega)
    have I1 : Inv X pins σ H { s with heap := h' } := I.kept (t' := s.toks) kp
    refine ⟨.ref h'.objs.size, _, I1.laid (t' := s.toks) (fun b o e => Heap.get?_push_of_some _ e) (Nat.le_refl _) (ok_frz (u := .tup ys) (Heap.get?_push_size _ rfl) ⟨hz, its, r', IsTup.new _ _⟩), rfl, q _ _ (I1.hok.fresh (Nat.le_refl _)) rfl⟩
  · obtain ⟨its, r', pl, hz⟩ := I.tuple hq
    exact call_tuple_same pl ⟨.ref p, H, I, rfl, q⟩
/-! ### t + u -/
def rCatF (K : PySem.W.Frag) : R2 := fun x y H Q => ∃ a b xs ys, x = .ref a ∧ y = .ref b ∧ SqT K H a xs ∧ SqT K H b ys ∧ xs.length + ys.length ≤ sizeLine ∧
  (xs = [] → Q (.ref b) H) ∧ (xs ≠ [] → ys = [] → Q (.ref a) H) ∧ (xs ≠ [] → ys ≠ [] → ∀ p o, H p = none → o.dict = none → Q (.ref p) (upd H p (.frz o (.tup (xs ++ ys)))))
theorem op_catF : OpR X (binaryOp .Add) (rCatF X.K) := by
  intro pins s σ H x y v u Q I rx ry h
  obtain ⟨a, b, xs, ys, rfl, rfl, ha, hb, hz, q0, q1, q2⟩ := h
  by_cases hx : xs = []
  · subst hx
    exact op_catA pins s σ H _ _ v u Q I rx ry ⟨a, b, [], ys, rfl, rfl, ha, hb, hz, q0, fun z => absurd rfl z, fun z => absurd rfl z⟩
  · cases rx
    cases ry
    obtain ⟨its, r1, p1, _⟩ := I.tuple ha
    obtain ⟨its2, r2, p2, _⟩ := I.tuple hb
    refine HT.cat_tup p1 p2 (fun z => hx (r1.nil_iff.mp z)) (fun z => ⟨.ref a, H, I, rfl, q1 hx (r2.nil_iff.mp z)⟩) (fun z => ?_) (by rw [← r1.length, ← r2.length]; exact hz)
    refine ⟨.ref s.heap.objs.size, _, I.laid (t' := s.toks) (fun b ob q => Heap.get?_push_of_some _ q) (Nat.le_refl _) (ok_frz (u := .tup (xs ++ ys)) (Heap.get?_push_size _ rfl) ?_), rfl, q2 hx (fun w => z (r2.nil_iff.mpr w)) _ _ (I.hok.fresh (Nat.le_refl _)) rfl⟩
    exact ⟨by rw [List.length_append]; exact hz, _, r1.append r2, IsTup.new _ _⟩
/-! ### t[lo:hi] -/
def rSlF (K : PySem.W.Frag) : V → Option Int → Option Int → Hp → VK → Prop := fun x lo hi H Q => ∃ a xs, x = .ref a ∧ SqT K H a xs ∧
  (HT.sIx xs.length 0 lo = 0 ∧ HT.sIx xs.length xs.length hi = xs.length → Q (.ref a) H) ∧ (¬ (HT.sIx xs.length 0 lo = 0 ∧ HT.sIx xs.length xs.length hi = xs.length) → ∀ p o, H p = none → o.dict = none → Q (.ref p) (upd H p (.frz o (.tup (cutV xs lo hi)))))
theorem sl_tupF : SlR X (rSlF X.K) := by
  intro pins s σ H x v vl vu lo hi sl Q I rx hs pl pu h
  obtain ⟨a, xs, rfl, hx, q1, q2⟩ := h
  by_cases hw : HT.sIx xs.length 0 lo = 0 ∧ HT.sIx xs.length xs.length hi = xs.length
  · exact sl_tupA pins s σ H _ v vl vu lo hi sl Q I rx hs pl pu ⟨a, xs, rfl, hx, q1, fun z => absurd hw z⟩
  · cases rx
    obtain ⟨its, r, ht, hz⟩ := I.tuple hx
    have hlen : its.toArray.size = xs.length := by rw [List.size_toArray]; exact r.length.symm
    refine ⟨"tuple", _, PyProof.Rows.slot_tuple_getitem.lookup, ht.typeIs, ?_⟩
    refine HT.getItem_tuple_cut ht hs pl pu (by rw [hlen]; exact hw) ?_ (by rw [hlen]; exact hz)
    rw [hlen]
    refine ⟨.ref s.heap.objs.size, _, I.laid (t' := s.toks) (fun b ob q => Heap.get?_push_of_some _ q) (Nat.le_refl _) (ok_frz (u := .tup (cutV xs lo hi)) (Heap.get?_push_size _ rfl) ?_), rfl, q2 hw _ _ (I.hok.fresh (Nat.le_refl _)) rfl⟩
    exact ⟨Nat.le_trans (cutV_length xs lo hi) hz, _, (r.drop (HT.sIx xs.length 0 lo)).take (HT.sIx xs.length xs.length hi - HT.sIx xs.length 0 lo), IsTup.new _ _⟩
/-! ### divmod -/
theorem call_divmodF : CallR X (.builtin "divmod") (fun xs H Q => ∃ i j, xs = [.int i, .int j] ∧ CDivP i j ∧ ∀ p o, H p = none → o.dict = none → Q (.ref p) (upd H p (.frz o (.tup [.int (i / j), .int (i % j)])))) := by
  intro pins s σ H xs us Q I r h
  obtain ⟨i, j, rfl, ⟨h1, h2⟩, q⟩ := h
  obtain ⟨u, w', rfl, ⟨t, rfl⟩, ⟨t', rfl⟩⟩ := vals2 r
  refine divmod_int (by omega) ?_ (.inl h2)
  rw [Int.fdiv_eq_ediv_of_nonneg i (by omega), Int.fmod_eq_emod_of_nonneg i (by omega)]
  have hn : H s.heap.objs.size = none := I.hok.fresh (Nat.le_refl _)
  exact ⟨.ref s.heap.objs.size, _, I.laid (fun b o e => Heap.get?_push_of_some _ e) (Nat.le_refl _) (ok_frz (u := .tup [.int (i / j), .int (i % j)]) (Heap.get?_push_size s.heap rfl) ⟨by simp only [List.length_cons, List.length_nil]; rw [sizeLine_eq]; decide, [.int (i / j) s.toks, .int (i % j) (s.toks + 1)], .cons ⟨_, rfl⟩ (.cons ⟨_, rfl⟩ .nil),
    ⟨_, Heap.get?_push_size s.heap rfl, rfl, 0, rfl⟩⟩), rfl, q _ _ hn rfl⟩
/-! ### t * k -/
def rRepF (K : PySem.W.Frag) : R2 := fun x y H Q => ∃ l k xs, x = .ref l ∧ y = .int k ∧ SqT K H l xs ∧ xs ≠ [] ∧ 2 ≤ k ∧ k ≤ 1000 ∧ xs.length ≤ 1000 ∧ ∀ p o, H p = none → o.dict = none → Q (.ref p) (upd H p (.frz o (.tup (List.replicate k.toNat xs).flatten)))
theorem op_repF : OpR X (binaryOp .Mult) (rRepF X.K) := by
  intro pins s σ H x y v u Q I rx ry h
  obtain ⟨l, k, xs, rfl, rfl, hT, hne, h1, h2, hz, q⟩ := h
  cases rx
  obtain ⟨t, rfl⟩ := ry
  obtain ⟨its, r, ⟨⟨cls, dd, data, sl⟩, ho, hc, n, hd⟩, hs⟩ := I.tuple hT
  simp only at hc hd
  subst hc hd
  have hle : its.length = xs.length := r.length.symm
  have hn : its ≠ [] := fun e => hne (by
    rw [e] at hle
    exact List.eq_nil_of_length_eq_zero hle.symm)
  have hi : its.toArray.isEmpty = false := by
    cases its with
    | nil => exact absurd rfl hn
    | cons a b => rfl
  have hsz0 : its.toArray.size = xs.length := by rw [List.size_toArray, hle]
  have hm : ((its.toArray.size : Nat) : Int) * k ≤ 1000000 := by
    rw [hsz0]
    have a1 : ((xs.length : Nat) : Int) * k ≤ 1000 * k := Int.mul_le_mul_of_nonneg_right (by omega) (by omega)
    omega
  have flen : (List.replicate k.toNat its).flatten.length ≤ sizeLine := by
    rw [PyProof.Rows.lm_len_rep_flat, hle, sizeLine_eq]
    have a1 : k.toNat * xs.length ≤ 1000 * 1000 := Nat.mul_le_mul (by omega) hz
    omega
  have c0 : (decide (k < -(2 ^ 63)) || decide (k ≥ 2 ^ 63)) = false := by
    rw [decide_eq_false (by omega), decide_eq_false (by omega)] <;> rfl
  have c1 : (its.toArray.isEmpty || k == 1) = false := by
    rw [hi, Bool.false_or]
    exact beq_eq_false_iff_ne.mpr (by omega)
  have c2 : (decide (k ≤ 0) || its.toArray.isEmpty) = false := by
    rw [hi, Bool.or_false]
    exact decide_eq_false (by omega)
  have c4 : Builtin.Tuple.tupleTooMany (((its.toArray.size : Nat) : Int) * k) = false := by
    unfold Builtin.Tuple.tupleTooMany
    rw [sizeLine_eq]
    exact decide_eq_false (by omega)
  refine wpAny_binaryOp_repeat_ref (T := "tuple") (U := "int") (by decide) ⟨_, ho, rfl⟩ (fun s' => typeIs_int s' k t) noFill_tuple_mul F.fills_int_mul F.slot_int_rmul repeat_tuple F.slot_int_index.lookup
    (call_meets F.slot_int_rmul (typeIs_int s k t) F.entry_int_rmul (F.args_int_rmul_2 _ _) (int_rmul_tuple k t l its.toArray n dd sl)
      ⟨ho, rfl, ⟨_, ho, rfl⟩, call_meets F.slot_tuple_mul ⟨_, ho, rfl⟩ F.entry_tuple_mul (F.args_tuple_mul_2 _ _) (tuple_mulW l its.toArray n dd sl k t c0 c1 c2 (by omega) c4 (by rw [size_rep, List.size_toArray]; exact flen)) ⟨ho, ?_⟩⟩)
  rw [size_rep]
  refine ⟨.ref s.heap.objs.size, _, I.laid (t' := s.toks) (fun b ob q => Heap.get?_push_of_some _ q) (Nat.le_refl _) (ok_frz (u := .tup (List.replicate k.toNat xs).flatten) (Heap.get?_push_size _ rfl) ?_), rfl, q _ _ (I.hok.fresh (Nat.le_refl _)) rfl⟩
  exact ⟨by rw [PyProof.Rows.lm_len_rep_flat, sizeLine_eq]; have a1 : k.toNat * xs.length ≤ 1000 * 1000 := Nat.mul_le_mul (by omega) hz; omega, _, r.rep k.toNat, IsTup.new _ _⟩
end
/-! ### enumerate(list): pairs told with their object -/
def IteF (K : PySem.W.Frag) (a : Addr) : It :=
  ⟨fun i H => ∃ (xs : List V) (x : V), SqL K H a xs ∧ xs[i]? = some x, fun i H v H' => ∃ T o x, v = .ref T ∧ H T = none ∧ o.dict = none ∧ H' = upd H T (.frz o (.tup [.int (i : Nat), x])) ∧ ∀ xs, SqL K H a xs → xs[i]? = some x, fun i H => ∃ xs : List V, SqL K H a xs ∧ xs.length ≤ i⟩
theorem turn_enumF {P : Program} {w : World} {K : PySem.W.Frag} {elts : List Expr} {kk : Nat} {tpos : Pos} (a e it : Addr) :
    Turn P w K (.Tuple elts kk tpos) (IteF K a) [e, it] e (fun i h => (∃ old, IsEnum h e it ((i : Nat) : Int) old) ∧ h.IsListIter it a i ∧ e ≠ it) where
  mem := by simp
  obj := fun i h st b hb => by
    obtain ⟨⟨old, he⟩, ⟨o, ho, hc, hd⟩, _⟩ := st
    have e' : b = e ∨ b = it := by simpa using hb
    rcases e' with z | z
    · rw [z]; exact ⟨_, he, fun v q => nomatch q⟩
    · rw [z]; exact ⟨o, ho, fun v q => by rw [hd] at q; cases q⟩
  keep := fun i h h' st k => let ⟨⟨old, he⟩, hi, hne⟩ := st; ⟨⟨old, k e (by simp) _ he⟩, hi.at fun o q => k it (by simp) o q, hne⟩
  item := by
    intro X hP hw hK hc i pins s σ H E I hf st hg
    subst hP hw hK
    obtain ⟨⟨old, he⟩, hit, hne⟩ := st
    obtain ⟨xs, x, hq, hx⟩ := hg
    obtain ⟨its, rv, p, hz⟩ := I.list hq
    obtain ⟨u, hu, ru⟩ := rv.get hx
    have hel : e < s.heap.objs.size := Heap.lt_size he
    have hil : it < s.heap.objs.size := by obtain ⟨_, q, _⟩ := hit; exact Heap.lt_size q
    refine wpAny_pyNext_enum_item he hit p.isList (x := u) (by simpa using hu) hne fun h' ho hit' hT hsz hk => ?_
    refine ⟨_, rfl, wpAny_letOwnedTupleGo_enum (s := { s with heap := h', toks := s.toks + 1 }) ho fun h'' he' sb => ?_⟩
    have hT2 : h''.get? s.heap.objs.size = some { cls := .type "tuple", data := .seq #[.int i s.toks, u] } := (sb.2 _ (Nat.ne_of_gt hel)).trans hT
    have new := ok_frz (X := X) (H := upd H s.heap.objs.size (.frz { cls := .type "tuple", data := .seq #[.int i s.toks, u] } (.tup [.int (i : Nat), x]))) (u := .tup [.int (i : Nat), x]) hT2
      ⟨by show 2 ≤ sizeLine; decide, [.int i s.toks, u], .cons ⟨_, rfl⟩ (.cons ru .nil), ⟨_, hT2, rfl, _, rfl⟩⟩
    have I1 : Inv X pins σ (upd H s.heap.objs.size (.frz { cls := .type "tuple", data := .seq #[.int i s.toks, u] } (.tup [.int (i : Nat), x]))) { s with heap := h'', toks := s.toks + 1 } :=
      I.turnedNew (ch := [e, it]) (fun b ob hb q => (sb.2 b (fun z => hb (by simp [z]))).trans (hk b ob (fun z => hb (by simp [z])) (fun z => hb (by simp [z])) q)) hf (Nat.le_refl _) new
    refine ⟨.ref s.heap.objs.size, _, I1, rfl, ⟨_, _, x, rfl, I.hok.fresh (Nat.le_refl _), rfl, rfl, fun ys hy => by rw [I.list_inj hy hq]; exact hx⟩, ⟨⟨u, ?_⟩, hit'.at fun o q => (sb.2 it (Ne.symm hne)).trans q, hne⟩, fun b hb => ?_⟩
    · have e1 : ((i + 1 : Nat) : Int) = (i : Int) + 1 := by omega
      rw [e1]; exact he'
    · have hb' : b < s.heap.objs.size := by
        have e' : b = e ∨ b = it := by simpa using hb
        rcases e' with z | z
        · rw [z]; exact hel
        · rw [z]; exact hil
      rw [upd_ne (Nat.ne_of_lt hb')]
      exact (hf b hb).1
  done := by
    intro X hP hw hK hc i pins s σ H E I hf st hg
    subst hP hw hK
    obtain ⟨⟨old, he⟩, hit, hne⟩ := st
    obtain ⟨xs, hq, hx⟩ := hg
    obtain ⟨its, rv, p, hz⟩ := I.list hq
    obtain ⟨f0, f1, f2, f3, f4, f5⟩ := hf it (by simp)
    have hl := rv.length
    exact wpAny_pyNext_enum_end (I.ok.hd hc) he hit p.isList (by simp; omega) fun h' eb => ⟨rfl, I.turned (t' := s.toks) (fun b o hb q => eb b o hb q) f0 f1 f3 f4 f5⟩
  self := fun A i s Q E st h => let ⟨⟨_, he⟩, _⟩ := st; wpAny_pyIter_enum he h
def iEnumK (K : PySem.W.Frag) (ta : TA) : TI := fun σ H R => ta σ H fun vs H1 => ∃ a xs, vs = [.ref a] ∧ SqL K H1 a xs ∧ R (IteF K a) H1
theorem pi_enumF {X : Cx} {e : Expr} {ta : TA} {p pos tpos : Pos} {elts : List Expr} {kk : Nat} (hg : Gl X "enumerate") (hm : X.mg "enumerate" = none) (ha : PA X [e] ta) (hs : starEach [e] X.env = [(false, eval e X.env)] := by rfl) :
    PI X (.Tuple elts kk tpos) (.Call (.Name "enumerate" p) [e] [] pos) (iEnumK X.K ta) := by
  refine ⟨fun pins s σ H R I h => ?_⟩
  refine Call_ (ld_blt I hg hm boot_enumerate (PyProof.Rows.callWith_type1 (thn (ha.run pos pins s σ H _ I h) fun us s1 ⟨vs, H1, I1, r1, q1⟩ => ?_) hs rfl))
  obtain ⟨a, xs, ex, hq, q⟩ := q1
  subst ex
  cases r1 with
  | cons r rr =>
    cases rr
    cases r
    obtain ⟨its, rv, p', hz⟩ := I1.list hq
    refine call_enumerate_list p'.isList fun h' he hit hsz hk => wpAny_pyIter_enum he ?_
    have I2 : Inv X pins σ H1 { s1 with heap := h' } := I1.kept (t' := s1.toks) hk
    refine ⟨s1.heap.objs.size + 1, [s1.heap.objs.size + 1, s1.heap.objs.size], _, _, H1, rfl, I2, turn_enumF a (s1.heap.objs.size + 1) s1.heap.objs.size, ⟨⟨.none, he⟩, hit, Nat.succ_ne_self _⟩, fun b hb => ?_, q⟩
    have e' : b = s1.heap.objs.size + 1 ∨ b = s1.heap.objs.size := by simpa using hb
    have hle : s1.heap.objs.size ≤ b := by
      rcases e' with z | z
      · rw [z]; exact Nat.le_add_right _ _
      · rw [z]; exact Nat.le_refl _
    exact I1.fpOk hle (I1.hok.fresh hle)
end DL
set_option Elab.async false
set_option linter.all false
set_option maxRecDepth 100000
set_option maxHeartbeats 4000000
/-! DlB: freezing, writing, wiping; readings by what a frame's function tells. -/
namespace DL
open PySem L2

section
variable {K : PySem.W.Frag} {Φ : Fx} {H G H' G' : Hp} {F : Nat → List Addr} {σ : L2.St} {e : Fr}
theorem OwAt.dp {w : Ow} {a : Addr} {A : List Addr} (h : OwAt K G H w a A) (hg : Same G G') (ha : ∀ b ∈ A, G' b = H b) : Dq K G' (.ref a) w.toD := by
  cases h with
  | ls h1 h2 => exact .lst (.of ((ha _ (List.mem_singleton.mpr rfl)).trans h1)) (dpa_mono hg h2)
  | ll h1 h2 h3 h4 =>
    rename_i bs dss
    refine .lst (.of ((ha _ List.mem_cons_self).trans h1)) ?_
    have go : ∀ (bs' : List Addr) (ess : List (List D)), bs'.length = ess.length → (∀ b ∈ bs', b ∈ bs) → (∀ (j : Nat) (b : Addr) (ds : List D), bs'[j]? = some b → ess[j]? = some ds → ∃ vs, H b = some (.lst vs) ∧ DqAll K G vs ds) →
        DqAll K G' (bs'.map V.ref) (ess.map PyData.list) := by
      intro bs'
      induction bs' with
      | nil =>
        intro ess hl _ _
        cases ess with
        | nil => exact .nil
        | cons _ _ => cases hl
      | cons b r ih =>
        intro ess hl hm hx
        cases ess with
        | nil => cases hl
        | cons ds rs =>
          obtain ⟨vs, h5, h6⟩ := hx 0 b ds rfl rfl
          refine .cons (.lst (.of ((ha b (List.mem_cons_of_mem _ (hm b List.mem_cons_self))).trans h5)) (dpa_mono hg h6)) ?_
          exact ih rs (by simpa using hl) (fun c hc => hm c (List.mem_cons_of_mem _ hc)) fun j c es e1 e2 => hx (j + 1) c es (by simpa using e1) (by simpa using e2)
    exact go bs dss h2 (fun _ h => h) h4
  | dk h1 h2 h3 h4 => exact .dk (.inl ((ha _ (List.mem_singleton.mpr rfl)).trans h1)) h2 h3 (dpa_mono hg h4)
  | dt h1 h2 h3 h4 h5 h6 => exact .dt (.inl ((ha _ (List.mem_singleton.mpr rfl)).trans h1)) h2 h3 h4 (dpa_mono hg h5) (dpa_mono hg h6)

/-- a slot's object, written -/
def _root_.DL.Sl.put (s : Sl) (w : Ow) : Sl := match s with
  | .io _ => .io w
  | _ => .own w
/-- the frozen part takes in an object -/
def takeIn (H G : Hp) (A : List Addr) : Hp := fun b => if b ∈ A then H b else G b
theorem takeIn_in {A : List Addr} {b : Addr} (h : b ∈ A) : takeIn H G A b = H b := if_pos h
theorem takeIn_out {A : List Addr} {b : Addr} (h : b ∉ A) : takeIn H G A b = G b := if_neg h
theorem takeIn_same {A : List Addr} (h : ∀ b ∈ A, G b = none) : Same G (takeIn H G A) := fun b o q => by
  have hb : b ∉ A := fun z => by
    rw [h b z] at q
    cases q
  rw [takeIn_out hb]
  exact q
theorem takeIn_sub {A : List Addr} (h : Same G H) : Same (takeIn H G A) H := fun b o q => by
  by_cases hb : b ∈ A
  · rw [takeIn_in hb] at q
    exact q
  · rw [takeIn_out hb] at q
    exact h b o q
/-- a slot's own object is frozen -/
theorem Ok.freeze {w : Ow} (O : Ok K Φ H G F σ e) {i : Nat} (hi : e[i]? = some (.own w)) :
    Same G (takeIn H G (F i)) ∧ Ok K Φ H (takeIn H G (F i)) F σ (e.set i (.sh w.toD)) ∧ ∀ v, σ[i]? = some (some v) → Dq K (takeIn H G (F i)) v w.toD := by
  obtain ⟨a, e1, h1, h2⟩ := O.slots i _ hi
  have hs : Same G (takeIn H G (F i)) := takeIn_same fun b hb => (h2 b hb).1
  have hd : Dq K (takeIn H G (F i)) (.ref a) w.toD := h1.dp hs fun b hb => takeIn_in hb
  refine ⟨hs, ?_, fun v hv => ?_⟩
  · refine ⟨takeIn_sub O.gh, by rw [List.length_set]; exact O.len, fun j s q => ?_, fun j k s t hjk q1 q2 o1 o2 => ?_, O.f0, O.f1, fun b hb => ?_⟩
    · by_cases hj : i = j
      · subst hj
        rw [List.getElem?_set_self (List.getElem?_eq_some_iff.mp hi).1] at q
        cases q
        exact ⟨_, e1, hd⟩
      · rw [List.getElem?_set_ne hj] at q
        have old := O.slots j s q
        have out : s.owned = true → ∀ b ∈ F j, b ∉ F i := fun o b hb hb2 => O.sep j i s (.own w) (Ne.symm hj) q hi o rfl b hb hb2
        cases s with
        | un => trivial
        | xn => first | exact old | exact h | exact h1 | exact h2 | exact q | exact O.slots _ _ ‹_›
        | sh d =>
          obtain ⟨v, e2, h3⟩ := old
          exact ⟨v, e2, dp_mono hs h3⟩
        | own u =>
          obtain ⟨a2, e2, h3, h4⟩ := old
          exact ⟨a2, e2, h3.mono hs (fun _ _ _ q => q), fun b hb => ⟨by rw [takeIn_out (out rfl b hb)]; exact (h4 b hb).1, (h4 b hb).2⟩⟩
        | io u =>
          obtain ⟨a2, e2, h3, h4⟩ := old
          exact ⟨a2, e2, h3.mono hs (fun _ _ _ q => q), fun b hb => ⟨by rw [takeIn_out (out rfl b hb)]; exact (h4 b hb).1, (h4 b hb).2⟩⟩
    · have old : ∀ {j : Nat} {s : Sl}, (e.set i (.sh w.toD))[j]? = some s → s.owned = true → e[j]? = some s := fun {j s} q o => by
        by_cases hj : i = j
        · subst hj
          rw [List.getElem?_set_self (List.getElem?_eq_some_iff.mp hi).1] at q
          cases q
          cases o
        · rw [List.getElem?_set_ne hj] at q
          exact q
      exact O.sep j k s t hjk (old q1 o1) (old q2 o2) o1 o2
    · rw [takeIn_out fun z => hb (h2 b z).2]
      exact O.f2 b hb
  · rw [e1] at hv
    cases hv
    exact hd
/-- a slot's object is written -/
theorem Ok.write {s : Sl} {w' : Ow} {a : Addr} {A' : List Addr} (O : Ok K Φ H G F σ e) {i : Nat} (hi : e[i]? = some s) (ho : s.owned = true) (ha : σ[i]? = some (some (.ref a))) (h : OwAt K G H' w' a A')
    (hA : ∀ b ∈ F i, b ∈ A') (hN : ∀ b ∈ A', b ∈ F i ∨ H b = none) (hH : ∀ b, b ∉ A' → H' b = H b) :
    Ok K Φ H' G (fun j => if j = i then A' else F j) σ (e.set i (s.put w')) := by
  have gi : ∀ b ∈ F i, G b = none := fun b hb => by
    have q := O.slots i s hi
    cases s with
    | un => cases ho
    | xn => cases ho
    | sh d => cases ho
    | own w =>
      obtain ⟨_, _, _, h2⟩ := q
      exact (h2 b hb).1
    | io w =>
      obtain ⟨_, _, _, h2⟩ := q
      exact (h2 b hb).1
  have gA : ∀ b ∈ A', G b = none := fun b hb => (hN b hb).elim (gi b) fun z => same_back O.gh z
  have inH : ∀ b ∈ A', H' b ≠ none := fun b hb z => by
    obtain ⟨vs, q, _⟩ := h.there b hb
    rw [q] at z
    cases z
  have h0A : ∀ b ∈ A', H b = none → Φ.H_0 b = none := fun b _ z => by
    cases q : Φ.H_0 b with
    | none => rfl
    | some o => exact absurd z (O.f0 b (by rw [q]; exact fun z => nomatch z))
  refine ⟨fun b o q => ?_, by rw [List.length_set]; exact O.len, fun j t q => ?_, fun j k t u hjk q1 q2 o1 o2 => ?_, fun b hb => ?_, fun b o q n => ?_, O.f2⟩
  · rw [hH b fun z => by rw [gA b z] at q; cases q]
    exact O.gh b o q
  · by_cases hj : i = j
    · subst hj
      rw [if_pos rfl]
      rw [List.getElem?_set_self (List.getElem?_eq_some_iff.mp hi).1] at q
      have old := O.slots i s hi
      cases s with
      | un => cases ho
      | xn => cases ho
      | sh d => cases ho
      | own w =>
        cases q
        obtain ⟨_, _, _, h2⟩ := old
        exact ⟨a, ha, h, fun b hb => ⟨gA b hb, (hN b hb).elim (fun z => (h2 b z).2) (h0A b hb)⟩⟩
      | io w =>
        cases q
        obtain ⟨a2, e2, h1, h2⟩ := old
        rw [ha] at e2
        cases e2
        exact ⟨a, ha, h, fun b hb => ⟨gA b hb, (hN b hb).elim (fun z => (h2 b z).2) fun z => ⟨.inr (h0A b hb z), (h2 a h1.head).2.2⟩⟩⟩
    · rw [if_neg (Ne.symm hj)]
      rw [List.getElem?_set_ne hj] at q
      have old := O.slots j t q
      have out : t.owned = true → ∀ b ∈ F j, H b ≠ none → b ∉ A' := fun o b hb hz hb2 => by
        rcases hN b hb2 with z | z
        · exact O.sep j i t s (Ne.symm hj) q hi o ho b hb z
        · exact hz z
      cases t with
      | un => trivial
      | xn => first | exact old | exact h | exact h1 | exact h2 | exact q | exact O.slots _ _ ‹_›
      | sh d => exact old
      | own u =>
        obtain ⟨a2, e2, h3, h4⟩ := old
        refine ⟨a2, e2, h3.mono (Same.refl G) (fun b hb v z => ?_), h4⟩
        rw [hH b (out rfl b hb (by rw [z]; exact fun z => nomatch z))]
        exact z
      | io u =>
        obtain ⟨a2, e2, h3, h4⟩ := old
        refine ⟨a2, e2, h3.mono (Same.refl G) (fun b hb v z => ?_), h4⟩
        rw [hH b (out rfl b hb (by rw [z]; exact fun z => nomatch z))]
        exact z
  · have old : ∀ {j : Nat} {t : Sl}, ¬ j = i → (e.set i (s.put w'))[j]? = some t → e[j]? = some t := fun {j t} hj q => by
      rw [List.getElem?_set_ne (Ne.symm hj)] at q
      exact q
    have live : ∀ {j : Nat} {t : Sl}, e[j]? = some t → t.owned = true → ∀ b ∈ F j, H b ≠ none := fun {j t} q o b hb z => by
      have old := O.slots j t q
      cases t with
      | un => cases o
      | xn => cases o
      | sh d => cases o
      | own u =>
        obtain ⟨_, _, h3, _⟩ := old
        obtain ⟨vs, q, _⟩ := h3.there b hb
        rw [z] at q
        cases q
      | io u =>
        obtain ⟨_, _, h3, _⟩ := old
        obtain ⟨vs, q, _⟩ := h3.there b hb
        rw [z] at q
        cases q
    by_cases hj : j = i
    · have hk : ¬ k = i := fun z => hjk (hj.trans z.symm)
      rw [if_pos hj, if_neg hk]
      intro b hb hb2
      rcases hN b hb with z | z
      · exact O.sep k i u s hk (old hk q2) hi o2 ho b hb2 z
      · exact live (old hk q2) o2 b hb2 z
    · rw [if_neg hj]
      by_cases hk : k = i
      · rw [if_pos hk]
        intro b hb hb2
        rcases hN b hb2 with z | z
        · exact O.sep j i t s hj (old hj q1) hi o1 ho b hb z
        · exact live (old hj q1) o1 b hb z
      · rw [if_neg hk]
        exact O.sep j k t u hjk (old hj q1) (old hk q2) o1 o2
  · by_cases hA' : b ∈ A'
    · exact inH b hA'
    · rw [hH b hA']
      exact O.f0 b hb
  · by_cases hA' : b ∈ A'
    · have hb := O.f1 b o q n
      rcases hN b hA' with z | z
      · have old := O.slots i s hi
        cases s with
        | un => cases ho
        | xn => cases ho
        | sh d => cases ho
        | own w =>
          obtain ⟨_, _, _, h2⟩ := old
          rw [(h2 b z).2] at q
          cases q
        | io w =>
          obtain ⟨_, _, _, h2⟩ := old
          rcases (h2 b z).2.1 with z2 | z2
          · exact absurd z2 (n i)
          · rw [z2] at q
            cases q
      · rw [z] at hb
        cases hb
    · rw [hH b hA']
      exact O.f1 b o q n
end

/-! ### the slots of a comprehension -/
def wipeE (e : Fr) : List Nat → Fr
  | [] => e
  | v :: vs => (wipeE e vs).set v .un
def backE (e e1 : Fr) : List Nat → Fr
  | [] => e1
  | v :: vs => (backE e e1 vs).set v (e.getD v .un)
def bare (e : Fr) (vs : List Nat) : Bool := vs.all fun j => !(e.getD j .un).owned
section
variable {K : PySem.W.Frag} {Φ : Fx} {H G H' G' : Hp} {F F' : Nat → List Addr} {σ : L2.St} {e e1 : Fr} {vs : List Nat}
theorem Ok.wiped (O : Ok K Φ H G F σ e) : ∀ vs : List Nat, Ok K Φ H G F (wipe σ vs) (wipeE e vs)
  | [] => O
  | v :: vs => by
    have h := (Ok.wiped O vs).setUn v
    exact h
theorem wipe_out {j : Nat} : ∀ {vs : List Nat}, j ∉ vs → (wipe σ vs)[j]? = σ[j]?
  | [], _ => rfl
  | v :: vs, h => by
    unfold wipe
    rw [List.getElem?_set_ne (fun z => h (by rw [z]; exact List.mem_cons_self))]
    exact wipe_out fun z => h (List.mem_cons_of_mem _ z)
theorem backE_len : ∀ vs : List Nat, (backE e e1 vs).length = e1.length
  | [] => rfl
  | v :: vs => by
    unfold backE
    rw [List.length_set]
    exact backE_len vs
theorem backE_out {j : Nat} : ∀ {vs : List Nat}, j ∉ vs → (backE e e1 vs)[j]? = e1[j]?
  | [], _ => rfl
  | v :: vs, h => by
    unfold backE
    rw [List.getElem?_set_ne (fun z => h (by rw [z]; exact List.mem_cons_self))]
    exact backE_out fun z => h (List.mem_cons_of_mem _ z)
theorem backE_in {j : Nat} {s : Sl} : ∀ {vs : List Nat}, j ∈ vs → (backE e e1 vs)[j]? = some s → s = e.getD j .un
  | v :: vs, h, q => by
    unfold backE at q
    by_cases hv : v = j
    · subst hv
      by_cases hl : v < (backE e e1 vs).length
      · rw [List.getElem?_set_self hl] at q
        exact (Option.some.inj q).symm
      · rw [List.getElem?_eq_none (by rw [List.length_set]; omega)] at q
        cases q
    · rw [List.getElem?_set_ne hv] at q
      rcases List.mem_cons.mp h with z | z
      · exact absurd z.symm hv
      · exact backE_in z q
/-- behind the block -/
theorem Ok.back (O : Ok K Φ H G F σ e) (O1 : Ok K Φ H' G' F' (wipe σ vs) e1) (gg : Same G G') (hb : bare e vs = true) : Ok K Φ H' G' F' σ (backE e e1 vs) := by
  have lw : (wipe σ vs).length = σ.length := wipe_length σ vs
  have no : ∀ j s, j ∈ vs → (backE e e1 vs)[j]? = some s → s.owned = false := fun j s hj q => by
    rw [backE_in hj q]
    have := List.all_eq_true.mp hb j hj
    simpa using this
  refine ⟨O1.gh, by rw [backE_len, O1.len, lw], fun j s q => ?_, fun j k s t hjk q1 q2 o1 o2 => ?_, O1.f0, O1.f1, O1.f2⟩
  · by_cases hj : j ∈ vs
    · have hs := backE_in hj q
      have hn := no j s hj q
      cases s with
      | un => trivial
      | xn =>
        have hl : j < e.length := by
          by_cases z : j < e.length
          · exact z
          · rw [List.getD_eq_getElem?_getD, List.getElem?_eq_none (by omega)] at hs
            cases hs
        have q2 : e[j]? = some .xn := by
          rw [List.getD_eq_getElem?_getD, List.getElem?_eq_getElem hl] at hs
          rw [List.getElem?_eq_getElem hl]
          exact congrArg some hs.symm
        exact O.slots j _ q2
      | own w => cases hn
      | io w => cases hn
      | sh d =>
        have hl : j < e.length := by
          by_cases z : j < e.length
          · exact z
          · rw [List.getD_eq_getElem?_getD, List.getElem?_eq_none (by omega)] at hs
            cases hs
        have q2 : e[j]? = some (.sh d) := by
          rw [List.getD_eq_getElem?_getD, List.getElem?_eq_getElem hl] at hs
          rw [List.getElem?_eq_getElem hl]
          exact congrArg some hs.symm
        obtain ⟨v, e2, h2⟩ := O.slots j _ q2
        exact ⟨v, e2, dp_mono gg h2⟩
    · rw [backE_out hj] at q
      have h := O1.slots j s q
      rw [wipe_out hj] at h
      exact h
  · have nv : ∀ {j : Nat} {s : Sl}, (backE e e1 vs)[j]? = some s → s.owned = true → e1[j]? = some s := fun {j s} q o => by
      by_cases hj : j ∈ vs
      · rw [no j s hj q] at o
        cases o
      · rw [backE_out hj] at q
        exact q
    exact O1.sep j k s t hjk (nv q1 o1) (nv q2 o2) o1 o2
end

/-! ### readings -/
/-- what an expression gives: a value, or a name's slot (read when it is used) -/
inductive Arg where
  | val (d : D)
  | slot (i : Nat)
/-- .. or an object of its own, new -/
inductive RV where
  | arg (a : Arg)
  | new (w : Ow)

abbrev Rel (α β : Type) := α → β → Hp → Hp → (Nat → List Addr) → L2.St → Fr → Prop
def ExOk (mg : Str → Option Value) (K : PySem.W.Frag) (G H : Hp) (x : Exn) (c : Value) (d : Option Addr) : Prop :=
  mg x.cls = some c ∧ ((x.flds = [] ∧ d = none) ∨ ∃ dx fs, d = some dx ∧ H dx = some (.xd fs) ∧ Paired (fun (p : Str × V) (q : Str × D) => p.1 = q.1 ∧ Dq K G p.2 q.2) fs x.flds)
section
variable {α β γ δ : Type}
def Wp (K : PySem.W.Frag) (mg : Str → Option Value) (Φ : Fx) (W : WX) (σ : L2.St) (ρ : Rel α β) (G : Hp) (r : R α) (Q : β → Hp → Prop) : Prop := match r with
  | .no => False
  | .ok a e => ∀ v H' G' F', Same G G' → Ok K Φ H' G' F' σ e → ρ a v H' G' F' σ e → Q v H'
  | .ex x e => ∀ c d H' G' F', Same G G' → Ok K Φ H' G' F' σ e → ExOk mg K G' H' x c d → W c d σ H'
def tG (K : PySem.W.Frag) (mg : Str → Option Value) (Φ : Fx) (W : WX) (ρ : Rel α β) (f : Fr → R α) : L2.St → Hp → (β → Hp → Prop) → Prop := fun σ H Q => ∃ G F e, Ok K Φ H G F σ e ∧ Wp K mg Φ W σ ρ G (f e) Q
variable {K : PySem.W.Frag} {mg : Str → Option Value} {Φ : Fx} {W : WX} {σ : L2.St} {ρ : Rel α β} {ρ' : Rel γ δ} {G G' : Hp} {r : R α}
theorem Wp.up {Q : β → Hp → Prop} (h : Wp K mg Φ W σ ρ G r Q) (gg : Same G G') : Wp K mg Φ W σ ρ G' r Q := by
  cases r with
  | no => exact h
  | ok a e => exact fun v H' G2 F' s o p => h v H' G2 F' (gg.trans s) o p
  | ex x e => exact fun c d H' G2 F' s o p => h c d H' G2 F' (gg.trans s) o p
/-- one behind the other -/
theorem Wp.seq {f : α → Fr → R γ} {Q : δ → Hp → Prop} (h : Wp K mg Φ W σ ρ' G (r.bind f) Q) :
    Wp K mg Φ W σ ρ G r (fun v H1 => ∃ G1 F1 e1 a, Same G G1 ∧ Ok K Φ H1 G1 F1 σ e1 ∧ ρ a v H1 G1 F1 σ e1 ∧ Wp K mg Φ W σ ρ' G1 (f a e1) Q) := by
  cases r with
  | no => exact h
  | ok a e => exact fun v H' G2 F' s o p => ⟨G2, F', e, a, s, o, p, Wp.up h s⟩
  | ex x e => exact h
theorem Wp.imp {Q Q' : β → Hp → Prop} (h : Wp K mg Φ W σ ρ G r Q) (w : ∀ v H, Q v H → Q' v H) : Wp K mg Φ W σ ρ G r Q' := by
  cases r with
  | no => exact h
  | ok a e => exact fun v H' G2 F' s o p => w _ _ (h v H' G2 F' s o p)
  | ex x e => exact h
/-- to show a reading: from a state -/
theorem tG.mk {f : Fr → R α} {H : Hp} {F : Nat → List Addr} {e : Fr} {Q : β → Hp → Prop} (O : Ok K Φ H G F σ e) (h : Wp K mg Φ W σ ρ G (f e) Q) : tG K mg Φ W ρ f σ H Q := ⟨G, F, e, O, h⟩
end

/-- an argument's value -/
def ra (K : PySem.W.Frag) : Rel Arg V := fun a v _ G _ σ _ => match a with
  | .val d => Dq K G v d
  | .slot i => σ[i]? = some (some v)
theorem ra_up {K : PySem.W.Frag} {a : Arg} {v : V} {H G H' G' : Hp} {F F' : Nat → List Addr} {σ : L2.St} {e e' : Fr} (h : ra K a v H G F σ e) (gg : Same G G') : ra K a v H' G' F' σ e' := by
  cases a with
  | val d => exact dp_mono gg h
  | slot i => exact h
/-- a value that may be new -/
def rr (K : PySem.W.Frag) (Φ : Fx) : Rel RV V := fun r v H G F σ e => match r with
  | .arg a => ra K a v H G F σ e
  | .new w => ∃ a A, v = .ref a ∧ OwAt K G H w a A ∧ (∀ b ∈ A, G b = none ∧ Φ.H_0 b = none) ∧ ∀ j t, e[j]? = some t → t.owned = true → ∀ b ∈ A, b ∉ F j
/-- a list of arguments -/
def rs (K : PySem.W.Frag) : Rel (List Arg) (List V) := fun as vs H G F σ e => Paired (fun a v => ra K a v H G F σ e) as vs
theorem rs_up {K : PySem.W.Frag} {H G H' G' : Hp} {F F' : Nat → List Addr} {σ : L2.St} {e e' : Fr} (gg : Same G G') : ∀ {as : List Arg} {vs : List V}, rs K as vs H G F σ e → rs K as vs H' G' F' σ e'
  | _, _, .nil => .nil
  | _, _, .cons h t => .cons (ra_up h gg) (rs_up gg t)
/-- a truth -/
def rb : Rel Bool Bool := fun a b _ _ _ _ _ => b = a

/-! ### judgements -/
abbrev Ef := Fr → R Arg
abbrev Rf := Fr → R RV
abbrev Af := Fr → R (List Arg)
abbrev Tf := Fr → R Bool
abbrev DE (X : Cx) (Φ : Fx) (W : WX) (e : Expr) (f : Ef) : Prop := PE X e (tG X.K X.mg Φ W (ra X.K) f)
abbrev DR (X : Cx) (Φ : Fx) (W : WX) (e : Expr) (f : Rf) : Prop := PE X e (tG X.K X.mg Φ W (rr X.K Φ) f)
abbrev DA (X : Cx) (Φ : Fx) (W : WX) (es : List Expr) (f : Af) : Prop := PA X es (tG X.K X.mg Φ W (rs X.K) f)
abbrev DT (X : Cx) (Φ : Fx) (W : WX) (e : Expr) (f : Tf) : Prop := PT X e (tG X.K X.mg Φ W rb f)
theorem pe_weak {X : Cx} {e : Expr} {t t' : TE} (h : PE X e t) (w : ∀ σ H Q, t' σ H Q → t σ H Q) : PE X e t' := ⟨fun pins s σ H Q I q => h.run pins s σ H Q I (w σ H Q q)⟩
theorem pt_weak {X : Cx} {e : Expr} {t t' : TT} (h : PT X e t) (w : ∀ σ H Q, t' σ H Q → t σ H Q) : PT X e t' := ⟨fun pins s σ H Q I q => h.run pins s σ H Q I (w σ H Q q)⟩
theorem pw_weak {X : Cx} {e : Expr} {t t' : TT} (h : PW X e t) (w : ∀ σ H Q, t' σ H Q → t σ H Q) : PW X e t' := ⟨fun wh pins s σ H Q I q => h.run wh pins s σ H Q I (w σ H Q q)⟩
theorem pa_weak {X : Cx} {es : List Expr} {t t' : TA} (h : PA X es t) (w : ∀ σ H Q, t' σ H Q → t σ H Q) : PA X es t' := ⟨fun pos pins s σ H Q I q => h.run pos pins s σ H Q I (w σ H Q q)⟩
theorem ps_weak {X : Cx} {st : Stmt} {t t' : TS} (h : PS X st t) (w : ∀ D σ H, t' D σ H → t D σ H) : PS X st t' := ⟨fun pins s σ H D I q => h.run pins s σ H D I (w D σ H q)⟩
theorem pss_weak {X : Cx} {st : List Stmt} {t t' : TS} (h : PSs X st t) (w : ∀ D σ H, t' D σ H → t D σ H) : PSs X st t' := ⟨fun pins s σ H D I q => h.run pins s σ H D I (w D σ H q)⟩
end DL
set_option Elab.async false
set_option linter.all false
set_option maxRecDepth 100000
set_option maxHeartbeats 4000000
/-! DlC: what a use of arguments reads; operations on data. -/
namespace DL
open PySem L2

/-- read now: frozen, or an object of the frame's own of frozen items -/
inductive Bp (K : PySem.W.Frag) (H G : Hp) : V → D → Prop where
  | dp {v : V} {d : D} (h : Dq K G v d) : Bp K H G v d
  | own {a : Addr} {vs : List V} {ds : List D} (h : H a = some (.lst vs)) (r : DqAll K G vs ds) : Bp K H G (.ref a) (.list ds)
  | ownK {a : Addr} {kk : List Key} {vs : List V} {kvs : List (D × D)} (h : H a = some (.dK (kk.zip vs))) (l : kk.length = vs.length) (q : kvs.map (·.1) = kk.map kD) (r : DqAll K G vs (kvs.map (·.2))) : Bp K H G (.ref a) (.dict kvs)
  | ownT {a : Addr} {xs : List (Int × Addr × Value)} {vs : List V} {kvs : List (D × D)} (h : H a = some (DxO a xs)) (l : xs.map (·.1) = hashL (kvs.map (·.1))) (n : (kvs.map (·.1)).Nodup) (q : Vals vs (xs.map (·.2.2))) (t : DqAll K G (xs.map fun x => V.ref x.2.1) (kvs.map (·.1))) (r : DqAll K G vs (kvs.map (·.2))) : Bp K H G (.ref a) (.dict ((.none, .none) :: kvs))
abbrev BpAll (K : PySem.W.Frag) (H G : Hp) : List V → List D → Prop := Paired (Bp K H G)
section
variable {K : PySem.W.Frag} {H G : Hp} {v : V} {d : D}
theorem Bp.none (b : Bp K H G v .none) : v = .non := by cases b with | dp h => cases h; rfl
theorem Bp.bool {x : Bool} (b : Bp K H G v (.bool x)) : v = .bl x := by cases b with | dp h => cases h; rfl
theorem Bp.int {x : Int} (b : Bp K H G v (.int x)) : v = .int x := by cases b with | dp h => cases h; rfl
theorem Bp.str {x : Str} (b : Bp K H G v (.str x)) : v = .str x := by cases b with | dp h => cases h; rfl
theorem Bp.tup {ds : List D} (b : Bp K H G v (.tuple ds)) (gh : Same G H) : ∃ a vs, v = .ref a ∧ SqT K H a vs ∧ DqAll K G vs ds := by
  cases b with
  | dp h =>
    cases h with
    | tup h1 _ h2 => exact ⟨_, _, rfl, same_t gh h1, h2⟩
theorem Bp.tupG {ds : List D} (b : Bp K H G v (.tuple ds)) : ∃ a vs, v = .ref a ∧ SqT K G a vs ∧ DqAll K G vs ds := by
  cases b with
  | dp h =>
    cases h with
    | tup h1 _ h2 => exact ⟨_, _, rfl, h1, h2⟩
theorem Bp.lst {ds : List D} (b : Bp K H G v (.list ds)) (gh : Same G H) : ∃ a vs, v = .ref a ∧ SqL K H a vs ∧ DqAll K G vs ds := by
  cases b with
  | dp h =>
    cases h with
    | lst h1 h2 => exact ⟨_, _, rfl, same_l gh h1, h2⟩
  | own h r => exact ⟨_, _, rfl, .of h, r⟩
theorem Bp.dpH (b : Bp K H G v d) (gh : Same G H) : Dq K H v d := by
  cases b with
  | dp h => exact dp_mono gh h
  | own h r => exact .lst (.of h) (dpa_mono gh r)
  | ownK h l q r => exact .dk (.inl h) l q (dpa_mono gh r)
  | ownT h l n q t r => exact .dt (.inl h) l n q (dpa_mono gh t) (dpa_mono gh r)
theorem no_kD {kk : List Key} {kvs : List (D × D)} (h : ((PyData.none, PyData.none) :: kvs : List (D × D)).map (·.1) = kk.map kD) : False := by
  cases kk with
  | nil => cases h
  | cons k kk =>
    rw [List.map_cons, List.map_cons] at h
    injection h with h1 _
    cases k <;> cases h1
/-- a dict by whole numbers and texts -/
theorem Bp.dk {kvs : List (D × D)} (b : Bp K H G v (.dict kvs)) (gh : Same G H) (n : ∀ r, kvs ≠ (.none, .none) :: r) : ∃ (a : Addr) (vs : List V) (kk : List Key), v = .ref a ∧ Rd H a (.dK (kk.zip vs)) ∧ kk.length = vs.length ∧ kvs.map (·.1) = kk.map kD ∧ DqAll K G vs (kvs.map (·.2)) := by
  cases b with
  | dp h =>
    cases h with
    | dk h l q r => exact ⟨_, _, _, rfl, same_rd gh h, l, q, r⟩
    | dt _ _ _ _ _ _ => exact absurd rfl (n _)
  | ownK h l q r => exact ⟨_, _, _, rfl, .inl h, l, q, r⟩
  | ownT _ _ _ _ _ _ => exact absurd rfl (n _)
/-- a dict by tuples -/
theorem Bp.dt {kvs : List (D × D)} (b : Bp K H G v (.dict ((.none, .none) :: kvs))) (gh : Same G H) : ∃ (a : Addr) (vs : List V) (xs : List (Int × Addr × Value)), v = .ref a ∧ Rd H a (DxO a xs) ∧ xs.map (·.1) = hashL (kvs.map (·.1)) ∧ (kvs.map (·.1)).Nodup ∧ Vals vs (xs.map (·.2.2)) ∧
    DqAll K G (xs.map fun x => V.ref x.2.1) (kvs.map (·.1)) ∧ DqAll K G vs (kvs.map (·.2)) := by
  cases b with
  | dp h =>
    cases h with
    | dk h l q r => exact (no_kD q).elim
    | dt h l n q t r => exact ⟨_, _, _, rfl, same_rd gh h, l, n, q, t, r⟩
  | ownK h l q r => exact (no_kD q).elim
  | ownT h l n q t r => exact ⟨_, _, _, rfl, .inl h, l, n, q, t, r⟩
theorem Bp.nd {ds : List D} (b : Bp K H G v (.tuple ds)) (gh : Same G H) : ∃ a, v = .ref a ∧ Nd K H a := by
  cases b with
  | dp h =>
    cases h with
    | tup _ n _ => exact ⟨_, rfl, same_nd gh n⟩
theorem lay_nodict : ∀ d : D, d.canLay0 = true → d.hasDict = false
  | .none, _ => by simp only [PyData.hasDict]
  | .bool _, _ => by simp only [PyData.hasDict]
  | .int _, _ => by simp only [PyData.hasDict]
  | .str _, _ => by simp only [PyData.hasDict]
  | .list ds, h => by
    simp only [PyData.hasDict]
    exact lay_nodicts ds (by simpa only [PyData.canLay0] using h)
  | .tuple ds, h => by
    simp only [PyData.hasDict]
    exact lay_nodicts ds (by simpa only [PyData.canLay0] using h)
  | .dict _, h => by simp [PyData.canLay0] at h
where lay_nodicts : ∀ ds : List D, PyData.canLayAll0 ds = true → PyData.hasDictAll ds = false
  | [], _ => by simp only [PyData.hasDictAll]
  | d :: ds, h => by
    simp only [PyData.canLayAll0, Bool.and_eq_true] at h
    simp only [PyData.hasDictAll, lay_nodict d h.1, lay_nodicts ds h.2, Bool.or_false]
theorem Bp.dpS (b : Bp K H G v d) (gh : Same G H) (h : SeqAt.shaped d = true) : Dp K H v d := (b.dpH gh).dp (lay_nodict d (SeqAt.canLay_of_shaped h))
end

theorem owls {K : PySem.W.Frag} {G H : Hp} {ds : List D} {a : Addr} {A : List Addr} (h : OwAt K G H (.ls ds) a A) : ∃ vs, H a = some (.lst vs) ∧ DqAll K G vs ds ∧ A = [a] := by
  cases h with
  | ls h1 h2 => exact ⟨_, h1, h2, rfl⟩
theorem owdc {K : PySem.W.Frag} {G H : Hp} {tk : Bool} {kvs : List (D × D)} {a : Addr} {A : List Addr} (h : OwAt K G H (.dc tk kvs) a A) : Bp K H G (.ref a) (Ow.dc tk kvs).toD ∧ A = [a] := by
  cases h with
  | dk h l q r => exact ⟨.ownK h l q r, rfl⟩
  | dt h l n q t r => exact ⟨.ownT h l n q t r, rfl⟩
theorem owll {K : PySem.W.Frag} {G H : Hp} {dss : List (List D)} {a : Addr} {A : List Addr} (h : OwAt K G H (.ll dss) a A) : ∃ bs : List Addr, H a = some (.lst (bs.map V.ref)) ∧ bs.length = dss.length ∧ (a :: bs).Nodup ∧
    (∀ (j : Nat) (b : Addr) (ds : List D), bs[j]? = some b → dss[j]? = some ds → ∃ vs, H b = some (.lst vs) ∧ DqAll K G vs ds) ∧ A = a :: bs := by
  cases h with
  | ll h1 h2 h3 h4 => exact ⟨_, h1, h2, h3, h4, rfl⟩
/-- an argument, read now -/
def rd1 (e : Fr) : Arg → Option D
  | .val d => some d
  | .slot i => match e[i]? with
    | some (.sh d) => some d
    | some (.own (.ls ds)) => some (.list ds)
    | some (.io (.ls ds)) => some (.list ds)
    | some (.own (.dc tk kvs)) => some (Ow.dc tk kvs).toD
    | some (.io (.dc tk kvs)) => some (Ow.dc tk kvs).toD
    | _ => none
def rdA (e : Fr) : List Arg → Option (List D)
  | [] => some []
  | a :: as => match rd1 e a with
    | some d => match rdA e as with
      | some ds => some (d :: ds)
      | none => none
    | none => none
section
variable {K : PySem.W.Frag} {Φ : Fx} {H G : Hp} {F : Nat → List Addr} {σ : L2.St} {e : Fr}
theorem bp_of (O : Ok K Φ H G F σ e) {a : Arg} {v : V} {d : D} (r : ra K a v H G F σ e) (q : rd1 e a = some d) : Bp K H G v d := by
  cases a with
  | val d' =>
    cases q
    exact .dp r
  | slot i =>
    have r' : σ[i]? = some (some v) := r
    have q' : (match e[i]? with
      | some (.sh d) => some d
      | some (.own (.ls ds)) => some (PyData.list ds)
      | some (.io (.ls ds)) => some (PyData.list ds)
      | some (.own (.dc tk kvs)) => some (Ow.dc tk kvs).toD
      | some (.io (.dc tk kvs)) => some (Ow.dc tk kvs).toD
      | _ => none) = some d := q
    split at q'
    · rename_i d2 he
      cases q'
      obtain ⟨v2, e2, h2⟩ := O.slots i _ he
      rw [r'] at e2
      cases e2
      exact .dp h2
    · rename_i ds he
      cases q'
      obtain ⟨a2, e2, h2, _⟩ := O.slots i _ he
      rw [r'] at e2
      cases e2
      obtain ⟨vs, h3, h4, _⟩ := owls h2
      exact .own h3 h4
    · rename_i ds he
      cases q'
      obtain ⟨a2, e2, h2, _⟩ := O.slots i _ he
      rw [r'] at e2
      cases e2
      obtain ⟨vs, h3, h4, _⟩ := owls h2
      exact .own h3 h4
    · rename_i tk kvs he
      cases q'
      obtain ⟨a2, e2, h2, _⟩ := O.slots i _ he
      rw [r'] at e2
      cases e2
      exact (owdc h2).1
    · rename_i tk kvs he
      cases q'
      obtain ⟨a2, e2, h2, _⟩ := O.slots i _ he
      rw [r'] at e2
      cases e2
      exact (owdc h2).1
    · cases q'
theorem bps_of (O : Ok K Φ H G F σ e) : ∀ {as : List Arg} {vs : List V} {ds : List D}, rs K as vs H G F σ e → rdA e as = some ds → BpAll K H G vs ds
  | [], _, _, r, q => by
    cases r
    cases q
    exact .nil
  | a :: as, _, _, r, q => by
    cases r with
    | cons h t =>
      have q' : (match rd1 e a with
        | some d => match rdA e as with
          | some ds => some (d :: ds)
          | none => none
        | none => none) = some _ := q
      split at q'
      · rename_i d e1
        split at q'
        · rename_i ds e2
          cases q'
          exact .cons (bp_of O h e1) (bps_of O t e2)
        · cases q'
      · cases q'
end

/-! ### operations that give a value -/
/-- what a rule on values asks, when it does op on data -/
def r2 (K : PySem.W.Frag) (op : D → D → Option D) : R2 := fun x y H Q => ∃ G d1 d2 d, Same G H ∧ Bp K H G x d1 ∧ Bp K H G y d2 ∧ op d1 d2 = some d ∧ ∀ v H' G', Grow H G H' G' → Dq K G' v d → Q v H'
def r1 (K : PySem.W.Frag) (op : D → Option D) : V → Hp → VK → Prop := fun x H Q => ∃ G d1 d, Same G H ∧ Bp K H G x d1 ∧ op d1 = some d ∧ ∀ v H' G', Grow H G H' G' → Dq K G' v d → Q v H'
def rP (K : PySem.W.Frag) (op : List D → Option D) : List V → Hp → VK → Prop := fun xs H Q => ∃ G ds d, Same G H ∧ BpAll K H G xs ds ∧ op ds = some d ∧ ∀ v H' G', Grow H G H' G' → Dq K G' v d → Q v H'
/-- .. a new list -/
def rN (K : PySem.W.Frag) (op : List D → Option (List D)) : List V → Hp → VK → Prop := fun xs H Q => ∃ G ds es, Same G H ∧ BpAll K H G xs ds ∧ op ds = some es ∧ ∀ p vs, H p = none → vs.length = es.length → DqAll K G vs es → Q (.ref p) (upd H p (.lst vs))

def dAdd : D → D → Option D
  | .int i, .int j => some (.int (i + j))
  | .str x, .str y => if x.length + y.length ≤ sizeLine then some (.str (x ++ y)) else none
  | .tuple xs, .tuple ys => if xs.length + ys.length ≤ sizeLine then some (.tuple (xs ++ ys)) else none
  | _, _ => none
def dSub : D → D → Option D
  | .int i, .int j => some (.int (i - j))
  | _, _ => none
def dMul : D → D → Option D
  | .int i, .int j => if (Builtin.Int.intBits i : Int) + (Builtin.Int.intBits j : Int) ≤ 134217728 then some (.int (i * j)) else none
  | _, _ => none
def dFdiv : D → D → Option D
  | .int i, .int j => if j ≠ 0 ∧ j.natAbs.log2 < 9000 then some (.int (i.fdiv j)) else none
  | _, _ => none
def dMod : D → D → Option D
  | .int i, .int j => if j ≠ 0 then some (.int (i.fmod j)) else none
  | _, _ => none
def dPow : D → D → Option D
  | .int i, .int j => if 0 ≤ j ∧ j ≤ 1000000 ∧ i.natAbs < 2 ^ 64 then some (.int (i ^ j.toNat)) else none
  | _, _ => none
def dNeg : D → Option D
  | .int i => some (.int (-i))
  | _ => none
def dLt : D → D → Option D
  | .int i, .int j => some (.bool (decide (i < j)))
  | _, _ => none
def dLe : D → D → Option D
  | .int i, .int j => some (.bool (decide (i ≤ j)))
  | _, _ => none
def dGt : D → D → Option D
  | .int i, .int j => some (.bool (decide (j < i)))
  | _, _ => none
def dGe : D → D → Option D
  | .int i, .int j => some (.bool (decide (j ≤ i)))
  | _, _ => none
def bothStr : D → D → Bool
  | .str _, .str _ => true
  | _, _ => false
def dEq : D → D → Option D := fun x y => if bothStr x y = true then some (.bool (PyData.eqv x y)) else if SeqAt.shaped x = true ∧ SeqAt.shaped y = true then some (.bool (PyData.eqv x y)) else none
def dNe : D → D → Option D := fun x y => if bothStr x y = true then some (.bool (!PyData.eqv x y)) else if SeqAt.shaped x = true ∧ SeqAt.shaped y = true then some (.bool (!PyData.eqv x y)) else none
def isNone : D → Bool
  | .none => true
  | _ => false
def dIs : D → D → Option D
  | .bool a, .bool b => some (.bool (decide (a = b)))
  | x, .none => some (.bool (isNone x))
  | _, _ => none
def dIsN : D → D → Option D
  | .bool a, .bool b => some (.bool (!decide (a = b)))
  | x, .none => some (.bool (!isNone x))
  | _, _ => none
/-- x[i] -/
def dIx : D → D → Option D
  | .list xs, .int i => atI xs i
  | .tuple xs, .int i => atI xs i
  | .str z, .int i => if z.length ≤ sizeLine then (atI z.cps.toList i).map fun c => .str ⟨#[c]⟩ else none
  | _, _ => none

section
variable {X : Cx}
theorem op_dAdd : OpR X (binaryOp .Add) (r2 X.K dAdd) := by
  intro pins s σ H x y v u Q I rx ry h
  obtain ⟨G, d1, d2, d, gh, b1, b2, ho, k⟩ := h
  unfold dAdd at ho
  split at ho
  · cases ho
    obtain rfl := b1.int
    obtain rfl := b2.int
    exact op_add pins s σ H _ _ v u Q I rx ry ⟨_, _, rfl, rfl, k _ _ _ (Grow.refl gh) (.int _)⟩
  · split at ho
    · rename_i hz
      cases ho
      obtain rfl := b1.str
      obtain rfl := b2.str
      exact op_add_str pins s σ H _ _ v u Q I rx ry ⟨_, _, rfl, rfl, hz, k _ _ _ (Grow.refl gh) (.str _)⟩
    · cases ho
  · split at ho
    · rename_i hz
      cases ho
      obtain ⟨a1, vs1, rfl, t1, p1⟩ := b1.tup gh
      obtain ⟨a2, vs2, rfl, t2, p2⟩ := b2.tup gh
      have l1 := DqAll.len p1
      have l2 := DqAll.len p2
      refine op_catF pins s σ H _ _ v u Q I rx ry ⟨a1, a2, vs1, vs2, rfl, rfl, t1, t2, by rw [l1, l2]; exact hz, fun z => ?_, fun _ z => ?_, fun _ _ p o hp hd => ?_⟩
      · subst z
        cases p1
        refine k _ H G (Grow.refl gh) ?_
        cases b2 with
        | dp h => exact h
      · subst z
        cases p2
        refine k _ H G (Grow.refl gh) ?_
        rw [List.append_nil]
        cases b1 with
        | dp h => exact h
      · exact k _ _ _ (Grow.laid gh hp) (Dq.newT (same_back gh hp) hd (DqAll.app p1 p2))
    · cases ho
  · cases ho
theorem op_dSub : OpR X (binaryOp .Sub) (r2 X.K dSub) := by
  intro pins s σ H x y v u Q I rx ry h
  obtain ⟨G, d1, d2, d, gh, b1, b2, ho, k⟩ := h
  unfold dSub at ho
  split at ho
  · cases ho
    obtain rfl := b1.int
    obtain rfl := b2.int
    exact op_sub pins s σ H _ _ v u Q I rx ry ⟨_, _, rfl, rfl, k _ _ _ (Grow.refl gh) (.int _)⟩
  · cases ho
theorem op_dMul : OpR X (binaryOp .Mult) (r2 X.K dMul) := by
  intro pins s σ H x y v u Q I rx ry h
  obtain ⟨G, d1, d2, d, gh, b1, b2, ho, k⟩ := h
  unfold dMul at ho
  split at ho
  · split at ho
    · rename_i hc
      cases ho
      obtain rfl := b1.int
      obtain rfl := b2.int
      exact op_mulX pins s σ H _ _ v u Q I rx ry ⟨_, _, rfl, rfl, hc, k _ _ _ (Grow.refl gh) (.int _)⟩
    · cases ho
  · cases ho
theorem op_fdivX : OpR X (binaryOp .FloorDiv) (rI (fun _ j => j ≠ 0 ∧ j.natAbs.log2 < 9000) fun i j => .int (i.fdiv j)) := opI fun i j _ _ _ _ _ hc q => PyProof.Rows.floordiv_int hc.1 q (.inl (PyProof.noPylong_of_log2 hc.2))
theorem op_dFdiv : OpR X (binaryOp .FloorDiv) (r2 X.K dFdiv) := by
  intro pins s σ H x y v u Q I rx ry h
  obtain ⟨G, d1, d2, d, gh, b1, b2, ho, k⟩ := h
  unfold dFdiv at ho
  split at ho
  · split at ho
    · rename_i hc
      cases ho
      obtain rfl := b1.int
      obtain rfl := b2.int
      exact op_fdivX pins s σ H _ _ v u Q I rx ry ⟨_, _, rfl, rfl, hc, k _ _ _ (Grow.refl gh) (.int _)⟩
    · cases ho
  · cases ho
theorem op_dMod : OpR X (binaryOp .Mod) (r2 X.K dMod) := by
  intro pins s σ H x y v u Q I rx ry h
  obtain ⟨G, d1, d2, d, gh, b1, b2, ho, k⟩ := h
  unfold dMod at ho
  split at ho
  · split at ho
    · rename_i hc
      cases ho
      obtain rfl := b1.int
      obtain rfl := b2.int
      exact op_modN pins s σ H _ _ v u Q I rx ry ⟨_, _, rfl, rfl, hc, k _ _ _ (Grow.refl gh) (.int _)⟩
    · cases ho
  · cases ho
theorem op_dPow : OpR X (binaryOp .Pow) (r2 X.K dPow) := by
  intro pins s σ H x y v u Q I rx ry h
  obtain ⟨G, d1, d2, d, gh, b1, b2, ho, k⟩ := h
  unfold dPow at ho
  split at ho
  · split at ho
    · rename_i hc
      cases ho
      obtain rfl := b1.int
      obtain rfl := b2.int
      exact op_pow pins s σ H _ _ v u Q I rx ry ⟨_, _, rfl, rfl, hc, k _ _ _ (Grow.refl gh) (.int _)⟩
    · cases ho
  · cases ho
theorem op_dNeg : UnR X (unaryOp .USub) (r1 X.K dNeg) := by
  intro pins s σ H x v Q I rx h
  obtain ⟨G, d1, d, gh, b1, ho, k⟩ := h
  unfold dNeg at ho
  split at ho
  · cases ho
    obtain rfl := b1.int
    exact un_neg pins s σ H _ v Q I rx ⟨_, rfl, k _ _ _ (Grow.refl gh) (.int _)⟩
  · cases ho
theorem op_dLt : OpR X (compareOp .Lt) (r2 X.K dLt) := by
  intro pins s σ H x y v u Q I rx ry h
  obtain ⟨G, d1, d2, d, gh, b1, b2, ho, k⟩ := h
  unfold dLt at ho
  split at ho
  · cases ho
    obtain rfl := b1.int
    obtain rfl := b2.int
    exact op_lt pins s σ H _ _ v u Q I rx ry ⟨_, _, rfl, rfl, k _ _ _ (Grow.refl gh) (.bl _)⟩
  · cases ho
theorem op_dLe : OpR X (compareOp .LtE) (r2 X.K dLe) := by
  intro pins s σ H x y v u Q I rx ry h
  obtain ⟨G, d1, d2, d, gh, b1, b2, ho, k⟩ := h
  unfold dLe at ho
  split at ho
  · cases ho
    obtain rfl := b1.int
    obtain rfl := b2.int
    exact op_le pins s σ H _ _ v u Q I rx ry ⟨_, _, rfl, rfl, k _ _ _ (Grow.refl gh) (.bl _)⟩
  · cases ho
theorem op_dGt : OpR X (compareOp .Gt) (r2 X.K dGt) := by
  intro pins s σ H x y v u Q I rx ry h
  obtain ⟨G, d1, d2, d, gh, b1, b2, ho, k⟩ := h
  unfold dGt at ho
  split at ho
  · cases ho
    obtain rfl := b1.int
    obtain rfl := b2.int
    exact op_gt pins s σ H _ _ v u Q I rx ry ⟨_, _, rfl, rfl, k _ _ _ (Grow.refl gh) (.bl _)⟩
  · cases ho
theorem op_dGe : OpR X (compareOp .GtE) (r2 X.K dGe) := by
  intro pins s σ H x y v u Q I rx ry h
  obtain ⟨G, d1, d2, d, gh, b1, b2, ho, k⟩ := h
  unfold dGe at ho
  split at ho
  · cases ho
    obtain rfl := b1.int
    obtain rfl := b2.int
    exact op_ge pins s σ H _ _ v u Q I rx ry ⟨_, _, rfl, rfl, k _ _ _ (Grow.refl gh) (.bl _)⟩
  · cases ho
theorem dec_str {i j : Str} : decide (V.str i = V.str j) = PyData.eqv (.str i) (.str j) := by
  simp only [PyData.eqv]
  rw [Bool.eq_iff_iff]
  simp
theorem op_dEq (hu : X.A.units + 64 < cLine) : OpR X (compareOp .Eq) (r2 X.K dEq) := by
  intro pins s σ H x y v u Q I rx ry h
  obtain ⟨G, d1, d2, d, gh, b1, b2, ho, k⟩ := h
  unfold dEq at ho
  split at ho
  · rename_i hc
    cases ho
    cases d1 <;> first | exact absurd hc Bool.false_ne_true | skip
    cases d2 <;> first | exact absurd hc Bool.false_ne_true | skip
    rename_i z1 z2
    obtain rfl := b1.str
    obtain rfl := b2.str
    refine op_eq pins s σ H _ _ v u Q I rx ry ⟨rfl, ?_⟩
    rw [dec_str]
    exact k _ _ _ (Grow.refl gh) (.bl _)
  split at ho
  · rename_i hc
    cases ho
    exact op_eqD hu pins s σ H _ _ v u Q I rx ry ⟨_, _, b1.dpS gh hc.1, b2.dpS gh hc.2, hc.1, hc.2, k _ _ _ (Grow.refl gh) (.bl _)⟩
  · cases ho
theorem op_dNe (hu : X.A.units + 64 < cLine) : OpR X (compareOp .NotEq) (r2 X.K dNe) := by
  intro pins s σ H x y v u Q I rx ry h
  obtain ⟨G, d1, d2, d, gh, b1, b2, ho, k⟩ := h
  unfold dNe at ho
  split at ho
  · rename_i hc
    cases ho
    cases d1 <;> first | exact absurd hc Bool.false_ne_true | skip
    cases d2 <;> first | exact absurd hc Bool.false_ne_true | skip
    rename_i z1 z2
    obtain rfl := b1.str
    obtain rfl := b2.str
    refine op_ne pins s σ H _ _ v u Q I rx ry ⟨rfl, ?_⟩
    rw [dec_str]
    exact k _ _ _ (Grow.refl gh) (.bl _)
  split at ho
  · rename_i hc
    cases ho
    exact op_neD hu pins s σ H _ _ v u Q I rx ry ⟨_, _, b1.dpS gh hc.1, b2.dpS gh hc.2, hc.1, hc.2, k _ _ _ (Grow.refl gh) (.bl _)⟩
  · cases ho
theorem isNone_v {K : PySem.W.Frag} {H : Hp} {v : V} {d : D} (h : Dq K H v d) : decide (v = .non) = isNone d := by
  cases h <;> rfl
theorem op_dIs : OpR X (compareOp .Is) (r2 X.K dIs) := by
  intro pins s σ H x y v u Q I rx ry h
  obtain ⟨G, d1, d2, d, gh, b1, b2, ho, k⟩ := h
  unfold dIs at ho
  split at ho
  · cases ho
    obtain rfl := b1.bool
    obtain rfl := b2.bool
    exact op_isBl pins s σ H _ _ v u Q I rx ry ⟨_, _, rfl, rfl, k _ _ _ (Grow.refl gh) (.bl _)⟩
  · cases ho
    obtain rfl := b2.none
    exact op_isN pins s σ H _ _ v u Q I rx ry ⟨rfl, k _ _ _ (Grow.refl gh) (by rw [isNone_v (b1.dpH gh)]; exact .bl _)⟩
  · cases ho
theorem op_dIsN : OpR X (compareOp .IsNot) (r2 X.K dIsN) := by
  intro pins s σ H x y v u Q I rx ry h
  obtain ⟨G, d1, d2, d, gh, b1, b2, ho, k⟩ := h
  unfold dIsN at ho
  split at ho
  · cases ho
    obtain rfl := b1.bool
    obtain rfl := b2.bool
    exact op_notBl pins s σ H _ _ v u Q I rx ry ⟨_, _, rfl, rfl, k _ _ _ (Grow.refl gh) (.bl _)⟩
  · cases ho
    obtain rfl := b2.none
    exact op_notN pins s σ H _ _ v u Q I rx ry ⟨rfl, k _ _ _ (Grow.refl gh) (by rw [isNone_v (b1.dpH gh)]; exact .bl _)⟩
  · cases ho
theorem atI_dp {K : PySem.W.Frag} {G : Hp} {vs : List V} {ds : List D} {i : Int} {d : D} (p : DqAll K G vs ds) (h : atI ds i = some d) : ∃ v, atI vs i = some v ∧ Dq K G v d := by
  unfold atI at h ⊢
  rw [DqAll.len p]
  cases e : ixN ds.length i with
  | none =>
    rw [e] at h
    cases h
  | some j =>
    rw [e] at h
    exact DqAll.at p h
theorem ix_d : IxR X (r2 X.K dIx) := by
  intro value slice pins s σ H x y v u Q I rx ry h hs
  obtain ⟨G, d1, d2, d, gh, b1, b2, ho, k⟩ := h
  unfold dIx at ho
  split at ho
  · rename_i xs i
    obtain ⟨a, vs, rfl, t, p⟩ := b1.lst gh
    obtain ⟨w, e1, h1⟩ := atI_dp p ho
    obtain rfl := b2.int
    exact ix_list value slice pins s σ H _ _ v u Q I rx ry ⟨a, vs, i, w, rfl, rfl, t, e1, k _ _ _ (Grow.refl gh) h1⟩ hs
  · rename_i xs i
    obtain ⟨a, vs, rfl, t, p⟩ := b1.tup gh
    obtain ⟨w, e1, h1⟩ := atI_dp p ho
    obtain rfl := b2.int
    exact ix_tup value slice pins s σ H _ _ v u Q I rx ry ⟨a, vs, i, w, rfl, rfl, t, e1, k _ _ _ (Grow.refl gh) h1⟩ hs
  · rename_i z i
    split at ho
    · rename_i hz
      cases e : atI z.cps.toList i with
      | none =>
        rw [e] at ho
        cases ho
      | some c =>
        rw [e] at ho
        cases ho
        obtain rfl := b1.str
        obtain rfl := b2.int
        exact ix_str value slice pins s σ H _ _ v u Q I rx ry ⟨z, i, c, rfl, rfl, hz, e, k _ _ _ (Grow.refl gh) (.str _)⟩ hs
    · cases ho
  · cases ho
end

/-! ### slices -/
def cutD (xs : List D) (lo hi : Option Int) : List D := (xs.drop (HT.sIx xs.length 0 lo)).take (HT.sIx xs.length xs.length hi - HT.sIx xs.length 0 lo)
theorem cut_dp {K : PySem.W.Frag} {G : Hp} {vs : List V} {ds : List D} (p : DqAll K G vs ds) (lo hi : Option Int) : DqAll K G (cutV vs lo hi) (cutD ds lo hi) := by
  unfold cutV cutD
  rw [DqAll.len p]
  exact DqAll.take _ (DqAll.drop _ p)
/-- a slice of a tuple, a text; of a list it is a new list -/
def dCut : D → Option Int → Option Int → Option D
  | .tuple xs, lo, hi => some (.tuple (cutD xs lo hi))
  | .str z, lo, hi => if z.length ≤ sizeLine then some (.str (cutS z lo hi)) else none
  | _, _, _ => none
def rCut (K : PySem.W.Frag) : V → Option Int → Option Int → Hp → VK → Prop := fun x lo hi H Q => ∃ G d1 d, Same G H ∧ Bp K H G x d1 ∧ dCut d1 lo hi = some d ∧ ∀ v H' G', Grow H G H' G' → Dq K G' v d → Q v H'
def rCutN (K : PySem.W.Frag) : V → Option Int → Option Int → Hp → VK → Prop := fun x lo hi H Q => ∃ G ds, Same G H ∧ Bp K H G x (.list ds) ∧ ∀ p vs, H p = none → DqAll K G vs (cutD ds lo hi) → Q (.ref p) (upd H p (.lst vs))
section
variable {X : Cx}
theorem cutD_whole {xs : List D} {lo hi : Option Int} (h : HT.sIx xs.length 0 lo = 0 ∧ HT.sIx xs.length xs.length hi = xs.length) : cutD xs lo hi = xs := by
  unfold cutD
  rw [h.1, h.2]
  simp
theorem sl_d : SlR X (rCut X.K) := by
  intro pins s σ H x v vl vu lo hi sl Q I rx hs pl pu h
  obtain ⟨G, d1, d, gh, b1, ho, k⟩ := h
  unfold dCut at ho
  split at ho
  · rename_i xs
    cases ho
    obtain ⟨a, vs, rfl, t, p⟩ := b1.tup gh
    have l := DqAll.len p
    refine sl_tupF pins s σ H _ v vl vu lo hi sl Q I rx hs pl pu ⟨a, vs, rfl, t, fun z => ?_, fun _ q o hq hd => ?_⟩
    · rw [l] at z
      rw [cutD_whole z] at k
      refine k _ H G (Grow.refl gh) ?_
      cases b1 with
      | dp h => exact h
    · exact k _ _ _ (Grow.laid gh hq) (Dq.newT (same_back gh hq) hd (cut_dp p lo hi))
  · split at ho
    · rename_i hz
      cases ho
      obtain rfl := b1.str
      exact sl_str pins s σ H _ v vl vu lo hi sl Q I rx hs pl pu ⟨_, rfl, hz, k _ _ _ (Grow.refl gh) (.str _)⟩
    · cases ho
  · cases ho
theorem sl_dN : SlR X (rCutN X.K) := by
  intro pins s σ H x v vl vu lo hi sl Q I rx hs pl pu h
  obtain ⟨G, ds, gh, b1, k⟩ := h
  obtain ⟨a, vs, rfl, t, p⟩ := b1.lst gh
  exact sl_list pins s σ H _ v vl vu lo hi sl Q I rx hs pl pu ⟨a, vs, rfl, t, fun q hq => k q _ hq (cut_dp p lo hi)⟩
end

/-! ### truth -/
def truth : D → Option Bool
  | .none => some false
  | .bool b => some b
  | .int i => some (i != 0)
  | .str y => if y.length ≤ sizeLine then some ((y.length : Int) != 0) else none
  | .list xs => some (!xs.isEmpty)
  | .tuple xs => some (!xs.isEmpty)
  | .dict _ => none
theorem truth_v {K : PySem.W.Frag} {H G : Hp} {v : V} {d : D} {k : Bool} (b : Bp K H G v d) (gh : Same G H) (h : truth d = some k) : TruV K v H k := by
  have emp : ∀ {vs : List V} {ds : List D}, DqAll K G vs ds → (!ds.isEmpty) = !vs.isEmpty := fun p => by
    cases p <;> rfl
  unfold truth at h
  split at h
  · cases h
    rw [b.none]
    rfl
  · cases h
    rw [b.bool]
    rfl
  · cases h
    rw [b.int]
    rfl
  · split at h
    · rename_i hz
      cases h
      rw [b.str]
      exact ⟨hz, rfl⟩
    · cases h
  · cases h
    obtain ⟨a, vs, rfl, t, p⟩ := b.lst gh
    exact .inl ⟨vs, t, emp p⟩
  · cases h
    obtain ⟨a, vs, rfl, t, p⟩ := b.tup gh
    exact .inr (.inl ⟨vs, t, emp p⟩)
  · cases h
end DL
set_option Elab.async false
set_option linter.all false
set_option maxRecDepth 100000
set_option maxHeartbeats 4000000
/-! DlD: expressions. -/
namespace DL
open PySem L2

section
variable {K : PySem.W.Frag} {Φ : Fx} {H G : Hp} {F : Nat → List Addr} {σ : L2.St} {e : Fr}
/-- an object that no slot has is frozen -/
theorem Ok.takes {w : Ow} {a : Addr} {A : List Addr} (O : Ok K Φ H G F σ e) (h : OwAt K G H w a A) (n : ∀ b ∈ A, G b = none ∧ Φ.H_0 b = none) (ap : ∀ j t, e[j]? = some t → t.owned = true → ∀ b ∈ A, b ∉ F j) :
    Same G (takeIn H G A) ∧ Ok K Φ H (takeIn H G A) F σ e ∧ Dq K (takeIn H G A) (.ref a) w.toD := by
  have hs : Same G (takeIn H G A) := takeIn_same fun b hb => (n b hb).1
  refine ⟨hs, ?_, h.dp hs fun b hb => takeIn_in hb⟩
  refine ⟨takeIn_sub O.gh, O.len, fun j s q => ?_, O.sep, O.f0, O.f1, fun b hb => ?_⟩
  · have old := O.slots j s q
    have out : s.owned = true → ∀ b ∈ F j, b ∉ A := fun o b hb hb2 => ap j s q o b hb2 hb
    cases s with
    | un => trivial
    | xn => first | exact old | exact h | exact h1 | exact h2 | exact q | exact O.slots _ _ ‹_›
    | sh d =>
      obtain ⟨v, e2, h3⟩ := old
      exact ⟨v, e2, dp_mono hs h3⟩
    | own u =>
      obtain ⟨a2, e2, h3, h4⟩ := old
      exact ⟨a2, e2, h3.mono hs (fun _ _ _ q => q), fun b hb => ⟨by rw [takeIn_out (out rfl b hb)]; exact (h4 b hb).1, (h4 b hb).2⟩⟩
    | io u =>
      obtain ⟨a2, e2, h3, h4⟩ := old
      exact ⟨a2, e2, h3.mono hs (fun _ _ _ q => q), fun b hb => ⟨by rw [takeIn_out (out rfl b hb)]; exact (h4 b hb).1, (h4 b hb).2⟩⟩
  · rw [takeIn_out fun z => hb (n b z).2]
    exact O.f2 b hb
end

/-! ### names, constants -/
def eVar (i : Nat) : Ef := fun e => match e[i]? with
  | none => .no
  | some .un => .no
  | some _ => .ok (.slot i) e
def eC (d : D) : Ef := fun e => .ok (.val d) e
section
variable {X : Cx} {Φ : Fx} {W : WX}
theorem d_var (i : Nat) {x : Str} {pos : Pos} (hN : X.N[i]? = some x := by rfl) (hv : Vis X.env.scope x := by first | exact Or.inl rfl | exact Or.inr (Or.inl rfl) | exact Or.inr (Or.inr rfl)) (hd : (x == ("__debug__" : Str)) = false := by decide)
    (hcd : (x == ("__classdict__" : Str)) = false := by decide) : DE X Φ W (.Name x pos) (eVar i) := pe_weak (pv i hN hv hd hcd) fun σ H Q ⟨G, F, e, O, h⟩ => by
  have h' : Wp X.K X.mg Φ W σ (ra X.K) G (match e[i]? with
    | none => .no
    | some .un => .no
    | some _ => .ok (.slot i) e) Q := h
  have fin : ∀ {v : V}, σ[i]? = some (some v) → Wp X.K X.mg Φ W σ (ra X.K) G (R.ok (.slot i) e) Q → tVar i σ H Q := fun {v} q z => ⟨v, q, z v H G F (Same.refl G) O q⟩
  split at h'
  · exact h'.elim
  · exact h'.elim
  · rename_i s hs hi
    have sl := O.slots i s hi
    cases s with
    | un => exact (hs rfl).elim
    | xn => exact fin sl h'
    | sh d =>
      obtain ⟨v, q, _⟩ := sl
      exact fin q h'
    | own w =>
      obtain ⟨a, q, _⟩ := sl
      exact fin q h'
    | io w =>
      obtain ⟨a, q, _⟩ := sl
      exact fin q h'
theorem tC_weak {v : V} {d : D} (hd : ∀ G, Dq X.K G v d) (σ : L2.St) (H : Hp) (Q : VK) (t : tG X.K X.mg Φ W (ra X.K) (eC d) σ H Q) : tC v σ H Q := by
  obtain ⟨G, F, e, O, h⟩ := t
  exact h v H G F (Same.refl G) O (hd G)
theorem d_int {i : Int} {j pos} : DE X Φ W (.Constant (.int i) j pos) (eC (.int i)) := pe_weak pe_int (tC_weak fun _ => .int i)
theorem d_bool {b : Bool} {j pos} : DE X Φ W (.Constant (.bool b) j pos) (eC (.bool b)) := pe_weak pe_bl (tC_weak fun _ => .bl b)
theorem d_none {j pos} : DE X Φ W (.Constant .none j pos) (eC .none) := pe_weak pe_non (tC_weak fun _ => .non)
theorem d_str {x : Str} {j pos} : DE X Φ W (.Constant (.str x) j pos) (eC (.str x)) := pe_weak pe_str (tC_weak fun _ => .str x)
theorem d_glob {x : Str} {v : V} {u : Value} {d : D} {pos : Pos} (hm : X.mg x = some u) (r : RelV v u) (hd : ∀ G, Dq X.K G v d) (hg : Gl X x := by rfl) (hb : (x == ("__debug__" : Str)) = false := by decide) : DE X Φ W (.Name x pos) (eC d) :=
  pe_weak (pe_glob hg hm r hb) (tC_weak hd)
end

/-! ### new objects as values -/
def eFz (f : Rf) : Ef := fun e => (f e).bind fun r e1 => match r with
  | .arg a => .ok a e1
  | .new w => .ok (.val w.toD) e1
def eR (f : Ef) : Rf := fun e => (f e).bind fun a e1 => .ok (.arg a) e1
section
variable {X : Cx} {Φ : Fx} {W : WX} {x : Expr}
theorem eFz_weak {f : Rf} {σ : L2.St} {H : Hp} {Q : VK} (t : tG X.K X.mg Φ W (ra X.K) (eFz f) σ H Q) : tG X.K X.mg Φ W (rr X.K Φ) f σ H Q := by
  obtain ⟨G, F, e, O, h⟩ := t
  refine ⟨G, F, e, O, Wp.imp (Wp.seq h) fun v H1 ⟨G1, F1, e1, r, g1, O1, r1, h1⟩ => ?_⟩
  cases r with
  | arg a => exact h1 v H1 G1 F1 (Same.refl _) O1 r1
  | new w =>
    obtain ⟨a, A, rfl, o, n, ap⟩ := r1
    obtain ⟨s1, s2, s3⟩ := O1.takes o n ap
    exact h1 _ H1 _ F1 s1 s2 s3
theorem d_fz {f : Rf} (h : DR X Φ W x f) : DE X Φ W x (eFz f) := pe_weak h fun _ _ _ t => eFz_weak t
theorem eR_weak {f : Ef} {σ : L2.St} {H : Hp} {Q : VK} (t : tG X.K X.mg Φ W (rr X.K Φ) (eR f) σ H Q) : tG X.K X.mg Φ W (ra X.K) f σ H Q := by
  obtain ⟨G, F, e, O, h⟩ := t
  exact ⟨G, F, e, O, Wp.imp (Wp.seq h) fun v H1 ⟨G1, F1, e1, r, g1, O1, r1, h1⟩ => h1 v H1 G1 F1 (Same.refl _) O1 r1⟩
theorem d_r {f : Ef} (h : DE X Φ W x f) : DR X Φ W x (eR f) := pe_weak h fun _ _ _ t => eR_weak t
end

/-! ### arguments kept for good -/
def fz (a : Arg) (e : Fr) : R D := match a with
  | .val d => .ok d e
  | .slot i => match e[i]? with
    | some (.sh d) => .ok d e
    | some (.own w) => .ok w.toD (e.set i (.sh w.toD))
    | _ => .no
def fzA : List Arg → Fr → R (List D)
  | [], e => .ok [] e
  | a :: as, e => (fz a e).bind fun d e1 => (fzA as e1).bind fun ds e2 => .ok (d :: ds) e2
/-- a data value -/
def rd (K : PySem.W.Frag) : Rel D V := fun d v _ G _ _ _ => Dq K G v d
section
variable {K : PySem.W.Frag} {mg : Str → Option Value} {Φ : Fx} {W : WX} {H G : Hp} {F : Nat → List Addr} {σ : L2.St} {e : Fr}
theorem fz_ok (O : Ok K Φ H G F σ e) {a : Arg} {v : V} (r : ra K a v H G F σ e) {d : D} {e' : Fr} (q : fz a e = .ok d e') : ∃ G', Same G G' ∧ Ok K Φ H G' F σ e' ∧ Dq K G' v d := by
  cases a with
  | val d' =>
    cases q
    exact ⟨G, Same.refl _, O, r⟩
  | slot i =>
    have q' : (match e[i]? with
      | some (.sh d) => R.ok d e
      | some (.own w) => R.ok w.toD (e.set i (.sh w.toD))
      | _ => R.no) = R.ok d e' := q
    split at q'
    · rename_i d2 he
      cases q'
      obtain ⟨v2, e2, h2⟩ := O.slots i _ he
      have r' : σ[i]? = some (some v) := r
      rw [r'] at e2
      cases e2
      exact ⟨G, Same.refl _, O, h2⟩
    · rename_i w he
      cases q'
      obtain ⟨s1, s2, s3⟩ := O.freeze he
      exact ⟨_, s1, s2, s3 v r⟩
    · cases q'
theorem fz_no {a : Arg} {x : Exn} {e' : Fr} (q : fz a e = .ex x e') : False := by
  cases a with
  | val d' => cases q
  | slot i =>
    have q' : (match e[i]? with
      | some (.sh d) => R.ok d e
      | some (.own w) => R.ok w.toD (e.set i (.sh w.toD))
      | _ => R.no) = R.ex x e' := q
    split at q' <;> cases q'
theorem fzA_ok : ∀ {as : List Arg} {vs : List V} {H G : Hp} {F : Nat → List Addr} {e : Fr} {ds : List D} {e' : Fr}, Ok K Φ H G F σ e → rs K as vs H G F σ e → fzA as e = .ok ds e' → ∃ G', Same G G' ∧ Ok K Φ H G' F σ e' ∧ DqAll K G' vs ds
  | [], _, H, G, F, e, _, _, O, r, q => by
    cases r
    cases q
    exact ⟨G, Same.refl _, O, .nil⟩
  | a :: as, _, H, G, F, e, _, _, O, r, q => by
    cases r with
    | cons h t =>
      have q' : ((fz a e).bind fun d e1 => (fzA as e1).bind fun ds e2 => R.ok (d :: ds) e2) = _ := q
      cases q1 : fz a e with
      | no =>
        rw [q1] at q'
        cases q'
      | ex x e1 =>
        rw [q1] at q'
        cases q'
      | ok d e1 =>
        rw [q1, R.bind_ok] at q'
        obtain ⟨G1, s1, O1, h1⟩ := fz_ok O h q1
        cases q2 : fzA as e1 with
        | no =>
          rw [q2] at q'
          cases q'
        | ex x e2 =>
          rw [q2] at q'
          cases q'
        | ok ds e2 =>
          rw [q2, R.bind_ok] at q'
          cases q'
          obtain ⟨G2, s2, O2, h2⟩ := fzA_ok O1 (rs_up s1 t) q2
          exact ⟨G2, s1.trans s2, O2, .cons (dp_mono s2 h1) h2⟩
theorem fzA_no : ∀ {as : List Arg} {e : Fr} {x : Exn} {e' : Fr}, fzA as e = .ex x e' → False
  | [], _, _, _, q => by cases q
  | a :: as, e, x, e', q => by
    have q' : ((fz a e).bind fun d e1 => (fzA as e1).bind fun ds e2 => R.ok (d :: ds) e2) = .ex x e' := q
    cases q1 : fz a e with
    | no =>
      rw [q1] at q'
      cases q'
    | ex x e1 => exact fz_no q1
    | ok d e1 =>
      rw [q1, R.bind_ok] at q'
      cases q2 : fzA as e1 with
      | no =>
        rw [q2] at q'
        cases q'
      | ex x e2 => exact fzA_no q2
      | ok ds e2 =>
        rw [q2, R.bind_ok] at q'
        cases q'
/-- freezing, in a reading -/
theorem Wp.fz {α β : Type} {ρ : Rel α β} {a : Arg} {v : V} {f : D → Fr → R α} {Q : β → Hp → Prop} (O : Ok K Φ H G F σ e) (r : ra K a v H G F σ e) (h : Wp K mg Φ W σ ρ G ((DL.fz a e).bind f) Q) :
    ∃ G1 e1 d, Same G G1 ∧ Ok K Φ H G1 F σ e1 ∧ Dq K G1 v d ∧ Wp K mg Φ W σ ρ G1 (f d e1) Q := by
  cases q : DL.fz a e with
  | no =>
    rw [q] at h
    exact h.elim
  | ex x e1 => exact (fz_no q).elim
  | ok d e1 =>
    rw [q] at h
    obtain ⟨G1, s1, O1, h1⟩ := fz_ok O r q
    exact ⟨G1, e1, d, s1, O1, h1, Wp.up h s1⟩
theorem Wp.fzA {α β : Type} {ρ : Rel α β} {as : List Arg} {vs : List V} {f : List D → Fr → R α} {Q : β → Hp → Prop} (O : Ok K Φ H G F σ e) (r : rs K as vs H G F σ e) (h : Wp K mg Φ W σ ρ G ((DL.fzA as e).bind f) Q) :
    ∃ G1 e1 ds, Same G G1 ∧ Ok K Φ H G1 F σ e1 ∧ DqAll K G1 vs ds ∧ Wp K mg Φ W σ ρ G1 (f ds e1) Q := by
  cases q : DL.fzA as e with
  | no =>
    rw [q] at h
    exact h.elim
  | ex x e1 => exact (fzA_no q).elim
  | ok ds e1 =>
    rw [q] at h
    obtain ⟨G1, s1, O1, h1⟩ := fzA_ok O r q
    exact ⟨G1, e1, ds, s1, O1, h1, Wp.up h s1⟩
end

/-! ### argument lists, displays -/
def aNil : Af := fun e => .ok [] e
def aCons (fa : Ef) (fr : Af) : Af := fun e => (fa e).bind fun a e1 => (fr e1).bind fun as e2 => .ok (a :: as) e2
def eTup (fa : Af) : Ef := fun e => (fa e).bind fun as e1 => (fzA as e1).bind fun ds e2 => if ds.length ≤ 1000 then .ok (.val (.tuple ds)) e2 else .no
def eLst (fa : Af) : Rf := fun e => (fa e).bind fun as e1 => (fzA as e1).bind fun ds e2 => if ds.length ≤ 1000 then .ok (.new (.ls ds)) e2 else .no
theorem line1000 {n : Nat} (h : n ≤ 1000) : n ≤ sizeLine := Nat.le_trans h (by decide)
section
variable {X : Cx} {Φ : Fx} {W : WX} {x : Expr} {xs : List Expr} {pos : Pos}
theorem d_anil : DA X Φ W [] aNil := pa_weak pa_nil fun σ H Q ⟨G, F, e, O, h⟩ => h [] H G F (Same.refl _) O .nil
theorem d_acons {fa : Ef} {fr : Af} (ha : DE X Φ W x fa) (hr : DA X Φ W xs fr) (hs : starEach (x :: xs) X.env = (false, eval x X.env) :: starEach xs X.env := by rfl) : DA X Φ W (x :: xs) (aCons fa fr) :=
  pa_weak (pa_cons ha hr hs) fun σ H Q ⟨G, F, e, O, h⟩ => ⟨G, F, e, O, Wp.imp (Wp.seq h) fun v H1 ⟨G1, F1, e1, a, g1, O1, r1, h1⟩ => ⟨G1, F1, e1, O1, Wp.imp (Wp.seq h1) fun vs H2 ⟨G2, F2, e2, as, g2, O2, r2, h2⟩ =>
    h2 (v :: vs) H2 G2 F2 (Same.refl _) O2 (.cons (ra_up r1 g2) r2)⟩⟩
theorem d_tup {fa : Af} {k} (ha : DA X Φ W xs fa) : DE X Φ W (.Tuple xs k pos) (eTup fa) :=
  pe_weak (pe_tupF ha) fun σ H Q ⟨G, F, e, O, h⟩ => ⟨G, F, e, O, Wp.imp (Wp.seq h) fun vs H1 ⟨G1, F1, e1, as, g1, O1, r1, h1⟩ => by
    obtain ⟨G2, e2, ds, g2, O2, d2, h2⟩ := Wp.fzA O1 r1 h1
    split at h2
    · rename_i hl
      refine ⟨by rw [DqAll.len d2]; exact line1000 hl, fun p o hp hd => ?_⟩
      have g := Grow.laid (o := .frz o (.tup vs)) O2.gh hp
      exact h2 _ _ _ F1 g.gg (O2.grow g) (Dq.newT (same_back O2.gh hp) hd d2)
    · exact h2.elim⟩
theorem Ok.noslot {K : PySem.W.Frag} {H G : Hp} {F : Nat → List Addr} {σ : L2.St} {e : Fr} (O : Ok K Φ H G F σ e) {p : Addr} (hp : H p = none) : ∀ j t, e[j]? = some t → t.owned = true → p ∉ F j := fun j t q o hm => by
  have old := O.slots j t q
  cases t with
  | un => cases o
  | xn => cases o
  | sh d => cases o
  | own u =>
    obtain ⟨_, _, h3, _⟩ := old
    obtain ⟨vs, q, _⟩ := h3.there p hm
    rw [hp] at q
    cases q
  | io u =>
    obtain ⟨_, _, h3, _⟩ := old
    obtain ⟨vs, q, _⟩ := h3.there p hm
    rw [hp] at q
    cases q
theorem Ok.noentry {K : PySem.W.Frag} {H G : Hp} {F : Nat → List Addr} {σ : L2.St} {e : Fr} (O : Ok K Φ H G F σ e) {p : Addr} (hp : H p = none) : Φ.H_0 p = none := by
  cases q : Φ.H_0 p with
  | none => rfl
  | some o => exact absurd hp (O.f0 p (by rw [q]; exact fun z => nomatch z))
/-- a new list of its own -/
theorem rr_new {K : PySem.W.Frag} {H G : Hp} {F : Nat → List Addr} {σ : L2.St} {e : Fr} (O : Ok K Φ H G F σ e) {p : Addr} (hp : H p = none) {vs : List V} {ds : List D} (d : DqAll K G vs ds) :
    Ok K Φ (upd H p (.lst vs)) G F σ e ∧ rr K Φ (.new (.ls ds)) (.ref p) (upd H p (.lst vs)) G F σ e := by
  have g := Grow.own (o := .lst vs) O.gh hp
  refine ⟨O.grow g, p, [p], rfl, .ls upd_same d, fun b hb => ?_, fun j t q o b hb => ?_⟩
  · rw [List.mem_singleton.mp hb]
    exact ⟨same_back O.gh hp, O.noentry hp⟩
  · rw [List.mem_singleton.mp hb]
    exact O.noslot hp j t q o
theorem d_lst {fa : Af} (ha : DA X Φ W xs fa) : DR X Φ W (.List xs pos) (eLst fa) :=
  pe_weak (pe_lst ha) fun σ H Q ⟨G, F, e, O, h⟩ => ⟨G, F, e, O, Wp.imp (Wp.seq h) fun vs H1 ⟨G1, F1, e1, as, g1, O1, r1, h1⟩ => by
    obtain ⟨G2, e2, ds, g2, O2, d2, h2⟩ := Wp.fzA O1 r1 h1
    split at h2
    · rename_i hl
      refine ⟨by rw [DqAll.len d2]; exact line1000 hl, fun p hp => ?_⟩
      obtain ⟨z1, z2⟩ := rr_new O2 hp d2
      exact h2 _ _ _ F1 (Same.refl _) z1 z2
    · exact h2.elim⟩
end

/-! ### operations -/
def use1 (op : D → Option D) (a : Arg) (e : Fr) : R Arg := match rd1 e a with
  | some x => match op x with
    | some d => .ok (.val d) e
    | none => .no
  | none => .no
def use2 (op : D → D → Option D) (a b : Arg) (e : Fr) : R Arg := match rd1 e a with
  | some x => match rd1 e b with
    | some y => match op x y with
      | some d => .ok (.val d) e
      | none => .no
    | none => .no
  | none => .no
def useN (op : List D → Option D) (as : List Arg) (e : Fr) : R Arg := match rdA e as with
  | some ds => match op ds with
    | some d => .ok (.val d) e
    | none => .no
  | none => .no
def useL (op : List D → Option (List D)) (as : List Arg) (e : Fr) : R RV := match rdA e as with
  | some ds => match op ds with
    | some es => .ok (.new (.ls es)) e
    | none => .no
  | none => .no
def eOp1 (op : D → Option D) (fa : Ef) : Ef := fun e => (fa e).bind (use1 op)
def eOp2 (op : D → D → Option D) (fa fb : Ef) : Ef := fun e => (fa e).bind fun a e1 => (fb e1).bind fun b e2 => use2 op a b e2
def eCall (op : List D → Option D) (fa : Af) : Ef := fun e => (fa e).bind (useN op)
def eCallN (op : List D → Option (List D)) (fa : Af) : Rf := fun e => (fa e).bind (useL op)
section
variable {K : PySem.W.Frag} {mg : Str → Option Value} {Φ : Fx} {W : WX} {H G : Hp} {F : Nat → List Addr} {σ : L2.St} {e : Fr}
theorem use1_ok {op : D → Option D} {a : Arg} {x : V} {Q : VK} (O : Ok K Φ H G F σ e) (r : ra K a x H G F σ e) (h : Wp K mg Φ W σ (ra K) G (use1 op a e) Q) : r1 K op x H Q := by
  unfold use1 at h
  split at h
  · rename_i d1 q1
    split at h
    · rename_i d q2
      exact ⟨G, d1, d, O.gh, bp_of O r q1, q2, fun v H' G' g hd => h v H' G' F g.gg (O.grow g) hd⟩
    · exact h.elim
  · exact h.elim
theorem use2_ok {op : D → D → Option D} {a b : Arg} {x y : V} {Q : VK} (O : Ok K Φ H G F σ e) (ra1 : ra K a x H G F σ e) (ra2 : ra K b y H G F σ e) (h : Wp K mg Φ W σ (ra K) G (use2 op a b e) Q) : r2 K op x y H Q := by
  unfold use2 at h
  split at h
  · rename_i d1 q1
    split at h
    · rename_i d2 q2
      split at h
      · rename_i d q3
        exact ⟨G, d1, d2, d, O.gh, bp_of O ra1 q1, bp_of O ra2 q2, q3, fun v H' G' g hd => h v H' G' F g.gg (O.grow g) hd⟩
      · exact h.elim
    · exact h.elim
  · exact h.elim
theorem useN_ok {op : List D → Option D} {as : List Arg} {xs : List V} {Q : VK} (O : Ok K Φ H G F σ e) (r : rs K as xs H G F σ e) (h : Wp K mg Φ W σ (ra K) G (useN op as e) Q) : rP K op xs H Q := by
  unfold useN at h
  split at h
  · rename_i ds q1
    split at h
    · rename_i d q2
      exact ⟨G, ds, d, O.gh, bps_of O r q1, q2, fun v H' G' g hd => h v H' G' F g.gg (O.grow g) hd⟩
    · exact h.elim
  · exact h.elim
theorem useL_ok {op : List D → Option (List D)} {as : List Arg} {xs : List V} {Q : VK} (O : Ok K Φ H G F σ e) (r : rs K as xs H G F σ e) (h : Wp K mg Φ W σ (rr K Φ) G (useL op as e) Q) : rN K op xs H Q := by
  unfold useL at h
  split at h
  · rename_i ds q1
    split at h
    · rename_i es q2
      refine ⟨G, ds, es, O.gh, bps_of O r q1, q2, fun p vs hp hl hd => ?_⟩
      obtain ⟨z1, z2⟩ := rr_new O hp hd
      exact h _ _ _ F (Same.refl _) z1 z2
    · exact h.elim
  · exact h.elim
theorem eOp2_weak {X : Cx} {op : D → D → Option D} {fa fb : Ef} {H : Hp} {Q : VK} (t : tG X.K X.mg Φ W (ra X.K) (eOp2 op fa fb) σ H Q) : tOp (r2 X.K op) (tG X.K X.mg Φ W (ra X.K) fa) (tG X.K X.mg Φ W (ra X.K) fb) σ H Q := by
  obtain ⟨G, F, e, O, h⟩ := t
  exact ⟨G, F, e, O, Wp.imp (Wp.seq h) fun x H1 ⟨G1, F1, e1, a, g1, O1, r1, h1⟩ => ⟨G1, F1, e1, O1, Wp.imp (Wp.seq h1) fun y H2 ⟨G2, F2, e2, b, g2, O2, r2, h2⟩ => use2_ok O2 (ra_up r1 g2) r2 h2⟩⟩
theorem eOp1_weak {X : Cx} {op : D → Option D} {fa : Ef} {H : Hp} {Q : VK} (t : tG X.K X.mg Φ W (ra X.K) (eOp1 op fa) σ H Q) : tUn (r1 X.K op) (tG X.K X.mg Φ W (ra X.K) fa) σ H Q := by
  obtain ⟨G, F, e, O, h⟩ := t
  exact ⟨G, F, e, O, Wp.imp (Wp.seq h) fun x H1 ⟨G1, F1, e1, a, g1, O1, r1, h1⟩ => use1_ok O1 r1 h1⟩
theorem eCall_weak {X : Cx} {op : List D → Option D} {fa : Af} {H : Hp} {Q : VK} (t : tG X.K X.mg Φ W (ra X.K) (eCall op fa) σ H Q) : tCB (rP X.K op) (tG X.K X.mg Φ W (rs X.K) fa) σ H Q := by
  obtain ⟨G, F, e, O, h⟩ := t
  exact ⟨G, F, e, O, Wp.imp (Wp.seq h) fun x H1 ⟨G1, F1, e1, a, g1, O1, r1, h1⟩ => useN_ok O1 r1 h1⟩
theorem eCallN_weak {X : Cx} {op : List D → Option (List D)} {fa : Af} {H : Hp} {Q : VK} (t : tG X.K X.mg Φ W (rr X.K Φ) (eCallN op fa) σ H Q) : tCB (rN X.K op) (tG X.K X.mg Φ W (rs X.K) fa) σ H Q := by
  obtain ⟨G, F, e, O, h⟩ := t
  exact ⟨G, F, e, O, Wp.imp (Wp.seq h) fun x H1 ⟨G1, F1, e1, a, g1, O1, r1, h1⟩ => useL_ok O1 r1 h1⟩
end
section
variable {X : Cx} {Φ : Fx} {W : WX} {x y : Expr} {xs : List Expr} {pos p : Pos} {fa fb : Ef} {fs : Af} {ft : Tf}
theorem d_op {op : Operator} {f : D → D → Option D} (ho : OpR X (binaryOp op) (r2 X.K f)) (ha : DE X Φ W x fa) (hb : DE X Φ W y fb) : DE X Φ W (.BinOp x op y pos) (eOp2 f fa fb) := pe_weak (pe_op ho ha hb) fun _ _ _ t => eOp2_weak t
theorem d_un {op : UnaryOp} {f : D → Option D} (ho : UnR X (unaryOp op) (r1 X.K f)) (ha : DE X Φ W x fa) : DE X Φ W (.UnaryOp op x pos) (eOp1 f fa) := pe_weak (pe_un ho ha) fun _ _ _ t => eOp1_weak t
theorem d_cmp {op : CmpOp} {f : D → D → Option D} (ho : OpR X (compareOp op) (r2 X.K f)) (ha : DE X Φ W x fa) (hb : DE X Φ W y fb) (hm : behindInMarks op y = false) : DE X Φ W (.Compare x [op] [y] pos) (eOp2 f fa fb) := pe_weak (pe_cmpR ho ha hb hm) fun _ _ _ t => eOp2_weak t
theorem d_ix (ha : DE X Φ W x fa) (hb : DE X Φ W y fb) (hs : PlainIx y) : DE X Φ W (.Subscript x y pos) (eOp2 dIx fa fb) := pe_weak (pe_ix ix_d ha hb hs) fun _ _ _ t => eOp2_weak t
variable {n : Str} {op : List D → Option D} {opN : List D → Option (List D)} {id : String}
theorem d_callB (hc : CallR X (.builtin id) (rP X.K op)) (hm : X.mg n = none) (ha : DA X Φ W (x :: xs) fs) (hv : bootBuiltins n = some (.builtin id) := by decide +kernel) (hg : Gl X n := by rfl) (hn : n ≠ "__name__" := by decide) (hdb : (n == ("__debug__" : Str)) = false := by decide)
    (he : starEach (x :: xs) X.env = (false, eval x X.env) :: starEach xs X.env := by rfl) (hpl : (backTo pos (starEach xs X.env)).any (·.1) = false := by rfl) : DE X Φ W (.Call (.Name n p) (x :: xs) [] pos) (eCall op fs) := pe_weak (pe_callB hc hg hm hv ha hn hdb he hpl) fun _ _ _ t => eCall_weak t
theorem d_callTy (hc : CallR X (.type id) (rP X.K op)) (hm : X.mg n = none) (ha : DA X Φ W (x :: xs) fs) (hv : bootBuiltins n = some (.type id) := by decide +kernel) (hg : Gl X n := by rfl) (hn : n ≠ "__name__" := by decide) (hdb : (n == ("__debug__" : Str)) = false := by decide)
    (he : starEach (x :: xs) X.env = (false, eval x X.env) :: starEach xs X.env := by rfl) (hpl : (backTo pos (starEach xs X.env)).any (·.1) = false := by rfl) : DE X Φ W (.Call (.Name n p) (x :: xs) [] pos) (eCall op fs) := pe_weak (pe_callTy hc hg hm hv ha hn hdb he hpl) fun _ _ _ t => eCall_weak t
theorem d_callF (hc : CallR X (.builtin id) (rP X.K op)) (hm : X.mg n = some (.builtin id)) (ha : DA X Φ W (x :: xs) fs) (hg : Gl X n := by rfl) (hdb : (n == ("__debug__" : Str)) = false := by decide)
    (he : starEach (x :: xs) X.env = (false, eval x X.env) :: starEach xs X.env := by rfl) (hpl : (backTo pos (starEach xs X.env)).any (·.1) = false := by rfl) : DE X Φ W (.Call (.Name n p) (x :: xs) [] pos) (eCall op fs) := pe_weak (pe_callBfun hc hg hm ha hdb he hpl) fun _ _ _ t => eCall_weak t
theorem d_callBN (hc : CallR X (.builtin id) (rN X.K opN)) (hm : X.mg n = none) (ha : DA X Φ W (x :: xs) fs) (hv : bootBuiltins n = some (.builtin id) := by decide +kernel) (hg : Gl X n := by rfl) (hn : n ≠ "__name__" := by decide) (hdb : (n == ("__debug__" : Str)) = false := by decide)
    (he : starEach (x :: xs) X.env = (false, eval x X.env) :: starEach xs X.env := by rfl) (hpl : (backTo pos (starEach xs X.env)).any (·.1) = false := by rfl) : DR X Φ W (.Call (.Name n p) (x :: xs) [] pos) (eCallN opN fs) := pe_weak (pe_callB hc hg hm hv ha hn hdb he hpl) fun _ _ _ t => eCallN_weak t
theorem d_callTyN (hc : CallR X (.type id) (rN X.K opN)) (hm : X.mg n = none) (ha : DA X Φ W (x :: xs) fs) (hv : bootBuiltins n = some (.type id) := by decide +kernel) (hg : Gl X n := by rfl) (hn : n ≠ "__name__" := by decide) (hdb : (n == ("__debug__" : Str)) = false := by decide)
    (he : starEach (x :: xs) X.env = (false, eval x X.env) :: starEach xs X.env := by rfl) (hpl : (backTo pos (starEach xs X.env)).any (·.1) = false := by rfl) : DR X Φ W (.Call (.Name n p) (x :: xs) [] pos) (eCallN opN fs) := pe_weak (pe_callTy hc hg hm hv ha hn hdb he hpl) fun _ _ _ t => eCallN_weak t
end

/-! ### tests -/
def tOf (f : Ef) : Tf := fun e => (f e).bind fun a e1 => match rd1 e1 a with
  | some (.bool b) => .ok b e1
  | _ => .no
def useT (a : Arg) (e : Fr) : R Bool := match rd1 e a with
  | some d => match truth d with
    | some b => .ok b e
    | none => .no
  | none => .no
def tTr (f : Ef) : Tf := fun e => (f e).bind useT
def tAndF (f g : Tf) : Tf := fun e => (f e).bind fun b e1 => match b with
  | true => g e1
  | false => .ok false e1
def tOrF (f g : Tf) : Tf := fun e => (f e).bind fun b e1 => match b with
  | true => .ok true e1
  | false => g e1
def tNotF (f : Tf) : Tf := fun e => (f e).bind fun b e1 => .ok (!b) e1
def eIf (t : Tf) (fa fb : Ef) : Ef := fun e => (t e).bind fun b e1 => match b with
  | true => fa e1
  | false => fb e1
def eIfR (t : Tf) (fa fb : Rf) : Rf := fun e => (t e).bind fun b e1 => match b with
  | true => fa e1
  | false => fb e1
def eAnd (fa fb : Ef) : Ef := fun e => (fa e).bind fun a e1 => (useT a e1).bind fun b e2 => match b with
  | true => fb e2
  | false => .ok a e2
def eOr (fa fb : Ef) : Ef := fun e => (fa e).bind fun a e1 => (useT a e1).bind fun b e2 => match b with
  | true => .ok a e2
  | false => fb e2
def eNot (fa : Ef) : Ef := fun e => (fa e).bind fun a e1 => (useT a e1).bind fun b e2 => .ok (.val (.bool (!b))) e2
abbrev DW (X : Cx) (Φ : Fx) (W : WX) (e : Expr) (f : Tf) : Prop := PW X e (tG X.K X.mg Φ W rb f)
section
variable {X : Cx} {Φ : Fx} {W : WX} {x y : Expr} {rest : List Expr} {pos : Pos} {fa fb : Ef} {ga gb : Rf} {ft fu : Tf}
theorem tOf_weak {f : Ef} {σ : L2.St} {H : Hp} {Q : Bool → Hp → Prop} (t : tG X.K X.mg Φ W rb (tOf f) σ H Q) : tTest (tG X.K X.mg Φ W (ra X.K) f) σ H Q := by
  obtain ⟨G, F, e, O, h⟩ := t
  refine ⟨G, F, e, O, Wp.imp (Wp.seq h) fun v H1 ⟨G1, F1, e1, a, g1, O1, r1, h1⟩ => ?_⟩
  split at h1
  · rename_i b q
    exact ⟨b, (bp_of O1 r1 q).bool, h1 b H1 G1 F1 (Same.refl _) O1 rfl⟩
  · exact h1.elim
theorem useT_ok {K : PySem.W.Frag} {mg : Str → Option Value} {H G : Hp} {F : Nat → List Addr} {σ : L2.St} {e : Fr} {α β : Type} {ρ : Rel α β} {a : Arg} {v : V} {f : Bool → Fr → R α} {Q : β → Hp → Prop} (O : Ok K Φ H G F σ e) (r : ra K a v H G F σ e)
    (h : Wp K mg Φ W σ ρ G ((useT a e).bind f) Q) : ∃ k, TruV K v H k ∧ Wp K mg Φ W σ ρ G (f k e) Q := by
  unfold useT at h
  split at h
  · rename_i d q
    split at h
    · rename_i b q2
      exact ⟨b, truth_v (bp_of O r q) O.gh q2, h⟩
    · exact h.elim
  · exact h.elim
theorem t_cmp {op : CmpOp} {f : D → D → Option D} (ho : OpR X (compareOp op) (r2 X.K f)) (ha : DE X Φ W x fa) (hb : DE X Φ W y fb) (hm : behindInMarks op y = false) : DT X Φ W (.Compare x [op] [y] pos) (tOf (eOp2 f fa fb)) :=
  pt_weak (pt_cmpR ho ha hb hm) fun σ H Q t => eOp2_weak (tOf_weak t)
theorem t_tr (ha : DE X Φ W x fa) (he : ∀ whole, isTrue x X.env whole = (do let v ← whole; standAt x.pos; holding [v] (truthy v)) := by intro _; rfl) : DT X Φ W x (tTr fa) :=
  pt_weak (pt_truth ha he) fun σ H Q ⟨G, F, e, O, h⟩ => ⟨G, F, e, O, Wp.imp (Wp.seq h) fun v H1 ⟨G1, F1, e1, a, g1, O1, r1, h1⟩ => by
    unfold useT at h1
    split at h1
    · rename_i d q
      split at h1
      · rename_i b q2
        exact ⟨b, truth_v (bp_of O1 r1 q) O1.gh q2, h1 b H1 G1 F1 (Same.refl _) O1 rfl⟩
      · exact h1.elim
    · exact h1.elim⟩
theorem w_and1 (ha : DT X Φ W x ft) : DW X Φ W (.BoolOp .And [x] pos) ft := pw_and1 ha
theorem w_or1 (ha : DT X Φ W x ft) : DW X Φ W (.BoolOp .Or [x] pos) ft := pw_or1 ha
theorem w_and (ha : DT X Φ W x ft) (hb : DW X Φ W (.BoolOp .And (y :: rest) pos) fu) : DW X Φ W (.BoolOp .And (x :: y :: rest) pos) (tAndF ft fu) :=
  pw_weak (pw_and ha hb) fun σ H Q ⟨G, F, e, O, h⟩ => ⟨G, F, e, O, Wp.imp (Wp.seq h) fun v H1 ⟨G1, F1, e1, b, g1, O1, r1, h1⟩ => by
    cases (show v = b from r1)
    cases v with
    | true => exact (iteT ⟨G1, F1, e1, O1, h1⟩)
    | false => exact (iteF (h1 false H1 G1 F1 (Same.refl _) O1 rfl))⟩
theorem w_or (ha : DT X Φ W x ft) (hb : DW X Φ W (.BoolOp .Or (y :: rest) pos) fu) : DW X Φ W (.BoolOp .Or (x :: y :: rest) pos) (tOrF ft fu) :=
  pw_weak (pw_or ha hb) fun σ H Q ⟨G, F, e, O, h⟩ => ⟨G, F, e, O, Wp.imp (Wp.seq h) fun v H1 ⟨G1, F1, e1, b, g1, O1, r1, h1⟩ => by
    cases (show v = b from r1)
    cases v with
    | true => exact (iteT (h1 true H1 G1 F1 (Same.refl _) O1 rfl))
    | false => exact (iteF ⟨G1, F1, e1, O1, h1⟩)⟩
theorem t_w (h : DW X Φ W x ft) : DT X Φ W x ft := PW.pt h
theorem t_not (h : DT X Φ W x ft) : DT X Φ W (.UnaryOp .Not x pos) (tNotF ft) :=
  pt_weak (pt_not h) fun σ H Q ⟨G, F, e, O, h⟩ => ⟨G, F, e, O, Wp.imp (Wp.seq h) fun v H1 ⟨G1, F1, e1, b, g1, O1, r1, h1⟩ => by
    cases (show v = b from r1)
    exact h1 (!v) H1 G1 F1 (Same.refl _) O1 rfl⟩
theorem d_if {c : Expr} (ht : DT X Φ W c ft) (ha : DE X Φ W x fa) (hb : DE X Φ W y fb) : DE X Φ W (.IfExp c x y pos) (eIf ft fa fb) :=
  pe_weak (pe_ifExp ht ha hb) fun σ H Q ⟨G, F, e, O, h⟩ => ⟨G, F, e, O, Wp.imp (Wp.seq h) fun v H1 ⟨G1, F1, e1, b, g1, O1, r1, h1⟩ => by
    cases (show v = b from r1)
    cases v with
    | true => exact (iteT ⟨G1, F1, e1, O1, h1⟩)
    | false => exact (iteF ⟨G1, F1, e1, O1, h1⟩)⟩
theorem d_ifR {c : Expr} (ht : DT X Φ W c ft) (ha : DR X Φ W x ga) (hb : DR X Φ W y gb) : DR X Φ W (.IfExp c x y pos) (eIfR ft ga gb) :=
  pe_weak (pe_ifExp ht ha hb) fun σ H Q ⟨G, F, e, O, h⟩ => ⟨G, F, e, O, Wp.imp (Wp.seq h) fun v H1 ⟨G1, F1, e1, b, g1, O1, r1, h1⟩ => by
    cases (show v = b from r1)
    cases v with
    | true => exact (iteT ⟨G1, F1, e1, O1, h1⟩)
    | false => exact (iteF ⟨G1, F1, e1, O1, h1⟩)⟩
theorem d_and (ha : DE X Φ W x fa) (hb : DE X Φ W (.BoolOp .And (y :: rest) pos) fb) : DE X Φ W (.BoolOp .And (x :: y :: rest) pos) (eAnd fa fb) :=
  pe_weak (pe_andT ha hb) fun σ H Q ⟨G, F, e, O, h⟩ => ⟨G, F, e, O, Wp.imp (Wp.seq h) fun v H1 ⟨G1, F1, e1, a, g1, O1, r1, h1⟩ => by
    obtain ⟨k, tv, h2⟩ := useT_ok O1 r1 h1
    refine ⟨k, tv, ?_⟩
    cases k with
    | true => exact (iteT ⟨G1, F1, e1, O1, h2⟩)
    | false => exact (iteF (h2 v H1 G1 F1 (Same.refl _) O1 r1))⟩
theorem d_or (ha : DE X Φ W x fa) (hb : DE X Φ W (.BoolOp .Or (y :: rest) pos) fb) : DE X Φ W (.BoolOp .Or (x :: y :: rest) pos) (eOr fa fb) :=
  pe_weak (pe_orT ha hb) fun σ H Q ⟨G, F, e, O, h⟩ => ⟨G, F, e, O, Wp.imp (Wp.seq h) fun v H1 ⟨G1, F1, e1, a, g1, O1, r1, h1⟩ => by
    obtain ⟨k, tv, h2⟩ := useT_ok O1 r1 h1
    refine ⟨k, tv, ?_⟩
    cases k with
    | true => exact (iteT (h2 v H1 G1 F1 (Same.refl _) O1 r1))
    | false => exact (iteF ⟨G1, F1, e1, O1, h2⟩)⟩
theorem d_bone {op} (h : DE X Φ W x fa) : DE X Φ W (.BoolOp op [x] pos) fa := pe_one h
theorem d_not (ha : DE X Φ W x fa) : DE X Φ W (.UnaryOp .Not x pos) (eNot fa) :=
  pe_weak (pe_notT ha) fun σ H Q ⟨G, F, e, O, h⟩ => ⟨G, F, e, O, Wp.imp (Wp.seq h) fun v H1 ⟨G1, F1, e1, a, g1, O1, r1, h1⟩ => by
    obtain ⟨k, tv, h2⟩ := useT_ok O1 r1 h1
    exact ⟨k, tv, h2 _ H1 G1 F1 (Same.refl _) O1 (.bl _)⟩⟩
end

/-! ### slices -/
abbrev Of := Fr → R (Option Int)
def ro : Rel (Option Int) (Option Int) := fun a b _ _ _ _ _ => b = a
abbrev DO (X : Cx) (Φ : Fx) (W : WX) (e : Option Expr) (f : Of) : Prop := PO X e (tG X.K X.mg Φ W ro f)
def oNone : Of := fun e => .ok none e
def oSome (f : Ef) : Of := fun e => (f e).bind fun a e1 => match rd1 e1 a with
  | some (.int i) => .ok (some i) e1
  | _ => .no
def useC (a : Arg) (lo hi : Option Int) (e : Fr) : R RV := match rd1 e a with
  | some (.list ds) => .ok (.new (.ls (cutD ds lo hi))) e
  | some d => match dCut d lo hi with
    | some r => .ok (.arg (.val r)) e
    | none => .no
  | none => .no
def eCut (fa : Ef) (fl fh : Of) : Rf := fun e => (fa e).bind fun a e1 => (fl e1).bind fun lo e2 => (fh e2).bind fun hi e3 => useC a lo hi e3
section
variable {X : Cx} {Φ : Fx} {W : WX} {x : Expr} {lo hi : Option Expr} {pos p2 : Pos} {fa : Ef} {fl fh : Of}
theorem po_weak {o : Option Expr} {t t' : TO} (h : PO X o t) (w : ∀ σ H Q, t' σ H Q → t σ H Q) : PO X o t' := ⟨fun pins s σ H Q I q => h.run pins s σ H Q I (w σ H Q q)⟩
theorem d_onone : DO X Φ W none oNone := po_weak po_none fun σ H Q ⟨G, F, e, O, h⟩ => h none H G F (Same.refl _) O rfl
theorem d_osome (h : DE X Φ W x fa) : DO X Φ W (some x) (oSome fa) := po_weak (po_some h) fun σ H Q ⟨G, F, e, O, h⟩ => ⟨G, F, e, O, Wp.imp (Wp.seq h) fun v H1 ⟨G1, F1, e1, a, g1, O1, r1, h1⟩ => by
  split at h1
  · rename_i i q
    exact ⟨i, (bp_of O1 r1 q).int, h1 (some i) H1 G1 F1 (Same.refl _) O1 rfl⟩
  · exact h1.elim⟩
theorem sl_or {r r' : V → Option Int → Option Int → Hp → VK → Prop} (h : SlR X r) (h' : SlR X r') : SlR X (fun x lo hi H Q => r x lo hi H Q ∨ r' x lo hi H Q) := by
  intro pins s σ H x v vl vu lo hi sl Q I rx hs pl pu q
  rcases q with q | q
  · exact h pins s σ H x v vl vu lo hi sl Q I rx hs pl pu q
  · exact h' pins s σ H x v vl vu lo hi sl Q I rx hs pl pu q
theorem d_cut (ha : DE X Φ W x fa) (hl : DO X Φ W lo fl) (hh : DO X Φ W hi fh) : DR X Φ W (.Subscript x (.Slice lo hi none p2) pos) (eCut fa fl fh) :=
  pe_weak (pe_slice (sl_or sl_d sl_dN) ha hl hh) fun σ H Q ⟨G, F, e, O, h⟩ => ⟨G, F, e, O, Wp.imp (Wp.seq h) fun v H1 ⟨G1, F1, e1, a, g1, O1, r1, h1⟩ => ⟨G1, F1, e1, O1, Wp.imp (Wp.seq h1) fun l H2 ⟨G2, F2, e2, lo', g2, O2, r2, h2⟩ =>
    ⟨G2, F2, e2, O2, Wp.imp (Wp.seq h2) fun u H3 ⟨G3, F3, e3, hi', g3, O3, r3, h3⟩ => by
      cases (show l = lo' from r2)
      cases (show u = hi' from r3)
      have rv : ra X.K a v H3 G3 F3 σ e3 := ra_up r1 (g2.trans g3)
      unfold useC at h3
      split at h3
      · rename_i ds q
        refine .inr ⟨G3, ds, O3.gh, bp_of O3 rv q, fun p vs hp hd => ?_⟩
        obtain ⟨z1, z2⟩ := rr_new O3 hp hd
        exact h3 _ _ _ F3 (Same.refl _) z1 z2
      · rename_i d _ q
        split at h3
        · rename_i r q2
          exact .inl ⟨G3, d, r, O3.gh, bp_of O3 rv q, q2, fun v H' G' g hd => h3 v H' G' F3 g.gg (O3.grow g) hd⟩
        · exact h3.elim
      · exact h3.elim⟩⟩⟩
end
end DL
set_option Elab.async false
set_option linter.all false
set_option maxRecDepth 100000
set_option maxHeartbeats 4000000
/-! DlE: what is walked, targets, statements. -/
namespace DL
open PySem L2

/-! ### what a for walks -/
/-- one thing given: a frozen value, or a new tuple of such -/
def YD (K : PySem.W.Frag) (G : Hp) (ds : List D) : Nat → Hp → V → Hp → Prop := fun i H x H' => ∃ d, ds[i]? = some d ∧ ((H' = H ∧ Dq K G x d) ∨ ∃ p o vs es, x = .ref p ∧ H p = none ∧ o.dict = none ∧ H' = upd H p (.frz o (.tup vs)) ∧ d = .tuple es ∧ DqAll K G vs es)
def rf (K : PySem.W.Frag) : Rel (List D) It := fun ds J _ G _ _ _ => Walk J ds.length (Same G) (YD K G ds)
abbrev Lf := Fr → R (List D)
abbrev DI (X : Cx) (Φ : Fx) (W : WX) (tg e : Expr) (f : Lf) : Prop := PI X tg e (tG X.K X.mg Φ W (rf X.K) f)
theorem pi_weak {X : Cx} {tg e : Expr} {t t' : TI} (h : PI X tg e t) (w : ∀ σ H Q, t' σ H Q → t σ H Q) : PI X tg e t' := ⟨fun pins s σ H R I q => h.run pins s σ H R I (w σ H R q)⟩
section
variable {K : PySem.W.Frag} {G : Hp} {xs ys : List V} {ds es : List D} {a b : Addr}
theorem walk_l (h : SqL K G a xs) (p : DqAll K G xs ds) : Walk (Itl K a) ds.length (Same G) (YD K G ds) := by
  have w := walk_list (K := K) (a := a) (xs := xs)
  rw [DqAll.len p] at w
  exact w.mono (fun H s => same_l s h) fun i H x H' hi _ ⟨e1, e2⟩ => by
    obtain ⟨d, q, hd⟩ := DqAll.at' p e2
    exact ⟨d, q, .inl ⟨e1, hd⟩⟩
theorem walk_t (h : SqT K G a xs) (p : DqAll K G xs ds) : Walk (Itt K a) ds.length (Same G) (YD K G ds) := by
  have w := walk_tup (K := K) (a := a) (xs := xs)
  rw [DqAll.len p] at w
  exact w.mono (fun H s => same_t s h) fun i H x H' hi _ ⟨e1, e2⟩ => by
    obtain ⟨d, q, hd⟩ := DqAll.at' p e2
    exact ⟨d, q, .inl ⟨e1, hd⟩⟩
theorem walk_s {z : Str} : Walk (Its z) (z.cps.toList.map fun c => (PyData.str ⟨#[c]⟩ : D)).length (Same G) (YD K G (z.cps.toList.map fun c => PyData.str ⟨#[c]⟩)) := by
  have w := walk_str (z := z)
  have e : (z.cps.toList.map fun c => (PyData.str ⟨#[c]⟩ : D)).length = z.cps.size := by simp
  rw [e]
  refine w.mono (fun _ _ => trivial) fun i H x H' hi _ ⟨e1, c, e2, e3⟩ => ⟨.str ⟨#[c]⟩, ?_, .inl ⟨e1, by rw [e3]; exact .str _⟩⟩
  rw [List.getElem?_map]
  have : z.cps.toList[i]? = some c := by rw [Array.getElem?_toList]; exact e2
  rw [this]
  rfl
theorem walk_r {lo : Int} {n : Nat} : Walk (Itr lo n) ((List.range n).map fun (i : Nat) => (PyData.int (lo + (i : Int)) : D)).length (Same G) (YD K G ((List.range n).map fun (i : Nat) => PyData.int (lo + (i : Int)))) := by
  have w := walk_range (lo := lo) (n := n)
  have e : ((List.range n).map fun (i : Nat) => (PyData.int (lo + (i : Int)) : D)).length = n := by simp
  rw [e]
  refine w.mono (fun _ _ => trivial) fun i H x H' hi _ ⟨e1, e2⟩ => ⟨.int (lo + (i : Int)), ?_, .inl ⟨e1, by rw [e2]; exact .int _⟩⟩
  rw [List.getElem?_map, List.getElem?_range hi]
  rfl
theorem walk_rc {lo c : Int} {n : Nat} : Walk (Itc lo c n) ((List.range n).map fun (i : Nat) => (PyData.int (lo + (i : Int) * c) : D)).length (Same G) (YD K G ((List.range n).map fun (i : Nat) => PyData.int (lo + (i : Int) * c))) := by
  have w := walk_rangeC (lo := lo) (c := c) (n := n)
  have e : ((List.range n).map fun (i : Nat) => (PyData.int (lo + (i : Int) * c) : D)).length = n := by simp
  rw [e]
  refine w.mono (fun _ _ => trivial) fun i H x H' hi _ ⟨e1, e2⟩ => ⟨.int (lo + (i : Int) * c), ?_, .inl ⟨e1, by rw [e2]; exact .int _⟩⟩
  rw [List.getElem?_map, List.getElem?_range hi]
  rfl
def zipD (xs ys : List D) : List D := (xs.zip ys).map fun p => .tuple [p.1, p.2]
theorem zipD_at {i : Nat} {x y : D} (h1 : xs'[i]? = some x) (h2 : ys'[i]? = some y) : (zipD xs' ys')[i]? = some (.tuple [x, y]) := by
  unfold zipD
  have h : (xs'.zip ys')[i]? = some (x, y) := List.getElem?_zip_eq_some.mpr ⟨h1, h2⟩
  rw [List.getElem?_map, h]
  rfl
theorem zipD_len (xs ys : List D) : (zipD xs ys).length = min xs.length ys.length := by simp [zipD]
/-- a new pair of the i-th things -/
def YPairF (f g : Nat → Option V) : Nat → Hp → V → Hp → Prop := fun i H v H' => ∃ T o x z, v = .ref T ∧ H T = none ∧ o.dict = none ∧ H' = upd H T (.frz o (.tup [x, z])) ∧ f i = some x ∧ g i = some z
theorem yd_pair {i : Nat} {H : Hp} {v : V} {H' : Hp} (p : DqAll K G xs ds) (q : DqAll K G ys es) (y : YPairF (fun i => xs[i]?) (fun i => ys[i]?) i H v H') : YD K G (zipD ds es) i H v H' := by
  obtain ⟨T, o, x, z, h1, h2, h0, h3, h4, h5⟩ := y
  obtain ⟨d1, e1, hd1⟩ := DqAll.at' p h4
  obtain ⟨d2, e2, hd2⟩ := DqAll.at' q h5
  exact ⟨.tuple [d1, d2], zipD_at e1 e2, .inr ⟨T, o, [x, z], [d1, d2], h1, h2, h0, h3, rfl, .cons hd1 (.cons hd2 .nil)⟩⟩
def enumFrom : Nat → List D → List D
  | _, [] => []
  | n, d :: ds => .tuple [.int (n : Int), d] :: enumFrom (n + 1) ds
theorem enumFrom_len : ∀ (n : Nat) (ds : List D), (enumFrom n ds).length = ds.length
  | _, [] => rfl
  | n, d :: ds => by show (enumFrom (n + 1) ds).length + 1 = ds.length + 1; rw [enumFrom_len]
theorem enumFrom_at : ∀ (n : Nat) (ds : List D) (i : Nat) (d : D), ds[i]? = some d → (enumFrom n ds)[i]? = some (.tuple [.int ((n + i : Nat) : Int), d])
  | _, [], _, _, h => by simp at h
  | n, d :: ds, 0, _, h => by
    simp at h
    subst h
    rfl
  | n, d :: ds, i + 1, x, h => by
    have h' : ds[i]? = some x := by simpa using h
    show (enumFrom (n + 1) ds)[i]? = _
    rw [enumFrom_at (n + 1) ds i x h']
    have : n + 1 + i = n + (i + 1) := by omega
    rw [this]
theorem walk_en (h : SqL K G a xs) (p : DqAll K G xs ds) : Walk (IteF K a) (enumFrom 0 ds).length (Same G) (YD K G (enumFrom 0 ds)) := by
  rw [enumFrom_len]
  have ln := DqAll.len p
  refine ⟨fun i H hi s => ⟨xs, xs[i]'(by omega), same_l s h, List.getElem?_eq_getElem (by omega)⟩, fun H s => ⟨xs, same_l s h, by omega⟩, fun i H x H' hi s y => ?_⟩
  obtain ⟨T, o, z, h1, h2, h0, h3, h4⟩ := y
  obtain ⟨d, e1, hd⟩ := DqAll.at' p (h4 xs (same_l s h))
  exact ⟨.tuple [.int ((0 + i : Nat) : Int), d], enumFrom_at 0 ds i d e1, .inr ⟨T, o, _, _, h1, h2, h0, h3, rfl, by rw [Nat.zero_add]; exact .cons (.int _) (.cons hd .nil)⟩⟩
end

def seqOf : D → Option (List D)
  | .list ds => some ds
  | .tuple ds => some ds
  | .str z => some (z.cps.toList.map fun c => .str ⟨#[c]⟩)
  | _ => none
def iSeq (fa : Ef) : Lf := fun e => (fa e).bind fun a e1 => (fz a e1).bind fun d e2 => R.of (seqOf d) e2
def small62 (n : Int) : Bool := decide (-(2 ^ 62) ≤ n ∧ n < 2 ^ 62)
def iRng1F (fs : Af) : Lf := fun e => (fs e).bind fun as e1 => match rdA e1 as with
  | some [.int n] => if small62 n = true then .ok ((List.range n.toNat).map fun (i : Nat) => .int (0 + (i : Int))) e1 else .no
  | _ => .no
def iRng2F (fs : Af) : Lf := fun e => (fs e).bind fun as e1 => match rdA e1 as with
  | some [.int m, .int n] => if small62 m = true ∧ small62 n = true then .ok ((List.range (n - m).toNat).map fun (i : Nat) => .int (m + (i : Int))) e1 else .no
  | _ => .no
def iDownF (fs : Af) : Lf := fun e => (fs e).bind fun as e1 => match rdA e1 as with
  | some [.int m, .int n, .int c] => if c = -1 ∧ small62 m = true ∧ small62 n = true then .ok ((List.range (m - n).toNat).map fun (i : Nat) => .int (m + (i : Int) * (-1))) e1 else .no
  | _ => .no
def iEnumF (fs : Af) : Lf := fun e => (fs e).bind fun as e1 => (fzA as e1).bind fun ds e2 => match ds with
  | [.list xs] => .ok (enumFrom 0 xs) e2
  | _ => .no
theorem small62_iff {n : Int} (h : small62 n = true) : -(2 ^ 62) ≤ n ∧ n < 2 ^ 62 := of_decide_eq_true h
section
variable {X : Cx} {Φ : Fx} {W : WX} {tg x y : Expr} {fa : Ef} {fs : Af} {pos p : Pos}
theorem i_seq (ha : DE X Φ W x fa) : DI X Φ W tg x (iSeq fa) := ⟨fun pins s σ H R I ⟨G, F, e, O, h⟩ => by
  cases q1 : fa e with
  | no =>
    unfold iSeq at h
    rw [q1] at h
    exact h.elim
  | ex z e1 =>
    unfold iSeq at h
    rw [q1] at h
    exact (pi_list ha).run pins s σ H R I ⟨G, F, e, O, by rw [q1]; exact h⟩
  | ok a e1 =>
    unfold iSeq at h
    rw [q1, DL.R.bind_ok] at h
    cases q2 : fz a e1 with
    | no =>
      rw [q2] at h
      exact h.elim
    | ex z e2 => exact (fz_no q2).elim
    | ok d e2 =>
      rw [q2, DL.R.bind_ok] at h
      cases d with
      | list ds =>
        refine (pi_list ha).run pins s σ H R I ⟨G, F, e, O, ?_⟩
        rw [q1]
        intro v H1 G1 F1 s1 O1 r1
        obtain ⟨G2, s2, O2, hd⟩ := fz_ok O1 r1 q2
        cases hd with
        | lst h1 h2 => exact ⟨_, rfl, ⟨_, same_l O2.gh h1⟩, h _ H1 G2 F1 (s1.trans s2) O2 (walk_l h1 h2)⟩
      | tuple ds =>
        refine (pi_tup ha).run pins s σ H R I ⟨G, F, e, O, ?_⟩
        rw [q1]
        intro v H1 G1 F1 s1 O1 r1
        obtain ⟨G2, s2, O2, hd⟩ := fz_ok O1 r1 q2
        cases hd with
        | tup h1 _ h2 => exact ⟨_, rfl, ⟨_, same_t O2.gh h1⟩, h _ H1 G2 F1 (s1.trans s2) O2 (walk_t h1 h2)⟩
      | str z =>
        refine (pi_str ha).run pins s σ H R I ⟨G, F, e, O, ?_⟩
        rw [q1]
        intro v H1 G1 F1 s1 O1 r1
        obtain ⟨G2, s2, O2, hd⟩ := fz_ok O1 r1 q2
        cases hd
        exact ⟨z, rfl, h _ H1 G2 F1 (s1.trans s2) O2 walk_s⟩
      | none => exact h.elim
      | bool _ => exact h.elim
      | int _ => exact h.elim
      | dict _ => exact h.elim⟩
theorem bpa1 {K : PySem.W.Frag} {H G : Hp} {vs : List V} {d : D} (b : BpAll K H G vs [d]) : ∃ v, vs = [v] ∧ Bp K H G v d := by
  cases b with
  | cons h t =>
    cases t
    exact ⟨_, rfl, h⟩
theorem bpa2 {K : PySem.W.Frag} {H G : Hp} {vs : List V} {d d' : D} (b : BpAll K H G vs [d, d']) : ∃ v v', vs = [v, v'] ∧ Bp K H G v d ∧ Bp K H G v' d' := by
  cases b with
  | cons h t =>
    obtain ⟨v, e, h'⟩ := bpa1 t
    exact ⟨_, _, by rw [e], h, h'⟩
theorem bpa3 {K : PySem.W.Frag} {H G : Hp} {vs : List V} {d d' d'' : D} (b : BpAll K H G vs [d, d', d'']) : ∃ v v' v'', vs = [v, v', v''] ∧ Bp K H G v d ∧ Bp K H G v' d' ∧ Bp K H G v'' d'' := by
  cases b with
  | cons h t =>
    obtain ⟨v, v', e, h', h''⟩ := bpa2 t
    exact ⟨_, _, _, by rw [e], h, h', h''⟩
theorem i_rng1 (hm : X.mg "range" = none) (ha : DA X Φ W [x] fs) (hg : Gl X "range" := by rfl) (hs : starEach [x] X.env = [(false, eval x X.env)] := by rfl) : DI X Φ W tg (.Call (.Name "range" p) [x] [] pos) (iRng1F fs) :=
  pi_weak (pi_range1 hg hm ha hs) fun σ H R ⟨G, F, e, O, h⟩ => ⟨G, F, e, O, Wp.imp (Wp.seq h) fun vs H1 ⟨G1, F1, e1, as, g1, O1, r1, h1⟩ => by
    split at h1
    · rename_i n q
      split at h1
      · rename_i hn
        obtain ⟨v, rfl, b⟩ := bpa1 (bps_of O1 r1 q)
        obtain rfl := b.int
        exact ⟨n, rfl, (small62_iff hn).1, (small62_iff hn).2, h1 _ H1 G1 F1 (Same.refl _) O1 walk_r⟩
      · exact h1.elim
    · exact h1.elim⟩
theorem i_rng2 (hm : X.mg "range" = none) (ha : DA X Φ W [x, y] fs) (hg : Gl X "range" := by rfl) (hs : starEach [x, y] X.env = [(false, eval x X.env), (false, eval y X.env)] := by rfl) (hs2 : starEach [y] X.env = [(false, eval y X.env)] := by rfl) : DI X Φ W tg (.Call (.Name "range" p) [x, y] [] pos) (iRng2F fs) :=
  pi_weak (pi_range2 hg hm ha hs hs2) fun σ H R ⟨G, F, e, O, h⟩ => ⟨G, F, e, O, Wp.imp (Wp.seq h) fun vs H1 ⟨G1, F1, e1, as, g1, O1, r1, h1⟩ => by
    split at h1
    · rename_i m n q
      split at h1
      · rename_i hn
        obtain ⟨v, v', rfl, b, b'⟩ := bpa2 (bps_of O1 r1 q)
        obtain rfl := b.int
        obtain rfl := b'.int
        exact ⟨m, n, rfl, ⟨(small62_iff hn.1).1, (small62_iff hn.1).2, (small62_iff hn.2).1, (small62_iff hn.2).2⟩, h1 _ H1 G1 F1 (Same.refl _) O1 walk_r⟩
      · exact h1.elim
    · exact h1.elim⟩
end

/-! ### targets -/
abbrev Gf := D → Fr → R Unit
/-- a target's reading: js are the slots that it may store at -/
def tGt (K : PySem.W.Frag) (Φ : Fx) (js : List Nat) (f : Gf) : TG := fun v σ H Q => ∃ G F e d, Ok K Φ H G F σ e ∧ Dq K G v d ∧ match f d e with
  | .ok _ e' => ∀ σ' H' G' F', Same G G' → Ok K Φ H' G' F' σ' e' → (σ'.length = σ.length ∧ ∀ j, j ∉ js → σ'[j]? = σ[j]?) → Q σ' H'
  | _ => False
abbrev DG (X : Cx) (Φ : Fx) (js : List Nat) (tg : Expr) (f : Gf) : Prop := PG X tg (tGt X.K Φ js f)
theorem pg_weak {X : Cx} {tg : Expr} {t t' : TG} (h : PG X tg t) (w : ∀ v σ H Q, t' v σ H Q → t v σ H Q) : PG X tg t' := ⟨fun pins s σ H v u Q I r q => h.run pins s σ H v u Q I r (w v σ H Q q)⟩
def gSet (i : Nat) : Gf := fun d e => match e[i]? with
  | some (.io _) => .no
  | none => .no
  | _ => .ok () (e.set i (.sh d))
/-- a row of targets, on a row of values -/
abbrev Gfs := List D → Fr → R Unit
def gsNil : Gfs := fun ds e => match ds with
  | [] => .ok () e
  | _ => .no
def gsCons (g : Gf) (r : Gfs) : Gfs := fun ds e => match ds with
  | d :: ds => (g d e).bind fun _ e1 => r ds e1
  | [] => .no
def gTupF (r : Gfs) : Gf := fun d e => match d with
  | .tuple ds => r ds e
  | _ => .no
def tGts (K : PySem.W.Frag) (Φ : Fx) (js : List Nat) (f : Gfs) : TGs := fun vs σ H Q => ∃ G F e ds, Ok K Φ H G F σ e ∧ DqAll K G vs ds ∧ match f ds e with
  | .ok _ e' => ∀ σ' H' G' F', Same G G' → Ok K Φ H' G' F' σ' e' → (σ'.length = σ.length ∧ ∀ j, j ∉ js → σ'[j]? = σ[j]?) → Q σ' H'
  | _ => False
abbrev DGs (X : Cx) (Φ : Fx) (js : List Nat) (tgs : List Expr) (f : Gfs) : Prop := PGs X tgs (tGts X.K Φ js f)
theorem pgs_weak {X : Cx} {tgs : List Expr} {t t' : TGs} (h : PGs X tgs t) (w : ∀ v σ H Q, t' v σ H Q → t v σ H Q) : PGs X tgs t' := ⟨fun pins s σ H v u Q I r q => h.run pins s σ H v u Q I r (w v σ H Q q)⟩
section
variable {X : Cx} {Φ : Fx} {tg : Expr} {tgs : List Expr} {pos : Pos} {js ks : List Nat} {g : Gf} {r : Gfs}
theorem g_name (i : Nat) {x : Str} (hN : X.N.Nodup) (hi : X.N[i]? = some x := by rfl) (hx : Loc X.env.scope x := by first | exact Or.inl rfl | exact Or.inr rfl) (hf : X.fn x = true ∨ X.env.scope.names.lookup x = some .local := by first | exact .inl rfl | exact .inr rfl) : DG X Φ [i] (.Name x pos) (gSet i) :=
  pg_weak (pg_name hN hi hx hf) fun v σ H Q ⟨G, F, e, d, O, hd, h⟩ => by
    have fin : (∀ σ' H' G' F', Same G G' → Ok X.K Φ H' G' F' σ' (e.set i (.sh d)) → (σ'.length = σ.length ∧ ∀ j, j ∉ [i] → σ'[j]? = σ[j]?) → Q σ' H') → Q (σ.set i (some v)) H := fun z =>
      z _ H G F (Same.refl _) (O.set hd i) ⟨List.length_set, fun j hj => List.getElem?_set_ne (fun q => hj (by rw [q]; exact List.mem_singleton.mpr rfl))⟩
    unfold gSet at h
    split at h
    · rename_i q
      split at q
      · cases q
      · cases q
      · cases q
        exact fin h
    · exact h.elim
theorem g_snil : DGs X Φ [] [] gsNil := pgs_weak pgs_nil fun vs σ H Q ⟨G, F, e, ds, O, hd, h⟩ => by
  cases hd with
  | nil => exact ⟨rfl, h σ H G F (Same.refl _) O ⟨rfl, fun _ _ => rfl⟩⟩
  | cons _ _ => exact h.elim
theorem g_scons (h1 : DG X Φ js tg g) (h2 : DGs X Φ ks tgs r) (hs : (assignEach (tg :: tgs) X.env).map (·.2) = assign tg X.env :: (assignEach tgs X.env).map (·.2) := by rfl) : DGs X Φ (js ++ ks) (tg :: tgs) (gsCons g r) :=
  pgs_weak (pgs_cons h1 h2 hs) fun vs σ H Q ⟨G, F, e, ds, O, hd, h⟩ => by
    cases hd with
    | nil => exact h.elim
    | @cons v vs d ds a t =>
      have h' : (match (g d e).bind fun _ e1 => r ds e1 with
        | .ok _ e' => ∀ σ' H' G' F', Same G G' → Ok X.K Φ H' G' F' σ' e' → (σ'.length = σ.length ∧ ∀ j, j ∉ js ++ ks → σ'[j]? = σ[j]?) → Q σ' H'
        | _ => False) := h
      refine ⟨v, vs, rfl, G, F, e, d, O, a, ?_⟩
      cases q : g d e with
      | no =>
        rw [q] at h'
        exact h'
      | ex x e1 =>
        rw [q] at h'
        exact h'
      | ok u e1 =>
        rw [q, R.bind_ok] at h'
        intro σ1 H1 G1 F1 s1 O1 ⟨l1, k1⟩
        refine ⟨G1, F1, e1, ds, O1, dpa_mono s1 t, ?_⟩
        cases q2 : r ds e1 with
        | no =>
          rw [q2] at h'
          exact h'
        | ex x e2 =>
          rw [q2] at h'
          exact h'
        | ok u2 e2 =>
          rw [q2] at h'
          exact fun σ2 H2 G2 F2 s2 O2 ⟨l2, k2⟩ => h' σ2 H2 G2 F2 (s1.trans s2) O2 ⟨l2.trans l1, fun j hj => (k2 j fun z => hj (List.mem_append_right _ z)).trans (k1 j fun z => hj (List.mem_append_left _ z))⟩
theorem g_tup {k : Nat} {n : Nat} (hc : X.calm = true) (h : DGs X Φ js tgs r) (hl : ∀ ds e u e', r ds e = .ok u e' → ds.length = n) (hn : (assignEach tgs X.env).length = n := by rfl) (hst : (assignEach tgs X.env).findIdx? (·.1) = none := by rfl) : DG X Φ js (.Tuple tgs k pos) (gTupF r) :=
  pg_weak (pg_tup hc h hn hst) fun v σ H Q ⟨G, F, e, d, O, hd, h⟩ => by
    cases hd with
    | @tup a xs ds t1 _ t2 =>
      refine ⟨a, xs, rfl, same_t O.gh t1, ?_, G, F, e, ds, O, t2, h⟩
      rw [DqAll.len t2]
      have h' : (match r ds e with
        | .ok _ e' => ∀ σ' H' G' F', Same G G' → Ok X.K Φ H' G' F' σ' e' → (σ'.length = σ.length ∧ ∀ j, j ∉ js → σ'[j]? = σ[j]?) → Q σ' H'
        | _ => False) := h
      cases q : r ds e with
      | no =>
        rw [q] at h'
        exact h'.elim
      | ex x e1 =>
        rw [q] at h'
        exact h'.elim
      | ok u e1 => exact hl ds e u e1 q
    | _ => exact h.elim
theorem gs_len0 : ∀ ds e u e', gsNil ds e = .ok u e' → ds.length = 0 := fun ds e u e' q => by
  cases ds with
  | nil => rfl
  | cons _ _ => cases q
theorem gs_len {n : Nat} (h : ∀ ds e u e', r ds e = .ok u e' → ds.length = n) : ∀ ds e u e', gsCons g r ds e = .ok u e' → ds.length = n + 1 := fun ds e u e' q => by
  cases ds with
  | nil => cases q
  | cons d ds =>
    have q' : ((g d e).bind fun _ e1 => r ds e1) = .ok u e' := q
    cases q1 : g d e with
    | no =>
      rw [q1] at q'
      cases q'
    | ex x e1 =>
      rw [q1] at q'
      cases q'
    | ok v e1 =>
      rw [q1, R.bind_ok] at q'
      show ds.length + 1 = n + 1
      rw [h ds e1 u e' q']
end

/-! ### writing at a slot's list -/
def wrL (a : Arg) (g : List D → Option (List D)) (e : Fr) : R Unit := match a with
  | .slot i => match e[i]? with
    | some (.own (.ls ds)) => match g ds with
      | some es => .ok () (e.set i (.own (.ls es)))
      | none => .no
    | some (.io (.ls ds)) => match g ds with
      | some es => .ok () (e.set i (.io (.ls es)))
      | none => .no
    | _ => .no
  | _ => .no
section
variable {K : PySem.W.Frag} {mg : Str → Option Value} {Φ : Fx} {W : WX} {H G : Hp} {F : Nat → List Addr} {σ : L2.St} {e e' : Fr}
theorem wrL_ok (O : Ok K Φ H G F σ e) {a : Arg} {v : V} (r : ra K a v H G F σ e) {g : List D → Option (List D)} {u : Unit} (q : wrL a g e = .ok u e') :
    ∃ l vs ds es, v = .ref l ∧ H l = some (.lst vs) ∧ DqAll K G vs ds ∧ g ds = some es ∧ ∀ ws, DqAll K G ws es → ∃ F', Ok K Φ (upd H l (.lst ws)) G F' σ e' := by
  cases a with
  | val d => cases q
  | slot i =>
    have r' : σ[i]? = some (some v) := r
    have q' : (match e[i]? with
      | some (.own (.ls ds)) => match g ds with
        | some es => R.ok () (e.set i (.own (.ls es)))
        | none => .no
      | some (.io (.ls ds)) => match g ds with
        | some es => R.ok () (e.set i (.io (.ls es)))
        | none => .no
      | _ => R.no) = R.ok u e' := q
    split at q'
    · rename_i ds hi
      split at q'
      · rename_i es hg
        cases q'
        obtain ⟨l, e1, o1, n1⟩ := O.slots i _ hi
        rw [r'] at e1
        cases e1
        obtain ⟨vs, h1, h2, hA⟩ := owls o1
        refine ⟨l, vs, ds, es, rfl, h1, h2, hg, fun ws hw => ⟨_, O.write (w' := .ls es) (A' := [l]) hi rfl r' (.ls upd_same hw) (fun b hb => by rw [hA] at hb; exact hb) (fun b hb => .inl (by rw [hA]; exact hb)) fun b hb => upd_ne fun z => hb (List.mem_singleton.mpr z)⟩⟩
      · cases q'
    · rename_i ds hi
      split at q'
      · rename_i es hg
        cases q'
        obtain ⟨l, e1, o1, n1⟩ := O.slots i _ hi
        rw [r'] at e1
        cases e1
        obtain ⟨vs, h1, h2, hA⟩ := owls o1
        refine ⟨l, vs, ds, es, rfl, h1, h2, hg, fun ws hw => ⟨_, O.write (w' := .ls es) (A' := [l]) hi rfl r' (.ls upd_same hw) (fun b hb => by rw [hA] at hb; exact hb) (fun b hb => .inl (by rw [hA]; exact hb)) fun b hb => upd_ne fun z => hb (List.mem_singleton.mpr z)⟩⟩
      · cases q'
    · cases q'
theorem wrL_no {a : Arg} {g : List D → Option (List D)} {x : Exn} (q : wrL a g e = .ex x e') : False := by
  cases a with
  | val d => cases q
  | slot i =>
    have q' : (match e[i]? with
      | some (.own (.ls ds)) => match g ds with
        | some es => R.ok () (e.set i (.own (.ls es)))
        | none => .no
      | some (.io (.ls ds)) => match g ds with
        | some es => R.ok () (e.set i (.io (.ls es)))
        | none => .no
      | _ => R.no) = R.ex x e' := q
    split at q'
    · split at q' <;> cases q'
    · split at q' <;> cases q'
    · cases q'
end
/-- o[i] = v -/
def gSubF (fa fb : Ef) : Gf := fun d e => (fa e).bind fun a e1 => (fb e1).bind fun b e2 => match rd1 e2 b with
  | some (.int k) => wrL a (fun ds => (ixN ds.length k).map fun n => ds.set n d) e2
  | _ => .no
section
variable {X : Cx} {Φ : Fx} {x y : Expr} {pos : Pos} {fa fb : Ef}
theorem g_sub (ha : DE X Φ (fun _ _ _ _ => False) x fa) (hb : DE X Φ (fun _ _ _ _ => False) y fb)
    (hs : ∀ v, assign (.Subscript x y pos) X.env v = (do
      let ov ← holding [v] (eval x X.env)
      let iv ← holding [v, ov] (eval y X.env)
      standAt pos
      holding [v, ov, iv] (setItem ov iv v)
      release [v, ov, iv] []) := by intro _; rfl) : DG X Φ [] (.Subscript x y pos) (gSubF fa fb) :=
  pg_weak (pg_sub ha hb set_list hs) fun v σ H Q ⟨G, F, e, d, O, hd, h⟩ => by
    have h' : (match (fa e).bind fun a e1 => (fb e1).bind fun b e2 => match rd1 e2 b with
        | some (.int k) => wrL a (fun ds => (ixN ds.length k).map fun n => ds.set n d) e2
        | _ => .no with
      | .ok _ e' => ∀ σ' H' G' F', Same G G' → Ok X.K Φ H' G' F' σ' e' → (σ'.length = σ.length ∧ ∀ j, j ∉ [] → σ'[j]? = σ[j]?) → Q σ' H'
      | _ => False) := h
    refine ⟨G, F, e, O, ?_⟩
    cases q1 : fa e with
    | no =>
      rw [q1] at h'
      exact h'
    | ex z e1 =>
      rw [q1] at h'
      exact h'.elim
    | ok a e1 =>
      rw [q1, R.bind_ok] at h'
      intro o H1 G1 F1 s1 O1 r1
      refine ⟨G1, F1, e1, O1, ?_⟩
      cases q2 : fb e1 with
      | no =>
        rw [q2] at h'
        exact h'
      | ex z e2 =>
        rw [q2] at h'
        exact h'.elim
      | ok b e2 =>
        rw [q2, R.bind_ok] at h'
        intro w H2 G2 F2 s2 O2 r2
        split at h'
        · rename_i q3
          split at q3
          · rename_i k q4
            obtain rfl := (bp_of O2 r2 q4).int
            obtain ⟨l, vs, ds, es, rfl, e5, p5, g5, k5⟩ := wrL_ok O2 (ra_up r1 s2) q3
            cases q6 : ixN ds.length k with
            | none =>
              rw [q6] at g5
              cases g5
            | some n =>
              rw [q6] at g5
              cases g5
              obtain ⟨F', O3⟩ := k5 _ (DqAll.set (dp_mono (s1.trans s2) hd) n p5)
              exact ⟨l, vs, k, n, rfl, rfl, e5, by rw [DqAll.len p5]; exact q6, h' σ _ G2 F' (s1.trans s2) O3 ⟨rfl, fun _ _ => rfl⟩⟩
          · cases q3
        · exact h'.elim
end
end DL
set_option Elab.async false
set_option linter.all false
set_option maxRecDepth 100000
set_option maxHeartbeats 4000000
/-! DlF: statements, comprehensions. -/
namespace DL
open PySem L2

inductive Fl where
  | nx
  | rt (s : Sl)
  | bk
  | ct
abbrev Sf := Fr → R Fl
/-- what a def hands back -/
def rv (K : PySem.W.Frag) (Φ : Fx) : Rel Sl V := fun s v H G F _ e => match s with
  | .sh d => Dq K G v d
  | .own w => ∃ a A, v = .ref a ∧ OwAt K G H w a A ∧ (∀ b ∈ A, G b = none ∧ Φ.H_0 b = none) ∧ ∀ j t, e[j]? = some t → t.owned = true → ∀ b ∈ A, b ∉ F j
  | _ => False
/-- what is wanted behind a statement, by what it came to -/
def Wend (K : PySem.W.Frag) (Φ : Fx) (Dn : Ends) (fl : Fl) (v : V) (σ : L2.St) (H G : Hp) (F : Nat → List Addr) (e : Fr) : Prop := match fl with
  | .nx => Dn.nx σ H
  | .bk => Dn.bk σ H
  | .ct => Dn.ct σ H
  | .rt s => rv K Φ s v H G F σ e → Dn.rt v H
def WS (K : PySem.W.Frag) (mg : Str → Option Value) (Φ : Fx) (W : WX) (G : Hp) (r : R Fl) (Dn : Ends) : Prop := match r with
  | .no => False
  | .ok fl e => ∀ v σ H' G' F', Same G G' → Ok K Φ H' G' F' σ e → Wend K Φ Dn fl v σ H' G' F' e
  | .ex x e => ∀ c d σ H' G' F', Same G G' → Ok K Φ H' G' F' σ e → ExOk mg K G' H' x c d → W c d σ H'
def tS (K : PySem.W.Frag) (mg : Str → Option Value) (Φ : Fx) (W : WX) (f : Sf) : TS := fun Dn σ H => ∃ G F e, Ok K Φ H G F σ e ∧ WS K mg Φ W G (f e) Dn
abbrev DS (X : Cx) (Φ : Fx) (W : WX) (st : Stmt) (f : Sf) : Prop := PS X st (tS X.K X.mg Φ W f)
abbrev DSs (X : Cx) (Φ : Fx) (W : WX) (st : List Stmt) (f : Sf) : Prop := PSs X st (tS X.K X.mg Φ W f)
section
variable {K : PySem.W.Frag} {mg : Str → Option Value} {Φ : Fx} {W : WX} {G G' : Hp} {r : R Fl} {Dn : Ends} {σ : L2.St}
theorem WS.up (h : WS K mg Φ W G r Dn) (gg : Same G G') : WS K mg Φ W G' r Dn := by
  cases r with
  | no => exact h
  | ok a e => exact fun v σ H' G2 F' s o => h v σ H' G2 F' (gg.trans s) o
  | ex x e => exact fun c d σ H' G2 F' s o p => h c d σ H' G2 F' (gg.trans s) o p
/-- a part of a statement's value, then the rest -/
theorem WS.seq {α β : Type} {ρ : Rel α β} {q : R α} {f : α → Fr → R Fl} (h : WS K mg Φ W G (q.bind f) Dn) :
    Wp K mg Φ W σ ρ G q (fun v H1 => ∃ G1 F1 e1 a, Same G G1 ∧ Ok K Φ H1 G1 F1 σ e1 ∧ ρ a v H1 G1 F1 σ e1 ∧ WS K mg Φ W G1 (f a e1) Dn) := by
  cases q with
  | no => exact h
  | ok a e => exact fun v H' G2 F' s o p => ⟨G2, F', e, a, s, o, p, WS.up h s⟩
  | ex x e => exact fun c d H' G2 F' s o p => h c d σ H' G2 F' s o p
theorem WS.fz {H : Hp} {F : Nat → List Addr} {e : Fr} {a : Arg} {v : V} {f : D → Fr → R Fl} (O : Ok K Φ H G F σ e) (r : ra K a v H G F σ e) (h : WS K mg Φ W G ((DL.fz a e).bind f) Dn) :
    ∃ G1 e1 d, Same G G1 ∧ Ok K Φ H G1 F σ e1 ∧ Dq K G1 v d ∧ WS K mg Φ W G1 (f d e1) Dn := by
  cases q : DL.fz a e with
  | no =>
    rw [q] at h
    exact h.elim
  | ex x e1 => exact (fz_no q).elim
  | ok d e1 =>
    rw [q] at h
    obtain ⟨G1, s1, O1, h1⟩ := fz_ok O r q
    exact ⟨G1, e1, d, s1, O1, h1, WS.up h s1⟩
end

/-! ### rows of statements -/
def sNil : Sf := fun e => .ok .nx e
def sSeq (f g : Sf) : Sf := fun e => (f e).bind fun fl e1 => match fl with
  | .nx => g e1
  | fl => .ok fl e1
section
variable {X : Cx} {Φ : Fx} {W : WX} {st : Stmt} {sts : List Stmt} {pos : Pos} {f g : Sf} {fa : Ef} {fr : Rf} {ft : Tf} {x : Expr}
theorem s_nil : DSs X Φ W [] sNil := pss_weak pss_nil fun Dn σ H ⟨G, F, e, O, h⟩ => h .non σ H G F (Same.refl _) O
theorem s_cons (h1 : DS X Φ W st f) (h2 : DSs X Φ W sts g) : DSs X Φ W (st :: sts) (sSeq f g) :=
  pss_weak (pss_cons h1 h2) fun Dn σ H ⟨G, F, e, O, h⟩ => ⟨G, F, e, O, by
    have h' : WS X.K X.mg Φ W G ((f e).bind fun fl e1 => match fl with
      | .nx => g e1
      | fl => .ok fl e1) Dn := h
    cases q : f e with
    | no =>
      rw [q] at h'
      exact h'
    | ex z e1 =>
      rw [q] at h'
      exact h'
    | ok fl e1 =>
      rw [q, R.bind_ok] at h'
      cases fl with
      | nx => exact fun v σ1 H1 G1 F1 s1 O1 => ⟨G1, F1, e1, O1, WS.up h' s1⟩
      | bk => exact h'
      | ct => exact h'
      | rt s => exact h'⟩
theorem s_one (h1 : DS X Φ W st f) : DSs X Φ W [st] f := pss_weak (pss_one h1) fun _ _ _ h => h
def sPass : Sf := fun e => .ok .nx e
def sBrk : Sf := fun e => .ok .bk e
def sCnt : Sf := fun e => .ok .ct e
theorem s_pass : DS X Φ W (.Pass pos) sPass := ps_weak ps_pass fun Dn σ H ⟨G, F, e, O, h⟩ => h .non σ H G F (Same.refl _) O
theorem s_brk : DS X Φ W (.Break pos) sBrk := ps_weak ps_break fun Dn σ H ⟨G, F, e, O, h⟩ => h .non σ H G F (Same.refl _) O
theorem s_cnt : DS X Φ W (.Continue pos) sCnt := ps_weak ps_continue fun Dn σ H ⟨G, F, e, O, h⟩ => h .non σ H G F (Same.refl _) O
def sNo : Sf := fun _ => .no
theorem s_no : DS X Φ W st sNo := ps_weak ps_never fun Dn σ H ⟨G, F, e, O, h⟩ => h.elim
/-- e as a statement -/
def sDrop (f : Ef) : Sf := fun e => (f e).bind fun _ e1 => .ok .nx e1
theorem s_expr (h : DE X Φ W x fa) (hs : swapsWith x none pos.line X.env = pure false := by rfl) : DS X Φ W (.Expr x pos) (sDrop fa) :=
  ps_weak (ps_expr h hs) fun Dn σ H ⟨G, F, e, O, h⟩ => ⟨G, F, e, O, Wp.imp (WS.seq (σ := σ) h) fun v H1 ⟨G1, F1, e1, a, g1, O1, r1, h1⟩ => h1 .non σ H1 G1 F1 (Same.refl _) O1⟩
/-- if -/
def sIf (t : Tf) (f g : Sf) : Sf := fun e => (t e).bind fun b e1 => match b with
  | true => f e1
  | false => g e1
theorem s_if {a b : List Stmt} (ht : DT X Φ W x ft) (ha : DSs X Φ W a f) (hb : DSs X Φ W b g) : DS X Φ W (.If x a b pos) (sIf ft f g) :=
  ps_weak (ps_if ht ha hb) fun Dn σ H ⟨G, F, e, O, h⟩ => ⟨G, F, e, O, Wp.imp (WS.seq (σ := σ) h) fun v H1 ⟨G1, F1, e1, b, g1, O1, r1, h1⟩ => by
    cases (show v = b from r1)
    cases v with
    | true => exact iteT ⟨G1, F1, e1, O1, h1⟩
    | false => exact iteF ⟨G1, F1, e1, O1, h1⟩⟩
/-- return -/
def retR (r : RV) (e : Fr) : R Fl := match r with
  | .arg (.val d) => .ok (.rt (.sh d)) e
  | .arg (.slot i) => match e[i]? with
    | some (.sh d) => .ok (.rt (.sh d)) e
    | some (.own w) => .ok (.rt (.own w)) (e.set i .un)
    | _ => .no
  | .new w => .ok (.rt (.own w)) e
def sRet (f : Rf) : Sf := fun e => (f e).bind retR
theorem Ok.lose {K : PySem.W.Frag} {H G : Hp} {F : Nat → List Addr} {σ : L2.St} {e : Fr} (O : Ok K Φ H G F σ e) (i : Nat) : Ok K Φ H G F σ (e.set i .un) where
  gh := O.gh
  len := by rw [List.length_set]; exact O.len
  slots := fun j s q => by
    by_cases hj : i = j
    · subst hj
      by_cases hl : i < e.length
      · rw [List.getElem?_set_self hl] at q
        cases q
        trivial
      · rw [List.getElem?_eq_none (by rw [List.length_set]; omega)] at q
        cases q
    · rw [List.getElem?_set_ne hj] at q
      exact O.slots j s q
  sep := fun j k s t hjk q1 q2 o1 o2 => by
    have old : ∀ {j : Nat} {s : Sl}, (e.set i .un)[j]? = some s → s.owned = true → e[j]? = some s := fun {j s} q o => by
      by_cases hj : i = j
      · subst hj
        by_cases hl : i < e.length
        · rw [List.getElem?_set_self hl] at q
          cases q
          cases o
        · rw [List.getElem?_eq_none (by rw [List.length_set]; omega)] at q
          cases q
      · rw [List.getElem?_set_ne hj] at q
        exact q
    exact O.sep j k s t hjk (old q1 o1) (old q2 o2) o1 o2
  f0 := O.f0
  f1 := O.f1
  f2 := O.f2
theorem retR_ok {K : PySem.W.Frag} {mg : Str → Option Value} {H G : Hp} {F : Nat → List Addr} {σ : L2.St} {e : Fr} {r : RV} {v : V} {Dn : Ends} (O : Ok K Φ H G F σ e) (h : rr K Φ r v H G F σ e) (w : WS K mg Φ W G (retR r e) Dn) : Dn.rt v H := by
  cases r with
  | new u => exact w v σ H G F (Same.refl _) O h
  | arg a =>
    cases a with
    | val d => exact w v σ H G F (Same.refl _) O h
    | slot i =>
      have h' : σ[i]? = some (some v) := h
      have w' : WS K mg Φ W G (match e[i]? with
        | some (.sh d) => .ok (.rt (.sh d)) e
        | some (.own w) => .ok (.rt (.own w)) (e.set i .un)
        | _ => .no) Dn := w
      split at w'
      · rename_i d q
        obtain ⟨v2, e2, h2⟩ := O.slots i _ q
        rw [h'] at e2
        cases e2
        exact w' v σ H G F (Same.refl _) O h2
      · rename_i u q
        obtain ⟨a, e2, h2, n2⟩ := O.slots i _ q
        rw [h'] at e2
        cases e2
        refine w' _ σ H G F (Same.refl _) (O.lose i) ⟨a, F i, rfl, h2, n2, fun j t q2 o b hb => ?_⟩
        by_cases hj : i = j
        · subst hj
          by_cases hl : i < e.length
          · rw [List.getElem?_set_self hl] at q2
            cases q2
            cases o
          · rw [List.getElem?_eq_none (by rw [List.length_set]; omega)] at q2
            cases q2
        · rw [List.getElem?_set_ne hj] at q2
          exact O.sep i j _ t hj q q2 rfl o b hb
      · exact w'.elim
theorem s_ret (h : DR X Φ W x fr) : DS X Φ W (.Return (some x) pos) (sRet fr) :=
  ps_weak (ps_ret h) fun Dn σ H ⟨G, F, e, O, h⟩ => ⟨G, F, e, O, Wp.imp (WS.seq (σ := σ) h) fun v H1 ⟨G1, F1, e1, r, g1, O1, r1, h1⟩ => retR_ok O1 r1 h1⟩
def sRetN : Sf := fun e => .ok (.rt (.sh .none)) e
theorem s_retN : DS X Φ W (.Return none pos) sRetN := ps_weak ps_retN fun Dn σ H ⟨G, F, e, O, h⟩ => h .non σ H G F (Same.refl _) O .non
/-- name = .. -/
def setR (i : Nat) (r : RV) (e : Fr) : R Fl := match e[i]? with
  | some (.io _) => .no
  | none => .no
  | _ => match r with
    | .arg a => (fz a e).bind fun d e2 => .ok .nx (e2.set i (.sh d))
    | .new w => .ok .nx (e.set i (.own w))
def sSet (i : Nat) (f : Rf) : Sf := fun e => (f e).bind (setR i)
theorem setR_ok {K : PySem.W.Frag} {mg : Str → Option Value} {H G : Hp} {F : Nat → List Addr} {σ : L2.St} {e : Fr} {i : Nat} {r : RV} {v : V} {Dn : Ends} (O : Ok K Φ H G F σ e) (h : rr K Φ r v H G F σ e) (w : WS K mg Φ W G (setR i r e) Dn) : Dn.nx (σ.set i (some v)) H := by
  unfold setR at w
  split at w
  · exact w.elim
  · exact w.elim
  · cases r with
    | arg a =>
      obtain ⟨G1, e1, d, s1, O1, hd, w1⟩ := WS.fz O h w
      exact w1 .non _ H G1 F (Same.refl _) (O1.set hd i)
    | new u =>
      obtain ⟨a, A, rfl, o, n, ap⟩ := h
      exact w .non _ H G _ (Same.refl _) (O.setOwn o n ap i)
theorem s_set (i : Nat) {n : Str} {pos' : Pos} (hN : X.N.Nodup) (he : DR X Φ W x fr) (hi : X.N[i]? = some n := by rfl) (hx : Loc X.env.scope n := by first | exact Or.inl rfl | exact Or.inr rfl) (hs : swapsWith x (some (.Name n pos')) pos.line X.env = pure false := by rfl)
    (hf : X.fn n = true ∨ X.env.scope.names.lookup n = some .local := by first | exact .inl rfl | exact .inr rfl) : DS X Φ W (.Assign [.Name n pos'] x pos) (sSet i fr) :=
  ps_weak (ps_set hN hi hx he hs hf) fun Dn σ H ⟨G, F, e, O, h⟩ => ⟨G, F, e, O, Wp.imp (WS.seq (σ := σ) h) fun v H1 ⟨G1, F1, e1, r, g1, O1, r1, h1⟩ => setR_ok O1 r1 h1⟩
/-- a = b = .. no; target = .. -/
def sAsg (f : Ef) (g : Gf) : Sf := fun e => (f e).bind fun a e1 => (fz a e1).bind fun d e2 => match g d e2 with
  | .ok _ e3 => .ok .nx e3
  | _ => .no
theorem s_asg {js : List Nat} {tg : Expr} {g : Gf} (he : DE X Φ W x fa) (hg : DG X Φ js tg g) (hs : swapsWithSole [tg] x pos.line X.env = pure false := by rfl) (hw : swappedStores [tg] x X.env = pure none := by rfl)
    (h1 : (assignEach [tg] X.env).map (·.2) = [assign tg X.env] := by rfl) : DS X Φ W (.Assign [tg] x pos) (sAsg fa g) :=
  ps_weak (ps_asg he hg hs hw h1) fun Dn σ H ⟨G, F, e, O, h⟩ => ⟨G, F, e, O, Wp.imp (WS.seq (σ := σ) h) fun v H1 ⟨G1, F1, e1, a, g1, O1, r1, h1⟩ => by
    obtain ⟨G2, e2, d, s2, O2, hd, h2⟩ := WS.fz O1 r1 h1
    refine ⟨G2, F1, e2, d, O2, hd, ?_⟩
    cases q : g d e2 with
    | no =>
      rw [q] at h2
      exact h2
    | ex z e3 =>
      rw [q] at h2
      exact h2
    | ok u e3 =>
      rw [q] at h2
      exact fun σ' H' G' F' s3 O3 _ => h2 .non σ' H' G' F' s3 O3⟩
end

/-! ### a new object is held while something else is reckoned -/
def Fx.plus (Φ : Fx) (H : Hp) (A : List Addr) : Fx := ⟨fun b => if b ∈ A then H b else Φ.H_0 b, fun b => if b ∈ A then none else Φ.G_0 b, fun i => (Φ.io i).filter fun b => decide (b ∉ A), Φ.at_⟩
section
variable {K : PySem.W.Frag} {Φ : Fx} {H G H' G' : Hp} {F F' : Nat → List Addr} {σ σ' : L2.St} {e e' : Fr} {A : List Addr}
theorem Ok.hold (O : Ok K Φ H G F σ e) (th : ∀ b ∈ A, H b ≠ none) (n : ∀ b ∈ A, G b = none) (ap : ∀ j t, e[j]? = some t → t.owned = true → ∀ b ∈ A, b ∉ F j) : Ok K (Φ.plus H A) H G F σ e where
  gh := O.gh
  len := O.len
  slots := fun i s q => by
    have old := O.slots i s q
    cases s with
    | un => trivial
    | xn => first | exact old | exact h | exact h1 | exact h2 | exact q | exact O.slots _ _ ‹_›
    | sh d => exact old
    | own w =>
      obtain ⟨a, e1, h1, h2⟩ := old
      refine ⟨a, e1, h1, fun b hb => ⟨(h2 b hb).1, ?_⟩⟩
      show (if b ∈ A then H b else Φ.H_0 b) = none
      rw [if_neg fun z => ap i _ q rfl b z hb]
      exact (h2 b hb).2
    | io w =>
      obtain ⟨a, e1, h1, h2⟩ := old
      refine ⟨a, e1, h1, fun b hb => ⟨(h2 b hb).1, ?_, (h2 b hb).2.2⟩⟩
      have nA : b ∉ A := fun z => ap i _ q rfl b z hb
      rcases (h2 b hb).2.1 with z | z
      · exact .inl (List.mem_filter.mpr ⟨z, decide_eq_true nA⟩)
      · refine .inr ?_
        show (if b ∈ A then H b else Φ.H_0 b) = none
        rw [if_neg nA]
        exact z
  sep := O.sep
  f0 := fun b hb => by
    by_cases hA : b ∈ A
    · exact th b hA
    · refine O.f0 b fun z => hb ?_
      show (if b ∈ A then H b else Φ.H_0 b) = none
      rw [if_neg hA]
      exact z
  f1 := fun b o q m => by
    have q' : (if b ∈ A then H b else Φ.H_0 b) = some o := q
    by_cases hA : b ∈ A
    · rw [if_pos hA] at q'
      exact q'
    · rw [if_neg hA] at q'
      exact O.f1 b o q' fun i z => m i (List.mem_filter.mpr ⟨z, decide_eq_true hA⟩)
  f2 := fun b hb => by
    show G b = if b ∈ A then none else Φ.G_0 b
    by_cases hA : b ∈ A
    · rw [if_pos hA]
      exact n b hA
    · rw [if_neg hA]
      refine O.f2 b fun z => hb ?_
      show (if b ∈ A then H b else Φ.H_0 b) = none
      rw [if_neg hA]
      exact z
theorem Ok.unhold (O : Ok K (Φ.plus H A) H' G' F' σ' e') (th : ∀ b ∈ A, H b ≠ none) (n : ∀ b ∈ A, Φ.H_0 b = none) :
    Ok K Φ H' G' F' σ' e' ∧ (∀ b ∈ A, H' b = H b) ∧ (∀ b ∈ A, G' b = none) ∧ ∀ j t, e'[j]? = some t → t.owned = true → ∀ b ∈ A, b ∉ F' j := by
  have h0 : ∀ b, b ∉ A → (Φ.plus H A).H_0 b = Φ.H_0 b := fun b hb => if_neg hb
  have hA : ∀ b, b ∈ A → (Φ.plus H A).H_0 b = H b := fun b hb => if_pos hb
  have back : ∀ b, (Φ.plus H A).H_0 b = none → Φ.H_0 b = none := fun b hb => by
    by_cases z : b ∈ A
    · exact n b z
    · rw [h0 b z] at hb
      exact hb
  refine ⟨⟨O.gh, O.len, fun i s q => ?_, O.sep, fun b hb => O.f0 b fun z => hb (back b z), fun b o q m => ?_, fun b hb => ?_⟩, fun b hb => ?_, fun b hb => ?_, fun j t q o b hb hf => ?_⟩
  · have old := O.slots i s q
    cases s with
    | un => trivial
    | xn => first | exact old | exact h | exact h1 | exact h2 | exact q | exact O.slots _ _ ‹_›
    | sh d => exact old
    | own w =>
      obtain ⟨a, e1, h1, h2⟩ := old
      exact ⟨a, e1, h1, fun b hb => ⟨(h2 b hb).1, back b (h2 b hb).2⟩⟩
    | io w =>
      obtain ⟨a, e1, h1, h2⟩ := old
      exact ⟨a, e1, h1, fun b hb => ⟨(h2 b hb).1, (h2 b hb).2.1.elim (fun z => .inl (List.mem_filter.mp z).1) (fun z => .inr (back b z)), (h2 b hb).2.2⟩⟩
  · have nA : b ∉ A := fun z => by rw [n b z] at q; cases q
    exact O.f1 b o (by rw [h0 b nA]; exact q) fun i z => m i (List.mem_filter.mp z).1
  · have nA : b ∉ A := fun z => hb (n b z)
    have := O.f2 b (by rw [h0 b nA]; exact hb)
    rw [this]
    exact if_neg nA
  · cases q : H b with
    | none => exact absurd q (th b hb)
    | some o => exact O.f1 b o (by rw [hA b hb]; exact q) fun i z => of_decide_eq_true (List.mem_filter.mp z).2 hb
  · have := O.f2 b (by rw [hA b hb]; exact th b hb)
    rw [this]
    exact if_pos hb
  · have old := O.slots j t q
    cases t with
    | un => cases o
    | xn => cases o
    | sh d => cases o
    | own w =>
      obtain ⟨a, e1, h1, h2⟩ := old
      have := (h2 b hf).2
      rw [hA b hb] at this
      exact th b hb this
    | io w =>
      obtain ⟨a, e1, h1, h2⟩ := old
      rcases (h2 b hf).2.1 with z | z
      · exact of_decide_eq_true (List.mem_filter.mp z).2 hb
      · rw [hA b hb] at z
        exact th b hb z
theorem OwAt.live {w : Ow} {a : Addr} (h : OwAt K G H w a A) : ∀ b ∈ A, H b ≠ none := fun b hb z => by
  obtain ⟨vs, q, _⟩ := h.there b hb
  rw [z] at q
  cases q
end

/-! ### a, b = x, y with plain names -/
def fzR (r : RV) (e : Fr) : R RV := match r with
  | .arg a => (fz a e).bind fun d e1 => .ok (.arg (.val d)) e1
  | .new w => .ok (.new w) e
def putR (i : Nat) (r : RV) (e : Fr) : R Unit := match e[i]? with
  | some (.io _) => .no
  | none => .no
  | _ => match r with
    | .arg (.val d) => .ok () (e.set i (.sh d))
    | .new w => .ok () (e.set i (.own w))
    | _ => .no
section
variable {K : PySem.W.Frag} {mg : Str → Option Value} {Φ : Fx} {W : WX} {H G : Hp} {F : Nat → List Addr} {σ : L2.St} {e : Fr}
theorem WS.fzR {r : RV} {v : V} {f : RV → Fr → R Fl} {Dn : Ends} (O : Ok K Φ H G F σ e) (h : rr K Φ r v H G F σ e) (w : WS K mg Φ W G ((DL.fzR r e).bind f) Dn) :
    ∃ G1 e1 r1, Same G G1 ∧ Ok K Φ H G1 F σ e1 ∧ rr K Φ r1 v H G1 F σ e1 ∧ (∀ i, r1 ≠ .arg (.slot i)) ∧ WS K mg Φ W G1 (f r1 e1) Dn := by
  cases r with
  | arg a =>
    have w' : WS K mg Φ W G (((DL.fz a e).bind fun d e1 => .ok (.arg (.val d)) e1).bind f) Dn := w
    cases q : DL.fz a e with
    | no =>
      rw [q] at w'
      exact w'.elim
    | ex x e1 => exact (fz_no q).elim
    | ok d e1 =>
      rw [q] at w'
      obtain ⟨G1, s1, O1, h1⟩ := fz_ok O h q
      exact ⟨G1, e1, .arg (.val d), s1, O1, h1, (fun i z => by cases z), WS.up w' s1⟩
  | new u => exact ⟨G, e, .new u, Same.refl _, O, h, (fun i z => by cases z), w⟩
/-- what a new object is, when other things are looked at -/
theorem rr_hold {r : RV} {v : V} (O : Ok K Φ H G F σ e) (h : rr K Φ r v H G F σ e) : ∃ A : List Addr, Ok K (Φ.plus H A) H G F σ e ∧
    (∀ {σ' : L2.St} {H' G' : Hp} {F' : Nat → List Addr} {e' : Fr}, Ok K (Φ.plus H A) H' G' F' σ' e' → Ok K Φ H' G' F' σ' e') ∧
    (∀ {H' G' : Hp} {F' : Nat → List Addr} {e' : Fr}, Same G G' → Ok K (Φ.plus H A) H' G' F' σ e' → rr K Φ r v H' G' F' σ e') ∧
    (∀ {r' : RV} {v' : V} {H' G' : Hp} {F' : Nat → List Addr} {e' : Fr}, rr K (Φ.plus H A) r' v' H' G' F' σ e' → rr K Φ r' v' H' G' F' σ e') ∧
    (∀ b ∈ A, H b ≠ none) ∧ ∀ w, r = .new w → ∃ a, v = .ref a ∧ OwAt K G H w a A := by
  cases r with
  | arg a =>
    have e0 : ∀ {σ' : L2.St} {H' G' : Hp} {F' : Nat → List Addr} {e' : Fr}, Ok K (Φ.plus H []) H' G' F' σ' e' → Ok K Φ H' G' F' σ' e' := fun O' => (O'.unhold (fun b hb => by cases hb) (fun b hb => by cases hb)).1
    refine ⟨[], O.hold (fun b hb => by cases hb) (fun b hb => by cases hb) (fun _ _ _ _ b hb => by cases hb), e0, fun {H'} {G'} {F'} {e'} s _ => @ra_up K a v H G H' G' F F' σ e e' h s, fun {r'} {v'} {H'} {G'} {F'} {e'} h' => ?_, (fun b hb => by cases hb), fun w z => by cases z⟩
    cases r' with
    | arg _ => exact h'
    | new w =>
      obtain ⟨a, A, e1, o1, n1, ap⟩ := h'
      exact ⟨a, A, e1, o1, fun b hb => ⟨(n1 b hb).1, by have := (n1 b hb).2; simpa [Fx.plus] using this⟩, ap⟩
  | new u =>
    obtain ⟨a, A, e1, o1, n1, ap⟩ := h
    have lv := o1.live
    refine ⟨A, O.hold lv (fun b hb => (n1 b hb).1) ap, fun O' => (O'.unhold lv fun b hb => (n1 b hb).2).1, fun {H'} {G'} {F'} {e'} s O' => ?_, fun {r'} {v'} {H'} {G'} {F'} {e'} h' => ?_, lv, fun w z => by cases z; exact ⟨a, e1, o1⟩⟩
    · obtain ⟨_, k1, k2, k3⟩ := O'.unhold lv fun b hb => (n1 b hb).2
      exact ⟨a, A, e1, o1.mono s (fun b hb u q => (k1 b hb).trans q), fun b hb => ⟨k2 b hb, (n1 b hb).2⟩, k3⟩
    · cases r' with
      | arg _ => exact h'
      | new w =>
        obtain ⟨a2, A2, e2, o2, n2, ap2⟩ := h'
        refine ⟨a2, A2, e2, o2, fun b hb => ⟨(n2 b hb).1, ?_⟩, ap2⟩
        have z : (if b ∈ A then H b else Φ.H_0 b) = none := (n2 b hb).2
        by_cases hA : b ∈ A
        · exact (n1 b hA).2
        · rw [if_neg hA] at z
          exact z
end
def sPar (i j : Nat) (fa fb : Rf) : Sf := fun e => (fa e).bind fun r1 e1 => (fb e1).bind fun r2 e2 => (fzR r1 e2).bind fun r3 e3 => (fzR r2 e3).bind fun r4 e4 => (putR i r3 e4).bind fun _ e5 => (putR j r4 e5).bind fun _ e6 => .ok .nx e6
def sPar3 (i j l : Nat) (fa fb fc : Rf) : Sf := fun e => (fa e).bind fun r1 e1 => (fb e1).bind fun r2 e2 => (fc e2).bind fun r5 e7 => (fzR r1 e7).bind fun r3 e3 => (fzR r2 e3).bind fun r4 e4 => (fzR r5 e4).bind fun r6 e8 =>
  (putR i r3 e8).bind fun _ e5 => (putR j r4 e5).bind fun _ e6 => (putR l r6 e6).bind fun _ e9 => .ok .nx e9
section
variable {K : PySem.W.Frag} {mg : Str → Option Value} {Φ : Fx} {W : WX} {H G : Hp} {F : Nat → List Addr} {σ : L2.St} {e : Fr}
/-- a thing to be put, with the objects that it is -/
def rx (K : PySem.W.Frag) (Φ : Fx) (A : List Addr) (r : RV) (v : V) (H G : Hp) (F : Nat → List Addr) (e : Fr) : Prop := match r with
  | .arg (.val d) => Dq K G v d ∧ A = []
  | .arg (.slot _) => False
  | .new w => ∃ a, v = .ref a ∧ OwAt K G H w a A ∧ (∀ b ∈ A, G b = none ∧ Φ.H_0 b = none) ∧ ∀ j t, e[j]? = some t → t.owned = true → ∀ b ∈ A, b ∉ F j
theorem putR_ok {i : Nat} {r : RV} {v : V} {A : List Addr} {f : Unit → Fr → R Fl} {Dn : Ends} (O : Ok K Φ H G F σ e) (h : rx K Φ A r v H G F e) (w : WS K mg Φ W G ((putR i r e).bind f) Dn) :
    ∃ F1 e1, Ok K Φ H G F1 (σ.set i (some v)) e1 ∧ WS K mg Φ W G (f () e1) Dn ∧ ∀ A2 r2 v2, (∀ b ∈ A2, b ∉ A) → rx K Φ A2 r2 v2 H G F e → rx K Φ A2 r2 v2 H G F1 e1 := by
  unfold putR at w
  split at w
  · exact w.elim
  · exact w.elim
  · cases r with
    | arg a =>
      cases a with
      | slot j => exact w.elim
      | val d =>
        refine ⟨F, _, O.set h.1 i, w, fun A2 r2 v2 _ h2 => ?_⟩
        cases r2 with
        | arg a2 => cases a2 <;> exact h2
        | new u2 =>
          obtain ⟨a2, e2, o2, n2, ap2⟩ := h2
          refine ⟨a2, e2, o2, n2, fun j t q o => ?_⟩
          by_cases hj : i = j
          · subst hj
            by_cases hl : i < e.length
            · rw [List.getElem?_set_self hl] at q
              cases q
              cases o
            · rw [List.getElem?_eq_none (by rw [List.length_set]; omega)] at q
              cases q
          · rw [List.getElem?_set_ne hj] at q
            exact ap2 j t q o
    | new u =>
      obtain ⟨a, rfl, o, n, ap⟩ := h
      refine ⟨_, _, O.setOwn o n ap i, w, fun A2 r2 v2 dj h2 => ?_⟩
      cases r2 with
      | arg a2 => cases a2 <;> exact h2
      | new u2 =>
        obtain ⟨a2, e2, o2, n2, ap2⟩ := h2
        refine ⟨a2, e2, o2, n2, fun j t q o b hb => ?_⟩
        show b ∉ (if j = i then A else F j)
        by_cases hj : j = i
        · rw [if_pos hj]
          exact dj b hb
        · rw [if_neg hj]
          rw [List.getElem?_set_ne (Ne.symm hj)] at q
          exact ap2 j t q o b hb
theorem WS.fzX {Φ1 : Fx} {r : RV} {v : V} {f : RV → Fr → R Fl} {Dn : Ends} (O : Ok K Φ1 H G F σ e) (h : ∀ a, r = .arg a → ra K a v H G F σ e) (w : WS K mg Φ W G ((DL.fzR r e).bind f) Dn) :
    ∃ G1 e1 r1, Same G G1 ∧ Ok K Φ1 H G1 F σ e1 ∧ ((∃ d, r1 = .arg (.val d) ∧ Dq K G1 v d) ∨ (∃ u, r1 = .new u ∧ r = .new u)) ∧ WS K mg Φ W G1 (f r1 e1) Dn := by
  cases r with
  | arg a =>
    have w' : WS K mg Φ W G (((DL.fz a e).bind fun d e1 => .ok (.arg (.val d)) e1).bind f) Dn := w
    cases q : DL.fz a e with
    | no =>
      rw [q] at w'
      exact w'.elim
    | ex x e1 => exact (fz_no q).elim
    | ok d e1 =>
      rw [q] at w'
      obtain ⟨G1, s1, O1, h1⟩ := fz_ok O (h a rfl) q
      exact ⟨G1, e1, .arg (.val d), s1, O1, .inl ⟨d, rfl, h1⟩, WS.up w' s1⟩
  | new u => exact ⟨G, e, .new u, Same.refl _, O, .inr ⟨u, rfl, rfl⟩, w⟩
theorem WS.seqP {α β : Type} {Φ1 : Fx} {ρ : Rel α β} {q : R α} {f : α → Fr → R Fl} {Dn : Ends} (cv : ∀ {H' G' : Hp} {F' : Nat → List Addr} {e' : Fr}, Ok K Φ1 H' G' F' σ e' → Ok K Φ H' G' F' σ e') (h : WS K mg Φ W G (q.bind f) Dn) :
    Wp K mg Φ1 W σ ρ G q (fun v H1 => ∃ G1 F1 e1 a, Same G G1 ∧ Ok K Φ1 H1 G1 F1 σ e1 ∧ ρ a v H1 G1 F1 σ e1 ∧ WS K mg Φ W G1 (f a e1) Dn) := by
  cases q with
  | no => exact h
  | ok a e => exact fun v H' G2 F' s o p => ⟨G2, F', e, a, s, o, p, WS.up h s⟩
  | ex x e => exact fun c d H' G2 F' s o p => h c d σ H' G2 F' s (cv o) p
/-- what is known of a thing that is held: the objects, where it stays -/
structure Held (K : PySem.W.Frag) (Φ : Fx) (H G : Hp) (σ : L2.St) (A : List Addr) (r : RV) (v : V) : Prop where
  th : ∀ b ∈ A, H b ≠ none
  n0 : ∀ b ∈ A, Φ.H_0 b = none
  ow : ∀ w, r = .new w → ∃ a, v = .ref a ∧ OwAt K G H w a A
  ar : ∀ a, r = .arg a → ra K a v H G (fun _ => []) σ []
theorem Held.mk' {r : RV} {v : V} (O : Ok K Φ H G F σ e) (h : rr K Φ r v H G F σ e) : ∃ A, Held K Φ H G σ A r v ∧ Ok K (Φ.plus H A) H G F σ e := by
  cases r with
  | arg a =>
    refine ⟨[], ⟨(fun b hb => by cases hb), (fun b hb => by cases hb), (fun w z => by cases z), fun a' z => ?_⟩, O.hold (fun b hb => by cases hb) (fun b hb => by cases hb) (fun _ _ _ _ b hb => by cases hb)⟩
    cases z
    exact @ra_up K a v H G H G F (fun _ => []) σ e [] h (Same.refl _)
  | new u =>
    obtain ⟨a, A, e1, o1, n1, ap⟩ := h
    exact ⟨A, ⟨o1.live, fun b hb => (n1 b hb).2, (fun w z => by cases z; exact ⟨a, e1, o1⟩), (fun a' z => by cases z)⟩, O.hold o1.live (fun b hb => (n1 b hb).1) ap⟩
theorem Held.cv {A : List Addr} {r : RV} {v : V} (h : Held K Φ H G σ A r v) {σ' : L2.St} {H' G' : Hp} {F' : Nat → List Addr} {e' : Fr} (O : Ok K (Φ.plus H A) H' G' F' σ' e') : Ok K Φ H' G' F' σ' e' := (O.unhold h.th h.n0).1
/-- the thing, put: r1 is r, frozen if it was no new one -/
theorem Held.rx {A : List Addr} {r r1 : RV} {v : V} (h : Held K Φ H G σ A r v) {σ' : L2.St} {H' G1 G' : Hp} {F' : Nat → List Addr} {e' : Fr} (O : Ok K (Φ.plus H A) H' G' F' σ' e') (gg : Same G G') (g1 : Same G1 G') (q : (∃ d, r1 = .arg (.val d) ∧ Dq K G1 v d) ∨ (∃ u, r1 = .new u ∧ r = .new u)) :
    ∃ A1, (∀ b ∈ A1, b ∈ A) ∧ rx K Φ A1 r1 v H' G' F' e' := by
  obtain ⟨_, k1, k2, k3⟩ := O.unhold h.th h.n0
  rcases q with ⟨d, rfl, hd⟩ | ⟨u, rfl, rfl⟩
  · exact ⟨[], (fun b hb => by cases hb), dp_mono g1 hd, rfl⟩
  · obtain ⟨a, e1, o1⟩ := h.ow u rfl
    exact ⟨A, fun _ z => z, a, e1, o1.mono gg (fun b hb u q => (k1 b hb).trans q), fun b hb => ⟨k2 b hb, h.n0 b hb⟩, k3⟩
end
theorem pe_ex {X : Cx} {x : Expr} {ι : Type} {t : ι → TE} (h : ∀ i, PE X x (t i)) : PE X x (fun σ H Q => ∃ i, t i σ H Q) := ⟨fun pins s σ H Q I ⟨i, q⟩ => (h i).run pins s σ H Q I q⟩
section
variable {X : Cx} {Φ : Fx} {W : WX} {x y z : Expr} {fa fb fc : Rf} {pos px py pz pt p2 : Pos} {kt k2 : Nat} {n m l : Str}
theorem s_par (i j : Nat) (hc : X.calm = true) (hN : X.N.Nodup) (ha : DR X Φ W x fa) (hb : ∀ Φ, DR X Φ W y fb) (hw : swappedStores [.Tuple [.Name n px, .Name m py] kt pt] (.Tuple [x, y] k2 p2) X.env = pure (some [n, m]))
    (hi : X.N[i]? = some n := by rfl) (hj : X.N[j]? = some m := by rfl) (hij : i ≠ j := by decide) (hx : X.env.scope.names.lookup n = some .local := by rfl) (hy : X.env.scope.names.lookup m = some .local := by rfl)
    (hs : swapsWithSole [.Tuple [.Name n px, .Name m py] kt pt] (.Tuple [x, y] k2 p2) pos.line X.env = pure false := by rfl) (h1 : starEach [x, y] X.env = (false, eval x X.env) :: starEach [y] X.env := by rfl) (h2 : starEach [y] X.env = (false, eval y X.env) :: starEach [] X.env := by rfl) :
    DS X Φ W (.Assign [.Tuple [.Name n px, .Name m py] kt pt] (.Tuple [x, y] k2 p2) pos) (sPar i j fa fb) :=
  ps_weak (ps_par hc hN hi hj hij hx hy (pa_cons ha (pa_cons (pe_ex hb) pa_nil h2) h1) hw hs) fun Dn σ H ⟨G, F, e, O, h⟩ => ⟨G, F, e, O, Wp.imp (WS.seq (σ := σ) h) fun v H1 ⟨G1, F1, e1, r1, g1, O1, q1, h1⟩ => by
    obtain ⟨A1, L1, P1⟩ := Held.mk' O1 q1
    refine ⟨_, G1, F1, e1, P1, Wp.imp (WS.seqP (fun o => L1.cv o) h1) fun w H2 ⟨G2, F2, e2, r2, g2, O2, q2, h2⟩ => ?_⟩
    obtain ⟨A2, L2, P2⟩ := Held.mk' O2 q2
    have a1 : ∀ a, r1 = .arg a → ra X.K a v H2 G2 F2 σ e2 := fun a z => ra_up (L1.ar a z) g2
    obtain ⟨G3, e3, r3, s3, O3, z3, h3⟩ := WS.fzX P2 a1 h2
    have a2 : ∀ a, r2 = .arg a → ra X.K a w H2 G3 F2 σ e3 := fun a z => ra_up (L2.ar a z) s3
    obtain ⟨G4, e4, r4, s4, O4, z4, h4⟩ := WS.fzX O3 a2 h3
    obtain ⟨B1, b1, y1⟩ := L1.rx (L2.cv O4) (g2.trans (s3.trans s4)) s4 z3
    obtain ⟨B2, b2, y2⟩ := L2.rx O4 (s3.trans s4) (Same.refl _) z4
    have y2' : rx X.K Φ B2 r4 w H2 G4 F2 e4 := by
      cases r4 with
      | arg a => cases a <;> exact y2
      | new u =>
        obtain ⟨a, ea, oa, na, ap⟩ := y2
        refine ⟨a, ea, oa, fun b hb => ⟨(na b hb).1, ?_⟩, ap⟩
        have z : (if b ∈ A1 then H1 b else Φ.H_0 b) = none := (na b hb).2
        by_cases hA : b ∈ A1
        · rw [if_pos hA] at z
          exact absurd z (L1.th b hA)
        · rw [if_neg hA] at z
          exact z
    have dj : ∀ b ∈ B2, b ∉ B1 := fun b hb hb1 => by
      have z : (if b ∈ A1 then H1 b else Φ.H_0 b) = none := L2.n0 b (b2 b hb)
      rw [if_pos (b1 b hb1)] at z
      exact L1.th b (b1 b hb1) z
    obtain ⟨F5, e5, O5, h5, k5⟩ := putR_ok (L1.cv (L2.cv O4)) y1 h4
    obtain ⟨F6, e6, O6, h6, _⟩ := putR_ok O5 (k5 B2 r4 w dj y2') h5
    exact ⟨v, w, rfl, h6 .non _ H2 G4 F6 (Same.refl _) O6⟩⟩
end
end DL
set_option Elab.async false
set_option linter.all false
set_option maxRecDepth 100000
set_option maxHeartbeats 4000000
/-! DlG: loops, comprehensions, methods that write. -/
namespace DL
open PySem L2

/-! ### for -/
def forL (g : Gf) (b : Sf) : List D → Fr → R Fl
  | [], e => .ok .nx e
  | d :: ds, e => match g d e with
    | .ok _ e1 => match b e1 with
      | .ok .nx e2 => forL g b ds e2
      | .ok .ct e2 => forL g b ds e2
      | .ok .bk e2 => .ok .nx e2
      | .ok (.rt s) e2 => .ok (.rt s) e2
      | .ex x e2 => .ex x e2
      | .no => .no
    | _ => .no
def sFor (fi : Lf) (g : Gf) (b : Sf) : Sf := fun e => (fi e).bind (forL g b)
section
variable {X : Cx} {Φ : Fx} {W : WX} {x tg : Expr} {pos : Pos} {fi : Lf} {g : Gf} {b : Sf} {js : List Nat} {body : List Stmt}
/-- what is given, as a frozen value -/
theorem yd_ok {K : PySem.W.Frag} {G G1 H H' : Hp} {F : Nat → List Addr} {σ : L2.St} {e : Fr} {ds : List D} {i : Nat} {v : V} (O : Ok K Φ H G1 F σ e) (s : Same G G1) (y : YD K G ds i H v H') :
    ∃ d G2, ds[i]? = some d ∧ Same G1 G2 ∧ Ok K Φ H' G2 F σ e ∧ Dq K G2 v d ∧ Grow H G1 H' G2 := by
  obtain ⟨d, q, z⟩ := y
  rcases z with ⟨rfl, hd⟩ | ⟨p, o, vs, es, rfl, hp, nd, rfl, rfl, hd⟩
  · exact ⟨d, G1, q, Same.refl _, O, dp_mono s hd, Grow.refl O.gh⟩
  · have gr := Grow.laid (o := .frz o (.tup vs)) O.gh hp
    exact ⟨_, _, q, gr.gg, O.grow gr, Dq.newT (same_back O.gh hp) nd (dpa_mono s hd), gr⟩
theorem s_for (hp : PassesOwn (model X.prog X.w) X.A X.env X.xe) (hc : X.calm = true) (hi : DI X Φ W tg x fi) (hg : DG X Φ js tg g) (hb : DSs X Φ W body b) (hs : ∀ v, foldedSetIterable x X.env v = pure v := by intro _; rfl) : DS X Φ W (.For tg x body [] pos) (sFor fi g b) :=
  ps_weak (ps_for hp hc hi hg hb hs) fun Dn σ H ⟨G, F, e, O, h⟩ => ⟨G, F, e, O, Wp.imp (WS.seq (σ := σ) h) fun J H1 ⟨G1, F1, e1, ds, g1, O1, w, h1⟩ => by
    refine for_it w (fun i σ' H' => ∃ G' F' e', Same G1 G' ∧ Ok X.K Φ H' G' F' σ' e' ∧ WS X.K X.mg Φ W G' (forL g b (ds.drop i) e') Dn) ⟨G1, F1, e1, Same.refl _, O1, h1⟩ (fun i σ' H' _ ⟨G', F', e', s, O', _⟩ => s.trans O'.gh) (fun i v σ' H' H'' hi ⟨G', F', e', s, O', h'⟩ y => ?_) fun σ' H' ⟨G', F', e', s, O', h'⟩ => ?_
    · obtain ⟨d, G2, q, s2, O2, hd, _⟩ := yd_ok O' s y
      have ed : ds.drop i = d :: ds.drop (i + 1) := by
        obtain ⟨hl, q2⟩ := List.getElem?_eq_some_iff.mp q
        rw [← q2]
        exact List.drop_eq_getElem_cons hl
      rw [ed] at h'
      unfold forL at h'
      refine ⟨G2, F', e', d, O2, hd, ?_⟩
      cases q1 : g d e' with
      | no =>
        simp only [q1] at h'
        exact h'
      | ex z e2 =>
        simp only [q1] at h'
        exact h'
      | ok u e2 =>
        simp only [q1] at h'
        intro σ3 H3 G3 F3 s3 O3 _
        refine ⟨G3, F3, e2, O3, ?_⟩
        have h2 := WS.up h' (s2.trans s3)
        have sG : Same G1 G3 := s.trans (s2.trans s3)
        cases q2 : b e2 with
        | no =>
          simp only [q2] at h2
          exact h2
        | ex z e3 =>
          simp only [q2] at h2
          exact h2
        | ok fl e3 =>
          simp only [q2] at h2
          cases fl with
          | nx => exact fun v σ4 H4 G4 F4 s4 O4 => ⟨G4, F4, e3, sG.trans s4, O4, WS.up h2 s4⟩
          | ct => exact fun v σ4 H4 G4 F4 s4 O4 => ⟨G4, F4, e3, sG.trans s4, O4, WS.up h2 s4⟩
          | bk => exact h2
          | rt s => exact h2
    · rw [List.drop_length] at h'
      exact h' .non σ' H' G' F' (Same.refl _) O'⟩
end

/-! ### while -/
def whileN (t : Tf) (b : Sf) : Nat → Fr → Option (R Fl)
  | 0, _ => none
  | n + 1, e => match t e with
    | .no => some .no
    | .ex x e1 => some (.ex x e1)
    | .ok false e1 => some (.ok .nx e1)
    | .ok true e1 => match b e1 with
      | .ok .nx e2 => whileN t b n e2
      | .ok .ct e2 => whileN t b n e2
      | .ok .bk e2 => some (.ok .nx e2)
      | .ok (.rt s) e2 => some (.ok (.rt s) e2)
      | .ex x e2 => some (.ex x e2)
      | .no => some .no
theorem whileN_up {t : Tf} {b : Sf} : ∀ {n m : Nat} {e : Fr} {r : R Fl}, n ≤ m → whileN t b n e = some r → whileN t b m e = some r
  | 0, _, _, _, _, h => by cases h
  | n + 1, 0, _, _, hl, _ => by omega
  | n + 1, m + 1, e, r, hl, h => by
    unfold whileN at h ⊢
    cases q : t e with
    | no =>
      rw [q] at h
      exact h
    | ex x e1 =>
      rw [q] at h
      exact h
    | ok c e1 =>
      rw [q] at h
      cases c with
      | false => exact h
      | true =>
        cases q2 : b e1 with
        | no =>
          simp only [q2] at h ⊢
          exact h
        | ex x e2 =>
          simp only [q2] at h ⊢
          exact h
        | ok fl e2 =>
          simp only [q2] at h ⊢
          cases fl with
          | nx => exact whileN_up (Nat.le_of_succ_le_succ hl) h
          | ct => exact whileN_up (Nat.le_of_succ_le_succ hl) h
          | bk => exact h
          | rt s => exact h
open Classical in
noncomputable def sWhile (t : Tf) (b : Sf) : Sf := fun e => if h : ∃ n r, whileN t b n e = some r then h.choose_spec.choose else .no
theorem sWhile_of {t : Tf} {b : Sf} {n : Nat} {e : Fr} {r : R Fl} (h : whileN t b n e = some r) : sWhile t b e = r := by
  have hx : ∃ n r, whileN t b n e = some r := ⟨n, r, h⟩
  unfold sWhile
  rw [dif_pos hx]
  have q := hx.choose_spec.choose_spec
  have h1 := whileN_up (Nat.le_max_left n hx.choose) h
  have h2 := whileN_up (Nat.le_max_right n hx.choose) q
  rw [h1] at h2
  exact (Option.some.inj h2).symm
theorem sWhile_ends {t : Tf} {b : Sf} {e : Fr} (h : sWhile t b e ≠ .no) : ∃ n, whileN t b n e = some (sWhile t b e) := by
  by_cases hx : ∃ n r, whileN t b n e = some r
  · obtain ⟨n, r, q⟩ := hx
    exact ⟨n, by rw [sWhile_of q]; exact q⟩
  · refine absurd ?_ h
    unfold sWhile
    rw [dif_neg hx]
section
variable {X : Cx} {Φ : Fx} {W : WX} {x : Expr} {pos : Pos} {t : Tf} {b : Sf} {body : List Stmt}
theorem s_while (hp : PassesOwn (model X.prog X.w) X.A X.env X.xe) (ht : DT X Φ W x t) (hb : DSs X Φ W body b) : DS X Φ W (.While x body [] pos) (sWhile t b) :=
  ps_weak (ps_while hp ht hb) fun Dn σ H ⟨G, F, e, O, h⟩ => by
    have hn : sWhile t b e ≠ .no := fun z => by
      rw [z] at h
      exact h.elim
    obtain ⟨n, hn⟩ := sWhile_ends hn
    refine ⟨fun m σ' H' => ∃ G' F' e' r, Ok X.K Φ H' G' F' σ' e' ∧ whileN t b m e' = some r ∧ WS X.K X.mg Φ W G' r Dn, ⟨n, G, F, e, _, O, hn, h⟩, fun m σ1 H1 ⟨G1, F1, e1, r, O1, q, h1⟩ => ?_⟩
    cases m with
    | zero => cases q
    | succ m =>
      unfold whileN at q
      refine ⟨G1, F1, e1, O1, ?_⟩
      cases q1 : t e1 with
      | no =>
        simp only [q1] at q
        cases q
        exact h1
      | ex z e2 =>
        simp only [q1] at q
        cases q
        exact fun c d H' G' F' s o p => h1 c d σ1 H' G' F' s o p
      | ok c e2 =>
        simp only [q1] at q
        intro v H2 G2 F2 s2 O2 hv
        cases (show v = c from hv)
        cases c with
        | false =>
          cases q
          exact iteF (h1 .non σ1 H2 G2 F2 s2 O2)
        | true =>
          refine iteT ⟨fun σ' H' => ∃ G' F' e' r, Ok X.K Φ H' G' F' σ' e' ∧ whileN t b m e' = some r ∧ WS X.K X.mg Φ W G' r Dn, fun σ' H' z => ⟨m, Nat.lt_succ_self m, z⟩, G2, F2, e2, O2, ?_⟩
          have h2 := WS.up h1 s2
          cases q2 : b e2 with
          | no =>
            simp only [q2] at q
            cases q
            exact h2
          | ex z e3 =>
            simp only [q2] at q
            cases q
            exact h2
          | ok fl e3 =>
            simp only [q2] at q
            cases fl with
            | nx => exact fun v σ4 H4 G4 F4 s4 O4 => ⟨G4, F4, e3, r, O4, q, WS.up h2 s4⟩
            | ct => exact fun v σ4 H4 G4 F4 s4 O4 => ⟨G4, F4, e3, r, O4, q, WS.up h2 s4⟩
            | bk =>
              cases q
              exact h2
            | rt s =>
              cases q
              exact h2
end

/-! ### comprehensions -/
def lcL (g : Gf) (ft : Tf) (fe : Ef) (vs : List Nat) : List D → Fr → List D → R (List D)
  | [], e, acc => .ok acc e
  | d :: ds, e, acc => match g d e with
    | .ok _ e1 => match ft e1 with
      | .ok true e2 => match fe e2 with
        | .ok a e3 => match fz a e3 with
          | .ok d' e4 => if acc.length < 1000000 then lcL g ft fe vs ds (wipeE e4 vs) (acc ++ [d']) else .no
          | _ => .no
        | _ => .no
      | .ok false e2 => lcL g ft fe vs ds (wipeE e2 vs) acc
      | _ => .no
    | _ => .no
def eLc (fi : Lf) (g : Gf) (ft : Tf) (fe : Ef) (vs : List Nat) : Rf := fun e => (fi e).bind fun ds e1 => match bare e1 vs with
  | true => match lcL g ft fe vs ds (wipeE e1 vs) [] with
    | .ok es e2 => .ok (.new (.ls es)) (backE e1 e2 vs)
    | _ => .no
  | false => .no
def W0 : WX := fun _ _ _ _ => False
abbrev DTs (X : Cx) (Φ : Fx) (W : WX) (es : List Expr) (f : Tf) : Prop := PTs X es (tG X.K X.mg Φ W rb f)
def tYesF : Tf := fun e => .ok true e
section
variable {X : Cx} {Φ : Fx} {W : WX} {x tg elt : Expr} {ifs : List Expr} {pos : Pos} {fi : Lf} {g : Gf} {ft : Tf} {fe : Ef} {js : List Nat}
theorem t_yes : DTs X Φ W [] tYesF := ⟨fun pins s σ H Q I ⟨G, F, e, O, h⟩ => pts_nil.run pins s σ H Q I (h true H G F (Same.refl _) O rfl)⟩
theorem t_one (h : DT X Φ W x ft) : DTs X Φ W [x] ft := pts_one h
theorem wipe_eq {σ σ' : L2.St} {vs : List Nat} (hl : σ'.length = σ.length) (h : ∀ j, j ∉ vs → σ'[j]? = σ[j]?) : wipe σ' vs = wipe σ vs := by
  have lw : ∀ (τ : L2.St) (vs : List Nat), (wipe τ vs).length = τ.length := wipe_length
  have inn : ∀ (τ : L2.St) (vs : List Nat) (j : Nat), j ∈ vs → j < τ.length → (wipe τ vs)[j]? = some none := by
    intro τ vs
    induction vs with
    | nil => intro j hj; cases hj
    | cons v r ih =>
      intro j hj hlt
      unfold wipe
      by_cases e : v = j
      · subst e
        exact List.getElem?_set_self (by rw [lw]; exact hlt)
      · rw [List.getElem?_set_ne e]
        rcases List.mem_cons.mp hj with z | z
        · exact absurd z.symm e
        · exact ih j z hlt
  apply List.ext_getElem?
  intro j
  by_cases hj : j ∈ vs
  · by_cases hlt : j < σ.length
    · rw [inn σ vs j hj hlt, inn σ' vs j hj (by rw [hl]; exact hlt)]
    · rw [List.getElem?_eq_none (by rw [lw]; omega), List.getElem?_eq_none (by rw [lw]; omega)]
  · rw [wipe_out hj, wipe_out hj]
    exact h j hj
theorem tG_ex {X : Cx} {e : Expr} {ι : Type} {t : ι → TT} (h : ∀ i, PT X e (t i)) : PT X e (fun σ H Q => ∃ i, t i σ H Q) := ⟨fun pins s σ H Q I ⟨i, q⟩ => (h i).run pins s σ H Q I q⟩
theorem pts_ex {X : Cx} {es : List Expr} {ι : Type} {t : ι → TT} (h : ∀ i, PTs X es (t i)) : PTs X es (fun σ H Q => ∃ i, t i σ H Q) := ⟨fun pins s σ H Q I ⟨i, q⟩ => (h i).run pins s σ H Q I q⟩
theorem pg_ex {X : Cx} {e : Expr} {ι : Type} {t : ι → TG} (h : ∀ i, PG X e (t i)) : PG X e (fun v σ H Q => ∃ i, t i v σ H Q) := ⟨fun pins s σ H v u Q I r ⟨i, q⟩ => (h i).run pins s σ H v u Q I r q⟩
theorem wipe_wipe {σ : L2.St} {vs : List Nat} : wipe (wipe σ vs) vs = wipe σ vs := wipe_eq (wipe_length σ vs) fun j hj => wipe_out hj
abbrev lcT (K : PySem.W.Frag) (mg : Str → Option Value) (Φ : Fx) (W : WX) (js : List Nat) (fi : Lf) (g : Gf) (ft : Tf) (fe : Ef) (vs : List Nat) : TE :=
  tLc (tG K mg Φ W (rf K) fi) (fun v σ H Q => ∃ Ψ : Fx, tGt K Ψ js g v σ H Q) (fun σ H Q => ∃ Ψ : Fx, tG K mg Ψ W0 rb ft σ H Q) (fun σ H Q => ∃ Ψ : Fx, tG K mg Ψ W0 (ra K) fe σ H Q) vs
theorem lc_weak {K : PySem.W.Frag} {mg : Str → Option Value} {vs : List Nat} (hjs : ∀ j ∈ js, j ∈ vs) {σ : L2.St} {H : Hp} {Q : VK} (t : tG K mg Φ W (rr K Φ) (eLc fi g ft fe vs) σ H Q) : lcT K mg Φ W js fi g ft fe vs σ H Q := by
  obtain ⟨G, F, e, O, h⟩ := t
  refine ⟨G, F, e, O, Wp.imp (Wp.seq h) fun J H1 ⟨G1, F1, e1, ds, g1, O1, w, h1⟩ => ?_⟩
  intro Dl hD
  cases hb : bare e1 vs with
  | false =>
    rw [hb] at h1
    exact h1.elim
  | true =>
    rw [hb] at h1
    have nG1 : G1 Dl = none := same_back O1.gh hD
    have n0 : Φ.H_0 Dl = none := O1.noentry hD
    cases qr : lcL g ft fe vs ds (wipeE e1 vs) [] with
    | no =>
      simp only [qr] at h1
      exact h1.elim
    | ex z e2 =>
      simp only [qr] at h1
      exact h1.elim
    | ok es e2 =>
      simp only [qr] at h1
      have inDl : ∀ {b : Addr}, b ∈ [Dl] → b = Dl := fun hb => List.mem_singleton.mp hb
      refine lc_it (g := fun v σ H Q => ∃ Ψ : Fx, tGt K Ψ js g v σ H Q) (tt := fun σ H Q => ∃ Ψ : Fx, tG K mg Ψ W0 rb ft σ H Q) (te := fun σ H Q => ∃ Ψ : Fx, tG K mg Ψ W0 (ra K) fe σ H Q) (vs := vs) (σ := σ) (H1 := H1) (D := Dl) (Qd := fun H => Q (.ref Dl) H) w (fun i H' => ∃ G' F' e' acc vacc, Same G1 G' ∧ Ok K Φ H' G' F' (wipe σ vs) e' ∧ H' Dl = some (.lst vacc) ∧ DqAll K G' vacc acc ∧ G' Dl = none ∧ (∀ j t, e'[j]? = some t → t.owned = true → Dl ∉ F' j) ∧ lcL g ft fe vs (ds.drop i) e' acc = .ok es e2) ?_
        (fun i H' _ ⟨G', F', e', acc, vacc, s, O', _⟩ => s.trans O'.gh) (fun i v H' H'' hi ⟨G', F', e', acc, vacc, s, O', hDl, ha, nG, ap, q⟩ y => ?_) fun H' ⟨G', F', e', acc, vacc, s, O', hDl, ha, nG, ap, q⟩ => ?_
      · have gr := Grow.own (o := .lst []) O1.gh hD
        have O2 := (O1.grow gr).wiped vs
        refine ⟨G1, F1, wipeE e1 vs, [], [], Same.refl _, O2, upd_same, .nil, nG1, fun j t q o hm => ?_, qr⟩
        have : ∃ t', e1[j]? = some t' ∧ t'.owned = true := by
          have go : ∀ (vs : List Nat) (t : Sl), (wipeE e1 vs)[j]? = some t → t.owned = true → ∃ t', e1[j]? = some t' ∧ t'.owned = true := by
            intro vs
            induction vs with
            | nil => exact fun t q o => ⟨t, q, o⟩
            | cons v r ih =>
              intro t q o
              unfold wipeE at q
              by_cases ev : v = j
              · subst ev
                by_cases hl : v < (wipeE e1 r).length
                · rw [List.getElem?_set_self hl] at q
                  cases q
                  cases o
                · rw [List.getElem?_eq_none (by rw [List.length_set]; omega)] at q
                  cases q
              · rw [List.getElem?_set_ne ev] at q
                exact ih t q o
          exact go vs t q o
        obtain ⟨t', q', o'⟩ := this
        exact O1.noslot hD j t' q' o' hm
      · -- a turn
        obtain ⟨d, G2, qd, s2, O2, hd, gr⟩ := yd_ok O' s y
        have ed : ds.drop i = d :: ds.drop (i + 1) := by
          obtain ⟨hl, q2⟩ := List.getElem?_eq_some_iff.mp qd
          rw [← q2]
          exact List.drop_eq_getElem_cons hl
        rw [ed] at q
        unfold lcL at q
        have hDl2 : H'' Dl = some (.lst vacc) := gr.hh _ _ hDl
        have nG2 : G2 Dl = none := by rw [gr.new Dl (by rw [hDl]; exact fun z => nomatch z)]; exact nG
        have P2 : Ok K (Φ.plus H'' [Dl]) H'' G2 F' (wipe σ vs) e' := O2.hold (fun b hb => by rw [inDl hb, hDl2]; exact fun z => nomatch z) (fun b hb => by rw [inDl hb]; exact nG2) fun j t q o b hb => by rw [inDl hb]; exact ap j t q o
        have th : ∀ b ∈ [Dl], H'' b ≠ none := fun b hb => by rw [inDl hb, hDl2]; exact fun z => nomatch z
        have n0' : ∀ b ∈ [Dl], Φ.H_0 b = none := fun b hb => by rw [inDl hb]; exact n0
        refine ⟨Φ.plus H'' [Dl], G2, F', e', d, P2, hd, ?_⟩
        cases q1 : g d e' with
        | no =>
          simp only [q1] at q
          cases q
        | ex z e3 =>
          simp only [q1] at q
          cases q
        | ok u e3 =>
          simp only [q1] at q
          intro σ3 H3 G3 F3 s3 P3 ⟨l3, k3⟩
          have ws : wipe σ3 vs = wipe σ vs := (wipe_eq l3 fun j hj => k3 j fun z => hj (hjs j z)).trans wipe_wipe
          refine ⟨ws, Φ.plus H'' [Dl], G3, F3, e3, P3, ?_⟩
          cases q2 : ft e3 with
          | no =>
            simp only [q2] at q
            cases q
          | ex z e4 =>
            simp only [q2] at q
            cases q
          | ok c e4 =>
            simp only [q2] at q
            intro b H4 G4 F4 s4 P4 hbc
            cases (show b = c from hbc)
            -- back to the block's start
            have fin : ∀ {H5 G5 : Hp} {F5 : Nat → List Addr} {e5 : Fr} (P5 : Ok K (Φ.plus H'' [Dl]) H5 G5 F5 σ3 e5), Ok K Φ H5 G5 F5 (wipe σ vs) (wipeE e5 vs) ∧ H5 Dl = some (.lst vacc) ∧ G5 Dl = none ∧ ∀ j t, (wipeE e5 vs)[j]? = some t → t.owned = true → Dl ∉ F5 j := fun {H5 G5 F5 e5} P5 => by
              have P6 := P5.wiped vs
              rw [ws] at P6
              obtain ⟨z1, z2, z3, z4⟩ := P6.unhold th n0'
              have hm : Dl ∈ [Dl] := List.mem_singleton.mpr rfl
              exact ⟨z1, (z2 Dl hm).trans hDl2, z3 Dl hm, fun j t q o => z4 j t q o Dl hm⟩
            cases c with
            | false =>
              obtain ⟨y1, y2, y3, y4⟩ := fin P4
              refine iteF ⟨G4, F4, _, acc, vacc, s.trans (s2.trans (s3.trans s4)), y1, y2, dpa_mono (s2.trans (s3.trans s4)) ha, y3, y4, q⟩
            | true =>
              refine iteT ⟨Φ.plus H'' [Dl], G4, F4, e4, P4, ?_⟩
              cases q3 : fe e4 with
              | no =>
                simp only [q3] at q
                cases q
              | ex z e5 =>
                simp only [q3] at q
                cases q
              | ok a e5 =>
                simp only [q3] at q
                intro yv H5 G5 F5 s5 P5 ry
                cases q4 : fz a e5 with
                | no =>
                  simp only [q4] at q
                  cases q
                | ex z e6 => exact (fz_no q4).elim
                | ok d' e6 =>
                  simp only [q4] at q
                  obtain ⟨G6, s6, P6, hd6⟩ := fz_ok P5 ry q4
                  split at q
                  · rename_i hlen
                    obtain ⟨y1, y2, y3, y4⟩ := fin P6
                    have sG : Same G' G6 := s2.trans (s3.trans (s4.trans (s5.trans s6)))
                    have la := DqAll.len ha
                    refine ⟨vacc, y2, by rw [la]; exact Nat.lt_trans hlen (by decide), G6, F5, _, acc ++ [d'], vacc ++ [yv], s.trans sG, ?_, upd_same, DqAll.app (dpa_mono sG ha) (.cons hd6 .nil), y3, y4, q⟩
                    -- the list is written: nothing that is known leans on it
                    refine ⟨fun b o z => ?_, y1.len, fun j t qj => ?_, y1.sep, fun b hb => ?_, fun b o z m => ?_, y1.f2⟩
                    · rw [upd_ne fun zb => by rw [zb, y3] at z; cases z]
                      exact y1.gh b o z
                    · have old := y1.slots j t qj
                      cases t with
                      | un => trivial
                      | xn => first | exact old | exact h | exact h1 | exact h2 | exact q | exact O.slots _ _ ‹_›
                      | sh _ => exact old
                      | own u =>
                        obtain ⟨a2, e2', o2, n2⟩ := old
                        exact ⟨a2, e2', o2.mono (Same.refl _) (fun b hb u z => by rw [upd_ne (show b ≠ Dl from fun zb => y4 j _ qj rfl (by rw [← zb]; exact hb))]; exact z), n2⟩
                      | io u =>
                        obtain ⟨a2, e2', o2, n2⟩ := old
                        exact ⟨a2, e2', o2.mono (Same.refl _) (fun b hb u z => by rw [upd_ne (show b ≠ Dl from fun zb => y4 j _ qj rfl (by rw [← zb]; exact hb))]; exact z), n2⟩
                    · by_cases zb : b = Dl
                      · rw [zb, upd_same]
                        exact fun z => nomatch z
                      · rw [upd_ne zb]
                        exact y1.f0 b hb
                    · rw [upd_ne fun zb => by rw [zb, n0] at z; cases z]
                      exact y1.f1 b o z m
                  · cases q
      · -- the end
        rw [List.drop_length] at q
        cases q
        refine h1 _ H' G' F' s (O1.back O' s hb) ⟨Dl, [Dl], rfl, .ls hDl ha, fun b hb => ?_, fun j t q o b hbm => ?_⟩
        · rw [inDl hb]
          exact ⟨nG, n0⟩
        · rw [inDl hbm]
          have : e2[j]? = some t := by
            by_cases hj : j ∈ vs
            · have := backE_in hj q
              have nb := List.all_eq_true.mp (show bare e1 vs = true from hb) j hj
              rw [← this, o] at nb
              cases nb
            · rw [backE_out hj] at q
              exact q
          exact ap j t this o
theorem d_lc {scope : Scope} {own : List (Str × Nat)} (hc : X.calm = true) (hN : X.N.Nodup) (hi : DI X Φ W tg x fi) (ok : BlkOk X.N X.env.scope scope own)
    (hg : ∀ (Ψ : Fx) (s : Shared) (H : Hp) (C : Addr) (cl : List (Str × Addr)) (fp : List Addr), DG (X.blk s H scope (compEnvC scope cl C X.env) fp) Ψ js tg g)
    (ht : ∀ (Ψ : Fx) (s : Shared) (H : Hp) (C : Addr) (cl : List (Str × Addr)) (fp : List Addr), DTs (X.blk s H scope (compEnvC scope cl C X.env) fp) Ψ W0 ifs ft)
    (he : ∀ (Ψ : Fx) (s : Shared) (H : Hp) (C : Addr) (cl : List (Str × Addr)) (fp : List Addr), DE (X.blk s H scope (compEnvC scope cl C X.env) fp) Ψ W0 elt fe) (hjs : ∀ j ∈ js, j ∈ own.map (·.2) := by decide)
    (hs : ∀ v, foldedSetIterable x X.env v = pure v := by intro _; rfl) : DR X Φ W (.ListComp elt [⟨tg, x, ifs, 0⟩] scope pos) (eLc fi g ft fe (own.map (·.2))) :=
  pe_weak (pe_lc hc hN hi ok (fun s H C cl fp => pg_ex fun Ψ => hg Ψ s H C cl fp) (fun s H C cl fp => pts_ex fun Ψ => ht Ψ s H C cl fp) (fun s H C cl fp => pe_ex fun Ψ => he Ψ s H C cl fp) hs) fun σ H Q t => lc_weak hjs t
/-- name = [..] on one line, the name a local -/
theorem s_setLc (i : Nat) {n : Str} {py spos : Pos} {scope : Scope} {own : List (Str × Nat)} (hc : X.calm = true) (hN : X.N.Nodup) (hsw : swapsWith (.ListComp elt [⟨tg, x, ifs, 0⟩] scope pos) (some (.Name n py)) spos.line X.env = pure true) (hi : DI X Φ W tg x fi) (ok : BlkOk X.N X.env.scope scope own)
    (hg : ∀ (Ψ : Fx) (s : Shared) (H : Hp) (C : Addr) (cl : List (Str × Addr)) (fp : List Addr), DG (X.blk s H scope (compEnvC scope cl C X.env) fp) Ψ js tg g)
    (ht : ∀ (Ψ : Fx) (s : Shared) (H : Hp) (C : Addr) (cl : List (Str × Addr)) (fp : List Addr), DTs (X.blk s H scope (compEnvC scope cl C X.env) fp) Ψ W0 ifs ft)
    (he : ∀ (Ψ : Fx) (s : Shared) (H : Hp) (C : Addr) (cl : List (Str × Addr)) (fp : List Addr), DE (X.blk s H scope (compEnvC scope cl C X.env) fp) Ψ W0 elt fe) (hjs : ∀ j ∈ js, j ∈ own.map (·.2) := by decide) (hy : X.N[i]? = some n := by rfl) (hyl : X.env.scope.names.lookup n = some .local := by rfl)
    (hs : ∀ v, foldedSetIterable x X.env v = pure v := by intro _; rfl) : DS X Φ W (.Assign [.Name n py] (.ListComp elt [⟨tg, x, ifs, 0⟩] scope pos) spos) (sSet i (eLc fi g ft fe (own.map (·.2)))) :=
  ps_weak (ps_setLc hc hN hy hyl hsw hi ok (fun s H C cl fp => pg_ex fun Ψ => hg Ψ s H C cl fp) (fun s H C cl fp => pts_ex fun Ψ => ht Ψ s H C cl fp) (fun s H C cl fp => pe_ex fun Ψ => he Ψ s H C cl fp) hs) fun Dn σ H ⟨G, F, e, O, h⟩ =>
    lc_weak (Φ := Φ) (W := W) hjs ⟨G, F, e, O, Wp.imp (WS.seq (σ := σ) h) fun v H1 ⟨G1, F1, e1, r, g1, O1, r1, h1⟩ => setR_ok O1 r1 h1⟩
end
end DL
set_option Elab.async false
set_option linter.all false
set_option maxRecDepth 100000
set_option maxHeartbeats 4000000
/-! DlHa: a def's promise where it is known that no guard runs (so that a value's repr can be told); the law's own call. -/
namespace DL
open PySem L2

structure FnG (P : Program) (w : World) (K : PySem.W.Frag) (mg : Str → Option Value) (base : Heap) (k : Nat) (f : Addr) (fd : FuncData) (ps : List Str) (sp : Sp) : Prop where
  len : ∀ vs H Q E, sp vs H Q E → vs.length = ps.length
  run : ∀ (A : Around) (outer : List Env) (s : Shared) (H : Hp) (args : Args) (us : List Value) (vs : List V) (Q : VK) (E : XK), Room k A → A.guards = some [] → Env0 P w K mg base A outer s H → BindsTo s fd args (ps.zip us) → Vals vs us →
    sp vs H Q E → codeAny (model P w) A (.call (.ref f) args) (CR (L2.CX P w) outer P w H s Q E) s
theorem FnG.up {P : Program} {w : World} {K : PySem.W.Frag} {mg : Str → Option Value} {base : Heap} {j k : Nat} {f : Addr} {fd : FuncData} {ps : List Str} {sp : Sp} (F : FnG P w K mg base j f fd ps sp) (h : j ≤ k) : FnG P w K mg base k f fd ps sp :=
  ⟨F.len, fun A outer s H args us vs Q E room gu => F.run A outer s H args us vs Q E (room.mono h) gu⟩
section
variable {P : Program} {w : World} {K : PySem.W.Frag} {mg : Str → Option Value} {base : Heap} {x qual : Str} {params : Arguments} {body : List Stmt} {scope : Scope} {dvs : List V} {kws : List (Str × V)} {f : Addr} {fd : FuncData} {N ps : List Str} {k : Nat} {sp : Sp}
theorem fn_g (Fd : FunD K x qual params body scope dvs kws f fd) (S : FnScope N ps scope) (len : ∀ vs H Q E, sp vs H Q E → vs.length = ps.length)
    (hb : ∀ (cdv : Value) (A : Around) (outer : List Env) (s : Shared) (H : Hp) (vs : List V) (Q : VK) (E : XK), Room k (A.deeper (PyProof.Rows.envOfC qual scope s.heap.objs.size f cdv)) → A.guards = some [] → sp vs H Q E →
      ∃ t, PSs (cxOf (L2.CX P w) P w K mg base N qual scope f cdv A outer s H E) body t ∧ t { nx := fun _ H' => Q .non H', rt := Q } (L2.start N vs) H) : FnG P w K mg base (k + 1) f fd ps sp := by
  obtain ⟨oc, od, dV, kV, doc, pm, an, cdv, ct, osl, rfl, look, codeOk, _, _⟩ := Fd.ex
  constructor
  · exact len
  · intro A outer s H args us vs Q E room gu env0 binds vals prom
    have inHeap : K.In s.heap := env0.mod.kin.keeps fun b o z => (env0.bs b o z).1
    have slots : ∀ y ∈ ps.zip us, scope.names.lookup y.1 = some .local ∨ (scope.names.lookup y.1 = some .cell ∧ ((PySem.cellsFrom (s.heap.objs.size + 1) scope.names []).lookup y.1).isSome = true) := by
      rintro ⟨n, v⟩ hy
      cases S.par n (List.of_mem_zip hy).1 with
      | inl q => exact Or.inl q
      | inr q => exact Or.inr ⟨q, PySem.W.cellsFrom_some _ _ _ (Or.inl q)⟩
    apply codeAny_call_function room.depth (inHeap _ _ look) rfl S.co S.gen rfl (PySem.W.codeRec_of inHeap codeOk)
    apply binds
    apply wpAny_newFunctionEnv_cells S.kind slots
    rintro env rfl s1 inc
    constructor
    · exact (env0.mod.nolimit.keeps fun b o z => (env0.bs b o z).1).keeps inc.toInCall.keep
    · apply codeAny_func
      obtain ⟨t, deriv, reading⟩ := hb cdv A outer s H vs Q E (room.deeper _) gu prom
      have begun := inv_start (CX := L2.CX P w) (E := E) S room.hd env0 (len _ _ _ _ prom) vals inc
      refine wpAny_mono (deriv.run [] s1 (L2.start N vs) H _ begun reading) (fun fl s' ended => ?_) fun _ _ raised => raised
      have leave : ∀ {τ : L2.St} {H' : Hp} {v : V} {u : Value}, Inv (cxOf (L2.CX P w) P w K mg base N qual scope f cdv A outer s H E) [] τ H' s' → RelV v u → Q v H' → CE outer P w H s Q u s' := by
        intro τ H' v u J rel q
        exact ⟨v, H', J.os, J.bare, J.base, J.hok, rel, q⟩
      match fl, ended with
      | .next, ⟨_, _, J, q⟩ => exact leave (v := .non) (u := .none) J rfl q
      | .ret _, ⟨_, _, _, J, rel, q⟩ => exact leave J rel q
      | .brk, ⟨_, _, _, q⟩ => exact q.elim
      | .cont, ⟨_, _, _, q⟩ => exact q.elim
end
section
variable {X : Cx} {k : Nat} {f : Addr} {fd : FuncData} {ps : List Str} {sp : Sp} {W : WX} {x : Str} {p pos : Pos} {e : Expr} {es : List Expr} {t : TA} {dvs : List V} {ds : List Value}
/-- the callee runs from a body -/
theorem run_g {pins : List (Addr × Obj)} {σ : L2.St} {H : Hp} {s : Shared} {Q : VK} {us : List Value} {vs : List V} {args : Args} (Fo : FnG X.prog X.w X.K X.mg X.base k f fd ps sp) (room : Room k X.A) (gu : X.A.guards = some []) (tk : Takes X W)
    (I : Inv X pins σ H s) (b : BindsTo s fd args (ps.zip us)) (r : Vals vs us) (h : sp vs H Q (WE W σ)) : codeAny (model X.prog X.w) X.A (.call (.ref f) args) (fun r s' => match r with
      | .ok (.ret u) => EP X pins σ Q u s'
      | .ok _ => False
      | .error er => X.xe er s') s := by
  refine codeAny_mono (Fo.run X.A X.stack s H args us vs Q (WE W σ) room gu I.env0 b r h) fun r s' hq => ?_
  match r, hq with
  | .ok (.ret _), hq => exact I.after hq
  | .error er, hq => exact passAt tk σ pins H s er s' I hq
def tCallG (sp : Sp) (dvs : List V) (W : WX) (t : TA) : TE := fun σ H Q => t σ H fun vs H1 => sp (vs ++ dvs) H1 Q (WE W σ)
theorem pe_callG (Fo : FnG X.prog X.w X.K X.mg X.base k f fd ps sp) (room : Room k X.A) (gu : X.A.guards = some []) (hg : Gl X x) (hm : X.mg x = some (.ref f)) (hk : PySem.W.keepIn X.K (.ref f) = true) (hb : Binds X.K fd ps ds) (hd : Vals dvs ds) (tk : Takes X W)
    (ha : PA X (e :: es) t) (hdb : (x == ("__debug__" : Str)) = false := by decide) (he : starEach (e :: es) X.env = (false, eval e X.env) :: starEach es X.env := by rfl) (hpl : (backTo pos (starEach es X.env)).any (·.1) = false := by rfl) :
    PE X (.Call (.Name x p) (e :: es) [] pos) (tCallG sp dvs W t) := by
  constructor
  intro pins s σ H Q I reading
  apply wpAny_Call_Name_kw
  apply ld_glob I hg hm _ hdb
  apply PySem.W.callWith_K (h₀ := X.base) I.ok.mod.kin hk _ he hpl
  apply thn (ha.run pos pins s σ H _ I reading)
  rintro us s1 ⟨vs, H1, I1, r, q⟩
  constructor
  · exact I1.kIn
  · have both : Vals (vs ++ dvs) (us ++ ds) := r.append hd
    have same : (us ++ ds).length = ps.length := both.length ▸ Fo.len _ _ _ _ q
    exact wpAny_call (codeAny_mono (run_g Fo room gu tk I1 (hb s1 us I1.kIn same) both q) fun r s' z => match r, z with
      | .ok (.ret _), z => z
      | .error _, z => z)
end
/-- the law's own call, behind the top -/
theorem law_g {P : Program} {w : World} {K : PySem.W.Frag} {mg mb : Str → Option Value} {k : Nat} {fa a : Addr} {fd : FuncData} {x : Str} {sp : Sp} {s1 : Shared} {vs : List Value} {ns : List Int}
    (KX : K.In s1.heap) (hns : s1.heap.Ns mainGlobals mg) (hb : s1.heap.Ns builtinsNs mb) (hbb : ∀ x : Str, x ≠ "__name__" → mb x = bootBuiltins x) (hlim : s1.heap.NoLimit) (hg : s1.gens = #[])
    (ha : s1.heap.get? a = some { cls := .type "list", data := .seq vs.toArray }) (hi : PyProof.Rows.IntsAre vs ns) (hl : ns.length ≤ sizeLine) (room : Room k callerA)
    (F : ∀ base : Heap, K.In base → base.Ns mainGlobals mg → FnG P w K mg base k fa fd [x] sp) (hbind : ∀ (s : Shared) (u : Value), BindsTo s fd ⟨[u], []⟩ [(x, u)])
    (hsp : ∀ H : Hp, SqL K H a (ns.map V.int) → sp [.ref a] H (fun v _ => v = .bl true) fun _ _ _ => False) :
    codeAny (model P w) callerA (.call (.ref fa) ⟨[.ref a], []⟩) (fun r s' => r = .ok (.ret (.bool true)) ∧ OldK s1.heap s'.heap ∧ s'.os = s1.os ∧ PyProof.Rows.AllBare s'.gens) s1 := by
  -- what is tracked: the script, if it is no object of the module
  have main : ∀ H : Hp, Only H → SqL K H a (ns.map V.int) → HOk P w H s1.heap → (∀ b, H b ≠ none → b = a ∧ K.lookup a = none) →
      codeAny (model P w) callerA (.call (.ref fa) ⟨[.ref a], []⟩) (fun r s' => r = .ok (.ret (.bool true)) ∧ OldK s1.heap s'.heap ∧ s'.os = s1.os ∧ PyProof.Rows.AllBare s'.gens) s1 := by
    intro H only seq held one
    have dictFree : ∀ {b : Addr} {o : Obj} {es : Array DictEntry} {n : Nat}, s1.heap.get? b = some o → o.data = .dict es n → H b = none := by
      intro b o es n q d
      match e : H b with
      | none => rfl
      | some u =>
        have ab := (one b (by rw [e]; exact fun z => nomatch z)).1
        rw [ab, ha] at q
        cases q
        cases (show Data.seq vs.toArray _ = Data.dict es n from d)
    have names : ∀ {b : Addr} {m : Str → Option Value}, s1.heap.Ns b m → (hidT s1.heap H).Ns b m := by
      rintro b m ⟨o, es, n, q, d, r⟩
      exact ⟨o, es, n, hidT_get q (dictFree q d), d, r⟩
    have kept : K.In (hidT s1.heap H) := by
      intro b o q
      refine hidT_get (KX b o q) ?_
      match e : H b with
      | none => rfl
      | some u =>
        obtain ⟨ab, no⟩ := one b (by rw [e]; exact fun z => nomatch z)
        rw [ab, no] at q
        cases q
    obtain ⟨mc, lim1, lim2⟩ := hlim
    have env0 : Env0 P w K mg (hidT s1.heap H) callerA [] s1 H :=
      { frames := rfl, mod := ⟨kept, names hns, ⟨mb, names hb, hbb⟩, mc, names lim1, lim2⟩, bs := fun b o q => of_hidT q, bsz := Nat.le_of_eq (hidT_size _ _), funs := trivial, frf := (fun b z => by cases z), hok := held, bare := .of_eq hg }
    refine codeAny_mono ((F _ kept (names hns)).run callerA [] s1 H ⟨[.ref a], []⟩ [.ref a] [.ref a] _ _ room rfl env0 (hbind s1 (.ref a)) (.cons rfl .nil) (hsp H seq)) fun r s' z => ?_
    match r, z with
    | .error er, z =>
      obtain ⟨_, _, _, _, _, _, _, _, _, _, _, _, y⟩ := z
      exact y.elim
    | .ok (.ret u), z =>
      obtain ⟨v, H', os, gens, un, held', rel, q⟩ := z
      cases (show v = .bl true from q)
      cases (show u = Value.bool true from rel)
      refine ⟨rfl, OldK.of_keep fun b o q => ?_, os, gens⟩
      match only b with
      | .inl n => exact un.keep b o q n (fun y => by cases y) (fun y => by cases y)
      | .inr ⟨ob, xs, n⟩ =>
        have q1 := (held b _ n).1
        have q2 := (held' b _ (un.frzs b ob _ n)).1
        rw [q] at q1
        cases q1
        exact q2
  have rv := vals_ints hi
  match lk : K.lookup a with
  | some o =>
    have q := KX a o lk
    rw [ha] at q
    cases q
    exact main (fun _ => none) (fun _ => .inl rfl) (.inr ⟨_, vs.toArray, _, lk, rfl, rfl, rfl, by rw [List.size_toArray, hi.length]; exact hl, by simpa using rv⟩) (fun b u z => nomatch (show (none : Option HO) = some u from z)) fun b z => absurd rfl z
  | none =>
    let H : Hp := upd (fun _ => none) a (.frz { cls := .type "list", data := .seq vs.toArray } (.lst (ns.map V.int)))
    have at_ : ∀ {b : Addr} {u : HO}, H b = some u → b = a ∧ u = .frz { cls := .type "list", data := .seq vs.toArray } (.lst (ns.map V.int)) := by
      intro b u q
      by_cases hb : b = a
      · rw [hb, show H a = _ from upd_same] at q
        exact ⟨hb, (Option.some.inj q).symm⟩
      · rw [show H b = none from upd_ne hb] at q
        cases q
    refine main H (fun b => ?_) (.inl (.inr ⟨_, upd_same⟩)) (fun b u q => ?_) fun b n => ?_
    · match e : H b with
      | none => exact .inl rfl
      | some u => exact .inr ⟨_, _, congrArg some (at_ e).2⟩
    · obtain ⟨rfl, rfl⟩ := at_ q
      exact ⟨ha, by rw [List.length_map]; exact hl, vs, _, rv, ha⟩
    · match e : H b with
      | none => exact absurd e n
      | some u => exact ⟨(at_ e).1, lk⟩
/-- the law's end over a head by facts; the script's bits are told -/
theorem walk_g {l : PySem.W.OpenLaw} {n k : Nat} {q : Program} {loose : List Str} {XP : (Str → Option Value) → Heap → Prop} {YP : World → Heap → Prop} {d : DefRec} {x : Str}
    (hn : l.most = some n) (hn2 : n ≤ sizeLine) (hdf : d.params.defaults = []) (room : Room k callerA)
    (F : ∀ (w : World) (mg : Str → Option Value) (fa : Addr) (h : Heap), YP w h → h.Ns mainGlobals mg → mg d.name = some (.ref fa) →
      ∃ (K : PySem.W.Frag) (fd : FuncData) (sp : Sp), K.In h ∧ (∀ (s : Shared) (u : Value), BindsTo s fd ⟨[u], []⟩ [(x, u)]) ∧
        (∀ (H : Hp) (a : Addr) (ns : List Int), ns.length ≤ n → (∀ z ∈ ns, Builtin.Int.intBits z ≤ 1048576) → SqL K H a (ns.map V.int) → sp [.ref a] H (fun v _ => v = .bl true) fun _ _ _ => False) ∧
        ∀ base : Heap, K.In base → base.Ns mainGlobals mg → FnG l.prog w K mg base k fa fd [x] sp) :
    PySem.W.WalkO q loose XP YP l.row.toRowW d [] (fun f vs => PySem.call f vs) := by
  apply Att.attach_callB hn hdf
  intro w s0 s1 mg mb fa o pm cd doc a vs ns G Y ho hd hcd hmg hobj hints hlen hbits hg
  obtain ⟨K, fd, sp, KX, hb, hsp, hF⟩ := F w mg fa _ Y G.T.g hmg
  exact law_g KX G.T.g G.T.b G.T.builtins G.T.nolimit hg hobj hints (Nat.le_trans hlen hn2) room hF hb fun H hS => hsp H a ns hlen hbits hS
end DL
set_option Elab.async false
set_option linter.all false
set_option maxRecDepth 100000
set_option maxHeartbeats 4000000
/-! DlH: what a def promises, how it is called. -/
namespace DL
open PySem L2

abbrev Fn := Fr → R Sl
/-- the arguments behind the call: those that are written as they came out -/
def outs : Fr → Fr → Option Fr
  | [], _ => some []
  | .io _ :: as, .io w :: e => match outs as e with
    | some r => some (.io w :: r)
    | none => none
  | .sh d :: as, _ :: e => match outs as e with
    | some r => some (.sh d :: r)
    | none => none
  | _, _ => none
def endF (as : Fr) (s : Sl) (e : Fr) : R Sl := match outs as e with
  | some r => .ok s r
  | none => .no
def runF (n m : Nat) (f : Sf) : Fn := fun as => match f (as ++ List.replicate (m - n) .un) with
  | .ok (.rt s) e => endF as s e
  | .ok .nx e => endF as (.sh .none) e
  | .ex x e => match outs as e with
    | some r => .ex x r
    | none => .no
  | _ => .no
def argsOnly (as : Fr) : Bool := as.all fun s => match s with
  | .sh _ => true
  | .io _ => true
  | _ => false
/-- the promise: what F tells of the arguments' data -/
def spF (K : PySem.W.Frag) (mg : Str → Option Value) (n : Nat) (F : Fn) : Sp := fun vs H Q E => vs.length = n ∧ ∃ (G : Hp) (as : Fr) (A : Nat → List Addr) (t : Nat → Addr),
  Ok K ⟨H, G, A, t⟩ H G A (vs.map some) as ∧ argsOnly as = true ∧ Wp K mg ⟨H, G, A, t⟩ (fun c d _ H' => E c d H') (vs.map some) (rv K ⟨H, G, A, t⟩) G (F as) Q
theorem outs_at : ∀ {as e r : Fr} {i : Nat} {s : Sl}, outs as e = some r → r[i]? = some s → (∃ d, as[i]? = some (.sh d) ∧ s = .sh d) ∨ ∃ w w', as[i]? = some (.io w) ∧ e[i]? = some (.io w') ∧ s = .io w'
  | [], e, r, i, s, h, q => by
    cases h
    simp at q
  | .un :: _, [], _, _, _, h, _ => by cases h
  | .un :: _, _ :: _, _, _, _, h, _ => by cases h
  | .own _ :: _, [], _, _, _, h, _ => by cases h
  | .own _ :: _, _ :: _, _, _, _, h, _ => by cases h
  | .sh d :: as, [], r, i, s, h, q => by cases h
  | .sh d :: as, x :: e, r, i, s, h, q => by
    have h' : (match outs as e with
      | some r => some (Sl.sh d :: r)
      | none => none) = some r := by cases x <;> exact h
    split at h'
    · rename_i r' hr
      cases h'
      cases i with
      | zero =>
        simp at q
        exact .inl ⟨d, rfl, q.symm⟩
      | succ i =>
        have q' : r'[i]? = some s := by simpa using q
        rcases outs_at hr q' with ⟨d', h1, h2⟩ | ⟨w, w', h1, h2, h3⟩
        · exact .inl ⟨d', by simpa using h1, h2⟩
        · exact .inr ⟨w, w', by simpa using h1, by simpa using h2, h3⟩
    · cases h'
  | .io w0 :: as, [], r, i, s, h, q => by cases h
  | .io w0 :: as, .io w1 :: e, r, i, s, h, q => by
    have h' : (match outs as e with
      | some r => some (Sl.io w1 :: r)
      | none => none) = some r := h
    split at h'
    · rename_i r' hr
      cases h'
      cases i with
      | zero =>
        simp at q
        exact .inr ⟨w0, w1, rfl, rfl, q.symm⟩
      | succ i =>
        have q' : r'[i]? = some s := by simpa using q
        rcases outs_at hr q' with ⟨d', h1, h2⟩ | ⟨w, w', h1, h2, h3⟩
        · exact .inl ⟨d', by simpa using h1, h2⟩
        · exact .inr ⟨w, w', by simpa using h1, by simpa using h2, h3⟩
    · cases h'
  | .io w0 :: as, .un :: e, r, i, s, h, q => by cases h
  | .io w0 :: as, .sh _ :: e, r, i, s, h, q => by cases h
  | .io w0 :: as, .own _ :: e, r, i, s, h, q => by cases h
theorem outs_len : ∀ {as e r : Fr}, outs as e = some r → r.length = as.length
  | [], _, _, h => by
    cases h
    rfl
  | .un :: _, [], _, h => by cases h
  | .un :: _, _ :: _, _, h => by cases h
  | .own _ :: _, [], _, h => by cases h
  | .own _ :: _, _ :: _, _, h => by cases h
  | .sh d :: as, [], r, h => by cases h
  | .sh d :: as, x :: e, r, h => by
    have h' : (match outs as e with
      | some r => some (Sl.sh d :: r)
      | none => none) = some r := by cases x <;> exact h
    split at h'
    · rename_i r' hr
      cases h'
      exact congrArg Nat.succ (outs_len hr)
    · cases h'
  | .io w0 :: as, [], r, h => by cases h
  | .io w0 :: as, .io w1 :: e, r, h => by
    have h' : (match outs as e with
      | some r => some (Sl.io w1 :: r)
      | none => none) = some r := h
    split at h'
    · rename_i r' hr
      cases h'
      exact congrArg Nat.succ (outs_len hr)
    · cases h'
  | .io w0 :: as, .un :: e, r, h => by cases h
  | .io w0 :: as, .sh _ :: e, r, h => by cases h
  | .io w0 :: as, .own _ :: e, r, h => by cases h
section
variable {K : PySem.W.Frag} {mg : Str → Option Value} {Φ : Fx} {H G H' G' : Hp} {A F' : Nat → List Addr} {vs : List V} {as e r : Fr} {σ' : L2.St}
/-- behind the body: the arguments -/
theorem Ok.outs (O : Ok K Φ H G A (vs.map some) as) (O' : Ok K Φ H' G' F' σ' e) (gg : Same G G') (h : DL.outs as e = some r) : Ok K Φ H' G' F' (vs.map some) r where
  gh := O'.gh
  len := by rw [outs_len h]; exact O.len
  slots := fun i s q => by
    rcases outs_at h q with ⟨d, h1, rfl⟩ | ⟨w, w', h1, h2, rfl⟩
    · obtain ⟨v, e1, hd⟩ := O.slots i _ h1
      exact ⟨v, e1, dp_mono gg hd⟩
    · obtain ⟨a, e1, o1, n1⟩ := O.slots i _ h1
      obtain ⟨a2, e2, o2, n2⟩ := O'.slots i _ h2
      have ea : a = a2 := (n1 a o1.head).2.2.trans (n2 a2 o2.head).2.2.symm
      subst ea
      exact ⟨a, e1, o2, n2⟩
  sep := fun i j s t hij q1 q2 o1 o2 => by
    have old : ∀ {i : Nat} {s : Sl}, r[i]? = some s → s.owned = true → e[i]? = some s := fun {i s} q o => by
      rcases outs_at h q with ⟨d, _, rfl⟩ | ⟨w, w', _, h2, rfl⟩
      · cases o
      · exact h2
    exact O'.sep i j s t hij (old q1 o1) (old q2 o2) o1 o2
  f0 := O'.f0
  f1 := O'.f1
  f2 := O'.f2
theorem rv_outs {s : Sl} {v : V} (h : DL.outs as e = some r) (q : rv K Φ s v H' G' F' σ' e) : rv K Φ s v H' G' F' (vs.map some) r := by
  cases s with
  | un => exact q
  | xn => exact q
  | io _ => exact q
  | sh d => exact q
  | own w =>
    obtain ⟨a, A, e1, o1, n1, ap⟩ := q
    refine ⟨a, A, e1, o1, n1, fun j t q o => ?_⟩
    rcases outs_at h q with ⟨d, _, rfl⟩ | ⟨w, w', _, h2, rfl⟩
    · cases o
    · exact ap j _ h2 rfl
end
section
variable {P : Program} {w : World} {K : PySem.W.Frag} {mg : Str → Option Value} {base : Heap} {x qual : Str} {params : Arguments} {body : List Stmt} {scope : Scope} {dvs : List V} {kws : List (Str × V)} {f : Addr} {fd : FuncData} {N ps : List Str} {k : Nat}
/-- a def keeps the promise that its body tells -/
theorem fn_mk {bf : Sf} (Fd : FunD K x qual params body scope dvs kws f fd) (S : FnScope N ps scope)
    (hb : ∀ (cdv : Value) (A : Around) (outer : List Env) (s : Shared) (H : Hp) (E : XK), Room k (A.deeper (PyProof.Rows.envOfC qual scope s.heap.objs.size f cdv)) → A.guards = some [] → ∀ Φ : Fx, DSs (cxOf (L2.CX P w) P w K mg base N qual scope f cdv A outer s H E) Φ (fun c d _ H' => E c d H') body bf) :
    FnG P w K mg base (k + 1) f fd ps (spF K mg ps.length (runF ps.length N.length bf)) := by
  refine fn_g Fd S (fun vs H Q E h => h.1) (fun cdv A outer s H vs Q E hr gu h => ?_)
  obtain ⟨hl, G, as, Aa, t, O, ao, hw⟩ := h
  have lN : ps.length ≤ N.length := by
    have := congrArg List.length S.pre
    rw [List.length_take] at this
    omega
  have la : as.length = ps.length := by rw [O.len, List.length_map, hl]
  refine ⟨_, hb cdv A outer s H E hr gu ⟨H, G, Aa, t⟩, G, Aa, as ++ List.replicate (N.length - ps.length) .un, ?_, ?_⟩
  · have e1 : ∀ {i : Nat} {s : Sl}, (as ++ List.replicate (N.length - ps.length) Sl.un)[i]? = some s → as[i]? = some s ∨ s = .un := fun {i s} q => by
      by_cases hi : i < as.length
      · rw [List.getElem?_append_left hi] at q
        exact .inl q
      · rw [List.getElem?_append_right (by omega)] at q
        exact .inr (List.eq_of_mem_replicate (List.mem_of_getElem? q))
    refine ⟨O.gh, ?_, fun i s q => ?_, fun i j s t hij q1 q2 o1 o2 => ?_, O.f0, O.f1, O.f2⟩
    · rw [List.length_append, List.length_replicate, la]
      unfold L2.start
      rw [List.length_append, List.length_replicate, List.length_map, hl]
    · rcases e1 q with h1 | rfl
      · have hi : i < (vs.map some).length := by rw [← O.len]; exact (List.getElem?_eq_some_iff.mp h1).1
        unfold L2.start
        rw [List.getElem?_append_left hi]
        exact O.slots i s h1
      · trivial
    · have old : ∀ {i : Nat} {s : Sl}, (as ++ List.replicate (N.length - ps.length) Sl.un)[i]? = some s → s.owned = true → as[i]? = some s := fun {i s} q o => by
        rcases e1 q with h1 | rfl
        · exact h1
        · cases o
      exact O.sep i j s t hij (old q1 o1) (old q2 o2) o1 o2
  · have hw' : Wp K mg ⟨H, G, Aa, t⟩ (fun c d _ H' => E c d H') (vs.map some) (rv K ⟨H, G, Aa, t⟩) G (match bf (as ++ List.replicate (N.length - ps.length) .un) with
      | .ok (.rt s) e => endF as s e
      | .ok .nx e => endF as (.sh .none) e
      | .ex x e => match outs as e with
        | some r => .ex x r
        | none => .no
      | _ => .no) Q := hw
    cases q : bf (as ++ List.replicate (N.length - ps.length) .un) with
    | no =>
      simp only [q] at hw'
      exact hw'.elim
    | ex z e =>
      simp only [q] at hw'
      split at hw'
      · rename_i r hr
        exact fun c d σ' H' G' F' s' o p => hw' c d H' G' F' s' (O.outs o s' hr) p
      · exact hw'.elim
    | ok fl e =>
      simp only [q] at hw'
      have fin : ∀ {s : Sl}, Wp K mg ⟨H, G, Aa, t⟩ (fun c d _ H' => E c d H') (vs.map some) (rv K ⟨H, G, Aa, t⟩) G (endF as s e) Q → ∀ v σ' H' G' F', Same G G' → Ok K ⟨H, G, Aa, t⟩ H' G' F' σ' e → rv K ⟨H, G, Aa, t⟩ s v H' G' F' σ' e → Q v H' := fun {s} z v σ' H' G' F' s' o p => by
        unfold endF at z
        split at z
        · rename_i r hr
          exact z v H' G' F' s' (O.outs o s' hr) (rv_outs hr p)
        · exact z.elim
      cases fl with
      | nx => exact fun v σ' H' G' F' s' o => fin hw' .non σ' H' G' F' s' o .non
      | rt s => exact fun v σ' H' G' F' s' o p => fin hw' v σ' H' G' F' s' o p
      | bk => exact hw'.elim
      | ct => exact hw'.elim
end

/-! ### a call -/
abbrev Ps := List (Bool × Arg)
/-- an argument as the callee has it: written (true), or read -/
def arg1 (e : Fr) : Bool × Arg → Option Sl
  | (true, .slot i) => match e[i]? with
    | some (.own w) => some (.io w)
    | some (.io w) => some (.io w)
    | _ => none
  | (true, .val _) => none
  | (false, .val d) => some (.sh d)
  | (false, .slot i) => match e[i]? with
    | some (.sh d) => some (.sh d)
    | some (.own w) => some (.sh w.toD)
    | some (.io w) => some (.sh w.toD)
    | _ => none
def argS (e : Fr) : Ps → Option Fr
  | [] => some []
  | p :: r => match arg1 e p with
    | some s => match argS e r with
      | some ss => some (s :: ss)
      | none => none
    | none => none
/-- the slots that are written, those whose objects are lent -/
def ioL : Ps → List Nat
  | [] => []
  | (true, .slot i) :: r => i :: ioL r
  | _ :: r => ioL r
def boL (e : Fr) : Ps → List Nat
  | [] => []
  | (false, .slot i) :: r => match e[i]? with
    | some (.own _) => i :: boL e r
    | some (.io _) => i :: boL e r
    | _ => boL e r
  | _ :: r => boL e r
def apart : List Nat → List Nat → Bool
  | [], _ => true
  | i :: r, bo => !(r.contains i) && !(bo.contains i) && apart r bo
def outAt : Ps → Fr → Nat → Option Ow
  | (true, .slot i) :: r, s :: ss, j => if i = j then (match s with
    | .io w => some w
    | _ => none) else outAt r ss j
  | _ :: r, _ :: ss, j => outAt r ss j
  | _, _, _ => none
/-- a slot behind the call -/
def slB (ps : Ps) (os : Fr) (fr : Bool) (bo : List Nat) (j : Nat) (s : Sl) : Sl := match outAt ps os j with
  | some w => s.put w
  | none => if (ioL ps).contains j then .un else if fr && bo.contains j then (match s with
    | .own w => .sh w.toD
    | s => s) else s
def slsB (ps : Ps) (os : Fr) (fr : Bool) (bo : List Nat) : Nat → Fr → Fr
  | _, [] => []
  | j, s :: r => slB ps os fr bo j s :: slsB ps os fr bo (j + 1) r
def flatD : D → Bool
  | .none => true
  | .bool _ => true
  | .int _ => true
  | .str _ => true
  | _ => false
def flatS : Sl → Bool
  | .sh d => flatD d
  | _ => false
/-- what is written holds nothing new that must be frozen -/
def flatW : Ow → Bool
  | .ls ds => ds.all flatD
  | .dc false kvs => (kvs.map (·.2)).all flatD
  | _ => false
def flatO : Fr → Bool
  | [] => true
  | .sh _ :: r => flatO r
  | .io w :: r => flatW w && flatO r
  | _ => false
def noIo (e : Fr) (bo : List Nat) : Bool := bo.all fun i => match e[i]? with
  | some (.io _) => false
  | _ => true
def toRV : Sl → R RV → R RV
  | .sh d, .ok _ e => .ok (.arg (.val d)) e
  | .own w, .ok _ e => .ok (.new w) e
  | _, _ => .no
def callR (F : Fn) (ps : Ps) (e : Fr) : R RV := match apart (ioL ps) (boL e ps) with
  | false => .no
  | true => match argS e ps with
    | none => .no
    | some sl => match F sl with
      | .no => .no
      | .ex x os => if noIo e (boL e ps) = true then .ex x (slsB ps os true (boL e ps) 0 e) else .no
      | .ok s os => if (flatS s && flatO os) = true then toRV s (.ok (.arg (.val .none)) (slsB ps os false (boL e ps) 0 e)) else
        if noIo e (boL e ps) = true then toRV s (.ok (.arg (.val .none)) (slsB ps os true (boL e ps) 0 e)) else .no
def eFn (F : Fn) (ms : List Bool) (fa : Af) : Rf := fun e => (fa e).bind fun as e1 => callR F (ms.zip as) e1
theorem slsB_at {ps : Ps} {os : Fr} {fr : Bool} {bo : List Nat} : ∀ {e : Fr} {n i : Nat} {s : Sl}, (slsB ps os fr bo n e)[i]? = some s → ∃ t, e[i]? = some t ∧ s = slB ps os fr bo (n + i) t
  | [], n, i, s, h => by simp [slsB] at h
  | t :: r, n, 0, s, h => by
    simp [slsB] at h
    exact ⟨t, rfl, h.symm⟩
  | t :: r, n, i + 1, s, h => by
    have h' : (slsB ps os fr bo (n + 1) r)[i]? = some s := by simpa [slsB] using h
    obtain ⟨u, h1, h2⟩ := slsB_at h'
    refine ⟨u, by simpa using h1, ?_⟩
    have : n + 1 + i = n + (i + 1) := by omega
    rw [← this]
    exact h2
theorem slsB_len {ps : Ps} {os : Fr} {fr : Bool} {bo : List Nat} : ∀ {e : Fr} {n : Nat}, (slsB ps os fr bo n e).length = e.length
  | [], _ => rfl
  | _ :: r, n => congrArg Nat.succ (slsB_len (e := r) (n := n + 1))
end DL
set_option Elab.async false
set_option linter.all false
set_option maxRecDepth 100000
set_option maxHeartbeats 4000000
/-! DlI: calls of defs. -/
namespace DL
open PySem L2

theorem apart_io : ∀ {l bo : List Nat}, apart l bo = true → l.Nodup ∧ ∀ i ∈ l, i ∉ bo
  | [], _, _ => ⟨.nil, fun i h => by cases h⟩
  | i :: r, bo, h => by
    unfold apart at h
    simp only [Bool.and_eq_true, Bool.not_eq_true', List.contains_eq_mem, decide_eq_false_iff_not] at h
    obtain ⟨⟨h1, h2⟩, h3⟩ := h
    obtain ⟨h4, h5⟩ := apart_io h3
    refine ⟨List.nodup_cons.mpr ⟨h1, h4⟩, fun j hj => ?_⟩
    rcases List.mem_cons.mp hj with rfl | hj
    · exact h2
    · exact h5 j hj
theorem ioL_mem : ∀ {ps : Ps} {k i : Nat}, ps[k]? = some (true, .slot i) → i ∈ ioL ps
  | [], k, i, h => by simp at h
  | p :: r, 0, i, h => by
    simp at h
    subst h
    exact List.mem_cons_self
  | p :: r, k + 1, i, h => by
    have h' : r[k]? = some (true, .slot i) := by simpa using h
    have := ioL_mem h'
    obtain ⟨m, a⟩ := p
    cases m <;> cases a <;> first | exact this | exact List.mem_cons_of_mem _ this
theorem ioL_uniq : ∀ {ps : Ps} {k k' i : Nat}, (ioL ps).Nodup → ps[k]? = some (true, .slot i) → ps[k']? = some (true, .slot i) → k = k'
  | [], k, k', i, _, h, _ => by simp at h
  | p :: r, 0, 0, i, _, _, _ => rfl
  | p :: r, 0, k' + 1, i, nd, h, h' => by
    simp at h
    subst h
    have q : r[k']? = some (true, .slot i) := by simpa using h'
    exact absurd (ioL_mem q) (List.nodup_cons.mp (show (i :: ioL r).Nodup from nd)).1
  | p :: r, k + 1, 0, i, nd, h, h' => by
    simp at h'
    subst h'
    have q : r[k]? = some (true, .slot i) := by simpa using h
    exact absurd (ioL_mem q) (List.nodup_cons.mp (show (i :: ioL r).Nodup from nd)).1
  | p :: r, k + 1, k' + 1, i, nd, h, h' => by
    have q : r[k]? = some (true, .slot i) := by simpa using h
    have q' : r[k']? = some (true, .slot i) := by simpa using h'
    have nd' : (ioL r).Nodup := by
      obtain ⟨m, a⟩ := p
      cases m <;> cases a <;> first | exact nd | exact (List.nodup_cons.mp (show (_ :: ioL r).Nodup from nd)).2
    exact congrArg Nat.succ (ioL_uniq nd' q q')
theorem ioL_of : ∀ {ps : Ps} {i : Nat}, i ∈ ioL ps → ∃ k : Nat, ps[k]? = some (true, Arg.slot i)
  | [], i, h => by cases h
  | (true, .slot j) :: r, i, h => by
    rcases List.mem_cons.mp (show i ∈ j :: ioL r from h) with rfl | h
    · exact ⟨0, rfl⟩
    · obtain ⟨k, q⟩ := ioL_of h
      exact ⟨k + 1, by simpa using q⟩
  | (true, .val _) :: r, i, h => by
    obtain ⟨k, q⟩ := ioL_of (show i ∈ ioL r from h)
    exact ⟨k + 1, by simpa using q⟩
  | (false, .slot _) :: r, i, h => by
    obtain ⟨k, q⟩ := ioL_of (show i ∈ ioL r from h)
    exact ⟨k + 1, by simpa using q⟩
  | (false, .val _) :: r, i, h => by
    obtain ⟨k, q⟩ := ioL_of (show i ∈ ioL r from h)
    exact ⟨k + 1, by simpa using q⟩
theorem boL_mem {e : Fr} : ∀ {ps : Ps} {k i : Nat} {s : Sl}, ps[k]? = some (false, .slot i) → e[i]? = some s → s.owned = true → i ∈ boL e ps
  | [], k, i, s, h, _, _ => by simp at h
  | p :: r, 0, i, s, h, q, o => by
    simp at h
    subst h
    unfold boL
    rw [q]
    cases s with
    | un => cases o
    | xn => cases o
    | sh _ => cases o
    | own _ => exact List.mem_cons_self
    | io _ => exact List.mem_cons_self
  | p :: r, k + 1, i, s, h, q, o => by
    have h' : r[k]? = some (false, .slot i) := by simpa using h
    have := boL_mem h' q o
    obtain ⟨m, a⟩ := p
    cases m with
    | true => cases a <;> exact this
    | false =>
      cases a with
      | val _ => exact this
      | slot j =>
        unfold boL
        split
        · exact List.mem_cons_of_mem _ this
        · exact List.mem_cons_of_mem _ this
        · exact this
theorem boL_of {e : Fr} : ∀ {ps : Ps} {i : Nat}, i ∈ boL e ps → ∃ s, e[i]? = some s ∧ s.owned = true
  | [], i, h => by cases h
  | (true, a) :: r, i, h => by
    have : i ∈ boL e r := by cases a <;> exact h
    exact boL_of this
  | (false, .val _) :: r, i, h => boL_of (show i ∈ boL e r from h)
  | (false, .slot j) :: r, i, h => by
    unfold boL at h
    split at h
    · rename_i w q
      rcases List.mem_cons.mp h with rfl | h
      · exact ⟨_, q, rfl⟩
      · exact boL_of h
    · rename_i w q
      rcases List.mem_cons.mp h with rfl | h
      · exact ⟨_, q, rfl⟩
      · exact boL_of h
    · exact boL_of h
theorem outAt_of : ∀ {ps : Ps} {os : Fr} {j : Nat} {w : Ow}, outAt ps os j = some w → ∃ k : Nat, ps[k]? = some (true, Arg.slot j) ∧ os[k]? = some (Sl.io w)
  | [], _, _, _, h => by
    unfold outAt at h
    cases h
  | (true, .slot i) :: r, [], _, _, h => by
    unfold outAt at h
    cases h
  | (true, .slot i) :: r, s :: ss, j, w, h => by
    unfold outAt at h
    split at h
    · rename_i e
      subst e
      split at h
      · cases h
        exact ⟨0, rfl, rfl⟩
      · cases h
    · obtain ⟨k, h1, h2⟩ := outAt_of h
      exact ⟨k + 1, by simpa using h1, by simpa using h2⟩
  | (true, .val _) :: r, [], _, _, h => by
    unfold outAt at h
    cases h
  | (false, _) :: r, [], _, _, h => by
    unfold outAt at h
    cases h
  | (true, .val _) :: r, s :: ss, j, w, h => by
    obtain ⟨k, h1, h2⟩ := outAt_of (show outAt r ss j = some w from h)
    exact ⟨k + 1, by simpa using h1, by simpa using h2⟩
  | (false, .val _) :: r, s :: ss, j, w, h => by
    obtain ⟨k, h1, h2⟩ := outAt_of (show outAt r ss j = some w from h)
    exact ⟨k + 1, by simpa using h1, by simpa using h2⟩
  | (false, .slot _) :: r, s :: ss, j, w, h => by
    obtain ⟨k, h1, h2⟩ := outAt_of (show outAt r ss j = some w from h)
    exact ⟨k + 1, by simpa using h1, by simpa using h2⟩
theorem argS_at {e : Fr} : ∀ {ps : Ps} {sl : Fr} {k : Nat} {s : Sl}, argS e ps = some sl → sl[k]? = some s → ∃ p, ps[k]? = some p ∧ arg1 e p = some s
  | [], sl, k, s, h, q => by
    cases h
    simp at q
  | p :: r, sl, k, s, h, q => by
    unfold argS at h
    split at h
    · rename_i s0 e0
      split at h
      · rename_i ss e1
        cases h
        cases k with
        | zero =>
          simp at q
          subst q
          exact ⟨p, rfl, e0⟩
        | succ k =>
          obtain ⟨p', h1, h2⟩ := argS_at e1 (show ss[k]? = some s by simpa using q)
          exact ⟨p', by simpa using h1, h2⟩
      · cases h
    · cases h
theorem argS_len {e : Fr} : ∀ {ps : Ps} {sl : Fr}, argS e ps = some sl → sl.length = ps.length
  | [], sl, h => by
    cases h
    rfl
  | p :: r, sl, h => by
    unfold argS at h
    split at h
    · split at h
      · rename_i ss e1
        cases h
        exact congrArg Nat.succ (argS_len e1)
      · cases h
    · cases h
theorem argS_only {e : Fr} : ∀ {ps : Ps} {sl : Fr}, argS e ps = some sl → argsOnly sl = true
  | [], sl, h => by
    cases h
    rfl
  | p :: r, sl, h => by
    unfold argS at h
    split at h
    · rename_i s0 e0
      split at h
      · rename_i ss e1
        cases h
        have := argS_only e1
        unfold argsOnly at this ⊢
        rw [List.all_cons, this, Bool.and_true]
        obtain ⟨m, a⟩ := p
        cases m <;> cases a <;> unfold arg1 at e0
        · cases e0
          rfl
        · simp only at e0
          split at e0 <;> cases e0 <;> rfl
        · cases e0
        · simp only at e0
          split at e0 <;> cases e0 <;> rfl
      · cases h
    · cases h
mutual
theorem flat_any {K : PySem.W.Frag} {G G' : Hp} : ∀ {v : V} {d : D}, flatD d = true → Dq K G v d → Dq K G' v d
  | _, .none, _, h => by cases h; exact .non
  | _, .bool b, _, h => by cases h; exact .bl b
  | _, .int i, _, h => by cases h; exact .int i
  | _, .str x, _, h => by cases h; exact .str x
  | _, .list _, f, _ => by cases f
  | _, .tuple _, f, _ => by cases f
  | _, .dict _, f, _ => by cases f
end
theorem flat_all {K : PySem.W.Frag} {G G' : Hp} : ∀ {vs : List V} {ds : List D}, ds.all flatD = true → DqAll K G vs ds → DqAll K G' vs ds
  | _, [], _, h => by cases h; exact .nil
  | _, d :: ds, f, h => by
    cases h with
    | cons h1 h2 =>
      rw [List.all_cons, Bool.and_eq_true] at f
      exact .cons (flat_any f.1 h1) (flat_all f.2 h2)
theorem flatO_at : ∀ {os : Fr} {k : Nat} {w : Ow}, flatO os = true → os[k]? = some (.io w) → flatW w = true
  | [], k, w, _, q => by simp at q
  | .un :: _, _, _, f, _ => by cases f
  | .xn :: _, _, _, f, _ => by cases f
  | .own _ :: _, _, _, f, _ => by cases f
  | .sh _ :: r, 0, w, _, q => by simp at q
  | .sh _ :: r, k + 1, w, f, q => flatO_at (show flatO r = true from f) (by simpa using q)
  | .io u :: r, 0, w, f, q => by
    simp at q
    rw [← q]
    exact (Bool.and_eq_true_iff.mp (show (flatW u && flatO r) = true from f)).1
  | .io u :: r, k + 1, w, f, q => flatO_at (Bool.and_eq_true_iff.mp (show (flatW u && flatO r) = true from f)).2 (by simpa using q)
theorem flat_ow {K : PySem.W.Frag} {H G G' : Hp} {w : Ow} {a : Addr} {A : List Addr} (f : flatW w = true) (h : OwAt K G H w a A) : OwAt K G' H w a A := by
  cases h with
  | ls h1 h2 => exact .ls h1 (flat_all f h2)
  | ll _ _ _ _ => cases f
  | dk h1 h2 h3 h4 => exact .dk h1 h2 h3 (flat_all f h4)
  | dt _ _ _ _ _ _ => cases f
section
variable {K : PySem.W.Frag} {mg : Str → Option Value} {Φ : Fx} {W : WX} {H G : Hp} {F : Nat → List Addr} {σ : L2.St} {e : Fr} {as : List Arg} {vs : List V} {ms : List Bool} {sl : Fr}
/-- the lent objects -/
def lent (F : Nat → List Addr) (bo : List Nat) : List Addr := bo.flatMap F
/-- the written objects, by the places of the arguments -/
def wrote (F : Nat → List Addr) (ps : Ps) (k : Nat) : List Addr := match ps[k]? with
  | some (true, .slot i) => F i
  | _ => []
def addrAt (vs : List V) (k : Nat) : Addr := match vs[k]? with
  | some (.ref a) => a
  | _ => 0
abbrev callFx (H G : Hp) (F : Nat → List Addr) (ps : Ps) (bo : List Nat) (vs : List V) : Fx := ⟨H, takeIn H G (lent F bo), wrote F ps, addrAt vs⟩
theorem Ok.frees (O : Ok K Φ H G F σ e) {i : Nat} {s : Sl} (q : e[i]? = some s) (o : s.owned = true) : ∀ b ∈ F i, G b = none ∧ ∃ u, H b = some u ∧ Ob u := fun b hb => by
  have old := O.slots i s q
  cases s with
  | un => cases o
  | xn => cases o
  | sh _ => cases o
  | own w =>
    obtain ⟨a, _, h1, h2⟩ := old
    exact ⟨(h2 b hb).1, h1.there b hb⟩
  | io w =>
    obtain ⟨a, _, h1, h2⟩ := old
    exact ⟨(h2 b hb).1, h1.there b hb⟩
theorem rs_at : ∀ {as : List Arg} {vs : List V} {k : Nat} {a : Arg}, rs K as vs H G F σ e → as[k]? = some a → ∃ v, vs[k]? = some v ∧ ra K a v H G F σ e
  | [], vs, k, a, r, q => by simp at q
  | b :: as, _, 0, a, r, q => by
    cases r with
    | cons h t =>
      simp at q
      subst q
      exact ⟨_, rfl, h⟩
  | b :: as, _, k + 1, a, r, q => by
    cases r with
    | cons h t =>
      obtain ⟨v, h1, h2⟩ := rs_at t (show as[k]? = some a by simpa using q)
      exact ⟨v, by simpa using h1, h2⟩
theorem zip_at {m : Bool} {a : Arg} {k : Nat} (h : (ms.zip as)[k]? = some (m, a)) : as[k]? = some a := (List.getElem?_zip_eq_some.mp h).2
theorem call_start (O : Ok K Φ H G F σ e) (r : rs K as vs H G F σ e) (hl : ms.length = as.length) (ap : apart (ioL (ms.zip as)) (boL e (ms.zip as)) = true) (q : argS e (ms.zip as) = some sl) :
    Same G (takeIn H G (lent F (boL e (ms.zip as)))) ∧ Ok K (callFx H G F (ms.zip as) (boL e (ms.zip as)) vs) H (takeIn H G (lent F (boL e (ms.zip as)))) (wrote F (ms.zip as)) (vs.map some) sl := by
  generalize hbo : boL e (ms.zip as) = bo at *
  obtain ⟨nd, dj⟩ := apart_io ap
  have lv := r.length
  have lentG : ∀ b ∈ lent F bo, G b = none := fun b hb => by
    obtain ⟨i, hi, hb⟩ := List.mem_flatMap.mp hb
    rw [← hbo] at hi
    obtain ⟨s, q, o⟩ := boL_of hi
    exact (O.frees q o b hb).1
  have hs : Same G (takeIn H G (lent F bo)) := takeIn_same lentG
  have key : ∀ {k : Nat} {s : Sl}, sl[k]? = some s → ∃ m a v, (ms.zip as)[k]? = some (m, a) ∧ arg1 e (m, a) = some s ∧ vs[k]? = some v ∧ ra K a v H G F σ e := fun {k s} z => by
    obtain ⟨⟨m, a⟩, h1, h2⟩ := argS_at q z
    obtain ⟨v, h3, h4⟩ := rs_at r (zip_at h1)
    exact ⟨m, a, v, h1, h2, h3, h4⟩
  have ioKey : ∀ {k : Nat} {s : Sl}, sl[k]? = some s → s.owned = true → ∃ i t w, (ms.zip as)[k]? = some (true, .slot i) ∧ e[i]? = some t ∧ t.owned = true ∧ s = .io w ∧ (∀ {H' G' : Hp}, True) := fun {k s} z o => by
    obtain ⟨m, a, v, h1, h2, h3, h4⟩ := key z
    cases m with
    | false =>
      cases a with
      | val d =>
        cases h2
        cases o
      | slot i =>
        unfold arg1 at h2
        simp only at h2
        split at h2 <;> cases h2 <;> cases o
    | true =>
      cases a with
      | val d => cases h2
      | slot i =>
        unfold arg1 at h2
        simp only at h2
        split at h2
        · rename_i w hw
          cases h2
          exact ⟨i, _, w, h1, hw, rfl, rfl, trivial⟩
        · rename_i w hw
          cases h2
          exact ⟨i, _, w, h1, hw, rfl, rfl, trivial⟩
        · cases h2
  refine ⟨hs, takeIn_sub O.gh, ?_, fun k s z => ?_, fun k k' s t hk z1 z2 o1 o2 => ?_, fun b hb => hb, fun b o z _ => z, fun b _ => rfl⟩
  · rw [argS_len q, List.length_map, ← lv, List.length_zip, hl, Nat.min_self]
  · obtain ⟨m, a, v, h1, h2, h3, h4⟩ := key z
    have ev : (vs.map some)[k]? = some (some v) := by rw [List.getElem?_map, h3]; rfl
    have lend : ∀ {i : Nat} {w : Ow} {t : Sl} {b : Addr}, a = .slot i → m = false → e[i]? = some t → t.owned = true → OwAt K G H w b (F i) → v = .ref b → Dq K (takeIn H G (lent F bo)) v w.toD := fun {i w t b} ea em hq ho o1 e1 => by
      rw [e1]
      refine o1.dp hs fun c hc => takeIn_in (List.mem_flatMap.mpr ⟨i, ?_, hc⟩)
      rw [← hbo]
      rw [ea, em] at h1
      exact boL_mem h1 hq ho
    have wrt : ∀ {i : Nat} {w : Ow} {t : Sl} {b : Addr}, (ms.zip as)[k]? = some (true, .slot i) → e[i]? = some t → t.owned = true → OwAt K G H w b (F i) → v = .ref b → slotOk K (callFx H G F (ms.zip as) bo vs) H (takeIn H G (lent F bo)) (wrote F (ms.zip as) k) k (.io w) (vs.map some)[k]? := fun {i w t b} hk hq ho o1 e1 => by
      have ew : wrote F (ms.zip as) k = F i := by unfold wrote; rw [hk]
      rw [ew]
      refine ⟨b, by rw [ev, e1], o1.mono hs (fun _ _ _ z => z), fun c hc => ⟨?_, .inl (by show c ∈ wrote F (ms.zip as) k; rw [ew]; exact hc), ?_⟩⟩
      · rw [takeIn_out ?_]
        · exact (O.frees hq ho c hc).1
        · intro hm
          obtain ⟨j, hj, hc2⟩ := List.mem_flatMap.mp hm
          have hj' := hj
          rw [← hbo] at hj'
          obtain ⟨u, hu, ou⟩ := boL_of hj'
          by_cases eij : i = j
          · exact dj i (ioL_mem hk) (by rw [eij]; exact hj)
          · exact O.sep i j t u eij hq hu ho ou c hc hc2
      · show b = addrAt vs k
        unfold addrAt
        rw [h3, e1]
    cases m with
    | false =>
      cases a with
      | val d =>
        cases h2
        exact ⟨v, ev, dp_mono hs h4⟩
      | slot i =>
        have h4' : σ[i]? = some (some v) := h4
        unfold arg1 at h2
        simp only at h2
        split at h2
        · rename_i d hq
          cases h2
          obtain ⟨v2, e2, hd⟩ := O.slots i _ hq
          rw [h4'] at e2
          cases e2
          exact ⟨v, ev, dp_mono hs hd⟩
        · rename_i w hq
          cases h2
          obtain ⟨b, e2, o1, _⟩ := O.slots i _ hq
          rw [h4'] at e2
          cases e2
          exact ⟨_, ev, lend rfl rfl hq rfl o1 rfl⟩
        · rename_i w hq
          cases h2
          obtain ⟨b, e2, o1, _⟩ := O.slots i _ hq
          rw [h4'] at e2
          cases e2
          exact ⟨_, ev, lend rfl rfl hq rfl o1 rfl⟩
        · cases h2
    | true =>
      cases a with
      | val d => cases h2
      | slot i =>
        have h4' : σ[i]? = some (some v) := h4
        unfold arg1 at h2
        simp only at h2
        split at h2
        · rename_i w hq
          cases h2
          obtain ⟨b, e2, o1, _⟩ := O.slots i _ hq
          rw [h4'] at e2
          cases e2
          exact wrt h1 hq rfl o1 rfl
        · rename_i w hq
          cases h2
          obtain ⟨b, e2, o1, _⟩ := O.slots i _ hq
          rw [h4'] at e2
          cases e2
          exact wrt h1 hq rfl o1 rfl
        · cases h2
  · obtain ⟨i, t1, w1, p1, q1, u1, _, _⟩ := ioKey z1 o1
    obtain ⟨j, t2, w2, p2, q2, u2, _, _⟩ := ioKey z2 o2
    have hij : i ≠ j := fun z => hk (ioL_uniq nd p1 (by rw [z]; exact p2))
    intro b hb
    have e1 : wrote F (ms.zip as) k = F i := by unfold wrote; rw [p1]
    have e2 : wrote F (ms.zip as) k' = F j := by unfold wrote; rw [p2]
    rw [e1] at hb
    rw [e2]
    exact O.sep i j t1 t2 hij q1 q2 u1 u2 b hb
end
end DL
set_option Elab.async false
set_option linter.all false
set_option maxRecDepth 100000
set_option maxHeartbeats 4000000
/-! DlJ: behind a call. -/
namespace DL
open PySem L2

open Classical in
/-- the footprints behind the call -/
noncomputable def foot (F F2 : Nat → List Addr) (ps : Ps) (j : Nat) : List Addr := if h : ∃ k : Nat, ps[k]? = some (true, Arg.slot j) then F2 h.choose else F j
theorem foot_io {F F2 : Nat → List Addr} {ps : Ps} {k j : Nat} (nd : (ioL ps).Nodup) (h : ps[k]? = some (true, Arg.slot j)) : foot F F2 ps j = F2 k := by
  have hx : ∃ k : Nat, ps[k]? = some (true, Arg.slot j) := ⟨k, h⟩
  unfold foot
  rw [dif_pos hx, ioL_uniq nd hx.choose_spec h]
theorem foot_no {F F2 : Nat → List Addr} {ps : Ps} {j : Nat} (h : j ∉ ioL ps) : foot F F2 ps j = F j := by
  unfold foot
  rw [dif_neg]
  exact fun ⟨k, q⟩ => h (ioL_mem q)
section
variable {K : PySem.W.Frag} {mg : Str → Option Value} {Φ : Fx} {W : WX} {H G H' G' Gn : Hp} {F F2 : Nat → List Addr} {σ : L2.St} {e os : Fr} {as : List Arg} {vs : List V} {ms : List Bool} {sl : Fr} {fr : Bool}
theorem argS_io {ps : Ps} (q : argS e ps = some sl) : ∀ {k i : Nat}, ps[k]? = some (true, Arg.slot i) → ∃ t, e[i]? = some t ∧ t.owned = true := by
  intro k i hk
  have hl : k < sl.length := by rw [argS_len q]; exact (List.getElem?_eq_some_iff.mp hk).1
  obtain ⟨p, h1, h2⟩ := argS_at q (List.getElem?_eq_getElem hl)
  rw [hk] at h1
  cases h1
  unfold arg1 at h2
  simp only at h2
  split at h2
  · rename_i w hw
    exact ⟨_, hw, rfl⟩
  · rename_i w hw
    exact ⟨_, hw, rfl⟩
  · cases h2
theorem slB_cases {ps : Ps} {bo : List Nat} {j : Nat} {t s : Sl} (h : s = slB ps os fr bo j t) :
    (∃ w, outAt ps os j = some w ∧ s = t.put w) ∨ (s = .un) ∨ (j ∉ ioL ps ∧ fr = true ∧ j ∈ bo ∧ ∃ w, t = .own w ∧ s = .sh w.toD) ∨ (j ∉ ioL ps ∧ s = t ∧ (fr = true → j ∈ bo → ∀ w, t ≠ .own w)) := by
  unfold slB at h
  cases q : outAt ps os j with
  | some w =>
    rw [q] at h
    exact .inl ⟨w, rfl, h⟩
  | none =>
    rw [q] at h
    simp only at h
    split at h
    · exact .inr (.inl h)
    · rename_i hn
      have hn' : j ∉ ioL ps := by simpa using hn
      split at h
      · rename_i hb
        rw [Bool.and_eq_true] at hb
        have hb' : j ∈ bo := by simpa using hb.2
        cases t with
        | own w => exact .inr (.inr (.inl ⟨hn', hb.1, hb', w, rfl, h⟩))
        | un => exact .inr (.inr (.inr ⟨hn', h, fun _ _ w z => by cases z⟩))
        | xn => exact .inr (.inr (.inr ⟨hn', h, fun _ _ w z => by cases z⟩))
        | sh _ => exact .inr (.inr (.inr ⟨hn', h, fun _ _ w z => by cases z⟩))
        | io _ => exact .inr (.inr (.inr ⟨hn', h, fun _ _ w z => by cases z⟩))
      · rename_i hb
        exact .inr (.inr (.inr ⟨hn', h, fun hf hm => absurd (by rw [hf, Bool.true_and]; simpa using hm) hb⟩))
theorem put_owned {t : Sl} {w : Ow} : (t.put w).owned = true := by cases t <;> rfl
theorem call_end (O : Ok K Φ H G F σ e) (r : rs K as vs H G F σ e) (hl : ms.length = as.length) (ap : apart (ioL (ms.zip as)) (boL e (ms.zip as)) = true) (q : argS e (ms.zip as) = some sl)
    (O' : Ok K (callFx H G F (ms.zip as) (boL e (ms.zip as)) vs) H' G' F2 (vs.map some) os) (gg : Same (takeIn H G (lent F (boL e (ms.zip as)))) G')
    (hG : (fr = true ∧ Gn = G' ∧ noIo e (boL e (ms.zip as)) = true) ∨ (fr = false ∧ Gn = G ∧ flatO os = true)) :
    Same G Gn ∧ Ok K Φ H' Gn (foot F F2 (ms.zip as)) σ (slsB (ms.zip as) os fr (boL e (ms.zip as)) 0 e) := by
  obtain ⟨hs, O1⟩ := call_start O r hl ap q
  have ioA := @argS_io e sl _ q
  generalize hbo : boL e (ms.zip as) = bo at *
  generalize hps : ms.zip as = ps at *
  obtain ⟨nd, dj⟩ := apart_io ap
  have sG : Same G Gn := by
    rcases hG with ⟨_, rfl, _⟩ | ⟨_, rfl, _⟩
    · exact hs.trans gg
    · exact Same.refl _
  have lentBo : ∀ b ∈ lent F bo, ∃ i ∈ bo, b ∈ F i ∧ ∃ s, e[i]? = some s ∧ s.owned = true := fun b hb => by
    obtain ⟨i, hi, hb⟩ := List.mem_flatMap.mp hb
    have hi' := hi
    rw [← hbo] at hi'
    exact ⟨i, hi, hb, boL_of hi'⟩
  have wr : ∀ {k : Nat} {b : Addr}, b ∈ wrote F ps k → ∃ i t, ps[k]? = some (true, Arg.slot i) ∧ b ∈ F i ∧ e[i]? = some t ∧ t.owned = true := fun {k b} hb => by
    unfold wrote at hb
    split at hb
    · rename_i i hk
      obtain ⟨t, h1, h2⟩ := ioA hk
      exact ⟨i, t, hk, hb, h1, h2⟩
    · cases hb
  have keepH : ∀ {j : Nat} {t : Sl} {b : Addr}, e[j]? = some t → t.owned = true → j ∉ ioL ps → b ∈ F j → ∀ o, H b = some o → H' b = some o := fun {j t b} hj ho hn hb o ho2 => by
    refine O'.f1 b o ho2 fun k hk => ?_
    obtain ⟨i, u, h1, h2, h3, h4⟩ := wr (show b ∈ wrote F ps k from hk)
    exact O.sep j i t u (fun z => hn (by rw [z]; exact ioL_mem h1)) hj h3 ho h4 b hb h2
  have outLent : ∀ {j : Nat} {t : Sl} {b : Addr}, e[j]? = some t → t.owned = true → j ∉ bo → b ∈ F j → b ∉ lent F bo := fun {j t b} hj ho hn hb hm => by
    obtain ⟨i, hi, hb2, s, h1, h2⟩ := lentBo b hm
    exact O.sep j i t s (fun z => hn (by rw [z]; exact hi)) hj h1 ho h2 b hb hb2
  have noneGn : ∀ {j : Nat} {t : Sl} {b : Addr}, e[j]? = some t → t.owned = true → (fr = true → j ∉ bo) → b ∈ F j → Gn b = none := fun {j t b} hj ho hn hb => by
    obtain ⟨n1, vs1, l1, _⟩ := O.frees hj ho b hb
    rcases hG with ⟨hf, rfl, _⟩ | ⟨_, rfl, _⟩
    · have := O'.f2 b (show H b ≠ none by rw [l1]; exact fun z => nomatch z)
      rw [this]
      show takeIn H G (lent F bo) b = none
      rw [takeIn_out (outLent hj ho (hn hf) hb)]
      exact n1
    · exact n1
  have sigma : ∀ {k i : Nat}, ps[k]? = some (true, Arg.slot i) → ∃ v, vs[k]? = some v ∧ σ[i]? = some (some v) := fun {k i} hk => by
    rw [← hps] at hk
    obtain ⟨v, h1, h2⟩ := rs_at r (zip_at hk)
    exact ⟨v, h1, h2⟩
  have h0 : ∀ {b : Addr}, H b = none → Φ.H_0 b = none := fun {b} z => O.noentry z
  have ioNot : ∀ {j : Nat}, j ∈ ioL ps → j ∉ bo := fun {j} h => dj j h
  refine ⟨sG, ?_, ?_, fun j s z => ?_, fun i j s t hij z1 z2 o1 o2 => ?_, fun b hb => O'.f0 b (O.f0 b hb), fun b o z m => ?_, fun b hb => ?_⟩
  · rcases hG with ⟨_, rfl, _⟩ | ⟨_, rfl, _⟩
    · exact O'.gh
    · intro b o z
      refine O'.f1 b o (O.gh b o z) fun k hk => ?_
      obtain ⟨i, u, h1, h2, h3, h4⟩ := wr (show b ∈ wrote F ps k from hk)
      rw [(O.frees h3 h4 b h2).1] at z
      cases z
  · rw [slsB_len]
    exact O.len
  · obtain ⟨t, ht, es⟩ := slsB_at z
    rw [Nat.zero_add] at es
    have old := O.slots j t ht
    rcases slB_cases es with ⟨w, hw, rfl⟩ | rfl | ⟨hn, hf, hb, w, rfl, rfl⟩ | ⟨hn, rfl, hx⟩
    · obtain ⟨k, hk, hos⟩ := outAt_of hw
      obtain ⟨t', ht', ho⟩ := ioA hk
      rw [ht] at ht'
      cases ht'
      rw [foot_io nd hk]
      obtain ⟨a, ea, oa, na⟩ := O'.slots k _ hos
      obtain ⟨v, ev, sv⟩ := sigma hk
      have ea' : v = .ref a := by
        rw [List.getElem?_map, ev] at ea
        exact Option.some.inj (Option.some.inj ea)
      subst ea'
      have ow : OwAt K Gn H' w a (F2 k) := by
        rcases hG with ⟨_, rfl, _⟩ | ⟨_, rfl, hfl⟩
        · exact oa
        · exact flat_ow (flatO_at hfl hos) oa
      have nG : ∀ b ∈ F2 k, Gn b = none := fun b hb => by
        rcases hG with ⟨_, rfl, _⟩ | ⟨_, rfl, hfl⟩
        · exact (na b hb).1
        · rcases (na b hb).2.1 with z | z
          · obtain ⟨i, u, h1, h2, h3, h4⟩ := wr (show b ∈ wrote F ps k from z)
            exact (O.frees h3 h4 b h2).1
          · exact same_back O.gh (show H b = none from z)
      have src : ∀ b ∈ F2 k, b ∈ F j ∨ H b = none := fun b hb => by
        rcases (na b hb).2.1 with z | z
        · have z' : b ∈ wrote F ps k := z
          unfold wrote at z'
          rw [hk] at z'
          exact .inl z'
        · exact .inr z
      cases t with
      | un => cases ho
      | xn => cases ho
      | sh _ => cases ho
      | own u =>
        obtain ⟨a0, e0, _, n0⟩ := old
        exact ⟨a, sv, ow, fun b hb => ⟨nG b hb, (src b hb).elim (fun z => (n0 b z).2) h0⟩⟩
      | io u =>
        obtain ⟨a0, e0, o0, n0⟩ := old
        rw [sv] at e0
        cases e0
        exact ⟨a, sv, ow, fun b hb => ⟨nG b hb, (src b hb).elim (fun z => (n0 b z).2.1) (fun z => .inr (h0 z)), (n0 a o0.head).2.2⟩⟩
    · trivial
    · obtain ⟨a, ea, oa, na⟩ := old
      refine ⟨.ref a, ea, ?_⟩
      rcases hG with ⟨_, rfl, _⟩ | ⟨hf', _, _⟩
      · exact dp_mono gg (oa.dp hs fun b hb2 => takeIn_in (List.mem_flatMap.mpr ⟨j, hb, hb2⟩))
      · rw [hf'] at hf
        cases hf
    · rw [foot_no hn]
      cases s with
      | un => trivial
      | xn => first | exact old | exact h | exact h1 | exact h2 | exact q | exact O.slots _ _ ‹_›
      | sh d =>
        obtain ⟨v, ev, hd⟩ := old
        exact ⟨v, ev, dp_mono sG hd⟩
      | own u =>
        obtain ⟨a, ea, oa, na⟩ := old
        exact ⟨a, ea, oa.mono sG (fun b hb o z => keepH ht rfl hn hb o z), fun b hb => ⟨noneGn ht rfl (fun hf hm => hx hf hm u rfl) hb, (na b hb).2⟩⟩
      | io u =>
        obtain ⟨a, ea, oa, na⟩ := old
        refine ⟨a, ea, oa.mono sG (fun b hb o z => keepH ht rfl hn hb o z), fun b hb => ⟨noneGn ht rfl (fun hf hm => ?_) hb, (na b hb).2⟩⟩
        rcases hG with ⟨_, _, hno⟩ | ⟨hf', _, _⟩
        · have := List.all_eq_true.mp hno j hm
          rw [ht] at this
          cases this
        · rw [hf'] at hf
          cases hf
  · -- apart
    have cas : ∀ {j : Nat} {s : Sl}, (slsB ps os fr bo 0 e)[j]? = some s → s.owned = true → (∃ (k : Nat) (w : Ow), ps[k]? = some (true, Arg.slot j) ∧ os[k]? = some (Sl.io w)) ∨ (j ∉ ioL ps ∧ e[j]? = some s) := fun {j s} z o => by
      obtain ⟨t, ht, es⟩ := slsB_at z
      rw [Nat.zero_add] at es
      rcases slB_cases es with ⟨w, hw, rfl⟩ | rfl | ⟨hn, hf, hb, w, rfl, rfl⟩ | ⟨hn, rfl, hx⟩
      · obtain ⟨k, hk, hos⟩ := outAt_of hw
        exact .inl ⟨k, w, hk, hos⟩
      · cases o
      · cases o
      · exact .inr ⟨hn, ht⟩
    have mix : ∀ {i j k : Nat} {w : Ow} {t : Sl}, i ≠ j → ps[k]? = some (true, Arg.slot i) → os[k]? = some (Sl.io w) → j ∉ ioL ps → e[j]? = some t → t.owned = true → ∀ b ∈ F2 k, b ∉ F j := fun {i j k w t} hij hk hos hn hj ho b hb hb2 => by
      obtain ⟨a, _, oa, na⟩ := O'.slots k _ hos
      rcases (na b hb).2.1 with z | z
      · have z' : b ∈ wrote F ps k := z
        unfold wrote at z'
        rw [hk] at z'
        obtain ⟨u, h3, h4⟩ := ioA hk
        exact O.sep i j u t hij h3 hj h4 ho b z' hb2
      · obtain ⟨_, vs1, l1, _⟩ := O.frees hj ho b hb2
        rw [show H b = none from z] at l1
        cases l1
    rcases cas z1 o1 with ⟨k1, w1, p1, q1⟩ | ⟨n1, y1⟩
    · rw [foot_io nd p1]
      rcases cas z2 o2 with ⟨k2, w2, p2, q2⟩ | ⟨n2, y2⟩
      · rw [foot_io nd p2]
        refine O'.sep k1 k2 _ _ (fun z => hij ?_) q1 q2 rfl rfl
        rw [z, p2] at p1
        cases p1
        rfl
      · rw [foot_no n2]
        exact mix hij p1 q1 n2 y2 o2
    · rw [foot_no n1]
      rcases cas z2 o2 with ⟨k2, w2, p2, q2⟩ | ⟨n2, y2⟩
      · rw [foot_io nd p2]
        exact fun b hb hb2 => mix (Ne.symm hij) p2 q2 n1 y1 o1 b hb2 hb
      · rw [foot_no n2]
        exact O.sep i j s t hij y1 y2 o1 o2
  · refine O'.f1 b o (O.f1 b o z m) fun k hk => ?_
    obtain ⟨i, u, h1, h2, h3, h4⟩ := wr (show b ∈ wrote F ps k from hk)
    have old := O.slots i u h3
    cases u with
    | un => cases h4
    | xn => cases h4
    | sh _ => cases h4
    | own w =>
      obtain ⟨_, _, _, n2⟩ := old
      rw [(n2 b h2).2] at z
      cases z
    | io w =>
      obtain ⟨_, _, _, n2⟩ := old
      rcases (n2 b h2).2.1 with y | y
      · exact m i y
      · rw [y] at z
        cases z
  · rcases hG with ⟨_, rfl, hno⟩ | ⟨_, rfl, _⟩
    · rw [O'.f2 b (O.f0 b hb)]
      show takeIn H G (lent F bo) b = _
      rw [takeIn_out]
      · exact O.f2 b hb
      · intro hm
        obtain ⟨i, hi, hb2, s, h1, h2⟩ := lentBo b hm
        have old := O.slots i s h1
        cases s with
        | un => cases h2
        | xn => cases h2
        | sh _ => cases h2
        | own w =>
          obtain ⟨_, _, _, n2⟩ := old
          exact hb (n2 b hb2).2
        | io w =>
          have := List.all_eq_true.mp hno i hi
          rw [h1] at this
          cases this
    · exact O.f2 b hb
end
end DL
set_option Elab.async false
set_option linter.all false
set_option maxRecDepth 100000
set_option maxHeartbeats 4000000
/-! DlK: the rules of calls, of methods that write, of built-ins. -/
namespace DL
open PySem L2

section
variable {K : PySem.W.Frag} {mg : Str → Option Value} {Φ : Fx} {W : WX} {H G : Hp} {F : Nat → List Addr} {σ : L2.St} {e : Fr} {as : List Arg} {vs : List V} {ms : List Bool}
theorem foot_fresh (O : Ok K Φ H G F σ e) (r : rs K as vs H G F σ e) {F2 : Nat → List Addr} {os sl : Fr} {fr : Bool} {bo : List Nat} (nd : (ioL (ms.zip as)).Nodup) {A : List Addr} (hA : ∀ b ∈ A, H b = none) (ap : ∀ j t, os[j]? = some t → t.owned = true → ∀ b ∈ A, b ∉ F2 j) :
    ∀ j t, (slsB (ms.zip as) os fr bo 0 e)[j]? = some t → t.owned = true → ∀ b ∈ A, b ∉ foot F F2 (ms.zip as) j := fun j s z o b hb => by
  obtain ⟨t, ht, es⟩ := slsB_at z
  rw [Nat.zero_add] at es
  rcases slB_cases es with ⟨w, hw, rfl⟩ | rfl | ⟨hn, hf, hb, w, rfl, rfl⟩ | ⟨hn, rfl, hx⟩
  · obtain ⟨k, hk, hos⟩ := outAt_of hw
    rw [foot_io nd hk]
    exact ap k _ hos rfl b hb
  · cases o
  · cases o
  · rw [foot_no hn]
    intro hm
    obtain ⟨_, vs1, l1, _⟩ := O.frees ht o b hm
    rw [hA b hb] at l1
    cases l1
/-- the callee's promise, asked -/
theorem callR_ok {Fs : Fn} {Q : VK} (O : Ok K Φ H G F σ e) (r : rs K as vs H G F σ e) (hl : ms.length = as.length) (h : Wp K mg Φ W σ (rr K Φ) G (callR Fs (ms.zip as) e) Q) : spF K mg ms.length Fs vs H Q (WE W σ) := by
  unfold callR at h
  split at h
  · exact h.elim
  · rename_i ap
    split at h
    · exact h.elim
    · rename_i sl q
      obtain ⟨hs, O1⟩ := call_start O r hl ap q
      obtain ⟨nd, dj⟩ := apart_io ap
      have lv : vs.length = ms.length := by rw [hl]; exact r.length.symm
      refine ⟨lv, _, sl, _, _, O1, argS_only q, ?_⟩
      cases z : Fs sl with
      | no =>
        rw [z] at h
        exact h.elim
      | ex x os =>
        rw [z] at h
        have h' : Wp K mg Φ W σ (rr K Φ) G (if noIo e (boL e (ms.zip as)) = true then .ex x (slsB (ms.zip as) os true (boL e (ms.zip as)) 0 e) else .no) Q := h
        split at h'
        · rename_i hn
          intro c d H' G' F2 gg O' p
          obtain ⟨s1, O2⟩ := call_end (fr := true) O r hl ap q O' gg (.inl ⟨rfl, rfl, hn⟩)
          exact h' c d H' G' _ s1 O2 p
        · exact h'.elim
      | ok s os =>
        rw [z] at h
        have h' : Wp K mg Φ W σ (rr K Φ) G (if (flatS s && flatO os) = true then toRV s (.ok (.arg (.val .none)) (slsB (ms.zip as) os false (boL e (ms.zip as)) 0 e)) else
          if noIo e (boL e (ms.zip as)) = true then toRV s (.ok (.arg (.val .none)) (slsB (ms.zip as) os true (boL e (ms.zip as)) 0 e)) else .no) Q := h
        intro v H' G' F2 gg O' p
        split at h'
        · rename_i hf
          rw [Bool.and_eq_true] at hf
          obtain ⟨s1, O2⟩ := call_end (fr := false) O r hl ap q O' gg (.inr ⟨rfl, rfl, hf.2⟩)
          cases s with
          | un => cases hf.1
          | xn => cases hf.1
          | own _ => cases hf.1
          | io _ => cases hf.1
          | sh d => exact h' v H' G _ s1 O2 (flat_any hf.1 p)
        · split at h'
          · rename_i hn
            obtain ⟨s1, O2⟩ := call_end (fr := true) O r hl ap q O' gg (.inl ⟨rfl, rfl, hn⟩)
            cases s with
            | un => exact h'.elim
            | xn => exact h'.elim
            | io _ => exact h'.elim
            | sh d => exact h' v H' G' _ s1 O2 p
            | own w =>
              obtain ⟨a, A, e1, o1, n1, ap1⟩ := p
              exact h' v H' G' _ s1 O2 ⟨a, A, e1, o1, fun b hb => ⟨(n1 b hb).1, O.noentry (show H b = none from (n1 b hb).2)⟩, foot_fresh (sl := sl) O r nd (fun b hb => (n1 b hb).2) ap1⟩
          · exact h'.elim
end
def eFnC (Fs : Fn) (ms : List Bool) (fa : Af) : Rf := fun e => (fa e).bind fun as e1 => if ms.length = as.length then callR Fs (ms.zip as) e1 else .no
section
variable {X : Cx} {Φ : Fx} {W : WX} {x y : Expr} {xs : List Expr} {pos p : Pos} {n : Str} {fs : Af} {k : Nat} {f : Addr} {fd : FuncData} {ps : List Str} {Fs : Fn}
theorem d_call (ms : List Bool) (Fo : FnG X.prog X.w X.K X.mg X.base k f fd ps (spF X.K X.mg ms.length Fs)) (hr : Room k X.A) (gu : X.A.guards = some []) (hm : X.mg n = some (.ref f)) (hk : PySem.W.keepIn X.K (.ref f) = true) (hb : Binds X.K fd ps []) (tk : Takes X W)
    (ha : DA X Φ W (x :: xs) fs) (hg : Gl X n := by rfl) (hdb : (n == ("__debug__" : Str)) = false := by decide) (he : starEach (x :: xs) X.env = (false, eval x X.env) :: starEach xs X.env := by rfl) (hpl : (backTo pos (starEach xs X.env)).any (·.1) = false := by rfl) :
    DR X Φ W (.Call (.Name n p) (x :: xs) [] pos) (eFnC Fs ms fs) :=
  pe_weak (pe_callG Fo hr gu hg hm hk hb .nil tk ha hdb he hpl) fun σ H Q ⟨G, F, e, O, h⟩ => ⟨G, F, e, O, Wp.imp (Wp.seq h) fun vs H1 ⟨G1, F1, e1, as, g1, O1, r1, h1⟩ => by
    split at h1
    · rename_i hl
      have z := callR_ok O1 r1 hl h1
      show spF X.K X.mg ms.length Fs (vs ++ []) H1 Q (WE W σ)
      rw [List.append_nil]
      exact z
    · exact h1.elim⟩
end

/-! ### methods that write a list -/
/-- what a method does: the content and the arguments give a result and the new content -/
abbrev Mop := List D → List D → Option (D × List D)
def useM (op : Mop) (a : Arg) (ds : List D) (e : Fr) : R Arg := match a with
  | .slot i => match e[i]? with
    | some (.own (.ls cs)) => match op cs ds with
      | some (d, es) => .ok (.val d) (e.set i (.own (.ls es)))
      | none => .no
    | some (.io (.ls cs)) => match op cs ds with
      | some (d, es) => .ok (.val d) (e.set i (.io (.ls es)))
      | none => .no
    | _ => .no
  | _ => .no
def isLs (a : Arg) (e : Fr) : Bool := match a with
  | .slot i => match e[i]? with
    | some (.own (.ls _)) => true
    | some (.io (.ls _)) => true
    | _ => false
  | _ => false
def eMt (op : Mop) (fa : Ef) (fs : Af) : Ef := fun e => (fa e).bind fun a e1 => match isLs a e1 with
  | true => (fs e1).bind fun as e2 => (fzA as e2).bind fun ds e3 => useM op a ds e3
  | false => .no
def rMt (K : PySem.W.Frag) (op : Mop) : V → List V → Hp → VK → Prop := fun x xs H Q => ∃ G l vs cs ds d es, Same G H ∧ x = .ref l ∧ H l = some (.lst vs) ∧ DqAll K G vs cs ∧ DqAll K G xs ds ∧ op cs ds = some (d, es) ∧
  ∀ v ws, Dq K G v d → DqAll K G ws es → Q v (upd H l (.lst ws))
section
variable {K : PySem.W.Frag} {mg : Str → Option Value} {Φ : Fx} {W : WX} {H G : Hp} {F : Nat → List Addr} {σ : L2.St} {e : Fr}
theorem useM_ok {op : Mop} {a : Arg} {x : V} {xs : List V} {ds : List D} {Q : VK} (O : Ok K Φ H G F σ e) (r : ra K a x H G F σ e) (hd : DqAll K G xs ds) (h : Wp K mg Φ W σ (ra K) G (useM op a ds e) Q) : rMt K op x xs H Q := by
  cases a with
  | val d => exact h.elim
  | slot i =>
    have r' : σ[i]? = some (some x) := r
    have h' : Wp K mg Φ W σ (ra K) G (match e[i]? with
      | some (.own (.ls cs)) => match op cs ds with
        | some (d, es) => .ok (.val d) (e.set i (.own (.ls es)))
        | none => .no
      | some (.io (.ls cs)) => match op cs ds with
        | some (d, es) => .ok (.val d) (e.set i (.io (.ls es)))
        | none => .no
      | _ => .no) Q := h
    split at h'
    · rename_i cs hi
      split at h'
      · rename_i d es ho
        obtain ⟨l, e1, o1, n1⟩ := O.slots i _ hi
        rw [r'] at e1
        cases e1
        obtain ⟨vs, h1, h2, hA⟩ := owls o1
        exact ⟨G, l, vs, cs, ds, d, es, O.gh, rfl, h1, h2, hd, ho, fun v ws hv hw => h' v _ G _ (Same.refl _) (O.write (w' := .ls es) (A' := [l]) hi rfl r' (.ls upd_same hw) (fun b hb => by rw [hA] at hb; exact hb) (fun b hb => .inl (by rw [hA]; exact hb)) fun b hb => upd_ne fun z => hb (List.mem_singleton.mpr z)) hv⟩
      · exact h'.elim
    · rename_i cs hi
      split at h'
      · rename_i d es ho
        obtain ⟨l, e1, o1, n1⟩ := O.slots i _ hi
        rw [r'] at e1
        cases e1
        obtain ⟨vs, h1, h2, hA⟩ := owls o1
        exact ⟨G, l, vs, cs, ds, d, es, O.gh, rfl, h1, h2, hd, ho, fun v ws hv hw => h' v _ G _ (Same.refl _) (O.write (w' := .ls es) (A' := [l]) hi rfl r' (.ls upd_same hw) (fun b hb => by rw [hA] at hb; exact hb) (fun b hb => .inl (by rw [hA]; exact hb)) fun b hb => upd_ne fun z => hb (List.mem_singleton.mpr z)) hv⟩
      · exact h'.elim
    · exact h'.elim
theorem isLs_ok (O : Ok K Φ H G F σ e) {a : Arg} {x : V} (r : ra K a x H G F σ e) (h : isLs a e = true) : tyV K "list" x H := by
  have fin : ∀ {cs : List D}, rd1 e a = some (.list cs) → tyV K "list" x H := fun {cs} q => by
    obtain ⟨l, vs, rfl, t, _⟩ := (bp_of O r q).lst O.gh
    exact .inl ⟨rfl, vs, t⟩
  cases a with
  | val d => cases h
  | slot i =>
    unfold isLs at h
    simp only at h
    split at h
    · rename_i cs hi
      exact fin (cs := cs) (by unfold rd1; simp only; rw [hi])
    · rename_i cs hi
      exact fin (cs := cs) (by unfold rd1; simp only; rw [hi])
    · cases h
end
section
variable {X : Cx} {Φ : Fx} {W : WX} {x y : Expr} {xs : List Expr} {apos cpos : Pos} {n : Str} {fa : Ef} {fs : Af} {id : String} {op : Mop}
theorem d_mt (slot : Slot "list" n id) (hty : typeOf (.builtin id) = pure (.type "method_descriptor")) (hm : MtR X id (rMt X.K op)) (hx : DE X Φ W x fa) (ha : DA X Φ W (y :: xs) fs) (hbase : attributeBase x n X.env (eval x X.env) = eval x X.env := by rfl)
    (hfew : ((backTo cpos (starEach (y :: xs) X.env)).all (fun x => !x.1) && (backToKw cpos (keywordEach [] X.env)).all (fun x => x.1.isSome)
      && decide ((y :: xs).length + ([] : List Keyword).length + (if ([] : List Keyword).isEmpty then 0 else 1) < 30)) = true := by rfl)
    (hline : (apos.endLine == cpos.line) = true := by rfl) (hs : starEach (y :: xs) X.env = (false, eval y X.env) :: starEach xs X.env := by rfl) (hplain : (backTo cpos (starEach xs X.env)).any (·.1) = false := by rfl) :
    DE X Φ W (.Call (.Attribute x n apos) (y :: xs) [] cpos) (eMt op fa fs) :=
  pe_weak (pe_bm PySem.F.plainAttrs_list slot hty hm hx ha hbase hfew hline hs hplain) fun σ H Q ⟨G, F, e, O, h⟩ => ⟨G, F, e, O, Wp.imp (Wp.seq h) fun v H1 ⟨G1, F1, e1, a, g1, O1, r1, h1⟩ => by
    split at h1
    · rename_i hi
      refine ⟨isLs_ok O1 r1 hi, G1, F1, e1, O1, Wp.imp (Wp.seq h1) fun vs H2 ⟨G2, F2, e2, as, g2, O2, r2, h2⟩ => ?_⟩
      obtain ⟨G3, e3, ds, g3, O3, d3, h3⟩ := Wp.fzA O2 r2 h2
      exact useM_ok O3 (ra_up (H' := H2) (F' := F2) (e' := e3) (G' := G3) r1 (g2.trans g3)) d3 h3
    · exact h1.elim⟩
theorem d_mt0 (slot : Slot "list" n id) (hty : typeOf (.builtin id) = pure (.type "method_descriptor")) (hm : MtR X id (rMt X.K op)) (hx : DE X Φ W x fa) (hbase : attributeBase x n X.env (eval x X.env) = eval x X.env := by rfl) (hline : (apos.endLine == cpos.line) = true := by rfl) :
    DE X Φ W (.Call (.Attribute x n apos) [] [] cpos) (eMt op fa aNil) :=
  pe_weak (pe_bm0 PySem.F.plainAttrs_list slot hty hm hx hbase hline) fun σ H Q ⟨G, F, e, O, h⟩ => ⟨G, F, e, O, Wp.imp (Wp.seq h) fun v H1 ⟨G1, F1, e1, a, g1, O1, r1, h1⟩ => by
    split at h1
    · rename_i hi
      exact ⟨isLs_ok O1 r1 hi, useM_ok O1 r1 .nil h1⟩
    · exact h1.elim⟩
/-- xs.append(y), xs.pop(), xs.pop(i), xs.extend(ys) -/
def mApp : Mop := fun cs ds => match ds with
  | [d] => if cs.length < 1000000 then some (.none, cs ++ [d]) else none
  | _ => none
def mPop : Mop := fun cs ds => match ds with
  | [] => match cs[cs.length - 1]? with
    | some d => some (d, cs.dropLast)
    | none => none
  | _ => none
def mPopAt : Mop := fun cs ds => match ds with
  | [.int i] => if -(2 ^ 63) ≤ i ∧ i < 2 ^ 63 then match seqIndex? i cs.length with
    | some k => match cs[k]? with
      | some d => some (d, cs.eraseIdx k)
      | none => none
    | none => none
    else none
  | _ => none
theorem line1m {n : Nat} (h : n < 1000000) : n < sizeLine := Nat.lt_trans h (by decide)
theorem mt_dApp : MtR X "list.append" (rMt X.K mApp) := by
  intro pins s σ H x xs v us Q I rx rv h
  obtain ⟨G, l, vs, cs, ds, d, es, gh, rfl, h1, h2, h3, ho, k⟩ := h
  unfold mApp at ho
  split at ho
  · rename_i d'
    split at ho
    · rename_i hl
      cases ho
      cases h3 with
      | cons a t =>
        cases t
        exact mt_append pins s σ H _ _ v us Q I rx rv ⟨l, vs, _, rfl, rfl, h1, by rw [DqAll.len h2]; exact line1m hl, k _ _ .non (DqAll.app h2 (.cons a .nil))⟩
    · cases ho
  · cases ho
theorem DqAll.dropLast {K : PySem.W.Frag} {G : Hp} {vs : List V} {ds : List D} (h : DqAll K G vs ds) : DqAll K G vs.dropLast ds.dropLast := by
  rw [List.dropLast_eq_take, List.dropLast_eq_take, DqAll.len h]
  exact DqAll.take _ h
theorem DqAll.erase {K : PySem.W.Frag} {G : Hp} {vs : List V} {ds : List D} (h : DqAll K G vs ds) (k : Nat) : DqAll K G (vs.eraseIdx k) (ds.eraseIdx k) := by
  rw [List.eraseIdx_eq_take_drop_succ, List.eraseIdx_eq_take_drop_succ]
  exact DqAll.app (DqAll.take _ h) (DqAll.drop _ h)
theorem mt_dPop : MtR X "list.pop" (rMt X.K mPop) := by
  intro pins s σ H x xs v us Q I rx rv h
  obtain ⟨G, l, vs, cs, ds, d, es, gh, rfl, h1, h2, h3, ho, k⟩ := h
  unfold mPop at ho
  split at ho
  · split at ho
    · rename_i d' hd
      cases ho
      cases h3
      obtain ⟨y, e1, hy⟩ := DqAll.at h2 hd
      rw [← DqAll.len h2] at e1
      exact mt_pop pins s σ H _ _ v us Q I rx rv ⟨l, vs, y, rfl, rfl, h1, e1, k _ _ hy (DqAll.dropLast h2)⟩
    · cases ho
  · cases ho
theorem mt_dPopAt : MtR X "list.pop" (rMt X.K mPopAt) := by
  intro pins s σ H x xs v us Q I rx rv h
  obtain ⟨G, l, vs, cs, ds, d, es, gh, rfl, h1, h2, h3, ho, k⟩ := h
  unfold mPopAt at ho
  split at ho
  · rename_i i
    split at ho
    · rename_i hi
      split at ho
      · rename_i j hj
        split at ho
        · rename_i d' hd
          cases ho
          cases h3 with
          | cons a t =>
            cases t
            cases a
            obtain ⟨y, e1, hy⟩ := DqAll.at h2 hd
            exact mt_popAt pins s σ H _ _ v us Q I rx rv ⟨l, vs, i, j, y, rfl, rfl, h1, hi.1, hi.2, by rw [DqAll.len h2]; exact hj, e1, k _ _ hy (DqAll.erase h2 j)⟩
        · cases ho
      · cases ho
    · cases ho
  · cases ho
end

/-! ### built-ins -/
def bLen : List D → Option D
  | [.list xs] => some (.int xs.length)
  | [.tuple xs] => some (.int xs.length)
  | [.str z] => if z.length ≤ sizeLine then some (.int z.length) else none
  | _ => none
def bAbs : List D → Option D
  | [.int i] => some (.int (if i < 0 then -i else i))
  | _ => none
def bMax2 : List D → Option D
  | [.int i, .int j] => some (.int (if j > i then j else i))
  | _ => none
def bMin2 : List D → Option D
  | [.int i, .int j] => some (.int (if j < i then j else i))
  | _ => none
def bInt : List D → Option D
  | [.int i] => some (.int i)
  | _ => none
def bGcd : List D → Option D
  | [.int i, .int j] => some (.int ((Nat.gcd i.natAbs j.natAbs : Nat) : Int))
  | _ => none
def bDivmod : List D → Option D
  | [.int i, .int j] => if 0 < j ∧ j.natAbs.log2 < 9000 then some (.tuple [.int (i / j), .int (i % j)]) else none
  | _ => none
def bTuple : List D → Option D
  | [.list xs] => some (.tuple xs)
  | [.tuple xs] => some (.tuple xs)
  | _ => none
def bList : List D → Option (List D)
  | [.list xs] => some xs
  | [.tuple xs] => some xs
  | _ => none
def allB : List D → Option (List Bool)
  | [] => some []
  | .bool b :: r => match allB r with
    | some bs => some (b :: bs)
    | none => none
  | _ => none
def bAll : List D → Option D
  | [.list xs] => (allB xs).map fun bs => .bool (bs.all id)
  | _ => none
def bAny : List D → Option D
  | [.list xs] => (allB xs).map fun bs => .bool (bs.any id)
  | _ => none
theorem allB_eq : ∀ {ds : List D} {bs : List Bool}, allB ds = some bs → ds = bs.map PyData.bool
  | [], _, h => by cases h; rfl
  | .bool b :: r, bs, h => by
    unfold allB at h
    split at h
    · rename_i cs q
      cases h
      rw [allB_eq q]
      rfl
    · cases h
  | .none :: _, _, h => by cases h
  | .int _ :: _, _, h => by cases h
  | .str _ :: _, _, h => by cases h
  | .list _ :: _, _, h => by cases h
  | .tuple _ :: _, _, h => by cases h
  | .dict _ :: _, _, h => by cases h
section
variable {X : Cx}
theorem cr_dLen : CallR X (.builtin "len") (rP X.K bLen) := by
  intro pins s σ H xs us Q I r h
  obtain ⟨G, ds, d, gh, b, ho, k⟩ := h
  unfold bLen at ho
  split at ho
  · cases ho
    obtain ⟨v, rfl, b1⟩ := bpa1 b
    obtain ⟨a, vs, rfl, t, p⟩ := b1.lst gh
    exact call_len_seq pins s σ H _ us Q I r ⟨a, vs, rfl, .inl t, by rw [DqAll.len p]; exact k _ _ _ (Grow.refl gh) (.int _)⟩
  · cases ho
    obtain ⟨v, rfl, b1⟩ := bpa1 b
    obtain ⟨a, vs, rfl, t, p⟩ := b1.tup gh
    exact call_len_seq pins s σ H _ us Q I r ⟨a, vs, rfl, .inr t, by rw [DqAll.len p]; exact k _ _ _ (Grow.refl gh) (.int _)⟩
  · split at ho
    · rename_i hz
      cases ho
      obtain ⟨v, rfl, b1⟩ := bpa1 b
      obtain rfl := b1.str
      exact call_len pins s σ H _ us Q I r ⟨_, _, rfl, ⟨hz, rfl⟩, k _ _ _ (Grow.refl gh) (.int _)⟩
    · cases ho
  · cases ho
theorem cr_dAbs : CallR X (.builtin "abs") (rP X.K bAbs) := by
  intro pins s σ H xs us Q I r h
  obtain ⟨G, ds, d, gh, b, ho, k⟩ := h
  unfold bAbs at ho
  split at ho
  · cases ho
    obtain ⟨v, rfl, b1⟩ := bpa1 b
    obtain rfl := b1.int
    exact call_abs pins s σ H _ us Q I r ⟨_, rfl, k _ _ _ (Grow.refl gh) (.int _)⟩
  · cases ho
theorem cr_dMax2 (hc : X.calm = true) : CallR X (.builtin "max") (rP X.K bMax2) := by
  intro pins s σ H xs us Q I r h
  obtain ⟨G, ds, d, gh, b, ho, k⟩ := h
  unfold bMax2 at ho
  split at ho
  · cases ho
    obtain ⟨v, v', rfl, b, b'⟩ := bpa2 b
    obtain rfl := b.int
    obtain rfl := b'.int
    exact call_max2 hc pins s σ H _ us Q I r ⟨_, _, rfl, k _ _ _ (Grow.refl gh) (.int _)⟩
  · cases ho
theorem cr_dMin2 (hc : X.calm = true) : CallR X (.builtin "min") (rP X.K bMin2) := by
  intro pins s σ H xs us Q I r h
  obtain ⟨G, ds, d, gh, b, ho, k⟩ := h
  unfold bMin2 at ho
  split at ho
  · cases ho
    obtain ⟨v, v', rfl, b, b'⟩ := bpa2 b
    obtain rfl := b.int
    obtain rfl := b'.int
    exact call_min2 hc pins s σ H _ us Q I r ⟨_, _, rfl, k _ _ _ (Grow.refl gh) (.int _)⟩
  · cases ho
theorem cr_dInt : CallR X (.type "int") (rP X.K bInt) := by
  intro pins s σ H xs us Q I r h
  obtain ⟨G, ds, d, gh, b, ho, k⟩ := h
  unfold bInt at ho
  split at ho
  · cases ho
    obtain ⟨v, rfl, b1⟩ := bpa1 b
    obtain rfl := b1.int
    exact call_int1 pins s σ H _ us Q I r (.inl ⟨_, rfl, k _ _ _ (Grow.refl gh) (.int _)⟩)
  · cases ho
theorem cr_dGcd : CallR X (.builtin "math.gcd") (rP X.K bGcd) := by
  intro pins s σ H xs us Q I r h
  obtain ⟨G, ds, d, gh, b, ho, k⟩ := h
  unfold bGcd at ho
  split at ho
  · cases ho
    obtain ⟨v, v', rfl, b, b'⟩ := bpa2 b
    obtain rfl := b.int
    obtain rfl := b'.int
    exact cr_gcd pins s σ H _ us Q I r ⟨_, _, rfl, k _ _ _ (Grow.refl gh) (.int _)⟩
  · cases ho
theorem cr_dDivmod : CallR X (.builtin "divmod") (rP X.K bDivmod) := by
  intro pins s σ H xs us Q I r h
  obtain ⟨G, ds, d, gh, b, ho, k⟩ := h
  unfold bDivmod at ho
  split at ho
  · split at ho
    · rename_i hc
      cases ho
      obtain ⟨v, v', rfl, b, b'⟩ := bpa2 b
      obtain rfl := b.int
      obtain rfl := b'.int
      refine call_divmodF pins s σ H _ us Q I r ⟨_, _, rfl, ⟨hc.1, PyProof.noPylong_of_log2 hc.2⟩, fun p o hp hd => ?_⟩
      exact k _ _ _ (Grow.laid gh hp) (Dq.newT (same_back gh hp) hd (.cons (.int _) (.cons (.int _) .nil)))
    · cases ho
  · cases ho
theorem cr_dTuple : CallR X (.type "tuple") (rP X.K bTuple) := by
  intro pins s σ H xs us Q I r h
  obtain ⟨G, ds, d, gh, b, ho, k⟩ := h
  unfold bTuple at ho
  split at ho
  · cases ho
    obtain ⟨v, rfl, b1⟩ := bpa1 b
    obtain ⟨a, vs, rfl, t, p⟩ := b1.lst gh
    exact call_tuple_ofF pins s σ H _ us Q I r ⟨a, vs, rfl, .inl ⟨t, fun l o hl hd => k _ _ _ (Grow.laid gh hl) (Dq.newT (same_back gh hl) hd p)⟩⟩
  · cases ho
    obtain ⟨v, rfl, b1⟩ := bpa1 b
    rename_i xs
    have hq : Dq X.K G v (.tuple xs) := by
      cases b1 with
      | dp h => exact h
    obtain ⟨a, vs, rfl, t, p⟩ := b1.tupG
    exact call_tuple_ofF pins s σ H _ us Q I r ⟨a, vs, rfl, .inr ⟨same_t gh t, k _ _ _ (Grow.refl gh) hq⟩⟩
  · cases ho
theorem cr_dList : CallR X (.type "list") (rN X.K bList) := by
  intro pins s σ H xs us Q I r h
  obtain ⟨G, ds, es, gh, b, ho, k⟩ := h
  unfold bList at ho
  split at ho
  · cases ho
    obtain ⟨v, rfl, b1⟩ := bpa1 b
    obtain ⟨a, vs, rfl, t, p⟩ := b1.lst gh
    exact call_list_of pins s σ H _ us Q I r ⟨a, vs, rfl, .inl t, fun l hl => k l vs hl (DqAll.len p) p⟩
  · cases ho
    obtain ⟨v, rfl, b1⟩ := bpa1 b
    obtain ⟨a, vs, rfl, t, p⟩ := b1.tup gh
    exact call_list_of pins s σ H _ us Q I r ⟨a, vs, rfl, .inr t, fun l hl => k l vs hl (DqAll.len p) p⟩
  · cases ho
theorem cr_dAll (hc : X.calm = true) : CallR X (.builtin "all") (rP X.K bAll) := by
  intro pins s σ H xs us Q I r h
  obtain ⟨G, ds, d, gh, b, ho, k⟩ := h
  unfold bAll at ho
  split at ho
  · rename_i xs'
    cases q : allB xs' with
    | none =>
      rw [q] at ho
      cases ho
    | some bs =>
      rw [q] at ho
      cases ho
      obtain ⟨v, rfl, b1⟩ := bpa1 b
      obtain ⟨a, vs, rfl, t, p⟩ := b1.lst gh
      rw [allB_eq q] at p
      rw [dpa_bools p] at t
      exact cr_all hc pins s σ H _ us Q I r ⟨a, bs, rfl, t, k _ _ _ (Grow.refl gh) (.bl _)⟩
  · cases ho
theorem cr_dAny (hc : X.calm = true) : CallR X (.builtin "any") (rP X.K bAny) := by
  intro pins s σ H xs us Q I r h
  obtain ⟨G, ds, d, gh, b, ho, k⟩ := h
  unfold bAny at ho
  split at ho
  · rename_i xs'
    cases q : allB xs' with
    | none =>
      rw [q] at ho
      cases ho
    | some bs =>
      rw [q] at ho
      cases ho
      obtain ⟨v, rfl, b1⟩ := bpa1 b
      obtain ⟨a, vs, rfl, t, p⟩ := b1.lst gh
      rw [allB_eq q] at p
      rw [dpa_bools p] at t
      exact cr_any hc pins s σ H _ us Q I r ⟨a, bs, rfl, t, k _ _ _ (Grow.refl gh) (.bl _)⟩
  · cases ho
end
end DL
set_option Elab.async false
set_option linter.all false
set_option maxRecDepth 100000
set_option maxHeartbeats 4000000
/-! DlL: isinstance, repr, calls with keywords, three at once. -/
namespace DL
open PySem L2

/-! ### isinstance -/
def tyN : D → String
  | .none => "NoneType"
  | .bool _ => "bool"
  | .int _ => "int"
  | .str _ => "str"
  | .list _ => "list"
  | .tuple _ => "tuple"
  | .dict _ => "dict"
inductive Ty where
  | int | bool | str | list | tuple
def Ty.name : Ty → String
  | .int => "int"
  | .bool => "bool"
  | .str => "str"
  | .list => "list"
  | .tuple => "tuple"
def isT : Ty → D → Bool
  | .int, .int _ => true
  | .int, .bool _ => true
  | .bool, .bool _ => true
  | .str, .str _ => true
  | .list, .list _ => true
  | .tuple, .tuple _ => true
  | _, _ => false
theorem kit_tab : ([Ty.int, .bool, .str, .list, .tuple].all fun T => decide (kitB "NoneType" T.name = some (isT T .none)) && (decide (kitB "bool" T.name = some (isT T (.bool true))) && (decide (kitB "int" T.name = some (isT T (.int 0))) &&
    (decide (kitB "str" T.name = some (isT T (.str ""))) && (decide (kitB "list" T.name = some (isT T (.list []))) && (decide (kitB "tuple" T.name = some (isT T (.tuple []))) && decide (kitB "dict" T.name = some (isT T (.dict []))))))))) = true := by decide +kernel
theorem kit_isT {K : PySem.W.Frag} (T : Ty) (d : D) : PySem.W.kitOne K (.type (tyN d)) (.type T.name) = some (isT T d) := by
  have z := List.all_eq_true.mp kit_tab T (by cases T <;> simp)
  simp only [Bool.and_eq_true, decide_eq_true_eq] at z
  obtain ⟨z1, z2, z3, z4, z5, z6, z7⟩ := z
  apply kit_ty
  cases d with
  | none => exact z1
  | bool _ => exact z2.trans (by cases T <;> rfl)
  | int _ => exact z3.trans (by cases T <;> rfl)
  | str _ => exact z4.trans (by cases T <;> rfl)
  | list _ => exact z5.trans (by cases T <;> rfl)
  | tuple _ => exact z6.trans (by cases T <;> rfl)
  | dict _ => exact z7.trans (by cases T <;> rfl)
theorem tyx_l {K : PySem.W.Frag} {H : Hp} {a : Addr} {xs : List V} (h : SqL K H a xs) : TyX K H (.ref a) (.type "list") := by
  rcases h with (h | ⟨o, h⟩) | ⟨o, its, n, h1, h2, _⟩
  · exact .base (.lst h)
  · exact .base (.frz h)
  · exact .kList h1 h2
theorem tyx_t {K : PySem.W.Frag} {H : Hp} {a : Addr} {xs : List V} (h : SqT K H a xs) : TyX K H (.ref a) (.type "tuple") := by
  rcases h with (h | ⟨o, h⟩) | ⟨o, its, n, h1, h2, _⟩
  · exact .base (.tup h)
  · exact .fTuple h
  · exact .kTuple h1 h2
/-- not a dict by tuples -/
def noDt : D → Bool
  | .dict ((.none, .none) :: _) => false
  | _ => true
theorem tyx_d {K : PySem.W.Frag} {H : Hp} : ∀ {v : V} {d : D}, Dq K H v d → noDt d = true → TyX K H v (.type (tyN d))
  | _, _, .non, _ => .base .non
  | _, _, .bl b, _ => .base (.bl b)
  | _, _, .int b, _ => .base (.int b)
  | _, _, .str b, _ => .base (.str b)
  | _, _, .lst h _, _ => tyx_l h
  | _, _, .tup h _ _, _ => tyx_t h
  | _, _, .dk (.inl h) _ _ _, _ => .base (.dK h)
  | _, _, .dk (.inr ⟨o, h⟩) _ _ _, _ => .fDict h
  | _, _, .dt _ _ _ _ _ _, z => by cases z
def useI (f : D → Bool) (a : Arg) (e : Fr) : R Arg := match rd1 e a with
  | some d => if noDt d = true then .ok (.val (.bool (f d))) e else .no
  | none => .no
def eIsi (T : Ty) (fa : Ef) : Ef := fun e => (fa e).bind (useI (isT T))
def eIsi2 (T U : Ty) (fa : Ef) : Ef := fun e => (fa e).bind (useI fun d => isT T d || isT U d)
section
variable {X : Cx} {Φ : Fx} {W : WX} {x : Expr} {pos p p2 p3 tp : Pos} {n m : Str} {fa : Ef} {kt : Nat}
theorem d_isi (T : Ty) (hm : X.mg "isinstance" = none) (hm2 : X.mg n = none) (hx : DE X Φ W x fa) (hv2 : bootBuiltins n = some (.type T.name) := by decide +kernel) (hg : Gl X "isinstance" := by rfl) (hg2 : Gl X n := by rfl) (hn2 : n ≠ "__name__" := by decide) (hd2 : (n == ("__debug__" : Str)) = false := by decide)
    (he : starEach [x, .Name n p2] X.env = (false, eval x X.env) :: starEach [.Name n p2] X.env := by rfl) (he2 : starEach [.Name n p2] X.env = (false, eval (.Name n p2) X.env) :: starEach [] X.env := by rfl) (hpl : (backTo pos (starEach [.Name n p2] X.env)).any (·.1) = false := by rfl) :
    DE X Φ W (.Call (.Name "isinstance" p) [x, .Name n p2] [] pos) (eIsi T fa) :=
  pe_weak (pe_callB call_isi hg hm (by decide +kernel) (pa_cons hx (pa_cons (pe_bltn (v := .ty T.name) hg2 hm2 hv2 rfl hn2 hd2) pa_nil he2) he) (by decide) (by decide) he hpl) fun σ H Q ⟨G, F, e, O, h⟩ => ⟨G, F, e, O, Wp.imp (Wp.seq h) fun v H1 ⟨G1, F1, e1, a, g1, O1, r1, h1⟩ => by
    unfold useI at h1
    split at h1
    · rename_i d q
      split at h1
      · rename_i nd
        have ty := tyx_d ((bp_of O1 r1 q).dpH O1.gh) nd
        exact ⟨v, .ty T.name, _, _, _, rfl, .ty _, ty, kit_isT T d, h1 _ H1 G1 F1 (Same.refl _) O1 (.bl _)⟩
      · exact h1.elim
    · exact h1.elim⟩
theorem d_isi2 (T U : Ty) (hm : X.mg "isinstance" = none) (hm2 : X.mg n = none) (hm3 : X.mg m = none) (hx : DE X Φ W x fa) (hv2 : bootBuiltins n = some (.type T.name) := by decide +kernel) (hv3 : bootBuiltins m = some (.type U.name) := by decide +kernel) (hg : Gl X "isinstance" := by rfl) (hg2 : Gl X n := by rfl) (hg3 : Gl X m := by rfl)
    (hn2 : n ≠ "__name__" := by decide) (hd2 : (n == ("__debug__" : Str)) = false := by decide) (hn3 : m ≠ "__name__" := by decide) (hd3 : (m == ("__debug__" : Str)) = false := by decide)
    (he : starEach [x, .Tuple [.Name n p2, .Name m p3] kt tp] X.env = (false, eval x X.env) :: starEach [.Tuple [.Name n p2, .Name m p3] kt tp] X.env := by rfl) (he1 : starEach [.Tuple [.Name n p2, .Name m p3] kt tp] X.env = (false, eval (.Tuple [.Name n p2, .Name m p3] kt tp) X.env) :: starEach [] X.env := by rfl)
    (he2 : starEach [.Name n p2, .Name m p3] X.env = (false, eval (.Name n p2) X.env) :: starEach [.Name m p3] X.env := by rfl) (he3 : starEach [.Name m p3] X.env = (false, eval (.Name m p3) X.env) :: starEach [] X.env := by rfl)
    (hpl : (backTo pos (starEach [.Tuple [.Name n p2, .Name m p3] kt tp] X.env)).any (·.1) = false := by rfl) :
    DE X Φ W (.Call (.Name "isinstance" p) [x, .Tuple [.Name n p2, .Name m p3] kt tp] [] pos) (eIsi2 T U fa) :=
  pe_weak (pe_callB call_isiT hg hm (by decide +kernel) (pa_cons hx (pa_cons (pe_tup (pa_cons (pe_bltn (v := .ty T.name) hg2 hm2 hv2 rfl hn2 hd2) (pa_cons (pe_bltn (v := .ty U.name) hg3 hm3 hv3 rfl hn3 hd3) pa_nil he3) he2)) pa_nil he1) he) (by decide) (by decide) he hpl)
    fun σ H Q ⟨G, F, e, O, h⟩ => ⟨G, F, e, O, Wp.imp (Wp.seq h) fun v H1 ⟨G1, F1, e1, a, g1, O1, r1, h1⟩ => by
    unfold useI at h1
    split at h1
    · rename_i d q
      split at h1
      · rename_i nd
        refine ⟨by show 2 ≤ sizeLine; decide, fun tp ht => ?_⟩
        have gr := Grow.own (o := .tup [.ty T.name, .ty U.name]) O1.gh ht
        have O2 := O1.grow gr
        have d2 := dp_mono gr.hh ((bp_of O1 r1 q).dpH O1.gh)
        have ty := tyx_d d2 nd
        refine ⟨v, tp, [.ty T.name, .ty U.name], _, [.type T.name, .type U.name], isT T d || isT U d, rfl, upd_same, .cons (.ty _) (.cons (.ty _) .nil), ty, ?_, h1 _ _ G1 F1 (Same.refl _) O2 (.bl _)⟩
        have k1 := kit_isT (K := X.K) T d
        have k2 := kit_isT (K := X.K) U d
        refine kitAny_cons k1 (fun z => ?_) (fun z => by rw [z]; rfl)
        rw [z, Bool.false_or]
        exact kitAny_cons k2 (fun z2 => by rw [z2]; exact kitAny_nil) (fun z2 => by rw [z2])
      · exact h1.elim
    · exact h1.elim⟩
end

/-! ### repr -/
mutual
def wD : D → Nat
  | .none => 5
  | .bool _ => 5
  | .int _ => 1921
  | .str x => (reprText x).length
  | .list xs => wAll xs + 3
  | .tuple xs => wAll xs + 3
  | .dict _ => 0
def wAll : List D → Nat
  | [] => 0
  | x :: xs => wD x + 2 + wAll xs
end
mutual
theorem shown_w : ∀ d : D, d.showable = true → d.hasDict = false → d.shown.length ≤ wD d
  | .none, _, _ => by simp only [PyData.shown, wD]; decide +kernel
  | .bool b, _, _ => by cases b <;> simp only [PyData.shown, wD] <;> decide +kernel
  | .int i, h, _ => by
    simp only [PyData.shown, wD]
    exact PyProof.Rows.int_text_len_1921 (of_decide_eq_true (by simpa only [PyData.showable] using h))
  | .str x, _, _ => by simp only [PyData.shown, wD]; exact Nat.le_refl _
  | .list xs, h, n => by
    simp only [PyData.shown, wD]
    have := shown_ws xs (by simpa only [PyData.showable] using h) (by simpa only [PyData.hasDict] using n)
    have := listText_len_le (PyData.shownAll xs)
    omega
  | .tuple xs, h, n => by
    simp only [PyData.shown, wD]
    have := shown_ws xs (by simpa only [PyData.showable] using h) (by simpa only [PyData.hasDict] using n)
    have := tupleText_len_le (PyData.shownAll xs)
    omega
  | .dict _, _, n => by simp only [PyData.hasDict] at n; cases n
theorem shown_ws : ∀ ds : List D, PyData.showableAll ds = true → PyData.hasDictAll ds = false → ((PyData.shownAll ds).map (·.length)).sum + 2 * (PyData.shownAll ds).length ≤ wAll ds
  | [], _, _ => by simp [PyData.shownAll, wAll]
  | d :: ds, h, n => by
    simp only [PyData.showableAll, Bool.and_eq_true] at h
    simp only [PyData.hasDictAll, Bool.or_eq_false_iff] at n
    have h1 := shown_w d h.1 n.1
    have h2 := shown_ws ds h.2 n.2
    simp only [PyData.shownAll, List.map_cons, List.sum_cons, List.length_cons, wAll]
    omega
end
def reprOk (d : D) : Bool := d.showable && (!d.hasDict && (decide (wD d ≤ sizeLine) && decide (d.depth ≤ 30)))
def bRepr : List D → Option D
  | [d] => if reprOk d = true then some (.str d.shown) else none
  | _ => none
theorem cr_dRepr {X : Cx} (hu : X.A.units + 64 < cLine) (gu : X.A.guards = some []) : CallR X (.builtin "repr") (rP X.K bRepr) := by
  intro pins s σ H xs us Q I r h
  obtain ⟨G, ds, d, gh, b, ho, k⟩ := h
  unfold bRepr at ho
  split at ho
  · rename_i d0
    split at ho
    · rename_i hok
      cases ho
      obtain ⟨v, rfl, b1⟩ := bpa1 b
      unfold reprOk at hok
      simp only [Bool.and_eq_true, Bool.not_eq_true', decide_eq_true_eq] at hok
      obtain ⟨h1, h2, h3, h4⟩ := hok
      have hsz : d0.shown.length ≤ sizeLine := Nat.le_trans (shown_w d0 h1 h2) h3
      have dp := (b1.dpH gh).dp h2
      cases r with
      | cons rv rn =>
        cases rn
        obtain ⟨as, rds⟩ := Dp.reads I d0 v _ dp rv
        have fin : ∀ (h' : Heap) (u tk : Tok), (∀ b o, s.heap.get? b = some o → h'.get? b = some o) → EP X pins σ Q (.str d0.shown u) { s with heap := h', toks := tk } := fun h' u tk hk => ⟨.str d0.shown, H, I.kept hk, ⟨_, rfl⟩, k _ _ _ (Grow.refl gh) (.str _)⟩
        cases dp with
        | non =>
          cases rv
          exact P.repr_of_none (fin s.heap s.toks (s.toks + 1) fun _ _ z => z)
        | bl b =>
          cases rv
          exact P.repr_of_bool (by cases b <;> exact fin s.heap s.toks (s.toks + 1) fun _ _ z => z)
        | int i =>
          obtain ⟨t, rfl⟩ := rv
          exact P.repr_of_int (of_decide_eq_true (by simpa only [PyData.showable] using h1)) (fin s.heap s.toks (s.toks + 1) fun _ _ z => z)
        | str x =>
          obtain ⟨t, rfl⟩ := rv
          exact P.repr_of_str (fin s.heap s.toks (s.toks + 1) fun _ _ z => z) hsz
        | lst hs ha =>
          cases rv
          exact repr_of_reads' rds h1 (PyData.noDict_hsm h2) gu (by omega) (fun _ _ z => z) (fun h' u tk hk => fin h' u tk hk) hsz
        | tup hs ha =>
          cases rv
          exact repr_of_reads' rds h1 (PyData.noDict_hsm h2) gu (by omega) (fun _ _ z => z) (fun h' u tk hk => fin h' u tk hk) hsz
    · cases ho
  · cases ho
end DL
set_option Elab.async false
set_option linter.all false
set_option maxRecDepth 100000
set_option maxHeartbeats 4000000
/-! DlM: calls with keywords and defaults, three stored at once. -/
namespace DL
open PySem L2

def pickA (ix : List Nat) (l : List Arg) : List Arg := ix.map fun i => l.getD i (.val .none)
def pickV (ix : List Nat) (l : List V) : List V := ix.map fun i => l.getD i .non
def pickU (ix : List Nat) (l : List Value) : List Value := ix.map fun i => l.getD i .none
theorem vals_pick {vs : List V} {us : List Value} (h : Vals vs us) : ∀ ix : List Nat, Vals (pickV ix vs) (pickU ix us)
  | [] => .nil
  | i :: ix => by
    refine .cons ?_ (vals_pick h ix)
    show RelV (vs.getD i .non) (us.getD i .none)
    rw [List.getD_eq_getElem?_getD, List.getD_eq_getElem?_getD]
    cases q : vs[i]? with
    | none =>
      rw [h.none_of q]
      rfl
    | some v =>
      obtain ⟨u, e, r⟩ := h.get q
      rw [e]
      exact r
section
variable {K : PySem.W.Frag} {H G : Hp} {F : Nat → List Addr} {σ : L2.St} {e : Fr}
theorem rs_none : ∀ {as : List Arg} {vs : List V} {i : Nat}, rs K as vs H G F σ e → as[i]? = none → vs[i]? = none := fun {as vs i} r h => by
  have := r.length
  rw [List.getElem?_eq_none_iff] at h ⊢
  omega
theorem rs_pick {as : List Arg} {vs : List V} (h : rs K as vs H G F σ e) : ∀ ix : List Nat, rs K (pickA ix as) (pickV ix vs) H G F σ e
  | [] => .nil
  | i :: ix => by
    refine .cons ?_ (rs_pick h ix)
    show ra K (as.getD i (.val .none)) (vs.getD i .non) H G F σ e
    rw [List.getD_eq_getElem?_getD, List.getD_eq_getElem?_getD]
    cases q : as[i]? with
    | none =>
      rw [rs_none h q]
      exact Dq.non
    | some a =>
      obtain ⟨v, e, r⟩ := rs_at h q
      rw [e]
      exact r
theorem rs_app : ∀ {as bs : List Arg} {vs ws : List V}, rs K as vs H G F σ e → rs K bs ws H G F σ e → rs K (as ++ bs) (vs ++ ws) H G F σ e
  | [], _, _, _, r, q => by
    cases r
    exact q
  | _ :: _, _, _, _, r, q => by
    cases r with
    | cons h t => exact .cons h (rs_app t q)
theorem rs_data : ∀ {ds : List D} {vs : List V}, DqAll K G vs ds → rs K (ds.map Arg.val) vs H G F σ e
  | [], _, h => by
    cases h
    exact .nil
  | _ :: _, _, h => by
    cases h with
    | cons a t => exact .cons a (rs_data t)
end
abbrev DK (X : Cx) (Φ : Fx) (W : WX) (kws : List Keyword) (f : Af) : Prop := PK X kws (tG X.K X.mg Φ W (rs X.K) f)
def eFnK (Fs : Fn) (ms : List Bool) (ix : List Nat) (dd : List D) (n m : Nat) (fa fk : Af) : Rf := fun e => (fa e).bind fun as e1 => (fk e1).bind fun bs e2 =>
  if as.length = n ∧ bs.length = m ∧ ms.length = ix.length then callR Fs (ms.zip (pickA ix (as ++ bs ++ dd.map Arg.val))) e2 else .no
section
variable {X : Cx} {Φ : Fx} {W : WX} {x : Expr} {xs : List Expr} {pos p kpos : Pos} {n : Str} {fa fk : Af} {fe : Ef} {k : Nat} {f : Addr} {fd : FuncData} {ps ks : List Str} {Fs : Fn} {kws : List Keyword} {nm : Option Str} {ms : List Bool} {dvs : List V} {ds : List Value} {dd : List D} {i j : Nat}
theorem pk_weak {t t' : TA} (h : PK X kws t) (w : ∀ σ H Q, t' σ H Q → t σ H Q) : PK X kws t' := ⟨fun pos pins s σ H Q I q => h.run pos pins s σ H Q I (w σ H Q q)⟩
theorem k_nil : DK X Φ W [] aNil := pk_weak pk_nil fun σ H Q ⟨G, F, e, O, h⟩ => h [] H G F (Same.refl _) O .nil
theorem k_cons (ha : DE X Φ W x fe) (hr : DK X Φ W kws fk) : DK X Φ W (⟨nm, x, kpos⟩ :: kws) (aCons fe fk) :=
  pk_weak (pk_cons ha hr) fun σ H Q ⟨G, F, e, O, h⟩ => ⟨G, F, e, O, Wp.imp (Wp.seq h) fun v H1 ⟨G1, F1, e1, a, g1, O1, r1, h1⟩ => ⟨G1, F1, e1, O1, Wp.imp (Wp.seq h1) fun vs H2 ⟨G2, F2, e2, as, g2, O2, r2, h2⟩ =>
    h2 (v :: vs) H2 G2 F2 (Same.refl _) O2 (.cons (ra_up r1 g2) r2)⟩⟩
/-- how such a call binds: n positional values, keywords ks, the defaults' values behind; ix says where each parameter's value stands -/
structure KwB (K : PySem.W.Frag) (fd : FuncData) (ps ks : List Str) (n : Nat) (ix : List Nat) (ds : List Value) : Prop where
  to : ∀ (s : Shared) (us ws : List Value), K.In s.heap → us.length = n → ws.length = ks.length → BindsTo s fd ⟨us, ks.zip ws⟩ (ps.zip (pickU ix (us ++ ws ++ ds)))
theorem kcall {pins : List (Addr × Obj)} {σ : L2.St} {H : Hp} {s : Shared} {Q : VK} {ix : List Nat} {us ws : List Value} {vs zs : List V} (Fo : FnG X.prog X.w X.K X.mg X.base k f fd ps (spF X.K X.mg ms.length Fs)) (hr : Room k X.A) (gu : X.A.guards = some []) (tk : Takes X W)
    (hb : KwB X.K fd ps ks i ix ds) (hd : Vals dvs ds) (I : Inv X pins σ H s) (r : Vals vs us) (rz : Vals zs ws) (l1 : vs.length = i) (l2 : zs.length = ks.length) (h : spF X.K X.mg ms.length Fs (pickV ix (vs ++ zs ++ dvs)) H Q (WE W σ)) :
    wpAny (model X.prog X.w) X.A (call (.ref f) us (ks.zip ws)) (EP X pins σ Q) X.xe s := by
  have both : Vals (vs ++ zs ++ dvs) (us ++ ws ++ ds) := (r.append rz).append hd
  exact wpAny_call (codeAny_mono (run_g Fo hr gu tk I (hb.to s us ws I.kIn (r.length.symm.trans l1) (rz.length.symm.trans l2)) (vals_pick both ix) h) fun r s' z => match r, z with
    | .ok (.ret _), z => z
    | .error _, z => z)
def tCallX (i m : Nat) (ix : List Nat) (sp : Sp) (dvs : List V) (W : WX) (t tk : TA) : TE := fun σ H Q => t σ H fun vs H1 => tk σ H1 fun zs H2 => vs.length = i ∧ zs.length = m ∧ sp (pickV ix (vs ++ zs ++ dvs)) H2 Q (WE W σ)
theorem pe_callX {t tkw : TA} {ix : List Nat} (Fo : FnG X.prog X.w X.K X.mg X.base k f fd ps (spF X.K X.mg ms.length Fs)) (hr : Room k X.A) (gu : X.A.guards = some []) (hg : Gl X n) (hm : X.mg n = some (.ref f)) (hk : PySem.W.keepIn X.K (.ref f) = true) (hb : KwB X.K fd ps ks i ix ds) (hd : Vals dvs ds) (tk : Takes X W)
    (ha : PA X (x :: xs) t) (hkw : PK X kws tkw) (hall : (backToKw pos (keywordEach kws X.env)).all (·.1.isSome) = true := by rfl) (hks : (backToKw pos (keywordEach kws X.env)).filterMap (·.1) = ks := by rfl) (hdb : (n == ("__debug__" : Str)) = false := by decide)
    (he : starEach (x :: xs) X.env = (false, eval x X.env) :: starEach xs X.env := by rfl) (hpl : ((backTo pos (starEach (x :: xs) X.env)).any (·.1) || (backToKw pos (keywordEach kws X.env)).any (·.1.isNone)) = false := by rfl) :
    PE X (.Call (.Name n p) (x :: xs) kws pos) (tCallX i ks.length ix (spF X.K X.mg ms.length Fs) dvs W t tkw) := by
  constructor
  intro pins s σ H Q I reading
  apply wpAny_Call_Name_kw
  apply ld_glob I hg hm _ hdb
  apply PySem.W.callWith_KW (h₀ := X.base) I.ok.mod.kin hk hall _ hpl he
  apply thn (ha.run pos pins s σ H _ I reading)
  rintro us s1 ⟨vs, H1, I1, r, q⟩
  apply thn (hkw.run pos pins s1 σ H1 _ I1 q)
  rintro ws s2 ⟨zs, H2, I2, rz, l1, l2, q2⟩
  refine ⟨I2.kIn, ?_⟩
  rw [hks]
  exact kcall Fo hr gu tk hb hd I2 r rz l1 l2 q2
theorem pe_callX0 {tkw : TA} {ix : List Nat} (Fo : FnG X.prog X.w X.K X.mg X.base k f fd ps (spF X.K X.mg ms.length Fs)) (hr : Room k X.A) (gu : X.A.guards = some []) (hg : Gl X n) (hm : X.mg n = some (.ref f)) (hk : PySem.W.keepIn X.K (.ref f) = true) (hb : KwB X.K fd ps ks 0 ix ds) (hd : Vals dvs ds) (tk : Takes X W)
    (hkw : PK X kws tkw) (hall : (backToKw pos (keywordEach kws X.env)).all (·.1.isSome) = true := by rfl) (hks : (backToKw pos (keywordEach kws X.env)).filterMap (·.1) = ks := by rfl) (hdb : (n == ("__debug__" : Str)) = false := by decide)
    (hpl : ((backTo pos (starEach [] X.env)).any (·.1) || (backToKw pos (keywordEach kws X.env)).any (·.1.isNone)) = false := by rfl) :
    PE X (.Call (.Name n p) [] kws pos) (tCallX 0 ks.length ix (spF X.K X.mg ms.length Fs) dvs W tNil tkw) := by
  constructor
  intro pins s σ H Q I reading
  apply wpAny_Call_Name_kw
  apply ld_glob I hg hm _ hdb
  apply PySem.W.callWith_KW0 (h₀ := X.base) I.ok.mod.kin hk hall _ hpl
  apply thn (hkw.run pos pins s σ H _ I reading)
  rintro ws s2 ⟨zs, H2, I2, rz, l1, l2, q2⟩
  refine ⟨I2.kIn, ?_⟩
  rw [hks]
  exact kcall (us := []) (vs := []) Fo hr gu tk hb hd I2 .nil rz l1 l2 q2
theorem eFnK_weak {ix : List Nat} {σ : L2.St} {H : Hp} {Q : VK} (hdd : ∀ G, DqAll X.K G dvs dd) (t : tG X.K X.mg Φ W (rr X.K Φ) (eFnK Fs ms ix dd i j fa fk) σ H Q) :
    tCallX i j ix (spF X.K X.mg ms.length Fs) dvs W (tG X.K X.mg Φ W (rs X.K) fa) (tG X.K X.mg Φ W (rs X.K) fk) σ H Q := by
  obtain ⟨G, F, e, O, h⟩ := t
  refine ⟨G, F, e, O, Wp.imp (Wp.seq h) fun vs H1 ⟨G1, F1, e1, as, g1, O1, r1, h1⟩ => ⟨G1, F1, e1, O1, Wp.imp (Wp.seq h1) fun zs H2 ⟨G2, F2, e2, bs, g2, O2, r2, h2⟩ => ?_⟩⟩
  split at h2
  · rename_i hl
    have q1 := r1.length
    have q2 := r2.length
    refine ⟨by omega, by omega, ?_⟩
    have all := rs_pick (rs_app (rs_app (rs_up g2 r1) r2) (rs_data (H := H2) (F := F2) (σ := σ) (e := e2) (hdd G2))) ix
    exact callR_ok O2 all (by rw [hl.2.2]; exact (List.length_map _).symm) h2
  · exact h2.elim
theorem d_callK (ms : List Bool) (ix : List Nat) (dd : List D) (Fo : FnG X.prog X.w X.K X.mg X.base k f fd ps (spF X.K X.mg ms.length Fs)) (hr : Room k X.A) (gu : X.A.guards = some []) (hm : X.mg n = some (.ref f)) (hk : PySem.W.keepIn X.K (.ref f) = true) (hb : KwB X.K fd ps ks i ix ds) (hd : Vals dvs ds) (hdd : ∀ G, DqAll X.K G dvs dd) (tk : Takes X W)
    (ha : DA X Φ W (x :: xs) fa) (hkw : DK X Φ W kws fk) (hg : Gl X n := by rfl) (hall : (backToKw pos (keywordEach kws X.env)).all (·.1.isSome) = true := by rfl) (hks : (backToKw pos (keywordEach kws X.env)).filterMap (·.1) = ks := by rfl) (hdb : (n == ("__debug__" : Str)) = false := by decide)
    (he : starEach (x :: xs) X.env = (false, eval x X.env) :: starEach xs X.env := by rfl) (hpl : ((backTo pos (starEach (x :: xs) X.env)).any (·.1) || (backToKw pos (keywordEach kws X.env)).any (·.1.isNone)) = false := by rfl) :
    DR X Φ W (.Call (.Name n p) (x :: xs) kws pos) (eFnK Fs ms ix dd i ks.length fa fk) := pe_weak (pe_callX Fo hr gu hg hm hk hb hd tk ha hkw hall hks hdb he hpl) fun _ _ _ t => eFnK_weak hdd t
theorem d_callK0 (ms : List Bool) (ix : List Nat) (dd : List D) (Fo : FnG X.prog X.w X.K X.mg X.base k f fd ps (spF X.K X.mg ms.length Fs)) (hr : Room k X.A) (gu : X.A.guards = some []) (hm : X.mg n = some (.ref f)) (hk : PySem.W.keepIn X.K (.ref f) = true) (hb : KwB X.K fd ps ks 0 ix ds) (hd : Vals dvs ds) (hdd : ∀ G, DqAll X.K G dvs dd) (tk : Takes X W)
    (hkw : DK X Φ W kws fk) (hg : Gl X n := by rfl) (hall : (backToKw pos (keywordEach kws X.env)).all (·.1.isSome) = true := by rfl) (hks : (backToKw pos (keywordEach kws X.env)).filterMap (·.1) = ks := by rfl) (hdb : (n == ("__debug__" : Str)) = false := by decide)
    (hpl : ((backTo pos (starEach [] X.env)).any (·.1) || (backToKw pos (keywordEach kws X.env)).any (·.1.isNone)) = false := by rfl) :
    DR X Φ W (.Call (.Name n p) [] kws pos) (eFnK Fs ms ix dd 0 ks.length aNil fk) := pe_weak (pe_callX0 Fo hr gu hg hm hk hb hd tk hkw hall hks hdb hpl) fun σ H Q t => by
  obtain ⟨G, F, e, O, h⟩ := (eFnK_weak (fa := aNil) hdd t)
  exact h [] H G F (Same.refl _) O .nil
end
section
variable {K : PySem.W.Frag} {x qual : Str} {params : Arguments} {body : List Stmt} {scope : Scope} {f : Addr} {fd : FuncData} {ps ks : List Str} {n : Nat} {ix : List Nat}
/-- a def without defaults -/
theorem kw_binds (Fd : FunD K x qual params body scope [] [] f fd) (h : ∀ (kV doc pm : Value) (an : Option Addr) (cdv ct : Value) (us ws : List Value), us.length = n → ws.length = ks.length →
    bindArgs (PySem.W.fnOf x qual params body scope .none kV doc pm an cdv ct) ⟨us, ks.zip ws⟩ = pure (ps.zip (pickU ix (us ++ ws ++ [])))) : KwB K fd ps ks n ix [] := by
  obtain ⟨oc, od, dV, kV, doc, pm, an, cdv, ct, osl, rfl, lk, hcd, hD, hK⟩ := Fd.ex
  rcases hD with ⟨_, rfl⟩ | ⟨z, _⟩
  · exact ⟨fun s us ws _ l1 l2 => .of_eq (h kV doc pm an cdv ct us ws l1 l2)⟩
  · exact absurd rfl z
end

/-! ### a, b, c = x, y, z with plain names -/
section
variable {X : Cx} {Φ : Fx} {W : WX} {x y z : Expr} {fa fb fc : Rf} {pos px py pz pt p2 : Pos} {kt k2 : Nat} {n m l : Str}
theorem s_par3 (i j k : Nat) (hc : X.calm = true) (hN : X.N.Nodup) (ha : DR X Φ W x fa) (hb : ∀ Φ, DR X Φ W y fb) (hc3 : ∀ Φ, DR X Φ W z fc) (hw : swappedStores [.Tuple [.Name n px, .Name m py, .Name l pz] kt pt] (.Tuple [x, y, z] k2 p2) X.env = pure (some [n, m, l]))
    (hi : X.N[i]? = some n := by rfl) (hj : X.N[j]? = some m := by rfl) (hk : X.N[k]? = some l := by rfl) (hij : i ≠ j := by decide) (hik : i ≠ k := by decide) (hjk : j ≠ k := by decide) (hx : X.env.scope.names.lookup n = some .local := by rfl) (hy : X.env.scope.names.lookup m = some .local := by rfl) (hz : X.env.scope.names.lookup l = some .local := by rfl)
    (hs : swapsWithSole [.Tuple [.Name n px, .Name m py, .Name l pz] kt pt] (.Tuple [x, y, z] k2 p2) pos.line X.env = pure false := by rfl) (h1 : starEach [x, y, z] X.env = (false, eval x X.env) :: starEach [y, z] X.env := by rfl) (h2 : starEach [y, z] X.env = (false, eval y X.env) :: starEach [z] X.env := by rfl) (h3 : starEach [z] X.env = (false, eval z X.env) :: starEach [] X.env := by rfl) :
    DS X Φ W (.Assign [.Tuple [.Name n px, .Name m py, .Name l pz] kt pt] (.Tuple [x, y, z] k2 p2) pos) (sPar3 i j k fa fb fc) :=
  ps_weak (ps_par3 hc hN hi hj hk hij hik hjk hx hy hz (pa_cons ha (pa_cons (pe_ex hb) (pa_cons (pe_ex hc3) pa_nil h3) h2) h1) hw hs) fun Dn σ H ⟨G, F, e, O, h⟩ => ⟨G, F, e, O, Wp.imp (WS.seq (σ := σ) h) fun v H1 ⟨G1, F1, e1, r1, g1, O1, q1, h1⟩ => by
    obtain ⟨A1, L1, P1⟩ := Held.mk' O1 q1
    refine ⟨_, G1, F1, e1, P1, Wp.imp (WS.seqP (fun o => L1.cv o) h1) fun w H2 ⟨G2, F2, e2, r2, g2, O2, q2, h2⟩ => ?_⟩
    obtain ⟨A2, L2', P2⟩ := Held.mk' O2 q2
    refine ⟨_, G2, F2, e2, P2, Wp.imp (WS.seqP (fun o => L1.cv (L2'.cv o)) h2) fun u H3 ⟨G3, F3, e3, r3, g3, O3, q3, h3⟩ => ?_⟩
    obtain ⟨A3, L3, P3⟩ := Held.mk' O3 q3
    have a1 : ∀ a, r1 = .arg a → ra X.K a v H3 G3 F3 σ e3 := fun a z => ra_up (L1.ar a z) (g2.trans g3)
    obtain ⟨G4, e4, s1, t4, O4, z4, h4⟩ := WS.fzX P3 a1 h3
    have a2 : ∀ a, r2 = .arg a → ra X.K a w H3 G4 F3 σ e4 := fun a z => ra_up (L2'.ar a z) (g3.trans t4)
    obtain ⟨G5, e5, s2, t5, O5, z5, h5⟩ := WS.fzX O4 a2 h4
    have a3 : ∀ a, r3 = .arg a → ra X.K a u H3 G5 F3 σ e5 := fun a z => ra_up (L3.ar a z) (t4.trans t5)
    obtain ⟨G6, e6, s3, t6, O6, z6, h6⟩ := WS.fzX O5 a3 h5
    have O6b := L3.cv O6
    have O6a := L2'.cv O6b
    obtain ⟨B1, b1, y1⟩ := L1.rx O6a (g2.trans (g3.trans (t4.trans (t5.trans t6)))) (t5.trans t6) z4
    obtain ⟨B2, b2, y2⟩ := L2'.rx O6b (g3.trans (t4.trans (t5.trans t6))) t6 z5
    obtain ⟨B3, b3, y3⟩ := L3.rx O6 (t4.trans (t5.trans t6)) (Same.refl _) z6
    have down : ∀ {Ψ : Fx} {Hh : Hp} {A B : List Addr} {r : RV} {v : V}, (∀ b ∈ A, Hh b ≠ none) → rx X.K (Ψ.plus Hh A) B r v H3 G6 F3 e6 → rx X.K Ψ B r v H3 G6 F3 e6 := fun {Ψ Hh A B r v} th y => by
      cases r with
      | arg a => cases a <;> exact y
      | new o =>
        obtain ⟨a, ea, oa, na, ap⟩ := y
        refine ⟨a, ea, oa, fun b hb => ⟨(na b hb).1, ?_⟩, ap⟩
        have z : (if b ∈ A then Hh b else Ψ.H_0 b) = none := (na b hb).2
        by_cases hA : b ∈ A
        · rw [if_pos hA] at z
          exact absurd z (th b hA)
        · rw [if_neg hA] at z
          exact z
    have y2' := down L1.th y2
    have y3' := down L1.th (down L2'.th y3)
    have dj12 : ∀ b ∈ B2, b ∉ B1 := fun b hb hb1 => by
      have z : (if b ∈ A1 then H1 b else Φ.H_0 b) = none := L2'.n0 b (b2 b hb)
      rw [if_pos (b1 b hb1)] at z
      exact L1.th b (b1 b hb1) z
    have n3 : ∀ b ∈ B3, (if b ∈ A2 then H2 b else (if b ∈ A1 then H1 b else Φ.H_0 b)) = none := fun b hb => L3.n0 b (b3 b hb)
    have dj23 : ∀ b ∈ B3, b ∉ B2 := fun b hb hb2 => by
      have z := n3 b hb
      rw [if_pos (b2 b hb2)] at z
      exact L2'.th b (b2 b hb2) z
    have dj13 : ∀ b ∈ B3, b ∉ B1 := fun b hb hb1 => by
      have z := n3 b hb
      by_cases hA : b ∈ A2
      · rw [if_pos hA] at z
        exact L2'.th b hA z
      · rw [if_neg hA, if_pos (b1 b hb1)] at z
        exact L1.th b (b1 b hb1) z
    obtain ⟨F7, e7, O7, h7, k7⟩ := putR_ok (L1.cv O6a) y1 h6
    obtain ⟨F8, e8, O8, h8, k8⟩ := putR_ok O7 (k7 B2 s2 w dj12 y2') h7
    obtain ⟨F9, e9, O9, h9, _⟩ := putR_ok O8 (k8 B3 s3 u dj23 (k7 B3 s3 u dj13 y3')) h8
    exact ⟨v, w, u, rfl, h9 .non _ H3 G6 F9 (Same.refl _) O9⟩⟩
end
end DL
set_option Elab.async false
set_option linter.all false
set_option maxRecDepth 100000
set_option maxHeartbeats 4000000
/-! DlN: the law's own promise out of its frame function. -/
namespace DL
open PySem L2

/-- the script as data -/
def scr (ns : List Int) : D := .list (ns.map PyData.int)
theorem spF_law {K : PySem.W.Frag} {mg : Str → Option Value} {F : Fn} {H : Hp} {a : Addr} {ns : List Int} {os : Fr} {E : XK} (h : F [.sh (scr ns)] = .ok (.sh (.bool true)) os) (hs : SqL K H a (ns.map V.int)) :
    spF K mg 1 F [.ref a] H (fun v _ => v = .bl true) E := by
  refine ⟨rfl, H, [.sh (scr ns)], fun _ => [], fun _ => 0, ⟨fun _ _ q => q, rfl, fun i s q => ?_, fun i j s t hij q1 q2 o1 o2 => ?_, ?_, ?_, ?_⟩, rfl, ?_⟩
  · match i, q with
    | 0, q =>
      cases (show s = .sh (scr ns) from by simpa using q.symm)
      exact ⟨.ref a, rfl, .lst hs (dp_ints ns)⟩
    | i + 1, q => cases q
  · match i, q1 with
    | 0, q1 =>
      cases (show s = .sh (scr ns) from by simpa using q1.symm)
      cases o1
    | i + 1, q1 => cases q1
  · intros
    first | rfl | assumption | trivial
  · intros
    first | assumption | (rename_i z; exact absurd z (by simp)) | trivial
  · intros
    first | trivial | assumption | (rename_i z; cases z)
  · rw [h]
    intro v H' G' F' _ _ r
    cases (show Dq K G' v (.bool true) from r)
    rfl
/-- the law's end behind k_head, k_fill: K is what the head leaves, Fc what is read off it -/
theorem walk_k {l : PySem.W.OpenLaw} {n k : Nat} {q : Program} {loose : List Str} {XP : (Str → Option Value) → Heap → Prop} {YP : World → Heap → Prop} {d : DefRec} {x : Str} {K : Params → PySem.W.Frag} (Fc : PySem.W.Frag → Prop) (Fl : Fn)
    (hn : l.most = some n) (hn2 : n ≤ sizeLine) (hdf : d.params.defaults = []) (room : Room k callerA) (hY : ∀ (w : World) (h : Heap), YP w h → (K w.params).In h) (hC : ∀ w : World, Fc (K w.params))
    (F : ∀ (w : World) (K : PySem.W.Frag) (mg : Str → Option Value) (fa : Addr) (h : Heap), K.In h → Fc K → h.Ns mainGlobals mg → mg d.name = some (.ref fa) →
      ∃ fd : FuncData, (∀ (s : Shared) (u : Value), BindsTo s fd ⟨[u], []⟩ [(x, u)]) ∧ ∀ base : Heap, K.In base → base.Ns mainGlobals mg → FnG l.prog w K mg base k fa fd [x] (spF K mg 1 Fl))
    (say : ∀ ns : List Int, ns.length ≤ n → (∀ z ∈ ns, Builtin.Int.intBits z ≤ 1048576) → ∃ os, Fl [.sh (scr ns)] = .ok (.sh (.bool true)) os) :
    PySem.W.WalkO q loose XP YP l.row.toRowW d [] (fun f vs => PySem.call f vs) := by
  refine walk_g (x := x) hn hn2 hdf room fun w mg fa h Y G hmg => ?_
  have KX := hY w h Y
  obtain ⟨fd, hb, hF⟩ := F w _ mg fa h KX (hC w) G hmg
  refine ⟨K w.params, fd, spF (K w.params) mg 1 Fl, KX, hb, fun H a ns hl hbits hS => ?_, hF⟩
  obtain ⟨os, hos⟩ := say ns hl hbits
  exact spF_law hos hS
end DL
set_option Elab.async false
set_option linter.all false
set_option maxRecDepth 100000
set_option maxHeartbeats 4000000
/-! DlO: a call with one new object that the callee writes, f(made()). -/
namespace DL
open PySem L2
section
variable {K : PySem.W.Frag} {mg : Str → Option Value} {Φ : Fx} {W : WX} {H G : Hp} {F : Nat → List Addr} {σ : L2.St} {e : Fr}
theorem Ok.push {w : Ow} {a : Addr} {A : List Addr} (O : Ok K Φ H G F σ e) (h : OwAt K G H w a A) (n : ∀ b ∈ A, G b = none ∧ Φ.H_0 b = none)
    (ap : ∀ j t, e[j]? = some t → t.owned = true → ∀ b ∈ A, b ∉ F j) : Ok K Φ H G (fun j => if j = e.length then A else F j) (σ ++ [some (.ref a)]) (e ++ [.own w]) := by
  have at_ : ∀ {j : Nat} {s : Sl}, (e ++ [Sl.own w])[j]? = some s → (e[j]? = some s ∧ j < e.length) ∨ (j = e.length ∧ s = .own w) := fun {j s} q => by
    by_cases hj : j < e.length
    · rw [List.getElem?_append_left hj] at q
      exact .inl ⟨q, hj⟩
    · rw [List.getElem?_append_right (by omega)] at q
      match z : j - e.length, q with
      | 0, q =>
        exact .inr ⟨by omega, by simpa using q.symm⟩
      | k + 1, q =>
        simp at q
  refine ⟨O.gh, by simp [O.len], fun j s q => ?_, fun j k s t hjk q1 q2 o1 o2 => ?_, O.f0, O.f1, O.f2⟩
  · rcases at_ q with ⟨q1, hj⟩ | ⟨rfl, rfl⟩
    · rw [if_neg (by omega), List.getElem?_append_left (by rw [← O.len]; exact hj)]
      exact O.slots j s q1
    · rw [if_pos rfl]
      refine ⟨a, ?_, h, n⟩
      rw [List.getElem?_append_right (by rw [O.len]; omega), O.len]
      simp
  · rcases at_ q1 with ⟨p1, hj⟩ | ⟨rfl, rfl⟩
    · rw [if_neg (by omega)]
      rcases at_ q2 with ⟨p2, hk⟩ | ⟨rfl, rfl⟩
      · rw [if_neg (by omega)]
        exact O.sep j k s t hjk p1 p2 o1 o2
      · rw [if_pos rfl]
        exact fun b hb hb2 => ap j s p1 o1 b hb2 hb
    · rw [if_pos rfl]
      rcases at_ q2 with ⟨p2, hk⟩ | ⟨rfl, rfl⟩
      · rw [if_neg (by omega)]
        exact ap k t p2 o2
      · exact absurd rfl hjk
theorem Ok.pop {o : Option V} (O : Ok K Φ H G F (σ ++ [o]) e) : Ok K Φ H G F σ (e.take σ.length) := by
  have l : e.length = σ.length + 1 := by rw [O.len, List.length_append]; rfl
  have at_ : ∀ {j : Nat} {s : Sl}, (e.take σ.length)[j]? = some s → e[j]? = some s ∧ j < σ.length := fun {j s} q => by
    rw [List.getElem?_take] at q
    split at q
    · exact ⟨q, by assumption⟩
    · cases q
  refine ⟨O.gh, by rw [List.length_take]; omega, fun j s q => ?_, fun j k s t hjk q1 q2 o1 o2 => O.sep j k s t hjk (at_ q1).1 (at_ q2).1 o1 o2, O.f0, O.f1, O.f2⟩
  obtain ⟨q1, hj⟩ := at_ q
  have z := O.slots j s q1
  rw [List.getElem?_append_left hj] at z
  exact z
def popR (n : Nat) : R RV → R RV
  | .ok (.arg (.val d)) e => .ok (.arg (.val d)) (e.take n)
  | .ok (.arg (.slot _)) _ => .no
  | .ok (.new w) e => .ok (.new w) (e.take n)
  | .ex x e => .ex x (e.take n)
  | .no => .no
/-- f(made()), the made object written by f -/
def eFn1 (Fs : Fn) (fr : Rf) : Rf := fun e => (fr e).bind fun r e1 => match r with
  | .new w => popR e1.length (callR Fs [(true, .slot e1.length)] (e1 ++ [.own w]))
  | .arg _ => .no
theorem call1_ok {Fs : Fn} {Q : VK} {w : Ow} {v : V} (O : Ok K Φ H G F σ e) (r : rr K Φ (.new w) v H G F σ e) (h : Wp K mg Φ W σ (rr K Φ) G (popR e.length (callR Fs [(true, .slot e.length)] (e ++ [.own w]))) Q) : spF K mg 1 Fs [v] H Q (WE W σ) := by
  obtain ⟨a, A, rfl, o, n, ap⟩ := r
  have O1 := O.push o n ap
  have rs1 : rs K [.slot e.length] [.ref a] H G (fun j => if j = e.length then A else F j) (σ ++ [some (.ref a)]) (e ++ [.own w]) :=
    .cons (show (σ ++ [some (V.ref a)])[e.length]? = some (some (.ref a)) from by rw [List.getElem?_append_right (by rw [O.len]; omega), O.len]; simp) .nil
  have z := callR_ok (W := fun c d _ H => W c d σ H) (mg := mg) (Fs := Fs) (ms := [true]) (Q := Q) O1 rs1 rfl (by
    show Wp K mg Φ (fun c d _ H => W c d σ H) (σ ++ [some (.ref a)]) (rr K Φ) G (callR Fs [(true, .slot e.length)] (e ++ [.own w])) Q
    cases q : callR Fs [(true, .slot e.length)] (e ++ [.own w]) with
    | no =>
      rw [q] at h
      exact h.elim
    | ex x e2 =>
      rw [q] at h
      intro c d H' G' F' s O2 p
      have O3 := O2.pop
      rw [O.len] at h
      exact h c d H' G' F' s O3 p
    | ok r e2 =>
      rw [q] at h
      intro v' H' G' F' s O2 p
      have O3 := O2.pop
      rw [O.len] at h
      cases r with
      | arg b =>
        cases b with
        | slot i => exact h.elim
        | val d => exact h v' H' G' F' s O3 p
      | new u =>
        obtain ⟨a1, A1, e1, o1, n1, ap1⟩ := p
        refine h v' H' G' F' s O3 ⟨a1, A1, e1, o1, n1, fun j t q2 => ap1 j t ?_⟩
        rw [List.getElem?_take] at q2
        split at q2
        · exact q2
        · cases q2)
  exact z
end
section
variable {X : Cx} {Φ : Fx} {W : WX} {x : Expr} {pos p : Pos} {n : Str} {fr : Rf} {k : Nat} {f : Addr} {fd : FuncData} {ps : List Str} {Fs : Fn}
theorem d_call1 (Fo : FnG X.prog X.w X.K X.mg X.base k f fd ps (spF X.K X.mg 1 Fs)) (hr : Room k X.A) (gu : X.A.guards = some []) (hm : X.mg n = some (.ref f)) (hk : PySem.W.keepIn X.K (.ref f) = true) (hb : Binds X.K fd ps []) (tk : Takes X W)
    (ha : DR X Φ W x fr) (hg : Gl X n := by rfl) (hdb : (n == ("__debug__" : Str)) = false := by decide) (he : starEach [x] X.env = (false, eval x X.env) :: starEach [] X.env := by rfl) (hpl : (backTo pos (starEach [] X.env)).any (·.1) = false := by rfl) :
    DR X Φ W (.Call (.Name n p) [x] [] pos) (eFn1 Fs fr) :=
  pe_weak (pe_callG Fo hr gu hg hm hk hb .nil tk (pa_cons ha pa_nil he) hdb he hpl) fun σ H Q ⟨G, F, e, O, h⟩ => ⟨G, F, e, O, Wp.imp (Wp.seq h) fun v H1 ⟨G1, F1, e1, r, g1, O1, r1, h1⟩ => by
    cases r with
    | arg _ => exact h1.elim
    | new w => exact call1_ok O1 r1 h1⟩
end
end DL
set_option Elab.async false
set_option linter.all false
set_option maxRecDepth 100000
set_option maxHeartbeats 4000000
/-! DlP: a, b = x, y by a tuple between (where a name is a cell), new objects kept own. -/
namespace DL
open PySem L2
theorem rr_grow {K : PySem.W.Frag} {Φ : Fx} {r : RV} {v : V} {H G H' : Hp} {F : Nat → List Addr} {σ : L2.St} {e : Fr} (h : rr K Φ r v H G F σ e) (hh : Same H H') : rr K Φ r v H' G F σ e := by
  cases r with
  | arg a => cases a <;> exact h
  | new w =>
    obtain ⟨a, A, e1, o, n, ap⟩ := h
    exact ⟨a, A, e1, o.mono (Same.refl _) (fun b _ u q => hh b u q), n, ap⟩
section
variable {X : Cx} {Φ : Fx} {W : WX} {x y z : Expr} {fa fb fc : Rf} {pos px py pz pt p2 : Pos} {kt k2 : Nat} {n m l : Str}
theorem s_parT (i j : Nat) (hc : X.calm = true) (hN : X.N.Nodup) (ha : DR X Φ W x fa) (hb : ∀ Φ, DR X Φ W y fb) (hw : swappedStores [.Tuple [.Name n px, .Name m py] kt pt] (.Tuple [x, y] k2 p2) X.env = pure none := by rfl)
    (hi : X.N[i]? = some n := by rfl) (hj : X.N[j]? = some m := by rfl) (hx : Loc X.env.scope n := by first | exact Or.inl rfl | exact Or.inr rfl) (hy : Loc X.env.scope m := by first | exact Or.inl rfl | exact Or.inr rfl)
    (hfx : X.fn n = true ∨ X.env.scope.names.lookup n = some .local := by first | exact .inl rfl | exact .inr rfl) (hfy : X.fn m = true ∨ X.env.scope.names.lookup m = some .local := by first | exact .inl rfl | exact .inr rfl)
    (hs : swapsWithSole [.Tuple [.Name n px, .Name m py] kt pt] (.Tuple [x, y] k2 p2) pos.line X.env = pure false := by rfl) (h1 : starEach [x, y] X.env = (false, eval x X.env) :: starEach [y] X.env := by rfl) (h2 : starEach [y] X.env = (false, eval y X.env) :: starEach [] X.env := by rfl) :
    DS X Φ W (.Assign [.Tuple [.Name n px, .Name m py] kt pt] (.Tuple [x, y] k2 p2) pos) (sPar i j fa fb) :=
  ps_weak (ps_asg (pe_tup (pa_cons ha (pa_cons (pe_ex hb) pa_nil h2) h1)) (pg_tup hc (pgs_cons (pg_name hN hi hx hfx) (pgs_cons (pg_name hN hj hy hfy) pgs_nil))) hs hw) fun Dn σ H ⟨G, F, e, O, h⟩ => ⟨G, F, e, O, Wp.imp (WS.seq (σ := σ) h) fun v H1 ⟨G1, F1, e1, r1, g1, O1, q1, h1⟩ => by
    obtain ⟨A1, L1, P1⟩ := Held.mk' O1 q1
    refine ⟨_, G1, F1, e1, P1, Wp.imp (WS.seqP (fun o => L1.cv o) h1) fun w H0 ⟨G2, F2, e2, r2, g2, O0, q0, h2⟩ => ⟨line1000 (by simp), fun p hp => ?_⟩⟩
    have gr := Grow.own (o := .tup [v, w]) O0.gh hp
    obtain ⟨H2, eH⟩ : ∃ H2, H2 = upd H0 p (.tup [v, w]) := ⟨_, rfl⟩
    have O2 := O0.grow gr
    have q2 := rr_grow q0 gr.hh
    rw [← eH] at O2 q2
    have tp : SqT X.K H2 p [v, w] := .of (by rw [eH]; exact upd_same)
    rw [← eH]
    obtain ⟨A2, L2, P2⟩ := Held.mk' O2 q2
    have a1 : ∀ a, r1 = .arg a → ra X.K a v H2 G2 F2 σ e2 := fun a z => ra_up (L1.ar a z) g2
    obtain ⟨G3, e3, r3, s3, O3, z3, h3⟩ := WS.fzX P2 a1 h2
    have a2 : ∀ a, r2 = .arg a → ra X.K a w H2 G3 F2 σ e3 := fun a z => ra_up (L2.ar a z) s3
    obtain ⟨G4, e4, r4, s4, O4, z4, h4⟩ := WS.fzX O3 a2 h3
    obtain ⟨B1, b1, y1⟩ := L1.rx (L2.cv O4) (g2.trans (s3.trans s4)) s4 z3
    obtain ⟨B2, b2, y2⟩ := L2.rx O4 (s3.trans s4) (Same.refl _) z4
    have y2' : rx X.K Φ B2 r4 w H2 G4 F2 e4 := by
      cases r4 with
      | arg a => cases a <;> exact y2
      | new u =>
        obtain ⟨a, ea, oa, na, ap⟩ := y2
        refine ⟨a, ea, oa, fun b hb => ⟨(na b hb).1, ?_⟩, ap⟩
        have z : (if b ∈ A1 then H1 b else Φ.H_0 b) = none := (na b hb).2
        by_cases hA : b ∈ A1
        · rw [if_pos hA] at z
          exact absurd z (L1.th b hA)
        · rw [if_neg hA] at z
          exact z
    have dj : ∀ b ∈ B2, b ∉ B1 := fun b hb hb1 => by
      have z : (if b ∈ A1 then H1 b else Φ.H_0 b) = none := L2.n0 b (b2 b hb)
      rw [if_pos (b1 b hb1)] at z
      exact L1.th b (b1 b hb1) z
    obtain ⟨F5, e5, O5, h5, k5⟩ := putR_ok (L1.cv (L2.cv O4)) y1 h4
    obtain ⟨F6, e6, O6, h6, _⟩ := putR_ok O5 (k5 B2 r4 w dj y2') h5
    exact ⟨p, [v, w], rfl, tp, rfl, v, [w], rfl, w, [], rfl, rfl, h6 .non _ H2 G4 F6 (Same.refl _) O6⟩⟩
theorem s_parT3 (i j k : Nat) (hc : X.calm = true) (hN : X.N.Nodup) (ha : DR X Φ W x fa) (hb : ∀ Φ, DR X Φ W y fb) (hc3 : ∀ Φ, DR X Φ W z fc) (hw : swappedStores [.Tuple [.Name n px, .Name m py, .Name l pz] kt pt] (.Tuple [x, y, z] k2 p2) X.env = pure none := by rfl)
    (hi : X.N[i]? = some n := by rfl) (hj : X.N[j]? = some m := by rfl) (hk : X.N[k]? = some l := by rfl) (hx : Loc X.env.scope n := by first | exact Or.inl rfl | exact Or.inr rfl) (hy : Loc X.env.scope m := by first | exact Or.inl rfl | exact Or.inr rfl) (hz : Loc X.env.scope l := by first | exact Or.inl rfl | exact Or.inr rfl)
    (hfx : X.fn n = true ∨ X.env.scope.names.lookup n = some .local := by first | exact .inl rfl | exact .inr rfl) (hfy : X.fn m = true ∨ X.env.scope.names.lookup m = some .local := by first | exact .inl rfl | exact .inr rfl) (hfz : X.fn l = true ∨ X.env.scope.names.lookup l = some .local := by first | exact .inl rfl | exact .inr rfl)
    (hs : swapsWithSole [.Tuple [.Name n px, .Name m py, .Name l pz] kt pt] (.Tuple [x, y, z] k2 p2) pos.line X.env = pure false := by rfl) (h1 : starEach [x, y, z] X.env = (false, eval x X.env) :: starEach [y, z] X.env := by rfl) (h2 : starEach [y, z] X.env = (false, eval y X.env) :: starEach [z] X.env := by rfl) (h3 : starEach [z] X.env = (false, eval z X.env) :: starEach [] X.env := by rfl) :
    DS X Φ W (.Assign [.Tuple [.Name n px, .Name m py, .Name l pz] kt pt] (.Tuple [x, y, z] k2 p2) pos) (sPar3 i j k fa fb fc) :=
  ps_weak (ps_asg (pe_tup (pa_cons ha (pa_cons (pe_ex hb) (pa_cons (pe_ex hc3) pa_nil h3) h2) h1)) (pg_tup hc (pgs_cons (pg_name hN hi hx hfx) (pgs_cons (pg_name hN hj hy hfy) (pgs_cons (pg_name hN hk hz hfz) pgs_nil)))) hs hw) fun Dn σ H ⟨G, F, e, O, h⟩ => ⟨G, F, e, O, Wp.imp (WS.seq (σ := σ) h) fun v H1 ⟨G1, F1, e1, r1, g1, O1, q1, h1⟩ => by
    obtain ⟨A1, L1, P1⟩ := Held.mk' O1 q1
    refine ⟨_, G1, F1, e1, P1, Wp.imp (WS.seqP (fun o => L1.cv o) h1) fun w H2 ⟨G2, F2, e2, r2, g2, O2, q2, h2⟩ => ?_⟩
    obtain ⟨A2, L2', P2⟩ := Held.mk' O2 q2
    refine ⟨_, G2, F2, e2, P2, Wp.imp (WS.seqP (fun o => L1.cv (L2'.cv o)) h2) fun u H0 ⟨G3, F3, e3, r3, g3, O0, q0, h3⟩ => ⟨line1000 (by simp), fun p hp => ?_⟩⟩
    have gr := Grow.own (o := .tup [v, w, u]) O0.gh hp
    obtain ⟨H3, eH⟩ : ∃ H3, H3 = upd H0 p (.tup [v, w, u]) := ⟨_, rfl⟩
    have O3 := O0.grow gr
    have q3 := rr_grow q0 gr.hh
    rw [← eH] at O3 q3
    have tp : SqT X.K H3 p [v, w, u] := .of (by rw [eH]; exact upd_same)
    rw [← eH]
    obtain ⟨A3, L3, P3⟩ := Held.mk' O3 q3
    have a1 : ∀ a, r1 = .arg a → ra X.K a v H3 G3 F3 σ e3 := fun a z => ra_up (L1.ar a z) (g2.trans g3)
    obtain ⟨G4, e4, s1, t4, O4, z4, h4⟩ := WS.fzX P3 a1 h3
    have a2 : ∀ a, r2 = .arg a → ra X.K a w H3 G4 F3 σ e4 := fun a z => ra_up (L2'.ar a z) (g3.trans t4)
    obtain ⟨G5, e5, s2, t5, O5, z5, h5⟩ := WS.fzX O4 a2 h4
    have a3 : ∀ a, r3 = .arg a → ra X.K a u H3 G5 F3 σ e5 := fun a z => ra_up (L3.ar a z) (t4.trans t5)
    obtain ⟨G6, e6, s3, t6, O6, z6, h6⟩ := WS.fzX O5 a3 h5
    have O6b := L3.cv O6
    have O6a := L2'.cv O6b
    obtain ⟨B1, b1, y1⟩ := L1.rx O6a (g2.trans (g3.trans (t4.trans (t5.trans t6)))) (t5.trans t6) z4
    obtain ⟨B2, b2, y2⟩ := L2'.rx O6b (g3.trans (t4.trans (t5.trans t6))) t6 z5
    obtain ⟨B3, b3, y3⟩ := L3.rx O6 (t4.trans (t5.trans t6)) (Same.refl _) z6
    have down : ∀ {Ψ : Fx} {Hh : Hp} {A B : List Addr} {r : RV} {v : V}, (∀ b ∈ A, Hh b ≠ none) → rx X.K (Ψ.plus Hh A) B r v H3 G6 F3 e6 → rx X.K Ψ B r v H3 G6 F3 e6 := fun {Ψ Hh A B r v} th y => by
      cases r with
      | arg a => cases a <;> exact y
      | new o =>
        obtain ⟨a, ea, oa, na, ap⟩ := y
        refine ⟨a, ea, oa, fun b hb => ⟨(na b hb).1, ?_⟩, ap⟩
        have z : (if b ∈ A then Hh b else Ψ.H_0 b) = none := (na b hb).2
        by_cases hA : b ∈ A
        · rw [if_pos hA] at z
          exact absurd z (th b hA)
        · rw [if_neg hA] at z
          exact z
    have y2' := down L1.th y2
    have y3' := down L1.th (down L2'.th y3)
    have dj12 : ∀ b ∈ B2, b ∉ B1 := fun b hb hb1 => by
      have z : (if b ∈ A1 then H1 b else Φ.H_0 b) = none := L2'.n0 b (b2 b hb)
      rw [if_pos (b1 b hb1)] at z
      exact L1.th b (b1 b hb1) z
    have n3 : ∀ b ∈ B3, (if b ∈ A2 then H2 b else (if b ∈ A1 then H1 b else Φ.H_0 b)) = none := fun b hb => L3.n0 b (b3 b hb)
    have dj23 : ∀ b ∈ B3, b ∉ B2 := fun b hb hb2 => by
      have z := n3 b hb
      rw [if_pos (b2 b hb2)] at z
      exact L2'.th b (b2 b hb2) z
    have dj13 : ∀ b ∈ B3, b ∉ B1 := fun b hb hb1 => by
      have z := n3 b hb
      by_cases hA : b ∈ A2
      · rw [if_pos hA] at z
        exact L2'.th b hA z
      · rw [if_neg hA, if_pos (b1 b hb1)] at z
        exact L1.th b (b1 b hb1) z
    obtain ⟨F7, e7, O7, h7, k7⟩ := putR_ok (L1.cv O6a) y1 h6
    obtain ⟨F8, e8, O8, h8, k8⟩ := putR_ok O7 (k7 B2 s2 w dj12 y2') h7
    obtain ⟨F9, e9, O9, h9, _⟩ := putR_ok O8 (k8 B3 s3 u dj23 (k7 B3 s3 u dj13 y3')) h8
    exact ⟨p, [v, w, u], rfl, tp, rfl, v, [w, u], rfl, w, [u], rfl, u, [], rfl, rfl, h9 .non _ H3 G6 F9 (Same.refl _) O9⟩⟩
end
end DL
set_option Elab.async false
set_option linter.all false
set_option maxRecDepth 100000
set_option maxHeartbeats 4000000
/-! DlR: targets over lists and tuples, in, chains of comparisons, lists put together. -/
namespace DL
open PySem L2

/-! ### a, b = a list or a tuple -/
theorem pg_or {X : Cx} {tg : Expr} {t u : TG} (h1 : PG X tg t) (h2 : PG X tg u) : PG X tg (fun v σ H Q => t v σ H Q ∨ u v σ H Q) := ⟨fun pins s σ H v w Q I r q => q.elim (h1.run pins s σ H v w Q I r) (h2.run pins s σ H v w Q I r)⟩
def gSeqF (r : Gfs) : Gf := fun d e => match d with
  | .tuple ds => r ds e
  | .list ds => r ds e
  | _ => .no
section
variable {X : Cx} {Φ : Fx} {W : WX} {tgs : List Expr} {pos : Pos} {js : List Nat} {r : Gfs}
theorem g_seq {k : Nat} {n : Nat} (hc : X.calm = true) (h : DGs X Φ js tgs r) (hl : ∀ ds e u e', r ds e = .ok u e' → ds.length = n) (hn : (assignEach tgs X.env).length = n := by rfl) (hst : (assignEach tgs X.env).findIdx? (·.1) = none := by rfl) : DG X Φ js (.Tuple tgs k pos) (gSeqF r) :=
  pg_weak (pg_or (pg_tup hc h hn hst) (pg_lst hc h hn hst)) fun v σ H Q ⟨G, F, e, d, O, hd, h⟩ => by
    have len : ∀ {ds : List D} (_ : match r ds e with
        | .ok _ e' => ∀ σ' H' G' F', Same G G' → Ok X.K Φ H' G' F' σ' e' → (σ'.length = σ.length ∧ ∀ j, j ∉ js → σ'[j]? = σ[j]?) → Q σ' H'
        | _ => False), ds.length = n := fun {ds} h' => by
      cases q : r ds e with
      | no =>
        rw [q] at h'
        exact h'.elim
      | ex x e1 =>
        rw [q] at h'
        exact h'.elim
      | ok u e1 => exact hl ds e u e1 q
    cases hd with
    | @tup a xs ds t1 _ t2 => exact .inl ⟨a, xs, rfl, same_t O.gh t1, (DqAll.len t2).trans (len h), G, F, e, ds, O, t2, h⟩
    | @lst a xs ds t1 t2 => exact .inr ⟨a, xs, rfl, same_l O.gh t1, (DqAll.len t2).trans (len h), G, F, e, ds, O, t2, h⟩
    | _ => exact h.elim
end

/-! ### x in a list or a tuple -/
def flat1 : D → Bool
  | .none => true
  | .bool _ => true
  | .int _ => true
  | .str _ => true
  | _ => false
def hasD (x : D) (ds : List D) : Option Bool := if SeqAt.shaped x = true ∧ SeqAt.shaped (.list ds) = true then some (ds.any fun z => PyData.eqv z x) else none
def dIn : D → D → Option D
  | x, .list ds => (hasD x ds).map PyData.bool
  | x, .tuple ds => if flat1 x = true ∧ ds.all flat1 = true then some (.bool (ds.any fun z => PyData.eqv z x)) else none
  | _, _ => none
def dNotIn : D → D → Option D
  | x, .list ds => (hasD x ds).map fun b => .bool (!b)
  | x, .tuple ds => if flat1 x = true ∧ ds.all flat1 = true then some (.bool (!ds.any fun z => PyData.eqv z x)) else none
  | _, _ => none
section
variable {K : PySem.W.Frag} {H : Hp}
theorem flat1_v {v : V} {d : D} (h : Dq K H v d) (f : flat1 d = true) : flatV v = true := by
  cases h <;> first | rfl | cases f
theorem flat1_all : ∀ {vs : List V} {ds : List D}, DqAll K H vs ds → ds.all flat1 = true → vs.all flatV = true
  | _, _, .nil, _ => rfl
  | _, _, .cons a t, h => by
    simp only [List.all_cons, Bool.and_eq_true] at h ⊢
    exact ⟨flat1_v a h.1, flat1_all t h.2⟩
theorem eqv_v {v w : V} {d c : D} (h : Dq K H v d) (g : Dq K H w c) (f : flat1 d = true) (f2 : flat1 c = true) : eqV v w = PyData.eqv d c := by
  cases h <;> first | cases f | skip
  all_goals cases g <;> first | cases f2 | skip
  all_goals simp only [eqV, PyData.eqv]
theorem in_v {v : V} {d : D} (h : Dq K H v d) (f : flat1 d = true) : ∀ {vs : List V} {ds : List D}, DqAll K H vs ds → ds.all flat1 = true → inV v vs = ds.any fun z => PyData.eqv z d
  | _, _, .nil, _ => rfl
  | _, _, .cons a t, g => by
    simp only [List.all_cons, Bool.and_eq_true] at g
    have e := in_v h f t g.2
    unfold inV at e ⊢
    rw [List.any_cons, List.any_cons, e, eqv_v a h g.1 f]
end
section
variable {X : Cx}
theorem op_dIn (hu : X.A.units + 65 < cLine) : OpR X (compareOp .In) (r2 X.K dIn) := by
  intro pins s σ H x y v u Q I rx ry h
  obtain ⟨G, d1, d2, d, gh, b1, b2, ho, k⟩ := h
  unfold dIn at ho
  split at ho
  · rename_i ds
    unfold hasD at ho
    split at ho
    · rename_i hc
      cases ho
      exact op_inD hu pins s σ H _ _ v u Q I rx ry ⟨_, _, b1.dpS gh hc.1, b2.dpS gh hc.2, hc.1, hc.2, k _ _ _ (Grow.refl gh) (.bl _)⟩
    · cases ho
  · rename_i ds
    split at ho
    · rename_i hc
      cases ho
      obtain ⟨a, vs, rfl, ht, hd⟩ := b2.tup gh
      have h1 := b1.dpH gh
      have hd' := dpa_mono gh hd
      refine op_in_seq pins s σ H _ _ v u Q I rx ry ⟨a, vs, rfl, .inr ht, flat1_v h1 hc.1, flat1_all hd' hc.2, ?_⟩
      rw [if_neg (by decide), in_v h1 hc.1 hd' hc.2]
      exact k _ _ _ (Grow.refl gh) (.bl _)
    · cases ho
  · cases ho
theorem op_dNotIn (hu : X.A.units + 65 < cLine) : OpR X (compareOp .NotIn) (r2 X.K dNotIn) := by
  intro pins s σ H x y v u Q I rx ry h
  obtain ⟨G, d1, d2, d, gh, b1, b2, ho, k⟩ := h
  unfold dNotIn at ho
  split at ho
  · rename_i ds
    unfold hasD at ho
    split at ho
    · rename_i hc
      cases ho
      exact op_notInD hu pins s σ H _ _ v u Q I rx ry ⟨_, _, b1.dpS gh hc.1, b2.dpS gh hc.2, hc.1, hc.2, k _ _ _ (Grow.refl gh) (.bl _)⟩
    · cases ho
  · rename_i ds
    split at ho
    · rename_i hc
      cases ho
      obtain ⟨a, vs, rfl, ht, hd⟩ := b2.tup gh
      have h1 := b1.dpH gh
      have hd' := dpa_mono gh hd
      refine op_notIn_seq pins s σ H _ _ v u Q I rx ry ⟨a, vs, rfl, .inr ht, flat1_v h1 hc.1, flat1_all hd' hc.2, ?_⟩
      rw [if_pos rfl, in_v h1 hc.1 hd' hc.2]
      exact k _ _ _ (Grow.refl gh) (.bl _)
    · cases ho
  · cases ho
end

/-! ### a < b < c -/
def eChain (f g : D → D → Option D) (fa fb fc : Ef) : Ef := fun e => (fa e).bind fun a e1 => (fb e1).bind fun b e2 => (use2 f a b e2).bind fun k e3 => match rd1 e3 k with
  | some (.bool true) => (fc e3).bind fun c e4 => use2 g b c e4
  | some (.bool false) => .ok (.val (.bool false)) e3
  | _ => .no
section
variable {X : Cx} {Φ : Fx} {W : WX} {a b c : Expr} {fa fb fc : Ef} {f g : D → D → Option D} {pos : Pos} {op op' : CmpOp} {σ : L2.St} {H : Hp} {Q : VK}
theorem use2_val {f : D → D → Option D} {x y : Arg} {e e1 : Fr} {k : Arg} (h : use2 f x y e = .ok k e1) : ∃ d, k = .val d ∧ e1 = e := by
  unfold use2 at h
  split at h
  · split at h
    · split at h
      · cases h
        exact ⟨_, rfl, rfl⟩
      · cases h
    · cases h
  · cases h
theorem eChain_weak (t : tG X.K X.mg Φ W (ra X.K) (eChain f g fa fb fc) σ H Q) : tChain (r2 X.K f) (r2 X.K g) (tG X.K X.mg Φ W (ra X.K) fa) (tG X.K X.mg Φ W (ra X.K) fb) (tG X.K X.mg Φ W (ra X.K) fc) σ H Q := by
  obtain ⟨G, F, e, O, h⟩ := t
  refine ⟨G, F, e, O, Wp.imp (Wp.seq h) fun x H1 ⟨G1, F1, e1, a, g1, O1, r1, h1⟩ => ⟨G1, F1, e1, O1, Wp.imp (Wp.seq h1) fun y H2 ⟨G2, F2, e2, b, g2, O2, r2', h2⟩ => ?_⟩⟩
  refine use2_ok O2 (ra_up r1 g2) r2' (Wp.imp (Wp.seq h2) fun z H3 ⟨G3, F3, e3, k, g3, O3, r3, h3⟩ => ?_)
  split at h3
  · rename_i q
    refine ⟨true, (bp_of O3 r3 q).bool, ?_⟩
    rw [if_pos rfl]
    exact ⟨G3, F3, e3, O3, Wp.imp (Wp.seq h3) fun w H4 ⟨G4, F4, e4, c, g4, O4, r4, h4⟩ => use2_ok O4 (ra_up r2' (g3.trans g4)) r4 h4⟩
  · rename_i q
    refine ⟨false, (bp_of O3 r3 q).bool, ?_⟩
    rw [if_neg Bool.false_ne_true]
    exact h3 _ H3 G3 F3 (Same.refl _) O3 (.bl false)
  · exact h3.elim
theorem d_chain (ho : OpR X (compareOp op) (r2 X.K f)) (ho' : OpR X (compareOp op') (r2 X.K g)) (ha : DE X Φ W a fa) (hb : DE X Φ W b fb) (hc : DE X Φ W c fc) (hm : lastMarks [op, op'] [b, c] = false := by with_unfolding_all rfl) :
    DE X Φ W (.Compare a [op, op'] [b, c] pos) (eChain f g fa fb fc) := pe_weak (pe_chain ho ho' ha hb hc hm) fun _ _ _ t => eChain_weak t
theorem t_chain (ho : OpR X (compareOp op) (r2 X.K f)) (ho' : OpR X (compareOp op') (r2 X.K g)) (ha : DE X Φ W a fa) (hb : DE X Φ W b fb) (hc : DE X Φ W c fc) (hm : lastMarks [op, op'] [b, c] = false := by with_unfolding_all rfl) :
    DT X Φ W (.Compare a [op, op'] [b, c] pos) (tOf (eChain f g fa fb fc)) := pt_weak (pt_chain ho ho' ha hb hc hm) fun _ _ _ t => eChain_weak (tOf_weak t)
end
end DL
set_option Elab.async false
set_option linter.all false
set_option maxRecDepth 100000
set_option maxHeartbeats 4000000
/-! DlW: lists put together, raise, try. -/
namespace DL
open PySem L2

theorem room65 {k : Nat} {A : Around} (r : Room k A) : A.units + 65 < cLine := by
  have := r.un
  omega
/-! ### list + list, both at hand -/
def lsR (r : RV) (e : Fr) : Option (List D) := match r with
  | .new (.ls xs) => some xs
  | .arg (.slot i) => match e[i]? with
    | some (.own (.ls ds)) => some ds
    | some (.io (.ls ds)) => some ds
    | _ => none
  | _ => none
def eCat (fa fb : Rf) : Rf := fun e => (fa e).bind fun r e1 => (fb e1).bind fun s e2 => match lsR r e2 with
  | some xs => match lsR s e2 with
    | some ys => if xs.length + ys.length ≤ 1000000 then .ok (.new (.ls (xs ++ ys))) e2 else .no
    | none => .no
  | none => .no
section
variable {K : PySem.W.Frag} {mg : Str → Option Value} {Φ : Fx} {W : WX} {H G : Hp} {F : Nat → List Addr} {σ : L2.St} {e : Fr}
theorem lsR_ok {r : RV} {v : V} {xs : List D} (O : Ok K Φ H G F σ e) (h : (∃ a, r = .arg a ∧ ra K a v H G F σ e) ∨ ∃ w A a, r = .new w ∧ v = .ref a ∧ OwAt K G H w a A) (q : lsR r e = some xs) : ∃ l vs, v = .ref l ∧ H l = some (.lst vs) ∧ DqAll K G vs xs := by
  rcases h with ⟨a, rfl, h⟩ | ⟨w, A, a, rfl, rfl, h⟩
  · cases a with
    | val d => cases q
    | slot i =>
      have at_ : ∀ {a : Addr}, σ[i]? = some (some (.ref a)) → v = .ref a := fun {a} z => by
        have z2 : σ[i]? = some (some v) := h
        rw [z] at z2
        exact (Option.some.inj (Option.some.inj z2)).symm
      have q' : (match e[i]? with
        | some (.own (.ls ds)) => some ds
        | some (.io (.ls ds)) => some ds
        | _ => none) = some xs := q
      split at q'
      · rename_i ds hi
        cases q'
        obtain ⟨a, e1, o, _⟩ := O.slots i _ hi
        generalize F i = A at o
        cases o with
        | ls h1 h2 => exact ⟨a, _, at_ e1, h1, h2⟩
      · rename_i ds hi
        cases q'
        obtain ⟨a, e1, o, _⟩ := O.slots i _ hi
        generalize F i = A at o
        cases o with
        | ls h1 h2 => exact ⟨a, _, at_ e1, h1, h2⟩
      · cases q'
  · cases h with
    | ls h1 h2 =>
      cases q
      exact ⟨a, _, rfl, h1, h2⟩
    | ll _ _ _ _ => cases q
    | dk _ _ _ _ => cases q
    | dt _ _ _ _ _ _ => cases q
theorem Wp.seqP {α β γ δ : Type} {Φ1 : Fx} {ρ : Rel α β} {ρ' : Rel γ δ} {q : R α} {f : α → Fr → R γ} {Q : δ → Hp → Prop} (cv : ∀ {H' G' : Hp} {F' : Nat → List Addr} {e' : Fr}, Ok K Φ1 H' G' F' σ e' → Ok K Φ H' G' F' σ e') (h : Wp K mg Φ W σ ρ' G (q.bind f) Q) :
    Wp K mg Φ1 W σ ρ G q (fun v H1 => ∃ G1 F1 e1 a, Same G G1 ∧ Ok K Φ1 H1 G1 F1 σ e1 ∧ ρ a v H1 G1 F1 σ e1 ∧ Wp K mg Φ W σ ρ' G1 (f a e1) Q) := by
  cases q with
  | no => exact h
  | ok a e => exact fun v H' G2 F' s o p => ⟨G2, F', e, a, s, o, p, Wp.up h s⟩
  | ex x e => exact fun c d H' G2 F' s o p => h c d H' G2 F' s (cv o) p
end
section
variable {X : Cx} {Φ : Fx} {W : WX} {x y : Expr} {fa fb : Rf} {pos : Pos}
theorem d_cat (ha : DR X Φ W x fa) (hb : ∀ Φ, DR X Φ W y fb) : DR X Φ W (.BinOp x .Add y pos) (eCat fa fb) :=
  pe_weak (pe_op op_cat ha (pe_ex hb)) fun σ H Q ⟨G, F, e, O, h⟩ => ⟨G, F, e, O, Wp.imp (Wp.seq h) fun v H1 ⟨G1, F1, e1, r1, g1, O1, q1, h1⟩ => by
    obtain ⟨A1, L1, P1⟩ := Held.mk' O1 q1
    refine ⟨_, G1, F1, e1, P1, Wp.imp (Wp.seqP (fun o => L1.cv o) h1) fun w H2 ⟨G2, F2, e2, r2, g2, O2, q2, h2⟩ => ?_⟩
    have O3 := L1.cv O2
    have k1 : (∃ a, r1 = .arg a ∧ ra X.K a v H2 G2 F2 σ e2) ∨ ∃ w A a, r1 = .new w ∧ v = .ref a ∧ OwAt X.K G2 H2 w a A := by
      cases r1 with
      | arg a => exact .inl ⟨a, rfl, ra_up (L1.ar a rfl) g2⟩
      | new u =>
        obtain ⟨A, _, y1⟩ := L1.rx O2 g2 (Same.refl _) (.inr ⟨u, rfl, rfl⟩)
        obtain ⟨a, ea, oa, _⟩ := y1
        exact .inr ⟨u, A, a, rfl, ea, oa⟩
    have k2 : (∃ a, r2 = .arg a ∧ ra X.K a w H2 G2 F2 σ e2) ∨ ∃ u A a, r2 = .new u ∧ w = .ref a ∧ OwAt X.K G2 H2 u a A := by
      cases r2 with
      | arg a => exact .inl ⟨a, rfl, q2⟩
      | new u =>
        obtain ⟨a, A, ea, oa, _⟩ := q2
        exact .inr ⟨u, A, a, rfl, ea, oa⟩
    split at h2
    · rename_i xs z1
      split at h2
      · rename_i ys z2
        split at h2
        · rename_i hl
          obtain ⟨l, vs, rfl, hH, d1⟩ := lsR_ok O3 k1 z1
          obtain ⟨b, ws, rfl, hB, d2⟩ := lsR_ok O3 k2 z2
          refine ⟨l, b, vs, ws, rfl, rfl, hH, hB, by rw [DqAll.len d1, DqAll.len d2]; exact Nat.le_trans hl (by decide), fun p hp => ?_⟩
          obtain ⟨z1, z2⟩ := rr_new O3 hp (DL.DqAll.app d1 d2)
          exact h2 _ _ _ F2 (Same.refl _) z1 z2
        · exact h2.elim
      · exact h2.elim
    · exact h2.elim⟩
end

/-! ### raise of an own class without fields -/
theorem pmk_own0 {X : Cx} {C : Addr} {bmB : List Value} {B newId initId : String} {x : Str} {p pos : Pos} (F : ExcBaseFacts B newId initId bmB) (q : PySem.W.excIn X.K C bmB newId = true) (gC : X.mg x = some (.ref C))
    (kC : PySem.W.keepIn X.K (.ref C) = true) (r : Raises X (.ref C)) (hg : Gl X x) (hdb : (x == ("__debug__" : Str)) = false := by decide) :
    PMk X (.Call (.Name x p) [] [] pos) (fun _ H Q => Q (.ref C) none H) := by
  intro pins s σ H Q I h
  refine wpAny_Call_Name_kw (ld_glob I hg gC ?_ hdb)
  refine PySem.W.callWith_K0 I.kIn kC ?_
  obtain ⟨bm, N, nm, qn, bs, hdct, sn, sub, ab, col, dd, k0, k1, k2, k3, k5, mN, hC, hN, hni, T⟩ := exc_obj I.kIn q
  refine wpAny_call_exc_subT F T hC hN hni (fun h' e hm => ?_) (Nat.zero_le _)
  exact mk_of I hm r h (I.hok.gone hm.new)
def sRaise (x : Exn) : Sf := fun e => .ex x e
section
variable {X : Cx} {Φ : Fx} {W : WX}
theorem s_raise0 {C : Addr} {bmB : List Value} {B newId initId : String} {x : Str} {p pos pos' : Pos} (F : ExcBaseFacts B newId initId bmB) (hc : X.calm = true) (tk : Takes X W) (gC : X.mg x = some (.ref C)) (q : PySem.W.excIn X.K C bmB newId = true)
    (kC : PySem.W.keepIn X.K (.ref C) = true) (h1 : PySem.W.subIn X.K (.ref C) (.type "BaseException") = some true) (h2 : PySem.W.typeIn X.K (.ref C) = some (.type "type")) (hg : Gl X x := by rfl) (hdb : (x == ("__debug__" : Str)) = false := by decide) :
    DS X Φ W (.Raise (some (.Call (.Name x p) [] [] pos)) none pos') (sRaise ⟨x, []⟩) :=
  ps_weak (ps_raise hc tk (pmk_own0 F q gC kC (raises_own h1 h2) hg hdb)) fun Dn σ H ⟨G, F, e, O, h⟩ => h _ none σ H G F (Same.refl _) O ⟨gC, .inl ⟨rfl, rfl⟩⟩
end

/-! ### try -/
abbrev Hdl := (Str → Option Bool) × Sf
def handle : List Hdl → Exn → Fr → R Fl
  | [], x, e => .ex x e
  | (mt, g) :: r, x, e => match mt x.cls with
    | some true => g e
    | some false => handle r x e
    | none => .no
def sTry (f : Sf) (l : List Hdl) : Sf := fun e => match f e with
  | .ex x e1 => handle l x e1
  | r => r
inductive DH (X : Cx) (Φ : Fx) (W : WX) : List ExceptHandler → List Hdl → Prop
  | nil : DH X Φ W [] []
  | cons {x : Str} {c : Value} {mt : Str → Option Bool} {g : Sf} {b₀ : Stmt} {suite : List Stmt} {np pos' : Pos} {hds : List ExceptHandler} {l : List Hdl} (hc : Names X x c) (hm : ∀ y b d, mt y = some b → X.mg y = some d → PySem.W.exmOne X.K d c = some b)
      (hsu : ∀ (a : Addr) (oe : Obj) (pn : List (Addr × Obj)), DSs (X.suite a ((a, oe) :: pn)) Φ W (b₀ :: suite) g) (r : DH X Φ W hds l) :
      DH X Φ W (.ExceptHandler (some (.Name x np)) none (b₀ :: suite) pos' :: hds) ((mt, g) :: l)
theorem dh_ok {X : Cx} {Φ : Fx} {W : WX} {hds : List ExceptHandler} {l : List Hdl} (h : DH X Φ W hds l) : ∃ l', HdsOk X hds l' ∧ ∀ (Dn : Ends) (x : Exn) (e1 : Fr) (G : Hp) (c : Value) (d : Option Addr) (σ' : L2.St) (H' G' : Hp) (F' : Nat → List Addr),
    WS X.K X.mg Φ W G (handle l x e1) Dn → Same G G' → Ok X.K Φ H' G' F' σ' e1 → ExOk X.mg X.K G' H' x c d → wMany X.K W Dn l' c d σ' H' := by
  induction h with
  | nil => exact ⟨[], .nil, fun Dn x e1 G c d σ' H' G' F' h s o p => h c d σ' H' G' F' s o p⟩
  | @cons x c mt g b₀ suite np pos' hds l hc hm hsu r ih =>
    obtain ⟨l', h1, h2⟩ := ih
    refine ⟨(c, fun _ _ _ => tS X.K X.mg Φ W g) :: l', .cons hc (fun a oe cls d pn _ _ => hsu a oe pn) h1, fun Dn y e1 G cls d σ' H' G' F' h s o p => ?_⟩
    unfold handle at h
    split at h
    · rename_i q
      exact ⟨true, hm _ _ _ q p.1, (fun _ a _ => ⟨G', F', e1, o, WS.up h s⟩), (fun z => Bool.noConfusion z)⟩
    · rename_i q
      exact ⟨false, hm _ _ _ q p.1, (fun z => Bool.noConfusion z), (fun _ => h2 Dn y e1 G cls d σ' H' G' F' h s o p)⟩
    · exact h.elim
section
variable {X : Cx} {Φ : Fx} {W : WX} {body : List Stmt} {h₀ : ExceptHandler} {hds : List ExceptHandler} {l : List Hdl} {pos : Pos} {f : Sf}
theorem s_try (tk : Takes X W) (hb : ∀ (W' : WX) (pn : List (Addr × Obj)) (xe : Value → Shared → Prop), Takes (X.tr pn xe) W' → PassesOwn (model X.prog X.w) X.A X.env xe → DSs (X.tr pn xe) Φ W' body f)
    (hh : DH X Φ W (h₀ :: hds) l) (hs : X.stack = X.env :: X.outer := by rfl) (hf : X.env.frame = some X.env.locals := by rfl) : DS X Φ W (.Try body (h₀ :: hds) [] [] pos) (sTry f l) := by
  obtain ⟨l', h1, h2⟩ := dh_ok hh
  refine ps_weak (ps_try_many (tb := fun W' => tS X.K X.mg Φ W' f) hs hf tk hb h1) fun Dn σ H ⟨G, F, e, O, h⟩ => ⟨G, F, e, O, ?_⟩
  unfold sTry at h
  cases q : f e with
  | no =>
    rw [q] at h
    exact h
  | ok fl e1 =>
    rw [q] at h
    exact h
  | ex x e1 =>
    rw [q] at h
    exact fun c d σ' H' G' F' s o p => h2 Dn x e1 G c d σ' H' G' F' h s o p
end
end DL
set_option Elab.async false
set_option linter.all false
set_option maxRecDepth 100000
set_option maxHeartbeats 4000000
/-! DlX: raise of own errors with a field, except .. as n: the held error's fields, isinstance. -/
namespace DL
open PySem L2

/-! ### facts of an own error class, told by a look at the written part -/
def oexB (K : PySem.W.Frag) (C : Addr) : Bool := match K.lookup C with
  | some ⟨.type "type", _, .cls cd, sl⟩ => (match cd.mro, sl.toList with
    | .ref C' :: bm, [_, _, _, _, some (.builtin n), _] => C' == C && (n == "ValueError.__new__" && (!cd.hasDel && (cd.hasDict && PySem.HandSPX.refsVE bm)))
    | _, _ => false)
  | _ => false
def oexAll (K : PySem.W.Frag) (C fI : Addr) (f : Str) : Bool := oexB K C && (decide (PySem.W.findIn K (.ref C) "__setattr__" = some (some (.builtin "object.__setattr__"))) && (decide (PySem.W.subIn K (.ref C) (.type "BaseException") = some true) &&
  (decide (PySem.W.typeIn K (.ref C) = some (.type "type")) && (PySem.W.keepIn K (.ref C) && (decide (PySem.W.findIn K (.ref C) f = some none) && (decide (PySem.W.findIn K (.ref C) "__init__" = some (some (.ref fI))) && decide (PySem.W.typeIn K (.ref fI) = some (.type "function"))))))))
structure OexF (K : PySem.W.Frag) (C fI : Addr) (f : Str) : Prop where
  ox : OexC K C
  no : PySem.W.findIn K (.ref C) f = some none
  iC : PySem.W.findIn K (.ref C) "__init__" = some (some (.ref fI))
  tI : PySem.W.typeIn K (.ref fI) = some (.type "function")
theorem oex_cls {K : PySem.W.Frag} {C : Addr} (h : oexB K C = true) : ∃ nm q N bs bm sn sub ab col dd k0 k1 k2 k3 k5, K.lookup C = some (excClassObj nm q C N bs bm true sn sub ab col dd k0 k1 k2 k3 k5 "ValueError.__new__") ∧ PySem.HandSPX.refsVE bm = true := by
  unfold oexB at h
  split at h
  · rename_i dd cd sl ho
    split at h
    · rename_i C' bm k0 k1 k2 k3 n k5 hm hs
      simp only [Bool.and_eq_true, beq_iff_eq, Bool.not_eq_true'] at h
      obtain ⟨rfl, rfl, hdel, hd, hr⟩ := h
      obtain ⟨nm, bs, mro, ns, qn, hdct, sn, sub, ab, col, del⟩ := cd
      dsimp only at hm hdel hd
      subst hm hdel hd
      have hsl : sl = #[k0, k1, k2, k3, some (.builtin "ValueError.__new__"), k5] := by
        obtain ⟨l⟩ := sl
        simp only at hs
        rw [hs]
      subst hsl
      exact ⟨nm, qn, ns, bs, bm, sn, sub, ab, col, dd, k0, k1, k2, k3, k5, ho, hr⟩
    · cases h
  · cases h
theorem oex_ok {K : PySem.W.Frag} {C fI : Addr} {f : Str} (h : oexAll K C fI f = true) : OexF K C fI f := by
  unfold oexAll at h
  simp only [Bool.and_eq_true, decide_eq_true_eq] at h
  obtain ⟨h1, h2, h3, h4, h5, h6, h7, h8⟩ := h
  exact ⟨⟨oex_cls h1, h2, h3, h4, h5⟩, h6, h7, h8⟩

/-! ### __init__(self, value): self.value = value -/
def spI (K : PySem.W.Frag) (f : Str) : Sp := fun vs H Q _ => ∃ (a C : Addr) (v : V), vs = [.ref a, v] ∧ OexC K C ∧ PySem.W.findIn K (.ref C) f = some none ∧ H a = some (exo a C none) ∧
  ∀ dx, H dx = none → dx ≠ a → Q .non (upd (upd H dx (exd dx [(f, v)])) a (exo a C (some dx)))
section
variable {P : Program} {w : World} {K : PySem.W.Frag} {mg : Str → Option Value} {base : Heap} {x qual : Str} {params : Arguments} {body : List Stmt} {scope : Scope} {dvs : List V} {kws : List (Str × V)} {f : Addr} {fd : FuncData}
theorem init_ok {n m fl : Str} {p1 p2 p3 p4 : Pos} (D : FunD K x qual params body scope dvs kws f fd) (S : FnScope [n, m] [n, m] scope) (hb : body = [.Assign [.Attribute (.Name n p1) fl p2] (.Name m p3) p4])
    (hv1 : Vis scope n := by first | exact Or.inl rfl | exact Or.inr (Or.inl rfl) | exact Or.inr (Or.inr rfl)) (hv2 : Vis scope m := by first | exact Or.inl rfl | exact Or.inr (Or.inl rfl) | exact Or.inr (Or.inr rfl))
    (hd1 : (n == ("__debug__" : Str)) = false := by decide) (hc1 : (n == ("__classdict__" : Str)) = false := by decide) (hd2 : (m == ("__debug__" : Str)) = false := by decide) (hc2 : (m == ("__classdict__" : Str)) = false := by decide)
    (hs : ∀ (cdv : Value) (L : Addr), swapsWith (.Name m p3) (some (.Attribute (.Name n p1) fl p2)) p4.line (PyProof.Rows.envOfC qual scope L f cdv) = pure false := by intros; rfl) :
    FnOk P w K mg base CX0 1 f fd [n, m] (spI K fl) := by
  subst hb
  refine D.ok (k := 0) S (fun vs H Q E ⟨a, C, v, e, _⟩ => by rw [e]; rfl) fun cdv A outer s H vs Q E hr hsp => ?_
  obtain ⟨a, C, v, rfl, ox, no, hH, hQ⟩ := hsp
  refine ⟨_, pss_one (ps_ost (pv 0 rfl hv1 hd1 hc1) (pv 1 rfl hv2 hd2 hc2) (hs _ _)), ?_⟩
  exact ⟨v, rfl, .ref a, rfl, a, C, rfl, ox, no, .inl ⟨hH, fun dx h1 h2 => hQ dx h1 h2⟩⟩
end

/-! ### raise C(e) -/
def argD (a : Arg) (e : Fr) : Option D := match a with
  | .val d => some d
  | .slot i => match e[i]? with
    | some (.sh d) => some d
    | _ => none
def sRaise1 (x fl : Str) (fa : Ef) : Sf := fun e => (fa e).bind fun a e1 => match argD a e1 with
  | some d => .ex ⟨x, [(fl, d)]⟩ e1
  | none => .no
theorem argD_dp {K : PySem.W.Frag} {Φ : Fx} {H G : Hp} {F : Nat → List Addr} {σ : L2.St} {e : Fr} {a : Arg} {v : V} {d : D} (O : Ok K Φ H G F σ e) (r : ra K a v H G F σ e) (q : argD a e = some d) : Dq K G v d := by
  cases a with
  | val d' =>
    cases q
    exact r
  | slot i =>
    have q' : (match e[i]? with
      | some (.sh d) => some d
      | _ => none) = some d := q
    split at q'
    · rename_i d' hi
      cases q'
      obtain ⟨v', h1, h2⟩ := O.slots i _ hi
      have r' : σ[i]? = some (some v) := r
      rw [h1] at r'
      cases r'
      exact h2
    · cases q'
/-- a fresh object that no slot has, and nothing else, is laid -/
theorem Ok.laid {K : PySem.W.Frag} {Φ : Fx} {H G : Hp} {F : Nat → List Addr} {σ : L2.St} {e : Fr} (O : Ok K Φ H G F σ e) {p : Addr} {o : HO} (hp : H p = none) : Ok K Φ (upd H p o) G F σ e := O.grow (Grow.own O.gh hp)
section
variable {X : Cx} {Φ : Fx} {W : WX}
theorem s_raise1 {C fI : Addr} {x fl : Str} {p pos pos' : Pos} {a : Expr} {fa : Ef} {fd : FuncData} {ps : List Str} (T : OexF X.K C fI fl) (F1 : FnOk X.prog X.w X.K X.mg X.base CX0 1 fI fd ps (spI X.K fl)) (hr : Room 2 X.A) (hb : Binds X.K fd ps []) (hc : X.calm = true) (tk : Takes X W) (gC : X.mg x = some (.ref C)) (ha : DE X Φ W a fa) (hg : Gl X x := by rfl) (hdb : (x == ("__debug__" : Str)) = false := by decide)
    (he : starEach (a :: []) X.env = (false, eval a X.env) :: starEach [] X.env := by rfl) (hpl : (backTo pos (starEach [] X.env)).any (·.1) = false := by rfl) :
    DS X Φ W (.Raise (some (.Call (.Name x p) [a] [] pos)) none pos') (sRaise1 x fl fa) :=
  ps_weak (ps_raise hc tk (pmk_oex T.ox T.iC T.tI F1 hr hb (.nil : Vals [] []) pass0 hg gC (pa_cons ha pa_nil he) hdb he hpl)) fun Dn σ H ⟨G, F, e, O, h⟩ => by
    refine ⟨G, F, e, O, Wp.imp (WS.seq (σ := σ) h) fun v H1 ⟨G1, F1, e1, r, g1, O1, r1, h1⟩ => ?_⟩
    split at h1
    · rename_i d q
      have dp := argD_dp O1 r1 q
      refine ⟨by show 1 ≤ 1000; decide, fun b hb => ⟨b, C, v, rfl, T.ox, T.no, upd_same, fun dx h2 h3 => ⟨rfl, dx, [(fl, v)], upd_same, ?_, ?_, ?_⟩⟩⟩
      · rw [upd_ne h3, upd_same]
      · rw [upd_ne h3] at h2
        exact h2
      · have hdx : H1 dx = none := by
          rw [upd_ne h3] at h2
          exact h2
        have e2 : upd (del (upd (upd (upd H1 b (exo b C none)) dx (exd dx [(fl, v)])) b (exo b C (some dx))) b) dx (.xd [(fl, v)]) = upd H1 dx (.xd [(fl, v)]) := by
          funext c
          by_cases c1 : c = dx
          · rw [c1, upd_same, upd_same]
          · rw [upd_ne c1, upd_ne c1]
            by_cases c2 : c = b
            · rw [c2, del_same, hb]
            · rw [del_ne c2, upd_ne c2, upd_ne c1, upd_ne c2]
        rw [e2]
        exact h1 _ (some dx) σ _ _ _ (Same.refl _) (O1.grow (Grow.own O1.gh hdx)) ⟨gC, .inr ⟨dx, [(fl, v)], rfl, upd_same, .cons ⟨rfl, dp⟩ .nil⟩⟩
    · exact h1.elim
end
end DL
set_option Elab.async false
set_option linter.all false
set_option maxRecDepth 100000
set_option maxHeartbeats 4000000
/-! DlX2: except .. as n. -/
namespace DL
open PySem L2

/-! ### the suite's own view: the held error's dict and the frozen part stand -/
/-- what stands while the suite runs: the frozen part, the held error's dict at dx -/
def Fx.suit (Φ : Fx) (H G : Hp) (dx : Option Addr) (i : Nat) (a : Addr) : Fx :=
  ⟨fun b => if G b ≠ none ∨ dx = some b then H b else Φ.H_0 b, fun b => if G b ≠ none ∨ dx = some b then G b else (match Φ.H_0 b with | none => none | some _ => Φ.G_0 b), fun j => (Φ.io j).filter fun b => decide (¬ (G b ≠ none ∨ dx = some b)), fun j => if j = i then a else Φ.at_ j⟩
section
variable {K : PySem.W.Frag} {Φ : Fx} {H G H' G' : Hp} {F F' : Nat → List Addr} {σ σ' : L2.St} {e e' : Fr} {dx : Option Addr} {i : Nat} {a : Addr}
theorem ow_lst {w : Ow} {p b : Addr} {A : List Addr} (h : OwAt K G H w p A) (hb : b ∈ A) : ∃ u, H b = some u ∧ Ob u := by
  exact h.there b hb
theorem Ok.suit (O : Ok K Φ H G F σ e) (hd : ∀ b, dx = some b → ∃ fs, H b = some (.xd fs)) : Ok K (Φ.suit H G dx i a) H G F (σ.set i (some (.ref a))) (e.set i .xn) where
  gh := O.gh
  len := by rw [List.length_set, List.length_set]; exact O.len
  slots := fun j s q => by
    by_cases hj : i = j
    · subst hj
      have hl : i < e.length := by
        have := (List.getElem?_eq_some_iff.mp q).1
        rw [List.length_set] at this
        exact this
      rw [List.getElem?_set_self hl] at q
      cases q
      show (σ.set i (some (.ref a)))[i]? = some (some (.ref (if i = i then a else Φ.at_ i)))
      rw [List.getElem?_set_self (by rw [← O.len]; exact hl), if_pos rfl]
    · rw [List.getElem?_set_ne hj] at q
      rw [List.getElem?_set_ne hj]
      have old := O.slots j s q
      have at_ : (if j = i then a else Φ.at_ j) = Φ.at_ j := if_neg (Ne.symm hj)
      have out : ∀ {w : Ow} {p b : Addr} {A : List Addr}, OwAt K G H w p A → b ∈ A → G b = none → ¬ (G b ≠ none ∨ dx = some b) := fun ho hb n z => by
        rcases z with z | z
        · exact z n
        · obtain ⟨vs, q1, ob⟩ := ow_lst ho hb
          obtain ⟨fs, q2⟩ := hd _ z
          rw [q1] at q2
          cases ob <;> cases q2
      cases s with
      | un => trivial
      | xn =>
        show σ[j]? = some (some (.ref (if j = i then a else Φ.at_ j)))
        rw [at_]
        exact old
      | sh d => exact old
      | own w =>
        obtain ⟨p, e1, h1, h2⟩ := old
        refine ⟨p, e1, h1, fun b hb => ⟨(h2 b hb).1, ?_⟩⟩
        show (if G b ≠ none ∨ dx = some b then H b else Φ.H_0 b) = none
        rw [if_neg (out h1 hb (h2 b hb).1)]
        exact (h2 b hb).2
      | io w =>
        obtain ⟨p, e1, h1, h2⟩ := old
        refine ⟨p, e1, h1, fun b hb => ⟨(h2 b hb).1, ?_, (h2 b hb).2.2.trans at_.symm⟩⟩
        have nA := out h1 hb (h2 b hb).1
        rcases (h2 b hb).2.1 with z | z
        · exact .inl (List.mem_filter.mpr ⟨z, decide_eq_true nA⟩)
        · refine .inr ?_
          show (if G b ≠ none ∨ dx = some b then H b else Φ.H_0 b) = none
          rw [if_neg nA]
          exact z
  sep := fun j k s t hjk q1 q2 o1 o2 => by
    have back : ∀ {j : Nat} {s : Sl}, (e.set i .xn)[j]? = some s → s.owned = true → e[j]? = some s := fun {j s} q o => by
      by_cases hj : i = j
      · subst hj
        have hl : i < e.length := by
          have := (List.getElem?_eq_some_iff.mp q).1
          rw [List.length_set] at this
          exact this
        rw [List.getElem?_set_self hl] at q
        cases q
        cases o
      · rw [List.getElem?_set_ne hj] at q
        exact q
    exact O.sep j k s t hjk (back q1 o1) (back q2 o2) o1 o2
  f0 := fun b hb => by
    have hb' : (if G b ≠ none ∨ dx = some b then H b else Φ.H_0 b) ≠ none := hb
    split at hb'
    · exact hb'
    · exact O.f0 b hb'
  f1 := fun b o q m => by
    have q' : (if G b ≠ none ∨ dx = some b then H b else Φ.H_0 b) = some o := q
    split at q'
    · exact q'
    · rename_i z
      exact O.f1 b o q' fun j y => m j (List.mem_filter.mpr ⟨y, decide_eq_true z⟩)
  f2 := fun b hb => by
    have hb' : (if G b ≠ none ∨ dx = some b then H b else Φ.H_0 b) ≠ none := hb
    show G b = if G b ≠ none ∨ dx = some b then G b else (match Φ.H_0 b with | none => none | some _ => Φ.G_0 b)
    by_cases z : G b ≠ none ∨ dx = some b
    · rw [if_pos z]
    · rw [if_neg z] at hb' ⊢
      rw [O.f2 b hb']
      split
      · rename_i z2
        exact absurd z2 hb'
      · rfl
/-- behind the suite -/
theorem suit_none {b : Addr} (O : Ok K Φ H G F σ e) (h : (Φ.suit H G dx i a).H_0 b = none) : Φ.H_0 b = none := by
  have h' : (if G b ≠ none ∨ dx = some b then H b else Φ.H_0 b) = none := h
  split at h'
  · cases q : Φ.H_0 b with
    | none => rfl
    | some o => exact absurd h' (O.f0 b (by rw [q]; exact fun z => nomatch z))
  · exact h'
theorem Ok.unsuit (O : Ok K Φ H G F σ e) (O' : Ok K (Φ.suit H G dx i a) H' G' F' σ' e') : Ok K Φ H' G' F' (σ'.set i none) (e'.set i .un) where
  gh := O'.gh
  len := by rw [List.length_set, List.length_set]; exact O'.len
  slots := fun j s q => by
    by_cases hj : i = j
    · subst hj
      have hl : i < e'.length := by
        have := (List.getElem?_eq_some_iff.mp q).1
        rw [List.length_set] at this
        exact this
      rw [List.getElem?_set_self hl] at q
      cases q
      trivial
    · rw [List.getElem?_set_ne hj] at q
      rw [List.getElem?_set_ne hj]
      have old := O'.slots j s q
      have at_ : (if j = i then a else Φ.at_ j) = Φ.at_ j := if_neg (Ne.symm hj)
      cases s with
      | un => trivial
      | xn =>
        have old' : σ'[j]? = some (some (.ref (if j = i then a else Φ.at_ j))) := old
        rw [at_] at old'
        exact old'
      | sh d => exact old
      | own w =>
        obtain ⟨p, e1, h1, h2⟩ := old
        exact ⟨p, e1, h1, fun b hb => ⟨(h2 b hb).1, suit_none O (h2 b hb).2⟩⟩
      | io w =>
        obtain ⟨p, e1, h1, h2⟩ := old
        exact ⟨p, e1, h1, fun b hb => ⟨(h2 b hb).1, (h2 b hb).2.1.elim (fun z => .inl (List.mem_filter.mp z).1) (fun z => .inr (suit_none O z)), (h2 b hb).2.2.trans at_⟩⟩
  sep := fun j k s t hjk q1 q2 o1 o2 => by
    have back : ∀ {j : Nat} {s : Sl}, (e'.set i .un)[j]? = some s → s.owned = true → e'[j]? = some s := fun {j s} q o => by
      by_cases hj : i = j
      · subst hj
        have hl : i < e'.length := by
          have := (List.getElem?_eq_some_iff.mp q).1
          rw [List.length_set] at this
          exact this
        rw [List.getElem?_set_self hl] at q
        cases q
        cases o
      · rw [List.getElem?_set_ne hj] at q
        exact q
    exact O'.sep j k s t hjk (back q1 o1) (back q2 o2) o1 o2
  f0 := fun b hb => O'.f0 b fun z => hb (suit_none O z)
  f1 := fun b o q m => by
    have hH : H b = some o := O.f1 b o q m
    refine O'.f1 b o ?_ fun j z => m j (List.mem_filter.mp z).1
    show (if G b ≠ none ∨ dx = some b then H b else Φ.H_0 b) = some o
    split
    · exact hH
    · exact q
  f2 := fun b hb => by
    have := O'.f2 b fun z => hb (suit_none O z)
    rw [this]
    show (if G b ≠ none ∨ dx = some b then G b else (match Φ.H_0 b with | none => none | some _ => Φ.G_0 b)) = Φ.G_0 b
    split
    · exact O.f2 b hb
    · split
      · rename_i z
        exact absurd z hb
      · rfl
end
end DL
set_option Elab.async false
set_option linter.all false
set_option maxRecDepth 100000
set_option maxHeartbeats 4000000
/-! DlX3: except .. as n: the statement; the held error's fields; isinstance of it. -/
namespace DL
open PySem L2
/-- the suite's view of the held error x (at a, its class cls, its dict d) -/
structure SuOk (X : Cx) (Φ : Fx) (mt : Str → Option Bool) (i : Nat) (a : Addr) (cls : Value) (d : Option Addr) (x : Exn) : Prop where
  at_ : Φ.at_ i = a
  mt : mt x.cls = some true
  mg : X.mg x.cls = some cls
  fl : (x.flds = [] ∧ d = none) ∨ ∃ dx fs, d = some dx ∧ Φ.H_0 dx = some (.xd fs) ∧ (∀ j, dx ∉ Φ.io j) ∧ Paired (fun (p : Str × V) (q : Str × D) => p.1 = q.1 ∧ Dq X.K Φ.G_0 p.2 q.2) fs x.flds
  gg : ∀ b, Φ.G_0 b ≠ none → Φ.H_0 b ≠ none
def unX (i : Nat) : R Fl → R Fl
  | .ok fl e => .ok fl (e.set i .un)
  | _ => .no
def sTryAs (f : Sf) (i : Nat) (mt : Str → Option Bool) (g : Exn → Sf) : Sf := fun e => match f e with
  | .ex x e1 => match mt x.cls with
    | some true => unX i (g x (e1.set i .xn))
    | some false => .ex x e1
    | none => .no
  | r => r
/-- a def's promise may be told by the suite's view: the old data stand -/
theorem dp_suit {K : PySem.W.Frag} {Φ : Fx} {H G : Hp} {F : Nat → List Addr} {σ : L2.St} {e : Fr} {v : V} {d : D} (O : Ok K Φ H G F σ e) (gg : ∀ b, Φ.G_0 b ≠ none → Φ.H_0 b ≠ none) (h : Dq K Φ.G_0 v d) : Dq K G v d :=
  dp_mono (fun b o q => by
    have n : Φ.G_0 b ≠ none := by rw [q]; exact fun z => nomatch z
    rw [O.f2 b (gg b n)]
    exact q) h
section
variable {X : Cx} {Φ : Fx} {W : WX} {body suite : List Stmt} {b₀ : Stmt} {x n : Str} {c : Value} {np pos pos' : Pos} {f : Sf} {g : Exn → Sf} {mt : Str → Option Bool} {i : Nat}
theorem s_tryAs (i : Nat) (hN : X.N.Nodup) (hi : X.N[i]? = some n) (hln : X.env.kindOf n = some .local) (tk : Takes X W) (hc : Names X x c) (hm : ∀ y b d, mt y = some b → X.mg y = some d → PySem.W.exmOne X.K d c = some b)
    (hb : ∀ (W' : WX) (pn : List (Addr × Obj)) (xe : Value → Shared → Prop), Takes (X.tr pn xe) W' → PassesOwn (model X.prog X.w) X.A X.env xe → DSs (X.tr pn xe) Φ W' body f)
    (hsu : ∀ (a : Addr) (oe : Obj) (cls : Value) (d : Option Addr) (pn : List (Addr × Obj)) (x : Exn) (Φ' : Fx), Zc cls d oe → (∃ vs, oe.data = .fields vs) → SuOk X Φ' mt i a cls d x → DSs (X.suite a ((a, oe) :: pn)) Φ' W (b₀ :: suite) (g x))
    (hs : X.stack = X.env :: X.outer := by rfl) (hf : X.env.frame = some X.env.locals := by rfl) : DS X Φ W (.Try body [.ExceptHandler (some (.Name x np)) (some n) (b₀ :: suite) pos'] [] [] pos) (sTryAs f i mt g) := by
  refine ps_weak (ps_try_as (i := i) (tb := fun W' => tS X.K X.mg Φ W' f) (ts := fun a cls d Dn σ H => ∃ (x : Exn) (Φ' : Fx), SuOk X Φ' mt i a cls d x ∧ tS X.K X.mg Φ' W (g x) Dn σ H) hs hf hN hi hln hc tk hb
    (fun a oe cls d pn hz hf' => ⟨fun pins s σ H Dn I ⟨x, Φ', su, h⟩ => (hsu a oe cls d pn x Φ' hz hf' su).run pins s σ H Dn I h⟩)) fun Dn σ H ⟨G, F, e, O, h⟩ => ⟨G, F, e, O, ?_⟩
  unfold sTryAs at h
  cases q : f e with
  | no =>
    rw [q] at h
    exact h
  | ok fl e1 =>
    rw [q] at h
    exact h
  | ex x e1 =>
    rw [q] at h
    have h' : WS X.K X.mg Φ W G (match mt x.cls with
      | some true => unX i (g x (e1.set i .xn))
      | some false => .ex x e1
      | none => .no) Dn := h
    intro cls d σ' H' G' F' s' o p
    split at h'
    · rename_i hmt
      refine ⟨true, hm _ _ _ hmt p.1, fun _ a na => ?_, fun z => Bool.noConfusion z⟩
      have hd : ∀ b, d = some b → ∃ fs, H' b = some (.xd fs) := fun b z => by
        rcases p.2 with ⟨_, z2⟩ | ⟨dx, fs, z2, z3, _⟩
        · rw [z2] at z
          cases z
        · rw [z2] at z
          cases z
          exact ⟨fs, z3⟩
      refine ⟨x, Φ.suit H' G' d i a, ⟨if_pos rfl, hmt, p.1, ?_, fun b hb => ?_⟩, G', F', e1.set i .xn, o.suit hd, ?_⟩
      · rcases p.2 with z | ⟨dx, fs, z2, z3, z4⟩
        · exact .inl z
        · refine .inr ⟨dx, fs, z2, ?_, fun j z => ?_, ?_⟩
          · show (if G' dx ≠ none ∨ d = some dx then H' dx else Φ.H_0 dx) = _
            rw [if_pos (.inr z2)]
            exact z3
          · exact of_decide_eq_true (List.mem_filter.mp z).2 (.inr z2)
          · have sg : Same G' (Φ.suit H' G' d i a).G_0 := fun b u q => by
              show (if G' b ≠ none ∨ d = some b then G' b else (match Φ.H_0 b with | none => none | some _ => Φ.G_0 b)) = _
              rw [if_pos (.inl (by rw [q]; exact fun z => nomatch z))]
              exact q
            exact L2.Paired.mapP z4 fun p q ⟨h1, h2⟩ => ⟨h1, dp_mono sg h2⟩
      · have hb' : (if G' b ≠ none ∨ d = some b then G' b else (match Φ.H_0 b with | none => none | some _ => Φ.G_0 b)) ≠ none := hb
        show (if G' b ≠ none ∨ d = some b then H' b else Φ.H_0 b) ≠ none
        by_cases z : G' b ≠ none ∨ d = some b
        · rw [if_pos z]
          rcases z with z | z
          · exact ne_none_of_same o.gh z
          · obtain ⟨fs, q⟩ := hd b z
            rw [q]
            exact fun z => nomatch z
        · rw [if_neg z] at hb' ⊢
          intro z2
          rw [z2] at hb'
          exact hb' rfl
      · cases r : g x (e1.set i .xn) with
        | no =>
          rw [r] at h'
          exact h'.elim
        | ex y e2 =>
          rw [r] at h'
          exact h'.elim
        | ok fl e2 =>
          rw [r] at h'
          intro v σ2 H2 G2 F2 s2 o2
          have back := Ok.unsuit o o2
          have hw := h' v _ H2 G2 F2 (s'.trans s2) back
          cases fl with
          | nx => exact hw
          | bk => exact hw
          | ct => exact hw
          | rt s =>
            intro rs
            refine hw ?_
            cases s with
            | sh d => exact rs
            | own w =>
              obtain ⟨p, A, h1, h2, h3, h4⟩ := rs
              refine ⟨p, A, h1, h2, fun b hb => ⟨(h3 b hb).1, suit_none o (h3 b hb).2⟩, fun j t q ow => h4 j t ?_ ow⟩
              by_cases hj : i = j
              · subst hj
                have hl : i < e2.length := by
                  have := (List.getElem?_eq_some_iff.mp q).1
                  rw [List.length_set] at this
                  exact this
                rw [List.getElem?_set_self hl] at q
                cases q
                cases ow
              · rw [List.getElem?_set_ne hj] at q
                exact q
            | un => exact rs
            | io w => exact rs
            | xn => exact rs
    · rename_i hmt
      exact ⟨false, hm _ _ _ hmt p.1, fun z => Bool.noConfusion z, fun _ => h' cls d σ' H' G' F' s' o p⟩
    · exact h'.elim
end
end DL
set_option Elab.async false
set_option linter.all false
set_option maxRecDepth 100000
set_option maxHeartbeats 4000000
/-! DlX4: in the suite: e.f, isinstance(e, C). -/
namespace DL
open PySem L2
theorem lookup_paired {P : V → D → Prop} {f : Str} : ∀ {fs : List (Str × V)} {ds : List (Str × D)} {d : D}, Paired (fun (p : Str × V) (q : Str × D) => p.1 = q.1 ∧ P p.2 q.2) fs ds → ds.lookup f = some d → ∃ v, fs.lookup f = some v ∧ P v d
  | _, _, d, .nil, h => by cases h
  | (n, v) :: fs, (m, u) :: ds, d, .cons ⟨h1, h2⟩ t, h => by
    have h1' : n = m := h1
    subst h1'
    rw [List.lookup_cons] at h
    split at h
    · rename_i z
      cases h
      exact ⟨v, by rw [List.lookup_cons, z], h2⟩
    · rename_i z
      obtain ⟨w, q1, q2⟩ := lookup_paired t h
      exact ⟨w, by rw [List.lookup_cons, z]; exact q1, q2⟩
def eXf (x : Exn) (i : Nat) (f : Str) : Ef := fun e => match e[i]? with
  | some .xn => (match x.flds.lookup f with
    | some d => .ok (.val d) e
    | none => .no)
  | _ => .no
def eXis (x : Exn) (i : Nat) (mi : Str → Option Bool) : Ef := fun e => match e[i]? with
  | some .xn => (match mi x.cls with
    | some b => .ok (.val (.bool b)) e
    | none => .no)
  | _ => .no
/-- isinstance(e, c), e the exception that the suite holds -/
def rIsX (K : PySem.W.Frag) (D a : Addr) (d : Option Addr) : List V → Hp → VK → Prop := fun xs H Q => ∃ (c : V) (cv : Value) (b : Bool), xs = [.ref a, c] ∧ (∀ u, RelV c u → u = cv) ∧ PySem.W.kitOne K (.ref D) cv = some b ∧ (d = none ∨ ∃ dd fs, d = some dd ∧ H dd = some (.xd fs)) ∧ Q (.bl b) H
theorem call_isX {X : Cx} {a D : Addr} {d : Option Addr} {oe : Obj} {pn : List (Addr × Obj)} (C : ExcC X.K D) (hz : Zc (.ref D) d oe) (hf : ∃ vs, oe.data = .fields vs) : CallR (X.suite a ((a, oe) :: pn)) (.builtin "isinstance") (rIsX X.K D a d) := by
  intro pins s σ H xs us Q I r h
  obtain ⟨c, cv, b, rfl, hcv, e, dd, q⟩ := h
  cases r with
  | cons rx rr =>
    cases rr with
    | cons rt rr =>
      cases rr
      cases rx
      have ec := hcv _ rt
      subst ec
      obtain ⟨hget, _⟩ := I.pin (a, oe) (List.mem_append.mpr (.inl List.mem_cons_self))
      obtain ⟨vs, hv⟩ := hf
      have J : ∃ od, PySem.W.InstAt s.heap a oe D od := by
        rcases dd with rfl | ⟨dd, fs, rfl, ea⟩
        · exact ⟨none, hget, hz.1, by unfold PySem.W.notCls; rw [hv] <;> rfl, by rw [hz.2]; trivial⟩
        · have hx : ObjOk X.prog X.w H s.heap dd (.xd fs) := I.hok dd _ ea
          obtain ⟨mA, hns, hr⟩ := hx
          obtain ⟨od, ho, hl⟩ := lookIn_ns hns
          exact ⟨some od, hget, hz.1, by unfold PySem.W.notCls; rw [hv] <;> rfl, by rw [hz.2]; exact ho⟩
      obtain ⟨od, J⟩ := J
      have hcl : (PySem.W.clsIn X.K D).isSome = true := by
        obtain ⟨cd, hc, _⟩ := PySem.W.any_some C.hd
        rw [hc]
        rfl
      exact PySem.W.kia_one (PySem.W.kitx_exc hcl C.hg C.hk C.hs C.ha C.hn C.ht C.hm) I.kIn J e (fun z => nomatch z) fun tk => ⟨.bl b, H, I.kept (t' := tk) fun _ _ z => z, rfl, q⟩
section
variable {X : Cx} {Φ : Fx} {W : WX} {mt mi : Str → Option Bool} {i : Nat} {a : Addr} {oe : Obj} {cls : Value} {d : Option Addr} {pn : List (Addr × Obj)} {x : Exn} {n f : Str} {p p2 pos : Pos}
theorem xn_at {K : PySem.W.Frag} {H G : Hp} {F : Nat → List Addr} {σ : L2.St} {e : Fr} {v : V} (O : Ok K Φ H G F σ e) (h : e[i]? = some .xn) (r : ra K (.slot i) v H G F σ e) : v = .ref (Φ.at_ i) := by
  have q : σ[i]? = some (some (.ref (Φ.at_ i))) := O.slots i .xn h
  have r' : σ[i]? = some (some v) := r
  rw [q] at r'
  cases r'
  rfl
theorem d_xf (su : SuOk X Φ mt i a cls d x) (hz : Zc cls d oe) (hf : ∃ vs, oe.data = .fields vs) (T : ∀ y c, mt y = some true → X.mg y = some c → ∃ C, c = .ref C ∧ XfC X.K C ∧ PySem.W.findIn X.K (.ref C) f = some none)
    (hn : DE (X.suite a ((a, oe) :: pn)) Φ W (.Name n p) (eVar i)) (hb : attributeBase (.Name n p) f X.env (eval (.Name n p) X.env) = eval (.Name n p) X.env := by rfl) :
    DE (X.suite a ((a, oe) :: pn)) Φ W (.Attribute (.Name n p) f pos) (eXf x i f) := by
  obtain ⟨C, rfl, T1, T2⟩ := T _ _ su.mt su.mg
  refine pe_weak (pe_xf T1 T2 hz hf hn hb) fun σ H Q ⟨G, F, e, O, h⟩ => ⟨G, F, e, O, ?_⟩
  unfold eXf at h
  split at h
  · rename_i hi
    split at h
    · rename_i dv hl
      have ev : eVar i e = .ok (.slot i) e := by
        unfold eVar
        rw [hi]
      rw [ev]
      intro v H' G' F' s o r
      have hv := xn_at o hi r
      rw [su.at_] at hv
      rcases su.fl with ⟨z, _⟩ | ⟨dx, fs, q1, q2, q3, q4⟩
      · rw [z] at hl
        cases hl
      · obtain ⟨w, w1, w2⟩ := lookup_paired q4 hl
        exact ⟨hv, rfl, dx, fs, w, q1, o.f1 dx _ q2 q3, w1, h w H' G' F' s o (dp_suit o su.gg w2)⟩
    · exact h.elim
  · exact h.elim
theorem is_read {c : V} {cv : Value} {b : Bool} {K : PySem.W.Frag} {mg : Str → Option Value} {σ : L2.St} {H G : Hp} {F : Nat → List Addr} {e : Fr} {Q : VK} {D : Addr} (su : SuOk X Φ mt i a cls d x) (hi : e[i]? = some .xn) (O : Ok X.K Φ H G F σ e) (hcv : ∀ u, RelV c u → u = cv) (k : PySem.W.kitOne X.K (.ref D) cv = some b)
    (h : Wp X.K X.mg Φ W σ (ra X.K) G (.ok (.val (.bool b)) e) Q) : Wp X.K X.mg Φ W σ (ra X.K) G (eVar i e) fun v H1 => rIsX X.K D a d [v, c] H1 Q := by
  have ev : eVar i e = .ok (.slot i) e := by
    unfold eVar
    rw [hi]
  rw [ev]
  intro v H' G' F' s o r
  have hv := xn_at o hi r
  rw [su.at_] at hv
  subst hv
  refine ⟨c, cv, b, rfl, hcv, k, ?_, h (.bl b) H' G' F' s o (.bl b)⟩
  rcases su.fl with ⟨_, z⟩ | ⟨dx, fs, q1, q2, q3, q4⟩
  · exact .inl z
  · exact .inr ⟨dx, fs, q1, o.f1 dx _ q2 q3⟩
/-- an own class -/
theorem d_xisO {m : Str} {C2 : Addr} (su : SuOk X Φ mt i a cls d x) (hz : Zc cls d oe) (hf : ∃ vs, oe.data = .fields vs) (T : ∀ y c b, mi y = some b → X.mg y = some c → ∃ C, c = .ref C ∧ ExcC X.K C ∧ PySem.W.kitOne X.K (.ref C) (.ref C2) = some b)
    (hm : X.mg "isinstance" = none) (hm2 : X.mg m = some (.ref C2)) (hn : DE (X.suite a ((a, oe) :: pn)) Φ W (.Name n p) (eVar i)) (hg : Gl X "isinstance" := by rfl) (hg2 : Gl X m := by rfl) (hd2 : (m == ("__debug__" : Str)) = false := by decide)
    (he : starEach [.Name n p, .Name m p2] X.env = (false, eval (.Name n p) X.env) :: starEach [.Name m p2] X.env := by rfl) (he2 : starEach [.Name m p2] X.env = (false, eval (.Name m p2) X.env) :: starEach [] X.env := by rfl) (hpl : (backTo pos (starEach [.Name m p2] X.env)).any (·.1) = false := by rfl) {p3 : Pos} :
    DE (X.suite a ((a, oe) :: pn)) Φ W (.Call (.Name "isinstance" p3) [.Name n p, .Name m p2] [] pos) (eXis x i mi) := by
  constructor
  intro pins s σ H Q I h
  obtain ⟨G, F, e, O, h⟩ := h
  unfold eXis at h
  split at h
  · rename_i hi
    split at h
    · rename_i b hl
      obtain ⟨C, rfl, T1, T2⟩ := T _ _ _ hl su.mg
      exact (pe_callB (X := X.suite a ((a, oe) :: pn)) (call_isX T1 hz hf) hg hm (by decide +kernel) (pa_cons hn (pa_cons (pe_glob (v := .ref C2) hg2 hm2 rfl hd2) pa_nil he2) he) (by decide) (by decide) he hpl).run pins s σ H Q I
        ⟨G, F, e, O, is_read (X := X) (K := X.K) (mg := X.mg) su hi O (fun u r => r) T2 h⟩
    · exact h.elim
  · exact h.elim
/-- a built-in class -/
theorem d_xisB {m : Str} {T2 : String} (su : SuOk X Φ mt i a cls d x) (hz : Zc cls d oe) (hf : ∃ vs, oe.data = .fields vs) (T : ∀ y c b, mi y = some b → X.mg y = some c → ∃ C, c = .ref C ∧ ExcC X.K C ∧ PySem.W.kitOne X.K (.ref C) (.type T2) = some b)
    (hm : X.mg "isinstance" = none) (hm2 : X.mg m = none) (hn : DE (X.suite a ((a, oe) :: pn)) Φ W (.Name n p) (eVar i)) (hv2 : bootBuiltins m = some (.type T2) := by decide +kernel) (hg : Gl X "isinstance" := by rfl) (hg2 : Gl X m := by rfl) (hn2 : m ≠ "__name__" := by decide) (hd2 : (m == ("__debug__" : Str)) = false := by decide)
    (he : starEach [.Name n p, .Name m p2] X.env = (false, eval (.Name n p) X.env) :: starEach [.Name m p2] X.env := by rfl) (he2 : starEach [.Name m p2] X.env = (false, eval (.Name m p2) X.env) :: starEach [] X.env := by rfl) (hpl : (backTo pos (starEach [.Name m p2] X.env)).any (·.1) = false := by rfl) {p3 : Pos} :
    DE (X.suite a ((a, oe) :: pn)) Φ W (.Call (.Name "isinstance" p3) [.Name n p, .Name m p2] [] pos) (eXis x i mi) := by
  constructor
  intro pins s σ H Q I h
  obtain ⟨G, F, e, O, h⟩ := h
  unfold eXis at h
  split at h
  · rename_i hi
    split at h
    · rename_i b hl
      obtain ⟨C, rfl, T1, T3⟩ := T _ _ _ hl su.mg
      exact (pe_callB (X := X.suite a ((a, oe) :: pn)) (call_isX T1 hz hf) hg hm (by decide +kernel) (pa_cons hn (pa_cons (pe_bltn (v := .ty T2) hg2 hm2 hv2 rfl hn2 hd2) pa_nil he2) he) (by decide) (by decide) he hpl).run pins s σ H Q I
        ⟨G, F, e, O, is_read (X := X) (K := X.K) (mg := X.mg) su hi O (fun u r => r) T3 h⟩
    · exact h.elim
  · exact h.elim
end
end DL
namespace DL
open PySem L2
def clsBody : Stmt → List Stmt
  | .ClassDef (body := b) .. => b
  | _ => []
/-- an own error with one field can be made -/
def ExR (P : Program) (w : World) (K : PySem.W.Frag) (mg : Str → Option Value) (base : Heap) (C : Addr) (f : Str) : Prop := ∃ fI fd ps, OexF K C fI f ∧ FnOk P w K mg base CX0 1 fI fd ps (spI K f) ∧ Binds K fd ps []
theorem s_raiseX {X : Cx} {Φ : Fx} {W : WX} {C : Addr} {x fl : Str} {p pos pos' : Pos} {a : Expr} {fa : Ef} (T : ExR X.prog X.w X.K X.mg X.base C fl) (hr : Room 2 X.A) (hc : X.calm = true) (tk : Takes X W) (gC : X.mg x = some (.ref C)) (ha : DE X Φ W a fa) (hg : Gl X x := by rfl) (hdb : (x == ("__debug__" : Str)) = false := by decide)
    (he : starEach (a :: []) X.env = (false, eval a X.env) :: starEach [] X.env := by rfl) (hpl : (backTo pos (starEach [] X.env)).any (·.1) = false := by rfl) :
    DS X Φ W (.Raise (some (.Call (.Name x p) [a] [] pos)) none pos') (sRaise1 x fl fa) := by
  obtain ⟨fI, fd, ps, T, F1, hb⟩ := T
  exact s_raise1 T F1 hr hb hc tk gC ha hg hdb he hpl
def excCB (K : PySem.W.Frag) (D : Addr) : Bool := decide (PySem.W.findIn K (.ref D) "__getattribute__" = some (some (.builtin "BaseException.__getattribute__"))) && (decide (PySem.W.findIn K (.ref D) "__getattr__" = some none) && (decide (PySem.W.subIn K (.ref D) (.type "BaseException") = some true) && (PySem.W.hasDictIn K D &&
  (decide (PySem.W.findIn K (.ref D) "__class__" = some (some (.builtin "object.__class__"))) && (decide (PySem.W.specialIn K (.builtin "object.__class__") "__get__" = some (some (.builtin "getset_descriptor.__get__"))) && (decide (PySem.W.takesIn K (.builtin "object.__class__") = some true) && decide (PySem.W.mroIn K D (.type "object") = some true)))))))
theorem excC_ok {K : PySem.W.Frag} {D : Addr} (h : excCB K D = true) : ExcC K D := by
  unfold excCB at h
  simp only [Bool.and_eq_true, decide_eq_true_eq] at h
  obtain ⟨h1, h2, h3, h4, h5, h6, h7, h8⟩ := h
  exact ⟨h1, h2, h3, h4, h5, h6, h7, h8⟩
/-- what the suite of `except .. as e` may ask of a class: its fields, isinstance -/
def heldB (K : PySem.W.Frag) (D : Addr) (f : Str) : Bool := excCB K D && (xfB K D && decide (PySem.W.findIn K (.ref D) f = some none))
structure XHeld (K : PySem.W.Frag) (D : Addr) (f : Str) : Prop where
  c : ExcC K D
  x : XfC K D
  n : PySem.W.findIn K (.ref D) f = some none
theorem held_ok {K : PySem.W.Frag} {D : Addr} {f : Str} (h : heldB K D f = true) : XHeld K D f := by
  unfold heldB at h
  simp only [Bool.and_eq_true, decide_eq_true_eq] at h
  exact ⟨excC_ok h.1, xfB_ok h.2.1, h.2.2⟩
end DL
namespace DL
open PySem L2
/-! ### f() -/
def tCallG0 (sp : Sp) (W : WX) : TE := fun σ H Q => sp [] H Q (WE W σ)
section
variable {X : Cx} {Φ : Fx} {W : WX} {pos p : Pos} {n : Str} {k : Nat} {f : Addr} {fd : FuncData} {ps : List Str} {Fs : Fn} {sp : Sp}
theorem pe_callG0 (Fo : FnG X.prog X.w X.K X.mg X.base k f fd ps sp) (room : Room k X.A) (gu : X.A.guards = some []) (hg : Gl X n) (hm : X.mg n = some (.ref f)) (hk : PySem.W.keepIn X.K (.ref f) = true) (hb : Binds X.K fd ps []) (tk : Takes X W)
    (hdb : (n == ("__debug__" : Str)) = false := by decide) : PE X (.Call (.Name n p) [] [] pos) (tCallG0 sp W) := by
  constructor
  intro pins s σ H Q I h
  refine wpAny_Call_Name_kw (ld_glob I hg hm ?_ hdb)
  have hl : ([] : List Value).length = ps.length := Fo.len _ _ _ _ h
  refine PySem.W.callWith_K0 I.kIn hk (wpAny_call (codeAny_mono (run_g (us := []) Fo room gu tk I ?_ .nil h) fun r s' z => match r, z with
      | .ok (.ret _), z => z
      | .error _, z => z))
  exact hb s [] I.kIn hl
theorem d_call0 (Fo : FnG X.prog X.w X.K X.mg X.base k f fd ps (spF X.K X.mg 0 Fs)) (hr : Room k X.A) (gu : X.A.guards = some []) (hm : X.mg n = some (.ref f)) (hk : PySem.W.keepIn X.K (.ref f) = true) (hb : Binds X.K fd ps []) (tk : Takes X W)
    (hg : Gl X n := by rfl) (hdb : (n == ("__debug__" : Str)) = false := by decide) :
    DR X Φ W (.Call (.Name n p) [] [] pos) (eFnC Fs [] aNil) :=
  pe_weak (pe_callG0 Fo hr gu hg hm hk hb tk hdb) fun σ H Q ⟨G, F, e, O, h⟩ => callR_ok (ms := []) (as := []) (vs := []) O .nil rfl h
end
end DL
namespace DL
open PySem L2
/-- one default that is not wanted: every parameter is given -/
theorem binds_def {K : PySem.W.Frag} {x qual : Str} {params : Arguments} {body : List Stmt} {scope : Scope} {dvs : List V} {kws : List (Str × V)} {f : Addr} {fd : FuncData} {ps : List Str} (F : FunD K x qual params body scope dvs kws f fd) (n : Nat) (hl : dvs.length = 1) (hn : n = ps.length)
    (h : ∀ (T : Addr) (kV doc pm : Value) (an : Option Addr) (cdv ct : Value) (us its : List Value), us.length = n → its.length = 1 → ∃ k, bindArgs (PySem.W.fnOf x qual params body scope (.ref T) kV doc pm an cdv ct) ⟨us, []⟩ = seqItems? (.ref T) >>= k ∧ k (some its.toArray) = pure (ps.zip us)) : Binds K fd ps [] := by
  have d1 : dvs.drop 1 = [] := List.drop_of_length_le (by omega)
  obtain ⟨ds, v, b⟩ := F.binds1 (ps := ps) n 1 (fun z => by rw [z] at hl; cases hl) (by omega) fun T kV doc pm an cdv ct us its h1 h2 => by
    obtain ⟨k, e1, e2⟩ := h T kV doc pm an cdv ct us its h1 (by omega)
    refine ⟨k, e1, ?_⟩
    rw [List.drop_of_length_le (by omega), List.append_nil]
    exact e2
  rw [d1] at v
  cases v
  exact b
end DL
set_option Elab.async false
set_option linter.all false
set_option maxRecDepth 100000
set_option maxHeartbeats 4000000
/-! DlTx: texts: str(n), int(text), one sign * n, a sign in a text. -/
namespace DL
open PySem L2
def sOf (l : List Nat) : Str := ⟨l.toArray⟩
def bStr : List D → Option D
  | [.int i] => if i.natAbs.log2 < 1920 then some (.str (Str.ofString (toString i))) else none
  | _ => none
def bIntT : List D → Option D
  | [.int i] => some (.int i)
  | [.str a] => if a.length ≤ 640 then (PySem.intText? a).map PyData.int else none
  | _ => none
def one? (x : Str) : Option Nat := match x.cps.toList with
  | [c] => some c
  | _ => none
theorem one_ok {x : Str} {c : Nat} (h : one? x = some c) : x = ⟨#[c]⟩ := by
  unfold one? at h
  split at h
  · rename_i q
    cases h
    obtain ⟨⟨l⟩⟩ := x
    have q' : l = [c] := q
    subst q'
    rfl
  · cases h
def dMulT : D → D → Option D
  | .int i, .int j => if (Builtin.Int.intBits i : Int) + (Builtin.Int.intBits j : Int) ≤ 134217728 then some (.int (i * j)) else none
  | .str x, .int k => match one? x with
    | some c => if -1000000 ≤ k ∧ k ≤ 1000000 then some (.str (sOf (List.replicate k.toNat c))) else none
    | none => none
  | _, _ => none
def dInT : D → D → Option D
  | .str x, .str z => (one? x).map fun c => .bool (decide (c ∈ z.cps.toList))
  | x, y => dIn x y
def dNotInT : D → D → Option D
  | .str x, .str z => (one? x).map fun c => .bool (!decide (c ∈ z.cps.toList))
  | x, y => dNotIn x y
section
variable {X : Cx}
theorem cr_dStr : CallR X (.type "str") (rP X.K bStr) := by
  intro pins s σ H xs us Q I r h
  obtain ⟨G, ds, d, gh, b, ho, k⟩ := h
  unfold bStr at ho
  split at ho
  · split at ho
    · rename_i hc
      cases ho
      obtain ⟨v, rfl, b1⟩ := bpa1 b
      obtain rfl := b1.int
      exact call_str_int pins s σ H _ us Q I r ⟨_, rfl, hc, k _ _ _ (Grow.refl gh) (.str _)⟩
    · cases ho
  · cases ho
theorem cr_dIntT : CallR X (.type "int") (rP X.K bIntT) := by
  intro pins s σ H xs us Q I r h
  obtain ⟨G, ds, d, gh, b, ho, k⟩ := h
  unfold bIntT at ho
  split at ho
  · cases ho
    obtain ⟨v, rfl, b1⟩ := bpa1 b
    obtain rfl := b1.int
    exact call_int1 pins s σ H _ us Q I r (.inl ⟨_, rfl, k _ _ _ (Grow.refl gh) (.int _)⟩)
  · split at ho
    · rename_i hc
      obtain ⟨v, rfl, b1⟩ := bpa1 b
      obtain rfl := b1.str
      obtain ⟨n, h1, h2⟩ := Option.map_eq_some_iff.mp ho
      subst h2
      exact call_int_str pins s σ H _ us Q I r ⟨_, n, rfl, h1, hc, k _ _ _ (Grow.refl gh) (.int _)⟩
    · cases ho
  · cases ho
theorem rep_fold (c : Nat) : ∀ (n : Nat) (a : Array Nat), (List.replicate n #[c]).foldl (· ++ ·) a = a ++ (List.replicate n c).toArray
  | 0, a => by simp
  | n + 1, a => by
    rw [List.replicate_succ, List.foldl_cons, rep_fold c n, List.replicate_succ]
    apply Array.toList_inj.mp
    simp
theorem mul_one (c : Nat) (k : Int) : Txt.mul ⟨#[c]⟩ k = sOf (List.replicate k.toNat c) := by
  unfold Txt.mul sOf
  by_cases h1 : k < 1
  · rw [if_pos h1]
    have : k.toNat = 0 := by omega
    rw [this]
    rfl
  · rw [if_neg h1]
    by_cases h2 : k = 1
    · subst h2
      rfl
    · have e : (k == 1 || (⟨#[c]⟩ : Str).length == 0) = false := by
        have e1 : (k == 1) = false := by simpa using h2
        rw [e1]
        rfl
      rw [if_neg (by rw [e]; exact Bool.false_ne_true)]
      show (⟨(List.replicate k.toNat #[c]).foldl (· ++ ·) #[]⟩ : Str) = _
      rw [rep_fold]
      simp
theorem mulOk_one (c : Nat) {k : Int} (h1 : -1000000 ≤ k) (h2 : k ≤ 1000000) : MulOk ⟨#[c]⟩ k := by
  have hl : (⟨#[c]⟩ : Str).length = 1 := rfl
  refine ⟨?_, fun q _ => ?_, fun q _ => ?_⟩
  · rw [decide_eq_false (by omega), decide_eq_false (by omega)]
    rfl
  · rw [hl]
    intro z
    have : ((2 : Int) ^ 63 - 1) / k ≥ 1 := by
      have := Int.le_ediv_of_mul_le (a := 1) (b := (2 : Int) ^ 63 - 1) (c := k) (by omega) (by omega)
      exact this
    omega
  · rw [hl, Nat.one_mul]
    unfold Builtin.Str.tooLong
    have : ¬ k.toNat > sizeLine := by
      rw [sizeLine_eq]
      omega
    exact decide_eq_false this
theorem op_dMulT : OpR X (binaryOp .Mult) (r2 X.K dMulT) := by
  intro pins s σ H x y v u Q I rx ry h
  obtain ⟨G, d1, d2, d, gh, b1, b2, ho, k⟩ := h
  unfold dMulT at ho
  split at ho
  · split at ho
    · rename_i hc
      cases ho
      obtain rfl := b1.int
      obtain rfl := b2.int
      exact op_mulX pins s σ H _ _ v u Q I rx ry ⟨_, _, rfl, rfl, hc, k _ _ _ (Grow.refl gh) (.int _)⟩
    · cases ho
  · split at ho
    · rename_i c q
      split at ho
      · rename_i hc
        cases ho
        obtain rfl := one_ok q
        obtain rfl := b1.str
        obtain rfl := b2.int
        obtain ⟨t, rfl⟩ := rx
        obtain ⟨t', rfl⟩ := ry
        refine SB.mul (mulOk_one c hc.1 hc.2) fun t2 tk => ⟨.str (Txt.mul ⟨#[c]⟩ _), _, I.tok _, ⟨t2, rfl⟩, ?_⟩
        rw [mul_one]
        exact k _ _ _ (Grow.refl gh) (.str _)
      · cases ho
    · cases ho
  · cases ho
theorem op_dInT (hu : X.A.units + 65 < cLine) : OpR X (compareOp .In) (r2 X.K dInT) := by
  intro pins s σ H x y v u Q I rx ry h
  obtain ⟨G, d1, d2, d, gh, b1, b2, ho, k⟩ := h
  unfold dInT at ho
  split at ho
  · obtain ⟨c, h1, h2⟩ := Option.map_eq_some_iff.mp ho
    subst h2
    obtain rfl := one_ok h1
    obtain rfl := b1.str
    obtain rfl := b2.str
    exact op_in_sign pins s σ H _ _ v u Q I rx ry ⟨_, _, rfl, rfl, k _ _ _ (Grow.refl gh) (.bl _)⟩
  · exact op_dIn hu pins s σ H x y v u Q I rx ry ⟨G, _, _, d, gh, b1, b2, ho, k⟩
theorem op_dNotInT (hu : X.A.units + 65 < cLine) : OpR X (compareOp .NotIn) (r2 X.K dNotInT) := by
  intro pins s σ H x y v u Q I rx ry h
  obtain ⟨G, d1, d2, d, gh, b1, b2, ho, k⟩ := h
  unfold dNotInT at ho
  split at ho
  · obtain ⟨c, h1, h2⟩ := Option.map_eq_some_iff.mp ho
    subst h2
    obtain rfl := one_ok h1
    obtain rfl := b1.str
    obtain rfl := b2.str
    exact op_notIn_sign pins s σ H _ _ v u Q I rx ry ⟨_, _, rfl, rfl, k _ _ _ (Grow.refl gh) (.bl _)⟩
  · exact op_dNotIn hu pins s σ H x y v u Q I rx ry ⟨G, _, _, d, gh, b1, b2, ho, k⟩
end
end DL
set_option Elab.async false
set_option linter.all false
set_option maxRecDepth 100000
set_option maxHeartbeats 4000000
/-! DlTm: a tuple n times, a list n times, enumerate, range down. -/
namespace L2
open PySem PySem.Spec PyProof.Rows
theorem tuple_mul_1 (l : Addr) (items : Array Value) (n : Nat) (dd : Option Addr) (sl : Array (Option Value)) (u : Tok) :
    Meets (Builtin.«tuple.__mul__» ⟨[.ref l, .int 1 u], []⟩) (fun _ R s => s.heap.get? l = some { cls := .type "tuple", dict := dd, data := .seq items n, slots := sl } ∧ R (.ok (.ret (.ref l))) s) :=
  .of_wp fun prog w A R s h => by
    obtain ⟨hp, g, d, tk, os⟩ := s
    obtain ⟨hl, h⟩ := h
    have f1 := AutoSeq1.idx_int
    have c1 : (items.isEmpty || (1 : Int) == 1) = true := by simp
    wp_walk using wpAny_loadPart' hl
    repeat (first
      | (refine wpAny_ite_true c1 ?_; wp_walk using wpAny_loadPart' hl)
      | (refine wpAny_ite_true (by simp) ?_; wp_walk using wpAny_loadPart' hl)
      | (refine wpAny_ite_false (by simp) ?_; wp_walk using wpAny_loadPart' hl))
    exact ⟨_, rfl, h⟩
theorem tuple_mul_0 (l : Addr) (items : Array Value) (n : Nat) (dd : Option Addr) (sl : Array (Option Value)) (u : Tok) (c : items.isEmpty = false) :
    Meets (Builtin.«tuple.__mul__» ⟨[.ref l, .int 0 u], []⟩) (fun _ R s => s.heap.get? l = some { cls := .type "tuple", dict := dd, data := .seq items n, slots := sl } ∧
      R (.ok (.ret (Value.ref s.heap.objs.size))) { s with heap := s.heap.push { cls := Value.type "tuple", data := Data.seq #[] }, toks := s.toks }) :=
  .of_wp fun prog w A R s h => by
    obtain ⟨hp, g, d, tk, os⟩ := s
    obtain ⟨hl, h⟩ := h
    have f1 := AutoSeq1.idx_int
    have c1 : (items.isEmpty || (0 : Int) == 1) = false := by rw [c]; rfl
    have c2 : (decide ((0 : Int) ≤ 0) || items.isEmpty) = true := by simp
    wp_walk using wpAny_loadPart' hl
    repeat (first
      | (refine wpAny_ite_false (decide_eq_false (by rw [c1]; exact Bool.false_ne_true)) ?_; wp_walk using wpAny_loadPart' hl)
      | (refine wpAny_ite_true (decide_eq_true c2) ?_; wp_walk using wpAny_loadPart' hl)
      | (refine wpAny_ite_false (by rw [c1]; exact Bool.false_ne_true) ?_; wp_walk using wpAny_loadPart' hl)
      | (refine wpAny_ite_true c2 ?_; wp_walk using wpAny_loadPart' hl)
      | (refine wpAny_ite_false (by simp) ?_; wp_walk using wpAny_loadPart' hl)
      | (refine wpAny_ite_true (by simp) ?_; wp_walk using wpAny_loadPart' hl))
    exact ⟨_, rfl, h⟩
def rRepT01 (K : PySem.W.Frag) : R2 := fun x y H Q => ∃ l k xs, x = .ref l ∧ y = .int k ∧ SqT K H l xs ∧ xs ≠ [] ∧ ((k = 1 ∧ Q (.ref l) H) ∨ (k = 0 ∧ ∀ p o, H p = none → o.dict = none → Q (.ref p) (upd H p (.frz o (.tup [])))))
section
variable {X : Cx}
theorem op_repT01 : OpR X (binaryOp .Mult) (rRepT01 X.K) := by
  intro pins s σ H x y v u Q I rx ry h
  obtain ⟨l, k, xs, rfl, rfl, hT, hne, h1⟩ := h
  cases rx
  obtain ⟨t, rfl⟩ := ry
  obtain ⟨its, r, ⟨⟨cls, dd, data, sl⟩, ho, hc, n, hd⟩, hs⟩ := I.tuple hT
  simp only at hc hd
  subst hc hd
  have hle : its.length = xs.length := r.length.symm
  have hn : its ≠ [] := fun e => hne (by
    rw [e] at hle
    exact List.eq_nil_of_length_eq_zero hle.symm)
  have hi : its.toArray.isEmpty = false := by
    cases its with
    | nil => exact absurd rfl hn
    | cons a b => rfl
  rcases h1 with ⟨rfl, q⟩ | ⟨rfl, q⟩
  · refine wpAny_binaryOp_repeat_ref (T := "tuple") (U := "int") (by decide) ⟨_, ho, rfl⟩ (fun s' => typeIs_int s' _ t) noFill_tuple_mul F.fills_int_mul F.slot_int_rmul repeat_tuple F.slot_int_index.lookup
      (call_meets F.slot_int_rmul (typeIs_int s _ t) F.entry_int_rmul (F.args_int_rmul_2 _ _) (int_rmul_tuple _ t l its.toArray n dd sl)
        ⟨ho, rfl, ⟨_, ho, rfl⟩, call_meets F.slot_tuple_mul ⟨_, ho, rfl⟩ F.entry_tuple_mul (F.args_tuple_mul_2 _ _) (tuple_mul_1 l its.toArray n dd sl t) ⟨ho, ?_⟩⟩)
    exact ⟨.ref l, _, I, rfl, q⟩
  · refine wpAny_binaryOp_repeat_ref (T := "tuple") (U := "int") (by decide) ⟨_, ho, rfl⟩ (fun s' => typeIs_int s' _ t) noFill_tuple_mul F.fills_int_mul F.slot_int_rmul repeat_tuple F.slot_int_index.lookup
      (call_meets F.slot_int_rmul (typeIs_int s _ t) F.entry_int_rmul (F.args_int_rmul_2 _ _) (int_rmul_tuple _ t l its.toArray n dd sl)
        ⟨ho, rfl, ⟨_, ho, rfl⟩, call_meets F.slot_tuple_mul ⟨_, ho, rfl⟩ F.entry_tuple_mul (F.args_tuple_mul_2 _ _) (tuple_mul_0 l its.toArray n dd sl t hi) ⟨ho, ?_⟩⟩)
    refine ⟨.ref s.heap.objs.size, _, I.laid (t' := s.toks) (fun b ob q => Heap.get?_push_of_some _ q) (Nat.le_refl _) (DL.ok_frz (u := .tup []) (Heap.get?_push_size _ rfl) ?_), rfl, q _ _ (I.hok.fresh (Nat.le_refl _)) rfl⟩
    exact ⟨Nat.zero_le _, [], .nil, IsTup.new _ _⟩
end
end L2
namespace DL
open PySem L2
theorem DqAll.rep {K : PySem.W.Frag} {G : Hp} {vs : List V} {ds : List D} (p : DqAll K G vs ds) : ∀ k : Nat, DqAll K G (List.replicate k vs).flatten (List.replicate k ds).flatten
  | 0 => .nil
  | k + 1 => by
    rw [List.replicate_succ, List.replicate_succ, List.flatten_cons, List.flatten_cons]
    exact DL.DqAll.app p (DqAll.rep p k)
/-! ### a tuple k times -/
def dMulQ : D → D → Option D
  | .tuple ds, .int k => if ds ≠ [] ∧ 0 ≤ k ∧ k ≤ 1000 ∧ ds.length ≤ 1000 then some (.tuple (List.replicate k.toNat ds).flatten) else none
  | x, y => dMul x y
section
variable {X : Cx}
theorem op_dMulQ : OpR X (binaryOp .Mult) (r2 X.K dMulQ) := by
  intro pins s σ H x y v u Q I rx ry h
  obtain ⟨G, d1, d2, d, gh, b1, b2, ho, k⟩ := h
  unfold dMulQ at ho
  split at ho
  · rename_i ds c
    split at ho
    · rename_i hc
      obtain ⟨h1, h2, h3, h4⟩ := hc
      cases ho
      obtain rfl := b2.int
      cases b1 with
      | dp hp =>
      cases hp with
      | @tup a vs _ t1 nd t2 =>
        have hne : vs ≠ [] := fun e => h1 (by
          have := DqAll.len t2
          rw [e] at this
          exact List.eq_nil_of_length_eq_zero this.symm)
        have new : ∀ p o, H p = none → o.dict = none → Q (.ref p) (upd H p (.frz o (.tup (List.replicate c.toNat vs).flatten))) := fun p o hp hd =>
          k _ _ _ (Grow.laid gh hp) (Dq.newT (same_back gh hp) hd (DqAll.rep t2 _))
        rcases Int.lt_or_le c 2 with hl | hl
        · refine op_repT01 pins s σ H _ _ v u Q I rx ry ⟨a, c, vs, rfl, rfl, same_t gh t1, hne, ?_⟩
          have : c = 0 ∨ c = 1 := by omega
          rcases this with rfl | rfl
          · exact .inr ⟨rfl, new⟩
          · refine .inl ⟨rfl, k _ _ _ (Grow.refl gh) ?_⟩
            have e : (List.replicate (1 : Int).toNat ds).flatten = ds := by
              show ds ++ [] = ds
              exact List.append_nil ds
            rw [e]
            exact .tup t1 nd t2
        · refine op_repF pins s σ H _ _ v u Q I rx ry ⟨a, c, vs, rfl, rfl, same_t gh t1, hne, hl, h3, by rw [DqAll.len t2]; exact h4, new⟩
    · cases ho
  · exact op_dMul pins s σ H x y v u Q I rx ry ⟨G, _, _, d, gh, b1, b2, ho, k⟩
end
/-! ### a new list k times -/
def eRep (fa : Rf) (fb : Ef) : Rf := fun e => (fa e).bind fun r e1 => (fb e1).bind fun b e2 => match lsR r e2 with
  | some xs => match rd1 e2 b with
    | some (.int k) => if 0 ≤ k ∧ k ≤ 1000 ∧ xs.length ≤ 1000 then .ok (.new (.ls (List.replicate k.toNat xs).flatten)) e2 else .no
    | _ => .no
  | none => .no
section
variable {X : Cx} {Φ : Fx} {W : WX} {x y : Expr} {fa : Rf} {fb : Ef} {pos : Pos}
theorem d_rep (ha : DR X Φ W x fa) (hb : ∀ Φ, DE X Φ W y fb) : DR X Φ W (.BinOp x .Mult y pos) (eRep fa fb) :=
  pe_weak (pe_op op_rep ha (pe_ex hb)) fun σ H Q ⟨G, F, e, O, h⟩ => ⟨G, F, e, O, Wp.imp (Wp.seq h) fun v H1 ⟨G1, F1, e1, r1, g1, O1, q1, h1⟩ => by
    obtain ⟨A1, L1, P1⟩ := Held.mk' O1 q1
    refine ⟨_, G1, F1, e1, P1, Wp.imp (Wp.seqP (fun o => L1.cv o) h1) fun w H2 ⟨G2, F2, e2, b, g2, O2, q2, h2⟩ => ?_⟩
    have O3 := L1.cv O2
    have k1 : (∃ a, r1 = .arg a ∧ ra X.K a v H2 G2 F2 σ e2) ∨ ∃ w A a, r1 = .new w ∧ v = .ref a ∧ OwAt X.K G2 H2 w a A := by
      cases r1 with
      | arg a => exact .inl ⟨a, rfl, ra_up (L1.ar a rfl) g2⟩
      | new u =>
        obtain ⟨A, _, y1⟩ := L1.rx O2 g2 (Same.refl _) (.inr ⟨u, rfl, rfl⟩)
        obtain ⟨a, ea, oa, _⟩ := y1
        exact .inr ⟨u, A, a, rfl, ea, oa⟩
    split at h2
    · rename_i xs z1
      split at h2
      · rename_i k z2
        split at h2
        · rename_i hl
          obtain ⟨l, vs, rfl, hH, d1⟩ := lsR_ok O3 k1 z1
          obtain rfl := (bp_of O3 q2 z2).int
          refine ⟨l, k, vs, rfl, rfl, hH, by omega, by omega, ?_, fun p hp => ?_⟩
          · rw [DqAll.len d1, sizeLine_eq]
            have a1 : xs.length * k.toNat ≤ 1000 * 1000 := Nat.mul_le_mul hl.2.2 (by omega)
            omega
          · obtain ⟨z1, z2⟩ := rr_new O3 hp (DqAll.rep d1 k.toNat)
            exact h2 _ _ _ F2 (Same.refl _) z1 z2
        · exact h2.elim
      · exact h2.elim
    · exact h2.elim⟩
end
/-! ### enumerate, range down -/
section
variable {X : Cx} {Φ : Fx} {W : WX} {tg x y z : Expr} {fs : Af} {pos p : Pos}
theorem i_enum {elts : List Expr} {kk : Nat} {tpos : Pos} (hm : X.mg "enumerate" = none) (ha : DA X Φ W [x] fs) (hg : Gl X "enumerate" := by rfl) (hs : starEach [x] X.env = [(false, eval x X.env)] := by rfl) :
    DI X Φ W (.Tuple elts kk tpos) (.Call (.Name "enumerate" p) [x] [] pos) (iEnumF fs) :=
  pi_weak (pi_enumF hg hm ha hs) fun σ H R ⟨G, F, e, O, h⟩ => ⟨G, F, e, O, Wp.imp (Wp.seq h) fun vs H1 ⟨G1, F1, e1, as, g1, O1, r1, h1⟩ => by
    obtain ⟨G2, e2, ds, g2, O2, d2, h2⟩ := Wp.fzA O1 r1 h1
    split at h2
    · rename_i xs
      cases d2 with
      | cons a t =>
        cases t
        cases a with
        | lst l1 p1 => exact ⟨_, _, rfl, same_l O2.gh l1, h2 _ H1 G2 F1 (Same.refl _) O2 (walk_en l1 p1)⟩
    · exact h2.elim⟩
theorem i_down (hm : X.mg "range" = none) (ha : DA X Φ W [x, y, z] fs) (hg : Gl X "range" := by rfl)
    (hs : starEach [x, y, z] X.env = (false, eval x X.env) :: starEach [y, z] X.env := by rfl) (hpl : (backTo pos (starEach [y, z] X.env)).any (·.1) = false := by rfl) :
    DI X Φ W tg (.Call (.Name "range" p) [x, y, z] [] pos) (iDownF fs) :=
  pi_weak (pi_range3 hg hm ha hs hpl) fun σ H R ⟨G, F, e, O, h⟩ => ⟨G, F, e, O, Wp.imp (Wp.seq h) fun vs H1 ⟨G1, F1, e1, as, g1, O1, r1, h1⟩ => by
    split at h1
    · rename_i m n c q
      split at h1
      · rename_i hn
        obtain ⟨rfl, hm, hn⟩ := hn
        obtain ⟨v, v', v'', rfl, b, b', b''⟩ := bpa3 (bps_of O1 r1 q)
        obtain rfl := b.int
        obtain rfl := b'.int
        obtain rfl := b''.int
        exact ⟨m, n, -1, _, rfl, RgC.neg (small62_iff hm).1 (small62_iff hm).2 (small62_iff hn).1 (small62_iff hn).2, h1 _ H1 G1 F1 (Same.refl _) O1 walk_rc⟩
      · exact h1.elim
    · exact h1.elim⟩
end
end DL
set_option Elab.async false
set_option linter.all false
set_option maxRecDepth 100000
set_option maxHeartbeats 4000000
/-! DlZ: zip over any two of lists and tuples (one proof for the four cases, by the kind of each side). -/
namespace DL
open PySem PySem.Spec PyProof.Rows L2

/-- a side of a zip: a list, a tuple -/
inductive SK where
  | l
  | t
def SK.has : SK → Heap → Addr → Array Value → Prop
  | .l, h, a, xs => h.IsList a xs
  | .t, h, a, xs => h.IsTuple a xs
def SK.cur : SK → Heap → Addr → Addr → Nat → Prop
  | .l, h, it, a, i => h.IsListIter it a i
  | .t, h, it, a, i => h.IsTupleIter it a i
def SK.sq (k : SK) (K : PySem.W.Frag) (H : Hp) (a : Addr) (xs : List V) : Prop := match k with
  | .l => SqL K H a xs
  | .t => SqT K H a xs
def SK.new (k : SK) (a : Addr) : Obj := match k with
  | .l => { cls := .type "list_iterator", data := .fields #[.ref a, .int 0 0] }
  | .t => { cls := .type "tuple_iterator", data := .fields #[.ref a, .int 0 0] }
section
variable {h h' : Heap} {b a it : Addr} {xs : Array Value} {i : Nat}
theorem SK.has_ext (k : SK) (x : k.has h a xs) (e : Heap.ExtBut b h h') (n : a ≠ b) : k.has h' a xs := by
  cases k with
  | l => exact Heap.IsList.extBut x e n
  | t => exact Heap.IsTuple.extBut x e n
theorem SK.cur_ext (k : SK) (x : k.cur h it a i) (e : Heap.ExtBut b h h') (n : it ≠ b) : k.cur h' it a i := by
  cases k with
  | l => exact Heap.IsListIter.extBut x e n
  | t => exact Heap.IsTupleIter.extBut x e n
theorem SK.cur_at (k : SK) (x : k.cur h it a i) (f : ∀ o, h.get? it = some o → h'.get? it = some o) : k.cur h' it a i := by
  cases k with
  | l => exact Heap.IsListIter.at x f
  | t => exact Heap.IsTupleIter.at x f
theorem SK.cur_lt (k : SK) (x : k.cur h it a i) : it < h.objs.size := by
  cases k with
  | l =>
    obtain ⟨_, e, _⟩ := x
    exact Heap.lt_size e
  | t =>
    obtain ⟨_, e, _⟩ := x
    exact Heap.lt_size e
theorem SK.cur_obj (k : SK) (x : k.cur h it a i) : ∃ o, h.get? it = some o ∧ ∃ vs, o.data = .fields vs := by
  cases k with
  | l =>
    obtain ⟨o, e, _, d⟩ := x
    exact ⟨o, e, _, d⟩
  | t =>
    obtain ⟨o, e, _, d⟩ := x
    exact ⟨o, e, _, d⟩
theorem SK.has_lt (k : SK) (x : k.has h a xs) : a < h.objs.size := by
  cases k with
  | l =>
    obtain ⟨_, e, _⟩ := x
    exact Heap.lt_size e
  | t =>
    obtain ⟨_, e, _⟩ := x
    exact Heap.lt_size e
theorem SK.has_push (k : SK) (x : k.has h a xs) (o : Obj) : k.has (h.push o) a xs := by
  cases k with
  | l => exact Heap.IsList.push x _
  | t => exact Heap.IsTuple.push x _
theorem SK.cur_new (k : SK) (e : h.get? it = some (k.new a)) : k.cur h it a 0 := by
  cases k with
  | l => exact ⟨_, e, rfl, rfl⟩
  | t => exact ⟨_, e, rfl, rfl⟩
end
section
variable {prog : Program} {w : World} {A : Around} {E : Value → Shared → Prop} {s : Shared} {it a : Addr} {i : Nat} {xs : Array Value} {x : Value}
theorem SK.step (k : SK) {Q : Value → Shared → Prop} (c : k.cur s.heap it a i) (l : k.has s.heap a xs) (e : xs[i]? = some x) (hQ : ∀ h', k.cur h' it a (i + 1) → Heap.SameBut it s.heap h' → Q x { s with heap := h' }) :
    wpAny (model prog w) A (Builtin.SmallTypes.nextOf (.ref it)) Q E s := by
  cases k with
  | l => exact wpAny_nextOf_list_item c l e hQ
  | t => exact RZ.nextOf_tuple_item c l e hQ
theorem SK.stop (k : SK) {Q : Value → Shared → Prop} (hh : A.handled = none) (c : k.cur s.heap it a i) (l : k.has s.heap a xs) (e : xs[i]? = none)
    (hE : ∀ h' e, Heap.ExtBut it s.heap h' → (∃ o, h'.get? e = some o ∧ o.cls = .type "StopIteration") → E (.ref e) { s with heap := h' }) : wpAny (model prog w) A (Builtin.SmallTypes.nextOf (.ref it)) Q E s := by
  cases k with
  | l => exact wpAny_nextOf_list_end hh c l e hE
  | t => exact RZ.nextOf_tuple_end hh c l e hE
theorem SK.iter (k : SK) {Q : Value → Shared → Prop} (l : k.has s.heap a xs) (hQ : Q (.ref s.heap.objs.size) { s with heap := s.heap.push (k.new a) }) : wpAny (model prog w) A (pyIter (.ref a)) Q E s := by
  cases k with
  | l => exact wpAny_pyIter_list l hQ
  | t => exact wpAny_pyIter_tuple l hQ
end

/-- the state of a zip between two turns -/
structure ZSt (k1 k2 : SK) (h : Heap) (z TI TO i1 i2 l1 l2 : Addr) (n1 n2 : Nat) : Prop where
  z : IsZip h z TI TO .none
  ti : IsPair h TI (.ref i1) (.ref i2)
  c1 : k1.cur h i1 l1 n1
  c2 : k2.cur h i2 l2 n2
section
variable {prog : Program} {w : World} {A : Around} {E : Value → Shared → Prop} {s : Shared} {k1 k2 : SK} {z TI TO i1 i2 l1 l2 : Addr} {n1 n2 : Nat} {xs ys : Array Value} {x y a b : Value}
theorem zip_item (D : ZipApart z TI TO i1 i2 l1 l2) (S : ZSt k1 k2 s.heap z TI TO i1 i2 l1 l2 n1 n2) (hTO : IsPair s.heap TO a b) (hl1 : k1.has s.heap l1 xs) (hl2 : k2.has s.heap l2 ys) (hx : xs[n1]? = some x) (hy : ys[n2]? = some y) {Q : Value → Shared → Prop}
    (hQ : ∀ h', IsZip h' z TI TO (rawInt s.heap.objs.size) → IsPair h' TO x y → k1.cur h' i1 l1 (n1 + 1) → k2.cur h' i2 l2 (n2 + 1) → IsPair h' s.heap.objs.size x y → h'.objs.size = s.heap.objs.size + 1 →
      (∀ c o, c ≠ z → c ≠ TO → c ≠ i1 → c ≠ i2 → s.heap.get? c = some o → h'.get? c = some o) → Q (.ref s.heap.objs.size) { s with heap := h' }) :
    wpAny (model prog w) A (Builtin.«zip.__next__» ⟨[.ref z], []⟩) (fun fin s' => ∃ v, fin = .done (.ret v) ∧ Q v s') E s := by
  show wpAny _ _ (field (.ref z) 2 >>= _) _ _ _
  refine wpAny_bind (wpAny_field S.z rfl (x := .bool false) rfl ?_)
  show wpAny _ _ (field (.ref z) 3 >>= _) _ _ _
  refine wpAny_bind (wpAny_field S.z rfl (x := .ref TI) rfl (wpAny_bind (wpAny_seqItems S.ti rfl ?_)))
  show wpAny _ _ (Builtin.SmallTypes.ownedTupleIsFree (.ref z) >>= _) _ _ _
  refine wpAny_bind ?_
  unfold Builtin.SmallTypes.ownedTupleIsFree
  refine wpAny_bind (wpAny_field S.z rfl (x := .none) rfl (wpAny_pure ?_))
  simp only [if_true]
  refine wpAny_bind (wpAny_rule (wpAny_bind (wpAny_field S.z rfl (x := .ref TO) rfl (wpAny_bind (wpAny_setField_rec S.z (by simp) fun g1 zz1 e1 => ?_)))))
  replace zz1 : IsZip g1 z TI TO .ellipsis := zz1
  refine wpAny_bind ?_
  simp only [List.zipIdx_cons, List.zipIdx_nil, List.forIn_cons, List.forIn_nil]
  refine wpAny_bind (wpAny_bind (wpAny_onRaise ?_))
  show wpAny _ _ (Builtin.SmallTypes.nextOf (.ref i1) >>= _) _ _ _
  refine wpAny_bind (k1.step (k1.cur_ext S.c1 e1.extBut D.i1z) (k1.has_ext hl1 e1.extBut D.l1z) hx fun g2 c2 e2 => wpAny_pure ?_)
  have t2 : IsPair g2 TO a b := e2.extBut _ _ D.TOi1 (e1.extBut _ _ D.TOz hTO)
  refine wpAny_bind (wpAny_seqItems t2 rfl (wpAny_bind (wpAny_updateSeq_pair t2 fun g3 t3 e3 => wpAny_bind (wpAny_letGo (wpAny_pure ?_)))))
  replace t3 : IsPair g3 TO x b := t3
  refine wpAny_bind (wpAny_bind (wpAny_onRaise ?_))
  show wpAny _ _ (Builtin.SmallTypes.nextOf (.ref i2) >>= _) _ _ _
  have u2 := k2.cur_ext (k2.cur_ext (k2.cur_ext S.c2 e1.extBut D.i2z) e2.extBut D.i12.symm) e3.extBut D.TOi2.symm
  have v2 := k2.has_ext (k2.has_ext (k2.has_ext hl2 e1.extBut D.l2z) e2.extBut D.l2i1) e3.extBut D.l2TO
  refine wpAny_bind (k2.step u2 v2 hy fun g4 c4 e4 => wpAny_pure ?_)
  have t4 : IsPair g4 TO x b := e4.extBut _ _ D.TOi2 t3
  refine wpAny_bind (wpAny_seqItems t4 rfl (wpAny_bind (wpAny_updateSeq_pair t4 fun g5 t5 e5 => wpAny_bind (wpAny_letGo (wpAny_pure (wpAny_pure ?_))))))
  replace t5 : IsPair g5 TO x y := t5
  refine wpAny_bind (wpAny_seqItems t5 rfl (wpAny_bind (wpAny_newTuple ?_)))
  have size5 : g5.objs.size = s.heap.objs.size := e5.1.trans (e4.1.trans (e3.1.trans (e2.1.trans e1.1)))
  have zz5 : IsZip g5 z TI TO .ellipsis := e5.extBut _ _ D.TOz.symm (e4.extBut _ _ D.i2z.symm (e3.extBut _ _ D.TOz.symm (e2.extBut _ _ D.i1z.symm zz1)))
  have old5 : ∀ c o, c ≠ z → c ≠ TO → c ≠ i1 → c ≠ i2 → s.heap.get? c = some o → g5.get? c = some o := fun c o q1 q2 q3 q4 e => e5.extBut _ _ q2 (e4.extBut _ _ q4 (e3.extBut _ _ q2 (e2.extBut _ _ q3 (e1.extBut _ _ q1 e))))
  have c15 : k1.cur g5 i1 l1 (n1 + 1) := k1.cur_ext (k1.cur_ext (k1.cur_ext c2 e3.extBut D.TOi1.symm) e4.extBut D.i12) e5.extBut D.TOi1.symm
  have c25 : k2.cur g5 i2 l2 (n2 + 1) := k2.cur_ext c4 e5.extBut D.TOi2.symm
  have zl : z < g5.objs.size := Heap.lt_size zz5
  show wpAny _ _ (Builtin.SmallTypes.ownedTupleHandOut (.ref z) (.ref g5.objs.size) >>= _) _ _ _
  refine wpAny_bind ?_
  unfold Builtin.SmallTypes.ownedTupleHandOut
  have zz6 : IsZip (g5.push { cls := .type "tuple", data := .seq #[x, y] }) z TI TO .ellipsis := Heap.get?_push_of_some _ zz5
  refine wpAny_bind (wpAny_setField_rec zz6 (by simp) fun g7 zz7 e7 => ?_)
  replace zz7 : IsZip g7 z TI TO (rawInt g5.objs.size) := zz7
  refine wpAny_setField_rec zz7 (by simp) fun g8 zz8 e8 => ?_
  replace zz8 : IsZip g8 z TI TO (rawInt g5.objs.size) := zz8
  have up : ∀ c o, c ≠ z → g5.get? c = some o → g8.get? c = some o := fun c o q e => e8.extBut _ _ q (e7.extBut _ _ q (Heap.get?_push_of_some _ e))
  have t8 : IsPair g8 g5.objs.size x y := e8.extBut _ _ (Nat.ne_of_gt zl) (e7.extBut _ _ (Nat.ne_of_gt zl) (Heap.get?_push_size _ rfl))
  have size8 : g8.objs.size = g5.objs.size + 1 := by rw [e8.1, e7.1, Heap.size_push]
  rw [size5] at zz8 t8 size8
  refine wpAny_pure ⟨_, rfl, ?_⟩
  show Q (.ref g5.objs.size) _
  rw [size5]
  exact hQ g8 zz8 (up _ _ D.TOz t5) (k1.cur_at c15 fun o e => up _ o D.i1z e) (k2.cur_at c25 fun o e => up _ o D.i2z e) t8 size8 fun c o q1 q2 q3 q4 e => up c o q1 (old5 c o q1 q2 q3 q4 e)
theorem zip_end (hh : A.handled = none) (D : ZipApart z TI TO i1 i2 l1 l2) (S : ZSt k1 k2 s.heap z TI TO i1 i2 l1 l2 n1 n2) (hTO : IsPair s.heap TO a b) (hl1 : k1.has s.heap l1 xs) (hl2 : k2.has s.heap l2 ys) (hend : xs[n1]? = none ∨ ys[n2]? = none) {Q : Fin → Shared → Prop}
    (hE : ∀ h' e, (∀ c o, c ≠ z → c ≠ TO → c ≠ i1 → c ≠ i2 → s.heap.get? c = some o → h'.get? c = some o) → (∃ o, h'.get? e = some o ∧ o.cls = .type "StopIteration") → E (.ref e) { s with heap := h' }) :
    wpAny (model prog w) A (Builtin.«zip.__next__» ⟨[.ref z], []⟩) Q E s := by
  show wpAny _ _ (field (.ref z) 2 >>= _) _ _ _
  refine wpAny_bind (wpAny_field S.z rfl (x := .bool false) rfl ?_)
  show wpAny _ _ (field (.ref z) 3 >>= _) _ _ _
  refine wpAny_bind (wpAny_field S.z rfl (x := .ref TI) rfl (wpAny_bind (wpAny_seqItems S.ti rfl ?_)))
  show wpAny _ _ (Builtin.SmallTypes.ownedTupleIsFree (.ref z) >>= _) _ _ _
  refine wpAny_bind ?_
  unfold Builtin.SmallTypes.ownedTupleIsFree
  refine wpAny_bind (wpAny_field S.z rfl (x := .none) rfl (wpAny_pure ?_))
  simp only [if_true]
  refine wpAny_bind (wpAny_rule (wpAny_bind (wpAny_field S.z rfl (x := .ref TO) rfl (wpAny_bind (wpAny_setField_rec S.z (by simp) fun g1 zz1 e1 => ?_)))))
  replace zz1 : IsZip g1 z TI TO .ellipsis := zz1
  refine wpAny_bind ?_
  simp only [List.zipIdx_cons, List.zipIdx_nil, List.forIn_cons, List.forIn_nil]
  refine wpAny_bind (wpAny_bind (wpAny_onRaise ?_))
  show wpAny _ _ (Builtin.SmallTypes.nextOf (.ref i1) >>= _) _ _ _
  have u1 := k1.cur_ext S.c1 e1.extBut D.i1z
  have v1 := k1.has_ext hl1 e1.extBut D.l1z
  cases hx : xs[n1]? with
  | none =>
    refine wpAny_bind (k1.stop hh u1 v1 hx fun g2 e f2 ⟨oe, he, ce⟩ => ?_)
    have zz2 : IsZip g2 z TI TO .ellipsis := f2 _ _ D.i1z.symm zz1
    have ez : e ≠ z := fun q => by
      subst q
      rw [zz2] at he
      cases he
      simp at ce
    exact wpAny_setField_rec zz2 (by simp) fun g3 _ e3 => hE g3 e (fun c o q1 _ q3 _ k => e3.extBut _ _ q1 (f2 _ _ q3 (e1.extBut _ _ q1 k))) ⟨oe, e3.extBut _ _ ez he, ce⟩
  | some x =>
    have hy : ys[n2]? = none := hend.elim (fun q => by rw [hx] at q; cases q) id
    refine wpAny_bind (k1.step u1 v1 hx fun g2 c2 e2 => wpAny_pure ?_)
    have t2 : IsPair g2 TO a b := e2.extBut _ _ D.TOi1 (e1.extBut _ _ D.TOz hTO)
    refine wpAny_bind (wpAny_seqItems t2 rfl (wpAny_bind (wpAny_updateSeq_pair t2 fun g3 t3 e3 => wpAny_bind (wpAny_letGo (wpAny_pure ?_)))))
    refine wpAny_bind (wpAny_bind (wpAny_onRaise ?_))
    show wpAny _ _ (Builtin.SmallTypes.nextOf (.ref i2) >>= _) _ _ _
    have u2 := k2.cur_ext (k2.cur_ext (k2.cur_ext S.c2 e1.extBut D.i2z) e2.extBut D.i12.symm) e3.extBut D.TOi2.symm
    have v2 := k2.has_ext (k2.has_ext (k2.has_ext hl2 e1.extBut D.l2z) e2.extBut D.l2i1) e3.extBut D.l2TO
    refine wpAny_bind (k2.stop hh u2 v2 hy fun g4 e f4 ⟨oe, he, ce⟩ => ?_)
    have zz4 : IsZip g4 z TI TO .ellipsis := f4 _ _ D.i2z.symm (e3.extBut _ _ D.TOz.symm (e2.extBut _ _ D.i1z.symm zz1))
    have ez : e ≠ z := fun q => by
      subst q
      rw [zz4] at he
      cases he
      simp at ce
    exact wpAny_setField_rec zz4 (by simp) fun g5 _ e5 => hE g5 e (fun c o q1 q2 q3 q4 k => e5.extBut _ _ q1 (f4 _ _ q4 (e3.extBut _ _ q2 (e2.extBut _ _ q3 (e1.extBut _ _ q1 k))))) ⟨oe, e5.extBut _ _ ez he, ce⟩
end
end DL
set_option Elab.async false
set_option linter.all false
set_option maxRecDepth 100000
set_option maxHeartbeats 4000000
/-! DlY: zip over any two of lists and tuples, as an iteration. -/
namespace DL
open PySem PySem.Spec PyProof.Rows L2
section
variable {prog : Program} {w : World} {A : Around} {E : Value → Shared → Prop} {s : Shared} {k1 k2 : SK} {z TI TO i1 i2 l1 l2 : Addr} {n1 n2 : Nat} {xs ys : Array Value} {x y a b : Value}
theorem zip_next (D : ZipApart z TI TO i1 i2 l1 l2) (S : ZSt k1 k2 s.heap z TI TO i1 i2 l1 l2 n1 n2) (hTO : IsPair s.heap TO a b) (hl1 : k1.has s.heap l1 xs) (hl2 : k2.has s.heap l2 ys) (hx : xs[n1]? = some x) (hy : ys[n2]? = some y) {Q : Option Value → Shared → Prop}
    (hQ : ∀ h', IsZip h' z TI TO (rawInt s.heap.objs.size) → IsPair h' TO x y → k1.cur h' i1 l1 (n1 + 1) → k2.cur h' i2 l2 (n2 + 1) → IsPair h' s.heap.objs.size x y → h'.objs.size = s.heap.objs.size + 1 →
      (∀ c o, c ≠ z → c ≠ TO → c ≠ i1 → c ≠ i2 → s.heap.get? c = some o → h'.get? c = some o) → Q (some (.ref s.heap.objs.size)) { s with heap := h' }) :
    wpAny (model prog w) A (pyNext (.ref z)) Q E s := by
  have hT : s.TypeIs (.ref z) "zip" := ⟨_, S.z, rfl⟩
  unfold pyNext
  exact wpAny_bind (wpAny_attempt (wpAny_callSpecial?_slot (name := Str.ofString "__next__") hT F.slot_zip_next (wpAny_call_entry F.slot_zip_next hT F.entry_zip_next
    (zip_item D S hTO hl1 hl2 hx hy fun h' a1 a2 a3 a4 a5 a6 a7 => wpAny_pure (hQ h' a1 a2 a3 a4 a5 a6 a7)) (F.args_zip_next_1 _))))
theorem zip_done (hh : A.handled = none) (D : ZipApart z TI TO i1 i2 l1 l2) (S : ZSt k1 k2 s.heap z TI TO i1 i2 l1 l2 n1 n2) (hTO : IsPair s.heap TO a b) (hl1 : k1.has s.heap l1 xs) (hl2 : k2.has s.heap l2 ys) (hend : xs[n1]? = none ∨ ys[n2]? = none) {Q : Option Value → Shared → Prop}
    (hQ : ∀ h', (∀ c o, c ≠ z → c ≠ TO → c ≠ i1 → c ≠ i2 → s.heap.get? c = some o → h'.get? c = some o) → Q none { s with heap := h' }) : wpAny (model prog w) A (pyNext (.ref z)) Q E s := by
  have hT : s.TypeIs (.ref z) "zip" := ⟨_, S.z, rfl⟩
  unfold pyNext
  refine wpAny_bind (wpAny_attempt (wpAny_callSpecial?_slot (name := Str.ofString "__next__") hT F.slot_zip_next (wpAny_call_entry F.slot_zip_next hT F.entry_zip_next
    (zip_end (A := A.in1) hh D S hTO hl1 hl2 hend fun h' e hk he => ?_) (F.args_zip_next_1 _))))
  obtain ⟨o, ho, hc⟩ := he
  exact wpAny_bind (wpAny_isInstance (T := "StopIteration") (b := true) ⟨o, ho, hc⟩ isSubtype_stop (wpAny_pure (hQ _ hk)))
end
abbrev zh1 (k1 : SK) (h : Heap) (l1 : Addr) : Heap := h.push (k1.new l1)
abbrev zh2 (k1 k2 : SK) (h : Heap) (l1 l2 : Addr) : Heap := (zh1 k1 h l1).push (k2.new l2)
abbrev zh3 (k1 k2 : SK) (h : Heap) (l1 l2 : Addr) : Heap := (zh2 k1 k2 h l1 l2).push { cls := .type "tuple", data := .seq #[.ref h.objs.size, .ref (zh1 k1 h l1).objs.size] }
abbrev zh4 (k1 k2 : SK) (h : Heap) (l1 l2 : Addr) : Heap := (zh3 k1 k2 h l1 l2).push { cls := .type "tuple", data := .seq #[.none, .none] }
abbrev zh5 (k1 k2 : SK) (h : Heap) (l1 l2 : Addr) : Heap := (zh4 k1 k2 h l1 l2).push { cls := .type "zip", data := .fields #[.none, .bool false, .bool false, .ref (zh2 k1 k2 h l1 l2).objs.size, .ref (zh3 k1 k2 h l1 l2).objs.size] }
theorem meets_zip (k1 k2 : SK) (l1 l2 : Addr) (xs ys : Array Value) :
    Meets (Builtin.«zip.__new__» ⟨[.type "zip", .ref l1, .ref l2], []⟩) (fun _ R s => k1.has s.heap l1 xs ∧ k2.has s.heap l2 ys ∧ R (.ok (.ret (.ref (zh4 k1 k2 s.heap l1 l2).objs.size))) { s with heap := zh5 k1 k2 s.heap l1 l2 }) :=
  .of_wp fun prog w A R s h => by
    obtain ⟨hp, g, d, tk, os⟩ := s
    obtain ⟨hl1, hl2, h⟩ := h
    have hsub := sub_zip
    have h1 : k1.has (Shared.heap ⟨hp, g, d, tk, os⟩) l1 xs := hl1
    have h2 : k2.has (Shared.heap ⟨hp.push (k1.new l1), g, d, tk, os⟩) l2 ys := k2.has_push hl2 _
    wp_walk using k1.iter h1, k2.iter h2
    exact ⟨_, rfl, h⟩
section
variable {prog : Program} {w : World} {A : Around} {E : Value → Shared → Prop} {s : Shared} {k1 k2 : SK}
theorem call_zipK {l1 l2 : Addr} {xs ys : Array Value} {Q : Value → Shared → Prop} (hl1 : k1.has s.heap l1 xs) (hl2 : k2.has s.heap l2 ys)
    (h : ∀ h', ZSt k1 k2 h' (s.heap.objs.size + 4) (s.heap.objs.size + 2) (s.heap.objs.size + 3) s.heap.objs.size (s.heap.objs.size + 1) l1 l2 0 0 → IsPair h' (s.heap.objs.size + 3) .none .none → h'.objs.size = s.heap.objs.size + 5 →
      (∀ c o, s.heap.get? c = some o → h'.get? c = some o) → Q (.ref (s.heap.objs.size + 4)) { s with heap := h' }) :
    wpAny (model prog w) A (call (.type "zip") [.ref l1, .ref l2]) Q E s := by
  refine callType_new F.called_zip (by decide) (F.typeCall_zip_2 _ _) (F.newCall_zip_2 _ _) (fun obj => F.args_object_init_3 obj _ _) F.entry_zip_new (meets_zip k1 k2 l1 l2 xs ys) ⟨hl1, hl2, ?_⟩
  have s1 : (zh1 k1 s.heap l1).objs.size = s.heap.objs.size + 1 := Heap.size_push ..
  have s2 : (zh2 k1 k2 s.heap l1 l2).objs.size = s.heap.objs.size + 2 := by rw [Heap.size_push, s1]
  have s3 : (zh3 k1 k2 s.heap l1 l2).objs.size = s.heap.objs.size + 3 := by rw [Heap.size_push, s2]
  have s4 : (zh4 k1 k2 s.heap l1 l2).objs.size = s.heap.objs.size + 4 := by rw [Heap.size_push, s3]
  have s5 : (zh5 k1 k2 s.heap l1 l2).objs.size = s.heap.objs.size + 5 := by rw [Heap.size_push, s4]
  have free : ∀ (k : SK) (a : Addr), (k.new a).isFreed = false := fun k a => by cases k <;> rfl
  have g5 : (zh5 k1 k2 s.heap l1 l2).get? (zh4 k1 k2 s.heap l1 l2).objs.size = some _ := Heap.get?_push_size _ rfl
  have g4 : (zh5 k1 k2 s.heap l1 l2).get? (zh3 k1 k2 s.heap l1 l2).objs.size = some _ := Heap.get?_push_of_some _ (Heap.get?_push_size _ rfl)
  have g3 : (zh5 k1 k2 s.heap l1 l2).get? (zh2 k1 k2 s.heap l1 l2).objs.size = some _ := Heap.get?_push_of_some _ (Heap.get?_push_of_some _ (Heap.get?_push_size _ rfl))
  have g2 : (zh5 k1 k2 s.heap l1 l2).get? (zh1 k1 s.heap l1).objs.size = some _ := Heap.get?_push_of_some _ (Heap.get?_push_of_some _ (Heap.get?_push_of_some _ (Heap.get?_push_size _ (free k2 l2))))
  have g1 : (zh5 k1 k2 s.heap l1 l2).get? s.heap.objs.size = some _ := Heap.get?_push_of_some _ (Heap.get?_push_of_some _ (Heap.get?_push_of_some _ (Heap.get?_push_of_some _ (Heap.get?_push_size _ (free k1 l1)))))
  show _ ∧ _
  rw [s2, s3, s4] at g5
  rw [s1, s2] at g3
  rw [s3] at g4
  rw [s1] at g2
  rw [s4]
  exact ⟨⟨_, g5, rfl⟩, h _ ⟨g5, g3, k1.cur_new g1, k2.cur_new g2⟩ g4 s5 fun c o x => Heap.get?_push_of_some _ (Heap.get?_push_of_some _ (Heap.get?_push_of_some _ (Heap.get?_push_of_some _ (Heap.get?_push_of_some _ x))))⟩
end
/-- the sides at a and b as they stand at each turn, the items in new pairs -/
def ItK (k1 k2 : SK) (K : PySem.W.Frag) (a b : Addr) : It :=
  ⟨fun i H => ∃ (xs ys : List V) (x y : V), k1.sq K H a xs ∧ k2.sq K H b ys ∧ xs[i]? = some x ∧ ys[i]? = some y,
    fun i H v H' => ∃ T o x y, v = .ref T ∧ H T = none ∧ o.dict = none ∧ H' = upd H T (.frz o (.tup [x, y])) ∧ (∀ xs, k1.sq K H a xs → xs[i]? = some x) ∧ ∀ ys, k2.sq K H b ys → ys[i]? = some y,
    fun i H => ∃ xs ys : List V, k1.sq K H a xs ∧ k2.sq K H b ys ∧ (xs.length ≤ i ∨ ys.length ≤ i)⟩
theorem sq_held {X : Cx} {pins : List (Addr × Obj)} {σ : L2.St} {H : Hp} {s : Shared} {a : Addr} {xs : List V} (k : SK) (I : Inv X pins σ H s) (h : k.sq X.K H a xs) : ∃ its : List Value, Vals xs its ∧ k.has s.heap a its.toArray := by
  cases k with
  | l =>
    obtain ⟨its, r, p, _⟩ := I.list h
    exact ⟨its, r, p.isList⟩
  | t =>
    obtain ⟨its, r, p, _⟩ := I.tuple h
    exact ⟨its, r, p⟩
theorem sq_inj {X : Cx} {pins : List (Addr × Obj)} {σ : L2.St} {H : Hp} {s : Shared} {a : Addr} {xs ys : List V} (k : SK) (I : Inv X pins σ H s) (h : k.sq X.K H a xs) (h' : k.sq X.K H a ys) : xs = ys := by
  cases k with
  | l => exact I.list_inj h h'
  | t => exact I.tuple_inj h h'
theorem turn_zipK {P : Program} {w : World} {K : PySem.W.Frag} {elts : List Expr} {kk : Nat} {tpos : Pos} {k1 k2 : SK} {a b z TI TO i1 i2 : Addr} (D : ZipApart z TI TO i1 i2 a b) :
    Turn P w K (.Tuple elts kk tpos) (ItK k1 k2 K a b) [z, TI, TO, i1, i2] z (fun i h => ZSt k1 k2 h z TI TO i1 i2 a b i i ∧ ∃ x y, IsPair h TO x y) where
  mem := by simp
  obj := fun i h ⟨S, x, y, hTO⟩ c hc => by
    have e' : c = z ∨ c = TI ∨ c = TO ∨ c = i1 ∨ c = i2 := by simpa using hc
    rcases e' with q | q | q | q | q
    · rw [q]; exact ⟨_, S.z, fun v q => nomatch q⟩
    · rw [q]; exact ⟨_, S.ti, fun v q => nomatch q⟩
    · rw [q]; exact ⟨_, hTO, fun v q => nomatch q⟩
    · rw [q]
      obtain ⟨o, e, vs, d⟩ := k1.cur_obj S.c1
      exact ⟨o, e, fun v q => by rw [d] at q; cases q⟩
    · rw [q]
      obtain ⟨o, e, vs, d⟩ := k2.cur_obj S.c2
      exact ⟨o, e, fun v q => by rw [d] at q; cases q⟩
  keep := fun i h h' ⟨S, x, y, hTO⟩ k =>
    ⟨⟨k z (by simp) _ S.z, k TI (by simp) _ S.ti, k1.cur_at S.c1 fun o q => k i1 (by simp) o q, k2.cur_at S.c2 fun o q => k i2 (by simp) o q⟩, x, y, k TO (by simp) _ hTO⟩
  item := by
    intro X hP hw hK hc i pins s σ H E I hf ⟨S, x0, y0, hTO⟩ ⟨xs, ys, x, y, qx, qy, hx, hy⟩
    subst hP hw hK
    obtain ⟨its, rv, p⟩ := sq_held k1 I qx
    obtain ⟨its2, rv2, p2⟩ := sq_held k2 I qy
    obtain ⟨u, hu, ru⟩ := rv.get hx
    obtain ⟨u2, hu2, ru2⟩ := rv2.get hy
    have zl : z < s.heap.objs.size := Heap.lt_size S.z
    refine zip_next D S hTO p p2 (x := u) (y := u2) (by simpa using hu) (by simpa using hu2) fun h' z' TO' c1' c2' hT hsz hk => ?_
    refine ⟨_, rfl, wpAny_letOwnedTupleGo_zip (s := { s with heap := h' }) z' fun h'' z'' sb => ?_⟩
    have hT2 : h''.get? s.heap.objs.size = some { cls := .type "tuple", data := .seq #[u, u2] } := (sb.2 _ (Nat.ne_of_gt zl)).trans hT
    have new := ok_frz (X := X) (H := upd H s.heap.objs.size (.frz { cls := .type "tuple", data := .seq #[u, u2] } (.tup [x, y]))) (u := .tup [x, y]) hT2 ⟨by show 2 ≤ sizeLine; decide, [u, u2], .cons ru (.cons ru2 .nil), ⟨_, hT2, rfl, _, rfl⟩⟩
    have I1 : Inv X pins σ (upd H s.heap.objs.size (.frz { cls := .type "tuple", data := .seq #[u, u2] } (.tup [x, y]))) { s with heap := h'' } :=
      I.turnedNew (t' := s.toks) (ch := [z, TI, TO, i1, i2]) (fun c o hb q => (sb.2 c (fun q' => hb (by simp [q']))).trans (hk c o (fun q' => hb (by simp [q'])) (fun q' => hb (by simp [q'])) (fun q' => hb (by simp [q'])) (fun q' => hb (by simp [q'])) q)) hf (Nat.le_refl _) new
    refine ⟨.ref s.heap.objs.size, _, I1, rfl, ⟨_, _, x, y, rfl, I.hok.fresh (Nat.le_refl _), rfl, rfl, fun l hl => by rw [sq_inj k1 I hl qx]; exact hx, fun l hl => by rw [sq_inj k2 I hl qy]; exact hy⟩, ⟨⟨z'', ?_, ?_, ?_⟩, u, u2, ?_⟩, fun c hcm => ?_⟩
    · exact (sb.2 _ D.TIz).trans (hk _ _ D.TIz D.TITO D.TIi1 D.TIi2 S.ti)
    · exact k1.cur_at c1' fun o q => (sb.2 _ D.i1z).trans q
    · exact k2.cur_at c2' fun o q => (sb.2 _ D.i2z).trans q
    · exact (sb.2 _ D.TOz).trans TO'
    · have hlt : c < s.heap.objs.size := by
        have e' : c = z ∨ c = TI ∨ c = TO ∨ c = i1 ∨ c = i2 := by simpa using hcm
        rcases e' with q | q | q | q | q
        · rw [q]; exact zl
        · rw [q]; exact Heap.lt_size S.ti
        · rw [q]; exact Heap.lt_size hTO
        · rw [q]; exact k1.cur_lt S.c1
        · rw [q]; exact k2.cur_lt S.c2
      rw [upd_ne (Nat.ne_of_lt hlt)]
      exact (hf c hcm).1
  done := by
    intro X hP hw hK hc i pins s σ H E I hf ⟨S, x0, y0, hTO⟩ ⟨xs, ys, qx, qy, hend⟩
    subst hP hw hK
    obtain ⟨its, rv, p⟩ := sq_held k1 I qx
    obtain ⟨its2, rv2, p2⟩ := sq_held k2 I qy
    have l1 := rv.length
    have l2 := rv2.length
    have he : its.toArray[i]? = none ∨ its2.toArray[i]? = none := by
      rcases hend with q | q
      · exact .inl (by simp; omega)
      · exact .inr (by simp; omega)
    exact zip_done (I.ok.hd hc) D S hTO p p2 he fun h' hk => ⟨rfl, I.turnedL (t' := s.toks) (ch := [z, TI, TO, i1, i2]) (fun c o hb q =>
      hk c o (fun q' => hb (by simp [q'])) (fun q' => hb (by simp [q'])) (fun q' => hb (by simp [q'])) (fun q' => hb (by simp [q'])) q) hf⟩
  self := fun A i s Q E ⟨S, _⟩ h => wpAny_pyIter_zip S.z h

def iZipK (K : PySem.W.Frag) (ta : TA) : TI := fun σ H R => ta σ H fun vs H1 => ∃ k1 k2 a b xs ys, vs = [.ref a, .ref b] ∧ SK.sq k1 K H1 a xs ∧ SK.sq k2 K H1 b ys ∧ R (ItK k1 k2 K a b) H1
theorem pi_zipK {X : Cx} {e e2 : Expr} {ta : TA} {p pos tpos : Pos} {elts : List Expr} {kk : Nat} (hg : Gl X "zip") (hm : X.mg "zip" = none) (ha : PA X [e, e2] ta)
    (hs : starEach [e, e2] X.env = (false, eval e X.env) :: starEach [e2] X.env := by rfl) (hpl : (backTo pos (starEach [e2] X.env)).any (·.1) = false := by rfl) :
    PI X (.Tuple elts kk tpos) (.Call (.Name "zip" p) [e, e2] [] pos) (iZipK X.K ta) := by
  refine ⟨fun pins s σ H R I h => ?_⟩
  refine Call_ (ld_blt I hg hm PyProof.Rows.boot_zip (PyProof.Rows.callWith_type1 (thn (ha.run pos pins s σ H _ I h) fun us s1 ⟨vs, H1, I1, r1, k1, k2, a, b, xs, ys, ex, qx, qy, q⟩ => ?_) hs hpl))
  subst ex
  cases r1 with
  | cons r rr =>
    cases rr with
    | cons r' rr =>
      cases rr
      cases r
      cases r'
      have fresh : ∀ c, c ∈ [s1.heap.objs.size + 4, s1.heap.objs.size + 2, s1.heap.objs.size + 3, s1.heap.objs.size, s1.heap.objs.size + 1] → FpOk X pins H1 c := fun c hcm => by
        have e' : c = s1.heap.objs.size + 4 ∨ c = s1.heap.objs.size + 2 ∨ c = s1.heap.objs.size + 3 ∨ c = s1.heap.objs.size ∨ c = s1.heap.objs.size + 1 := by simpa using hcm
        have le : s1.heap.objs.size ≤ c := by
          rcases e' with z | z | z | z | z <;> rw [z] <;> omega
        exact I1.fpOk le (I1.hok.fresh le)
      obtain ⟨its, rv, p1⟩ := sq_held k1 I1 qx
      obtain ⟨its2, rv2, p2⟩ := sq_held k2 I1 qy
      refine call_zipK p1 p2 fun h' S hTO hsz hk => wpAny_pyIter_zip S.z ?_
      have I2 : Inv X pins σ H1 { s1 with heap := h' } := I1.kept (t' := s1.toks) hk
      exact ⟨s1.heap.objs.size + 4, [s1.heap.objs.size + 4, s1.heap.objs.size + 2, s1.heap.objs.size + 3, s1.heap.objs.size, s1.heap.objs.size + 1], _, _, H1, rfl, I2, turn_zipK (PySem.W.ktu_apart s1.heap.objs.size a b (k1.has_lt p1) (k2.has_lt p2)), ⟨S, _, _, hTO⟩, fresh, q⟩
section
variable {K : PySem.W.Frag} {G : Hp} {a b : Addr} {xs ys : List V} {ds es : List D} {k1 k2 : SK}
theorem sq_same {H H' : Hp} (k : SK) (s : Same H H') (h : k.sq K H a xs) : k.sq K H' a xs := by
  cases k with
  | l => exact same_l s h
  | t => exact same_t s h
theorem walk_zk (h : k1.sq K G a xs) (h' : k2.sq K G b ys) (p : DqAll K G xs ds) (q : DqAll K G ys es) : Walk (ItK k1 k2 K a b) (zipD ds es).length (Same G) (YD K G (zipD ds es)) := by
  have ln : (zipD ds es).length = min xs.length ys.length := by rw [zipD_len, DqAll.len p, DqAll.len q]
  refine ⟨fun i H hi s => ?_, fun H s => ⟨xs, ys, sq_same k1 s h, sq_same k2 s h', by omega⟩, fun i H v H' hi s y => ?_⟩
  · have h1 : i < xs.length := by omega
    have h2 : i < ys.length := by omega
    exact ⟨xs, ys, xs[i], ys[i], sq_same k1 s h, sq_same k2 s h', by simp [h1], by simp [h2]⟩
  · obtain ⟨T, o, x, z, e1, e2, e0, e3, e4, e5⟩ := y
    exact yd_pair p q ⟨T, o, x, z, e1, e2, e0, e3, e4 xs (sq_same k1 s h), e5 ys (sq_same k2 s h')⟩
end
def seqD : D → Option (SK × List D)
  | .list ds => some (.l, ds)
  | .tuple ds => some (.t, ds)
  | _ => none
def iZip2F (fs : Af) : Lf := fun e => (fs e).bind fun as e1 => (fzA as e1).bind fun ds e2 => match ds with
  | [x, y] => match seqD x with
    | some (_, xs) => match seqD y with
      | some (_, ys) => .ok (zipD xs ys) e2
      | none => .no
    | none => .no
  | _ => .no
theorem seqD_at {K : PySem.W.Frag} {G : Hp} {v : V} {d : D} {k : SK} {ds : List D} (h : Dq K G v d) (q : seqD d = some (k, ds)) : ∃ a xs, v = .ref a ∧ k.sq K G a xs ∧ DqAll K G xs ds := by
  cases h with
  | lst h1 h2 =>
    cases q
    exact ⟨_, _, rfl, h1, h2⟩
  | tup h1 _ h2 =>
    cases q
    exact ⟨_, _, rfl, h1, h2⟩
  | _ => cases q
section
variable {X : Cx} {Φ : Fx} {W : WX} {x y : Expr} {fs : Af} {pos p : Pos}
theorem i_zip2 {elts : List Expr} {kk : Nat} {tpos : Pos} (hm : X.mg "zip" = none) (ha : DA X Φ W [x, y] fs) (hg : Gl X "zip" := by rfl) (hs : starEach [x, y] X.env = (false, eval x X.env) :: starEach [y] X.env := by rfl) (hpl : (backTo pos (starEach [y] X.env)).any (·.1) = false := by rfl) :
    DI X Φ W (.Tuple elts kk tpos) (.Call (.Name "zip" p) [x, y] [] pos) (iZip2F fs) :=
  pi_weak (pi_zipK hg hm ha hs hpl) fun σ H R ⟨G, F, e, O, h⟩ => ⟨G, F, e, O, Wp.imp (Wp.seq h) fun vs H1 ⟨G1, F1, e1, as, g1, O1, r1, h1⟩ => by
    obtain ⟨G2, e2, ds, g2, O2, d2, h2⟩ := Wp.fzA O1 r1 h1
    split at h2
    · rename_i dx dy
      split at h2
      · rename_i k1 xs q1
        split at h2
        · rename_i k2 ys q2
          cases d2 with
          | cons a t =>
            cases t with
            | cons b t =>
              cases t
              obtain ⟨l1, vs1, rfl, s1, p1⟩ := seqD_at a q1
              obtain ⟨l2, vs2, rfl, s2, p2⟩ := seqD_at b q2
              exact ⟨k1, k2, l1, l2, vs1, vs2, rfl, sq_same k1 O2.gh s1, sq_same k2 O2.gh s2, h2 _ H1 G2 F1 (Same.refl _) O2 (walk_zk s1 s2 p1 p2)⟩
        · exact h2.elim
      · exact h2.elim
    · exact h2.elim⟩
end
end DL
set_option Elab.async false
set_option linter.all false
set_option maxRecDepth 100000
set_option maxHeartbeats 4000000
/-! DlS: the frame functions' terms, opened by simp. -/
namespace DL
open PySem L2
section
variable (i j k : Nat) (e : Fr) (f g h : Sf) (a b c : Ef) (r s t : Rf) (as : Af) (ts us : Tf) (d : D)
@[simp] theorem z_eVar : eVar i e = (match e[i]? with
  | none => .no
  | some .un => .no
  | some _ => .ok (.slot i) e) := rfl
@[simp] theorem z_eC : eC d e = .ok (.val d) e := rfl
@[simp] theorem z_eFz : eFz r e = (r e).bind fun r e1 => match r with
  | .arg a => .ok a e1
  | .new w => .ok (.val w.toD) e1 := rfl
@[simp] theorem z_eR : eR a e = (a e).bind fun a e1 => .ok (.arg a) e1 := rfl
@[simp] theorem z_aNil : aNil e = .ok [] e := rfl
@[simp] theorem z_aCons : aCons a as e = (a e).bind fun a e1 => (as e1).bind fun as e2 => .ok (a :: as) e2 := rfl
@[simp] theorem z_eTup : eTup as e = (as e).bind fun as e1 => (fzA as e1).bind fun ds e2 => if ds.length ≤ 1000 then .ok (.val (.tuple ds)) e2 else .no := rfl
@[simp] theorem z_eLst : eLst as e = (as e).bind fun as e1 => (fzA as e1).bind fun ds e2 => if ds.length ≤ 1000 then .ok (.new (.ls ds)) e2 else .no := rfl
@[simp] theorem z_fz1 : fz (.val d) e = .ok d e := rfl
@[simp] theorem z_fz2 : fz (.slot i) e = (match e[i]? with
  | some (.sh d) => .ok d e
  | some (.own w) => .ok w.toD (e.set i (.sh w.toD))
  | _ => .no) := rfl
@[simp] theorem z_fzA1 : fzA [] e = .ok [] e := rfl
@[simp] theorem z_fzA2 (x : Arg) (xs : List Arg) : fzA (x :: xs) e = (fz x e).bind fun d e1 => (fzA xs e1).bind fun ds e2 => .ok (d :: ds) e2 := rfl
@[simp] theorem z_eOp1 (op : D → Option D) : eOp1 op a e = (a e).bind (use1 op) := rfl
@[simp] theorem z_eOp2 (op : D → D → Option D) : eOp2 op a b e = (a e).bind fun a e1 => (b e1).bind fun b e2 => use2 op a b e2 := rfl
@[simp] theorem z_eCall (op : List D → Option D) : eCall op as e = (as e).bind (useN op) := rfl
@[simp] theorem z_eCallN (op : List D → Option (List D)) : eCallN op as e = (as e).bind (useL op) := rfl
@[simp] theorem z_use1 (op : D → Option D) (x : Arg) : use1 op x e = (match rd1 e x with
  | some x => match op x with
    | some d => .ok (.val d) e
    | none => .no
  | none => .no) := rfl
@[simp] theorem z_use2 (op : D → D → Option D) (x y : Arg) : use2 op x y e = (match rd1 e x with
  | some x => match rd1 e y with
    | some y => match op x y with
      | some d => .ok (.val d) e
      | none => .no
    | none => .no
  | none => .no) := rfl
@[simp] theorem z_useN (op : List D → Option D) (x : List Arg) : useN op x e = (match rdA e x with
  | some ds => match op ds with
    | some d => .ok (.val d) e
    | none => .no
  | none => .no) := rfl
@[simp] theorem z_useL (op : List D → Option (List D)) (x : List Arg) : useL op x e = (match rdA e x with
  | some ds => match op ds with
    | some es => .ok (.new (.ls es)) e
    | none => .no
  | none => .no) := rfl
@[simp] theorem z_rd1a : rd1 e (.val d) = some d := rfl
@[simp] theorem z_rd1b : rd1 e (.slot i) = (match e[i]? with
    | some (.sh d) => some d
    | some (.own (.ls ds)) => some (.list ds)
    | some (.io (.ls ds)) => some (.list ds)
    | some (.own (.dc tk kvs)) => some (Ow.dc tk kvs).toD
    | some (.io (.dc tk kvs)) => some (Ow.dc tk kvs).toD
    | _ => none) := rfl
@[simp] theorem z_rdA1 : rdA e [] = some [] := rfl
@[simp] theorem z_rdA2 (x : Arg) (xs : List Arg) : rdA e (x :: xs) = (match rd1 e x with
    | some d => match rdA e xs with
      | some ds => some (d :: ds)
      | none => none
    | none => none) := rfl
@[simp] theorem z_tOf : tOf a e = (a e).bind fun a e1 => match rd1 e1 a with
  | some (.bool b) => .ok b e1
  | _ => .no := rfl
@[simp] theorem z_useT (x : Arg) : useT x e = (match rd1 e x with
  | some d => match truth d with
    | some b => .ok b e
    | none => .no
  | none => .no) := rfl
@[simp] theorem z_tTr : tTr a e = (a e).bind useT := rfl
@[simp] theorem z_tAndF : tAndF ts us e = (ts e).bind fun b e1 => match b with
  | true => us e1
  | false => .ok false e1 := rfl
@[simp] theorem z_tOrF : tOrF ts us e = (ts e).bind fun b e1 => match b with
  | true => .ok true e1
  | false => us e1 := rfl
@[simp] theorem z_tNotF : tNotF ts e = (ts e).bind fun b e1 => .ok (!b) e1 := rfl
@[simp] theorem z_eIf : eIf ts a b e = (ts e).bind fun b' e1 => match b' with
  | true => a e1
  | false => b e1 := rfl
@[simp] theorem z_eIfR : eIfR ts r s e = (ts e).bind fun b' e1 => match b' with
  | true => r e1
  | false => s e1 := rfl
@[simp] theorem z_eAnd : eAnd a b e = (a e).bind fun a e1 => (useT a e1).bind fun b' e2 => match b' with
  | true => b e2
  | false => .ok a e2 := rfl
@[simp] theorem z_eOr : eOr a b e = (a e).bind fun a e1 => (useT a e1).bind fun b' e2 => match b' with
  | true => .ok a e2
  | false => b e2 := rfl
@[simp] theorem z_eNot : eNot a e = (a e).bind fun a e1 => (useT a e1).bind fun b e2 => .ok (.val (.bool (!b))) e2 := rfl
@[simp] theorem z_sNil : sNil e = .ok .nx e := rfl
@[simp] theorem z_sSeq : sSeq f g e = (f e).bind fun fl e1 => match fl with
  | .nx => g e1
  | fl => .ok fl e1 := rfl
@[simp] theorem z_sDrop : sDrop a e = (a e).bind fun _ e1 => .ok .nx e1 := rfl
@[simp] theorem z_sIf : sIf ts f g e = (ts e).bind fun b e1 => match b with
  | true => f e1
  | false => g e1 := rfl
@[simp] theorem z_retR1 : retR (.arg (.val d)) e = .ok (.rt (.sh d)) e := rfl
@[simp] theorem z_retR2 : retR (.arg (.slot i)) e = (match e[i]? with
    | some (.sh d) => .ok (.rt (.sh d)) e
    | some (.own w) => .ok (.rt (.own w)) (e.set i .un)
    | _ => .no) := rfl
@[simp] theorem z_retR3 (w : Ow) : retR (.new w) e = .ok (.rt (.own w)) e := rfl
@[simp] theorem z_sRet : sRet r e = (r e).bind retR := rfl
@[simp] theorem z_setR1 (x : Arg) : setR i (.arg x) e = (match e[i]? with
  | some (.io _) => .no
  | none => .no
  | _ => (fz x e).bind fun d e2 => .ok .nx (e2.set i (.sh d))) := rfl
@[simp] theorem z_setR2 (w : Ow) : setR i (.new w) e = (match e[i]? with
  | some (.io _) => .no
  | none => .no
  | _ => .ok .nx (e.set i (.own w))) := rfl
@[simp] theorem z_sSet : sSet i r e = (r e).bind (setR i) := rfl
@[simp] theorem z_sAsg (g' : Gf) : sAsg a g' e = (a e).bind fun a e1 => (fz a e1).bind fun d e2 => match g' d e2 with
  | .ok _ e3 => .ok .nx e3
  | _ => .no := rfl
@[simp] theorem z_fzR1 (x : Arg) : fzR (.arg x) e = (fz x e).bind fun d e1 => .ok (.arg (.val d)) e1 := rfl
@[simp] theorem z_fzR2 (w : Ow) : fzR (.new w) e = .ok (.new w) e := rfl
@[simp] theorem z_putR1 : putR i (.arg (.val d)) e = (match e[i]? with
  | some (.io _) => .no
  | none => .no
  | _ => .ok () (e.set i (.sh d))) := rfl
@[simp] theorem z_putR2 (w : Ow) : putR i (.new w) e = (match e[i]? with
  | some (.io _) => .no
  | none => .no
  | _ => .ok () (e.set i (.own w))) := rfl
@[simp] theorem z_sPar : sPar i j r s e = (r e).bind fun r1 e1 => (s e1).bind fun r2 e2 => (fzR r1 e2).bind fun r3 e3 => (fzR r2 e3).bind fun r4 e4 => (putR i r3 e4).bind fun _ e5 => (putR j r4 e5).bind fun _ e6 => .ok .nx e6 := rfl
@[simp] theorem z_sPar3 : sPar3 i j k r s t e = (r e).bind fun r1 e1 => (s e1).bind fun r2 e2 => (t e2).bind fun r5 e7 => (fzR r1 e7).bind fun r3 e3 => (fzR r2 e3).bind fun r4 e4 => (fzR r5 e4).bind fun r6 e8 =>
  (putR i r3 e8).bind fun _ e5 => (putR j r4 e5).bind fun _ e6 => (putR k r6 e6).bind fun _ e9 => .ok .nx e9 := rfl
@[simp] theorem z_gSet : gSet i d e = (match e[i]? with
  | some (.io _) => .no
  | none => .no
  | _ => .ok () (e.set i (.sh d))) := rfl
@[simp] theorem z_gsNil (ds : List D) : gsNil ds e = (match ds with
  | [] => .ok () e
  | _ => .no) := rfl
@[simp] theorem z_gsCons (g' : Gf) (r' : Gfs) (ds : List D) : gsCons g' r' ds e = (match ds with
  | d :: ds => (g' d e).bind fun _ e1 => r' ds e1
  | [] => .no) := rfl
@[simp] theorem z_gTupF (r' : Gfs) : gTupF r' d e = (match d with
  | .tuple ds => r' ds e
  | _ => .no) := rfl
@[simp] theorem z_gSubF : gSubF a b d e = (a e).bind fun a e1 => (b e1).bind fun b e2 => match rd1 e2 b with
  | some (.int k) => wrL a (fun ds => (ixN ds.length k).map fun n => ds.set n d) e2
  | _ => .no := rfl
@[simp] theorem z_iSeq : iSeq a e = (a e).bind fun a e1 => (fz a e1).bind fun d e2 => R.of (seqOf d) e2 := rfl
@[simp] theorem z_iRng1F : iRng1F as e = (as e).bind fun as e1 => match rdA e1 as with
  | some [.int n] => if small62 n = true then .ok ((List.range n.toNat).map fun (i : Nat) => .int (0 + (i : Int))) e1 else .no
  | _ => .no := rfl
@[simp] theorem z_iRng2F : iRng2F as e = (as e).bind fun as e1 => match rdA e1 as with
  | some [.int m, .int n] => if small62 m = true ∧ small62 n = true then .ok ((List.range (n - m).toNat).map fun (i : Nat) => .int (m + (i : Int))) e1 else .no
  | _ => .no := rfl
@[simp] theorem z_forL1 (g' : Gf) : forL g' f [] e = .ok .nx e := rfl
theorem z_forL2 (g' : Gf) (ds : List D) : forL g' f (d :: ds) e = (match g' d e with
    | .ok _ e1 => match f e1 with
      | .ok .nx e2 => forL g' f ds e2
      | .ok .ct e2 => forL g' f ds e2
      | .ok .bk e2 => .ok .nx e2
      | .ok (.rt s) e2 => .ok (.rt s) e2
      | .ex x e2 => .ex x e2
      | .no => .no
    | _ => .no) := rfl
@[simp] theorem z_sFor (fi : Lf) (g' : Gf) : sFor fi g' f e = (fi e).bind (forL g' f) := rfl
@[simp] theorem z_eMt (op : Mop) : eMt op a as e = (a e).bind fun a e1 => match isLs a e1 with
  | true => (as e1).bind fun as e2 => (fzA as e2).bind fun ds e3 => useM op a ds e3
  | false => .no := rfl
@[simp] theorem z_useM (op : Mop) (ds : List D) : useM op (.slot i) ds e = (match e[i]? with
    | some (.own (.ls cs)) => match op cs ds with
      | some (d, es) => .ok (.val d) (e.set i (.own (.ls es)))
      | none => .no
    | some (.io (.ls cs)) => match op cs ds with
      | some (d, es) => .ok (.val d) (e.set i (.io (.ls es)))
      | none => .no
    | _ => .no) := rfl
@[simp] theorem z_isLs : isLs (.slot i) e = (match e[i]? with
    | some (.own (.ls _)) => true
    | some (.io (.ls _)) => true
    | _ => false) := rfl
@[simp] theorem z_eLc (fi : Lf) (g' : Gf) (vs : List Nat) : eLc fi g' ts a vs e = (fi e).bind fun ds e1 => match bare e1 vs with
  | true => match lcL g' ts a vs ds (wipeE e1 vs) [] with
    | .ok es e2 => .ok (.new (.ls es)) (backE e1 e2 vs)
    | _ => .no
  | false => .no := rfl
@[simp] theorem z_lcL1 (g' : Gf) (vs : List Nat) (acc : List D) : lcL g' ts a vs [] e acc = .ok acc e := rfl
theorem z_lcL2 (g' : Gf) (vs : List Nat) (acc ds : List D) : lcL g' ts a vs (d :: ds) e acc = (match g' d e with
    | .ok _ e1 => match ts e1 with
      | .ok true e2 => match a e2 with
        | .ok a' e3 => match fz a' e3 with
          | .ok d' e4 => if acc.length < 1000000 then lcL g' ts a vs ds (wipeE e4 vs) (acc ++ [d']) else .no
          | _ => .no
        | _ => .no
      | .ok false e2 => lcL g' ts a vs ds (wipeE e2 vs) acc
      | _ => .no
    | _ => .no) := rfl
@[simp] theorem z_tYesF : tYesF e = .ok true e := rfl
@[simp] theorem z_eFnC (F : Fn) (ms : List Bool) : eFnC F ms as e = (as e).bind fun as e1 => if ms.length = as.length then callR F (ms.zip as) e1 else .no := rfl
theorem z_callR (F : Fn) (ps : Ps) : callR F ps e = (match apart (ioL ps) (boL e ps) with
  | false => .no
  | true => match argS e ps with
    | none => .no
    | some sl => match F sl with
      | .no => .no
      | .ex x os => if noIo e (boL e ps) = true then .ex x (slsB ps os true (boL e ps) 0 e) else .no
      | .ok s os => if (flatS s && flatO os) = true then toRV s (.ok (.arg (.val .none)) (slsB ps os false (boL e ps) 0 e)) else
        if noIo e (boL e ps) = true then toRV s (.ok (.arg (.val .none)) (slsB ps os true (boL e ps) 0 e)) else .no) := rfl
end
end DL
set_option Elab.async false
set_option linter.all false
set_option maxRecDepth 100000
set_option maxHeartbeats 4000000
/-! DlT: calls and operations, opened by simp. -/
namespace DL
open PySem L2
section
variable (e r os : Fr) (ps : Ps) (i j : Nat) (d x y z u : D) (w : Ow) (xs ys : List D) (a b : Int)
@[simp] theorem z_ioL0 : ioL [] = [] := rfl
@[simp] theorem z_ioL1 : ioL ((true, .slot i) :: ps) = i :: ioL ps := rfl
@[simp] theorem z_ioL2 (g : Arg) : ioL ((false, g) :: ps) = ioL ps := by cases g <;> rfl
@[simp] theorem z_boL0 : boL e [] = [] := rfl
@[simp] theorem z_boL1 (g : Arg) : boL e ((true, g) :: ps) = boL e ps := by cases g <;> rfl
@[simp] theorem z_boL2 : boL e ((false, .val d) :: ps) = boL e ps := rfl
@[simp] theorem z_boL3 : boL e ((false, .slot i) :: ps) = (match e[i]? with
    | some (.own _) => i :: boL e ps
    | some (.io _) => i :: boL e ps
    | _ => boL e ps) := rfl
@[simp] theorem z_apart0 (bo : List Nat) : apart [] bo = true := rfl
@[simp] theorem z_apart1 (l bo : List Nat) : apart (i :: l) bo = (!(l.contains i) && !(bo.contains i) && apart l bo) := rfl
@[simp] theorem z_argS0 : argS e [] = some [] := rfl
@[simp] theorem z_argS1 (p : Bool × Arg) : argS e (p :: ps) = (match arg1 e p with
    | some s => match argS e ps with
      | some ss => some (s :: ss)
      | none => none
    | none => none) := rfl
@[simp] theorem z_arg1a : arg1 e (true, .slot i) = (match e[i]? with
    | some (.own w) => some (.io w)
    | some (.io w) => some (.io w)
    | _ => none) := rfl
@[simp] theorem z_arg1b : arg1 e (false, .val d) = some (.sh d) := rfl
@[simp] theorem z_arg1c : arg1 e (false, .slot i) = (match e[i]? with
    | some (.sh d) => some (.sh d)
    | some (.own w) => some (.sh w.toD)
    | some (.io w) => some (.sh w.toD)
    | _ => none) := rfl
@[simp] theorem z_outAt0 (os : Fr) : outAt [] os j = none := by cases os <;> rfl
@[simp] theorem z_outAt1 (s : Sl) (ss : Fr) : outAt ((true, .slot i) :: ps) (s :: ss) j = if i = j then (match s with
    | .io w => some w
    | _ => none) else outAt ps ss j := rfl
@[simp] theorem z_outAt2 (s : Sl) (ss : Fr) (g : Arg) : outAt ((false, g) :: ps) (s :: ss) j = outAt ps ss j := by cases g <;> rfl
@[simp] theorem z_slsB0 (fr : Bool) (bo : List Nat) : slsB ps os fr bo j [] = [] := rfl
@[simp] theorem z_slsB1 (fr : Bool) (bo : List Nat) (s : Sl) : slsB ps os fr bo j (s :: r) = slB ps os fr bo j s :: slsB ps os fr bo (j + 1) r := rfl
@[simp] theorem z_slB (fr : Bool) (bo : List Nat) (s : Sl) : slB ps os fr bo j s = (match outAt ps os j with
  | some w => s.put w
  | none => if (ioL ps).contains j then .un else if fr && bo.contains j then (match s with
    | .own w => .sh w.toD
    | s => s) else s) := rfl
@[simp] theorem z_put1 (v : Ow) : (Sl.io v).put w = .io w := rfl
@[simp] theorem z_put2 (v : Ow) : (Sl.own v).put w = .own w := rfl
@[simp] theorem z_toD1 : (Ow.ls xs).toD = .list xs := rfl
@[simp] theorem z_flatS1 : flatS (.sh d) = flatD d := rfl
@[simp] theorem z_flatS2 : flatS (.own w) = false := rfl
@[simp] theorem z_flatD1 : flatD (.int a) = true := rfl
@[simp] theorem z_flatD2 (b : Bool) : flatD (.bool b) = true := rfl
@[simp] theorem z_flatD3 : flatD (.none) = true := rfl
@[simp] theorem z_flatD4 (b : Str) : flatD (.str b) = true := rfl
@[simp] theorem z_flatD5 : flatD (.tuple xs) = false := rfl
@[simp] theorem z_flatD6 : flatD (.list xs) = false := rfl
@[simp] theorem z_flatO0 : flatO [] = true := rfl
@[simp] theorem z_flatO1 : flatO (.sh d :: r) = flatO r := rfl
@[simp] theorem z_flatO2 : flatO (.io (.ls xs) :: r) = (xs.all flatD && flatO r) := rfl
@[simp] theorem z_noIo (bo : List Nat) : noIo e bo = bo.all fun i => match e[i]? with
  | some (.io _) => false
  | _ => true := rfl
@[simp] theorem z_toRV1 (v : RV) : toRV (.sh d) (.ok v e) = .ok (.arg (.val d)) e := rfl
@[simp] theorem z_toRV2 (v : RV) : toRV (.own w) (.ok v e) = .ok (.new w) e := rfl
@[simp] theorem z_outs0 : outs [] e = some [] := by cases e <;> rfl
@[simp] theorem z_outs1 (s : Sl) : outs (.sh d :: r) (s :: e) = (match outs r e with
    | some r => some (.sh d :: r)
    | none => none) := by cases s <;> rfl
@[simp] theorem z_outs2 (v : Ow) : outs (.io w :: r) (.io v :: e) = (match outs r e with
    | some r => some (.io v :: r)
    | none => none) := rfl
@[simp] theorem z_endF (s : Sl) : endF r s e = (match outs r e with
  | some r => .ok s r
  | none => .no) := rfl
@[simp] theorem z_runF (n m : Nat) (f : Sf) (as : Fr) : runF n m f as = (match f (as ++ List.replicate (m - n) .un) with
  | .ok (.rt s) e => endF as s e
  | .ok .nx e => endF as (.sh .none) e
  | .ex x e => match outs as e with
    | some r => .ex x r
    | none => .no
  | _ => .no) := rfl
@[simp] theorem z_dAdd : dAdd (.int a) (.int b) = some (.int (a + b)) := rfl
@[simp] theorem z_dSub : dSub (.int a) (.int b) = some (.int (a - b)) := rfl
@[simp] theorem z_dNeg : dNeg (.int a) = some (.int (-a)) := rfl
@[simp] theorem z_dLt : dLt (.int a) (.int b) = some (.bool (decide (a < b))) := rfl
@[simp] theorem z_dLe : dLe (.int a) (.int b) = some (.bool (decide (a ≤ b))) := rfl
@[simp] theorem z_dGt : dGt (.int a) (.int b) = some (.bool (decide (b < a))) := rfl
@[simp] theorem z_dGe : dGe (.int a) (.int b) = some (.bool (decide (b ≤ a))) := rfl
@[simp] theorem z_dIxt0 : dIx (.tuple (x :: xs)) (.int 0) = some x := by
  have h : L2.ixN (x :: xs).length 0 = some 0 := by
    simp only [List.length_cons, L2.ixN]
    rw [if_pos (by omega), if_pos (by omega)]
    rfl
  show (L2.ixN (x :: xs).length 0).bind _ = _
  rw [h]
  rfl
@[simp] theorem z_dIxt1 : dIx (.tuple (x :: y :: xs)) (.int 1) = some y := by
  have h : L2.ixN (x :: y :: xs).length 1 = some 1 := by
    simp only [List.length_cons, L2.ixN]
    rw [if_pos (by omega), if_pos (by omega)]
    rfl
  show (L2.ixN (x :: y :: xs).length 1).bind _ = _
  rw [h]
  rfl
@[simp] theorem z_dIxt2 : dIx (.tuple (x :: y :: z :: xs)) (.int 2) = some z := by
  have h : L2.ixN (x :: y :: z :: xs).length 2 = some 2 := by
    simp only [List.length_cons, L2.ixN]
    rw [if_pos (by omega), if_pos (by omega)]
    rfl
  show (L2.ixN (x :: y :: z :: xs).length 2).bind _ = _
  rw [h]
  rfl
@[simp] theorem z_dIxt3 : dIx (.tuple (x :: y :: z :: u :: xs)) (.int 3) = some u := by
  have h : L2.ixN (x :: y :: z :: u :: xs).length 3 = some 3 := by
    simp only [List.length_cons, L2.ixN]
    rw [if_pos (by omega), if_pos (by omega)]
    rfl
  show (L2.ixN (x :: y :: z :: u :: xs).length 3).bind _ = _
  rw [h]
  rfl
@[simp] theorem z_dIxt4 : dIx (.tuple (x :: y :: z :: u :: d :: xs)) (.int 4) = some d := by
  have h : L2.ixN (x :: y :: z :: u :: d :: xs).length 4 = some 4 := by
    simp only [List.length_cons, L2.ixN]
    rw [if_pos (by omega), if_pos (by omega)]
    rfl
  show (L2.ixN (x :: y :: z :: u :: d :: xs).length 4).bind _ = _
  rw [h]
  rfl
@[simp] theorem z_dIxl0 : dIx (.list (x :: xs)) (.int 0) = some x := by
  have h : L2.ixN (x :: xs).length 0 = some 0 := by
    simp only [List.length_cons, L2.ixN]
    rw [if_pos (by omega), if_pos (by omega)]
    rfl
  show (L2.ixN (x :: xs).length 0).bind _ = _
  rw [h]
  rfl
@[simp] theorem z_dIxl1 : dIx (.list (x :: y :: xs)) (.int 1) = some y := by
  have h : L2.ixN (x :: y :: xs).length 1 = some 1 := by
    simp only [List.length_cons, L2.ixN]
    rw [if_pos (by omega), if_pos (by omega)]
    rfl
  show (L2.ixN (x :: y :: xs).length 1).bind _ = _
  rw [h]
  rfl
@[simp] theorem z_dIxl2 : dIx (.list (x :: y :: z :: xs)) (.int 2) = some z := by
  have h : L2.ixN (x :: y :: z :: xs).length 2 = some 2 := by
    simp only [List.length_cons, L2.ixN]
    rw [if_pos (by omega), if_pos (by omega)]
    rfl
  show (L2.ixN (x :: y :: z :: xs).length 2).bind _ = _
  rw [h]
  rfl
@[simp] theorem z_dIxl3 : dIx (.list (x :: y :: z :: u :: xs)) (.int 3) = some u := by
  have h : L2.ixN (x :: y :: z :: u :: xs).length 3 = some 3 := by
    simp only [List.length_cons, L2.ixN]
    rw [if_pos (by omega), if_pos (by omega)]
    rfl
  show (L2.ixN (x :: y :: z :: u :: xs).length 3).bind _ = _
  rw [h]
  rfl
@[simp] theorem z_dIxl4 : dIx (.list (x :: y :: z :: u :: d :: xs)) (.int 4) = some d := by
  have h : L2.ixN (x :: y :: z :: u :: d :: xs).length 4 = some 4 := by
    simp only [List.length_cons, L2.ixN]
    rw [if_pos (by omega), if_pos (by omega)]
    rfl
  show (L2.ixN (x :: y :: z :: u :: d :: xs).length 4).bind _ = _
  rw [h]
  rfl
@[simp] theorem z_bLen1 : bLen [.list xs] = some (.int xs.length) := rfl
@[simp] theorem z_bLen2 : bLen [.tuple xs] = some (.int xs.length) := rfl
@[simp] theorem z_bAbs : bAbs [.int a] = some (.int (if a < 0 then -a else a)) := rfl
@[simp] theorem z_bMax2 : bMax2 [.int a, .int b] = some (.int (if b > a then b else a)) := rfl
@[simp] theorem z_bInt : bInt [.int a] = some (.int a) := rfl
@[simp] theorem z_bGcd : bGcd [.int a, .int b] = some (.int ((Nat.gcd a.natAbs b.natAbs : Nat) : Int)) := rfl
@[simp] theorem z_bTuple1 : bTuple [.list xs] = some (.tuple xs) := rfl
@[simp] theorem z_bTuple2 : bTuple [.tuple xs] = some (.tuple xs) := rfl
@[simp] theorem z_bList1 : bList [.list xs] = some xs := rfl
@[simp] theorem z_bList2 : bList [.tuple xs] = some xs := rfl
@[simp] theorem z_bAll : bAll [.list xs] = (allB xs).map fun bs => .bool (bs.all id) := rfl
@[simp] theorem z_bAny : bAny [.list xs] = (allB xs).map fun bs => .bool (bs.any id) := rfl
@[simp] theorem z_allB0 : allB [] = some [] := rfl
@[simp] theorem z_allB1 (b : Bool) : allB (.bool b :: xs) = (match allB xs with
    | some bs => some (b :: bs)
    | none => none) := rfl
@[simp] theorem z_seqOf1 : seqOf (.list xs) = some xs := rfl
@[simp] theorem z_seqOf2 : seqOf (.tuple xs) = some xs := rfl
@[simp] theorem z_truth1 (b : Bool) : truth (.bool b) = some b := rfl
@[simp] theorem z_truth2 : truth (.int a) = some (a != 0) := rfl
@[simp] theorem z_truth3 : truth (.list xs) = some (!xs.isEmpty) := rfl
@[simp] theorem z_truth4 : truth (.tuple xs) = some (!xs.isEmpty) := rfl
@[simp] theorem z_truth5 : truth .none = some false := rfl
@[simp] theorem z_dIs1 (p q : Bool) : dIs (.bool p) (.bool q) = some (.bool (decide (p = q))) := rfl
@[simp] theorem z_dIs2 : dIs d .none = some (.bool (isNone d)) := by cases d <;> rfl
@[simp] theorem z_dIsN1 (p q : Bool) : dIsN (.bool p) (.bool q) = some (.bool (!decide (p = q))) := rfl
@[simp] theorem z_dIsN2 : dIsN d .none = some (.bool (!isNone d)) := by cases d <;> rfl
@[simp] theorem z_isNone1 : isNone .none = true := rfl
@[simp] theorem z_isNone2 : isNone (.tuple xs) = false := rfl
@[simp] theorem z_isNone3 : isNone (.int a) = false := rfl
@[simp] theorem z_isNone4 (p : Bool) : isNone (.bool p) = false := rfl
@[simp] theorem z_wrL1 (i : Nat) (g : List D → Option (List D)) : wrL (.slot i) g e = (match e[i]? with
    | some (.own (.ls ds)) => match g ds with
      | some es => .ok () (e.set i (.own (.ls es)))
      | none => .no
    | some (.io (.ls ds)) => match g ds with
      | some es => .ok () (e.set i (.io (.ls es)))
      | none => .no
    | _ => .no) := rfl
@[simp] theorem z_zipD0 : zipD [] ys = [] := rfl
@[simp] theorem z_zipD1 : zipD (x :: xs) (y :: ys) = .tuple [x, y] :: zipD xs ys := rfl
@[simp] theorem z_wipe0 : wipeE e [] = e := rfl
@[simp] theorem z_wipe1 (vs : List Nat) : wipeE e (i :: vs) = (wipeE e vs).set i .un := rfl
@[simp] theorem z_back0 (e1 : Fr) : backE e e1 [] = e1 := rfl
@[simp] theorem z_back1 (e1 : Fr) (vs : List Nat) : backE e e1 (i :: vs) = (backE e e1 vs).set i (e.getD i .un) := rfl
@[simp] theorem z_bare (vs : List Nat) : bare e vs = vs.all fun j => !(e.getD j .un).owned := rfl
@[simp] theorem z_owned1 : (Sl.sh d).owned = false := rfl
@[simp] theorem z_owned2 : Sl.un.owned = false := rfl
@[simp] theorem z_owned3 : (Sl.own w).owned = true := rfl
@[simp] theorem z_owned4 : (Sl.io w).owned = true := rfl
@[simp] theorem z_isT1 : isT .int (.int a) = true := rfl
@[simp] theorem z_eIsi (T : Ty) (fa : Ef) : eIsi T fa e = (fa e).bind (useI (isT T)) := rfl
@[simp] theorem z_useI (f : D → Bool) (g : Arg) : useI f g e = (match rd1 e g with
  | some d => if noDt d = true then .ok (.val (.bool (f d))) e else .no
  | none => .no) := rfl
@[simp] theorem z_noDt1 : noDt .none = true := rfl
@[simp] theorem z_noDt2 (b : Bool) : noDt (.bool b) = true := rfl
@[simp] theorem z_noDt3 : noDt (.int a) = true := rfl
@[simp] theorem z_noDt4 (b : Str) : noDt (.str b) = true := rfl
@[simp] theorem z_noDt5 : noDt (.list xs) = true := rfl
@[simp] theorem z_noDt6 : noDt (.tuple xs) = true := rfl
end
end DL
set_option Elab.async false
set_option linter.all false
set_option maxRecDepth 100000
set_option maxHeartbeats 4000000
/-! DlU: whole numbers' sizes; ratios as data. -/
namespace DL
open PySem L2
theorem bits_of {a : Int} {n : Nat} (h : a.natAbs < 2 ^ n) : Builtin.Int.intBits a ≤ n := by
  unfold Builtin.Int.intBits
  split
  · omega
  · rename_i z
    have z' : a.natAbs ≠ 0 := by
      intro q
      have : a = 0 := by omega
      simp [this] at z
    have := (Nat.log2_lt z').mpr h
    omega
theorem of_bits {a : Int} {n : Nat} (h : Builtin.Int.intBits a ≤ n) : a.natAbs < 2 ^ n := by
  unfold Builtin.Int.intBits at h
  split at h
  · rename_i z
    have : a = 0 := by simpa using z
    subst this
    exact Nat.two_pow_pos n
  · rename_i z
    have z' : a.natAbs ≠ 0 := by
      intro q
      have : a = 0 := by omega
      simp [this] at z
    exact (Nat.log2_lt z').mp (by omega)
theorem mul_ok {a b : Int} {m n : Nat} (ha : a.natAbs < 2 ^ m) (hb : b.natAbs < 2 ^ n) (h : m + n ≤ 134217728) : dMul (.int a) (.int b) = some (.int (a * b)) := by
  have h1 := bits_of ha
  have h2 := bits_of hb
  exact if_pos (by omega)
theorem fdiv_ok {a b : Int} {n : Nat} (h0 : b ≠ 0) (hb : b.natAbs < 2 ^ n) (h : n ≤ 9000) : dFdiv (.int a) (.int b) = some (.int (a.fdiv b)) := by
  refine if_pos ⟨h0, ?_⟩
  have z : b.natAbs ≠ 0 := by omega
  have := (Nat.log2_lt z).mpr hb
  omega
theorem fmod_ok {a b : Int} (h0 : b ≠ 0) : dMod (.int a) (.int b) = some (.int (a.fmod b)) := if_pos h0
theorem abs_mul_lt {a b : Int} {m n : Nat} (ha : a.natAbs < 2 ^ m) (hb : b.natAbs < 2 ^ n) : (a * b).natAbs < 2 ^ (m + n) := by
  rw [Int.natAbs_mul, Nat.pow_add]
  have := Nat.mul_le_mul (Nat.le_of_lt ha) (Nat.le_of_lt hb)
  rcases Nat.lt_or_eq_of_le this with h | h
  · exact h
  · exfalso
    by_cases z : b.natAbs = 0
    · rw [z, Nat.mul_zero] at h
      have := Nat.two_pow_pos m
      have := Nat.two_pow_pos n
      have := Nat.mul_pos ‹0 < 2 ^ m› ‹0 < 2 ^ n›
      omega
    · have h1 : a.natAbs * b.natAbs < 2 ^ m * b.natAbs := Nat.mul_lt_mul_of_pos_right ha (by omega)
      have h2 : 2 ^ m * b.natAbs ≤ 2 ^ m * 2 ^ n := Nat.mul_le_mul_left _ (Nat.le_of_lt hb)
      omega
theorem abs_add_lt {a b : Int} {n : Nat} (ha : a.natAbs < 2 ^ n) (hb : b.natAbs < 2 ^ n) : (a + b).natAbs < 2 ^ (n + 1) := by
  have := Int.natAbs_add_le a b
  rw [Nat.pow_succ]
  omega
theorem abs_sub_lt {a b : Int} {n : Nat} (ha : a.natAbs < 2 ^ n) (hb : b.natAbs < 2 ^ n) : (a - b).natAbs < 2 ^ (n + 1) := by
  have := Int.natAbs_sub_le a b
  rw [Nat.pow_succ]
  omega
theorem abs_up {a m n : Nat} (h : a < 2 ^ m) (l : m ≤ n) : a < 2 ^ n := Nat.lt_of_lt_of_le h (Nat.pow_le_pow_right (by decide) l)

/-- a ratio as the program has it -/
def rD (q : Rat) : D := .tuple [.int q.num, .int q.den]
@[simp] theorem z_rD0 (q : Rat) : dIx (rD q) (.int 0) = some (.int q.num) := z_dIxt0 _ _
@[simp] theorem z_rD1 (q : Rat) : dIx (rD q) (.int 1) = some (.int q.den) := z_dIxt1 _ _ _
@[simp] theorem z_rD2 (q : Rat) : flatD (rD q) = false := rfl
@[simp] theorem z_rD3 (q : Rat) : isNone (rD q) = false := rfl
@[simp] theorem z_rD4 (q : Rat) : isT .tuple (rD q) = true := rfl
@[simp] theorem z_rD5 (q : Rat) : bLen [rD q] = some (.int 2) := rfl
@[simp] theorem z_dEq (a b : Int) : dEq (.int a) (.int b) = some (.bool (decide (a = b))) := by
  unfold dEq
  have h : SeqAt.shaped (.int a) = true ∧ SeqAt.shaped (.int b) = true := ⟨rfl, rfl⟩
  rw [if_neg (show ¬ bothStr (.int a) (.int b) = true from Bool.false_ne_true), if_pos h]
  simp only [PyData.eqv]
  have e : (a == b) = decide (a = b) := by
    rw [Bool.eq_iff_iff]
    simp
  rw [e]
@[simp] theorem z_dNe (a b : Int) : dNe (.int a) (.int b) = some (.bool (!decide (a = b))) := by
  unfold dNe
  have h : SeqAt.shaped (.int a) = true ∧ SeqAt.shaped (.int b) = true := ⟨rfl, rfl⟩
  rw [if_neg (show ¬ bothStr (.int a) (.int b) = true from Bool.false_ne_true), if_pos h]
  simp only [PyData.eqv]
  have e : (a == b) = decide (a = b) := by
    rw [Bool.eq_iff_iff]
    simp
  rw [e]
@[simp] theorem z_dEqS (a b : Str) : dEq (.str a) (.str b) = some (.bool (decide (a = b))) := by
  unfold dEq
  rw [if_pos (show bothStr (.str a) (.str b) = true from rfl)]
  simp only [PyData.eqv]
  have e : (a == b) = decide (a = b) := by
    rw [Bool.eq_iff_iff]
    simp
  rw [e]
@[simp] theorem z_dNeS (a b : Str) : dNe (.str a) (.str b) = some (.bool (!decide (a = b))) := by
  unfold dNe
  rw [if_pos (show bothStr (.str a) (.str b) = true from rfl)]
  simp only [PyData.eqv]
  have e : (a == b) = decide (a = b) := by
    rw [Bool.eq_iff_iff]
    simp
  rw [e]
/-- a flat point, a point in space -/
def pD (x y : Rat) : D := .tuple [rD x, rD y]
def pD3 (x y z : Rat) : D := .tuple [rD x, rD y, rD z]
@[simp] theorem z_pD0 (x y : Rat) : dIx (pD x y) (.int 0) = some (rD x) := z_dIxt0 _ _
@[simp] theorem z_pD1 (x y : Rat) : dIx (pD x y) (.int 1) = some (rD y) := z_dIxt1 _ _ _
@[simp] theorem z_pD2 (x y : Rat) : flatD (pD x y) = false := rfl
@[simp] theorem z_pD3 (x y : Rat) : isNone (pD x y) = false := rfl
@[simp] theorem z_pD4 (x y : Rat) : isT .tuple (pD x y) = true := rfl
@[simp] theorem z_pE0 (x y z : Rat) : dIx (pD3 x y z) (.int 0) = some (rD x) := z_dIxt0 _ _
@[simp] theorem z_pE1 (x y z : Rat) : dIx (pD3 x y z) (.int 1) = some (rD y) := z_dIxt1 _ _ _
@[simp] theorem z_pE2 (x y z : Rat) : dIx (pD3 x y z) (.int 2) = some (rD z) := z_dIxt2 _ _ _ _
@[simp] theorem z_pE3 (x y z : Rat) : flatD (pD3 x y z) = false := rfl
@[simp] theorem z_pE4 (x y z : Rat) : isNone (pD3 x y z) = false := rfl
@[simp] theorem z_pE5 (x y z : Rat) : isT .tuple (pD3 x y z) = true := rfl
structure Sz (n : Nat) (q : Rat) : Prop where
  num : q.num.natAbs < 2 ^ n
  den : q.den < 2 ^ n
theorem Sz.up {m n : Nat} {q : Rat} (h : Sz m q) (l : m ≤ n) : Sz n q := ⟨abs_up h.num l, abs_up h.den l⟩
theorem sz_divInt {a b : Int} {n : Nat} (hb : b ≠ 0) (h1 : a.natAbs < 2 ^ n) (h2 : b.natAbs < 2 ^ n) : Sz n (Rat.divInt a b) := by
  have hg : 0 < b.gcd a := Int.gcd_pos_of_ne_zero_left _ hb
  constructor
  · rw [Rat.num_divInt]
    have : (b.sign * a / ((b.gcd a : Nat) : Int)).natAbs ≤ a.natAbs := by
      refine Nat.le_trans (Int.natAbs_ediv_le_natAbs _ _) ?_
      rw [Int.natAbs_mul]
      have hs : b.sign.natAbs ≤ 1 := by
        rw [Int.natAbs_sign]
        split <;> omega
      calc b.sign.natAbs * a.natAbs ≤ 1 * a.natAbs := Nat.mul_le_mul_right _ hs
        _ = a.natAbs := Nat.one_mul _
    omega
  · rw [Rat.den_divInt, if_neg hb]
    have := Nat.div_le_self b.natAbs (b.gcd a)
    omega
theorem den_pos (q : Rat) : 0 < q.den := Nat.pos_of_ne_zero q.den_nz
theorem den_ne (q : Rat) : (q.den : Int) ≠ 0 := by have := den_pos q; omega
theorem add_eq (p q : Rat) : p + q = Rat.divInt (p.num * q.den + q.num * p.den) (p.den * q.den) := by
  have h := Rat.divInt_add_divInt p.num q.num (den_ne p) (den_ne q)
  rwa [Rat.num_divInt_den, Rat.num_divInt_den] at h
theorem sub_eq (p q : Rat) : p - q = Rat.divInt (p.num * q.den - q.num * p.den) (p.den * q.den) := by
  have h := Rat.divInt_sub_divInt p.num q.num (den_ne p) (den_ne q)
  rwa [Rat.num_divInt_den, Rat.num_divInt_den] at h
theorem mul_eq (p q : Rat) : p * q = Rat.divInt (p.num * q.num) (p.den * q.den) := by
  have h := Rat.divInt_mul_divInt p.num q.num (d₁ := p.den) (d₂ := q.den)
  rwa [Rat.num_divInt_den, Rat.num_divInt_den] at h
theorem Sz.add {m n : Nat} {p q : Rat} (hp : Sz m p) (hq : Sz n q) : Sz (m + n + 1) (p + q) := by
  rw [add_eq]
  have hd : ((p.den : Int)).natAbs < 2 ^ m := by simpa using hp.den
  have he : ((q.den : Int)).natAbs < 2 ^ n := by simpa using hq.den
  refine sz_divInt (Int.mul_ne_zero (den_ne p) (den_ne q)) (abs_add_lt (abs_mul_lt hp.num he) ?_) (abs_up (abs_mul_lt hd he) (by omega))
  rw [Nat.add_comm m n]
  exact abs_mul_lt hq.num hd
theorem Sz.sub {m n : Nat} {p q : Rat} (hp : Sz m p) (hq : Sz n q) : Sz (m + n + 1) (p - q) := by
  rw [sub_eq]
  have hd : ((p.den : Int)).natAbs < 2 ^ m := by simpa using hp.den
  have he : ((q.den : Int)).natAbs < 2 ^ n := by simpa using hq.den
  refine sz_divInt (Int.mul_ne_zero (den_ne p) (den_ne q)) (abs_sub_lt (abs_mul_lt hp.num he) ?_) (abs_up (abs_mul_lt hd he) (by omega))
  rw [Nat.add_comm m n]
  exact abs_mul_lt hq.num hd
theorem Sz.mul {m n : Nat} {p q : Rat} (hp : Sz m p) (hq : Sz n q) : Sz (m + n) (p * q) := by
  rw [mul_eq]
  have hd : ((p.den : Int)).natAbs < 2 ^ m := by simpa using hp.den
  have he : ((q.den : Int)).natAbs < 2 ^ n := by simpa using hq.den
  exact sz_divInt (Int.mul_ne_zero (den_ne p) (den_ne q)) (abs_mul_lt hp.num hq.num) (abs_mul_lt hd he)
theorem Sz.neg {m : Nat} {p : Rat} (hp : Sz m p) : Sz m (-p) := ⟨by rw [Rat.neg_num, Int.natAbs_neg]; exact hp.num, by rw [Rat.neg_den]; exact hp.den⟩
/-- made lowest by the greatest common divisor -/
theorem made_pos {a b : Int} (h : 0 < b) : a.fdiv (Nat.gcd a.natAbs b.natAbs : Nat) = (Rat.divInt a b).num ∧ b.fdiv (Nat.gcd a.natAbs b.natAbs : Nat) = ((Rat.divInt a b).den : Int) := by
  have hg : b.gcd a = Nat.gcd a.natAbs b.natAbs := Nat.gcd_comm _ _
  constructor
  · rw [Rat.num_divInt, hg, Int.sign_eq_one_of_pos h, Int.one_mul, Int.fdiv_eq_ediv_of_nonneg _ (by omega)]
  · rw [Rat.den_divInt, if_neg (by omega), hg, Int.fdiv_eq_ediv_of_nonneg _ (by omega), Int.natCast_ediv, Int.natAbs_of_nonneg (by omega)]
theorem made_neg {a b : Int} (h : b < 0) : a.fdiv (0 - (Nat.gcd a.natAbs b.natAbs : Nat)) = (Rat.divInt a b).num ∧ b.fdiv (0 - (Nat.gcd a.natAbs b.natAbs : Nat)) = ((Rat.divInt a b).den : Int) := by
  have hg : b.gcd a = Nat.gcd a.natAbs b.natAbs := Nat.gcd_comm _ _
  have d1 : ((Nat.gcd a.natAbs b.natAbs : Nat) : Int) ∣ a := Int.ofNat_dvd_left.mpr (Nat.gcd_dvd_left _ _)
  have d2 : ((Nat.gcd a.natAbs b.natAbs : Nat) : Int) ∣ b := Int.ofNat_dvd_left.mpr (Nat.gcd_dvd_right _ _)
  have key : ∀ x : Int, ((Nat.gcd a.natAbs b.natAbs : Nat) : Int) ∣ x → x.fdiv (0 - (Nat.gcd a.natAbs b.natAbs : Nat)) = (-x) / (Nat.gcd a.natAbs b.natAbs : Nat) := by
    intro x hx
    have d : (-((Nat.gcd a.natAbs b.natAbs : Nat) : Int)) ∣ x := Int.neg_dvd.mpr hx
    rw [Int.zero_sub, Int.fdiv_eq_ediv_of_dvd d, Int.ediv_neg, Int.neg_ediv_of_dvd hx]
  constructor
  · rw [Rat.num_divInt, hg, Int.sign_eq_neg_one_of_neg h, key a d1, Int.neg_mul, Int.one_mul]
  · rw [Rat.den_divInt, if_neg (by omega), hg, key b d2, Int.natCast_ediv]
    congr 1
    omega
/-! ### signs -/
def sg (q : Rat) : Int := q.num.sign
theorem sign_div {x g : Int} (hg : 0 < g) (d : g ∣ x) : (x / g).sign = x.sign := by
  obtain ⟨y, rfl⟩ := d
  rw [Int.mul_ediv_cancel_left _ (by omega), Int.sign_mul, Int.sign_eq_one_of_pos hg, Int.one_mul]
theorem sg_divInt {a b : Int} (hb : b ≠ 0) : sg (Rat.divInt a b) = b.sign * a.sign := by
  unfold sg
  have hg : 0 < b.gcd a := Int.gcd_pos_of_ne_zero_left _ hb
  have d : ((b.gcd a : Nat) : Int) ∣ b.sign * a := Int.dvd_trans (Int.gcd_dvd_right ..) (Int.dvd_mul_left _ _)
  rw [Rat.num_divInt, sign_div (by omega) d, Int.sign_mul, Int.sign_sign]
theorem den_sign (q : Rat) : (q.den : Int).sign = 1 := Int.sign_eq_one_of_pos (by have := den_pos q; omega)
theorem sg_mul (p q : Rat) : sg (p * q) = sg p * sg q := by
  rw [mul_eq, sg_divInt (Int.mul_ne_zero (den_ne p) (den_ne q)), Int.sign_mul, Int.sign_mul, den_sign, den_sign]
  simp [sg]
theorem sg_neg (p : Rat) : sg (-p) = -sg p := by
  unfold sg
  rw [Rat.neg_num, Int.sign_neg]
theorem sg_zero {p : Rat} : sg p = 0 ↔ p = 0 := by
  unfold sg
  rw [Int.sign_eq_zero_iff_zero, Rat.num_eq_zero]
end DL
set_option Elab.async false
set_option linter.all false
set_option maxRecDepth 100000
set_option maxHeartbeats 4000000
/-! DlV: draws out of a pot. -/
namespace DL
open PySem L2
def mDraw (A B M N S : Int) : Sf := (sSeq (sIf (tOf (eOp2 dGt (eOp2 dIx (eVar 0) (eC (.int 0))) (eC (.int 0)))) (sSeq (sAsg (eCall bDivmod (aCons (eOp2 dIx (eVar 0) (eC (.int 0))) (aCons (eVar 1) aNil))) (gTupF (gsCons (gSubF (eVar 0) (eC (.int 0))) (gsCons (gSet 2) gsNil)))) (sRet (eR (eVar 2)))) sNil) (sSeq (sAsg (eOp2 dMod (eCall bInt (aCons (eOp2 dAdd (eOp2 dMul (eOp2 dIx (eVar 0) (eC (.int 1))) (eC (.int A))) (eC (.int B))) aNil)) (eC (.int M))) (gSubF (eVar 0) (eC (.int 1)))) (sRet (eR (eOp2 dMod (eCall bInt (aCons (eOp2 dFdiv (eOp2 dMod (eCall bInt (aCons (eOp2 dMul (eOp2 dIx (eVar 0) (eC (.int 1))) (eOp2 dIx (eVar 0) (eC (.int 1)))) aNil)) (eC (.int N))) (eC (.int S))) aNil)) (eVar 1))))))
theorem draw_low {A B M N S : Int} {a b c c1 g h q r : Int} (z : ¬ 0 < a) (e1 : dMul (.int b) (.int A) = some (.int c1))
 (e2 : dMod (.int (c1 + B)) (.int M) = some (.int c)) (e3 :  dMul (.int c) (.int c) = some (.int (c * c)))
 (e4 : dMod (.int (c * c)) (.int N) = some (.int g)) (e5 : dFdiv (.int g) (.int S) = some (.int h)) (e6 : dMod (.int h) (.int r) = some (.int q)) :
 runF 2 3 (mDraw A B M N S) [.io (.ls [.int a, .int b]), .sh (.int r)] = .ok (.sh (.int q)) [.io (.ls [.int a, .int c]), .sh (.int r)] := by
    simp [mDraw, z, e1, e2, e3, e4, e5, e6, ixN]
theorem draw_high {A B M N S : Int} {a b r : Int} (z : 0 < a) (e : bDivmod [.int a, .int r] = some (.tuple [.int (a / r), .int (a % r)])) :
 runF 2 3 (mDraw A B M N S) [.io (.ls [.int a, .int b]), .sh (.int r)] = .ok (.sh (.int (a % r))) [.io (.ls [.int (a/r), .int b]), .sh (.int r)] := by
    simp [mDraw, z, e, ixN]
/-- a pot: what is left of the cell, a number that is mixed on -/
structure Pot (p : List D) : Prop where
  ex : ∃ a b : Int, p = [.int a, .int b] ∧ 0 ≤ a ∧ 0 ≤ b ∧ b < 2 ^ 31
theorem draw_ok {A B M N S : Int} (hA : A.natAbs < 2 ^ 31) (hM : 0 < M) (hM2 : M ≤ 2 ^ 31) (hN : 0 < N) (hS : 0 < S) (hS2 : S < 2 ^ 31) {p : List D} (P : Pot p) {r : Int} (h0 : 0 < r) (h1 : r < 1000) :
    ∃ p' dg, Pot p' ∧ 0 ≤ dg ∧ dg < r ∧ runF 2 3 (mDraw A B M N S) [.io (.ls p), .sh (.int r)] = .ok (.sh (.int dg)) [.io (.ls p'), .sh (.int r)] := by
  obtain ⟨a, b, rfl, ha, hb, hb2⟩ := P.ex
  by_cases z : 0 < a
  · have e : bDivmod [.int a, .int r] = some (.tuple [.int (a / r), .int (a % r)]) := if_pos ⟨h0, by
      have := (Nat.log2_lt (n := r.natAbs) (k := 10) (by omega)).mpr (by omega)
      omega⟩
    exact ⟨[.int (a / r), .int b], a % r, ⟨⟨_, _, rfl, Int.ediv_nonneg ha (by omega), hb, hb2⟩⟩, Int.emod_nonneg _ (by omega), Int.emod_lt_of_pos _ h0, draw_high z e⟩
  · have e1 : dMul (.int b) (.int A) = some (.int (b * A)) := mul_ok (m := 31) (n := 31) (by omega) hA (by omega)
    have e2 : dMod (.int (b * A + B)) (.int M) = some (.int ((b * A + B) % M)) := by
      rw [fmod_ok (by omega), Int.fmod_eq_emod_of_nonneg _ (by omega)]
    have l1 : 0 ≤ (b * A + B) % M := Int.emod_nonneg _ (by omega)
    have l2 : (b * A + B) % M < M := Int.emod_lt_of_pos _ (by omega)
    generalize (b * A + B) % M = c at e2 l1 l2
    have e3 : dMul (.int c) (.int c) = some (.int (c * c)) := mul_ok (m := 31) (n := 31) (by omega) (by omega) (by omega)
    have e4 : dMod (.int (c * c)) (.int N) = some (.int ((c * c) % N)) := by
      rw [fmod_ok (by omega), Int.fmod_eq_emod_of_nonneg _ (by omega)]
    generalize (c * c) % N = g at e4
    have e5 : dFdiv (.int g) (.int S) = some (.int (g / S)) := by
      rw [fdiv_ok (n := 31) (by omega) (by omega) (by omega), Int.fdiv_eq_ediv_of_nonneg _ (by omega)]
    have e6 : dMod (.int (g / S)) (.int r) = some (.int ((g / S) % r)) := by
      rw [fmod_ok (by omega), Int.fmod_eq_emod_of_nonneg _ (by omega)]
    exact ⟨[.int a, .int c], (g / S) % r, ⟨⟨_, _, rfl, ha, l1, by omega⟩⟩, Int.emod_nonneg _ (by omega), Int.emod_lt_of_pos _ h0, draw_low z e1 e2 e3 e4 e5 e6⟩
/-! ### the pot -/
def mPot (A B C E M S U V W N O : Int) : Sf := (sSeq (sSet 2 (eR (eOp2 dAdd (eOp2 dMul (eC (.int A)) (eVar 1)) (eC (.int B))))) (sSeq (sIf (tOf (eOp2 dLt (eVar 1) (eCall bLen (aCons (eVar 0) aNil)))) (sSet 2 (eR (eCall bAbs (aCons (eOp2 dIx (eVar 0) (eVar 1)) aNil)))) sNil) (sRet (eLst (aCons (eCall bMax2 (aCons (eC (.int 0)) (aCons (eOp2 dSub (eVar 2) (eOp2 dPow (eC (.int C)) (eC (.int E)))) aNil))) (aCons (eOp2 dAdd (eOp2 dMod (eOp2 dMul (eCall bInt (aCons (eOp2 dAdd (eOp2 dMod (eCall bInt (aCons (eVar 2) aNil)) (eC (.int M))) (eC (.int S))) aNil)) (eOp2 dPow (eOp2 dAdd (eOp2 dMul (eC (.int U)) (eVar 1)) (eC (.int V))) (eC (.int W)))) (eC (.int N))) (eC (.int O))) aNil))))))
theorem pot_gen {A B C E M S U V W N O k k1 k2 len cell T r c y z : Int} {script : D} (hl : bLen [script] = some (.int len)) (e1 : dMul (.int A) (.int k) = some (.int k1))
    (hv : (¬ k < len ∧ cell = k1 + B) ∨ (k < len ∧ ∃ v, dIx script (.int k) = some (.int v) ∧ cell = if v < 0 then -v else v)) (e2 : dPow (.int C) (.int E) = some (.int T)) (e3 : dMod (.int cell) (.int M) = some (.int r))
    (e4 : dMul (.int U) (.int k) = some (.int k2)) (e5 : dPow (.int (k2 + V)) (.int W) = some (.int c)) (e6 : dMul (.int (r + S)) (.int c) = some (.int y)) (e7 : dMod (.int y) (.int N) = some (.int z)) :
    runF 2 3 (mPot A B C E M S U V W N O) [.sh script, .sh (.int k)] = .ok (.own (.ls [.int (if cell - T > 0 then cell - T else 0), .int (z + O)])) [.sh script, .sh (.int k)] := by
  rcases hv with ⟨hk, hc⟩ | ⟨hk, v, hd, hc⟩
  · subst hc
    simp [mPot, hl, e1, hk, e2, e3, e4, e5, e6, e7]
  · rw [hc] at e3 ⊢
    simp [mPot, hl, e1, hk, hd, e2, e3, e4, e5, e6, e7]
/-- a pot is made of a script, whatever it holds -/
theorem pot_ok {A B C E M S U V W N O : Int} (hM : 0 < M) (hM2 : M ≤ 2 ^ 31) (hS : 0 ≤ S) (hS2 : S ≤ 1000) (hN : 0 < N) (hN2 : N < 2147483640) (hO : 0 ≤ O) (hO2 : O ≤ 1) (hU : U = 2) (hV : V = 3) (hW : W = 3) (hC : C = 10) (hE : E = 18) (hA : A = 113) (hB : B = 61)
    {ns : List Int} {k : Nat} (hk : k < 64) :
    ∃ p, Pot p ∧ runF 2 3 (mPot A B C E M S U V W N O) [.sh (.list (ns.map PyData.int)), .sh (.int k)] = .ok (.own (.ls p)) [.sh (.list (ns.map PyData.int)), .sh (.int k)] := by
  subst hU hV hW hC hE hA hB
  have p5 : dPow (.int (2 * (k : Int) + 3)) (.int 3) = some (.int ((2 * (k : Int) + 3) ^ 3)) := by
    have l : (2 * (k : Int) + 3).natAbs < 2 ^ 64 := by omega
    exact if_pos ⟨by omega, by omega, l⟩
  have pw : ∀ i j : Int, 0 ≤ j → j ≤ 1000000 → i.natAbs < 2 ^ 64 → dPow (.int i) (.int j) = some (.int (i ^ j.toNat)) := fun i j h1 h2 h3 => if_pos ⟨h1, h2, h3⟩
  have p2 := pw 10 18 (by omega) (by omega) (by omega)
  generalize (10 : Int) ^ (18 : Int).toNat = T at p2
  have b3 : (2 * (k : Int) + 3).natAbs < 2 ^ 8 := by omega
  have bc : ((2 * (k : Int) + 3) ^ 3).natAbs < 2 ^ (8 + 8 + 8) := by
    have e : (2 * (k : Int) + 3) ^ 3 = (2 * (k : Int) + 3) * (2 * (k : Int) + 3) * (2 * (k : Int) + 3) := by
      rw [Int.pow_succ, Int.pow_succ, Int.pow_succ, Int.pow_zero, Int.one_mul]
    rw [e]
    exact abs_mul_lt (abs_mul_lt b3 b3) b3
  generalize (2 * (k : Int) + 3) ^ 3 = c at p5 bc
  have go : ∀ cell : Int, ((¬ (k : Int) < ns.length ∧ cell = 113 * (k : Int) + 61) ∨ ((k : Int) < ns.length ∧ ∃ v, dIx (.list (ns.map PyData.int)) (.int k) = some (.int v) ∧ cell = if v < 0 then -v else v)) →
      ∃ p, Pot p ∧ runF 2 3 (mPot 113 61 10 18 M S 2 3 3 N O) [.sh (.list (ns.map PyData.int)), .sh (.int k)] = .ok (.own (.ls p)) [.sh (.list (ns.map PyData.int)), .sh (.int k)] := by
    intro cell hv
    have e3 : dMod (.int cell) (.int M) = some (.int (cell % M)) := by
      rw [fmod_ok (by omega), Int.fmod_eq_emod_of_nonneg _ (by omega)]
    have l1 : 0 ≤ cell % M := Int.emod_nonneg _ (by omega)
    have l2 : cell % M < M := Int.emod_lt_of_pos _ (by omega)
    generalize cell % M = r at e3 l1 l2
    have e6 : dMul (.int (r + S)) (.int c) = some (.int ((r + S) * c)) := mul_ok (m := 32) (by omega) bc (by omega)
    have e7 : dMod (.int ((r + S) * c)) (.int N) = some (.int (((r + S) * c) % N)) := by
      rw [fmod_ok (by omega), Int.fmod_eq_emod_of_nonneg _ (by omega)]
    have l3 : 0 ≤ ((r + S) * c) % N := Int.emod_nonneg _ (by omega)
    have l4 : ((r + S) * c) % N < N := Int.emod_lt_of_pos _ (by omega)
    generalize ((r + S) * c) % N = z at e7 l3 l4
    have e1 : dMul (.int 113) (.int k) = some (.int (113 * (k : Int))) := mul_ok (m := 7) (n := 6) (by omega) (by omega) (by omega)
    have e4 : dMul (.int 2) (.int k) = some (.int (2 * (k : Int))) := mul_ok (m := 2) (n := 6) (by omega) (by omega) (by omega)
    refine ⟨_, ⟨⟨_, _, rfl, ?_, ?_, ?_⟩⟩, pot_gen (len := ns.length) (by rw [z_bLen1, List.length_map]) e1 hv p2 e3 e4 p5 e6 e7⟩
    · split <;> omega
    · omega
    · omega
  by_cases h : k < ns.length
  · refine go _ (.inr ⟨by omega, ns[k], ?_, rfl⟩)
    have i1 : L2.ixN (ns.map PyData.int).length (k : Int) = some k := by
      simp only [L2.ixN, List.length_map]
      rw [if_pos (by omega), if_pos (by omega)]
      rfl
    show (L2.ixN (ns.map PyData.int).length (k : Int)).bind _ = _
    rw [i1]
    show (ns.map PyData.int)[k]? = _
    rw [List.getElem?_map, List.getElem?_eq_getElem h]
    rfl
  · exact go _ (.inl ⟨by omega, rfl⟩)
end DL
set_option Elab.async false
set_option linter.all false
set_option maxRecDepth 100000
set_option maxHeartbeats 4000000
/-! DlQ: more to open by simp; reprs of small whole numbers. -/
namespace DL
open PySem L2
section
variable (i j k : Nat) (e : Fr) (f g h : Sf) (a b c : Ef) (r s t : Rf) (as : Af) (ts us : Tf) (d : D)
@[simp] theorem z_eFnK (F : Fn) (ms : List Bool) (ix : List Nat) (dd : List D) (n m : Nat) (bs : Af) : eFnK F ms ix dd n m as bs e = (as e).bind fun as e1 => (bs e1).bind fun bs e2 =>
  if as.length = n ∧ bs.length = m ∧ ms.length = ix.length then callR F (ms.zip (pickA ix (as ++ bs ++ dd.map Arg.val))) e2 else .no := rfl
@[simp] theorem z_pickA0 (l : List Arg) : pickA [] l = [] := rfl
@[simp] theorem z_pickA1 (ix : List Nat) (l : List Arg) : pickA (i :: ix) l = l.getD i (.val .none) :: pickA ix l := rfl
@[simp] theorem z_eFn1 (F : Fn) : eFn1 F r e = (r e).bind fun r e1 => match r with
  | .new w => popR e1.length (callR F [(true, .slot e1.length)] (e1 ++ [.own w]))
  | .arg _ => .no := rfl
@[simp] theorem z_popR1 (n : Nat) : popR n (.ok (.arg (.val d)) e) = .ok (.arg (.val d)) (e.take n) := rfl
@[simp] theorem z_popR2 (n : Nat) (w : Ow) : popR n (.ok (.new w) e) = .ok (.new w) (e.take n) := rfl
@[simp] theorem z_gSeqF (r' : Gfs) : gSeqF r' d e = (match d with
  | .tuple ds => r' ds e
  | .list ds => r' ds e
  | _ => .no) := rfl
@[simp] theorem z_iZip2F : iZip2F as e = (as e).bind fun as e1 => (fzA as e1).bind fun ds e2 => match ds with
  | [x, y] => match seqD x with
    | some (_, xs) => match seqD y with
      | some (_, ys) => .ok (zipD xs ys) e2
      | none => .no
    | none => .no
  | _ => .no := rfl
@[simp] theorem z_seqD1 (ds : List D) : seqD (.list ds) = some (.l, ds) := rfl
@[simp] theorem z_seqD2 (ds : List D) : seqD (.tuple ds) = some (.t, ds) := rfl
@[simp] theorem z_eCat : eCat r s e = (r e).bind fun r e1 => (s e1).bind fun s e2 => match lsR r e2 with
  | some xs => match lsR s e2 with
    | some ys => if xs.length + ys.length ≤ 1000000 then .ok (.new (.ls (xs ++ ys))) e2 else .no
    | none => .no
  | none => .no := rfl
@[simp] theorem z_lsR1 (xs : List D) : lsR (.new (.ls xs)) e = some xs := rfl
@[simp] theorem z_lsR2 : lsR (.arg (.slot i)) e = (match e[i]? with
    | some (.own (.ls ds)) => some ds
    | some (.io (.ls ds)) => some ds
    | _ => none) := rfl
@[simp] theorem z_eChain (u v : D → D → Option D) : eChain u v a b c e = (a e).bind fun a e1 => (b e1).bind fun b e2 => (use2 u a b e2).bind fun k e3 => match rd1 e3 k with
  | some (.bool true) => (c e3).bind fun c e4 => use2 v b c e4
  | some (.bool false) => .ok (.val (.bool false)) e3
  | _ => .no := rfl
@[simp] theorem z_sRaise (x : Exn) : sRaise x e = .ex x e := rfl
@[simp] theorem z_sTry (l : List Hdl) : sTry f l e = (match f e with
  | .ex x e1 => handle l x e1
  | r => r) := rfl
@[simp] theorem z_handle0 (x : Exn) : handle [] x e = .ex x e := rfl
@[simp] theorem z_handle1 (x : Exn) (mt : Str → Option Bool) (l : List Hdl) : handle ((mt, g) :: l) x e = (match mt x.cls with
    | some true => g e
    | some false => handle l x e
    | none => .no) := rfl
theorem z_bRepr (x : D) (h : reprOk x = true) : bRepr [x] = some (.str x.shown) := if_pos h
end
theorem small_log {a : Int} (h : a.natAbs < 2 ^ 1900) : a.natAbs.log2 < 1920 := by
  by_cases z : a.natAbs = 0
  · rw [z]
    decide
  · have := (Nat.log2_lt z).mpr h
    omega
theorem repr2 {a b : Int} (ha : a.natAbs < 2 ^ 1900) (hb : b.natAbs < 2 ^ 1900) : reprOk (.list [.int a, .int b]) = true := by
  have h1 := small_log ha
  have h2 := small_log hb
  have h3 : wD (.list [.int a, .int b]) ≤ sizeLine := by
    simp only [wD, wAll]
    decide
  have h4 : PyData.depth (.list [.int a, .int b]) ≤ 30 := by
    simp only [PyData.depth, PyData.depthAll]
    decide
  simp only [reprOk, PyData.showable, PyData.showableAll, PyData.hasDict, PyData.hasDictAll, h1, h2, h3, h4]
  decide
theorem repr3 {a b c : Int} (ha : a.natAbs < 2 ^ 1900) (hb : b.natAbs < 2 ^ 1900) (hc : c.natAbs < 2 ^ 1900) : reprOk (.list [.int a, .int b, .int c]) = true := by
  have h1 := small_log ha
  have h2 := small_log hb
  have h0 := small_log hc
  have h3 : wD (.list [.int a, .int b, .int c]) ≤ sizeLine := by
    simp only [wD, wAll]
    decide
  have h4 : PyData.depth (.list [.int a, .int b, .int c]) ≤ 30 := by
    simp only [PyData.depth, PyData.depthAll]
    decide
  simp only [reprOk, PyData.showable, PyData.showableAll, PyData.hasDict, PyData.hasDictAll, h1, h2, h0, h3, h4]
  decide
end DL
set_option Elab.async false
set_option linter.all false
set_option maxRecDepth 100000
set_option maxHeartbeats 4000000
/-! DlV2: pots of any law. -/
namespace DL
open PySem L2
/-- a pot is made of a script, whatever it holds -/
theorem pot_all {A B C E M S U V W N O : Int} (hM : 0 < M) (hM2 : M ≤ 2 ^ 31) (hS : 0 ≤ S) (hS2 : S ≤ 1000) (hN : 0 < N) (hN2 : N < 2147483640) (hO : 0 ≤ O) (hO2 : O ≤ 1) (hU : U = 2) (hV : V = 3) (hW : W = 3) (hC : C = 10) (hE : E = 18) (hA : A.natAbs < 2 ^ 31)
    {ns : List Int} {k : Nat} (hk : k < 64) :
    ∃ p, Pot p ∧ runF 2 3 (mPot A B C E M S U V W N O) [.sh (.list (ns.map PyData.int)), .sh (.int k)] = .ok (.own (.ls p)) [.sh (.list (ns.map PyData.int)), .sh (.int k)] := by
  subst hU hV hW hC hE
  have p5 : dPow (.int (2 * (k : Int) + 3)) (.int 3) = some (.int ((2 * (k : Int) + 3) ^ 3)) := by
    have l : (2 * (k : Int) + 3).natAbs < 2 ^ 64 := by omega
    exact if_pos ⟨by omega, by omega, l⟩
  have pw : ∀ i j : Int, 0 ≤ j → j ≤ 1000000 → i.natAbs < 2 ^ 64 → dPow (.int i) (.int j) = some (.int (i ^ j.toNat)) := fun i j h1 h2 h3 => if_pos ⟨h1, h2, h3⟩
  have p2 := pw 10 18 (by omega) (by omega) (by omega)
  generalize (10 : Int) ^ (18 : Int).toNat = T at p2
  have b3 : (2 * (k : Int) + 3).natAbs < 2 ^ 8 := by omega
  have bc : ((2 * (k : Int) + 3) ^ 3).natAbs < 2 ^ (8 + 8 + 8) := by
    have e : (2 * (k : Int) + 3) ^ 3 = (2 * (k : Int) + 3) * (2 * (k : Int) + 3) * (2 * (k : Int) + 3) := by
      rw [Int.pow_succ, Int.pow_succ, Int.pow_succ, Int.pow_zero, Int.one_mul]
    rw [e]
    exact abs_mul_lt (abs_mul_lt b3 b3) b3
  generalize (2 * (k : Int) + 3) ^ 3 = c at p5 bc
  have go : ∀ cell : Int, ((¬ (k : Int) < ns.length ∧ cell = A * (k : Int) + B) ∨ ((k : Int) < ns.length ∧ ∃ v, dIx (.list (ns.map PyData.int)) (.int k) = some (.int v) ∧ cell = if v < 0 then -v else v)) →
      ∃ p, Pot p ∧ runF 2 3 (mPot A B 10 18 M S 2 3 3 N O) [.sh (.list (ns.map PyData.int)), .sh (.int k)] = .ok (.own (.ls p)) [.sh (.list (ns.map PyData.int)), .sh (.int k)] := by
    intro cell hv
    have e3 : dMod (.int cell) (.int M) = some (.int (cell % M)) := by
      rw [fmod_ok (by omega), Int.fmod_eq_emod_of_nonneg _ (by omega)]
    have l1 : 0 ≤ cell % M := Int.emod_nonneg _ (by omega)
    have l2 : cell % M < M := Int.emod_lt_of_pos _ (by omega)
    generalize cell % M = r at e3 l1 l2
    have e6 : dMul (.int (r + S)) (.int c) = some (.int ((r + S) * c)) := mul_ok (m := 32) (by omega) bc (by omega)
    have e7 : dMod (.int ((r + S) * c)) (.int N) = some (.int (((r + S) * c) % N)) := by
      rw [fmod_ok (by omega), Int.fmod_eq_emod_of_nonneg _ (by omega)]
    have l3 : 0 ≤ ((r + S) * c) % N := Int.emod_nonneg _ (by omega)
    have l4 : ((r + S) * c) % N < N := Int.emod_lt_of_pos _ (by omega)
    generalize ((r + S) * c) % N = z at e7 l3 l4
    have e1 : dMul (.int A) (.int k) = some (.int (A * (k : Int))) := mul_ok (m := 31) (n := 6) hA (by omega) (by omega)
    have e4 : dMul (.int 2) (.int k) = some (.int (2 * (k : Int))) := mul_ok (m := 2) (n := 6) (by omega) (by omega) (by omega)
    refine ⟨_, ⟨⟨_, _, rfl, ?_, ?_, ?_⟩⟩, pot_gen (len := ns.length) (by rw [z_bLen1, List.length_map]) e1 hv p2 e3 e4 p5 e6 e7⟩
    · split <;> omega
    · omega
    · omega
  by_cases h : k < ns.length
  · refine go _ (.inr ⟨by omega, ns[k], ?_, rfl⟩)
    have i1 : L2.ixN (ns.map PyData.int).length (k : Int) = some k := by
      simp only [L2.ixN, List.length_map]
      rw [if_pos (by omega), if_pos (by omega)]
      rfl
    show (L2.ixN (ns.map PyData.int).length (k : Int)).bind _ = _
    rw [i1]
    show (ns.map PyData.int)[k]? = _
    rw [List.getElem?_map, List.getElem?_eq_getElem h]
    rfl
  · exact go _ (.inl ⟨by omega, rfl⟩)
end DL
set_option Elab.async false
set_option linter.all false
set_option maxRecDepth 100000
set_option maxHeartbeats 4000000
/-! DlLc: comprehensions and loops over rows of any length; more terms opened by simp. -/
namespace DL
open PySem L2
def lc1 (g : Gf) (ts : Tf) (a : Ef) (d : D) (e : Fr) : R (Option D) := match g d e with
  | .ok _ e1 => (ts e1).bind fun b e2 => match b with
    | true => (a e2).bind fun a' e3 => (fz a' e3).bind fun d' e4 => .ok (some d') e4
    | false => .ok none e2
  | _ => .no
theorem lcL_1 {g : Gf} {ts : Tf} {a : Ef} {vs : List Nat} {d d' : D} {ds acc : List D} {e e' : Fr} (h : lc1 g ts a d e = .ok (some d') e') (hl : acc.length < 1000000) :
    lcL g ts a vs (d :: ds) e acc = lcL g ts a vs ds (wipeE e' vs) (acc ++ [d']) := by
  rw [z_lcL2]
  unfold lc1 at h
  split at h
  · rename_i e1 q
    try rw [q]
    try dsimp only
    cases q1 : ts e1 with
    | no => rw [q1] at h; cases h
    | ex x e2 => rw [q1] at h; cases h
    | ok b e2 =>
      rw [q1, R.bind_ok] at h
      cases b with
      | false => cases h
      | true =>
        dsimp only at h ⊢
        cases q2 : a e2 with
        | no => rw [q2] at h; cases h
        | ex x e2 => rw [q2] at h; cases h
        | ok a' e3 =>
          rw [q2, R.bind_ok] at h
          dsimp only
          cases q3 : fz a' e3 with
          | no => rw [q3] at h; cases h
          | ex x e2 => rw [q3] at h; cases h
          | ok d2 e4 =>
            rw [q3, R.bind_ok] at h
            cases h
            dsimp only
            rw [if_pos hl]
  · cases h
theorem lcL_0 {g : Gf} {ts : Tf} {a : Ef} {vs : List Nat} {d : D} {ds acc : List D} {e e' : Fr} (h : lc1 g ts a d e = .ok none e') :
    lcL g ts a vs (d :: ds) e acc = lcL g ts a vs ds (wipeE e' vs) acc := by
  rw [z_lcL2]
  unfold lc1 at h
  split at h
  · rename_i e1 q
    try rw [q]
    try dsimp only
    cases q1 : ts e1 with
    | no => rw [q1] at h; cases h
    | ex x e2 => rw [q1] at h; cases h
    | ok b e2 =>
      rw [q1, R.bind_ok] at h
      cases b with
      | false =>
        cases h
        rfl
      | true =>
        dsimp only at h
        cases q2 : a e2 with
        | no => rw [q2] at h; cases h
        | ex x e2 => rw [q2] at h; cases h
        | ok a' e3 =>
          rw [q2, R.bind_ok] at h
          cases q3 : fz a' e3 with
          | no => rw [q3] at h; cases h
          | ex x e2 => rw [q3] at h; cases h
          | ok d2 e4 =>
            rw [q3, R.bind_ok] at h
            cases h
  · cases h
/-- a comprehension over any row: I is what holds of the frame all along -/
theorem lcL_walk {α : Type} {g : Gf} {ts : Tf} {a : Ef} {vs : List Nat} (I : Fr → Prop) (inj : α → D) (o : α → Option D) : ∀ (xs : List α) (e : Fr) (acc : List D), I e →
    (∀ x ∈ xs, ∀ e, I e → ∃ e', lc1 g ts a (inj x) e = .ok (o x) e' ∧ I (wipeE e' vs)) → acc.length + xs.length ≤ 1000000 →
    ∃ e', I e' ∧ lcL g ts a vs (xs.map inj) e acc = .ok (acc ++ xs.filterMap o) e'
  | [], e, acc, h, _, _ => ⟨e, h, by simp⟩
  | x :: xs, e, acc, h, w, hl => by
    obtain ⟨e1, q, h1⟩ := w x (List.mem_cons_self ..) e h
    have hl' : acc.length + (xs.length + 1) ≤ 1000000 := hl
    cases ho : o x with
    | none =>
      rw [ho] at q
      obtain ⟨e2, h2, q2⟩ := lcL_walk I inj o xs (wipeE e1 vs) acc h1 (fun y hy => w y (List.mem_cons_of_mem _ hy)) (by omega)
      refine ⟨e2, h2, ?_⟩
      rw [List.map_cons, lcL_0 q, q2, List.filterMap_cons, ho]
    | some d =>
      rw [ho] at q
      obtain ⟨e2, h2, q2⟩ := lcL_walk I inj o xs (wipeE e1 vs) (acc ++ [d]) h1 (fun y hy => w y (List.mem_cons_of_mem _ hy)) (by rw [List.length_append]; show acc.length + 1 + xs.length ≤ _; omega)
      refine ⟨e2, h2, ?_⟩
      rw [List.map_cons, lcL_1 q (by omega), q2, List.filterMap_cons, ho, List.append_assoc]
      rfl
theorem filterMap_some {α β : Type} (f : α → β) (xs : List α) : xs.filterMap (fun x => some (f x)) = xs.map f := by
  induction xs with
  | nil => rfl
  | cons x xs ih => rw [List.filterMap_cons, List.map_cons, ih]
/-- one frame all along, each thing is put -/
theorem lcL_map {α : Type} {g : Gf} {ts : Tf} {a : Ef} {vs : List Nat} (inj out : α → D) (xs : List α) (e : Fr)
    (w : ∀ x ∈ xs, ∃ e', lc1 g ts a (inj x) e = .ok (some (out x)) e' ∧ wipeE e' vs = e) (hl : xs.length ≤ 1000000) :
    lcL g ts a vs (xs.map inj) e [] = .ok (xs.map out) e := by
  obtain ⟨e', h, q⟩ := lcL_walk (g := g) (ts := ts) (a := a) (vs := vs) (fun z => z = e) inj (fun x => some (out x)) xs e [] rfl (fun x hx z hz => by
    subst hz
    exact w x hx) (by simpa using hl)
  subst h
  rw [q, filterMap_some]
  rfl
/-! ### for -/
def for1 (g : Gf) (f : Sf) (d : D) (e : Fr) : R Fl := match g d e with
  | .ok _ e1 => f e1
  | _ => .no
theorem forL_nx {g : Gf} {f : Sf} {d : D} {ds : List D} {e e' : Fr} (h : for1 g f d e = .ok .nx e') : forL g f (d :: ds) e = forL g f ds e' := by
  rw [z_forL2]
  unfold for1 at h
  split at h
  · rename_i e1 q
    try rw [q]
    try dsimp only
    rw [h]
  · cases h
theorem forL_rt {g : Gf} {f : Sf} {d : D} {ds : List D} {e e' : Fr} {s : Sl} (h : for1 g f d e = .ok (.rt s) e') : forL g f (d :: ds) e = .ok (.rt s) e' := by
  rw [z_forL2]
  unfold for1 at h
  split at h
  · rename_i e1 q
    try rw [q]
    try dsimp only
    rw [h]
  · cases h
/-- a loop that goes on to its end: S is what holds of the value and the frame -/
theorem forL_walk {α σ : Type} {g : Gf} {f : Sf} (S : σ → Fr → Prop) (inj : α → D) (step : σ → α → σ) : ∀ (xs : List α) (s : σ) (e : Fr), S s e →
    (∀ x ∈ xs, ∀ s e, S s e → ∃ e', for1 g f (inj x) e = .ok .nx e' ∧ S (step s x) e') → ∃ e', forL g f (xs.map inj) e = .ok .nx e' ∧ S (xs.foldl step s) e'
  | [], s, e, h, _ => ⟨e, rfl, h⟩
  | x :: xs, s, e, h, w => by
    obtain ⟨e1, q, h1⟩ := w x (List.mem_cons_self ..) s e h
    obtain ⟨e2, q2, h2⟩ := forL_walk S inj step xs (step s x) e1 h1 (fun y hy => w y (List.mem_cons_of_mem _ hy))
    exact ⟨e2, by rw [List.map_cons, forL_nx q, q2], h2⟩
theorem zipD_map {α β : Type} (f : α → D) (g : β → D) : ∀ (xs : List α) (ys : List β), zipD (xs.map f) (ys.map g) = (xs.zip ys).map fun p => .tuple [f p.1, g p.2]
  | [], _ => rfl
  | _ :: _, [] => rfl
  | x :: xs, y :: ys => by
    show PyData.tuple [f x, g y] :: zipD (xs.map f) (ys.map g) = _
    rw [zipD_map f g xs ys]
    rfl
theorem enum_map {α : Type} (f : α → D) : ∀ (k : Nat) (xs : List α), enumFrom k (xs.map f) = (xs.zipIdx k).map fun p => .tuple [.int (p.2 : Int), f p.1]
  | _, [] => rfl
  | k, x :: xs => by
    show PyData.tuple [.int (k : Int), f x] :: enumFrom (k + 1) (xs.map f) = _
    rw [enum_map f (k + 1) xs]
    rfl
section
variable (e : Fr) (as : Af) (fa fb : Ef) (r : Rf) (fl fh : Of) (lo hi : Option Int) (ds : List D) (x : Arg)
@[simp] theorem z_lc1 (g : Gf) (ts : Tf) (a : Ef) (d : D) : lc1 g ts a d e = (match g d e with
  | .ok _ e1 => (ts e1).bind fun b e2 => match b with
    | true => (a e2).bind fun a' e3 => (fz a' e3).bind fun d' e4 => .ok (some d') e4
    | false => .ok none e2
  | _ => .no) := rfl
@[simp] theorem z_for1 (g : Gf) (f : Sf) (d : D) : for1 g f d e = (match g d e with
  | .ok _ e1 => f e1
  | _ => .no) := rfl
@[simp] theorem z_eCut : eCut fa fl fh e = (fa e).bind fun a e1 => (fl e1).bind fun lo e2 => (fh e2).bind fun hi e3 => useC a lo hi e3 := rfl
@[simp] theorem z_oNone : oNone e = .ok none e := rfl
@[simp] theorem z_oSome : oSome fa e = (fa e).bind fun a e1 => match rd1 e1 a with
  | some (.int i) => .ok (some i) e1
  | _ => .no := rfl
@[simp] theorem z_useC : useC x lo hi e = (match rd1 e x with
  | some (.list ds) => .ok (.new (.ls (cutD ds lo hi))) e
  | some d => match dCut d lo hi with
    | some r => .ok (.arg (.val r)) e
    | none => .no
  | none => .no) := rfl
@[simp] theorem z_dCutT : dCut (.tuple ds) lo hi = some (.tuple (cutD ds lo hi)) := rfl
@[simp] theorem z_eRep : eRep r fb e = (r e).bind fun r e1 => (fb e1).bind fun b e2 => match lsR r e2 with
  | some xs => match rd1 e2 b with
    | some (.int k) => if 0 ≤ k ∧ k ≤ 1000 ∧ xs.length ≤ 1000 then .ok (.new (.ls (List.replicate k.toNat xs).flatten)) e2 else .no
    | _ => .no
  | none => .no := rfl
@[simp] theorem z_iEnumF : iEnumF as e = (as e).bind fun as e1 => (fzA as e1).bind fun ds e2 => match ds with
  | [.list xs] => .ok (enumFrom 0 xs) e2
  | _ => .no := rfl
@[simp] theorem z_iDownF : iDownF as e = (as e).bind fun as e1 => match rdA e1 as with
  | some [.int m, .int n, .int c] => if c = -1 ∧ small62 m = true ∧ small62 n = true then .ok ((List.range (m - n).toNat).map fun (i : Nat) => .int (m + (i : Int) * (-1))) e1 else .no
  | _ => .no := rfl
end
end DL
set_option Elab.async false
set_option linter.all false
set_option maxRecDepth 100000
set_option maxHeartbeats 4000000
/-! DlLt: the order of data (whole numbers, texts, tuples of such); sorted. -/
namespace DL
open PySem L2
def rkD : D → Nat
  | .none => 0
  | .bool _ => 1
  | .int _ => 2
  | .str _ => 3
  | .tuple _ => 4
  | .list _ => 5
  | .dict _ => 6
def cmpI (a b : Int) : Ordering := if a < b then .lt else if b < a then .gt else .eq
def cmpS (a b : Str) : Ordering := if a.cps.toList < b.cps.toList then .lt else if b.cps.toList < a.cps.toList then .gt else .eq
mutual
def cmpB : D → D → Ordering
  | .int a, .int b => cmpI a b
  | .str a, .str b => cmpS a b
  | .tuple xs, .tuple ys => cmpL xs ys
  | .list xs, .list ys => cmpL xs ys
  | d, e => cmpI (rkD d) (rkD e)
def cmpL : List D → List D → Ordering
  | [], [] => .eq
  | [], _ :: _ => .lt
  | _ :: _, [] => .gt
  | x :: xs, y :: ys => (cmpB x y).then (cmpL xs ys)
end
def ltB (x y : D) : Bool := cmpB x y == .lt
theorem cmpI_swap (a b : Int) : cmpI b a = (cmpI a b).swap := by
  unfold cmpI
  split <;> split <;> first | rfl | omega
theorem cmpI_lt {a b : Int} (h : a < b) : cmpI a b = .lt := if_pos h
theorem cmpI_self (a : Int) : cmpI a a = .eq := by
  unfold cmpI
  rw [if_neg (Int.lt_irrefl a), if_neg (Int.lt_irrefl a)]
theorem cmpI_le {a b : Int} (h : cmpI a b ≠ .gt) : a < b ∨ a = b := by
  unfold cmpI at h
  by_cases h1 : a < b
  · exact .inl h1
  · rw [if_neg h1] at h
    by_cases h2 : b < a
    · rw [if_pos h2] at h
      exact absurd rfl h
    · exact .inr (by omega)
theorem cmpI_tr {a b c : Int} (h1 : cmpI a b ≠ .gt) (h2 : cmpI b c ≠ .gt) : cmpI a c = (cmpI a b).then (cmpI b c) := by
  rcases cmpI_le h1 with k1 | rfl <;> rcases cmpI_le h2 with k2 | rfl
  · rw [cmpI_lt k1, cmpI_lt k2, cmpI_lt (show a < c by omega)]
    rfl
  · rw [cmpI_lt k1]
    rfl
  · rw [cmpI_self, cmpI_lt k2]
    rfl
  · rw [cmpI_self]
    rfl
theorem cmpS_swap (a b : Str) : cmpS b a = (cmpS a b).swap := by
  unfold cmpS
  by_cases h1 : a.cps.toList < b.cps.toList
  · rw [if_pos h1, if_pos h1, if_neg (List.lt_asymm h1)]
    rfl
  · by_cases h2 : b.cps.toList < a.cps.toList
    · rw [if_pos h2, if_neg h1, if_pos h2]
      rfl
    · rw [if_neg h1, if_neg h2, if_neg h2, if_neg h1]
      rfl
theorem cmpS_tr {a b c : Str} (h1 : cmpS a b ≠ .gt) (h2 : cmpS b c ≠ .gt) : cmpS a c = (cmpS a b).then (cmpS b c) := by
  unfold cmpS at h1 h2 ⊢
  generalize a.cps.toList = x at *
  generalize b.cps.toList = y at *
  generalize c.cps.toList = z at *
  have l1 : x ≤ y := by
    rw [← List.not_lt]
    intro q
    rw [if_neg (List.lt_asymm q), if_pos q] at h1
    exact h1 rfl
  have l2 : y ≤ z := by
    rw [← List.not_lt]
    intro q
    rw [if_neg (List.lt_asymm q), if_pos q] at h2
    exact h2 rfl
  rcases List.le_iff_lt_or_eq.mp l1 with k1 | rfl
  · have l3 : x < z := by
      rcases List.le_iff_lt_or_eq.mp (List.le_trans l1 l2) with q | rfl
      · exact q
      · exact absurd k1 (List.not_lt.mpr l2)
    rw [if_pos l3, if_pos k1]
    rfl
  · rcases List.le_iff_lt_or_eq.mp l2 with k2 | rfl
    · rw [if_pos k2, if_neg (List.lt_irrefl x), if_neg (List.lt_irrefl x)]
      rfl
    · rw [if_neg (List.lt_irrefl x), if_neg (List.lt_irrefl x)]
      rfl
theorem cmpB_int (a b : Int) : cmpB (.int a) (.int b) = cmpI a b := by simp only [cmpB]
theorem cmpB_str (a b : Str) : cmpB (.str a) (.str b) = cmpS a b := by simp only [cmpB]
theorem cmpB_tup (a b : List D) : cmpB (.tuple a) (.tuple b) = cmpL a b := by simp only [cmpB]
theorem cmpB_lst (a b : List D) : cmpB (.list a) (.list b) = cmpL a b := by simp only [cmpB]
theorem cmpB_rk {d e : D} (h : rkD d ≠ rkD e) : cmpB d e = cmpI (rkD d) (rkD e) := by
  cases d <;> cases e <;> first | (simp only [cmpB]; done) | exact absurd rfl h
theorem cmpL_cc (x y : D) (a b : List D) : cmpL (x :: a) (y :: b) = (cmpB x y).then (cmpL a b) := by simp only [cmpL]
theorem then_swap (a b : Ordering) : (a.then b).swap = a.swap.then b.swap := by cases a <;> cases b <;> rfl
mutual
theorem cmpB_swap : ∀ x y : D, cmpB y x = (cmpB x y).swap
  | .tuple xs, .tuple ys => by rw [cmpB_tup, cmpB_tup]; exact cmpL_swap xs ys
  | .list xs, .list ys => by rw [cmpB_lst, cmpB_lst]; exact cmpL_swap xs ys
  | x, y => by
    by_cases h : rkD x = rkD y
    · cases x <;> cases y <;> first
        | (simp [rkD] at h; done)
        | (rw [cmpB_int, cmpB_int]; exact cmpI_swap _ _)
        | (rw [cmpB_str, cmpB_str]; exact cmpS_swap _ _)
        | (simp only [cmpB]; exact cmpI_swap _ _)
        | (rw [cmpB_tup, cmpB_tup]; exact cmpL_swap _ _)
        | (rw [cmpB_lst, cmpB_lst]; exact cmpL_swap _ _)
    · rw [cmpB_rk h, cmpB_rk (Ne.symm h)]
      exact cmpI_swap _ _
theorem cmpL_swap : ∀ xs ys : List D, cmpL ys xs = (cmpL xs ys).swap
  | [], [] => by simp only [cmpL]; rfl
  | [], y :: ys => by simp only [cmpL]; rfl
  | x :: xs, [] => by simp only [cmpL]; rfl
  | x :: xs, y :: ys => by rw [cmpL_cc, cmpL_cc, then_swap, cmpB_swap x y, cmpL_swap xs ys]
end
mutual
theorem cmpB_tr : ∀ x y z : D, cmpB x y ≠ .gt → cmpB y z ≠ .gt → cmpB x z = (cmpB x y).then (cmpB y z)
  | .tuple xs, .tuple ys, .tuple zs, h1, h2 => by
    rw [cmpB_tup] at h1 h2 ⊢
    rw [cmpB_tup, cmpB_tup]
    exact cmpL_tr xs ys zs h1 h2
  | .list xs, .list ys, .list zs, h1, h2 => by
    rw [cmpB_lst] at h1 h2 ⊢
    rw [cmpB_lst, cmpB_lst]
    exact cmpL_tr xs ys zs h1 h2
  | x, y, z, h1, h2 => by
    by_cases hxy : rkD x = rkD y
    · by_cases hyz : rkD y = rkD z
      · cases x <;> cases y <;> first
          | (simp [rkD] at hxy; done)
          | (cases z <;> first
              | (simp [rkD] at hyz; done)
              | (rw [cmpB_int] at h1 h2 ⊢; rw [cmpB_int, cmpB_int]; exact cmpI_tr h1 h2)
              | (rw [cmpB_str] at h1 h2 ⊢; rw [cmpB_str, cmpB_str]; exact cmpS_tr h1 h2)
              | (rw [cmpB_tup] at h1 h2 ⊢; rw [cmpB_tup, cmpB_tup]; exact cmpL_tr _ _ _ h1 h2)
              | (rw [cmpB_lst] at h1 h2 ⊢; rw [cmpB_lst, cmpB_lst]; exact cmpL_tr _ _ _ h1 h2)
              | (simp only [cmpB] at h1 h2 ⊢; exact cmpI_tr h1 h2))
      · have hxz : rkD x ≠ rkD z := by rw [hxy]; exact hyz
        rw [cmpB_rk hyz] at h2
        rw [cmpB_rk hyz, cmpB_rk hxz, hxy]
        rcases cmpI_le h2 with k | k
        · rw [cmpI_lt k]
          cases q : cmpB x y <;> first | rfl | exact absurd q h1
        · exact absurd (by omega) hyz
    · rw [cmpB_rk hxy] at h1
      rcases cmpI_le h1 with k1 | k1
      · by_cases hyz : rkD y = rkD z
        · rw [cmpB_rk (show rkD x ≠ rkD z by omega), cmpB_rk hxy, ← hyz, cmpI_lt k1]
          rfl
        · rw [cmpB_rk hyz] at h2
          rcases cmpI_le h2 with k2 | k2
          · rw [cmpB_rk (show rkD x ≠ rkD z by omega), cmpB_rk hxy, cmpB_rk hyz, cmpI_lt k1, cmpI_lt (show (rkD x : Int) < rkD z by omega)]
            rfl
          · exact absurd (by omega) hyz
      · exact absurd (by omega) hxy
theorem cmpL_tr : ∀ xs ys zs : List D, cmpL xs ys ≠ .gt → cmpL ys zs ≠ .gt → cmpL xs zs = (cmpL xs ys).then (cmpL ys zs)
  | [], [], zs, h1, h2 => by simp only [cmpL]; rfl
  | [], y :: ys, [], h1, h2 => by simp only [cmpL] at h2; exact absurd rfl h2
  | [], y :: ys, z :: zs, h1, h2 => by simp only [cmpL]; rfl
  | x :: xs, [], zs, h1, h2 => by simp only [cmpL] at h1; exact absurd rfl h1
  | x :: xs, y :: ys, [], h1, h2 => by simp only [cmpL] at h2; exact absurd rfl h2
  | x :: xs, y :: ys, z :: zs, h1, h2 => by
    rw [cmpL_cc] at h1 h2 ⊢
    rw [cmpL_cc, cmpL_cc]
    have a1 : cmpB x y ≠ .gt := fun q => by rw [q] at h1; exact h1 rfl
    have a2 : cmpB y z ≠ .gt := fun q => by rw [q] at h2; exact h2 rfl
    have a3 := cmpB_tr x y z a1 a2
    have a4 : cmpL xs ys ≠ .gt → cmpL ys zs ≠ .gt → _ := cmpL_tr xs ys zs
    rw [a3]
    cases q1 : cmpB x y <;> cases q2 : cmpB y z <;> rw [q1] at h1 <;> rw [q2] at h2 <;> first
      | rfl
      | exact absurd q1 a1
      | exact absurd q2 a2
      | exact a4 h1 h2
      | (cases q3 : cmpL xs ys <;> first | rfl | exact absurd q3 h1)
end
theorem ltB_iff {x y : D} : ltB x y = true ↔ cmpB x y = .lt := by
  unfold ltB
  exact beq_iff_eq
theorem ltB_no {x y : D} : ltB y x = false ↔ cmpB x y ≠ .gt := by
  unfold ltB
  rw [cmpB_swap x y]
  cases cmpB x y <;> simp [Ordering.swap]
theorem swoB : SrtO.Swo ltB where
  asym x y h := by
    rw [ltB_no, ltB_iff.mp h]
    exact fun z => nomatch z
  tr x y z h1 h2 := by
    rw [ltB_no] at h1 h2 ⊢
    rw [cmpB_tr x y z h1 h2]
    cases q1 : cmpB x y <;> cases q2 : cmpB y z <;> first | (exact absurd q1 h1) | (exact absurd q2 h2) | (exact fun z => nomatch z)
end DL
set_option Elab.async false
set_option linter.all false
set_option maxRecDepth 100000
set_option maxHeartbeats 4000000
/-! DlLu: < of data that can be compared. -/
namespace DL
open PySem L2
mutual
/-- whole numbers, texts, tuples of such, place by place -/
def okB : D → D → Bool
  | .int _, .int _ => true
  | .str _, .str _ => true
  | .tuple xs, .tuple ys => okL xs ys
  | _, _ => false
def okL : List D → List D → Bool
  | x :: xs, y :: ys => okB x y && okL xs ys
  | _, _ => true
end
theorem okB_tup (a b : List D) : okB (.tuple a) (.tuple b) = okL a b := by simp only [okB]
theorem okL_cc (x y : D) (a b : List D) : okL (x :: a) (y :: b) = (okB x y && okL a b) := by simp only [okL]
theorem cmpI_eq {a b : Int} : cmpI a b = .eq ↔ a = b := by
  unfold cmpI
  by_cases h1 : a < b
  · rw [if_pos h1]
    exact ⟨fun z => (by cases z), fun z => (by omega)⟩
  · rw [if_neg h1]
    by_cases h2 : b < a
    · rw [if_pos h2]
      exact ⟨fun z => (by cases z), fun z => (by omega)⟩
    · rw [if_neg h2]
      exact ⟨fun _ => by omega, fun _ => rfl⟩
theorem cmpS_eq {a b : Str} : cmpS a b = .eq ↔ a = b := by
  unfold cmpS
  constructor
  · intro h
    split at h
    · cases h
    · rename_i h1
      split at h
      · cases h
      · rename_i h2
        have e := List.le_antisymm (List.not_lt.mp h2) (List.not_lt.mp h1)
        cases a
        cases b
        exact congrArg Str.mk (Array.toList_inj.mp e)
  · rintro rfl
    rw [if_neg (List.lt_irrefl _), if_neg (List.lt_irrefl _)]
theorem then_eq {a b : Ordering} : a.then b = .eq ↔ a = .eq ∧ b = .eq := by cases a <;> cases b <;> simp [Ordering.then]
mutual
theorem cmp_eq : ∀ x y : D, okB x y = true → (cmpB x y = .eq ↔ x = y)
  | x, y, h => by
    cases x <;> cases y <;> first
      | (simp [okB] at h; done)
      | (rw [cmpB_int, cmpI_eq]; simp)
      | (rw [cmpB_str, cmpS_eq]; simp)
      | (rw [okB_tup] at h; rw [cmpB_tup, cmpL_eq _ _ h]; simp)
theorem cmpL_eq : ∀ xs ys : List D, okL xs ys = true → (cmpL xs ys = .eq ↔ xs = ys)
  | [], [], _ => by simp [cmpL]
  | [], _ :: _, _ => by simp [cmpL]
  | _ :: _, [], _ => by simp [cmpL]
  | x :: xs, y :: ys, h => by
    rw [okL_cc, Bool.and_eq_true] at h
    rw [cmpL_cc, then_eq, cmp_eq x y h.1, cmpL_eq xs ys h.2]
    simp
end
mutual
theorem eqv_eq : ∀ x y : D, okB x y = true → PyData.eqv x y = decide (cmpB x y = .eq)
  | x, y, h => by
    cases x <;> cases y <;> first
      | (simp [okB] at h; done)
      | (rw [Bool.eq_iff_iff, decide_eq_true_eq, cmp_eq _ _ h]; simp [PyData.eqv]; done)
      | (rw [okB_tup] at h; simp only [PyData.eqv]; rw [eqvL_eq _ _ h, cmpB_tup])
theorem eqvL_eq : ∀ xs ys : List D, okL xs ys = true → PyData.eqvAll xs ys = decide (cmpL xs ys = .eq)
  | [], [], _ => by simp [PyData.eqvAll, cmpL]
  | [], _ :: _, _ => by simp [PyData.eqvAll, cmpL]
  | _ :: _, [], _ => by simp [PyData.eqvAll, cmpL]
  | x :: xs, y :: ys, h => by
    rw [okL_cc, Bool.and_eq_true] at h
    simp only [PyData.eqvAll]
    rw [eqv_eq x y h.1, eqvL_eq xs ys h.2, Bool.eq_iff_iff, cmpL_cc, decide_eq_true_eq, then_eq]
    simp
end
theorem okL_at : ∀ {xs ys : List D} {j : Nat} {a b : D}, okL xs ys = true → xs[j]? = some a → ys[j]? = some b → okB a b = true
  | [], _, _, _, _, _, h, _ => by simp at h
  | _ :: _, [], _, _, _, _, _, h => by simp at h
  | x :: xs, y :: ys, 0, a, b, h, h1, h2 => by
    rw [okL_cc, Bool.and_eq_true] at h
    simp at h1 h2
    rw [← h1, ← h2]
    exact h.1
  | x :: xs, y :: ys, j + 1, a, b, h, h1, h2 => by
    rw [okL_cc, Bool.and_eq_true] at h
    exact okL_at h.2 (by simpa using h1) (by simpa using h2)
theorem lex_cmp : ∀ (xs ys : List D) (i : Nat) (e r : Nat → Bool), (∀ j x y, xs[j]? = some x → ys[j]? = some y → e (i + j) = decide (cmpB x y = .eq) ∧ r (i + j) = ltB x y) →
    Ob.lexAt e r (decide (xs.length < ys.length)) i (min xs.length ys.length) = decide (cmpL xs ys = .lt)
  | [], [], i, e, r, h => by simp [Ob.lexAt, cmpL]
  | [], _ :: _, i, e, r, h => by simp [Ob.lexAt, cmpL]
  | _ :: _, [], i, e, r, h => by simp [Ob.lexAt, cmpL]
  | x :: xs, y :: ys, i, e, r, h => by
    have h0 := h 0 x y rfl rfl
    rw [Nat.add_zero] at h0
    have ih := lex_cmp xs ys (i + 1) e r fun j a b ha hb => by
      have := h (j + 1) a b ha hb
      rw [show i + (j + 1) = i + 1 + j by omega] at this
      exact this
    have hl : decide ((x :: xs).length < (y :: ys).length) = decide (xs.length < ys.length) := by
      rw [List.length_cons, List.length_cons]
      simp
    rw [hl, show min (x :: xs).length (y :: ys).length = min xs.length ys.length + 1 by rw [List.length_cons, List.length_cons]; omega, Ob.lexAt_succ, h0.1, h0.2, cmpL_cc]
    cases q : cmpB x y with
    | eq =>
      rw [if_pos (by decide), ih]
      rfl
    | lt =>
      rw [if_neg (by decide), ltB_iff.mpr q]
      rfl
    | gt =>
      rw [if_neg (by decide)]
      unfold ltB
      rw [q]
      rfl
theorem readsAll_len {h : Heap} : ∀ {vs : List Value} {ds : List D} {as : List Addr}, ReadsAll h vs ds as → vs.length = ds.length
  | _, _, _, .nil => rfl
  | _, _, _, .cons _ r => by rw [List.length_cons, List.length_cons, readsAll_len r]
section
variable {A : Around} {s : Shared}
def ltAt (xs ys : List D) (j : Nat) : Bool := match xs[j]?, ys[j]? with
  | some x, some y => ltB x y
  | _, _ => false
mutual
theorem rcLt : ∀ (d e : D) (A : Around) (s : Shared) (x y : Value) (as bs : List Addr), Reads s.heap x d as → Reads s.heap y e bs → okB d e = true → d.canLay0 = true → e.canLay0 = true → A.units + min d.depth e.depth < cLine →
    Ob.RcOp .Lt A s x y (ltB d e)
  | d, e, A, s, x, y, as, bs, rx, ry, h, c1, c2, hu => by
    cases d <;> cases e <;> first
      | (simp [okB] at h; done)
      | (cases rx; cases ry; unfold ltB; rw [cmpB_int]; rw [show (cmpI _ _ == Ordering.lt) = decide (_ < _) from by unfold cmpI; split <;> first | (rename_i q; rw [decide_eq_true q]; rfl) | (rename_i q; rw [decide_eq_false q]; split <;> rfl)]; exact Ob.RcOp.lt_int _ _ _ _)
      | (cases rx; cases ry; unfold ltB; rw [cmpB_str]; rw [show (cmpS _ _ == Ordering.lt) = decide (_ < _) from by unfold cmpS; split <;> first | (rename_i q; rw [decide_eq_true q]; rfl) | (rename_i q; rw [decide_eq_false q]; split <;> rfl)]; exact fun prog w E Q hq => PyProof.Rows.lt_str hq)
      | (rw [okB_tup] at h
         rename_i xs ys
         have k1 : PyData.canLayAll0 xs = true := by simpa only [PyData.canLay0] using c1
         have k2 : PyData.canLayAll0 ys = true := by simpa only [PyData.canLay0] using c2
         have hu' : A.in1.units + min (PyData.depthAll xs) (PyData.depthAll ys) < cLine := by
           simp only [PyData.depth] at hu
           show A.units + 1 + min (PyData.depthAll xs) (PyData.depthAll ys) < cLine
           omega
         cases rx with
         | tuple h1 h2 h3 h4 =>
           cases ry with
           | tuple g1 g2 g3 g4 =>
             have l1 := readsAll_len h4
             have l2 := readsAll_len g4
             have t := Ob.RcOp.tuples_lt (A := A) (e := SeqAt.pairEq xs ys) (r := ltAt xs ys) ⟨_, h1, h2, _, h3⟩ ⟨_, g1, g2, _, g3⟩ (by omega)
               (fun j j1 j2 => SeqAt.eqAt_readsAll xs ys A.in1 s _ _ _ _ h4 g4 k1 k2 hu' j j1 j2)
               (fun j j1 j2 _ => rcLtAll xs ys A.in1 s _ _ _ _ h4 g4 h k1 k2 hu' j j1 j2)
             have lx := lex_cmp xs ys 0 (SeqAt.pairEq xs ys) (ltAt xs ys) (fun j a b ha hb => by
               rw [Nat.zero_add]
               refine ⟨?_, by unfold ltAt; rw [ha, hb]⟩
               unfold SeqAt.pairEq
               rw [List.getD_eq_getElem?_getD, List.getD_eq_getElem?_getD, ha, hb]
               exact eqv_eq a b (okL_at h ha hb))
             rw [Array.length_toList] at l1 l2
             rw [l1, l2, lx] at t
             unfold ltB
             rw [cmpB_tup]
             have e1 : (cmpL xs ys == Ordering.lt) = decide (cmpL xs ys = .lt) := by cases cmpL xs ys <;> rfl
             rw [e1]
             exact t)
theorem rcLtAll : ∀ (xs ys : List D) (A : Around) (s : Shared) (vs ws : List Value) (as bs : List Addr), ReadsAll s.heap vs xs as → ReadsAll s.heap ws ys bs → okL xs ys = true → PyData.canLayAll0 xs = true → PyData.canLayAll0 ys = true →
    A.units + min (PyData.depthAll xs) (PyData.depthAll ys) < cLine → ∀ j (h1 : j < vs.length) (h2 : j < ws.length), Ob.RcOp .Lt A s vs[j] ws[j] (ltAt xs ys j)
  | [], _, _, _, _, _, _, _, ra, _, _, _, _, _, j, h1, _ => by cases ra; exact absurd h1 (Nat.not_lt_zero _)
  | _ :: _, [], _, _, _, _, _, _, _, rb, _, _, _, _, j, _, h2 => by cases rb; exact absurd h2 (Nat.not_lt_zero _)
  | x :: xs, y :: ys, A, s, _, _, _, _, ra, rb, h, c1, c2, hu, j, h1, h2 => by
    rw [okL_cc, Bool.and_eq_true] at h
    have k1 : x.canLay0 = true ∧ PyData.canLayAll0 xs = true := by simpa [PyData.canLayAll0] using c1
    have k2 : y.canLay0 = true ∧ PyData.canLayAll0 ys = true := by simpa [PyData.canLayAll0] using c2
    simp only [PyData.depthAll] at hu
    cases ra with
    | cons r1 r2 =>
      cases rb with
      | cons q1 q2 =>
        cases j with
        | zero => exact rcLt x y A s _ _ _ _ r1 q1 h.1 k1.1 k2.1 (by omega)
        | succ j => exact rcLtAll xs ys A s _ _ _ _ r2 q2 h.2 k1.2 k2.2 (by omega) j (Nat.lt_of_succ_lt_succ h1) (Nat.lt_of_succ_lt_succ h2)
end
end
end DL
set_option Elab.async false
set_option linter.all false
set_option maxRecDepth 100000
set_option maxHeartbeats 4000000
/-! DlSo: sorted of lists of data. -/
namespace DL
open PySem L2 PyProof.Rows
def fk : D → Nat
  | .int _ => 0
  | .str _ => 1
  | .tuple (.int _ :: _) => 2
  | .tuple (.str _ :: _) => 3
  | .tuple (.tuple _ :: _) => 4
  | _ => 5
def κof : Nat → SortKind
  | 0 => oneType'
  | 1 => oneType'
  | 2 => tuples' true
  | 3 => tuples' true
  | _ => tuples' false
theorem cmpI_lt' (a b : Int) : (cmpI a b == Ordering.lt) = decide (a < b) := by
  unfold cmpI
  by_cases h : a < b
  · rw [if_pos h, decide_eq_true h]
    rfl
  · rw [if_neg h, decide_eq_false h]
    split <;> rfl
theorem cmpS_lt' (a b : Str) : (cmpS a b == Ordering.lt) = decide (a.cps.toList < b.cps.toList) := by
  unfold cmpS
  by_cases h : a.cps.toList < b.cps.toList
  · rw [if_pos h, decide_eq_true h]
    rfl
  · rw [if_neg h, decide_eq_false h]
    split <;> rfl
theorem ltB_int (a b : Int) : ltB (.int a) (.int b) = decide (a < b) := by
  unfold ltB
  rw [cmpB_int, cmpI_lt']
theorem ltB_str (a b : Str) : ltB (.str a) (.str b) = decide (a.cps.toList < b.cps.toList) := by
  unfold ltB
  rw [cmpB_str, cmpS_lt']
theorem reads_mem {h : Heap} : ∀ {vs : List Value} {ds : List D} {as : List Addr}, ReadsAll h vs ds as → ∀ v ∈ vs, ∃ d ∈ ds, ∃ bs, Reads h v d bs
  | _, _, _, .nil, v, hv => by cases hv
  | _, _, _, .cons r1 r2, v, hv => by
    rcases List.mem_cons.mp hv with rfl | hv
    · exact ⟨_, List.mem_cons_self .., _, r1⟩
    · obtain ⟨d, hd, bs, r⟩ := reads_mem r2 v hv
      exact ⟨d, List.mem_cons_of_mem _ hd, bs, r⟩
theorem lay_mem : ∀ {ds : List D}, PyData.canLayAll0 ds = true → ∀ d ∈ ds, d.canLay0 = true
  | x :: xs, h, d, hd => by
    have h' : x.canLay0 = true ∧ PyData.canLayAll0 xs = true := by simpa [PyData.canLayAll0] using h
    rcases List.mem_cons.mp hd with rfl | hd
    · exact h'.1
    · exact lay_mem h'.2 d hd
theorem depth_mem : ∀ {ds : List D} {d : D}, d ∈ ds → d.depth ≤ PyData.depthAll ds
  | x :: xs, d, hd => by
    simp only [PyData.depthAll]
    rcases List.mem_cons.mp hd with rfl | hd
    · exact Nat.le_max_left _ _
    · exact Nat.le_trans (depth_mem hd) (Nat.le_max_right _ _)
section
variable {prog : Program} {w : World} {A : Around} {E : Value → Shared → Prop} {s : Shared}
/-- < of two tuples as keys -/
theorem kat_data {b : Bool} {fin : Bool} {Q : Bool → Shared → Prop} : ∀ (xs ys : List D) (vs ws : List Value) (as bs : List Addr) (i : Nat), ReadsAll s.heap vs xs as → ReadsAll s.heap ws ys bs → okL xs ys = true → PyData.canLayAll0 xs = true → PyData.canLayAll0 ys = true →
    A.units + min (PyData.depthAll xs) (PyData.depthAll ys) < cLine → (b = true → i = 0 → ∀ x, xs[0]? = some x → (∃ n, x = .int n) ∨ ∃ z, x = .str z) → fin = decide (xs.length < ys.length) → Q (decide (cmpL xs ys = .lt)) s →
    PySem.W.KatLex prog w A b fin Q (vs.zip ws) i s
  | [], ys, _, _, _, _, i, ra, rb, _, _, _, _, _, hf, q => by
    cases ra
    rw [List.zip_nil_left]
    refine PySem.W.kat_nil ?_
    rw [hf]
    cases ys with
    | nil =>
      rw [show decide (cmpL [] [] = .lt) = false from by simp [cmpL]] at q
      simpa using q
    | cons y ys =>
      rw [show decide (cmpL [] (y :: ys) = .lt) = true from by simp [cmpL]] at q
      simpa using q
  | x :: xs, [], _, _, _, _, i, ra, rb, _, _, _, _, _, hf, q => by
    cases rb
    rw [List.zip_nil_right]
    refine PySem.W.kat_nil ?_
    rw [hf]
    rw [show decide (cmpL (x :: xs) [] = .lt) = false from by simp [cmpL]] at q
    simpa using q
  | x :: xs, y :: ys, _, _, _, _, i, ra, rb, h, c1, c2, hu, h0, hf, q => by
    rw [okL_cc, Bool.and_eq_true] at h
    have k1 : x.canLay0 = true ∧ PyData.canLayAll0 xs = true := by simpa [PyData.canLayAll0] using c1
    have k2 : y.canLay0 = true ∧ PyData.canLayAll0 ys = true := by simpa [PyData.canLayAll0] using c2
    simp only [PyData.depthAll] at hu
    cases ra with
    | cons r1 r2 =>
      cases rb with
      | cons q1 q2 =>
        rename_i v vs a1 a2 u ws b1 b2
        rw [List.zip_cons_cons]
        have eq1 := SeqAt.eqAt_reads x y A s v u _ _ r1 q1 k1.1 k2.1 (by omega)
        rw [eqv_eq x y h.1] at eq1
        refine PySem.W.kat_cons (eq1 prog w _ _ ?_)
        rw [cmpL_cc] at q
        refine PySem.W.kat_go (fun e1 => ?_) (fun e1 => ?_)
        · have e2 : cmpB x y = .eq := of_decide_eq_true e1
          rw [e2] at q
          refine PySem.W.kat_yes (kat_data xs ys vs ws _ _ (i + 1) r2 q2 h.2 k1.2 k2.2 (by omega) (fun _ z => by omega) (by rw [hf, List.length_cons, List.length_cons]; simp) q)
        · have e2 : ¬ cmpB x y = .eq := of_decide_eq_false e1
          have q' : Q (ltB x y) s := by
            have e3 : decide ((cmpB x y).then (cmpL xs ys) = .lt) = ltB x y := by
              unfold ltB
              cases e4 : cmpB x y with
              | eq => exact absurd e4 e2
              | lt => rfl
              | gt => rfl
            rw [← e3]
            exact q
          refine PySem.W.kat_no ?_
          have lt1 := rcLt x y A s v u _ _ r1 q1 h.1 k1.1 k2.1 (by omega)
          cases hb : (b && i == 0) with
          | false => exact PySem.W.kat_one _ _ (lt1 prog w _ _ q')
          | true =>
            rw [Bool.and_eq_true] at hb
            rcases h0 hb.1 (by simpa using hb.2) x rfl with ⟨n, rfl⟩ | ⟨z, rfl⟩
            · cases y with
              | int m =>
                cases r1
                cases q1
                rw [ltB_int] at q'
                exact oneLt_int q'
              | _ => exact absurd h.1 (by simp [okB])
            · cases y with
              | str m =>
                cases r1
                cases q1
                rw [ltB_str] at q'
                exact oneLt_str q'
              | _ => exact absurd h.1 (by simp [okB])
theorem data_cmp {vs : List Value} {ds : List D} {as : List Addr} {k : Nat} {rd : Value → D} (r : ReadsAll s.heap vs ds as) (ok : ∀ x ∈ ds, ∀ y ∈ ds, okB x y = true) (hk : ∀ x ∈ ds, fk x = k) (k5 : k < 5) (c : PyData.canLayAll0 ds = true)
    (hu : A.units + PyData.depthAll ds < cLine) (hrd : ∀ v ∈ vs, ∀ d bs, Reads s.heap v d bs → d.canLay0 = true → rd v = d) : SrtO.Cmp prog w A s (κof k) (fun p => p.1 ∈ vs) (SrtO.lt2 fun v u => ltB (rd v) (rd u)) := by
  intro p q hm hm'
  obtain ⟨d, hd, bs, r1⟩ := reads_mem r _ hm
  obtain ⟨e, he, cs, r2⟩ := reads_mem r _ hm'
  have c1 := lay_mem c d hd
  have c2 := lay_mem c e he
  have o := ok d hd e he
  have m1 := depth_mem hd
  have m2 := depth_mem he
  show wpAny (model prog w) A (keyLt' (κof k) p.1 q.1) (fun r s' => s' = s ∧ r = ltB (rd p.1) (rd q.1)) (fun _ _ => False) s
  rw [hrd _ hm d _ r1 c1, hrd _ hm' e _ r2 c2]
  have f1 := hk d hd
  generalize p.1 = v at *
  generalize q.1 = u at *
  cases d with
  | int n =>
    cases e with
    | int m =>
      cases r1
      cases r2
      rw [← f1]
      show wpAny (model prog w) A (keyLt' oneType' _ _) _ _ s
      rw [keyLt'_oneType]
      exact oneLt_int ⟨rfl, (ltB_int n m).symm⟩
    | _ => exact absurd o (by simp [okB])
  | str n =>
    cases e with
    | str m =>
      cases r1
      cases r2
      rw [← f1]
      show wpAny (model prog w) A (keyLt' oneType' _ _) _ _ s
      rw [keyLt'_oneType]
      exact oneLt_str ⟨rfl, (ltB_str n m).symm⟩
    | _ => exact absurd o (by simp [okB])
  | tuple xs =>
    cases e with
    | tuple ys =>
      rw [okB_tup] at o
      have l1 : PyData.canLayAll0 xs = true := by simpa only [PyData.canLay0] using c1
      have l2 : PyData.canLayAll0 ys = true := by simpa only [PyData.canLay0] using c2
      simp only [PyData.depth] at m1 m2
      cases r1 with
      | tuple h1 h2 h3 h4 =>
        cases r2 with
        | tuple g1 g2 g3 g4 =>
          have z1 := readsAll_len h4
          have z2 := readsAll_len g4
          rw [Array.length_toList] at z1 z2
          obtain ⟨b, hb, hb2⟩ : ∃ b, κof k = tuples' b ∧ (b = true → ∀ x, xs[0]? = some x → (∃ n, x = .int n) ∨ ∃ z, x = .str z) := by
            cases xs with
            | nil => exact absurd f1 (by simp only [fk]; omega)
            | cons x xs =>
              cases x with
              | int n => exact ⟨true, by rw [← f1]; rfl, fun _ x hx => .inl ⟨n, (Option.some.inj hx).symm⟩⟩
              | str n => exact ⟨true, by rw [← f1]; rfl, fun _ x hx => .inr ⟨n, (Option.some.inj hx).symm⟩⟩
              | tuple n => exact ⟨false, by rw [← f1]; rfl, fun z => nomatch z⟩
              | _ => exact absurd f1 (by simp only [fk]; omega)
          rw [hb]
          refine PySem.W.kat_lt h1 h3 g1 g3 ?_
          refine kat_data xs ys _ _ _ _ 0 h4 g4 o l1 l2 (by omega) (fun z _ => hb2 z) (by rw [z1, z2]) ⟨rfl, ?_⟩
          unfold ltB
          rw [cmpB_tup]
          cases cmpL xs ys <;> rfl
    | _ => exact absurd o (by simp [okB])
  | _ => exact absurd f1 (by simp only [fk]; omega)
end
section
variable {prog : Program} {w : World} {A : Around} {E : Value → Shared → Prop} {s : Shared}
theorem ints_are : ∀ {vs : List Value} {ds : List D} {as : List Addr}, ReadsAll s.heap vs ds as → (∀ x ∈ ds, fk x = 0) → ∃ ns, IntsAre vs ns
  | _, _, _, .nil, _ => ⟨[], .nil⟩
  | _, _, _, .cons (d := d) r1 r2, h => by
    obtain ⟨ns, q⟩ := ints_are r2 fun x hx => h x (List.mem_cons_of_mem _ hx)
    have f := h d (List.mem_cons_self ..)
    cases r1 with
    | int i t => exact ⟨i :: ns, .cons i t q⟩
    | tuple _ _ _ _ => exact absurd f (by unfold fk; split <;> first | omega | (rename_i z; cases z))
    | _ => exact absurd f (by simp only [fk]; omega)
theorem strs_are : ∀ {vs : List Value} {ds : List D} {as : List Addr}, ReadsAll s.heap vs ds as → (∀ x ∈ ds, fk x = 1) → ∃ ns, StrsAre vs ns
  | _, _, _, .nil, _ => ⟨[], .nil⟩
  | _, _, _, .cons (d := d) r1 r2, h => by
    obtain ⟨ns, q⟩ := strs_are r2 fun x hx => h x (List.mem_cons_of_mem _ hx)
    have f := h d (List.mem_cons_self ..)
    cases r1 with
    | str i t => exact ⟨i :: ns, .cons i t q⟩
    | tuple _ _ _ _ => exact absurd f (by unfold fk; split <;> first | omega | (rename_i z; cases z))
    | _ => exact absurd f (by simp only [fk]; omega)
def tyK : Nat → String
  | 2 => "int"
  | 3 => "str"
  | _ => "tuple"
theorem tups_are {k : Nat} (k2 : 2 ≤ k) (k5 : k < 5) : ∀ {vs : List Value} {ds : List D} {as : List Addr}, ReadsAll s.heap vs ds as → (∀ x ∈ ds, fk x = k) →
    ∃ fs, PySem.W.KatTups s.heap vs fs ∧ fs.length = vs.length ∧ ∀ v ∈ fs, PySem.W.Looks (model prog w) s.heap (typeOf v) (.type (tyK k))
  | _, _, _, .nil, _ => ⟨[], PySem.W.KatTups.nil, rfl, fun v hv => by cases hv⟩
  | _, _, _, .cons (d := d) r1 r2, h => by
    obtain ⟨fs, q1, q2, q3⟩ := tups_are k2 k5 r2 fun x hx => h x (List.mem_cons_of_mem _ hx)
    have f := h d (List.mem_cons_self ..)
    cases r1 with
    | int i t => exact absurd f (by simp only [fk]; omega)
    | str i t => exact absurd f (by simp only [fk]; omega)
    | none => exact absurd f (by simp only [fk]; omega)
    | bool _ => exact absurd f (by simp only [fk]; omega)
    | list _ _ _ _ => exact absurd f (by simp only [fk]; omega)
    | dict _ _ _ _ _ => exact absurd f (by simp only [fk]; omega)
    | tuple h1 h2 h3 h4 =>
      rename_i a o us n xs
      have go : ∃ v, us[0]? = some v ∧ PySem.W.Looks (model prog w) s.heap (typeOf v) (.type (tyK k)) := by
        obtain ⟨ul⟩ := us
        cases h4 with
        | nil => exact absurd f (by simp only [fk]; omega)
        | cons g1 g2 =>
          refine ⟨_, rfl, ?_⟩
          cases g1 with
          | int i t => rw [← f]; exact PySem.W.Looks.now
          | str i t => rw [← f]; exact PySem.W.Looks.now
          | none => exact absurd f (by simp only [fk]; omega)
          | bool _ => exact absurd f (by simp only [fk]; omega)
          | list _ _ _ _ => exact absurd f (by simp only [fk]; omega)
          | dict _ _ _ _ _ => exact absurd f (by simp only [fk]; omega)
          | tuple j1 j2 j3 j4 =>
            rw [← f]
            show PySem.W.Looks (model prog w) s.heap (typeOf (.ref _)) (.type "tuple")
            rw [← j2]
            exact (PySem.W.Looks.ld j1).andThen .now
      obtain ⟨v, hv, hl⟩ := go
      refine ⟨v :: fs, PySem.W.KatTups.cons h1 h2 h3 hv q1, by rw [List.length_cons, List.length_cons, q2], fun x hx => ?_⟩
      rcases List.mem_cons.mp hx with rfl | hx
      · exact hl
      · exact q3 x hx
theorem data_kind {vs : List Value} {ds : List D} {as : List Addr} {k : Nat} {Q : SortKind → Shared → Prop} (r : ReadsAll s.heap vs ds as) (hk : ∀ x ∈ ds, fk x = k) (k5 : k < 5) (h2 : 2 ≤ vs.length) (q : Q (κof k) s) :
    wpAny (model prog w) A (keyKind' vs.toArray) Q E s := by
  match vs, h2 with
  | v1 :: v2 :: rest, h2 =>
    match k, k5 with
    | 0, _ =>
      obtain ⟨ns, hi⟩ := ints_are r hk
      rw [keyKind_ints hi]
      exact wpAny_pure q
    | 1, _ =>
      obtain ⟨ns, hi⟩ := strs_are r hk
      rw [keyKind_strs hi]
      exact wpAny_pure q
    | 2, _ =>
      obtain ⟨fs, q1, q2, q3⟩ := tups_are (prog := prog) (w := w) (k := 2) (by omega) (by omega) r hk
      exact PySem.W.kat_kind q1 (by rw [q2, List.length_cons]; omega) q3 (by rfl) (by rw [show (Value.type (tyK 2) != Value.type "tuple") = true from (show (Value.type "int" != Value.type "tuple") = true by first | decide +kernel | rfl | decide)]; exact q)
    | 3, _ =>
      obtain ⟨fs, q1, q2, q3⟩ := tups_are (prog := prog) (w := w) (k := 3) (by omega) (by omega) r hk
      exact PySem.W.kat_kind q1 (by rw [q2, List.length_cons]; omega) q3 (by rfl) (by rw [show (Value.type (tyK 3) != Value.type "tuple") = true from (show (Value.type "str" != Value.type "tuple") = true by first | decide +kernel | rfl | decide)]; exact q)
    | 4, _ =>
      obtain ⟨fs, q1, q2, q3⟩ := tups_are (prog := prog) (w := w) (k := 4) (by omega) (by omega) r hk
      exact PySem.W.kat_kind q1 (by rw [q2, List.length_cons]; omega) q3 (by rfl) (by rw [show (Value.type (tyK 4) != Value.type "tuple") = false from (show (Value.type "tuple" != Value.type "tuple") = false by first | decide +kernel | rfl | decide)]; exact q)
end
/-! ### the sorted list of data -/
def srtK (ds : List D) (k : Nat) : Bool := ds.all fun x => fk x == k
def srtOk (ds : List D) : Bool := ds.all (fun x => ds.all (okB x)) && ((List.range 5).any (srtK ds) && (PyData.canLayAll0 ds && decide (PyData.depthAll ds ≤ 30)))
def sortD (ds : List D) : List D := ds.mergeSort fun a b => !ltB b a
theorem sortD_perm (ds : List D) : (sortD ds).Perm ds := List.mergeSort_perm _ _
theorem sortD_le (ds : List D) : (sortD ds).Pairwise fun a b => ltB b a = false := by
  have h := List.pairwise_mergeSort (le := fun a b : D => !ltB b a) (fun a b c h1 h2 => by
    simp only [Bool.not_eq_true'] at h1 h2 ⊢
    exact swoB.tr a b c h1 h2) (fun a b => by
    cases q : ltB b a with
    | false => rfl
    | true =>
      rw [swoB.asym b a q]
      rfl) ds
  exact h.imp fun {a b} q => by simpa using q
theorem srt_unique {R : D → D → Prop} : ∀ {l1 l2 : List D}, l1.Perm l2 → l1.Pairwise R → l2.Pairwise R → (∀ a ∈ l1, ∀ b ∈ l1, R a b → R b a → a = b) → l1 = l2
  | [], l2, p, _, _, _ => (List.Perm.nil_eq p)
  | a :: t, [], p, _, _, _ => absurd p.length_eq (by simp)
  | a :: t, b :: u, p, h1, h2, an => by
    have e : a = b := by
      have hb : b ∈ a :: t := p.mem_iff.mpr (List.mem_cons_self ..)
      have ha : a ∈ b :: u := p.mem_iff.mp (List.mem_cons_self ..)
      rcases List.mem_cons.mp hb with z | hb
      · exact z.symm
      · rcases List.mem_cons.mp ha with z | ha
        · exact z
        · exact an a (List.mem_cons_self ..) b (List.mem_cons_of_mem _ hb) ((List.pairwise_cons.mp h1).1 b hb) ((List.pairwise_cons.mp h2).1 a ha)
    subst e
    rw [srt_unique (List.perm_cons _ |>.mp p) (List.pairwise_cons.mp h1).2 (List.pairwise_cons.mp h2).2 fun x hx y hy => an x (List.mem_cons_of_mem _ hx) y (List.mem_cons_of_mem _ hy)]
theorem perm_lift {α β : Type} (f : α → β) : ∀ {l m : List β}, l.Perm m → ∀ L : List α, L.map f = m → ∃ L' : List α, L'.map f = l ∧ L'.Perm L := by
  intro l m p
  induction p with
  | nil => intro L h; exact ⟨[], rfl, by rw [List.map_eq_nil_iff.mp h]⟩
  | cons x p ih =>
    intro L h
    match L, h with
    | y :: L, h =>
      rw [List.map_cons] at h
      injection h with h1 h2
      obtain ⟨L', e, q⟩ := ih L h2
      exact ⟨y :: L', by rw [List.map_cons, e, h1], q.cons y⟩
  | swap x y l =>
    intro L h
    match L, h with
    | a :: b :: L, h =>
      rw [List.map_cons, List.map_cons] at h
      injection h with h1 h2
      injection h2 with h2 h3
      exact ⟨b :: a :: L, by rw [List.map_cons, List.map_cons, h1, h2, h3], .swap a b L⟩
  | trans p q ih1 ih2 =>
    intro L h
    obtain ⟨L1, e1, q1⟩ := ih2 L h
    obtain ⟨L2, e2, q2⟩ := ih1 L1 e1
    exact ⟨L2, e2, q2.trans q1⟩
theorem le_antiB {a b : D} (ok : okB a b = true) (h1 : ltB b a = false) (h2 : ltB a b = false) : a = b := by
  have n1 := ltB_no.mp h1
  have n2 : cmpB a b ≠ .lt := fun z => by
    rw [ltB_iff.mpr z] at h2
    cases h2
  refine (cmp_eq a b ok).mp ?_
  cases q : cmpB a b with
  | eq => rfl
  | lt => exact absurd q n2
  | gt => exact absurd q n1
theorem srtOk_iff {ds : List D} : srtOk ds = true ↔ (∀ x ∈ ds, ∀ y ∈ ds, okB x y = true) ∧ (∃ k, k < 5 ∧ ∀ x ∈ ds, fk x = k) ∧ PyData.canLayAll0 ds = true ∧ PyData.depthAll ds ≤ 30 := by
  unfold srtOk srtK
  simp only [Bool.and_eq_true, List.all_eq_true, List.any_eq_true, List.mem_range, decide_eq_true_eq, beq_iff_eq]
theorem sortD_of {ds es : List D} (ok : ∀ x ∈ ds, ∀ y ∈ ds, okB x y = true) (p : es.Perm ds) (h : es.Pairwise fun a b => ltB b a = false) : es = sortD ds :=
  srt_unique (p.trans (sortD_perm ds).symm) h (sortD_le ds) fun a ha b hb h1 h2 => le_antiB (ok a (p.mem_iff.mp ha) b (p.mem_iff.mp hb)) h1 h2
end DL
set_option Elab.async false
set_option linter.all false
set_option maxRecDepth 100000
set_option maxHeartbeats 4000000
/-! DlSp: sorted as a built-in of the layer. -/
namespace DL
open PySem L2 PyProof.Rows
def bSorted : List D → Option (List D)
  | [.list ds] => if srtOk ds = true then some (sortD ds) else none
  | _ => none
theorem triples {K : PySem.W.Frag} {G : Hp} {h : Heap} : ∀ {vs : List V} {its : List Value} {ds : List D} {as : List Addr}, Vals vs its → ReadsAll h its ds as → DqAll K G vs ds →
    ∃ T : List (V × Value × D), T.map (·.1) = vs ∧ T.map (·.2.1) = its ∧ T.map (·.2.2) = ds ∧ ∀ t ∈ T, RelV t.1 t.2.1 ∧ (∃ as, Reads h t.2.1 t.2.2 as) ∧ Dq K G t.1 t.2.2
  | _, _, _, _, .nil, r, p => by
    cases r
    cases p
    exact ⟨[], rfl, rfl, rfl, fun t ht => by cases ht⟩
  | _, _, _, _, .cons rv rt, r, p => by
    cases r with
    | cons r1 r2 =>
      cases p with
      | cons p1 p2 =>
        obtain ⟨T, e1, e2, e3, h⟩ := triples rt r2 p2
        refine ⟨(_, _, _) :: T, by rw [List.map_cons, e1], by rw [List.map_cons, e2], by rw [List.map_cons, e3], fun t ht => ?_⟩
        rcases List.mem_cons.mp ht with rfl | ht
        · exact ⟨rv, ⟨_, r1⟩, p1⟩
        · exact h t ht
theorem vals_T : ∀ {T : List (V × Value × D)}, (∀ t ∈ T, RelV t.1 t.2.1) → Vals (T.map (·.1)) (T.map (·.2.1))
  | [], _ => .nil
  | t :: T, h => .cons (h t (List.mem_cons_self ..)) (vals_T fun x hx => h x (List.mem_cons_of_mem _ hx))
theorem dps_T {K : PySem.W.Frag} {G : Hp} : ∀ {T : List (V × Value × D)}, (∀ t ∈ T, Dq K G t.1 t.2.2) → DqAll K G (T.map (·.1)) (T.map (·.2.2))
  | [], _ => .nil
  | t :: T, h => .cons (h t (List.mem_cons_self ..)) (dps_T fun x hx => h x (List.mem_cons_of_mem _ hx))
section
variable {X : Cx}
/-- what a sort of values gives, as data -/
theorem sorted_data {K : PySem.W.Frag} {G : Hp} {h : Heap} {vs : List V} {its out : List Value} {ds : List D} {as : List Addr} (rv : Vals vs its) (rd : ReadsAll h its ds as) (p : DqAll K G vs ds) (ok : ∀ x ∈ ds, ∀ y ∈ ds, okB x y = true) (lay : PyData.canLayAll0 ds = true)
    (h1 : SrtO.Srtd (fun v u => ltB (SeqAt.readOf h v) (SeqAt.readOf h u)) out) (h2 : out.Perm its) : ∃ ws, Vals ws out ∧ DqAll K G ws (sortD ds) := by
  obtain ⟨T, e1, e2, e3, hT⟩ := triples rv rd p
  obtain ⟨T', o, pT⟩ := perm_lift (fun t : V × Value × D => t.2.1) h2 T e2
  have hT' : ∀ t ∈ T', RelV t.1 t.2.1 ∧ (∃ as, Reads h t.2.1 t.2.2 as) ∧ Dq K G t.1 t.2.2 := fun t ht => hT t (pT.mem_iff.mp ht)
  have pd : (T'.map (·.2.2)).Perm ds := by
    have := pT.map (·.2.2)
    rw [e3] at this
    exact this
  have rdT : ∀ t ∈ T', SeqAt.readOf h t.2.1 = t.2.2 := fun t ht => by
    obtain ⟨_, ⟨as, r⟩, _⟩ := hT' t ht
    exact SeqAt.readOf_eq (lay_mem lay _ (pd.mem_iff.mp (List.mem_map.mpr ⟨t, ht, rfl⟩))) r
  have pw : (T'.map (·.2.2)).Pairwise fun a b => ltB b a = false := by
    rw [List.pairwise_map]
    have q : (T'.map (·.2.1)).Pairwise fun x y => ltB (SeqAt.readOf h y) (SeqAt.readOf h x) = false := by
      have e : T'.map (fun t => t.2.1) = out := o
      rw [e]
      exact h1
    rw [List.pairwise_map] at q
    refine List.Pairwise.imp_of_mem (fun {a b} ha hb z => ?_) q
    rw [rdT a ha, rdT b hb] at z
    exact z
  have es := sortD_of ok pd pw
  refine ⟨T'.map (·.1), ?_, ?_⟩
  · have e : out = T'.map (fun t => t.2.1) := o.symm
    rw [e]
    exact vals_T fun t ht => (hT' t ht).1
  · rw [← es]
    exact dps_T fun t ht => (hT' t ht).2.2
/-- the values are sortable, whatever else becomes of the heap -/
theorem data_sortable {prog : Program} {w : World} {A : Around} {s : Shared} {h₁ : Heap} {a : Addr} {its : List Value} {ds : List D} {as : List Addr} {k : Nat} (rd : ReadsAll s.heap its ds as) (ok : ∀ x ∈ ds, ∀ y ∈ ds, okB x y = true) (hk : ∀ x ∈ ds, fk x = k) (k5 : k < 5) (lay : PyData.canLayAll0 ds = true)
    (hu : A.units + PyData.depthAll ds < cLine) (h2 : 2 ≤ its.length) (keep : ∀ b o, s.heap.get? b = some o → b ≠ a ∧ h₁.get? b = some o) :
    SrtO.SortableO prog w A { s with heap := h₁ } a its (fun v u => ltB (SeqAt.readOf s.heap v) (SeqAt.readOf s.heap u)) := by
  intro h' keep'
  have kp : ∀ b o, s.heap.get? b = some o → h'.get? b = some o := fun b o e => keep' b o (keep b o e).1 (keep b o e).2
  have rd' : ReadsAll h' its ds as := ReadsAll.keeps kp rd
  refine ⟨κof k, fun Q E hq => data_kind (s := { s with heap := h' }) rd' hk k5 h2 hq, data_cmp (s := { s with heap := h' }) rd' ok hk k5 lay hu fun v hv d bs r c => ?_⟩
  obtain ⟨d0, hd0, b0, r0⟩ := reads_mem rd v hv
  have e0 : SeqAt.readOf s.heap v = d0 := SeqAt.readOf_eq (lay_mem lay d0 hd0) r0
  rw [e0]
  exact SeqAt.Reads.unique d0 d v _ _ (lay_mem lay d0 hd0) (Reads.keeps kp r0) r
theorem cr_dSorted (hu : X.A.units + 64 < cLine) : CallR X (.builtin "sorted") (rN X.K bSorted) := by
  intro pins s σ H xs us Q I r h
  obtain ⟨G, ds, es, gh, b, ho, k⟩ := h
  unfold bSorted at ho
  split at ho
  · rename_i ds
    split at ho
    · rename_i hc
      cases ho
      obtain ⟨v, rfl, b1⟩ := bpa1 b
      obtain ⟨a, vs, rfl, t, p⟩ := b1.lst gh
      obtain ⟨its, rv, hl, hz⟩ := I.list t
      rw [Vals.ref1 r]
      obtain ⟨ok, ⟨kk, k5, hk⟩, lay, dep⟩ := srtOk_iff.mp hc
      obtain ⟨as, rd⟩ := Dp.readsAll I _ _ its ((dpa_mono gh p).dpa (lay_nodict.lay_nodicts _ lay)) rv
      refine SrtO.sorted_ord (ltv := fun v u => ltB (SeqAt.readOf s.heap v) (SeqAt.readOf s.heap u)) ⟨fun x y => swoB.asym _ _, fun x y z => swoB.tr _ _ _⟩ hl.isList (by rw [← rv.length]; exact hz)
        (fun h2 h₁ a' ha keep => data_sortable rd ok hk k5 lay (by show X.A.units + 1 + 1 + _ < _; omega) h2 keep) fun out h1 h2 => ?_
      obtain ⟨ws, w1, w2⟩ := sorted_data rv rd p ok lay h1 h2.perm
      have lw : ws.length = (sortD ds).length := DqAll.len w2
      have lz : ws.length ≤ sizeLine := by
        rw [w1.length, h2.perm.length_eq, ← rv.length]
        exact hz
      obtain ⟨ep, he⟩ := sortedAll_at s.heap its out.toArray
      refine ⟨.ref _, upd H (s.heap.objs.size + 1) (.lst ws), I.laid (t' := s.toks) (fun _ _ => sortedAll_old) (Nat.le_succ _) ⟨lz, out, ep, w1, he⟩, rfl, ?_⟩
      exact k _ ws (I.hok.fresh (Nat.le_succ _)) lw w2
    · cases ho
  · cases ho
end
end DL
set_option Elab.async false
set_option linter.all false
set_option maxRecDepth 100000
set_option maxHeartbeats 4000000
/-! DlMn: min of data: of a list, of a tuple, of two. -/
namespace DL
open PySem L2 PyProof.Rows
/-- items compare as told, in every heap that keeps the first one -/
def CmpAt (prog : Program) (w : World) (A : Around) (op : CmpOp) (h0 : Heap) (P : Nat → Value → Prop) (bt : Nat → Nat → Bool) : Prop :=
  ∀ i j vi vj (s : Shared) (Q : Value → Shared → Prop) (E : Value → Shared → Prop), (∀ b o, h0.get? b = some o → s.heap.get? b = some o) → P i vi → P j vj → Q (.bool (bt i j)) s → wpAny (model prog w) A (richCompare op vi vj) Q E s
section
variable {prog : Program} {w : World} {A : Around} {E : Value → Shared → Prop} {R : Result → Shared → Prop} {I : Addr} {fp wr : List Addr} {n : Nat} {P : Nat → Value → Prop} {St : Nat → Heap → Prop} {h0 : Heap}
theorem min_turns (W : Walks prog w A.in1 I fp wr n P St) (bt : Nat → Nat → Bool) (hcmp : CmpAt prog w A.in1 .Lt h0 P bt) (S : Addr) (hSf : S ∉ fp) (h0w : ∀ b o, h0.get? b = some o → b ∉ wr ∧ b ≠ S) :
    ∀ (k j : Nat) (s : Shared) (vb : Value) (c : Nat), (∀ b o, h0.get? b = some o → s.heap.get? b = some o) → n - (j + 1) = k → j + 1 ≤ n → St (j + 1) s.heap → P (argBest bt j) vb →
    s.heap.get? S = some { cls := .type "list", dict := none, data := .seq #[vb, vb] c, slots := #[] } →
    (∀ v h' tk, P (argBest bt (n - 1)) v → (∀ b o, b ∉ wr → b ≠ S → s.heap.get? b = some o → h'.get? b = some o) → R (.ok (.ret v)) { s with heap := h', toks := tk }) →
    codeAny (model prog w) A (.builtin "min.loop" ⟨[.ref I, .none, .ref S], []⟩) R s := by
  have hSw : S ∉ wr := fun h => hSf (W.sub _ h)
  have hname : (toString "min" ++ toString ".loop" : String) = "min.loop" := by decide
  intro k
  induction k with
  | zero =>
    intro j s vb c kp hk hj hst hPb hS hR
    have hin : j + 1 = n := by omega
    refine codeAny_builtin F.entry_min_loop ?_
    rw [Around.under_plainId F.plain_min_loop _]
    show wpAny _ A.in1 (seqItems? (.ref S) >>= _) _ _ s
    refine wpAny_bind (wpAny_seqItems hS rfl ?_)
    show wpAny _ A.in1 (tryCatch (pyNext (.ref I)) _ >>= _) _ _ s
    refine wpAny_bind (wpAny_tryCatch (W.done s _ _ (hin ▸ hst) fun h' tk hk' => ?_))
    have hS' := hk' S _ hSw hS
    show wpAny _ A.in1 (updateSeq S (fun _ => #[]) >>= _) _ _ _
    refine wpAny_bind ?_
    refine wpAny_updateSeq hS' rfl (wpAny_bind (wpAny_letGo (wpAny_pure ?_)))
    refine hR vb _ tk (by rw [← hin]; exact hPb) fun b o hbw hbS e => (Heap.get?_update_other _ _ (Ne.symm hbS)).trans (hk' b o hbw e)
  | succ k ih =>
    intro j s vb c kp hk hj hst hPb hS hR
    have hlt : j + 1 < n := by omega
    refine codeAny_builtin F.entry_min_loop ?_
    rw [Around.under_plainId F.plain_min_loop _]
    show wpAny _ A.in1 (seqItems? (.ref S) >>= _) _ _ s
    refine wpAny_bind (wpAny_seqItems hS rfl ?_)
    show wpAny _ A.in1 (tryCatch (pyNext (.ref I)) _ >>= _) _ _ s
    refine wpAny_bind (wpAny_tryCatch (W.item (j + 1) s _ _ hlt hst fun v h' tk hP hst' hk' => ?_))
    have hS' := hk' S _ hSw hS
    have kp' : ∀ b o, h0.get? b = some o → h'.get? b = some o := fun b o e => hk' b o (h0w b o e).1 (kp b o e)
    show wpAny _ A.in1 (tryCatch (holding [v, v] (richCompare .Lt v vb >>= _)) _ >>= _) _ _ _
    refine wpAny_bind (wpAny_tryCatch (wpAny_holding (wpAny_bind (hcmp (j + 1) (argBest bt j) v vb _ _ _ kp' hP hPb ?_))))
    refine wpAny_bind (wpAny_holding (wpAny_truthy_bool ?_))
    refine wpAny_bind (wpAny_letGo (wpAny_pure ?_))
    cases hb : bt (j + 1) (argBest bt j) with
    | true =>
      simp only [if_true]
      refine wpAny_bind ?_
      refine wpAny_updateSeq hS' rfl (wpAny_bind (wpAny_letGo ?_))
      rw [hname]
      refine wpAny_pure ⟨plainId_quiet F.plain_min_loop _, ih (j + 1) _ v _ (fun b o e => (Heap.get?_update_other _ _ (Ne.symm (h0w b o e).2)).trans (kp' b o e)) (by omega) hlt (W.frame _ _ _ hst' fun b hbf o e => ?_) (by simp only [argBest, hb, if_true]; exact hP) (Heap.get?_update_self _ hS' rfl)
        fun v' h'' tk'' hP' hk'' => ?_⟩
      · exact (Heap.get?_update_other _ _ (fun h : S = b => hSf (by rw [h]; exact hbf))).trans e
      · exact hR v' h'' tk'' hP' fun b o hbw hbS e => hk'' b o hbw hbS ((Heap.get?_update_other _ _ (Ne.symm hbS)).trans (hk' b o hbw e))
    | false =>
      simp only [Bool.false_eq_true, if_false]
      refine wpAny_bind (wpAny_letGo ?_)
      rw [hname]
      refine wpAny_pure ⟨plainId_quiet F.plain_min_loop _, ih (j + 1) _ vb c kp' (by omega) hlt hst' (by simp only [argBest, hb, Bool.false_eq_true, if_false]; exact hPb) hS' fun v' h'' tk'' hP' hk'' => ?_⟩
      exact hR v' h'' tk'' hP' fun b o hbw hbS e => hk'' b o hbw hbS (hk' b o hbw e)
theorem min_start (W : Walks prog w A.in1 I fp wr n P St) (bt : Nat → Nat → Bool) (hcmp : CmpAt prog w A.in1 .Lt h0 P bt) (S : Addr) (hSf : S ∉ fp) (hn : 0 < n) {s : Shared} {c : Nat} (hst : St 0 s.heap)
    (h0w : ∀ b o, h0.get? b = some o → b ∉ wr ∧ b ≠ S) (kp : ∀ b o, h0.get? b = some o → s.heap.get? b = some o)
    (hS : s.heap.get? S = some { cls := .type "list", dict := none, data := .seq #[] c, slots := #[] })
    (hR : ∀ v h' tk, P (argBest bt (n - 1)) v → (∀ b o, b ∉ wr → b ≠ S → s.heap.get? b = some o → h'.get? b = some o) → R (.ok (.ret v)) { s with heap := h', toks := tk }) :
    codeAny (model prog w) A (.builtin "min.loop" ⟨[.ref I, .none, .ref S], []⟩) R s := by
  have hSw : S ∉ wr := fun h => hSf (W.sub _ h)
  have hname : (toString "min" ++ toString ".loop" : String) = "min.loop" := by decide
  refine codeAny_builtin F.entry_min_loop ?_
  rw [Around.under_plainId F.plain_min_loop _]
  show wpAny _ A.in1 (seqItems? (.ref S) >>= _) _ _ s
  refine wpAny_bind (wpAny_seqItems hS rfl ?_)
  show wpAny _ A.in1 (tryCatch (pyNext (.ref I)) _ >>= _) _ _ s
  refine wpAny_bind (wpAny_tryCatch (W.item 0 s _ _ hn hst fun v h' tk hP hst' hk' => ?_))
  have hS' := hk' S _ hSw hS
  show wpAny _ A.in1 (updateSeq S (fun _ => #[v, v]) >>= _) _ _ _
  refine wpAny_bind ?_
  refine wpAny_updateSeq hS' rfl ?_
  rw [hname]
  refine wpAny_pure ⟨plainId_quiet F.plain_min_loop _, min_turns W bt hcmp S hSf h0w _ 0 _ v _ (fun b o e => ?_) rfl hn (W.frame _ _ _ hst' fun b hbf o e => ?_) hP (Heap.get?_update_self _ hS' rfl) fun v' h'' tk'' hP' hk'' => ?_⟩
  · exact (Heap.get?_update_other _ _ (Ne.symm (h0w b o e).2)).trans (hk' b o (h0w b o e).1 (kp b o e))
  · exact (Heap.get?_update_other _ _ (fun h : S = b => hSf (by rw [h]; exact hbf))).trans e
  · exact hR v' h'' tk'' hP' fun b o hbw hbS e => hk'' b o hbw hbS ((Heap.get?_update_other _ _ (Ne.symm hbS)).trans (hk' b o hbw e))
variable {s : Shared}
theorem min_one {x : Value} {Q : Value → Shared → Prop} {bt : Nat → Nat → Bool}
    (h : wpAny (model prog w) A.in1 (pyIter x) (fun it s₂ => ∃ I fp wr n P St, it = .ref I ∧ Walks prog w A.in1 I fp wr n P St ∧ St 0 s₂.heap ∧ (∀ b ∈ fp, b < s₂.heap.objs.size) ∧ 0 < n ∧ CmpAt prog w A.in1 .Lt s.heap P bt ∧ (∀ b o, s.heap.get? b = some o → b ∉ wr ∧ s₂.heap.get? b = some o) ∧
      ∀ v h' tk, P (argBest bt (n - 1)) v → (∀ b o, b ∉ wr → s₂.heap.get? b = some o → h'.get? b = some o) → Q v { s₂ with heap := h', toks := tk }) E s) :
    wpAny (model prog w) A (call (.builtin "min") [x]) Q E s := by
  have hname : (toString "min" ++ toString ".loop" : String) = "min.loop" := by decide
  refine call_function_tree F.kind_min F.plain_min F.entry_min (F.args_min1 _) ?_
  show wpAny _ A.in1 (Builtin.Builtins.bindParams "min" ["key", "default"] 0 ⟨[], []⟩ >>= _) _ _ s
  refine wpAny_bind (wpAny_of_eq (show Builtin.Builtins.bindParams "min" ["key", "default"] 0 ⟨[], []⟩ = pure [none, none] from rfl) ?_)
  refine wpAny_bind (wpAny_pure ?_)
  refine wpAny_bind (wpAny_mono h (fun it s₂ h₂ => ?_) fun _ _ e => e)
  obtain ⟨I, fp, wr, n, P, St, rfl, W, hst, hfp, hn, hcmp, hkp, hQ⟩ := h₂
  refine wpAny_bind (wpAny_newObj_type ?_)
  have hSf : s₂.heap.objs.size ∉ fp := fun hm => Nat.lt_irrefl _ (hfp _ hm)
  rw [hname]
  refine wpAny_pure ⟨plainId_quiet F.plain_min_loop _, min_start W bt hcmp s₂.heap.objs.size hSf hn (W.frame _ _ _ hst fun b _ o e => Heap.get?_push_of_some _ e) (fun b o e => ⟨(hkp b o e).1, Nat.ne_of_lt (Heap.lt_size (hkp b o e).2)⟩) (fun b o e => Heap.get?_push_of_some _ (hkp b o e).2) (Heap.get?_push_size _ rfl) fun v h' tk hP hk => ?_⟩
  exact hQ v h' tk hP fun b o hbw e => hk b o hbw (Nat.ne_of_lt (Heap.lt_size e)) (Heap.get?_push_of_some _ e)
theorem min_two {a b : Value} {Q : Value → Shared → Prop} {bt : Nat → Nat → Bool}
    (h : wpAny (model prog w) A.in1 (pyIter (.ref s.heap.objs.size)) (fun it s₂ => ∃ I fp wr n P St, it = .ref I ∧ Walks prog w A.in1 I fp wr n P St ∧ St 0 s₂.heap ∧ (∀ b ∈ fp, b < s₂.heap.objs.size) ∧ 0 < n ∧ CmpAt prog w A.in1 .Lt s.heap P bt ∧ (∀ b o, s.heap.get? b = some o → b ∉ wr ∧ s₂.heap.get? b = some o) ∧
      ∀ v h' tk, P (argBest bt (n - 1)) v → (∀ b o, b ∉ wr → s₂.heap.get? b = some o → h'.get? b = some o) → Q v { s₂ with heap := h', toks := tk }) E
      { s with heap := s.heap.push { cls := .type "tuple", data := .seq #[a, b] } }) :
    wpAny (model prog w) A (call (.builtin "min") [a, b]) Q E s := by
  have hname : (toString "min" ++ toString ".loop" : String) = "min.loop" := by decide
  refine call_function_tree F.kind_min F.plain_min F.entry_min (F.args_min2 _ _) ?_
  show wpAny _ A.in1 (Builtin.Builtins.bindParams "min" ["key", "default"] 0 ⟨[], []⟩ >>= _) _ _ s
  refine wpAny_bind (wpAny_of_eq (show Builtin.Builtins.bindParams "min" ["key", "default"] 0 ⟨[], []⟩ = pure [none, none] from rfl) ?_)
  show wpAny _ A.in1 (newTuple [a, b] >>= _) _ _ s
  refine wpAny_bind (wpAny_newObj_type ?_)
  refine wpAny_bind (wpAny_mono h (fun it s₂ h₂ => ?_) fun _ _ e => e)
  obtain ⟨I, fp, wr, n, P, St, rfl, W, hst, hfp, hn, hcmp, hkp, hQ⟩ := h₂
  refine wpAny_bind (wpAny_newObj_type ?_)
  have hSf : s₂.heap.objs.size ∉ fp := fun hm => Nat.lt_irrefl _ (hfp _ hm)
  rw [hname]
  refine wpAny_pure ⟨plainId_quiet F.plain_min_loop _, min_start W bt hcmp s₂.heap.objs.size hSf hn (W.frame _ _ _ hst fun b _ o e => Heap.get?_push_of_some _ e) (fun b o e => ⟨(hkp b o e).1, Nat.ne_of_lt (Heap.lt_size (hkp b o e).2)⟩) (fun b o e => Heap.get?_push_of_some _ (hkp b o e).2) (Heap.get?_push_size _ rfl) fun v h' tk hP hk => ?_⟩
  exact hQ v h' tk hP fun b o hbw e => hk b o hbw (Nat.ne_of_lt (Heap.lt_size e)) (Heap.get?_push_of_some _ e)
end
end DL
set_option Elab.async false
set_option linter.all false
set_option maxRecDepth 100000
set_option maxHeartbeats 4000000
/-! DlMo: min, max of data as built-ins of the layer. -/
namespace DL
open PySem L2 PyProof.Rows
def btD (ds : List D) (i j : Nat) : Bool := ltB (ds.getD i .none) (ds.getD j .none)
def minD (ds : List D) : D := ds.getD (argBest (btD ds) (ds.length - 1)) .none
def minOk (ds : List D) : Bool := ds.all (fun x => ds.all (okB x)) && (PyData.canLayAll0 ds && (decide (PyData.depthAll ds ≤ 30) && !ds.isEmpty))
theorem minOk_iff {ds : List D} : minOk ds = true ↔ (∀ x ∈ ds, ∀ y ∈ ds, okB x y = true) ∧ PyData.canLayAll0 ds = true ∧ PyData.depthAll ds ≤ 30 ∧ ds ≠ [] := by
  unfold minOk
  simp only [Bool.and_eq_true, List.all_eq_true, decide_eq_true_eq, Bool.not_eq_true', List.isEmpty_eq_false_iff]
def bMin : List D → Option D
  | [.list ds] => if minOk ds = true then some (minD ds) else none
  | [.tuple ds] => if minOk ds = true then some (minD ds) else none
  | [x, y] => if minOk [x, y] = true then some (minD [x, y]) else none
  | _ => none
def intsOf : List D → Option (List Int)
  | [] => some []
  | .int i :: r => match intsOf r with
    | some ns => some (i :: ns)
    | none => none
  | _ => none
theorem intsOf_eq : ∀ {ds : List D} {ns : List Int}, intsOf ds = some ns → ds = ns.map PyData.int
  | [], _, h => by cases h; rfl
  | .int i :: r, ns, h => by
    unfold intsOf at h
    split at h
    · rename_i ms q
      cases h
      rw [intsOf_eq q]
      rfl
    · cases h
  | .none :: _, _, h => by cases h
  | .bool _ :: _, _, h => by cases h
  | .str _ :: _, _, h => by cases h
  | .list _ :: _, _, h => by cases h
  | .tuple _ :: _, _, h => by cases h
  | .dict _ :: _, _, h => by cases h
def maxI (n : Int) (ns : List Int) : Int := ns.foldl max n
theorem maxI_spec : ∀ (ns : List Int) (n : Int), maxI n ns ∈ n :: ns ∧ ∀ y ∈ n :: ns, y ≤ maxI n ns
  | [], n => ⟨List.mem_cons_self .., fun y hy => by rw [List.mem_singleton.mp hy]; exact Int.le_refl _⟩
  | m :: ns, n => by
    obtain ⟨h1, h2⟩ := maxI_spec ns (max n m)
    have e : maxI n (m :: ns) = maxI (max n m) ns := rfl
    rw [e]
    refine ⟨?_, fun y hy => ?_⟩
    · rcases List.mem_cons.mp h1 with z | z
      · rw [z]
        rcases Int.le_total n m with q | q
        · rw [Int.max_eq_right q]
          exact List.mem_cons_of_mem _ (List.mem_cons_self ..)
        · rw [Int.max_eq_left q]
          exact List.mem_cons_self ..
      · exact List.mem_cons_of_mem _ (List.mem_cons_of_mem _ z)
    · have h3 := h2 (max n m) (List.mem_cons_self ..)
      rcases List.mem_cons.mp hy with z | hy
      · subst z
        omega
      · rcases List.mem_cons.mp hy with z | hy
        · subst z
          omega
        · exact h2 y (List.mem_cons_of_mem _ hy)
def bMax : List D → Option D
  | [.list ds] => match intsOf ds with
    | some (n :: ns) => some (.int (maxI n ns))
    | _ => none
  | [.int i, .int j] => some (.int (if j > i then j else i))
  | _ => none
def bSum : List D → Option D
  | [.list ds] => match intsOf ds with
    | some ns => some (.int ns.sum)
    | _ => none
  | _ => none
theorem argBest_le (bt : Nat → Nat → Bool) : ∀ k, argBest bt k ≤ k
  | 0 => Nat.le_refl _
  | k + 1 => by
    unfold argBest
    split
    · exact Nat.le_refl _
    · exact Nat.le_succ_of_le (argBest_le bt k)
theorem reads_at {h : Heap} : ∀ {vs : List Value} {ds : List D} {as : List Addr} {i : Nat} {v : Value}, ReadsAll h vs ds as → vs[i]? = some v → ∃ d bs, ds[i]? = some d ∧ Reads h v d bs
  | _, _, _, _, _, .nil, e => by simp at e
  | _, _, _, 0, _, .cons r1 r2, e => by
    simp at e
    subst e
    exact ⟨_, _, rfl, r1⟩
  | _, _, _, i + 1, _, .cons r1 r2, e => by
    obtain ⟨d, bs, e1, r⟩ := reads_at (i := i) r2 (by simpa using e)
    exact ⟨d, bs, by simpa using e1, r⟩
section
variable {X : Cx} {prog : Program} {w : World} {A : Around} {s : Shared}
theorem data_cmpAt {its : List Value} {ds : List D} {as : List Addr} (rd : ReadsAll s.heap its ds as) (ok : ∀ x ∈ ds, ∀ y ∈ ds, okB x y = true) (lay : PyData.canLayAll0 ds = true) (hu : A.units + PyData.depthAll ds < cLine) :
    CmpAt prog w A .Lt s.heap (fun i v => its.toArray[i]? = some v) (btD ds) := by
  intro i j vi vj s' Q E kp hi hj q
  have rd' : ReadsAll s'.heap its ds as := ReadsAll.keeps kp rd
  obtain ⟨d, bs, h1, r1⟩ := reads_at (i := i) rd' (by simpa using hi)
  obtain ⟨e, cs, h2, r2⟩ := reads_at (i := j) rd' (by simpa using hj)
  have m1 := List.mem_of_getElem? h1
  have m2 := List.mem_of_getElem? h2
  have k1 := depth_mem m1
  have z := rcLt d e A s' vi vj _ _ r1 r2 (ok d m1 e m2) (lay_mem lay d m1) (lay_mem lay e m2) (by omega)
  refine z prog w E Q ?_
  have b : btD ds i j = ltB d e := by
    unfold btD
    rw [List.getD_eq_getElem?_getD, List.getD_eq_getElem?_getD, h1, h2]
    rfl
  rw [← b]
  exact q
/-- min of an iterable of data, at the machine -/
theorem min_items {vs : List V} {its : List Value} {ds : List D} {as : List Addr} {K : PySem.W.Frag} {G : Hp} (rv : Vals vs its) (rd : ReadsAll s.heap its ds as) (p : DqAll K G vs ds) {k : Nat} {v : Value} (h : its.toArray[k]? = some v) :
    ∃ x d, RelV x v ∧ Dq K G x d ∧ ds[k]? = some d := by
  obtain ⟨T, e1, e2, e3, hT⟩ := triples rv rd p
  have h' : (T.map (·.2.1))[k]? = some v := by
    rw [e2]
    simpa using h
  rw [List.getElem?_map, Option.map_eq_some_iff] at h'
  obtain ⟨t, ht, rfl⟩ := h'
  obtain ⟨r1, _, d1⟩ := hT t (List.mem_of_getElem? ht)
  exact ⟨t.1, t.2.2, r1, d1, by rw [← e3, List.getElem?_map, ht]; rfl⟩
theorem minD_at {ds : List D} {d : D} (h : ds[argBest (btD ds) (ds.length - 1)]? = some d) : minD ds = d := by
  unfold minD
  rw [List.getD_eq_getElem?_getD, h]
  rfl
theorem cr_dMin (hc : X.calm = true) (hu : X.A.units + 64 < cLine) : CallR X (.builtin "min") (rP X.K bMin) := by
  intro pins s σ H xs us Q I r h
  obtain ⟨G, ds, d, gh, b, ho, k⟩ := h
  have hd := I.ok.hd hc
  unfold bMin at ho
  split at ho
  · rename_i ds
    split at ho
    · rename_i hm
      cases ho
      obtain ⟨ok, lay, dep, ne⟩ := minOk_iff.mp hm
      obtain ⟨v, rfl, b1⟩ := bpa1 b
      obtain ⟨a, vs, rfl, t, p⟩ := b1.lst gh
      obtain ⟨its, rv, hl, hz⟩ := I.list t
      rw [Vals.ref1 r]
      obtain ⟨as, rd⟩ := Dp.readsAll I _ _ its ((dpa_mono gh p).dpa (lay_nodict.lay_nodicts _ lay)) rv
      have ln : its.length = ds.length := readsAll_len rd
      have hlt : a < s.heap.objs.size := by
        obtain ⟨_, e, _⟩ := hl.isList
        exact Heap.lt_size e
      have old : ∀ b o, s.heap.get? b = some o → b ∉ [s.heap.objs.size] := fun b o e z => by
        rw [List.mem_singleton.mp z] at e
        exact Nat.lt_irrefl _ (Heap.lt_size e)
      refine min_one (bt := btD ds) (wpAny_pyIter_list hl.isList ⟨_, [_, a], [_], _, _, _, rfl, Walks.list (A := X.A.in1) hd s.heap.objs.size a (Nat.ne_of_lt hlt) its.toArray, ⟨⟨_, Heap.get?_push_size _ rfl, rfl, rfl⟩, hl.isList.push _⟩, fun b hb => ?_, ?_,
        data_cmpAt rd ok lay (by show X.A.units + 1 + _ < _; omega), fun b o e => ⟨old b o e, Heap.get?_push_of_some _ e⟩, fun v h' tk hP hk => ?_⟩)
      · show b < (s.heap.push _).objs.size
        rw [Heap.size_push]
        rcases List.mem_cons.mp hb with rfl | hb
        · exact Nat.lt_succ_self _
        · rw [List.mem_singleton.mp hb]
          exact Nat.lt_succ_of_lt hlt
      · rw [List.size_toArray, ln]
        exact List.length_pos_iff.mpr ne
      · rw [List.size_toArray, ln] at hP
        obtain ⟨x, d, q1, q2, q3⟩ := min_items rv rd p hP
        refine ⟨x, H, I.kept fun b o e => hk b o (old b o e) (Heap.get?_push_of_some _ e), q1, k x H G (Grow.refl gh) ?_⟩
        rw [minD_at q3]
        exact q2
    · cases ho
  · rename_i ds
    split at ho
    · rename_i hm
      cases ho
      obtain ⟨ok, lay, dep, ne⟩ := minOk_iff.mp hm
      obtain ⟨v, rfl, b1⟩ := bpa1 b
      obtain ⟨a, vs, rfl, t, p⟩ := b1.tup gh
      obtain ⟨its, rv, hl, hz⟩ := I.tuple t
      rw [Vals.ref1 r]
      obtain ⟨as, rd⟩ := Dp.readsAll I _ _ its ((dpa_mono gh p).dpa (lay_nodict.lay_nodicts _ lay)) rv
      have ln : its.length = ds.length := readsAll_len rd
      have hlt : a < s.heap.objs.size := by
        obtain ⟨_, e, _⟩ := hl
        exact Heap.lt_size e
      have old : ∀ b o, s.heap.get? b = some o → b ∉ [s.heap.objs.size] := fun b o e z => by
        rw [List.mem_singleton.mp z] at e
        exact Nat.lt_irrefl _ (Heap.lt_size e)
      refine min_one (bt := btD ds) (wpAny_pyIter_tuple hl ⟨_, [_, a], [_], _, _, _, rfl, Walks.tuple (A := X.A.in1) hd s.heap.objs.size a (Nat.ne_of_lt hlt) its.toArray, ⟨⟨_, Heap.get?_push_size _ rfl, rfl, rfl⟩, hl.push _⟩, fun b hb => ?_, ?_,
        data_cmpAt rd ok lay (by show X.A.units + 1 + _ < _; omega), fun b o e => ⟨old b o e, Heap.get?_push_of_some _ e⟩, fun v h' tk hP hk => ?_⟩)
      · show b < (s.heap.push _).objs.size
        rw [Heap.size_push]
        rcases List.mem_cons.mp hb with rfl | hb
        · exact Nat.lt_succ_self _
        · rw [List.mem_singleton.mp hb]
          exact Nat.lt_succ_of_lt hlt
      · rw [List.size_toArray, ln]
        exact List.length_pos_iff.mpr ne
      · rw [List.size_toArray, ln] at hP
        obtain ⟨x, d, q1, q2, q3⟩ := min_items rv rd p hP
        refine ⟨x, H, I.kept fun b o e => hk b o (old b o e) (Heap.get?_push_of_some _ e), q1, k x H G (Grow.refl gh) ?_⟩
        rw [minD_at q3]
        exact q2
    · cases ho
  · rename_i x y
    split at ho
    · rename_i hm
      cases ho
      obtain ⟨ok, lay, dep, ne⟩ := minOk_iff.mp hm
      obtain ⟨v, v', rfl, b1, b2⟩ := bpa2 b
      have dpG : ∀ {v : V} {d : D}, Bp X.K H G v d → okB d d = true → Dq X.K G v d := fun {v d} b o => by
        cases b with
        | dp h => exact h
        | own _ _ => exact absurd o (by simp [okB])
        | ownK _ _ _ _ => exact absurd o (by simp [okB])
        | ownT _ _ _ _ _ _ => exact absurd o (by simp [okB])
      have p : DqAll X.K G [v, v'] [x, y] := .cons (dpG b1 (ok x (List.mem_cons_self ..) x (List.mem_cons_self ..))) (.cons (dpG b2 (ok y (by simp) y (by simp))) .nil)
      obtain ⟨u, u', rfl, r1, r2⟩ := vals2 r
      have rv : Vals [v, v'] [u, u'] := .cons r1 (.cons r2 .nil)
      obtain ⟨as, rd⟩ := Dp.readsAll I _ _ [u, u'] ((dpa_mono gh p).dpa (lay_nodict.lay_nodicts _ lay)) rv
      have hT : (s.heap.push { cls := .type "tuple", data := .seq #[u, u'] }).IsTuple s.heap.objs.size [u, u'].toArray := ⟨_, Heap.get?_push_size _ rfl, rfl, 0, rfl⟩
      have hsz : (s.heap.push { cls := .type "tuple", data := .seq #[u, u'] }).objs.size = s.heap.objs.size + 1 := Heap.size_push ..
      have old : ∀ b o, s.heap.get? b = some o → b ∉ [s.heap.objs.size + 1] := fun b o e z => by
        rw [List.mem_singleton.mp z] at e
        exact Nat.lt_irrefl _ (Nat.lt_of_succ_lt (Heap.lt_size e))
      refine min_two (bt := btD [x, y]) (wpAny_pyIter_tuple hT ?_)
      refine ⟨_, [_, s.heap.objs.size], [_], _, _, _, rfl, Walks.tuple (A := X.A.in1) hd _ s.heap.objs.size (by rw [hsz]; exact Nat.ne_of_lt (Nat.lt_succ_self _)) [u, u'].toArray, ⟨⟨_, Heap.get?_push_size _ rfl, rfl, rfl⟩, hT.push _⟩, fun b hb => ?_, by simp,
        data_cmpAt rd ok lay (by show X.A.units + 1 + _ < _; omega), fun b o e => ⟨by rw [hsz]; exact old b o e, Heap.get?_push_of_some _ (Heap.get?_push_of_some _ e)⟩, fun v h' tk hP hk => ?_⟩
      · show b < ((s.heap.push _).push _).objs.size
        rw [Heap.size_push, hsz]
        rcases List.mem_cons.mp hb with rfl | hb
        · rw [hsz]; exact Nat.lt_succ_self _
        · rw [List.mem_singleton.mp hb]
          exact Nat.lt_succ_of_lt (Nat.lt_succ_self _)
      · obtain ⟨z, d, q1, q2, q3⟩ := min_items rv rd p hP
        refine ⟨z, H, I.kept fun b o e => hk b o (by rw [hsz]; exact old b o e) (Heap.get?_push_of_some _ (Heap.get?_push_of_some _ e)), q1, k z H G (Grow.refl gh) ?_⟩
        rw [minD_at (ds := [x, y]) q3]
        exact q2
    · cases ho
  · cases ho
theorem cr_dMax (hc : X.calm = true) : CallR X (.builtin "max") (rP X.K bMax) := by
  intro pins s σ H xs us Q I r h
  obtain ⟨G, ds, d, gh, b, ho, k⟩ := h
  unfold bMax at ho
  split at ho
  · rename_i ds
    split at ho
    · rename_i n ns q
      cases ho
      have e := intsOf_eq q
      subst e
      obtain ⟨v, rfl, b1⟩ := bpa1 b
      obtain ⟨a, vs, rfl, t, p⟩ := b1.lst gh
      rw [dpa_ints p] at t
      refine cr_max hc pins s σ H _ us Q I r ⟨a, _, rfl, t, by simp, fun m h1 h2 => ?_⟩
      obtain ⟨s1, s2⟩ := maxI_spec ns n
      have e : m = maxI n ns := Int.le_antisymm (s2 m h1) (h2 _ s1)
      rw [e]
      exact k _ H G (Grow.refl gh) (.int _)
    · cases ho
  · cases ho
    obtain ⟨v, v', rfl, b, b'⟩ := bpa2 b
    obtain rfl := b.int
    obtain rfl := b'.int
    exact call_max2 hc pins s σ H _ us Q I r ⟨_, _, rfl, k _ _ _ (Grow.refl gh) (.int _)⟩
  · cases ho
theorem cr_dSum (hc : X.calm = true) : CallR X (.builtin "sum") (rP X.K bSum) := by
  intro pins s σ H xs us Q I r h
  obtain ⟨G, ds, d, gh, b, ho, k⟩ := h
  unfold bSum at ho
  split at ho
  · rename_i ds
    split at ho
    · rename_i ns q
      cases ho
      have e := intsOf_eq q
      subst e
      obtain ⟨v, rfl, b1⟩ := bpa1 b
      obtain ⟨a, vs, rfl, t, p⟩ := b1.lst gh
      rw [dpa_ints p] at t
      exact cr_sum hc pins s σ H _ us Q I r ⟨a, _, rfl, t, k _ H G (Grow.refl gh) (.int _)⟩
    · cases ho
  · cases ho
end
end DL
set_option Elab.async false
set_option linter.all false
set_option maxRecDepth 100000
set_option maxHeartbeats 4000000
/-! DlBk: slices that go back by ones: xs[::-1], xs[:0:-1], xs[-2:0:-1], of lists and of tuples. -/
namespace DL
open PySem L2 PyProof.Rows
theorem fm_congr {α β : Type} {f g : α → Option β} : ∀ {l : List α}, (∀ x ∈ l, f x = g x) → l.filterMap f = l.filterMap g
  | [], _ => rfl
  | x :: l, h => by
    rw [List.filterMap_cons, List.filterMap_cons, h x (List.mem_cons_self ..), fm_congr fun y hy => h y (List.mem_cons_of_mem _ hy)]
/-- one more than the place where a slice that goes back begins (or stops); d where it is left out -/
def bIx (n d : Nat) : Option Int → Nat
  | none => d
  | some i => if i < 0 then (i + n + 1).toNat else min (i + 1).toNat n
def cutB {α : Type} (xs : List α) (lo hi : Option Int) : List α := ((xs.take (bIx xs.length xs.length lo)).drop (bIx xs.length 0 hi)).reverse
theorem bIx_le {n d : Nat} (h : d ≤ n) (o : Option Int) : bIx n d o ≤ n := by
  cases o with
  | none => exact h
  | some i =>
    show (if i < 0 then (i + n + 1).toNat else min (i + 1).toNat n) ≤ n
    split
    · omega
    · exact Nat.min_le_right _ _
theorem cutB_length {α : Type} (xs : List α) (lo hi : Option Int) : (cutB xs lo hi).length ≤ xs.length := by
  unfold cutB
  rw [List.length_reverse, List.length_drop, List.length_take]
  omega
theorem back_run {α : Type} (xs : List α) (a : Nat) (ha : a ≤ xs.length) : ∀ c, c ≤ a → (List.range c).filterMap (fun k => xs[a - 1 - k]?) = ((xs.take a).drop (a - c)).reverse
  | 0, _ => by
    rw [Nat.sub_zero, List.drop_of_length_le (by rw [List.length_take]; omega)]
    rfl
  | c + 1, h => by
    have hl : a - (c + 1) < (xs.take a).length := by rw [List.length_take]; omega
    rw [List.range_succ, List.filterMap_append, back_run xs a ha c (by omega), List.drop_eq_getElem_cons hl, List.reverse_cons, show a - (c + 1) + 1 = a - c by omega]
    congr 1
    have e : xs[a - 1 - c]? = some ((xs.take a)[a - (c + 1)]) := by
      rw [List.getElem_take, List.getElem?_eq_getElem (by omega)]
      congr 2
      omega
    simp [e]
theorem sliceB_bounds (lo hi : Option Int) (n : Nat) : sliceBounds lo hi (some (-1)) n = ((bIx n n lo : Int) - 1, (bIx n 0 hi : Int) - 1, -1) := by
  have c1 : ∀ (i : Int) (d : Nat), max (-1) (min (if i < 0 then i + n else i) ((n : Int) - 1)) = (bIx n d (some i) : Int) - 1 := fun i d => by
    show _ = (((if i < 0 then (i + n + 1).toNat else min (i + 1).toNat n) : Nat) : Int) - 1
    split <;> omega
  cases lo with
  | none =>
    cases hi with
    | none => rfl
    | some j =>
      show ((n : Int) - 1, max (-1) (min (if j < 0 then j + n else j) ((n : Int) - 1)), (-1 : Int)) = _
      rw [c1 j 0]
      rfl
  | some i =>
    cases hi with
    | none =>
      show (max (-1) (min (if i < 0 then i + n else i) ((n : Int) - 1)), (-1 : Int), (-1 : Int)) = _
      rw [c1 i n]
      rfl
    | some j =>
      show (max (-1) (min (if i < 0 then i + n else i) ((n : Int) - 1)), max (-1) (min (if j < 0 then j + n else j) ((n : Int) - 1)), (-1 : Int)) = _
      rw [c1 i n, c1 j 0]
theorem sliceB_range (a b : Nat) : sliceRange ((a : Int) - 1) ((b : Int) - 1) (-1) = (List.range (a - b)).map fun k => a - 1 - k := by
  unfold sliceRange
  have h1 : ¬ ((-1 : Int) > 0) := by decide
  by_cases h : (a : Int) - 1 > (b : Int) - 1
  · have e : ((a : Int) - 1 - ((b : Int) - 1) - -1 - 1) / (- -1) = ((a - b : Nat) : Int) := by
      rw [show (- -1 : Int) = 1 by decide, Int.ediv_one]
      omega
    simp only [h1, if_false, h, if_true, e, Int.toNat_natCast]
    apply List.map_congr_left
    intro k hk
    have := List.mem_range.mp hk
    omega
  · have e : a - b = 0 := by omega
    rw [e]
    simp only [h1, if_false, h]
    rfl
theorem sliceB_pick (items : Array Value) (lo hi : Option Int) : slicePick items lo hi (some (-1)) = (cutB items.toList lo hi).toArray := by
  unfold slicePick cutB
  rw [sliceB_bounds]
  show ((sliceRange ((bIx items.size items.size lo : Int) - 1) ((bIx items.size 0 hi : Int) - 1) (-1)).filterMap (items[·]?)).toArray = _
  rw [sliceB_range, List.filterMap_map]
  have ha : bIx items.size items.size lo ≤ items.toList.length := by
    rw [Array.length_toList]
    exact bIx_le (Nat.le_refl _) lo
  have e := back_run items.toList (bIx items.size items.size lo) ha (bIx items.size items.size lo - bIx items.size 0 hi) (Nat.sub_le _ _)
  have hb : bIx items.size 0 hi ≤ items.size := bIx_le (Nat.zero_le _) hi
  by_cases h : bIx items.size 0 hi ≤ bIx items.size items.size lo
  · rw [show bIx items.size items.size lo - (bIx items.size items.size lo - bIx items.size 0 hi) = bIx items.size 0 hi by omega] at e
    rw [Array.length_toList, ← e]
    congr 1
    apply fm_congr
    intro k _
    show items[_]? = items.toList[_]?
    rw [Array.getElem?_toList]
  · rw [show bIx items.size items.size lo - bIx items.size 0 hi = 0 by omega, Array.length_toList, List.drop_of_length_le (by rw [List.length_take]; omega)]
    rfl
theorem adjB (lo hi : Option Int) (n : Nat) : Builtin.Slice.sliceAdjust lo hi (-1) (n : Int) = ((bIx n n lo : Int) - 1, (bIx n 0 hi : Int) - 1) := by
  have c1 : ∀ (i : Int) (d : Nat), (if i < 0 then max (i + n) (-1) else min i ((n : Int) - 1)) = (bIx n d (some i) : Int) - 1 := fun i d => by
    show _ = (((if i < 0 then (i + n + 1).toNat else min (i + 1).toNat n) : Nat) : Int) - 1
    split <;> omega
  have h1 : ((-1 : Int) < 0) := by decide
  unfold Builtin.Slice.sliceAdjust
  simp only [h1, if_true]
  refine Prod.ext ?_ ?_
  · cases lo with
    | none => rfl
    | some v => exact c1 v n
  · cases hi with
    | none => rfl
    | some v => exact c1 v 0
theorem placesB (a b : Nat) : Builtin.Slice.slicePlaces ((a : Int) - 1) ((b : Int) - 1) (-1) = a - b := by
  unfold Builtin.Slice.slicePlaces
  have h1 : ¬ ((-1 : Int) > 0) := by decide
  simp only [h1, if_false]
  rw [show (- -1 : Int) = 1 by decide, Int.ediv_one]
  split <;> omega
theorem pickB (xs : Array Value) (lo hi : Option Int) : ((List.range (bIx xs.size xs.size lo - bIx xs.size 0 hi)).filterMap fun (k : Nat) => xs[(((bIx xs.size xs.size lo : Int) - 1) + (k : Int) * (-1)).toNat]?).toArray = (cutB xs.toList lo hi).toArray := by
  rw [← sliceB_pick]
  unfold slicePick
  rw [sliceB_bounds]
  show _ = ((sliceRange ((bIx xs.size xs.size lo : Int) - 1) ((bIx xs.size 0 hi : Int) - 1) (-1)).filterMap (xs[·]?)).toArray
  rw [sliceB_range, List.filterMap_map]
  congr 1
  apply fm_congr
  intro k hk
  have := List.mem_range.mp hk
  show xs[_]? = xs[bIx xs.size xs.size lo - 1 - k]?
  congr 1
  omega
section
variable {prog : Program} {w : World} {A : Around} {E : Value → Shared → Prop} {s : Shared}
theorem appliedB {sl : Addr} {vl vu vs : Value} {lo hi : Option Int} {n : Nat} {Q : Int × Int × Nat → Shared → Prop} (hs : s.heap.IsSliceOf sl vl vu vs) (pl : IsPart vl lo) (pu : IsPart vu hi) (ps : IsPart vs (some (-1)))
    (h : Q ((bIx n n lo : Int) - 1, -1, bIx n n lo - bIx n 0 hi) s) : wpAny (model prog w) A (Builtin.Slice.sliceApplied (.ref sl) (pure (n : Int))) Q E s := by
  obtain ⟨os, hos, hcs, hds⟩ := id hs
  unfold Builtin.Slice.sliceApplied Builtin.Slice.sliceFields
  refine wpAny_bind (wpAny_bind (wpAny_field hos hds (x := vl) rfl (wpAny_bind (wpAny_field hos hds (x := vu) rfl (wpAny_bind (wpAny_field hos hds (x := vs) rfl (wpAny_pure ?_)))))))
  refine wpAny_bind (HT.slicePart_ ps ?_)
  show wpAny _ _ (if ((-1 : Int) == 0) = true then _ else _) _ _ s
  rw [if_neg (by decide)]
  refine wpAny_bind (HT.slicePart_ pl (wpAny_bind (HT.slicePart_ pu (wpAny_bind (wpAny_pure ?_)))))
  show wpAny _ _ (match Builtin.Slice.sliceAdjust lo hi (-1) (n : Int) with | (lo, hi) => pure (lo, (-1 : Int), Builtin.Slice.slicePlaces lo hi (-1))) _ _ s
  rw [adjB lo hi n]
  show wpAny _ _ (pure ((bIx n n lo : Int) - 1, (-1 : Int), Builtin.Slice.slicePlaces ((bIx n n lo : Int) - 1) ((bIx n 0 hi : Int) - 1) (-1))) _ _ s
  rw [placesB]
  exact wpAny_pure h
theorem getItem_tupB {t sl : Addr} {items : Array Value} {vl vu vs : Value} {lo hi : Option Int} {Q : Value → Shared → Prop} (ht : s.heap.IsTuple t items) (hs : s.heap.IsSliceOf sl vl vu vs) (pl : IsPart vl lo) (pu : IsPart vu hi) (ps : IsPart vs (some (-1)))
    (h : Q (.ref s.heap.objs.size) { s with heap := s.heap.push { cls := .type "tuple", data := .seq (cutB items.toList lo hi).toArray } })
    (hsz : items.size ≤ sizeLine) : wpAny (model prog w) A (getItem (.ref t) (.ref sl)) Q E s := by
  have htake : sizeOk (.seq (cutB items.toList lo hi).toArray) := by
    show (cutB items.toList lo hi).toArray.size ≤ sizeLine
    rw [List.size_toArray]
    exact Nat.le_trans (cutB_length _ _ _) (by rw [Array.length_toList]; exact hsz)
  obtain ⟨os, hos, hcs, hds⟩ := id hs
  have hTs : s.TypeIs (.ref sl) "slice" := ⟨os, hos, hcs⟩
  unfold getItem
  try with_reducible refine wpAny_holding ?_
  first | refine wpAny_bind (wpAny_pure ?_) | skip
  refine wpAny_bind (wpAny_sequenceKey ht.typeIs (by decide) ?_)
  refine wpAny_bind (wpAny_callSpecial?_slot (name := Str.ofString "__getitem__") ht.typeIs PyProof.Rows.slot_tuple_getitem
    (wpAny_call_entry PyProof.Rows.slot_tuple_getitem ht.typeIs entry_tuple_getitem ?_ (args_tuple_getitem _ _)))
  show wpAny _ _ (Builtin.Tuple.tupleItemsOf (.ref t) >>= _) _ _ s
  refine wpAny_bind (tupleItemsOf_ ht ?_)
  refine wpAny_bind (wpAny_typeOf hTs ?_)
  rw [if_pos (by decide)]
  refine wpAny_bind (appliedB hs pl pu ps ?_)
  have hno : ¬ ((((bIx items.size items.size lo : Int) - 1) == 0 && (-1 : Int) == 1 && (bIx items.size items.size lo - bIx items.size 0 hi) == items.size) = true) := by
    intro q
    rw [Bool.and_eq_true, Bool.and_eq_true] at q
    exact absurd q.1.2 (by decide)
  show wpAny _ _ (if (((bIx items.size items.size lo : Int) - 1) == 0 && (-1 : Int) == 1 && (bIx items.size items.size lo - bIx items.size 0 hi) == items.size) = true then _ else _) _ _ s
  rw [if_neg hno, pickB]
  first
    | exact wpAny_bind (m := Builtin.Tuple.tupleExact _) (wpAny_newObj_type (wpAny_pure ⟨_, rfl, wpAny_pure h⟩) htake)
    | exact wpAny_bind (m := Builtin.Tuple.tupleExact _) (wpAny_newObj_type (wpAny_bind (wpAny_pure (wpAny_pure ⟨_, rfl, wpAny_pure h⟩))) htake)
    | exact wpAny_bind (wpAny_bind (m := Builtin.Tuple.tupleExact _) (wpAny_newObj_type (wpAny_pure (wpAny_pure ⟨_, rfl, wpAny_pure h⟩)) htake))
    | exact wpAny_bind (wpAny_bind (m := Builtin.Tuple.tupleExact _) (wpAny_newObj_type (wpAny_pure ⟨_, rfl, wpAny_pure h⟩) htake))
end
/-! ### of the layer -/
def dBack (d : D) (lo hi : Option Int) : Option D := match d with
  | .tuple ds => some (.tuple (cutB ds lo hi))
  | _ => none
def useB (a : Arg) (lo hi : Option Int) (e : Fr) : R RV := match rd1 e a with
  | some (.list ds) => .ok (.new (.ls (cutB ds lo hi))) e
  | some d => match dBack d lo hi with
    | some r => .ok (.arg (.val r)) e
    | none => .no
  | none => .no
def eBack (fa : Ef) (fl fh : Of) : Rf := fun e => (fa e).bind fun a e1 => (fl e1).bind fun lo e2 => (fh e2).bind fun hi e3 => useB a lo hi e3
theorem Vals.cutB {xs : List V} {us : List Value} (r : Vals xs us) (lo hi : Option Int) : Vals (DL.cutB xs lo hi) (DL.cutB us lo hi) := by
  unfold DL.cutB
  rw [r.length]
  exact ((r.take _).drop _).reverse
theorem DqAll.cutB {K : PySem.W.Frag} {G : Hp} {vs : List V} {ds : List D} (r : DqAll K G vs ds) (lo hi : Option Int) : DqAll K G (DL.cutB vs lo hi) (DL.cutB ds lo hi) := by
  unfold DL.cutB
  rw [DqAll.len r]
  exact DqAll.rev (DqAll.drop _ (DqAll.take _ r))
section
variable {X : Cx} {Φ : Fx} {W : WX} {x : Expr} {lo hi : Option Expr} {pos p1 p2 p3 : Pos} {k : Nat} {fa : Ef} {fl fh : Of}
def tBack (K : PySem.W.Frag) (te : TE) (tl th : TO) : TE := fun σ H Q => te σ H fun x H1 => tl σ H1 fun l H2 => th σ H2 fun u H3 =>
  (∃ a xs, x = .ref a ∧ SqL K H3 a xs ∧ ∀ p, H3 p = none → Q (.ref p) (upd H3 p (.lst (cutB xs l u)))) ∨ (∃ a xs, x = .ref a ∧ SqT K H3 a xs ∧ ∀ p o, H3 p = none → o.dict = none → Q (.ref p) (upd H3 p (.frz o (.tup (cutB xs l u)))))
theorem pe_back {te : TE} {tl th : TO} (he : PE X x te) (hl : PO X lo tl) (hu : PO X hi th) : PE X (.Subscript x (.Slice lo hi (some (.UnaryOp .USub (.Constant (.int 1) k p1) p2)) p3) pos) (tBack X.K te tl th) := by
  refine ⟨fun pins s σ H Q I h => ?_⟩
  refine Subscript_ (thn (he.run pins s σ H _ I h) fun v s1 ⟨y, H1, I1, r1, q1⟩ => ?_)
  have hst : PO X (some (.UnaryOp .USub (.Constant (.int 1) k p1) p2)) (tPart (tUn (rU fun i => .int (-i)) (tC (.int 1)))) := po_some (pe_un un_neg pe_int)
  refine wpAny_Slice (thn (hl.run pins s1 σ H1 _ I1 q1) fun vl s2 ⟨l, H2, I2, pl, q2⟩ => thn (hu.run pins s2 σ H2 _ I2 q2) fun vu s3 ⟨u, H3, I3, pu, q3⟩ => ?_)
  refine thn (hst.run pins s3 σ H3 (fun o H4 => o = some (-1) ∧ H4 = H3) I3 ⟨1, rfl, -1, rfl, rfl, rfl⟩) fun vs s4 ⟨o, H4, I4, ps, eo, e4⟩ => ?_
  subst eo e4
  have I5 : Inv X pins σ H4 { s4 with heap := s4.heap.push { cls := .type "slice", data := .fields #[vl, vu, vs] } } := I4.kept (t' := s4.toks) fun b ob q => Heap.get?_push_of_some _ q
  rcases q3 with ⟨a, xs, ex, hx, q⟩ | ⟨a, xs, ex, hx, q⟩
  · subst ex
    cases r1
    obtain ⟨its, r, ht, hz⟩ := I5.list hx
    have hlen := r.length
    show wpAny (model X.prog X.w) X.A (subscriptTail x (.Slice lo hi (some (.UnaryOp .USub (.Constant (.int 1) k p1) p2)) p3) (.ref a) (.ref s4.heap.objs.size)) (EP X pins σ Q) X.xe { s4 with heap := s4.heap.push { cls := .type "slice", data := .fields #[vl, vu, vs] } }
    refine tail_any (ops := [.ref a, .ref s4.heap.objs.size]) ht.isList.typeIs (PySem.slot_list_getitem.lookup) ?_ (by with_unfolding_all rfl)
    refine wpAny_getItem_list_slice ht.isList (Heap.IsSliceOf.new _ vl vu vs) pl pu ps (by decide) ?_ (by rw [List.size_toArray]; omega)
    rw [sliceB_pick]
    refine ⟨.ref _, _, I5.laid (t' := s4.toks) (o := .lst (cutB xs l u)) (fun b ob q => Heap.get?_push_of_some _ q) (Nat.le_refl _) ?_, rfl, q _ (I5.hok.fresh (Nat.le_refl _))⟩
    exact ⟨Nat.le_trans (cutB_length _ _ _) hz, _, 0, Vals.cutB r l u, Heap.get?_push_size _ rfl⟩
  · subst ex
    cases r1
    obtain ⟨its, r, ht, hz⟩ := I5.tuple hx
    have hlen := r.length
    show wpAny (model X.prog X.w) X.A (subscriptTail x (.Slice lo hi (some (.UnaryOp .USub (.Constant (.int 1) k p1) p2)) p3) (.ref a) (.ref s4.heap.objs.size)) (EP X pins σ Q) X.xe { s4 with heap := s4.heap.push { cls := .type "slice", data := .fields #[vl, vu, vs] } }
    refine tail_any (ops := [.ref a, .ref s4.heap.objs.size]) ht.typeIs (PyProof.Rows.slot_tuple_getitem.lookup) ?_ (by with_unfolding_all rfl)
    refine getItem_tupB ht (Heap.IsSliceOf.new _ vl vu vs) pl pu ps ?_ (by rw [List.size_toArray]; omega)
    refine ⟨.ref _, _, I5.laid (t' := s4.toks) (fun b ob q => Heap.get?_push_of_some _ q) (Nat.le_refl _) (ok_frz (u := .tup (cutB xs l u)) (Heap.get?_push_size _ rfl) ?_), rfl, q _ _ (I5.hok.fresh (Nat.le_refl _)) rfl⟩
    exact ⟨Nat.le_trans (cutB_length _ _ _) hz, _, Vals.cutB r l u, IsTup.new _ _⟩
theorem d_back (ha : DE X Φ W x fa) (hl : DO X Φ W lo fl) (hh : DO X Φ W hi fh) : DR X Φ W (.Subscript x (.Slice lo hi (some (.UnaryOp .USub (.Constant (.int 1) k p1) p2)) p3) pos) (eBack fa fl fh) :=
  pe_weak (pe_back ha hl hh) fun σ H Q ⟨G, F, e, O, h⟩ => ⟨G, F, e, O, Wp.imp (Wp.seq h) fun v H1 ⟨G1, F1, e1, a, g1, O1, r1, h1⟩ => ⟨G1, F1, e1, O1, Wp.imp (Wp.seq h1) fun l H2 ⟨G2, F2, e2, lo', g2, O2, r2, h2⟩ =>
    ⟨G2, F2, e2, O2, Wp.imp (Wp.seq h2) fun u H3 ⟨G3, F3, e3, hi', g3, O3, r3, h3⟩ => by
      cases (show l = lo' from r2)
      cases (show u = hi' from r3)
      have rv : ra X.K a v H3 G3 F3 σ e3 := ra_up r1 (g2.trans g3)
      unfold useB at h3
      split at h3
      · rename_i ds q
        obtain ⟨b, xs, rfl, sx, p⟩ := (bp_of O3 rv q).lst O3.gh
        refine .inl ⟨b, xs, rfl, sx, fun z hz => ?_⟩
        obtain ⟨z1, z2⟩ := rr_new O3 hz (DqAll.cutB p l u)
        exact h3 _ _ _ F3 (Same.refl _) z1 z2
      · rename_i d _ q
        split at h3
        · rename_i r q2
          cases d with
          | tuple ds =>
            cases q2
            obtain ⟨b, xs, rfl, sx, p⟩ := (bp_of O3 rv q).tup O3.gh
            refine .inr ⟨b, xs, rfl, sx, fun z o hz hd => ?_⟩
            exact h3 _ _ _ F3 (same_new (same_back O3.gh hz)) (O3.grow (Grow.laid O3.gh hz)) (Dq.newT (same_back O3.gh hz) hd (DqAll.cutB p l u))
          | _ => cases q2
        · exact h3.elim
      · exact h3.elim⟩⟩⟩
end
end DL
set_option Elab.async false
set_option linter.all false
set_option maxRecDepth 100000
set_option maxHeartbeats 4000000
/-! DlLz: list(zip(a, b)), list(range(..)), tuple(range(..)): new lists of things made on the way. -/
namespace DL
open PySem PySem.Spec PyProof.Rows L2
theorem nolen_zip : typeLookup (.type "zip") "__len__" = pure none := by rw [typeLookup_type, builtinLookup_eq_fast]; kernel_rfl
theorem nohint_zip : typeLookup (.type "zip") "__length_hint__" = pure none := by rw [typeLookup_type, builtinLookup_eq_fast]; kernel_rfl
section
variable {prog : Program} {w : World} {A : Around} {E : Value → Shared → Prop} {s : Shared} {k1 k2 : SK} {z TI TO T i1 i2 l1 l2 : Addr} {n1 n2 : Nat} {xs ys : Array Value} {x y : Value} {f : Bool} {oT : Obj}
theorem zipH_item {Q : Value → Shared → Prop} (D : ZipApart z TI TO i1 i2 l1 l2) (hz : IsZipHeld s.heap z TI TO T f) (hT : s.heap.get? T = some oT) (hTI : IsPair s.heap TI (.ref i1) (.ref i2))
    (h1 : k1.cur s.heap i1 l1 n1) (h2 : k2.cur s.heap i2 l2 n2) (hl1 : k1.has s.heap l1 xs) (hl2 : k2.has s.heap l2 ys) (hx : xs[n1]? = some x) (hy : ys[n2]? = some y)
    (hQ : ∀ h', IsZipHeld h' z TI TO T true → k1.cur h' i1 l1 (n1 + 1) → k2.cur h' i2 l2 (n2 + 1) → IsPair h' s.heap.objs.size x y → h'.objs.size = s.heap.objs.size + 1 →
      (∀ c o, c ≠ z → c ≠ i1 → c ≠ i2 → s.heap.get? c = some o → h'.get? c = some o) → Q (.ref s.heap.objs.size) { s with heap := h' }) :
    wpAny (model prog w) A (Builtin.«zip.__next__» ⟨[.ref z], []⟩) (fun fin s' => ∃ v, fin = .done (.ret v) ∧ Q v s') E s := by
  show wpAny _ _ (field (.ref z) 2 >>= _) _ _ _
  refine wpAny_bind (wpAny_field hz rfl (x := .bool false) rfl ?_)
  show wpAny _ _ (field (.ref z) 3 >>= _) _ _ _
  refine wpAny_bind (wpAny_field hz rfl (x := .ref TI) rfl ?_)
  refine wpAny_bind (wpAny_seqItems hTI rfl ?_)
  show wpAny _ _ (Builtin.SmallTypes.ownedTupleIsFree (.ref z) >>= _) _ _ _
  refine wpAny_bind (wpAny_tupleHeld_zip hz hT fun h₁ hz₁ hs₁ => ?_)
  simp only [Bool.false_eq_true, if_false]
  refine wpAny_bind ?_
  rw [← Array.forIn_toList]
  simp only [List.forIn_cons, List.forIn_nil]
  refine wpAny_bind (wpAny_bind (wpAny_holding ?_))
  show wpAny _ _ (Builtin.SmallTypes.nextOf (.ref i1) >>= _) _ _ _
  refine wpAny_bind (k1.step (s := { s with heap := h₁ }) (k1.cur_ext h1 hs₁.extBut D.i1z) (k1.has_ext hl1 hs₁.extBut D.l1z) hx fun h₂ h1₂ hs₂ => wpAny_pure ?_)
  refine wpAny_pure ?_
  refine wpAny_bind (wpAny_bind (wpAny_holding ?_))
  show wpAny _ _ (Builtin.SmallTypes.nextOf (.ref i2) >>= _) _ _ _
  refine wpAny_bind (k2.step (s := { s with heap := h₂ }) (k2.cur_ext (k2.cur_ext h2 hs₁.extBut D.i2z) hs₂.extBut D.i12.symm) (k2.has_ext (k2.has_ext hl2 hs₁.extBut D.l2z) hs₂.extBut D.l2i1) hy fun h₃ h2₃ hs₃ => wpAny_pure ?_)
  refine wpAny_pure (wpAny_pure ?_)
  show wpAny _ _ (newTuple [x, y] >>= _) _ _ _
  refine wpAny_bind (wpAny_newTuple ?_)
  have hsz : h₃.objs.size = s.heap.objs.size := by rw [hs₃.1, hs₂.1, hs₁.1]
  have hz₃ : IsZipHeld h₃ z TI TO T true := hs₃.extBut _ _ D.i2z.symm (hs₂.extBut _ _ D.i1z.symm hz₁)
  have hk : ∀ c o, c ≠ z → c ≠ i1 → c ≠ i2 → s.heap.get? c = some o → h₃.get? c = some o := fun c o c1 c2 c3 e => hs₃.extBut _ _ c3 (hs₂.extBut _ _ c2 (hs₁.extBut _ _ c1 e))
  have h1₃ : k1.cur h₃ i1 l1 (n1 + 1) := k1.cur_ext h1₂ hs₃.extBut D.i12
  refine wpAny_pure ⟨_, rfl, ?_⟩
  show Q (.ref h₃.objs.size) _
  have hp : IsPair (h₃.push { cls := .type "tuple", data := .seq #[x, y] }) h₃.objs.size x y := Heap.get?_push_size _ rfl
  have hz4 : (h₃.push { cls := .type "tuple", data := .seq #[x, y] }).objs.size = h₃.objs.size + 1 := Heap.size_push ..
  rw [hsz] at hp hz4 ⊢
  exact hQ _ (Heap.get?_push_of_some _ hz₃) (k1.cur_at h1₃ fun o e => Heap.get?_push_of_some _ e) (k2.cur_at h2₃ fun o e => Heap.get?_push_of_some _ e) hp hz4 fun c o c1 c2 c3 e => Heap.get?_push_of_some _ (hk c o c1 c2 c3 e)
theorem zipH_end {Q : Fin → Shared → Prop} (hh : A.handled = none) (D : ZipApart z TI TO i1 i2 l1 l2) (hz : IsZipHeld s.heap z TI TO T f) (hT : s.heap.get? T = some oT) (hTI : IsPair s.heap TI (.ref i1) (.ref i2))
    (h1 : k1.cur s.heap i1 l1 n1) (h2 : k2.cur s.heap i2 l2 n2) (hl1 : k1.has s.heap l1 xs) (hl2 : k2.has s.heap l2 ys) (hend : xs[n1]? = none ∨ ys[n2]? = none)
    (hE : ∀ h' e, (∀ c o, c ≠ z → c ≠ i1 → c ≠ i2 → s.heap.get? c = some o → h'.get? c = some o) → (∃ o, h'.get? e = some o ∧ o.cls = .type "StopIteration") → E (.ref e) { s with heap := h' }) :
    wpAny (model prog w) A (Builtin.«zip.__next__» ⟨[.ref z], []⟩) Q E s := by
  show wpAny _ _ (field (.ref z) 2 >>= _) _ _ _
  refine wpAny_bind (wpAny_field hz rfl (x := .bool false) rfl ?_)
  show wpAny _ _ (field (.ref z) 3 >>= _) _ _ _
  refine wpAny_bind (wpAny_field hz rfl (x := .ref TI) rfl ?_)
  refine wpAny_bind (wpAny_seqItems hTI rfl ?_)
  show wpAny _ _ (Builtin.SmallTypes.ownedTupleIsFree (.ref z) >>= _) _ _ _
  refine wpAny_bind (wpAny_tupleHeld_zip hz hT fun h₁ hz₁ hs₁ => ?_)
  simp only [Bool.false_eq_true, if_false]
  refine wpAny_bind ?_
  rw [← Array.forIn_toList]
  simp only [List.forIn_cons, List.forIn_nil]
  refine wpAny_bind (wpAny_bind (wpAny_holding ?_))
  show wpAny _ _ (Builtin.SmallTypes.nextOf (.ref i1) >>= _) _ _ _
  cases hx : xs[n1]? with
  | none =>
    refine wpAny_bind (k1.stop (s := { s with heap := h₁ }) hh (k1.cur_ext h1 hs₁.extBut D.i1z) (k1.has_ext hl1 hs₁.extBut D.l1z) hx fun h₂ e hs₂ he => ?_)
    exact hE h₂ e (fun c o c1 c2 _ x => hs₂ _ _ c2 (hs₁.extBut _ _ c1 x)) he
  | some x =>
    have hy : ys[n2]? = none := by rcases hend with h | h; rw [hx] at h; cases h; exact h
    refine wpAny_bind (k1.step (s := { s with heap := h₁ }) (k1.cur_ext h1 hs₁.extBut D.i1z) (k1.has_ext hl1 hs₁.extBut D.l1z) hx fun h₂ h1₂ hs₂ => wpAny_pure ?_)
    refine wpAny_pure ?_
    refine wpAny_bind (wpAny_bind (wpAny_holding ?_))
    show wpAny _ _ (Builtin.SmallTypes.nextOf (.ref i2) >>= _) _ _ _
    refine wpAny_bind (k2.stop (s := { s with heap := h₂ }) hh (k2.cur_ext (k2.cur_ext h2 hs₁.extBut D.i2z) hs₂.extBut D.i12.symm) (k2.has_ext (k2.has_ext hl2 hs₁.extBut D.l2z) hs₂.extBut D.l2i1) hy fun h₃ e hs₃ he => ?_)
    exact hE h₃ e (fun c o c1 c2 c3 x => hs₃ _ _ c3 (hs₂.extBut _ _ c2 (hs₁.extBut _ _ c1 x))) he
end
def zCh (B : Addr) : List Addr := [B + 4, B + 2, B + 3, B, B + 1]
theorem zCh_lt {B b : Addr} (h : b ∈ zCh B) : b ≤ B + 4 := by
  have e5 : b = B + 4 ∨ b = B + 2 ∨ b = B + 3 ∨ b = B ∨ b = B + 1 := by simpa [zCh] using h
  rcases e5 with z | z | z | z | z <;> rw [z]
  · exact Nat.le_refl _
  · exact Nat.add_le_add_left (by decide) B
  · exact Nat.add_le_add_left (by decide) B
  · exact Nat.le_add_right B 4
  · exact Nat.add_le_add_left (by decide) B
/-- the zip between two turns, whose tuples are kept: before the first, behind it -/
def zOk (k1 k2 : SK) (h : Heap) (B l1 l2 : Addr) (i : Nat) : Prop :=
  (ZSt k1 k2 h (B + 4) (B + 2) (B + 3) B (B + 1) l1 l2 i i ∧ ∃ x y, IsPair h (B + 3) x y) ∨
  ∃ T f oT, T ∉ zCh B ∧ IsZipHeld h (B + 4) (B + 2) (B + 3) T f ∧ h.get? T = some oT ∧ IsPair h (B + 2) (.ref B) (.ref (B + 1)) ∧ k1.cur h B l1 i ∧ k2.cur h (B + 1) l2 i
/-- the tuple that the zip remembers stands -/
def zKept (h h' : Heap) (B S : Addr) : Prop := (∀ b o, b ∉ zCh B → b ≠ S → h.get? b = some o → h'.get? b = some o)
section
variable {prog : Program} {w : World} {A : Around} {E : Value → Shared → Prop} {s : Shared} {k1 k2 : SK} {B l1 l2 : Addr} {i : Nat} {xs ys : Array Value} {x y : Value}
theorem zOk.is (z : zOk k1 k2 s.heap B l1 l2 i) : s.TypeIs (.ref (B + 4)) "zip" := by
  rcases z with ⟨S, _⟩ | ⟨T, f, oT, _, hz, _⟩
  · exact ⟨_, S.z, rfl⟩
  · exact ⟨_, hz, rfl⟩
theorem zOk.lt (z : zOk k1 k2 s.heap B l1 l2 i) : B + 4 < s.heap.objs.size := by
  obtain ⟨_, e, _⟩ := z.is
  exact Heap.lt_size e
theorem zOk.next {Q : Option Value → Shared → Prop} (z : zOk k1 k2 s.heap B l1 l2 i) (D : ZipApart (B + 4) (B + 2) (B + 3) B (B + 1) l1 l2) (hl1 : k1.has s.heap l1 xs) (hl2 : k2.has s.heap l2 ys) (hx : xs[i]? = some x) (hy : ys[i]? = some y)
    (hQ : ∀ h', zOk k1 k2 h' B l1 l2 (i + 1) → IsPair h' s.heap.objs.size x y → h'.objs.size = s.heap.objs.size + 1 → (∀ b o, b ∉ zCh B → s.heap.get? b = some o → h'.get? b = some o) → Q (some (.ref s.heap.objs.size)) { s with heap := h' }) :
    wpAny (model prog w) A (pyNext (.ref (B + 4))) Q E s := by
  have zl := z.lt
  have out : s.heap.objs.size ∉ zCh B := fun h => absurd (Nat.lt_of_lt_of_le zl (zCh_lt h)) (Nat.lt_irrefl _)
  rcases z with ⟨S, x0, y0, hTO⟩ | ⟨T, f, oT, hTn, hz, hT, hTI, h1, h2⟩
  · refine zip_next D S hTO hl1 hl2 hx hy fun h' z' TO' c1' c2' hT hsz hk => hQ h' (.inr ⟨_, false, _, out, z', hT, hk _ _ D.TIz D.TITO D.TIi1 D.TIi2 S.ti, c1', c2'⟩) hT hsz fun b o hb q => hk b o (fun q' => hb (by simp [zCh, q'])) (fun q' => hb (by simp [zCh, q'])) (fun q' => hb (by simp [zCh, q'])) (fun q' => hb (by simp [zCh, q'])) q
  · have hTy : s.TypeIs (.ref (B + 4)) "zip" := ⟨_, hz, rfl⟩
    unfold pyNext
    refine wpAny_bind (wpAny_attempt (wpAny_callSpecial?_slot (name := Str.ofString "__next__") hTy F.slot_zip_next
      (wpAny_call_entry F.slot_zip_next hTy F.entry_zip_next (zipH_item D hz hT hTI h1 h2 hl1 hl2 hx hy fun h' a1 a3 a4 a5 a6 a7 => wpAny_pure (hQ h' (.inr ⟨T, true, oT, hTn, a1, ?_, ?_, a3, a4⟩) a5 a6 fun b o hb q => ?_)) (F.args_zip_next_1 _))))
    · exact a7 _ _ (fun q' => hTn (by simp [zCh, q'])) (fun q' => hTn (by simp [zCh, q'])) (fun q' => hTn (by simp [zCh, q'])) hT
    · exact a7 _ _ D.TIz D.TIi1 D.TIi2 hTI
    · exact a7 b o (fun q' => hb (by simp [zCh, q'])) (fun q' => hb (by simp [zCh, q'])) (fun q' => hb (by simp [zCh, q'])) q
theorem zOk.done {Q : Option Value → Shared → Prop} (z : zOk k1 k2 s.heap B l1 l2 i) (hh : A.handled = none) (D : ZipApart (B + 4) (B + 2) (B + 3) B (B + 1) l1 l2) (hl1 : k1.has s.heap l1 xs) (hl2 : k2.has s.heap l2 ys) (hend : xs[i]? = none ∨ ys[i]? = none)
    (hQ : ∀ h', (∀ b o, b ∉ zCh B → s.heap.get? b = some o → h'.get? b = some o) → Q none { s with heap := h' }) : wpAny (model prog w) A (pyNext (.ref (B + 4))) Q E s := by
  rcases z with ⟨S, x0, y0, hTO⟩ | ⟨T, f, oT, hTn, hz, hT, hTI, h1, h2⟩
  · exact zip_done hh D S hTO hl1 hl2 hend fun h' hk => hQ h' fun b o hb q => hk b o (fun q' => hb (by simp [zCh, q'])) (fun q' => hb (by simp [zCh, q'])) (fun q' => hb (by simp [zCh, q'])) (fun q' => hb (by simp [zCh, q'])) q
  · have hTy : s.TypeIs (.ref (B + 4)) "zip" := ⟨_, hz, rfl⟩
    unfold pyNext
    refine wpAny_bind (wpAny_attempt (wpAny_callSpecial?_slot (name := Str.ofString "__next__") hTy F.slot_zip_next
      (wpAny_call_entry F.slot_zip_next hTy F.entry_zip_next (zipH_end (A := A.in1) hh D hz hT hTI h1 h2 hl1 hl2 hend fun h' e hk he => ?_) (F.args_zip_next_1 _))))
    obtain ⟨o, ho, hc⟩ := he
    refine wpAny_bind (wpAny_isInstance (T := "StopIteration") (b := true) ⟨o, ho, hc⟩ isSubtype_stop ?_)
    exact wpAny_pure (hQ _ fun b o hb q => hk b o (fun q' => hb (by simp [zCh, q'])) (fun q' => hb (by simp [zCh, q'])) (fun q' => hb (by simp [zCh, q'])) q)
theorem zOk.keep {h h' : Heap} (z : zOk k1 k2 h B l1 l2 i) (k : ∀ b o, (b ∈ zCh B ∨ o.cls = .type "tuple") → h.get? b = some o → h'.get? b = some o) (kt : ∀ b o, h.get? b = some o → ∃ o', h'.get? b = some o') : zOk k1 k2 h' B l1 l2 i := by
  rcases z with ⟨S, x, y, p⟩ | ⟨T, f, oT, hTn, hz, hT, hTI, h1, h2⟩
  · exact .inl ⟨⟨k _ _ (.inl (by simp [zCh])) S.z, k _ _ (.inl (by simp [zCh])) S.ti, k1.cur_at S.c1 fun o q => k _ o (.inl (by simp [zCh])) q, k2.cur_at S.c2 fun o q => k _ o (.inl (by simp [zCh])) q⟩, x, y, k _ _ (.inl (by simp [zCh])) p⟩
  · obtain ⟨oT', hT'⟩ := kt _ _ hT
    exact .inr ⟨T, f, oT', hTn, k _ _ (.inl (by simp [zCh])) hz, hT', k _ _ (.inl (by simp [zCh])) hTI, k1.cur_at h1 fun o q => k _ o (.inl (by simp [zCh])) q, k2.cur_at h2 fun o q => k _ o (.inl (by simp [zCh])) q⟩
theorem zOk.self {Q : Value → Shared → Prop} (z : zOk k1 k2 s.heap B l1 l2 i) (hQ : Q (.ref (B + 4)) s) : wpAny (model prog w) A (pyIter (.ref (B + 4))) Q E s := by
  rcases z with ⟨S, x, y, p⟩ | ⟨T, f, oT, hTn, hz, hT, hTI, h1, h2⟩
  · exact wpAny_pyIter_zip S.z hQ
  · have hT : s.TypeIs (.ref (B + 4)) "zip" := ⟨_, hz, rfl⟩
    refine wpAny_pyIter_slot hT F.slot_zip_iter (wpAny_call_entry F.slot_zip_iter hT F.entry_zip_iter ?_ (F.args_zip_iter_1 _))
    show wpAny _ _ (ret (.ref (B + 4))) _ _ s
    exact wpAny_pure ⟨_, rfl, "zip", _, hT, F.slot_zip_next.lookup, hQ⟩
theorem zOk.upd {h : Heap} {S : Addr} {acc : Array Value} {n : Nat} (z : zOk k1 k2 h B l1 l2 i) (hS : h.get? S = some { cls := .type "list", data := .seq acc n }) (hSf : S ∉ zCh B) (f : Array Value → Array Value) : zOk k1 k2 (h.update S (Obj.mapSeq f)) B l1 l2 i := by
  refine z.keep (fun b o hb q => (Heap.get?_update_other _ _ fun z => ?_).trans q) fun b o q => ?_
  · rcases hb with hb | hb
    · exact hSf (by rw [z]; exact hb)
    · rw [← z, hS] at q
      cases q
      simp at hb
  · by_cases hbS : S = b
    · rw [← hbS]
      exact ⟨_, Heap.get?_update_self _ hS rfl⟩
    · exact ⟨o, (Heap.get?_update_other _ _ hbS).trans q⟩
end
section
variable {X : Cx} {pins : List (Addr × Obj)} {σ : L2.St} {A : Around} {R : Result → Shared → Prop} {k1 k2 : SK} {B l1 l2 S : Addr} {vs1 vs2 : List V} {ds es : List D} {H0 G0 : Hp} {res : Value}
theorem lz_loop (hh : A.handled = none) (q1 : k1.sq X.K G0 l1 vs1) (q2 : k2.sq X.K G0 l2 vs2) (p1 : DqAll X.K G0 vs1 ds) (p2 : DqAll X.K G0 vs2 es) (D : ZipApart (B + 4) (B + 2) (B + 3) B (B + 1) l1 l2) (hS0 : H0 S = none) (hSB : S ∉ zCh B) :
    ∀ (k i : Nat) (s : Shared) (H G : Hp) (ws : List V), (zipD ds es).length - i = k → i ≤ (zipD ds es).length → Inv X pins σ H s → Grow H0 G0 H G → (∀ b ∈ zCh B, FpOk X pins H b) → zOk k1 k2 s.heap B l1 l2 i →
      H S = some (.lst ws) → G S = none → DqAll X.K G ws ((zipD ds es).take i) →
      (∀ s' H' G' ws', Inv X pins σ H' s' → Grow H0 G0 H' G' → H' S = some (.lst ws') → G' S = none → DqAll X.K G' ws' (zipD ds es) → R (.ok (.ret res)) s') →
      codeAny (model X.prog X.w) A (.builtin "list.extend.loop" ⟨[.ref S, .ref (B + 4), res], []⟩) R s := by
  have ln : (zipD ds es).length = min vs1.length vs2.length := by rw [zipD_len, DqAll.len p1, DqAll.len p2]
  intro k
  induction k with
  | zero =>
    intro i s H G ws hk hi I g hf z hS gS dw hR
    have hin : i = (zipD ds es).length := by omega
    obtain ⟨its, rv, pl⟩ := sq_held k1 I (sq_same k1 (g.gg.trans g.gh) q1)
    obtain ⟨its2, rv2, pl2⟩ := sq_held k2 I (sq_same k2 (g.gg.trans g.gh) q2)
    have e1 := rv.length
    have e2 := rv2.length
    have he : its.toArray[i]? = none ∨ its2.toArray[i]? = none := by
      rcases Nat.le_total vs1.length vs2.length with z | z
      · exact .inl (by simp; omega)
      · exact .inr (by simp; omega)
    refine codeAny_builtin F.entry_extend_loop ?_
    rw [Around.under_plainId F.plain_extend_loop _]
    show wpAny _ A.in1 (pyNext (.ref (B + 4)) >>= _) _ _ s
    refine wpAny_bind (z.done (A := A.in1) hh D pl pl2 he fun h' hk => wpAny_pure (hR _ H G ws ?_ g hS gS (by rw [hin, List.take_length] at dw; exact dw)))
    exact I.turnedL (t' := s.toks) (ch := zCh B) hk hf
  | succ k ih =>
    intro i s H G ws hk hi I g hf z hS gS dw hR
    have hlt : i < (zipD ds es).length := by omega
    have i1 : i < vs1.length := by omega
    have i2 : i < vs2.length := by omega
    obtain ⟨its, rv, pl⟩ := sq_held k1 I (sq_same k1 (g.gg.trans g.gh) q1)
    obtain ⟨its2, rv2, pl2⟩ := sq_held k2 I (sq_same k2 (g.gg.trans g.gh) q2)
    have e1 := rv.length
    have e2 := rv2.length
    obtain ⟨u, hu, ru⟩ := rv.get (i := i) (x := vs1[i]) (List.getElem?_eq_getElem i1)
    obtain ⟨u2, hu2, ru2⟩ := rv2.get (i := i) (x := vs2[i]) (List.getElem?_eq_getElem i2)
    obtain ⟨d1, ed1, hd1⟩ := DqAll.at' p1 (List.getElem?_eq_getElem i1)
    obtain ⟨d2, ed2, hd2⟩ := DqAll.at' p2 (List.getElem?_eq_getElem i2)
    have zl := z.lt
    refine codeAny_builtin F.entry_extend_loop ?_
    rw [Around.under_plainId F.plain_extend_loop _]
    show wpAny _ A.in1 (pyNext (.ref (B + 4)) >>= _) _ _ s
    refine wpAny_bind (z.next (A := A.in1) D pl pl2 (x := u) (y := u2) (by simpa using hu) (by simpa using hu2) fun h' z' hT hsz kp => ?_)
    have hn : H s.heap.objs.size = none := I.hok.fresh (Nat.le_refl _)
    have new := ok_frz (X := X) (H := upd H s.heap.objs.size (.frz { cls := .type "tuple", data := .seq #[u, u2] } (.tup [vs1[i], vs2[i]]))) (u := .tup [vs1[i], vs2[i]]) hT ⟨by show 2 ≤ sizeLine; decide, [u, u2], .cons ru (.cons ru2 .nil), ⟨_, hT, rfl, _, rfl⟩⟩
    have I1 : Inv X pins σ (upd H s.heap.objs.size (.frz { cls := .type "tuple", data := .seq #[u, u2] } (.tup [vs1[i], vs2[i]]))) { s with heap := h' } :=
      I.turnedNew (t' := s.toks) (ch := zCh B) kp hf (Nat.le_refl _) new
    have gr := Grow.laid (o := .frz { cls := .type "tuple", data := .seq #[u, u2] } (.tup [vs1[i], vs2[i]])) g.gh hn
    have hSne : S ≠ s.heap.objs.size := fun z => by rw [z, hn] at hS; cases hS
    have hS1 : upd H s.heap.objs.size (.frz { cls := .type "tuple", data := .seq #[u, u2] } (.tup [vs1[i], vs2[i]])) S = some (.lst ws) := by rw [upd_ne hSne]; exact hS
    have gS1 : upd G s.heap.objs.size (.frz { cls := .type "tuple", data := .seq #[u, u2] } (.tup [vs1[i], vs2[i]])) S = none := by rw [upd_ne hSne]; exact gS
    obtain ⟨zz, ws', m, rw', hl', e'⟩ := I1.lstM hS1
    have wl : ws.length = i := by rw [DqAll.len dw, List.length_take]; omega
    have big : (zipD ds es).length ≤ sizeLine := by
      have := I.hok
      have b1 : vs1.length ≤ sizeLine := by
        cases k1 with
        | l => exact (I.list (sq_same .l (g.gg.trans g.gh) q1)).elim fun its h => h.2.2
        | t => exact (I.tuple (sq_same .t (g.gg.trans g.gh) q1)).elim fun its h => h.2.2
      omega
    show wpAny _ A.in1 (updateSeq S (·.push (.ref s.heap.objs.size)) >>= _) _ _ _
    refine wpAny_bind (wpAny_updateSeq e' rfl (wpAny_pure ⟨plainId_quiet F.plain_extend_loop _, ?_⟩) (by rw [List.size_toArray, ← hl']; omega) (by show (ws'.toArray.push _).size ≤ sizeLine + 1; rw [Array.size_push, List.size_toArray, ← hl']; omega))
    have I2 := I1.lset (t' := s.toks) (its' := ws' ++ [.ref s.heap.objs.size]) (f := (·.push (.ref s.heap.objs.size))) (ys := ws ++ [.ref s.heap.objs.size]) hS1 e' (by simp) (rw'.append (.cons (show RelV (.ref s.heap.objs.size) (.ref s.heap.objs.size) from rfl) .nil)) (by rw [List.length_append, List.length_singleton]; omega)
    have zk : zOk k1 k2 (h'.update S (Obj.mapSeq (·.push (.ref s.heap.objs.size)))) B l1 l2 (i + 1) := z'.upd e' hSB _
    have ck : ∀ b ∈ zCh B, b ≠ s.heap.objs.size ∧ b ≠ S := fun b hb => by
      refine ⟨fun z => ?_, fun z => hSB (by rw [← z]; exact hb)⟩
      exact absurd (Nat.lt_of_lt_of_le zl (by rw [← z]; exact zCh_lt hb)) (Nat.lt_irrefl _)
    have g2 := g.trans gr
    refine ih (i + 1) _ _ (upd G s.heap.objs.size (.frz { cls := .type "tuple", data := .seq #[u, u2] } (.tup [vs1[i], vs2[i]]))) _ (by omega) hlt I2 ?_ (fun b hb => ?_) zk upd_same gS1 ?_ hR
    · refine ⟨g2.gg, fun b o q => ?_, fun b o q => ?_, g2.new⟩
      · rw [upd_ne fun z => by rw [z, hS0] at q; cases q]
        exact g2.hh b o q
      · rw [upd_ne fun z => by rw [z, gS1] at q; cases q]
        exact g2.gh b o q
    · obtain ⟨f0, f⟩ := hf b hb
      refine ⟨?_, f⟩
      rw [upd_ne (ck b hb).2, upd_ne (ck b hb).1]
      exact f0
    · have e9 : (zipD ds es).take (i + 1) = (zipD ds es).take i ++ [.tuple [d1, d2]] := by
        rw [List.take_add_one, zipD_at ed1 ed2]
        rfl
      rw [e9]
      have hg : G s.heap.objs.size = none := same_back g.gh hn
      exact DqAll.app (dpa_mono gr.gg dw) (.cons (Dq.newT hg rfl (.cons (dp_mono g.gg hd1) (.cons (dp_mono g.gg hd2) .nil))) .nil)
end
section
variable {X : Cx} {pins : List (Addr × Obj)} {σ : L2.St} {k1 k2 : SK} {B l1 l2 : Addr} {vs1 vs2 : List V} {ds es : List D} {H G : Hp} {s : Shared}
theorem call_list_zip {Q : Value → Shared → Prop} (hh : X.A.handled = none) (I : Inv X pins σ H s) (gh : Same G H) (q1 : k1.sq X.K G l1 vs1) (q2 : k2.sq X.K G l2 vs2) (p1 : DqAll X.K G vs1 ds) (p2 : DqAll X.K G vs2 es)
    (D : ZipApart (B + 4) (B + 2) (B + 3) B (B + 1) l1 l2) (hf : ∀ b ∈ zCh B, FpOk X pins H b) (z : zOk k1 k2 s.heap B l1 l2 0)
    (hQ : ∀ s' p H' G' ws, Inv X pins σ H' s' → Grow H G H' G' → H p = none → G' p = none → H' p = some (.lst ws) → DqAll X.K G' ws (zipD ds es) → Q (.ref p) s') :
    wpAny (model X.prog X.w) X.A (call (.type "list") [.ref (B + 4)]) Q X.xe s := by
  have zl := z.lt
  have hn : H s.heap.objs.size = none := I.hok.fresh (Nat.le_refl _)
  refine callType_codes (Q₁ := fun obj s₁ => obj = .ref s.heap.objs.size ∧ s₁ = { s with heap := s.heap.push { cls := .type "list", data := .seq #[] } }) F.called_list (F.typeCall_list_1 _) F.entry_list_init
    (code_list_new _ ⟨rfl, rfl⟩) fun obj s₁ h₁ => ?_
  obtain ⟨rfl, rfl⟩ := h₁
  have I1 : Inv X pins σ (upd H s.heap.objs.size (.lst [])) { s with heap := s.heap.push { cls := .type "list", data := .seq #[] }, toks := s.toks } := I.lnew (its := []) .nil (Nat.zero_le _)
  have hSf : s.heap.objs.size ∉ zCh B := fun h => absurd (Nat.lt_of_lt_of_le zl (zCh_lt h)) (Nat.lt_irrefl _)
  have hS : (s.heap.push { cls := .type "list", data := .seq #[] }).get? s.heap.objs.size = some { cls := .type "list", data := .seq #[] } := Heap.get?_push_size _ rfl
  have z1 : zOk k1 k2 (s.heap.push { cls := .type "list", data := .seq #[] }) B l1 l2 0 := z.keep (fun b o _ q => Heap.get?_push_of_some _ q) fun b o q => ⟨o, Heap.get?_push_of_some _ q⟩
  refine ⟨⟨_, hS, rfl⟩, F.args_list_init_2 _ _, ?_⟩
  show wpAny _ _ (do let old ← Builtin.List.listItems (.ref s.heap.objs.size); Builtin.List.listUpdate (.ref s.heap.objs.size) (fun _ => #[]); letGo old.toList.reverse; Builtin.List.listExtendWith (.ref s.heap.objs.size) (.ref (B + 4)) .none) _ _ _
  refine wpAny_bind ?_
  unfold Builtin.List.listItems
  refine wpAny_bind (wpAny_seqItems hS rfl (wpAny_pure ?_))
  show wpAny _ _ (updateSeq s.heap.objs.size (fun _ => #[]) >>= fun _ => letGo (#[] : Array Value).toList.reverse >>= fun _ => Builtin.List.listExtendWith (.ref s.heap.objs.size) (.ref (B + 4)) .none) _ _ _
  refine wpAny_bind (wpAny_updateSeq hS rfl ?_)
  have I2 := I1.lset (t' := s.toks) (its := []) (its' := []) (n := 0) (f := fun _ => #[]) (ys := []) upd_same hS rfl .nil (Nat.zero_le _)
  rw [upd_upd] at I2
  have hS2 := PySem.IsL.update hS (fun _ => (#[] : Array Value))
  have z2 := z1.upd hS hSf (fun _ => (#[] : Array Value))
  refine wpAny_bind (wpAny_letGo ?_)
  generalize ((s.heap.push { cls := .type "list", data := .seq #[] }).update s.heap.objs.size (Obj.mapSeq fun _ => (#[] : Array Value))) = h2 at I2 hS2 z2 ⊢
  have z2' : zOk k1 k2 (Shared.heap { s with heap := h2 }) B l1 l2 0 := z2
  have hSI : s.heap.objs.size ≠ B + 4 := Nat.ne_of_gt zl
  unfold Builtin.List.listExtendWith
  refine wpAny_bind (wpAny_typeOf z2'.is ?_)
  have h1 : Builtin.List.listSameRef (.ref s.heap.objs.size) (.ref (B + 4)) = false := by simp [Builtin.List.listSameRef, hSI]
  have h2' : (Value.type "zip" == Value.type "list") = false := by decide
  have h3 : (Value.type "zip" == Value.type "tuple") = false := by decide
  simp only [h1, h2', h3, Bool.or_false, Bool.false_eq_true, if_false]
  refine wpAny_bind (z2'.self ?_)
  refine wpAny_bind (wpAny_holding ?_)
  unfold Builtin.List.listLengthHint
  refine wpAny_bind (wpAny_specialOf z2'.is nolen_zip ?_)
  show wpAny _ _ (specialOf (Value.ref (B + 4)) (Str.ofString "__length_hint__") >>= _) _ _ _
  refine wpAny_bind (wpAny_specialOf z2'.is nohint_zip ?_)
  refine wpAny_pure ?_
  show wpAny _ _ (rule "list.extend.makes-room" >>= fun _ => Builtin.List.listTouch (.ref s.heap.objs.size) >>= fun _ =>
    again (.builtin "list.extend.loop" ⟨[.ref s.heap.objs.size, .ref (B + 4), .none], []⟩)) _ _ _
  refine wpAny_bind (wpAny_rule ?_)
  refine wpAny_bind ?_
  show wpAny _ _ (updateSeq s.heap.objs.size (·.push .none) >>= fun _ => updateSeq s.heap.objs.size (·.pop)) _ _ _
  refine wpAny_bind (wpAny_updateSeq hS2 rfl ?_)
  have I3 := I2.lset (t' := s.toks) (its := []) (its' := [.none]) (f := (·.push Value.none)) (ys := [.non]) upd_same hS2 rfl (.cons (show RelV .non .none from rfl) .nil) (by rw [sizeLine_eq]; decide)
  rw [upd_upd] at I3
  have hS3 := PySem.IsL.update hS2 (·.push Value.none)
  have z3 := z2.upd hS2 hSf (·.push Value.none)
  refine wpAny_updateSeq (hz := by seq_fits) hS3 rfl ?_
  have I4 := I3.lset (t' := s.toks) (its := [.none]) (its' := []) (f := (·.pop)) (ys := []) upd_same hS3 rfl .nil (Nat.zero_le _)
  rw [upd_upd] at I4
  have z4 := z3.upd hS3 hSf (·.pop)
  refine wpAny_pure ⟨plainId_quiet F.plain_extend_loop _, ?_⟩
  refine lz_loop (A := X.A.in1) (R := wants (fun r s₂ => r = Value.none ∧ Q (Value.ref s.heap.objs.size) s₂) X.xe) (H0 := H) (G0 := G) (k1 := k1) (k2 := k2) (vs1 := vs1) (vs2 := vs2) (ds := ds) (es := es) hh q1 q2 p1 p2 D hn hSf _ 0 _ _ G [] rfl (Nat.zero_le _) I4 (Grow.own gh hn) (fun b hb => ?_) z4 upd_same (same_back gh hn) .nil fun s' H' G' ws' I' g' e1 e2 dw => ?_
  · obtain ⟨f0, f⟩ := hf b hb
    refine ⟨?_, f⟩
    rw [upd_ne fun z => hSf (by rw [← z]; exact hb)]
    exact f0
  · exact ⟨rfl, hQ s' _ H' G' ws' I' g' hn e2 e1 dw⟩
end
/-! ### the rules -/
theorem rr_newG {K : PySem.W.Frag} {Φ : Fx} {H G H' G' : Hp} {F : Nat → List Addr} {σ : L2.St} {e : Fr} (O : Ok K Φ H G F σ e) (g : Grow H G H' G') {p : Addr} (hp : H p = none) (gp : G' p = none) {vs : List V} {ds : List D} (h : H' p = some (.lst vs)) (d : DqAll K G' vs ds) :
    Ok K Φ H' G' F σ e ∧ rr K Φ (.new (.ls ds)) (.ref p) H' G' F σ e := by
  refine ⟨O.grow g, p, [p], rfl, .ls h d, fun b hb => ?_, fun j t q o b hb => ?_⟩
  · rw [List.mem_singleton.mp hb]
    exact ⟨gp, O.noentry hp⟩
  · rw [List.mem_singleton.mp hb]
    exact O.noslot hp j t q o
def tLz (K : PySem.W.Frag) (ta : TA) : TE := fun σ H Q => ta σ H fun vs H1 => ∃ (G : Hp) (k1 k2 : SK) (a b : Addr) (xs ys : List V) (ds es : List D), Same G H1 ∧ vs = [.ref a, .ref b] ∧ SK.sq k1 K G a xs ∧ SK.sq k2 K G b ys ∧ DqAll K G xs ds ∧ DqAll K G ys es ∧
  ∀ p H' G' ws, Grow H1 G H' G' → H1 p = none → G' p = none → H' p = some (.lst ws) → DqAll K G' ws (zipD ds es) → Q (.ref p) H'
section
variable {X : Cx}
theorem pe_lz {e e2 : Expr} {ta : TA} {p p2 q pos : Pos} (hc : X.calm = true) (hg0 : Gl X "list") (hm0 : X.mg "list" = none) (hg : Gl X "zip") (hm : X.mg "zip" = none) (ha : PA X [e, e2] ta)
    (na : starEach [.Call (.Name "zip" p2) [e, e2] [] q] X.env = (false, eval (.Call (.Name "zip" p2) [e, e2] [] q) X.env) :: starEach [] X.env := by rfl)
    (hs : starEach [e, e2] X.env = (false, eval e X.env) :: starEach [e2] X.env := by rfl) (hpl : (backTo q (starEach [e2] X.env)).any (·.1) = false := by rfl) : PE X (.Call (.Name "list" p) [.Call (.Name "zip" p2) [e, e2] [] q] [] pos) (tLz X.K ta) := by
  refine ⟨fun pins s σ H Q I h => ?_⟩
  refine Call_ (ld_blt I hg0 hm0 boot_list (PyProof.Rows.callWith_type1 (args_cons (Call_ (ld_blt I hg hm PyProof.Rows.boot_zip (PyProof.Rows.callWith_type1 (thn (ha.run q pins s σ H _ I h) fun us s1 ⟨vs, H1, I1, r1, G, k1, k2, a, b, xs, ys, ds, es, gh, ex, q1, q2, p1, p2, qq⟩ => ?_) hs hpl))) na) na))
  subst ex
  cases r1 with
  | cons r rr =>
    cases rr with
    | cons r' rr =>
      cases rr
      cases r
      cases r'
      have fresh : ∀ c, c ∈ zCh s1.heap.objs.size → FpOk X pins H1 c := fun c hcm => by
        have e' : c = s1.heap.objs.size + 4 ∨ c = s1.heap.objs.size + 2 ∨ c = s1.heap.objs.size + 3 ∨ c = s1.heap.objs.size ∨ c = s1.heap.objs.size + 1 := by simpa [zCh] using hcm
        have le : s1.heap.objs.size ≤ c := by
          rcases e' with z | z | z | z | z <;> rw [z] <;> omega
        exact I1.fpOk le (I1.hok.fresh le)
      obtain ⟨its, rv, pl1⟩ := sq_held k1 I1 (sq_same k1 gh q1)
      obtain ⟨its2, rv2, pl2⟩ := sq_held k2 I1 (sq_same k2 gh q2)
      refine call_zipK pl1 pl2 fun h' S hTO hsz hk => args_nil ?_
      have I2 : Inv X pins σ H1 { s1 with heap := h', toks := s1.toks } := I1.kept hk
      refine call_list_zip (s := { s1 with heap := h' }) (I1.ok.hd hc) I2 gh q1 q2 p1 p2 (PySem.W.ktu_apart s1.heap.objs.size a b (k1.has_lt pl1) (k2.has_lt pl2)) fresh (.inl ⟨S, _, _, hTO⟩) fun s' p H' G' ws I' g n1 n2 e1 dw => ?_
      exact ⟨.ref p, H', I', rfl, qq p H' G' ws g n1 n2 e1 dw⟩
end
def eLz (fs : Af) : Rf := fun e => (fs e).bind fun as e1 => (fzA as e1).bind fun ds e2 => match ds with
  | [x, y] => match seqD x with
    | some (_, xs) => match seqD y with
      | some (_, ys) => .ok (.new (.ls (zipD xs ys))) e2
      | none => .no
    | none => .no
  | _ => .no
section
variable {X : Cx} {Φ : Fx} {W : WX} {x y : Expr} {fs : Af} {pos p p2 q : Pos}
theorem d_lz (hc : X.calm = true) (hm0 : X.mg "list" = none) (hm : X.mg "zip" = none) (ha : DA X Φ W [x, y] fs) (hg0 : Gl X "list" := by rfl) (hg : Gl X "zip" := by rfl)
    (na : starEach [.Call (.Name "zip" p2) [x, y] [] q] X.env = (false, eval (.Call (.Name "zip" p2) [x, y] [] q) X.env) :: starEach [] X.env := by rfl)
    (hs : starEach [x, y] X.env = (false, eval x X.env) :: starEach [y] X.env := by rfl) (hpl : (backTo q (starEach [y] X.env)).any (·.1) = false := by rfl) :
    DR X Φ W (.Call (.Name "list" p) [.Call (.Name "zip" p2) [x, y] [] q] [] pos) (eLz fs) :=
  pe_weak (pe_lz hc hg0 hm0 hg hm ha na hs hpl) fun σ H Q ⟨G, F, e, O, h⟩ => ⟨G, F, e, O, Wp.imp (Wp.seq h) fun vs H1 ⟨G1, F1, e1, as, g1, O1, r1, h1⟩ => by
    obtain ⟨G2, e2, ds, g2, O2, d2, h2⟩ := Wp.fzA O1 r1 h1
    split at h2
    · rename_i dx dy
      split at h2
      · rename_i k1 xs q1
        split at h2
        · rename_i k2 ys q2
          cases d2 with
          | cons a t =>
            cases t with
            | cons b t =>
              cases t
              obtain ⟨l1, vs1, rfl, s1, p1⟩ := seqD_at a q1
              obtain ⟨l2, vs2, rfl, s2, p2⟩ := seqD_at b q2
              refine ⟨G2, k1, k2, l1, l2, vs1, vs2, xs, ys, O2.gh, rfl, s1, s2, p1, p2, fun p H' G' ws g n1 n2 e3 dw => ?_⟩
              obtain ⟨z1, z2⟩ := rr_newG O2 g n1 n2 e3 dw
              exact h2 _ H' G' F1 g.gg z1 z2
        · exact h2.elim
      · exact h2.elim
    · exact h2.elim⟩
end
/-! ### list(range(..)), tuple(range(..)) -/
def rgD (a b : Int) : List D := (List.range (b - a).toNat).map fun (i : Nat) => .int (a + (i : Int))
theorem rg_dp {K : PySem.W.Frag} {G : Hp} (a b : Int) : DqAll K G (rgV a b) (rgD a b) := by
  have h := dp_ints (K := K) (H := G) ((List.range (b - a).toNat).map fun (i : Nat) => a + (i : Int))
  rw [List.map_map, List.map_map] at h
  exact h
def rgOk (a b : Int) : Bool := decide (-(2 ^ 62) ≤ a ∧ a < 2 ^ 62 ∧ -(2 ^ 62) ≤ b ∧ b < 2 ^ 62 ∧ (b - a).toNat ≤ 1000000)
theorem rgOk_ok {a b : Int} (h : rgOk a b = true) : RgOk a b := by
  obtain ⟨h1, h2, h3, h4, h5⟩ := of_decide_eq_true h
  exact ⟨h1, h2, h3, h4, by omega⟩
def eLrg1 (fa : Ef) : Rf := fun e => (fa e).bind fun a e1 => match rd1 e1 a with
  | some (.int n) => if rgOk 0 n = true then .ok (.new (.ls (rgD 0 n))) e1 else .no
  | _ => .no
def eLrg2 (fa fb : Ef) : Rf := fun e => (fa e).bind fun a e1 => (fb e1).bind fun b e2 => match rd1 e2 a with
  | some (.int m) => match rd1 e2 b with
    | some (.int n) => if rgOk m n = true then .ok (.new (.ls (rgD m n))) e2 else .no
    | _ => .no
  | _ => .no
def eTrg1 (fa : Ef) : Ef := fun e => (fa e).bind fun a e1 => match rd1 e1 a with
  | some (.int n) => if rgOk 0 n = true then .ok (.val (.tuple (rgD 0 n))) e1 else .no
  | _ => .no
def tTupRgF (te : L2.St → Hp → (Int → Int → Hp → Prop) → Prop) : TE := fun σ H Q => te σ H fun a b H1 => RgOk a b ∧ ∀ q o, H1 q = none → o.dict = none → Q (.ref q) (upd H1 q (.frz o (.tup (rgV a b))))
section
variable {X : Cx}
theorem pe_tupRgF {e : Expr} {te : L2.St → Hp → (Int → Int → Hp → Prop) → Prop} {p pos : Pos} (hc : X.calm = true) (hg : Gl X "tuple") (hm : X.mg "tuple" = none) (he : PRg X e te) (na : starEach [e] X.env = (false, eval e X.env) :: starEach [] X.env := by rfl) : PE X (.Call (.Name "tuple" p) [e] [] pos) (tTupRgF te) := by
  refine ⟨fun pins s σ H Q I h => ?_⟩
  refine Call_ (ld_blt I hg hm boot_tuple (PyProof.Rows.callWith_type1 (args_cons (thn (he pins s σ H _ I h) fun x s1 ⟨r, a, b, t, u, v, H1, ex, hr, I1, ok, q⟩ => args_nil ?_) na) na))
  subst ex
  obtain ⟨b1, b2, b3, b4, b5⟩ := ok
  refine call_tuple_range (n := (b - a).toNat) (I1.ok.hd hc) hr (small_one b1 b2 b3 b4) (rangeSize_nat a b) b5 fun h' tk acc hk hi => ?_
  have I2 : Inv X pins σ H1 { s1 with heap := h', toks := tk } := I1.kept hk
  refine ⟨.ref h'.objs.size, _, I2.laid (t' := tk) (fun c o e => Heap.get?_push_of_some _ e) (Nat.le_refl _) (ok_frz (u := .tup (rgV a b)) (Heap.get?_push_size _ rfl) ⟨?_, acc.toList, vals_rg hi, ?_⟩), rfl, q _ _ (I2.hok.fresh (Nat.le_refl _)) rfl⟩
  · rw [rgV_length, sizeLine_eq]; omega
  · rw [Array.toArray_toList]; exact IsTup.new _ _
variable {Φ : Fx} {W : WX} {x y : Expr} {fa fb : Ef} {pos p p2 q : Pos}
theorem d_lrg1 (hc : X.calm = true) (hm0 : X.mg "list" = none) (hm : X.mg "range" = none) (ha : DE X Φ W x fa) (hg0 : Gl X "list" := by rfl) (hg : Gl X "range" := by rfl)
    (na : starEach [.Call (.Name "range" p2) [x] [] q] X.env = (false, eval (.Call (.Name "range" p2) [x] [] q) X.env) :: starEach [] X.env := by rfl) (nx : starEach [x] X.env = (false, eval x X.env) :: starEach [] X.env := by rfl) :
    DR X Φ W (.Call (.Name "list" p) [.Call (.Name "range" p2) [x] [] q] [] pos) (eLrg1 fa) :=
  pe_weak (pe_listRg hc hg0 hm0 (prg_1 hg hm ha nx) na) fun σ H Q ⟨G, F, e, O, h⟩ => ⟨G, F, e, O, Wp.imp (Wp.seq h) fun v H1 ⟨G1, F1, e1, a, g1, O1, r1, h1⟩ => by
    split at h1
    · rename_i n z
      split at h1
      · rename_i hn
        obtain rfl := (bp_of O1 r1 z).int
        refine ⟨n, rfl, rgOk_ok hn, fun p hp => ?_⟩
        obtain ⟨z1, z2⟩ := rr_new O1 hp (rg_dp 0 n)
        exact h1 _ _ _ F1 (Same.refl _) z1 z2
      · exact h1.elim
    · exact h1.elim⟩
theorem d_lrg2 (hc : X.calm = true) (hm0 : X.mg "list" = none) (hm : X.mg "range" = none) (ha : DE X Φ W x fa) (hb : DE X Φ W y fb) (hg0 : Gl X "list" := by rfl) (hg : Gl X "range" := by rfl)
    (na : starEach [.Call (.Name "range" p2) [x, y] [] q] X.env = (false, eval (.Call (.Name "range" p2) [x, y] [] q) X.env) :: starEach [] X.env := by rfl) (nx : starEach [x, y] X.env = (false, eval x X.env) :: starEach [y] X.env := by rfl)
    (ny : starEach [y] X.env = (false, eval y X.env) :: starEach [] X.env := by rfl) (hpl : (backTo q (starEach [y] X.env)).any (·.1) = false := by rfl) :
    DR X Φ W (.Call (.Name "list" p) [.Call (.Name "range" p2) [x, y] [] q] [] pos) (eLrg2 fa fb) :=
  pe_weak (pe_listRg hc hg0 hm0 (prg_2 hg hm ha hb nx ny hpl) na) fun σ H Q ⟨G, F, e, O, h⟩ => ⟨G, F, e, O, Wp.imp (Wp.seq h) fun v H1 ⟨G1, F1, e1, a, g1, O1, r1, h1⟩ => ⟨G1, F1, e1, O1, Wp.imp (Wp.seq h1) fun u H2 ⟨G2, F2, e2, b, g2, O2, r2, h2⟩ => by
    have rv : ra X.K a v H2 G2 F2 σ e2 := ra_up r1 g2
    split at h2
    · rename_i m z
      split at h2
      · rename_i n z2
        split at h2
        · rename_i hn
          obtain rfl := (bp_of O2 rv z).int
          obtain rfl := (bp_of O2 r2 z2).int
          refine ⟨m, n, rfl, rfl, rgOk_ok hn, fun p hp => ?_⟩
          obtain ⟨z1, z2⟩ := rr_new O2 hp (rg_dp m n)
          exact h2 _ _ _ F2 (Same.refl _) z1 z2
        · exact h2.elim
      · exact h2.elim
    · exact h2.elim⟩⟩
theorem d_trg1 (hc : X.calm = true) (hm0 : X.mg "tuple" = none) (hm : X.mg "range" = none) (ha : DE X Φ W x fa) (hg0 : Gl X "tuple" := by rfl) (hg : Gl X "range" := by rfl)
    (na : starEach [.Call (.Name "range" p2) [x] [] q] X.env = (false, eval (.Call (.Name "range" p2) [x] [] q) X.env) :: starEach [] X.env := by rfl) (nx : starEach [x] X.env = (false, eval x X.env) :: starEach [] X.env := by rfl) :
    DE X Φ W (.Call (.Name "tuple" p) [.Call (.Name "range" p2) [x] [] q] [] pos) (eTrg1 fa) :=
  pe_weak (pe_tupRgF hc hg0 hm0 (prg_1 hg hm ha nx) na) fun σ H Q ⟨G, F, e, O, h⟩ => ⟨G, F, e, O, Wp.imp (Wp.seq h) fun v H1 ⟨G1, F1, e1, a, g1, O1, r1, h1⟩ => by
    split at h1
    · rename_i n z
      split at h1
      · rename_i hn
        obtain rfl := (bp_of O1 r1 z).int
        refine ⟨n, rfl, rgOk_ok hn, fun p o hp hd => ?_⟩
        exact h1 _ _ _ F1 (same_new (same_back O1.gh hp)) (O1.grow (Grow.laid O1.gh hp)) (Dq.newT (same_back O1.gh hp) hd (rg_dp 0 n))
      · exact h1.elim
    · exact h1.elim⟩
end
end DL
set_option Elab.async false
set_option linter.all false
set_option maxRecDepth 100000
set_option maxHeartbeats 4000000
/-! DlMr: extend, index. -/
namespace DL
open PySem L2
section
open PySem.Spec PyProof.Rows
theorem extend_list (l : Addr) (items : Array Value) (n : Nat) (b : Addr) (items2 : Array Value) (n2 : Nat) (sl : Array (Option Value)) (hc0 : ¬(!items.isEmpty && Builtin.List.listTooLong (items.size + items2.size)) = true) (hc1 : items.size ≤ sizeLine) (hs2 : items.size + items2.size ≤ sizeLine + 1) :
    Meets (Builtin.«list.extend» ⟨[.ref l, .ref b], []⟩) (fun _ R s => s.heap.get? l = some { cls := .type "list", dict := none, data := .seq items n, slots := #[] } ∧ s.heap.get? b = some { cls := .type "list", dict := none, data := .seq items2 n2, slots := sl } ∧ R (.ok (.ret Value.none)) { s with heap := s.heap.update l (Obj.mapSeq fun x => x ++ items2), toks := s.toks }) :=
  .of_wp fun prog w A R s h => by
    obtain ⟨hp, g, d, tk, os⟩ := s; obtain ⟨hl, hb, h⟩ := h; have f1 := AutoSeq1.idx_int; have f2 := AutoSeq1.sub_tuple_tuple; have f3 := AutoSeq1.sub_list_list; have f4 := AutoSeq1.sub_tuple_list; have f5 := AutoSeq1.sub_list_tuple;
    have hz' : (items ++ items2).size ≤ sizeLine + 1 := by rw [Array.size_append]; exact hs2
    wp_walk using (wpAny_updateSeq hl rfl (hz := hc1) (_hz' := hz')), AutoSeq1.wpAny_loadPart' hl, AutoSeq1.wpAny_loadPart' hb; exact ⟨_, rfl, h⟩
theorem extend_tuple (l : Addr) (items : Array Value) (n : Nat) (b : Addr) (items2 : Array Value) (n2 : Nat) (dd : Option Addr) (sl : Array (Option Value)) (hs0 : ¬(!items.isEmpty && Builtin.List.listTooLong (items.size + items2.size)) = true) (hs1 : items.size ≤ sizeLine) (hs2 : items.size + items2.size ≤ sizeLine + 1) :
    Meets (Builtin.«list.extend» ⟨[.ref l, .ref b], []⟩) (fun _ R s => s.heap.get? l = some { cls := .type "list", dict := none, data := .seq items n, slots := #[] } ∧ s.heap.get? b = some { cls := .type "tuple", dict := dd, data := .seq items2 n2, slots := sl } ∧ R (.ok (.ret Value.none)) { s with heap := s.heap.update l (Obj.mapSeq fun x => x ++ items2), toks := s.toks }) :=
  .of_wp fun prog w A R s h => by
    obtain ⟨hp, g, d, tk, os⟩ := s; obtain ⟨hl, hb, h⟩ := h; have f1 := AutoSeq1.idx_int; have f2 := AutoSeq1.sub_tuple_tuple; have f3 := AutoSeq1.sub_list_list; have f4 := AutoSeq1.sub_tuple_list; have f5 := AutoSeq1.sub_list_tuple;
    have hz' : (items ++ items2).size ≤ sizeLine + 1 := by rw [Array.size_append]; exact hs2
    wp_walk using (wpAny_updateSeq hl rfl (hz := hs1) (_hz' := hz')), AutoSeq1.wpAny_loadPart' hl, AutoSeq1.wpAny_loadPart' hb; exact ⟨_, rfl, h⟩
end
def mExt : Mop := fun cs ds => match ds with
  | [.list es] => if cs.length + es.length < 1000000 then some (.none, cs ++ es) else none
  | [.tuple es] => if cs.length + es.length < 1000000 then some (.none, cs ++ es) else none
  | _ => none
theorem mt_dExt {X : Cx} : MtR X "list.extend" (rMt X.K mExt) := by
  intro pins s σ H x xs v us Q I rx rv h
  obtain ⟨G, l, vs, cs, ds, d, es, gh, rfl, h1, h2, h3, ho, k⟩ := h
  have ln := DqAll.len h2
  cases rx
  obtain ⟨z, its, n, r, hl, e⟩ := I.lstM h1
  unfold mExt at ho
  split at ho
  · rename_i es'
    split at ho
    · rename_i hz
      cases ho
      cases h3 with
      | cons a t =>
        cases t
        cases a with
        | lst hs ha =>
          rename_i b ws
          have ln2 := DqAll.len ha
          obtain ⟨u, rfl, ru⟩ := rv.one
          cases ru
          obtain ⟨its2, r2, ⟨⟨cls, dd, dt, sl⟩, n2, e2, hc, hd, hdt⟩, z2⟩ := I.list (same_l gh hs)
          simp only at hc hd hdt
          subst hc hd hdt
          have l1 := r.length
          have l2 := r2.length
          have big := sizeLine_eq
          have hsz : its.toArray.size + its2.toArray.size ≤ sizeLine := by rw [List.size_toArray, List.size_toArray]; omega
          have hlong : ¬ (!its.toArray.isEmpty && Builtin.List.listTooLong (its.toArray.size + its2.toArray.size)) = true := by
            rw [notLongL hsz, Bool.and_false]
            exact Bool.false_ne_true
          refine call_meets PySem.F.slot_list_extend ⟨_, e, rfl⟩ PySem.F.entry_list_extend (PySem.F.args_list_extend_2 _ _) (extend_list l its.toArray n b its2.toArray n2 sl hlong (by rw [List.size_toArray]; omega) (by omega)) ⟨e, e2, ?_⟩
          refine ⟨.non, _, I.lset (its' := its ++ its2) h1 e (by simp) (r.append r2) ?_, rfl, k _ _ .non (DqAll.app h2 ha)⟩
          rw [List.length_append]
          omega
    · cases ho
  · rename_i es'
    split at ho
    · rename_i hz
      cases ho
      cases h3 with
      | cons a t =>
        cases t
        cases a with
        | tup hs nd ha =>
          rename_i b ws
          have ln2 := DqAll.len ha
          obtain ⟨u, rfl, ru⟩ := rv.one
          cases ru
          obtain ⟨its2, r2, ⟨⟨cls, dd, dt, sl⟩, e2, hc, n2, hdt⟩, z2⟩ := I.tuple (same_t gh hs)
          simp only at hc hdt
          subst hc hdt
          have l1 := r.length
          have l2 := r2.length
          have big := sizeLine_eq
          have hsz : its.toArray.size + its2.toArray.size ≤ sizeLine := by rw [List.size_toArray, List.size_toArray]; omega
          have hlong : ¬ (!its.toArray.isEmpty && Builtin.List.listTooLong (its.toArray.size + its2.toArray.size)) = true := by
            rw [notLongL hsz, Bool.and_false]
            exact Bool.false_ne_true
          refine call_meets PySem.F.slot_list_extend ⟨_, e, rfl⟩ PySem.F.entry_list_extend (PySem.F.args_list_extend_2 _ _) (extend_tuple l its.toArray n b its2.toArray n2 dd sl hlong (by rw [List.size_toArray]; omega) (by omega)) ⟨e, e2, ?_⟩
          refine ⟨.non, _, I.lset (its' := its ++ its2) h1 e (by simp) (r.append r2) ?_, rfl, k _ _ .non (DqAll.app h2 ha)⟩
          rw [List.length_append]
          omega
    · cases ho
  · cases ho

/-! ### methods that only read: x.m(..) by what x is -/
/-- the value is of that builtin type, and has no dict of its own -/
def tyW (K : PySem.W.Frag) (T : String) (x : V) (H : Hp) : Prop := tyV K T x H ∨ T = "tuple" ∧ ∃ p xs, x = .ref p ∧ SqT K H p xs ∧ Nd K H p
section
variable {X : Cx}
theorem Nd.none {pins : List (Addr × Obj)} {σ : L2.St} {H : Hp} {s : Shared} {p : Addr} (I : Inv X pins σ H s) (h : Nd X.K H p) : ∃ ob, s.heap.get? p = some ob ∧ ob.dict = none := by
  rcases h with ⟨o, u, q, d⟩ | ⟨o, q, d⟩
  · exact ⟨o, (I.hok p _ q).1, d⟩
  · exact ⟨o, I.kIn p o q, d⟩
theorem tyW_is {pins : List (Addr × Obj)} {σ : L2.St} {H : Hp} {s : Shared} {T : String} {x : V} {v : Value} (I : Inv X pins σ H s) (r : RelV x v) (ty : tyW X.K T x H) :
    s.TypeIs v T ∧ ∀ a, v = .ref a → ∃ ob, s.heap.get? a = some ob ∧ ob.dict = none := by
  rcases ty with ty | ⟨rfl, p, xs, rfl, ht, nd⟩
  · exact tyV_is I r ty
  · cases r
    obtain ⟨its, _, pl, _⟩ := I.tuple ht
    refine ⟨pl.typeIs, fun a e => ?_⟩
    cases e
    exact nd.none I
/-- a method by what the object is: rt tells which types have it -/
def RmOk (X : Cx) (name : Str) (rt : D → Bool) (f : D → List D → Option D) : Prop := ∀ (d : D) (v : V) (H G : Hp), Same G H → Bp X.K H G v d → rt d = true → ∃ T id, PlainAttrs T ∧ Slot T name id ∧ typeOf (.builtin id) = pure (.type "method_descriptor") ∧ tyW X.K T v H ∧
  ∀ (ds' : List D) (d' r' : D) (pins : List (Addr × Obj)) (s : Shared) (σ : L2.St) (H2 G2 : Hp) (xs : List V) (u : Value) (us : List Value) (Q : VK), tyN d' = tyN d → Inv X pins σ H2 s → RelV v u → Vals xs us → Same G2 H2 → Bp X.K H2 G2 v d' → BpAll X.K H2 G2 xs ds' → f d' ds' = some r' →
    (∀ w H' G', Grow H2 G2 H' G' → Dq X.K G' w r' → Q w H') → wpAny (model X.prog X.w) X.A (call (.builtin id) (u :: us)) (EP X pins σ Q) X.xe s
def rmUse (f : D → List D → Option D) (d : D) (a : Arg) (as : List Arg) (e2 : Fr) : R Arg := match rd1 e2 a with
  | some d' => match rdA e2 as with
    | some ds => match f d' ds with
      | some r => if tyN d' = tyN d then .ok (.val r) e2 else .no
      | none => .no
    | none => .no
  | none => .no
def eRm (rt : D → Bool) (f : D → List D → Option D) (fo : Ef) (fs : Af) : Ef := fun e => (fo e).bind fun a e1 => match rd1 e1 a with
  | some d => if rt d = true then (fs e1).bind fun as e2 => rmUse f d a as e2 else .no
  | none => .no
def tRm (X : Cx) (name : Str) (to : TE) (t : TA) : TE := fun σ H Q => to σ H fun x H1 => ∃ T id, PlainAttrs T ∧ Slot T name id ∧ typeOf (.builtin id) = pure (.type "method_descriptor") ∧ tyW X.K T x H1 ∧ t σ H1 fun xs H2 =>
  ∀ (pins : List (Addr × Obj)) (s : Shared) (u : Value) (us : List Value), Inv X pins σ H2 s → RelV x u → Vals xs us → wpAny (model X.prog X.w) X.A (call (.builtin id) (u :: us)) (EP X pins σ Q) X.xe s
theorem pe_rm {o e : Expr} {es : List Expr} {to : TE} {t : TA} {name : Str} {apos cpos : Pos} (ho : PE X o to) (ha : PA X (e :: es) t)
    (hbase : attributeBase o name X.env (eval o X.env) = eval o X.env := by rfl)
    (hfew : ((backTo cpos (starEach (e :: es) X.env)).all (fun x => !x.1) && (backToKw cpos (keywordEach [] X.env)).all (fun x => x.1.isSome)
      && decide ((e :: es).length + ([] : List Keyword).length + (if ([] : List Keyword).isEmpty then 0 else 1) < 30)) = true := by rfl)
    (hline : (apos.endLine == cpos.line) = true := by rfl) (hs : starEach (e :: es) X.env = (false, eval e X.env) :: starEach es X.env := by rfl) (hplain : (backTo cpos (starEach es X.env)).any (·.1) = false := by rfl) :
    PE X (.Call (.Attribute o name apos) (e :: es) [] cpos) (tRm X name to t) := by
  refine ⟨fun pins s σ H Q I h => ?_⟩
  refine wpAny_Call_method_late hbase hfew hline rfl (thn (ho.run pins s σ H _ I h) fun v s1 ⟨x, H1, I1, r1, T, id, pa, slot, hty, ty, q1⟩ => ?_)
  obtain ⟨h1, h2⟩ := tyW_is I1 r1 ty
  refine ⟨T, id, pa, slot, hty, h1, h2, ?_⟩
  have hA := ha.run cpos pins s1 σ H1 _ I1 q1
  rw [hs] at hA ⊢
  refine Calls.callWith_builtin (by show (false || (backTo cpos (starEach es X.env)).any (·.1)) = false; rw [hplain] <;> rfl) (Calls.evalArgs_plain ?_)
  exact thn hA fun us s2 ⟨vs, H2, I2, r2, q2⟩ => q2 pins s2 v us I2 r1 r2
variable {Φ : Fx} {W : WX} {x y : Expr} {xs : List Expr} {apos cpos : Pos} {n : Str} {fa : Ef} {fs : Af} {rt : D → Bool} {f : D → List D → Option D}
theorem d_rm (hm : RmOk X n rt f) (hx : DE X Φ W x fa) (ha : DA X Φ W (y :: xs) fs) (hbase : attributeBase x n X.env (eval x X.env) = eval x X.env := by rfl)
    (hfew : ((backTo cpos (starEach (y :: xs) X.env)).all (fun x => !x.1) && (backToKw cpos (keywordEach [] X.env)).all (fun x => x.1.isSome)
      && decide ((y :: xs).length + ([] : List Keyword).length + (if ([] : List Keyword).isEmpty then 0 else 1) < 30)) = true := by rfl)
    (hline : (apos.endLine == cpos.line) = true := by rfl) (hs : starEach (y :: xs) X.env = (false, eval y X.env) :: starEach xs X.env := by rfl) (hplain : (backTo cpos (starEach xs X.env)).any (·.1) = false := by rfl) :
    DE X Φ W (.Call (.Attribute x n apos) (y :: xs) [] cpos) (eRm rt f fa fs) :=
  pe_weak (pe_rm hx ha hbase hfew hline hs hplain) fun σ H Q ⟨G, F, e, O, h⟩ => ⟨G, F, e, O, Wp.imp (Wp.seq h) fun v H1 ⟨G1, F1, e1, a, g1, O1, r1, h1⟩ => by
    split at h1
    · rename_i d q
      split at h1
      · rename_i hr
        obtain ⟨T, id, pa, slot, hty, ty, run⟩ := hm d v H1 G1 O1.gh (bp_of O1 r1 q) hr
        refine ⟨T, id, pa, slot, hty, ty, G1, F1, e1, O1, Wp.imp (Wp.seq h1) fun vs H2 ⟨G2, F2, e2, as, g2, O2, r2, h2⟩ => ?_⟩
        have rv : ra X.K a v H2 G2 F2 σ e2 := ra_up r1 g2
        unfold rmUse at h2
        split at h2
        · rename_i d' q'
          split at h2
          · rename_i ds qs
            split at h2
            · rename_i r hf
              split at h2
              · rename_i hty'
                intro pins s u us I ru rus
                exact run ds d' r pins s σ H2 G2 vs u us _ hty' I ru rus O2.gh (bp_of O2 rv q') (bps_of O2 r2 qs) hf fun w H' G' g hw => h2 w H' G' F2 g.gg (O2.grow g) hw
              · exact h2.elim
            · exact h2.elim
          · exact h2.elim
        · exact h2.elim
      · exact h1.elim
    · exact h1.elim⟩
/-! ### index -/
def rtSeq : D → Bool
  | .list _ => true
  | .tuple _ => true
  | _ => false
def seqOf2 : D → Option (List D)
  | .list ds => some ds
  | .tuple ds => some ds
  | _ => none
def fIndex (d : D) (xs : List D) : Option D := match seqOf2 d with
  | some ds => match xs with
    | [x] => if SeqAt.shaped x = true ∧ SeqAt.shaped (.list ds) = true then (ds.findIdx? fun z => PyData.eqv z x).map fun j => .int (j : Nat) else none
    | _ => none
  | none => none
theorem rm_index (hu : X.A.units + 65 < cLine) : RmOk X "index" rtSeq fIndex := by
  intro d v H G gh b hr
  cases d with
  | list ds0 =>
    obtain ⟨a, vs, rfl, t, p⟩ := b.lst gh
    refine ⟨"list", "list.index", PySem.F.plainAttrs_list, PySem.F.slot_list_index, PySem.F.type_list_index, .inl (.inl ⟨rfl, vs, t⟩), ?_⟩
    intro ds' d' r' pins s σ H2 G2 xs u us Q hty I ru rus gh2 b2 bs hf k
    cases d' with
    | list ds =>
      unfold fIndex seqOf2 at hf
      simp only at hf
      split at hf
      · rename_i x
        split at hf
        · rename_i hc
          obtain ⟨j, hj, rfl⟩ := Option.map_eq_some_iff.mp hf
          obtain ⟨w, rfl, bx⟩ := bpa1 bs
          obtain ⟨h1, h2, h3⟩ := List.findIdx?_eq_some_iff_getElem.mp hj
          refine mt_indexD hu pins s σ H2 _ _ u us Q I ru rus ⟨a, w, x, ds, j, ds[j], rfl, rfl, b2.dpS gh2 hc.2, bx.dpS gh2 hc.1, hc.2, hc.1, List.getElem?_eq_getElem h1, h2, fun m z hm hz => ?_, k _ _ _ (Grow.refl gh2) (.int _)⟩
          have hl : m < ds.length := by omega
          rw [List.getElem?_eq_getElem hl] at hz
          rw [← Option.some.inj hz]
          simpa using h3 m hm
        · cases hf
      · cases hf
    | _ => simp [tyN] at hty
  | tuple ds0 =>
    obtain ⟨a, vs, rfl, t, p⟩ := b.tup gh
    obtain ⟨a', e, nd⟩ := b.nd gh
    cases e
    refine ⟨"tuple", "tuple.index", PySem.F.plainAttrs_tuple, PySem.F.slot_tuple_index, PySem.F.type_tuple_index, .inr ⟨rfl, a, vs, rfl, t, nd⟩, ?_⟩
    intro ds' d' r' pins s σ H2 G2 xs u us Q hty I ru rus gh2 b2 bs hf k
    cases d' with
    | tuple ds =>
      unfold fIndex seqOf2 at hf
      simp only at hf
      split at hf
      · rename_i x
        split at hf
        · rename_i hc
          obtain ⟨j, hj, rfl⟩ := Option.map_eq_some_iff.mp hf
          obtain ⟨w, rfl, bx⟩ := bpa1 bs
          obtain ⟨h1, h2, h3⟩ := List.findIdx?_eq_some_iff_getElem.mp hj
          obtain ⟨a2, vs2, e2, t2, p2⟩ := b2.tup gh2
          cases e2
          cases ru
          cases rus with
          | cons rx rn =>
            cases rn
            obtain ⟨bs2, rd⟩ := Dp.reads I x w _ (bx.dpS gh2 hc.1) rx
            have hxs : PyData.canLayAll0 ds = true := SeqAt.canLay_of_shaped hc.2
            have hroom : X.A.units + 1 + min (PyData.depthAll ds) x.depth < cLine := PyProof.Rows.room_in_shaped hc.1 hu
            obtain ⟨its, rv, ⟨⟨cls, dd, data, sls⟩, ho, hcl, n, hdt⟩, hlen⟩ := I.tuple t2
            simp only at hcl hdt
            subst hcl hdt
            obtain ⟨as, h4⟩ := Dp.readsAll I ds _ its ((dpa_mono gh2 p2).dpa (lay_nodict.lay_nodicts _ hxs)) rv
            have hn : its.length = ds.length := SeqAt.ReadsAll.length ds its as h4
            have hmap : its.map (SeqAt.readOf s.heap) = ds := SeqAt.readsAll_map ds its as hxs h4
            have hjl : j < its.length := by omega
            have hj2 : j < its.toArray.size := by simpa using hjl
            have at_ : ∀ (m : Nat) (hm : m < its.toArray.size) (z' : D), ds[m]? = some z' → SeqAt.readOf s.heap its.toArray[m] = z' := by
              intro m hm z' hz'
              have hml : m < its.length := by simpa using hm
              rw [← hmap, List.getElem?_map, List.getElem?_eq_getElem hml] at hz'
              have e1 : SeqAt.readOf s.heap its[m] = z' := Option.some.inj (show some (SeqAt.readOf s.heap its[m]) = some z' from hz')
              simpa using e1
            refine call_meets PySem.F.slot_tuple_index ⟨_, ho, rfl⟩ PySem.F.entry_tuple_index (PySem.F.args_tuple_index_2 _ _)
              (TI.tuple_indexAt a its.toArray n dd sls _ (fun u => PyData.eqv (SeqAt.readOf s.heap u) x) j hj2 ?_ ?_) ⟨ho, SeqAt.items_eqAt (vs := its.toArray) (show ReadsAll s.heap its.toArray.toList ds as from h4) rd hxs (SeqAt.canLay_of_shaped hc.1) hroom, ?_⟩
            · show PyData.eqv (SeqAt.readOf s.heap its.toArray[j]) x = true
              rw [at_ j hj2 _ (List.getElem?_eq_getElem h1)]
              exact h2
            · intro m hm hmj
              have hmd : m < ds.length := by omega
              show PyData.eqv (SeqAt.readOf s.heap its.toArray[m]) x = false
              rw [at_ m hm _ (List.getElem?_eq_getElem hmd)]
              simpa using h3 m hmj
            · exact ⟨.int (j : Nat), H2, I.tok _, ⟨_, rfl⟩, k _ _ _ (Grow.refl gh2) (.int _)⟩
        · cases hf
      · cases hf
    | _ => simp [tyN] at hty
  | _ => cases hr
end
end DL
set_option Elab.async false
set_option linter.all false
set_option maxRecDepth 100000
set_option maxHeartbeats 4000000
/-! DlSt: set(..) under len and sorted: whole numbers, tuples of whole numbers. -/
namespace DL
open PySem L2
/-! ### without repeats -/
def dedupD : List D → List D
  | [] => []
  | d :: ds => if ds.any (fun z => PyData.eqv z d) = true then dedupD ds else d :: dedupD ds
def okAll (ds : List D) : Prop := ∀ x ∈ ds, ∀ y ∈ ds, okB x y = true
theorem okAll.tail {d : D} {ds : List D} (h : okAll (d :: ds)) : okAll ds := fun x hx y hy => h x (List.mem_cons_of_mem _ hx) y (List.mem_cons_of_mem _ hy)
theorem any_eqv {d : D} {ds : List D} (h : okAll (d :: ds)) : ds.any (fun z => PyData.eqv z d) = true ↔ d ∈ ds := by
  rw [List.any_eq_true]
  constructor
  · rintro ⟨z, hz, e⟩
    have ok := h z (List.mem_cons_of_mem _ hz) d (List.mem_cons_self ..)
    rw [eqv_eq z d ok, decide_eq_true_eq, cmp_eq z d ok] at e
    rw [← e]
    exact hz
  · intro hd
    have ok := h d (List.mem_cons_self ..) d (List.mem_cons_self ..)
    exact ⟨d, hd, by rw [eqv_eq d d ok, decide_eq_true_eq, cmp_eq d d ok]⟩
theorem mem_dedup : ∀ {ds : List D}, okAll ds → ∀ x, x ∈ dedupD ds ↔ x ∈ ds
  | [], _, x => Iff.rfl
  | d :: ds, h, x => by
    unfold dedupD
    split
    · rename_i q
      rw [mem_dedup h.tail x, List.mem_cons]
      constructor
      · exact .inr
      · rintro (rfl | z)
        · exact (any_eqv h).mp q
        · exact z
    · rw [List.mem_cons, List.mem_cons, mem_dedup h.tail x]
theorem nodup_dedup : ∀ {ds : List D}, okAll ds → (dedupD ds).Nodup
  | [], _ => List.nodup_nil
  | d :: ds, h => by
    unfold dedupD
    split
    · exact nodup_dedup h.tail
    · rename_i q
      refine List.nodup_cons.mpr ⟨fun z => q ((any_eqv h).mpr ((mem_dedup h.tail d).mp z)), nodup_dedup h.tail⟩
theorem dedup_self : ∀ {ds : List D}, okAll ds → ds.Nodup → dedupD ds = ds
  | [], _, _ => rfl
  | d :: ds, h, n => by
    obtain ⟨n1, n2⟩ := List.nodup_cons.mp n
    unfold dedupD
    rw [if_neg fun z => n1 ((any_eqv h).mp z), dedup_self h.tail n2]
theorem perm_nodup {α : Type} : ∀ {l1 l2 : List α}, l1.Nodup → l2.Nodup → (∀ x, x ∈ l1 ↔ x ∈ l2) → l1.Perm l2
  | [], l2, _, _, h => by
    cases l2 with
    | nil => exact .nil
    | cons a l => exact absurd ((h a).mpr (List.mem_cons_self ..)) (by simp)
  | a :: l1, l2, n1, n2, h => by
    obtain ⟨s, t, e⟩ := List.append_of_mem ((h a).mp (List.mem_cons_self ..))
    subst e
    obtain ⟨m1, n1'⟩ := List.nodup_cons.mp n1
    have n3 : (a :: (s ++ t)).Nodup := (List.perm_middle.nodup_iff).mp n2
    obtain ⟨m2, n2'⟩ := List.nodup_cons.mp n3
    refine ((perm_nodup n1' n2' fun x => ?_).cons a).trans List.perm_middle.symm
    have hx := h x
    rw [List.mem_cons, List.perm_middle.mem_iff, List.mem_cons] at hx
    constructor
    · intro z
      rcases hx.mp (.inr z) with rfl | y
      · exact absurd z m1
      · exact y
    · intro z
      rcases hx.mpr (.inr z) with rfl | y
      · exact absurd z m2
      · exact y
theorem dedup_len_le {ds : List D} : (dedupD ds).length ≤ ds.length := by
  induction ds with
  | nil => exact Nat.le_refl _
  | cons d ds ih =>
    unfold dedupD
    split
    · rw [List.length_cons]; omega
    · rw [List.length_cons, List.length_cons]; omega
/-! ### sorted of what is collected -/
section
open PySem.Spec PyProof.Rows
variable {prog : Program} {w : World} {A : Around} {E : Value → Shared → Prop} {s : Shared}
theorem sorted_by {x : Value} {Q : Value → Shared → Prop} (hc : wpAny (model prog w) A.in1 (collect x) (fun vs s1 => vs.length ≤ sizeLine ∧ ∃ ltv : Value → Value → Bool, SrtO.Swo ltv ∧
      (2 ≤ vs.length → ∀ (h₁ : Heap) (a : Addr), h₁.get? a = some (seqObj "list" vs.toArray 0) → (∀ b o, s1.heap.get? b = some o → b ≠ a ∧ h₁.get? b = some o) → SrtO.SortableO prog w A.in1.in1 { s1 with heap := h₁ } a vs ltv) ∧
      ∀ (out : List Value) (h2 : Heap) (p : Addr) (c : Nat), SrtO.Srtd ltv out → SrtO.Stb ltv out vs → (∀ b o, s1.heap.get? b = some o → h2.get? b = some o) → s1.heap.objs.size ≤ p → h2.get? p = some (seqObj "list" out.toArray c) → Q (.ref p) { s1 with heap := h2 }) E s) :
    wpAny (model prog w) A (call (.builtin "sorted") [x]) Q E s := by
  refine Calls.call_function_entry kind_sorted plain_sorted entry_sorted (args_sorted1 _) ?_
  unfold Builtin.«sorted»
  refine wpAny_bind (m := checkCount "sorted" 1 1 _) (wpAny_pure ?_)
  refine wpAny_bind (wpAny_mono hc (fun vs s1 ⟨hz, ltv, O, hS, h⟩ => ?_) fun _ _ z => z)
  refine wpAny_bind (wpAny_newList ?_ hz)
  have hoL : (s1.heap.push (seqObj "list" vs.toArray 0)).get? s1.heap.objs.size = some (seqObj "list" vs.toArray 0) := Heap.get?_push_size _ rfl
  have keep : ∀ b o, s1.heap.get? b = some o → b ≠ s1.heap.objs.size ∧ (s1.heap.push (seqObj "list" vs.toArray 0)).get? b = some o := fun b o q => ⟨Nat.ne_of_lt (Heap.lt_size q), Heap.get?_push_of_some _ q⟩
  show wpAny _ _ _ _ _ { s1 with heap := s1.heap.push (seqObj "list" vs.toArray 0) }
  refine wpAny_bind (wpAny_holding (wpAny_call_entry slot_list_sort ⟨_, hoL, rfl⟩ entry_list_sort (SrtO.list_sort_ord O hoL hz (fun h2 => hS h2 _ _ hoL keep) fun out hs hb => ⟨_, rfl, ?_⟩) (args_list_sort _)))
  obtain ⟨c, hc'⟩ := sortedHeap_at (vs := vs) (out := out.toArray) hoL
  refine wpAny_pure ⟨_, rfl, h out _ _ c hs hb (fun b o q => ?_) (Nat.le_refl _) hc'⟩
  rw [sortedHeap_old (Nat.ne_of_lt (Heap.lt_size q)) (by rw [size_push']; exact Nat.lt_succ_of_lt (Heap.lt_size q))]
  exact Heap.get?_push_of_some _ q
end
/-! ### set(a list of whole numbers), set(a tuple of tuples of whole numbers) -/
section
open PySem.Spec PyProof.Rows
variable {P : Program} {w : World} {A : Around} {E : Value → Shared → Prop} {s : Shared}
set_option maxHeartbeats 3200000 in
theorem set_of_ints {l : Addr} {items : Array Value} (ns : List Int) {Q : Value → Shared → Prop} (hh : A.handled = none) (hl : s.heap.IsList l items) (hit : IntsAre items.toList ns) (hb : ns.length + 1 < scanBound)
    (h : ∀ (h' : Heap) (tk c : Nat), SetR w h' s.heap.objs.size (fun j => decide (j ∈ ns)) c → c ≤ ns.length → (∀ b o, s.heap.get? b = some o → h'.get? b = some o) → Q (.ref s.heap.objs.size) { s with heap := h', toks := tk }) :
    wpAny (model P w) A (call (.type "set") [.ref l]) Q E s := by
  have hisz : items.size = ns.length := by
    have q := IntsAre.length hit
    rw [Array.length_toList] at q
    exact q
  obtain ⟨c, tl, hmro⟩ := F.called_set.mro
  have hmade := F.called_set.made
  have hsub := F.called_set.sub
  refine wpAny_call (codeAny_of_tree ?_)
  show wpAny _ _ (callAny (.type "set") _) _ _ _
  refine wpAny_pure ⟨Code.quiet_builtin _ (by decide +kernel), codeAny_builtin F.entry_type_call ?_⟩
  rw [Around.under_plain (weight_type_call_type "set" [.ref l] []) rfl]
  have h1 := F.called_set.notType
  have h2 := F.called_set.canCreate
  have hct := F.typeCall_set_1 (.ref l)
  repeat (any_goals (first | assumption | wp_step))

  refine codeAny_mono (code_set_led1 (.ref l) (E := E) (Q₁ := fun obj s₁ => obj = .ref s.heap.objs.size ∧ s₁ = { s with heap := s.heap.push { cls := .type "set", dict := none, data := .set #[] 0 (.fresh 0 0 (!w.params.followText "set-order")) } }) ⟨rfl, rfl⟩) fun r s₁ hr => ?_
  cases r with
  | error e => exact hr
  | ok fl =>
    cases fl with
    | ret obj =>
      obtain ⟨rfl, rfl⟩ := hr
      have hS : (s.heap.push { cls := .type "set", dict := none, data := .set #[] 0 (.fresh 0 0 (!w.params.followText "set-order")) }).get? s.heap.objs.size = some { cls := .type "set", dict := none, data := .set #[] 0 (.fresh 0 0 (!w.params.followText "set-order")) } := Heap.get?_push_size _ rfl
      have hT : Shared.TypeIs { s with heap := s.heap.push { cls := .type "set", dict := none, data := .set #[] 0 (.fresh 0 0 (!w.params.followText "set-order")) } } (.ref s.heap.objs.size) "set" := ⟨_, hS, rfl⟩
      have hli := F.called_set.init.lookup
      have hbi := F.called_set.init.bind (.ref s.heap.objs.size)
      repeat (any_goals (first | assumption | wp_step))

      refine codeAny_mono (codeAny_call_builtin (R := wants (fun r s₂ => r = .none ∧ ∃ h' tk c, s₂ = { s with heap := h', toks := tk } ∧ SetR w h' s.heap.objs.size (fun j => decide (j ∈ ns)) c ∧ c ≤ ns.length ∧
          (∀ b o, s.heap.get? b = some o → h'.get? b = some o)) E) F.called_set.init.plain F.entry_set_init (check_set_init_1 hT ?_)) fun r₂ s₂ hr₂ => ?_
      · obtain ⟨ol, hol, hcl, nl, hdl⟩ := hl
        obtain ⟨ocls, odict, odata, oslots⟩ := ol
        simp only at hcl hdl
        subst hcl; subst hdl
        have hol' : (s.heap.push { cls := .type "set", dict := none, data := .set #[] 0 (.fresh 0 0 (!w.params.followText "set-order")) }).get? l = some { cls := .type "list", dict := odict, data := .seq items nl, slots := oslots } := Heap.get?_push_of_some _ hol
        have hsls := F.sub_list_set
        have hslf := F.sub_list_frozenset
        have hne : (Value.type "list" == Value.type "dict") = false := by decide
        have hl1 : (s.heap.push { cls := .type "set", dict := none, data := .set #[] 0 (.fresh 0 0 (!w.params.followText "set-order")) }).IsList l items := ⟨_, hol', rfl, nl, rfl⟩
        unfold Builtin.«set.__init__» noKeywords Builtin.Frozenset.updateFrom
        generalize hPI : pyIter = PI
        wp_walk
        subst hPI

        refine wpAny_pyIter_list hl1 ?_
        refine wpAny_bind (wpAny_runValue ?_)
        have hlS : l < s.heap.objs.size := Heap.lt_size hol
        have hh3 : A.in1.in1.in1.handled = none := by simp [hh]
        have hz1 : (s.heap.push { cls := .type "set", dict := none, data := .set #[] 0 (.fresh 0 0 (!w.params.followText "set-order")) }).objs.size = s.heap.objs.size + 1 := Heap.size_push ..
        have hneI : l ≠ (s.heap.push { cls := .type "set", dict := none, data := .set #[] 0 (.fresh 0 0 (!w.params.followText "set-order")) }).objs.size := by
          rw [Heap.size_push]; exact Nat.ne_of_lt (Nat.lt_succ_of_lt hlS)
        have hSf : s.heap.objs.size ∉ [(s.heap.push { cls := .type "set", dict := none, data := .set #[] 0 (.fresh 0 0 (!w.params.followText "set-order")) }).objs.size, l] := by
          rw [Heap.size_push]; simp only [List.mem_cons, List.mem_singleton, List.not_mem_nil, or_false, not_or]
          exact ⟨Nat.ne_of_lt (Nat.lt_succ_self _), Nat.ne_of_gt hlS⟩
        have hval : ∀ (i : Nat) (v : Value), items[i]? = some v → ∃ k t, ns[i]? = some k ∧ v = .int k t := fun i v hv => by
          have hi : i < ns.length := by rw [← hisz]; exact (Array.getElem?_eq_some_iff.mp hv).1
          obtain ⟨t, e⟩ := PyProof.Rows.IntsAre.int_at hit i v (by rw [Array.getElem?_toList]; exact hv)
          refine ⟨ns[i], t, List.getElem?_eq_getElem hi, ?_⟩
          rw [e, List.getD_eq_getElem?_getD, List.getElem?_eq_getElem hi] <;> rfl
        refine set_update_ints ((Walks.list hh3 _ l hneI items).toS) s.heap.objs.size
          hSf ns hisz hb hval (items.size - 0) 0 _ (by omega) (Nat.zero_le _)
          ⟨⟨_, Heap.get?_push_size _ rfl, rfl, rfl⟩, (hl1.push _)⟩ ?hS0 ?hR
        case hS0 =>
          have hget : ((s.heap.push { cls := .type "set", dict := none, data := .set #[] 0 (.fresh 0 0 (!w.params.followText "set-order")) }).push { cls := .type "list_iterator", data := .fields #[.ref l, .int 0 0] }).get? s.heap.objs.size
              = some { cls := .type "set", dict := none, data := .set #[] 0 (.fresh 0 0 (!w.params.followText "set-order")) } := Heap.get?_push_of_some _ hS
          exact ⟨0, Nat.le_refl 0, setR_new_at hget⟩
        case hR =>
          intro s' c' hm hc' hS'
          obtain ⟨h', g2, d', tk', os'⟩ := s'
          have eg : g2 = s.gens := hm.gens
          have ed : d' = s.drawn := hm.drawn
          have eo : os' = s.os := hm.os
          subst eg; subst ed; subst eo
          show wpAny _ _ _ _ _ _
          refine wpAny_pure ?_
          show wpAny _ _ (ret Value.none) _ _ _
          rw [hisz] at hc'
          refine wpAny_pure ⟨rfl, h', tk', c', rfl, hS', hc', fun b o e => ?_⟩
          have hb0 : b < s.heap.objs.size := Heap.lt_size e
          have hb1 : b ≠ s.heap.objs.size := Nat.ne_of_lt hb0
          have hb2 : b ≠ (s.heap.push { cls := .type "set", dict := none, data := .set #[] 0 (.fresh 0 0 (!w.params.followText "set-order")) }).objs.size := by
            rw [Heap.size_push]; exact Nat.ne_of_lt (Nat.lt_succ_of_lt hb0)
          exact hm.heap b o (by simp only [List.mem_cons, List.mem_singleton, List.not_mem_nil, or_false, not_or]; exact ⟨hb1, hb2⟩) (Heap.get?_push_of_some _ (Heap.get?_push_of_some _ e))

      · cases r₂ with
        | error e => exact hr₂
        | ok fl₂ =>
          cases fl₂ with
          | ret r =>
            obtain ⟨rfl, h', tk, c', rfl, hS', hc', hk'⟩ := hr₂
            repeat (any_goals (first | assumption | wp_step))
            exact h _ _ _ hS' hc' hk'
          | _ => exact hr₂.elim
    | _ => exact hr.elim

set_option maxHeartbeats 3200000 in
theorem set_of_tupsT {l : Addr} {items : Array Value} (ks : List (Addr × List Int)) {Q : Value → Shared → Prop} (hh : A.handled = none) (hl : s.heap.IsTuple l items) (hit : items.toList = ks.map fun p => Value.ref p.1)
    (hk : ∀ p ∈ ks, IsT P w s.heap p.2 p.1) (hfew : ks.length < 64) (hu : A.units + 3 < cLine)
    (h : ∀ (h' : Heap) (tk : Nat) L es ep t, SetTR P w h' s.heap.objs.size L es ep t → Got ks ks.length L → (∀ b o, s.heap.get? b = some o → h'.get? b = some o) → Q (.ref s.heap.objs.size) { s with heap := h', toks := tk }) :
    wpAny (model P w) A (call (.type "set") [.ref l]) Q E s := by
  have hisz : items.size = ks.length := by
    have q := congrArg List.length hit
    rw [Array.length_toList, List.length_map] at q
    exact q
  obtain ⟨c, tl, hmro⟩ := F.called_set.mro
  have hmade := F.called_set.made
  have hsub := F.called_set.sub
  refine wpAny_call (codeAny_of_tree ?_)
  show wpAny _ _ (callAny (.type "set") _) _ _ _
  refine wpAny_pure ⟨Code.quiet_builtin _ (by decide +kernel), codeAny_builtin F.entry_type_call ?_⟩
  rw [Around.under_plain (weight_type_call_type "set" [.ref l] []) rfl]
  have h1 := F.called_set.notType
  have h2 := F.called_set.canCreate
  have hct := F.typeCall_set_1 (.ref l)
  repeat (any_goals (first | assumption | wp_step))

  refine codeAny_mono (code_set_led1 (.ref l) (E := E) (Q₁ := fun obj s₁ => obj = .ref s.heap.objs.size ∧ s₁ = { s with heap := s.heap.push { cls := .type "set", dict := none, data := .set #[] 0 (.fresh 0 0 (!w.params.followText "set-order")) } }) ⟨rfl, rfl⟩) fun r s₁ hr => ?_
  cases r with
  | error e => exact hr
  | ok fl =>
    cases fl with
    | ret obj =>
      obtain ⟨rfl, rfl⟩ := hr
      have hS : (s.heap.push { cls := .type "set", dict := none, data := .set #[] 0 (.fresh 0 0 (!w.params.followText "set-order")) }).get? s.heap.objs.size = some { cls := .type "set", dict := none, data := .set #[] 0 (.fresh 0 0 (!w.params.followText "set-order")) } := Heap.get?_push_size _ rfl
      have hT : Shared.TypeIs { s with heap := s.heap.push { cls := .type "set", dict := none, data := .set #[] 0 (.fresh 0 0 (!w.params.followText "set-order")) } } (.ref s.heap.objs.size) "set" := ⟨_, hS, rfl⟩
      have hli := F.called_set.init.lookup
      have hbi := F.called_set.init.bind (.ref s.heap.objs.size)
      repeat (any_goals (first | assumption | wp_step))

      refine codeAny_mono (codeAny_call_builtin (R := wants (fun r s₂ => r = .none ∧ ∃ h' tk L es ep t, s₂ = { s with heap := h', toks := tk } ∧ SetTR P w h' s.heap.objs.size L es ep t ∧ Got ks ks.length L ∧
          (∀ b o, s.heap.get? b = some o → h'.get? b = some o)) E) F.called_set.init.plain F.entry_set_init (check_set_init_1 hT ?_)) fun r₂ s₂ hr₂ => ?_
      · obtain ⟨ol, hol, hcl, nl, hdl⟩ := hl
        obtain ⟨ocls, odict, odata, oslots⟩ := ol
        simp only at hcl hdl
        subst hcl; subst hdl
        have hol' : (s.heap.push { cls := .type "set", dict := none, data := .set #[] 0 (.fresh 0 0 (!w.params.followText "set-order")) }).get? l = some { cls := .type "tuple", dict := odict, data := .seq items nl, slots := oslots } := Heap.get?_push_of_some _ hol
        have hsls := F.sub_tuple_set
        have hslf := F.sub_tuple_frozenset
        have hne : (Value.type "tuple" == Value.type "dict") = false := by decide
        have hl1 : (s.heap.push { cls := .type "set", dict := none, data := .set #[] 0 (.fresh 0 0 (!w.params.followText "set-order")) }).IsTuple l items := ⟨_, hol', rfl, nl, rfl⟩
        unfold Builtin.«set.__init__» noKeywords Builtin.Frozenset.updateFrom
        generalize hPI : pyIter = PI
        wp_walk
        subst hPI

        refine wpAny_pyIter_tuple hl1 ?_
        refine wpAny_bind (wpAny_runValue ?_)
        have hlS : l < s.heap.objs.size := Heap.lt_size hol
        have hh3 : A.in1.in1.in1.handled = none := by simp [hh]
        have hz1 : (s.heap.push { cls := .type "set", dict := none, data := .set #[] 0 (.fresh 0 0 (!w.params.followText "set-order")) }).objs.size = s.heap.objs.size + 1 := Heap.size_push ..
        have hneI : l ≠ (s.heap.push { cls := .type "set", dict := none, data := .set #[] 0 (.fresh 0 0 (!w.params.followText "set-order")) }).objs.size := by
          rw [Heap.size_push]; exact Nat.ne_of_lt (Nat.lt_succ_of_lt hlS)
        have hSf : s.heap.objs.size ∉ [(s.heap.push { cls := .type "set", dict := none, data := .set #[] 0 (.fresh 0 0 (!w.params.followText "set-order")) }).objs.size, l] := by
          rw [Heap.size_push]; simp only [List.mem_cons, List.mem_singleton, List.not_mem_nil, or_false, not_or]
          exact ⟨Nat.ne_of_lt (Nat.lt_succ_self _), Nat.ne_of_gt hlS⟩
        have hval : ∀ (i : Nat) (v : Value), items[i]? = some v → ∃ p, ks[i]? = some p ∧ v = .ref p.1 := fun i v hv => by
          have q : items.toList[i]? = some v := by rw [Array.getElem?_toList]; exact hv
          rw [hit, List.getElem?_map] at q
          cases hq : ks[i]? with
          | none => rw [hq] at q; cases q
          | some p =>
            rw [hq] at q
            exact ⟨p, rfl, (Option.some.inj q).symm⟩
        have none_of : ∀ b, s.heap.objs.size ≤ b → s.heap.get? b = none := fun b hb => by
          cases q : s.heap.get? b with
          | none => rfl
          | some o => exact absurd (Nat.lt_of_lt_of_le (Heap.lt_size q) hb) (Nat.lt_irrefl _)
        refine set_update_tups ((Walks.tuple hh3 _ l hneI items).toS) s.heap.objs.size
          hSf ks hisz hfew hval s.heap hk (none_of _ (Nat.le_refl _)) (fun b hb => none_of b (by
            rw [List.mem_singleton.mp hb, Heap.size_push]
            exact Nat.le_succ _)) hu (items.size - 0) 0 _ (by omega) (Nat.zero_le _)
          ⟨⟨_, Heap.get?_push_size _ rfl, rfl, rfl⟩, (hl1.push _)⟩ (fun b o e => Heap.get?_push_of_some _ (Heap.get?_push_of_some _ e)) ?hS0 ?hR
        case hS0 =>
          have hget : ((s.heap.push { cls := .type "set", dict := none, data := .set #[] 0 (.fresh 0 0 (!w.params.followText "set-order")) }).push { cls := .type "tuple_iterator", data := .fields #[.ref l, .int 0 0] }).get? s.heap.objs.size
              = some { cls := .type "set", dict := none, data := .set #[] 0 (.fresh 0 0 (!w.params.followText "set-order")) } := Heap.get?_push_of_some _ hS
          exact ⟨[], #[], 0, _, setTR_fresh hget, Got.zero ks⟩
        case hR =>
          intro s' L es ep t hm hS' g' hkp
          obtain ⟨h', g2, d', tk', os'⟩ := s'
          have eg : g2 = s.gens := hm.gens
          have ed : d' = s.drawn := hm.drawn
          have eo : os' = s.os := hm.os
          subst eg; subst ed; subst eo
          show wpAny _ _ _ _ _ _
          refine wpAny_pure ?_
          show wpAny _ _ (ret Value.none) _ _ _
          rw [hisz] at g'
          exact wpAny_pure ⟨rfl, h', tk', L, es, ep, t, rfl, hS', g', hkp⟩

      · cases r₂ with
        | error e => exact hr₂
        | ok fl₂ =>
          cases fl₂ with
          | ret r =>
            obtain ⟨rfl, h', tk, L, es, ep, t, rfl, hS', g', hk'⟩ := hr₂
            repeat (any_goals (first | assumption | wp_step))
            exact h _ _ _ _ _ _ hS' g' hk'
          | _ => exact hr₂.elim
    | _ => exact hr.elim

/-! ### sorted -/
theorem ints_of_items {k : List Int} {vs : List Value} (h : ItemsAre (intKind P w) k vs) : IntsAre vs k := by
  induction h with
  | nil => exact .nil
  | @cons k0 v ks vs h1 _ ih =>
    obtain ⟨t, rfl⟩ := Value.isInt_shape h1
    exact .cons k0 t ih
theorem tupInts_of {h : Heap} {k : List Int} {b : Addr} (x : IsT P w h k b) : TS.TupInts h (.ref b) k := by
  obtain ⟨o, items, n, ho, hc, hd, hi⟩ := x
  exact ⟨b, items, rfl, ⟨o, ho, hc, n, hd⟩, ints_of_items hi⟩
theorem sorted_setT {a : Addr} {L : List (Addr × List Int)} {es : Array (Int × Value)} {ep : Nat} {t : SetTable} {Q : Value → Shared → Prop} (R : SetTR P w s.heap a L es ep t) (hh : A.handled = none)
    {d : Nat} {B : Int} (hd1 : 1 ≤ d) (hB : ∀ p ∈ L, p.2.length = d ∧ TS.Bd B p.2)
    (hQ : ∀ s' p (out : Array Value) (c : Nat) (L' : List (Addr × List Int)), (∀ b o, s.heap.get? b = some o → s'.heap.get? b = some o) → s'.gens = s.gens → s'.os = s.os → s.heap.objs.size ≤ p →
      s'.heap.get? p = some (seqObj "list" out c) → out.toList = L'.map (fun q => Value.ref q.1) → L'.Perm L → L'.Pairwise (fun q r => TS.code B q.2 ≤ TS.code B r.2) → Q (.ref p) s') :
    wpAny (model P w) A (call (.builtin "sorted") [.ref a]) Q E s := by
  obtain ⟨o, ho, hex, hd⟩ := R.ob
  have hsz := R.size
  have hfew := R.few
  refine Calls.call_function_entry kind_sorted plain_sorted entry_sorted (args_sorted1 _) ?_
  unfold Builtin.«sorted»
  refine wpAny_bind (m := checkCount "sorted" 1 1 _) (wpAny_pure ?_)
  refine wpAny_bind (collect_set (A := A.in1) hh ⟨o, ho, hex.1, hd⟩ R.fits (by unfold scanBound; omega) R.tab.ris R.led fun s1 vs k1 hz g1 o1 pm => ?_)
  have hes : es.toList.map (·.2) = L.map fun q => Value.ref q.1 := by
    rw [R.rows]
    unfold rowsOf
    rw [List.map_map] <;> rfl
  rw [hes] at pm
  -- the values are the addresses of the rows, in some order
  have ord : ∀ vs : List Value, (∀ v ∈ vs, ∃ q ∈ L, v = Value.ref q.1) → ∃ L1 : List (Addr × List Int), vs = L1.map (fun q => Value.ref q.1) ∧ ∀ q ∈ L1, q ∈ L := by
    intro vs
    induction vs with
    | nil => intro _; exact ⟨[], rfl, fun q hq => (by cases hq)⟩
    | cons v vs ih =>
      intro hv
      obtain ⟨q, hq, e⟩ := hv v List.mem_cons_self
      obtain ⟨L1, e1, hs⟩ := ih fun u hu => hv u (List.mem_cons_of_mem _ hu)
      refine ⟨q :: L1, by rw [List.map_cons, e, e1], fun r hr => ?_⟩
      rcases List.mem_cons.mp hr with z | z
      · rw [z]; exact hq
      · exact hs r z
  -- an address has one key
  have one : ∀ q ∈ L, ∀ r ∈ L, q.1 = r.1 → q = r := fun q hq r hr e => by
    have a1 := R.tup q hq
    have a2 := R.tup r hr
    rw [e] at a1
    have e2 : q.2 = r.2 := a1.inj a2
    exact Prod.ext e e2
  have perm_of : ∀ L1 : List (Addr × List Int), (∀ q ∈ L1, q ∈ L) → (L1.map (fun q => Value.ref q.1)).Perm (L.map fun q => Value.ref q.1) → L1.Perm L := by
    intro L1 hs pm1
    have nL : L.Nodup := nodup_of_map R.nd
    have nref : (L.map fun q => Value.ref q.1).Nodup := by
      refine List.pairwise_map.mpr (List.Pairwise.imp_of_mem (fun {q r} hq hr hne e => ?_) nL)
      injection e with e
      exact hne (one q hq r hr e)
    have n1 : L1.Nodup := nodup_of_map (pm1.nodup_iff.mpr nref)
    refine (List.perm_ext_iff_of_nodup n1 nL).mpr fun q => ⟨hs q, fun hq => ?_⟩
    have hm : Value.ref q.1 ∈ L1.map (fun q => Value.ref q.1) := pm1.mem_iff.mpr (List.mem_map.mpr ⟨q, hq, rfl⟩)
    obtain ⟨r, hr, e⟩ := List.mem_map.mp hm
    injection e with e
    rw [← one r (hs r hr) q hq e]
    exact hr
  have hvl : vs.length < 64 := by rw [pm.length_eq, List.length_map]; exact hfew
  refine wpAny_bind (wpAny_newList ?_ (by rw [sizeLine_eq]; omega))
  have hoL : (s1.heap.push (seqObj "list" vs.toArray 0)).get? s1.heap.objs.size = some (seqObj "list" vs.toArray 0) := Heap.get?_push_size _ rfl
  have tk : ∀ q ∈ L, TS.TupInts (s1.heap.push (seqObj "list" vs.toArray 0)) (.ref q.1) q.2 := fun q hq => tupInts_of (P := P) (w := w) (isT_keep (R.tup q hq) fun b u e => Heap.get?_push_of_some _ (k1 b u e))
  have x : TS.TupsOk (s1.heap.push (seqObj "list" vs.toArray 0)) d B vs := fun v hv => by
    obtain ⟨q, hq, e⟩ := List.mem_map.mp (pm.mem_iff.mp hv)
    rw [← e]
    exact ⟨q.2, tk q hq, (hB q hq).1, (hB q hq).2⟩
  refine wpAny_bind (wpAny_holding (TS.call_sort_tups (s := { s1 with heap := s1.heap.push (seqObj "list" vs.toArray 0) }) hoL hvl hd1 x fun out a1 a2 => ?_))
  obtain ⟨c, hc⟩ := sortedHeap_at (vs := vs) (out := out) hoL
  obtain ⟨L', e', hs'⟩ := ord out.toList fun v hv => by
    obtain ⟨q, hq, e⟩ := List.mem_map.mp (pm.mem_iff.mp (a1.mem_iff.mp hv))
    exact ⟨q, hq, e.symm⟩
  have pL : L'.Perm L := perm_of L' hs' (by rw [← e']; exact a1.trans pm)
  have pw : L'.Pairwise (fun q r => TS.code B q.2 ≤ TS.code B r.2) := by
    rw [e'] at a2
    refine List.Pairwise.imp_of_mem (fun {q r} hq hr hle => ?_) (List.pairwise_map.mp a2)
    have f1 : TS.intsOf (s1.heap.push (seqObj "list" vs.toArray 0)) (.ref q.1) = q.2 := (tk q (hs' q hq)).ints
    have f2 : TS.intsOf (s1.heap.push (seqObj "list" vs.toArray 0)) (.ref r.1) = r.2 := (tk r (hs' r hr)).ints
    rw [← f1, ← f2]
    exact hle
  refine wpAny_pure ⟨_, rfl, hQ _ s1.heap.objs.size out c L' (fun b u e => ?_) g1 o1 hz hc e' pL pw⟩
  have q := k1 b u e
  have hlt := Heap.lt_size q
  show (sortedHeap (s1.heap.push (seqObj "list" vs.toArray 0)) s1.heap.objs.size vs out).get? b = some u
  rw [sortedHeap_old (Nat.ne_of_lt hlt) (by rw [size_push']; exact Nat.lt_succ_of_lt hlt)]
  exact Heap.get?_push_of_some _ q
end
end DL
set_option Elab.async false
set_option linter.all false
set_option maxRecDepth 100000
set_option maxHeartbeats 4000000
/-! DlSu: len(set(..)), sorted(set(..)). -/
namespace DL
open PySem L2
open PySem.Spec PyProof.Rows
/-! ### a set, as it stands in the heap -/
def SetX (w : World) (a : Addr) (es : Array (Int × Value)) : HO := .ext fun h => ∃ o ep t, h.get? a = some o ∧ o.ExactSet ∧ o.data = .set es ep t ∧ t.fits es.size = true ∧ es.size < PySem.scanBound ∧ Ris t.place.toList ∧ (w.params.followText "set-order" = true ∨ t.led = true)
theorem setX_new {P : Program} {w : World} {H : Hp} {h : Heap} {a : Addr} {es : Array (Int × Value)} (R : ∃ o ep t, h.get? a = some o ∧ o.ExactSet ∧ o.data = .set es ep t ∧ t.fits es.size = true ∧ es.size < PySem.scanBound ∧ Ris t.place.toList ∧ (w.params.followText "set-order" = true ∨ t.led = true)) : ObjOk P w H h a (SetX w a es) := by
  obtain ⟨o, ep, t, ho, r⟩ := id R
  refine ⟨R, ⟨o, ho⟩, fun h1 h2 p k => ?_⟩
  obtain ⟨o', ep', t', ho', r'⟩ := p
  exact ⟨o', ep', t', k o' ho', r'⟩
def isI : D → Bool
  | .int _ => true
  | _ => false
def isIT : D → Bool
  | .tuple ds => ds.all isI
  | _ => false
def setOk (ds : List D) : Bool := (ds.all isI && decide (ds.length ≤ 1000)) || (ds.all isIT && decide (ds.length < 64))
theorem ints_of : ∀ {ds : List D}, ds.all isI = true → ∃ ns : List Int, ds = ns.map PyData.int
  | [], _ => ⟨[], rfl⟩
  | d :: ds, h => by
    simp only [List.all_cons, Bool.and_eq_true] at h
    obtain ⟨ns, rfl⟩ := ints_of h.2
    cases d with
    | int i => exact ⟨i :: ns, rfl⟩
    | _ => cases h.1
theorem okL_ints : ∀ (a b : List Int), okL (a.map PyData.int) (b.map PyData.int) = true
  | [], [] => rfl
  | [], _ :: _ => rfl
  | _ :: _, [] => rfl
  | x :: a, y :: b => by rw [List.map_cons, List.map_cons, okL_cc, okL_ints a b]; rfl
theorem okB_IT {x y : D} (hx : isIT x = true) (hy : isIT y = true) : okB x y = true := by
  cases x with
  | tuple a =>
    cases y with
    | tuple b =>
      obtain ⟨m, rfl⟩ := ints_of (show a.all isI = true from hx)
      obtain ⟨n, rfl⟩ := ints_of (show b.all isI = true from hy)
      rw [okB_tup]
      exact okL_ints m n
    | _ => cases hy
  | _ => cases hx
theorem okB_I {x y : D} (hx : isI x = true) (hy : isI y = true) : okB x y = true := by
  cases x with
  | int a =>
    cases y with
    | int b => rfl
    | _ => cases hy
  | _ => cases hx
theorem setOk_all {ds : List D} (h : setOk ds = true) : okAll ds := by
  unfold setOk at h
  rw [Bool.or_eq_true] at h
  rcases h with h | h
  · have a := List.all_eq_true.mp (Bool.and_eq_true _ _ ▸ h : _ ∧ _).1
    exact fun x hx y hy => okB_I (a x hx) (a y hy)
  · have a := List.all_eq_true.mp (Bool.and_eq_true _ _ ▸ h : _ ∧ _).1
    exact fun x hx y hy => okB_IT (a x hx) (a y hy)
/-- the rows of a list of tuples of whole numbers -/
theorem rows_of {K : PySem.W.Frag} {G : Hp} : ∀ {vs : List V} {ds : List D}, DqAll K G vs ds → ds.all isIT = true → ∃ ks : List (Addr × List Int), vs = ks.map (fun p => V.ref p.1) ∧ ds = ks.map (fun p => PyData.tuple (p.2.map PyData.int)) ∧ ∀ p ∈ ks, SqT K G p.1 (p.2.map V.int) ∧ Dq K G (.ref p.1) (.tuple (p.2.map PyData.int))
  | _, _, .nil, _ => ⟨[], rfl, rfl, fun p hp => by cases hp⟩
  | _, _, .cons a t, h => by
    simp only [List.all_cons, Bool.and_eq_true] at h
    obtain ⟨ks, rfl, rfl, hk⟩ := rows_of t h.2
    cases a with
    | @tup b xs es h1 h2 h3 =>
      obtain ⟨ns, rfl⟩ := ints_of (show es.all isI = true from h.1)
      have e := dpa_ints h3
      subst e
      refine ⟨(b, ns) :: ks, rfl, rfl, fun p hp => ?_⟩
      rcases List.mem_cons.mp hp with rfl | hp
      · exact ⟨h1, .tup h1 h2 h3⟩
      · exact hk p hp
    | _ => cases h.1
/-- set(x): what stands then -/
def rSetD (K : PySem.W.Frag) (w : World) : List V → Hp → VK → Prop := fun xs H Q => ∃ G d ds, Same G H ∧ BpAll K H G xs [d] ∧ seqOf2 d = some ds ∧ setOk ds = true ∧
  ∀ (a : Addr) (es : Array (Int × Value)) (ws : List V) (ds' : List D), H a = none → Vals ws (es.toList.map (·.2)) → DqAll K G ws ds' → ds'.Perm (dedupD ds) → Q (.ref a) (upd H a (SetX w a es))
section
variable {X : Cx}
theorem vals_keys : ∀ {l : List (Int × Value)}, (∀ e ∈ l, GoodE e) → Vals ((l.map keyOf).map V.int) (l.map (·.2))
  | [], _ => .nil
  | e :: l, h => by
    obtain ⟨k, tk, e1, _⟩ := h e (List.mem_cons_self ..)
    refine .cons ?_ (vals_keys fun x hx => h x (List.mem_cons_of_mem _ hx))
    show RelV (.int (keyOf e)) e.2
    unfold keyOf
    rw [e1]
    exact ⟨tk, rfl⟩
theorem intsAre_of : ∀ {ns : List Int} {us : List Value}, Vals (ns.map V.int) us → PyProof.Rows.IntsAre us ns
  | [], _, .nil => .nil
  | n :: ns, _, .cons r t => by
    obtain ⟨k, rfl⟩ := r
    exact .cons n k (intsAre_of t)
theorem nodup_int {l : List Int} (h : l.Nodup) : (l.map PyData.int).Nodup := by
  refine List.pairwise_map.mpr (List.Pairwise.imp (fun {a b} hab z => hab ?_) h)
  cases z
  rfl
theorem cr_dSet (hc : X.calm = true) (hu : X.A.units + 64 < cLine) : CallR X (.type "set") (rSetD X.K X.w) := by
  intro pins s σ H xs us Q I r h
  obtain ⟨G, d, ds, gh, b, hs, hok, q⟩ := h
  obtain ⟨v, rfl, b1⟩ := bpa1 b
  have hn : H s.heap.objs.size = none := I.hok.fresh (Nat.le_refl _)
  have oka := setOk_all hok
  -- whole numbers
  have kI : ∀ (ns : List Int), ds = ns.map PyData.int → ∀ (h' : Heap) (tk c : Nat), SetR X.w h' s.heap.objs.size (fun j => decide (j ∈ ns)) c → (∀ b o, s.heap.get? b = some o → h'.get? b = some o) → EP X pins σ Q (.ref s.heap.objs.size) { s with heap := h', toks := tk } := by
    intro ns e h' tk c R k
    obtain ⟨o, es, ep, t, ho, hex, hd, hg, hnd, hm, hsz, hf, hcz, hris, hled⟩ := R
    refine ⟨.ref s.heap.objs.size, upd H s.heap.objs.size (SetX X.w s.heap.objs.size es), I.laid (t' := tk) k (Nat.le_refl _) (setX_new ⟨o, ep, t, ho, hex, hd, hf, hsz, hris, hled⟩), rfl, q _ es ((es.toList.map keyOf).map V.int) ((es.toList.map keyOf).map PyData.int) hn (vals_keys hg) (dp_ints _) ?_⟩
    refine perm_nodup (nodup_int hnd) (nodup_dedup oka) fun x => ?_
    rw [mem_dedup oka, e, List.mem_map, List.mem_map]
    constructor
    · rintro ⟨j, hj, rfl⟩
      exact ⟨j, of_decide_eq_true ((hm j).mpr hj), rfl⟩
    · rintro ⟨j, hj, rfl⟩
      exact ⟨j, (hm j).mp (decide_eq_true hj), rfl⟩
  have kT : ∀ (ks : List (Addr × List Int)), ds = ks.map (fun p => PyData.tuple (p.2.map PyData.int)) → (∀ p ∈ ks, Dq X.K G (.ref p.1) (.tuple (p.2.map PyData.int))) → ∀ (h' : Heap) (tk : Nat) (L : List (Addr × List Int)) (es : Array (Int × Value)) (ep : Nat) (t : SetTable),
      SetTR X.prog X.w h' s.heap.objs.size L es ep t → Got ks ks.length L → (∀ b o, s.heap.get? b = some o → h'.get? b = some o) → EP X pins σ Q (.ref s.heap.objs.size) { s with heap := h', toks := tk } := by
    intro ks e hk h' tk L es ep t R g k
    obtain ⟨o, ho, hex, hd⟩ := R.ob
    have hz := SetTR.size (s := { s with heap := h' }) R
    have hfew := R.few
    have hfit := SetTR.fits (s := { s with heap := h' }) R
    have sub : ∀ p ∈ L, p ∈ ks := fun p hp => by
      have := g.sub p hp
      rw [List.take_length] at this
      exact this
    refine ⟨.ref s.heap.objs.size, upd H s.heap.objs.size (SetX X.w s.heap.objs.size es), I.laid (t' := tk) k (Nat.le_refl _) (setX_new ⟨o, ep, t, ho, hex, hd, hfit, by rw [hz]; unfold PySem.scanBound; omega, R.tab.ris, R.led⟩), rfl,
      q _ es (L.map fun p => V.ref p.1) (L.map fun p => PyData.tuple (p.2.map PyData.int)) hn ?_ ?_ ?_⟩
    · rw [R.rows]
      unfold rowsOf
      rw [List.map_map]
      exact vals_of_refs L
    · have go : ∀ L' : List (Addr × List Int), (∀ p ∈ L', p ∈ ks) → DqAll X.K G (L'.map fun p => V.ref p.1) (L'.map fun p => PyData.tuple (p.2.map PyData.int)) := by
        intro L'
        induction L' with
        | nil => intro _; exact .nil
        | cons p r ih => intro hr; exact .cons (hk p (hr p (List.mem_cons_self ..))) (ih fun x hx => hr x (List.mem_cons_of_mem _ hx))
      exact go L sub
    · refine perm_nodup ?_ (nodup_dedup oka) fun x => ?_
      · have e2 : (L.map fun p => PyData.tuple (p.2.map PyData.int)) = (L.map (·.2)).map fun n => PyData.tuple (n.map PyData.int) := by rw [List.map_map]; rfl
        rw [e2]
        refine List.pairwise_map.mpr (List.Pairwise.imp (fun {a b} hab z => hab ?_) R.nd)
        have z2 : a.map PyData.int = b.map PyData.int := by injection z
        exact (List.map_inj_right fun x y w => by injection w).mp z2
      · rw [mem_dedup oka, e, List.mem_map, List.mem_map]
        constructor
        · rintro ⟨p, hp, rfl⟩
          exact ⟨p, sub p hp, rfl⟩
        · rintro ⟨p, hp, rfl⟩
          have a := g.all p (by rw [List.take_length]; exact hp)
          obtain ⟨p', hp', e'⟩ := List.mem_map.mp a
          exact ⟨p', hp', by rw [e']⟩
  unfold setOk at hok
  rw [Bool.or_eq_true] at hok
  cases d with
  | list ds0 =>
    cases hs
    obtain ⟨l, vs, rfl, t, p⟩ := b1.lst gh
    rw [Vals.ref1 r]
    obtain ⟨its, rv, pl, hz⟩ := I.list t
    have ln := rv.length
    have ld := DqAll.len p
    rcases hok with h | h
    · have h' : _ ∧ _ := Bool.and_eq_true _ _ ▸ h
      obtain ⟨ns, rfl⟩ := ints_of h'.1
      have e := dpa_ints p
      subst e
      have hl := of_decide_eq_true h'.2
      rw [List.length_map] at hl
      exact set_of_ints (P := X.prog) (w := X.w) ns (I.ok.hd hc) pl.isList (by simpa using intsAre_of rv) (by unfold PySem.scanBound; omega) fun h' tk c R _ k => kI ns rfl h' tk c R k
    · have h' : _ ∧ _ := Bool.and_eq_true _ _ ▸ h
      obtain ⟨ks, rfl, rfl, hk⟩ := rows_of p h'.1
      have hl := of_decide_eq_true h'.2
      rw [List.length_map] at hl
      exact call_set_tups (P := X.prog) (w := X.w) ks (I.ok.hd hc) pl.isList (by simpa using refs_of_vals rv) (fun p hp => I.isT (same_t gh (hk p hp).1)) hl (by omega) fun h' tk L es ep t R g k => kT ks rfl (fun p hp => (hk p hp).2) h' tk L es ep t R g k
  | tuple ds0 =>
    cases hs
    obtain ⟨l, vs, rfl, t, p⟩ := b1.tup gh
    rw [Vals.ref1 r]
    obtain ⟨its, rv, pl, hz⟩ := I.tuple t
    have ln := rv.length
    have ld := DqAll.len p
    rcases hok with h | h
    · have h' : _ ∧ _ := Bool.and_eq_true _ _ ▸ h
      obtain ⟨ns, rfl⟩ := ints_of h'.1
      have e := dpa_ints p
      subst e
      have hl := of_decide_eq_true h'.2
      rw [List.length_map] at hl
      exact call_set_tupI (P := X.prog) (w := X.w) ns (I.ok.hd hc) pl (by simpa using intsAre_of rv) (by unfold PySem.scanBound; omega) fun h' tk c R _ k => kI ns rfl h' tk c R k
    · have h' : _ ∧ _ := Bool.and_eq_true _ _ ▸ h
      obtain ⟨ks, rfl, rfl, hk⟩ := rows_of p h'.1
      have hl := of_decide_eq_true h'.2
      rw [List.length_map] at hl
      exact set_of_tupsT (P := X.prog) (w := X.w) ks (I.ok.hd hc) pl (by simpa using refs_of_vals rv) (fun p hp => I.isT (same_t gh (hk p hp).1)) hl (by omega) fun h' tk L es ep t R g k => kT ks rfl (fun p hp => (hk p hp).2) h' tk L es ep t R g k
  | _ => cases hs
end
/-! ### sorting, whatever the order that it begins with -/
theorem lay_all : ∀ {ds : List D}, (∀ d ∈ ds, d.canLay0 = true) → PyData.canLayAll0 ds = true
  | [], _ => by simp [PyData.canLayAll0]
  | d :: ds, h => by simp [PyData.canLayAll0, h d (List.mem_cons_self ..), lay_all fun x hx => h x (List.mem_cons_of_mem _ hx)]
theorem depth_all : ∀ {ds : List D} {n : Nat}, PyData.depthAll ds ≤ n ↔ ∀ d ∈ ds, d.depth ≤ n
  | [], n => by simp [PyData.depthAll]
  | d :: ds, n => by
    have := depth_all (ds := ds) (n := n)
    simp only [PyData.depthAll, List.mem_cons, forall_eq_or_imp]
    rw [← this]
    omega
theorem srtOk_perm {ds es : List D} (p : es.Perm ds) (h : srtOk ds = true) : srtOk es = true := by
  obtain ⟨ok, ⟨k, k5, hk⟩, lay, dep⟩ := srtOk_iff.mp h
  exact srtOk_iff.mpr ⟨fun x hx y hy => ok x (p.mem_iff.mp hx) y (p.mem_iff.mp hy), ⟨k, k5, fun x hx => hk x (p.mem_iff.mp hx)⟩, lay_all fun d hd => lay_mem lay d (p.mem_iff.mp hd), depth_all.mpr fun d hd => depth_all.mp dep d (p.mem_iff.mp hd)⟩
theorem sortD_congr {ds es : List D} (p : es.Perm ds) (h : srtOk ds = true) : sortD es = sortD ds := by
  obtain ⟨ok, _⟩ := srtOk_iff.mp h
  exact sortD_of ok ((sortD_perm es).trans p) (sortD_le es)
theorem inv_at {X : Cx} {pins : List (Addr × Obj)} {σ : L2.St} {H : Hp} {s s1 : Shared} (I : Inv X pins σ H s) (k : ∀ b o, s.heap.get? b = some o → s1.heap.get? b = some o) (g : s1.gens = s.gens) (o : s1.os = s.os) : Inv X pins σ H s1 := by
  have J : Inv X pins σ H { s with heap := s1.heap, gens := s1.gens, drawn := s1.drawn, toks := s1.toks } := I.call (ch := []) (Un.kept k) (I.hok.kept k) (by rw [g]; exact I.bare) (fun _ z => nomatch z)
  have e : s1 = { s with heap := s1.heap, gens := s1.gens, drawn := s1.drawn, toks := s1.toks } := by
    cases s1
    cases s
    cases o
    rfl
  rw [e]
  exact J
section
variable {X : Cx} {pins : List (Addr × Obj)} {σ : L2.St} {H G : Hp} {s : Shared}
/-- values collected, in whatever order: what the sort gives -/
theorem sort_core {Q : VK} {vs0 vs : List Value} {ws : List V} {ds : List D} (hu : X.A.units + 64 < cLine) (I : Inv X pins σ H s) (gh : Same G H) (rv : Vals ws vs0) (p : DqAll X.K G ws ds) (pm : vs.Perm vs0) (ok : srtOk ds = true) (hz : ds.length ≤ sizeLine)
    (q : ∀ b us, H b = none → us.length = (sortD ds).length → DqAll X.K G us (sortD ds) → Q (.ref b) (upd H b (.lst us))) :
    vs.length ≤ sizeLine ∧ ∃ ltv : Value → Value → Bool, SrtO.Swo ltv ∧
      (2 ≤ vs.length → ∀ (h₁ : Heap) (a : Addr), h₁.get? a = some (seqObj "list" vs.toArray 0) → (∀ b o, s.heap.get? b = some o → b ≠ a ∧ h₁.get? b = some o) → SrtO.SortableO X.prog X.w X.A.in1.in1 { s with heap := h₁ } a vs ltv) ∧
      ∀ (out : List Value) (h2 : Heap) (b : Addr) (c : Nat), SrtO.Srtd ltv out → SrtO.Stb ltv out vs → (∀ b o, s.heap.get? b = some o → h2.get? b = some o) → s.heap.objs.size ≤ b → h2.get? b = some (seqObj "list" out.toArray c) → EP X pins σ Q (.ref b) { s with heap := h2 } := by
  obtain ⟨_, _, lay0, _⟩ := srtOk_iff.mp ok
  obtain ⟨as0, rd0⟩ := Dp.readsAll I _ _ vs0 ((dpa_mono gh p).dpa (lay_nodict.lay_nodicts _ lay0)) rv
  obtain ⟨T, e1, e2, e3, hT⟩ := triples rv rd0 p
  obtain ⟨T', o, pT⟩ := perm_lift (fun t : V × Value × D => t.2.1) pm T e2
  have hT' : ∀ t ∈ T', RelV t.1 t.2.1 ∧ (∃ as, Reads s.heap t.2.1 t.2.2 as) ∧ Dq X.K G t.1 t.2.2 := fun t ht => hT t (pT.mem_iff.mp ht)
  have pd : (T'.map (·.2.2)).Perm ds := by
    have := pT.map (·.2.2)
    rw [e3] at this
    exact this
  have rv' : Vals (T'.map (·.1)) vs := by
    have e : vs = T'.map (fun t => t.2.1) := o.symm
    rw [e]
    exact vals_T fun t ht => (hT' t ht).1
  have p' : DqAll X.K G (T'.map (·.1)) (T'.map (·.2.2)) := dps_T fun t ht => (hT' t ht).2.2
  have ok' := srtOk_perm pd ok
  have es := sortD_congr pd ok
  obtain ⟨okp, ⟨kk, k5, hk⟩, lay, dep⟩ := srtOk_iff.mp ok'
  obtain ⟨as, rd⟩ := Dp.readsAll I _ _ vs ((dpa_mono gh p').dpa (lay_nodict.lay_nodicts _ lay)) rv'
  have lv : vs.length = ds.length := by rw [← rv'.length, DqAll.len p', pd.length_eq]
  refine ⟨by omega, fun v u => ltB (SeqAt.readOf s.heap v) (SeqAt.readOf s.heap u), ⟨fun x y => swoB.asym _ _, fun x y z => swoB.tr _ _ _⟩, fun h2 h₁ a' ha keep => data_sortable rd okp hk k5 lay (by show X.A.units + 1 + 1 + _ < _; omega) h2 keep, fun out h2 b c hs hb keep hle hg => ?_⟩
  obtain ⟨us, w1, w2⟩ := sorted_data rv' rd p' okp lay hs hb.perm
  rw [es] at w2
  have lw : us.length = (sortD ds).length := DqAll.len w2
  have lz : us.length ≤ sizeLine := by rw [w1.length, hb.perm.length_eq, lv]; exact hz
  exact ⟨.ref b, upd H b (.lst us), I.laid (t' := s.toks) keep hle ⟨lz, out, c, w1, hg⟩, rfl, q b us (I.hok.fresh hle) lw w2⟩
end
/-! ### len and sorted of a set -/
section
variable {X : Cx}
theorem cr_lenX : CallR X (.builtin "len") (fun xs H Q => ∃ a es, xs = [V.ref a] ∧ H a = some (SetX X.w a es) ∧ Q (.int (es.size : Nat)) H) := by
  intro pins s σ H xs us Q I r h
  obtain ⟨a, es, rfl, ha, q⟩ := h
  obtain ⟨o, ep, t, ho, hex, hd, hf, hsz, _⟩ := (I.hok a _ ha).1
  rw [Vals.ref1 r]
  exact call_len_set ho hex hd hf (by unfold PySem.scanBound at hsz; omega) ⟨.int es.size, H, I.tok _, ⟨_, rfl⟩, q⟩
def rSortX (K : PySem.W.Frag) (w : World) : List V → Hp → VK → Prop := fun xs H Q => ∃ (a : Addr) (es : Array (Int × Value)) (ws : List V) (ds : List D) (G : Hp), xs = [V.ref a] ∧ H a = some (SetX w a es) ∧ Same G H ∧ Vals ws (es.toList.map (·.2)) ∧ DqAll K G ws ds ∧ srtOk ds = true ∧
  ∀ b us, H b = none → us.length = (sortD ds).length → DqAll K G us (sortD ds) → Q (.ref b) (upd H b (.lst us))
theorem cr_sortX (hc : X.calm = true) (hu : X.A.units + 64 < cLine) : CallR X (.builtin "sorted") (rSortX X.K X.w) := by
  intro pins s σ H xs us Q I r h
  obtain ⟨a, es, ws, ds, G, rfl, ha, gh, rv, p, ok, q⟩ := h
  obtain ⟨o, ep, t, ho, hex, hd, hf, hsz, hris, hled⟩ := (I.hok a _ ha).1
  rw [Vals.ref1 r]
  have lz : ds.length ≤ sizeLine := by
    have l1 : ws.length = es.size := by have := rv.length; simpa using this
    have l2 := DqAll.len p
    have sl := sizeLine_eq
    unfold PySem.scanBound at hsz
    omega
  refine sorted_by (collect_set (A := X.A.in1) (I.ok.hd hc) ⟨o, ho, hex.1, hd⟩ hf hsz hris hled fun s1 out k hz g o1 pm => ?_)
  have I1 := inv_at I k g o1
  exact sort_core hu I1 gh rv p pm ok lz q
variable {Φ : Fx} {W : WX} {x : Expr} {fa : Ef} {pos p p2 q : Pos}
def eLenSet (fa : Ef) : Ef := fun e => (fa e).bind fun a e1 => (fz a e1).bind fun d e2 => match seqOf2 d with
  | some ds => if setOk ds = true then .ok (.val (.int ((dedupD ds).length : Nat))) e2 else .no
  | none => .no
def eSortSet (fa : Ef) : Rf := fun e => (fa e).bind fun a e1 => (fz a e1).bind fun d e2 => match seqOf2 d with
  | some ds => if setOk ds = true ∧ srtOk (dedupD ds) = true then .ok (.new (.ls (sortD (dedupD ds)))) e2 else .no
  | none => .no
theorem d_lenSet (hc : X.calm = true) (hu : X.A.units + 64 < cLine) (hm0 : X.mg "len" = none) (hm : X.mg "set" = none) (ha : DE X Φ W x fa) (hg0 : Gl X "len" := by rfl) (hg : Gl X "set" := by rfl)
    (na : starEach [.Call (.Name "set" p2) [x] [] q] X.env = (false, eval (.Call (.Name "set" p2) [x] [] q) X.env) :: starEach [] X.env := by rfl) (nx : starEach [x] X.env = (false, eval x X.env) :: starEach [] X.env := by rfl) :
    DE X Φ W (.Call (.Name "len" p) [.Call (.Name "set" p2) [x] [] q] [] pos) (eLenSet fa) :=
  pe_weak (pe_callB cr_lenX hg0 hm0 (by decide +kernel) (pa_cons (pe_callTy (cr_dSet hc hu) hg hm (by decide +kernel) (pa_cons ha pa_nil nx) (by decide) (by decide) nx rfl) pa_nil na) (by decide) (by decide) na rfl) fun σ H Q ⟨G, F, e, O, h⟩ => ⟨G, F, e, O, Wp.imp (Wp.seq h) fun v H1 ⟨G1, F1, e1, a, g1, O1, r1, h1⟩ => by
    obtain ⟨G2, e2, d, g2, O2, d2, h2⟩ := Wp.fz O1 r1 h1
    split at h2
    · rename_i ds q
      split at h2
      · rename_i hok
        refine ⟨G2, d, ds, O2.gh, .cons (.dp d2) .nil, q, hok, fun a es ws ds' hn rv pw pm => ⟨a, es, rfl, upd_same, ?_⟩⟩
        have e : es.size = (dedupD ds).length := by
          have l1 : ws.length = es.size := by have := rv.length; simpa using this
          have l2 := DqAll.len pw
          have l3 := pm.length_eq
          omega
        rw [e]
        have gr := Grow.own (o := SetX X.w a es) O2.gh hn
        exact h2 _ _ _ F1 gr.gg (O2.grow gr) (.int _)
      · exact h2.elim
    · exact h2.elim⟩
theorem d_sortSet (hc : X.calm = true) (hu : X.A.units + 64 < cLine) (hm0 : X.mg "sorted" = none) (hm : X.mg "set" = none) (ha : DE X Φ W x fa) (hg0 : Gl X "sorted" := by rfl) (hg : Gl X "set" := by rfl)
    (na : starEach [.Call (.Name "set" p2) [x] [] q] X.env = (false, eval (.Call (.Name "set" p2) [x] [] q) X.env) :: starEach [] X.env := by rfl) (nx : starEach [x] X.env = (false, eval x X.env) :: starEach [] X.env := by rfl) :
    DR X Φ W (.Call (.Name "sorted" p) [.Call (.Name "set" p2) [x] [] q] [] pos) (eSortSet fa) :=
  pe_weak (pe_callB (cr_sortX hc hu) hg0 hm0 (by decide +kernel) (pa_cons (pe_callTy (cr_dSet hc hu) hg hm (by decide +kernel) (pa_cons ha pa_nil nx) (by decide) (by decide) nx rfl) pa_nil na) (by decide) (by decide) na rfl) fun σ H Q ⟨G, F, e, O, h⟩ => ⟨G, F, e, O, Wp.imp (Wp.seq h) fun v H1 ⟨G1, F1, e1, a, g1, O1, r1, h1⟩ => by
    obtain ⟨G2, e2, d, g2, O2, d2, h2⟩ := Wp.fz O1 r1 h1
    split at h2
    · rename_i ds q
      split at h2
      · rename_i hok
        refine ⟨G2, d, ds, O2.gh, .cons (.dp d2) .nil, q, hok.1, fun a es ws ds' hn rv pw pm => ?_⟩
        have gr := Grow.own (o := SetX X.w a es) O2.gh hn
        refine ⟨a, es, ws, ds', G2, rfl, upd_same, gr.gh, rv, pw, srtOk_perm pm hok.2, fun b us hb hl pu => ?_⟩
        rw [sortD_congr pm hok.2] at pu
        obtain ⟨z1, z2⟩ := rr_new (O2.grow gr) hb pu
        exact h2 _ _ _ F1 (Same.refl _) z1 z2
      · exact h2.elim
    · exact h2.elim⟩
end
end DL
set_option Elab.async false
set_option linter.all false
set_option maxRecDepth 100000
set_option maxHeartbeats 4000000
/-! DlOp: < of tuples and texts, in of lists and tuples of any data, sorted of tuples. -/
namespace DL
open PySem L2
open PySem.Spec PyProof.Rows
def ltOk (x y : D) : Bool := okB x y && (x.canLay0 && (y.canLay0 && decide (x.depth ≤ 30)))
def dLtX : D → D → Option D
  | .int i, .int j => some (.bool (decide (i < j)))
  | .tuple a, .tuple b => if ltOk (.tuple a) (.tuple b) = true then some (.bool (ltB (.tuple a) (.tuple b))) else none
  | .str a, .str b => if ltOk (.str a) (.str b) = true then some (.bool (ltB (.str a) (.str b))) else none
  | _, _ => none
def dGtX : D → D → Option D
  | .int i, .int j => some (.bool (decide (j < i)))
  | _, _ => none
def dInS : D → D → Option D
  | x, .list ds => (hasD x ds).map PyData.bool
  | x, .tuple ds => (hasD x ds).map PyData.bool
  | _, _ => none
def dNotInS : D → D → Option D
  | x, .list ds => (hasD x ds).map fun b => .bool (!b)
  | x, .tuple ds => (hasD x ds).map fun b => .bool (!b)
  | _, _ => none
section
variable {X : Cx}
theorem ltOk_iff {x y : D} : ltOk x y = true ↔ okB x y = true ∧ x.canLay0 = true ∧ y.canLay0 = true ∧ x.depth ≤ 30 := by
  unfold ltOk
  simp only [Bool.and_eq_true, decide_eq_true_eq]
theorem op_dLtX (hu : X.A.units + 64 < cLine) : OpR X (compareOp .Lt) (r2 X.K dLtX) := by
  intro pins s σ H x y v u Q I rx ry h
  obtain ⟨G, d1, d2, d, gh, b1, b2, ho, k⟩ := h
  unfold dLtX at ho
  split at ho
  · exact op_dLt pins s σ H _ _ v u Q I rx ry ⟨G, _, _, d, gh, b1, b2, ho, k⟩
  · rename_i a b
    split at ho
    · rename_i hc
      cases ho
      obtain ⟨ok, c1, c2, dp⟩ := ltOk_iff.mp hc
      obtain ⟨as, r1⟩ := Dp.reads I _ _ v ((b1.dpH gh).dp (lay_nodict _ c1)) rx
      obtain ⟨bs, r2⟩ := Dp.reads I _ _ u ((b2.dpH gh).dp (lay_nodict _ c2)) ry
      exact rcLt (.tuple a) (.tuple b) X.A s v u as bs r1 r2 ok c1 c2 (by omega) X.prog X.w X.xe _ ⟨.bl _, H, I, rfl, k _ _ _ (Grow.refl gh) (.bl _)⟩
    · cases ho
  · rename_i a b
    split at ho
    · rename_i hc
      cases ho
      obtain ⟨ok, c1, c2, dp⟩ := ltOk_iff.mp hc
      obtain ⟨as, r1⟩ := Dp.reads I _ _ v ((b1.dpH gh).dp (lay_nodict _ c1)) rx
      obtain ⟨bs, r2⟩ := Dp.reads I _ _ u ((b2.dpH gh).dp (lay_nodict _ c2)) ry
      exact rcLt (.str a) (.str b) X.A s v u as bs r1 r2 ok c1 c2 (by omega) X.prog X.w X.xe _ ⟨.bl _, H, I, rfl, k _ _ _ (Grow.refl gh) (.bl _)⟩
    · cases ho
  · cases ho
theorem op_dInS (hu : X.A.units + 65 < cLine) : OpR X (compareOp .In) (r2 X.K dInS) := by
  intro pins s σ H x y v u Q I rx ry h
  obtain ⟨G, d1, d2, d, gh, b1, b2, ho, k⟩ := h
  unfold dInS at ho
  split at ho
  · rename_i ds
    unfold hasD at ho
    split at ho
    · rename_i hc
      cases ho
      exact op_inD hu pins s σ H _ _ v u Q I rx ry ⟨_, _, b1.dpS gh hc.1, b2.dpS gh hc.2, hc.1, hc.2, k _ _ _ (Grow.refl gh) (.bl _)⟩
    · cases ho
  · rename_i ds
    unfold hasD at ho
    split at ho
    · rename_i hc
      cases ho
      have c2 : PyData.canLayAll0 ds = true := SeqAt.canLay_of_shaped hc.2
      obtain ⟨as, r1⟩ := Dp.reads I _ _ v (b1.dpS gh hc.1) rx
      obtain ⟨bs, r2⟩ := Dp.reads I (.tuple ds) _ u ((b2.dpH gh).dp (lay_nodict (.tuple ds) (by simp only [PyData.canLay0]; exact c2))) ry
      exact SeqAt.in_tuple_reads r2 r1 c2 (SeqAt.canLay_of_shaped hc.1) (PyProof.Rows.room_in_shaped hc.1 hu) ⟨.bl _, H, I, rfl, k _ _ _ (Grow.refl gh) (.bl _)⟩
    · cases ho
  · cases ho
theorem op_dNotInS (hu : X.A.units + 65 < cLine) : OpR X (compareOp .NotIn) (r2 X.K dNotInS) := by
  intro pins s σ H x y v u Q I rx ry h
  obtain ⟨G, d1, d2, d, gh, b1, b2, ho, k⟩ := h
  unfold dNotInS at ho
  split at ho
  · rename_i ds
    unfold hasD at ho
    split at ho
    · rename_i hc
      cases ho
      exact op_notInD hu pins s σ H _ _ v u Q I rx ry ⟨_, _, b1.dpS gh hc.1, b2.dpS gh hc.2, hc.1, hc.2, k _ _ _ (Grow.refl gh) (.bl _)⟩
    · cases ho
  · rename_i ds
    unfold hasD at ho
    split at ho
    · rename_i hc
      cases ho
      have c2 : PyData.canLayAll0 ds = true := SeqAt.canLay_of_shaped hc.2
      obtain ⟨as, r1⟩ := Dp.reads I _ _ v (b1.dpS gh hc.1) rx
      obtain ⟨bs, r2⟩ := Dp.reads I (.tuple ds) _ u ((b2.dpH gh).dp (lay_nodict (.tuple ds) (by simp only [PyData.canLay0]; exact c2))) ry
      exact SeqAt.notIn_tuple_reads r2 r1 c2 (SeqAt.canLay_of_shaped hc.1) (PyProof.Rows.room_in_shaped hc.1 hu) ⟨.bl _, H, I, rfl, k _ _ _ (Grow.refl gh) (.bl _)⟩
    · cases ho
  · cases ho
/-- sorted of a list or of a tuple -/
def bSortedS : List D → Option (List D)
  | [.list ds] => if srtOk ds = true then some (sortD ds) else none
  | [.tuple ds] => if srtOk ds = true then some (sortD ds) else none
  | _ => none
theorem cr_dSortedS (hu : X.A.units + 64 < cLine) : CallR X (.builtin "sorted") (rN X.K bSortedS) := by
  intro pins s σ H xs us Q I r h
  obtain ⟨G, ds, es, gh, b, ho, k⟩ := h
  unfold bSortedS at ho
  split at ho
  · rename_i ds
    split at ho
    · rename_i hc
      cases ho
      obtain ⟨v, rfl, b1⟩ := bpa1 b
      obtain ⟨a, vs, rfl, t, p⟩ := b1.lst gh
      obtain ⟨its, rv, ⟨o, n, e, c, dn, dt⟩, hz⟩ := I.list t
      rw [Vals.ref1 r]
      have lz : ds.length ≤ sizeLine := by rw [← DqAll.len p]; exact hz
      refine sorted_by (wpAny_collect_seq a (.inl rfl) e c dt (fun h' kp => ?_) (by rw [List.size_toArray, ← rv.length]; exact hz))
      have I1 : Inv X pins σ H { s with heap := h', toks := s.toks } := I.kept kp
      exact sort_core hu I1 gh rv p (.refl _) hc lz fun b us hb hl pu => k b us hb hl pu
    · cases ho
  · rename_i ds
    split at ho
    · rename_i hc
      cases ho
      obtain ⟨v, rfl, b1⟩ := bpa1 b
      obtain ⟨a, vs, rfl, t, p⟩ := b1.tup gh
      obtain ⟨its, rv, ⟨o, e, c, n, dt⟩, hz⟩ := I.tuple t
      rw [Vals.ref1 r]
      have lz : ds.length ≤ sizeLine := by rw [← DqAll.len p]; exact hz
      refine sorted_by (wpAny_collect_seq a (.inr rfl) e c dt (fun h' kp => ?_) (by rw [List.size_toArray, ← rv.length]; exact hz))
      have I1 : Inv X pins σ H { s with heap := h', toks := s.toks } := I.kept kp
      exact sort_core hu I1 gh rv p (.refl _) hc lz fun b us hb hl pu => k b us hb hl pu
    · cases ho
  · cases ho
end
end DL
set_option Elab.async false
set_option linter.all false
set_option maxRecDepth 100000
set_option maxHeartbeats 4000000
/-! DlAd: x + y, x * k by what the values are: lists made new, all else as data. -/
namespace DL
open PySem L2
open PySem.Spec PyProof.Rows
theorem list_add_any (l : Addr) (items : Array Value) (n : Nat) (b : Addr) (items2 : Array Value) (n2 : Nat) (sl sl2 : Array (Option Value)) (hc0 : items.size + items2.size ≤ sizeLine) :
    Meets (Builtin.«list.__add__» ⟨[.ref l, .ref b], []⟩) (fun _ R s => s.heap.get? l = some { cls := .type "list", dict := none, data := .seq items n, slots := sl } ∧ s.heap.get? b = some { cls := .type "list", dict := none, data := .seq items2 n2, slots := sl2 } ∧ R (.ok (.ret (Value.ref s.heap.objs.size))) { s with heap := s.heap.push { cls := Value.type "list", data := Data.seq (items ++ items2) }, toks := s.toks }) :=
  .of_wp fun prog w A R s h => by obtain ⟨hp, g, d, tk, os⟩ := s; obtain ⟨hl, hb, h⟩ := h; have f1 := AutoSeq1.idx_int; have f2 := AutoSeq1.sub_tuple_tuple; have f3 := AutoSeq1.sub_list_list; have f4 := AutoSeq1.sub_tuple_list; have f5 := AutoSeq1.sub_list_tuple; wp_walk using AutoSeq1.wpAny_loadPart' hl, AutoSeq1.wpAny_loadPart' hb; exact ⟨_, rfl, h⟩
def catD : D → D → Option (List D)
  | .list xs, .list ys => if xs.length + ys.length ≤ 1000000 then some (xs ++ ys) else none
  | _, _ => none
def rvD (r : RV) (e : Fr) : Option D := match r with
  | .new (.ls xs) => some (.list xs)
  | .arg a => rd1 e a
  | _ => none
def addU (r s : RV) (e : Fr) : R RV := match rvD r e with
  | some d1 => match rvD s e with
    | some d2 => match catD d1 d2 with
      | some zs => .ok (.new (.ls zs)) e
      | none => match dAdd d1 d2 with
        | some d => .ok (.arg (.val d)) e
        | none => .no
    | none => .no
  | none => .no
def eAddX (fa fb : Rf) : Rf := fun e => (fa e).bind fun r e1 => (fb e1).bind fun s e2 => addU r s e2
def rAddX (K : PySem.W.Frag) : R2 := fun x y H Q => ∃ G d1 d2, Same G H ∧ Bp K H G x d1 ∧ Bp K H G y d2 ∧
  ((∃ zs, catD d1 d2 = some zs ∧ ∀ p us, H p = none → DqAll K G us zs → Q (.ref p) (upd H p (.lst us))) ∨ (∃ d, dAdd d1 d2 = some d ∧ ∀ v H' G', Grow H G H' G' → Dq K G' v d → Q v H'))
section
variable {X : Cx}
theorem op_addX : OpR X (binaryOp .Add) (rAddX X.K) := by
  intro pins s σ H x y v u Q I rx ry h
  obtain ⟨G, d1, d2, gh, b1, b2, h⟩ := h
  rcases h with ⟨zs, hc, k⟩ | ⟨d, hd, k⟩
  · unfold catD at hc
    split at hc
    · rename_i xs ys
      split at hc
      · rename_i hz
        cases hc
        obtain ⟨a, vs, rfl, t1, p1⟩ := b1.lst gh
        obtain ⟨b, ws, rfl, t2, p2⟩ := b2.lst gh
        cases rx
        cases ry
        obtain ⟨its, r1, ⟨⟨cls, dd, dt, sl⟩, n, e, c, dn, dt1⟩, z1⟩ := I.list t1
        obtain ⟨its2, r2, ⟨⟨cls2, dd2, dt2, sl2⟩, n2, e2, c2, dn2, dt3⟩, z2⟩ := I.list t2
        simp only at c dn dt1 c2 dn2 dt3
        subst c dn dt1 c2 dn2 dt3
        have l1 := r1.length
        have l2 := r2.length
        have m1 := DqAll.len p1
        have m2 := DqAll.len p2
        have sz := sizeLine_eq
        refine PySem.concat_meets ⟨_, e, rfl⟩ ⟨_, e2, rfl⟩ PySem.noFill_list_add PySem.seq_list_add PySem.F.slot_list_add PySem.F.entry_list_add (PySem.F.args_list_add_2 _ _) (list_add_any a its.toArray n b its2.toArray n2 sl sl2 (by rw [List.size_toArray, List.size_toArray]; omega)) ⟨e, e2, ?_⟩
        have ea : its.toArray ++ its2.toArray = (its ++ its2).toArray := by simp
        rw [ea]
        exact ⟨.ref _, _, I.lnew (t' := s.toks) (r1.append r2) (by rw [List.length_append]; omega), rfl, k _ _ I.fresh (DqAll.app p1 p2)⟩
      · cases hc
    · cases hc
  · exact op_dAdd pins s σ H _ _ v u Q I rx ry ⟨G, _, _, d, gh, b1, b2, hd, k⟩
variable {Φ : Fx} {W : WX} {x y : Expr} {fa fb : Rf} {pos : Pos}
theorem bp_rv {K : PySem.W.Frag} {Φ : Fx} {H G : Hp} {F : Nat → List Addr} {σ : L2.St} {e : Fr} {r : RV} {v : V} {d : D} (O : Ok K Φ H G F σ e) (h : (∃ a, r = .arg a ∧ ra K a v H G F σ e) ∨ ∃ w A a, r = .new w ∧ v = .ref a ∧ OwAt K G H w a A) (q : rvD r e = some d) : Bp K H G v d := by
  rcases h with ⟨a, rfl, h⟩ | ⟨w, A, a, rfl, rfl, h⟩
  · exact bp_of O h q
  · cases h with
    | ls h1 h2 =>
      cases q
      exact .own h1 h2
    | ll _ _ _ _ => cases q
    | dk _ _ _ _ => cases q
    | dt _ _ _ _ _ _ => cases q
theorem d_addX (ha : DR X Φ W x fa) (hb : ∀ Φ, DR X Φ W y fb) : DR X Φ W (.BinOp x .Add y pos) (eAddX fa fb) :=
  pe_weak (pe_op op_addX ha (pe_ex hb)) fun σ H Q ⟨G, F, e, O, h⟩ => ⟨G, F, e, O, Wp.imp (Wp.seq h) fun v H1 ⟨G1, F1, e1, r1, g1, O1, q1, h1⟩ => by
    obtain ⟨A1, L1, P1⟩ := Held.mk' O1 q1
    refine ⟨_, G1, F1, e1, P1, Wp.imp (Wp.seqP (fun o => L1.cv o) h1) fun w H2 ⟨G2, F2, e2, r2, g2, O2, q2, h2⟩ => ?_⟩
    have O3 := L1.cv O2
    have k1 : (∃ a, r1 = .arg a ∧ ra X.K a v H2 G2 F2 σ e2) ∨ ∃ w A a, r1 = .new w ∧ v = .ref a ∧ OwAt X.K G2 H2 w a A := by
      cases r1 with
      | arg a => exact .inl ⟨a, rfl, ra_up (L1.ar a rfl) g2⟩
      | new u =>
        obtain ⟨A, _, y1⟩ := L1.rx O2 g2 (Same.refl _) (.inr ⟨u, rfl, rfl⟩)
        obtain ⟨a, ea, oa, _⟩ := y1
        exact .inr ⟨u, A, a, rfl, ea, oa⟩
    have k2 : (∃ a, r2 = .arg a ∧ ra X.K a w H2 G2 F2 σ e2) ∨ ∃ u A a, r2 = .new u ∧ w = .ref a ∧ OwAt X.K G2 H2 u a A := by
      cases r2 with
      | arg a => exact .inl ⟨a, rfl, q2⟩
      | new u =>
        obtain ⟨a, A, ea, oa, _⟩ := q2
        exact .inr ⟨u, A, a, rfl, ea, oa⟩
    unfold addU at h2
    split at h2
    · rename_i d1 z1
      split at h2
      · rename_i d2 z2
        refine ⟨G2, d1, d2, O3.gh, bp_rv O3 k1 z1, bp_rv O3 k2 z2, ?_⟩
        split at h2
        · rename_i zs hz
          refine .inl ⟨zs, hz, fun p us hp pu => ?_⟩
          obtain ⟨z1, z2⟩ := rr_new O3 hp pu
          exact h2 _ _ _ F2 (Same.refl _) z1 z2
        · split at h2
          · rename_i d hd
            exact .inr ⟨d, hd, fun v H' G' g hv => h2 v H' G' F2 g.gg (O3.grow g) hv⟩
          · exact h2.elim
      · exact h2.elim
    · exact h2.elim⟩
end
end DL
set_option Elab.async false
set_option linter.all false
set_option maxRecDepth 100000
set_option maxHeartbeats 4000000
/-! DlMx: max of a tuple of whole numbers, too. -/
namespace DL
open PySem L2
def bMaxS : List D → Option D
  | [.tuple ds] => match intsOf ds with
    | some (n :: ns) => some (.int (maxI n ns))
    | _ => none
  | ds => bMax ds
section
variable {X : Cx}
theorem cr_dMaxS (hc : X.calm = true) (hu : X.A.units + 64 < cLine) : CallR X (.builtin "max") (rP X.K bMaxS) := by
  intro pins s σ H xs us Q I r h
  obtain ⟨G, ds, d, gh, b, ho, k⟩ := h
  unfold bMaxS at ho
  split at ho
  · rename_i ds
    split at ho
    · rename_i n ns q
      cases ho
      have e := intsOf_eq q
      subst e
      obtain ⟨v, rfl, b1⟩ := bpa1 b
      obtain ⟨a, vs, rfl, t, p⟩ := b1.tup gh
      obtain ⟨its, rv, pl, hz⟩ := I.tuple t
      rw [Vals.ref1 r]
      have hd : PyData.hasDictAll ((n :: ns).map PyData.int) = false := by
        have : ∀ l : List Int, PyData.hasDictAll (l.map PyData.int) = false := by
          intro l
          induction l with
          | nil => simp [PyData.hasDictAll]
          | cons a l ih => rw [List.map_cons]; simp only [PyData.hasDictAll, PyData.hasDict, ih, Bool.or_self]
        exact this _
      obtain ⟨as, rd⟩ := Dp.readsAll I _ _ its ((dpa_mono gh p).dpa hd) rv
      have hdep : ∀ l : List Int, PyData.depthAll (l.map PyData.int) = 0 := by
        intro l
        induction l with
        | nil => simp [PyData.depthAll]
        | cons a l ih => rw [List.map_cons]; simp only [PyData.depthAll, PyData.depth, ih]; rfl
      refine PySem.W.max_tuple_data (I.ok.hd hc) pl (x := .int n) (xs := ns.map PyData.int) (by simpa using rd) ?_ (by have := hdep (n :: ns); rw [List.map_cons] at this; rw [this]; omega) fun i v h' tk bs hv hr hk => ?_
      · refine ⟨fun x hx y hy => ?_, fun x hx z => ?_⟩
        · obtain ⟨i, _, rfl⟩ := List.mem_map.mp (show x ∈ (n :: ns).map PyData.int from hx)
          obtain ⟨j, _, rfl⟩ := List.mem_map.mp (show y ∈ (n :: ns).map PyData.int from hy)
          simp only [PySem.W.alike]
        · obtain ⟨i, _, rfl⟩ := List.mem_map.mp (show x ∈ (n :: ns).map PyData.int from hx)
          cases z
      · rw [PySem.W.maxD_ints] at hr
        cases hr with
        | int _ t =>
          exact ⟨.int _, H, I.kept hk, ⟨t, rfl⟩, k _ H G (Grow.refl gh) (.int _)⟩
    · cases ho
  · exact cr_dMax hc pins s σ H xs us Q I r ⟨G, _, d, gh, b, ho, k⟩
end
end DL
set_option Elab.async false
set_option linter.all false
set_option maxRecDepth 100000
set_option maxHeartbeats 4000000
/-! DlNs: the newer frame functions' terms, opened by simp. -/
namespace DL
open PySem L2
section
variable (e : Fr) (r s : Rf) (a b : Ef) (as : Af) (lo hi : Option Int) (fl fh : Of) (x y : Arg) (xs ys : List D) (d : D)
@[simp] theorem z_eIsi2 (T U : Ty) : eIsi2 T U a e = (a e).bind (useI fun d => isT T d || isT U d) := rfl
@[simp] theorem z_eBack : eBack a fl fh e = (a e).bind fun a e1 => (fl e1).bind fun lo e2 => (fh e2).bind fun hi e3 => useB a lo hi e3 := rfl
@[simp] theorem z_useB : useB x lo hi e = (match rd1 e x with
  | some (.list ds) => .ok (.new (.ls (cutB ds lo hi))) e
  | some d => match dBack d lo hi with
    | some r => .ok (.arg (.val r)) e
    | none => .no
  | none => .no) := rfl
@[simp] theorem z_dBackT : dBack (.tuple xs) lo hi = some (.tuple (cutB xs lo hi)) := rfl
@[simp] theorem z_eAddX : eAddX r s e = (r e).bind fun r e1 => (s e1).bind fun s e2 => addU r s e2 := rfl
@[simp] theorem z_rvD1 : rvD (.new (.ls xs)) e = some (.list xs) := rfl
@[simp] theorem z_rvD2 : rvD (.arg x) e = rd1 e x := rfl
@[simp] theorem z_addU (u v : RV) : addU u v e = (match rvD u e with
  | some d1 => match rvD v e with
    | some d2 => match catD d1 d2 with
      | some zs => .ok (.new (.ls zs)) e
      | none => match dAdd d1 d2 with
        | some d => .ok (.arg (.val d)) e
        | none => .no
    | none => .no
  | none => .no) := rfl
@[simp] theorem z_catD : catD (.list xs) (.list ys) = if xs.length + ys.length ≤ 1000000 then some (xs ++ ys) else none := rfl
@[simp] theorem z_catT : catD (.tuple xs) (.tuple ys) = none := rfl
@[simp] theorem z_catI (i j : Int) : catD (.int i) (.int j) = none := rfl
@[simp] theorem z_eLz : eLz as e = (as e).bind fun as e1 => (fzA as e1).bind fun ds e2 => match ds with
  | [x, y] => match seqD x with
    | some (_, xs) => match seqD y with
      | some (_, ys) => .ok (.new (.ls (zipD xs ys))) e2
      | none => .no
    | none => .no
  | _ => .no := rfl
@[simp] theorem z_eLrg1 : eLrg1 a e = (a e).bind fun a e1 => match rd1 e1 a with
  | some (.int n) => if rgOk 0 n = true then .ok (.new (.ls (rgD 0 n))) e1 else .no
  | _ => .no := rfl
@[simp] theorem z_eLrg2 : eLrg2 a b e = (a e).bind fun a e1 => (b e1).bind fun b e2 => match rd1 e2 a with
  | some (.int m) => match rd1 e2 b with
    | some (.int n) => if rgOk m n = true then .ok (.new (.ls (rgD m n))) e2 else .no
    | _ => .no
  | _ => .no := rfl
@[simp] theorem z_eTrg1 : eTrg1 a e = (a e).bind fun a e1 => match rd1 e1 a with
  | some (.int n) => if rgOk 0 n = true then .ok (.val (.tuple (rgD 0 n))) e1 else .no
  | _ => .no := rfl
@[simp] theorem z_eRm (rt : D → Bool) (f : D → List D → Option D) : eRm rt f a as e = (a e).bind fun a e1 => match rd1 e1 a with
  | some d => if rt d = true then (as e1).bind fun as e2 => rmUse f d a as e2 else .no
  | none => .no := rfl
@[simp] theorem z_rmUse (f : D → List D → Option D) (zs : List Arg) : rmUse f d x zs e = (match rd1 e x with
  | some d' => match rdA e zs with
    | some ds => match f d' ds with
      | some r => if tyN d' = tyN d then .ok (.val r) e else .no
      | none => .no
    | none => .no
  | none => .no) := rfl
@[simp] theorem z_rtSeq1 : rtSeq (.list xs) = true := rfl
@[simp] theorem z_rtSeq2 : rtSeq (.tuple xs) = true := rfl
@[simp] theorem z_eLenSet : eLenSet a e = (a e).bind fun a e1 => (fz a e1).bind fun d e2 => match seqOf2 d with
  | some ds => if setOk ds = true then .ok (.val (.int ((dedupD ds).length : Nat))) e2 else .no
  | none => .no := rfl
@[simp] theorem z_eSortSet : eSortSet a e = (a e).bind fun a e1 => (fz a e1).bind fun d e2 => match seqOf2 d with
  | some ds => if setOk ds = true ∧ srtOk (dedupD ds) = true then .ok (.new (.ls (sortD (dedupD ds)))) e2 else .no
  | none => .no := rfl
@[simp] theorem z_sqOf1 : seqOf2 (.list xs) = some xs := rfl
@[simp] theorem z_sqOf2 : seqOf2 (.tuple xs) = some xs := rfl
@[simp] theorem z_dLtX (i j : Int) : dLtX (.int i) (.int j) = some (.bool (decide (i < j))) := rfl
@[simp] theorem z_bMin1 : bMin [.list xs] = if minOk xs = true then some (minD xs) else none := rfl
@[simp] theorem z_bMin2 : bMin [.tuple xs] = if minOk xs = true then some (minD xs) else none := rfl
@[simp] theorem z_bSortedS1 : bSortedS [.list xs] = if srtOk xs = true then some (sortD xs) else none := rfl
@[simp] theorem z_bSortedS2 : bSortedS [.tuple xs] = if srtOk xs = true then some (sortD xs) else none := rfl
@[simp] theorem z_mExt1 : mExt xs [.list ys] = if xs.length + ys.length < 1000000 then some (.none, xs ++ ys) else none := rfl
@[simp] theorem z_mExt2 : mExt xs [.tuple ys] = if xs.length + ys.length < 1000000 then some (.none, xs ++ ys) else none := rfl
@[simp] theorem z_dInS1 (z : D) : dInS z (.list xs) = (hasD z xs).map PyData.bool := rfl
@[simp] theorem z_dInS2 (z : D) : dInS z (.tuple xs) = (hasD z xs).map PyData.bool := rfl
@[simp] theorem z_dNotInS1 (z : D) : dNotInS z (.list xs) = (hasD z xs).map fun b => .bool (!b) := rfl
@[simp] theorem z_dNotInS2 (z : D) : dNotInS z (.tuple xs) = (hasD z xs).map fun b => .bool (!b) := rfl
@[simp] theorem z_bMaxI (i j : Int) : bMax [.int i, .int j] = some (.int (if j > i then j else i)) := rfl
end
end DL
set_option Elab.async false
set_option linter.all false
set_option maxRecDepth 100000
set_option maxHeartbeats 4000000
/-! DlNu: rows of whole numbers, rows of pairs, as data. -/
namespace DL
open PySem L2
/-- a pair -/
def pr (p : Int × Int) : D := .tuple [.int p.1, .int p.2]
theorem pr_inj {p q : Int × Int} (h : pr p = pr q) : p = q := by
  unfold pr at h
  injection h with h
  injection h with h1 h2
  injection h2 with h2 _
  injection h1 with h1
  injection h2 with h2
  exact Prod.ext h1 h2
/-! ### shapes -/
theorem lay_ints : ∀ ns : List Int, PyData.canLayAll0 (ns.map PyData.int) = true
  | [] => by simp [PyData.canLayAll0]
  | n :: ns => by
    rw [List.map_cons]
    simp only [PyData.canLayAll0, PyData.canLay0, lay_ints ns, Bool.and_self]
theorem depth_ints : ∀ ns : List Int, PyData.depthAll (ns.map PyData.int) = 0
  | [] => by simp [PyData.depthAll]
  | n :: ns => by
    rw [List.map_cons]
    simp only [PyData.depthAll, PyData.depth, depth_ints ns]
    rfl
theorem lay_pr (p : Int × Int) : (pr p).canLay0 = true := by
  unfold pr
  simp only [PyData.canLay0, PyData.canLayAll0, Bool.and_self]
theorem depth_pr (p : Int × Int) : (pr p).depth = 1 := by
  unfold pr
  simp only [PyData.depth, PyData.depthAll]
  rfl
theorem lay_prs : ∀ ps : List (Int × Int), PyData.canLayAll0 (ps.map pr) = true
  | [] => by simp [PyData.canLayAll0]
  | p :: ps => by
    rw [List.map_cons]
    simp only [PyData.canLayAll0, lay_pr, lay_prs ps, Bool.and_self]
theorem depth_prs : ∀ ps : List (Int × Int), PyData.depthAll (ps.map pr) ≤ 1
  | [] => by simp [PyData.depthAll]
  | p :: ps => by
    have := depth_prs ps
    rw [List.map_cons]
    simp only [PyData.depthAll, depth_pr]
    omega
theorem shaped_of {d : D} (h1 : d.canLay0 = true) (h2 : d.depth ≤ 64) : SeqAt.shaped d = true := by
  unfold SeqAt.shaped
  rw [h1, decide_eq_true h2]
  rfl
@[simp] theorem sh_int (n : Int) : SeqAt.shaped (.int n) = true := rfl
@[simp] theorem sh_bool (b : Bool) : SeqAt.shaped (.bool b) = true := rfl
@[simp] theorem sh_none : SeqAt.shaped .none = true := rfl
@[simp] theorem sh_pr (p : Int × Int) : SeqAt.shaped (pr p) = true := shaped_of (lay_pr p) (by rw [depth_pr]; decide)
@[simp] theorem sh_ints (ns : List Int) : SeqAt.shaped (.list (ns.map PyData.int)) = true := shaped_of (by simp only [PyData.canLay0]; exact lay_ints ns) (by simp only [PyData.depth]; rw [depth_ints]; decide)
@[simp] theorem sh_intsT (ns : List Int) : SeqAt.shaped (.tuple (ns.map PyData.int)) = true := shaped_of (by simp only [PyData.canLay0]; exact lay_ints ns) (by simp only [PyData.depth]; rw [depth_ints]; decide)
@[simp] theorem sh_prs (ps : List (Int × Int)) : SeqAt.shaped (.list (ps.map pr)) = true := shaped_of (by simp only [PyData.canLay0]; exact lay_prs ps) (by simp only [PyData.depth]; have := depth_prs ps; omega)
@[simp] theorem sh_prsT (ps : List (Int × Int)) : SeqAt.shaped (.tuple (ps.map pr)) = true := shaped_of (by simp only [PyData.canLay0]; exact lay_prs ps) (by simp only [PyData.depth]; have := depth_prs ps; omega)
/-! ### alike -/
@[simp] theorem eqv_int (a b : Int) : PyData.eqv (.int a) (.int b) = decide (a = b) := by
  simp only [PyData.eqv]
  rw [Bool.eq_iff_iff]
  simp
@[simp] theorem eqv_pr (p q : Int × Int) : PyData.eqv (pr p) (pr q) = decide (p = q) := by
  unfold pr
  simp only [PyData.eqv, PyData.eqvAll, Bool.and_true]
  rw [Bool.eq_iff_iff]
  simp [Prod.ext_iff]
theorem eqv_ints : ∀ (a b : List Int), PyData.eqvAll (a.map PyData.int) (b.map PyData.int) = decide (a = b)
  | [], [] => by simp [PyData.eqvAll]
  | [], _ :: _ => by simp [PyData.eqvAll]
  | _ :: _, [] => by simp [PyData.eqvAll]
  | x :: a, y :: b => by
    rw [List.map_cons, List.map_cons]
    simp only [PyData.eqvAll, eqv_ints a b, eqv_int]
    rw [Bool.eq_iff_iff]
    simp
@[simp] theorem hasI (x : Int) (ns : List Int) : hasD (.int x) (ns.map PyData.int) = some (decide (x ∈ ns)) := by
  unfold hasD
  rw [if_pos ⟨rfl, sh_ints ns⟩]
  congr 1
  rw [Bool.eq_iff_iff, List.any_map, List.any_eq_true, decide_eq_true_eq]
  constructor
  · rintro ⟨y, hy, e⟩
    have e' : y = x := of_decide_eq_true ((eqv_int y x).symm.trans e)
    rw [← e']
    exact hy
  · intro h
    exact ⟨x, h, (eqv_int x x).trans (decide_eq_true rfl)⟩
@[simp] theorem hasP (x : Int × Int) (ps : List (Int × Int)) : hasD (pr x) (ps.map pr) = some (decide (x ∈ ps)) := by
  unfold hasD
  rw [if_pos ⟨sh_pr x, sh_prs ps⟩]
  congr 1
  rw [Bool.eq_iff_iff, List.any_map, List.any_eq_true, decide_eq_true_eq]
  constructor
  · rintro ⟨y, hy, e⟩
    have e' : y = x := of_decide_eq_true ((eqv_pr y x).symm.trans e)
    rw [← e']
    exact hy
  · intro h
    exact ⟨x, h, (eqv_pr x x).trans (decide_eq_true rfl)⟩
/-! ### the least, sorted, without repeats -/
theorem okAll_ints (ns : List Int) : okAll (ns.map PyData.int) := fun x hx y hy => by
  obtain ⟨a, _, rfl⟩ := List.mem_map.mp hx
  obtain ⟨b, _, rfl⟩ := List.mem_map.mp hy
  rfl
theorem okAll_prs (ps : List (Int × Int)) : okAll (ps.map pr) := fun x hx y hy => by
  obtain ⟨a, _, rfl⟩ := List.mem_map.mp hx
  obtain ⟨b, _, rfl⟩ := List.mem_map.mp hy
  unfold pr
  rw [okB_tup, okL_cc, okL_cc]
  rfl
theorem minOk_ints {ns : List Int} (h : ns ≠ []) : minOk (ns.map PyData.int) = true := minOk_iff.mpr ⟨okAll_ints ns, lay_ints ns, by rw [depth_ints]; omega, fun e => h (List.map_eq_nil_iff.mp e)⟩
theorem srtOk_ints (ns : List Int) : srtOk (ns.map PyData.int) = true := srtOk_iff.mpr ⟨okAll_ints ns, ⟨0, by omega, fun x hx => by
  obtain ⟨a, _, rfl⟩ := List.mem_map.mp hx
  rfl⟩, lay_ints ns, by rw [depth_ints]; omega⟩
theorem srtOk_prs (ps : List (Int × Int)) : srtOk (ps.map pr) = true := srtOk_iff.mpr ⟨okAll_prs ps, ⟨2, by omega, fun x hx => by
  obtain ⟨a, _, rfl⟩ := List.mem_map.mp hx
  rfl⟩, lay_prs ps, by have := depth_prs ps; omega⟩
theorem setOk_ints {ns : List Int} (h : ns.length ≤ 1000) : setOk (ns.map PyData.int) = true := by
  unfold setOk
  rw [Bool.or_eq_true]
  refine .inl ?_
  rw [Bool.and_eq_true, List.all_map]
  exact ⟨List.all_eq_true.mpr fun x _ => rfl, decide_eq_true (by rw [List.length_map]; exact h)⟩
theorem setOk_prs {ps : List (Int × Int)} (h : ps.length < 64) : setOk (ps.map pr) = true := by
  unfold setOk
  rw [Bool.or_eq_true]
  refine .inr ?_
  rw [Bool.and_eq_true, List.all_map]
  exact ⟨List.all_eq_true.mpr fun x _ => rfl, decide_eq_true (by rw [List.length_map]; exact h)⟩
/-- rows out of a row of data that are all of one kind -/
theorem pull {α : Type} (f : α → D) : ∀ {ds : List D} {xs : List α}, (∀ d ∈ ds, d ∈ xs.map f) → ∃ ys : List α, ds = ys.map f ∧ ∀ y ∈ ys, y ∈ xs
  | [], _, _ => ⟨[], rfl, fun y hy => by cases hy⟩
  | d :: ds, xs, h => by
    obtain ⟨ys, rfl, hy⟩ := pull f (ds := ds) (xs := xs) fun d hd => h d (List.mem_cons_of_mem _ hd)
    obtain ⟨x, hx, rfl⟩ := List.mem_map.mp (h d (List.mem_cons_self ..))
    refine ⟨x :: ys, rfl, fun y hy' => ?_⟩
    rcases List.mem_cons.mp hy' with rfl | z
    · exact hx
    · exact hy y z
def ltP (p q : Int × Int) : Prop := p.1 < q.1 ∨ (p.1 = q.1 ∧ p.2 < q.2)
instance : DecidableRel ltP := fun p q => inferInstanceAs (Decidable (p.1 < q.1 ∨ (p.1 = q.1 ∧ p.2 < q.2)))
theorem ltB_pr (p q : Int × Int) : ltB (pr p) (pr q) = decide (ltP p q) := by
  rw [Bool.eq_iff_iff, decide_eq_true_eq]
  unfold pr ltB ltP
  simp only [cmpB, cmpL, cmpI, beq_iff_eq]
  split
  · simp; omega
  · split
    · simp; omega
    · split
      · simp; omega
      · split <;> (simp; omega)
/-- sorted without repeats: strictly rising pairs, the same ones -/
theorem sortSet_prs (ps : List (Int × Int)) : ∃ qs : List (Int × Int), sortD (dedupD (ps.map pr)) = qs.map pr ∧ qs.Pairwise ltP ∧ (∀ p, p ∈ qs ↔ p ∈ ps) ∧ srtOk (dedupD (ps.map pr)) = true := by
  have oka := okAll_prs ps
  have hm := mem_dedup oka
  obtain ⟨rs, e, hr⟩ := pull pr (ds := dedupD (ps.map pr)) (xs := ps) fun d hd => (hm d).mp hd
  have nd := nodup_dedup oka
  have ok : srtOk (dedupD (ps.map pr)) = true := by rw [e]; exact srtOk_prs rs
  have sp := sortD_perm (dedupD (ps.map pr))
  have sl := sortD_le (dedupD (ps.map pr))
  obtain ⟨qs, e2, hq⟩ := pull pr (ds := sortD (dedupD (ps.map pr))) (xs := ps) fun d hd => (hm d).mp (sp.mem_iff.mp hd)
  have nd2 : (sortD (dedupD (ps.map pr))).Nodup := sp.nodup_iff.mpr nd
  rw [e2] at nd2 sl
  refine ⟨qs, e2, ?_, fun p => ⟨fun h => hq p h, fun h => ?_⟩, ok⟩
  · have a1 := List.pairwise_map.mp nd2
    have a2 := List.pairwise_map.mp sl
    refine (a1.and a2).imp fun {p q} ⟨h1, h2⟩ => ?_
    rw [ltB_pr, decide_eq_false_iff_not] at h2
    have h3 : p ≠ q := fun z => h1 (by rw [z])
    unfold ltP at h2 ⊢
    by_cases h4 : p.1 = q.1
    · have h5 : p.2 ≠ q.2 := fun z => h3 (Prod.ext h4 z)
      omega
    · omega
  · have h1 : pr p ∈ sortD (dedupD (ps.map pr)) := sp.mem_iff.mpr ((hm _).mpr (List.mem_map.mpr ⟨p, h, rfl⟩))
    rw [e2] at h1
    obtain ⟨q, hq', e3⟩ := List.mem_map.mp h1
    rw [← pr_inj e3]
    exact hq'
theorem dedup_ints {ns : List Int} (h : ns.Nodup) : dedupD (ns.map PyData.int) = ns.map PyData.int := dedup_self (okAll_ints ns) (nodup_int h)
/-! ### the least -/
theorem best_le (bt : Nat → Nat → Bool) (f : Nat → D) (hb : ∀ i j, bt i j = ltB (f i) (f j)) : ∀ k i, i ≤ k → ltB (f i) (f (argBest bt k)) = false
  | 0, i, h => by
    have : i = 0 := by omega
    subst this
    show ltB (f 0) (f 0) = false
    cases q : ltB (f 0) (f 0) with
    | false => rfl
    | true => exact absurd (swoB.asym _ _ q) (by rw [q]; exact fun z => nomatch z)
  | k + 1, i, h => by
    have ih := best_le bt f hb k
    unfold argBest
    rw [hb]
    split
    · rename_i q
      by_cases e : i = k + 1
      · rw [e]
        cases q2 : ltB (f (k + 1)) (f (k + 1)) with
        | false => rfl
        | true => exact absurd (swoB.asym _ _ q2) (by rw [q2]; exact fun z => nomatch z)
      · exact swoB.tr _ _ _ (swoB.asym _ _ q) (ih i (by omega))
    · rename_i q
      by_cases e : i = k + 1
      · rw [e]
        simpa using q
      · exact ih i (by omega)
theorem minD_mem {ds : List D} (h : ds ≠ []) : minD ds ∈ ds := by
  have l : 0 < ds.length := List.length_pos_iff.mpr h
  have b := argBest_le (btD ds) (ds.length - 1)
  unfold minD
  rw [List.getD_eq_getElem?_getD, List.getElem?_eq_getElem (by omega)]
  exact List.getElem_mem _
theorem minD_le {ds : List D} {d : D} (h : d ∈ ds) : ltB d (minD ds) = false := by
  obtain ⟨i, hi, e⟩ := List.mem_iff_getElem.mp h
  have b := best_le (btD ds) (fun i => ds.getD i .none) (fun _ _ => rfl) (ds.length - 1) i (by omega)
  have e1 : ds.getD i .none = d := by
    rw [List.getD_eq_getElem?_getD, List.getElem?_eq_getElem hi, e]
    rfl
  show ltB d (ds.getD _ .none) = false
  rw [← e1]
  exact b
theorem minD_ints {ns : List Int} (h : ns ≠ []) : ∃ m, m ∈ ns ∧ (∀ j ∈ ns, m ≤ j) ∧ minD (ns.map PyData.int) = .int m := by
  have h' : ns.map PyData.int ≠ [] := fun e => h (List.map_eq_nil_iff.mp e)
  obtain ⟨m, hm, e⟩ := List.mem_map.mp (minD_mem h')
  refine ⟨m, hm, fun j hj => ?_, e.symm⟩
  have := minD_le (List.mem_map.mpr ⟨j, hj, rfl⟩ : PyData.int j ∈ ns.map PyData.int)
  rw [← e, ltB_int, decide_eq_false_iff_not] at this
  omega
theorem minD_two (x y : D) : minD [x, y] = if ltB y x = true then y else x := by
  have e : argBest (btD [x, y]) 1 = if ltB y x = true then 1 else 0 := rfl
  show [x, y].getD (argBest (btD [x, y]) 1) .none = _
  rw [e]
  split <;> rfl
@[simp] theorem bMin_int2 (i j : Int) : bMin [.int i, .int j] = some (.int (if j < i then j else i)) := by
  show (if minOk [.int i, .int j] = true then some (minD [.int i, .int j]) else none) = _
  have h := minOk_ints (ns := [i, j]) (by simp)
  rw [if_pos (show minOk [.int i, .int j] = true from h), minD_two, ltB_int]
  by_cases q : j < i
  · rw [if_pos (decide_eq_true q), if_pos q]
  · rw [if_neg (by simpa using q), if_neg q]
@[simp] theorem bMin_pr (p : Int × Int) : bMin [pr p] = some (.int (if p.2 < p.1 then p.2 else p.1)) := by
  show (if minOk [.int p.1, .int p.2] = true then some (minD [.int p.1, .int p.2]) else none) = _
  exact bMin_int2 p.1 p.2
theorem bMin_intsL {ns : List Int} (h : ns ≠ []) : bMin [.list (ns.map PyData.int)] = some (minD (ns.map PyData.int)) := by
  rw [z_bMin1, if_pos (minOk_ints h)]
theorem bMin_intsT {ns : List Int} (h : ns ≠ []) : bMin [.tuple (ns.map PyData.int)] = some (minD (ns.map PyData.int)) := by
  rw [z_bMin2, if_pos (minOk_ints h)]
/-! ### where a number stands -/
theorem findIdx_int (x : Int) : ∀ (ns : List Int), (ns.map PyData.int).findIdx? (fun z => PyData.eqv z (.int x)) = ns.findIdx? (fun z => decide (z = x))
  | [] => rfl
  | n :: ns => by
    rw [List.map_cons, List.findIdx?_cons, List.findIdx?_cons, eqv_int, findIdx_int x ns]
theorem fIndex_ints {d : D} {ns : List Int} {x : Int} (hd : seqOf2 d = some (ns.map PyData.int)) {i : Nat} (hi : ns[i]? = some x) (nd : ns.Nodup) : fIndex d [.int x] = some (.int (i : Nat)) := by
  have hl : i < ns.length := (List.getElem?_eq_some_iff.mp hi).1
  have e : (ns.map PyData.int).findIdx? (fun z => PyData.eqv z (.int x)) = some i := by
    rw [findIdx_int, List.findIdx?_eq_some_iff_getElem]
    refine ⟨hl, decide_eq_true (List.getElem?_eq_some_iff.mp hi).2, fun j hj => ?_⟩
    have a := List.pairwise_iff_getElem.mp nd j i (by omega) hl hj
    rw [(List.getElem?_eq_some_iff.mp hi).2] at a
    simpa using a
  unfold fIndex
  rw [hd]
  show (if SeqAt.shaped (.int x) = true ∧ SeqAt.shaped (.list (ns.map PyData.int)) = true then _ else none) = _
  rw [if_pos ⟨rfl, sh_ints ns⟩, e]
  rfl
@[simp] theorem bMaxS_int2 (i j : Int) : bMaxS [.int i, .int j] = some (.int (if j > i then j else i)) := rfl
@[simp] theorem bMaxS_pr (p : Int × Int) : bMaxS [pr p] = some (.int (if p.1 < p.2 then p.2 else p.1)) := by
  show (match intsOf [.int p.1, .int p.2] with
    | some (n :: ns) => some (PyData.int (maxI n ns))
    | _ => none) = _
  have e : intsOf [.int p.1, .int p.2] = some [p.1, p.2] := rfl
  rw [e]
  show some (PyData.int (max p.1 p.2)) = _
  rw [Int.max_def]
  congr 2
  split <;> split <;> omega
/-! ### slices -/
theorem cut_to (l : List D) (n : Nat) : cutD l none (some (n : Int)) = l.take n := by
  unfold cutD
  rw [HT.sIx_nat]
  show (l.drop 0).take (min n l.length - 0) = _
  rw [List.drop_zero, Nat.sub_zero]
  rcases Nat.le_total n l.length with h | h
  · rw [Nat.min_eq_left h]
  · rw [Nat.min_eq_right h, List.take_of_length_le (Nat.le_refl _), List.take_of_length_le h]
theorem cut_from (l : List D) (n : Nat) : cutD l (some (n : Int)) none = l.drop n := by
  unfold cutD
  rw [HT.sIx_nat]
  show (l.drop (min n l.length)).take (l.length - min n l.length) = _
  rw [List.take_of_length_le (by rw [List.length_drop]; exact Nat.le_refl _)]
  rcases Nat.le_total n l.length with h | h
  · rw [Nat.min_eq_left h]
  · rw [Nat.min_eq_right h, List.drop_of_length_le (Nat.le_refl _), List.drop_of_length_le h]
@[simp] theorem cut_from1 (l : List D) : cutD l (some 1) none = l.drop 1 := cut_from l 1
@[simp] theorem cut_to1 (l : List D) : cutD l none (some 1) = l.take 1 := cut_to l 1
@[simp] theorem cut_back (l : List D) : cutB l none none = l.reverse := by
  show ((l.take l.length).drop 0).reverse = _
  rw [List.take_length, List.drop_zero]
@[simp] theorem cut_back0 (l : List D) : cutB l none (some 0) = (l.drop 1).reverse := by
  show ((l.take l.length).drop (min (0 + 1 : Int).toNat l.length)).reverse = _
  rw [List.take_length]
  cases l with
  | nil => rfl
  | cons a l =>
    have e : min ((0 : Int) + 1).toNat (a :: l).length = 1 := by
      rw [List.length_cons]
      have : ((0 : Int) + 1).toNat = 1 := rfl
      omega
    rw [e]
/-! ### truths -/
theorem allB_map {α : Type} (f : α → Bool) : ∀ xs : List α, allB (xs.map fun x => PyData.bool (f x)) = some (xs.map f)
  | [] => rfl
  | x :: xs => by
    rw [List.map_cons, List.map_cons]
    unfold allB
    rw [allB_map f xs]
theorem bAll_map {α : Type} (f : α → Bool) (xs : List α) : bAll [.list (xs.map fun x => PyData.bool (f x))] = some (.bool (xs.all f)) := by
  show (allB (xs.map fun x => PyData.bool (f x))).map _ = _
  rw [allB_map]
  show some (PyData.bool ((xs.map f).all id)) = _
  rw [List.all_map]
  rfl
@[simp] theorem dLtX_pr (p q : Int × Int) : dLtX (pr p) (pr q) = some (.bool (decide (ltP p q))) := by
  have h : ltOk (pr p) (pr q) = true := ltOk_iff.mpr ⟨okAll_prs [p, q] _ (by simp) _ (by simp), lay_pr p, lay_pr q, by rw [depth_pr]; omega⟩
  show (if ltOk (pr p) (pr q) = true then some (PyData.bool (ltB (pr p) (pr q))) else none) = _
  rw [if_pos h, ltB_pr]
/-! ### places -/
theorem ix_ok {l : List D} {i : Nat} {d : D} (h : l[i]? = some d) : (L2.ixN l.length (i : Int)).bind (fun k => l[k]?) = some d := by
  have hl : i < l.length := (List.getElem?_eq_some_iff.mp h).1
  have e : L2.ixN l.length (i : Int) = some i := by
    simp only [L2.ixN]
    rw [if_pos (by omega), if_pos (by omega)]
    rfl
  rw [e]
  exact h
theorem ix_lst {l : List D} {d : D} (h : l[l.length - 1]? = some d) : (L2.ixN l.length (-1)).bind (fun k => l[k]?) = some d := by
  have hl : l.length - 1 < l.length := (List.getElem?_eq_some_iff.mp h).1
  have e : L2.ixN l.length (-1) = some (l.length - 1) := by
    simp only [L2.ixN]
    rw [if_neg (by omega), if_pos (by omega)]
    congr 1
    omega
  rw [e]
  exact h
theorem ixT {l : List D} {i : Nat} {d : D} (h : l[i]? = some d) : dIx (.tuple l) (.int (i : Int)) = some d := ix_ok h
theorem ixL {l : List D} {i : Nat} {d : D} (h : l[i]? = some d) : dIx (.list l) (.int (i : Int)) = some d := ix_ok h
theorem ixTm {α : Type} (f : α → D) {l : List α} {i : Nat} {x : α} (h : l[i]? = some x) : dIx (.tuple (l.map f)) (.int (i : Int)) = some (f x) := ixT (by rw [List.getElem?_map, h]; rfl)
theorem ixLm {α : Type} (f : α → D) {l : List α} {i : Nat} {x : α} (h : l[i]? = some x) : dIx (.list (l.map f)) (.int (i : Int)) = some (f x) := ixL (by rw [List.getElem?_map, h]; rfl)
theorem ixTl {α : Type} (f : α → D) {l : List α} {x : α} (h : l[l.length - 1]? = some x) : dIx (.tuple (l.map f)) (.int (-1)) = some (f x) := ix_lst (by rw [List.getElem?_map, List.length_map, h]; rfl)
theorem ixLl {α : Type} (f : α → D) {l : List α} {x : α} (h : l[l.length - 1]? = some x) : dIx (.list (l.map f)) (.int (-1)) = some (f x) := ix_lst (by rw [List.getElem?_map, List.length_map, h]; rfl)
/-! ### equal -/
theorem eqv_intsT (a b : List Int) : PyData.eqv (.tuple (a.map PyData.int)) (.tuple (b.map PyData.int)) = decide (a = b) := by
  simp only [PyData.eqv]
  exact eqv_ints a b
@[simp] theorem dEq_intsT (a b : List Int) : dEq (.tuple (a.map PyData.int)) (.tuple (b.map PyData.int)) = some (.bool (decide (a = b))) := by
  unfold dEq
  rw [if_neg (by simp [bothStr]), if_pos ⟨sh_intsT a, sh_intsT b⟩, eqv_intsT]
@[simp] theorem dNe_intsT (a b : List Int) : dNe (.tuple (a.map PyData.int)) (.tuple (b.map PyData.int)) = some (.bool (!decide (a = b))) := by
  unfold dNe
  rw [if_neg (by simp [bothStr]), if_pos ⟨sh_intsT a, sh_intsT b⟩, eqv_intsT]
@[simp] theorem dEq_nilT (a : List Int) : dEq (.tuple (a.map PyData.int)) (.tuple []) = some (.bool (decide (a = []))) := dEq_intsT a []
theorem eqv_prs : ∀ (a b : List (Int × Int)), PyData.eqvAll (a.map pr) (b.map pr) = decide (a = b)
  | [], [] => by simp [PyData.eqvAll]
  | [], _ :: _ => by simp [PyData.eqvAll]
  | _ :: _, [] => by simp [PyData.eqvAll]
  | x :: a, y :: b => by
    rw [List.map_cons, List.map_cons]
    simp only [PyData.eqvAll, eqv_prs a b, eqv_pr]
    rw [Bool.eq_iff_iff]
    simp
@[simp] theorem dNe_prs (a b : List (Int × Int)) : dNe (.list (a.map pr)) (.list (b.map pr)) = some (.bool (!decide (a = b))) := by
  unfold dNe
  rw [if_neg (by simp [bothStr]), if_pos ⟨sh_prs a, sh_prs b⟩]
  simp only [PyData.eqv, eqv_prs]
@[simp] theorem dNe_prs0 (a : List (Int × Int)) : dNe (.list (a.map pr)) (.list []) = some (.bool (!decide (a = []))) := dNe_prs a []
end DL
set_option Elab.async false
set_option linter.all false
set_option maxRecDepth 100000
set_option maxHeartbeats 4000000
/-! DlCy: rings as rows: turned, told the other way round, the pairs that follow each other. -/
namespace DL
/-- x is the row r begun at m -/
def Tr {α : Type} (m : α) (r x : List α) : Prop := ∃ s t, r = s ++ m :: t ∧ x = m :: (t ++ s)
section
variable {α : Type} {m : α} {r x y u v : List α}
theorem split_unique {m : α} : ∀ {s s' t t' : List α}, s ++ m :: t = s' ++ m :: t' → m ∉ s → m ∉ s' → s = s' ∧ t = t'
  | [], [], t, t', h, _, _ => ⟨rfl, by simpa using h⟩
  | [], b :: s', t, t', h, _, n => by
    have e : m = b := by
      have := List.cons.inj (show m :: t = b :: (s' ++ m :: t') from h)
      exact this.1
    exact absurd (by rw [e]; exact List.mem_cons_self ..) n
  | a :: s, [], t, t', h, n, _ => by
    have e : a = m := by
      have := List.cons.inj (show a :: (s ++ m :: t) = m :: t' from h)
      exact this.1
    exact absurd (by rw [e]; exact List.mem_cons_self ..) n
  | a :: s, b :: s', t, t', h, n, n' => by
    obtain ⟨h1, h2⟩ := List.cons.inj (show a :: (s ++ m :: t) = b :: (s' ++ m :: t') from h)
    obtain ⟨e1, e2⟩ := split_unique h2 (fun z => n (List.mem_cons_of_mem _ z)) (fun z => n' (List.mem_cons_of_mem _ z))
    exact ⟨by rw [h1, e1], e2⟩
theorem nodup_split {s t : List α} (h : (s ++ m :: t).Nodup) : m ∉ s ∧ m ∉ t := by
  have h1 : (m :: (s ++ t)).Nodup := (List.perm_middle.nodup_iff).mp h
  obtain ⟨h2, _⟩ := List.nodup_cons.mp h1
  exact ⟨fun z => h2 (List.mem_append_left _ z), fun z => h2 (List.mem_append_right _ z)⟩
theorem Tr.unique (n : r.Nodup) (a : Tr m r x) (b : Tr m r y) : x = y := by
  obtain ⟨s, t, e, rfl⟩ := a
  obtain ⟨s', t', e', rfl⟩ := b
  have n1 := nodup_split (e ▸ n)
  have n2 := nodup_split (e' ▸ n)
  obtain ⟨rfl, rfl⟩ := split_unique (e.symm.trans e') n1.1 n2.1
  rfl
theorem Tr.rot (a : Tr m (u ++ v) x) : Tr m (v ++ u) x := by
  obtain ⟨s, t, e, rfl⟩ := a
  rcases List.append_eq_append_iff.mp e with ⟨w, h1, h2⟩ | ⟨w, h1, h2⟩
  · exact ⟨w, t ++ u, by rw [h2]; simp, by rw [h1]; simp⟩
  · cases w with
    | nil =>
      rw [List.nil_append] at h2
      rw [List.append_nil] at h1
      exact ⟨[], t ++ u, by rw [← h2]; simp, by rw [h1]; simp⟩
    | cons b w =>
      obtain ⟨h3, h4⟩ := List.cons.inj (show m :: t = b :: (w ++ v) from h2)
      subst h3
      exact ⟨v ++ s, w, by rw [h1]; simp, by rw [h4]; simp⟩
/-- the other way round from the same one on -/
def mir : List α → List α
  | [] => []
  | a :: l => a :: l.reverse
theorem Tr.rev (a : Tr m r x) : Tr m r.reverse (mir x) := by
  obtain ⟨s, t, rfl, rfl⟩ := a
  exact ⟨t.reverse, s.reverse, by simp, by simp [mir]⟩
theorem mir_mir : mir (mir x) = x := by
  cases x with
  | nil => rfl
  | cons a l => simp [mir]
theorem Tr.perm (a : Tr m r x) : x.Perm r := by
  obtain ⟨s, t, rfl, rfl⟩ := a
  exact ((List.perm_append_comm (l₁ := t) (l₂ := s)).cons m).trans List.perm_middle.symm
theorem mir_perm : (mir x).Perm x := by
  cases x with
  | nil => exact .refl _
  | cons a l => exact (List.reverse_perm l).cons a
/-- the pairs that follow each other, the last one and the first one, too -/
abbrev cyc (r : List α) : List (α × α) := r.zip (r.drop 1 ++ r.take 1)
theorem cyc_cons (a : α) (l : List α) : cyc (a :: l) = (a :: l).zip (l ++ [a]) := rfl
theorem cyc_one (a : α) (l : List α) : (cyc (l ++ [a])).Perm (cyc (a :: l)) := by
  cases l with
  | nil => exact .refl _
  | cons b l =>
    have e1 : cyc (b :: l ++ [a]) = (b :: l).zip (l ++ [a]) ++ [(a, b)] := by
      show (b :: (l ++ [a])).zip ((l ++ [a]) ++ [b]) = _
      have : (b :: (l ++ [a])) = (b :: l) ++ [a] := rfl
      rw [this, List.zip_append (by simp)]
      try rfl
    have e2 : cyc (a :: b :: l) = (a, b) :: (b :: l).zip (l ++ [a]) := rfl
    rw [e1, e2]
    exact List.perm_append_singleton _ _
theorem cyc_rot : ∀ (u v : List α), (cyc (u ++ v)).Perm (cyc (v ++ u))
  | [], v => by rw [List.nil_append, List.append_nil]
  | a :: u, v => by
    have h1 := (cyc_one a (u ++ v)).symm
    have h2 := cyc_rot u (v ++ [a])
    rw [← List.append_assoc] at h2
    have h3 := h1.trans h2
    rw [List.append_assoc] at h3
    exact h3
theorem zip_swap : ∀ (l l' : List α), (l.zip l').map (fun p => (p.2, p.1)) = l'.zip l
  | [], [] => rfl
  | [], _ :: _ => rfl
  | _ :: _, [] => rfl
  | a :: l, b :: l' => by
    show (b, a) :: (l.zip l').map (fun p => (p.2, p.1)) = (b, a) :: l'.zip l
    rw [zip_swap l l']
theorem zip_rev : ∀ (l l' : List α), l.length = l'.length → (l.zip l').reverse = l.reverse.zip l'.reverse
  | [], [], _ => rfl
  | [], _ :: _, h => by cases h
  | _ :: _, [], h => by cases h
  | a :: l, b :: l', h => by
    have h' : l.length = l'.length := by simpa using h
    rw [List.zip_cons_cons, List.reverse_cons, List.reverse_cons, List.reverse_cons, List.zip_append (by simp [h']), zip_rev l l' h']
    rfl
theorem cyc_rev (r : List α) : (cyc r.reverse).Perm ((cyc r).map fun p => (p.2, p.1)) := by
  cases r with
  | nil => exact .refl _
  | cons a l =>
    rw [List.reverse_cons]
    refine (cyc_one a l.reverse).trans ?_
    rw [cyc_cons, cyc_cons]
    rw [zip_swap]
    have e2 : (a :: l.reverse).zip (l.reverse ++ [a]) = ((l ++ [a]).zip (a :: l)).reverse := by
      rw [zip_rev _ _ (by simp)]
      simp
    rw [e2]
    exact List.reverse_perm _
theorem mem_cyc {r : List α} {p : α × α} : p ∈ cyc r ↔ ∃ k, ∃ h : k < r.length, p = (r[k], if h' : k + 1 < r.length then r[k + 1] else r[0]) := by
  have len : (r.drop 1 ++ r.take 1).length = r.length := by
    rw [List.length_append, List.length_drop, List.length_take]
    omega
  have at_ : ∀ k (h : k < r.length) (h2 : k < (r.drop 1 ++ r.take 1).length), (r.drop 1 ++ r.take 1)[k] = if h' : k + 1 < r.length then r[k + 1] else r[0] := by
    intro k h h2
    by_cases q : k + 1 < r.length
    · rw [dif_pos q, List.getElem_append_left (by rw [List.length_drop]; omega), List.getElem_drop]
      congr 1
      omega
    · rw [dif_neg q, List.getElem_append_right (by rw [List.length_drop]; omega), List.getElem_take]
      congr 1
      rw [List.length_drop]
      omega
  constructor
  · intro h
    obtain ⟨k, hk, e⟩ := List.mem_iff_getElem.mp h
    have hk' : k < r.length := by
      have := hk
      try unfold cyc at this
      rw [List.length_zip, len] at this
      omega
    refine ⟨k, hk', ?_⟩
    rw [← e]
    try unfold cyc
    rw [List.getElem_zip, at_ k hk']
  · rintro ⟨k, hk, rfl⟩
    have hz : k < (cyc r).length := by
      try unfold cyc
      rw [List.length_zip, len]
      omega
    refine List.mem_iff_getElem.mpr ⟨k, hz, ?_⟩
    try unfold cyc
    rw [List.getElem_zip, at_ k hk]
theorem cyc_drop {r : List α} {p : α × α} (h : p ∈ r.zip (r.drop 1)) : p ∈ cyc r := by
  obtain ⟨i, hi, e⟩ := List.mem_iff_getElem.mp h
  have hl : i + 1 < r.length := by
    rw [List.length_zip, List.length_drop] at hi
    omega
  refine mem_cyc.mpr ⟨i, by omega, ?_⟩
  rw [dif_pos hl, ← e, List.getElem_zip, List.getElem_drop]
  congr 2
  omega
theorem cyc_last {r : List α} (h : 0 < r.length) : (r[r.length - 1], r[0]) ∈ cyc r := mem_cyc.mpr ⟨r.length - 1, by omega, by rw [dif_neg (by omega)]⟩
theorem inj_nd {r : List α} (n : r.Nodup) {i j : Nat} (hi : i < r.length) (hj : j < r.length) (e : r[i] = r[j]) : i = j := by
  rcases Nat.lt_trichotomy i j with h | h | h
  · exact absurd e (List.pairwise_iff_getElem.mp n i j hi hj h)
  · exact h
  · exact absurd e.symm (List.pairwise_iff_getElem.mp n j i hj hi h)
/-- two of a ring follow each other, one way or the other, just if their places are as far apart -/
theorem cyc_apart {r : List α} (n : r.Nodup) (h3 : 3 ≤ r.length) {i j : Nat} (hi : i < r.length) (hj : j < r.length) : ((r[i], r[j]) ∈ cyc r ∨ (r[j], r[i]) ∈ cyc r) ↔ ((i : Int) - j).natAbs = 1 ∨ ((i : Int) - j).natAbs = r.length - 1 := by
  have one : ∀ {i j : Nat} (hi : i < r.length) (hj : j < r.length), (r[i], r[j]) ∈ cyc r ↔ (j = i + 1 ∨ (i + 1 = r.length ∧ j = 0)) := by
    intro i j hi hj
    rw [mem_cyc]
    constructor
    · rintro ⟨k, hk, e⟩
      have e1 : r[i] = r[k] := congrArg Prod.fst e
      have e2 := congrArg Prod.snd e
      have ik := inj_nd n hi hk e1
      subst ik
      by_cases q : i + 1 < r.length
      · simp only [dif_pos q] at e2
        exact .inl (inj_nd n hj q e2)
      · simp only [dif_neg q] at e2
        exact .inr ⟨by omega, inj_nd n hj (by omega) e2⟩
    · rintro (rfl | ⟨q, rfl⟩)
      · exact ⟨i, hi, by rw [dif_pos hj]⟩
      · exact ⟨i, hi, by rw [dif_neg (by omega)]⟩
  rw [one hi hj, one hj hi]
  omega
end
end DL
set_option Elab.async false
set_option linter.all false
set_option maxRecDepth 100000
set_option maxHeartbeats 4000000
/-! DlV3: pots of the other kind: (cell % M * S + U * k + V) % N + O. -/
namespace DL
open PySem L2
def mPot2 (A B C E M S U V N O : Int) : Sf := (sSeq (sSet 2 (eR (eOp2 dAdd (eOp2 dMul (eC (.int A)) (eVar 1)) (eC (.int B))))) (sSeq (sIf (tOf (eOp2 dLt (eVar 1) (eCall bLen (aCons (eVar 0) aNil)))) (sSet 2 (eR (eCall bAbs (aCons (eOp2 dIx (eVar 0) (eVar 1)) aNil)))) sNil) (sRet (eLst (aCons (eCall bMax2 (aCons (eC (.int 0)) (aCons (eOp2 dSub (eVar 2) (eOp2 dPow (eC (.int C)) (eC (.int E)))) aNil))) (aCons (eOp2 dAdd (eOp2 dMod (eCall bInt (aCons (eOp2 dAdd (eOp2 dAdd (eOp2 dMul (eOp2 dMod (eCall bInt (aCons (eVar 2) aNil)) (eC (.int M))) (eC (.int S))) (eOp2 dMul (eC (.int U)) (eVar 1))) (eC (.int V))) aNil)) (eC (.int N))) (eC (.int O))) aNil))))))
theorem pot2_gen {A B C E M S U V N O k k1 k2 len cell T r s1 z : Int} {script : D} (hl : bLen [script] = some (.int len)) (e1 : dMul (.int A) (.int k) = some (.int k1))
    (hv : (¬ k < len ∧ cell = k1 + B) ∨ (k < len ∧ ∃ v, dIx script (.int k) = some (.int v) ∧ cell = if v < 0 then -v else v)) (e2 : dPow (.int C) (.int E) = some (.int T)) (e3 : dMod (.int cell) (.int M) = some (.int r))
    (e4 : dMul (.int r) (.int S) = some (.int s1)) (e5 : dMul (.int U) (.int k) = some (.int k2)) (e7 : dMod (.int (s1 + k2 + V)) (.int N) = some (.int z)) :
    runF 2 3 (mPot2 A B C E M S U V N O) [.sh script, .sh (.int k)] = .ok (.own (.ls [.int (if cell - T > 0 then cell - T else 0), .int (z + O)])) [.sh script, .sh (.int k)] := by
  rcases hv with ⟨hk, hc⟩ | ⟨hk, v, hd, hc⟩
  · subst hc
    simp [mPot2, hl, e1, hk, e2, e3, e4, e5, e7]
  · rw [hc] at e3 ⊢
    simp [mPot2, hl, e1, hk, hd, e2, e3, e4, e5, e7]
theorem pot2_all {A B C E M S U V N O : Int} (hM : 0 < M) (hM2 : M ≤ 2 ^ 31) (hS : S.natAbs < 2 ^ 31) (hU : U.natAbs < 2 ^ 31) (hN : 0 < N) (hN2 : N < 2147483640) (hO : 0 ≤ O) (hO2 : O ≤ 1) (hC : C = 10) (hE : E = 18) (hA : A.natAbs < 2 ^ 31)
    {ns : List Int} {k : Nat} (hk : k < 64) :
    ∃ p, Pot p ∧ runF 2 3 (mPot2 A B C E M S U V N O) [.sh (.list (ns.map PyData.int)), .sh (.int k)] = .ok (.own (.ls p)) [.sh (.list (ns.map PyData.int)), .sh (.int k)] := by
  subst hC hE
  have pw : ∀ i j : Int, 0 ≤ j → j ≤ 1000000 → i.natAbs < 2 ^ 64 → dPow (.int i) (.int j) = some (.int (i ^ j.toNat)) := fun i j h1 h2 h3 => if_pos ⟨h1, h2, h3⟩
  have p2 := pw 10 18 (by omega) (by omega) (by omega)
  generalize (10 : Int) ^ (18 : Int).toNat = T at p2
  have go : ∀ cell : Int, ((¬ (k : Int) < ns.length ∧ cell = A * (k : Int) + B) ∨ ((k : Int) < ns.length ∧ ∃ v, dIx (.list (ns.map PyData.int)) (.int k) = some (.int v) ∧ cell = if v < 0 then -v else v)) →
      ∃ p, Pot p ∧ runF 2 3 (mPot2 A B 10 18 M S U V N O) [.sh (.list (ns.map PyData.int)), .sh (.int k)] = .ok (.own (.ls p)) [.sh (.list (ns.map PyData.int)), .sh (.int k)] := by
    intro cell hv
    have e3 : dMod (.int cell) (.int M) = some (.int (cell % M)) := by
      rw [fmod_ok (by omega), Int.fmod_eq_emod_of_nonneg _ (by omega)]
    have l1 : 0 ≤ cell % M := Int.emod_nonneg _ (by omega)
    have l2 : cell % M < M := Int.emod_lt_of_pos _ (by omega)
    generalize cell % M = r at e3 l1 l2
    have e4 : dMul (.int r) (.int S) = some (.int (r * S)) := mul_ok (m := 32) (n := 31) (by omega) hS (by omega)
    have e5 : dMul (.int U) (.int k) = some (.int (U * (k : Int))) := mul_ok (m := 31) (n := 6) hU (by omega) (by omega)
    have e7 : dMod (.int (r * S + U * (k : Int) + V)) (.int N) = some (.int ((r * S + U * (k : Int) + V) % N)) := by
      rw [fmod_ok (by omega), Int.fmod_eq_emod_of_nonneg _ (by omega)]
    have l3 : 0 ≤ (r * S + U * (k : Int) + V) % N := Int.emod_nonneg _ (by omega)
    have l4 : (r * S + U * (k : Int) + V) % N < N := Int.emod_lt_of_pos _ (by omega)
    generalize (r * S + U * (k : Int) + V) % N = z at e7 l3 l4
    have e1 : dMul (.int A) (.int k) = some (.int (A * (k : Int))) := mul_ok (m := 31) (n := 6) hA (by omega) (by omega)
    refine ⟨_, ⟨⟨_, _, rfl, ?_, ?_, ?_⟩⟩, pot2_gen (len := ns.length) (by rw [z_bLen1, List.length_map]) e1 hv p2 e3 e4 e5 e7⟩
    · split <;> omega
    · omega
    · omega
  by_cases h : k < ns.length
  · refine go _ (.inr ⟨by omega, ns[k], ?_, rfl⟩)
    have i1 : L2.ixN (ns.map PyData.int).length (k : Int) = some k := by
      simp only [L2.ixN, List.length_map]
      rw [if_pos (by omega), if_pos (by omega)]
      rfl
    show (L2.ixN (ns.map PyData.int).length (k : Int)).bind _ = _
    rw [i1]
    show (ns.map PyData.int)[k]? = _
    rw [List.getElem?_map, List.getElem?_eq_getElem h]
    rfl
  · exact go _ (.inl ⟨by omega, rfl⟩)
end DL
set_option Elab.async false
set_option linter.all false
set_option maxRecDepth 100000
set_option maxHeartbeats 4000000
/-! DlCt: values of the top, tuples in tuples. -/
namespace DL
open PySem L2
def cstL (f : Value → D → Bool) : List Value → List D → Bool
  | [], [] => true
  | v :: vs, d :: ds => f v d && cstL f vs ds
  | _, _ => false
/-- the value there is this datum, n deep at most -/
def cstB (K : PySem.W.Frag) : Nat → Value → D → Bool
  | 0, _, _ => false
  | n + 1, v, d => match d with
    | .none => match v with
      | .none => true
      | _ => false
    | .bool b => match v with
      | .bool a => a == b
      | _ => false
    | .int j => match v with
      | .int i _ => decide (i = j)
      | _ => false
    | .str y => match v with
      | .str x _ => decide (x = y)
      | _ => false
    | .tuple ds => match v with
      | .ref a => match K.lookup a with
        | some ⟨.type c, none, .seq its _, _⟩ => decide (c = "tuple") && (decide (its.size ≤ sizeLine) && cstL (cstB K n) its.toList ds)
        | _ => false
      | _ => false
    | .list ds => match v with
      | .ref a => match K.lookup a with
        | some ⟨.type c, none, .seq its _, _⟩ => decide (c = "list") && (decide (its.size ≤ sizeLine) && cstL (cstB K n) its.toList ds)
        | _ => false
      | _ => false
    | .dict _ => false
theorem cstL_ok {K : PySem.W.Frag} {f : Value → D → Bool} (h : ∀ v d, f v d = true → ∃ w, RelV w v ∧ ∀ G, Dq K G w d) : ∀ (vs : List Value) (ds : List D), cstL f vs ds = true → ∃ ws, Vals ws vs ∧ ∀ G, DqAll K G ws ds
  | [], [], _ => ⟨[], .nil, fun _ => .nil⟩
  | v :: vs, d :: ds, q => by
    obtain ⟨q1, q2⟩ := He.ba (show (f v d && cstL f vs ds) = true from q)
    obtain ⟨w, r, g⟩ := h v d q1
    obtain ⟨ws, rs, gs⟩ := cstL_ok h vs ds q2
    exact ⟨w :: ws, .cons r rs, fun G => .cons (g G) (gs G)⟩
  | [], _ :: _, q => by cases q
  | _ :: _, [], q => by cases q
theorem cst_ok {K : PySem.W.Frag} : ∀ (n : Nat) (v : Value) (d : D), cstB K n v d = true → ∃ w, RelV w v ∧ ∀ G, Dq K G w d
  | 0, _, _, h => by cases h
  | n + 1, v, d, h => by
    unfold cstB at h
    cases d with
    | none =>
      simp only at h
      split at h
      · exact ⟨.non, rfl, fun _ => .non⟩
      · cases h
    | bool b =>
      simp only at h
      split at h
      · rename_i a
        cases eq_of_beq h
        exact ⟨.bl _, rfl, fun _ => .bl _⟩
      · cases h
    | int j =>
      simp only at h
      split at h
      · rename_i i t
        cases of_decide_eq_true h
        exact ⟨.int _, ⟨_, rfl⟩, fun _ => .int _⟩
      · cases h
    | str y =>
      simp only at h
      split at h
      · rename_i x t
        cases of_decide_eq_true h
        exact ⟨.str _, ⟨_, rfl⟩, fun _ => .str _⟩
      · cases h
    | tuple ds =>
      simp only at h
      split at h
      · rename_i a
        split at h
        · rename_i c its m sl q
          obtain ⟨h1, h2⟩ := He.ba h
          obtain ⟨h3, h4⟩ := He.ba h2
          obtain ⟨ws, rs, gs⟩ := cstL_ok (fun v d => cst_ok n v d) _ _ h4
          exact ⟨.ref a, rfl, fun G => .tup (.inr ⟨_, its, m, q, congrArg Value.type (of_decide_eq_true h1), rfl, of_decide_eq_true h3, rs⟩) (.inr ⟨_, q, rfl⟩) (gs G)⟩
        · cases h
      · cases h
    | list ds =>
      simp only at h
      split at h
      · rename_i a
        split at h
        · rename_i c its m sl q
          obtain ⟨h1, h2⟩ := He.ba h
          obtain ⟨h3, h4⟩ := He.ba h2
          obtain ⟨ws, rs, gs⟩ := cstL_ok (fun v d => cst_ok n v d) _ _ h4
          exact ⟨.ref a, rfl, fun G => .lst (.inr ⟨_, its, m, q, congrArg Value.type (of_decide_eq_true h1), rfl, rfl, of_decide_eq_true h3, rs⟩) (gs G)⟩
        · cases h
      · cases h
    | dict _ => cases h
/-- a name of the top, in the form that the walks take -/
theorem cst_glob {K : PySem.W.Frag} {mg : Str → Option Value} {x : Str} {a : Addr} {d : D} (g : mg x = some (.ref a)) (h : cstB K 6 (.ref a) d = true) : (mg x = some (.ref a) ∧ RelV (.ref a) (.ref a)) ∧ ∀ G, Dq K G (.ref a) d := by
  obtain ⟨w, r, k⟩ := cst_ok 6 _ _ h
  refine ⟨⟨g, rfl⟩, fun G => ?_⟩
  have := r.abs
  cases this
  exact k G
end DL
set_option Elab.async false
set_option linter.all false
set_option maxRecDepth 100000
set_option maxHeartbeats 4000000
/-! printed by gen.py: the frame function of each def, and that the def keeps it -/
namespace K19
open PySem PySem.Spec PyProof.Rows L2 DL
noncomputable section
def top (i : Nat) : Stmt := PySem.Challenge.pw_websolids_k19_whole_rings_and_chords.main.body.getD i (.Pass ⟨0, 0, 0, 0⟩)
abbrev FnP (K : PySem.W.Frag) (x : Str) (st : Stmt) (f : Addr) (fd : FuncData) : Prop := FunD K x x (defArgs st) (defBody st) (defScope st) [] [] f fd
abbrev si_WebError : Stmt := (clsBody (top 1)).getD 0 (.Pass ⟨0, 0, 0, 0⟩)
theorem sci_WebError : FnScope (["self", "value"] : List Str) ["self", "value"] (defScope si_WebError) := ⟨rfl, rfl, rfl, by decide +kernel, rfl, by decide +kernel, by decide +kernel⟩
abbrev s__law_pot : Stmt := top 33
def N__law_pot : List Str := ["_law_script", "_law_k", "_law_cell"]
def m__law_pot : Sf := (sSeq (sSet 2 (eR (eOp2 dAdd (eOp2 dMul (eC (.int 1307)) (eVar 1)) (eC (.int 1103))))) (sSeq (sIf (tOf (eOp2 dLt (eVar 1) (eCall bLen (aCons (eVar 0) aNil)))) (sSet 2 (eR (eCall bAbs (aCons (eOp2 dIx (eVar 0) (eVar 1)) aNil)))) sNil) (sRet (eLst (aCons (eCall bMax2 (aCons (eC (.int 0)) (aCons (eOp2 dSub (eVar 2) (eOp2 dPow (eC (.int 10)) (eC (.int 18)))) aNil))) (aCons (eOp2 dAdd (eOp2 dMod (eCall bInt (aCons (eOp2 dAdd (eOp2 dAdd (eOp2 dMul (eOp2 dMod (eCall bInt (aCons (eVar 2) aNil)) (eC (.int 2147483549))) (eC (.int 40692))) (eOp2 dMul (eC (.int 6397)) (eVar 1))) (eC (.int 1151))) aNil)) (eC (.int 2147483563))) (eC (.int 1))) aNil))))))
def F__law_pot : Fn := runF 2 3 m__law_pot
theorem sc__law_pot : FnScope (["_law_script", "_law_k", "_law_cell"] : List Str) ["_law_script", "_law_k"] (defScope s__law_pot) := ⟨rfl, rfl, rfl, by decide +kernel, rfl, by decide +kernel, by decide +kernel⟩
abbrev s_is_integer : Stmt := top 5
def N_is_integer : List Str := ["value"]
def m_is_integer : Sf := (sRet (eR (eAnd (eIsi .int (eVar 0)) (eNot (eIsi .bool (eVar 0))))))
def F_is_integer : Fn := runF 1 1 m_is_integer
theorem sc_is_integer : FnScope (["value"] : List Str) ["value"] (defScope s_is_integer) := ⟨rfl, rfl, rfl, by decide +kernel, rfl, by decide +kernel, by decide +kernel⟩
abbrev s_is_count : Stmt := top 6
def N_is_count : List Str := ["value"]
def m_is_count : Sf := (sRet (eR (eAnd (eFz (eFnC F_is_integer [false] (aCons (eVar 0) aNil))) (eOp2 dGe (eVar 0) (eC (.int 0))))))
def F_is_count : Fn := runF 1 1 m_is_count
theorem sc_is_count : FnScope (["value"] : List Str) ["value"] (defScope s_is_count) := ⟨rfl, rfl, rfl, by decide +kernel, rfl, by decide +kernel, by decide +kernel⟩
abbrev s_is_tie : Stmt := top 12
def N_is_tie : List Str := ["many", "value", "one"]
def m_is_tie : Sf := (sSeq (sIf (tOrF (tNotF (tTr (eIsi .tuple (eVar 1)))) (tOrF (tOf (eOp2 dNe (eCall bLen (aCons (eVar 1) aNil)) (eC (.int 2)))) (tNotF (tTr (eCall bAll (aCons (eFz (eLc (iSeq (eVar 1)) (gSet 2) tYesF (eFz (eFnC F_is_count [false] (aCons (eVar 2) aNil))) [2])) aNil)))))) (sRet (eR (eC (.bool false)))) sNil) (sRet (eR (eChain dLtX dLtX (eOp2 dIx (eVar 1) (eC (.int 0))) (eOp2 dIx (eVar 1) (eC (.int 1))) (eVar 0)))))
def F_is_tie : Fn := runF 2 3 m_is_tie
theorem sc_is_tie : FnScope (["many", "value", "one"] : List Str) ["many", "value"] (defScope s_is_tie) := ⟨rfl, rfl, rfl, by decide +kernel, rfl, by decide +kernel, by decide +kernel⟩
abbrev s_is_many : Stmt := top 13
def N_is_many : List Str := ["value"]
def m_is_many : Sf := (sRet (eR (eAnd (eFz (eFnC F_is_count [false] (aCons (eVar 0) aNil))) (eChain dLe dLe (eC (.int 1)) (eVar 0) (eC (.int (20)))))))
def F_is_many : Fn := runF 1 1 m_is_many
theorem sc_is_many : FnScope (["value"] : List Str) ["value"] (defScope s_is_many) := ⟨rfl, rfl, rfl, by decide +kernel, rfl, by decide +kernel, by decide +kernel⟩
abbrev s_is_web_value : Stmt := top 14
def N_is_web_value : List Str := ["value", "many", "ties", "one", "other", "tie"]
def m_is_web_value : Sf := (sSeq (sIf (tOrF (tNotF (tTr (eIsi .tuple (eVar 0)))) (tOrF (tOf (eOp2 dNe (eCall bLen (aCons (eVar 0) aNil)) (eC (.int 3)))) (tOrF (tNotF (tTr (eIsi .str (eOp2 dIx (eVar 0) (eC (.int 0)))))) (tOf (eOp2 dNe (eOp2 dIx (eVar 0) (eC (.int 0))) (eC (.str "web"))))))) (sRet (eR (eC (.bool false)))) sNil) (sSeq (sPar 1 2 (eR (eOp2 dIx (eVar 0) (eC (.int 1)))) (eR (eOp2 dIx (eVar 0) (eC (.int 2))))) (sSeq (sIf (tOrF (tNotF (tTr (eFz (eFnC F_is_many [false] (aCons (eVar 1) aNil))))) (tOrF (tNotF (tTr (eIsi .tuple (eVar 2)))) (tOf (eOp2 dGt (eCall bLen (aCons (eVar 2) aNil)) (eC (.int (60))))))) (sRet (eR (eC (.bool false)))) sNil) (sSeq (sIf (tNotF (tTr (eCall bAll (aCons (eFz (eLc (iSeq (eVar 2)) (gSet 5) tYesF (eFz (eFnC F_is_tie [false, false] (aCons (eVar 1) (aCons (eVar 5) aNil)))) [5])) aNil)))) (sRet (eR (eC (.bool false)))) sNil) (sRet (eR (eCall bAll (aCons (eFz (eLc (iZip2F (aCons (eVar 2) (aCons (eFz (eCut (eVar 2) (oSome (eC (.int 1))) oNone)) aNil))) (gTupF (gsCons (gSet 3) (gsCons (gSet 4) gsNil))) tYesF (eOp2 dLtX (eVar 3) (eVar 4)) [3, 4])) aNil))))))))
def F_is_web_value : Fn := runF 1 6 m_is_web_value
theorem sc_is_web_value : FnScope (["value", "many", "ties", "one", "other", "tie"] : List Str) ["value"] (defScope s_is_web_value) := ⟨rfl, rfl, rfl, by decide +kernel, rfl, by decide +kernel, by decide +kernel⟩
abbrev s_want_web : Stmt := top 17
def N_want_web : List Str := ["value"]
def m_want_web : Sf := (sSeq (sIf (tNotF (tTr (eFz (eFnC F_is_web_value [false] (aCons (eVar 0) aNil))))) (sRaise1 "InvalidWeb" "value" (eVar 0)) sNil) (sRet (eR (eVar 0))))
def F_want_web : Fn := runF 1 1 m_want_web
theorem sc_want_web : FnScope (["value"] : List Str) ["value"] (defScope s_want_web) := ⟨rfl, rfl, rfl, by decide +kernel, rfl, by decide +kernel, by decide +kernel⟩
abbrev s_tie_of : Stmt := top 18
def N_tie_of : List Str := ["one", "other"]
def m_tie_of : Sf := (sRet (eR (eTup (aCons (eCall bMin (aCons (eVar 0) (aCons (eVar 1) aNil))) (aCons (eCall bMaxS (aCons (eVar 0) (aCons (eVar 1) aNil))) aNil)))))
def F_tie_of : Fn := runF 2 2 m_tie_of
theorem sc_tie_of : FnScope (["one", "other"] : List Str) ["one", "other"] (defScope s_tie_of) := ⟨rfl, rfl, rfl, by decide +kernel, rfl, by decide +kernel, by decide +kernel⟩
abbrev s_is_tied : Stmt := top 19
def N_is_tied : List Str := ["web", "one", "other"]
def m_is_tied : Sf := (sRet (eR (eOp2 dInS (eFz (eFnC F_tie_of [false, false] (aCons (eVar 1) (aCons (eVar 2) aNil)))) (eOp2 dIx (eVar 0) (eC (.int 2))))))
def F_is_tied : Fn := runF 3 3 m_is_tied
theorem sc_is_tied : FnScope (["web", "one", "other"] : List Str) ["web", "one", "other"] (defScope s_is_tied) := ⟨rfl, rfl, rfl, by decide +kernel, rfl, by decide +kernel, by decide +kernel⟩
abbrev s_is_list : Stmt := top 7
def N_is_list : List Str := ["value"]
def m_is_list : Sf := (sRet (eR (eIsi2 .list .tuple (eVar 0))))
def F_is_list : Fn := runF 1 1 m_is_list
theorem sc_is_list : FnScope (["value"] : List Str) ["value"] (defScope s_is_list) := ⟨rfl, rfl, rfl, by decide +kernel, rfl, by decide +kernel, by decide +kernel⟩
abbrev s_is_corner : Stmt := top 15
def N_is_corner : List Str := ["web", "value"]
def m_is_corner : Sf := (sRet (eR (eAnd (eFz (eFnC F_is_count [false] (aCons (eVar 1) aNil))) (eOp2 dLtX (eVar 1) (eOp2 dIx (eVar 0) (eC (.int 1)))))))
def F_is_corner : Fn := runF 2 2 m_is_corner
theorem sc_is_corner : FnScope (["web", "value"] : List Str) ["web", "value"] (defScope s_is_corner) := ⟨rfl, rfl, rfl, by decide +kernel, rfl, by decide +kernel, by decide +kernel⟩
abbrev s_are_corners : Stmt := top 16
def N_are_corners : List Str := ["web", "value", "one"]
def m_are_corners : Sf := (sRet (eR (eAnd (eFz (eFnC F_is_list [false] (aCons (eVar 1) aNil))) (eAnd (eCall bAll (aCons (eFz (eLc (iSeq (eVar 1)) (gSet 2) tYesF (eFz (eFnC F_is_corner [false, false] (aCons (eVar 0) (aCons (eVar 2) aNil)))) [2])) aNil)) (eOp2 dEq (eLenSet (eVar 1)) (eCall bLen (aCons (eVar 1) aNil)))))))
def F_are_corners : Fn := runF 2 3 m_are_corners
theorem sc_are_corners : FnScope (["web", "value", "one"] : List Str) ["web", "value"] (defScope s_are_corners) := ⟨rfl, rfl, rfl, by decide +kernel, rfl, by decide +kernel, by decide +kernel⟩
abbrev s_is_way_of : Stmt := top 21
def N_is_way_of : List Str := ["web", "value", "one", "other"]
def m_is_way_of : Sf := (sSeq (sIf (tOrF (tNotF (tTr (eIsi .tuple (eVar 1)))) (tOrF (tOf (eOp2 dEq (eVar 1) (eTup aNil))) (tNotF (tTr (eFz (eFnC F_are_corners [false, false] (aCons (eVar 0) (aCons (eVar 1) aNil)))))))) (sRet (eR (eC (.bool false)))) sNil) (sRet (eR (eCall bAll (aCons (eFz (eLc (iZip2F (aCons (eVar 1) (aCons (eFz (eCut (eVar 1) (oSome (eC (.int 1))) oNone)) aNil))) (gTupF (gsCons (gSet 2) (gsCons (gSet 3) gsNil))) tYesF (eFz (eFnC F_is_tied [false, false, false] (aCons (eVar 0) (aCons (eVar 2) (aCons (eVar 3) aNil))))) [2, 3])) aNil)))))
def F_is_way_of : Fn := runF 2 4 m_is_way_of
theorem sc_is_way_of : FnScope (["web", "value", "one", "other"] : List Str) ["web", "value"] (defScope s_is_way_of) := ⟨rfl, rfl, rfl, by decide +kernel, rfl, by decide +kernel, by decide +kernel⟩
abbrev s_is_round : Stmt := top 22
def N_is_round : List Str := ["web", "value"]
def m_is_round : Sf := (sSeq (sIf (tOrF (tNotF (tTr (eIsi .tuple (eVar 1)))) (tOrF (tOf (eOp2 dLt (eCall bLen (aCons (eVar 1) aNil)) (eC (.int 3)))) (tNotF (tTr (eFz (eFnC F_is_way_of [false, false] (aCons (eVar 0) (aCons (eVar 1) aNil)))))))) (sRet (eR (eC (.bool false)))) sNil) (sRet (eFnC F_is_tied [false, false, false] (aCons (eVar 0) (aCons (eOp2 dIx (eVar 1) (eOp1 dNeg (eC (.int 1)))) (aCons (eOp2 dIx (eVar 1) (eC (.int 0))) aNil))))))
def F_is_round : Fn := runF 2 2 m_is_round
theorem sc_is_round : FnScope (["web", "value"] : List Str) ["web", "value"] (defScope s_is_round) := ⟨rfl, rfl, rfl, by decide +kernel, rfl, by decide +kernel, by decide +kernel⟩
abbrev s_is_ring_of : Stmt := top 23
def N_is_ring_of : List Str := ["web", "value"]
def m_is_ring_of : Sf := (sRet (eR (eAnd (eFz (eFnC F_is_round [false, false] (aCons (eVar 0) (aCons (eVar 1) aNil)))) (eOp2 dEq (eOp2 dIx (eVar 1) (eC (.int 0))) (eCall bMin (aCons (eVar 1) aNil))))))
def F_is_ring_of : Fn := runF 2 2 m_is_ring_of
theorem sc_is_ring_of : FnScope (["web", "value"] : List Str) ["web", "value"] (defScope s_is_ring_of) := ⟨rfl, rfl, rfl, by decide +kernel, rfl, by decide +kernel, by decide +kernel⟩
abbrev s_is_ring : Stmt := top 28
def N_is_ring : List Str := ["web", "value"]
def m_is_ring : Sf := (sRet (eFnC F_is_ring_of [false, false] (aCons (eFz (eFnC F_want_web [false] (aCons (eVar 0) aNil))) (aCons (eVar 1) aNil))))
def F_is_ring : Fn := runF 2 2 m_is_ring
theorem sc_is_ring : FnScope (["web", "value"] : List Str) ["web", "value"] (defScope s_is_ring) := ⟨rfl, rfl, rfl, by decide +kernel, rfl, by decide +kernel, by decide +kernel⟩
abbrev s_is_plain_ring : Stmt := top 29
def N_is_plain_ring : List Str := ["web", "value"]
def m_is_plain_ring : Sf := (sRet (eR (eAnd (eFz (eFnC F_is_ring_of [false, false] (aCons (eFz (eFnC F_want_web [false] (aCons (eVar 0) aNil))) (aCons (eVar 1) aNil)))) (eOp2 dLtX (eOp2 dIx (eVar 1) (eC (.int 1))) (eOp2 dIx (eVar 1) (eOp1 dNeg (eC (.int 1))))))))
def F_is_plain_ring : Fn := runF 2 2 m_is_plain_ring
theorem sc_is_plain_ring : FnScope (["web", "value"] : List Str) ["web", "value"] (defScope s_is_plain_ring) := ⟨rfl, rfl, rfl, by decide +kernel, rfl, by decide +kernel, by decide +kernel⟩
abbrev s_want_round : Stmt := top 24
def N_want_round : List Str := ["web", "value"]
def m_want_round : Sf := (sIf (tNotF (tTr (eFz (eFnC F_is_round [false, false] (aCons (eVar 0) (aCons (eVar 1) aNil)))))) (sRaise1 "InvalidRing" "value" (eVar 1)) sNil)
def F_want_round : Fn := runF 2 2 m_want_round
theorem sc_want_round : FnScope (["web", "value"] : List Str) ["web", "value"] (defScope s_want_round) := ⟨rfl, rfl, rfl, by decide +kernel, rfl, by decide +kernel, by decide +kernel⟩
abbrev s_turned_ring : Stmt := top 25
def N_turned_ring : List Str := ["corners", "at"]
def m_turned_ring : Sf := (sSeq (sSet 1 (eR (eRm rtSeq fIndex (eVar 0) (aCons (eCall bMin (aCons (eVar 0) aNil)) aNil)))) (sRet (eR (eCall bTuple (aCons (eFz (eAddX (eCut (eVar 0) (oSome (eVar 1)) oNone) (eCut (eVar 0) oNone (oSome (eVar 1))))) aNil)))))
def F_turned_ring : Fn := runF 1 2 m_turned_ring
theorem sc_turned_ring : FnScope (["corners", "at"] : List Str) ["corners"] (defScope s_turned_ring) := ⟨rfl, rfl, rfl, by decide +kernel, rfl, by decide +kernel, by decide +kernel⟩
abbrev s_plain_of : Stmt := top 26
def N_plain_of : List Str := ["corners"]
def m_plain_of : Sf := (sRet (eR (eCall bMin (aCons (eFz (eFnC F_turned_ring [false] (aCons (eVar 0) aNil))) (aCons (eFz (eFnC F_turned_ring [false] (aCons (eFz (eBack (eVar 0) oNone oNone)) aNil))) aNil)))))
def F_plain_of : Fn := runF 1 1 m_plain_of
theorem sc_plain_of : FnScope (["corners"] : List Str) ["corners"] (defScope s_plain_of) := ⟨rfl, rfl, rfl, by decide +kernel, rfl, by decide +kernel, by decide +kernel⟩
abbrev s_plain_ring : Stmt := top 30
def N_plain_ring : List Str := ["web", "ring"]
def m_plain_ring : Sf := (sSeq (sDrop (eFz (eFnC F_want_web [false] (aCons (eVar 0) aNil)))) (sSeq (sDrop (eFz (eFnC F_want_round [false, false] (aCons (eVar 0) (aCons (eVar 1) aNil))))) (sRet (eFnC F_plain_of [false] (aCons (eVar 1) aNil)))))
def F_plain_ring : Fn := runF 2 2 m_plain_ring
theorem sc_plain_ring : FnScope (["web", "ring"] : List Str) ["web", "ring"] (defScope s_plain_ring) := ⟨rfl, rfl, rfl, by decide +kernel, rfl, by decide +kernel, by decide +kernel⟩
abbrev s_chord_in : Stmt := top 27
def N_chord_in : List Str := ["web", "ring", "found", "tie", "apart"]
def m_chord_in : Sf := (sSeq (sSet 2 (eLst aNil)) (sSeq (sFor (iSeq (eOp2 dIx (eVar 0) (eC (.int 2)))) (gSet 3) (sIf (tAndF (tOf (eOp2 dInS (eOp2 dIx (eVar 3) (eC (.int 0))) (eVar 1))) (tOf (eOp2 dInS (eOp2 dIx (eVar 3) (eC (.int 1))) (eVar 1)))) (sSeq (sSet 4 (eR (eCall bAbs (aCons (eOp2 dSub (eRm rtSeq fIndex (eVar 1) (aCons (eOp2 dIx (eVar 3) (eC (.int 0))) aNil)) (eRm rtSeq fIndex (eVar 1) (aCons (eOp2 dIx (eVar 3) (eC (.int 1))) aNil))) aNil)))) (sDrop (eMt mExt (eVar 2) (aCons (eFz (eIfR (tOf (eOp2 dNotInS (eVar 4) (eTup (aCons (eC (.int 1)) (aCons (eOp2 dSub (eCall bLen (aCons (eVar 1) aNil)) (eC (.int 1))) aNil))))) (eLst (aCons (eVar 3) aNil)) (eLst aNil))) aNil)))) sNil)) (sRet (eR (eIf (tOf (eOp2 dNe (eVar 2) (eFz (eLst aNil)))) (eOp2 dIx (eVar 2) (eC (.int 0))) (eC .none))))))
def F_chord_in : Fn := runF 2 5 m_chord_in
theorem sc_chord_in : FnScope (["web", "ring", "found", "tie", "apart"] : List Str) ["web", "ring"] (defScope s_chord_in) := ⟨rfl, rfl, rfl, by decide +kernel, rfl, by decide +kernel, by decide +kernel⟩
abbrev s_has_chord : Stmt := top 31
def N_has_chord : List Str := ["web", "ring"]
def m_has_chord : Sf := (sSeq (sDrop (eFz (eFnC F_want_web [false] (aCons (eVar 0) aNil)))) (sSeq (sDrop (eFz (eFnC F_want_round [false, false] (aCons (eVar 0) (aCons (eVar 1) aNil))))) (sRet (eR (eOp2 dIsN (eFz (eFnC F_chord_in [false, false] (aCons (eVar 0) (aCons (eVar 1) aNil)))) (eC .none))))))
def F_has_chord : Fn := runF 2 2 m_has_chord
theorem sc_has_chord : FnScope (["web", "ring"] : List Str) ["web", "ring"] (defScope s_has_chord) := ⟨rfl, rfl, rfl, by decide +kernel, rfl, by decide +kernel, by decide +kernel⟩
abbrev s__law_draw : Stmt := top 34
def N__law_draw : List Str := ["_law_pot_here", "_law_many", "_law_digit"]
def m__law_draw : Sf := (sSeq (sIf (tOf (eOp2 dGt (eOp2 dIx (eVar 0) (eC (.int 0))) (eC (.int 0)))) (sSeq (sAsg (eCall bDivmod (aCons (eOp2 dIx (eVar 0) (eC (.int 0))) (aCons (eVar 1) aNil))) (gTupF (gsCons (gSubF (eVar 0) (eC (.int 0))) (gsCons (gSet 2) gsNil)))) (sRet (eR (eVar 2)))) sNil) (sSeq (sAsg (eOp2 dMod (eCall bInt (aCons (eOp2 dAdd (eOp2 dMul (eOp2 dIx (eVar 0) (eC (.int 1))) (eC (.int 39373))) (eC (.int 1151))) aNil)) (eC (.int 2147483587))) (gSubF (eVar 0) (eC (.int 1)))) (sRet (eR (eOp2 dMod (eCall bInt (aCons (eOp2 dFdiv (eOp2 dMod (eCall bInt (aCons (eOp2 dMul (eOp2 dIx (eVar 0) (eC (.int 1))) (eOp2 dIx (eVar 0) (eC (.int 1)))) aNil)) (eC (.int 2147483563))) (eC (.int 17))) aNil)) (eVar 1))))))
def F__law_draw : Fn := runF 2 3 m__law_draw
theorem sc__law_draw : FnScope (["_law_pot_here", "_law_many", "_law_digit"] : List Str) ["_law_pot_here", "_law_many"] (defScope s__law_draw) := ⟨rfl, rfl, rfl, by decide +kernel, rfl, by decide +kernel, by decide +kernel⟩
abbrev s__law_pick : Stmt := top 35
def N__law_pick : List Str := ["_law_pot_here", "_law_some"]
def m__law_pick : Sf := (sRet (eR (eOp2 dIx (eVar 1) (eFz (eFnC F__law_draw [true, false] (aCons (eVar 0) (aCons (eCall bLen (aCons (eVar 1) aNil)) aNil)))))))
def F__law_pick : Fn := runF 2 2 m__law_pick
theorem sc__law_pick : FnScope (["_law_pot_here", "_law_some"] : List Str) ["_law_pot_here", "_law_some"] (defScope s__law_pick) := ⟨rfl, rfl, rfl, by decide +kernel, rfl, by decide +kernel, by decide +kernel⟩
abbrev s__law_web : Stmt := top 36
def N__law_web : List Str := ["_law_many", "_law_ties"]
def m__law_web : Sf := (sRet (eR (eTup (aCons (eC (.str "web")) (aCons (eVar 0) (aCons (eCall bTuple (aCons (eFz (eSortSet (eVar 1))) aNil)) aNil))))))
def F__law_web : Fn := runF 2 2 m__law_web
theorem sc__law_web : FnScope (["_law_many", "_law_ties"] : List Str) ["_law_many", "_law_ties"] (defScope s__law_web) := ⟨rfl, rfl, rfl, by decide +kernel, rfl, by decide +kernel, by decide +kernel⟩
abbrev s__law_drawn_ties : Stmt := top 37
def N__law_drawn_ties : List Str := ["_law_pot_here", "_law_many", "_law_part", "_law_found", "_law_other", "_law_one"]
def m__law_drawn_ties : Sf := (sSeq (sSet 3 (eLst aNil)) (sSeq (sFor (iRng1F (aCons (eVar 1) aNil)) (gSet 4) (sFor (iRng1F (aCons (eVar 4) aNil)) (gSet 5) (sIf (tOf (eOp2 dLtX (eFz (eFnC F__law_draw [true, false] (aCons (eVar 0) (aCons (eC (.int 12)) aNil)))) (eVar 2))) (sDrop (eMt mApp (eVar 3) (aCons (eTup (aCons (eVar 5) (aCons (eVar 4) aNil))) aNil))) sNil))) (sRet (eCallN bSortedS (aCons (eVar 3) aNil)))))
def F__law_drawn_ties : Fn := runF 3 6 m__law_drawn_ties
theorem sc__law_drawn_ties : FnScope (["_law_pot_here", "_law_many", "_law_part", "_law_found", "_law_other", "_law_one"] : List Str) ["_law_pot_here", "_law_many", "_law_part"] (defScope s__law_drawn_ties) := ⟨rfl, rfl, rfl, by decide +kernel, rfl, by decide +kernel, by decide +kernel⟩
abbrev s__law_mixed : Stmt := top 38
def N__law_mixed : List Str := ["_law_pot_here", "_law_some", "_law_left", "_law_found", "_law_turn"]
def m__law_mixed : Sf := (sSeq (sPar 2 3 (eCallN bList (aCons (eVar 1) aNil)) (eLst aNil)) (sSeq (sFor (iRng1F (aCons (eCall bLen (aCons (eVar 1) aNil)) aNil)) (gSet 4) (sDrop (eMt mApp (eVar 3) (aCons (eMt mPopAt (eVar 2) (aCons (eFz (eFnC F__law_draw [true, false] (aCons (eVar 0) (aCons (eCall bLen (aCons (eVar 2) aNil)) aNil)))) aNil)) aNil)))) (sRet (eR (eVar 3)))))
def F__law_mixed : Fn := runF 2 5 m__law_mixed
theorem sc__law_mixed : FnScope (["_law_pot_here", "_law_some", "_law_left", "_law_found", "_law_turn"] : List Str) ["_law_pot_here", "_law_some"] (defScope s__law_mixed) := ⟨rfl, rfl, rfl, by decide +kernel, rfl, by decide +kernel, by decide +kernel⟩
abbrev s__law_plain : Stmt := top 39
def N__law_plain : List Str := ["_law_corners", "_law_at", "_law_near"]
def m__law_plain : Sf := (sSeq (sSet 1 (eR (eRm rtSeq fIndex (eVar 0) (aCons (eCall bMin (aCons (eVar 0) aNil)) aNil)))) (sSeq (sSet 2 (eR (eCall bTuple (aCons (eFz (eAddX (eCut (eVar 0) (oSome (eVar 1)) oNone) (eCut (eVar 0) oNone (oSome (eVar 1))))) aNil)))) (sRet (eR (eCall bMin (aCons (eVar 2) (aCons (eFz (eAddX (eCut (eVar 2) oNone (oSome (eC (.int 1)))) (eBack (eVar 2) oNone (oSome (eC (.int 0)))))) aNil)))))))
def F__law_plain : Fn := runF 1 3 m__law_plain
theorem sc__law_plain : FnScope (["_law_corners", "_law_at", "_law_near"] : List Str) ["_law_corners"] (defScope s__law_plain) := ⟨rfl, rfl, rfl, by decide +kernel, rfl, by decide +kernel, by decide +kernel⟩
abbrev s__law_right : Stmt := top 40
def N__law_right : List Str := ["_law_pot_here", "_law_turn", "_law_many", "_law_corners", "_law_pairs", "_law_sides", "_law_more", "_law_web_here", "_law_due", "_law_at", "_law_told", "_law_other", "_law_across", "_law_is_so", "_law_pair", "_law_tie"]
def m__law_right : Sf := (sSeq (sFor (iRng1F (aCons (eC (.int 4)) aNil)) (gSet 1) (sSeq (sSet 2 (eR (eOp2 dAdd (eC (.int 3)) (eFz (eFnC F__law_draw [true, false] (aCons (eVar 0) (aCons (eC (.int 6)) aNil))))))) (sSeq (sSet 3 (eCut (eFz (eFnC F__law_mixed [true, false] (aCons (eVar 0) (aCons (eFz (eLrg1 (eVar 2))) aNil)))) oNone (oSome (eOp2 dAdd (eC (.int 3)) (eFz (eFnC F__law_draw [true, false] (aCons (eVar 0) (aCons (eOp2 dSub (eVar 2) (eC (.int 2))) aNil)))))))) (sSeq (sSet 4 (eLz (aCons (eVar 3) (aCons (eFz (eAddX (eCut (eVar 3) (oSome (eC (.int 1))) oNone) (eCut (eVar 3) oNone (oSome (eC (.int 1)))))) aNil)))) (sSeq (sSet 5 (eLc (iSeq (eVar 4)) (gSet 14) tYesF (eTup (aCons (eCall bMin (aCons (eVar 14) aNil)) (aCons (eCall bMaxS (aCons (eVar 14) aNil)) aNil))) [14])) (sSeq (sSet 6 (eFnC F__law_drawn_ties [true, false, false] (aCons (eVar 0) (aCons (eVar 2) (aCons (eFz (eFnC F__law_pick [true, false] (aCons (eVar 0) (aCons (eFz (eLst (aCons (eC (.int 0)) (aCons (eC (.int 1)) (aCons (eC (.int 4)) aNil))))) aNil)))) aNil))))) (sSeq (sPar 7 8 (eFnC F__law_web [false, false] (aCons (eVar 2) (aCons (eFz (eAddX (eR (eVar 5)) (eR (eVar 6)))) aNil))) (eFnC F__law_plain [false] (aCons (eVar 3) aNil))) (sSeq (sSet 9 (eFnC F__law_draw [true, false] (aCons (eVar 0) (aCons (eCall bLen (aCons (eVar 3) aNil)) aNil)))) (sSeq (sSet 10 (eAddX (eCut (eVar 3) (oSome (eVar 9)) oNone) (eCut (eVar 3) oNone (oSome (eVar 9))))) (sSeq (sSet 10 (eR (eIf (tOf (eOp2 dEq (eFz (eFnC F__law_draw [true, false] (aCons (eVar 0) (aCons (eC (.int 2)) aNil)))) (eC (.int 0)))) (eCall bTuple (aCons (eFz (eBack (eVar 10) oNone oNone)) aNil)) (eCall bTuple (aCons (eVar 10) aNil))))) (sSeq (sIf (tOrF (tOf (eOp2 dNe (eFz (eFnC F_plain_ring [false, false] (aCons (eVar 7) (aCons (eVar 10) aNil)))) (eVar 8))) (tOf (eOp2 dNe (eFz (eFnK F_plain_ring [false, false] [1, 0] [] 0 2 aNil (aCons (eVar 10) (aCons (eVar 7) aNil)))) (eVar 8)))) (sRet (eR (eC (.bool false)))) sNil) (sSeq (sSet 11 (eAddX (eCut (eVar 8) oNone (oSome (eC (.int 1)))) (eBack (eVar 8) oNone (oSome (eC (.int 0)))))) (sSeq (sIf (tOf (eOp2 dNe (eCall bRepr (aCons (eFz (eLst (aCons (eFz (eFnC F_is_ring [false, false] (aCons (eVar 7) (aCons (eVar 8) aNil)))) (aCons (eFz (eFnC F_is_plain_ring [false, false] (aCons (eVar 7) (aCons (eVar 8) aNil)))) (aCons (eFz (eFnC F_is_ring [false, false] (aCons (eVar 7) (aCons (eVar 11) aNil)))) (aCons (eFz (eFnC F_is_plain_ring [false, false] (aCons (eVar 7) (aCons (eVar 11) aNil)))) aNil)))))) aNil)) (eCall bRepr (aCons (eFz (eLst (aCons (eC (.bool true)) (aCons (eC (.bool true)) (aCons (eC (.bool true)) (aCons (eC (.bool false)) aNil)))))) aNil)))) (sRet (eR (eC (.bool false)))) sNil) (sSeq (sSet 12 (eLc (iSeq (eVar 6)) (gSet 15) (tAndF (tOf (eOp2 dInS (eOp2 dIx (eVar 15) (eC (.int 0))) (eVar 3))) (tAndF (tOf (eOp2 dInS (eOp2 dIx (eVar 15) (eC (.int 1))) (eVar 3))) (tOf (eOp2 dNotInS (eVar 15) (eVar 5))))) (eVar 15) [15])) (sSeq (sSet 13 (eR (eOp2 dNe (eVar 12) (eFz (eLst aNil))))) (sIf (tOf (eOp2 dNe (eCall bRepr (aCons (eFz (eLst (aCons (eFz (eFnC F_has_chord [false, false] (aCons (eVar 7) (aCons (eVar 10) aNil)))) (aCons (eFz (eFnC F_has_chord [false, false] (aCons (eVar 7) (aCons (eVar 8) aNil)))) (aCons (eFz (eFnK F_has_chord [false, false] [1, 0] [] 0 2 aNil (aCons (eVar 11) (aCons (eVar 7) aNil)))) aNil))))) aNil)) (eCall bRepr (aCons (eFz (eRep (eLst (aCons (eVar 13) aNil)) (eC (.int 3)))) aNil)))) (sRet (eR (eC (.bool false)))) sNil)))))))))))))))) (sRet (eR (eC (.bool true)))))
def F__law_right : Fn := runF 1 16 m__law_right
theorem sc__law_right : FnScope (["_law_pot_here", "_law_turn", "_law_many", "_law_corners", "_law_pairs", "_law_sides", "_law_more", "_law_web_here", "_law_due", "_law_at", "_law_told", "_law_other", "_law_across", "_law_is_so", "_law_pair", "_law_tie"] : List Str) ["_law_pot_here"] (defScope s__law_right) := ⟨rfl, rfl, rfl, by decide +kernel, rfl, by decide +kernel, by decide +kernel⟩
abbrev s_law : Stmt := top 41
def N_law : List Str := ["_law_script"]
def m_law : Sf := (sRet (eFn1 F__law_right (eFnC F__law_pot [false, false] (aCons (eVar 0) (aCons (eC (.int 0)) aNil)))))
def F_law : Fn := runF 1 1 m_law
theorem sc_law : FnScope (["_law_script"] : List Str) ["_law_script"] (defScope s_law) := ⟨rfl, rfl, rfl, by decide +kernel, rfl, by decide +kernel, by decide +kernel⟩
section
variable {P : Program} {w : World} {K : PySem.W.Frag} {mg : Str → Option Value} {base : Heap} {f : Addr} {fd : FuncData}
theorem r__law_pot (D : FnP K "_law_pot" s__law_pot f fd)
    (h_max : mg "max" = none)
    (h_int : mg "int" = none)
    (h_len : mg "len" = none)
    (h_abs : mg "abs" = none) : FnG P w K mg base 1 f fd ["_law_script", "_law_k"] (spF K mg 2 F__law_pot) := by
  exact fn_mk (N := ["_law_script", "_law_k", "_law_cell"]) (ps := ["_law_script", "_law_k"]) D sc__law_pot fun cdv A outer s H E hr gu Φ => (s_cons (s_set 2 sc__law_pot.nd (d_r (d_op op_dAdd (d_op op_dMul d_int (d_var 1)) d_int))) (s_cons (s_if (t_cmp op_dLt (d_var 1) (d_callB cr_dLen h_len (d_acons (d_var 0) d_anil)) (nomark _)) (s_one (s_set 2 sc__law_pot.nd (d_r (d_callB cr_dAbs h_abs (d_acons (d_ix (d_var 0) (d_var 1) (fun _ _ => rfl)) d_anil))))) s_nil) (s_one (s_ret (d_lst (d_acons (d_callB (cr_dMax2 rfl) h_max (d_acons d_int (d_acons (d_op op_dSub (d_var 2) (d_op op_dPow d_int d_int)) d_anil))) (d_acons (d_op op_dAdd (d_op op_dMod (d_callTy cr_dInt h_int (d_acons (d_op op_dAdd (d_op op_dAdd (d_op op_dMul (d_op op_dMod (d_callTy cr_dInt h_int (d_acons (d_var 2) d_anil)) d_int) d_int) (d_op op_dMul d_int (d_var 1))) d_int) d_anil)) d_int) d_int) d_anil)))))))
theorem r_is_integer (D : FnP K "is_integer" s_is_integer f fd)
    (h_isinstance : mg "isinstance" = none)
    (h_bool : mg "bool" = none)
    (h_int : mg "int" = none) : FnG P w K mg base 1 f fd ["value"] (spF K mg 1 F_is_integer) := by
  exact fn_mk (N := ["value"]) (ps := ["value"]) D sc_is_integer fun cdv A outer s H E hr gu Φ => (s_one (s_ret (d_r (d_and (d_isi .int h_isinstance h_int (d_var 0)) (d_bone (d_not (d_isi .bool h_isinstance h_bool (d_var 0))))))))
theorem r_is_count (D : FnP K "is_count" s_is_count f fd)
    {a_is_integer : Addr} {fd_is_integer : FuncData} (D_is_integer : FnP K "is_integer" s_is_integer a_is_integer fd_is_integer) (g_is_integer : mg "is_integer" = some (.ref a_is_integer)) (R_is_integer : FnG P w K mg base 1 a_is_integer fd_is_integer ["value"] (spF K mg 1 F_is_integer)) : FnG P w K mg base 2 f fd ["value"] (spF K mg 1 F_is_count) := by
  have b_is_integer : Binds K fd_is_integer ["value"] [] := D_is_integer.bindsN fun _ _ _ _ _ _ us hl => match us, hl with | [_], _ => rfl
  exact fn_mk (N := ["value"]) (ps := ["value"]) D sc_is_count fun cdv A outer s H E hr gu Φ => (s_one (s_ret (d_r (d_and (d_fz (d_call [false] R_is_integer (hr.mono (by omega)) gu g_is_integer D_is_integer.kp b_is_integer (takes_of rfl rfl rfl rfl) (d_acons (d_var 0) d_anil))) (d_bone (d_cmp op_dGe (d_var 0) d_int (nomark _)))))))
theorem r_is_tie (D : FnP K "is_tie" s_is_tie f fd)
    {a_is_count : Addr} {fd_is_count : FuncData} (D_is_count : FnP K "is_count" s_is_count a_is_count fd_is_count) (g_is_count : mg "is_count" = some (.ref a_is_count)) (R_is_count : FnG P w K mg base 2 a_is_count fd_is_count ["value"] (spF K mg 1 F_is_count))
    (h_all : mg "all" = none)
    (h_len : mg "len" = none)
    (h_isinstance : mg "isinstance" = none)
    (h_tuple : mg "tuple" = none) : FnG P w K mg base 3 f fd ["many", "value"] (spF K mg 2 F_is_tie) := by
  have b_is_count : Binds K fd_is_count ["value"] [] := D_is_count.bindsN fun _ _ _ _ _ _ us hl => match us, hl with | [_], _ => rfl
  exact fn_mk (N := ["many", "value", "one"]) (ps := ["many", "value"]) D sc_is_tie fun cdv A outer s H E hr gu Φ => (s_cons (s_if (t_w (w_or (t_not (t_tr (d_isi .tuple h_isinstance h_tuple (d_var 1)))) (w_or (t_cmp (op_dNe hr.units) (d_callB cr_dLen h_len (d_acons (d_var 1) d_anil)) d_int (nomark _)) (w_or1 (t_not (t_tr (d_callB (cr_dAll rfl) h_all (d_acons (d_fz (d_lc (own := [("one", 2)]) rfl sc_is_tie.nd (i_seq (d_var 1)) (blkOk_by (by first | (show blkC ["many", "value", "one"] (defScope s_is_tie) _ _ = true; decide +kernel) | kernel_rfl | rfl)) (fun Ψ s H C cl fp => (g_name 2 sc_is_tie.nd)) (fun Ψ s H C cl fp => t_yes) (fun Ψ s H C cl fp => (d_fz (d_call [false] R_is_count (hr.mono (by omega)) gu g_is_count D_is_count.kp b_is_count takes0 (d_acons (d_var 2) d_anil)))))) d_anil)))))))) (s_one (s_ret (d_r d_bool))) s_nil) (s_one (s_ret (d_r (d_chain (op_dLtX hr.units) (op_dLtX hr.units) (d_ix (d_var 1) d_int (fun _ _ => rfl)) (d_ix (d_var 1) d_int (fun _ _ => rfl)) (d_var 0))))))
theorem r_is_many (D : FnP K "is_many" s_is_many f fd)
    {u_MOST_CORNERS : Value} {w_MOST_CORNERS : V} (v_MOST_CORNERS : (mg "MOST_CORNERS" = some u_MOST_CORNERS ∧ RelV w_MOST_CORNERS u_MOST_CORNERS) ∧ ∀ G, Dq K G w_MOST_CORNERS (.int (20)))
    {a_is_count : Addr} {fd_is_count : FuncData} (D_is_count : FnP K "is_count" s_is_count a_is_count fd_is_count) (g_is_count : mg "is_count" = some (.ref a_is_count)) (R_is_count : FnG P w K mg base 2 a_is_count fd_is_count ["value"] (spF K mg 1 F_is_count)) : FnG P w K mg base 3 f fd ["value"] (spF K mg 1 F_is_many) := by
  have b_is_count : Binds K fd_is_count ["value"] [] := D_is_count.bindsN fun _ _ _ _ _ _ us hl => match us, hl with | [_], _ => rfl
  exact fn_mk (N := ["value"]) (ps := ["value"]) D sc_is_many fun cdv A outer s H E hr gu Φ => (s_one (s_ret (d_r (d_and (d_fz (d_call [false] R_is_count (hr.mono (by omega)) gu g_is_count D_is_count.kp b_is_count (takes_of rfl rfl rfl rfl) (d_acons (d_var 0) d_anil))) (d_bone (d_chain op_dLe op_dLe d_int (d_var 0) (d_glob v_MOST_CORNERS.1.1 v_MOST_CORNERS.1.2 v_MOST_CORNERS.2)))))))
theorem r_is_web_value (D : FnP K "is_web_value" s_is_web_value f fd)
    (h_zip : mg "zip" = none)
    (h_all : mg "all" = none)
    {a_is_tie : Addr} {fd_is_tie : FuncData} (D_is_tie : FnP K "is_tie" s_is_tie a_is_tie fd_is_tie) (g_is_tie : mg "is_tie" = some (.ref a_is_tie)) (R_is_tie : FnG P w K mg base 3 a_is_tie fd_is_tie ["many", "value"] (spF K mg 2 F_is_tie))
    (h_len : mg "len" = none)
    {u_MOST_TIES : Value} {w_MOST_TIES : V} (v_MOST_TIES : (mg "MOST_TIES" = some u_MOST_TIES ∧ RelV w_MOST_TIES u_MOST_TIES) ∧ ∀ G, Dq K G w_MOST_TIES (.int (60)))
    (h_isinstance : mg "isinstance" = none)
    (h_tuple : mg "tuple" = none)
    {a_is_many : Addr} {fd_is_many : FuncData} (D_is_many : FnP K "is_many" s_is_many a_is_many fd_is_many) (g_is_many : mg "is_many" = some (.ref a_is_many)) (R_is_many : FnG P w K mg base 3 a_is_many fd_is_many ["value"] (spF K mg 1 F_is_many))
    {u_WEB : Value} {w_WEB : V} (v_WEB : (mg "WEB" = some u_WEB ∧ RelV w_WEB u_WEB) ∧ ∀ G, Dq K G w_WEB (.str "web"))
    (h_str : mg "str" = none) : FnG P w K mg base 4 f fd ["value"] (spF K mg 1 F_is_web_value) := by
  have b_is_tie : Binds K fd_is_tie ["many", "value"] [] := D_is_tie.bindsN fun _ _ _ _ _ _ us hl => match us, hl with | [_, _], _ => rfl
  have b_is_many : Binds K fd_is_many ["value"] [] := D_is_many.bindsN fun _ _ _ _ _ _ us hl => match us, hl with | [_], _ => rfl
  exact fn_mk (N := ["value", "many", "ties", "one", "other", "tie"]) (ps := ["value"]) D sc_is_web_value fun cdv A outer s H E hr gu Φ => (s_cons (s_if (t_w (w_or (t_not (t_tr (d_isi .tuple h_isinstance h_tuple (d_var 0)))) (w_or (t_cmp (op_dNe hr.units) (d_callB cr_dLen h_len (d_acons (d_var 0) d_anil)) d_int (nomark _)) (w_or (t_not (t_tr (d_isi .str h_isinstance h_str (d_ix (d_var 0) d_int (fun _ _ => rfl))))) (w_or1 (t_cmp (op_dNe hr.units) (d_ix (d_var 0) d_int (fun _ _ => rfl)) (d_glob v_WEB.1.1 v_WEB.1.2 v_WEB.2) (nomark _))))))) (s_one (s_ret (d_r d_bool))) s_nil) (s_cons (s_parT 1 2 rfl sc_is_web_value.nd (d_r (d_ix (d_var 0) d_int (fun _ _ => rfl))) (fun Φ => (d_r (d_ix (d_var 0) d_int (fun _ _ => rfl))))) (s_cons (s_if (t_w (w_or (t_not (t_tr (d_fz (d_call [false] R_is_many (hr.mono (by omega)) gu g_is_many D_is_many.kp b_is_many (takes_of rfl rfl rfl rfl) (d_acons (d_var 1) d_anil))))) (w_or (t_not (t_tr (d_isi .tuple h_isinstance h_tuple (d_var 2)))) (w_or1 (t_cmp op_dGt (d_callB cr_dLen h_len (d_acons (d_var 2) d_anil)) (d_glob v_MOST_TIES.1.1 v_MOST_TIES.1.2 v_MOST_TIES.2) (nomark _)))))) (s_one (s_ret (d_r d_bool))) s_nil) (s_cons (s_if (t_not (t_tr (d_callB (cr_dAll rfl) h_all (d_acons (d_fz (d_lc (own := [("tie", 5)]) rfl sc_is_web_value.nd (i_seq (d_var 2)) (blkOk_by (by first | (show blkC ["value", "many", "ties", "one", "other", "tie"] (defScope s_is_web_value) _ _ = true; decide +kernel) | kernel_rfl | rfl)) (fun Ψ s H C cl fp => (g_name 5 sc_is_web_value.nd)) (fun Ψ s H C cl fp => t_yes) (fun Ψ s H C cl fp => (d_fz (d_call [false, false] R_is_tie (hr.mono (by omega)) gu g_is_tie D_is_tie.kp b_is_tie takes0 (d_acons (d_var 1) (d_acons (d_var 5) d_anil))))))) d_anil)))) (s_one (s_ret (d_r d_bool))) s_nil) (s_one (s_ret (d_r (d_callB (cr_dAll rfl) h_all (d_acons (d_fz (d_lc (own := [("one", 3), ("other", 4)]) rfl sc_is_web_value.nd (i_zip2 h_zip (d_acons (d_var 2) (d_acons (d_fz (d_cut (d_var 2) (d_osome d_int) d_onone)) d_anil))) (blkOk_by (by first | (show blkC ["value", "many", "ties", "one", "other", "tie"] (defScope s_is_web_value) _ _ = true; decide +kernel) | kernel_rfl | rfl)) (fun Ψ s H C cl fp => (g_tup rfl (g_scons (g_name 3 sc_is_web_value.nd) (g_scons (g_name 4 sc_is_web_value.nd) g_snil)) (gs_len (gs_len gs_len0)))) (fun Ψ s H C cl fp => t_yes) (fun Ψ s H C cl fp => (d_cmp (op_dLtX hr.units) (d_var 3) (d_var 4) (nomark _))))) d_anil)))))))))
theorem r_want_web (D : FnP K "want_web" s_want_web f fd)
    {a_is_web_value : Addr} {fd_is_web_value : FuncData} (D_is_web_value : FnP K "is_web_value" s_is_web_value a_is_web_value fd_is_web_value) (g_is_web_value : mg "is_web_value" = some (.ref a_is_web_value)) (R_is_web_value : FnG P w K mg base 4 a_is_web_value fd_is_web_value ["value"] (spF K mg 1 F_is_web_value))
    {C_InvalidWeb : Addr} (o_InvalidWeb : ExR P w K mg base C_InvalidWeb "value") (g_InvalidWeb : mg "InvalidWeb" = some (.ref C_InvalidWeb)) : FnG P w K mg base 5 f fd ["value"] (spF K mg 1 F_want_web) := by
  have b_is_web_value : Binds K fd_is_web_value ["value"] [] := D_is_web_value.bindsN fun _ _ _ _ _ _ us hl => match us, hl with | [_], _ => rfl
  exact fn_mk (N := ["value"]) (ps := ["value"]) D sc_want_web fun cdv A outer s H E hr gu Φ => (s_cons (s_if (t_not (t_tr (d_fz (d_call [false] R_is_web_value (hr.mono (by omega)) gu g_is_web_value D_is_web_value.kp b_is_web_value (takes_of rfl rfl rfl rfl) (d_acons (d_var 0) d_anil))))) (s_one (s_raiseX o_InvalidWeb (hr.mono (by omega)) rfl (takes_of rfl rfl rfl rfl) g_InvalidWeb (d_var 0))) s_nil) (s_one (s_ret (d_r (d_var 0)))))
theorem r_tie_of (D : FnP K "tie_of" s_tie_of f fd)
    (h_min : mg "min" = none)
    (h_max : mg "max" = none) : FnG P w K mg base 1 f fd ["one", "other"] (spF K mg 2 F_tie_of) := by
  exact fn_mk (N := ["one", "other"]) (ps := ["one", "other"]) D sc_tie_of fun cdv A outer s H E hr gu Φ => (s_one (s_ret (d_r (d_tup (d_acons (d_callB (cr_dMin rfl hr.units) h_min (d_acons (d_var 0) (d_acons (d_var 1) d_anil))) (d_acons (d_callB (cr_dMaxS rfl hr.units) h_max (d_acons (d_var 0) (d_acons (d_var 1) d_anil))) d_anil))))))
theorem r_is_tied (D : FnP K "is_tied" s_is_tied f fd)
    {a_tie_of : Addr} {fd_tie_of : FuncData} (D_tie_of : FnP K "tie_of" s_tie_of a_tie_of fd_tie_of) (g_tie_of : mg "tie_of" = some (.ref a_tie_of)) (R_tie_of : FnG P w K mg base 1 a_tie_of fd_tie_of ["one", "other"] (spF K mg 2 F_tie_of)) : FnG P w K mg base 2 f fd ["web", "one", "other"] (spF K mg 3 F_is_tied) := by
  have b_tie_of : Binds K fd_tie_of ["one", "other"] [] := D_tie_of.bindsN fun _ _ _ _ _ _ us hl => match us, hl with | [_, _], _ => rfl
  exact fn_mk (N := ["web", "one", "other"]) (ps := ["web", "one", "other"]) D sc_is_tied fun cdv A outer s H E hr gu Φ => (s_one (s_ret (d_r (d_cmp (op_dInS (room65 hr)) (d_fz (d_call [false, false] R_tie_of (hr.mono (by omega)) gu g_tie_of D_tie_of.kp b_tie_of (takes_of rfl rfl rfl rfl) (d_acons (d_var 1) (d_acons (d_var 2) d_anil)))) (d_ix (d_var 0) d_int (fun _ _ => rfl)) (by with_unfolding_all rfl)))))
theorem r_is_list (D : FnP K "is_list" s_is_list f fd)
    (h_isinstance : mg "isinstance" = none)
    (h_list : mg "list" = none)
    (h_tuple : mg "tuple" = none) : FnG P w K mg base 1 f fd ["value"] (spF K mg 1 F_is_list) := by
  exact fn_mk (N := ["value"]) (ps := ["value"]) D sc_is_list fun cdv A outer s H E hr gu Φ => (s_one (s_ret (d_r (d_isi2 .list .tuple h_isinstance h_list h_tuple (d_var 0)))))
theorem r_is_corner (D : FnP K "is_corner" s_is_corner f fd)
    {a_is_count : Addr} {fd_is_count : FuncData} (D_is_count : FnP K "is_count" s_is_count a_is_count fd_is_count) (g_is_count : mg "is_count" = some (.ref a_is_count)) (R_is_count : FnG P w K mg base 2 a_is_count fd_is_count ["value"] (spF K mg 1 F_is_count)) : FnG P w K mg base 3 f fd ["web", "value"] (spF K mg 2 F_is_corner) := by
  have b_is_count : Binds K fd_is_count ["value"] [] := D_is_count.bindsN fun _ _ _ _ _ _ us hl => match us, hl with | [_], _ => rfl
  exact fn_mk (N := ["web", "value"]) (ps := ["web", "value"]) D sc_is_corner fun cdv A outer s H E hr gu Φ => (s_one (s_ret (d_r (d_and (d_fz (d_call [false] R_is_count (hr.mono (by omega)) gu g_is_count D_is_count.kp b_is_count (takes_of rfl rfl rfl rfl) (d_acons (d_var 1) d_anil))) (d_bone (d_cmp (op_dLtX hr.units) (d_var 1) (d_ix (d_var 0) d_int (fun _ _ => rfl)) (nomark _)))))))
theorem r_are_corners (D : FnP K "are_corners" s_are_corners f fd)
    (h_len : mg "len" = none)
    (h_set : mg "set" = none)
    {a_is_corner : Addr} {fd_is_corner : FuncData} (D_is_corner : FnP K "is_corner" s_is_corner a_is_corner fd_is_corner) (g_is_corner : mg "is_corner" = some (.ref a_is_corner)) (R_is_corner : FnG P w K mg base 3 a_is_corner fd_is_corner ["web", "value"] (spF K mg 2 F_is_corner))
    (h_all : mg "all" = none)
    {a_is_list : Addr} {fd_is_list : FuncData} (D_is_list : FnP K "is_list" s_is_list a_is_list fd_is_list) (g_is_list : mg "is_list" = some (.ref a_is_list)) (R_is_list : FnG P w K mg base 1 a_is_list fd_is_list ["value"] (spF K mg 1 F_is_list)) : FnG P w K mg base 4 f fd ["web", "value"] (spF K mg 2 F_are_corners) := by
  have b_is_list : Binds K fd_is_list ["value"] [] := D_is_list.bindsN fun _ _ _ _ _ _ us hl => match us, hl with | [_], _ => rfl
  have b_is_corner : Binds K fd_is_corner ["web", "value"] [] := D_is_corner.bindsN fun _ _ _ _ _ _ us hl => match us, hl with | [_, _], _ => rfl
  exact fn_mk (N := ["web", "value", "one"]) (ps := ["web", "value"]) D sc_are_corners fun cdv A outer s H E hr gu Φ => (s_one (s_ret (d_r (d_and (d_fz (d_call [false] R_is_list (hr.mono (by omega)) gu g_is_list D_is_list.kp b_is_list (takes_of rfl rfl rfl rfl) (d_acons (d_var 1) d_anil))) (d_and (d_callB (cr_dAll rfl) h_all (d_acons (d_fz (d_lc (own := [("one", 2)]) rfl sc_are_corners.nd (i_seq (d_var 1)) (blkOk_by (by first | (show blkC ["web", "value", "one"] (defScope s_are_corners) _ _ = true; decide +kernel) | kernel_rfl | rfl)) (fun Ψ s H C cl fp => (g_name 2 sc_are_corners.nd)) (fun Ψ s H C cl fp => t_yes) (fun Ψ s H C cl fp => (d_fz (d_call [false, false] R_is_corner (hr.mono (by omega)) gu g_is_corner D_is_corner.kp b_is_corner takes0 (d_acons (d_var 0) (d_acons (d_var 2) d_anil))))))) d_anil)) (d_bone (d_cmp (op_dEq hr.units) (d_lenSet rfl hr.units h_len h_set (d_var 1)) (d_callB cr_dLen h_len (d_acons (d_var 1) d_anil)) (nomark _))))))))
theorem r_is_way_of (D : FnP K "is_way_of" s_is_way_of f fd)
    (h_zip : mg "zip" = none)
    {a_is_tied : Addr} {fd_is_tied : FuncData} (D_is_tied : FnP K "is_tied" s_is_tied a_is_tied fd_is_tied) (g_is_tied : mg "is_tied" = some (.ref a_is_tied)) (R_is_tied : FnG P w K mg base 2 a_is_tied fd_is_tied ["web", "one", "other"] (spF K mg 3 F_is_tied))
    (h_all : mg "all" = none)
    {a_are_corners : Addr} {fd_are_corners : FuncData} (D_are_corners : FnP K "are_corners" s_are_corners a_are_corners fd_are_corners) (g_are_corners : mg "are_corners" = some (.ref a_are_corners)) (R_are_corners : FnG P w K mg base 4 a_are_corners fd_are_corners ["web", "value"] (spF K mg 2 F_are_corners))
    (h_isinstance : mg "isinstance" = none)
    (h_tuple : mg "tuple" = none) : FnG P w K mg base 5 f fd ["web", "value"] (spF K mg 2 F_is_way_of) := by
  have b_is_tied : Binds K fd_is_tied ["web", "one", "other"] [] := D_is_tied.bindsN fun _ _ _ _ _ _ us hl => match us, hl with | [_, _, _], _ => rfl
  have b_are_corners : Binds K fd_are_corners ["web", "value"] [] := D_are_corners.bindsN fun _ _ _ _ _ _ us hl => match us, hl with | [_, _], _ => rfl
  exact fn_mk (N := ["web", "value", "one", "other"]) (ps := ["web", "value"]) D sc_is_way_of fun cdv A outer s H E hr gu Φ => (s_cons (s_if (t_w (w_or (t_not (t_tr (d_isi .tuple h_isinstance h_tuple (d_var 1)))) (w_or (t_cmp (op_dEq hr.units) (d_var 1) (d_tup d_anil) (nomark _)) (w_or1 (t_not (t_tr (d_fz (d_call [false, false] R_are_corners (hr.mono (by omega)) gu g_are_corners D_are_corners.kp b_are_corners (takes_of rfl rfl rfl rfl) (d_acons (d_var 0) (d_acons (d_var 1) d_anil)))))))))) (s_one (s_ret (d_r d_bool))) s_nil) (s_one (s_ret (d_r (d_callB (cr_dAll rfl) h_all (d_acons (d_fz (d_lc (own := [("one", 2), ("other", 3)]) rfl sc_is_way_of.nd (i_zip2 h_zip (d_acons (d_var 1) (d_acons (d_fz (d_cut (d_var 1) (d_osome d_int) d_onone)) d_anil))) (blkOk_by (by first | (show blkC ["web", "value", "one", "other"] (defScope s_is_way_of) _ _ = true; decide +kernel) | kernel_rfl | rfl)) (fun Ψ s H C cl fp => (g_tup rfl (g_scons (g_name 2 sc_is_way_of.nd) (g_scons (g_name 3 sc_is_way_of.nd) g_snil)) (gs_len (gs_len gs_len0)))) (fun Ψ s H C cl fp => t_yes) (fun Ψ s H C cl fp => (d_fz (d_call [false, false, false] R_is_tied (hr.mono (by omega)) gu g_is_tied D_is_tied.kp b_is_tied takes0 (d_acons (d_var 0) (d_acons (d_var 2) (d_acons (d_var 3) d_anil)))))))) d_anil))))))
theorem r_is_round (D : FnP K "is_round" s_is_round f fd)
    {a_is_tied : Addr} {fd_is_tied : FuncData} (D_is_tied : FnP K "is_tied" s_is_tied a_is_tied fd_is_tied) (g_is_tied : mg "is_tied" = some (.ref a_is_tied)) (R_is_tied : FnG P w K mg base 2 a_is_tied fd_is_tied ["web", "one", "other"] (spF K mg 3 F_is_tied))
    {a_is_way_of : Addr} {fd_is_way_of : FuncData} (D_is_way_of : FnP K "is_way_of" s_is_way_of a_is_way_of fd_is_way_of) (g_is_way_of : mg "is_way_of" = some (.ref a_is_way_of)) (R_is_way_of : FnG P w K mg base 5 a_is_way_of fd_is_way_of ["web", "value"] (spF K mg 2 F_is_way_of))
    (h_len : mg "len" = none)
    (h_isinstance : mg "isinstance" = none)
    (h_tuple : mg "tuple" = none) : FnG P w K mg base 6 f fd ["web", "value"] (spF K mg 2 F_is_round) := by
  have b_is_tied : Binds K fd_is_tied ["web", "one", "other"] [] := D_is_tied.bindsN fun _ _ _ _ _ _ us hl => match us, hl with | [_, _, _], _ => rfl
  have b_is_way_of : Binds K fd_is_way_of ["web", "value"] [] := D_is_way_of.bindsN fun _ _ _ _ _ _ us hl => match us, hl with | [_, _], _ => rfl
  exact fn_mk (N := ["web", "value"]) (ps := ["web", "value"]) D sc_is_round fun cdv A outer s H E hr gu Φ => (s_cons (s_if (t_w (w_or (t_not (t_tr (d_isi .tuple h_isinstance h_tuple (d_var 1)))) (w_or (t_cmp op_dLt (d_callB cr_dLen h_len (d_acons (d_var 1) d_anil)) d_int (nomark _)) (w_or1 (t_not (t_tr (d_fz (d_call [false, false] R_is_way_of (hr.mono (by omega)) gu g_is_way_of D_is_way_of.kp b_is_way_of (takes_of rfl rfl rfl rfl) (d_acons (d_var 0) (d_acons (d_var 1) d_anil)))))))))) (s_one (s_ret (d_r d_bool))) s_nil) (s_one (s_ret (d_call [false, false, false] R_is_tied (hr.mono (by omega)) gu g_is_tied D_is_tied.kp b_is_tied (takes_of rfl rfl rfl rfl) (d_acons (d_var 0) (d_acons (d_ix (d_var 1) (d_un op_dNeg d_int) (fun _ _ => rfl)) (d_acons (d_ix (d_var 1) d_int (fun _ _ => rfl)) d_anil)))))))
theorem r_is_ring_of (D : FnP K "is_ring_of" s_is_ring_of f fd)
    (h_min : mg "min" = none)
    {a_is_round : Addr} {fd_is_round : FuncData} (D_is_round : FnP K "is_round" s_is_round a_is_round fd_is_round) (g_is_round : mg "is_round" = some (.ref a_is_round)) (R_is_round : FnG P w K mg base 6 a_is_round fd_is_round ["web", "value"] (spF K mg 2 F_is_round)) : FnG P w K mg base 7 f fd ["web", "value"] (spF K mg 2 F_is_ring_of) := by
  have b_is_round : Binds K fd_is_round ["web", "value"] [] := D_is_round.bindsN fun _ _ _ _ _ _ us hl => match us, hl with | [_, _], _ => rfl
  exact fn_mk (N := ["web", "value"]) (ps := ["web", "value"]) D sc_is_ring_of fun cdv A outer s H E hr gu Φ => (s_one (s_ret (d_r (d_and (d_fz (d_call [false, false] R_is_round (hr.mono (by omega)) gu g_is_round D_is_round.kp b_is_round (takes_of rfl rfl rfl rfl) (d_acons (d_var 0) (d_acons (d_var 1) d_anil)))) (d_bone (d_cmp (op_dEq hr.units) (d_ix (d_var 1) d_int (fun _ _ => rfl)) (d_callB (cr_dMin rfl hr.units) h_min (d_acons (d_var 1) d_anil)) (nomark _)))))))
theorem r_is_ring (D : FnP K "is_ring" s_is_ring f fd)
    {a_is_ring_of : Addr} {fd_is_ring_of : FuncData} (D_is_ring_of : FnP K "is_ring_of" s_is_ring_of a_is_ring_of fd_is_ring_of) (g_is_ring_of : mg "is_ring_of" = some (.ref a_is_ring_of)) (R_is_ring_of : FnG P w K mg base 7 a_is_ring_of fd_is_ring_of ["web", "value"] (spF K mg 2 F_is_ring_of))
    {a_want_web : Addr} {fd_want_web : FuncData} (D_want_web : FnP K "want_web" s_want_web a_want_web fd_want_web) (g_want_web : mg "want_web" = some (.ref a_want_web)) (R_want_web : FnG P w K mg base 5 a_want_web fd_want_web ["value"] (spF K mg 1 F_want_web)) : FnG P w K mg base 8 f fd ["web", "value"] (spF K mg 2 F_is_ring) := by
  have b_want_web : Binds K fd_want_web ["value"] [] := D_want_web.bindsN fun _ _ _ _ _ _ us hl => match us, hl with | [_], _ => rfl
  have b_is_ring_of : Binds K fd_is_ring_of ["web", "value"] [] := D_is_ring_of.bindsN fun _ _ _ _ _ _ us hl => match us, hl with | [_, _], _ => rfl
  exact fn_mk (N := ["web", "value"]) (ps := ["web", "value"]) D sc_is_ring fun cdv A outer s H E hr gu Φ => (s_one (s_ret (d_call [false, false] R_is_ring_of (hr.mono (by omega)) gu g_is_ring_of D_is_ring_of.kp b_is_ring_of (takes_of rfl rfl rfl rfl) (d_acons (d_fz (d_call [false] R_want_web (hr.mono (by omega)) gu g_want_web D_want_web.kp b_want_web (takes_of rfl rfl rfl rfl) (d_acons (d_var 0) d_anil))) (d_acons (d_var 1) d_anil)))))
theorem r_is_plain_ring (D : FnP K "is_plain_ring" s_is_plain_ring f fd)
    {a_is_ring_of : Addr} {fd_is_ring_of : FuncData} (D_is_ring_of : FnP K "is_ring_of" s_is_ring_of a_is_ring_of fd_is_ring_of) (g_is_ring_of : mg "is_ring_of" = some (.ref a_is_ring_of)) (R_is_ring_of : FnG P w K mg base 7 a_is_ring_of fd_is_ring_of ["web", "value"] (spF K mg 2 F_is_ring_of))
    {a_want_web : Addr} {fd_want_web : FuncData} (D_want_web : FnP K "want_web" s_want_web a_want_web fd_want_web) (g_want_web : mg "want_web" = some (.ref a_want_web)) (R_want_web : FnG P w K mg base 5 a_want_web fd_want_web ["value"] (spF K mg 1 F_want_web)) : FnG P w K mg base 8 f fd ["web", "value"] (spF K mg 2 F_is_plain_ring) := by
  have b_want_web : Binds K fd_want_web ["value"] [] := D_want_web.bindsN fun _ _ _ _ _ _ us hl => match us, hl with | [_], _ => rfl
  have b_is_ring_of : Binds K fd_is_ring_of ["web", "value"] [] := D_is_ring_of.bindsN fun _ _ _ _ _ _ us hl => match us, hl with | [_, _], _ => rfl
  exact fn_mk (N := ["web", "value"]) (ps := ["web", "value"]) D sc_is_plain_ring fun cdv A outer s H E hr gu Φ => (s_one (s_ret (d_r (d_and (d_fz (d_call [false, false] R_is_ring_of (hr.mono (by omega)) gu g_is_ring_of D_is_ring_of.kp b_is_ring_of (takes_of rfl rfl rfl rfl) (d_acons (d_fz (d_call [false] R_want_web (hr.mono (by omega)) gu g_want_web D_want_web.kp b_want_web (takes_of rfl rfl rfl rfl) (d_acons (d_var 0) d_anil))) (d_acons (d_var 1) d_anil)))) (d_bone (d_cmp (op_dLtX hr.units) (d_ix (d_var 1) d_int (fun _ _ => rfl)) (d_ix (d_var 1) (d_un op_dNeg d_int) (fun _ _ => rfl)) (nomark _)))))))
theorem r_want_round (D : FnP K "want_round" s_want_round f fd)
    {a_is_round : Addr} {fd_is_round : FuncData} (D_is_round : FnP K "is_round" s_is_round a_is_round fd_is_round) (g_is_round : mg "is_round" = some (.ref a_is_round)) (R_is_round : FnG P w K mg base 6 a_is_round fd_is_round ["web", "value"] (spF K mg 2 F_is_round))
    {C_InvalidRing : Addr} (o_InvalidRing : ExR P w K mg base C_InvalidRing "value") (g_InvalidRing : mg "InvalidRing" = some (.ref C_InvalidRing)) : FnG P w K mg base 7 f fd ["web", "value"] (spF K mg 2 F_want_round) := by
  have b_is_round : Binds K fd_is_round ["web", "value"] [] := D_is_round.bindsN fun _ _ _ _ _ _ us hl => match us, hl with | [_, _], _ => rfl
  exact fn_mk (N := ["web", "value"]) (ps := ["web", "value"]) D sc_want_round fun cdv A outer s H E hr gu Φ => (s_one (s_if (t_not (t_tr (d_fz (d_call [false, false] R_is_round (hr.mono (by omega)) gu g_is_round D_is_round.kp b_is_round (takes_of rfl rfl rfl rfl) (d_acons (d_var 0) (d_acons (d_var 1) d_anil)))))) (s_one (s_raiseX o_InvalidRing (hr.mono (by omega)) rfl (takes_of rfl rfl rfl rfl) g_InvalidRing (d_var 1))) s_nil))
theorem r_turned_ring (D : FnP K "turned_ring" s_turned_ring f fd)
    (h_tuple : mg "tuple" = none)
    (h_min : mg "min" = none) : FnG P w K mg base 1 f fd ["corners"] (spF K mg 1 F_turned_ring) := by
  exact fn_mk (N := ["corners", "at"]) (ps := ["corners"]) D sc_turned_ring fun cdv A outer s H E hr gu Φ => (s_cons (s_set 1 sc_turned_ring.nd (d_r (d_rm (rm_index (room65 hr)) (d_var 0) (d_acons (d_callB (cr_dMin rfl hr.units) h_min (d_acons (d_var 0) d_anil)) d_anil)))) (s_one (s_ret (d_r (d_callTy cr_dTuple h_tuple (d_acons (d_fz (d_addX (d_cut (d_var 0) (d_osome (d_var 1)) d_onone) (fun Φ => (d_cut (d_var 0) d_onone (d_osome (d_var 1)))))) d_anil))))))
theorem r_plain_of (D : FnP K "plain_of" s_plain_of f fd)
    {a_turned_ring : Addr} {fd_turned_ring : FuncData} (D_turned_ring : FnP K "turned_ring" s_turned_ring a_turned_ring fd_turned_ring) (g_turned_ring : mg "turned_ring" = some (.ref a_turned_ring)) (R_turned_ring : FnG P w K mg base 1 a_turned_ring fd_turned_ring ["corners"] (spF K mg 1 F_turned_ring))
    (h_min : mg "min" = none) : FnG P w K mg base 2 f fd ["corners"] (spF K mg 1 F_plain_of) := by
  have b_turned_ring : Binds K fd_turned_ring ["corners"] [] := D_turned_ring.bindsN fun _ _ _ _ _ _ us hl => match us, hl with | [_], _ => rfl
  exact fn_mk (N := ["corners"]) (ps := ["corners"]) D sc_plain_of fun cdv A outer s H E hr gu Φ => (s_one (s_ret (d_r (d_callB (cr_dMin rfl hr.units) h_min (d_acons (d_fz (d_call [false] R_turned_ring (hr.mono (by omega)) gu g_turned_ring D_turned_ring.kp b_turned_ring (takes_of rfl rfl rfl rfl) (d_acons (d_var 0) d_anil))) (d_acons (d_fz (d_call [false] R_turned_ring (hr.mono (by omega)) gu g_turned_ring D_turned_ring.kp b_turned_ring (takes_of rfl rfl rfl rfl) (d_acons (d_fz (d_back (d_var 0) d_onone d_onone)) d_anil))) d_anil))))))
theorem r_plain_ring (D : FnP K "plain_ring" s_plain_ring f fd)
    {a_plain_of : Addr} {fd_plain_of : FuncData} (D_plain_of : FnP K "plain_of" s_plain_of a_plain_of fd_plain_of) (g_plain_of : mg "plain_of" = some (.ref a_plain_of)) (R_plain_of : FnG P w K mg base 2 a_plain_of fd_plain_of ["corners"] (spF K mg 1 F_plain_of))
    {a_want_round : Addr} {fd_want_round : FuncData} (D_want_round : FnP K "want_round" s_want_round a_want_round fd_want_round) (g_want_round : mg "want_round" = some (.ref a_want_round)) (R_want_round : FnG P w K mg base 7 a_want_round fd_want_round ["web", "value"] (spF K mg 2 F_want_round))
    {a_want_web : Addr} {fd_want_web : FuncData} (D_want_web : FnP K "want_web" s_want_web a_want_web fd_want_web) (g_want_web : mg "want_web" = some (.ref a_want_web)) (R_want_web : FnG P w K mg base 5 a_want_web fd_want_web ["value"] (spF K mg 1 F_want_web)) : FnG P w K mg base 8 f fd ["web", "ring"] (spF K mg 2 F_plain_ring) := by
  have b_want_web : Binds K fd_want_web ["value"] [] := D_want_web.bindsN fun _ _ _ _ _ _ us hl => match us, hl with | [_], _ => rfl
  have b_want_round : Binds K fd_want_round ["web", "value"] [] := D_want_round.bindsN fun _ _ _ _ _ _ us hl => match us, hl with | [_, _], _ => rfl
  have b_plain_of : Binds K fd_plain_of ["corners"] [] := D_plain_of.bindsN fun _ _ _ _ _ _ us hl => match us, hl with | [_], _ => rfl
  exact fn_mk (N := ["web", "ring"]) (ps := ["web", "ring"]) D sc_plain_ring fun cdv A outer s H E hr gu Φ => (s_cons (s_expr (d_fz (d_call [false] R_want_web (hr.mono (by omega)) gu g_want_web D_want_web.kp b_want_web (takes_of rfl rfl rfl rfl) (d_acons (d_var 0) d_anil)))) (s_cons (s_expr (d_fz (d_call [false, false] R_want_round (hr.mono (by omega)) gu g_want_round D_want_round.kp b_want_round (takes_of rfl rfl rfl rfl) (d_acons (d_var 0) (d_acons (d_var 1) d_anil))))) (s_one (s_ret (d_call [false] R_plain_of (hr.mono (by omega)) gu g_plain_of D_plain_of.kp b_plain_of (takes_of rfl rfl rfl rfl) (d_acons (d_var 1) d_anil))))))
theorem r_chord_in (D : FnP K "chord_in" s_chord_in f fd)
    (h_len : mg "len" = none)
    (h_abs : mg "abs" = none) : FnG P w K mg base 1 f fd ["web", "ring"] (spF K mg 2 F_chord_in) := by
  exact fn_mk (N := ["web", "ring", "found", "tie", "apart"]) (ps := ["web", "ring"]) D sc_chord_in fun cdv A outer s H E hr gu Φ => (s_cons (s_set 2 sc_chord_in.nd (d_lst d_anil)) (s_cons (s_for (passes_of rfl) rfl (i_seq (d_ix (d_var 0) d_int (fun _ _ => rfl))) (g_name 3 sc_chord_in.nd) (s_one (s_if (t_w (w_and (t_cmp (op_dInS (room65 hr)) (d_ix (d_var 3) d_int (fun _ _ => rfl)) (d_var 1) (by with_unfolding_all rfl)) (w_and1 (t_cmp (op_dInS (room65 hr)) (d_ix (d_var 3) d_int (fun _ _ => rfl)) (d_var 1) (by with_unfolding_all rfl))))) (s_cons (s_set 4 sc_chord_in.nd (d_r (d_callB cr_dAbs h_abs (d_acons (d_op op_dSub (d_rm (rm_index (room65 hr)) (d_var 1) (d_acons (d_ix (d_var 3) d_int (fun _ _ => rfl)) d_anil)) (d_rm (rm_index (room65 hr)) (d_var 1) (d_acons (d_ix (d_var 3) d_int (fun _ _ => rfl)) d_anil))) d_anil)))) (s_one (s_expr (d_mt PySem.F.slot_list_extend PySem.F.type_list_extend mt_dExt (d_var 2) (d_acons (d_fz (d_ifR (t_cmp (op_dNotInS (room65 hr)) (d_var 4) (d_tup (d_acons d_int (d_acons (d_op op_dSub (d_callB cr_dLen h_len (d_acons (d_var 1) d_anil)) d_int) d_anil))) (by with_unfolding_all rfl)) (d_lst (d_acons (d_var 3) d_anil)) (d_lst d_anil))) d_anil))))) s_nil))) (s_one (s_ret (d_r (d_if (t_cmp (op_dNe hr.units) (d_var 2) (d_fz (d_lst d_anil)) (nomark _)) (d_ix (d_var 2) d_int (fun _ _ => rfl)) d_none))))))
theorem r_has_chord (D : FnP K "has_chord" s_has_chord f fd)
    {a_chord_in : Addr} {fd_chord_in : FuncData} (D_chord_in : FnP K "chord_in" s_chord_in a_chord_in fd_chord_in) (g_chord_in : mg "chord_in" = some (.ref a_chord_in)) (R_chord_in : FnG P w K mg base 1 a_chord_in fd_chord_in ["web", "ring"] (spF K mg 2 F_chord_in))
    {a_want_round : Addr} {fd_want_round : FuncData} (D_want_round : FnP K "want_round" s_want_round a_want_round fd_want_round) (g_want_round : mg "want_round" = some (.ref a_want_round)) (R_want_round : FnG P w K mg base 7 a_want_round fd_want_round ["web", "value"] (spF K mg 2 F_want_round))
    {a_want_web : Addr} {fd_want_web : FuncData} (D_want_web : FnP K "want_web" s_want_web a_want_web fd_want_web) (g_want_web : mg "want_web" = some (.ref a_want_web)) (R_want_web : FnG P w K mg base 5 a_want_web fd_want_web ["value"] (spF K mg 1 F_want_web)) : FnG P w K mg base 8 f fd ["web", "ring"] (spF K mg 2 F_has_chord) := by
  have b_want_web : Binds K fd_want_web ["value"] [] := D_want_web.bindsN fun _ _ _ _ _ _ us hl => match us, hl with | [_], _ => rfl
  have b_want_round : Binds K fd_want_round ["web", "value"] [] := D_want_round.bindsN fun _ _ _ _ _ _ us hl => match us, hl with | [_, _], _ => rfl
  have b_chord_in : Binds K fd_chord_in ["web", "ring"] [] := D_chord_in.bindsN fun _ _ _ _ _ _ us hl => match us, hl with | [_, _], _ => rfl
  exact fn_mk (N := ["web", "ring"]) (ps := ["web", "ring"]) D sc_has_chord fun cdv A outer s H E hr gu Φ => (s_cons (s_expr (d_fz (d_call [false] R_want_web (hr.mono (by omega)) gu g_want_web D_want_web.kp b_want_web (takes_of rfl rfl rfl rfl) (d_acons (d_var 0) d_anil)))) (s_cons (s_expr (d_fz (d_call [false, false] R_want_round (hr.mono (by omega)) gu g_want_round D_want_round.kp b_want_round (takes_of rfl rfl rfl rfl) (d_acons (d_var 0) (d_acons (d_var 1) d_anil))))) (s_one (s_ret (d_r (d_cmp op_dIsN (d_fz (d_call [false, false] R_chord_in (hr.mono (by omega)) gu g_chord_in D_chord_in.kp b_chord_in (takes_of rfl rfl rfl rfl) (d_acons (d_var 0) (d_acons (d_var 1) d_anil)))) d_none (nomark _)))))))
theorem r__law_draw (D : FnP K "_law_draw" s__law_draw f fd)
    (h_int : mg "int" = none)
    (h_divmod : mg "divmod" = none) : FnG P w K mg base 1 f fd ["_law_pot_here", "_law_many"] (spF K mg 2 F__law_draw) := by
  exact fn_mk (N := ["_law_pot_here", "_law_many", "_law_digit"]) (ps := ["_law_pot_here", "_law_many"]) D sc__law_draw fun cdv A outer s H E hr gu Φ => (s_cons (s_if (t_cmp op_dGt (d_ix (d_var 0) d_int (fun _ _ => rfl)) d_int (nomark _)) (s_cons (s_asg (d_callB cr_dDivmod h_divmod (d_acons (d_ix (d_var 0) d_int (fun _ _ => rfl)) (d_acons (d_var 1) d_anil))) (g_tup rfl (g_scons (g_sub (d_var 0) d_int (fun _ => rfl)) (g_scons (g_name 2 sc__law_draw.nd) g_snil)) (gs_len (gs_len gs_len0)))) (s_one (s_ret (d_r (d_var 2))))) s_nil) (s_cons (s_asg (d_op op_dMod (d_callTy cr_dInt h_int (d_acons (d_op op_dAdd (d_op op_dMul (d_ix (d_var 0) d_int (fun _ _ => rfl)) d_int) d_int) d_anil)) d_int) (g_sub (d_var 0) d_int (fun _ => rfl))) (s_one (s_ret (d_r (d_op op_dMod (d_callTy cr_dInt h_int (d_acons (d_op op_dFdiv (d_op op_dMod (d_callTy cr_dInt h_int (d_acons (d_op op_dMul (d_ix (d_var 0) d_int (fun _ _ => rfl)) (d_ix (d_var 0) d_int (fun _ _ => rfl))) d_anil)) d_int) d_int) d_anil)) (d_var 1)))))))
theorem r__law_pick (D : FnP K "_law_pick" s__law_pick f fd)
    {a__law_draw : Addr} {fd__law_draw : FuncData} (D__law_draw : FnP K "_law_draw" s__law_draw a__law_draw fd__law_draw) (g__law_draw : mg "_law_draw" = some (.ref a__law_draw)) (R__law_draw : FnG P w K mg base 1 a__law_draw fd__law_draw ["_law_pot_here", "_law_many"] (spF K mg 2 F__law_draw))
    (h_len : mg "len" = none) : FnG P w K mg base 2 f fd ["_law_pot_here", "_law_some"] (spF K mg 2 F__law_pick) := by
  have b__law_draw : Binds K fd__law_draw ["_law_pot_here", "_law_many"] [] := D__law_draw.bindsN fun _ _ _ _ _ _ us hl => match us, hl with | [_, _], _ => rfl
  exact fn_mk (N := ["_law_pot_here", "_law_some"]) (ps := ["_law_pot_here", "_law_some"]) D sc__law_pick fun cdv A outer s H E hr gu Φ => (s_one (s_ret (d_r (d_ix (d_var 1) (d_fz (d_call [true, false] R__law_draw (hr.mono (by omega)) gu g__law_draw D__law_draw.kp b__law_draw (takes_of rfl rfl rfl rfl) (d_acons (d_var 0) (d_acons (d_callB cr_dLen h_len (d_acons (d_var 1) d_anil)) d_anil)))) (fun _ _ => rfl)))))
theorem r__law_web (D : FnP K "_law_web" s__law_web f fd)
    (h_sorted : mg "sorted" = none)
    (h_set : mg "set" = none)
    (h_tuple : mg "tuple" = none) : FnG P w K mg base 1 f fd ["_law_many", "_law_ties"] (spF K mg 2 F__law_web) := by
  exact fn_mk (N := ["_law_many", "_law_ties"]) (ps := ["_law_many", "_law_ties"]) D sc__law_web fun cdv A outer s H E hr gu Φ => (s_one (s_ret (d_r (d_tup (d_acons d_str (d_acons (d_var 0) (d_acons (d_callTy cr_dTuple h_tuple (d_acons (d_fz (d_sortSet rfl hr.units h_sorted h_set (d_var 1))) d_anil)) d_anil)))))))
theorem r__law_drawn_ties (D : FnP K "_law_drawn_ties" s__law_drawn_ties f fd)
    (h_sorted : mg "sorted" = none)
    (h_range : mg "range" = none)
    {a__law_draw : Addr} {fd__law_draw : FuncData} (D__law_draw : FnP K "_law_draw" s__law_draw a__law_draw fd__law_draw) (g__law_draw : mg "_law_draw" = some (.ref a__law_draw)) (R__law_draw : FnG P w K mg base 1 a__law_draw fd__law_draw ["_law_pot_here", "_law_many"] (spF K mg 2 F__law_draw)) : FnG P w K mg base 2 f fd ["_law_pot_here", "_law_many", "_law_part"] (spF K mg 3 F__law_drawn_ties) := by
  have b__law_draw : Binds K fd__law_draw ["_law_pot_here", "_law_many"] [] := D__law_draw.bindsN fun _ _ _ _ _ _ us hl => match us, hl with | [_, _], _ => rfl
  exact fn_mk (N := ["_law_pot_here", "_law_many", "_law_part", "_law_found", "_law_other", "_law_one"]) (ps := ["_law_pot_here", "_law_many", "_law_part"]) D sc__law_drawn_ties fun cdv A outer s H E hr gu Φ => (s_cons (s_set 3 sc__law_drawn_ties.nd (d_lst d_anil)) (s_cons (s_for (passes_of rfl) rfl (i_rng1 h_range (d_acons (d_var 1) d_anil)) (g_name 4 sc__law_drawn_ties.nd) (s_one (s_for (passes_of rfl) rfl (i_rng1 h_range (d_acons (d_var 4) d_anil)) (g_name 5 sc__law_drawn_ties.nd) (s_one (s_if (t_cmp (op_dLtX hr.units) (d_fz (d_call [true, false] R__law_draw (hr.mono (by omega)) gu g__law_draw D__law_draw.kp b__law_draw (takes_of rfl rfl rfl rfl) (d_acons (d_var 0) (d_acons d_int d_anil)))) (d_var 2) (nomark _)) (s_one (s_expr (d_mt PySem.F.slot_list_append PySem.F.type_list_append mt_dApp (d_var 3) (d_acons (d_tup (d_acons (d_var 5) (d_acons (d_var 4) d_anil))) d_anil)))) s_nil))))) (s_one (s_ret (d_callBN (cr_dSortedS hr.units) h_sorted (d_acons (d_var 3) d_anil))))))
theorem r__law_mixed (D : FnP K "_law_mixed" s__law_mixed f fd)
    (h_len : mg "len" = none)
    (h_range : mg "range" = none)
    {a__law_draw : Addr} {fd__law_draw : FuncData} (D__law_draw : FnP K "_law_draw" s__law_draw a__law_draw fd__law_draw) (g__law_draw : mg "_law_draw" = some (.ref a__law_draw)) (R__law_draw : FnG P w K mg base 1 a__law_draw fd__law_draw ["_law_pot_here", "_law_many"] (spF K mg 2 F__law_draw))
    (h_list : mg "list" = none) : FnG P w K mg base 2 f fd ["_law_pot_here", "_law_some"] (spF K mg 2 F__law_mixed) := by
  have b__law_draw : Binds K fd__law_draw ["_law_pot_here", "_law_many"] [] := D__law_draw.bindsN fun _ _ _ _ _ _ us hl => match us, hl with | [_, _], _ => rfl
  exact fn_mk (N := ["_law_pot_here", "_law_some", "_law_left", "_law_found", "_law_turn"]) (ps := ["_law_pot_here", "_law_some"]) D sc__law_mixed fun cdv A outer s H E hr gu Φ => (s_cons (s_par 2 3 rfl sc__law_mixed.nd (d_callTyN cr_dList h_list (d_acons (d_var 1) d_anil)) (fun Φ => (d_lst d_anil)) rfl) (s_cons (s_for (passes_of rfl) rfl (i_rng1 h_range (d_acons (d_callB cr_dLen h_len (d_acons (d_var 1) d_anil)) d_anil)) (g_name 4 sc__law_mixed.nd) (s_one (s_expr (d_mt PySem.F.slot_list_append PySem.F.type_list_append mt_dApp (d_var 3) (d_acons (d_mt PySem.F.slot_list_pop PySem.F.type_list_pop mt_dPopAt (d_var 2) (d_acons (d_fz (d_call [true, false] R__law_draw (hr.mono (by omega)) gu g__law_draw D__law_draw.kp b__law_draw (takes_of rfl rfl rfl rfl) (d_acons (d_var 0) (d_acons (d_callB cr_dLen h_len (d_acons (d_var 2) d_anil)) d_anil)))) d_anil)) d_anil))))) (s_one (s_ret (d_r (d_var 3))))))
theorem r__law_plain (D : FnP K "_law_plain" s__law_plain f fd)
    (h_min : mg "min" = none)
    (h_tuple : mg "tuple" = none) : FnG P w K mg base 1 f fd ["_law_corners"] (spF K mg 1 F__law_plain) := by
  exact fn_mk (N := ["_law_corners", "_law_at", "_law_near"]) (ps := ["_law_corners"]) D sc__law_plain fun cdv A outer s H E hr gu Φ => (s_cons (s_set 1 sc__law_plain.nd (d_r (d_rm (rm_index (room65 hr)) (d_var 0) (d_acons (d_callB (cr_dMin rfl hr.units) h_min (d_acons (d_var 0) d_anil)) d_anil)))) (s_cons (s_set 2 sc__law_plain.nd (d_r (d_callTy cr_dTuple h_tuple (d_acons (d_fz (d_addX (d_cut (d_var 0) (d_osome (d_var 1)) d_onone) (fun Φ => (d_cut (d_var 0) d_onone (d_osome (d_var 1)))))) d_anil)))) (s_one (s_ret (d_r (d_callB (cr_dMin rfl hr.units) h_min (d_acons (d_var 2) (d_acons (d_fz (d_addX (d_cut (d_var 2) d_onone (d_osome d_int)) (fun Φ => (d_back (d_var 2) d_onone (d_osome d_int))))) d_anil))))))))
theorem r__law_right (D : FnP K "_law_right" s__law_right f fd)
    (h_range : mg "range" = none)
    {a_has_chord : Addr} {fd_has_chord : FuncData} (D_has_chord : FnP K "has_chord" s_has_chord a_has_chord fd_has_chord) (g_has_chord : mg "has_chord" = some (.ref a_has_chord)) (R_has_chord : FnG P w K mg base 8 a_has_chord fd_has_chord ["web", "ring"] (spF K mg 2 F_has_chord))
    (h_repr : mg "repr" = none)
    {a_is_ring : Addr} {fd_is_ring : FuncData} (D_is_ring : FnP K "is_ring" s_is_ring a_is_ring fd_is_ring) (g_is_ring : mg "is_ring" = some (.ref a_is_ring)) (R_is_ring : FnG P w K mg base 8 a_is_ring fd_is_ring ["web", "value"] (spF K mg 2 F_is_ring))
    {a_is_plain_ring : Addr} {fd_is_plain_ring : FuncData} (D_is_plain_ring : FnP K "is_plain_ring" s_is_plain_ring a_is_plain_ring fd_is_plain_ring) (g_is_plain_ring : mg "is_plain_ring" = some (.ref a_is_plain_ring)) (R_is_plain_ring : FnG P w K mg base 8 a_is_plain_ring fd_is_plain_ring ["web", "value"] (spF K mg 2 F_is_plain_ring))
    {a_plain_ring : Addr} {fd_plain_ring : FuncData} (D_plain_ring : FnP K "plain_ring" s_plain_ring a_plain_ring fd_plain_ring) (g_plain_ring : mg "plain_ring" = some (.ref a_plain_ring)) (R_plain_ring : FnG P w K mg base 8 a_plain_ring fd_plain_ring ["web", "ring"] (spF K mg 2 F_plain_ring))
    {a__law_draw : Addr} {fd__law_draw : FuncData} (D__law_draw : FnP K "_law_draw" s__law_draw a__law_draw fd__law_draw) (g__law_draw : mg "_law_draw" = some (.ref a__law_draw)) (R__law_draw : FnG P w K mg base 1 a__law_draw fd__law_draw ["_law_pot_here", "_law_many"] (spF K mg 2 F__law_draw))
    (h_tuple : mg "tuple" = none)
    (h_len : mg "len" = none)
    {a__law_web : Addr} {fd__law_web : FuncData} (D__law_web : FnP K "_law_web" s__law_web a__law_web fd__law_web) (g__law_web : mg "_law_web" = some (.ref a__law_web)) (R__law_web : FnG P w K mg base 1 a__law_web fd__law_web ["_law_many", "_law_ties"] (spF K mg 2 F__law_web))
    {a__law_plain : Addr} {fd__law_plain : FuncData} (D__law_plain : FnP K "_law_plain" s__law_plain a__law_plain fd__law_plain) (g__law_plain : mg "_law_plain" = some (.ref a__law_plain)) (R__law_plain : FnG P w K mg base 1 a__law_plain fd__law_plain ["_law_corners"] (spF K mg 1 F__law_plain))
    {a__law_drawn_ties : Addr} {fd__law_drawn_ties : FuncData} (D__law_drawn_ties : FnP K "_law_drawn_ties" s__law_drawn_ties a__law_drawn_ties fd__law_drawn_ties) (g__law_drawn_ties : mg "_law_drawn_ties" = some (.ref a__law_drawn_ties)) (R__law_drawn_ties : FnG P w K mg base 2 a__law_drawn_ties fd__law_drawn_ties ["_law_pot_here", "_law_many", "_law_part"] (spF K mg 3 F__law_drawn_ties))
    {a__law_pick : Addr} {fd__law_pick : FuncData} (D__law_pick : FnP K "_law_pick" s__law_pick a__law_pick fd__law_pick) (g__law_pick : mg "_law_pick" = some (.ref a__law_pick)) (R__law_pick : FnG P w K mg base 2 a__law_pick fd__law_pick ["_law_pot_here", "_law_some"] (spF K mg 2 F__law_pick))
    (h_min : mg "min" = none)
    (h_max : mg "max" = none)
    (h_list : mg "list" = none)
    (h_zip : mg "zip" = none)
    {a__law_mixed : Addr} {fd__law_mixed : FuncData} (D__law_mixed : FnP K "_law_mixed" s__law_mixed a__law_mixed fd__law_mixed) (g__law_mixed : mg "_law_mixed" = some (.ref a__law_mixed)) (R__law_mixed : FnG P w K mg base 2 a__law_mixed fd__law_mixed ["_law_pot_here", "_law_some"] (spF K mg 2 F__law_mixed)) : FnG P w K mg base 9 f fd ["_law_pot_here"] (spF K mg 1 F__law_right) := by
  have b_is_ring : Binds K fd_is_ring ["web", "value"] [] := D_is_ring.bindsN fun _ _ _ _ _ _ us hl => match us, hl with | [_, _], _ => rfl
  have b_is_plain_ring : Binds K fd_is_plain_ring ["web", "value"] [] := D_is_plain_ring.bindsN fun _ _ _ _ _ _ us hl => match us, hl with | [_, _], _ => rfl
  have b_plain_ring : Binds K fd_plain_ring ["web", "ring"] [] := D_plain_ring.bindsN fun _ _ _ _ _ _ us hl => match us, hl with | [_, _], _ => rfl
  have b_has_chord : Binds K fd_has_chord ["web", "ring"] [] := D_has_chord.bindsN fun _ _ _ _ _ _ us hl => match us, hl with | [_, _], _ => rfl
  have b__law_draw : Binds K fd__law_draw ["_law_pot_here", "_law_many"] [] := D__law_draw.bindsN fun _ _ _ _ _ _ us hl => match us, hl with | [_, _], _ => rfl
  have b__law_pick : Binds K fd__law_pick ["_law_pot_here", "_law_some"] [] := D__law_pick.bindsN fun _ _ _ _ _ _ us hl => match us, hl with | [_, _], _ => rfl
  have b__law_web : Binds K fd__law_web ["_law_many", "_law_ties"] [] := D__law_web.bindsN fun _ _ _ _ _ _ us hl => match us, hl with | [_, _], _ => rfl
  have b__law_drawn_ties : Binds K fd__law_drawn_ties ["_law_pot_here", "_law_many", "_law_part"] [] := D__law_drawn_ties.bindsN fun _ _ _ _ _ _ us hl => match us, hl with | [_, _, _], _ => rfl
  have b__law_mixed : Binds K fd__law_mixed ["_law_pot_here", "_law_some"] [] := D__law_mixed.bindsN fun _ _ _ _ _ _ us hl => match us, hl with | [_, _], _ => rfl
  have b__law_plain : Binds K fd__law_plain ["_law_corners"] [] := D__law_plain.bindsN fun _ _ _ _ _ _ us hl => match us, hl with | [_], _ => rfl
  exact fn_mk (N := ["_law_pot_here", "_law_turn", "_law_many", "_law_corners", "_law_pairs", "_law_sides", "_law_more", "_law_web_here", "_law_due", "_law_at", "_law_told", "_law_other", "_law_across", "_law_is_so", "_law_pair", "_law_tie"]) (ps := ["_law_pot_here"]) D sc__law_right fun cdv A outer s H E hr gu Φ => (s_cons (s_for (passes_of rfl) rfl (i_rng1 h_range (d_acons d_int d_anil)) (g_name 1 sc__law_right.nd) (s_cons (s_set 2 sc__law_right.nd (d_r (d_op op_dAdd d_int (d_fz (d_call [true, false] R__law_draw (hr.mono (by omega)) gu g__law_draw D__law_draw.kp b__law_draw (takes_of rfl rfl rfl rfl) (d_acons (d_var 0) (d_acons d_int d_anil))))))) (s_cons (s_set 3 sc__law_right.nd (d_cut (d_fz (d_call [true, false] R__law_mixed (hr.mono (by omega)) gu g__law_mixed D__law_mixed.kp b__law_mixed (takes_of rfl rfl rfl rfl) (d_acons (d_var 0) (d_acons (d_fz (d_lrg1 rfl h_list h_range (d_var 2))) d_anil)))) d_onone (d_osome (d_op op_dAdd d_int (d_fz (d_call [true, false] R__law_draw (hr.mono (by omega)) gu g__law_draw D__law_draw.kp b__law_draw (takes_of rfl rfl rfl rfl) (d_acons (d_var 0) (d_acons (d_op op_dSub (d_var 2) d_int) d_anil)))))))) (s_cons (s_set 4 sc__law_right.nd (d_lz rfl h_list h_zip (d_acons (d_var 3) (d_acons (d_fz (d_addX (d_cut (d_var 3) (d_osome d_int) d_onone) (fun Φ => (d_cut (d_var 3) d_onone (d_osome d_int))))) d_anil)))) (s_cons (s_set 5 sc__law_right.nd (d_lc (own := [("_law_pair", 14)]) rfl sc__law_right.nd (i_seq (d_var 4)) (blkOk_by (by first | (show blkC ["_law_pot_here", "_law_turn", "_law_many", "_law_corners", "_law_pairs", "_law_sides", "_law_more", "_law_web_here", "_law_due", "_law_at", "_law_told", "_law_other", "_law_across", "_law_is_so", "_law_pair", "_law_tie"] (defScope s__law_right) _ _ = true; decide +kernel) | kernel_rfl | rfl)) (fun Ψ s H C cl fp => (g_name 14 sc__law_right.nd)) (fun Ψ s H C cl fp => t_yes) (fun Ψ s H C cl fp => (d_tup (d_acons (d_callB (cr_dMin rfl hr.units) h_min (d_acons (d_var 14) d_anil)) (d_acons (d_callB (cr_dMaxS rfl hr.units) h_max (d_acons (d_var 14) d_anil)) d_anil)))))) (s_cons (s_set 6 sc__law_right.nd (d_call [true, false, false] R__law_drawn_ties (hr.mono (by omega)) gu g__law_drawn_ties D__law_drawn_ties.kp b__law_drawn_ties (takes_of rfl rfl rfl rfl) (d_acons (d_var 0) (d_acons (d_var 2) (d_acons (d_fz (d_call [true, false] R__law_pick (hr.mono (by omega)) gu g__law_pick D__law_pick.kp b__law_pick (takes_of rfl rfl rfl rfl) (d_acons (d_var 0) (d_acons (d_fz (d_lst (d_acons d_int (d_acons d_int (d_acons d_int d_anil))))) d_anil)))) d_anil))))) (s_cons (s_par 7 8 rfl sc__law_right.nd (d_call [false, false] R__law_web (hr.mono (by omega)) gu g__law_web D__law_web.kp b__law_web (takes_of rfl rfl rfl rfl) (d_acons (d_var 2) (d_acons (d_fz (d_addX (d_r (d_var 5)) (fun Φ => (d_r (d_var 6))))) d_anil))) (fun Φ => (d_call [false] R__law_plain (hr.mono (by omega)) gu g__law_plain D__law_plain.kp b__law_plain (takes_of rfl rfl rfl rfl) (d_acons (d_var 3) d_anil))) rfl) (s_cons (s_set 9 sc__law_right.nd (d_call [true, false] R__law_draw (hr.mono (by omega)) gu g__law_draw D__law_draw.kp b__law_draw (takes_of rfl rfl rfl rfl) (d_acons (d_var 0) (d_acons (d_callB cr_dLen h_len (d_acons (d_var 3) d_anil)) d_anil)))) (s_cons (s_set 10 sc__law_right.nd (d_addX (d_cut (d_var 3) (d_osome (d_var 9)) d_onone) (fun Φ => (d_cut (d_var 3) d_onone (d_osome (d_var 9)))))) (s_cons (s_set 10 sc__law_right.nd (d_r (d_if (t_cmp (op_dEq hr.units) (d_fz (d_call [true, false] R__law_draw (hr.mono (by omega)) gu g__law_draw D__law_draw.kp b__law_draw (takes_of rfl rfl rfl rfl) (d_acons (d_var 0) (d_acons d_int d_anil)))) d_int (nomark _)) (d_callTy cr_dTuple h_tuple (d_acons (d_fz (d_back (d_var 10) d_onone d_onone)) d_anil)) (d_callTy cr_dTuple h_tuple (d_acons (d_var 10) d_anil))))) (s_cons (s_if (t_w (w_or (t_cmp (op_dNe hr.units) (d_fz (d_call [false, false] R_plain_ring (hr.mono (by omega)) gu g_plain_ring D_plain_ring.kp b_plain_ring (takes_of rfl rfl rfl rfl) (d_acons (d_var 7) (d_acons (d_var 10) d_anil)))) (d_var 8) (nomark _)) (w_or1 (t_cmp (op_dNe hr.units) (d_fz (d_callK0 [false, false] [1, 0] [] R_plain_ring (hr.mono (by omega)) gu g_plain_ring D_plain_ring.kp (kw_binds D_plain_ring (ps := ["web", "ring"]) (ks := ["ring", "web"]) (n := 0) (ix := [1, 0]) fun _ _ _ _ _ _ us ws l1 l2 => match us, ws, l1, l2 with | [], [_, _], _, _ => rfl) .nil (fun _ => .nil) (takes_of rfl rfl rfl rfl) (k_cons (d_var 10) (k_cons (d_var 7) k_nil)))) (d_var 8) (nomark _))))) (s_one (s_ret (d_r d_bool))) s_nil) (s_cons (s_set 11 sc__law_right.nd (d_addX (d_cut (d_var 8) d_onone (d_osome d_int)) (fun Φ => (d_back (d_var 8) d_onone (d_osome d_int))))) (s_cons (s_if (t_cmp (op_dNe hr.units) (d_callB (cr_dRepr hr.units gu) h_repr (d_acons (d_fz (d_lst (d_acons (d_fz (d_call [false, false] R_is_ring (hr.mono (by omega)) gu g_is_ring D_is_ring.kp b_is_ring (takes_of rfl rfl rfl rfl) (d_acons (d_var 7) (d_acons (d_var 8) d_anil)))) (d_acons (d_fz (d_call [false, false] R_is_plain_ring (hr.mono (by omega)) gu g_is_plain_ring D_is_plain_ring.kp b_is_plain_ring (takes_of rfl rfl rfl rfl) (d_acons (d_var 7) (d_acons (d_var 8) d_anil)))) (d_acons (d_fz (d_call [false, false] R_is_ring (hr.mono (by omega)) gu g_is_ring D_is_ring.kp b_is_ring (takes_of rfl rfl rfl rfl) (d_acons (d_var 7) (d_acons (d_var 11) d_anil)))) (d_acons (d_fz (d_call [false, false] R_is_plain_ring (hr.mono (by omega)) gu g_is_plain_ring D_is_plain_ring.kp b_is_plain_ring (takes_of rfl rfl rfl rfl) (d_acons (d_var 7) (d_acons (d_var 11) d_anil)))) d_anil)))))) d_anil)) (d_callB (cr_dRepr hr.units gu) h_repr (d_acons (d_fz (d_lst (d_acons d_bool (d_acons d_bool (d_acons d_bool (d_acons d_bool d_anil)))))) d_anil)) (nomark _)) (s_one (s_ret (d_r d_bool))) s_nil) (s_cons (s_setLc 12 (own := [("_law_tie", 15)]) rfl sc__law_right.nd (sw_true rfl rfl rfl rfl) (i_seq (d_var 6)) (blkOk_by (by first | (show blkC ["_law_pot_here", "_law_turn", "_law_many", "_law_corners", "_law_pairs", "_law_sides", "_law_more", "_law_web_here", "_law_due", "_law_at", "_law_told", "_law_other", "_law_across", "_law_is_so", "_law_pair", "_law_tie"] (defScope s__law_right) _ _ = true; decide +kernel) | kernel_rfl | rfl)) (fun Ψ s H C cl fp => (g_name 15 sc__law_right.nd)) (fun Ψ s H C cl fp => (t_one (t_w (w_and (t_cmp (op_dInS (room65 hr)) (d_ix (d_var 15) d_int (fun _ _ => rfl)) (d_var 3) (by with_unfolding_all rfl)) (w_and (t_cmp (op_dInS (room65 hr)) (d_ix (d_var 15) d_int (fun _ _ => rfl)) (d_var 3) (by with_unfolding_all rfl)) (w_and1 (t_cmp (op_dNotInS (room65 hr)) (d_var 15) (d_var 5) (by with_unfolding_all rfl)))))))) (fun Ψ s H C cl fp => (d_var 15))) (s_cons (s_set 13 sc__law_right.nd (d_r (d_cmp (op_dNe hr.units) (d_var 12) (d_fz (d_lst d_anil)) (nomark _)))) (s_one (s_if (t_cmp (op_dNe hr.units) (d_callB (cr_dRepr hr.units gu) h_repr (d_acons (d_fz (d_lst (d_acons (d_fz (d_call [false, false] R_has_chord (hr.mono (by omega)) gu g_has_chord D_has_chord.kp b_has_chord (takes_of rfl rfl rfl rfl) (d_acons (d_var 7) (d_acons (d_var 10) d_anil)))) (d_acons (d_fz (d_call [false, false] R_has_chord (hr.mono (by omega)) gu g_has_chord D_has_chord.kp b_has_chord (takes_of rfl rfl rfl rfl) (d_acons (d_var 7) (d_acons (d_var 8) d_anil)))) (d_acons (d_fz (d_callK0 [false, false] [1, 0] [] R_has_chord (hr.mono (by omega)) gu g_has_chord D_has_chord.kp (kw_binds D_has_chord (ps := ["web", "ring"]) (ks := ["ring", "web"]) (n := 0) (ix := [1, 0]) fun _ _ _ _ _ _ us ws l1 l2 => match us, ws, l1, l2 with | [], [_, _], _, _ => rfl) .nil (fun _ => .nil) (takes_of rfl rfl rfl rfl) (k_cons (d_var 11) (k_cons (d_var 7) k_nil)))) d_anil))))) d_anil)) (d_callB (cr_dRepr hr.units gu) h_repr (d_acons (d_fz (d_rep (d_lst (d_acons (d_var 13) d_anil)) (fun Φ => d_int))) d_anil)) (nomark _)) (s_one (s_ret (d_r d_bool))) s_nil))))))))))))))))) (s_one (s_ret (d_r d_bool))))
theorem r_law (D : FnP K "law" s_law f fd)
    {a__law_right : Addr} {fd__law_right : FuncData} (D__law_right : FnP K "_law_right" s__law_right a__law_right fd__law_right) (g__law_right : mg "_law_right" = some (.ref a__law_right)) (R__law_right : FnG P w K mg base 9 a__law_right fd__law_right ["_law_pot_here"] (spF K mg 1 F__law_right))
    {a__law_pot : Addr} {fd__law_pot : FuncData} (D__law_pot : FnP K "_law_pot" s__law_pot a__law_pot fd__law_pot) (g__law_pot : mg "_law_pot" = some (.ref a__law_pot)) (R__law_pot : FnG P w K mg base 1 a__law_pot fd__law_pot ["_law_script", "_law_k"] (spF K mg 2 F__law_pot)) : FnG P w K mg base 10 f fd ["_law_script"] (spF K mg 1 F_law) := by
  have b__law_pot : Binds K fd__law_pot ["_law_script", "_law_k"] [] := D__law_pot.bindsN fun _ _ _ _ _ _ us hl => match us, hl with | [_, _], _ => rfl
  have b__law_right : Binds K fd__law_right ["_law_pot_here"] [] := D__law_right.bindsN fun _ _ _ _ _ _ us hl => match us, hl with | [_], _ => rfl
  exact fn_mk (N := ["_law_script"]) (ps := ["_law_script"]) D sc_law fun cdv A outer s H E hr gu Φ => (s_one (s_ret (d_call1 R__law_right (hr.mono (by omega)) gu g__law_right D__law_right.kp b__law_right (takes_of rfl rfl rfl rfl) (d_call [false, false] R__law_pot (hr.mono (by omega)) gu g__law_pot D__law_pot.kp b__law_pot (takes_of rfl rfl rfl rfl) (d_acons (d_var 0) (d_acons d_int d_anil))))))
end
end
end K19
set_option Elab.async false
set_option linter.all false
set_option maxRecDepth 100000
set_option maxHeartbeats 4000000
namespace K19
open PySem L2 DL
/-! ### draws -/
theorem ev_draw {p : List D} (P : Pot p) {r : Int} (h0 : 0 < r) (h1 : r < 1000) :
    ∃ p' dg, Pot p' ∧ 0 ≤ dg ∧ dg < r ∧ F__law_draw [.io (.ls p), .sh (.int r)] = .ok (.sh (.int dg)) [.io (.ls p'), .sh (.int r)] :=
  draw_ok (A := 39373) (B := 1151) (M := 2147483587) (N := 2147483563) (S := 17) (by decide) (by decide) (by decide) (by decide) (by decide) (by decide) P h0 h1
/-! ### whole numbers, ties, webs -/
theorem ev_is_integer (a : Int) : F_is_integer [.sh (.int a)] = .ok (.sh (.bool true)) [.sh (.int a)] := by
  simp [F_is_integer, m_is_integer, isT]
theorem ev_is_count {a : Int} (h : 0 ≤ a) : F_is_count [.sh (.int a)] = .ok (.sh (.bool true)) [.sh (.int a)] := by
  simp [F_is_count, m_is_count, z_callR, ev_is_integer, h]
theorem ev_is_tie {m : Int} {p : Int × Int} (h0 : 0 ≤ p.1) (h1 : p.1 < p.2) (h2 : p.2 < m) : F_is_tie [.sh (.int m), .sh (pr p)] = .ok (.sh (.bool true)) [.sh (.int m), .sh (pr p)] := by
  have c1 := ev_is_count h0
  have c2 := ev_is_count (a := p.2) (by omega)
  unfold pr
  simp [F_is_tie, m_is_tie, z_callR, z_lcL2, c1, c2, isT, h1, h2]
/-- a web -/
def wD (m : Int) (qs : List (Int × Int)) : D := .tuple [.str "web", .int m, .tuple (qs.map pr)]
structure Web (m : Int) (qs : List (Int × Int)) : Prop where
  m1 : 1 ≤ m
  m2 : m ≤ 20
  len : qs.length ≤ 60
  tie : ∀ p ∈ qs, 0 ≤ p.1 ∧ p.1 < p.2 ∧ p.2 < m
  up : qs.Pairwise ltP
theorem zip_next {α : Type} {R : α → α → Prop} : ∀ {l : List α}, l.Pairwise R → ∀ p ∈ l.zip (l.drop 1), R p.1 p.2
  | [], _, p, h => by simp at h
  | [a], _, p, h => by simp at h
  | a :: b :: l, hp, p, h => by
    have e : (a :: b :: l).zip ((a :: b :: l).drop 1) = (a, b) :: (b :: l).zip ((b :: l).drop 1) := rfl
    rw [e] at h
    rcases List.mem_cons.mp h with rfl | h
    · exact (List.pairwise_cons.mp hp).1 b (List.mem_cons_self ..)
    · exact zip_next (List.pairwise_cons.mp hp).2 p h
theorem ev_is_web {m : Int} {qs : List (Int × Int)} (w : Web m qs) : F_is_web_value [.sh (wD m qs)] = .ok (.sh (.bool true)) [.sh (wD m qs)] := by
  have c := ev_is_count (a := m) (by have := w.m1; omega)
  have mm : F_is_many [.sh (.int m)] = .ok (.sh (.bool true)) [.sh (.int m)] := by
    have h1 := w.m1
    have h2 := w.m2
    simp [F_is_many, m_is_many, z_callR, c, h1, h2]
  have l := w.len
  have c1 := lcL_map (g := gSet 5) (ts := tYesF) (a := eFz (eFnC F_is_tie [false, false] (aCons (eVar 1) (aCons (eVar 5) aNil)))) (vs := [5]) pr (fun _ => .bool true) qs
    [.sh (wD m qs), .sh (.int m), .sh (.tuple (qs.map pr)), .un, .un, .un] (fun p hp => by
      obtain ⟨h0, h1, h2⟩ := w.tie p hp
      have e := ev_is_tie h0 h1 h2
      simp [z_callR, e]) (by omega)
  have a1 := bAll_map (fun _ : Int × Int => true) qs
  rw [List.all_eq_true.mpr fun x _ => rfl] at a1
  have c2 := lcL_map (g := gTupF (gsCons (gSet 3) (gsCons (gSet 4) gsNil))) (ts := tYesF) (a := eOp2 dLtX (eVar 3) (eVar 4)) (vs := [3, 4]) (fun p : (Int × Int) × (Int × Int) => .tuple [pr p.1, pr p.2]) (fun p => .bool true) (qs.zip (qs.drop 1))
    [.sh (wD m qs), .sh (.int m), .sh (.tuple (qs.map pr)), .un, .un, .un] (fun p hp => by
      have h := zip_next w.up p hp
      simp [h]) (by rw [List.length_zip, List.length_drop]; omega)
  have a2 := bAll_map (fun _ : (Int × Int) × (Int × Int) => true) (qs.zip (qs.drop 1))
  rw [List.all_eq_true.mpr fun x _ => rfl] at a2
  have z : zipD (qs.map pr) ((qs.map pr).drop 1) = (qs.zip (qs.drop 1)).map fun p => .tuple [pr p.1, pr p.2] := by
    rw [← List.map_drop, zipD_map]
  have l2 : ¬ (60 : Int) < (qs.length : Int) := by omega
  unfold wD at c1 c2 ⊢
  simp [F_is_web_value, m_is_web_value, z_callR, mm, isT, c1, c2, a1, a2, z, l2, -List.map_drop, -List.drop_one]
end K19
set_option Elab.async false
set_option linter.all false
set_option maxRecDepth 100000
set_option maxHeartbeats 4000000
namespace K19
open PySem L2 DL
abbrev tI (r : List Int) : D := .tuple (r.map PyData.int)
/-- the tie of two corners -/
def tieP (a b : Int) : Int × Int := (if b < a then b else a, if b > a then b else a)
theorem tieP_comm (a b : Int) : tieP a b = tieP b a := by
  unfold tieP
  refine Prod.ext ?_ ?_ <;> (show (if _ then _ else _) = (if _ then _ else _)) <;> split <;> split <;> omega
theorem wD_2 (m : Int) (qs : List (Int × Int)) : dIx (wD m qs) (.int 2) = some (.tuple (qs.map pr)) := z_dIxt2 _ _ _ _
theorem wD_1 (m : Int) (qs : List (Int × Int)) : dIx (wD m qs) (.int 1) = some (.int m) := z_dIxt1 _ _ _
theorem ev_want {m : Int} {qs : List (Int × Int)} (w : Web m qs) : F_want_web [.sh (wD m qs)] = .ok (.sh (wD m qs)) [.sh (wD m qs)] := by
  have e := ev_is_web w
  simp [F_want_web, m_want_web, z_callR, e]
theorem ev_tie_of (a b : Int) : F_tie_of [.sh (.int a), .sh (.int b)] = .ok (.sh (pr (tieP a b))) [.sh (.int a), .sh (.int b)] := by
  simp [F_tie_of, m_tie_of, pr, tieP]
theorem ev_is_tied (m : Int) (qs : List (Int × Int)) (a b : Int) : F_is_tied [.sh (wD m qs), .sh (.int a), .sh (.int b)] = .ok (.sh (.bool (decide (tieP a b ∈ qs)))) [.sh (wD m qs), .sh (.int a), .sh (.int b)] := by
  have e := ev_tie_of a b
  simp [F_is_tied, m_is_tied, z_callR, e, wD_2]
/-- corners of a web, told once each -/
structure Crn (m : Int) (r : List Int) : Prop where
  nd : r.Nodup
  inn : ∀ x ∈ r, 0 ≤ x ∧ x < m
  len : r.length ≤ 20
theorem ev_is_corner {m : Int} {qs : List (Int × Int)} {x : Int} (h0 : 0 ≤ x) (h1 : x < m) : F_is_corner [.sh (wD m qs), .sh (.int x)] = .ok (.sh (.bool true)) [.sh (wD m qs), .sh (.int x)] := by
  have e := ev_is_count h0
  simp [F_is_corner, m_is_corner, z_callR, e, wD_1, h1]
theorem ev_are_corners {m : Int} {qs : List (Int × Int)} {r : List Int} (c : Crn m r) : F_are_corners [.sh (wD m qs), .sh (tI r)] = .ok (.sh (.bool true)) [.sh (wD m qs), .sh (tI r)] := by
  have l := c.len
  have e1 : F_is_list [.sh (tI r)] = .ok (.sh (.bool true)) [.sh (tI r)] := by
    simp [F_is_list, m_is_list, isT]
  have c1 := lcL_map (g := gSet 2) (ts := tYesF) (a := eFz (eFnC F_is_corner [false, false] (aCons (eVar 0) (aCons (eVar 2) aNil)))) (vs := [2]) PyData.int (fun _ => .bool true) r
    [.sh (wD m qs), .sh (tI r), .un] (fun x hx => by
      obtain ⟨h0, h1⟩ := c.inn x hx
      have e := ev_is_corner (qs := qs) h0 h1
      simp [z_callR, e]) (by omega)
  have a1 := bAll_map (fun _ : Int => true) r
  rw [List.all_eq_true.mpr fun x _ => rfl] at a1
  have s1 := setOk_ints (ns := r) (by omega)
  have d1 := dedup_ints c.nd
  simp [F_are_corners, m_are_corners, z_callR, e1, c1, a1, s1, d1]
def rounds (r : List Int) : List (Int × Int) := r.zip (r.drop 1)
theorem ev_is_way {m : Int} {qs : List (Int × Int)} {r : List Int} (c : Crn m r) (h : r ≠ []) (ht : ∀ p ∈ r.zip (r.drop 1), tieP p.1 p.2 ∈ qs) :
    F_is_way_of [.sh (wD m qs), .sh (tI r)] = .ok (.sh (.bool true)) [.sh (wD m qs), .sh (tI r)] := by
  have e := ev_are_corners (qs := qs) c
  have l := c.len
  have c1 := lcL_map (g := gTupF (gsCons (gSet 2) (gsCons (gSet 3) gsNil))) (ts := tYesF) (a := eFz (eFnC F_is_tied [false, false, false] (aCons (eVar 0) (aCons (eVar 2) (aCons (eVar 3) aNil))))) (vs := [2, 3]) (fun p : Int × Int => .tuple [.int p.1, .int p.2]) (fun p => .bool true) (r.zip (r.drop 1))
    [.sh (wD m qs), .sh (tI r), .un, .un] (fun p hp => by
      have e := ev_is_tied m qs p.1 p.2
      have h := ht p hp
      simp [z_callR, e, h]) (by rw [List.length_zip, List.length_drop]; omega)
  have a1 := bAll_map (fun _ : Int × Int => true) (r.zip (r.drop 1))
  rw [List.all_eq_true.mpr fun x _ => rfl] at a1
  have z : zipD (r.map PyData.int) ((r.map PyData.int).drop 1) = (r.zip (r.drop 1)).map fun p => .tuple [.int p.1, .int p.2] := by
    rw [← List.map_drop, zipD_map]
  simp [F_is_way_of, m_is_way_of, z_callR, isT, e, h, c1, a1, z, -List.map_drop, -List.drop_one]
/-- a ring of a web: each two that follow each other are tied, the last one and the first one, too -/
structure Rnd (m : Int) (qs : List (Int × Int)) (r : List Int) : Prop where
  c : Crn m r
  three : 3 ≤ r.length
  tie : ∀ p ∈ cyc r, tieP p.1 p.2 ∈ qs
theorem ev_is_round {m : Int} {qs : List (Int × Int)} {r : List Int} (w : Rnd m qs r) : F_is_round [.sh (wD m qs), .sh (tI r)] = .ok (.sh (.bool true)) [.sh (wD m qs), .sh (tI r)] := by
  have l := w.three
  have hne : r ≠ [] := fun z => by rw [z] at l; exact absurd l (by decide)
  have e := ev_is_way (qs := qs) w.c hne fun p hp => w.tie p (cyc_drop hp)
  have i1 := ixTl PyData.int (l := r) (x := r[r.length - 1]) (List.getElem?_eq_getElem (by omega))
  have i0 := ixTm PyData.int (l := r) (i := 0) (x := r[0]) (List.getElem?_eq_getElem (by omega))
  have t := w.tie _ (cyc_last (r := r) (by omega))
  have e2 := ev_is_tied m qs r[r.length - 1] r[0]
  rw [decide_eq_true t] at e2
  have l3 : ¬ (r.length : Int) < 3 := by omega
  have i0' : dIx (.tuple (r.map PyData.int)) (.int 0) = some (.int r[0]) := i0
  simp [F_is_round, m_is_round, z_callR, isT, e, l3, i1, i0', e2]
end K19
set_option Elab.async false
set_option linter.all false
set_option maxRecDepth 100000
set_option maxHeartbeats 4000000
namespace K19
open PySem L2 DL
theorem add_tup {xs ys : List D} (h : xs.length + ys.length ≤ 1000) : dAdd (.tuple xs) (.tuple ys) = some (.tuple (xs ++ ys)) := by
  have sl := sizeLine_eq
  exact if_pos (by omega)
theorem split_at {r : List Int} {i : Nat} {m : Int} (h : r[i]? = some m) : Tr m r (r.drop i ++ r.take i) := by
  obtain ⟨hi, e⟩ := List.getElem?_eq_some_iff.mp h
  refine ⟨r.take i, r.drop (i + 1), ?_, ?_⟩
  · rw [← e, ← List.drop_eq_getElem_cons hi, List.take_append_drop]
  · rw [List.drop_eq_getElem_cons hi, e]
    rfl
theorem ev_turned {r : List Int} (nd : r.Nodup) (h : r ≠ []) (hl : r.length ≤ 500) : ∃ m x, m ∈ r ∧ (∀ j ∈ r, m ≤ j) ∧ Tr m r x ∧ F_turned_ring [.sh (tI r)] = .ok (.sh (tI x)) [.sh (tI r)] := by
  obtain ⟨m, hm, hle, e⟩ := minD_ints h
  obtain ⟨i, hi⟩ := List.mem_iff_getElem?.mp hm
  have e1 := bMin_intsT h
  rw [e] at e1
  have e2 := fIndex_ints (d := tI r) (x := m) rfl hi nd
  have il : i < r.length := (List.getElem?_eq_some_iff.mp hi).1
  have e3 := add_tup (xs := (r.map PyData.int).drop i) (ys := (r.map PyData.int).take i) (by rw [List.length_drop, List.length_take, List.length_map]; omega)
  refine ⟨m, _, hm, hle, split_at hi, ?_⟩
  show F_turned_ring [Sl.sh (tI r)] = R.ok (Sl.sh (.tuple ((r.drop i ++ r.take i).map PyData.int))) [Sl.sh (tI r)]
  rw [List.map_append, List.map_drop, List.map_take]
  simp [F_turned_ring, m_turned_ring, e1, e2, cut_from, cut_to, e3, -List.map_drop, -List.map_take, -List.map_append]
theorem ltB_tI (a b : List Int) : ltB (tI a) (tI b) = decide (cmpL (a.map PyData.int) (b.map PyData.int) = .lt) := by
  unfold ltB
  simp only [cmpB]
  cases cmpL (a.map PyData.int) (b.map PyData.int) <;> rfl
theorem okAll_tI (a b : List Int) : okAll [tI a, tI b] := fun x hx y hy => by
  have h : ∀ u v : List Int, okB (tI u) (tI v) = true := fun u v => by rw [okB_tup]; exact okL_ints u v
  rcases List.mem_cons.mp hx with rfl | hx
  · rcases List.mem_cons.mp hy with rfl | hy
    · exact h _ _
    · rw [List.mem_singleton.mp hy]; exact h _ _
  · rw [List.mem_singleton.mp hx]
    rcases List.mem_cons.mp hy with rfl | hy
    · exact h _ _
    · rw [List.mem_singleton.mp hy]; exact h _ _
theorem bMin_tI (a b : List Int) : bMin [tI a, tI b] = some (minD [tI a, tI b]) := by
  show (if minOk [tI a, tI b] = true then some (minD [tI a, tI b]) else none) = _
  rw [if_pos]
  refine minOk_iff.mpr ⟨okAll_tI a b, ?_, ?_, by simp⟩
  · exact lay_all fun d hd => by
      rcases List.mem_cons.mp hd with rfl | hd
      · simp only [PyData.canLay0]; exact lay_ints a
      · rw [List.mem_singleton.mp hd]; simp only [PyData.canLay0]; exact lay_ints b
  · exact depth_all.mpr fun d hd => by
      rcases List.mem_cons.mp hd with rfl | hd
      · simp only [PyData.depth]; rw [depth_ints]; omega
      · rw [List.mem_singleton.mp hd]; simp only [PyData.depth]; rw [depth_ints]; omega
theorem minD_comm (a b : List Int) : minD [tI a, tI b] = minD [tI b, tI a] := by
  rw [minD_two, minD_two]
  cases h1 : ltB (tI b) (tI a) with
  | true =>
    have h2 := swoB.asym _ _ h1
    rw [h2]
    rfl
  | false =>
    cases h2 : ltB (tI a) (tI b) with
    | true => rfl
    | false =>
      have ok := okAll_tI a b (tI a) (by simp) (tI b) (by simp)
      have e := le_antiB ok h1 h2
      rw [e]
/-- the lesser one of a ring that begins at its least, and its other way round: by their seconds -/
theorem minD_mir {m a b : Int} {l : List Int} (h : a ≠ b) : minD [tI (m :: a :: (l ++ [b])), tI (mir (m :: a :: (l ++ [b])))] = if b < a then tI (mir (m :: a :: (l ++ [b]))) else tI (m :: a :: (l ++ [b])) := by
  have e : mir (m :: a :: (l ++ [b])) = m :: b :: (l.reverse ++ [a]) := by simp [mir]
  rw [minD_two, ltB_tI, e]
  have c : cmpL ((m :: b :: (l.reverse ++ [a])).map PyData.int) ((m :: a :: (l ++ [b])).map PyData.int) = .lt ↔ b < a := by
    simp only [List.map_cons, cmpL, cmpB, cmpI_self]
    unfold cmpI
    split
    · simp; omega
    · rw [if_pos (by omega)]
      simp
      omega
  by_cases q : b < a
  · rw [if_pos (decide_eq_true (c.mpr q)), if_pos q]
  · rw [if_neg (fun z => q (c.mp (of_decide_eq_true z))), if_neg q]
theorem ev_plain_of {r : List Int} (nd : r.Nodup) (h : r ≠ []) (hl : r.length ≤ 500) : ∃ m x, m ∈ r ∧ (∀ j ∈ r, m ≤ j) ∧ Tr m r x ∧ F_plain_of [.sh (tI r)] = .ok (.sh (minD [tI x, tI (mir x)])) [.sh (tI r)] := by
  obtain ⟨m, x, hm, hle, ht, e⟩ := ev_turned nd h hl
  obtain ⟨m', y, hm', hle', ht', e'⟩ := ev_turned (r := r.reverse) ((List.reverse_perm r).nodup_iff.mpr nd) (by simpa using h) (by simpa using hl)
  have em : m' = m := Int.le_antisymm (hle' m (List.mem_reverse.mpr hm)) (hle m' (List.mem_reverse.mp hm'))
  subst em
  have ey := Tr.unique ((List.reverse_perm r).nodup_iff.mpr nd) ht' ht.rev
  subst ey
  refine ⟨m', x, hm, hle, ht, ?_⟩
  have e2 := bMin_tI x (mir x)
  have e3 : F_turned_ring [.sh (.tuple (r.map PyData.int).reverse)] = .ok (.sh (tI (mir x))) [.sh (.tuple (r.map PyData.int).reverse)] := by
    rw [← List.map_reverse]
    exact e'
  simp [F_plain_of, m_plain_of, z_callR, e, e3, e2, -List.map_reverse]
end K19
set_option Elab.async false
set_option linter.all false
set_option maxRecDepth 100000
set_option maxHeartbeats 4000000
namespace K19
open PySem L2 DL
theorem ev_is_ring_of {m : Int} {qs : List (Int × Int)} {r : List Int} (w : Rnd m qs r) {a : Int} (h0 : r[0]? = some a) (hle : ∀ j ∈ r, a ≤ j) : F_is_ring_of [.sh (wD m qs), .sh (tI r)] = .ok (.sh (.bool true)) [.sh (wD m qs), .sh (tI r)] := by
  have l := w.three
  have hne : r ≠ [] := fun z => by rw [z] at l; exact absurd l (by decide)
  have e := ev_is_round w
  obtain ⟨m0, hm, hl, e1⟩ := minD_ints hne
  have e2 := bMin_intsT hne
  have ea : m0 = a := Int.le_antisymm (hl a (List.mem_of_getElem? h0)) (hle m0 hm)
  rw [e1, ea] at e2
  have i0 : dIx (.tuple (r.map PyData.int)) (.int 0) = some (.int a) := ixTm PyData.int (i := 0) h0
  simp [F_is_ring_of, m_is_ring_of, z_callR, e, e2, i0]
theorem ev_is_ring {m : Int} {qs : List (Int × Int)} {r : List Int} (W : Web m qs) (w : Rnd m qs r) {a : Int} (h0 : r[0]? = some a) (hle : ∀ j ∈ r, a ≤ j) : F_is_ring [.sh (wD m qs), .sh (tI r)] = .ok (.sh (.bool true)) [.sh (wD m qs), .sh (tI r)] := by
  have e := ev_is_ring_of w h0 hle
  have e1 := ev_want W
  simp [F_is_ring, m_is_ring, z_callR, e, e1]
theorem ev_is_plain {m : Int} {qs : List (Int × Int)} {r : List Int} (W : Web m qs) (w : Rnd m qs r) {a b c : Int} (h0 : r[0]? = some a) (hle : ∀ j ∈ r, a ≤ j) (h1 : r[1]? = some b) (h2 : r[r.length - 1]? = some c) : F_is_plain_ring [.sh (wD m qs), .sh (tI r)] = .ok (.sh (.bool (decide (b < c)))) [.sh (wD m qs), .sh (tI r)] := by
  have e := ev_is_ring_of w h0 hle
  have e1 := ev_want W
  have i1 : dIx (.tuple (r.map PyData.int)) (.int 1) = some (.int b) := ixTm PyData.int (i := 1) h1
  have i2 := ixTl PyData.int h2
  simp [F_is_plain_ring, m_is_plain_ring, z_callR, e, e1, i1, i2]
theorem ev_want_round {m : Int} {qs : List (Int × Int)} {r : List Int} (w : Rnd m qs r) : F_want_round [.sh (wD m qs), .sh (tI r)] = .ok (.sh .none) [.sh (wD m qs), .sh (tI r)] := by
  have e := ev_is_round w
  simp [F_want_round, m_want_round, z_callR, e]
theorem ev_plain_ring {m : Int} {qs : List (Int × Int)} {r : List Int} (W : Web m qs) (w : Rnd m qs r) : ∃ k x, k ∈ r ∧ (∀ j ∈ r, k ≤ j) ∧ Tr k r x ∧ F_plain_ring [.sh (wD m qs), .sh (tI r)] = .ok (.sh (minD [tI x, tI (mir x)])) [.sh (wD m qs), .sh (tI r)] := by
  have l := w.three
  have hne : r ≠ [] := fun z => by rw [z] at l; exact absurd l (by decide)
  have e1 := ev_want W
  have e2 := ev_want_round w
  obtain ⟨k, x, hk, hl, ht, e⟩ := ev_plain_of w.c.nd hne (by have := w.c.len; omega)
  refine ⟨k, x, hk, hl, ht, ?_⟩
  simp [F_plain_ring, m_plain_ring, z_callR, e, e1, e2]
/-! ### chords -/
theorem hasI2 (x a b : Int) : hasD (.int x) [.int a, .int b] = some (decide (x = a ∨ x = b)) := by
  have h := hasI x [a, b]
  rw [show [a, b].map PyData.int = [.int a, .int b] from rfl] at h
  rw [h]
  congr 1
  rw [Bool.eq_iff_iff, decide_eq_true_eq, decide_eq_true_eq]
  simp
def follow (r : List Int) (p : Int × Int) : Prop := (p.1, p.2) ∈ cyc r ∨ (p.2, p.1) ∈ cyc r
instance (r : List Int) (p : Int × Int) : Decidable (follow r p) := inferInstanceAs (Decidable (_ ∨ _))
def chordB (r : List Int) (p : Int × Int) : Bool := decide (p.1 ∈ r ∧ p.2 ∈ r ∧ ¬ follow r p)
def Pl (s : Sl) : Prop := s = .un ∨ ∃ d, s = .sh d
noncomputable abbrev bodyC : Sf := (sIf (tAndF (tOf (eOp2 dInS (eOp2 dIx (eVar 3) (eC (.int 0))) (eVar 1))) (tOf (eOp2 dInS (eOp2 dIx (eVar 3) (eC (.int 1))) (eVar 1)))) (sSeq (sSet 4 (eR (eCall bAbs (aCons (eOp2 dSub (eRm rtSeq fIndex (eVar 1) (aCons (eOp2 dIx (eVar 3) (eC (.int 0))) aNil)) (eRm rtSeq fIndex (eVar 1) (aCons (eOp2 dIx (eVar 3) (eC (.int 1))) aNil))) aNil)))) (sDrop (eMt mExt (eVar 2) (aCons (eFz (eIfR (tOf (eOp2 dNotInS (eVar 4) (eTup (aCons (eC (.int 1)) (aCons (eOp2 dSub (eCall bLen (aCons (eVar 1) aNil)) (eC (.int 1))) aNil))))) (eLst (aCons (eVar 3) aNil)) (eLst aNil))) aNil)))) sNil)
theorem ch_one {r : List Int} {w : D} (nd : r.Nodup) (h3 : 3 ≤ r.length) (hl : r.length ≤ 500) {p : Int × Int} {acc : List (Int × Int)} (ha : acc.length ≤ 1000) {x3 x4 : Sl} (h : Pl x3) (h' : Pl x4) :
    ∃ x4', Pl x4' ∧ for1 (gSet 3) bodyC (pr p) [.sh w, .sh (tI r), .own (.ls (acc.map pr)), x3, x4] = .ok .nx [.sh w, .sh (tI r), .own (.ls ((acc ++ (if chordB r p = true then [p] else [])).map pr)), .sh (pr p), x4'] := by
  have p0 : dIx (pr p) (.int 0) = some (.int p.1) := z_dIxt0 _ _
  have p1 : dIx (pr p) (.int 1) = some (.int p.2) := z_dIxt1 _ _ _
  by_cases h1 : p.1 ∈ r
  · by_cases h2 : p.2 ∈ r
    · obtain ⟨i, hi⟩ := List.mem_iff_getElem?.mp h1
      obtain ⟨j, hj⟩ := List.mem_iff_getElem?.mp h2
      have f1 := fIndex_ints (d := tI r) rfl hi nd
      have f2 := fIndex_ints (d := tI r) rfl hj nd
      obtain ⟨il, ei⟩ := List.getElem?_eq_some_iff.mp hi
      obtain ⟨jl, ej⟩ := List.getElem?_eq_some_iff.mp hj
      have ca := cyc_apart nd h3 il jl
      rw [ei, ej] at ca
      obtain ⟨A, hA⟩ : ∃ A : Int, A = (((i : Int) - (j : Int)).natAbs : Int) := ⟨_, rfl⟩
      have ab : bAbs [.int ((i : Int) - (j : Int))] = some (.int A) := by
        show some (PyData.int (if (i : Int) - j < 0 then -((i : Int) - j) else (i : Int) - j)) = _
        rw [hA]
        congr 2
        split <;> omega
      have cc : chordB r p = decide (¬ (A = 1 ∨ A = (r.length : Int) - 1)) := by
        unfold chordB follow
        rw [Bool.eq_iff_iff, decide_eq_true_eq, decide_eq_true_eq]
        constructor
        · rintro ⟨_, _, q⟩ z
          exact q (ca.mpr (by omega))
        · intro q
          exact ⟨h1, h2, fun z => q (by have := ca.mp z; omega)⟩
      clear ca hA
      have l1 : acc.length + 1 < 1000000 := by omega
      have l0 : acc.length < 1000000 := by omega
      refine ⟨.sh (.int A), .inr ⟨_, rfl⟩, ?_⟩
      by_cases q : A = 1 ∨ A = (r.length : Int) - 1
      · rw [cc, decide_eq_false (fun z => z q), if_neg Bool.false_ne_true, List.append_nil]
        rcases h with rfl | ⟨d, rfl⟩ <;> rcases h' with rfl | ⟨d', rfl⟩ <;> simp [p0, p1, h1, h2, f1, f2, ab, hasI2, q, l0, l1, -z_bAbs]
      · rw [cc, decide_eq_true q, if_pos rfl]
        rcases h with rfl | ⟨d, rfl⟩ <;> rcases h' with rfl | ⟨d', rfl⟩ <;> simp [p0, p1, h1, h2, f1, f2, ab, hasI2, q, l0, l1, -z_bAbs]
    · refine ⟨x4, h', ?_⟩
      have cc : chordB r p = false := decide_eq_false fun z => h2 z.2.1
      rw [cc, if_neg Bool.false_ne_true, List.append_nil]
      rcases h with rfl | ⟨d, rfl⟩ <;> rcases h' with rfl | ⟨d', rfl⟩ <;> simp [p0, p1, h1, h2]
  · refine ⟨x4, h', ?_⟩
    have cc : chordB r p = false := decide_eq_false fun z => h1 z.1
    rw [cc, if_neg Bool.false_ne_true, List.append_nil]
    rcases h with rfl | ⟨d, rfl⟩ <;> rcases h' with rfl | ⟨d', rfl⟩ <;> simp [p0, h1]
end K19
set_option Elab.async false
set_option linter.all false
set_option maxRecDepth 100000
set_option maxHeartbeats 4000000
namespace K19
open PySem L2 DL
theorem ch_loop {r : List Int} {w : D} (nd : r.Nodup) (h3 : 3 ≤ r.length) (hl : r.length ≤ 500) : ∀ (ts acc : List (Int × Int)) (x3 x4 : Sl), acc.length + ts.length ≤ 1000 → Pl x3 → Pl x4 →
    ∃ y3 y4, forL (gSet 3) bodyC (ts.map pr) [.sh w, .sh (tI r), .own (.ls (acc.map pr)), x3, x4] = .ok .nx [.sh w, .sh (tI r), .own (.ls ((acc ++ ts.filter (chordB r)).map pr)), y3, y4]
  | [], acc, x3, x4, _, _, _ => ⟨x3, x4, by simp⟩
  | p :: ts, acc, x3, x4, ha, h, h' => by
    rw [List.length_cons] at ha
    obtain ⟨y, hy, e⟩ := ch_one (w := w) nd h3 hl (p := p) (acc := acc) (by omega) h h'
    obtain ⟨y3, y4, e2⟩ := ch_loop nd h3 hl ts (acc ++ (if chordB r p = true then [p] else [])) (.sh (pr p)) y (by
      rw [List.length_append]
      split
      · rw [List.length_singleton]; omega
      · rw [List.length_nil]; omega) (.inr ⟨_, rfl⟩) hy
    refine ⟨y3, y4, ?_⟩
    rw [List.map_cons, forL_nx e, e2, List.append_assoc]
    congr 6
    rw [List.filter_cons]
    split <;> rfl
theorem ev_chord_in {m : Int} {qs : List (Int × Int)} {r : List Int} (nd : r.Nodup) (h3 : 3 ≤ r.length) (hl : r.length ≤ 500) (hq : qs.length ≤ 1000) :
    F_chord_in [.sh (wD m qs), .sh (tI r)] = .ok (.sh (match qs.filter (chordB r) with
      | [] => .none
      | t :: _ => pr t)) [.sh (wD m qs), .sh (tI r)] := by
  obtain ⟨y3, y4, e⟩ := ch_loop (w := wD m qs) nd h3 hl qs [] .un .un (by simpa using hq) (.inl rfl) (.inl rfl)
  rw [List.nil_append, List.map_nil] at e
  cases q : qs.filter (chordB r) with
  | nil =>
    rw [q, List.map_nil] at e
    have n0 : dNe (.list []) (.list []) = some (.bool false) := dNe_prs0 []
    simp [F_chord_in, m_chord_in, wD_2, e, n0]
  | cons t ts =>
    rw [q] at e
    have i0 : dIx (.list ((t :: ts).map pr)) (.int 0) = some (pr t) := ixLm pr (l := t :: ts) (i := 0) rfl
    have n0 : dNe (.list ((t :: ts).map pr)) (.list []) = some (.bool true) := by rw [dNe_prs0]; rfl
    simp [F_chord_in, m_chord_in, wD_2, e, i0, n0, -List.map_cons]
theorem ev_has_chord {m : Int} {qs : List (Int × Int)} {r : List Int} (W : Web m qs) (w : Rnd m qs r) : F_has_chord [.sh (wD m qs), .sh (tI r)] = .ok (.sh (.bool (qs.any (chordB r)))) [.sh (wD m qs), .sh (tI r)] := by
  have e1 := ev_want W
  have e2 := ev_want_round w
  have e3 := ev_chord_in (m := m) (qs := qs) w.c.nd w.three (by have := w.c.len; omega) (by have := W.len; omega)
  cases q : qs.filter (chordB r) with
  | nil =>
    rw [q] at e3
    have a : qs.any (chordB r) = false := by
      rw [List.any_eq_false]
      intro p hp z
      have : p ∈ qs.filter (chordB r) := List.mem_filter.mpr ⟨hp, z⟩
      rw [q] at this
      cases this
    rw [a]
    simp [F_has_chord, m_has_chord, z_callR, e1, e2, e3]
  | cons t ts =>
    rw [q] at e3
    have a : qs.any (chordB r) = true := by
      rw [List.any_eq_true]
      have : t ∈ qs.filter (chordB r) := by rw [q]; exact List.mem_cons_self ..
      exact ⟨t, (List.mem_filter.mp this).1, (List.mem_filter.mp this).2⟩
    rw [a]
    have n1 : isNone (pr t) = false := rfl
    simp [F_has_chord, m_has_chord, z_callR, e1, e2, e3, n1]
end K19
set_option Elab.async false
set_option linter.all false
set_option maxRecDepth 100000
set_option maxHeartbeats 4000000
namespace K19
open PySem L2 DL
theorem ev_pick {p : List D} (P : Pot p) {ns : List Int} (h : ns ≠ []) (hl : ns.length < 1000) : ∃ p' v, Pot p' ∧ v ∈ ns ∧ F__law_pick [.io (.ls p), .sh (.list (ns.map PyData.int))] = .ok (.sh (.int v)) [.io (.ls p'), .sh (.list (ns.map PyData.int))] := by
  have l0 : 0 < ns.length := List.length_pos_iff.mpr h
  obtain ⟨p', dg, P', h0, h1, e⟩ := ev_draw P (r := (ns.length : Int)) (by omega) (by omega)
  obtain ⟨i, rfl⟩ := Int.eq_ofNat_of_zero_le h0
  have hi : i < ns.length := by omega
  have ix := ixLm PyData.int (l := ns) (i := i) (x := ns[i]) (List.getElem?_eq_getElem hi)
  exact ⟨p', ns[i], P', List.getElem_mem _, by simp [F__law_pick, m__law_pick, z_callR, e, ix]⟩
theorem ev_lweb (m : Int) {ps : List (Int × Int)} (h : ps.length < 64) : ∃ qs, (∀ q, q ∈ qs ↔ q ∈ ps) ∧ qs.Pairwise ltP ∧ qs.length ≤ ps.length ∧ F__law_web [.sh (.int m), .sh (.list (ps.map pr))] = .ok (.sh (wD m qs)) [.sh (.int m), .sh (.list (ps.map pr))] := by
  obtain ⟨qs, e, up, hm, ok⟩ := sortSet_prs ps
  have s := setOk_prs h
  have l1 := (sortD_perm (dedupD (ps.map pr))).length_eq
  rw [e, List.length_map] at l1
  have l2 := dedup_len_le (ds := ps.map pr)
  rw [List.length_map] at l2
  refine ⟨qs, hm, up, by omega, ?_⟩
  simp [F__law_web, m__law_web, s, ok, e, wD]
/-! ### drawn ties -/
noncomputable abbrev bodyI : Sf := (sIf (tOf (eOp2 dLtX (eFz (eFnC F__law_draw [true, false] (aCons (eVar 0) (aCons (eC (.int 12)) aNil)))) (eVar 2))) (sDrop (eMt mApp (eVar 3) (aCons (eTup (aCons (eVar 5) (aCons (eVar 4) aNil))) aNil))) sNil)
def frD (p : List D) (m v : Int) (ps : List (Int × Int)) (x4 x5 : Sl) : Fr := [.io (.ls p), .sh (.int m), .sh (.int v), .own (.ls (ps.map pr)), x4, x5]
theorem dr_in {m v : Int} {o : Int} (ho : 0 ≤ o) : ∀ (is : List Nat) (p : List D) (ps : List (Int × Int)) (x5 : Sl), Pot p → Pl x5 → (∀ i ∈ is, (i : Int) < o) → ps.length + is.length ≤ 1000 →
    ∃ p' ps' y5, Pot p' ∧ Pl y5 ∧ (∀ q ∈ ps', q ∈ ps ∨ (0 ≤ q.1 ∧ q.1 < q.2 ∧ q.2 = o)) ∧ ps'.length ≤ ps.length + is.length ∧
      forL (gSet 5) bodyI (is.map fun (i : Nat) => PyData.int (i : Int)) (frD p m v ps (.sh (.int o)) x5) = .ok .nx (frD p' m v ps' (.sh (.int o)) y5)
  | [], p, ps, x5, P, h, _, _ => ⟨p, ps, x5, P, h, fun q hq => .inl hq, Nat.le_add_right _ _, by rw [List.map_nil, z_forL1]⟩
  | i :: is, p, ps, x5, P, h, hi, hl => by
    rw [List.length_cons] at hl
    obtain ⟨p1, dg, P1, h0, h1, e⟩ := ev_draw P (r := 12) (by decide) (by decide)
    have lt := hi i (List.mem_cons_self ..)
    by_cases q : dg < v
    · have e1 : for1 (gSet 5) bodyI (.int (i : Int)) (frD p m v ps (.sh (.int o)) x5) = .ok .nx (frD p1 m v (ps ++ [((i : Int), o)]) (.sh (.int o)) (.sh (.int (i : Int)))) := by
        have l2 : ps.length < 1000000 := by omega
        unfold frD
        rcases h with rfl | ⟨d, rfl⟩ <;> simp [z_callR, e, q, mApp, l2, pr]
      obtain ⟨p', ps', y5, P', hy, hm, hle, e2⟩ := dr_in ho is p1 (ps ++ [((i : Int), o)]) (.sh (.int (i : Int))) P1 (.inr ⟨_, rfl⟩) (fun j hj => hi j (List.mem_cons_of_mem _ hj)) (by rw [List.length_append, List.length_singleton]; omega)
      refine ⟨p', ps', y5, P', hy, fun z hz => ?_, by rw [List.length_append, List.length_singleton] at hle; rw [List.length_cons]; omega, by rw [List.map_cons, forL_nx e1, e2]⟩
      rcases hm z hz with w | w
      · rcases List.mem_append.mp w with w | w
        · exact .inl w
        · rw [List.mem_singleton.mp w]
          exact .inr ⟨by show (0 : Int) ≤ (i : Int); omega, lt, rfl⟩
      · exact .inr w
    · have e1 : for1 (gSet 5) bodyI (.int (i : Int)) (frD p m v ps (.sh (.int o)) x5) = .ok .nx (frD p1 m v ps (.sh (.int o)) (.sh (.int (i : Int)))) := by
        unfold frD
        rcases h with rfl | ⟨d, rfl⟩ <;> simp [z_callR, e, q]
      obtain ⟨p', ps', y5, P', hy, hm, hle, e2⟩ := dr_in ho is p1 ps (.sh (.int (i : Int))) P1 (.inr ⟨_, rfl⟩) (fun j hj => hi j (List.mem_cons_of_mem _ hj)) (by omega)
      exact ⟨p', ps', y5, P', hy, hm, by rw [List.length_cons]; omega, by rw [List.map_cons, forL_nx e1, e2]⟩
theorem small_n {n : Nat} (h : n < 1000) : small62 (n : Int) = true := by
  unfold small62
  rw [decide_eq_true_eq]
  refine ⟨?_, ?_⟩
  · have : (0 : Int) ≤ 2 ^ 62 := by decide
    omega
  · have : (1000 : Int) ≤ 2 ^ 62 := by decide
    omega
theorem dr_step {m v i : Int} {L : List D} {p p1 : List D} {ps ps1 : List (Int × Int)} {x4 x5 y5 : Sl} (h4 : Pl x4) (s62 : small62 i = true) (hL : ((List.range i.toNat).map fun (j : Nat) => (PyData.int (j : Int) : D)) = L)
    (e : forL (gSet 5) bodyI L (frD p m v ps (.sh (.int i)) x5) = .ok .nx (frD p1 m v ps1 (.sh (.int i)) y5)) :
    for1 (gSet 4) (sFor (iRng1F (aCons (eVar 4) aNil)) (gSet 5) bodyI) (.int i) (frD p m v ps x4 x5) = .ok .nx (frD p1 m v ps1 (.sh (.int i)) y5) := by
  unfold frD at e ⊢
  rcases h4 with rfl | ⟨d, rfl⟩ <;> simp [iRng1F, s62, hL, e]
theorem dr_out {m v : Int} : ∀ (is : List Nat) (p : List D) (ps : List (Int × Int)) (x4 x5 : Sl), Pot p → Pl x4 → Pl x5 → (∀ i ∈ is, (i : Int) < m ∧ i < 1000) → ps.length + is.sum ≤ 1000 →
    ∃ p' ps' y4 y5, Pot p' ∧ (∀ q ∈ ps', q ∈ ps ∨ (0 ≤ q.1 ∧ q.1 < q.2 ∧ q.2 < m)) ∧ ps'.length ≤ ps.length + is.sum ∧
      forL (gSet 4) (sFor (iRng1F (aCons (eVar 4) aNil)) (gSet 5) bodyI) (is.map fun (i : Nat) => PyData.int (i : Int)) (frD p m v ps x4 x5) = .ok .nx (frD p' m v ps' y4 y5)
  | [], p, ps, x4, x5, P, _, _, _, _ => ⟨p, ps, x4, x5, P, fun q hq => .inl hq, Nat.le_add_right _ _, by rw [List.map_nil, z_forL1]⟩
  | i :: is, p, ps, x4, x5, P, h4, h5, hi, hl => by
    rw [List.sum_cons] at hl
    obtain ⟨lm, l1⟩ := hi i (List.mem_cons_self ..)
    obtain ⟨p1, ps1, y5, P1, hy, hm1, hle1, e⟩ := dr_in (m := m) (v := v) (o := (i : Int)) (by omega) (List.range i) p ps x5 P h5 (fun j hj => by have := List.mem_range.mp hj; omega) (by rw [List.length_range]; omega)
    rw [List.length_range] at hle1
    have e1 := dr_step h4 (small_n l1) (by rw [Int.toNat_natCast]) e
    obtain ⟨p', ps', y4, y5', P', hm, hle, e2⟩ := dr_out is p1 ps1 (.sh (.int (i : Int))) y5 P1 (.inr ⟨_, rfl⟩) hy (fun j hj => hi j (List.mem_cons_of_mem _ hj)) (by omega)
    refine ⟨p', ps', y4, y5', P', fun z hz => ?_, by rw [List.sum_cons]; omega, by rw [List.map_cons, forL_nx e1, e2]⟩
    rcases hm z hz with w | w
    · rcases hm1 z w with w | ⟨w1, w2, w3⟩
      · exact .inl w
      · exact .inr ⟨w1, w2, by omega⟩
    · exact .inr w
end K19
set_option Elab.async false
set_option linter.all false
set_option maxRecDepth 100000
set_option maxHeartbeats 4000000
namespace K19
open PySem L2 DL
theorem drawn_fin {m v : Int} {L : List D} {p p1 : List D} {ps rs : List (Int × Int)} {y4 y5 : Sl} (s62 : small62 m = true) (hL : ((List.range m.toNat).map fun (j : Nat) => (PyData.int (j : Int) : D)) = L)
    (e : forL (gSet 4) (sFor (iRng1F (aCons (eVar 4) aNil)) (gSet 5) bodyI) L (frD p m v [] .un .un) = .ok .nx (frD p1 m v ps y4 y5)) (ok : srtOk (ps.map pr) = true) (es : sortD (ps.map pr) = rs.map pr) :
    F__law_drawn_ties [.io (.ls p), .sh (.int m), .sh (.int v)] = .ok (.own (.ls (rs.map pr))) [.io (.ls p1), .sh (.int m), .sh (.int v)] := by
  unfold frD at e
  rw [List.map_nil] at e
  simp [F__law_drawn_ties, m__law_drawn_ties, iRng1F, s62, hL, e, ok, es]
theorem ev_drawn {p : List D} (P : Pot p) {m : Nat} (hm : m ≤ 8) (v : Int) : ∃ (p' : List D) (rs : List (Int × Int)), Pot p' ∧ (∀ q ∈ rs, 0 ≤ q.1 ∧ q.1 < q.2 ∧ q.2 < (m : Int)) ∧ rs.length ≤ 28 ∧
    F__law_drawn_ties [.io (.ls p), .sh (.int (m : Int)), .sh (.int v)] = .ok (.own (.ls (rs.map pr))) [.io (.ls p'), .sh (.int (m : Int)), .sh (.int v)] := by
  have sum : (List.range m).sum ≤ 28 := by
    have : m = 0 ∨ m = 1 ∨ m = 2 ∨ m = 3 ∨ m = 4 ∨ m = 5 ∨ m = 6 ∨ m = 7 ∨ m = 8 := by omega
    rcases this with rfl | rfl | rfl | rfl | rfl | rfl | rfl | rfl | rfl <;> decide
  obtain ⟨p', ps, y4, y5, P', hq, hl, e⟩ := dr_out (m := (m : Int)) (v := v) (List.range m) p [] .un .un P (.inl rfl) (.inl rfl) (fun i hi => by have := List.mem_range.mp hi; omega) (by rw [List.length_nil]; omega)
  have sp := sortD_perm (ps.map pr)
  obtain ⟨rs, e2, hr⟩ := pull pr (ds := sortD (ps.map pr)) (xs := ps) fun d hd => sp.mem_iff.mp hd
  refine ⟨p', rs, P', fun q hq' => ?_, ?_, drawn_fin (small_n (by omega)) (by rw [Int.toNat_natCast]) e (srtOk_prs ps) e2⟩
  · rcases hq q (hr q hq') with z | z
    · cases z
    · exact z
  · have := sp.length_eq
    rw [e2, List.length_map, List.length_map] at this
    rw [List.length_nil] at hl
    omega
/-! ### mixed -/
noncomputable abbrev bodyM : Sf := (sDrop (eMt mApp (eVar 3) (aCons (eMt mPopAt (eVar 2) (aCons (eFz (eFnC F__law_draw [true, false] (aCons (eVar 0) (aCons (eCall bLen (aCons (eVar 2) aNil)) aNil)))) aNil)) aNil)))
def frM (p : List D) (s : D) (l f : List Int) (x : Sl) : Fr := [.io (.ls p), .sh s, .own (.ls (l.map PyData.int)), .own (.ls (f.map PyData.int)), x]
theorem _root_.List.eraseIdx_map_int : ∀ (l : List Int) (i : Nat), (l.eraseIdx i).map PyData.int = (l.map PyData.int).eraseIdx i
  | [], _ => rfl
  | _ :: _, 0 => rfl
  | a :: l, i + 1 => by
    show PyData.int a :: (l.eraseIdx i).map PyData.int = PyData.int a :: (l.map PyData.int).eraseIdx i
    rw [List.eraseIdx_map_int l i]
theorem pop_at {l : List Int} {i : Nat} {a : Int} (h : l[i]? = some a) (hl : l.length ≤ 1000) : mPopAt (l.map PyData.int) [.int (i : Int)] = some (.int a, (l.eraseIdx i).map PyData.int) := by
  obtain ⟨hi, e⟩ := List.getElem?_eq_some_iff.mp h
  have e1 : seqIndex? (i : Int) (l.map PyData.int).length = some i := by
    rw [List.length_map, PySem.seqIndex_of (by omega) (by omega), Int.toNat_natCast]
  have e2 : (l.map PyData.int)[i]? = some (.int a) := by
    rw [List.getElem?_map, h]
    rfl
  unfold mPopAt
  dsimp only
  rw [if_pos ⟨by omega, by omega⟩, e1]
  dsimp only
  rw [e2]
  dsimp only
  congr 2
  exact (List.eraseIdx_map_int l i).symm
theorem mx_core {s : D} {p p' cs f : List D} {c' : List D} {N dg : Int} {a : D} {x : Sl} (hx : Pl x) (t : Int) (hN : bLen [.list cs] = some (.int N)) (e : F__law_draw [.io (.ls p), .sh (.int N)] = .ok (.sh (.int dg)) [.io (.ls p'), .sh (.int N)])
    (e1 : mPopAt cs [.int dg] = some (a, c')) (l2 : f.length < 1000000) :
    for1 (gSet 4) bodyM (.int t) [.io (.ls p), .sh s, .own (.ls cs), .own (.ls f), x] = .ok .nx [.io (.ls p'), .sh s, .own (.ls c'), .own (.ls (f ++ [a])), .sh (.int t)] := by
  rcases hx with rfl | ⟨d, rfl⟩ <;> simp [z_callR, hN, e, e1, mApp, l2, -z_bLen1]
theorem mx_one {s : D} {p : List D} (P : Pot p) {l f : List Int} (h : l ≠ []) (hl : l.length ≤ 900) (hf : f.length ≤ 900) {x : Sl} (hx : Pl x) (t : Int) : ∃ p' i a, Pot p' ∧ l[i]? = some a ∧
    for1 (gSet 4) bodyM (.int t) (frM p s l f x) = .ok .nx (frM p' s (l.eraseIdx i) (f ++ [a]) (.sh (.int t))) := by
  have l0 : 0 < l.length := List.length_pos_iff.mpr h
  obtain ⟨p', dg, P', h0, h1, e⟩ := ev_draw P (r := (l.length : Int)) (by omega) (by omega)
  obtain ⟨i, rfl⟩ := Int.eq_ofNat_of_zero_le h0
  have hi : i < l.length := by omega
  have e1 := pop_at (l := l) (i := i) (a := l[i]) (List.getElem?_eq_getElem hi) (by omega)
  refine ⟨p', i, l[i], P', List.getElem?_eq_getElem hi, ?_⟩
  have c := mx_core (s := s) (f := f.map PyData.int) hx t (N := (l.length : Int)) (by rw [z_bLen1, List.length_map]) e e1 (by rw [List.length_map]; omega)
  unfold frM
  rw [List.map_append]
  exact c
theorem erase_perm {l : List Int} {i : Nat} {a : Int} (h : l[i]? = some a) : (a :: l.eraseIdx i).Perm l := by
  obtain ⟨hi, e⟩ := List.getElem?_eq_some_iff.mp h
  have e1 : l = l.take i ++ a :: l.drop (i + 1) := by
    rw [← e, ← List.drop_eq_getElem_cons hi, List.take_append_drop]
  rw [List.eraseIdx_eq_take_drop_succ]
  exact (List.perm_middle.symm).trans (by rw [← e1])
theorem mx_loop {s : D} : ∀ (ts : List Nat) (p : List D) (l f : List Int) (x : Sl), Pot p → Pl x → l.length = ts.length → l.length + f.length ≤ 800 →
    ∃ p' f' y, Pot p' ∧ f'.Perm (f ++ l) ∧ forL (gSet 4) bodyM (ts.map fun (i : Nat) => PyData.int (i : Int)) (frM p s l f x) = .ok .nx (frM p' s [] f' y)
  | [], p, l, f, x, P, hx, h, _ => by
    have : l = [] := List.eq_nil_of_length_eq_zero h
    subst this
    exact ⟨p, f, x, P, by rw [List.append_nil], by rw [List.map_nil, z_forL1]⟩
  | t :: ts, p, l, f, x, P, hx, h, hl => by
    rw [List.length_cons] at h
    obtain ⟨p1, i, a, P1, hi, e1⟩ := mx_one (s := s) P (l := l) (f := f) (fun z => by rw [z] at h; cases h) (by omega) (by omega) hx (t : Int)
    have pe := erase_perm hi
    have ln := pe.length_eq
    rw [List.length_cons] at ln
    obtain ⟨p', f', y, P', hp, e2⟩ := mx_loop ts p1 (l.eraseIdx i) (f ++ [a]) (.sh (.int (t : Int))) P1 (.inr ⟨_, rfl⟩) (by omega) (by rw [List.length_append, List.length_singleton]; omega)
    refine ⟨p', f', y, P', hp.trans ?_, by rw [List.map_cons, forL_nx e1, e2]⟩
    rw [List.append_assoc]
    exact List.Perm.append_left f pe
theorem run5 {f : Sf} {a b c d : Sl} {w : Ow} {x1 x2 x3 : Sl} (h : f [a, b, .un, .un, .un] = .ok (.rt (.own w)) [c, d, x1, x2, x3]) (o : outs [a, b] [c, d, x1, x2, x3] = some [c, d]) : runF 2 5 f [a, b] = .ok (.own w) [c, d] := by
  have e : runF 2 5 f [a, b] = (match f [a, b, .un, .un, .un] with
    | .ok (.rt s) e => endF [a, b] s e
    | .ok .nx e => endF [a, b] (.sh .none) e
    | .ex x e => match outs [a, b] e with
      | some r => .ex x r
      | none => .no
    | _ => .no) := rfl
  rw [e, h]
  show endF [a, b] (.own w) [c, d, x1, x2, x3] = _
  unfold endF
  rw [o]
theorem rng_len {ns : List D} {N : Int} {L : List D} {e : Fr} {i : Nat} (hi : e[i]? = some (.sh (.list ns))) (hN : bLen [.list ns] = some (.int N)) (s62 : small62 N = true) (hL : ((List.range N.toNat).map fun (j : Nat) => (PyData.int (0 + (j : Int)) : D)) = L) :
    iRng1F (aCons (eCall bLen (aCons (eVar i) aNil)) aNil) e = .ok L e := by
  have h1 : eCall bLen (aCons (eVar i) aNil) e = .ok (.val (.int N)) e := by
    rw [z_eCall, z_aCons, z_eVar, hi]
    show useN bLen [.slot i] e = _
    rw [z_useN, z_rdA2, z_rd1b, hi]
    show (match bLen [.list ns] with
      | some d => R.ok (Arg.val d) e
      | none => R.no) = _
    rw [hN]
  rw [z_iRng1F, z_aCons, h1]
  show (if small62 N = true then R.ok ((List.range N.toNat).map fun (j : Nat) => (PyData.int (0 + (j : Int)) : D)) e else R.no) = _
  rw [if_pos s62, hL]
theorem mixed_fin (B : Sf) {ns ms : List D} {N : Int} {L : List D} {p p1 : List D} {y : Sl} (hN : bLen [.list ns] = some (.int N)) (s62 : small62 N = true) (hL : ((List.range N.toNat).map fun (j : Nat) => (PyData.int (0 + (j : Int)) : D)) = L)
    (e : forL (gSet 4) B L [.io (.ls p), .sh (.list ns), .own (.ls ns), .own (.ls []), .un] = .ok .nx [.io (.ls p1), .sh (.list ns), .own (.ls []), .own (.ls ms), y]) :
    runF 2 5 (sSeq (sPar 2 3 (eCallN bList (aCons (eVar 1) aNil)) (eLst aNil)) (sSeq (sFor (iRng1F (aCons (eCall bLen (aCons (eVar 1) aNil)) aNil)) (gSet 4) B) (sRet (eR (eVar 3))))) [.io (.ls p), .sh (.list ns)] = .ok (.own (.ls ms)) [.io (.ls p1), .sh (.list ns)] := by
  have h := rng_len (e := [.io (.ls p), .sh (.list ns), .own (.ls ns), .own (.ls []), .un]) (i := 1) rfl hN s62 hL
  clear hN s62 hL
  have t1 : (sPar 2 3 (eCallN bList (aCons (eVar 1) aNil)) (eLst aNil)) [.io (.ls p), .sh (.list ns), .un, .un, .un] = .ok .nx [.io (.ls p), .sh (.list ns), .own (.ls ns), .own (.ls []), .un] := by
    simp [bList]
  have t3 : (sRet (eR (eVar 3))) [.io (.ls p1), .sh (.list ns), .own (.ls []), .own (.ls ms), y] = .ok (.rt (.own (.ls ms))) [.io (.ls p1), .sh (.list ns), .own (.ls []), .un, y] := by
    simp
  have t2 : (sFor (iRng1F (aCons (eCall bLen (aCons (eVar 1) aNil)) aNil)) (gSet 4) B) [.io (.ls p), .sh (.list ns), .own (.ls ns), .own (.ls []), .un] = .ok .nx [.io (.ls p1), .sh (.list ns), .own (.ls []), .own (.ls ms), y] := by
    rw [z_sFor, h, R.bind_ok, e]
  have t4 : (sSeq (sPar 2 3 (eCallN bList (aCons (eVar 1) aNil)) (eLst aNil)) (sSeq (sFor (iRng1F (aCons (eCall bLen (aCons (eVar 1) aNil)) aNil)) (gSet 4) B) (sRet (eR (eVar 3))))) [.io (.ls p), .sh (.list ns), .un, .un, .un] = .ok (.rt (.own (.ls ms))) [.io (.ls p1), .sh (.list ns), .own (.ls []), .un, y] := by
    rw [z_sSeq, t1, R.bind_ok]
    dsimp only
    rw [z_sSeq, t2, R.bind_ok]
    dsimp only
    exact t3
  exact run5 t4 rfl
theorem small_len {α : Type} {l : List α} (h : l.length ≤ 800) : small62 (l.length : Int) = true := small_n (by omega)
theorem ev_mixed {p : List D} (P : Pot p) {ns : List Int} (h : ns.length ≤ 800) : ∃ (p' : List D) (ms : List Int), Pot p' ∧ ms.Perm ns ∧
    F__law_mixed [.io (.ls p), .sh (.list (ns.map PyData.int))] = .ok (.own (.ls (ms.map PyData.int))) [.io (.ls p'), .sh (.list (ns.map PyData.int))] := by
  obtain ⟨p', ms, y, P', hp, e⟩ := mx_loop (s := .list (ns.map PyData.int)) (List.range ns.length) p ns [] .un P (.inl rfl) (by rw [List.length_range]) (by rw [List.length_nil]; omega)
  refine ⟨p', ms, P', by simpa using hp, ?_⟩
  unfold frM at e
  rw [List.map_nil] at e
  have hN : bLen [.list (ns.map PyData.int)] = some (.int (ns.length : Int)) := by rw [z_bLen1, List.length_map]
  have s62 := small_len h
  have hL : ((List.range (ns.length : Int).toNat).map fun (j : Nat) => (PyData.int (0 + (j : Int)) : D)) = (List.range ns.length).map fun (j : Nat) => (PyData.int (j : Int) : D) := by rw [Int.toNat_natCast]; simp only [Int.zero_add]
  generalize (ns.length : Int) = N at hN s62 hL
  exact mixed_fin bodyM hN s62 hL e
end K19
set_option Elab.async false
set_option linter.all false
set_option maxRecDepth 100000
set_option maxHeartbeats 4000000
namespace K19
open PySem L2 DL
theorem mir_cut {x : List Int} (h : x ≠ []) : x.take 1 ++ (x.drop 1).reverse = mir x := by
  cases x with
  | nil => exact absurd rfl h
  | cons a l => rfl
theorem ev_lplain {r : List Int} (nd : r.Nodup) (h : r ≠ []) (hl : r.length ≤ 300) : ∃ m x, m ∈ r ∧ (∀ j ∈ r, m ≤ j) ∧ Tr m r x ∧ F__law_plain [.sh (.list (r.map PyData.int))] = .ok (.sh (minD [tI x, tI (mir x)])) [.sh (.list (r.map PyData.int))] := by
  obtain ⟨m, hm, hle, e⟩ := minD_ints h
  obtain ⟨i, hi⟩ := List.mem_iff_getElem?.mp hm
  have e1 := bMin_intsL h
  rw [e] at e1
  have e2 := fIndex_ints (d := .list (r.map PyData.int)) (x := m) rfl hi nd
  have il : i < r.length := (List.getElem?_eq_some_iff.mp hi).1
  have tr := split_at hi
  generalize hx : r.drop i ++ r.take i = x at tr
  have xl : x.length = r.length := tr.perm.length_eq
  have xne : x ≠ [] := fun z => by rw [z] at xl; rw [List.length_nil] at xl; omega
  have ex : (r.map PyData.int).drop i ++ (r.map PyData.int).take i = x.map PyData.int := by rw [← hx, List.map_append, List.map_drop, List.map_take]
  have l3 : ((r.map PyData.int).drop i).length + ((r.map PyData.int).take i).length ≤ 1000000 := by rw [List.length_drop, List.length_take, List.length_map]; omega
  have e4 := add_tup (xs := (x.map PyData.int).take 1) (ys := ((x.map PyData.int).drop 1).reverse) (by rw [List.length_reverse, List.length_drop, List.length_take, List.length_map]; omega)
  have e5 : (x.map PyData.int).take 1 ++ ((x.map PyData.int).drop 1).reverse = (mir x).map PyData.int := by
    rw [← mir_cut xne, List.map_append, List.map_reverse, List.map_drop, List.map_take]
  rw [e5] at e4
  have e6 := bMin_tI x (mir x)
  have e7 : catD (.list ((r.map PyData.int).drop i)) (.list ((r.map PyData.int).take i)) = some (x.map PyData.int) := by
    rw [z_catD, if_pos l3, ex]
  refine ⟨m, x, hm, hle, tr, ?_⟩
  simp [F__law_plain, m__law_plain, e1, e2, cut_from, cut_to, e7, e4, e6, -z_catD, -List.map_drop, -List.map_take, -List.map_append, -List.map_reverse, -List.drop_one]
end K19
set_option Elab.async false
set_option linter.all false
set_option maxRecDepth 100000
set_option maxHeartbeats 4000000
namespace K19
open PySem L2 DL
/-- r is cs turned, or told the other way round -/
structure Dih (cs r : List Int) : Prop where
  perm : r.Perm cs
  fol : ∀ p, follow r p ↔ follow cs p
theorem fol_of {r s : List Int} (h : ∀ p, p ∈ cyc r ↔ p ∈ cyc s) (p : Int × Int) : follow r p ↔ follow s p := by
  unfold follow
  rw [h, h]
theorem Dih.refl (cs : List Int) : Dih cs cs := ⟨.refl _, fun _ => Iff.rfl⟩
theorem Dih.trans {a b c : List Int} (h : Dih a b) (g : Dih b c) : Dih a c := ⟨g.perm.trans h.perm, fun p => (g.fol p).trans (h.fol p)⟩
theorem Dih.rot (u v : List Int) : Dih (u ++ v) (v ++ u) := ⟨List.perm_append_comm, fol_of fun p => (cyc_rot v u).mem_iff⟩
theorem Dih.rev (r : List Int) : Dih r r.reverse := by
  refine ⟨List.reverse_perm r, fun p => ?_⟩
  have h := cyc_rev r
  have h2 : ∀ q : Int × Int, q ∈ cyc r.reverse ↔ (q.2, q.1) ∈ cyc r := fun q => by
    rw [h.mem_iff, List.mem_map]
    constructor
    · rintro ⟨z, hz, rfl⟩
      exact hz
    · intro hz
      exact ⟨_, hz, rfl⟩
  unfold follow
  rw [h2, h2]
  exact Or.comm
theorem Dih.tr {m : Int} {r x : List Int} (t : Tr m r x) : Dih r x := by
  obtain ⟨s, t, rfl, rfl⟩ := t
  exact Dih.rot s (m :: t)
theorem Dih.mir (x : List Int) : Dih x (mir x) := by
  cases x with
  | nil => exact .refl _
  | cons a l =>
    have h1 := Dih.rev (a :: l)
    rw [List.reverse_cons] at h1
    exact h1.trans (Dih.rot l.reverse [a])
/-- the corners of a round, and what else is drawn -/
structure Rdw (m : Int) (cs : List Int) (more qs : List (Int × Int)) : Prop where
  m3 : 3 ≤ m
  m8 : m ≤ 8
  nd : cs.Nodup
  inn : ∀ x ∈ cs, 0 ≤ x ∧ x < m
  three : 3 ≤ cs.length
  eight : cs.length ≤ 8
  mre : ∀ q ∈ more, 0 ≤ q.1 ∧ q.1 < q.2 ∧ q.2 < m
  ml : more.length ≤ 28
  mem : ∀ q, q ∈ qs ↔ q ∈ (cyc cs).map (fun p => tieP p.1 p.2) ++ more
  up : qs.Pairwise ltP
  ql : qs.length ≤ cs.length + more.length
section
variable {m : Int} {cs r : List Int} {more qs : List (Int × Int)}
theorem cyc_ne (R : Rdw m cs more qs) {p : Int × Int} (h : p ∈ cyc cs) : p.1 ∈ cs ∧ p.2 ∈ cs ∧ p.1 ≠ p.2 := by
  obtain ⟨k, hk, rfl⟩ := mem_cyc.mp h
  have h3 := R.three
  refine ⟨List.getElem_mem _, ?_, ?_⟩
  · show (if h' : k + 1 < cs.length then cs[k + 1] else cs[0]) ∈ cs
    split <;> exact List.getElem_mem _
  · show cs[k] ≠ (if h' : k + 1 < cs.length then cs[k + 1] else cs[0])
    split
    · intro z
      have := inj_nd R.nd _ _ z
      omega
    · intro z
      have := inj_nd R.nd _ _ z
      omega
theorem tieP_lt {a b : Int} (h : a ≠ b) : (tieP a b).1 < (tieP a b).2 := by
  unfold tieP
  show (if b < a then b else a) < (if b > a then b else a)
  split <;> split <;> omega
theorem tieP_of {q : Int × Int} (h : q.1 < q.2) : tieP q.1 q.2 = q := by
  unfold tieP
  rw [if_neg (by omega), if_pos h]
theorem Rdw.side (R : Rdw m cs more qs) {p : Int × Int} (h : follow cs p) : tieP p.1 p.2 ∈ (cyc cs).map (fun p => tieP p.1 p.2) := by
  rcases h with h | h
  · exact List.mem_map.mpr ⟨_, h, rfl⟩
  · exact List.mem_map.mpr ⟨_, h, tieP_comm _ _⟩
theorem Rdw.web (R : Rdw m cs more qs) : Web m qs := by
  refine ⟨by have := R.m3; omega, by have := R.m8; omega, by have := R.ql; have := R.eight; have := R.ml; omega, fun q hq => ?_, R.up⟩
  rcases List.mem_append.mp ((R.mem q).mp hq) with z | z
  · obtain ⟨p, hp, rfl⟩ := List.mem_map.mp z
    obtain ⟨h1, h2, h3⟩ := cyc_ne R hp
    obtain ⟨a1, a2⟩ := R.inn _ h1
    obtain ⟨b1, b2⟩ := R.inn _ h2
    have := tieP_lt h3
    unfold tieP at this ⊢
    refine ⟨?_, this, ?_⟩
    · show 0 ≤ (if p.2 < p.1 then p.2 else p.1)
      split <;> omega
    · show (if p.2 > p.1 then p.2 else p.1) < m
      split <;> omega
  · exact R.mre q z
theorem Rdw.rnd (R : Rdw m cs more qs) (d : Dih cs r) : Rnd m qs r := by
  have l := d.perm.length_eq
  refine ⟨⟨d.perm.nodup_iff.mpr R.nd, fun x hx => R.inn x (d.perm.mem_iff.mp hx), by have := R.eight; omega⟩, by have := R.three; omega, fun p hp => ?_⟩
  exact (R.mem _).mpr (List.mem_append_left _ (R.side ((d.fol p).mp (.inl hp))))
def acrB (cs : List Int) (q : Int × Int) : Bool := decide (q.1 ∈ cs) && (decide (q.2 ∈ cs) && !decide (q ∈ (cyc cs).map (fun p => tieP p.1 p.2)))
theorem Rdw.chord (R : Rdw m cs more qs) (d : Dih cs r) : qs.any (chordB r) = !decide (more.filter (acrB cs) = []) := by
  rw [Bool.eq_iff_iff, List.any_eq_true]
  simp only [Bool.not_eq_true', decide_eq_false_iff_not]
  constructor
  · rintro ⟨q, hq, h⟩
    unfold chordB at h
    obtain ⟨h1, h2, h3⟩ := of_decide_eq_true h
    have h4 : ¬ follow cs q := fun z => h3 ((d.fol q).mpr z)
    have h5 : q ∉ (cyc cs).map (fun p => tieP p.1 p.2) := fun z => by
      obtain ⟨p, hp, e⟩ := List.mem_map.mp z
      apply h4
      rw [← e]
      unfold tieP follow
      by_cases w : p.2 < p.1
      · rw [if_pos w, if_neg (by omega)]
        exact .inr hp
      · obtain ⟨_, _, ne⟩ := cyc_ne R hp
        rw [if_neg w, if_pos (by omega)]
        exact .inl hp
    have hm : q ∈ more := by
      rcases List.mem_append.mp ((R.mem q).mp hq) with z | z
      · exact absurd z h5
      · exact z
    intro z
    have : q ∈ more.filter (acrB cs) := List.mem_filter.mpr ⟨hm, by
      unfold acrB
      rw [decide_eq_true (d.perm.mem_iff.mp h1), decide_eq_true (d.perm.mem_iff.mp h2), decide_eq_false h5]
      rfl⟩
    rw [z] at this
    cases this
  · intro h
    cases e : more.filter (acrB cs) with
    | nil => exact absurd e h
    | cons q l =>
      have hq : q ∈ more.filter (acrB cs) := by rw [e]; exact List.mem_cons_self ..
      obtain ⟨hm, ha⟩ := List.mem_filter.mp hq
      unfold acrB at ha
      simp only [Bool.and_eq_true, decide_eq_true_eq, Bool.not_eq_true', decide_eq_false_iff_not] at ha
      obtain ⟨h1, h2, h3⟩ := ha
      refine ⟨q, (R.mem q).mpr (List.mem_append_right _ hm), decide_eq_true ⟨d.perm.mem_iff.mpr h1, d.perm.mem_iff.mpr h2, fun z => h3 ?_⟩⟩
      have s := R.side ((d.fol q).mp z)
      rw [tieP_of (R.mre q hm).2.1] at s
      exact s
end
end K19
set_option Elab.async false
set_option linter.all false
set_option maxRecDepth 100000
set_option maxHeartbeats 4000000
namespace K19
open PySem L2 DL
noncomputable abbrev S2 : Sf := (sSet 2 (eR (eOp2 dAdd (eC (.int 3)) (eFz (eFnC F__law_draw [true, false] (aCons (eVar 0) (aCons (eC (.int 6)) aNil)))))))
noncomputable abbrev S3 : Sf := (sSet 3 (eCut (eFz (eFnC F__law_mixed [true, false] (aCons (eVar 0) (aCons (eFz (eLrg1 (eVar 2))) aNil)))) oNone (oSome (eOp2 dAdd (eC (.int 3)) (eFz (eFnC F__law_draw [true, false] (aCons (eVar 0) (aCons (eOp2 dSub (eVar 2) (eC (.int 2))) aNil))))))))
noncomputable abbrev S4 : Sf := (sSet 4 (eLz (aCons (eVar 3) (aCons (eFz (eAddX (eCut (eVar 3) (oSome (eC (.int 1))) oNone) (eCut (eVar 3) oNone (oSome (eC (.int 1)))))) aNil))))
noncomputable abbrev S5 : Sf := (sSet 5 (eLc (iSeq (eVar 4)) (gSet 14) tYesF (eTup (aCons (eCall bMin (aCons (eVar 14) aNil)) (aCons (eCall bMaxS (aCons (eVar 14) aNil)) aNil))) [14]))
noncomputable abbrev S6 : Sf := (sSet 6 (eFnC F__law_drawn_ties [true, false, false] (aCons (eVar 0) (aCons (eVar 2) (aCons (eFz (eFnC F__law_pick [true, false] (aCons (eVar 0) (aCons (eFz (eLst (aCons (eC (.int 0)) (aCons (eC (.int 1)) (aCons (eC (.int 4)) aNil))))) aNil)))) aNil)))))
noncomputable abbrev S7 : Sf := (sPar 7 8 (eFnC F__law_web [false, false] (aCons (eVar 2) (aCons (eFz (eAddX (eR (eVar 5)) (eR (eVar 6)))) aNil))) (eFnC F__law_plain [false] (aCons (eVar 3) aNil)))
noncomputable abbrev S8 : Sf := (sSet 9 (eFnC F__law_draw [true, false] (aCons (eVar 0) (aCons (eCall bLen (aCons (eVar 3) aNil)) aNil))))
noncomputable abbrev S9 : Sf := (sSet 10 (eAddX (eCut (eVar 3) (oSome (eVar 9)) oNone) (eCut (eVar 3) oNone (oSome (eVar 9)))))
noncomputable abbrev S10 : Sf := (sSet 10 (eR (eIf (tOf (eOp2 dEq (eFz (eFnC F__law_draw [true, false] (aCons (eVar 0) (aCons (eC (.int 2)) aNil)))) (eC (.int 0)))) (eCall bTuple (aCons (eFz (eBack (eVar 10) oNone oNone)) aNil)) (eCall bTuple (aCons (eVar 10) aNil)))))
noncomputable abbrev S11 : Sf := (sIf (tOrF (tOf (eOp2 dNe (eFz (eFnC F_plain_ring [false, false] (aCons (eVar 7) (aCons (eVar 10) aNil)))) (eVar 8))) (tOf (eOp2 dNe (eFz (eFnK F_plain_ring [false, false] [1, 0] [] 0 2 aNil (aCons (eVar 10) (aCons (eVar 7) aNil)))) (eVar 8)))) (sRet (eR (eC (.bool false)))) sNil)
noncomputable abbrev S12 : Sf := (sSet 11 (eAddX (eCut (eVar 8) oNone (oSome (eC (.int 1)))) (eBack (eVar 8) oNone (oSome (eC (.int 0))))))
noncomputable abbrev S13 : Sf := (sIf (tOf (eOp2 dNe (eCall bRepr (aCons (eFz (eLst (aCons (eFz (eFnC F_is_ring [false, false] (aCons (eVar 7) (aCons (eVar 8) aNil)))) (aCons (eFz (eFnC F_is_plain_ring [false, false] (aCons (eVar 7) (aCons (eVar 8) aNil)))) (aCons (eFz (eFnC F_is_ring [false, false] (aCons (eVar 7) (aCons (eVar 11) aNil)))) (aCons (eFz (eFnC F_is_plain_ring [false, false] (aCons (eVar 7) (aCons (eVar 11) aNil)))) aNil)))))) aNil)) (eCall bRepr (aCons (eFz (eLst (aCons (eC (.bool true)) (aCons (eC (.bool true)) (aCons (eC (.bool true)) (aCons (eC (.bool false)) aNil)))))) aNil)))) (sRet (eR (eC (.bool false)))) sNil)
noncomputable abbrev S14 : Sf := (sSet 12 (eLc (iSeq (eVar 6)) (gSet 15) (tAndF (tOf (eOp2 dInS (eOp2 dIx (eVar 15) (eC (.int 0))) (eVar 3))) (tAndF (tOf (eOp2 dInS (eOp2 dIx (eVar 15) (eC (.int 1))) (eVar 3))) (tOf (eOp2 dNotInS (eVar 15) (eVar 5))))) (eVar 15) [15]))
noncomputable abbrev S15 : Sf := (sSet 13 (eR (eOp2 dNe (eVar 12) (eFz (eLst aNil)))))
noncomputable abbrev S16 : Sf := (sIf (tOf (eOp2 dNe (eCall bRepr (aCons (eFz (eLst (aCons (eFz (eFnC F_has_chord [false, false] (aCons (eVar 7) (aCons (eVar 10) aNil)))) (aCons (eFz (eFnC F_has_chord [false, false] (aCons (eVar 7) (aCons (eVar 8) aNil)))) (aCons (eFz (eFnK F_has_chord [false, false] [1, 0] [] 0 2 aNil (aCons (eVar 11) (aCons (eVar 7) aNil)))) aNil))))) aNil)) (eCall bRepr (aCons (eFz (eRep (eLst (aCons (eVar 13) aNil)) (eC (.int 3)))) aNil)))) (sRet (eR (eC (.bool false)))) sNil)
/-- a slot that may be stored at -/
def Ss (s : Sl) : Prop := s = .un ∨ (∃ d, s = .sh d) ∨ ∃ w, s = .own w
/-- what a ring's least is, and its ways round -/
theorem ends_of {x : List Int} (h : 3 ≤ x.length) (nd : x.Nodup) : ∃ m a b l, x = m :: a :: (l ++ [b]) ∧ a ≠ b := by
  match x, h, nd with
  | m :: a :: y, h, nd =>
    have hy : y ≠ [] := fun z => by
      rw [z] at h
      simp at h
    refine ⟨m, a, y.getLast hy, y.dropLast, by rw [List.dropLast_concat_getLast], ?_⟩
    have n1 := (List.nodup_cons.mp nd).2
    have n2 := (List.nodup_cons.mp n1).1
    intro z
    exact n2 (by rw [z]; exact List.getLast_mem hy)
theorem due_ex {m a b : Int} {l x : List Int} (e : x = m :: a :: (l ++ [b])) (h : a ≠ b) : ∃ d a' b' l', minD [tI x, tI (mir x)] = tI d ∧ d = m :: a' :: (l' ++ [b']) ∧ a' < b' ∧ (d = x ∨ d = mir x) := by
  subst e
  rw [minD_mir h]
  by_cases q : b < a
  · rw [if_pos q]
    exact ⟨_, b, a, l.reverse, rfl, by simp [mir], q, .inr rfl⟩
  · rw [if_neg q]
    exact ⟨_, a, b, l, rfl, rfl, by omega, .inl rfl⟩

theorem st2 {p p' : List D} {dg : Int} (e : F__law_draw [.io (.ls p), .sh (.int 6)] = .ok (.sh (.int dg)) [.io (.ls p'), .sh (.int 6)]) {x1 x2 x3 x4 x5 x6 x7 x8 x9 xa xb xc xd : Sl} (h : Ss x2) :
    S2 [.io (.ls p), x1, x2, x3, x4, x5, x6, x7, x8, x9, xa, xb, xc, xd, .un, .un] = .ok .nx [.io (.ls p'), x1, .sh (.int (3 + dg)), x3, x4, x5, x6, x7, x8, x9, xa, xb, xc, xd, .un, .un] := by
  rcases h with rfl | ⟨d, rfl⟩ | ⟨w, rfl⟩ <;> simp [z_callR, e]
theorem lrg_ok {e : Fr} {i : Nat} {N : Int} {M : List D} (hi : e[i]? = some (.sh (.int N))) (hr : rgOk 0 N = true) (hM : rgD 0 N = M) : eLrg1 (eVar i) e = .ok (.new (.ls M)) e := by
  rw [z_eLrg1, z_eVar, hi, R.bind_ok, z_rd1b, hi]
  show (if rgOk 0 N = true then R.ok (RV.new (.ls (rgD 0 N))) e else R.no) = _
  rw [if_pos hr, hM]
theorem st3 (Fm : Fn) {p p' p2 : List D} {N g : Int} {M M' : List D} (hr : rgOk 0 N = true) (hM : rgD 0 N = M) (e1 : Fm [.io (.ls p), .sh (.list M)] = .ok (.own (.ls M')) [.io (.ls p'), .sh (.list M)])
    (e2 : F__law_draw [.io (.ls p'), .sh (.int (N - 2))] = .ok (.sh (.int g)) [.io (.ls p2), .sh (.int (N - 2))]) {C : List D} (hC : cutD M' none (some (3 + g)) = C) {x1 x3 x4 x5 x6 x7 x8 x9 xa xb xc xd : Sl} (h : Ss x3) :
    (sSet 3 (eCut (eFz (eFnC Fm [true, false] (aCons (eVar 0) (aCons (eFz (eLrg1 (eVar 2))) aNil)))) oNone (oSome (eOp2 dAdd (eC (.int 3)) (eFz (eFnC F__law_draw [true, false] (aCons (eVar 0) (aCons (eOp2 dSub (eVar 2) (eC (.int 2))) aNil)))))))) [.io (.ls p), x1, .sh (.int N), x3, x4, x5, x6, x7, x8, x9, xa, xb, xc, xd, .un, .un] = .ok .nx [.io (.ls p2), x1, .sh (.int N), .own (.ls C), x4, x5, x6, x7, x8, x9, xa, xb, xc, xd, .un, .un] := by
  have h0 := lrg_ok (e := [.io (.ls p), x1, .sh (.int N), x3, x4, x5, x6, x7, x8, x9, xa, xb, xc, xd, .un, .un]) (i := 2) rfl hr hM
  clear hr hM
  rcases h with rfl | ⟨d, rfl⟩ | ⟨w, rfl⟩ <;> simp [z_callR, h0, e1, e2, hC, -z_eLrg1]
theorem st4 {p C R Z : List D} (hR : C.drop 1 ++ C.take 1 = R) (hl : (C.drop 1).length + (C.take 1).length ≤ 1000000) (hZ : zipD C R = Z) {x1 x2 x4 x5 x6 x7 x8 x9 xa xb xc xd : Sl} (h : Ss x4) :
    S4 [.io (.ls p), x1, x2, .own (.ls C), x4, x5, x6, x7, x8, x9, xa, xb, xc, xd, .un, .un] = .ok .nx [.io (.ls p), x1, x2, .sh (.list C), .own (.ls Z), x5, x6, x7, x8, x9, xa, xb, xc, xd, .un, .un] := by
  have e : catD (.list (C.drop 1)) (.list (C.take 1)) = some R := by rw [z_catD, if_pos hl, hR]
  rcases h with rfl | ⟨d, rfl⟩ | ⟨w, rfl⟩ <;> simp [e, hZ, -z_catD, -List.drop_one]
theorem st5 {p C : List D} {ps : List (Int × Int)} (hl : ps.length ≤ 1000) {x1 x2 x5 x6 x7 x8 x9 xa xb xc xd : Sl} (h : Ss x5) :
    S5 [.io (.ls p), x1, x2, .sh (.list C), .own (.ls (ps.map pr)), x5, x6, x7, x8, x9, xa, xb, xc, xd, .un, .un] = .ok .nx [.io (.ls p), x1, x2, .sh (.list C), .sh (.list (ps.map pr)), .own (.ls ((ps.map fun p => tieP p.1 p.2).map pr)), x6, x7, x8, x9, xa, xb, xc, xd, .un, .un] := by
  have c := lcL_map (g := gSet 14) (ts := tYesF) (a := eTup (aCons (eCall bMin (aCons (eVar 14) aNil)) (aCons (eCall bMaxS (aCons (eVar 14) aNil)) aNil))) (vs := [14]) pr (fun p => pr (tieP p.1 p.2)) ps
    [.io (.ls p), x1, x2, .sh (.list C), .sh (.list (ps.map pr)), x5, x6, x7, x8, x9, xa, xb, xc, xd, .un, .un] (fun q hq => by
      simp [tieP]
      exact ⟨_, ⟨rfl, rfl⟩, rfl⟩) (by omega)
  rw [List.map_map]
  rcases h with rfl | ⟨d, rfl⟩ | ⟨w, rfl⟩ <;> simp [c] <;> rfl
theorem st6 {p p' p2 : List D} {N v : Int} {Q : List D} (e1 : F__law_pick [.io (.ls p), .sh (.list [.int 0, .int 1, .int 4])] = .ok (.sh (.int v)) [.io (.ls p'), .sh (.list [.int 0, .int 1, .int 4])])
    (e2 : F__law_drawn_ties [.io (.ls p'), .sh (.int N), .sh (.int v)] = .ok (.own (.ls Q)) [.io (.ls p2), .sh (.int N), .sh (.int v)]) {x1 x3 x4 x5 x6 x7 x8 x9 xa xb xc xd : Sl} (h : Ss x6) :
    S6 [.io (.ls p), x1, .sh (.int N), x3, x4, x5, x6, x7, x8, x9, xa, xb, xc, xd, .un, .un] = .ok .nx [.io (.ls p2), x1, .sh (.int N), x3, x4, x5, .own (.ls Q), x7, x8, x9, xa, xb, xc, xd, .un, .un] := by
  rcases h with rfl | ⟨d, rfl⟩ | ⟨w, rfl⟩ <;> simp [z_callR, e1, e2]
theorem st7 {p C S Q T : List D} {N : Int} {W d8 : D} (hT : S ++ Q = T) (hl : S.length + Q.length ≤ 1000000) (e1 : F__law_web [.sh (.int N), .sh (.list T)] = .ok (.sh W) [.sh (.int N), .sh (.list T)])
    (e2 : F__law_plain [.sh (.list C)] = .ok (.sh d8) [.sh (.list C)]) {x1 x4 x7 x8 x9 xa xb xc xd : Sl} (h : Ss x7) (h' : Ss x8) :
    S7 [.io (.ls p), x1, .sh (.int N), .sh (.list C), x4, .own (.ls S), .own (.ls Q), x7, x8, x9, xa, xb, xc, xd, .un, .un] = .ok .nx [.io (.ls p), x1, .sh (.int N), .sh (.list C), x4, .own (.ls S), .own (.ls Q), .sh W, .sh d8, x9, xa, xb, xc, xd, .un, .un] := by
  have e : catD (.list S) (.list Q) = some T := by rw [z_catD, if_pos hl, hT]
  rcases h with rfl | ⟨d, rfl⟩ | ⟨w, rfl⟩ <;> rcases h' with rfl | ⟨d', rfl⟩ | ⟨w', rfl⟩ <;> simp [z_callR, e, e1, e2, -z_catD]
theorem st8 {p p' C : List D} {n g : Int} (hn : bLen [.list C] = some (.int n)) (e : F__law_draw [.io (.ls p), .sh (.int n)] = .ok (.sh (.int g)) [.io (.ls p'), .sh (.int n)]) {x1 x2 x4 x5 x6 x7 x8 x9 xa xb xc xd : Sl} (h : Ss x9) :
    S8 [.io (.ls p), x1, x2, .sh (.list C), x4, x5, x6, x7, x8, x9, xa, xb, xc, xd, .un, .un] = .ok .nx [.io (.ls p'), x1, x2, .sh (.list C), x4, x5, x6, x7, x8, .sh (.int g), xa, xb, xc, xd, .un, .un] := by
  rcases h with rfl | ⟨d, rfl⟩ | ⟨w, rfl⟩ <;> simp [z_callR, hn, e, -z_bLen1]
theorem st9 {p C T : List D} {g : Int} (hT : catD (.list (cutD C (some g) none)) (.list (cutD C none (some g))) = some T) {x1 x2 x4 x5 x6 x7 x8 xa xb xc xd : Sl} (h : Ss xa) :
    S9 [.io (.ls p), x1, x2, .sh (.list C), x4, x5, x6, x7, x8, .sh (.int g), xa, xb, xc, xd, .un, .un] = .ok .nx [.io (.ls p), x1, x2, .sh (.list C), x4, x5, x6, x7, x8, .sh (.int g), .own (.ls T), xb, xc, xd, .un, .un] := by
  rcases h with rfl | ⟨d, rfl⟩ | ⟨w, rfl⟩ <;> simp [hT, -z_catD]
theorem st10 {p p' T : List D} {g : Int} (e : F__law_draw [.io (.ls p), .sh (.int 2)] = .ok (.sh (.int g)) [.io (.ls p'), .sh (.int 2)]) {x1 x2 x3 x4 x5 x6 x7 x8 x9 xb xc xd : Sl} :
    ∃ U, (U = T ∨ U = T.reverse) ∧ S10 [.io (.ls p), x1, x2, x3, x4, x5, x6, x7, x8, x9, .own (.ls T), xb, xc, xd, .un, .un] = .ok .nx [.io (.ls p'), x1, x2, x3, x4, x5, x6, x7, x8, x9, .sh (.tuple U), xb, xc, xd, .un, .un] := by
  by_cases q : g = 0
  · exact ⟨_, .inr rfl, by simp [z_callR, e, q]⟩
  · exact ⟨_, .inl rfl, by simp [z_callR, e, q]⟩
end K19
set_option Elab.async false
set_option linter.all false
set_option maxRecDepth 100000
set_option maxHeartbeats 4000000
namespace K19
open PySem L2 DL
theorem st11 (Fp : Fn) {p : List D} {W T d8 : D} (e : Fp [.sh W, .sh T] = .ok (.sh d8) [.sh W, .sh T]) (hn : dNe d8 d8 = some (.bool false)) {x1 x2 x3 x4 x5 x6 x9 xb xc xd : Sl} :
    (sIf (tOrF (tOf (eOp2 dNe (eFz (eFnC Fp [false, false] (aCons (eVar 7) (aCons (eVar 10) aNil)))) (eVar 8))) (tOf (eOp2 dNe (eFz (eFnK Fp [false, false] [1, 0] [] 0 2 aNil (aCons (eVar 10) (aCons (eVar 7) aNil)))) (eVar 8)))) (sRet (eR (eC (.bool false)))) sNil) [.io (.ls p), x1, x2, x3, x4, x5, x6, .sh W, .sh d8, x9, .sh T, xb, xc, xd, .un, .un] = .ok .nx [.io (.ls p), x1, x2, x3, x4, x5, x6, .sh W, .sh d8, x9, .sh T, xb, xc, xd, .un, .un] := by
  simp [z_callR, e, hn]
theorem st12 {p ds os : List D} (hd : dAdd (.tuple (ds.take 1)) (.tuple (ds.drop 1).reverse) = some (.tuple os)) {x1 x2 x3 x4 x5 x6 x7 x9 xa xb xc xd : Sl} (h : Ss xb) :
    S12 [.io (.ls p), x1, x2, x3, x4, x5, x6, x7, .sh (.tuple ds), x9, xa, xb, xc, xd, .un, .un] = .ok .nx [.io (.ls p), x1, x2, x3, x4, x5, x6, x7, .sh (.tuple ds), x9, xa, .sh (.tuple os), xc, xd, .un, .un] := by
  rcases h with rfl | ⟨d, rfl⟩ | ⟨w, rfl⟩ <;> simp [hd, -List.drop_one]
theorem st13 (Fr1 Fr2 : Fn) {p : List D} {W d8 db R : D} (e1 : Fr1 [.sh W, .sh d8] = .ok (.sh (.bool true)) [.sh W, .sh d8]) (e2 : Fr2 [.sh W, .sh d8] = .ok (.sh (.bool true)) [.sh W, .sh d8])
    (e3 : Fr1 [.sh W, .sh db] = .ok (.sh (.bool true)) [.sh W, .sh db]) (e4 : Fr2 [.sh W, .sh db] = .ok (.sh (.bool false)) [.sh W, .sh db])
    (hr : bRepr [.list [.bool true, .bool true, .bool true, .bool false]] = some R) (hn : dNe R R = some (.bool false)) {x1 x2 x3 x4 x5 x6 x9 xa xc xd : Sl} :
    (sIf (tOf (eOp2 dNe (eCall bRepr (aCons (eFz (eLst (aCons (eFz (eFnC Fr1 [false, false] (aCons (eVar 7) (aCons (eVar 8) aNil)))) (aCons (eFz (eFnC Fr2 [false, false] (aCons (eVar 7) (aCons (eVar 8) aNil)))) (aCons (eFz (eFnC Fr1 [false, false] (aCons (eVar 7) (aCons (eVar 11) aNil)))) (aCons (eFz (eFnC Fr2 [false, false] (aCons (eVar 7) (aCons (eVar 11) aNil)))) aNil)))))) aNil)) (eCall bRepr (aCons (eFz (eLst (aCons (eC (.bool true)) (aCons (eC (.bool true)) (aCons (eC (.bool true)) (aCons (eC (.bool false)) aNil)))))) aNil)))) (sRet (eR (eC (.bool false)))) sNil) [.io (.ls p), x1, x2, x3, x4, x5, x6, .sh W, .sh d8, x9, xa, .sh db, xc, xd, .un, .un] = .ok .nx [.io (.ls p), x1, x2, x3, x4, x5, x6, .sh W, .sh d8, x9, xa, .sh db, xc, xd, .un, .un] := by
  simp [z_callR, e1, e2, e3, e4, hr, hn]
theorem st14 {p : List D} {cs : List Int} {sides more : List (Int × Int)} (hl : more.length ≤ 1000) {x1 x2 x4 x7 x8 x9 xa xb xc xd : Sl} (h : Ss xc) :
    S14 [.io (.ls p), x1, x2, .sh (.list (cs.map PyData.int)), x4, .own (.ls (sides.map pr)), .own (.ls (more.map pr)), x7, x8, x9, xa, xb, xc, xd, .un, .un] = .ok .nx [.io (.ls p), x1, x2, .sh (.list (cs.map PyData.int)), x4, .own (.ls (sides.map pr)), .sh (.list (more.map pr)), x7, x8, x9, xa, xb,
      .own (.ls ((more.filter fun q => decide (q.1 ∈ cs) && (decide (q.2 ∈ cs) && !decide (q ∈ sides))).map pr)), xd, .un, .un] := by
  obtain ⟨e', hI, c⟩ := lcL_walk (g := gSet 15) (ts := tAndF (tOf (eOp2 dInS (eOp2 dIx (eVar 15) (eC (.int 0))) (eVar 3))) (tAndF (tOf (eOp2 dInS (eOp2 dIx (eVar 15) (eC (.int 1))) (eVar 3))) (tOf (eOp2 dNotInS (eVar 15) (eVar 5))))) (a := eVar 15) (vs := [15])
    (fun z => z = [.io (.ls p), x1, x2, .sh (.list (cs.map PyData.int)), x4, .own (.ls (sides.map pr)), .sh (.list (more.map pr)), x7, x8, x9, xa, xb, xc, xd, .un, .un]) pr (fun q => if (decide (q.1 ∈ cs) && (decide (q.2 ∈ cs) && !decide (q ∈ sides))) = true then some (pr q) else none) more _ [] rfl (fun q hq z hz => by
      subst hz
      have p0 : dIx (pr q) (.int 0) = some (.int q.1) := z_dIxt0 _ _
      have p1 : dIx (pr q) (.int 1) = some (.int q.2) := z_dIxt1 _ _ _
      by_cases h1 : q.1 ∈ cs
      · by_cases h2 : q.2 ∈ cs
        · by_cases h3 : q ∈ sides
          · exact ⟨_, by simp [p0, p1, h1, h2, h3]; rfl, rfl⟩
          · exact ⟨_, by simp [p0, p1, h1, h2, h3]; rfl, rfl⟩
        · exact ⟨_, by simp [p0, p1, h1, h2]; rfl, rfl⟩
      · exact ⟨_, by simp [p0, p1, h1]; rfl, rfl⟩) (by simpa using Nat.le_trans hl (by decide))
  subst hI
  have ef : ∀ l : List (Int × Int), l.filterMap (fun q => if (decide (q.1 ∈ cs) && (decide (q.2 ∈ cs) && !decide (q ∈ sides))) = true then some (pr q) else none) = (l.filter fun q => decide (q.1 ∈ cs) && (decide (q.2 ∈ cs) && !decide (q ∈ sides))).map pr := by
    intro l
    induction l with
    | nil => rfl
    | cons a l ih =>
      rw [List.filterMap_cons, List.filter_cons, ih]
      split
      · rename_i q
        split at q
        · cases q
        · rename_i w
          rw [if_neg w]
      · rename_i d q
        split at q
        · rename_i w
          cases q
          rw [if_pos w]
          rfl
        · cases q
  rw [ef, List.nil_append] at c
  generalize (more.filter fun q => decide (q.1 ∈ cs) && (decide (q.2 ∈ cs) && !decide (q ∈ sides))) = F at c
  rcases h with rfl | ⟨d, rfl⟩ | ⟨w, rfl⟩ <;> simp [c]
theorem st15 {p : List D} {ac : List (Int × Int)} {x1 x2 x3 x4 x5 x6 x7 x8 x9 xa xb xd : Sl} (h : Ss xd) :
    S15 [.io (.ls p), x1, x2, x3, x4, x5, x6, x7, x8, x9, xa, xb, .own (.ls (ac.map pr)), xd, .un, .un] = .ok .nx [.io (.ls p), x1, x2, x3, x4, x5, x6, x7, x8, x9, xa, xb, .own (.ls (ac.map pr)), .sh (.bool (!decide (ac = []))), .un, .un] := by
  rcases h with rfl | ⟨d, rfl⟩ | ⟨w, rfl⟩ <;> simp
theorem st16 (Fh : Fn) {p : List D} {W d8 da db R : D} {b : Bool} (e1 : Fh [.sh W, .sh da] = .ok (.sh (.bool b)) [.sh W, .sh da]) (e2 : Fh [.sh W, .sh d8] = .ok (.sh (.bool b)) [.sh W, .sh d8]) (e3 : Fh [.sh W, .sh db] = .ok (.sh (.bool b)) [.sh W, .sh db])
    (hr : bRepr [.list [.bool b, .bool b, .bool b]] = some R) (hn : dNe R R = some (.bool false)) {x1 x2 x3 x4 x5 x6 x9 xc : Sl} :
    (sIf (tOf (eOp2 dNe (eCall bRepr (aCons (eFz (eLst (aCons (eFz (eFnC Fh [false, false] (aCons (eVar 7) (aCons (eVar 10) aNil)))) (aCons (eFz (eFnC Fh [false, false] (aCons (eVar 7) (aCons (eVar 8) aNil)))) (aCons (eFz (eFnK Fh [false, false] [1, 0] [] 0 2 aNil (aCons (eVar 11) (aCons (eVar 7) aNil)))) aNil))))) aNil)) (eCall bRepr (aCons (eFz (eRep (eLst (aCons (eVar 13) aNil)) (eC (.int 3)))) aNil)))) (sRet (eR (eC (.bool false)))) sNil) [.io (.ls p), x1, x2, x3, x4, x5, x6, .sh W, .sh d8, x9, .sh da, .sh db, xc, .sh (.bool b), .un, .un] = .ok .nx [.io (.ls p), x1, x2, x3, x4, x5, x6, .sh W, .sh d8, x9, .sh da, .sh db, xc, .sh (.bool b), .un, .un] := by
  simp [z_callR, e1, e2, e3, lsR, List.replicate, hr, hn]
end K19
set_option Elab.async false
set_option linter.all false
set_option maxRecDepth 100000
set_option maxHeartbeats 4000000
namespace K19
open PySem L2 DL
/-- the least ring of a turned or turned about one is the same -/
theorem plain_same {m : Int} {cs qs' : List Int} {x y : List Int} {u v : List Int} {k : Int} (nd : cs.Nodup) (hu : cs = u ++ v) (hm : m ∈ cs) (hle : ∀ j ∈ cs, m ≤ j) (tx : Tr m cs x) {r : List Int} (hr : r = v ++ u ∨ r = (v ++ u).reverse)
    (hk : k ∈ r) (hkl : ∀ j ∈ r, k ≤ j) (ty : Tr k r y) : minD [tI y, tI (mir y)] = minD [tI x, tI (mir x)] := by
  have mem : ∀ j, j ∈ r ↔ j ∈ cs := fun j => by
    rcases hr with rfl | rfl
    · rw [hu]; simp [or_comm]
    · rw [hu]; simp [or_comm]
  have e : k = m := Int.le_antisymm (hkl m ((mem m).mpr hm)) (hle k ((mem k).mp hk))
  subst e
  rw [hu] at tx
  have t1 : Tr k (v ++ u) x := tx.rot
  have nd1 : (v ++ u).Nodup := (List.perm_append_comm.nodup_iff).mp (hu ▸ nd)
  rcases hr with rfl | rfl
  · rw [Tr.unique nd1 ty t1]
  · have t2 := t1.rev
    rw [Tr.unique ((List.reverse_perm _).nodup_iff.mpr nd1) ty t2, mir_mir]
    exact minD_comm _ _
def Fr19 (e : Fr) : Prop := ∃ p x1 x2 x3 x4 x5 x6 x7 x8 x9 xa xb xc xd, Pot p ∧ Ss x1 ∧ Ss x2 ∧ Ss x3 ∧ Ss x4 ∧ Ss x5 ∧ Ss x6 ∧ Ss x7 ∧ Ss x8 ∧ Ss x9 ∧ Ss xa ∧ Ss xb ∧ Ss xc ∧ Ss xd ∧ e = [.io (.ls p), x1, x2, x3, x4, x5, x6, x7, x8, x9, xa, xb, xc, xd, .un, .un]
theorem Ss.s {d : D} : Ss (.sh d) := .inr (.inl ⟨d, rfl⟩)
theorem Ss.o {w : Ow} : Ss (.own w) := .inr (.inr ⟨w, rfl⟩)
noncomputable abbrev bodyR : Sf := sSeq S2 (sSeq S3 (sSeq S4 (sSeq S5 (sSeq S6 (sSeq S7 (sSeq S8 (sSeq S9 (sSeq S10 (sSeq S11 (sSeq S12 (sSeq S13 (sSeq S14 (sSeq S15 S16)))))))))))))
theorem seq_nx {f g : Sf} {e e' : Fr} (h : f e = .ok .nx e') : sSeq f g e = g e' := by
  rw [z_sSeq, h]
  rfl
theorem rgD_ns (n : Nat) : rgD 0 (n : Int) = ((List.range n).map fun (i : Nat) => (i : Int)).map PyData.int := by
  unfold rgD
  rw [List.map_map, Int.sub_zero, Int.toNat_natCast]
  refine List.map_congr_left fun i _ => ?_
  show PyData.int (0 + (i : Int)) = PyData.int (i : Int)
  rw [Int.zero_add]
theorem rgOk_n {n : Nat} (h : n < 1000) : rgOk 0 (n : Int) = true := by
  unfold rgOk
  rw [decide_eq_true_eq]
  have h1 : (0 : Int) ≤ 2 ^ 62 := by decide
  have h2 : (1000 : Int) ≤ 2 ^ 62 := by decide
  have h3 : ((n : Int) - 0).toNat = n := by rw [Int.sub_zero, Int.toNat_natCast]
  rw [h3]
  refine ⟨by omega, by decide, by omega, by omega, by omega⟩
theorem ns_nodup (n : Nat) : ((List.range n).map fun (i : Nat) => (i : Int)).Nodup := by
  refine List.pairwise_map.mpr (List.Pairwise.imp (fun {a b} h z => h ?_) List.nodup_range)
  exact Int.ofNat.inj z
theorem repr_ok {ds : List D} (h : reprOk (.list ds) = true) : ∃ R, bRepr [.list ds] = some R ∧ dNe R R = some (.bool false) := ⟨_, z_bRepr _ h, by rw [z_dNeS]; simp⟩
theorem turn {t : Int} {e : Fr} (h : Fr19 e) : ∃ e', Fr19 e' ∧ for1 (gSet 1) bodyR (.int t) e = .ok .nx e' := by
  obtain ⟨p, x1, x2, x3, x4, x5, x6, x7, x8, x9, xa, xb, xc, xd, P, h1, h2, h3, h4, h5, h6, h7, h8, h9, ha, hb, hc, hd, rfl⟩ := h
  -- many
  obtain ⟨p1, dg, P1, d0, d1, e1⟩ := ev_draw P (r := 6) (by decide) (by decide)
  obtain ⟨n, hn⟩ := Int.eq_ofNat_of_zero_le (a := 3 + dg) (by omega)
  have n3 : 3 ≤ n := by omega
  have n8 : n ≤ 8 := by omega
  have s2 := st2 e1 (x1 := .sh (.int t)) (x3 := x3) (x4 := x4) (x5 := x5) (x6 := x6) (x7 := x7) (x8 := x8) (x9 := x9) (xa := xa) (xb := xb) (xc := xc) (xd := xd) h2
  rw [hn] at s2
  -- corners
  obtain ⟨p2, ms, P2, mp, e2⟩ := ev_mixed P1 (ns := (List.range n).map fun (i : Nat) => (i : Int)) (by rw [List.length_map, List.length_range]; omega)
  obtain ⟨p3, g, P3, g0, g1, e3⟩ := ev_draw P2 (r := (n : Int) - 2) (by omega) (by omega)
  obtain ⟨k, hk⟩ := Int.eq_ofNat_of_zero_le (a := 3 + g) (by omega)
  have lm := mp.length_eq
  rw [List.length_map, List.length_range] at lm
  have s3 := st3 F__law_mixed (rgOk_n (n := n) (by omega)) (rgD_ns n) e2 e3 (C := (ms.take k).map PyData.int) (by rw [hk, List.map_take]; exact cut_to _ k) (x1 := .sh (.int t)) (x4 := x4) (x5 := x5) (x6 := x6) (x7 := x7) (x8 := x8) (x9 := x9) (xa := xa) (xb := xb) (xc := xc) (xd := xd) h3
  have ndm : ms.Nodup := mp.nodup_iff.mpr (ns_nodup n)
  obtain ⟨cs, hcs⟩ : ∃ cs, cs = ms.take k := ⟨_, rfl⟩
  rw [← hcs] at s3
  have csl : cs.length = k := by rw [hcs, List.length_take]; omega
  have csn : cs.Nodup := by rw [hcs]; exact List.Nodup.sublist (List.take_sublist _ _) ndm
  have csi : ∀ x ∈ cs, 0 ≤ x ∧ x < (n : Int) := fun x hx => by
    rw [hcs] at hx
    obtain ⟨i, hi, rfl⟩ := List.mem_map.mp (mp.mem_iff.mp (List.mem_of_mem_take hx))
    have := List.mem_range.mp hi
    omega
  have ne : cs ≠ [] := fun z => by rw [z] at csl; rw [List.length_nil] at csl; omega
  -- pairs, sides
  have s4 := st4 (p := p3) (C := cs.map PyData.int) (R := (cs.drop 1 ++ cs.take 1).map PyData.int) (Z := (cyc cs).map pr) (by rw [List.map_append, List.map_drop, List.map_take]) (by rw [List.length_drop, List.length_take, List.length_map]; omega) (by rw [zipD_map]; rfl) (x1 := .sh (.int t)) (x2 := .sh (.int (n : Int))) (x5 := x5) (x6 := x6) (x7 := x7) (x8 := x8) (x9 := x9) (xa := xa) (xb := xb) (xc := xc) (xd := xd) h4
  have cyl : (cyc cs).length = cs.length := by
    show (cs.zip (cs.drop 1 ++ cs.take 1)).length = _
    rw [List.length_zip, List.length_append, List.length_drop, List.length_take]
    omega
  have s5 := st5 (p := p3) (C := cs.map PyData.int) (ps := cyc cs) (by omega) (x1 := .sh (.int t)) (x2 := .sh (.int (n : Int))) (x6 := x6) (x7 := x7) (x8 := x8) (x9 := x9) (xa := xa) (xb := xb) (xc := xc) (xd := xd) h5
  -- more
  obtain ⟨p4, v, P4, _, e4⟩ := ev_pick P3 (ns := [0, 1, 4]) (by simp) (by simp)
  obtain ⟨p5, more, P5, mo, mol, e5⟩ := ev_drawn P4 n8 v
  have s6 := st6 e4 e5 (x1 := .sh (.int t)) (x3 := .sh (.list (cs.map PyData.int))) (x4 := .sh (.list ((cyc cs).map pr))) (x5 := .own (.ls (((cyc cs).map fun p => tieP p.1 p.2).map pr))) (x7 := x7) (x8 := x8) (x9 := x9) (xa := xa) (xb := xb) (xc := xc) (xd := xd) h6
  -- web, due
  obtain ⟨qs, qm, qu, ql, e6⟩ := ev_lweb (n : Int) (ps := ((cyc cs).map fun p => tieP p.1 p.2) ++ more) (by rw [List.length_append, List.length_map]; omega)
  rw [List.length_append, List.length_map] at ql
  obtain ⟨m0, x, hm0, hle, tx, e7⟩ := ev_lplain csn ne (by omega)
  have s7 := st7 (p := p5) (S := ((cyc cs).map fun p => tieP p.1 p.2).map pr) (Q := more.map pr) (T := (((cyc cs).map fun p => tieP p.1 p.2) ++ more).map pr) (by rw [List.map_append]) (by rw [List.length_map, List.length_map, List.length_map]; omega) e6 e7 (x1 := .sh (.int t)) (x4 := .sh (.list ((cyc cs).map pr))) (x9 := x9) (xa := xa) (xb := xb) (xc := xc) (xd := xd) h7 h8
  have R : Rdw (n : Int) cs more qs := ⟨by omega, by omega, csn, csi, by omega, by omega, mo, mol, qm, qu, by omega⟩
  have W := R.web
  have xl : x.length = cs.length := tx.perm.length_eq
  have xn : x.Nodup := tx.perm.nodup_iff.mpr csn
  obtain ⟨m1, a, b, l, ex, hab⟩ := ends_of (x := x) (by omega) xn
  have em : m1 = m0 := by
    obtain ⟨s, t', _, e⟩ := tx
    rw [ex] at e
    exact (List.cons.inj e).1
  subst em
  obtain ⟨d, a', b', l', ed, ed2, hab', hd'⟩ := due_ex ex hab
  have dx : Dih cs x := Dih.tr tx
  have dd : Dih cs d := by
    rcases hd' with rfl | rfl
    · exact dx
    · exact dx.trans (Dih.mir x)
  have dm : Dih cs (mir d) := dd.trans (Dih.mir d)
  -- told
  obtain ⟨p6, g2, P6, g20, g21, e8⟩ := ev_draw P5 (r := (cs.length : Int)) (by omega) (by omega)
  obtain ⟨at_, rfl⟩ := Int.eq_ofNat_of_zero_le g20
  have s8 := st8 (p := p5) (C := cs.map PyData.int) (by rw [z_bLen1, List.length_map]) e8 (x1 := .sh (.int t)) (x2 := .sh (.int (n : Int))) (x4 := .sh (.list ((cyc cs).map pr))) (x5 := .own (.ls (((cyc cs).map fun p => tieP p.1 p.2).map pr))) (x6 := .own (.ls (more.map pr))) (x7 := .sh (wD (n : Int) qs)) (x8 := .sh (minD [tI x, tI (mir x)])) (xa := xa) (xb := xb) (xc := xc) (xd := xd) h9
  have s9 := st9 (p := p6) (C := cs.map PyData.int) (T := (cs.drop at_ ++ cs.take at_).map PyData.int) (g := (at_ : Int)) (by
    rw [cut_from, cut_to, z_catD, if_pos (by rw [List.length_drop, List.length_take, List.length_map]; omega), List.map_append, List.map_drop, List.map_take]) (x1 := .sh (.int t)) (x2 := .sh (.int (n : Int))) (x4 := .sh (.list ((cyc cs).map pr))) (x5 := .own (.ls (((cyc cs).map fun p => tieP p.1 p.2).map pr))) (x6 := .own (.ls (more.map pr))) (x7 := .sh (wD (n : Int) qs)) (x8 := .sh (minD [tI x, tI (mir x)])) (xb := xb) (xc := xc) (xd := xd) ha
  obtain ⟨p7, g3, P7, _, _, e9⟩ := ev_draw P6 (r := 2) (by decide) (by decide)
  obtain ⟨U, hU, s10⟩ := st10 e9 (T := (cs.drop at_ ++ cs.take at_).map PyData.int) (x1 := .sh (.int t)) (x2 := .sh (.int (n : Int))) (x3 := .sh (.list (cs.map PyData.int))) (x4 := .sh (.list ((cyc cs).map pr))) (x5 := .own (.ls (((cyc cs).map fun p => tieP p.1 p.2).map pr))) (x6 := .own (.ls (more.map pr))) (x7 := .sh (wD (n : Int) qs)) (x8 := .sh (minD [tI x, tI (mir x)])) (x9 := .sh (.int (at_ : Int))) (xb := xb) (xc := xc) (xd := xd)
  obtain ⟨tl, hU2, htl⟩ : ∃ tl : List Int, U = tl.map PyData.int ∧ (tl = cs.drop at_ ++ cs.take at_ ∨ tl = (cs.drop at_ ++ cs.take at_).reverse) := by
    rcases hU with rfl | rfl
    · exact ⟨_, rfl, .inl rfl⟩
    · exact ⟨_, by rw [List.map_reverse], .inr rfl⟩
  subst hU2
  have dt : Dih cs tl := by
    have h0 := Dih.rot (cs.take at_) (cs.drop at_)
    rw [List.take_append_drop] at h0
    rcases htl with rfl | rfl
    · exact h0
    · exact h0.trans (Dih.rev _)
  -- the plain ring
  have wt := R.rnd dt
  obtain ⟨k', y, hk', hkl', ty, e10⟩ := ev_plain_ring W wt
  have pe := plain_same (qs' := cs) csn (List.take_append_drop at_ cs).symm hm0 hle tx htl hk' hkl' ty
  rw [pe] at e10
  rw [ed] at s7 s8 s9 s10 e10
  have s11 := st11 F_plain_ring (p := p7) e10 (by rw [dNe_intsT]; simp) (x1 := .sh (.int t)) (x2 := .sh (.int (n : Int))) (x3 := .sh (.list (cs.map PyData.int))) (x4 := .sh (.list ((cyc cs).map pr))) (x5 := .own (.ls (((cyc cs).map fun p => tieP p.1 p.2).map pr))) (x6 := .own (.ls (more.map pr))) (x9 := .sh (.int (at_ : Int))) (xb := xb) (xc := xc) (xd := xd)
  -- the other one
  have dne : d ≠ [] := fun z => by rw [z] at ed2; cases ed2
  have dl : d.length = cs.length := dd.perm.length_eq
  have s12 := st12 (p := p7) (ds := d.map PyData.int) (os := (mir d).map PyData.int) (by
    rw [add_tup (by rw [List.length_reverse, List.length_drop, List.length_take, List.length_map]; omega), ← mir_cut dne, List.map_append, List.map_reverse, List.map_drop, List.map_take]) (x1 := .sh (.int t)) (x2 := .sh (.int (n : Int))) (x3 := .sh (.list (cs.map PyData.int))) (x4 := .sh (.list ((cyc cs).map pr))) (x5 := .own (.ls (((cyc cs).map fun p => tieP p.1 p.2).map pr))) (x6 := .own (.ls (more.map pr))) (x7 := .sh (wD (n : Int) qs)) (x9 := .sh (.int (at_ : Int))) (xa := .sh (tI tl)) (xc := xc) (xd := xd) hb
  have wd := R.rnd dd
  have wm := R.rnd dm
  have d0 : d[0]? = some m1 := by rw [ed2]; rfl
  have dle : ∀ j ∈ d, m1 ≤ j := fun j hj => hle j (dd.perm.mem_iff.mp hj)
  have mle : ∀ j ∈ mir d, m1 ≤ j := fun j hj => hle j (dm.perm.mem_iff.mp hj)
  have md : mir d = m1 :: b' :: (l'.reverse ++ [a']) := by rw [ed2]; simp [mir]
  have m00 : (mir d)[0]? = some m1 := by rw [md]; rfl
  have f1 := ev_is_ring W wd d0 dle
  have f2 := ev_is_plain W wd d0 dle (b := a') (c := b') (by rw [ed2]; rfl) (by rw [ed2]; simp)
  rw [decide_eq_true hab'] at f2
  have f3 := ev_is_ring W wm m00 mle
  have f4 := ev_is_plain W wm m00 mle (b := b') (c := a') (by rw [md]; rfl) (by rw [md]; simp)
  rw [decide_eq_false (by omega)] at f4
  obtain ⟨R1, r1, r2⟩ := repr_ok (ds := [.bool true, .bool true, .bool true, .bool false]) (by decide)
  have s13 := st13 F_is_ring F_is_plain_ring (p := p7) f1 f2 f3 f4 r1 r2 (x1 := .sh (.int t)) (x2 := .sh (.int (n : Int))) (x3 := .sh (.list (cs.map PyData.int))) (x4 := .sh (.list ((cyc cs).map pr))) (x5 := .own (.ls (((cyc cs).map fun p => tieP p.1 p.2).map pr))) (x6 := .own (.ls (more.map pr))) (x9 := .sh (.int (at_ : Int))) (xa := .sh (tI tl)) (xc := xc) (xd := xd)
  -- chords
  have s14 := st14 (p := p7) (cs := cs) (sides := (cyc cs).map fun p => tieP p.1 p.2) (more := more) (by omega) (x1 := .sh (.int t)) (x2 := .sh (.int (n : Int))) (x4 := .sh (.list ((cyc cs).map pr))) (x7 := .sh (wD (n : Int) qs)) (x8 := .sh (tI d)) (x9 := .sh (.int (at_ : Int))) (xa := .sh (tI tl)) (xb := .sh (tI (mir d))) (xd := xd) hc
  have s15 := st15 (p := p7) (ac := more.filter (acrB cs)) (x1 := .sh (.int t)) (x2 := .sh (.int (n : Int))) (x3 := .sh (.list (cs.map PyData.int))) (x4 := .sh (.list ((cyc cs).map pr))) (x5 := .own (.ls (((cyc cs).map fun p => tieP p.1 p.2).map pr))) (x6 := .sh (.list (more.map pr))) (x7 := .sh (wD (n : Int) qs)) (x8 := .sh (tI d)) (x9 := .sh (.int (at_ : Int))) (xa := .sh (tI tl)) (xb := .sh (tI (mir d))) hd
  have c1 := ev_has_chord W wt
  have c2 := ev_has_chord W wd
  have c3 := ev_has_chord W wm
  rw [R.chord dt] at c1
  rw [R.chord dd] at c2
  rw [R.chord dm] at c3
  obtain ⟨R2, r3, r4⟩ := repr_ok (ds := [.bool (!decide (more.filter (acrB cs) = [])), .bool (!decide (more.filter (acrB cs) = [])), .bool (!decide (more.filter (acrB cs) = []))]) (by cases (!decide (more.filter (acrB cs) = [])) <;> decide)
  have s16 := st16 F_has_chord (p := p7) c1 c2 c3 r3 r4 (x1 := .sh (.int t)) (x2 := .sh (.int (n : Int))) (x3 := .sh (.list (cs.map PyData.int))) (x4 := .sh (.list ((cyc cs).map pr))) (x5 := .own (.ls (((cyc cs).map fun p => tieP p.1 p.2).map pr))) (x6 := .sh (.list (more.map pr))) (x9 := .sh (.int (at_ : Int))) (xc := .own (.ls ((more.filter (acrB cs)).map pr)))
  have g : gSet 1 (.int t) [.io (.ls p), x1, x2, x3, x4, x5, x6, x7, x8, x9, xa, xb, xc, xd, .un, .un] = .ok () [.io (.ls p), .sh (.int t), x2, x3, x4, x5, x6, x7, x8, x9, xa, xb, xc, xd, .un, .un] := by
    rcases h1 with rfl | ⟨d, rfl⟩ | ⟨w, rfl⟩ <;> simp
  have key : for1 (gSet 1) bodyR (.int t) [.io (.ls p), x1, x2, x3, x4, x5, x6, x7, x8, x9, xa, xb, xc, xd, .un, .un] = .ok .nx [.io (.ls p7), .sh (.int t), .sh (.int (n : Int)), .sh (.list (cs.map PyData.int)), .sh (.list ((cyc cs).map pr)), .own (.ls (((cyc cs).map fun p => tieP p.1 p.2).map pr)), .sh (.list (more.map pr)),
      .sh (wD (n : Int) qs), .sh (tI d), .sh (.int (at_ : Int)), .sh (tI tl), .sh (tI (mir d)), .own (.ls ((more.filter (acrB cs)).map pr)), .sh (.bool (!decide (more.filter (acrB cs) = []))), .un, .un] := by
    unfold for1
    rw [g]
    dsimp only
    refine (seq_nx s2).trans ?_
    refine (seq_nx s3).trans ?_
    refine (seq_nx s4).trans ?_
    refine (seq_nx s5).trans ?_
    refine (seq_nx s6).trans ?_
    refine (seq_nx s7).trans ?_
    refine (seq_nx s8).trans ?_
    refine (seq_nx s9).trans ?_
    refine (seq_nx s10).trans ?_
    refine (seq_nx s11).trans ?_
    refine (seq_nx s12).trans ?_
    refine (seq_nx s13).trans ?_
    refine (seq_nx s14).trans ?_
    refine (seq_nx s15).trans ?_
    exact s16
  exact ⟨_, ⟨p7, _, _, _, _, _, _, _, _, _, _, _, _, _, P7, .s, .s, .s, .s, .o, .s, .s, .s, .s, .s, .s, .o, .s, rfl⟩, key⟩
end K19
set_option Elab.async false
set_option linter.all false
set_option maxRecDepth 100000
set_option maxHeartbeats 4000000
namespace K19
open PySem L2 DL
theorem loop_ok : ∀ (ts : List Int) {e : Fr}, Fr19 e → ∃ e', Fr19 e' ∧ forL (gSet 1) bodyR (ts.map PyData.int) e = .ok .nx e'
  | [], e, h => ⟨e, h, rfl⟩
  | t :: ts, e, h => by
    obtain ⟨e1, h1, h2⟩ := turn (t := t) h
    obtain ⟨e', h3, h4⟩ := loop_ok ts h1
    exact ⟨e', h3, by rw [List.map_cons, forL_nx h2, h4]⟩
theorem right_fin (B : Sf) {p p' : List D} {x1 x2 x3 x4 x5 x6 x7 x8 x9 xa xb xc xd x14 x15 : Sl} (e : forL (gSet 1) B [.int 0, .int 1, .int 2, .int 3] [.io (.ls p), .un, .un, .un, .un, .un, .un, .un, .un, .un, .un, .un, .un, .un, .un, .un] = .ok .nx [.io (.ls p'), x1, x2, x3, x4, x5, x6, x7, x8, x9, xa, xb, xc, xd, x14, x15]) :
    runF 1 16 (sSeq (sFor (iRng1F (aCons (eC (.int 4)) aNil)) (gSet 1) B) (sRet (eR (eC (.bool true))))) [.io (.ls p)] = .ok (.sh (.bool true)) [.io (.ls p')] := by
  have s : small62 4 = true := by decide
  have r : (List.range (4 : Int).toNat).map (fun (i : Nat) => (PyData.int (i : Int) : D)) = [.int 0, .int 1, .int 2, .int 3] := rfl
  simp [iRng1F, s, e, List.range, List.range.loop]
theorem ev_right {p : List D} (P : Pot p) : ∃ p', Pot p' ∧ F__law_right [.io (.ls p)] = .ok (.sh (.bool true)) [.io (.ls p')] := by
  obtain ⟨e', ⟨p', x1, x2, x3, x4, x5, x6, x7, x8, x9, xa, xb, xc, xd, P', h1, h2, h3, h4, h5, h6, h7, h8, h9, ha, hb, hc, hd, rfl⟩, hl⟩ := loop_ok [0, 1, 2, 3] (e := [.io (.ls p), .un, .un, .un, .un, .un, .un, .un, .un, .un, .un, .un, .un, .un, .un, .un])
    ⟨p, .un, .un, .un, .un, .un, .un, .un, .un, .un, .un, .un, .un, .un, P, .inl rfl, .inl rfl, .inl rfl, .inl rfl, .inl rfl, .inl rfl, .inl rfl, .inl rfl, .inl rfl, .inl rfl, .inl rfl, .inl rfl, .inl rfl, rfl⟩
  exact ⟨p', P', right_fin bodyR hl⟩
theorem ev_pot (ns : List Int) : ∃ p, Pot p ∧ F__law_pot [.sh (scr ns), .sh (.int 0)] = .ok (.own (.ls p)) [.sh (scr ns), .sh (.int 0)] :=
  pot2_all (A := 1307) (B := 1103) (C := 10) (E := 18) (M := 2147483549) (S := 40692) (U := 6397) (V := 1151) (N := 2147483563) (O := 1) (by decide) (by decide) (by decide) (by decide) (by decide) (by decide) (by decide) (by decide) rfl rfl (by decide) (ns := ns) (k := 0) (by decide)
theorem say_all : ∀ ns : List Int, ns.length ≤ 63 → (∀ z ∈ ns, Builtin.Int.intBits z ≤ 1048576) → ∃ os, F_law [.sh (DL.scr ns)] = .ok (.sh (.bool true)) os := by
  intro ns _ _
  obtain ⟨p, P, e⟩ := ev_pot ns
  obtain ⟨p', P', e2⟩ := ev_right P
  refine ⟨[.sh (scr ns)], ?_⟩
  cases fl : p.all flatD <;> cases fq : p'.all flatD <;> simp [F_law, m_law, e, e2, z_callR, fl, fq]
end K19
set_option Elab.async false
set_option linter.all false
set_option maxRecDepth 100000
set_option maxHeartbeats 0
/-! printed by gen.py: the head by facts, the law down to its frame function -/
namespace K19
open PySem PySem.Spec PyProof.Rows L2 DL
def dd__law_pot : He.DefD := ⟨("_law_pot", none), "_law_pot", "_law_pot", defArgs s__law_pot, defBody s__law_pot, defScope s__law_pot, [], []⟩
def dd_is_integer : He.DefD := ⟨("is_integer", none), "is_integer", "is_integer", defArgs s_is_integer, defBody s_is_integer, defScope s_is_integer, [], []⟩
def dd_is_count : He.DefD := ⟨("is_count", none), "is_count", "is_count", defArgs s_is_count, defBody s_is_count, defScope s_is_count, [], []⟩
def dd_is_tie : He.DefD := ⟨("is_tie", none), "is_tie", "is_tie", defArgs s_is_tie, defBody s_is_tie, defScope s_is_tie, [], []⟩
def dd_is_many : He.DefD := ⟨("is_many", none), "is_many", "is_many", defArgs s_is_many, defBody s_is_many, defScope s_is_many, [], []⟩
def dd_is_web_value : He.DefD := ⟨("is_web_value", none), "is_web_value", "is_web_value", defArgs s_is_web_value, defBody s_is_web_value, defScope s_is_web_value, [], []⟩
def dd_want_web : He.DefD := ⟨("want_web", none), "want_web", "want_web", defArgs s_want_web, defBody s_want_web, defScope s_want_web, [], []⟩
def dd_tie_of : He.DefD := ⟨("tie_of", none), "tie_of", "tie_of", defArgs s_tie_of, defBody s_tie_of, defScope s_tie_of, [], []⟩
def dd_is_tied : He.DefD := ⟨("is_tied", none), "is_tied", "is_tied", defArgs s_is_tied, defBody s_is_tied, defScope s_is_tied, [], []⟩
def dd_is_list : He.DefD := ⟨("is_list", none), "is_list", "is_list", defArgs s_is_list, defBody s_is_list, defScope s_is_list, [], []⟩
def dd_is_corner : He.DefD := ⟨("is_corner", none), "is_corner", "is_corner", defArgs s_is_corner, defBody s_is_corner, defScope s_is_corner, [], []⟩
def dd_are_corners : He.DefD := ⟨("are_corners", none), "are_corners", "are_corners", defArgs s_are_corners, defBody s_are_corners, defScope s_are_corners, [], []⟩
def dd_is_way_of : He.DefD := ⟨("is_way_of", none), "is_way_of", "is_way_of", defArgs s_is_way_of, defBody s_is_way_of, defScope s_is_way_of, [], []⟩
def dd_is_round : He.DefD := ⟨("is_round", none), "is_round", "is_round", defArgs s_is_round, defBody s_is_round, defScope s_is_round, [], []⟩
def dd_is_ring_of : He.DefD := ⟨("is_ring_of", none), "is_ring_of", "is_ring_of", defArgs s_is_ring_of, defBody s_is_ring_of, defScope s_is_ring_of, [], []⟩
def dd_is_ring : He.DefD := ⟨("is_ring", none), "is_ring", "is_ring", defArgs s_is_ring, defBody s_is_ring, defScope s_is_ring, [], []⟩
def dd_is_plain_ring : He.DefD := ⟨("is_plain_ring", none), "is_plain_ring", "is_plain_ring", defArgs s_is_plain_ring, defBody s_is_plain_ring, defScope s_is_plain_ring, [], []⟩
def dd_want_round : He.DefD := ⟨("want_round", none), "want_round", "want_round", defArgs s_want_round, defBody s_want_round, defScope s_want_round, [], []⟩
def dd_turned_ring : He.DefD := ⟨("turned_ring", none), "turned_ring", "turned_ring", defArgs s_turned_ring, defBody s_turned_ring, defScope s_turned_ring, [], []⟩
def dd_plain_of : He.DefD := ⟨("plain_of", none), "plain_of", "plain_of", defArgs s_plain_of, defBody s_plain_of, defScope s_plain_of, [], []⟩
def dd_plain_ring : He.DefD := ⟨("plain_ring", none), "plain_ring", "plain_ring", defArgs s_plain_ring, defBody s_plain_ring, defScope s_plain_ring, [], []⟩
def dd_chord_in : He.DefD := ⟨("chord_in", none), "chord_in", "chord_in", defArgs s_chord_in, defBody s_chord_in, defScope s_chord_in, [], []⟩
def dd_has_chord : He.DefD := ⟨("has_chord", none), "has_chord", "has_chord", defArgs s_has_chord, defBody s_has_chord, defScope s_has_chord, [], []⟩
def dd__law_draw : He.DefD := ⟨("_law_draw", none), "_law_draw", "_law_draw", defArgs s__law_draw, defBody s__law_draw, defScope s__law_draw, [], []⟩
def dd__law_pick : He.DefD := ⟨("_law_pick", none), "_law_pick", "_law_pick", defArgs s__law_pick, defBody s__law_pick, defScope s__law_pick, [], []⟩
def dd__law_web : He.DefD := ⟨("_law_web", none), "_law_web", "_law_web", defArgs s__law_web, defBody s__law_web, defScope s__law_web, [], []⟩
def dd__law_drawn_ties : He.DefD := ⟨("_law_drawn_ties", none), "_law_drawn_ties", "_law_drawn_ties", defArgs s__law_drawn_ties, defBody s__law_drawn_ties, defScope s__law_drawn_ties, [], []⟩
def dd__law_mixed : He.DefD := ⟨("_law_mixed", none), "_law_mixed", "_law_mixed", defArgs s__law_mixed, defBody s__law_mixed, defScope s__law_mixed, [], []⟩
def dd__law_plain : He.DefD := ⟨("_law_plain", none), "_law_plain", "_law_plain", defArgs s__law_plain, defBody s__law_plain, defScope s__law_plain, [], []⟩
def dd__law_right : He.DefD := ⟨("_law_right", none), "_law_right", "_law_right", defArgs s__law_right, defBody s__law_right, defScope s__law_right, [], []⟩
def dd_law : He.DefD := ⟨("law", none), "law", "law", defArgs s_law, defBody s_law, defScope s_law, [], []⟩
def ddi_InvalidWeb : He.DefD := ⟨("InvalidWeb", some "__init__"), "__init__", "WebError.__init__", defArgs si_WebError, defBody si_WebError, defScope si_WebError, [.non], []⟩
def ddi_InvalidRing : He.DefD := ⟨("InvalidRing", some "__init__"), "__init__", "WebError.__init__", defArgs si_WebError, defBody si_WebError, defScope si_WebError, [.non], []⟩
def fn : List He.DefD := [dd__law_pot, dd_is_integer, dd_is_count, dd_is_tie, dd_is_many, dd_is_web_value, dd_want_web, dd_tie_of, dd_is_tied, dd_is_list, dd_is_corner, dd_are_corners, dd_is_way_of, dd_is_round, dd_is_ring_of, dd_is_ring, dd_is_plain_ring, dd_want_round, dd_turned_ring, dd_plain_of, dd_plain_ring, dd_chord_in, dd_has_chord, dd__law_draw, dd__law_pick, dd__law_web, dd__law_drawn_ties, dd__law_mixed, dd__law_plain, dd__law_right, dd_law, ddi_InvalidWeb, ddi_InvalidRing]
def fa : List He.Fa := [.glo "_law_pot", .glo "is_integer", .glo "is_count", .glo "is_tie", .glo "is_many", .glo "is_web_value", .glo "want_web", .glo "tie_of", .glo "is_tied", .glo "is_list", .glo "is_corner", .glo "are_corners", .glo "is_way_of", .glo "is_round", .glo "is_ring_of", .glo "is_ring", .glo "is_plain_ring", .glo "want_round", .glo "turned_ring", .glo "plain_of", .glo "plain_ring", .glo "chord_in", .glo "has_chord", .glo "_law_draw", .glo "_law_pick", .glo "_law_web", .glo "_law_drawn_ties", .glo "_law_mixed", .glo "_law_plain", .glo "_law_right", .glo "law", .free "max", .free "int", .free "len", .free "abs", .free "isinstance", .free "bool", .free "all", .free "tuple", .int "MOST_CORNERS" (20), .free "zip", .int "MOST_TIES" (60), .str "WEB" "web", .free "str", .glo "InvalidWeb", .free "min", .free "list", .free "set", .glo "InvalidRing", .free "divmod", .free "sorted", .free "range", .free "repr"]
def ex (K : PySem.W.Frag) : Bool := (oexAll K (He.ga K "InvalidWeb") (He.ma K (He.ga K "InvalidWeb") "__init__") "value" && (oexAll K (He.ga K "InvalidRing") (He.ma K (He.ga K "InvalidRing") "__init__") "value" && true))
theorem keeps {P : Program} {w : World} {K : PySem.W.Frag} {h : Heap} {mg : Str → Option Value} {f : Addr} (X : K.In h) (G : h.Ns mainGlobals mg) (hfa : mg ("law" : Str) = some (.ref f)) (cc : He.SaysD fa fn K ∧ ex K = true) :
    ∃ fd : FuncData, (∀ (s : Shared) (v : Value), BindsTo s fd ⟨[v], []⟩ [("_law_script", v)]) ∧ ∀ base : Heap, K.In base → base.Ns mainGlobals mg → FnG P w K mg base 10 f fd ["_law_script"] (spF K mg 1 F_law) := by
  have cd : He.SaysD fa fn K := cc.1
  have cx : ex K = true := cc.2
  unfold ex at cx
  obtain ⟨cx0, cx⟩ := He.ba cx
  obtain ⟨cx1, cx⟩ := He.ba cx
  obtain ⟨fd__law_pot, D__law_pot⟩ := cd.def_ 0 (d := dd__law_pot) rfl
  have g__law_pot := He.glo_ok X G (cd.fact 0 (f := .glo "_law_pot") rfl)
  obtain ⟨fd_is_integer, D_is_integer⟩ := cd.def_ 1 (d := dd_is_integer) rfl
  have g_is_integer := He.glo_ok X G (cd.fact 1 (f := .glo "is_integer") rfl)
  obtain ⟨fd_is_count, D_is_count⟩ := cd.def_ 2 (d := dd_is_count) rfl
  have g_is_count := He.glo_ok X G (cd.fact 2 (f := .glo "is_count") rfl)
  obtain ⟨fd_is_tie, D_is_tie⟩ := cd.def_ 3 (d := dd_is_tie) rfl
  have g_is_tie := He.glo_ok X G (cd.fact 3 (f := .glo "is_tie") rfl)
  obtain ⟨fd_is_many, D_is_many⟩ := cd.def_ 4 (d := dd_is_many) rfl
  have g_is_many := He.glo_ok X G (cd.fact 4 (f := .glo "is_many") rfl)
  obtain ⟨fd_is_web_value, D_is_web_value⟩ := cd.def_ 5 (d := dd_is_web_value) rfl
  have g_is_web_value := He.glo_ok X G (cd.fact 5 (f := .glo "is_web_value") rfl)
  obtain ⟨fd_want_web, D_want_web⟩ := cd.def_ 6 (d := dd_want_web) rfl
  have g_want_web := He.glo_ok X G (cd.fact 6 (f := .glo "want_web") rfl)
  obtain ⟨fd_tie_of, D_tie_of⟩ := cd.def_ 7 (d := dd_tie_of) rfl
  have g_tie_of := He.glo_ok X G (cd.fact 7 (f := .glo "tie_of") rfl)
  obtain ⟨fd_is_tied, D_is_tied⟩ := cd.def_ 8 (d := dd_is_tied) rfl
  have g_is_tied := He.glo_ok X G (cd.fact 8 (f := .glo "is_tied") rfl)
  obtain ⟨fd_is_list, D_is_list⟩ := cd.def_ 9 (d := dd_is_list) rfl
  have g_is_list := He.glo_ok X G (cd.fact 9 (f := .glo "is_list") rfl)
  obtain ⟨fd_is_corner, D_is_corner⟩ := cd.def_ 10 (d := dd_is_corner) rfl
  have g_is_corner := He.glo_ok X G (cd.fact 10 (f := .glo "is_corner") rfl)
  obtain ⟨fd_are_corners, D_are_corners⟩ := cd.def_ 11 (d := dd_are_corners) rfl
  have g_are_corners := He.glo_ok X G (cd.fact 11 (f := .glo "are_corners") rfl)
  obtain ⟨fd_is_way_of, D_is_way_of⟩ := cd.def_ 12 (d := dd_is_way_of) rfl
  have g_is_way_of := He.glo_ok X G (cd.fact 12 (f := .glo "is_way_of") rfl)
  obtain ⟨fd_is_round, D_is_round⟩ := cd.def_ 13 (d := dd_is_round) rfl
  have g_is_round := He.glo_ok X G (cd.fact 13 (f := .glo "is_round") rfl)
  obtain ⟨fd_is_ring_of, D_is_ring_of⟩ := cd.def_ 14 (d := dd_is_ring_of) rfl
  have g_is_ring_of := He.glo_ok X G (cd.fact 14 (f := .glo "is_ring_of") rfl)
  obtain ⟨fd_is_ring, D_is_ring⟩ := cd.def_ 15 (d := dd_is_ring) rfl
  have g_is_ring := He.glo_ok X G (cd.fact 15 (f := .glo "is_ring") rfl)
  obtain ⟨fd_is_plain_ring, D_is_plain_ring⟩ := cd.def_ 16 (d := dd_is_plain_ring) rfl
  have g_is_plain_ring := He.glo_ok X G (cd.fact 16 (f := .glo "is_plain_ring") rfl)
  obtain ⟨fd_want_round, D_want_round⟩ := cd.def_ 17 (d := dd_want_round) rfl
  have g_want_round := He.glo_ok X G (cd.fact 17 (f := .glo "want_round") rfl)
  obtain ⟨fd_turned_ring, D_turned_ring⟩ := cd.def_ 18 (d := dd_turned_ring) rfl
  have g_turned_ring := He.glo_ok X G (cd.fact 18 (f := .glo "turned_ring") rfl)
  obtain ⟨fd_plain_of, D_plain_of⟩ := cd.def_ 19 (d := dd_plain_of) rfl
  have g_plain_of := He.glo_ok X G (cd.fact 19 (f := .glo "plain_of") rfl)
  obtain ⟨fd_plain_ring, D_plain_ring⟩ := cd.def_ 20 (d := dd_plain_ring) rfl
  have g_plain_ring := He.glo_ok X G (cd.fact 20 (f := .glo "plain_ring") rfl)
  obtain ⟨fd_chord_in, D_chord_in⟩ := cd.def_ 21 (d := dd_chord_in) rfl
  have g_chord_in := He.glo_ok X G (cd.fact 21 (f := .glo "chord_in") rfl)
  obtain ⟨fd_has_chord, D_has_chord⟩ := cd.def_ 22 (d := dd_has_chord) rfl
  have g_has_chord := He.glo_ok X G (cd.fact 22 (f := .glo "has_chord") rfl)
  obtain ⟨fd__law_draw, D__law_draw⟩ := cd.def_ 23 (d := dd__law_draw) rfl
  have g__law_draw := He.glo_ok X G (cd.fact 23 (f := .glo "_law_draw") rfl)
  obtain ⟨fd__law_pick, D__law_pick⟩ := cd.def_ 24 (d := dd__law_pick) rfl
  have g__law_pick := He.glo_ok X G (cd.fact 24 (f := .glo "_law_pick") rfl)
  obtain ⟨fd__law_web, D__law_web⟩ := cd.def_ 25 (d := dd__law_web) rfl
  have g__law_web := He.glo_ok X G (cd.fact 25 (f := .glo "_law_web") rfl)
  obtain ⟨fd__law_drawn_ties, D__law_drawn_ties⟩ := cd.def_ 26 (d := dd__law_drawn_ties) rfl
  have g__law_drawn_ties := He.glo_ok X G (cd.fact 26 (f := .glo "_law_drawn_ties") rfl)
  obtain ⟨fd__law_mixed, D__law_mixed⟩ := cd.def_ 27 (d := dd__law_mixed) rfl
  have g__law_mixed := He.glo_ok X G (cd.fact 27 (f := .glo "_law_mixed") rfl)
  obtain ⟨fd__law_plain, D__law_plain⟩ := cd.def_ 28 (d := dd__law_plain) rfl
  have g__law_plain := He.glo_ok X G (cd.fact 28 (f := .glo "_law_plain") rfl)
  obtain ⟨fd__law_right, D__law_right⟩ := cd.def_ 29 (d := dd__law_right) rfl
  have g__law_right := He.glo_ok X G (cd.fact 29 (f := .glo "_law_right") rfl)
  obtain ⟨fd_law, D_law⟩ := cd.def_ 30 (d := dd_law) rfl
  have h_max := He.free_ok X G (cd.fact 31 (f := .free "max") rfl)
  have h_int := He.free_ok X G (cd.fact 32 (f := .free "int") rfl)
  have h_len := He.free_ok X G (cd.fact 33 (f := .free "len") rfl)
  have h_abs := He.free_ok X G (cd.fact 34 (f := .free "abs") rfl)
  have h_isinstance := He.free_ok X G (cd.fact 35 (f := .free "isinstance") rfl)
  have h_bool := He.free_ok X G (cd.fact 36 (f := .free "bool") rfl)
  have h_all := He.free_ok X G (cd.fact 37 (f := .free "all") rfl)
  have h_tuple := He.free_ok X G (cd.fact 38 (f := .free "tuple") rfl)
  obtain ⟨t_MOST_CORNERS, z_MOST_CORNERS⟩ := He.int_ok X G (cd.fact 39 (f := .int "MOST_CORNERS" (20)) rfl)
  have v_MOST_CORNERS := And.intro (And.intro z_MOST_CORNERS (show RelV (.int (20)) (.int (20) t_MOST_CORNERS) from ⟨_, rfl⟩)) (fun G : Hp => (Dq.int (K := K) (H := G) (20)))
  have h_zip := He.free_ok X G (cd.fact 40 (f := .free "zip") rfl)
  obtain ⟨t_MOST_TIES, z_MOST_TIES⟩ := He.int_ok X G (cd.fact 41 (f := .int "MOST_TIES" (60)) rfl)
  have v_MOST_TIES := And.intro (And.intro z_MOST_TIES (show RelV (.int (60)) (.int (60) t_MOST_TIES) from ⟨_, rfl⟩)) (fun G : Hp => (Dq.int (K := K) (H := G) (60)))
  obtain ⟨t_WEB, z_WEB⟩ := He.str_ok X G (cd.fact 42 (f := .str "WEB" "web") rfl)
  have v_WEB := And.intro (And.intro z_WEB (show RelV (.str "web") (.str "web" t_WEB) from ⟨_, rfl⟩)) (fun G : Hp => (Dq.str (K := K) (H := G) "web"))
  have h_str := He.free_ok X G (cd.fact 43 (f := .free "str") rfl)
  have g_InvalidWeb := He.glo_ok X G (cd.fact 44 (f := .glo "InvalidWeb") rfl)
  have h_min := He.free_ok X G (cd.fact 45 (f := .free "min") rfl)
  have h_list := He.free_ok X G (cd.fact 46 (f := .free "list") rfl)
  have h_set := He.free_ok X G (cd.fact 47 (f := .free "set") rfl)
  have g_InvalidRing := He.glo_ok X G (cd.fact 48 (f := .glo "InvalidRing") rfl)
  have h_divmod := He.free_ok X G (cd.fact 49 (f := .free "divmod") rfl)
  have h_sorted := He.free_ok X G (cd.fact 50 (f := .free "sorted") rfl)
  have h_range := He.free_ok X G (cd.fact 51 (f := .free "range") rfl)
  have h_repr := He.free_ok X G (cd.fact 52 (f := .free "repr") rfl)
  have e := hfa.symm.trans (He.glo_ok X G (cd.fact 30 (f := .glo "law") rfl))
  cases e
  have b := FunD.bindsA (ps := ["_law_script"]) D_law fun _ _ _ _ _ _ us hl => match us, hl with | [_], _ => rfl
  refine ⟨fd_law, fun s v => b s [v] rfl, fun base _ _ => ?_⟩
  obtain ⟨fdI_InvalidWeb, DI_InvalidWeb⟩ := cd.def_ 31 (d := ddi_InvalidWeb) rfl
  have o_InvalidWeb : ExR P w K mg base (He.ga K "InvalidWeb") "value" := ⟨He.ma K (He.ga K "InvalidWeb") "__init__", fdI_InvalidWeb, ["self", "value"], oex_ok cx0, init_ok (P := P) (w := w) (mg := mg) (base := base) DI_InvalidWeb sci_WebError rfl, binds_def DI_InvalidWeb 2 rfl rfl fun _ _ _ _ _ _ _ us its h1 h2 => match us, its, h1, h2 with | [_, _], [_], _, _ => ⟨_, rfl, rfl⟩⟩
  obtain ⟨fdI_InvalidRing, DI_InvalidRing⟩ := cd.def_ 32 (d := ddi_InvalidRing) rfl
  have o_InvalidRing : ExR P w K mg base (He.ga K "InvalidRing") "value" := ⟨He.ma K (He.ga K "InvalidRing") "__init__", fdI_InvalidRing, ["self", "value"], oex_ok cx1, init_ok (P := P) (w := w) (mg := mg) (base := base) DI_InvalidRing sci_WebError rfl, binds_def DI_InvalidRing 2 rfl rfl fun _ _ _ _ _ _ _ us its h1 h2 => match us, its, h1, h2 with | [_, _], [_], _, _ => ⟨_, rfl, rfl⟩⟩
  have R__law_pot := r__law_pot (P := P) (w := w) (mg := mg) (base := base) D__law_pot h_max h_int h_len h_abs
  have R_is_integer := r_is_integer (P := P) (w := w) (mg := mg) (base := base) D_is_integer h_isinstance h_bool h_int
  have R_is_count := r_is_count (P := P) (w := w) (mg := mg) (base := base) D_is_count D_is_integer g_is_integer R_is_integer
  have R_is_tie := r_is_tie (P := P) (w := w) (mg := mg) (base := base) D_is_tie D_is_count g_is_count R_is_count h_all h_len h_isinstance h_tuple
  have R_is_many := r_is_many (P := P) (w := w) (mg := mg) (base := base) D_is_many v_MOST_CORNERS D_is_count g_is_count R_is_count
  have R_is_web_value := r_is_web_value (P := P) (w := w) (mg := mg) (base := base) D_is_web_value h_zip h_all D_is_tie g_is_tie R_is_tie h_len v_MOST_TIES h_isinstance h_tuple D_is_many g_is_many R_is_many v_WEB h_str
  have R_want_web := r_want_web (P := P) (w := w) (mg := mg) (base := base) D_want_web D_is_web_value g_is_web_value R_is_web_value o_InvalidWeb g_InvalidWeb
  have R_tie_of := r_tie_of (P := P) (w := w) (mg := mg) (base := base) D_tie_of h_min h_max
  have R_is_tied := r_is_tied (P := P) (w := w) (mg := mg) (base := base) D_is_tied D_tie_of g_tie_of R_tie_of
  have R_is_list := r_is_list (P := P) (w := w) (mg := mg) (base := base) D_is_list h_isinstance h_list h_tuple
  have R_is_corner := r_is_corner (P := P) (w := w) (mg := mg) (base := base) D_is_corner D_is_count g_is_count R_is_count
  have R_are_corners := r_are_corners (P := P) (w := w) (mg := mg) (base := base) D_are_corners h_len h_set D_is_corner g_is_corner R_is_corner h_all D_is_list g_is_list R_is_list
  have R_is_way_of := r_is_way_of (P := P) (w := w) (mg := mg) (base := base) D_is_way_of h_zip D_is_tied g_is_tied R_is_tied h_all D_are_corners g_are_corners R_are_corners h_isinstance h_tuple
  have R_is_round := r_is_round (P := P) (w := w) (mg := mg) (base := base) D_is_round D_is_tied g_is_tied R_is_tied D_is_way_of g_is_way_of R_is_way_of h_len h_isinstance h_tuple
  have R_is_ring_of := r_is_ring_of (P := P) (w := w) (mg := mg) (base := base) D_is_ring_of h_min D_is_round g_is_round R_is_round
  have R_is_ring := r_is_ring (P := P) (w := w) (mg := mg) (base := base) D_is_ring D_is_ring_of g_is_ring_of R_is_ring_of D_want_web g_want_web R_want_web
  have R_is_plain_ring := r_is_plain_ring (P := P) (w := w) (mg := mg) (base := base) D_is_plain_ring D_is_ring_of g_is_ring_of R_is_ring_of D_want_web g_want_web R_want_web
  have R_want_round := r_want_round (P := P) (w := w) (mg := mg) (base := base) D_want_round D_is_round g_is_round R_is_round o_InvalidRing g_InvalidRing
  have R_turned_ring := r_turned_ring (P := P) (w := w) (mg := mg) (base := base) D_turned_ring h_tuple h_min
  have R_plain_of := r_plain_of (P := P) (w := w) (mg := mg) (base := base) D_plain_of D_turned_ring g_turned_ring R_turned_ring h_min
  have R_plain_ring := r_plain_ring (P := P) (w := w) (mg := mg) (base := base) D_plain_ring D_plain_of g_plain_of R_plain_of D_want_round g_want_round R_want_round D_want_web g_want_web R_want_web
  have R_chord_in := r_chord_in (P := P) (w := w) (mg := mg) (base := base) D_chord_in h_len h_abs
  have R_has_chord := r_has_chord (P := P) (w := w) (mg := mg) (base := base) D_has_chord D_chord_in g_chord_in R_chord_in D_want_round g_want_round R_want_round D_want_web g_want_web R_want_web
  have R__law_draw := r__law_draw (P := P) (w := w) (mg := mg) (base := base) D__law_draw h_int h_divmod
  have R__law_pick := r__law_pick (P := P) (w := w) (mg := mg) (base := base) D__law_pick D__law_draw g__law_draw R__law_draw h_len
  have R__law_web := r__law_web (P := P) (w := w) (mg := mg) (base := base) D__law_web h_sorted h_set h_tuple
  have R__law_drawn_ties := r__law_drawn_ties (P := P) (w := w) (mg := mg) (base := base) D__law_drawn_ties h_sorted h_range D__law_draw g__law_draw R__law_draw
  have R__law_mixed := r__law_mixed (P := P) (w := w) (mg := mg) (base := base) D__law_mixed h_len h_range D__law_draw g__law_draw R__law_draw h_list
  have R__law_plain := r__law_plain (P := P) (w := w) (mg := mg) (base := base) D__law_plain h_min h_tuple
  have R__law_right := r__law_right (P := P) (w := w) (mg := mg) (base := base) D__law_right h_range D_has_chord g_has_chord R_has_chord h_repr D_is_ring g_is_ring R_is_ring D_is_plain_ring g_is_plain_ring R_is_plain_ring D_plain_ring g_plain_ring R_plain_ring D__law_draw g__law_draw R__law_draw h_tuple h_len D__law_web g__law_web R__law_web D__law_plain g__law_plain R__law_plain D__law_drawn_ties g__law_drawn_ties R__law_drawn_ties D__law_pick g__law_pick R__law_pick h_min h_max h_list h_zip D__law_mixed g__law_mixed R__law_mixed
  have R_law := r_law (P := P) (w := w) (mg := mg) (base := base) D_law D__law_right g__law_right R__law_right D__law_pot g__law_pot R__law_pot
  exact R_law
end K19
open PySem PySem.W PySem.Calls PyProof.Rows
theorem PySem.Challenge.cw_websolids_k19_whole_rings_and_chords_holds : PySem.Challenge.rw_websolids_k19_whole_rings_and_chords.Holds := by
  w_on; o_law; k_head; (case hw => w_witness2)
  k_fill
  exact DL.walk_k (l := PySem.Challenge.rw_websolids_k19_whole_rings_and_chords) (n := 63) (k := 10) (x := "_law_script") (fun K => He.SaysD K19.fa K19.fn K ∧ K19.ex K = true) K19.F_law rfl (by decide) (by first | rfl | kernel_rfl) ⟨rfl, by decide, by decide⟩ (fun w h Y => PySem.W.kIn_of Y) (fun w => ⟨by unfold He.SaysD; kernel_rfl, by kernel_rfl⟩)
    (fun w K mg fa h X c G hmg => K19.keeps X G hmg c) K19.say_all
