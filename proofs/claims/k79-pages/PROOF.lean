import PyProof.Rows.All
import Wide.All
import OpenK.AllK
import Wide.FinOn
import HandS.ForMost
import HandS.Evl
import HandS.Codes
import HandS.TupAny
import HandS.Walk
import HandS.FStr
import HandS.IsInst
import HandS.Star
import HandS.RaiseMore
import PyProof.NeKinds
import HandS.Style
import PySem.Challenge.RW_enoughasked_k79_pages_of_told_lots_and_r
import HandS.DictComp
import HandS.WordsDict
import HandS.OwnEq
import KE.SortData
import HandS.NamedTupGet
import HandS.NamedTupSort
import PyProof.InstEq
import HandS.TupLen
import HandS.Strs
import HandS.TupSets
import PyProof.Rows.SortShellAny
import HandS.ExcInit
import HandS.ExcField
import HandS.TryMany
import HandS.Nested
import KE.KExcSuper
import HandS.Lambda
import HandS.ExcOwn
import HandS.Conv
import HandS.More
import HandS.WordsExc
import PyProof.ReprRoads
import PyProof.ReprLen
import HandS.Spec
import HandS.EndTab
import HandS.HeadWalk
import HandS.HeadHook4
import HandS.NestedK
import HandS.Head2
set_option Elab.async false
set_option linter.all false
set_option maxRecDepth 100000
set_option maxHeartbeats 4000000
/-! Q0: relations between values on the heap and plain data; what evaluates to what, by such a relation. -/
namespace Q
open PySem PySem.Spec PyProof.Rows L2
abbrev Frag := PySem.W.Frag
abbrev Ex := Evl.Ex
abbrev Rel (α : Type) := Frag → Hp → V → α → Prop
/-- not a lock -/
def Pl : HO → Prop
  | .frz _ _ => False
  | _ => True
/-- what may be read may still be read (a lock laid or taken off does no harm) -/
structure Le (H H' : Hp) : Prop where
  rd : ∀ a u, Pl u → Rd H a u → Rd H' a u
  ins : ∀ a C dx fs, H a = some (.ins C dx fs) → H' a = some (.ins C dx fs)
  tu : ∀ a xs, H a = some (.tup xs) → H' a = some (.tup xs)
theorem _root_.Evl.Ex.le {H H' : Hp} (e : Ex H H') : Le H H' := ⟨fun _ _ _ h => Evl.ex_rd e h, fun a _ _ _ h => e a _ h, fun a _ h => e a _ h⟩
theorem Le.refl (H : Hp) : Le H H := ⟨fun _ _ _ h => h, fun _ _ _ _ h => h, fun _ _ h => h⟩
theorem Le.trans {H H1 H2 : Hp} (a : Le H H1) (b : Le H1 H2) : Le H H2 := ⟨fun x u p h => b.rd x u p (a.rd x u p h), fun x C d f h => b.ins x C d f (a.ins x C d f h), fun x l h => b.tu x l (a.tu x l h)⟩
/-- a dict is locked, unlocked -/
theorem Le.lock {H : Hp} {d : Addr} {u : HO} {od : Obj} (h : H d = some u) (hn : Pl u) (hi : ∀ C dx fs, u ≠ .ins C dx fs) (ht : ∀ xs, u ≠ .tup xs) : Le H (upd H d (.frz od u)) := ⟨fun a w p r => by
  by_cases e : a = d
  · subst e
    rcases r with r | ⟨o, r⟩
    · rw [h] at r; cases r
      exact .inr ⟨od, upd_same⟩
    · rw [h] at r
      have z := Option.some.inj r
      subst z
      exact hn.elim
  · rcases r with r | ⟨o, r⟩
    · exact .inl (by rw [upd_ne e]; exact r)
    · exact .inr ⟨o, by rw [upd_ne e]; exact r⟩, fun a C dx fs r => by
  by_cases e : a = d
  · subst e
    rw [h] at r
    exact absurd (Option.some.inj r) (hi _ _ _)
  · rw [upd_ne e]; exact r, fun a xs r => by
  by_cases e : a = d
  · subst e
    rw [h] at r
    exact absurd (Option.some.inj r) (ht _)
  · rw [upd_ne e]; exact r⟩
theorem Le.unlock {H : Hp} {d : Addr} {u : HO} {od : Obj} (h : H d = some (.frz od u)) : Le H (upd H d u) := ⟨fun a w p r => by
  by_cases e : a = d
  · subst e
    rcases r with r | ⟨o, r⟩
    · rw [h] at r; cases r
      exact p.elim
    · rw [h] at r; cases r
      exact .inl upd_same
  · rcases r with r | ⟨o, r⟩
    · exact .inl (by rw [upd_ne e]; exact r)
    · exact .inr ⟨o, by rw [upd_ne e]; exact r⟩, fun a C dx fs r => by
  by_cases e : a = d
  · subst e
    rw [h] at r
    cases r
  · rw [upd_ne e]; exact r, fun a xs r => by
  by_cases e : a = d
  · subst e
    rw [h] at r
    cases r
  · rw [upd_ne e]; exact r⟩
theorem Le.l {K : Frag} {H H' : Hp} {a : Addr} {xs : List V} (e : Le H H') (h : SqL K H a xs) : SqL K H' a xs := by
  rcases h with h | h
  · exact .inl (e.rd a _ trivial h)
  · exact .inr h
theorem Le.t {K : Frag} {H H' : Hp} {a : Addr} {xs : List V} (e : Le H H') (h : SqT K H a xs) : SqT K H' a xs := by
  rcases h with h | h
  · exact .inl (e.rd a _ trivial h)
  · exact .inr h
/-- a relation that holds on -/
class Mono {α : Type} (r : Rel α) : Prop where
  mono : ∀ {K : Frag} {H H' : Hp} {v : V} {x : α}, Le H H' → r K H v x → r K H' v x

theorem Paired.mono {α β : Type} {F G : α → β → Prop} (h : ∀ a b, F a b → G a b) : ∀ {l : List α} {m : List β}, Paired F l m → Paired G l m
  | _, _, .nil => .nil
  | _, _, .cons a b => .cons (h _ _ a) (Paired.mono h b)
theorem Paired.len {α β : Type} {F : α → β → Prop} : ∀ {l : List α} {m : List β}, Paired F l m → l.length = m.length
  | _, _, .nil => rfl
  | _, _, .cons _ b => congrArg (· + 1) (Paired.len b)
theorem Paired.at {α β : Type} {F : α → β → Prop} : ∀ {l : List α} {m : List β}, Paired F l m → ∀ (i : Nat) (y : β), m[i]? = some y → ∃ x, l[i]? = some x ∧ F x y
  | _, _, .nil, i, y, h => by simp at h
  | _, _, .cons a b, 0, y, h => by simp at h; subst h; exact ⟨_, rfl, a⟩
  | _, _, .cons a b, i + 1, y, h => by
    obtain ⟨x, e, f⟩ := Paired.at b i y (by simpa using h)
    exact ⟨x, by simpa using e, f⟩
theorem Paired.at' {α β : Type} {F : α → β → Prop} : ∀ {l : List α} {m : List β}, Paired F l m → ∀ (i : Nat) (x : α), l[i]? = some x → ∃ y, m[i]? = some y ∧ F x y
  | _, _, .nil, i, y, h => by simp at h
  | _, _, .cons a b, 0, y, h => by simp at h; subst h; exact ⟨_, rfl, a⟩
  | _, _, .cons a b, i + 1, y, h => by
    obtain ⟨x, e, f⟩ := Paired.at' b i y (by simpa using h)
    exact ⟨x, by simpa using e, f⟩
theorem Paired.snoc' {α β : Type} {F : α → β → Prop} {l : List α} {m : List β} {a : α} {b : β} (h : Paired F l m) (x : F a b) : Paired F (l ++ [a]) (m ++ [b]) := PySem.Paired.snoc h x
theorem Paired.app {α β : Type} {F : α → β → Prop} : ∀ {l1 l2 : List α} {m1 m2 : List β}, Paired F l1 m1 → Paired F l2 m2 → Paired F (l1 ++ l2) (m1 ++ m2)
  | _, _, _, _, .nil, h => h
  | _, _, _, _, .cons a b, h => .cons a (Paired.app b h)
theorem Paired.unsnoc {α β : Type} {F : α → β → Prop} : ∀ {m : List β} {b : β} {l : List α}, Paired F l (m ++ [b]) → ∃ l' a, l = l' ++ [a] ∧ Paired F l' m ∧ F a b
  | [], b, l, h => by
    cases h with
    | cons x y => cases y; exact ⟨[], _, rfl, .nil, x⟩
  | c :: m, b, l, h => by
    cases h with
    | cons x y =>
      obtain ⟨l', a, rfl, h1, h2⟩ := Paired.unsnoc (m := m) y
      exact ⟨_ :: l', a, rfl, .cons x h1, h2⟩
theorem Paired.drop {α β : Type} {F : α → β → Prop} : ∀ (n : Nat) {l : List α} {m : List β}, Paired F l m → Paired F (l.drop n) (m.drop n)
  | 0, _, _, h => h
  | _ + 1, _, _, .nil => .nil
  | n + 1, _, _, .cons _ b => Paired.drop n b
theorem Paired.take {α β : Type} {F : α → β → Prop} : ∀ (n : Nat) {l : List α} {m : List β}, Paired F l m → Paired F (l.take n) (m.take n)
  | 0, _, _, _ => .nil
  | _ + 1, _, _, .nil => .nil
  | n + 1, _, _, .cons a b => .cons a (Paired.take n b)
theorem Paired.rev {α β : Type} {F : α → β → Prop} : ∀ {l : List α} {m : List β}, Paired F l m → Paired F l.reverse m.reverse
  | _, _, .nil => .nil
  | _, _, .cons a b => by
    rw [List.reverse_cons, List.reverse_cons]
    exact Paired.snoc' (Paired.rev b) a
theorem Paired.of_map {α β : Type} {F : α → β → Prop} {f : β → α} (h : ∀ b, F (f b) b) : ∀ m : List β, Paired F (m.map f) m
  | [] => .nil
  | _ :: m => .cons (h _) (Paired.of_map h m)
theorem Paired.to_map {α β : Type} {F : α → β → Prop} {f : β → α} (h : ∀ a b, F a b → a = f b) : ∀ {l : List α} {m : List β}, Paired F l m → l = m.map f
  | _, _, .nil => rfl
  | _, _, .cons a b => by rw [List.map_cons, ← h _ _ a, ← Paired.to_map h b]

/-! ### relations -/
def rInt : Rel Int := fun _ _ v x => v = .int x
def rBl : Rel Bool := fun _ _ v x => v = .bl x
def rStr : Rel Str := fun _ _ v x => v = .str x
def rNon : Rel Unit := fun _ _ v _ => v = .non
def rAdr : Rel Addr := fun _ _ v x => v = .ref x
def rOpt {α : Type} (r : Rel α) : Rel (Option α) := fun K H v x => match x with
  | none => v = .non
  | some y => v ≠ .non ∧ r K H v y
def rLst {α : Type} (r : Rel α) : Rel (List α) := fun K H v xs => ∃ a vs, v = .ref a ∧ SqL K H a vs ∧ Paired (r K H) vs xs
def rTup {α : Type} (r : Rel α) : Rel (List α) := fun K H v xs => ∃ a vs, v = .ref a ∧ SqT K H a vs ∧ Paired (r K H) vs xs
def rPr {α β : Type} (r : Rel α) (s : Rel β) : Rel (α × β) := fun K H v p => ∃ a x y, v = .ref a ∧ SqT K H a [x, y] ∧ r K H x p.1 ∧ s K H y p.2
def rTri {α β γ : Type} (r : Rel α) (s : Rel β) (t : Rel γ) : Rel (α × β × γ) := fun K H v p => ∃ a x y z, v = .ref a ∧ SqT K H a [x, y, z] ∧ r K H x p.1 ∧ s K H y p.2.1 ∧ t K H z p.2.2
instance : Mono rInt := ⟨fun _ h => h⟩
instance : Mono rBl := ⟨fun _ h => h⟩
instance : Mono rStr := ⟨fun _ h => h⟩
instance : Mono rNon := ⟨fun _ h => h⟩
instance : Mono rAdr := ⟨fun _ h => h⟩
instance {α : Type} (r : Rel α) [m : Mono r] : Mono (rOpt r) := ⟨fun {K H H' v x} e h => by
  cases x with
  | none => exact h
  | some y => exact ⟨h.1, m.mono e h.2⟩⟩
instance {α : Type} (r : Rel α) [m : Mono r] : Mono (rLst r) := ⟨fun e ⟨a, vs, h1, h2, h3⟩ => ⟨a, vs, h1, e.l h2, Paired.mono (fun _ _ z => m.mono e z) h3⟩⟩
instance {α : Type} (r : Rel α) [m : Mono r] : Mono (rTup r) := ⟨fun e ⟨a, vs, h1, h2, h3⟩ => ⟨a, vs, h1, e.t h2, Paired.mono (fun _ _ z => m.mono e z) h3⟩⟩
instance {α β : Type} (r : Rel α) (s : Rel β) [m : Mono r] [n : Mono s] : Mono (rPr r s) := ⟨fun e ⟨a, x, y, h1, h2, h3, h4⟩ => ⟨a, x, y, h1, e.t h2, m.mono e h3, n.mono e h4⟩⟩
instance {α β γ : Type} (r : Rel α) (s : Rel β) (t : Rel γ) [m : Mono r] [n : Mono s] [o : Mono t] : Mono (rTri r s t) := ⟨fun e ⟨a, x, y, z, h1, h2, h3, h4, h5⟩ => ⟨a, x, y, z, h1, e.t h2, m.mono e h3, n.mono e h4, o.mono e h5⟩⟩

/-! ### texts as lists of signs -/
abbrev Tx := List Nat
abbrev S (l : Tx) : Str := SX.S l
def rTx : Rel Tx := fun _ _ v x => v = .str (S x)
instance : Mono rTx := ⟨fun _ h => h⟩
/-- a tuple of texts, tracked as such (a key) -/
def rKey : Rel (List Tx) := fun _ H v xs => ∃ a, v = .ref a ∧ H a = some (.tup (xs.map fun x => V.str (S x)))
instance : Mono rKey := ⟨fun e ⟨a, h1, h2⟩ => ⟨a, h1, e.tu a _ h2⟩⟩
/-! ### terms: a word and the terms at its places -/
inductive Tm where
  | nd (w : Tx) (ps : List Tm)
def Tm.w : Tm → Tx
  | .nd w _ => w
def Tm.ps : Tm → List Tm
  | .nd _ ps => ps
mutual
def rTm (K : Frag) (H : Hp) : V → Tm → Prop
  | v, .nd w ps => ∃ a vs, v = .ref a ∧ SqT K H a (.str (S w) :: vs) ∧ rTms K H vs ps
def rTms (K : Frag) (H : Hp) : List V → List Tm → Prop
  | vs, [] => vs = []
  | vs, p :: ps => ∃ v us, vs = v :: us ∧ rTm K H v p ∧ rTms K H us ps
end
theorem rTms_iff {K : Frag} {H : Hp} : ∀ {vs : List V} {ps : List Tm}, rTms K H vs ps ↔ Paired (rTm K H) vs ps
  | vs, [] => by
    unfold rTms
    exact ⟨fun e => by subst e; exact .nil, fun h => by cases h; rfl⟩
  | vs, p :: ps => by
    unfold rTms
    constructor
    · rintro ⟨v, us, rfl, h1, h2⟩
      exact .cons h1 (rTms_iff.mp h2)
    · intro h
      cases h with
      | cons a b => exact ⟨_, _, rfl, a, rTms_iff.mpr b⟩
theorem rTm_iff {K : Frag} {H : Hp} {v : V} {w : Tx} {ps : List Tm} : rTm K H v (.nd w ps) ↔ ∃ a vs, v = .ref a ∧ SqT K H a (.str (S w) :: vs) ∧ Paired (rTm K H) vs ps := by
  unfold rTm
  constructor
  · rintro ⟨a, vs, h1, h2, h3⟩
    exact ⟨a, vs, h1, h2, rTms_iff.mp h3⟩
  · rintro ⟨a, vs, h1, h2, h3⟩
    exact ⟨a, vs, h1, h2, rTms_iff.mpr h3⟩
mutual
theorem rTm_mono {K : Frag} {H H' : Hp} (e : Le H H') : ∀ {v : V} {t : Tm}, rTm K H v t → rTm K H' v t
  | v, .nd w ps, h => by
    unfold rTm at h ⊢
    obtain ⟨a, vs, h1, h2, h3⟩ := h
    exact ⟨a, vs, h1, e.t h2, rTms_mono e h3⟩
theorem rTms_mono {K : Frag} {H H' : Hp} (e : Le H H') : ∀ {vs : List V} {ps : List Tm}, rTms K H vs ps → rTms K H' vs ps
  | vs, [], h => by unfold rTms at h ⊢; exact h
  | vs, p :: ps, h => by
    unfold rTms at h ⊢
    obtain ⟨v, us, h1, h2, h3⟩ := h
    exact ⟨v, us, h1, rTm_mono e h2, rTms_mono e h3⟩
end
instance : Mono rTm := ⟨fun e h => rTm_mono e h⟩

/-! ### hidden addresses: what is being made is not data yet -/
abbrev Hs := Addr → Bool
def hid (X : Hs) (H : Hp) : Hp := fun a => if X a = true then none else H a
/-- all that is hidden is tracked -/
def Dm (X : Hs) (H : Hp) : Prop := ∀ a, X a = true → H a ≠ none
def no : Hs := fun _ => false
def Hs.and (X : Hs) (D : Addr) : Hs := fun a => X a || decide (a = D)
theorem hid_no (H : Hp) : hid no H = H := by
  funext a
  unfold hid no
  rfl
theorem hid_some {X : Hs} {H : Hp} {a : Addr} {o : HO} : hid X H a = some o ↔ X a = false ∧ H a = some o := by
  unfold hid
  cases h : X a with
  | true => simp
  | false => simp
theorem hid_out {X : Hs} {H : Hp} {a : Addr} (h : X a = false) : hid X H a = H a := by
  unfold hid
  rw [h]
  rfl
theorem hid_ex {X : Hs} {H H' : Hp} (e : Ex H H') : Ex (hid X H) (hid X H') := fun a o h => by
  obtain ⟨h1, h2⟩ := hid_some.mp h
  exact hid_some.mpr ⟨h1, e a o h2⟩
theorem hid_le {X : Hs} {H H' : Hp} (e : Ex H H') : Le (hid X H) (hid X H') := (hid_ex e).le
theorem hid_upd {X : Hs} {H : Hp} {D : Addr} {o : HO} (h : X D = true) : hid X (upd H D o) = hid X H := by
  funext a
  unfold hid
  by_cases e : a = D
  · subst e; rw [h]; rfl
  · rw [upd_ne e]
theorem hid_upd_out {X : Hs} {H : Hp} {D : Addr} {o : HO} (h : X D = false) : hid X (upd H D o) = upd (hid X H) D o := by
  funext a
  unfold hid
  by_cases e : a = D
  · subst e; rw [h, upd_same, upd_same]; rfl
  · rw [upd_ne e, upd_ne e]
theorem Dm.ex {X : Hs} {H H' : Hp} (d : Dm X H) (e : Ex H H') : Dm X H' := fun a h => by
  cases q : H a with
  | none => exact absurd q (d a h)
  | some o => rw [e a o q]; exact fun z => nomatch z
theorem Dm.new {X : Hs} {H : Hp} {p : Addr} (d : Dm X H) (h : H p = none) : X p = false := by
  cases q : X p with
  | false => rfl
  | true => exact absurd h (d p q)
theorem Dm.and {X : Hs} {H : Hp} {D : Addr} (d : Dm X H) (h : H D ≠ none) : Dm (X.and D) H := fun a e => by
  unfold Hs.and at e
  rcases Bool.or_eq_true_iff.mp e with e | e
  · exact d a e
  · rw [of_decide_eq_true e]; exact h
theorem Dm.no {H : Hp} : Dm no H := fun _ h => nomatch h
theorem Hs.and_at (X : Hs) (D : Addr) : X.and D D = true := by unfold Hs.and; simp
theorem Hs.and_ne {X : Hs} {D a : Addr} (h : a ≠ D) : X.and D a = X a := by unfold Hs.and; simp [h]
/-- what was data stays data when one more thing, new then, is hidden -/
theorem hid_and {X : Hs} {H H' : Hp} {D : Addr} (e : Ex H H') (h : H D = none) : Ex (hid X H) (hid (X.and D) H') := fun a o q => by
  obtain ⟨h1, h2⟩ := hid_some.mp q
  have ne : a ≠ D := fun z => by rw [z, h] at h2; cases h2
  exact hid_some.mpr ⟨by rw [Hs.and_ne ne]; exact h1, e a o h2⟩
theorem hid_sub {X : Hs} {H : Hp} {D : Addr} : Ex (hid (X.and D) H) (hid X H) := fun a o q => by
  obtain ⟨h1, h2⟩ := hid_some.mp q
  refine hid_some.mpr ⟨?_, h2⟩
  unfold Hs.and at h1
  exact (Bool.or_eq_false_iff.mp h1).1
theorem hid_get {X : Hs} {H : Hp} : Ex (hid X H) H := fun _ _ q => (hid_some.mp q).2

/-! ### what evaluates to what -/
variable {K : Frag} {X : Hs}
/-- te gives some v of which r says x; what stood stands -/
def Er {α : Type} (K : Frag) (X : Hs) (te : TE) (σ : L2.St) (H : Hp) (r : Rel α) (x : α) : Prop := ∀ H1, Ex H H1 → Dm X H1 → ∀ Q : VK, (∀ v H2, Ex H1 H2 → r K (hid X H2) v x → Q v H2) → te σ H1 Q
def Et (X : Hs) (tt : TT) (σ : L2.St) (H : Hp) (b : Bool) : Prop := ∀ H1, Ex H H1 → Dm X H1 → ∀ Q : Bool → Hp → Prop, (∀ H2, Ex H1 H2 → Q b H2) → tt σ H1 Q
theorem Er.mono {α : Type} {te : TE} {σ : L2.St} {H H' : Hp} {r : Rel α} {x : α} (e : Ex H H') (h : Er K X te σ H r x) : Er K X te σ H' r x := fun H1 a d Q q => h H1 (e.trans a) d Q q
theorem Er.go {α : Type} {te : TE} {σ : L2.St} {H : Hp} {r : Rel α} {x : α} (h : Er K X te σ H r x) (d : Dm X H) {Q : VK} (q : ∀ v H2, Ex H H2 → r K (hid X H2) v x → Q v H2) : te σ H Q := h H (Evl.Ex.refl H) d Q q
theorem Et.go {tt : TT} {σ : L2.St} {H : Hp} {b : Bool} (h : Et X tt σ H b) (d : Dm X H) {Q : Bool → Hp → Prop} (q : ∀ H2, Ex H H2 → Q b H2) : tt σ H Q := h H (Evl.Ex.refl H) d Q q
theorem Et.mono {tt : TT} {σ : L2.St} {H H' : Hp} {b : Bool} (e : Ex H H') (h : Et X tt σ H b) : Et X tt σ H' b := fun H1 a d Q q => h H1 (e.trans a) d Q q
theorem Er.is {α : Type} {te : TE} {σ : L2.St} {H : Hp} {r : Rel α} {x y : α} (h : Er K X te σ H r x) (e : x = y) : Er K X te σ H r y := e ▸ h
theorem Et.is {tt : TT} {σ : L2.St} {H : Hp} {b c : Bool} (h : Et X tt σ H b) (e : b = c) : Et X tt σ H c := e ▸ h
section
variable {α β γ : Type} {σ : L2.St} {H : Hp} {r : Rel α} {s : Rel β} {q : Rel γ} {ta tb tc te : TE} {t u : TT}
theorem er_var [m : Mono r] {i : Nat} {v : V} {x : α} (h : σ[i]? = some (some v)) (hr : r K (hid X H) v x) : Er K X (tVar i) σ H r x := fun H1 e _ Q q => ⟨v, h, q v H1 (Evl.Ex.refl H1) (m.mono (hid_le e) hr)⟩
theorem er_int {i : Int} : Er K X (tC (.int i)) σ H rInt i := fun H1 _ _ Q q => q _ H1 (Evl.Ex.refl H1) rfl
theorem er_bl {i : Bool} : Er K X (tC (.bl i)) σ H rBl i := fun H1 _ _ Q q => q _ H1 (Evl.Ex.refl H1) rfl
theorem er_str {i : Str} : Er K X (tC (.str i)) σ H rStr i := fun H1 _ _ Q q => q _ H1 (Evl.Ex.refl H1) rfl
theorem er_non : Er K X (tC .non) σ H rNon () := fun H1 _ _ Q q => q _ H1 (Evl.Ex.refl H1) rfl
/-- two in a row -/
theorem er_two [m : Mono r] [n : Mono s] {f : R2} {z : γ} {x : α} {y : β} (ha : Er K X ta σ H r x) (hb : Er K X tb σ H s y)
    (hf : ∀ v w H1, Ex H H1 → Dm X H1 → r K (hid X H1) v x → s K (hid X H1) w y → ∀ Q : VK, (∀ a H2, Ex H1 H2 → q K (hid X H2) a z → Q a H2) → f v w H1 Q) : Er K X (tOp f ta tb) σ H q z := fun H1 e d Q k =>
  ha H1 e d _ fun v H2 e2 hv => hb H2 (e.trans e2) (d.ex e2) _ fun w H3 e3 hw => hf v w H3 ((e.trans e2).trans e3) ((d.ex e2).ex e3) (m.mono (hid_le e3) hv) hw Q fun a H4 e4 ha => k a H4 ((e2.trans e3).trans e4) ha
theorem er_op0 {g : Int → Int → Int} {i j : Int} (ha : Er K X ta σ H rInt i) (hb : Er K X tb σ H rInt j) : Er K X (tOp (rI0 fun i j => .int (g i j)) ta tb) σ H rInt (g i j) :=
  er_two ha hb fun _ _ H1 _ _ hv hw _ k => ⟨i, j, hv, hw, k _ H1 (Evl.Ex.refl H1) rfl⟩
theorem er_opI {C : Int → Int → Prop} {g : Int → Int → Int} {i j : Int} (ha : Er K X ta σ H rInt i) (hb : Er K X tb σ H rInt j) (hc : C i j) : Er K X (tOp (rI C fun i j => .int (g i j)) ta tb) σ H rInt (g i j) :=
  er_two ha hb fun _ _ H1 _ _ hv hw _ k => ⟨i, j, hv, hw, hc, k _ H1 (Evl.Ex.refl H1) rfl⟩
theorem er_cmp0 {g : Int → Int → Bool} {i j : Int} (ha : Er K X ta σ H rInt i) (hb : Er K X tb σ H rInt j) : Er K X (tOp (rI0 fun i j => .bl (g i j)) ta tb) σ H rBl (g i j) :=
  er_two ha hb fun _ _ H1 _ _ hv hw _ k => ⟨i, j, hv, hw, k _ H1 (Evl.Ex.refl H1) rfl⟩
theorem dec_str (i j : Str) : decide (V.str i = V.str j) = decide (i = j) := by
  by_cases h : i = j
  · subst h; rw [decide_eq_true rfl, decide_eq_true rfl]
  · rw [decide_eq_false h, decide_eq_false fun c => h (V.str.inj c)]
theorem dec_int (i j : Int) : decide (V.int i = V.int j) = decide (i = j) := by
  by_cases h : i = j
  · subst h; rw [decide_eq_true rfl, decide_eq_true rfl]
  · rw [decide_eq_false h, decide_eq_false fun c => h (V.int.inj c)]
theorem dec_bl (i j : Bool) : decide (V.bl i = V.bl j) = decide (i = j) := by
  by_cases h : i = j
  · subst h; rw [decide_eq_true rfl, decide_eq_true rfl]
  · rw [decide_eq_false h, decide_eq_false fun c => h (V.bl.inj c)]
theorem er_eqS {i j : Str} (ha : Er K X ta σ H rStr i) (hb : Er K X tb σ H rStr j) : Er K X (tOp rEq ta tb) σ H rBl (decide (i = j)) :=
  er_two ha hb fun _ _ H1 _ _ hv hw _ k => by subst hv; subst hw; exact ⟨rfl, by rw [dec_str]; exact k _ H1 (Evl.Ex.refl H1) rfl⟩
theorem er_eqI {i j : Int} (ha : Er K X ta σ H rInt i) (hb : Er K X tb σ H rInt j) : Er K X (tOp rEq ta tb) σ H rBl (decide (i = j)) :=
  er_two ha hb fun _ _ H1 _ _ hv hw _ k => by subst hv; subst hw; exact ⟨rfl, by rw [dec_int]; exact k _ H1 (Evl.Ex.refl H1) rfl⟩
theorem er_eqB {i j : Bool} (ha : Er K X ta σ H rBl i) (hb : Er K X tb σ H rBl j) : Er K X (tOp rEq ta tb) σ H rBl (decide (i = j)) :=
  er_two ha hb fun _ _ H1 _ _ hv hw _ k => by subst hv; subst hw; exact ⟨rfl, by rw [dec_bl]; exact k _ H1 (Evl.Ex.refl H1) rfl⟩
theorem er_neS {i j : Str} (ha : Er K X ta σ H rStr i) (hb : Er K X tb σ H rStr j) : Er K X (tOp rNe ta tb) σ H rBl (!decide (i = j)) :=
  er_two ha hb fun _ _ H1 _ _ hv hw _ k => by subst hv; subst hw; exact ⟨rfl, by rw [dec_str]; exact k _ H1 (Evl.Ex.refl H1) rfl⟩
theorem er_neI {i j : Int} (ha : Er K X ta σ H rInt i) (hb : Er K X tb σ H rInt j) : Er K X (tOp rNe ta tb) σ H rBl (!decide (i = j)) :=
  er_two ha hb fun _ _ H1 _ _ hv hw _ k => by subst hv; subst hw; exact ⟨rfl, by rw [dec_int]; exact k _ H1 (Evl.Ex.refl H1) rfl⟩
theorem er_neB {i j : Bool} (ha : Er K X ta σ H rBl i) (hb : Er K X tb σ H rBl j) : Er K X (tOp rNe ta tb) σ H rBl (!decide (i = j)) :=
  er_two ha hb fun _ _ H1 _ _ hv hw _ k => by subst hv; subst hw; exact ⟨rfl, by rw [dec_bl]; exact k _ H1 (Evl.Ex.refl H1) rfl⟩
theorem dec_tx (i j : Tx) : decide (V.str (S i) = V.str (S j)) = decide (i = j) := by
  by_cases h : i = j
  · subst h; rw [decide_eq_true rfl, decide_eq_true rfl]
  · rw [decide_eq_false h, decide_eq_false fun c => h (SX.S_inj (V.str.inj c))]
theorem er_tx {x : Str} {i : Tx} (e : x = S i) : Er K X (tC (.str x)) σ H rTx i := fun H1 _ _ Q q => q _ H1 (Evl.Ex.refl H1) (by rw [e]; rfl)
theorem er_eqT {i j : Tx} (ha : Er K X ta σ H rTx i) (hb : Er K X tb σ H rTx j) : Er K X (tOp rEq ta tb) σ H rBl (decide (i = j)) :=
  er_two ha hb fun _ _ H1 _ _ hv hw _ k => by subst hv; subst hw; exact ⟨rfl, by rw [dec_tx]; exact k _ H1 (Evl.Ex.refl H1) rfl⟩
theorem er_neT {i j : Tx} (ha : Er K X ta σ H rTx i) (hb : Er K X tb σ H rTx j) : Er K X (tOp rNe ta tb) σ H rBl (!decide (i = j)) :=
  er_two ha hb fun _ _ H1 _ _ hv hw _ k => by subst hv; subst hw; exact ⟨rfl, by rw [dec_tx]; exact k _ H1 (Evl.Ex.refl H1) rfl⟩
/-- is None -/
theorem er_isN [m : Mono r] {x : Option α} (ha : Er K X ta σ H (rOpt r) x) : Er K X (tIsN ta) σ H rBl x.isNone := fun H1 e d Q k => ha H1 e d _ fun v H2 e2 hv => by
  cases x with
  | none => rw [show v = V.non from hv]; exact k _ H2 e2 rfl
  | some y => rw [decide_eq_false hv.1]; exact k _ H2 e2 rfl
theorem er_notN [m : Mono r] {x : Option α} (ha : Er K X ta σ H (rOpt r) x) : Er K X (tNotN ta) σ H rBl x.isSome := fun H1 e d Q k => ha H1 e d _ fun v H2 e2 hv => by
  cases x with
  | none => rw [show v = V.non from hv]; exact k _ H2 e2 rfl
  | some y => rw [decide_eq_false hv.1]; exact k _ H2 e2 rfl
/-- tests -/
theorem et_test {b : Bool} (h : Er K X te σ H rBl b) : Et X (tTest te) σ H b := fun H1 e d _ q => h H1 e d _ fun v H2 e2 hv => ⟨b, hv, q H2 e2⟩
theorem et_B {b : Bool} (h : Er K X te σ H rBl b) : Et X (tB te) σ H b := fun H1 e d _ q => h H1 e d _ fun v H2 e2 hv => ⟨b, hv, q H2 e2⟩
theorem et_and {a b : Bool} (h1 : Et X t σ H a) (h2 : a = true → Et X u σ H b) : Et X (tAnd t u) σ H (a && b) := fun H1 e d Q q => h1 H1 e d _ fun H2 e2 => by
  cases a with
  | true => exact h2 rfl H2 (e.trans e2) (d.ex e2) Q fun H3 e3 => q H3 (e2.trans e3)
  | false => exact q H2 e2
theorem et_or {a b : Bool} (h1 : Et X t σ H a) (h2 : a = false → Et X u σ H b) : Et X (tOr t u) σ H (a || b) := fun H1 e d Q q => h1 H1 e d _ fun H2 e2 => by
  cases a with
  | true => exact q H2 e2
  | false => exact h2 rfl H2 (e.trans e2) (d.ex e2) Q fun H3 e3 => q H3 (e2.trans e3)
theorem et_not {a : Bool} (h1 : Et X t σ H a) : Et X (tNot t) σ H (!a) := fun H1 e d _ q => h1 H1 e d _ fun H2 e2 => q H2 e2
theorem et_yes : Et X tYes σ H true := fun H1 _ _ _ q => q H1 (Evl.Ex.refl H1)
theorem er_andV {a b : Bool} (h1 : Er K X ta σ H rBl a) (h2 : a = true → Er K X tb σ H rBl b) : Er K X (tAndV ta tb) σ H rBl (a && b) := fun H1 e d Q q => h1 H1 e d _ fun v H2 e2 hv => ⟨a, hv, by
  cases a with
  | true => exact h2 rfl H2 (e.trans e2) (d.ex e2) Q fun v H3 e3 => q v H3 (e2.trans e3)
  | false => exact q _ H2 e2 rfl⟩
theorem er_orV {a b : Bool} (h1 : Er K X ta σ H rBl a) (h2 : a = false → Er K X tb σ H rBl b) : Er K X (tOrV ta tb) σ H rBl (a || b) := fun H1 e d Q q => h1 H1 e d _ fun v H2 e2 hv => ⟨a, hv, by
  cases a with
  | true => exact q _ H2 e2 rfl
  | false => exact h2 rfl H2 (e.trans e2) (d.ex e2) Q fun v H3 e3 => q v H3 (e2.trans e3)⟩
theorem er_notV {a : Bool} (h1 : Er K X ta σ H rBl a) : Er K X (tNotV ta) σ H rBl (!a) := fun H1 e d _ q => h1 H1 e d _ fun v H2 e2 hv => ⟨a, hv, q _ H2 e2 rfl⟩
theorem er_if {b : Bool} {x : α} (h : Et X t σ H b) (h1 : b = true → Er K X ta σ H r x) (h2 : b = false → Er K X tb σ H r x) : Er K X (tIf t ta tb) σ H r x := fun H1 e d Q q => h H1 e d _ fun H2 e2 => by
  cases b with
  | true => exact h1 rfl H2 (e.trans e2) (d.ex e2) Q fun v H3 e3 => q v H3 (e2.trans e3)
  | false => exact h2 rfl H2 (e.trans e2) (d.ex e2) Q fun v H3 e3 => q v H3 (e2.trans e3)
/-! tuples -/
theorem er_pr [m : Mono r] [n : Mono s] {x : α} {y : β} (ha : Er K X ta σ H r x) (hb : Er K X tb σ H s y) : Er K X (tTup (tCons ta (tCons tb tNil))) σ H (rPr r s) (x, y) := fun H1 e d Q q =>
  ha H1 e d _ fun v H2 e2 hv => hb H2 (e.trans e2) (d.ex e2) _ fun w H3 e3 hw => ⟨(by show 2 ≤ sizeLine; decide), fun p hp => by
    have z := ((d.ex e2).ex e3).new hp
    refine q _ _ ((e2.trans e3).trans (Evl.Ex.new hp)) ⟨p, v, w, rfl, .inl (.inl ?_), m.mono (hid_le (Evl.Ex.trans e3 (Evl.Ex.new hp))) hv, n.mono (hid_le (Evl.Ex.new hp)) hw⟩
    rw [hid_out z, upd_same]⟩
theorem er_tri [m : Mono r] [n : Mono s] [o : Mono q] {x : α} {y : β} {z : γ} (ha : Er K X ta σ H r x) (hb : Er K X tb σ H s y) (hc : Er K X tc σ H q z) : Er K X (tTup (tCons ta (tCons tb (tCons tc tNil)))) σ H (rTri r s q) (x, y, z) := fun H1 e d Q k =>
  ha H1 e d _ fun v H2 e2 hv => hb H2 (e.trans e2) (d.ex e2) _ fun w H3 e3 hw => hc H3 ((e.trans e2).trans e3) ((d.ex e2).ex e3) _ fun w2 H4 e4 hw2 => ⟨(by show 3 ≤ sizeLine; decide), fun p hp => by
    have z := (((d.ex e2).ex e3).ex e4).new hp
    refine k _ _ (((e2.trans e3).trans e4).trans (Evl.Ex.new hp)) ⟨p, v, w, w2, rfl, .inl (.inl ?_), m.mono (hid_le ((Evl.Ex.trans e3 e4).trans (Evl.Ex.new hp))) hv, n.mono (hid_le (Evl.Ex.trans e4 (Evl.Ex.new hp))) hw, o.mono (hid_le (Evl.Ex.new hp)) hw2⟩
    rw [hid_out z, upd_same]⟩
end
end Q
set_option maxHeartbeats 4000000
/-! Q1: calls, walks, comprehensions, loops by relations. -/
namespace Q
open PySem PySem.Spec PyProof.Rows L2
variable {K : Frag} {X : Hs}
/-! ### promises of defs without effect -/
def SpF {α β : Type} (A : Frag → List V → Hp → α → Prop) (K : Frag) (s : Rel β) (f : α → β) : Sp := fun vs H Q _ => ∃ x X, Dm X H ∧ A K vs (hid X H) x ∧ ∀ v H', Ex H H' → s K (hid X H') v (f x) → Q v H'
def A1 {α : Type} (r : Rel α) (pre : α → Prop) : Frag → List V → Hp → α → Prop := fun K vs H x => ∃ v, vs = [v] ∧ r K H v x ∧ pre x
def A2 {α β : Type} (r : Rel α) (s : Rel β) (pre : α → β → Prop) : Frag → List V → Hp → α × β → Prop := fun K vs H p => ∃ v w, vs = [v, w] ∧ r K H v p.1 ∧ s K H w p.2 ∧ pre p.1 p.2
def A3 {α β γ : Type} (r : Rel α) (s : Rel β) (t : Rel γ) (pre : α → β → γ → Prop) : Frag → List V → Hp → α × β × γ → Prop := fun K vs H p => ∃ v w u, vs = [v, w, u] ∧ r K H v p.1 ∧ s K H w p.2.1 ∧ t K H u p.2.2 ∧ pre p.1 p.2.1 p.2.2
def A4 {α β γ δ : Type} (r : Rel α) (s : Rel β) (t : Rel γ) (u : Rel δ) (pre : α → β → γ → δ → Prop) : Frag → List V → Hp → α × β × γ × δ → Prop := fun K vs H p => ∃ v w x y, vs = [v, w, x, y] ∧ r K H v p.1 ∧ s K H w p.2.1 ∧ t K H x p.2.2.1 ∧ u K H y p.2.2.2 ∧ pre p.1 p.2.1 p.2.2.1 p.2.2.2
section
variable {α β γ δ ε : Type} {σ : L2.St} {H : Hp} {r : Rel α} {s : Rel β} {t : Rel γ} {u : Rel δ} {z : Rel ε} {ta tb tc td : TE} {E : XK}
theorem er_call1 [Mono r] {pre : α → Prop} {f : α → ε} {x : α} (h : Er K X ta σ H r x) (hp : pre x) : Er K X (tCall (SpF (A1 r pre) K z f) [] E (tCons ta tNil)) σ H z (f x) := fun H1 e d Q q =>
  h H1 e d _ fun v H2 e2 hv => ⟨x, X, d.ex e2, ⟨v, rfl, hv, hp⟩, fun w H3 e3 hw => q w H3 (e2.trans e3) hw⟩
theorem er_call2 [m : Mono r] [Mono s] {pre : α → β → Prop} {f : α × β → ε} {x : α} {y : β} (h : Er K X ta σ H r x) (h2 : Er K X tb σ H s y) (hp : pre x y) : Er K X (tCall (SpF (A2 r s pre) K z f) [] E (tCons ta (tCons tb tNil))) σ H z (f (x, y)) := fun H1 e d Q q =>
  h H1 e d _ fun v H2 e2 hv => h2 H2 (e.trans e2) (d.ex e2) _ fun w H3 e3 hw => ⟨(x, y), X, (d.ex e2).ex e3, ⟨v, w, rfl, m.mono (hid_le e3) hv, hw, hp⟩, fun a H4 e4 ha => q a H4 ((e2.trans e3).trans e4) ha⟩
theorem er_call3 [m : Mono r] [n : Mono s] [Mono t] {pre : α → β → γ → Prop} {f : α × β × γ → ε} {x : α} {y : β} {c : γ} (h : Er K X ta σ H r x) (h2 : Er K X tb σ H s y) (h3 : Er K X tc σ H t c) (hp : pre x y c) : Er K X (tCall (SpF (A3 r s t pre) K z f) [] E (tCons ta (tCons tb (tCons tc tNil)))) σ H z (f (x, y, c)) := fun H1 e d Q q =>
  h H1 e d _ fun v H2 e2 hv => h2 H2 (e.trans e2) (d.ex e2) _ fun w H3 e3 hw => h3 H3 ((e.trans e2).trans e3) ((d.ex e2).ex e3) _ fun w2 H4 e4 hw2 => ⟨(x, y, c), X, ((d.ex e2).ex e3).ex e4, ⟨v, w, w2, rfl, m.mono (hid_le (e3.trans e4)) hv, n.mono (hid_le e4) hw, hw2, hp⟩, fun a H5 e5 ha => q a H5 (((e2.trans e3).trans e4).trans e5) ha⟩
theorem er_call4 [m : Mono r] [n : Mono s] [o : Mono t] [Mono u] {pre : α → β → γ → δ → Prop} {f : α × β × γ × δ → ε} {x : α} {y : β} {c : γ} {d : δ} (h : Er K X ta σ H r x) (h2 : Er K X tb σ H s y) (h3 : Er K X tc σ H t c) (h4 : Er K X td σ H u d) (hp : pre x y c d) : Er K X (tCall (SpF (A4 r s t u pre) K z f) [] E (tCons ta (tCons tb (tCons tc (tCons td tNil))))) σ H z (f (x, y, c, d)) := fun H1 e dm Q q =>
  h H1 e dm _ fun v H2 e2 hv => h2 H2 (e.trans e2) (dm.ex e2) _ fun w H3 e3 hw => h3 H3 ((e.trans e2).trans e3) ((dm.ex e2).ex e3) _ fun w2 H4 e4 hw2 => h4 H4 (((e.trans e2).trans e3).trans e4) (((dm.ex e2).ex e3).ex e4) _ fun w3 H5 e5 hw3 =>
    ⟨(x, y, c, d), X, (((dm.ex e2).ex e3).ex e4).ex e5, ⟨v, w, w2, w3, rfl, m.mono (hid_le ((e3.trans e4).trans e5)) hv, n.mono (hid_le (e4.trans e5)) hw, o.mono (hid_le e5) hw2, hw3, hp⟩, fun a H6 e6 ha => q a H6 ((((e2.trans e3).trans e4).trans e5).trans e6) ha⟩
end

/-- return te -/
theorem ret_of {α : Type} {r : Rel α} {x : α} {te : TE} {σ : L2.St} {H : Hp} {D : Ends} (h : Er K X te σ H r x) (d : Dm X H) (q : ∀ v H', Ex H H' → r K (hid X H') v x → D.rt v H') : tRet te D σ H := h.go d q

/-! ### what is walked -/
/-- wi walks over things that are xs by r, one after another -/
def Ei {α : Type} (K : Frag) (X : Hs) (wi : TI) (σ : L2.St) (H : Hp) (r : Rel α) (xs : List α) : Prop := ∀ H1, Ex H H1 → Dm X H1 → ∀ R : It → Hp → Prop,
  (∀ J H2 (G : Hp → Prop) Y, Ex H1 H2 → Walk J xs.length G Y → (∀ H3, Ex H2 H3 → G H3) → (∀ i H3 x H4, Ex H2 H3 → Y i H3 x H4 → Ex H3 H4 ∧ ∃ d, xs[i]? = some d ∧ ∀ X', Ex (hid X H2) (hid X' H4) → Dm X' H3 → r K (hid X' H4) x d) → R J H2) → wi σ H1 R
section
variable {α β : Type} {σ : L2.St} {H : Hp} {r : Rel α} {s : Rel β} {te : TE} {ta : TA}
theorem sql_hid {H : Hp} {a : Addr} {xs : List V} (h : SqL K (hid X H) a xs) : SqL K H a xs := (hid_get.le).l h
theorem sqt_hid {H : Hp} {a : Addr} {xs : List V} (h : SqT K (hid X H) a xs) : SqT K H a xs := (hid_get.le).t h
theorem ei_list [m : Mono r] {xs : List α} (h : Er K X te σ H (rLst r) xs) : Ei K X (iList K te) σ H r xs := fun H1 e dm R q =>
  h H1 e dm _ fun v H2 e2 ⟨a, vs, hv, hs, hp⟩ => ⟨a, hv, ⟨vs, sql_hid hs⟩, q (Itl K a) H2 (fun H => SqL K H a vs) (YAt vs) e2 (by rw [← Paired.len hp]; exact walk_list) (fun H3 e3 => Evl.ex_l e3 (sql_hid hs)) fun i H3 x H4 e3 y => by
    obtain ⟨rfl, y⟩ := y
    obtain ⟨d, h1, h2⟩ := Paired.at' hp i x y
    exact ⟨Evl.Ex.refl _, d, h1, fun X' e' _ => m.mono e'.le h2⟩⟩
theorem ei_tup [m : Mono r] {xs : List α} (h : Er K X te σ H (rTup r) xs) : Ei K X (iTup K te) σ H r xs := fun H1 e dm R q =>
  h H1 e dm _ fun v H2 e2 ⟨a, vs, hv, hs, hp⟩ => ⟨a, hv, ⟨vs, sqt_hid hs⟩, q (Itt K a) H2 (fun H => SqT K H a vs) (YAt vs) e2 (by rw [← Paired.len hp]; exact walk_tup) (fun H3 e3 => Evl.ex_t e3 (sqt_hid hs)) fun i H3 x H4 e3 y => by
    obtain ⟨rfl, y⟩ := y
    obtain ⟨d, h1, h2⟩ := Paired.at' hp i x y
    exact ⟨Evl.Ex.refl _, d, h1, fun X' e' _ => m.mono e'.le h2⟩⟩
theorem getElem?_range {n : Nat} {i : Nat} (h : i < n) : ((List.range n).map fun j => ((j : Nat) : Int))[i]? = some ((i : Nat) : Int) := by
  rw [List.getElem?_map, List.getElem?_range h]
  rfl
theorem ei_range1 {n : Nat} (hn : (n : Int) < 2 ^ 62) (h : Er K X te σ H rInt (n : Int)) : Ei K X (iRng1 (tCons te tNil)) σ H rInt ((List.range n).map fun j => ((j : Nat) : Int)) := fun H1 e dm R q =>
  h H1 e dm _ fun v H2 e2 hv => ⟨(n : Int), by rw [hv], by omega, hn, q (Itr 0 (n : Int).toNat) H2 (fun _ => True) (fun i H x H' => i < n ∧ H' = H ∧ x = .int (0 + i)) e2
    (by
      rw [List.length_map, List.length_range, Int.toNat_natCast]
      exact ⟨fun _ _ hi _ => hi, fun _ _ => Nat.le_refl _, fun i H x H' hi _ y => ⟨hi, y⟩⟩) (fun _ _ => trivial) fun i H3 x H4 e3 ⟨hi, e4, ex⟩ => by
    subst e4
    exact ⟨Evl.Ex.refl _, _, getElem?_range hi, fun _ _ _ => by rw [ex]; show V.int _ = V.int _; rw [Int.zero_add]⟩⟩
/-- a text's signs -/
def sign (c : Nat) : Tx := [c]
theorem ei_str {x : Tx} (h : Er K X te σ H rTx x) : Ei K X (iStr te) σ H rTx (x.map sign) := fun H1 e dm R q =>
  h H1 e dm _ fun v H2 e2 hv => ⟨S x, hv, q (Its (S x)) H2 (fun _ => True) (fun i H v H' => H' = H ∧ ∃ c, (S x).cps[i]? = some c ∧ v = .str ⟨#[c]⟩) e2
    (by rw [List.length_map]; exact (walk_str (z := S x)).mono (fun _ h => h) (fun _ _ _ _ _ _ h => h) |> fun w => by simpa using w) (fun _ _ => trivial) fun i H3 y H4 e3 ⟨e4, c, hc, ey⟩ => by
    subst e4
    refine ⟨Evl.Ex.refl _, sign c, ?_, fun _ _ _ => ey⟩
    rw [List.getElem?_map, show x[i]? = some c by simpa using hc]
    rfl⟩
/-- enumerate(list) -/
theorem ei_enum [m : Mono r] {xs : List α} (h : Er K X te σ H (rLst r) xs) : Ei K X (iEnum K (tCons te tNil)) σ H (rPr rInt r) (((List.range xs.length).map fun j => ((j : Nat) : Int)).zip xs) := fun H1 e dm R q =>
  h H1 e dm _ fun v H2 e2 ⟨a, vs, hv, hs, hp⟩ => ⟨a, vs, by rw [hv], sql_hid hs, q (Ite K a) H2 (fun H => SqL K H a vs) (YPair (fun i => some (.int (i : Nat))) (fun i => vs[i]?)) e2
    (by
      rw [List.length_zip, List.length_map, List.length_range, Nat.min_self, ← Paired.len hp]
      exact walk_enum) (fun H3 e3 => Evl.ex_l e3 (sql_hid hs)) fun i H3 y H4 e3 yy => by
    obtain ⟨T, x1, x2, rfl, hT, rfl, h1, h2⟩ := yy
    obtain ⟨d, h3, h4⟩ := Paired.at' hp i x2 h2
    have hi : i < xs.length := (List.getElem?_eq_some_iff.mp h3).1
    refine ⟨Evl.Ex.new hT, (((i : Nat) : Int), d), ?_, fun X' e' d' => ⟨T, x1, x2, rfl, .inl (.inl ?_), ?_, m.mono e'.le h4⟩⟩
    · rw [List.getElem?_zip_eq_some]
      exact ⟨getElem?_range hi, h3⟩
    · rw [hid_out (d'.new hT), upd_same]
    · exact (Option.some.inj h1).symm⟩
/-! ### targets -/
/-- the target g takes what is x by r: the slots behind satisfy P -/
def Eg {α : Type} (K : Frag) (g : TG) (σ : L2.St) (r : Rel α) (x : α) (P : Hs → L2.St → Hp → Prop) : Prop := ∀ X v H, r K (hid X H) v x → ∀ R : L2.St → Hp → Prop, (∀ σ', P X σ' H → R σ' H) → g v σ H R
theorem eg_name {i : Nat} {x : α} : Eg K (gName i) σ r x fun X σ' H => ∃ v, σ' = σ.set i (some v) ∧ r K (hid X H) v x := fun X v H h R q => q _ ⟨v, rfl, h⟩
theorem eg_pr {i j : Nat} {x : α} {y : β} : Eg K (gTup K 2 (gCons (gName i) (gCons (gName j) gNil))) σ (rPr r s) (x, y) fun X σ' H => ∃ v w, σ' = (σ.set i (some v)).set j (some w) ∧ r K (hid X H) v x ∧ s K (hid X H) w y := fun X v H h R q => by
  obtain ⟨a, x1, y1, rfl, hs, h1, h2⟩ := h
  exact ⟨a, [x1, y1], rfl, sqt_hid hs, rfl, x1, [y1], rfl, y1, [], rfl, rfl, q _ ⟨x1, y1, rfl, h1, h2⟩⟩
theorem eg_tri {γ : Type} {t : Rel γ} {i j k : Nat} {x : α} {y : β} {z : γ} : Eg K (gTup K 3 (gCons (gName i) (gCons (gName j) (gCons (gName k) gNil)))) σ (rTri r s t) (x, y, z) fun X σ' H => ∃ v w u, σ' = ((σ.set i (some v)).set j (some w)).set k (some u) ∧ r K (hid X H) v x ∧ s K (hid X H) w y ∧ t K (hid X H) u z := fun X v H h R q => by
  obtain ⟨a, x1, y1, z1, rfl, hs, h1, h2, h3⟩ := h
  exact ⟨a, [x1, y1, z1], rfl, sqt_hid hs, rfl, x1, [y1, z1], rfl, y1, [z1], rfl, z1, [], rfl, rfl, q _ ⟨x1, y1, z1, rfl, h1, h2, h3⟩⟩
/-! ### comprehensions -/
theorem wipe_set (σ : L2.St) (v : V) (i : Nat) : wipe ((wipe σ [i]).set i (some v)) [i] = wipe σ [i] := by
  show ((σ.set i none).set i (some v)).set i none = σ.set i none
  rw [List.set_set, List.set_set]
theorem size_lt {n : Nat} (h : n < 1000000) : n < sizeLine := Nat.lt_of_lt_of_le h (by rw [sizeLine_eq]; decide)
theorem size_le {n : Nat} (h : n < 1000000) : n ≤ sizeLine := Nat.le_of_lt (size_lt h)
/-- [te for g in wi if tt] -/
theorem er_lcG [mr : Mono r] [ms : Mono s] {wi : TI} {g : TG} {tt : TT} {vs : List Nat} {xs : List α} {f : α → β} {p : α → Bool} {P : α → Hs → L2.St → Hp → Prop} (hi : Ei K X wi σ H r xs) (hz : xs.length < 1000000)
    (hg : ∀ d, d ∈ xs → Eg K g (wipe σ vs) r d (P d)) (hw : ∀ d Y σ' H', P d Y σ' H' → wipe σ' vs = wipe σ vs)
    (ht : ∀ d, d ∈ xs → ∀ Y σ' H', Ex (hid X H) (hid Y H') → P d Y σ' H' → Et Y tt σ' H' (p d))
    (he : ∀ d, d ∈ xs → p d = true → ∀ Y σ' H' H'', Ex (hid X H) (hid Y H'') → P d Y σ' H' → Ex H' H'' → Er K Y te σ' H'' s (f d)) : Er K X (tLc wi g tt te vs) σ H (rLst s) ((xs.filter p).map f) := fun H1 e dm Q q =>
  hi H1 e dm _ fun J H2 G Y e2 hW hG hY D hD => lc_it hW (fun i H3 => Ex H2 H3 ∧ ∃ ys, H3 D = some (.lst ys) ∧ ys.length ≤ i ∧ Paired (s K (hid (X.and D) H3)) ys (((xs.take i).filter p).map f))
    ⟨Evl.Ex.new hD, [], upd_same, Nat.le_refl _, .nil⟩ (fun i H3 _ h => hG H3 h.1) (fun i x H3 H4 hi' hP hy => by
      obtain ⟨e3, ys, hys, hle, hpd⟩ := hP
      obtain ⟨e4, d, hd, hr⟩ := hY i H3 x H4 e3 hy
      have hmem : d ∈ xs := List.mem_of_getElem? hd
      have htk : xs.take (i + 1) = xs.take i ++ [d] := by rw [List.take_add_one, hd]; rfl
      have dm3 : Dm (X.and D) H3 := ((dm.ex e2).ex e3).and (by rw [hys]; exact fun z => nomatch z)
      have hr' := hr (X.and D) (hid_and (e3.trans e4) hD) dm3
      refine hg d hmem (X.and D) x H4 hr' _ fun σ' hσ => ⟨hw d _ σ' H4 hσ, ?_⟩
      have eH4 : Ex (hid X H) (hid (X.and D) H4) := Evl.Ex.trans (hid_ex (e.trans e2)) (hid_and (e3.trans e4) hD)
      refine (ht d hmem _ σ' H4 eH4 hσ).go (dm3.ex e4) fun H5 e5 => ?_
      have hmono : ∀ H6, Ex H5 H6 → Paired (s K (hid (X.and D) H6)) ys (((xs.take i).filter p).map f) := fun H6 e6 => Paired.mono (fun _ _ z => ms.mono (hid_le ((e4.trans e5).trans e6)) z) hpd
      cases hp : p d with
      | false =>
        rw [if_neg Bool.false_ne_true]
        refine ⟨(e3.trans e4).trans e5, ys, e5 _ _ (e4 _ _ hys), Nat.le_succ_of_le hle, ?_⟩
        rw [htk, List.filter_append, List.filter_cons_of_neg (by simp [hp]), List.filter_nil, List.append_nil]
        exact hmono H5 (Evl.Ex.refl _)
      | true =>
        rw [if_pos rfl]
        refine (he d hmem hp _ σ' H4 H5 (Evl.Ex.trans eH4 (hid_ex e5)) hσ e5).go ((dm3.ex e4).ex e5) fun y H6 e6 hy6 => ⟨ys, e6 _ _ (e5 _ _ (e4 _ _ hys)), ?_, ?_, ys ++ [y], upd_same, ?_, ?_⟩
        · exact Nat.lt_of_le_of_lt hle (Nat.lt_of_lt_of_le hi' (Nat.le_trans (Nat.le_of_lt hz) (by rw [sizeLine_eq]; decide)))
        · exact Evl.Ex.mut (((e3.trans e4).trans e5).trans e6) hD
        · rw [List.length_append]
          show ys.length + 1 ≤ i + 1
          omega
        · rw [htk, List.filter_append, List.filter_cons_of_pos (by simp [hp]), List.filter_nil, List.map_append, hid_upd (X.and_at D)]
          exact Paired.app (hmono H6 e6) (.cons hy6 .nil))
    (fun H3 hP => by
      obtain ⟨e3, ys, hys, _, hpd⟩ := hP
      rw [List.take_length] at hpd
      refine q _ H3 (e2.trans e3) ⟨D, ys, rfl, .inl (.inl ?_), Paired.mono (fun _ _ z => ms.mono hid_sub.le z) hpd⟩
      rw [hid_out ((dm.ex e2).new hD)]
      exact hys)
/-- [te for x in wi], x in slot i -/
theorem er_lc [mr : Mono r] [ms : Mono s] {wi : TI} {i : Nat} {xs : List α} {f : α → β} (hi : Ei K X wi σ H r xs) (hz : xs.length < 1000000)
    (he : ∀ d, d ∈ xs → ∀ Y v H', Ex (hid X H) (hid Y H') → r K (hid Y H') v d → Er K Y te ((wipe σ [i]).set i (some v)) H' s (f d)) : Er K X (tLc wi (gName i) tYes te [i]) σ H (rLst s) (xs.map f) := by
  have z : xs.filter (fun _ => true) = xs := List.filter_eq_self.mpr fun _ _ => rfl
  rw [← z, List.map_congr_left (g := f) (fun _ _ => rfl)]
  have k := er_lcG (K := K) (X := X) (σ := σ) (H := H) (r := r) (s := s) (te := te) (tt := tYes) (vs := [i]) (f := f) (p := fun _ => true) (P := fun d Y σ' H' => ∃ v, σ' = (wipe σ [i]).set i (some v) ∧ r K (hid Y H') v d) hi hz (fun d _ => eg_name)
    (fun d Y σ' H' ⟨v, e, _⟩ => by rw [e]; exact wipe_set σ v i) (fun d _ Y σ' H' _ _ => et_yes) (fun d hd _ Y σ' H' H'' e ⟨v, eσ, hr⟩ e2 => by
      subst eσ
      exact he d hd Y v H'' e (mr.mono (hid_le e2) hr))
  rw [z] at k
  rw [z]
  exact k
/-- [te for x in wi if tt] -/
theorem er_lcIf [mr : Mono r] [ms : Mono s] {wi : TI} {i : Nat} {tt : TT} {xs : List α} {f : α → β} {p : α → Bool} (hi : Ei K X wi σ H r xs) (hz : xs.length < 1000000)
    (ht : ∀ d, d ∈ xs → ∀ Y v H', Ex (hid X H) (hid Y H') → r K (hid Y H') v d → Et Y tt ((wipe σ [i]).set i (some v)) H' (p d))
    (he : ∀ d, d ∈ xs → p d = true → ∀ Y v H', Ex (hid X H) (hid Y H') → r K (hid Y H') v d → Er K Y te ((wipe σ [i]).set i (some v)) H' s (f d)) : Er K X (tLc wi (gName i) tt te [i]) σ H (rLst s) ((xs.filter p).map f) :=
  er_lcG (P := fun d Y σ' H' => ∃ v, σ' = (wipe σ [i]).set i (some v) ∧ r K (hid Y H') v d) hi hz (fun d _ => eg_name)
    (fun d Y σ' H' ⟨v, e, _⟩ => by rw [e]; exact wipe_set σ v i) (fun d hd Y σ' H' e ⟨v, eσ, hr⟩ => by subst eσ; exact ht d hd Y v H' e hr) (fun d hd hp Y σ' H' H'' e ⟨v, eσ, hr⟩ e2 => by
      subst eσ
      exact he d hd hp Y v H'' e (mr.mono (hid_le e2) hr))
end
end Q
set_option maxHeartbeats 4000000
/-! Q2: subscripts, slices, built-ins, texts by relations. -/
namespace Q
open PySem PySem.Spec PyProof.Rows L2
variable {K : Frag} {X : Hs}
section
variable {α β γ : Type} {σ : L2.St} {H : Hp} {r : Rel α} {s : Rel β} {q : Rel γ} {te ti tb : TE}
/-- one value: from te by a reading f -/
theorem er_one [Mono r] {f : V → Hp → VK → Prop} {x : α} {y : β} {t' : TE} (he : t' = fun σ H Q => te σ H fun v H1 => f v H1 Q) (h : Er K X te σ H r x) (hf : ∀ v H1, Ex H H1 → Dm X H1 → r K (hid X H1) v x → ∀ Q : VK, (∀ a H2, Ex H1 H2 → s K (hid X H2) a y → Q a H2) → f v H1 Q) : Er K X t' σ H s y := by
  subst he
  exact fun H1 e d Q k => h H1 e d _ fun v H2 e2 hv => hf v H2 (e.trans e2) (d.ex e2) hv Q fun a H3 e3 ha => k a H3 (e2.trans e3) ha
/-- a call of one argument, by values -/
theorem er_cb1 [Mono r] {f : List V → Hp → VK → Prop} {x : α} {y : β} (h : Er K X te σ H r x) (hf : ∀ v H1, Ex H H1 → Dm X H1 → r K (hid X H1) v x → ∀ Q : VK, (∀ a H2, Ex H1 H2 → s K (hid X H2) a y → Q a H2) → f [v] H1 Q) : Er K X (tCB f (tCons te tNil)) σ H s y :=
  er_one (f := fun v => f [v]) rfl h hf
theorem er_cb2 [m : Mono r] [Mono s] {f : List V → Hp → VK → Prop} {x : α} {y : β} {z : γ} (h : Er K X te σ H r x) (h2 : Er K X tb σ H s y) (hf : ∀ v w H1, Ex H H1 → Dm X H1 → r K (hid X H1) v x → s K (hid X H1) w y → ∀ Q : VK, (∀ a H2, Ex H1 H2 → q K (hid X H2) a z → Q a H2) → f [v, w] H1 Q) : Er K X (tCB f (tCons te (tCons tb tNil))) σ H q z := fun H1 e d Q k =>
  h H1 e d _ fun v H2 e2 hv => h2 H2 (e.trans e2) (d.ex e2) _ fun w H3 e3 hw => hf v w H3 ((e.trans e2).trans e3) ((d.ex e2).ex e3) (m.mono (hid_le e3) hv) hw Q fun a H4 e4 ha => k a H4 ((e2.trans e3).trans e4) ha
/-! subscripts -/
theorem at0 {a : V} {l : List V} : atI (a :: l) 0 = some a := atI_nat (j := 0) rfl
theorem er_head {t : Tm} (h : Er K X te σ H rTm t) (hi : Er K X ti σ H rInt 0) : Er K X (tOp (rIxT K) te ti) σ H rTx t.w := er_two h hi fun v w H1 _ _ hv hw Q k => by
  cases t with
  | nd x ps =>
    obtain ⟨a, vs, rfl, h2, _⟩ := rTm_iff.mp hv
    subst hw
    exact ⟨a, _, 0, _, rfl, rfl, sqt_hid h2, at0, k _ H1 (Evl.Ex.refl _) rfl⟩
theorem er_ixT [m : Mono r] {xs : List α} {i : Nat} {d : α} (h : Er K X te σ H (rTup r) xs) (hi : Er K X ti σ H rInt (i : Int)) (hd : xs[i]? = some d) : Er K X (tOp (rIxT K) te ti) σ H r d := er_two h hi fun v w H1 _ _ hv hw Q k => by
  obtain ⟨a, vs, rfl, h2, h3⟩ := hv
  subst hw
  obtain ⟨y, hy, hr⟩ := Paired.at h3 i d hd
  exact ⟨a, _, i, _, rfl, rfl, sqt_hid h2, atI_nat hy, k _ H1 (Evl.Ex.refl _) hr⟩
theorem er_ixL [m : Mono r] {xs : List α} {i : Nat} {d : α} (h : Er K X te σ H (rLst r) xs) (hi : Er K X ti σ H rInt (i : Int)) (hd : xs[i]? = some d) : Er K X (tOp (rIxL K) te ti) σ H r d := er_two h hi fun v w H1 _ _ hv hw Q k => by
  obtain ⟨a, vs, rfl, h2, h3⟩ := hv
  subst hw
  obtain ⟨y, hy, hr⟩ := Paired.at h3 i d hd
  exact ⟨a, _, i, _, rfl, rfl, sql_hid h2, atI_nat hy, k _ H1 (Evl.Ex.refl _) hr⟩
theorem er_fst [m : Mono r] [n : Mono s] {p : α × β} (h : Er K X te σ H (rPr r s) p) (hi : Er K X ti σ H rInt 0) : Er K X (tOp (rIxT K) te ti) σ H r p.1 := er_two h hi fun v w H1 _ _ hv hw Q k => by
  obtain ⟨a, x, y, rfl, h2, h3, h4⟩ := hv
  subst hw
  exact ⟨a, _, 0, _, rfl, rfl, sqt_hid h2, at0, k _ H1 (Evl.Ex.refl _) h3⟩
theorem er_snd [m : Mono r] [n : Mono s] {p : α × β} (h : Er K X te σ H (rPr r s) p) (hi : Er K X ti σ H rInt 1) : Er K X (tOp (rIxT K) te ti) σ H s p.2 := er_two h hi fun v w H1 _ _ hv hw Q k => by
  obtain ⟨a, x, y, rfl, h2, h3, h4⟩ := hv
  subst hw
  exact ⟨a, _, 1, _, rfl, rfl, sqt_hid h2, atI_nat (j := 1) rfl, k _ H1 (Evl.Ex.refl _) h4⟩
/-- xs[-1] -/
theorem er_last [m : Mono r] {xs : List α} {d : α} (h : Er K X te σ H (rLst r) (xs ++ [d])) (hi : Er K X ti σ H rInt (-1)) : Er K X (tOp (rIxL K) te ti) σ H r d := er_two h hi fun v w H1 _ _ hv hw Q k => by
  obtain ⟨a, vs, rfl, h2, h3⟩ := hv
  subst hw
  have hl := Paired.len h3
  obtain ⟨y, hy, hr⟩ := Paired.at h3 xs.length d (by simp)
  have e : vs = vs.take xs.length ++ [y] := by
    have h1 : vs.length = xs.length + 1 := by rw [hl]; simp
    have h2 : vs.take (xs.length + 1) = vs := List.take_of_length_le (by omega)
    have h4 := List.take_add_one (l := vs) (i := xs.length)
    rw [h2, hy] at h4
    exact h4
  refine ⟨a, vs, -1, y, rfl, rfl, sql_hid h2, ?_, k _ H1 (Evl.Ex.refl _) hr⟩
  rw [e]
  exact atI_last _ _
/-- term[1:] -/
theorem cut1 {n : Nat} (v : V) (vs : List V) : cutV (v :: vs) (some 1) none = vs := by
  unfold cutV
  rw [show HT.sIx (v :: vs).length 0 (some 1) = min 1 (v :: vs).length from HT.sIx_nat _ 0 1, HT.sIx_none]
  rw [show min 1 (v :: vs).length = 1 by rw [List.length_cons]; omega]
  show List.take ((vs.length + 1) - 1) vs = vs
  exact List.take_of_length_le (by omega)
theorem er_tail {t : Tm} (h : Er K X te σ H rTm t) (hi : Er K X ti σ H rInt 1) : Er K X (tSl (rSlA K) te (tPart ti) tNoPart) σ H (rTup rTm) t.ps := fun H1 e d Q k =>
  h H1 e d _ fun v H2 e2 hv => hi H2 (e.trans e2) (d.ex e2) _ fun w H3 e3 hw => ⟨1, hw, by
    cases t with
    | nd x ps =>
      obtain ⟨a, vs, rfl, h2, h3⟩ := rTm_iff.mp hv
      refine ⟨a, _, rfl, Evl.ex_t e3 (sqt_hid h2), fun z => ?_, fun _ p hp => ?_⟩
      · exfalso
        have z1 := z.1
        rw [show HT.sIx (V.str (S x) :: vs).length 0 (some 1) = min 1 (V.str (S x) :: vs).length from HT.sIx_nat _ 0 1, List.length_cons] at z1
        omega
      · rw [cut1 (n := 0)]
        refine k _ _ ((e2.trans e3).trans (Evl.Ex.new hp)) ⟨p, vs, rfl, .inl (.inl ?_), Paired.mono (fun _ _ z => rTm_mono (hid_le (Evl.Ex.trans e3 (Evl.Ex.new hp))) z) h3⟩
        rw [hid_out (((d.ex e2).ex e3).new hp), upd_same]⟩
/-! built-ins -/
def rLn (K : Frag) : List V → Hp → VK → Prop := fun xs H Q => ∃ x n, xs = [x] ∧ LenV K x H n ∧ Q (.int n) H
theorem er_lenL [Mono r] {xs : List α} (h : Er K X te σ H (rLst r) xs) : Er K X (tCB (rLn K) (tCons te tNil)) σ H rInt (xs.length : Int) := er_cb1 h fun v H1 _ _ hv Q k => by
  obtain ⟨a, vs, rfl, h2, h3⟩ := hv
  exact ⟨_, vs.length, rfl, .inl ⟨vs, sql_hid h2, rfl⟩, by rw [Paired.len h3]; exact k _ H1 (Evl.Ex.refl _) rfl⟩
theorem er_lenT [Mono r] {xs : List α} (h : Er K X te σ H (rTup r) xs) : Er K X (tCB (rLn K) (tCons te tNil)) σ H rInt (xs.length : Int) := er_cb1 h fun v H1 _ _ hv Q k => by
  obtain ⟨a, vs, rfl, h2, h3⟩ := hv
  exact ⟨_, vs.length, rfl, .inr ⟨vs, sqt_hid h2, rfl⟩, by rw [Paired.len h3]; exact k _ H1 (Evl.Ex.refl _) rfl⟩
theorem er_lenTm {t : Tm} (h : Er K X te σ H rTm t) : Er K X (tCB (rLn K) (tCons te tNil)) σ H rInt ((t.ps.length + 1 : Nat) : Int) := er_cb1 h fun v H1 _ _ hv Q k => by
  cases t with
  | nd x ps =>
    obtain ⟨a, vs, rfl, h2, h3⟩ := rTm_iff.mp hv
    exact ⟨_, vs.length + 1, rfl, .inr ⟨_, sqt_hid h2, rfl⟩, by rw [Paired.len h3]; exact k _ H1 (Evl.Ex.refl _) rfl⟩
theorem er_lenX {x : Tx} (hz : x.length < 1000000) (h : Er K X te σ H rTx x) : Er K X (tCB (rLn K) (tCons te tNil)) σ H rInt (x.length : Int) := er_cb1 h fun v H1 _ _ hv Q k => by
  subst hv
  exact ⟨_, x.length, rfl, ⟨by rw [SX.S_len]; exact size_le hz, (SX.S_len x).symm⟩, k _ H1 (Evl.Ex.refl _) rfl⟩
theorem vals_int {vs : List V} {xs : List Int} {H : Hp} (h : Paired (rInt K H) vs xs) : vs = xs.map V.int := Paired.to_map (fun _ _ z => z) h
theorem vals_bl {vs : List V} {xs : List Bool} {H : Hp} (h : Paired (rBl K H) vs xs) : vs = xs.map V.bl := Paired.to_map (fun _ _ z => z) h
theorem vals_tx {vs : List V} {xs : List Tx} {H : Hp} (h : Paired (rTx K H) vs xs) : vs = (xs.map S).map V.str := by
  rw [List.map_map]
  exact Paired.to_map (fun _ _ z => z) h
theorem er_sum {xs : List Int} (h : Er K X te σ H (rLst rInt) xs) : Er K X (tCB (rSum K) (tCons te tNil)) σ H rInt xs.sum := er_cb1 h fun v H1 _ _ hv Q k => by
  obtain ⟨a, vs, rfl, h2, h3⟩ := hv
  rw [vals_int h3] at h2
  exact ⟨a, xs, rfl, sql_hid h2, k _ H1 (Evl.Ex.refl _) rfl⟩
theorem er_all {xs : List Bool} (h : Er K X te σ H (rLst rBl) xs) : Er K X (tCB (rAll K) (tCons te tNil)) σ H rBl (xs.all id) := er_cb1 h fun v H1 _ _ hv Q k => by
  obtain ⟨a, vs, rfl, h2, h3⟩ := hv
  rw [vals_bl h3] at h2
  exact ⟨a, xs, rfl, sql_hid h2, k _ H1 (Evl.Ex.refl _) rfl⟩
theorem er_max {xs : List Int} {m : Int} (h : Er K X te σ H (rLst rInt) xs) (hm : m ∈ xs) (hx : ∀ y ∈ xs, y ≤ m) : Er K X (tCB (rMax K) (tCons te tNil)) σ H rInt m := er_cb1 h fun v H1 _ _ hv Q k => by
  obtain ⟨a, vs, rfl, h2, h3⟩ := hv
  rw [vals_int h3] at h2
  refine ⟨a, xs, rfl, sql_hid h2, List.length_pos_of_mem hm, fun m' h1 h2' => ?_⟩
  have e : m' = m := Int.le_antisymm (hx m' h1) (h2' m hm)
  exact k _ H1 (Evl.Ex.refl _) (by rw [e]; rfl)
def rTupOf (K : Frag) : List V → Hp → VK → Prop := fun xs H Q => ∃ p ys, xs = [.ref p] ∧ ((SqL K H p ys ∧ ∀ l, H l = none → Q (.ref l) (upd H l (.tup ys))) ∨ (SqT K H p ys ∧ Q (.ref p) H))
theorem er_tupL [m : Mono r] {xs : List α} (h : Er K X te σ H (rLst r) xs) : Er K X (tCB (rTupOf K) (tCons te tNil)) σ H (rTup r) xs := er_cb1 h fun v H1 _ d hv Q k => by
  obtain ⟨a, vs, rfl, h2, h3⟩ := hv
  refine ⟨a, vs, rfl, .inl ⟨sql_hid h2, fun p hp => k _ _ (Evl.Ex.new hp) ⟨p, vs, rfl, .inl (.inl ?_), Paired.mono (fun _ _ z => m.mono (hid_le (Evl.Ex.new hp)) z) h3⟩⟩⟩
  rw [hid_out (d.new hp), upd_same]
theorem er_tupT [m : Mono r] {xs : List α} (h : Er K X te σ H (rTup r) xs) : Er K X (tCB (rTupOf K) (tCons te tNil)) σ H (rTup r) xs := er_cb1 h fun v H1 _ d hv Q k => by
  obtain ⟨a, vs, rfl, h2, h3⟩ := hv
  exact ⟨a, vs, rfl, .inr ⟨sqt_hid h2, k _ _ (Evl.Ex.refl _) ⟨a, vs, rfl, h2, h3⟩⟩⟩
def rLstOf (K : Frag) : List V → Hp → VK → Prop := fun xs H Q => ∃ p ys, xs = [.ref p] ∧ (SqL K H p ys ∨ SqT K H p ys) ∧ ∀ l, H l = none → Q (.ref l) (upd H l (.lst ys))
theorem er_lstL [m : Mono r] {xs : List α} (h : Er K X te σ H (rLst r) xs) : Er K X (tCB (rLstOf K) (tCons te tNil)) σ H (rLst r) xs := er_cb1 h fun v H1 _ d hv Q k => by
  obtain ⟨a, vs, rfl, h2, h3⟩ := hv
  refine ⟨a, vs, rfl, .inl (sql_hid h2), fun p hp => k _ _ (Evl.Ex.new hp) ⟨p, vs, rfl, .inl (.inl ?_), Paired.mono (fun _ _ z => m.mono (hid_le (Evl.Ex.new hp)) z) h3⟩⟩
  rw [hid_out (d.new hp), upd_same]
/-- isinstance(e, T), T a built-in class -/
theorem er_isi {α : Type} {r : Rel α} [Mono r] {x : α} {T : String} {b : Bool} (h : Er K X te σ H r x) (ht : ∀ H1 v, r K (hid X H1) v x → ∃ t, TyX K H1 v (.type t) ∧ kitB t T = some b) : Er K X (tCB (rIsi K) (tCons te (tCons (tC (.ty T)) tNil))) σ H rBl b := fun H1 e d Q k =>
  h H1 e d _ fun v H2 e2 hv => by
    obtain ⟨t, h1, h2⟩ := ht H2 v hv
    exact ⟨v, .ty T, .type t, .type T, b, rfl, .ty T, h1, kit_ty h2, k _ H2 e2 rfl⟩
theorem sqt_ty {H : Hp} {a : Addr} {xs : List V} (h : SqT K H a xs) : TyX K H (.ref a) (.type "tuple") := by
  rcases h with (h | ⟨o, h⟩) | ⟨o, its, n, h, hc, _⟩
  · exact .base (.tup h)
  · exact .fTuple h
  · exact .kTuple h hc
theorem sql_ty {H : Hp} {a : Addr} {xs : List V} (h : SqL K H a xs) : TyX K H (.ref a) (.type "list") := by
  rcases h with (h | ⟨o, h⟩) | ⟨o, its, n, h, hc, _⟩
  · exact .base (.lst h)
  · exact .base (.frz h)
  · exact .kList h hc
theorem ty_tm {H : Hp} {v : V} {t : Tm} (h : rTm K (hid X H) v t) : TyX K H v (.type "tuple") := by
  cases t with
  | nd x ps =>
    obtain ⟨a, vs, rfl, h2, _⟩ := rTm_iff.mp h
    exact sqt_ty (sqt_hid h2)
theorem ty_tup {H : Hp} {v : V} {xs : List α} (h : rTup r K (hid X H) v xs) : TyX K H v (.type "tuple") := by
  obtain ⟨a, vs, rfl, h2, _⟩ := h
  exact sqt_ty (sqt_hid h2)
theorem ty_lst {H : Hp} {v : V} {xs : List α} (h : rLst r K (hid X H) v xs) : TyX K H v (.type "list") := by
  obtain ⟨a, vs, rfl, h2, _⟩ := h
  exact sql_ty (sql_hid h2)
theorem ty_pr {H : Hp} {v : V} {p : α × β} (h : rPr r s K (hid X H) v p) : TyX K H v (.type "tuple") := by
  obtain ⟨a, x, y, rfl, h2, _⟩ := h
  exact sqt_ty (sqt_hid h2)
theorem ty_tri {H : Hp} {v : V} {p : α × β × γ} (h : rTri r s q K (hid X H) v p) : TyX K H v (.type "tuple") := by
  obtain ⟨a, x, y, z, rfl, h2, _⟩ := h
  exact sqt_ty (sqt_hid h2)
/-! texts -/
theorem tx_len (x : Tx) : (S x).length = x.length := SX.S_len x
/-- sep.join(xs), a list or tuple of texts -/
def rJn (K : Frag) : V → List V → Hp → VK → Prop := fun x xs H Q => ∃ a p, ∃ ys : List Str, x = .str a ∧ xs = [.ref p] ∧ (SqL K H p (ys.map V.str) ∨ SqT K H p (ys.map V.str)) ∧ (ys.map (·.length)).sum + ys.length * a.length ≤ 16777216 ∧ Q (.str (Txt.join a ys)) H
theorem lens_S (xs : List Tx) : ((xs.map S).map (·.length)).sum = (xs.map List.length).sum := by
  rw [List.map_map]
  exact congrArg List.sum (List.map_congr_left fun x _ => SX.S_len x)
theorem er_join {sep : Tx} {xs : List Tx} (h : Er K X te σ H rTx sep) (h2 : Er K X ti σ H (rLst rTx) xs) (hz : (xs.map List.length).sum + xs.length * sep.length < 1000000) : Er K X (tM1 (rJn K) te ti) σ H rTx (TL.joinL sep xs) := fun H1 e d Q k =>
  h H1 e d _ fun v H2 e2 hv => ⟨⟨S sep, hv⟩, h2 H2 (e.trans e2) (d.ex e2) _ fun w H3 e3 ⟨a, vs, ew, hs, hp⟩ => by
    rw [vals_tx hp] at hs
    refine ⟨S sep, a, xs.map S, hv, by rw [ew], .inl (sql_hid hs), ?_, ?_⟩
    · rw [lens_S, List.length_map, SX.S_len]
      omega
    · rw [SX.join_S]
      exact k _ H3 (e2.trans e3) rfl⟩
theorem er_joinT {sep : Tx} {xs : List Tx} (h : Er K X te σ H rTx sep) (h2 : Er K X ti σ H (rTup rTx) xs) (hz : (xs.map List.length).sum + xs.length * sep.length < 1000000) : Er K X (tM1 (rJn K) te ti) σ H rTx (TL.joinL sep xs) := fun H1 e d Q k =>
  h H1 e d _ fun v H2 e2 hv => ⟨⟨S sep, hv⟩, h2 H2 (e.trans e2) (d.ex e2) _ fun w H3 e3 ⟨a, vs, ew, hs, hp⟩ => by
    rw [vals_tx hp] at hs
    refine ⟨S sep, a, xs.map S, hv, by rw [ew], .inr (sqt_hid hs), ?_, ?_⟩
    · rw [lens_S, List.length_map, SX.S_len]
      omega
    · rw [SX.join_S]
      exact k _ H3 (e2.trans e3) rfl⟩
/-- x.split(sep) -/
def rSp : V → List V → Hp → VK → Prop := fun x xs H Q => ∃ a b, x = .str a ∧ xs = [.str b] ∧ (b.length == 0) = false ∧ a.length + 2 ≤ sizeLine ∧ rNewStrs (Txt.split a b) H Q
theorem er_split {x sep : Tx} (h : Er K X te σ H rTx x) (h2 : Er K X ti σ H rTx sep) (hs : sep ≠ []) (hk : sep.all (· < 256) = true) (hz : x.length < 1000000) : Er K X (tM1 rSp te ti) σ H (rLst rTx) (TL.spl sep 0 [] x) := fun H1 e d Q k =>
  h H1 e d _ fun v H2 e2 hv => ⟨⟨S x, hv⟩, h2 H2 (e.trans e2) (d.ex e2) _ fun w H3 e3 hw => by
    refine ⟨S x, S sep, hv, by rw [show w = V.str (S sep) from hw], ?_, ?_, fun p hp => ?_⟩
    · rw [SX.S_len]
      cases sep with
      | nil => exact absurd rfl hs
      | cons a l => rfl
    · rw [SX.S_len, sizeLine_eq]; omega
    · rw [SX.split_S hs hk]
      refine k _ _ ((e2.trans e3).trans (Evl.Ex.new hp)) ⟨p, ((TL.spl sep 0 [] x).map S).map V.str, rfl, .inl (.inl ?_), ?_⟩
      · rw [hid_out (((d.ex e2).ex e3).new hp), upd_same]
      · rw [List.map_map]
        exact Paired.of_map (F := rTx K _) (f := V.str ∘ SX.S) (fun _ => rfl) _⟩
/-- x + y -/
def rCatS : R2 := fun x y H Q => ∃ i j, x = .str i ∧ y = .str j ∧ i.length + j.length ≤ sizeLine ∧ Q (.str (i ++ j)) H
theorem er_catX {x y : Tx} (h : Er K X te σ H rTx x) (h2 : Er K X ti σ H rTx y) (hz : x.length + y.length < 1000000) : Er K X (tOp rCatS te ti) σ H rTx (x ++ y) := er_two h h2 fun v w H1 _ _ hv hw Q k =>
  ⟨S x, S y, hv, hw, by rw [SX.S_len, SX.S_len]; exact size_le hz, by rw [SX.S_cat]; exact k _ H1 (Evl.Ex.refl _) rfl⟩
/-- f'..' -/
theorem er_fmt {x : Tx} (h : Er K X te σ H rTx x) (hz : x.length < 1000000) : Er K X (tFmt te) σ H rTx x := er_one (f := fun x H1 Q => (∃ y : Str, x = .str y ∧ y.length ≤ sizeLine ∧ Q (.str y) H1) ∨ ∃ i : Int, x = .int i ∧ i.natAbs.log2 < 1920 ∧ Q (.str (toString i)) H1) rfl h fun v H1 _ _ hv Q k =>
  .inl ⟨S x, hv, by rw [SX.S_len]; exact size_le hz, k _ H1 (Evl.Ex.refl _) rfl⟩
/-- the text of a number -/
def numTx (n : Nat) : Tx := TL.numL n
theorem er_fmtI {n : Nat} (h : Er K X te σ H rInt (n : Int)) (hz : n < 1000000) : Er K X (tFmt te) σ H rTx (numTx n) := er_one (f := fun x H1 Q => (∃ y : Str, x = .str y ∧ y.length ≤ sizeLine ∧ Q (.str y) H1) ∨ ∃ i : Int, x = .int i ∧ i.natAbs.log2 < 1920 ∧ Q (.str (toString i)) H1) rfl h fun v H1 _ _ hv Q k =>
  .inr ⟨(n : Int), hv, by
    rw [Int.natAbs_natCast]
    have h1 : n.log2 ≤ n := Nat.log2_le_self n
    have h2 : n.log2 < 20 := by
      rcases Nat.eq_zero_or_pos n with rfl | hp
      · decide
      · exact (Nat.log2_lt (by omega)).mpr (by omega)
    omega, k _ H1 (Evl.Ex.refl _) (congrArg V.str (SX.num_S n))⟩
/-- str(n) -/
def rStrI : List V → Hp → VK → Prop := fun xs H Q => ∃ i, xs = [.int i] ∧ i.natAbs.log2 < 1920 ∧ Q (.str (toString i)) H
theorem er_strI {n : Nat} (h : Er K X te σ H rInt (n : Int)) (hz : n < 1000000) : Er K X (tCB rStrI (tCons te tNil)) σ H rTx (numTx n) := er_cb1 h fun v H1 _ _ hv Q k =>
  ⟨(n : Int), by rw [show v = V.int n from hv], by
    rw [Int.natAbs_natCast]
    rcases Nat.eq_zero_or_pos n with rfl | hp
    · decide
    · have h2 : n.log2 < 20 := (Nat.log2_lt (by omega)).mpr (by omega)
      omega, k _ H1 (Evl.Ex.refl _) (congrArg V.str (SX.num_S n))⟩
def rStrS : List V → Hp → VK → Prop := fun xs H Q => ∃ a, xs = [.str a] ∧ Q (.str a) H
theorem er_strS {x : Tx} (h : Er K X te σ H rTx x) : Er K X (tCB rStrS (tCons te tNil)) σ H rTx x := er_cb1 h fun v H1 _ _ hv Q k =>
  ⟨S x, by rw [show v = V.str (S x) from hv], k _ H1 (Evl.Ex.refl _) rfl⟩
/-- the parts of an f-string, one behind the other -/
inductive Fs (K : Frag) (X : Hs) (σ : L2.St) (H : Hp) : List TE → List Tx → Prop where
  | nil : Fs K X σ H [] []
  | cons {t : TE} {ts : List TE} {x : Tx} {xs : List Tx} : Er K X t σ H rTx x → Fs K X σ H ts xs → Fs K X σ H (t :: ts) (x :: xs)
theorem fs_run {ts : List TE} {xs : List Tx} (h : Fs K X σ H ts xs) : ∀ (acc : Tx) (H1 : Hp), Ex H H1 → Dm X H1 → (acc.length + (xs.map List.length).sum < 1000000) → ∀ Q : Str → Hp → Prop, (∀ H2, Ex H1 H2 → Q (S (acc ++ xs.flatten)) H2) → tJs ts (S acc) σ H1 Q := by
  induction h with
  | nil => intro acc H1 e d hz Q k; have := k H1 (Evl.Ex.refl _); rw [List.flatten_nil, List.append_nil] at this; exact this
  | @cons t ts x xs ht hr ih =>
    intro acc H1 e d hz Q k
    rw [List.map_cons, List.sum_cons] at hz
    refine ht H1 e d _ fun v H2 e2 hv => ⟨S x, hv, ?_, ?_⟩
    · rw [SX.S_cat, SX.S_len, List.length_append]; exact size_le (by omega)
    · rw [SX.S_cat]
      refine ih (acc ++ x) H2 (e.trans e2) (d.ex e2) (by rw [List.length_append]; omega) Q fun H3 e3 => ?_
      have := k H3 (e2.trans e3)
      rw [List.flatten_cons, ← List.append_assoc] at this
      exact this
theorem er_fs {ts : List TE} {xs : List Tx} (h : Fs K X σ H ts xs) (hz : (xs.map List.length).sum < 1000000) : Er K X (fun σ H Q => tJs ts Str.empty σ H fun out H1 => Q (.str out) H1) σ H rTx xs.flatten := fun H1 e d Q k =>
  fs_run h [] H1 e d (by simpa using hz) _ fun H2 e2 => by rw [List.nil_append]; exact k _ H2 e2 rfl
/-- slices of texts -/
theorem slice_mid {a : Tx} {i j : Nat} (h : i ≤ j) : Txt.slice (S a) (some (i : Int)) (some (j : Int)) = S ((a.drop i).take (j - i)) := by
  rw [← C8.cutS_slice]
  show (⟨((((S a).cps.toList).drop (HT.sIx (S a).length 0 (some (i : Int)))).take (HT.sIx (S a).length (S a).length (some (j : Int)) - HT.sIx (S a).length 0 (some (i : Int)))).toArray⟩ : Str) = _
  rw [HT.sIx_nat, HT.sIx_nat, SX.S_len]
  have e : (S a).cps.toList = a := rfl
  rw [e]
  refine congrArg S ?_
  by_cases h1 : i ≤ a.length
  · rw [Nat.min_eq_left h1]
    by_cases h2 : j ≤ a.length
    · rw [Nat.min_eq_left h2]
    · rw [Nat.min_eq_right (by omega)]
      rw [List.take_of_length_le (by rw [List.length_drop]; omega), List.take_of_length_le (by rw [List.length_drop]; omega)]
  · rw [Nat.min_eq_right (by omega), Nat.min_eq_right (by omega)]
    rw [List.drop_of_length_le (Nat.le_refl _), List.drop_of_length_le (by omega)]
    simp
theorem er_mid {x : Tx} {i j : Nat} {tj : TE} (h : Er K X te σ H rTx x) (hi : Er K X ti σ H rInt (i : Int)) (hj : Er K X tj σ H rInt (j : Int)) (hij : i ≤ j) (hz : x.length < 1000000) : Er K X (tSl C8.rSlX te (tPart ti) (tPart tj)) σ H rTx ((x.drop i).take (j - i)) := fun H1 e d Q k =>
  h H1 e d _ fun v H2 e2 hv => hi H2 (e.trans e2) (d.ex e2) _ fun w H3 e3 hw => ⟨(i : Int), hw, hj H3 ((e.trans e2).trans e3) ((d.ex e2).ex e3) _ fun w2 H4 e4 hw2 => ⟨(j : Int), hw2, S x, hv, by rw [SX.S_len]; exact size_le hz, by
    rw [slice_mid hij]
    exact k _ H4 ((e2.trans e3).trans e4) rfl⟩⟩
/-- x[i] in y -/
def rIxStr : R2 := fun x y H Q => ∃ z i c, x = .str z ∧ y = .int i ∧ z.length ≤ sizeLine ∧ atI z.cps.toList i = some c ∧ Q (.str ⟨#[c]⟩) H
theorem er_ixX {x : Tx} {i : Nat} {c : Nat} (h : Er K X te σ H rTx x) (hi : Er K X ti σ H rInt (i : Int)) (hc : x[i]? = some c) (hz : x.length < 1000000) : Er K X (tOp rIxS te ti) σ H rTx [c] := er_two h hi fun v w H1 _ _ hv hw Q k =>
  ⟨S x, (i : Int), c, hv, hw, by rw [SX.S_len]; exact size_le hz, atI_nat hc, k _ H1 (Evl.Ex.refl _) rfl⟩
def rInSign : R2 := fun x y H Q => ∃ (c : Nat) (z : Str), x = .str ⟨#[c]⟩ ∧ y = .str z ∧ Q (.bl (decide (c ∈ z.cps.toList))) H
theorem er_inSign {x : Tx} {c : Nat} (h : Er K X te σ H rTx [c]) (h2 : Er K X ti σ H rTx x) : Er K X (tOp rInSign te ti) σ H rBl (decide (c ∈ x)) := er_two h h2 fun v w H1 _ _ hv hw Q k =>
  ⟨c, S x, hv, hw, k _ H1 (Evl.Ex.refl _) rfl⟩
end
end Q
set_option maxHeartbeats 4000000
/-! Q3: rules that the hand layer lacks: a list or tuple compared with an empty one, extend by a tuple, a tuple turned round. -/
namespace Q
open PySem PySem.Spec PyProof.Rows L2
section
variable {X : Cx}
/-- two lists one of which is empty -/
def rEqNil (K : Frag) : R2 := fun x y H Q => ∃ a b xs ys, x = .ref a ∧ y = .ref b ∧ SqL K H a xs ∧ SqL K H b ys ∧ (xs = [] ∨ ys = []) ∧ Q (.bl (decide (xs.length = ys.length))) H
def rNeNil (K : Frag) : R2 := fun x y H Q => ∃ a b xs ys, x = .ref a ∧ y = .ref b ∧ SqL K H a xs ∧ SqL K H b ys ∧ (xs = [] ∨ ys = []) ∧ Q (.bl (!decide (xs.length = ys.length))) H
theorem op_eqNil (hu : X.A.units < cLine) : OpR X (compareOp .Eq) (rEqNil X.K) := by
  intro pins s σ H x y v u Q I rx ry h
  obtain ⟨a, b, xs, ys, rfl, rfl, ha, hb, hn, q⟩ := h
  cases rx
  cases ry
  obtain ⟨its, r1, p1, _⟩ := I.list ha
  obtain ⟨its2, r2, p2, _⟩ := I.list hb
  have l1 := r1.length
  have l2 := r2.length
  by_cases e : xs.length = ys.length
  · rw [decide_eq_true e] at q
    have z : its = [] := by
      rcases hn with h | h
      · subst h; exact List.eq_nil_of_length_eq_zero l1.symm
      · subst h; exact List.eq_nil_of_length_eq_zero (by rw [← l1, e]; rfl)
    have z2 : its2 = [] := List.eq_nil_of_length_eq_zero (by rw [← l2, ← e, l1, z]; rfl)
    subst z z2
    exact SeqAt.RcAt.lists (e := fun _ => true) p1.isList p2.isList rfl hu (fun j h1 => absurd h1 (Nat.not_lt_zero _)) X.prog X.w X.xe _ ⟨.bl true, H, I, rfl, q⟩
  · rw [decide_eq_false e] at q
    exact SeqAt.RcAt.lists_lengths p1.isList p2.isList (by rw [List.size_toArray, List.size_toArray, ← l1, ← l2]; exact bne_iff_ne.mpr e) hu X.prog X.w X.xe _ ⟨.bl false, H, I, rfl, q⟩
theorem op_neNil (hu : X.A.units < cLine) : OpR X (compareOp .NotEq) (rNeNil X.K) := by
  intro pins s σ H x y v u Q I rx ry h
  obtain ⟨a, b, xs, ys, rfl, rfl, ha, hb, hn, q⟩ := h
  cases rx
  cases ry
  obtain ⟨its, r1, p1, _⟩ := I.list ha
  obtain ⟨its2, r2, p2, _⟩ := I.list hb
  have l1 := r1.length
  have l2 := r2.length
  by_cases e : xs.length = ys.length
  · rw [decide_eq_true e] at q
    have z : its = [] := by
      rcases hn with h | h
      · subst h; exact List.eq_nil_of_length_eq_zero l1.symm
      · subst h; exact List.eq_nil_of_length_eq_zero (by rw [← l1, e]; rfl)
    have z2 : its2 = [] := List.eq_nil_of_length_eq_zero (by rw [← l2, ← e, l1, z]; rfl)
    subst z z2
    exact SeqAt.RcNeAt.lists (e := fun _ => true) p1.isList p2.isList rfl hu (fun j h1 => absurd h1 (Nat.not_lt_zero _)) X.prog X.w X.xe _ ⟨.bl false, H, I, rfl, q⟩
  · rw [decide_eq_false e] at q
    exact SeqAt.RcNeAt.lists_lengths p1.isList p2.isList (by rw [List.size_toArray, List.size_toArray, ← l1, ← l2]; exact bne_iff_ne.mpr e) hu X.prog X.w X.xe _ ⟨.bl true, H, I, rfl, q⟩
/-- two tuples one of which is empty -/
def rEqNilT (K : Frag) : R2 := fun x y H Q => ∃ a b xs ys, x = .ref a ∧ y = .ref b ∧ SqT K H a xs ∧ SqT K H b ys ∧ (xs = [] ∨ ys = []) ∧ Q (.bl (decide (xs.length = ys.length))) H
def rNeNilT (K : Frag) : R2 := fun x y H Q => ∃ a b xs ys, x = .ref a ∧ y = .ref b ∧ SqT K H a xs ∧ SqT K H b ys ∧ (xs = [] ∨ ys = []) ∧ Q (.bl (!decide (xs.length = ys.length))) H
theorem tupNil {its its2 : List Value} {xs ys : List V} (l1 : xs.length = its.length) (l2 : ys.length = its2.length) (hn : xs = [] ∨ ys = []) : ((List.range (min its.toArray.size its2.toArray.size)).all (fun _ => true) && its.toArray.size == its2.toArray.size) = decide (xs.length = ys.length) := by
  rw [List.size_toArray, List.size_toArray, ← l1, ← l2]
  have z : min xs.length ys.length = 0 := by rcases hn with h | h <;> subst h <;> simp
  rw [z]
  show (true && (xs.length == ys.length)) = decide (xs.length = ys.length)
  rw [Bool.true_and]
  rfl
theorem op_eqNilT (hu : X.A.units < cLine) : OpR X (compareOp .Eq) (rEqNilT X.K) := by
  intro pins s σ H x y v u Q I rx ry h
  obtain ⟨a, b, xs, ys, rfl, rfl, ha, hb, hn, q⟩ := h
  cases rx
  cases ry
  obtain ⟨its, r1, p1, _⟩ := I.tuple ha
  obtain ⟨its2, r2, p2, _⟩ := I.tuple hb
  have e := tupNil r1.length r2.length hn
  refine SeqAt.RcAt.tuples (e := fun _ => true) p1 p2 hu (fun j h1 h2 => ?_) X.prog X.w X.xe _ ?_
  · rw [List.size_toArray, ← r1.length] at h1
    rw [List.size_toArray, ← r2.length] at h2
    rcases hn with h | h <;> subst h
    · exact absurd h1 (Nat.not_lt_zero _)
    · exact absurd h2 (Nat.not_lt_zero _)
  · rw [e]
    exact ⟨.bl _, H, I, rfl, q⟩
theorem op_neNilT (hu : X.A.units < cLine) : OpR X (compareOp .NotEq) (rNeNilT X.K) := by
  intro pins s σ H x y v u Q I rx ry h
  obtain ⟨a, b, xs, ys, rfl, rfl, ha, hb, hn, q⟩ := h
  cases rx
  cases ry
  obtain ⟨its, r1, p1, _⟩ := I.tuple ha
  obtain ⟨its2, r2, p2, _⟩ := I.tuple hb
  have e := tupNil r1.length r2.length hn
  refine SeqAt.RcNeAt.tuples (e := fun _ => true) p1 p2 hu (fun j h1 h2 => ?_) X.prog X.w X.xe _ ?_
  · rw [List.size_toArray, ← r1.length] at h1
    rw [List.size_toArray, ← r2.length] at h2
    rcases hn with h | h <;> subst h
    · exact absurd h1 (Nat.not_lt_zero _)
    · exact absurd h2 (Nat.not_lt_zero _)
  · rw [e]
    exact ⟨.bl _, H, I, rfl, q⟩
end
/-! ### xs.extend(t), t a tuple (whatever else its object bears) -/
section
set_option maxRecDepth 8000 in
theorem ext_tup (l : Addr) (xs : Array Value) (n : Nat) (b : Addr) (dd : Option Addr) (ys : Array Value) (m : Nat) (sl : Array (Option Value)) (h0 : ¬(!xs.isEmpty && Builtin.List.listTooLong (xs.size + ys.size)) = true) (h1 : xs.size ≤ sizeLine) (h2 : xs.size + ys.size ≤ sizeLine + 1) :
    Meets (Builtin.«list.extend» ⟨[.ref l, .ref b], []⟩) (fun _ R s => s.heap.get? l = some { cls := .type "list", data := .seq xs n } ∧ s.heap.get? b = some ⟨.type "tuple", dd, .seq ys m, sl⟩ ∧ R (.ok (.ret Value.none)) { s with heap := s.heap.update l (Obj.mapSeq fun x => x ++ ys) }) :=
  .of_wp fun prog w A R s h => by
    obtain ⟨hp, g, d, tk, os⟩ := s; obtain ⟨hl, hb, h⟩ := h
    have f1 := AutoSeq1.idx_int; have f2 := AutoSeq1.sub_tuple_tuple; have f3 := AutoSeq1.sub_list_list; have f4 := AutoSeq1.sub_tuple_list; have f5 := AutoSeq1.sub_list_tuple
    have hz' : (xs ++ ys).size ≤ sizeLine + 1 := by rw [Array.size_append]; exact h2
    wp_walk using (wpAny_updateSeq hl rfl (hz := h1) (_hz' := hz')), AutoSeq1.wpAny_loadPart' hl, AutoSeq1.wpAny_loadPart' hb
    exact ⟨_, rfl, h⟩
end
section
variable {X : Cx}
def rExtT (K : Frag) : V → List V → Hp → VK → Prop := fun x vs H Q => ∃ l b xs zs, x = .ref l ∧ vs = [.ref b] ∧ H l = some (.lst xs) ∧ SqT K H b zs ∧ xs.length + zs.length ≤ sizeLine ∧ Q .non (upd H l (.lst (xs ++ zs)))
theorem mt_extT : MtM X "list.extend" (rExtT X.K) := by
  intro pins s σ H x vs v us Q I rx rv h
  obtain ⟨l, b, xs, zs, rfl, rfl, hH, hB, hz, q⟩ := h
  cases rx
  obtain ⟨u, rfl, ru⟩ := rv.one
  cases ru
  obtain ⟨z, its, n, r, hl, e⟩ := I.lstM hH
  obtain ⟨its2, r2, ⟨⟨cc, dd, dt, sl⟩, e2, hc, n2, hd⟩, _⟩ := I.tuple hB
  simp only at hc hd
  subst hc hd
  have hl2 := r2.length
  have hsz : its.toArray.size + its2.toArray.size ≤ sizeLine := by rw [List.size_toArray, List.size_toArray]; omega
  have hlong : ¬ (!its.toArray.isEmpty && Builtin.List.listTooLong (its.toArray.size + its2.toArray.size)) = true := by
    rw [notLongL hsz, Bool.and_false]
    exact Bool.false_ne_true
  refine call_meets F.slot_list_extend ⟨_, e, rfl⟩ F.entry_list_extend (F.args_list_extend_2 _ _)
    (ext_tup l its.toArray n b dd its2.toArray n2 sl hlong (by rw [List.size_toArray]; omega) (by omega)) ⟨e, e2, ?_⟩
  refine ⟨.non, _, I.lset (its' := its ++ its2) (t' := s.toks) hH e (by simp) (r.append r2) ?_, rfl, q⟩
  rw [List.length_append]
  omega
end
/-! ### t[::-1], t a tuple -/
theorem rev_places (n : Nat) : Builtin.Slice.slicePlaces ((n : Int) - 1) (-1) (-1) = n := by
  unfold Builtin.Slice.slicePlaces
  rw [if_neg (by decide)]
  by_cases h : (n : Int) - 1 > -1
  · rw [if_pos h]
    have e : ((n : Int) - 1 - -1 - 1) / (- -1) + 1 = (n : Int) := by
      rw [show (- -1 : Int) = 1 by decide, Int.ediv_one]
      omega
    rw [e, Int.toNat_natCast]
  · rw [if_neg h]
    have : n = 0 := by omega
    subst this
    rfl
theorem rev_pick (xs : Array Value) : ((List.range xs.size).filterMap fun (m : Nat) => xs[(((xs.size : Int) - 1) + (m : Int) * (-1)).toNat]?).toArray = xs.toList.reverse.toArray := by
  have e : (fun (m : Nat) => xs[(((xs.size : Int) - 1) + (m : Int) * (-1)).toNat]?) = (fun k => xs[k]?) ∘ fun m => xs.size - 1 - m := by
    funext m
    have : (((xs.size : Int) - 1) + (m : Int) * (-1)).toNat = xs.size - 1 - m := by omega
    show xs[(((xs.size : Int) - 1) + (m : Int) * (-1)).toNat]? = xs[xs.size - 1 - m]?
    rw [this]
  rw [e, ← List.filterMap_map, PySem.W.krv_range, List.filterMap_reverse, PySem.W.krv_all]
section
variable {prog : Program} {w : World} {A : Around} {E : Value → Shared → Prop} {s : Shared}
theorem rev_applied {n : Nat} {sl : Addr} {tk : Tok} {R : Int × Int × Nat → Shared → Prop} (hs : s.heap.IsSliceOf sl .none .none (.int (-1) tk)) (hR : R ((n : Int) - 1, -1, n) s) : wpAny (model prog w) A (Builtin.Slice.sliceApplied (.ref sl) (pure (n : Int))) R E s := by
  obtain ⟨os, hos, hcs, hds⟩ := id hs
  unfold Builtin.Slice.sliceApplied Builtin.Slice.sliceFields
  refine wpAny_bind (wpAny_bind (wpAny_field hos hds (x := .none) rfl (wpAny_bind (wpAny_field hos hds (x := .none) rfl (wpAny_bind (wpAny_field hos hds (x := .int (-1) tk) rfl (wpAny_pure ?_)))))))
  refine wpAny_bind (slicePart_int ?_)
  show wpAny _ _ (if ((-1 : Int) == 0) = true then _ else _) _ _ s
  rw [if_neg (by decide)]
  refine wpAny_bind (slicePart_none (wpAny_bind (slicePart_none (wpAny_bind (wpAny_pure ?_)))))
  show wpAny _ _ (pure ((n : Int) - 1, (-1 : Int), Builtin.Slice.slicePlaces ((n : Int) - 1) (-1) (-1))) _ _ s
  rw [rev_places]
  exact wpAny_pure hR
theorem getItem_tuple_rev {t sl : Addr} {xs : Array Value} {tk : Tok} {Q : Value → Shared → Prop} (ht : PyProof.Rows.IsTup s.heap t xs) (hs : s.heap.IsSliceOf sl .none .none (.int (-1) tk))
    (h : Q (.ref s.heap.objs.size) { s with heap := s.heap.push { cls := .type "tuple", data := .seq xs.toList.reverse.toArray } }) (hz : xs.size ≤ sizeLine) : wpAny (model prog w) A (getItem (.ref t) (.ref sl)) Q E s := by
  have htake : sizeOk (.seq xs.toList.reverse.toArray) := by
    show xs.toList.reverse.toArray.size ≤ sizeLine
    rw [List.size_toArray, List.length_reverse, Array.length_toList]
    exact hz
  obtain ⟨os, hos, hcs, hds⟩ := id hs
  have hTs : s.TypeIs (.ref sl) "slice" := ⟨os, hos, hcs⟩
  unfold getItem
  try with_reducible refine wpAny_holding ?_
  first | refine wpAny_bind (wpAny_pure ?_) | skip
  refine wpAny_bind (wpAny_sequenceKey ht.typeIs (by decide) ?_)
  refine wpAny_bind (wpAny_callSpecial?_slot (name := Str.ofString "__getitem__") ht.typeIs PyProof.Rows.slot_tuple_getitem
    (wpAny_call_entry PyProof.Rows.slot_tuple_getitem ht.typeIs entry_tuple_getitem ?_ (args_tuple_getitem _ _)))
  show wpAny _ _ (Builtin.Tuple.tupleItemsOf (.ref t) >>= _) _ _ s
  refine wpAny_bind (tupleItemsOf_ ht ?_)
  refine wpAny_bind (wpAny_typeOf hTs ?_)
  rw [if_pos (by decide)]
  refine wpAny_bind (rev_applied hs ?_)
  have hno : ¬ (((((xs.size : Int) - 1) == 0 && (-1 : Int) == 1 && xs.size == xs.size) = true)) := by
    intro q
    rw [Bool.and_eq_true, Bool.and_eq_true] at q
    exact absurd q.1.2 (by decide)
  show wpAny _ _ (if (((xs.size : Int) - 1) == 0 && (-1 : Int) == 1 && xs.size == xs.size) = true then _ else _) _ _ s
  rw [if_neg hno, rev_pick]
  first
    | exact wpAny_bind (m := Builtin.Tuple.tupleExact _) (wpAny_newObj_type (wpAny_pure ⟨_, rfl, wpAny_pure h⟩) htake)
    | exact wpAny_bind (m := Builtin.Tuple.tupleExact _) (wpAny_newObj_type (wpAny_bind (wpAny_pure (wpAny_pure ⟨_, rfl, wpAny_pure h⟩))) htake)
    | exact wpAny_bind (wpAny_bind (m := Builtin.Tuple.tupleExact _) (wpAny_newObj_type (wpAny_pure (wpAny_pure ⟨_, rfl, wpAny_pure h⟩)) htake))
    | exact wpAny_bind (wpAny_bind (m := Builtin.Tuple.tupleExact _) (wpAny_newObj_type (wpAny_pure ⟨_, rfl, wpAny_pure h⟩) htake))
end
section
variable {X : Cx} {e : Expr} {te : TE} {k : Nat} {p1 p2 p3 pos : Pos}
def tRevT (K : Frag) (te : TE) : TE := fun σ H Q => te σ H fun x H1 => ∃ a xs, x = .ref a ∧ SqT K H1 a xs ∧ ∀ p, H1 p = none → Q (.ref p) (upd H1 p (.tup xs.reverse))
theorem pe_revT (he : PE X e te) : PE X (.Subscript e (.Slice none none (some (.UnaryOp .USub (.Constant (.int 1) k p1) p2)) p3) pos) (tRevT X.K te) := by
  refine ⟨fun pins s σ H Q I h => ?_⟩
  refine Subscript_ (thn (he.run pins s σ H _ I h) fun v s1 ⟨x, H1, I1, r1, q1⟩ => ?_)
  obtain ⟨a, xs, ex, hx, q⟩ := q1
  subst ex
  cases r1
  have hst : PO X (some (.UnaryOp .USub (.Constant (.int 1) k p1) p2)) (tPart (tUn (rU fun i => .int (-i)) (tC (.int 1)))) := po_some (pe_un un_neg pe_int)
  refine wpAny_Slice (thn (po_none.run pins s1 σ H1 (fun o H2 => o = none ∧ H2 = H1) I1 ⟨rfl, rfl⟩) fun vl s2 ⟨l, H2, I2, pl, el, e2⟩ => ?_)
  subst el e2
  refine thn (po_none.run pins s2 σ H2 (fun o H3 => o = none ∧ H3 = H2) I2 ⟨rfl, rfl⟩) fun vu s3 ⟨u, H3, I3, pu, eu, e3⟩ => ?_
  subst eu e3
  refine thn (hst.run pins s3 σ H3 (fun o H4 => o = some (-1) ∧ H4 = H3) I3 ⟨1, rfl, -1, rfl, rfl, rfl⟩) fun vs s4 ⟨o, H4, I4, ps, eo, e4⟩ => ?_
  subst eo e4
  cases pl
  cases pu
  cases ps with
  | int i tk =>
  have I5 : Inv X pins σ H4 { s4 with heap := s4.heap.push { cls := .type "slice", data := .fields #[.none, .none, .int (-1) tk] } } := I4.kept (t' := s4.toks) fun b ob q => Heap.get?_push_of_some _ q
  obtain ⟨its, r, ht, hz⟩ := I5.tuple hx
  have hlen := r.length
  show wpAny (model X.prog X.w) X.A (subscriptTail e (.Slice none none (some (.UnaryOp .USub (.Constant (.int 1) k p1) p2)) p3) (.ref a) (.ref s4.heap.objs.size)) (EP X pins σ Q) X.xe { s4 with heap := s4.heap.push { cls := .type "slice", data := .fields #[.none, .none, .int (-1) tk] } }
  refine tail_any (ops := [.ref a, .ref s4.heap.objs.size]) ht.typeIs (PyProof.Rows.slot_tuple_getitem.lookup) ?_ (by with_unfolding_all rfl)
  refine getItem_tuple_rev ht (Heap.IsSliceOf.new _ .none .none (.int (-1) tk)) ?_ (by rw [List.size_toArray]; omega)
  refine ⟨.ref _, _, I5.laid (t' := s4.toks) (o := .tup xs.reverse) (fun b ob q => Heap.get?_push_of_some _ q) (Nat.le_refl _) ?_, rfl, q _ (I5.hok.fresh (Nat.le_refl _))⟩
  refine ⟨by rw [List.length_reverse]; exact hz, _, r.reverse, ?_⟩
  have z : its.toArray.toList.reverse = its.reverse := rfl
  rw [z]
  exact IsTup.new _ _
end
/-! ### by relations -/
section
variable {K : Frag} {X : Hs} {α β γ : Type} {σ : L2.St} {H : Hp} {r : Rel α} {s : Rel β} {te ta tb : TE}
theorem er_eqNil [m : Mono r] {xs ys : List α} (h : Er K X ta σ H (rLst r) xs) (h2 : Er K X tb σ H (rLst r) ys) (hn : xs = [] ∨ ys = []) : Er K X (tOp (rEqNil K) ta tb) σ H rBl (decide (xs.length = ys.length)) := er_two h h2 fun v w H1 _ _ hv hw Q k => by
  obtain ⟨a, vs, rfl, q2, q3⟩ := hv
  obtain ⟨b, ws, rfl, r2, r3⟩ := hw
  refine ⟨a, b, vs, ws, rfl, rfl, sql_hid q2, sql_hid r2, ?_, by rw [Paired.len q3, Paired.len r3]; exact k _ H1 (Evl.Ex.refl _) rfl⟩
  rcases hn with e | e <;> subst e
  · cases q3; exact .inl rfl
  · cases r3; exact .inr rfl
theorem er_neNil [m : Mono r] {xs ys : List α} (h : Er K X ta σ H (rLst r) xs) (h2 : Er K X tb σ H (rLst r) ys) (hn : xs = [] ∨ ys = []) : Er K X (tOp (rNeNil K) ta tb) σ H rBl (!decide (xs.length = ys.length)) := er_two h h2 fun v w H1 _ _ hv hw Q k => by
  obtain ⟨a, vs, rfl, q2, q3⟩ := hv
  obtain ⟨b, ws, rfl, r2, r3⟩ := hw
  refine ⟨a, b, vs, ws, rfl, rfl, sql_hid q2, sql_hid r2, ?_, by rw [Paired.len q3, Paired.len r3]; exact k _ H1 (Evl.Ex.refl _) rfl⟩
  rcases hn with e | e <;> subst e
  · cases q3; exact .inl rfl
  · cases r3; exact .inr rfl
/-- [] -/
theorem er_nil : Er K X (tLst tNil) σ H (rLst r) [] := fun H1 e d Q q => ⟨(by show 0 ≤ sizeLine; exact Nat.zero_le _), fun p hp => q _ _ (Evl.Ex.new hp) ⟨p, [], rfl, .inl (.inl (by rw [hid_out (d.new hp), upd_same])), .nil⟩⟩
theorem er_nilT : Er K X (tTup tNil) σ H (rTup r) [] := fun H1 e d Q q => ⟨(by show 0 ≤ sizeLine; exact Nat.zero_le _), fun p hp => q _ _ (Evl.Ex.new hp) ⟨p, [], rfl, .inl (.inl (by rw [hid_out (d.new hp), upd_same])), .nil⟩⟩
/-- [a] -/
theorem er_lst1 [m : Mono r] {x : α} (h : Er K X te σ H r x) : Er K X (tLst (tCons te tNil)) σ H (rLst r) [x] := fun H1 e d Q q => h H1 e d _ fun v H2 e2 hv => ⟨(by show 1 ≤ sizeLine; decide), fun p hp => q _ _ (e2.trans (Evl.Ex.new hp)) ⟨p, [v], rfl, .inl (.inl (by rw [hid_out ((d.ex e2).new hp), upd_same])), .cons (m.mono (hid_le (Evl.Ex.new hp)) hv) .nil⟩⟩
/-- term == (): no -/
theorem er_tmNil {t : Tm} (h : Er K X ta σ H rTm t) (h2 : Er K X tb σ H (rTup rTm) []) : Er K X (tOp (rEqNilT K) ta tb) σ H rBl false := er_two h h2 fun v w H1 _ _ hv hw Q k => by
  cases t with
  | nd x ps =>
    obtain ⟨a, vs, rfl, q2, _⟩ := rTm_iff.mp hv
    obtain ⟨b, ws, rfl, r2, r3⟩ := hw
    cases r3
    exact ⟨a, b, _, _, rfl, rfl, sqt_hid q2, sqt_hid r2, .inr rfl, k _ H1 (Evl.Ex.refl _) rfl⟩
theorem er_neNilT [m : Mono r] {xs : List α} (h : Er K X ta σ H (rTup r) xs) (h2 : Er K X tb σ H (rTup r) []) : Er K X (tOp (rNeNilT K) ta tb) σ H rBl (!decide (xs.length = 0)) := er_two h h2 fun v w H1 _ _ hv hw Q k => by
  obtain ⟨a, vs, rfl, q2, q3⟩ := hv
  obtain ⟨b, ws, rfl, r2, r3⟩ := hw
  cases r3
  exact ⟨a, b, vs, _, rfl, rfl, sqt_hid q2, sqt_hid r2, .inr rfl, by rw [Paired.len q3]; exact k _ H1 (Evl.Ex.refl _) rfl⟩
theorem er_revT [m : Mono r] {xs : List α} (h : Er K X te σ H (rTup r) xs) : Er K X (tRevT K te) σ H (rTup r) xs.reverse := fun H1 e d Q k => h H1 e d _ fun v H2 e2 ⟨a, vs, ev, q2, q3⟩ => ⟨a, vs, ev, sqt_hid q2, fun p hp => k _ _ (e2.trans (Evl.Ex.new hp)) ⟨p, vs.reverse, rfl, .inl (.inl (by rw [hid_out ((d.ex e2).new hp), upd_same])), Paired.rev (Paired.mono (fun _ _ z => m.mono (hid_le (Evl.Ex.new hp)) z) q3)⟩⟩
end
end Q
set_option maxHeartbeats 4000000
/-! QB: the program's text by places; how its defs and methods are met. -/
namespace Q
open PySem PySem.Spec PyProof.Rows L2
abbrev theP : Program := PySem.Challenge.pw_enoughasked_k79_pages_of_told_lots_and_r
def top (i : Nat) : Stmt := theP.main.body.getD i (.Pass ⟨0, 0, 0, 0⟩)
/-- a def of the module, by its name -/
structure Dfn (K : Frag) (mg : Str → Option Value) (x : Str) (st : Stmt) (ps : List Str) : Prop where
  ex : ∃ f fd, Fun K x x st f fd ∧ mg x = some (.ref f) ∧ Binds K fd ps []
/-- a method of the class at C -/
structure Mth (K : Frag) (C : Addr) (m qual : Str) (st : Stmt) (ps : List Str) : Prop where
  ex : ∃ f fd, Cls K C ∧ Meth K C m f ∧ Fun K m qual st f fd ∧ Binds K fd ps []
/-- the name x may be called: it keeps the promise sp -/
def Kp (P : Program) (w : World) (K : Frag) (mg : Str → Option Value) (base : Heap) (k : Nat) (x : Str) (ps : List Str) (sp : Sp) : Prop :=
  ∃ f fd, FnOk P w K mg base CX0 k f fd ps sp ∧ mg x = some (.ref f) ∧ PySem.W.keepIn K (.ref f) = true ∧ Binds K fd ps [] ∧ ∃ oc od sl, K.lookup f = some ⟨oc, od, .func fd, sl⟩
def KpM (P : Program) (w : World) (K : Frag) (mg : Str → Option Value) (base : Heap) (k : Nat) (C : Addr) (m : Str) (ps : List Str) (sp : Sp) : Prop :=
  ∃ f fd, FnOk P w K mg base CX0 k f fd ps sp ∧ Cls K C ∧ Meth K C m f ∧ Binds K fd ps []
section
variable {P : Program} {w : World} {K : Frag} {mg : Str → Option Value} {base : Heap} {k j : Nat} {x m qual : Str} {st : Stmt} {ps : List Str} {sp : Sp} {C : Addr}
theorem Dfn.kp (D : Dfn K mg x st ps) (h : ∀ f fd, Fun K x x st f fd → mg x = some (.ref f) → Binds K fd ps [] → FnOk P w K mg base CX0 k f fd ps sp) : Kp P w K mg base k x ps sp := by
  obtain ⟨f, fd, F, hm, b⟩ := D.ex
  refine ⟨f, fd, h f fd F hm b, hm, F.kp, b, ?_⟩
  clear h
  obtain ⟨oc, od, kV, doc, pm, an, cdv, ct, osl, rfl, lk, hcd⟩ := F.ex
  exact ⟨_, _, _, lk⟩
theorem Mth.kp (D : Mth K C m qual st ps) (h : ∀ f fd, Cls K C → Fun K m qual st f fd → FnOk P w K mg base CX0 k f fd ps sp) : KpM P w K mg base k C m ps sp := by
  obtain ⟨f, fd, c, hm, F, b⟩ := D.ex
  exact ⟨f, fd, h f fd c F, c, hm, b⟩
end
section
variable {X : Cx} {k j : Nat} {x m : Str} {ps : List Str} {sp : Sp} {C : Addr} {e o : Expr} {es : List Expr} {p pos apos : Pos} {t : TA} {ta : TE}
theorem pe_kp (c : Kp X.prog X.w X.K X.mg X.base k x ps sp) (hr : Room j X.A) (hk : k ≤ j) (ha : PA X (e :: es) t) (hg : Gl X x := by rfl) (hdb : (x == ("__debug__" : Str)) = false := by decide)
    (he : starEach (e :: es) X.env = (false, eval e X.env) :: starEach es X.env := by rfl) (hpl : (backTo pos (starEach es X.env)).any (·.1) = false := by rfl) : PE X (.Call (.Name x p) (e :: es) [] pos) (tCall sp [] E0 t) := by
  obtain ⟨f, fd, F, hm, kp, b, _⟩ := c
  exact pe_call F (hr.mono hk) hg hm kp b .nil pass0 ha hdb he hpl
theorem pe_kp0 (c : Kp X.prog X.w X.K X.mg X.base k x ps sp) (hr : Room j X.A) (hk : k ≤ j) (hg : Gl X x := by rfl) (hdb : (x == ("__debug__" : Str)) = false := by decide) : PE X (.Call (.Name x p) [] [] pos) (tCall sp [] E0 tNil) := by
  obtain ⟨f, fd, F, hm, kp, b, _⟩ := c
  exact pe_call0 F (hr.mono hk) hg hm kp b .nil pass0 hdb
end
/-! ### names that the program leaves to the built-ins, its constants -/
structure Bi (mg : Str → Option Value) : Prop where
  sum : mg "sum" = none
  len : mg "len" = none
  all : mg "all" = none
  max : mg "max" = none
  min : mg "min" = none
  sorted : mg "sorted" = none
  tuple : mg "tuple" = none
  list : mg "list" = none
  dict : mg "dict" = none
  set : mg "set" = none
  str : mg "str" = none
  int : mg "int" = none
  bool : mg "bool" = none
  abs : mg "abs" = none
  repr : mg "repr" = none
  isinstance : mg "isinstance" = none
  enumerate : mg "enumerate" = none
  range : mg "range" = none
def Gc (mg : Str → Option Value) (x : Str) (v : V) : Prop := ∃ u, mg x = some u ∧ RelV v u
/-! ### places -/
abbrev sIsInt : Stmt := top 14
abbrev sIsBetween : Stmt := top 15
abbrev sIsName : Stmt := top 16
abbrev mth (i j : Nat) : Stmt := (C8.clsBody (top i)).getD j (.Pass ⟨0, 0, 0, 0⟩)
abbrev sWordsInit : Stmt := mth 20 0
abbrev sWordsMany : Stmt := mth 20 2
abbrev sWordsEq : Stmt := mth 20 4
abbrev sNeedWords : Stmt := top 21
abbrev sShape : Stmt := top 26
abbrev sSize : Stmt := top 28
abbrev sOrder : Stmt := top 29
abbrev sFlat : Stmt := top 30
abbrev sAsc : Stmt := top 31
abbrev sBookInit : Stmt := mth 32 0
abbrev sBookPut : Stmt := mth 32 1
abbrev sBookGet : Stmt := mth 32 2
abbrev sBookHas : Stmt := mth 32 3
abbrev sBookPairs : Stmt := mth 32 4
abbrev sBookTerms : Stmt := mth 32 5
abbrev sBookLen : Stmt := mth 32 6
abbrev sIsAnswer : Stmt := top 35
abbrev sLotInit : Stmt := mth 36 0
abbrev sLotEq : Stmt := mth 36 6
abbrev sNeedLot : Stmt := top 37
abbrev sIsRule : Stmt := top 42
abbrev sRulesInit : Stmt := mth 43 0
abbrev sRulesEq : Stmt := mth 43 2
abbrev sToldWords : Stmt := top 49
abbrev sToldTerm : Stmt := top 50
abbrev sToldAnswer : Stmt := top 51
abbrev sToldWants : Stmt := top 52
abbrev sLotText : Stmt := top 53
abbrev sRulesText : Stmt := top 54
abbrev sNumberIn : Stmt := top 60
abbrev sNameAhead : Stmt := top 61
abbrev sTermAhead : Stmt := top 62
abbrev sWholeAhead : Stmt := top 63
abbrev sTermIn : Stmt := top 64
abbrev sWantsIn : Stmt := top 65
abbrev sWordsOf : Stmt := top 66
abbrev sWordsBy : Stmt := top 67
abbrev sHeadOf : Stmt := top 68
abbrev sAnswerBy : Stmt := top 69
abbrev sRuleBy : Stmt := top 70
abbrev sNeedText : Stmt := top 71
abbrev sReadLot : Stmt := top 72
abbrev sReadRules : Stmt := top 73
end Q
set_option maxHeartbeats 4000000
/-! Q4: statements by relations: lists that grow and shrink; loops. -/
namespace Q
open PySem PySem.Spec PyProof.Rows L2
theorem hu0 {k : Nat} {A : Around} (h : Room k A) : A.units < cLine := h.units0
section
variable {K : Frag} {X : Hs} {α β γ : Type} {σ : L2.St} {H : Hp} {r : Rel α} {s : Rel β} {te ta tb : TE} {D : Ends} {i j : Nat} {o : Addr} {vs : List V}
/-- x = te -/
theorem st_set {x : α} (h : Er K X te σ H r x) (d : Dm X H) (k : ∀ v H2, Ex H H2 → r K (hid X H2) v x → D.nx (σ.set i (some v)) H2) : tAsg te (gName i) D σ H := h.go d k
/-- a fresh [] kept as one's own -/
theorem st_new (k : ∀ o, H o = none → D.nx (σ.set i (some (.ref o))) (upd H o (.lst []))) : tAsg (tLst tNil) (gName i) D σ H := ⟨(by show 0 ≤ sizeLine; exact Nat.zero_le _), fun p hp => k p hp⟩
/-- xs.append(te) -/
theorem st_append {x : α} (hs : σ[i]? = some (some (.ref o))) (ho : H o = some (.lst vs)) (hz : vs.length < 1000000) (d : Dm X H) (h : Er K X te σ H r x)
    (k : ∀ v H2, Ex H H2 → r K (hid X H2) v x → D.nx σ (upd H2 o (.lst (vs ++ [v])))) : tDrop (tBM K "list" rAppend (tVar i) (tCons te tNil)) D σ H :=
  ⟨.ref o, hs, .inl ⟨rfl, vs, .inl (.inl ho)⟩, h.go d fun v H2 e hv => ⟨o, vs, v, rfl, rfl, e _ _ ho, size_lt hz, k v H2 e hv⟩⟩
/-- xs.extend(te), te a tuple -/
theorem st_extendT [m : Mono r] {xs : List α} (hs : σ[i]? = some (some (.ref o))) (ho : H o = some (.lst vs)) (hz : vs.length + xs.length < 1000000) (d : Dm X H) (h : Er K X te σ H (rTup r) xs)
    (k : ∀ ws H2, Ex H H2 → Paired (r K (hid X H2)) ws xs → D.nx σ (upd H2 o (.lst (vs ++ ws)))) : tDrop (tBM K "list" (rExtT K) (tVar i) (tCons te tNil)) D σ H :=
  ⟨.ref o, hs, .inl ⟨rfl, vs, .inl (.inl ho)⟩, h.go d fun v H2 e ⟨a, ws, ev, hq, hp⟩ => ⟨o, a, vs, ws, rfl, by rw [ev], e _ _ ho, sqt_hid hq, by rw [Paired.len hp]; exact size_le hz, k ws H2 e hp⟩⟩
/-- x = xs.pop() -/
theorem st_pop {v : V} (hs : σ[j]? = some (some (.ref o))) (ho : H o = some (.lst (vs ++ [v]))) (k : D.nx (σ.set i (some v)) (upd H o (.lst vs))) : tAsg (tBM0 K "list" rPop (tVar j)) (gName i) D σ H :=
  ⟨.ref o, hs, .inl ⟨rfl, _, .inl (.inl ho)⟩, o, vs ++ [v], v, rfl, rfl, ho, by simp, by rw [List.dropLast_concat]; exact k⟩
/-- xs != [], xs one's own -/
theorem et_neOwn (hs : σ[i]? = some (some (.ref o))) (ho : H o = some (.lst vs)) : Et X (tTest (tOp (rNeNil K) (tVar i) (tLst tNil))) σ H (!decide (vs.length = 0)) := fun H1 e d q k =>
  ⟨.ref o, hs, (by show 0 ≤ sizeLine; exact Nat.zero_le _), fun p hp => ⟨o, p, vs, [], rfl, rfl, .inl (.inl (by rw [upd_ne (ne_of_none (e _ _ ho) hp)]; exact e _ _ ho)), .inl (.inl upd_same), .inr rfl, _, rfl, k _ (Evl.Ex.new hp)⟩⟩
/-- tuple(xs), list(xs), xs one's own -/
theorem er_tupOwn {xs : List α} [m : Mono r] (hs : σ[i]? = some (some (.ref o))) (ho : H o = some (.lst vs)) (hp : Paired (r K (hid X H)) vs xs) : Er K X (tCB (rTupOf K) (tCons (tVar i) tNil)) σ H (rTup r) xs := fun H1 e d q k =>
  ⟨.ref o, hs, o, vs, rfl, .inl ⟨.inl (.inl (e _ _ ho)), fun p hn => k _ _ (Evl.Ex.new hn) ⟨p, vs, rfl, .inl (.inl (by rw [hid_out (d.new hn), upd_same])), Paired.mono (fun _ _ z => m.mono (hid_le (Evl.Ex.trans e (Evl.Ex.new hn))) z) hp⟩⟩⟩
/-- tuple(xs), xs one's own list of texts -/
theorem er_keyOwn {xs : List Tx} (hs : σ[i]? = some (some (.ref o))) (ho : H o = some (.lst (xs.map fun x => V.str (S x)))) : Er K X (tCB (rTupOf K) (tCons (tVar i) tNil)) σ H rKey xs := fun H1 e d q k =>
  ⟨.ref o, hs, o, _, rfl, .inl ⟨.inl (.inl (e _ _ ho)), fun p hn => k _ _ (Evl.Ex.new hn) ⟨p, rfl, by rw [hid_out (d.new hn), upd_same]⟩⟩⟩
/-- if te: .. -/
theorem st_if {b : Bool} {c : TT} {t u : TS} (h : Et X c σ H b) (d : Dm X H) (h1 : b = true → ∀ H2, Ex H H2 → t D σ H2) (h2 : b = false → ∀ H2, Ex H H2 → u D σ H2) : tIfS c t u D σ H := h.go d fun H2 e => by
  cases b with
  | true => rw [if_pos rfl]; exact h1 rfl H2 e
  | false => rw [if_neg Bool.false_ne_true]; exact h2 rfl H2 e
/-- an if whose test fails -/
theorem st_skip {c : TT} {t : TS} (h : Et X c σ H false) (d : Dm X H) (k : ∀ H2, Ex H H2 → D.nx σ H2) : tIfS c t tNext D σ H := st_if h d (fun z => nomatch z) fun _ => k
/-- a while: W by a number that falls -/
theorem st_while {c : TT} {tb : TS} (W : Nat → L2.St → Hp → Prop) (m0 : Nat) (h0 : W m0 σ H)
    (hs : ∀ m σ H, W m σ H → ∃ X b, Dm X H ∧ Et X c σ H b ∧ ∀ H1, Ex H H1 → if b = true then ∃ Nx : L2.St → Hp → Prop, (∀ σ' H', Nx σ' H' → ∃ m', m' < m ∧ W m' σ' H') ∧ tb { D with nx := Nx, ct := Nx, bk := D.nx } σ H1 else D.nx σ H1) : tWhile c tb D σ H :=
  ⟨W, ⟨m0, h0⟩, fun m σ H w => by
    obtain ⟨X, b, d, h, k⟩ := hs m σ H w
    exact h.go d fun H1 e => k H1 e⟩
/-- a for over things that are xs by r: P by the turn, the slots, the heap (B: the heap where the walk began) -/
theorem st_for {wi : TI} {g : TG} {tb : TS} {xs : List α} (P : Hp → Nat → L2.St → Hp → Prop) (hi : Ei K X wi σ H r xs) (d : Dm X H) (h0 : ∀ B, Ex H B → P B 0 σ B)
    (hex : ∀ B n σ' H', Ex H B → P B n σ' H' → Ex B H')
    (hs : ∀ B n x σ' H', Ex H B → xs[n]? = some x → P B n σ' H' → ∀ v H2, Ex H' H2 → (∀ X', Ex (hid X B) (hid X' H2) → Dm X' H' → r K (hid X' H2) v x) → g v σ' H2 fun σ2 H3 => tb { D with nx := P B (n + 1), ct := P B (n + 1), bk := D.nx } σ2 H3)
    (hd : ∀ B σ' H', Ex H B → P B xs.length σ' H' → D.nx σ' H') : tFor wi g tb D σ H :=
  hi H (Evl.Ex.refl H) d _ fun J B G Y e hW hG hY => for_it hW (fun n σ' H' => P B n σ' H') (h0 B e) (fun n σ' H' _ p => hG H' (hex B n σ' H' e p)) (fun n v σ' H' H2 hn p y => by
      obtain ⟨e2, x, hx, hr⟩ := hY n H' v H2 (hex B n σ' H' e p) y
      exact hs B n x σ' H' e hx p v H2 e2 hr) fun σ' H' p => hd B σ' H' e p
end
end Q
set_option maxHeartbeats 4000000
/-! Q5: rules of our own for dicts: == with {}, == of dicts that may be read, n not in d.values(). -/
namespace Q
open PySem PySem.Spec PyProof.Rows L2
/-! ### == -/
section
variable {X : Cx}
def rEqDE : R2 := fun x y H Q => ∃ a b ks, x = .ref a ∧ y = .ref b ∧ Rd H a (.dK ks) ∧ H b = some (.dK []) ∧ Q (.bl (decide (ks.length = 0))) H
theorem op_eqDE (hu : X.A.units < cLine) : OpR X (compareOp .Eq) rEqDE := by
  intro pins s σ H x y v u Q I rx ry h
  obtain ⟨a, b, ks, rfl, rfl, ea, eb, q⟩ := h
  obtain rfl : v = Value.ref a := rx
  obtain rfl : u = Value.ref b := ry
  obtain ⟨_, ya, va, ra, da⟩ := (show ObjOk X.prog X.w H s.heap a (.dK ks) from Rd.ok ea I.hok)
  obtain ⟨_, yb, vb, rb, db⟩ := (show ObjOk X.prog X.w H s.heap b (.dK []) from I.hok b _ eb)
  cases rb
  have hl : va.length = ks.length := ra.length.symm
  refine PySem.W.keq_eq (knd := mixKind X.prog X.w) (r := true) ya yb da db hu (fun e => ?_) (fin_bl I q ?_)
  · cases va with
    | nil => exact .nil
    | cons p l => simp at e
  · rw [hl, Bool.and_true, List.length_nil]
    rfl
def rEqDR : R2 := fun x y H Q => ∃ a b ks ls, x = .ref a ∧ y = .ref b ∧ Rd H a (.dK ks) ∧ Rd H b (.dK ls) ∧ ks.length = ls.length ∧ (∀ p ∈ ks, valV ls p.1 = some p.2 ∧ flatB p.2 = true) ∧ Q (.bl true) H
theorem op_eqDR (hu : X.A.units < cLine) : OpR X (compareOp .Eq) rEqDR := by
  intro pins s σ H x y v u Q I rx ry h
  obtain ⟨a, b, ks, ls, rfl, rfl, ea, eb, hlen, hp, q⟩ := h
  obtain rfl : v = Value.ref a := rx
  obtain rfl : u = Value.ref b := ry
  obtain ⟨_, ya, va, ra, da⟩ := (show ObjOk X.prog X.w H s.heap a (.dK ks) from Rd.ok ea I.hok)
  obtain ⟨_, yb, vb, rb, db⟩ := (show ObjOk X.prog X.w H s.heap b (.dK ls) from Rd.ok eb I.hok)
  have hl : va.length = vb.length := by rw [← ra.length, ← rb.length]; exact hlen
  exact PySem.W.keq_eq (knd := mixKind X.prog X.w) (r := true) ya yb da db hu (fun _ => hits_all rb ra hp) (fin_bl I q (by simp [hl]))
end
/-! ### n not in d.values() -/
theorem Paired.atP {α β : Type} {F : α → β → Prop} : ∀ {l : List α} {m : List β}, Paired F l m → ∀ (i : Nat) (y : β), m[i]? = some y → ∃ x, l[i]? = some x ∧ F x y := Paired.at
theorem plain_ci : plainId "proto.contains_iter" = true := by decide +kernel
theorem entry_ci : entryFor table "proto.contains_iter" = some Builtin.«proto.contains_iter» := entryFor_of_fast (by kernel_rfl)
theorem dvals_no_contains : typeLookup (.type "dict_values") "__contains__" = pure none := by rw [typeLookup_type, builtinLookup_eq_fast]; kernel_rfl
section
variable {prog : Program} {w : World} {Ky : Type} [DecidableEq Ky] {knd : KeyKind prog w Ky} {A : Around} {R : Result → Shared → Prop}
theorem ci_run {d it : Addr} {ep : Nat} {kvs : List (Ky × Value)} {ns : List Int} {n : Int} {tk : Tok} (hdi : d ≠ it) (hh : A.in1.handled = none) (hv : ∀ (i : Nat) k v, kvs[i]? = some (k, v) → ∃ z t, v = .int z t ∧ ns[i]? = some z) (hl : ns.length = kvs.length) :
    ∀ (m i : Nat) (s : Shared), kvs.length - i = m → i ≤ kvs.length → s.heap.IsValIter it d i kvs.length ep → s.heap.DictAt knd d kvs ep →
      (∀ h', Heap.ExtBut it s.heap h' → R (.ok (.ret (.bool (decide (n ∈ ns.drop i))))) { s with heap := h' }) → codeAny (model prog w) A (.builtin "proto.contains_iter" ⟨[.ref it, .int n tk], []⟩) R s := by
  intro m
  induction m with
  | zero =>
    intro i s hm hi st da hR
    have e : i = kvs.length := by omega
    refine codeAny_builtin entry_ci ?_
    rw [Around.under_plainId plain_ci _]
    show wpAny _ A.in1 (pyNext (.ref it) >>= _) _ _ s
    refine wpAny_bind (wpAny_pyNext_values_end hh st da (List.getElem?_eq_none (by omega)) fun h' eb => ?_)
    refine wpAny_bind (wpAny_rule (wpAny_pure ?_))
    have := hR h' eb
    rw [List.drop_eq_nil_of_le (by omega)] at this
    simpa using this
  | succ m ih =>
    intro i s hm hi st da hR
    have hlt : i < kvs.length := by omega
    refine codeAny_builtin entry_ci ?_
    rw [Around.under_plainId plain_ci _]
    show wpAny _ A.in1 (pyNext (.ref it) >>= _) _ _ s
    obtain ⟨⟨k, v⟩, hkv⟩ : ∃ p, kvs[i]? = some p := ⟨kvs[i], List.getElem?_eq_getElem hlt⟩
    obtain ⟨z, t, rfl, hz⟩ := hv i k v hkv
    refine wpAny_bind (wpAny_pyNext_values_item st da hkv fun h' st' sb => ?_)
    refine wpAny_bind (wpAny_eqBool_int ?_)
    have hd : ns.drop i = z :: ns.drop (i + 1) := by
      have hi2 : i < ns.length := by omega
      rw [List.drop_eq_getElem_cons hi2]
      rw [List.getElem?_eq_getElem hi2] at hz
      rw [Option.some.inj hz]
    by_cases e : z = n
    · rw [if_pos (by rw [e]; exact beq_self_eq_true n)]
      refine wpAny_bind (wpAny_rule (wpAny_pure ?_))
      have := hR h' sb.extBut
      rw [hd, e] at this
      simpa using this
    · rw [if_neg (by simpa using e)]
      refine wpAny_pure ⟨plainId_quiet plain_ci _, ?_⟩
      refine ih (i + 1) { s with heap := h' } (by omega) hlt st' ?_ fun h'' eb => ?_
      · obtain ⟨od, es, hod, r⟩ := da
        exact ⟨od, es, (sb.2 d hdi).trans hod, r⟩
      · have := hR h'' (sb.extBut.trans eb)
        rw [hd] at this
        have e2 : decide (n ∈ z :: ns.drop (i + 1)) = decide (n ∈ ns.drop (i + 1)) := by
          rw [decide_eq_decide, List.mem_cons]
          constructor
          · rintro (h | h)
            · exact absurd h.symm e
            · exact h
          · exact Or.inr
        rw [e2] at this
        exact this
end
section
variable {X : Cx} {o : Expr} {td ta : TE} {a : Expr} {apos cpos : Pos}
/-- n not in d.values(), d locked, its values ints -/
def tNotInVals (ta td : TE) : TE := fun σ H Q => ta σ H fun x H1 => td σ H1 fun y H2 => ∃ (n : Int) (d : Addr) (ob : Obj) (kvs : List (Key × V)) (ns : List Int), x = .int n ∧ y = .ref d ∧ H2 d = some (.frz ob (.dK kvs)) ∧ kvs.map (·.2) = ns.map V.int ∧ Q (.bl (!decide (n ∈ ns))) H2
theorem pc_notInVals (hc : X.calm = true) (ha : PE X a ta) (he : PE X o td) (hbase : attributeBase o "values" X.env (eval o X.env) = eval o X.env := by rfl) (hline : (apos.endLine == cpos.line) = true := by rfl) :
    PC X .NotIn a (.Call (.Attribute o "values" apos) [] [] cpos) (tNotInVals ta td) := by
  refine ⟨fun pins s σ H Q I h => ?_⟩
  refine thn (ha.run pins s σ H _ I h) fun v s0 ⟨x, H0, I0, rx, h0⟩ => ?_
  refine wpAny_Call_method (T := "dict") (id := "dict.values") hbase rfl hline F.plainAttrs_dict F.slot_dict_values F.type_dict_values (thn (he.run pins s0 σ H0 _ I0 h0) fun u s1 ⟨y, H1, I1, ry, n, d, ob, kvs, ns, ex, ey, hd, hn, q⟩ => ?_)
  subst ex ey
  obtain rfl : u = Value.ref d := ry
  obtain ⟨tk, rfl⟩ := (show ∃ t, v = Value.int n t from rx)
  obtain ⟨hs, hgd, hx, es, ep, vs, hdt, hsz, kv, hm⟩ := I1.frzK hd
  have hl : kvs.length = vs.length := Paired.length kv
  refine ⟨hm.dictOf.typeIs, hm.dictOf.mapOf.noDict, ?_⟩
  have fin : wpAny (model X.prog X.w) X.A (compareOp .NotIn (.int n tk) (.ref s1.heap.objs.size)) (EP X pins σ Q) X.xe { s1 with heap := s1.heap.push { cls := .type "dict_values", data := .fields #[.ref d] } } := by
    show wpAny _ _ (do return Value.bool (!(← contains (.ref s1.heap.objs.size) (.int n tk)))) _ _ _
    refine wpAny_bind ?_
    have hv : ({ s1 with heap := s1.heap.push { cls := .type "dict_values", data := .fields #[.ref d] } } : Shared).heap.IsValuesView s1.heap.objs.size d := ⟨_, Heap.get?_push_size _ rfl, rfl, rfl⟩
    unfold contains
    refine wpAny_holding ?_
    rw [stdlibNamesSay?_of_typeIs hv.typeIs]
    refine wpAny_bind (wpAny_specialOf hv.typeIs dvals_no_contains ?_)
    show wpAny _ _ (if ((none : Option Value) == some Value.none) = true then _ else _) _ _ _
    rw [if_neg (by simp)]
    refine wpAny_bind (wpAny_callSpecialUnlessNone?_none hv.typeIs dvals_no_contains ?_)
    refine wpAny_bind (wpAny_rule ?_)
    refine wpAny_bind ?_
    have hvs : ∀ (i : Nat) k v, vs[i]? = some (k, v) → ∃ z t, v = .int z t ∧ ns[i]? = some z := fun i k v e => by
      obtain ⟨⟨k', x⟩, h1, h2⟩ := Paired.atP kv i (k, v) e
      have h3 : (kvs.map (·.2))[i]? = some x := by rw [List.getElem?_map, h1]; rfl
      rw [hn, List.getElem?_map] at h3
      cases hz : ns[i]? with
      | none => rw [hz] at h3; cases h3
      | some z =>
        rw [hz] at h3
        have h4 : V.int z = x := Option.some.inj h3
        obtain ⟨_, h5⟩ := h2
        rw [← h4] at h5
        obtain ⟨t, h6⟩ := (show ∃ t, v = Value.int z t from h5)
        exact ⟨z, t, h6, rfl⟩
    have hnl : ns.length = vs.length := by
      have z := congrArg List.length hn
      rw [List.length_map, List.length_map] at z
      exact z.symm.trans hl
    have hlt : d < s1.heap.objs.size := Heap.lt_size hgd
    refine wpAny_tryCatch (wpAny_pyIter_values (d := d) (knd := mixKind X.prog X.w) hv (hm.push _) ?_)
    refine wpAny_bind (wpAny_runValue (ci_run (knd := mixKind X.prog X.w) (d := d) (ep := _) (kvs := vs) (ns := ns) ?_ (I1.ok.hd hc) hvs hnl _ 0 _ rfl (Nat.zero_le _) ⟨_, Heap.get?_push_size _ rfl, rfl, rfl⟩ ((hm.push _).push _) fun h' eb => ?_))
    · rw [Heap.size_push]; exact Nat.ne_of_lt (Nat.lt_succ_of_lt hlt)
    refine wpAny_pure (wpAny_pure ?_)
    refine ⟨.bl (!decide (n ∈ ns)), H1, ?_, rfl, q⟩
    refine I1.kept (t' := s1.toks) fun b ob q => ?_
    refine eb b ob ?_ (Heap.get?_push_of_some _ (Heap.get?_push_of_some _ q))
    have z : b < s1.heap.objs.size := Heap.lt_size q
    rw [Heap.size_push]; exact Nat.ne_of_lt (Nat.lt_succ_of_lt z)
  show wpAny _ _ (callWith cpos (.builtin "dict.values") [.ref d] [] []) _ X.xe s1
  exact method_meetsIn F.slot_dict_values F.entry_dict_values rfl (PySem.evalArgs_none ⟨rfl, hm.dictOf.typeIs, F.args_dict_values_1 _, _, meets_dict_values (mixKind X.prog X.w) d hs, ⟨vs, hm.dictOf⟩, fin⟩)
end
end Q
set_option maxHeartbeats 4000000
/-! F0: checks. -/
namespace Q
open PySem PySem.Spec PyProof.Rows L2
section
variable {K : Frag} {X : Hs} {σ : L2.St} {H : Hp} {ta tb tc : TE}
theorem ty_int {H : Hp} {v : V} {i : Int} (h : rInt K (hid X H) v i) : TyX K H v (.type "int") := by
  rw [show v = V.int i from h]; exact .base (.int _)
theorem ty_bl {H : Hp} {v : V} {i : Bool} (h : rBl K (hid X H) v i) : TyX K H v (.type "bool") := by
  rw [show v = V.bl i from h]; exact .base (.bl _)
theorem ty_tx {H : Hp} {v : V} {i : Tx} (h : rTx K (hid X H) v i) : TyX K H v (.type "str") := by
  rw [show v = V.str (S i) from h]; exact .base (.str _)
theorem er_abs {i : Int} (h : Er K X ta σ H rInt i) : Er K X (tCB (fun xs H Q => ∃ i, xs = [.int i] ∧ Q (.int (if i < 0 then -i else i)) H) (tCons ta tNil)) σ H rInt (if i < 0 then -i else i) :=
  er_cb1 h fun v H1 _ _ hv Q k => ⟨i, by rw [show v = V.int i from hv], k _ H1 (Evl.Ex.refl _) rfl⟩
theorem er_chainI {g g' : Int → Int → Bool} {a b c : Int} (ha : Er K X ta σ H rInt a) (hb : Er K X tb σ H rInt b) (hc : Er K X tc σ H rInt c) : Er K X (tChain (rI0 fun i j => .bl (g i j)) (rI0 fun i j => .bl (g' i j)) ta tb tc) σ H rBl (g a b && g' b c) := fun H1 e d Q k =>
  ha H1 e d _ fun v H2 e2 hv => hb H2 (e.trans e2) (d.ex e2) _ fun w H3 e3 hw => ⟨a, b, hv, hw, g a b, rfl, by
    cases hg : g a b with
    | false => rw [if_neg Bool.false_ne_true]; exact k _ H3 (e2.trans e3) (by rw [hg, Bool.false_and]; rfl)
    | true =>
      rw [if_pos rfl]
      exact hc H3 ((e.trans e2).trans e3) ((d.ex e2).ex e3) _ fun u H4 e4 hu => ⟨b, c, hw, hu, k _ H4 ((e2.trans e3).trans e4) (by rw [hg, Bool.true_and]; rfl)⟩⟩
/-- a constant of the module -/
theorem er_cI {i : Int} : Er K X (tC (.int i)) σ H rInt i := er_int
end
/-- what the constants are -/
structure Gs (mg : Str → Option Value) : Prop where
  LETTERS : Gc mg "LETTERS" (.str "abcdefghijklmnopqrstuvwxyz")
  MOST_LETTERS : Gc mg "MOST_LETTERS" (.int 8)
  MOST_FIGURES_checks : Gc mg "MOST_FIGURES_checks" (.int (10 ^ 30))
  MOST_WORDS : Gc mg "MOST_WORDS" (.int 6)
  MOST_PLACES : Gc mg "MOST_PLACES" (.int 3)
  MOST_SYMBOLS : Gc mg "MOST_SYMBOLS" (.int 200)
  MOST_DEEP : Gc mg "MOST_DEEP" (.int 60)
  MOST_TERMS : Gc mg "MOST_TERMS" (.int 2000)
  PAIR : Gc mg "PAIR" (.int 2)
  MOST_RULES : Gc mg "MOST_RULES" (.int 40)
  MOST_TRAITS : Gc mg "MOST_TRAITS" (.int 12)
  PARTS : Gc mg "PARTS" (.int 3)
  HOLE : Gc mg "HOLE" (.str "_")
  NOTHING : Gc mg "NOTHING" (.str "-")
  FIGURES : Gc mg "FIGURES" (.str "0123456789")
  MOST_FIGURES_reader : Gc mg "MOST_FIGURES_reader" (.int 30)
  MOST_READ : Gc mg "MOST_READ" (.int 121)
def lettersL : Tx := [97, 98, 99, 100, 101, 102, 103, 104, 105, 106, 107, 108, 109, 110, 111, 112, 113, 114, 115, 116, 117, 118, 119, 120, 121, 122]
theorem letters_S : ("abcdefghijklmnopqrstuvwxyz" : Str) = S lettersL := by decide +kernel
def isName (x : Tx) : Bool := decide (1 ≤ x.length) && decide (x.length ≤ 8) && x.all fun c => decide (c ∈ lettersL)
section
variable {P : Program} {w : World} {K : Frag} {mg : Str → Option Value} {base : Heap}
theorem len1 {α β : Type} {r : Rel α} {pre : α → Prop} {s : Rel β} {f : α → β} {x : Str} : ∀ vs H Q E, SpF (A1 r pre) K s f vs H Q E → vs.length = [x].length := fun vs H Q E ⟨_, _, _, ⟨v, e, _⟩, _⟩ => by rw [e]; rfl
theorem len2 {α β γ : Type} {r : Rel α} {s : Rel β} {pre : α → β → Prop} {t : Rel γ} {f : α × β → γ} {x y : Str} : ∀ vs H Q E, SpF (A2 r s pre) K t f vs H Q E → vs.length = [x, y].length := fun vs H Q E ⟨_, _, _, ⟨v, w, e, _⟩, _⟩ => by rw [e]; rfl
theorem len3 {α β γ δ : Type} {r : Rel α} {s : Rel β} {t : Rel γ} {pre : α → β → γ → Prop} {u : Rel δ} {f : α × β × γ → δ} {x y z : Str} : ∀ vs H Q E, SpF (A3 r s t pre) K u f vs H Q E → vs.length = [x, y, z].length := fun vs H Q E ⟨_, _, _, ⟨v, w, a, e, _⟩, _⟩ => by rw [e]; rfl
theorem len4 {α β γ δ ε : Type} {r : Rel α} {s : Rel β} {t : Rel γ} {q : Rel δ} {pre : α → β → γ → δ → Prop} {u : Rel ε} {f : α × β × γ × δ → ε} {x y z a : Str} : ∀ vs H Q E, SpF (A4 r s t q pre) K u f vs H Q E → vs.length = [x, y, z, a].length := fun vs H Q E ⟨_, _, _, ⟨v, w, a, b, e, _⟩, _⟩ => by rw [e]; rfl
abbrev NIsInt : List Str := ["value"]
theorem scIsInt : FnScope NIsInt ["value"] (defScope sIsInt) := ⟨rfl, rfl, rfl, by decide +kernel, rfl, by decide +kernel, by decide +kernel⟩
abbrev spIsInt (K : Frag) : Sp := SpF (A1 rInt fun _ => True) K rBl fun i => decide ((if i < 0 then -i else i) < 10 ^ 30)
theorem ok_isInt (B : Bi mg) (G : Gs mg) (D : Dfn K mg "is_int" sIsInt ["value"]) : Kp P w K mg base 1 "is_int" ["value"] (spIsInt K) :=
  D.kp fun f fd F hm b => F.ok scIsInt len1 fun cdv A outer s H vs Q E hr ⟨i, X, dm, ⟨v, e, h, _⟩, q⟩ => by
    subst e
    refine ⟨_, (pss_one (ps_ret (pe_and (pe_callB call_isi rfl B.isinstance (by decide +kernel) (pa_cons (pv 0) (pa_cons (pe_bltn (v := .ty "int") (u := .type "int") rfl B.int (by decide +kernel) rfl) pa_nil))) (pe_and (pe_not (pe_callB call_isi rfl B.isinstance (by decide +kernel) (pa_cons (pv 0) (pa_cons (pe_bltn (v := .ty "bool") (u := .type "bool") rfl B.bool (by decide +kernel) rfl) pa_nil)))) (pe_one (pe_cmpR op_lt (pe_callB call_abs rfl B.abs (by decide +kernel) (pa_cons (pv 0) pa_nil)) (C8.pe_gc rfl G.MOST_FIGURES_checks) (nomark _))))))), ?_⟩
    refine ret_of (r := rBl) (x := decide ((if i < 0 then -i else i) < 10 ^ 30)) ?_ dm q
    exact Er.is (er_andV (a := true) (er_isi (r := rInt) (x := i) (er_var rfl h) fun _ _ z => ⟨_, ty_int z, by decide +kernel⟩) fun _ => er_andV (a := true) (Er.is (er_notV (a := false) (er_isi (r := rInt) (x := i) (er_var rfl h) fun _ _ z => ⟨_, ty_int z, by decide +kernel⟩)) rfl) fun _ =>
      er_cmp0 (g := fun i j => decide (i < j)) (er_abs (er_var rfl h)) er_int) (by rw [Bool.true_and, Bool.true_and])
abbrev NIsBetween : List Str := ["value", "low", "high"]
theorem scIsBetween : FnScope NIsBetween ["value", "low", "high"] (defScope sIsBetween) := ⟨rfl, rfl, rfl, by decide +kernel, rfl, by decide +kernel, by decide +kernel⟩
abbrev spIsBetween (K : Frag) : Sp := SpF (A3 rInt rInt rInt fun i _ _ => (if i < 0 then -i else i) < 10 ^ 30) K rBl fun p => decide (p.2.1 ≤ p.1) && decide (p.1 ≤ p.2.2)
theorem ok_isBetween (c_is_int : Kp P w K mg base 1 "is_int" ["value"] (spIsInt K)) (D : Dfn K mg "is_between" sIsBetween ["value", "low", "high"]) : Kp P w K mg base 2 "is_between" ["value", "low", "high"] (spIsBetween K) :=
  D.kp fun f fd F hm b => F.ok scIsBetween len3 fun cdv A outer s H vs Q E hr ⟨⟨i, lo, hi⟩, X, dm, ⟨v, v2, v3, e, h, h2, h3, hp⟩, q⟩ => by
    subst e
    refine ⟨_, (pss_one (ps_ret (pe_and (pe_kp c_is_int hr (by decide) (pa_cons (pv 0) pa_nil)) (pe_one (pe_chain op_le op_le (pv 1) (pv 0) (pv 2)))))), ?_⟩
    refine ret_of (r := rBl) (x := decide (lo ≤ i) && decide (i ≤ hi)) ?_ dm q
    exact Er.is (er_andV (er_call1 (r := rInt) (x := i) (er_var rfl h) trivial) fun _ => er_chainI (g := fun i j => decide (i ≤ j)) (g' := fun i j => decide (i ≤ j)) (er_var rfl h2) (er_var rfl h) (er_var rfl h3)) (by rw [decide_eq_true hp, Bool.true_and])
abbrev NIsName : List Str := ["value", "sign"]
theorem scIsName : FnScope NIsName ["value"] (defScope sIsName) := ⟨rfl, rfl, rfl, by decide +kernel, rfl, by decide +kernel, by decide +kernel⟩
abbrev spIsName (K : Frag) : Sp := SpF (A1 rTx fun x => x.length < 1000000) K rBl isName
theorem ok_isName (B : Bi mg) (G : Gs mg) (D : Dfn K mg "is_name" sIsName ["value"]) : Kp P w K mg base 1 "is_name" ["value"] (spIsName K) :=
  D.kp fun f fd F hm b => F.ok scIsName len1 fun cdv A outer s H vs Q E hr ⟨x, X, dm, ⟨v, e, h, hz⟩, q⟩ => by
    subst e
    refine ⟨_, (pss_one (ps_ret (pe_and (pe_callB call_isi rfl B.isinstance (by decide +kernel) (pa_cons (pv 0) (pa_cons (pe_bltn (v := .ty "str") (u := .type "str") rfl B.str (by decide +kernel) rfl) pa_nil))) (pe_and (pe_chain op_le op_le pe_int (pe_callB call_len rfl B.len (by decide +kernel) (pa_cons (pv 0) pa_nil)) (C8.pe_gc rfl G.MOST_LETTERS)) (pe_one (pe_callB (cr_all rfl) rfl B.all (by decide +kernel) (pa_cons (pe_lc (own := [("sign", 1)]) (g := gName 1) (tt := tYes) rfl scIsName.nd (pi_str (pv 0)) (blkOk_by (N := NIsName) (sc := defScope sIsName) (by decide +kernel)) (fun _ _ _ _ _ => (pg_name (i := 1) scIsName.nd rfl (.inl rfl))) (fun _ _ _ _ _ => pts_nil) (fun _ _ _ _ _ => (pe_cmpR op_in_sign (pv 1) (C8.pe_gc rfl G.LETTERS) rfl))) pa_nil))))))), ?_⟩
    refine ret_of (r := rBl) (x := isName x) ?_ dm q
    refine Er.is (er_andV (a := true) (er_isi (r := rTx) (x := x) (er_var rfl h) fun _ _ z => ⟨_, ty_tx z, by decide +kernel⟩) fun _ => er_andV (er_chainI (a := 1) (b := (x.length : Int)) (c := 8) (g := fun i j => decide (i ≤ j)) (g' := fun i j => decide (i ≤ j)) er_int (er_lenX hz (er_var rfl h)) er_int) fun _ =>
      er_all (xs := (x.map sign).map fun c => decide (c.headD 0 ∈ lettersL)) (er_lc (r := rTx) (s := rBl) (xs := x.map sign) (f := fun c => decide (c.headD 0 ∈ lettersL)) (ei_str (er_var rfl h)) (by rw [List.length_map]; exact hz) fun d hd Y v' H' e' hv => ?_)) ?_
    · obtain ⟨c, _, rfl⟩ := List.mem_map.mp hd
      exact er_inSign (c := c) (x := lettersL) (er_var rfl hv) (er_tx letters_S)
    · rw [Bool.true_and, isName, List.map_map, List.all_map]
      have e1 : decide ((1 : Int) ≤ (x.length : Int)) = decide (1 ≤ x.length) := by
        rw [decide_eq_decide]; omega
      have e2 : decide ((x.length : Int) ≤ (8 : Int)) = decide (x.length ≤ 8) := by
        rw [decide_eq_decide]; omega
      rw [e1, e2]
      rfl
end
end Q
set_option maxHeartbeats 4000000
/-! Q6: dicts from texts to numbers, instances, locks, sorted texts, by relations. -/
namespace Q
open PySem PySem.Spec PyProof.Rows L2
/-! ### sorted texts -/
/-- rising (not falling) -/
def Srt (l : List Tx) : Prop := l.Pairwise fun a b => ¬ b < a
theorem lt_tri {a b : Tx} (h : ¬ a < b) (h2 : ¬ b < a) : a = b := by
  rcases Std.lt_trichotomy a b with z | z | z
  · exact absurd z h
  · exact z
  · exact absurd z h2
theorem lt_tr {a b c : Tx} (h : ¬ b < a) (h2 : ¬ c < b) : ¬ c < a := fun z => by
  by_cases e : a = b
  · subst e; exact h2 z
  · have hab : a < b := by
      rcases Std.lt_trichotomy a b with y | y | y
      · exact y
      · exact absurd y e
      · exact absurd y h
    exact h2 (List.lt_trans z hab)
theorem rising_pw : ∀ (p : Str) (l : List Str), risingS p l = true → (p :: l).Pairwise fun a b : Str => ¬ b.cps.toList < a.cps.toList
  | p, [], _ => List.pairwise_singleton _ _
  | p, x :: l, h => by
    unfold risingS at h
    rw [Bool.and_eq_true] at h
    have ih := rising_pw x l h.2
    have h1 : ¬ x.cps.toList < p.cps.toList := by
      have := h.1
      rw [PyProof.Rows.ltCps_eq] at this
      simpa using this
    refine List.Pairwise.cons (fun y hy => ?_) ih
    rcases List.mem_cons.mp hy with rfl | hy
    · exact h1
    · exact lt_tr h1 ((List.pairwise_cons.mp ih).1 y hy)
theorem sortedS_pw : ∀ l : List Str, sortedS l = true → l.Pairwise fun a b : Str => ¬ b.cps.toList < a.cps.toList
  | [], _ => .nil
  | x :: l, h => rising_pw x l h
theorem srt_uniq {l m : List Tx} (hp : l.Perm m) (h1 : Srt l) (h2 : Srt m) : l = m :=
  List.Perm.eq_of_pairwise (fun _ _ _ _ a b => (lt_tri b a)) h1 h2 hp
theorem S_tl' (y : Str) : S y.cps.toList = y := SX.S_tl y
theorem srtS_uniq {ys : List Str} {xs zs : List Tx} (hp : ys.Perm (xs.map S)) (hs : sortedS ys = true) (hz : zs.Perm xs) (h2 : Srt zs) : ys = zs.map S := by
  have e : ys = (ys.map fun y : Str => y.cps.toList).map S := by
    rw [List.map_map]
    exact (List.map_id _).symm.trans (List.map_congr_left fun y _ => (S_tl' y).symm)
  have h1 : Srt (ys.map fun y : Str => y.cps.toList) := List.pairwise_map.mpr (sortedS_pw ys hs)
  have hp' : (ys.map fun y : Str => y.cps.toList).Perm xs := by
    have := hp.map fun y : Str => y.cps.toList
    rwa [List.map_map, show (fun y : Str => y.cps.toList) ∘ S = id from rfl, List.map_id] at this
  rw [e, srt_uniq (hp'.trans hz.symm) h1 h2]
/-! ### dicts -/
abbrev Wd := List (Tx × Nat)
def ent (p : Tx × Nat) : Key × V := (.inr (S p.1), .int (p.2 : Nat))
def kvsW (w : Wd) : List (Key × V) := w.map ent
def lk : Wd → Tx → Option Nat
  | [], _ => none
  | p :: w, n => if p.1 = n then some p.2 else lk w n
theorem valV_W : ∀ (w : Wd) (n : Tx), valV (kvsW w) (.inr (S n)) = (lk w n).map fun m => V.int (m : Nat)
  | [], n => rfl
  | p :: w, n => by
    show valV (ent p :: kvsW w) _ = _
    unfold valV lk
    rw [List.find?_cons]
    by_cases e : p.1 = n
    · rw [if_pos e, show decide ((ent p).1 = Sum.inr (S n)) = true from decide_eq_true (by rw [← e]; rfl)]
      rfl
    · rw [if_neg e, show decide ((ent p).1 = Sum.inr (S n)) = false from decide_eq_false fun z => e (SX.S_inj (Sum.inr.inj z))]
      exact valV_W w n
theorem lk_mem : ∀ {w : Wd} {n : Tx} {m : Nat}, lk w n = some m → (n, m) ∈ w
  | p :: w, n, m, h => by
    unfold lk at h
    by_cases e : p.1 = n
    · rw [if_pos e] at h
      have : p = (n, m) := by rw [← e, ← Option.some.inj h]
      rw [this]; exact List.mem_cons_self
    · rw [if_neg e] at h
      exact List.mem_cons_of_mem _ (lk_mem h)
theorem lk_none : ∀ {w : Wd} {n : Tx}, n ∉ w.map Prod.fst → lk w n = none
  | [], _, _ => rfl
  | p :: w, n, h => by
    unfold lk
    rw [if_neg (fun e => h (by rw [← e]; exact List.mem_map.mpr ⟨p, List.mem_cons_self, rfl⟩))]
    exact lk_none fun z => h (List.mem_cons_of_mem _ z)
theorem lk_of : ∀ {w : Wd} {n : Tx} {m : Nat}, (w.map Prod.fst).Nodup → (n, m) ∈ w → lk w n = some m
  | p :: w, n, m, hn, h => by
    unfold lk
    rw [List.map_cons, List.nodup_cons] at hn
    rcases List.mem_cons.mp h with e | h
    · rw [← e]; exact if_pos rfl
    · rw [if_neg (fun e => hn.1 (by rw [e]; exact List.mem_map.mpr ⟨_, h, rfl⟩))]
      exact lk_of hn.2 h
theorem lk_perm {w w' : Wd} (h : w.Perm w') (hn : (w.map Prod.fst).Nodup) (n : Tx) : lk w n = lk w' n := by
  have hn' : (w'.map Prod.fst).Nodup := (h.map _).nodup_iff.mp hn
  cases e : lk w n with
  | some m => exact (lk_of hn' (h.mem_iff.mp (lk_mem e))).symm
  | none =>
    cases e' : lk w' n with
    | none => rfl
    | some m => rw [lk_of hn (h.mem_iff.mpr (lk_mem e'))] at e; cases e
def rDct : Rel Wd := fun _ H v w => ∃ d, v = .ref d ∧ Rd H d (.dK (kvsW w))
instance : Mono rDct := ⟨fun e ⟨d, h1, h2⟩ => ⟨d, h1, e.rd d _ trivial h2⟩⟩
def rNat : Rel Nat := fun _ _ v n => v = .int (n : Nat)
instance : Mono rNat := ⟨fun _ h => h⟩
theorem rd_hid {X : Hs} {H : Hp} {a : Addr} {u : HO} (p : Pl u) (h : Rd (hid X H) a u) : Rd H a u := hid_get.le.rd a u p h
section
variable {K : Frag} {X : Hs} {α β γ : Type} {σ : L2.St} {H : Hp} {r : Rel α} {s : Rel β} {te ta tb td ti : TE} {D : Ends} {i j : Nat} {o d : Addr} {vs : List V} {w w' : Wd} {n : Tx} {m : Nat} {od : Obj}
theorem er_din (h : Er K X ta σ H rTx n) (h2 : Er K X td σ H rDct w) : Er K X (tDIn ta td) σ H rBl (lk w n).isSome := fun H1 e dm Q k =>
  h H1 e dm _ fun v H2 e2 hv => h2 H2 (e.trans e2) (dm.ex e2) _ fun u H3 e3 ⟨d, hu, hd⟩ => ⟨d, _, hu, .inl ⟨_, .inr (S n), rd_hid trivial hd, hv, rfl⟩, by
    rw [valV_W, Option.isSome_map]
    exact k _ H3 (e2.trans e3) rfl⟩
theorem er_dget (h2 : Er K X td σ H rDct w) (h : Er K X ti σ H rTx n) (hm : lk w n = some m) : Er K X (tDGet td ti) σ H rNat m := fun H1 e dm Q k =>
  h2 H1 e dm _ fun u H2 e2 ⟨d, hu, hd⟩ => h H2 (e.trans e2) (dm.ex e2) _ fun v H3 e3 hv => ⟨d, .int (m : Nat), hu, .inl ⟨_, .inr (S n), Rd_ex e3 (rd_hid trivial hd), hv, by rw [valV_W, hm]; rfl⟩, k _ H3 (e2.trans e3) rfl⟩
where
  Rd_ex {H H' : Hp} {a : Addr} {u : HO} (e : Ex H H') (h : Rd H a u) : Rd H' a u := Evl.ex_rd e h
theorem er_nat {x : Nat} (h : Er K X te σ H rNat x) : Er K X te σ H rInt (x : Int) := h
theorem er_toNat {x : Nat} (h : Er K X te σ H rInt (x : Int)) : Er K X te σ H rNat x := h
theorem er_some {x : α} (h : Er K X te σ H r x) (hn : ∀ H v, r K H v x → v ≠ .non) : Er K X te σ H (rOpt r) (some x) := fun H1 e dm Q k => h H1 e dm Q fun v H2 e2 hv => k v H2 e2 ⟨hn _ _ hv, hv⟩
theorem er_none : Er K X (tC .non) σ H (rOpt r) none := fun H1 _ _ Q q => q _ H1 (Evl.Ex.refl H1) rfl
theorem er_lenD (hs : σ[i]? = some (some (.ref d))) (hd : H d = some (.dK (kvsW w))) : Er K X (tCB (fun xs H Q => ∃ a kvs, xs = [V.ref a] ∧ H a = some (.dK kvs) ∧ Q (.int kvs.length) H) (tCons (tVar i) tNil)) σ H rInt (w.length : Int) := fun H1 e _ Q q =>
  ⟨.ref d, hs, d, _, rfl, e _ _ hd, by rw [kvsW, List.length_map]; exact q _ H1 (Evl.Ex.refl H1) rfl⟩
theorem er_eqDE (hs : σ[i]? = some (some (.ref d))) (hd : H d = some (.dK (kvsW w))) : Er K X (tOp rEqDE (tVar i) tDNewK) σ H rBl (decide (w.length = 0)) := fun H1 e _ Q q =>
  ⟨.ref d, hs, fun p hp => ⟨d, p, kvsW w, rfl, rfl, .inl (by rw [upd_ne (ne_of_none (e _ _ hd) hp)]; exact e _ _ hd), upd_same, by rw [kvsW, List.length_map]; exact q _ _ (Evl.Ex.new hp) rfl⟩⟩
theorem er_eqDR (h : Er K X ta σ H rDct w) (h2 : Er K X tb σ H rDct w') (hl : w.length = w'.length) (hv : ∀ p ∈ w, lk w' p.1 = some p.2) : Er K X (tOp rEqDR ta tb) σ H rBl true := er_two h h2 fun v u H1 _ _ ⟨a, ha, hda⟩ ⟨b, hb, hdb⟩ Q k =>
  ⟨a, b, _, _, ha, hb, rd_hid trivial hda, rd_hid trivial hdb, by rw [kvsW, kvsW, List.length_map, List.length_map]; exact hl, fun p hp => by
    obtain ⟨q, hq, rfl⟩ := List.mem_map.mp hp
    refine ⟨?_, rfl⟩
    show valV (kvsW w') (.inr (S q.1)) = _
    rw [valV_W, hv q hq]
    rfl, k _ H1 (Evl.Ex.refl _) rfl⟩
/-! ### locks -/
theorem hid_lock {kvs : List (Key × V)} (h : H d = some (.dK kvs)) : Le (hid X H) (hid X (upd H d (.frz od (.dK kvs)))) := by
  cases e : X d with
  | true => rw [hid_upd e]; exact Le.refl _
  | false => rw [hid_upd_out e]; exact Le.lock (by rw [hid_out e]; exact h) trivial (fun _ _ _ z => nomatch z) fun _ z => nomatch z
theorem hid_unlock {kvs : List (Key × V)} (h : H d = some (.frz od (.dK kvs))) : Le (hid X H) (hid X (upd H d (.dK kvs))) := by
  cases e : X d with
  | true => rw [hid_upd e]; exact Le.refl _
  | false => rw [hid_upd_out e]; exact Le.unlock (by rw [hid_out e]; exact h)
theorem Dm.upd' {H : Hp} {o : HO} (dm : Dm X H) : Dm X (upd H d o) := fun a ha => by
  by_cases z : a = d
  · rw [z, upd_same]; exact fun z => nomatch z
  · rw [upd_ne z]; exact dm a ha
theorem ex_locked {H H1 H2 : Hp} {kvs : List (Key × V)} (e : Ex H H1) (h : H d = some (.dK kvs)) (e2 : Ex (upd H1 d (.frz od (.dK kvs))) H2) : Ex H (upd H2 d (.dK kvs)) := fun a o q => by
  by_cases z : a = d
  · rw [z, upd_same]; rw [z, h] at q; exact q
  · rw [upd_ne z]; exact e2 a o (by rw [upd_ne z]; exact e a o q)
theorem er_lock [mr : Mono r] {t : TE} {x : α} {kvs : List (Key × V)} (hd : H d = some (.dK kvs)) (h : ∀ od H1, Ex H H1 → Er K X t σ (upd H1 d (.frz od (.dK kvs))) r x) : Er K X (tLockE t) σ H r x := fun H1 e dm Q k =>
  ⟨d, .dK kvs, e _ _ hd, trivial, fun od => (h od H1 e) _ (Evl.Ex.refl _) dm.upd' _ fun v H2 e2 hv => by
    have g : H2 d = some (.frz od (.dK kvs)) := e2 _ _ upd_same
    exact ⟨g, k _ _ (ex_locked (Evl.Ex.refl _) (e _ _ hd) e2) (mr.mono (hid_unlock g) hv)⟩⟩
/-- n not in d.values(), d locked -/
theorem er_notInVals {n : Int} (h : Er K X ta σ H rInt n) (hs : σ[i]? = some (some (.ref d))) (hd : H d = some (.frz od (.dK (kvsW w)))) : Er K X (tNotInVals ta (tVar i)) σ H rBl (!decide (n ∈ w.map fun p => ((p.2 : Nat) : Int))) := fun H1 e dm Q k =>
  h H1 e dm _ fun v H2 e2 hv => ⟨.ref d, hs, n, d, od, kvsW w, w.map fun p : Tx × Nat => ((p.2 : Nat) : Int), hv, rfl, e2 _ _ (e _ _ hd), by rw [kvsW, List.map_map, List.map_map]; exact List.map_congr_left fun _ _ => rfl, k _ H2 e2 rfl⟩
theorem getElem?_kvs (w : Wd) (i : Nat) : (kvsW w)[i]? = w[i]?.map ent := List.getElem?_map ..
/-- d.items(), d locked -/
theorem ei_items (hs : σ[i]? = some (some (.ref d))) (hd : H d = some (.frz od (.dK (kvsW w)))) : Ei K X (iItems (tVar i)) σ H (rPr rTx rNat) w := fun H1 e dm R q =>
  ⟨.ref d, hs, d, od, kvsW w, rfl, e _ _ hd, q (Iti d od (kvsW w)) H1 (fun H => H d = some (.frz od (.dK (kvsW w)))) _ (Evl.Ex.refl _) (by
    have z := walk_items (d := d) (o := od) (kvs := kvsW w)
    rw [kvsW, List.length_map] at z
    exact z) (fun H3 e3 => e3 _ _ (e _ _ hd)) fun i H3 y H4 e3 yy => by
    obtain ⟨T, x1, x2, rfl, hT, rfl, h1, h2⟩ := yy
    have h1 : (kvsW w)[i]?.map (fun kv => kV kv.1) = some x1 := h1
    have h2 : (kvsW w)[i]?.map Prod.snd = some x2 := h2
    rw [getElem?_kvs] at h1 h2
    cases hw : w[i]? with
    | none => rw [hw] at h1; cases h1
    | some p =>
      rw [hw] at h1 h2
      have z1 : x1 = kV (ent p).1 := (Option.some.inj h1).symm
      have z2 : x2 = (ent p).2 := (Option.some.inj h2).symm
      refine ⟨Evl.Ex.new hT, p, rfl, fun X' e' d' => ⟨T, x1, x2, rfl, .inl (.inl ?_), z1, z2⟩⟩
      rw [hid_out (d'.new hT), upd_same]⟩
/-- the keys of d, locked -/
theorem ei_keys (hs : σ[i]? = some (some (.ref d))) (hd : H d = some (.frz od (.dK (kvsW w)))) : Ei K X (iKeys (tVar i)) σ H rTx (w.map Prod.fst) := by
  intro H1 e dm R q
  refine ⟨.ref d, hs, d, od, rfl, .inl ⟨kvsW w, e _ _ hd, q (Itk d od (kvsW w)) H1 (fun H => H d = some (.frz od (.dK (kvsW w)))) (fun i H x H' => H' = H ∧ ∃ k v, (kvsW w)[i]? = some (k, v) ∧ x = kV k) (Evl.Ex.refl _) ?_ (fun H3 e3 => e3 _ _ (e _ _ hd)) ?_⟩⟩
  · have z := walk_keys (d := d) (o := od) (kvs := kvsW w)
    rw [show (kvsW w).length = (w.map Prod.fst).length by rw [kvsW, List.length_map, List.length_map]] at z
    exact z
  · rintro i H3 y H4 e3 ⟨e4, k, v, h1, h2⟩
    subst e4
    rw [getElem?_kvs] at h1
    cases hw : w[i]? with
    | none => rw [hw] at h1; cases h1
    | some p =>
      rw [hw] at h1
      have z1 : ent p = (k, v) := Option.some.inj h1
      refine ⟨Evl.Ex.refl _, p.1, by rw [List.getElem?_map, hw]; rfl, fun X' e' d' => ?_⟩
      cases z1
      rw [h2]
      rfl
/-- sorted(xs), texts -/
theorem er_sortedTx {xs ys : List Tx} (h : Er K X te σ H (rLst rTx) xs) (hz : xs.length < 64) (hp : ys.Perm xs) (hs : Srt ys) : Er K X (tCB (rSortedS K) (tCons te tNil)) σ H (rLst rTx) ys := er_cb1 h fun v H1 _ dm hv Q k => by
  obtain ⟨a, vs, rfl, h2, h3⟩ := hv
  rw [vals_tx h3] at h2
  refine ⟨a, xs.map S, rfl, sql_hid h2, by rw [List.length_map]; exact hz, fun zs p hp2 hs2 hn => ?_⟩
  rw [srtS_uniq hp2 hs2 hp hs]
  refine k _ _ (Evl.Ex.new hn) ⟨p, _, rfl, .inl (.inl (by rw [hid_out (dm.new hn), upd_same])), ?_⟩
  rw [List.map_map]
  exact Paired.of_map (F := rTx K _) (f := V.str ∘ S) (fun _ => rfl) _
section
variable {X : Cx} {op : CmpOp} {a b : Expr} {t : TE}
theorem pc_lock (h : PC X op a b t) : PC X op a b (tLockE t) := by
  refine ⟨fun pins s σ H Q I hw => ?_⟩
  obtain ⟨d, u, hd, mu, hw⟩ := hw
  obtain ⟨od, I1⟩ := I.lock hd mu
  refine thn (h.run pins s σ _ _ I1 (hw od)) fun v s1 h1 => thn h1 fun w' s2 h2 => thn h2 fun c s3 ⟨x, H1, I2, r, e2, q⟩ => ?_
  exact ⟨x, _, I2.unlock e2 (I.nofrz hd mu), r, q⟩
end
/-! ### instances -/
structure Own (K : Frag) (mg : Str → Option Value) (C : Addr) (x : Str) (fs : List Str) : Prop where
  ins : C8.InsC K C
  na : ∀ f ∈ fs, NoAttr K C f
  mgC : mg x = some (.ref C)
theorem Own.gc {mg : Str → Option Value} {C : Addr} {x : Str} {fs : List Str} (T : Own K mg C x fs) : Gc mg x (.ref C) := ⟨_, T.mgC, rfl⟩
theorem er_fld [Mono r] {f : Str} {x : α} {y : β} (h : Er K X te σ H r x) (hf : ∀ H1 v, r K (hid X H1) v x → ∃ a C dx fs u, v = .ref a ∧ hid X H1 a = some (.ins C dx fs) ∧ Cls K C ∧ NoAttr K C f ∧ fs.lookup f = some u ∧ s K (hid X H1) u y) : Er K X (tFld K te f) σ H s y := fun H1 e dm Q k =>
  h H1 e dm _ fun v H2 e2 hv => by
    obtain ⟨a, C, dx, fs, u, h1, h2, h3, h4, h5, h6⟩ := hf H2 v hv
    exact ⟨a, C, dx, fs, u, h1, hid_get _ _ h2, h3, h4, h5, k _ H2 e2 h6⟩
theorem er_isC {mg : Str → Option Value} {C : Addr} {y : Str} {gs : List Str} {x : α} [Mono r] (T : Own K mg C y gs) (h : Er K X te σ H r x) (hf : ∀ H1 v, r K (hid X H1) v x → ∃ a dx fs, v = .ref a ∧ hid X H1 a = some (.ins C dx fs)) :
    Er K X (tCB (fun xs H Q => ∃ a dx fs, xs = [.ref a, .ref C] ∧ H a = some (.ins C dx fs) ∧ Q (.bl true) H) (tCons te (tCons (tC (.ref C)) tNil))) σ H rBl true := fun H1 e dm Q k =>
  h H1 e dm _ fun v H2 e2 hv => by
    obtain ⟨a, dx, fs, rfl, h2⟩ := hf H2 v hv
    exact ⟨a, dx, fs, rfl, hid_get _ _ h2, k _ H2 e2 rfl⟩
/-- self.f = te -/
theorem st_fld {f : Str} {a C dx : Addr} {fs : List (Str × V)} {x : α} (hs : σ[i]? = some (some (.ref a))) (ha : H a = some (.ins C dx fs)) (c : Cls K C) (n : NoAttr K C f) (hz : fs.length < 1000) (h : Er K X te σ H r x) (dm : Dm X H)
    (k : ∀ v H2, Ex H H2 → r K (hid X H2) v x → D.nx σ (upd H2 a (.ins C dx (putF f v fs)))) : sFld K (tVar i) te f D σ H :=
  h.go dm fun v H2 e hv => ⟨.ref a, hs, a, C, dx, fs, rfl, e _ _ ha, c, n, hz, k v H2 e hv⟩
/-! ### {k: v for ..} -/
theorem er_dc [mr : Mono r] {wi : TI} {tk tv : TE} {xs : List α} {f : α → Tx} {g : α → Nat} (hi : Ei K X wi σ H r xs) (hz : xs.length < 1000000) (hn : (xs.map f).Nodup)
    (hk : ∀ d, d ∈ xs → ∀ Y v H', Ex (hid X H) (hid Y H') → r K (hid Y H') v d → Er K Y tk ((wipe σ [i]).set i (some v)) H' rTx (f d))
    (he : ∀ d, d ∈ xs → ∀ Y v H', Ex (hid X H) (hid Y H') → r K (hid Y H') v d → Er K Y tv ((wipe σ [i]).set i (some v)) H' rNat (g d)) : Er K X (tDc wi (gName i) tYes tk tv [i]) σ H rDct (xs.map fun x => (f x, g x)) := fun H1 e dm Q q =>
  hi H1 e dm _ fun J H2 G Y e2 hW hG hY D hD => by
    refine dc_it' hW (fun i H3 => Ex H2 H3 ∧ H3 D = some (.dK (kvsW ((xs.take i).map fun x => (f x, g x)))))
      ⟨Evl.Ex.new hD, upd_same⟩ (fun i H3 _ h => hG H3 h.1) (fun i' x H3 H4 hi' hP hy => ?_) (fun H3 hP => ?_)
    · obtain ⟨e3, hys⟩ := hP
      obtain ⟨e4, d, hd, hr⟩ := hY i' H3 x H4 e3 hy
      have hmem : d ∈ xs := List.mem_of_getElem? hd
      have htk : xs.take (i' + 1) = xs.take i' ++ [d] := by rw [List.take_add_one, hd]; rfl
      have dm3 : Dm (X.and D) H3 := ((dm.ex e2).ex e3).and (by rw [hys]; exact fun z => nomatch z)
      have hr' := hr (X.and D) (hid_and (e3.trans e4) hD) dm3
      have eH4 : Ex (hid X H) (hid (X.and D) H4) := Evl.Ex.trans (hid_ex (e.trans e2)) (hid_and (e3.trans e4) hD)
      refine ⟨wipe_set σ x i, ?_⟩
      refine (hk d hmem _ x H4 eH4 hr').go (dm3.ex e4) fun y H5 e5 hy5 => ?_
      refine (he d hmem _ x H5 (Evl.Ex.trans eH4 (hid_ex e5)) (mr.mono (hid_le e5) hr')).go ((dm3.ex e4).ex e5) fun z H6 e6 hz6 => ?_
      have g6 := e6 _ _ (e5 _ _ (e4 _ _ hys))
      refine ⟨_, .inr (S (f d)), hy5, g6, ?_, ?_, ?_⟩
      · rw [kvsW, List.length_map, List.length_map, List.length_take]
        exact size_lt (by omega)
      · exact Evl.Ex.mut (((e3.trans e4).trans e5).trans e6) hD
      · have hno : lk ((xs.take i').map fun x => (f x, g x)) (f d) = none := by
          refine lk_none fun hm => ?_
          rw [List.map_map] at hm
          obtain ⟨d', h1, h2⟩ := List.mem_map.mp hm
          have e7 : xs.map f = (xs.take i').map f ++ ([d].map f ++ (xs.drop (i' + 1)).map f) := by
            rw [← List.map_append, ← List.map_append, ← List.append_assoc, ← htk, List.take_append_drop]
          rw [e7] at hn
          have := (List.nodup_append.mp hn).2.2 (f d') (List.mem_map.mpr ⟨d', h1, rfl⟩) (f d) (List.mem_append_left _ (List.mem_map.mpr ⟨d, List.mem_singleton.mpr rfl, rfl⟩))
          exact this h2
        rw [upd_same, putK_new _ (by rw [valV_W, hno]; rfl), htk, List.map_append, kvsW, kvsW, List.map_append, show z = V.int (g d : Nat) from hz6]
        rfl
    · obtain ⟨e3, hys⟩ := hP
      rw [List.take_length] at hys
      exact q _ H3 (e2.trans e3) ⟨D, rfl, .inl (by rw [hid_out ((dm.ex e2).new hD)]; exact hys)⟩
where
  dc_it' {J : It} {n : Nat} {G : Hp → Prop} {Y : Nat → Hp → V → Hp → Prop} (w : Walk J n G Y) {g : TG} {tt : TT} {tk tv : TE} {vs : List Nat} {σ : L2.St} {H1 : Hp} {D : Addr} {Qd : Hp → Prop} (Pv : Nat → Hp → Prop) (h0 : Pv 0 (upd H1 D (.dK []))) (hG : ∀ i H, i ≤ n → Pv i H → G H)
      (hs : ∀ i x H H', i < n → Pv i H → Y i H x H' → g x (wipe σ vs) H' fun σ2 H2 => wipe σ2 vs = wipe σ vs ∧ tt σ2 H2 fun b H3 =>
        if b = true then tk σ2 H3 fun y H4 => tv σ2 H4 fun z H5 => ∃ kvs k, y = kV k ∧ H5 D = some (.dK kvs) ∧ kvs.length < sizeLine ∧ Pv (i + 1) (upd H5 D (.dK (putK kvs k z))) else Pv (i + 1) H3) (hd : ∀ H, Pv n H → Qd H) :
      ∃ W : Nat → Nat → Hp → Prop, (∃ m, W 0 m (upd H1 D (.dK []))) ∧ ∀ i m H, W i m H →
        (J.stop i H ∧ Qd H) ∨ (J.go i H ∧ ∃ Nx : Hp → Prop, (∀ H', Nx H' → ∃ m', m' < m ∧ W (i + 1) m' H') ∧ ∀ x H', J.yld i H x H' → g x (wipe σ vs) H' fun σ2 H2 => wipe σ2 vs = wipe σ vs ∧ tt σ2 H2 fun b H3 =>
          if b = true then tk σ2 H3 fun y H4 => tv σ2 H4 fun z H5 => ∃ kvs k, y = kV k ∧ H5 D = some (.dK kvs) ∧ kvs.length < sizeLine ∧ Nx (upd H5 D (.dK (putK kvs k z))) else Nx H3) := by
    refine ⟨fun i m H => m = n - i ∧ i ≤ n ∧ Pv i H, ⟨n, by simp, Nat.zero_le _, h0⟩, ?_⟩
    rintro i m H ⟨rfl, hi, p⟩
    have q := hG i H hi p
    by_cases hlt : i < n
    · refine .inr ⟨w.goes i H hlt q, Pv (i + 1), fun H' p' => ⟨n - (i + 1), by omega, rfl, hlt, p'⟩, fun x H' y => ?_⟩
      exact hs i x H H' hlt p (w.yields i H x H' hlt q y)
    · have e : i = n := by omega
      subst e
      exact .inl ⟨w.stops H q, hd H p⟩
end
end Q
set_option maxHeartbeats 4000000
/-! F1: size, order. -/
namespace Q
open PySem PySem.Spec PyProof.Rows L2
/-! ### mathematics -/
mutual
def Tm.size : Tm → Nat
  | .nd _ ps => 1 + Tm.sizes ps
def Tm.sizes : List Tm → Nat
  | [] => 0
  | p :: ps => p.size + Tm.sizes ps
end
mutual
def Tm.deep : Tm → Nat
  | .nd _ ps => 1 + Tm.deeps ps
def Tm.deeps : List Tm → Nat
  | [] => 0
  | p :: ps => max p.deep (Tm.deeps ps)
end
theorem Tm.deeps_le {n : Nat} : ∀ {ps : List Tm}, Tm.deeps ps ≤ n → ∀ p ∈ ps, p.deep ≤ n
  | [], _, _, h => nomatch h
  | q :: ps, h, p, hp => by
    unfold Tm.deeps at h
    rcases List.mem_cons.mp hp with rfl | hp
    · omega
    · exact Tm.deeps_le (by omega) p hp
theorem Tm.sizes_sum : ∀ ps : List Tm, ((ps.map fun p => ((p.size : Nat) : Int)).sum) = ((Tm.sizes ps : Nat) : Int)
  | [] => rfl
  | p :: ps => by
    rw [List.map_cons, List.sum_cons, Tm.sizes_sum ps, show Tm.sizes (p :: ps) = p.size + Tm.sizes ps by rw [Tm.sizes]]
    omega
theorem Tm.len_sizes : ∀ ps : List Tm, ps.length ≤ Tm.sizes ps
  | [] => Nat.le_refl _
  | .nd w qs :: ps => by
    have h := Tm.len_sizes ps
    unfold Tm.sizes Tm.size
    rw [List.length_cons]
    omega
theorem Tm.size_mem : ∀ {ps : List Tm} {p : Tm}, p ∈ ps → p.size ≤ Tm.sizes ps
  | [], _, h => nomatch h
  | q :: ps, p, h => by
    rw [show Tm.sizes (q :: ps) = q.size + Tm.sizes ps by rw [Tm.sizes]]
    rcases List.mem_cons.mp h with rfl | h
    · omega
    · have := Tm.size_mem h
      omega
def bigT : Nat := 500000
section
variable {P : Program} {w : World} {K : Frag} {mg : Str → Option Value} {base : Heap}
theorem scSize : FnScope ["term", "part"] ["term"] (defScope sSize) := ⟨rfl, rfl, rfl, by decide +kernel, rfl, by decide +kernel, by decide +kernel⟩
abbrev spSize (K : Frag) (n : Nat) : Sp := SpF (A1 rTm fun t => t.deep ≤ n ∧ t.size ≤ bigT) K rInt fun t => ((t.size : Nat) : Int)
theorem ok_size (D : Dfn K mg "size" sSize ["term"]) (hsum : mg "sum" = none) : ∀ n, Kp P w K mg base (n + 1) "size" ["term"] (spSize K n)
  | 0 => D.kp fun f fd F hm b => F.ok scSize (fun vs H Q E ⟨x, X, _, ⟨v, e, _⟩, _⟩ => by rw [e]; rfl) fun cdv A outer s H vs Q E hr ⟨t, X, _, ⟨v, e, h, hd, _⟩, _⟩ => by
      cases t with
      | nd a ps => unfold Tm.deep at hd; omega
  | n + 1 => D.kp fun f fd F hm b => F.ok scSize (fun vs H Q E ⟨x, X, _, ⟨v, e, _⟩, _⟩ => by rw [e]; rfl) fun cdv A outer s H vs Q E hr ⟨t, X, dm, ⟨v, e, h, hd, hz⟩, q⟩ => by
      subst e
      refine ⟨_, pss_one (ps_ret (pe_op op_add pe_int (pe_callB (cr_sum rfl) rfl hsum (by decide +kernel) (pa_cons
        (pe_lc (own := [("part", 1)]) (g := gName 1) (tt := tYes) rfl scSize.nd (pi_tup (pe_slice sl_tupA (pv 0) (po_some pe_int) po_none)) (blkOk_by (N := ["term", "part"]) (sc := defScope sSize) (by decide +kernel)) (fun _ _ _ _ _ => pg_name (i := 1) scSize.nd rfl (.inl rfl)) (fun _ _ _ _ _ => pts_nil)
          (fun _ _ _ _ _ => pe_kp (ok_size D hsum n) hr (Nat.le_refl _) (pa_cons (pv 1) pa_nil))) pa_nil)))), ?_⟩
      cases t with
      | nd a ps =>
        have hd' : Tm.deeps ps ≤ n := by unfold Tm.deep at hd; omega
        have hz' : Tm.sizes ps ≤ bigT := by unfold Tm.size at hz; omega
        have e : ((Tm.size (.nd a ps) : Nat) : Int) = 1 + (ps.map fun p => ((p.size : Nat) : Int)).sum := by
          rw [Tm.sizes_sum]; unfold Tm.size; omega
        refine ret_of (K := K) (X := X) (r := rInt) (x := ((Tm.size (.nd a ps) : Nat) : Int)) ?_ dm q
        refine Er.is ?_ e.symm
        refine er_op0 er_int (er_sum (er_lc (r := rTm) (s := rInt) (xs := ps) (f := fun p => ((p.size : Nat) : Int)) (ei_tup (er_tail (t := .nd a ps) (er_var rfl h) er_int)) ?_ fun d hm Y v' H' e' hv => er_call1 (r := rTm) (x := d) (er_var rfl hv) ⟨Tm.deeps_le hd' d hm, ?_⟩))
        · have := Tm.len_sizes ps
          unfold bigT at hz'
          omega
        · exact Nat.le_trans (Tm.size_mem hm) hz'
end
end Q
set_option maxHeartbeats 4000000
/-! F2: order, flat. -/
namespace Q
open PySem PySem.Spec PyProof.Rows L2
/-! ### mathematics -/
mutual
def Tm.flat : Tm → List Tx
  | .nd w ps => w :: Tm.flats ps
def Tm.flats : List Tm → List Tx
  | [] => []
  | p :: ps => p.flat ++ Tm.flats ps
end
theorem Tm.flats_app : ∀ a b : List Tm, Tm.flats (a ++ b) = Tm.flats a ++ Tm.flats b
  | [], b => by rw [List.nil_append, show Tm.flats [] = [] by rw [Tm.flats], List.nil_append]
  | p :: a, b => by
    rw [List.cons_append, show Tm.flats (p :: (a ++ b)) = p.flat ++ Tm.flats (a ++ b) by rw [Tm.flats], Tm.flats_app a b, show Tm.flats (p :: a) = p.flat ++ Tm.flats a by rw [Tm.flats], List.append_assoc]
theorem Tm.sizes_app : ∀ a b : List Tm, Tm.sizes (a ++ b) = Tm.sizes a + Tm.sizes b
  | [], b => by rw [List.nil_append, show Tm.sizes [] = 0 by rw [Tm.sizes], Nat.zero_add]
  | p :: a, b => by
    rw [List.cons_append, show Tm.sizes (p :: (a ++ b)) = p.size + Tm.sizes (a ++ b) by rw [Tm.sizes], Tm.sizes_app a b, show Tm.sizes (p :: a) = p.size + Tm.sizes a by rw [Tm.sizes], Nat.add_assoc]
theorem Tm.sizes_rev : ∀ a : List Tm, Tm.sizes a.reverse = Tm.sizes a
  | [] => rfl
  | p :: a => by
    rw [List.reverse_cons, Tm.sizes_app, Tm.sizes_rev a, show Tm.sizes [p] = p.size + 0 by rw [Tm.sizes, Tm.sizes], show Tm.sizes (p :: a) = p.size + Tm.sizes a by rw [Tm.sizes]]
    omega
mutual
theorem Tm.flat_len : ∀ t : Tm, t.flat.length = t.size
  | .nd w ps => by
    rw [Tm.flat, Tm.size, List.length_cons, Tm.flats_len ps]
    omega
theorem Tm.flats_len : ∀ ps : List Tm, (Tm.flats ps).length = Tm.sizes ps
  | [] => by rw [Tm.flats, Tm.sizes]; rfl
  | p :: ps => by rw [Tm.flats, Tm.sizes, List.length_append, Tm.flat_len p, Tm.flats_len ps]
end
section
variable {P : Program} {w : World} {K : Frag} {mg : Str → Option Value} {base : Heap}
abbrev NOrder : List Str := ["term"]
theorem scOrder : FnScope NOrder ["term"] (defScope sOrder) := ⟨rfl, rfl, rfl, by decide +kernel, rfl, by decide +kernel, by decide +kernel⟩
abbrev spOrder (K : Frag) (n : Nat) : Sp := SpF (A1 rTm fun t => t.deep ≤ n ∧ t.size ≤ bigT) K (rPr rInt rTm) fun t => (((t.size : Nat) : Int), t)
theorem ok_order {n : Nat} (c_size : Kp P w K mg base (n + 1) "size" ["term"] (spSize K n)) (D : Dfn K mg "order" sOrder ["term"]) : Kp P w K mg base (n + 2) "order" ["term"] (spOrder K n) :=
  D.kp fun f fd F hm b => F.ok scOrder len1 fun cdv A outer s H vs Q E hr ⟨t, X, dm, ⟨v, e, h, hp⟩, q⟩ => by
    subst e
    refine ⟨_, (pss_one (ps_ret (pe_tup (pa_cons (pe_kp c_size hr (Nat.le_refl _) (pa_cons (pv 0) pa_nil)) (pa_cons (pv 0) pa_nil))))), ?_⟩
    refine ret_of (r := rPr rInt rTm) (x := (((t.size : Nat) : Int), t)) ?_ dm q
    exact er_pr (er_call1 (r := rTm) (x := t) (er_var rfl h) hp) (er_var rfl h)
abbrev NFlat : List Str := ["term", "found", "waiting", "here"]
theorem scFlat : FnScope NFlat ["term"] (defScope sFlat) := ⟨rfl, rfl, rfl, by decide +kernel, rfl, by decide +kernel, by decide +kernel⟩
abbrev spFlat (K : Frag) : Sp := SpF (A1 rTm fun t => t.size ≤ bigT) K rKey fun t => t.flat
theorem ok_flat (B : Bi mg) (D : Dfn K mg "flat" sFlat ["term"]) : Kp P w K mg base 1 "flat" ["term"] (spFlat K) :=
  D.kp fun f fd F hm b => F.ok scFlat len1 fun cdv A outer s H vs Q E hr ⟨t, X, dm, ⟨v, e, h, hp⟩, q⟩ => by
    subst e
    refine ⟨_, (pss_cons (ps_par (i := 1) (j := 2) (by rfl) scFlat.nd rfl rfl (by decide) rfl rfl (pa_cons (pe_lst pa_nil) (pa_cons (pe_lst (pa_cons (pv 0) pa_nil)) pa_nil)) (by rfl))
      (pss_cons (ps_while PassesOwn.never (pt_cmpR (op_neNil (hu0 hr)) (pv 2) (pe_lst pa_nil) (nomark _)) (pss_cons (ps_set (i := 3) scFlat.nd rfl (.inl rfl) (pe_bm0 PySem.F.plainAttrs_list PySem.F.slot_list_pop PySem.F.type_list_pop mt_pop (pv 2)))
      (pss_cons (ps_expr (pe_bm PySem.F.plainAttrs_list PySem.F.slot_list_append PySem.F.type_list_append mt_append (pv 1) (pa_cons (pe_ix ix_tup (pv 3) pe_int (fun _ _ => rfl)) pa_nil)))
      (pss_one (ps_expr (pe_bm PySem.F.plainAttrs_list PySem.F.slot_list_extend PySem.F.type_list_extend mt_extT (pv 2) (pa_cons (pe_revT (pe_slice sl_tupA (pv 3) (po_some pe_int) po_none)) pa_nil)))))))
      (pss_one (ps_ret (pe_callTy call_tuple_of rfl B.tuple (by decide +kernel) (pa_cons (pv 1) pa_nil)))))), ?_⟩
    refine ⟨Nat.zero_le _, fun o1 n1 => ⟨v, rfl, (by show 1 ≤ sizeLine; decide), fun o2 n2 => ⟨_, _, rfl, ?_⟩⟩⟩
    have ne : o1 ≠ o2 := fun z => by rw [← z, upd_same] at n2; cases n2
    have e1 : Ex H (upd (upd H o1 (.lst [])) o2 (.lst [v])) := (Evl.Ex.new n1).trans (Evl.Ex.new n2)
    have nH2 : H o2 = none := by rw [← upd_ne (H := H) (o := .lst []) ne.symm]; exact n2
    let Y : Hs := (X.and o1).and o2
    have Y1 : Y o1 = true := by show (X.and o1).and o2 o1 = true; rw [Hs.and_ne ne, Hs.and_at]
    have Y2 : Y o2 = true := Hs.and_at _ _
    let W : Nat → L2.St → Hp → Prop := fun m σ H' => ∃ (fs : List Tx) (ts : List Tm) (ws : List V) (x : Option V), σ = [some v, some (.ref o1), some (.ref o2), x] ∧ Ex H H' ∧ H' o1 = some (.lst (fs.map fun a => V.str (S a))) ∧ H' o2 = some (.lst ws) ∧
      Paired (rTm K (hid Y H')) ws ts ∧ t.flat = fs ++ Tm.flats ts.reverse ∧ m = Tm.sizes ts ∧ fs.length + Tm.sizes ts = t.size
    refine st_while W t.size ?_ ?_
    · refine ⟨[], [t], [v], none, rfl, e1, ?_, upd_same, ?_, ?_, ?_, ?_⟩
      · rw [upd_ne ne, upd_same]
        rfl
      · refine .cons (rTm_mono (Evl.Ex.le ?_) h) .nil
        exact Evl.Ex.trans (hid_and (Evl.Ex.new n1) n1) (hid_and (Evl.Ex.new n2) n2)
      · rw [List.nil_append, List.reverse_singleton, Tm.flats, Tm.flats, List.append_nil]
      · rw [Tm.sizes, Tm.sizes]; rfl
      · rw [Tm.sizes, Tm.sizes]; show 0 + _ = _; omega
    · rintro m σ H' ⟨fs, ts, ws, x, rfl, eH, h1, h2, hpd, hfl, rfl, hsz⟩
      have dm' : Dm Y H' := (((dm.ex eH).and (by rw [h1]; exact fun z => nomatch z)).and (by rw [h2]; exact fun z => nomatch z))
      refine ⟨Y, _, dm', et_neOwn rfl h2, fun H1 eH1 => ?_⟩
      have g1 := eH1 _ _ h1
      have g2 := eH1 _ _ h2
      rcases (List.eq_nil_or_concat ts).imp id (fun ⟨a, b, e⟩ => (⟨a, b, by rw [e, List.concat_eq_append]⟩ : ∃ a b, ts = a ++ [b])) with rfl | ⟨ts, t', rfl⟩
      · cases hpd
        refine iteF ?_
        rw [List.reverse_nil, Tm.flats, List.append_nil] at hfl
        refine ret_of (r := rKey) (x := t.flat) (er_keyOwn (X := X) (xs := t.flat) (i := 1) (o := o1) rfl (by rw [g1, hfl])) (dm.ex (eH.trans eH1)) fun v' H2 e2 hv => q v' H2 ((eH.trans eH1).trans e2) hv
      · obtain ⟨ws, w0, rfl, hpd, hw0⟩ := Paired.unsnoc hpd
        rw [show decide ((ws ++ [w0]).length = 0) = false from decide_eq_false (by simp)]
        refine iteT ⟨W (Tm.sizes ts + Tm.sizes t'.ps), fun σ' H2 hW => ⟨_, ?_, hW⟩, ?_⟩
        · rw [Tm.sizes_app, Tm.sizes, Tm.sizes]
          cases t' with
          | nd a ps => rw [Tm.size]; show _ + Tm.sizes ps < _; omega
        have hsz' : fs.length + (Tm.sizes ts + (1 + Tm.sizes t'.ps)) = t.size := by
          rw [Tm.sizes_app, Tm.sizes, Tm.sizes] at hsz
          cases t' with
          | nd a ps => rw [Tm.size] at hsz; exact hsz
        have hz : t.size < 1000000 := Nat.lt_of_le_of_lt hp (by decide)
        have le1 := hid_le (X := Y) eH1
        -- here = waiting.pop()
        refine st_pop rfl g2 ?_
        have gv : hid Y (upd H1 o2 (.lst ws)) = hid Y H1 := hid_upd Y2
        have g1' : (upd H1 o2 (.lst ws)) o1 = some (.lst (fs.map fun a => V.str (S a))) := by rw [upd_ne ne]; exact g1
        have dm1 : Dm Y (upd H1 o2 (.lst ws)) := fun a ha => by
          by_cases z : a = o2
          · rw [z, upd_same]; exact fun z => nomatch z
          · rw [upd_ne z]; exact dm'.ex eH1 a ha
        -- found.append(here[0])
        refine st_append (r := rTx) (x := t'.w) rfl g1' (by rw [List.length_map]; omega) dm1 (er_head (er_var rfl (by rw [gv]; exact rTm_mono le1 hw0)) er_int) fun v1 H2 e2 hv1 => ?_
        have hv1' : v1 = V.str (S t'.w) := hv1
        subst hv1'
        have k2 : (upd H2 o1 (.lst ((fs.map fun a => V.str (S a)) ++ [V.str (S t'.w)]))) o2 = some (.lst ws) := by rw [upd_ne ne.symm]; exact e2 _ _ upd_same
        have gv2 : hid Y (upd H2 o1 (.lst ((fs.map fun a => V.str (S a)) ++ [V.str (S t'.w)]))) = hid Y H2 := hid_upd Y1
        have le2 : Le (hid Y H') (hid Y H2) := le1.trans (by rw [← gv]; exact hid_le e2)
        have dm2 : Dm Y (upd H2 o1 (.lst ((fs.map fun a => V.str (S a)) ++ [V.str (S t'.w)]))) := fun a ha => by
          by_cases z : a = o1
          · rw [z, upd_same]; exact fun z => nomatch z
          · rw [upd_ne z]; exact dm1.ex e2 a ha
        -- waiting.extend(here[1:][::-1])
        have hl := Paired.len hpd
        refine st_extendT (r := rTm) (xs := t'.ps.reverse) rfl k2 ?_ dm2 (er_revT (er_tail (er_var rfl (by rw [gv2]; exact rTm_mono le2 hw0)) er_int)) fun us H3 e3 hus => ?_
        · have a1 := Tm.len_sizes ts
          have a2 := Tm.len_sizes t'.ps
          rw [hl, List.length_reverse]
          omega
        have le3 : Le (hid Y H') (hid Y (upd H3 o2 (.lst (ws ++ us)))) := le2.trans (by rw [← gv2, hid_upd Y2]; exact hid_le e3)
        refine ⟨fs ++ [t'.w], ts ++ t'.ps.reverse, ws ++ us, some w0, rfl, ?_, ?_, upd_same, ?_, ?_, ?_, ?_⟩
        · refine Evl.Ex.mut (Evl.Ex.trans ?_ e3) nH2
          refine Evl.Ex.mut (Evl.Ex.trans ?_ e2) n1
          exact Evl.Ex.mut (eH.trans eH1) nH2
        · rw [upd_ne ne, e3 _ _ upd_same, List.map_append]
          rfl
        · rw [hid_upd Y2]
          refine Paired.app (Paired.mono (fun _ _ z => rTm_mono ?_ z) hpd) hus
          rw [hid_upd Y2] at le3
          exact le3
        · rw [hfl, List.reverse_append, List.reverse_singleton, List.reverse_append, List.reverse_reverse, List.append_assoc, List.singleton_append, List.singleton_append, Tm.flats, Tm.flats_app]
          cases t' with
          | nd a ps =>
            rw [Tm.flat]
            show fs ++ (a :: Tm.flats ps ++ _) = fs ++ (a :: (Tm.flats ps ++ _))
            rw [List.cons_append]
        · rw [Tm.sizes_app, Tm.sizes_rev]
        · rw [List.length_append, Tm.sizes_app, Tm.sizes_rev]
          show fs.length + 1 + _ = _
          omega
end
end Q
set_option maxHeartbeats 4000000
/-! F3: words. -/
namespace Q
open PySem PySem.Spec PyProof.Rows L2
/-- what a Words tells -/
def rWds (C : Addr) : Rel Wd := fun K H v w => ∃ a dx ns d, v = .ref a ∧ H a = some (.ins C dx [("names", ns), ("numbers", d)]) ∧ rTup rTx K H ns (w.map Prod.fst) ∧ rDct K H d w
instance (C : Addr) : Mono (rWds C) := ⟨fun {K H H' v w} e ⟨a, dx, ns, d, h1, h2, h3, h4⟩ => ⟨a, dx, ns, d, h1, e.ins _ _ _ _ h2, (inferInstance : Mono (rTup rTx)).mono e h3, (inferInstance : Mono rDct).mono e h4⟩⟩
abbrev OwnW (K : Frag) (mg : Str → Option Value) (C : Addr) : Prop := Own K mg C "Words" ["names", "numbers"]
section
variable {P : Program} {w : World} {K : Frag} {mg : Str → Option Value} {base : Heap} {X : Hs} {σ : L2.St} {H : Hp} {te ta tb : TE} {C : Addr} {wd : Wd}
theorem er_names (T : OwnW K mg C) (h : Er K X te σ H (rWds C) wd) : Er K X (tFld K te "names") σ H (rTup rTx) (wd.map Prod.fst) :=
  er_fld h fun H1 v ⟨a, dx, ns, d, h1, h2, h3, h4⟩ => ⟨a, C, dx, _, ns, h1, h2, T.ins.cl, T.na _ (by simp), rfl, h3⟩
theorem er_numbers (T : OwnW K mg C) (h : Er K X te σ H (rWds C) wd) : Er K X (tFld K te "numbers") σ H rDct wd :=
  er_fld h fun H1 v ⟨a, dx, ns, d, h1, h2, h3, h4⟩ => ⟨a, C, dx, _, d, h1, h2, T.ins.cl, T.na _ (by simp), rfl, h4⟩
theorem ins_wds {K : Frag} {H : Hp} {v : V} (h : rWds C K H v wd) : ∃ a dx fs, v = .ref a ∧ H a = some (.ins C dx fs) := by
  obtain ⟨a, dx, ns, d, h1, h2, _⟩ := h
  exact ⟨a, dx, _, h1, h2⟩
/-! many -/
abbrev NWordsMany : List Str := ["self", "name"]
theorem scWordsMany : FnScope NWordsMany ["self", "name"] (defScope sWordsMany) := ⟨rfl, rfl, rfl, by decide +kernel, rfl, by decide +kernel, by decide +kernel⟩
abbrev spMany (K : Frag) (C : Addr) : Sp := SpF (A2 (rWds C) rTx fun _ _ => True) K (rOpt rNat) fun p => lk p.1 p.2
theorem nat_ne : ∀ H v (x : Nat), rNat K H v x → v ≠ .non := fun H v x h => by rw [show v = V.int (x : Nat) from h]; exact fun z => nomatch z
theorem ok_many (B : Bi mg) (T : OwnW K mg C) (D : Mth K C "many" "Words.many" sWordsMany ["self", "name"]) : KpM P w K mg base 1 C "many" ["self", "name"] (spMany K C) :=
  D.kp fun f fd c F => F.ok scWordsMany len2 fun cdv A outer s H vs Q E hr ⟨⟨wd, n⟩, X, dm, ⟨v, v2, e, h, h2, _⟩, q⟩ => by
    subst e
    refine ⟨_, (pss_one (ps_ret (pe_ifExp (PW.pt (pw_and (pt_val (pe_callB call_isi rfl B.isinstance (by decide +kernel) (pa_cons (pv 1) (pa_cons (pe_bltn (v := .ty "str") (u := .type "str") rfl B.str (by decide +kernel) rfl) pa_nil)))) (pw_and1 (pt_cmp (pc_din (hu_of hr) (pv 1) (pe_fld (pv 0) rfl)))))) (pe_dget (hu_of hr) (pe_fld (pv 0) rfl) (pv 1) (fun _ _ => rfl)) pe_non))), ?_⟩
    refine ret_of (r := rOpt rNat) (x := lk wd n) ?_ dm q
    refine er_if (b := true && (lk wd n).isSome) (et_and (a := true) (et_B (er_isi (r := rTx) (x := n) (er_var rfl h2) fun _ _ z => ⟨_, ty_tx z, by decide +kernel⟩)) fun _ => et_B (er_din (er_var rfl h2) (er_numbers T (er_var rfl h)))) (fun hb => ?_) fun hb => ?_
    · cases e : lk wd n with
      | none => rw [e] at hb; cases hb
      | some m => exact er_some (er_dget (er_numbers T (er_var rfl h)) (er_var rfl h2) e) fun H v => nat_ne H v m
    · cases e : lk wd n with
      | none => exact er_none
      | some m => rw [e] at hb; cases hb
theorem er_meth1 {α β : Type} {r : Rel α} {z : Rel β} {pre : α → Prop} {f : α → β} {x : α} {m : Str} {E : XK} [Mono r] (h : Er K X te σ H r x) (hf : ∀ H1 v, r K (hid X H1) v x → ∃ a dx fs, v = .ref a ∧ hid X H1 a = some (.ins C dx fs) ∧ fs.lookup m = none) (hp : pre x) : Er K X (tMeth C m (SpF (A1 r pre) K z f) [] E te tNil) σ H z (f x) := fun H1 e dm Q q =>
  h H1 e dm _ fun v H2 e2 hv => by
    obtain ⟨a, dx, fs, rfl, h2, h3⟩ := hf H2 v hv
    exact ⟨a, dx, fs, rfl, hid_get _ _ h2, h3, x, X, dm.ex e2, ⟨_, rfl, hv, hp⟩, fun w H3 e3 hw => q w H3 (e2.trans e3) hw⟩
theorem er_meth2 {α β γ : Type} {r : Rel α} {s : Rel β} {z : Rel γ} {pre : α → β → Prop} {f : α × β → γ} {x : α} {y : β} {m : Str} {E : XK} [mr : Mono r] [Mono s] (h : Er K X te σ H r x) (hf : ∀ H1 v, r K (hid X H1) v x → ∃ a dx fs, v = .ref a ∧ hid X H1 a = some (.ins C dx fs) ∧ fs.lookup m = none) (h2 : Er K X ta σ H s y) (hp : pre x y) : Er K X (tMeth C m (SpF (A2 r s pre) K z f) [] E te (tCons ta tNil)) σ H z (f (x, y)) := fun H1 e dm Q q =>
  h H1 e dm _ fun v H2 e2 hv => by
    obtain ⟨a, dx, fs, rfl, h3, h4⟩ := hf H2 v hv
    exact ⟨a, dx, fs, rfl, hid_get _ _ h3, h4, h2 H2 (e.trans e2) (dm.ex e2) _ fun w H3 e3 hw => ⟨(x, y), X, (dm.ex e2).ex e3, ⟨_, w, rfl, mr.mono (hid_le e3) hv, hw, hp⟩, fun u H4 e4 hu => q u H4 ((e2.trans e3).trans e4) hu⟩⟩
theorem er_many {n : Tx} {E : XK} (h : Er K X te σ H (rWds C) wd) (h2 : Er K X ta σ H rTx n) : Er K X (tMeth C "many" (spMany K C) [] E te (tCons ta tNil)) σ H (rOpt rNat) (lk wd n) :=
  er_meth2 (f := fun p => lk p.1 p.2) h (fun H1 v hv => by
    obtain ⟨a, dx, ns, d, h1, h2, _⟩ := hv
    exact ⟨a, dx, _, h1, h2, rfl⟩) h2 trivial
/-! need_words -/
abbrev NNeedWords : List Str := ["value"]
theorem scNeedWords : FnScope NNeedWords ["value"] (defScope sNeedWords) := ⟨rfl, rfl, rfl, by decide +kernel, rfl, by decide +kernel, by decide +kernel⟩
abbrev spNeedWords (K : Frag) (C : Addr) : Sp := SpF (A1 (rWds C) fun _ => True) K rNon fun _ => ()
theorem ok_needWords (B : Bi mg) (T : OwnW K mg C) (D : Dfn K mg "need_words" sNeedWords ["value"]) : Kp P w K mg base 1 "need_words" ["value"] (spNeedWords K C) :=
  D.kp fun f fd F hm b => F.ok scNeedWords len1 fun cdv A outer s H vs Q E hr ⟨wd, X, dm, ⟨v, e, h, _⟩, q⟩ => by
    subst e
    refine ⟨_, (pss_one (ps_if (pt_not (pt_val (pe_callB (C8.call_isC T.ins) rfl B.isinstance (by decide +kernel) (pa_cons (pv 0) (pa_cons (C8.pe_gc rfl T.gc) pa_nil))))) (pss_one ps_never) pss_nil)), ?_⟩
    exact st_skip (et_not (a := true) (et_B (er_isC T (er_var rfl h) fun _ _ => ins_wds))) dm fun H2 e2 => q _ H2 e2 rfl
/-! __eq__ -/
abbrev NWordsEq : List Str := ["self", "other"]
theorem scWordsEq : FnScope NWordsEq ["self", "other"] (defScope sWordsEq) := ⟨rfl, rfl, rfl, by decide +kernel, rfl, by decide +kernel, by decide +kernel⟩
/-- two that tell the same -/
def sameW (K : Frag) (C : Addr) : Addr → Addr → Hp → Prop := fun a b H => ∃ X wd, Dm X H ∧ (wd.map Prod.fst).Nodup ∧ rWds C K (hid X H) (.ref a) wd ∧ rWds C K (hid X H) (.ref b) wd
theorem sameW_mono {a b : Addr} {H H' : Hp} (e : Ext H H') (h : sameW K C a b H) : sameW K C a b H' := by
  obtain ⟨X, wd, dm, hn, h1, h2⟩ := h
  exact ⟨X, wd, dm.ex e, hn, (inferInstance : Mono (rWds C)).mono (hid_le e) h1, (inferInstance : Mono (rWds C)).mono (hid_le e) h2⟩
theorem lk_self {wd : Wd} (h : (wd.map Prod.fst).Nodup) : ∀ p ∈ wd, lk wd p.1 = some p.2 := fun p hp => lk_of h hp
theorem ok_wordsEq (B : Bi mg) (T : OwnW K mg C) (D : Mth K C "__eq__" "Words.__eq__" sWordsEq ["self", "other"]) : KpM P w K mg base 1 C "__eq__" ["self", "other"] (spEq (sameW K C)) :=
  D.kp fun f fd c F => F.ok scWordsEq (fun vs H Q E ⟨a, b, e, _⟩ => by rw [e]; rfl) fun cdv A outer s H vs Q E hr ⟨a, b, e, ⟨X, wd, dm, hn, h1, h2⟩, q⟩ => by
    subst e
    refine ⟨_, (pss_one (ps_ret (pe_and (pe_callB (C8.call_isC T.ins) rfl B.isinstance (by decide +kernel) (pa_cons (pv 1) (pa_cons (C8.pe_gc rfl T.gc) pa_nil))) (pe_one (pe_cmpR (op_eqDR (hu0 hr)) (pe_fld (pv 0) rfl) (pe_fld (pv 1) rfl) (nomark _)))))), ?_⟩
    refine ret_of (r := rBl) (x := true) (er_andV (a := true) (b := true) (er_isC T (er_var rfl h2) fun _ _ => ins_wds) fun _ => er_eqDR (er_numbers T (er_var rfl h1)) (er_numbers T (er_var rfl h2)) rfl (lk_self hn)) dm fun v H' e hv => ?_
    rw [show v = V.bl true from hv]
    exact q H' e
end
end Q
set_option maxHeartbeats 4000000
/-! F4: Words(..). -/
namespace Q
open PySem PySem.Spec PyProof.Rows L2
/-- all but a stays -/
def Off (a : Addr) (H H' : Hp) : Prop := ∀ b o, b ≠ a → H b = some o → H' b = some o
section
variable {P : Program} {w : World} {K : Frag} {mg : Str → Option Value} {base : Heap} {X : Hs} {σ : L2.St} {H : Hp} {te ta tb : TE} {C : Addr} {wd : Wd} {α β : Type} {r : Rel α}
theorem er_fldOwn [m : Mono r] {f : Str} {u : V} {y : α} {i : Nat} {a dx : Addr} {fs : List (Str × V)} (hs : σ[i]? = some (some (.ref a))) (ha : H a = some (.ins C dx fs)) (c : Cls K C) (n : NoAttr K C f) (hl : fs.lookup f = some u) (hr : r K (hid X H) u y) : Er K X (tFld K (tVar i) f) σ H r y := fun H1 e _ Q q =>
  ⟨.ref a, hs, a, C, dx, fs, u, rfl, e _ _ ha, c, n, hl, q _ H1 (Evl.Ex.refl _) (m.mono (hid_le e) hr)⟩
/-- what Words(places) asks of a dict: l in its order, w by names -/
structure OkWd (l w : Wd) : Prop where
  ne : l ≠ []
  few : l.length ≤ 6
  nd : (l.map Prod.fst).Nodup
  good : ∀ p ∈ l, isName p.1 = true ∧ p.2 ≤ 3
  zero : ∃ p ∈ l, p.2 = 0
  perm : w.Perm l
  srt : Srt (w.map Prod.fst)
theorem isName_len {x : Tx} (h : isName x = true) : x.length < 1000000 := by
  unfold isName at h
  rw [Bool.and_eq_true, Bool.and_eq_true] at h
  have := of_decide_eq_true h.1.2
  omega
abbrev NWordsInit : List Str := ["self", "places", "name", "many"]
theorem scWordsInit : FnScope NWordsInit ["self", "places"] (defScope sWordsInit) := ⟨rfl, rfl, rfl, by decide +kernel, rfl, by decide +kernel, by decide +kernel⟩
def spWordsInit (K : Frag) (C : Addr) : Sp := fun vs H Q _ => ∃ a dx d l wd X, vs = [.ref a, .ref d] ∧ H a = some (.ins C dx []) ∧ X a = true ∧ X d = false ∧ Dm X H ∧ H d = some (.dK (kvsW l)) ∧ OkWd l wd ∧
  ∀ ns nd H', Off a H H' → H' a = some (.ins C dx [("names", ns), ("numbers", nd)]) → rTup rTx K (hid X H') ns (wd.map Prod.fst) → rDct K (hid X H') nd wd → Q .non H'
theorem ok_wordsInit (B : Bi mg) (G : Gs mg) (T : OwnW K mg C) (c_is_name : Kp P w K mg base 1 "is_name" ["value"] (spIsName K)) (c_is_between : Kp P w K mg base 2 "is_between" ["value", "low", "high"] (spIsBetween K))
    (D : Mth K C "__init__" "Words.__init__" sWordsInit ["self", "places"]) : KpM P w K mg base 3 C "__init__" ["self", "places"] (spWordsInit K C) :=
  D.kp fun f fd c F => F.ok scWordsInit (fun vs H Q E ⟨a, dx, d, l, wd, X, e, _⟩ => by rw [e]; rfl) fun cdv A outer s H vs Q E hr ⟨a, dx, d, l, wd, X, e, ha, hXa, hXd, dm, hd, ok, q⟩ => by
    subst e
    refine ⟨_, (pss_cons (ps_if (PW.pt (pw_or (pt_not (pt_val (pe_callB call_isi rfl B.isinstance (by decide +kernel) (pa_cons (pv 1) (pa_cons (pe_bltn (v := .ty "dict") (u := .type "dict") rfl B.dict (by decide +kernel) rfl) pa_nil))))) (pw_or1 (pt_cmpR (op_eqDE (hu0 hr)) (pv 1) pe_dnewK (nomark _))))) (pss_one ps_never) pss_nil)
    (pss_cons (ps_if (pt_cmpR op_gt (pe_callB call_lenD rfl B.len (by decide +kernel) (pa_cons (pv 1) pa_nil)) (C8.pe_gc rfl G.MOST_WORDS) (nomark _)) (pss_one ps_never) pss_nil)
    (pss_cons (ps_lock (ps_for PassesOwn.never rfl (pi_items (pv 1)) (pg_tup rfl (pgs_cons (pg_name (i := 2) scWordsInit.nd rfl (.inl rfl)) (pgs_cons (pg_name (i := 3) scWordsInit.nd rfl (.inl rfl)) pgs_nil))) (pss_cons (ps_if (pt_not (pt_val (pe_kp c_is_name hr (by decide) (pa_cons (pv 2) pa_nil)))) (pss_one ps_never) pss_nil)
    (pss_one (ps_if (pt_not (pt_val (pe_kp c_is_between hr (by decide) (pa_cons (pv 3) (pa_cons pe_int (pa_cons (C8.pe_gc rfl G.MOST_PLACES) pa_nil)))))) (pss_one ps_never) pss_nil)))))
    (pss_cons (ps_if (pt_cmp (pc_lock (pc_notInVals rfl pe_int (pv 1)))) (pss_one ps_never) pss_nil)
    (pss_cons (ps_fld (pv 0) (pe_lock (pe_callTy call_tuple_of rfl B.tuple (by decide +kernel) (pa_cons (pe_callB cr_sortedS rfl B.sorted (by decide +kernel) (pa_cons (pe_lc (own := [("name", 2)]) (g := gName 2) (tt := tYes) rfl scWordsInit.nd (pi_keys (pv 1)) (blkOk_by (N := NWordsInit) (sc := defScope sWordsInit) (by decide +kernel)) (fun _ _ _ _ _ => (pg_name (i := 2) scWordsInit.nd rfl (.inl rfl))) (fun _ _ _ _ _ => pts_nil) (fun _ _ _ _ _ => (pe_callTy SkE.call_str_str rfl B.str (by decide +kernel) (pa_cons (pv 2) pa_nil)))) pa_nil)) pa_nil))) rfl)
    (pss_one (ps_fld (pv 0) (pe_dc (own := [("name", 2)]) (g := gName 2) (tt := tYes) rfl scWordsInit.nd (pi_tup (pe_fld (pv 0) rfl)) (blkOk_by (N := NWordsInit) (sc := defScope sWordsInit) (by decide +kernel)) (fun _ _ _ _ _ => (pg_name (i := 2) scWordsInit.nd rfl (.inl rfl))) (fun _ _ _ _ _ => pts_nil) (fun _ _ _ _ _ => (pv 2)) (fun _ _ _ _ _ => (pe_dget (hu_of hr) (pv 1) (pv 2) (fun _ _ => rfl)))) rfl))))))), ?_⟩
    have hlen : l.length ≠ 0 := fun z => ok.ne (List.length_eq_zero_iff.mp z)
    have hwl : wd.length = l.length := ok.perm.length_eq
    have hndw : (wd.map Prod.fst).Nodup := (ok.perm.map _).nodup_iff.mpr ok.nd
    -- it is a dict, not empty
    refine st_skip (et_or (a := false) (b := false) (et_not (a := true) (et_B (K := K) fun H1 e1 _ Q k => ⟨.ref d, rfl, .ref d, .ty "dict", .type "dict", .type "dict", true, rfl, .ty "dict", .base (.dK (e1 _ _ hd)), kit_ty (by decide +kernel), k _ H1 (Evl.Ex.refl _) rfl⟩)) fun _ => et_test (Er.is (er_eqDE (K := K) (X := X) (i := 1) rfl hd) (decide_eq_false hlen))) dm fun H1 e1 => ?_
    have hd1 := e1 _ _ hd
    refine st_skip (et_test (Er.is (er_cmp0 (g := fun i j => decide (j < i)) (er_lenD (K := K) (X := X) (i := 1) rfl hd1) er_int) (decide_eq_false (by have := ok.few; omega)))) (dm.ex e1) fun H2 e2 => ?_
    have hd2 := e2 _ _ hd1
    have dm2 := (dm.ex e1).ex e2
    -- the loop
    refine ⟨d, _, hd2, trivial, fun od => ?_⟩
    refine st_for (K := K) (X := X) (r := rPr rTx rNat) (xs := l) (fun B n σ' H' => (∃ x y, σ' = [some (.ref a), some (.ref d), x, y]) ∧ Ex B H') (ei_items rfl upd_same) dm2.upd' (fun B _ => ⟨⟨_, _, rfl⟩, Evl.Ex.refl _⟩) (fun B n σ' H' _ h => h.2) ?_ ?_
    · rintro Bh n p σ' H' eB hp ⟨⟨x, y, rfl⟩, e3⟩ v H3 e4 hv
      have hmem := List.mem_of_getElem? hp
      have dB : Dm X Bh := dm2.upd'.ex eB
      have hv' := hv X (hid_ex (e3.trans e4)) (dB.ex e3)
      refine eg_pr (r := rTx) (s := rNat) (x := p.1) (y := p.2) X v H3 hv' _ fun σ2 ⟨v1, v2, eσ, hv1, hv2⟩ => ?_
      subst eσ
      obtain ⟨hg1, hg2⟩ := ok.good p hmem
      have dm3 := (dB.ex e3).ex e4
      refine st_skip (X := X) (et_not (a := true) (et_B (Er.is (er_call1 (r := rTx) (f := isName) (x := p.1) (er_var rfl hv1) (isName_len hg1)) hg1))) dm3 fun H4 e5 => ?_
      refine st_skip (X := X) (et_not (a := true) (et_B (Er.is (er_call3 (r := rInt) (s := rInt) (t := rInt) (f := fun p : Int × Int × Int => decide (p.2.1 ≤ p.1) && decide (p.1 ≤ p.2.2)) (x := (p.2 : Int)) (y := 0) (c := 3) (er_var rfl (show rInt K (hid X H4) v2 (p.2 : Int) from hv2)) er_int er_int ?_) ?_))) (dm3.ex e5) fun H5 e6 => ?_
      · show (if ((p.2 : Nat) : Int) < 0 then _ else _) < _
        rw [if_neg (by omega)]
        have : ((p.2 : Nat) : Int) ≤ 3 := by omega
        exact Int.lt_of_le_of_lt this (by decide)
      · show (decide (0 ≤ ((p.2 : Nat) : Int)) && decide (((p.2 : Nat) : Int) ≤ 3)) = true
        rw [decide_eq_true (by omega), decide_eq_true (by omega)]
        rfl
      · exact ⟨⟨_, _, rfl⟩, ((e3.trans e4).trans e5).trans e6⟩
    rintro Bh σ' H3 eB ⟨⟨x, y, rfl⟩, e3⟩
    have g3 : H3 d = some (.frz od (.dK (kvsW l))) := e3 _ _ (eB _ _ upd_same)
    refine ⟨g3, ?_⟩
    have E3 : Ex H (upd H3 d (.dK (kvsW l))) := (e1.trans e2).trans (ex_locked (Evl.Ex.refl _) hd2 (eB.trans e3))
    generalize hH4 : upd H3 d (.dK (kvsW l)) = H4 at E3
    have dm4 := dm.ex E3
    -- 0 is there
    refine st_skip (X := X) (et_B (K := K) (er_lock (E3 _ _ hd) fun od2 H5 e5 => Er.is (er_notInVals (w := l) (n := 0) er_int rfl upd_same) ?_)) dm4 fun H5 e5 => ?_
    · obtain ⟨p, hp, hz⟩ := ok.zero
      rw [decide_eq_true (List.mem_map.mpr ⟨p, hp, by rw [hz]; rfl⟩)]
      rfl
    have E5 := E3.trans e5
    have dm5 := dm.ex E5
    -- names
    refine st_fld (r := rTup rTx) (x := wd.map Prod.fst) rfl (E5 _ _ ha) T.ins.cl (T.na _ (by simp)) (by decide) (er_lock (E5 _ _ hd) fun od2 H6 e6 => ?_) dm5 fun ns H6 e6 hns => ?_
    · have z := er_lc (K := K) (X := X) (H := upd H6 d (.frz od2 (.dK (kvsW l)))) (σ := [some (.ref a), some (.ref d), x, y]) (i := 2) (r := rTx) (s := rTx) (xs := l.map Prod.fst) (f := fun x => x) (te := tCB rStrS (tCons (tVar 2) tNil)) (ei_keys (i := 1) (d := d) (od := od2) (w := l) rfl upd_same) (by rw [List.length_map]; have := ok.few; omega) fun z hz Y v H' e' hv => er_strS (er_var rfl hv)
      rw [List.map_id'] at z
      exact er_tupL (er_sortedTx z (by rw [List.length_map]; have := ok.few; omega) (ok.perm.map _) ok.srt)
    have E6 := E5.trans e6
    have dm6 := dm.ex E6
    have n6 : H6 a = some (.ins C dx []) := E6 _ _ ha
    have hda : d ≠ a := fun z => by rw [z, hXa] at hXd; cases hXd
    have d6 : H6 d = some (.dK (kvsW l)) := E6 _ _ hd
    have hns' : rTup rTx K (hid X (upd H6 a (.ins C dx (putF "names" ns [])))) ns (wd.map Prod.fst) := by rw [hid_upd hXa]; exact hns
    -- numbers
    refine st_fld (r := rDct) (x := wd) rfl upd_same T.ins.cl (T.na _ (by simp)) (by show 1 < 1000; decide) (Er.is (er_dc (K := K) (X := X) (i := 2) (r := rTx) (xs := wd.map Prod.fst) (f := fun x => x) (g := fun n => (lk l n).getD 0) (ei_tup (er_fldOwn (i := 0) rfl upd_same T.ins.cl (T.na _ (by simp)) rfl hns')) ?_ ?_ ?_ ?_) ?_) dm6.upd' fun nd H7 e7 hnd => ?_
    · rw [List.length_map, hwl]; have := ok.few; omega
    · rw [List.map_id']; exact hndw
    · exact fun z _ Y v H' e' hv => er_var rfl hv
    · intro z hz Y v H' e' hv
      obtain ⟨p, hp, rfl⟩ := List.mem_map.mp hz
      have hl : lk l p.1 = some p.2 := lk_of ok.nd (ok.perm.mem_iff.mp hp)
      refine er_dget (w := l) (n := p.1) (m := (lk l p.1).getD 0) (er_var (i := 1) rfl ?_) (er_var rfl hv) (by rw [hl]; rfl)
      refine ⟨d, rfl, .inl (e' _ _ (hid_some.mpr ⟨hXd, ?_⟩))⟩
      rw [upd_ne hda]; exact d6
    · rw [List.map_map]
      refine (List.map_congr_left (g := id) fun p hp => ?_).trans (List.map_id _)
      have hl : lk l p.1 = some p.2 := lk_of ok.nd (ok.perm.mem_iff.mp hp)
      show (p.1, (lk l p.1).getD 0) = p
      rw [hl]; rfl
    · have g7 := e7 _ _ (upd_same (H := H6) (a := a) (o := .ins C dx (putF "names" ns [])))
      refine q ns nd _ (fun b o hb h => ?_) (by rw [upd_same]; rfl) ?_ ?_
      · rw [upd_ne hb]
        refine e7 _ _ ?_
        rw [upd_ne hb]
        exact E6 _ _ h
      · rw [hid_upd hXa]
        exact (inferInstance : Mono (rTup rTx)).mono (hid_le e7) hns'
      · rw [hid_upd hXa]
        exact hnd
end
end Q
set_option maxHeartbeats 4000000
/-! F5: making things of the program's classes; shape_of. -/
namespace Q
open PySem PySem.Spec PyProof.Rows L2
theorem sq {t u : TS} {D : Ends} {σ : L2.St} {H : Hp} (h : t { D with nx := u D } σ H) : tSeq t u D σ H := h
def p_of (v : V) : Option V := some v
structure MkC (K : Frag) (C : Addr) : Prop where
  makes : PySem.W.makesIn K C = true
  kp : PySem.W.keepIn K (.ref C) = true
section
variable {X : Cx} {k j : Nat} {x m : Str} {ps : List Str} {sp : Sp} {C : Addr} {e o : Expr} {es : List Expr} {p pos apos : Pos} {t : TA} {ta : TE}
theorem KpM.mk {P : Program} {w : World} {K : Frag} {mg : Str → Option Value} {base : Heap} (c : KpM P w K mg base k C "__init__" ps sp) (M : MkC K C) : ∃ f fd, FnOk P w K mg base CX0 k f fd ps sp ∧ Mk K C f ∧ Binds K fd ps [] := by
  obtain ⟨f, fd, F, _, h, b⟩ := c
  exact ⟨f, fd, F, ⟨M.makes, h.at_, h.fn, M.kp⟩, b⟩
theorem pe_mkK (c : KpM X.prog X.w X.K X.mg X.base k C "__init__" ps sp) (M : MkC X.K C) (hm : X.mg x = some (.ref C)) (hr : Room j X.A) (hk : k + 1 ≤ j) (ha : PA X (e :: es) t) (hg : Gl X x := by rfl) (hdb : (x == ("__debug__" : Str)) = false := by decide)
    (he : starEach (e :: es) X.env = (false, eval e X.env) :: starEach es X.env := by rfl) (hpl : (backTo pos (starEach es X.env)).any (·.1) = false := by rfl) : PE X (.Call (.Name x p) (e :: es) [] pos) (tMake C sp [] E0 t) := by
  obtain ⟨f, fd, F, M', b⟩ := c.mk M
  exact pe_make M' F (hr.mono hk) hg hm b .nil pass0 ha hdb he hpl
/-- o.m(e, ..) -/
theorem pe_km {pl : Sem Bool} (c : KpM X.prog X.w X.K X.mg X.base k C m ps sp) (hr : Room j X.A) (hk : k ≤ j) (he : PE X o ta) (ha : PA X (e :: es) t)
    (hst : starEach (e :: es) X.env = (false, eval e X.env) :: starEach es X.env := by rfl) (hpl : (backTo pos (starEach es X.env)).any (·.1) = false := by rfl)
    (ht : eval (.Call (.Attribute o m apos) (e :: es) [] pos) X.env = (do
      let ov ← eval o X.env
      standAt apos.atName
      let (f, first) ← holding [ov] (getMethod ov m pl)
      callWith pos f first (backTo pos (starEach (e :: es) X.env)) (backToKw pos (keywordEach [] X.env))) := by rfl) :
    PE X (.Call (.Attribute o m apos) (e :: es) [] pos) (tMeth C m sp [] E0 ta t) := by
  obtain ⟨f, fd, F, cl, hm, b⟩ := c
  exact pe_meth he cl hm F (hr.mono hk) b .nil pass0 ha hst hpl ht
theorem pe_km0 {pl : Sem Bool} (c : KpM X.prog X.w X.K X.mg X.base k C m ps sp) (hr : Room j X.A) (hk : k ≤ j) (he : PE X o ta)
    (ht : eval (.Call (.Attribute o m apos) [] [] pos) X.env = (do
      let ov ← eval o X.env
      standAt apos.atName
      let (f, first) ← holding [ov] (getMethod ov m pl)
      callWith pos f first (backTo pos (starEach [] X.env)) (backToKw pos (keywordEach [] X.env))) := by rfl) :
    PE X (.Call (.Attribute o m apos) [] [] pos) (tMeth C m sp [] E0 ta tNil) := by
  obtain ⟨f, fd, F, cl, hm, b⟩ := c
  exact pe_meth0 he cl hm F (hr.mono hk) b .nil pass0 ht
end
theorem ex_make {H H1 : Hp} {x dx : Addr} {C : Addr} (nx : H x = none) (nd : H dx = none) (h : Off x (upd (upd H dx (.own x)) x (.ins C dx [])) H1) : Ex H H1 := fun b o q => by
  have h1 : b ≠ x := ne_of_none q nx
  have h2 : b ≠ dx := ne_of_none q nd
  exact h b o h1 (by rw [upd_ne h1, upd_ne h2]; exact q)
section
variable {P : Program} {w : World} {K : Frag} {mg : Str → Option Value} {base : Heap} {X : Hs} {σ : L2.St} {H : Hp} {te ta tb : TE} {C : Addr} {wd l : Wd} {d : Addr} {i : Nat} {E : XK}
theorem er_mkWords (hs : σ[i]? = some (some (.ref d))) (hd : H d = some (.dK (kvsW l))) (hX : X d = false) (ok : OkWd l wd) : Er K X (tMake C (spWordsInit K C) [] E (tCons (tVar i) tNil)) σ H (rWds C) wd := fun H1 e dm Q k =>
  ⟨.ref d, hs, fun x dx nx nd ne => by
    have hd1 := e _ _ hd
    have d1 : d ≠ x := ne_of_none hd1 nx
    have d2 : d ≠ dx := ne_of_none hd1 nd
    refine ⟨x, dx, d, l, wd, X.and x, rfl, upd_same, Hs.and_at _ _, by rw [Hs.and_ne d1]; exact hX, ?_, ?_, ok, fun ns nd' H' off g1 g2 g3 => ⟨rfl, ?_⟩⟩
    · exact Dm.and dm.upd'.upd' (by rw [upd_same]; exact fun z => nomatch z)
    · rw [upd_ne d1, upd_ne d2]; exact hd1
    · exact k _ _ (ex_make nx nd off) ⟨x, dx, ns, nd', rfl, by rw [hid_out (dm.new nx)]; exact g1, (inferInstance : Mono (rTup rTx)).mono hid_sub.le g2, (inferInstance : Mono rDct).mono hid_sub.le g3⟩⟩
/-! ### terms that go with words -/
mutual
def Tm.ok (wd : Wd) : Tm → Prop
  | .nd w ps => lk wd w = some ps.length ∧ Tm.oks wd ps
def Tm.oks (wd : Wd) : List Tm → Prop
  | [] => True
  | p :: ps => p.ok wd ∧ Tm.oks wd ps
end
theorem Tm.oks_mem : ∀ {ps : List Tm} {p : Tm}, Tm.oks wd ps → p ∈ ps → p.ok wd
  | q :: ps, p, h, hp => by
    unfold Tm.oks at h
    rcases List.mem_cons.mp hp with rfl | hp
    · exact h.1
    · exact Tm.oks_mem h.2 hp
theorem Tm.sizes_take : ∀ (ps : List Tm) (n : Nat), Tm.sizes (ps.take n) ≤ Tm.sizes ps
  | [], n => by rw [List.take_nil]; exact Nat.le_refl _
  | p :: ps, 0 => by rw [List.take_zero, show Tm.sizes [] = 0 by rw [Tm.sizes]]; exact Nat.zero_le _
  | p :: ps, n + 1 => by
    rw [List.take_succ_cons, show Tm.sizes (p :: ps.take n) = p.size + Tm.sizes (ps.take n) by rw [Tm.sizes], show Tm.sizes (p :: ps) = p.size + Tm.sizes ps by rw [Tm.sizes]]
    have := Tm.sizes_take ps n
    omega
abbrev NShapeOf : List Str := ["words", "value", "deep", "many", "found", "part", "here"]
theorem scShapeOf : FnScope NShapeOf ["words", "value", "deep"] (defScope sShape) := ⟨rfl, rfl, rfl, by decide +kernel, rfl, by decide +kernel, by decide +kernel⟩
abbrev spShape (K : Frag) (C : Addr) (n : Nat) : Sp := SpF (A3 (rWds C) rTm rNat fun wd t d => t.ok wd ∧ t.deep ≤ d ∧ t.size ≤ 200 ∧ d ≤ n) K (rOpt rNat) fun p => some p.2.1.size
theorem ok_shape (B : Bi mg) (G : Gs mg) (T : OwnW K mg C) (m_many : KpM P w K mg base 1 C "many" ["self", "name"] (spMany K C)) (D : Dfn K mg "shape_of" sShape ["words", "value", "deep"]) : ∀ n, Kp P w K mg base (n + 2) "shape_of" ["words", "value", "deep"] (spShape K C n)
  | 0 => D.kp fun f fd F hm b => F.ok scShapeOf len3 fun cdv A outer s H vs Q E hr ⟨⟨wd, t, n⟩, X, _, ⟨v, v2, v3, e, h, h2, h3, h4, hd, _, hn⟩, _⟩ => by
      cases t with
      | nd a ps =>
        have hd' : (Tm.nd a ps).deep ≤ n := hd
        have hn' : n ≤ 0 := hn
        unfold Tm.deep at hd'
        omega
  | n + 1 => D.kp fun f fd F hm b => F.ok scShapeOf len3 fun cdv A outer s H vs Q E hr ⟨⟨wd, t, m⟩, X, dm, ⟨v, v2, v3, e, h, h2, h3, h4, hd, hz, hn⟩, q⟩ => by
      subst e
      refine ⟨_, (pss_cons (ps_if (PW.pt (pw_or (pt_cmpR op_eq (pv 2) pe_int (nomark _)) (pw_or (pt_not (pt_val (pe_callB call_isi rfl B.isinstance (by decide +kernel) (pa_cons (pv 1) (pa_cons (pe_bltn (v := .ty "tuple") (u := .type "tuple") rfl B.tuple (by decide +kernel) rfl) pa_nil))))) (pw_or1 (pt_cmpR (op_eqNilT (hu0 hr)) (pv 1) (pe_tup pa_nil) (nomark _)))))) (pss_one (ps_ret pe_non)) pss_nil)
    (pss_cons (ps_set (i := 3) scShapeOf.nd rfl (.inl rfl) (pe_km m_many hr (by omega) (pv 0) (pa_cons (pe_ix ix_tup (pv 1) pe_int (fun _ _ => rfl)) pa_nil)))
    (pss_cons (ps_if (PW.pt (pw_or (pt_cmp (pc_isN (pv 3))) (pw_or1 (pt_cmpR op_ne (pe_callB call_len rfl B.len (by decide +kernel) (pa_cons (pv 1) pa_nil)) (pe_op op_add (pv 3) pe_int) (nomark _))))) (pss_one (ps_ret pe_non)) pss_nil)
    (pss_cons (ps_set (i := 4) scShapeOf.nd rfl (.inl rfl) pe_int)
    (pss_cons (ps_for PassesOwn.never rfl (pi_tup (pe_slice sl_tupA (pv 1) (po_some pe_int) po_none)) (pg_name (i := 5) scShapeOf.nd rfl (.inl rfl)) (pss_cons (ps_set (i := 6) scShapeOf.nd rfl (.inl rfl) (pe_kp (ok_shape B G T m_many D n) hr (Nat.le_refl _) (pa_cons (pv 0) (pa_cons (pv 5) (pa_cons (pe_op op_sub (pv 2) pe_int) pa_nil)))))
    (pss_cons (ps_if (PW.pt (pw_or (pt_cmp (pc_isN (pv 6))) (pw_or1 (pt_cmpR op_gt (pe_op op_add (pv 4) (pv 6)) (C8.pe_gc rfl G.MOST_SYMBOLS) (nomark _))))) (pss_one (ps_ret pe_non)) pss_nil)
    (pss_one (ps_aug (i := 4) scShapeOf.nd rfl (.inl rfl) (pv 6) ip_add)))))
    (pss_one (ps_ret (pv 4)))))))), ?_⟩
      cases t with
      | nd a ps =>
      have hd : (Tm.nd a ps).deep ≤ m := hd
      have hn : m ≤ n + 1 := hn
      have hm1 : 1 ≤ m := by unfold Tm.deep at hd; omega
      obtain ⟨hlk, hoks⟩ := (show lk wd a = some ps.length ∧ Tm.oks wd ps by unfold Tm.ok at h4; exact h4)
      have hdp : Tm.deeps ps ≤ m - 1 := by unfold Tm.deep at hd; omega
      have hsz : 1 + Tm.sizes ps ≤ 200 := by unfold Tm.size at hz; exact hz
      refine st_skip (X := X) (et_or (a := false) (b := false) (et_test (Er.is (er_eqI (K := K) (i := (m : Int)) (j := 0) (er_var rfl (show rInt K (hid X _) v3 (m : Int) from h3)) er_int) (decide_eq_false (by omega)))) fun _ => et_or (a := false) (b := false) (et_not (a := true) (et_B (er_isi (r := rTm) (x := .nd a ps) (er_var rfl h2) fun _ _ z => ⟨_, ty_tm z, by decide +kernel⟩))) fun _ => et_test (er_tmNil (t := .nd a ps) (er_var rfl h2) er_nilT)) dm fun H2 e2 => ?_
      have w2 := (inferInstance : Mono (rWds C)).mono (hid_le e2) h
      have t2 := rTm_mono (hid_le e2) h2
      refine st_set (r := rOpt rNat) (x := some ps.length) (Er.is (er_many (er_var rfl w2) (er_head (t := .nd a ps) (er_var rfl t2) er_int)) hlk) (dm.ex e2) fun v4 H3 e3 hv4 => ?_
      have w3 := (inferInstance : Mono (rWds C)).mono (hid_le e3) w2
      have t3 := rTm_mono (hid_le e3) t2
      have dm3 := (dm.ex e2).ex e3
      have i4 : rInt K (hid X H3) v4 (ps.length : Int) := hv4.2
      refine st_skip (X := X) (et_or (a := false) (b := false) (et_B (Er.is (er_isN (K := K) (r := rNat) (x := some ps.length) (er_var rfl hv4)) rfl)) fun _ => et_test (Er.is (er_neI (K := K) (er_lenTm (t := .nd a ps) (er_var rfl t3)) (er_op0 (g := fun i j => i + j) (er_var rfl i4) er_int)) ?_)) dm3 fun H4 e4 => ?_
      · show (!decide (((ps.length + 1 : Nat) : Int) = (ps.length : Int) + 1)) = false
        rw [decide_eq_true (by omega)]; rfl
      have dm4 := dm3.ex e4
      dsimp only
      refine sq (st_set (K := K) (r := rInt) (x := 1) er_int dm4 fun v5 H5 e5 hv5 => ?_)
      have w5 := (inferInstance : Mono (rWds C)).mono (hid_le (e4.trans e5)) w3
      have t5 := rTm_mono (hid_le (e4.trans e5)) t3
      have dm5 := dm4.ex e5
      have hv5' : v5 = V.int 1 := hv5
      subst hv5'
      have e35 : Ex H H5 := ((e2.trans e3).trans e4).trans e5
      refine st_for (K := K) (X := X) (r := rTm) (xs := ps) (fun B k σ' H' => (∃ x y, σ' = [some v, some v2, some v3, some v4, some (.int ((1 + Tm.sizes (ps.take k) : Nat) : Int)), x, y]) ∧ Ex B H') (ei_tup (er_tail (t := .nd a ps) (er_var rfl t5) er_int)) dm5 (fun B _ => ⟨⟨_, _, by rw [List.take_zero, Tm.sizes]; rfl⟩, Evl.Ex.refl _⟩) (fun B n σ' H' _ h => h.2) ?_ ?_
      · rintro Bh k p σ' H' eB hp ⟨⟨x, y, rfl⟩, e6⟩ pvv H7 e7 hv
        have hmem := List.mem_of_getElem? hp
        have dB := dm5.ex eB
        have hv' := hv X (hid_ex (e6.trans e7)) (dB.ex e6)
        refine eg_name (r := rTm) X pvv H7 hv' _ fun σ2 ⟨v1, eσ, hv1⟩ => ?_
        subst eσ
        have E7 : Ex H5 H7 := (eB.trans e6).trans e7
        have w7 := (inferInstance : Mono (rWds C)).mono (hid_le E7) w5
        have dm7 := dm5.ex E7
        have hsp : p.size ≤ Tm.sizes ps := Tm.size_mem hmem
        have htk : ps.take (k + 1) = ps.take k ++ [p] := by rw [List.take_add_one, hp]; rfl
        have hs1 : Tm.sizes (ps.take (k + 1)) = Tm.sizes (ps.take k) + p.size := by
          rw [htk, Tm.sizes_app, show Tm.sizes [p] = p.size + 0 by rw [Tm.sizes, Tm.sizes]]
          omega
        have hs2 := Tm.sizes_take ps (k + 1)
        refine sq (st_set (K := K) (X := X) (r := rOpt rNat) (x := some p.size) (er_call3 (r := rWds C) (s := rTm) (t := rNat) (f := fun p : Wd × Tm × Nat => some p.2.1.size) (x := wd) (y := p) (c := m - 1) (er_var rfl w7) (er_var rfl hv1) (er_toNat (Er.is (er_op0 (g := fun i j => i - j) (i := (m : Int)) (j := 1) (er_var rfl (show rInt K (hid X _) v3 (m : Int) from h3)) er_int) (by omega))) ⟨Tm.oks_mem hoks hmem, Tm.deeps_le hdp p hmem, by omega, by omega⟩) dm7 fun v8 H8 e8 hv8 => ?_)
        have i8 : rInt K (hid X H8) v8 (p.size : Int) := hv8.2
        refine st_skip (X := X) (et_or (a := false) (b := false) (et_B (Er.is (er_isN (K := K) (r := rNat) (x := some p.size) (er_var rfl hv8)) rfl)) fun _ => et_test (Er.is (er_cmp0 (K := K) (g := fun i j => decide (j < i)) (i := ((1 + Tm.sizes (ps.take k) : Nat) : Int) + (p.size : Int)) (j := 200) (er_op0 (g := fun i j => i + j) (er_var rfl rfl) (er_var rfl i8)) er_int) (decide_eq_false (by omega)))) (dm7.ex e8) fun H9 e9 => ?_
        refine ⟨_, rfl, v8, rfl, _, _, rfl, i8, ⟨p_of v1, some v8, ?_⟩, ((e6.trans e7).trans e8).trans e9⟩
        rw [hs1]
        show [some v, some v2, some v3, some v4, some (.int (((1 + Tm.sizes (ps.take k) : Nat) : Int) + (p.size : Int))), some v1, some v8] = _
        rw [show ((1 + Tm.sizes (ps.take k) : Nat) : Int) + (p.size : Int) = ((1 + (Tm.sizes (ps.take k) + p.size) : Nat) : Int) by omega]
        rfl
      · rintro Bh σ' H' eB ⟨⟨x, y, rfl⟩, e6⟩
        rw [List.take_length]
        have E7 : Ex H5 H' := eB.trans e6
        refine ret_of (K := K) (X := X) (r := rOpt rNat) (x := some (1 + Tm.sizes ps)) (er_some (er_var rfl rfl) fun H v => nat_ne H v _) (dm5.ex E7) fun v' H2 e2' hv => ?_
        have := q v' H2 ((e35.trans E7).trans e2')
        unfold Tm.size at this
        exact this hv
end
end Q
set_option maxHeartbeats 4000000
/-! Q7: the order of terms; sorted(..) of pairs of a number and a term. -/
namespace Q
open PySem PySem.Spec PyProof.Rows L2
mutual
def Tm.data : Tm → PyData
  | .nd w ps => .tuple (.str (S w) :: Tm.datas ps)
def Tm.datas : List Tm → List PyData
  | [] => []
  | p :: ps => p.data :: Tm.datas ps
end
mutual
theorem Tm.of_eqv : ∀ a b : Tm, PyData.eqv a.data b.data = true → a = b
  | .nd w ps, .nd v qs, h => by
    unfold Tm.data PyData.eqv PyData.eqvAll at h
    rw [Bool.and_eq_true] at h
    have h1 : (S w == S v) = true := by
      have := h.1
      unfold PyData.eqv at this
      exact this
    rw [SX.S_beq_eq] at h1
    rw [of_decide_eq_true h1, Tm.of_eqvs ps qs h.2]
theorem Tm.of_eqvs : ∀ a b : List Tm, PyData.eqvAll (Tm.datas a) (Tm.datas b) = true → a = b
  | [], [], _ => rfl
  | [], q :: qs, h => by unfold Tm.datas PyData.eqvAll at h; cases h
  | p :: ps, [], h => by unfold Tm.datas PyData.eqvAll at h; cases h
  | p :: ps, q :: qs, h => by
    unfold Tm.datas PyData.eqvAll at h
    rw [Bool.and_eq_true] at h
    rw [Tm.of_eqv p q h.1, Tm.of_eqvs ps qs h.2]
end
mutual
theorem Tm.eqv_self : ∀ a : Tm, PyData.eqv a.data a.data = true
  | .nd w ps => by
    unfold Tm.data PyData.eqv PyData.eqvAll
    rw [Tm.eqvs_self ps, Bool.and_true]
    unfold PyData.eqv
    exact beq_self_eq_true _
theorem Tm.eqvs_self : ∀ a : List Tm, PyData.eqvAll (Tm.datas a) (Tm.datas a) = true
  | [] => by unfold Tm.datas PyData.eqvAll; rfl
  | p :: ps => by unfold Tm.datas PyData.eqvAll; rw [Tm.eqv_self p, Tm.eqvs_self ps]; rfl
end
open Classical in
theorem Tm.eqv_iff (a b : Tm) : PyData.eqv a.data b.data = decide (a = b) := by
  by_cases h : a = b
  · subst h; rw [Tm.eqv_self, decide_eq_true rfl]
  · rw [decide_eq_false h]
    cases e : PyData.eqv a.data b.data with
    | false => rfl
    | true => exact absurd (Tm.of_eqv a b e) h
mutual
theorem Tm.alike : ∀ a b : Tm, PySem.W.alike a.data b.data = true
  | .nd w ps, .nd v qs => by
    unfold Tm.data PySem.W.alike PySem.W.alikeAll
    rw [Tm.alikes ps qs, Bool.and_true]
    unfold PySem.W.alike
    rfl
theorem Tm.alikes : ∀ a b : List Tm, PySem.W.alikeAll (Tm.datas a) (Tm.datas b) = true
  | [], b => by unfold Tm.datas PySem.W.alikeAll; rfl
  | p :: ps, [] => by unfold Tm.datas PySem.W.alikeAll; rfl
  | p :: ps, q :: qs => by unfold Tm.datas PySem.W.alikeAll; rw [Tm.alike p q, Tm.alikes ps qs]; rfl
end
/-! words of signs that a text may have -/
mutual
def Tm.fit : Tm → Bool
  | .nd w ps => w.all (fun c => decide (c < 0x110000)) && Tm.fits ps
def Tm.fits : List Tm → Bool
  | [] => true
  | p :: ps => p.fit && Tm.fits ps
end
theorem strOk_S {w : Tx} (h : w.all (fun c => decide (c < 0x110000)) = true) : PyData.strOk (S w) = true := by
  unfold PyData.strOk
  show (w.toArray).all _ = true
  rw [Array.all_toList.symm] 
  exact h
mutual
theorem Tm.canLay : ∀ a : Tm, a.fit = true → a.data.canLay0 = true
  | .nd w ps, h => by
    unfold Tm.fit at h
    rw [Bool.and_eq_true] at h
    unfold Tm.data PyData.canLay0 PyData.canLayAll0
    rw [Tm.canLays ps h.2, Bool.and_true]
    unfold PyData.canLay0
    exact strOk_S h.1
theorem Tm.canLays : ∀ a : List Tm, Tm.fits a = true → PyData.canLayAll0 (Tm.datas a) = true
  | [], _ => by unfold Tm.datas PyData.canLayAll0; rfl
  | p :: ps, h => by
    unfold Tm.fits at h
    rw [Bool.and_eq_true] at h
    unfold Tm.datas PyData.canLayAll0
    rw [Tm.canLay p h.1, Tm.canLays ps h.2]
    rfl
end
mutual
theorem Tm.depth_data : ∀ a : Tm, a.data.depth = a.deep
  | .nd w ps => by
    unfold Tm.data PyData.depth PyData.depthAll Tm.deep
    rw [Tm.depths_data ps]
    unfold PyData.depth
    omega
theorem Tm.depths_data : ∀ a : List Tm, PyData.depthAll (Tm.datas a) = Tm.deeps a
  | [] => by unfold Tm.datas PyData.depthAll Tm.deeps; rfl
  | p :: ps => by unfold Tm.datas PyData.depthAll Tm.deeps; rw [Tm.depth_data p, Tm.depths_data ps]
end
theorem Tm.shaped {a : Tm} (h : a.fit = true) (hd : a.deep ≤ 60) : SeqAt.shaped a.data = true := by
  unfold SeqAt.shaped
  rw [Tm.canLay a h, Tm.depth_data, decide_eq_true (by omega)]
  rfl
/-! terms of the heap read as data -/
mutual
theorem dp_tm {K : Frag} {H : Hp} : ∀ (t : Tm) (v : V), rTm K H v t → Dp K H v t.data
  | .nd w ps, v, h => by
    obtain ⟨a, vs, rfl, h2, h3⟩ := rTm_iff.mp h
    unfold Tm.data
    exact .tup h2 (.cons (.str _) (dp_tms ps vs h3))
theorem dp_tms {K : Frag} {H : Hp} : ∀ (ts : List Tm) (vs : List V), Paired (rTm K H) vs ts → DpAll K H vs (Tm.datas ts)
  | [], vs, h => by cases h; unfold Tm.datas; exact .nil
  | t :: ts, vs, h => by
    cases h with
    | cons a b => unfold Tm.datas; exact .cons (dp_tm t _ a) (dp_tms ts _ b)
end
/-! ### pairs of a number and a term -/
abbrev Pt := Int × Tm
def enc (p : Pt) : PyData := .tuple [.int p.1, p.2.data]
theorem enc_alike (a b : Pt) : PySem.W.alike (enc a) (enc b) = true := by
  unfold enc PySem.W.alike PySem.W.alikeAll PySem.W.alikeAll PySem.W.alikeAll
  rw [Tm.alike]
  unfold PySem.W.alike
  rfl
theorem enc_eqv {a b : Pt} (h : PyData.eqv (enc a) (enc b) = true) : a = b := by
  unfold enc PyData.eqv PyData.eqvAll PyData.eqvAll at h
  rw [Bool.and_eq_true, Bool.and_eq_true] at h
  have h1 : (a.1 == b.1) = true := by
    have := h.1
    unfold PyData.eqv at this
    exact this
  have h2 := Tm.of_eqv _ _ h.2.1
  exact Prod.ext (by simpa using h1) h2
/-- not above -/
def tle : Pt → Pt → Bool := PySem.W.dataLe false enc
theorem tle_total : PySem.W.TotalLe tle := PySem.W.sortLe_total (listOrd itemOrd) false fun b => PySem.W.keyToks (enc b)
theorem toks_inj {x y : PyData} (h : PySem.W.alike x y = true) (e : PySem.W.keyToks x = PySem.W.keyToks y) : PyData.eqv x y = true := by
  cases q : PyData.eqv x y with
  | true => rfl
  | false =>
    have z := (PySem.W.toks_eqv x y h).2 q [] [.inl 0]
    rw [← e, List.append_nil] at z
    have z1 := PySem.W.lex_pre (PySem.W.keyToks x) [] [.inl 0]
    rw [List.append_nil] at z1
    have z2 : PyProof.Rows.lexLt itemOrd (PySem.W.keyToks x) (PySem.W.keyToks x) = false := lex_irrefl _
    rw [z1, z2] at z
    cases z
theorem tle_anti {a b : Pt} (h1 : tle a b = true) (h2 : tle b a = true) : a = b := by
  have g1 : PyProof.Rows.lexLt itemOrd (PySem.W.keyToks (enc b)) (PySem.W.keyToks (enc a)) = false := by
    have : (!PyProof.Rows.lexLt itemOrd (PySem.W.keyToks (enc b)) (PySem.W.keyToks (enc a))) = true := h1
    simpa using this
  have g2 : PyProof.Rows.lexLt itemOrd (PySem.W.keyToks (enc a)) (PySem.W.keyToks (enc b)) = false := by
    have : (!PyProof.Rows.lexLt itemOrd (PySem.W.keyToks (enc a)) (PySem.W.keyToks (enc b))) = true := h2
    simpa using this
  exact enc_eqv (toks_inj (enc_alike a b) (lex_total _ _ g2 g1))
theorem tle_sorted (l : List Pt) : (l.mergeSort tle).Pairwise fun a b => tle a b = true := List.pairwise_mergeSort (fun a b c => tle_total.trans a b c) (fun a b => by
  rcases tle_total.total a b with h | h
  · rw [h]; rfl
  · rw [h, Bool.or_true]) l
theorem tle_uniq {l m : List Pt} (hp : l.Perm m) (h1 : l.Pairwise fun a b => tle a b = true) (h2 : m.Pairwise fun a b => tle a b = true) : l = m :=
  List.Perm.eq_of_pairwise (fun _ _ _ _ a b => tle_anti a b) h1 h2 hp
theorem tle_sort_eq {l m : List Pt} (hp : l.Perm m) : l.mergeSort tle = m.mergeSort tle :=
  tle_uniq ((List.mergeSort_perm _ _).trans (hp.trans (List.mergeSort_perm _ _).symm)) (tle_sorted l) (tle_sorted m)
/-! ### the rule -/
def rSortT (K : Frag) : List V → Hp → VK → Prop := fun vs H Q => ∃ a xs ks Hd, vs = [.ref a] ∧ SqL K H a xs ∧ Le Hd H ∧ Paired (rPr rInt rTm K Hd) xs ks ∧ (∀ p ∈ ks, (p : Pt).2.deep ≤ 60) ∧
  ∀ ys p, Paired (rPr rInt rTm K Hd) ys (ks.mergeSort tle) → H p = none → Q (.ref p) (upd H p (.lst ys))
section
variable {X : Cx}
theorem each_pairs {pins : List (Addr × Obj)} {σ : L2.St} {H Hd : Hp} {s : Shared} (I : Inv X pins σ H s) (le : Le Hd H) : ∀ {xs : List V} {us : List Value} {ks : List Pt}, Vals xs us → Paired (rPr rInt rTm X.K Hd) xs ks →
    PySem.W.EachIs (fun v b => ∃ y, RelV y v ∧ rPr rInt rTm X.K Hd y b) us ks ∧ PySem.W.EachIs (fun v b => ∃ as, Reads s.heap v (enc b) as) us ks
  | _, _, _, .nil, .nil => ⟨.nil, .nil⟩
  | _, _, _, .cons r t, .cons h k => by
    obtain ⟨e1, e2⟩ := each_pairs I le t k
    refine ⟨.cons ⟨_, r, h⟩ e1, .cons ?_ e2⟩
    obtain ⟨a, x, y, rfl, h2, h3, h4⟩ := (inferInstance : Mono (rPr rInt rTm)).mono le h
    have d : Dp X.K H (.ref a) (enc _) := .tup h2 (.cons (by rw [show x = V.int _ from h3]; exact .int _) (.cons (dp_tm _ _ h4) .nil))
    exact Dp.reads I _ _ _ d r
theorem back_pairs {K : Frag} {H : Hp} : ∀ {us : List Value} {ks : List Pt}, PySem.W.EachIs (fun v b => ∃ y, RelV y v ∧ rPr rInt rTm K H y b) us ks → ∃ ys, Vals ys us ∧ Paired (rPr rInt rTm K H) ys ks
  | _, _, .nil => ⟨[], .nil, .nil⟩
  | _, _, .cons ⟨y, r, h⟩ t => by
    obtain ⟨ys, e1, e2⟩ := back_pairs t
    exact ⟨y :: ys, .cons r e1, .cons h e2⟩
theorem cr_sortT (hu : X.A.units + 65 < cLine) : CallR X (.builtin "sorted") (rSortT X.K) := by
  intro pins s σ H vs us Q I r h
  obtain ⟨a, xs, ks, Hd, rfl, hs, le, hp, hd, q⟩ := h
  obtain ⟨its, rv, hl, hz⟩ := I.list hs
  rw [Vals.ref1 r]
  obtain ⟨e1, e2⟩ := each_pairs I le rv hp
  have hlen : ks.length = its.length := e1.length.symm
  refine PySem.W.sorted_data (enc := enc) hl.isList e1 e2 (PySem.W.AllAlike.of enc_alike) (PySem.W.Sortable.tuples fun b => ⟨_, _, rfl⟩) (by rw [hlen, ← rv.length]; exact hz) (fun b hb => ?_) fun out ho hr => ?_
  · have hd' := hd b hb
    unfold enc PyData.depth PyData.depthAll PyData.depthAll PyData.depthAll
    rw [Tm.depth_data]
    unfold PyData.depth
    omega
  · obtain ⟨ys, f1, f2⟩ := back_pairs hr
    obtain ⟨ep, he'⟩ := PyProof.Rows.sortedAll_at s.heap its out.toArray
    have hyl : ys.length ≤ sizeLine := by
      rw [f1.length, ho, hlen, ← rv.length]
      exact hz
    exact ⟨.ref _, upd H (s.heap.objs.size + 1) (.lst ys), I.laid (t' := s.toks) (fun _ _ => PyProof.Rows.sortedAll_old) (Nat.le_succ _) ⟨hyl, out, ep, f1, he'⟩, rfl, q ys _ f2 (I.hok.fresh (Nat.le_succ _))⟩
end
section
variable {K : Frag} {X : Hs} {σ : L2.St} {H : Hp} {te ta tb : TE}
theorem er_sortT {ks : List Pt} (h : Er K X te σ H (rLst (rPr rInt rTm)) ks) (hd : ∀ p ∈ ks, p.2.deep ≤ 60) : Er K X (tCB (rSortT K) (tCons te tNil)) σ H (rLst (rPr rInt rTm)) (ks.mergeSort tle) := er_cb1 h fun v H1 _ dm hv Q k => by
  obtain ⟨a, vs, rfl, h2, h3⟩ := hv
  refine ⟨a, vs, ks, hid X H1, rfl, sql_hid h2, hid_get.le, h3, hd, fun ys p hy hp => ?_⟩
  exact k _ _ (Evl.Ex.new hp) ⟨p, ys, rfl, .inl (.inl (by rw [hid_out (dm.new hp), upd_same])), Paired.mono (fun _ _ z => (inferInstance : Mono (rPr rInt rTm)).mono (hid_le (Evl.Ex.new hp)) z) hy⟩
theorem dp_pt {H : Hp} {v : V} {p : Pt} (h : rPr rInt rTm K H v p) : Dp K H v (enc p) := by
  obtain ⟨a, x, y, rfl, h2, h3, h4⟩ := h
  exact .tup h2 (.cons (by rw [show x = V.int p.1 from h3]; exact .int _) (.cons (dp_tm _ _ h4) .nil))
theorem shaped_pt {p : Pt} (h : p.2.fit = true ∧ p.2.deep ≤ 60) : SeqAt.shaped (enc p) = true := by
  unfold SeqAt.shaped
  have e1 : (enc p).canLay0 = true := by
    unfold enc PyData.canLay0 PyData.canLayAll0 PyData.canLayAll0 PyData.canLayAll0
    rw [Tm.canLay _ h.1]
    unfold PyData.canLay0
    rfl
  have e2 : (enc p).depth = p.2.deep + 1 := by
    unfold enc PyData.depth PyData.depthAll PyData.depthAll PyData.depthAll
    rw [Tm.depth_data]
    unfold PyData.depth
    omega
  rw [e1, e2, decide_eq_true (by have := h.2; omega)]
  rfl
open Classical in
theorem enc_iff (a b : Pt) : PyData.eqv (enc a) (enc b) = decide (a = b) := by
  by_cases h : a = b
  · subst h
    rw [decide_eq_true rfl]
    unfold enc PyData.eqv PyData.eqvAll PyData.eqvAll PyData.eqvAll
    rw [Tm.eqv_self]
    unfold PyData.eqv
    simp
  · rw [decide_eq_false h]
    cases e : PyData.eqv (enc a) (enc b) with
    | false => rfl
    | true => exact absurd (enc_eqv e) h
open Classical in
theorem er_nePt {a b : Pt} (h : Er K X ta σ H (rPr rInt rTm) a) (h2 : Er K X tb σ H (rPr rInt rTm) b) (ha : a.2.fit = true ∧ a.2.deep ≤ 60) (hb : b.2.fit = true ∧ b.2.deep ≤ 60) : Er K X (tOp (rNeD K) ta tb) σ H rBl (!decide (a = b)) := er_two h h2 fun v w H1 _ _ hv hw Q k => by
  have m := (inferInstance : Mono (rPr rInt rTm))
  exact ⟨enc a, enc b, dp_pt (m.mono hid_get.le hv), dp_pt (m.mono hid_get.le hw), shaped_pt ha, shaped_pt hb, by rw [enc_iff]; exact k _ H1 (Evl.Ex.refl _) rfl⟩
end
end Q
set_option maxHeartbeats 4000000
/-! F6: ascending. -/
namespace Q
open PySem PySem.Spec PyProof.Rows L2
open Classical
/-! ### mathematics -/
/-- without what is the same as the one ahead -/
noncomputable def ddp : Option Pt → List Pt → List Pt
  | _, [] => []
  | p, x :: xs => if p = some x then ddp (some x) xs else x :: ddp (some x) xs
theorem ddp_sub : ∀ (l : List Pt) (p : Option Pt), (ddp p l).Sublist l
  | [], p => List.Sublist.slnil
  | x :: xs, p => by
    unfold ddp
    by_cases h : p = some x
    · rw [if_pos h]; exact (ddp_sub xs _).cons _
    · rw [if_neg h]; exact (ddp_sub xs _).cons_cons _
theorem ddp_ne : ∀ (l : List Pt) (p : Pt), (p :: l).Pairwise (fun a b => tle a b = true) → ∀ y ∈ ddp (some p) l, y ≠ p
  | [], p, _, y, h => nomatch h
  | x :: xs, p, hs, y, h => by
    obtain ⟨h1, h2⟩ := List.pairwise_cons.mp hs
    unfold ddp at h
    by_cases e : some p = some x
    · rw [if_pos e] at h
      have e' := Option.some.inj e
      subst e'
      exact ddp_ne xs p h2 y h
    · rw [if_neg e] at h
      rcases List.mem_cons.mp h with rfl | h
      · exact fun z => e (by rw [z])
      · intro z
        have hy : y ∈ xs := (ddp_sub xs _).mem h
        have h3 := (List.pairwise_cons.mp h2).1 y hy
        rw [z] at h3
        exact e (congrArg some (tle_anti (h1 x List.mem_cons_self) h3))
theorem ddp_nodup : ∀ (l : List Pt) (p : Option Pt), l.Pairwise (fun a b => tle a b = true) → (ddp p l).Nodup
  | [], p, _ => List.nodup_nil
  | x :: xs, p, hs => by
    have h2 := (List.pairwise_cons.mp hs).2
    unfold ddp
    by_cases e : p = some x
    · rw [if_pos e]; exact ddp_nodup xs _ h2
    · rw [if_neg e]
      exact List.nodup_cons.mpr ⟨fun h => ddp_ne xs x hs x h rfl, ddp_nodup xs _ h2⟩
theorem ddp_id : ∀ (l : List Pt) (p : Option Pt), l.Nodup → (∀ x, p = some x → x ∉ l) → ddp p l = l
  | [], p, _, _ => rfl
  | x :: xs, p, hn, hp => by
    obtain ⟨h1, h2⟩ := List.nodup_cons.mp hn
    unfold ddp
    rw [if_neg (fun e => hp x e List.mem_cons_self), ddp_id xs _ h2 fun y e => by rw [← Option.some.inj e]; exact h1]
theorem ddp_mem : ∀ (l : List Pt) (p : Option Pt) (y : Pt), y ∈ l → p = some y ∨ y ∈ ddp p l
  | x :: xs, p, y, h => by
    unfold ddp
    by_cases e : p = some x
    · rw [if_pos e]
      rcases List.mem_cons.mp h with rfl | h
      · exact .inl e
      · rcases ddp_mem xs (some x) y h with h | h
        · exact .inl (e.trans h)
        · exact .inr h
    · rw [if_neg e]
      rcases List.mem_cons.mp h with rfl | h
      · exact .inr List.mem_cons_self
      · rcases ddp_mem xs (some x) y h with h | h
        · exact .inr (by rw [← Option.some.inj h]; exact List.mem_cons_self)
        · exact .inr (List.mem_cons_of_mem _ h)
def sz (t : Tm) : Pt := (((t.size : Nat) : Int), t)
/-- sorted by size and then as tuples, each once -/
noncomputable def asc (ts : List Tm) : List Tm := (ddp none ((ts.map sz).mergeSort tle)).map Prod.snd
/-- the test of the comprehension -/
noncomputable def first (ks : List Pt) (d : Int × Pt) : Bool := decide (d.1 = 0) || !decide (ks[(d.1 - 1).toNat]? = some d.2)
theorem first_ddp (ks : List Pt) : ∀ (l : List Pt) (i : Nat), ks.drop i = l → (((List.range' i l.length).map fun j => ((j : Nat) : Int)).zip l).filter (first ks) = ((((List.range' i l.length).map fun j => ((j : Nat) : Int)).zip l).filter (first ks)) → ((((List.range' i l.length).map fun j => ((j : Nat) : Int)).zip l).filter (first ks)).map Prod.snd = ddp (if i = 0 then none else ks[i - 1]?) l
  | [], i, _, _ => by rfl
  | x :: xs, i, h, _ => by
    have hx : ks[i]? = some x := by
      have := congrArg List.head? h
      rwa [List.head?_drop] at this
    have hxs : ks.drop (i + 1) = xs := by
      rw [← List.drop_drop] 
      rw [h]; rfl
    have ih := first_ddp ks xs (i + 1) hxs rfl
    rw [List.length_cons, List.range'_succ, List.map_cons, List.zip_cons_cons]
    rw [if_neg (by omega), Nat.add_sub_cancel, hx] at ih
    have e0 : first ks (((i : Nat) : Int), x) = !decide ((if i = 0 then none else ks[i - 1]?) = some x) := by
      unfold first
      by_cases hi : i = 0
      · subst hi
        rw [if_pos rfl]
        simp
      · rw [if_neg hi, show decide (((i : Nat) : Int) = 0) = false from decide_eq_false (by omega), Bool.false_or, show ((((i : Nat) : Int) - 1).toNat) = i - 1 by omega]
    unfold ddp
    by_cases e : (if i = 0 then none else ks[i - 1]?) = some x
    · rw [if_pos e, List.filter_cons_of_neg (by rw [e0, decide_eq_true e]; simp)]
      exact ih
    · rw [if_neg e, List.filter_cons_of_pos (by rw [e0, decide_eq_false e]; rfl), List.map_cons, ih]
theorem asc_eq (ts : List Tm) : ((((List.range ((ts.map sz).mergeSort tle).length).map fun j => ((j : Nat) : Int)).zip ((ts.map sz).mergeSort tle)).filter (first ((ts.map sz).mergeSort tle))).map (fun d => d.2.2) = asc ts := by
  have h := first_ddp ((ts.map sz).mergeSort tle) ((ts.map sz).mergeSort tle) 0 rfl rfl
  rw [← List.range_eq_range', if_pos rfl] at h
  unfold asc
  rw [← h, List.map_map]
  rfl
theorem sz_inj {a b : Tm} (h : sz a = sz b) : a = b := congrArg Prod.snd h
theorem asc_perm {ts us : List Tm} (h : ts.Perm us) : asc ts = asc us := by
  unfold asc
  rw [tle_sort_eq (h.map sz)]
theorem mem_asc {ts : List Tm} {t : Tm} : t ∈ asc ts ↔ t ∈ ts := by
  unfold asc
  constructor
  · intro h
    obtain ⟨p, hp, rfl⟩ := List.mem_map.mp h
    have h1 := (List.mergeSort_perm _ _).mem_iff.mp ((ddp_sub _ _).mem hp)
    obtain ⟨u, hu, rfl⟩ := List.mem_map.mp h1
    exact hu
  · intro h
    have h1 : sz t ∈ (ts.map sz).mergeSort tle := (List.mergeSort_perm _ _).mem_iff.mpr (List.mem_map.mpr ⟨t, h, rfl⟩)
    rcases ddp_mem _ none _ h1 with h2 | h2
    · cases h2
    · exact List.mem_map.mpr ⟨_, h2, rfl⟩
theorem all_sz {l : List Pt} {ts : List Tm} (h : ∀ p ∈ l, p ∈ ts.map sz) : l = (l.map Prod.snd).map sz := by
  rw [List.map_map]
  refine (List.map_id _).symm.trans (List.map_congr_left fun p hp => ?_)
  obtain ⟨t, _, e⟩ := List.mem_map.mp (h p hp)
  rw [← e]; rfl
theorem asc_sub {ts : List Tm} : ∀ p ∈ ddp none ((ts.map sz).mergeSort tle), p ∈ ts.map sz := fun p hp => (List.mergeSort_perm _ _).mem_iff.mp ((ddp_sub _ _).mem hp)
theorem asc_nodup (ts : List Tm) : (asc ts).Nodup := by
  have h := ddp_nodup _ none (tle_sorted (ts.map sz))
  have e := all_sz (asc_sub (ts := ts))
  rw [e] at h
  exact (List.pairwise_map.mp h).imp fun hab z => hab (by rw [z])
/-- sorted already -/
theorem asc_asc (ts : List Tm) : asc (asc ts) = asc ts := by
  have h1 : (asc ts).map sz = ddp none ((ts.map sz).mergeSort tle) := (all_sz asc_sub).symm
  have hs : ((asc ts).map sz).Pairwise fun a b => tle a b = true := by rw [h1]; exact (tle_sorted _).sublist (ddp_sub _ _)
  have hn : ((asc ts).map sz).Nodup := by rw [h1]; exact ddp_nodup _ none (tle_sorted _)
  have e : ((asc ts).map sz).mergeSort tle = (asc ts).map sz := tle_uniq (List.mergeSort_perm _ _) (tle_sorted _) hs
  rw [show asc (asc ts) = (ddp none (((asc ts).map sz).mergeSort tle)).map Prod.snd from rfl, e, ddp_id _ _ hn (fun x z => by cases z), List.map_map]
  exact List.map_id _
/-! ### the def -/
theorem hu65 {A : Around} {k : Nat} (hr : Room k A) : A.units + 65 < cLine := by
  have := hr.un
  omega
section
variable {P : Program} {w : World} {K : Frag} {mg : Str → Option Value} {base : Heap}
abbrev NAscending : List Str := ["terms", "rows", "term", "at", "row"]
theorem scAscending : FnScope NAscending ["terms"] (defScope sAsc) := ⟨rfl, rfl, rfl, by decide +kernel, rfl, by decide +kernel, by decide +kernel⟩
def okT (n : Nat) (t : Tm) : Prop := t.deep ≤ n ∧ t.size ≤ bigT ∧ t.fit = true
abbrev spAsc (K : Frag) (n : Nat) : Sp := SpF (A1 (rLst rTm) fun ts => ts.length < 1000000 ∧ ∀ t ∈ ts, okT n t) K (rLst rTm) asc
theorem ok_asc {n : Nat} (hn : n ≤ 60) (B : Bi mg) (c_order : Kp P w K mg base (n + 2) "order" ["term"] (spOrder K n)) (D : Dfn K mg "ascending" sAsc ["terms"]) : Kp P w K mg base (n + 3) "ascending" ["terms"] (spAsc K n) :=
  D.kp fun f fd F hm b => F.ok scAscending len1 fun cdv A outer s H vs Q E hr ⟨ts, X, dm, ⟨v, e, h, hz, hp⟩, q⟩ => by
    subst e
    refine ⟨_, (pss_cons (ps_set (i := 1) scAscending.nd rfl (.inr rfl) (pe_callB (cr_sortT (hu65 hr)) rfl B.sorted (by decide +kernel) (pa_cons (pe_lc (own := [("term", 2)]) (g := gName 2) (tt := tYes) rfl scAscending.nd (pi_list (pv 0)) (blkOk_by (N := NAscending) (sc := defScope sAsc) (by decide +kernel)) (fun _ _ _ _ _ => (pg_name (i := 2) scAscending.nd rfl (.inl rfl))) (fun _ _ _ _ _ => pts_nil) (fun _ _ _ _ _ => (pe_kp c_order hr (by omega) (pa_cons (pv 2) pa_nil)))) pa_nil)))
    (pss_one (ps_ret (pe_lc (own := [("at", 3), ("row", 4)]) (g := gTup K 2 (gCons (gName 3) (gCons (gName 4) gNil))) (tt := tOr (tTest (tOp rEq (tVar 3) (tC (.int 0)))) (tTest (tOp (rNeD K) (tOp (rIxL K) (tVar 1) (tOp (rI0 fun i j => .int (i - j)) (tVar 3) (tC (.int 1)))) (tVar 4)))) (te := tOp (rIxT K) (tVar 4) (tC (.int 1))) rfl scAscending.nd (pi_enum (by rfl) B.enumerate (pa_cons (pv 1) pa_nil)) (blkOk_by (N := NAscending) (sc := defScope sAsc) (by decide +kernel)) (fun _ _ _ _ _ => (pg_tup rfl (pgs_cons (pg_name (i := 3) scAscending.nd rfl (.inl rfl)) (pgs_cons (pg_name (i := 4) scAscending.nd rfl (.inl rfl)) pgs_nil)))) (fun _ _ _ _ _ => (pts_one (PW.pt (pw_or (pt_cmpR op_eq (pv 3) pe_int (nomark _)) (pw_or1 (pt_cmpR (op_neD hr.units) (pe_ix ix_list (pv 1) (pe_op op_sub (pv 3) pe_int) (fun _ _ => rfl)) (pv 4) (nomark _))))))) (fun _ _ _ _ _ => (pe_ix ix_tup (pv 4) pe_int (fun _ _ => rfl))))))), ?_⟩
    refine st_set (r := rLst (rPr rInt rTm)) (x := (ts.map sz).mergeSort tle) (er_sortT (er_lc (r := rTm) (s := rPr rInt rTm) (f := sz) (ei_list (er_var rfl h)) hz fun t ht Y v' H' e' hv => er_call1 (r := rTm) (f := sz) (x := t) (er_var rfl hv) ⟨(hp t ht).1, (hp t ht).2.1⟩) ?_) dm fun v2 H2 e2 hv2 => ?_
    · intro p hp'
      obtain ⟨t, ht, rfl⟩ := List.mem_map.mp hp'
      exact Nat.le_trans (hp t ht).1 hn
    have dm2 := dm.ex e2
    have hks : ∀ p ∈ (ts.map sz).mergeSort tle, p.2.fit = true ∧ p.2.deep ≤ 60 := fun p hp' => by
      obtain ⟨t, ht, rfl⟩ := List.mem_map.mp ((List.mergeSort_perm _ _).mem_iff.mp hp')
      exact ⟨(hp t ht).2.2, Nat.le_trans (hp t ht).1 hn⟩
    have hkl : ((ts.map sz).mergeSort tle).length = ts.length := by rw [(List.mergeSort_perm _ _).length_eq, List.length_map]
    generalize hks' : (ts.map sz).mergeSort tle = ks at hv2 hks hkl
    dsimp only
    refine ret_of (r := rLst rTm) (x := asc ts) ?_ dm2 fun v' H' e' hv => q v' H' (e2.trans e') hv
    refine Er.is (er_lcG (r := rPr rInt (rPr rInt rTm)) (s := rTm) (xs := ((List.range ks.length).map fun j => ((j : Nat) : Int)).zip ks) (f := fun d : Int × Pt => d.2.2) (p := first ks)
      (P := fun d Y σ' H' => ∃ va w, σ' = ((wipe [some v, some v2, none, none, none] [3, 4]).set 3 (some va)).set 4 (some w) ∧ rInt K (hid Y H') va d.1 ∧ rPr rInt rTm K (hid Y H') w d.2) (ei_enum (er_var rfl hv2)) ?_ ?_ ?_ ?_ ?_) ?_
    · rw [List.length_zip, List.length_map, List.length_range, Nat.min_self, hkl]; exact hz
    · exact fun d _ => eg_pr
    · rintro d Y σ' H' ⟨va, w, eσ, _, _⟩
      rw [eσ]; rfl
    · rintro d hd Y σ' H' eY ⟨va, w, eσ, h1, h2⟩
      subst eσ
      obtain ⟨i, hi⟩ := List.getElem?_of_mem hd
      rw [List.getElem?_zip_eq_some] at hi
      obtain ⟨hi1, hi2⟩ := hi
      have hil : i < ks.length := (List.getElem?_eq_some_iff.mp hi2).1
      rw [getElem?_range hil] at hi1
      have hi1 : ((i : Nat) : Int) = d.1 := Option.some.inj hi1
      unfold first
      refine et_or (et_test (er_eqI (K := K) (er_var rfl h1) er_int)) fun h0 => ?_
      have h0' : ¬ d.1 = 0 := of_decide_eq_false h0
      obtain ⟨k', hk'⟩ : ∃ k', ks[i - 1]? = some k' := ⟨_, List.getElem?_eq_getElem (by omega)⟩
      refine et_test (Er.is (er_nePt (K := K) (a := k') (b := d.2) (er_ixL (i := i - 1) (er_var rfl ((inferInstance : Mono (rLst (rPr rInt rTm))).mono eY.le hv2)) (Er.is (er_op0 (g := fun i j => i - j) (er_var rfl h1) er_int) ?_) hk') (er_var rfl h2) (hks k' (List.mem_of_getElem? hk')) (hks d.2 (List.mem_of_getElem? hi2))) ?_)
      · show d.1 - 1 = ((i - 1 : Nat) : Int)
        omega
      · rw [show (d.1 - 1).toNat = i - 1 by omega, hk']
        simp
    · rintro d hd _ Y σ' H' H'' eY ⟨va, w, eσ, h1, h2⟩ e3
      subst eσ
      exact er_snd (r := rInt) (s := rTm) (p := d.2) (er_var rfl ((inferInstance : Mono (rPr rInt rTm)).mono (hid_le e3) h2)) er_int
    · rw [← asc_eq, hks']
end
end Q
set_option maxHeartbeats 4000000
/-! F7: books. -/
namespace Q
open PySem PySem.Spec PyProof.Rows L2
abbrev Bk := List (Tm × Bool)
def keyT (t : Tm) : List Key := t.flat.map fun x => .inr (S x)
theorem keyT_v (t : Tm) : (keyT t).map kV = t.flat.map fun x => V.str (S x) := by rw [keyT, List.map_map]; rfl
theorem keyT_inj {a b : Tm} : keyT a = keyT b ↔ a.flat = b.flat := by
  refine ⟨fun h => ?_, fun h => by rw [keyT, keyT, h]⟩
  unfold keyT at h
  exact List.map_inj_right (fun x y z => SX.S_inj (Sum.inr.inj z)) |>.mp h
/-- the first of the same row of words -/
def lkE : Bk → Tm → Option (Tm × Bool)
  | [], _ => none
  | p :: l, t => if p.1.flat = t.flat then some p else lkE l t
def putB (l : Bk) (t : Tm) (b : Bool) : Bk := if (lkE l t).isSome = true then l.map (fun p => if p.1.flat = t.flat then (t, b) else p) else l ++ [(t, b)]
/-- the entries of the dict -/
def rEnt (K : Frag) (H : Hp) : List Key × V → Tm × Bool → Prop := fun kv p => kv.1 = keyT p.1 ∧ rPr rTm rBl K H kv.2 p
theorem ent_get {K : Frag} {H : Hp} {t : Tm} : ∀ {kvs : List (List Key × V)} {l : Bk}, Paired (rEnt K H) kvs l → match lkE l t with
    | some p => ∃ v, valV kvs (keyT t) = some v ∧ rPr rTm rBl K H v p
    | none => valV kvs (keyT t) = none
  | _, _, .nil => rfl
  | kv :: kvs, p :: l, .cons h r => by
    unfold lkE
    by_cases e : p.1.flat = t.flat
    · rw [if_pos e]
      exact ⟨kv.2, valV_pos (by rw [h.1]; exact keyT_inj.mpr e), h.2⟩
    · rw [if_neg e]
      have z := ent_get (t := t) r
      rw [valV_neg (fun z => e (keyT_inj.mp (by rw [← h.1]; exact z)))]
      exact z
theorem ent_some {K : Frag} {H : Hp} {t : Tm} {kvs : List (List Key × V)} {l : Bk} (h : Paired (rEnt K H) kvs l) : (valV kvs (keyT t)).isSome = (lkE l t).isSome := by
  have z := ent_get (t := t) h
  cases e : lkE l t with
  | none => rw [e] at z; rw [z]; rfl
  | some p => rw [e] at z; obtain ⟨v, z, _⟩ := z; rw [z]; rfl
theorem ent_put {K : Frag} {H : Hp} {t : Tm} {b : Bool} {v : V} {kvs : List (List Key × V)} {l : Bk} (h : Paired (rEnt K H) kvs l) (hv : rPr rTm rBl K H v (t, b)) : Paired (rEnt K H) (putK kvs (keyT t) v) (putB l t b) := by
  unfold putK putB
  rw [valV_any, ent_some h]
  by_cases e : (lkE l t).isSome = true
  · rw [if_pos e, if_pos e]
    clear e
    induction h with
    | nil => exact .nil
    | @cons kv p kvs l hd tl ih =>
      rw [List.map_cons, List.map_cons]
      refine .cons ?_ ih
      by_cases e : p.1.flat = t.flat
      · rw [if_pos e, if_pos (show kv.1 = keyT t by rw [hd.1]; exact keyT_inj.mpr e)]
        exact ⟨by rw [hd.1]; exact keyT_inj.mpr e, hv⟩
      · rw [if_neg e, if_neg (fun z : kv.1 = keyT t => e (keyT_inj.mp (by rw [← hd.1]; exact z)))]
        exact hd
  · rw [if_neg e, if_neg e]
    exact Paired.snoc' h ⟨rfl, hv⟩
theorem putB_len (l : Bk) (t : Tm) (b : Bool) : (putB l t b).length ≤ l.length + 1 := by
  unfold putB
  split
  · rw [List.length_map]; exact Nat.le_succ _
  · rw [List.length_append]; exact Nat.le_refl _
/-- a method with defaults dvs at the end -/
structure MthD (K : Frag) (C : Addr) (m qual : Str) (st : Stmt) (ps : List Str) (dvs : List V) : Prop where
  ex : ∃ f fd, Cls K C ∧ Meth K C m f ∧ C8.Fun K m qual st f fd ∧ Binds K fd ps [] ∧ ∃ ds, Binds K fd ps ds ∧ Vals dvs ds
def KpMD (P : Program) (w : World) (K : Frag) (mg : Str → Option Value) (base : Heap) (k : Nat) (C : Addr) (m : Str) (ps : List Str) (dvs : List V) (sp : Sp) : Prop :=
  ∃ f fd ds, FnOk P w K mg base CX0 k f fd ps sp ∧ Cls K C ∧ Meth K C m f ∧ Binds K fd ps ds ∧ Vals dvs ds
theorem MthD.kp {P : Program} {w : World} {K : Frag} {mg : Str → Option Value} {base : Heap} {k : Nat} {C : Addr} {m qual : Str} {st : Stmt} {ps : List Str} {dvs : List V} {sp : Sp} (D : MthD K C m qual st ps dvs) (h : ∀ f fd, C8.Fun K m qual st f fd → FnOk P w K mg base CX0 k f fd ps sp) :
    KpM P w K mg base k C m ps sp ∧ KpMD P w K mg base k C m ps dvs sp := by
  obtain ⟨f, fd, c, hm, F, b, ds, b2, v⟩ := D.ex
  exact ⟨⟨f, fd, h f fd F, c, hm, b⟩, f, fd, ds, h f fd F, c, hm, b2, v⟩
/-- the book at b tells l -/
def isBk (K : Frag) (C : Addr) (X : Hs) (H : Hp) (b d : Addr) (l : Bk) : Prop := ∃ dx kvs, H b = some (.ins C dx [("rows", .ref d)]) ∧ H d = some (.dT kvs) ∧ Paired (rEnt K (hid X H)) kvs l
theorem rEnt_mono {K : Frag} {H H' : Hp} (e : Le H H') {kv : List Key × V} {p : Tm × Bool} (h : rEnt K H kv p) : rEnt K H' kv p := ⟨h.1, (inferInstance : Mono (rPr rTm rBl)).mono e h.2⟩
theorem isBk.ex {K : Frag} {C : Addr} {X : Hs} {H H' : Hp} {b d : Addr} {l : Bk} (h : isBk K C X H b d l) (e : Ex H H') : isBk K C X H' b d l := by
  obtain ⟨dx, kvs, h1, h2, h3⟩ := h
  exact ⟨dx, kvs, e _ _ h1, e _ _ h2, Paired.mono (fun _ _ z => rEnt_mono (hid_le e) z) h3⟩
abbrev OwnB (K : Frag) (mg : Str → Option Value) (C : Addr) : Prop := Own K mg C "Book" ["rows"]
section
variable {P : Program} {w : World} {K : Frag} {mg : Str → Option Value} {base : Heap} {X : Hs} {σ : L2.St} {H : Hp} {te ta tb : TE} {C : Addr}
/-- self.rows -/
theorem run_rows {b d dx : Addr} {i : Nat} {Q : VK} (T : OwnB K mg C) (hs : σ[i]? = some (some (.ref b))) (hb : H b = some (.ins C dx [("rows", .ref d)])) (q : Q (.ref d) H) : tFld K (tVar i) "rows" σ H Q :=
  ⟨.ref b, hs, b, C, dx, _, .ref d, rfl, hb, T.ins.cl, T.na _ (by simp), rfl, q⟩
/-! put -/
abbrev NBookPut : List Str := ["self", "term", "value"]
theorem scBookPut : FnScope NBookPut ["self", "term", "value"] (defScope sBookPut) := ⟨rfl, rfl, rfl, by decide +kernel, rfl, by decide +kernel, by decide +kernel⟩
def spPut (K : Frag) (C : Addr) : Sp := fun vs H Q _ => ∃ b d l t x X u w, vs = [.ref b, u, w] ∧ isBk K C X H b d l ∧ l.length < 1000 ∧ X d = true ∧ Dm X H ∧ rTm K (hid X H) u t ∧ w = .bl x ∧ t.size ≤ bigT ∧
  ∀ H', Off d H H' → isBk K C X H' b d (putB l t x) → Q .non H'
theorem ok_put (T : OwnB K mg C) (c_flat : Kp P w K mg base 1 "flat" ["term"] (spFlat K)) (D : Mth K C "put" "Book.put" sBookPut ["self", "term", "value"]) : KpM P w K mg base 2 C "put" ["self", "term", "value"] (spPut K C) :=
  D.kp fun f fd c F => F.ok scBookPut (fun vs H Q E ⟨b, d, l, t, x, X, u, w, e, _⟩ => by rw [e]; rfl) fun cdv A outer s H vs Q E hr ⟨b, d, l, t, x, X, u, w, e, hb, hl, hX, dm, ht, hw, hz, q⟩ => by
    subst e
    subst hw
    refine ⟨_, (pss_one (ps_dput (hu_of hr) (pe_fld (pv 0) rfl) (pe_kp c_flat hr (by decide) (pa_cons (pv 1) pa_nil)) (pe_tup (pa_cons (pv 1) (pa_cons (pv 2) pa_nil))) rfl)), ?_⟩
    refine (er_pr (r := rTm) (s := rBl) (x := t) (y := x) (er_var rfl ht) (er_var rfl rfl)).go dm fun v H2 e2 hv => ?_
    obtain ⟨dx, kvs, h1, h2, h3⟩ := hb.ex e2
    refine run_rows T rfl h1 ?_
    refine (er_call1 (K := K) (X := X) (r := rTm) (z := rKey) (x := t) (er_var (i := 1) rfl (rTm_mono (hid_le e2) ht)) hz).go (dm.ex e2) fun y H3 e3 ⟨a, ha, hk⟩ => ?_
    have g3 := e3 _ _ h2
    have hlen : kvs.length = l.length := Paired.len h3
    refine ⟨d, _, rfl, .inr ⟨kvs, keyT t, a, g3, ha, by rw [keyT_v]; exact hid_get _ _ hk, size_lt (by omega), rfl⟩, ?_⟩
    have hbd : b ≠ d := fun z => by rw [z] at h1; rw [h1] at h2; cases h2
    refine q _ (fun a' o hne h => ?_) ⟨dx, _, by rw [upd_ne hbd]; exact e3 _ _ h1, upd_same, ?_⟩
    · rw [upd_ne hne]; exact e3 _ _ (e2 _ _ h)
    · rw [hid_upd hX]
      exact ent_put (Paired.mono (fun _ _ z => rEnt_mono (hid_le e3) z) h3) ((inferInstance : Mono (rPr rTm rBl)).mono (hid_le e3) hv)
/-! has -/
abbrev NBookHas : List Str := ["self", "term"]
theorem scBookHas : FnScope NBookHas ["self", "term"] (defScope sBookHas) := ⟨rfl, rfl, rfl, by decide +kernel, rfl, by decide +kernel, by decide +kernel⟩
def spHas (K : Frag) (C : Addr) : Sp := fun vs H Q _ => ∃ b d l t X u, vs = [.ref b, u] ∧ isBk K C X H b d l ∧ Dm X H ∧ rTm K (hid X H) u t ∧ t.size ≤ bigT ∧ ∀ H', Ex H H' → Q (.bl (lkE l t).isSome) H'
theorem ok_has (T : OwnB K mg C) (c_flat : Kp P w K mg base 1 "flat" ["term"] (spFlat K)) (D : Mth K C "has" "Book.has" sBookHas ["self", "term"]) : KpM P w K mg base 2 C "has" ["self", "term"] (spHas K C) :=
  D.kp fun f fd c F => F.ok scBookHas (fun vs H Q E ⟨b, d, l, t, X, u, e, _⟩ => by rw [e]; rfl) fun cdv A outer s H vs Q E hr ⟨b, d, l, t, X, u, e, hb, dm, ht, hz, q⟩ => by
    subst e
    refine ⟨_, (pss_one (ps_ret (pe_cmp (pc_din (hu_of hr) (pe_kp c_flat hr (by decide) (pa_cons (pv 1) pa_nil)) (pe_fld (pv 0) rfl)) rfl))), ?_⟩
    refine (er_call1 (K := K) (X := X) (r := rTm) (z := rKey) (x := t) (er_var (i := 1) rfl ht) hz).go dm fun y H3 e3 ⟨a, ha, hk⟩ => ?_
    obtain ⟨dx, kvs, h1, h2, h3⟩ := hb.ex e3
    refine run_rows T rfl h1 ⟨d, _, rfl, .inr ⟨kvs, keyT t, a, .inl h2, ha, by rw [keyT_v]; exact hid_get _ _ hk, rfl⟩, ?_⟩
    rw [ent_some h3]
    exact q _ e3
/-! get -/
abbrev NBookGet : List Str := ["self", "term", "default"]
theorem scBookGet : FnScope NBookGet ["self", "term", "default"] (C8.fnScope sBookGet) := ⟨rfl, rfl, rfl, by decide +kernel, rfl, by decide +kernel, by decide +kernel⟩
def spGet (K : Frag) (C : Addr) : Sp := fun vs H Q _ => ∃ b d l t X u w, vs = [.ref b, u, w] ∧ isBk K C X H b d l ∧ Dm X H ∧ rTm K (hid X H) u t ∧ t.size ≤ bigT ∧ ∀ H', Ex H H' → Q (match lkE l t with | some p => .bl p.2 | none => w) H'
theorem ok_get {f : Addr} {fd : FuncData} (T : OwnB K mg C) (c_flat : Kp P w K mg base 1 "flat" ["term"] (spFlat K)) (F : C8.Fun K "get" "Book.get" sBookGet f fd) : FnOk P w K mg base CX0 2 f fd ["self", "term", "default"] (spGet K C) :=
  C8.fn0 F scBookGet (fun vs H Q E ⟨b, d, l, t, X, u, w, e, _⟩ => by rw [e]; rfl) fun cdv A outer s H vs Q E hr ⟨b, d, l, t, X, u, w, e, hb, dm, ht, hz, q⟩ => by
    subst e
    refine ⟨_, (pss_one (ps_ret (pe_ix ix_tup (pe_dget2 (hu_of hr) (pe_fld (pv 0) rfl) (pe_kp c_flat hr (by decide) (pa_cons (pv 1) pa_nil)) (pe_tup (pa_cons pe_non (pa_cons (pv 2) pa_nil))) ⟨rfl, rfl, rfl, rfl⟩) pe_int (fun _ _ => rfl)))), ?_⟩
    obtain ⟨dx, kvs, h1, h2, h3⟩ := hb
    unfold tRet tOp tDGet2
    refine run_rows T rfl h1 ⟨d, rfl, .inr ⟨kvs, .inl h2⟩, ?_⟩
    refine (er_call1 (K := K) (X := X) (r := rTm) (z := rKey) (x := t) (er_var (i := 1) rfl ht) hz).go dm fun y H3 e3 ⟨a, ha, hk⟩ => ?_
    refine ⟨w, rfl, (by show 2 ≤ sizeLine; decide), fun p hp => ?_⟩
    have E4 := e3.trans (Evl.Ex.new (o := .tup [.non, w]) hp)
    have z := ent_get (t := t) (Paired.mono (fun _ _ z => rEnt_mono (hid_le E4) z) h3)
    refine ⟨_, .inr ⟨kvs, keyT t, a, .inl (E4 _ _ h2), ha, by rw [keyT_v, upd_ne (ne_of_none (hid_get _ _ hk) hp)]; exact hid_get _ _ hk, rfl⟩, ?_⟩
    have qq := q _ E4
    cases e : lkE l t with
    | none =>
      rw [e] at z qq
      rw [z]
      exact ⟨p, _, 1, w, rfl, rfl, .inl (.inl upd_same), atI_nat (j := 1) rfl, qq⟩
    | some pr =>
      rw [e] at z qq
      obtain ⟨v, hv, hr2⟩ := z
      rw [hv]
      obtain ⟨a', x, y', rfl, h4, h5, h6⟩ := hr2
      rw [show y' = V.bl pr.2 from h6] at h4
      exact ⟨a', _, 1, _, rfl, rfl, sqt_hid h4, atI_nat (j := 1) rfl, qq⟩
end
end Q
set_option maxHeartbeats 4000000
/-! F8: books, all that they tell. -/
namespace Q
open PySem PySem.Spec PyProof.Rows L2
section
variable {P : Program} {w : World} {K : Frag} {mg : Str → Option Value} {base : Heap} {X : Hs} {σ : L2.St} {H : Hp} {te ta tb : TE} {C : Addr} {b d : Addr} {α : Type}
theorem hid_lockT {kvs : List (List Key × V)} {od : Obj} (h : H d = some (.dT kvs)) : Le (hid X H) (hid X (upd H d (.frz od (.dT kvs)))) := by
  cases e : X d with
  | true => rw [hid_upd e]; exact Le.refl _
  | false => rw [hid_upd_out e]; exact Le.lock (by rw [hid_out e]; exact h) trivial (fun _ _ _ z => nomatch z) fun _ z => nomatch z
theorem ex_lockedT {H H1 H2 : Hp} {kvs : List (List Key × V)} {od : Obj} (e : Ex H H1) (h : H d = some (.dT kvs)) (e2 : Ex (upd H1 d (.frz od (.dT kvs))) H2) : Ex H (upd H2 d (.dT kvs)) := fun a o q => by
  by_cases z : a = d
  · rw [z, upd_same]; rw [z, h] at q; exact q
  · rw [upd_ne z]; exact e2 a o (by rw [upd_ne z]; exact e a o q)
/-- [te for x in self.rows], locked: outs are its items -/
theorem run_keysLc {dx : Addr} {kvs : List (List Key × V)} {outs : List V} {od : Obj} (T : OwnB K mg C) (hs : σ[0]? = some (some (.ref b))) (hb : H b = some (.ins C dx [("rows", .ref d)])) (hd : H d = some (.frz od (.dT kvs)))
    (hl : outs.length = kvs.length) (hz : kvs.length < 1000000) (he : ∀ (i : Nat) (k : List Key) (v : V) (q : Addr) (H' : Hp), Ex H H' → kvs[i]? = some (k, v) → H' q = some (.tup (k.map kV)) → ∀ Q : VK, (∀ o, outs[i]? = some o → Q o H') → te ((wipe σ [1]).set 1 (some (.ref q))) H' Q)
    {Q : VK} (k : ∀ D H', H D = none → Ex H H' → H' D = some (.lst outs) → Q (.ref D) H') : tLc (iKeys (tFld K (tVar 0) "rows")) (gName 1) tYes te [1] σ H Q := by
  unfold tLc iKeys
  refine run_rows T hs hb ⟨d, od, rfl, .inr ⟨kvs, hd, fun D hD => ?_⟩⟩
  have w := walk_keysT (d := d) (o := od) (kvs := kvs)
  refine lc_it w (fun i H3 => Ex H H3 ∧ H3 D = some (.lst (outs.take i))) ⟨Evl.Ex.new hD, upd_same⟩ (fun i H3 _ h => h.1 _ _ hd) (fun i x H3 H4 hi hP hy => ?_) (fun H3 hP => ?_)
  · obtain ⟨e3, hys⟩ := hP
    obtain ⟨e4, kk, v, q, h1, rfl, h3⟩ := hy
    subst e4
    have ho : outs[i]? = some outs[i] := List.getElem?_eq_getElem (by omega)
    refine ⟨wipe_set σ _ 1, ?_⟩
    unfold tYes
    dsimp only
    rw [if_pos rfl]
    refine he i kk v q H4 e3 h1 h3 _ fun o ho' => ⟨_, hys, ?_, Evl.Ex.mut e3 hD, ?_⟩
    · rw [List.length_take]; exact size_lt (by omega)
    · rw [upd_same, List.take_add_one, ho']; rfl
  · obtain ⟨e3, hys⟩ := hP
    rw [← hl, List.take_length] at hys
    exact k D H3 hD e3 hys
/-! pairs, terms -/
abbrev NBookPairs : List Str := ["self", "key"]
theorem scBookPairs : FnScope NBookPairs ["self"] (defScope sBookPairs) := ⟨rfl, rfl, rfl, by decide +kernel, rfl, by decide +kernel, by decide +kernel⟩
def ndB (l : Bk) : Prop := (l.map fun p => p.1.flat).Nodup
theorem lkE_self : ∀ {l : Bk} {p : Tm × Bool}, ndB l → p ∈ l → lkE l p.1 = some p
  | q :: l, p, hn, hp => by
    unfold ndB at hn
    rw [List.map_cons, List.nodup_cons] at hn
    unfold lkE
    rcases List.mem_cons.mp hp with rfl | hp
    · exact if_pos rfl
    · rw [if_neg (fun e => hn.1 (by rw [e]; exact List.mem_map.mpr ⟨p, hp, rfl⟩))]
      exact lkE_self (l := l) hn.2 hp
theorem ent_at {K : Frag} {H : Hp} {kvs : List (List Key × V)} {l : Bk} (h : Paired (rEnt K H) kvs l) (hn : ndB l) {i : Nat} {k : List Key} {v : V} (hi : kvs[i]? = some (k, v)) : valV kvs k = some v := by
  obtain ⟨p, hp, hk, hv⟩ := Paired.at' h i _ hi
  have hk : k = keyT p.1 := hk
  have hkn : (kvs.map Prod.fst).Nodup := by
    have e : kvs.map Prod.fst = l.map fun p => keyT p.1 := by
      clear hn hi hp hk hv
      induction h with
      | nil => rfl
      | cons a b ih => rw [List.map_cons, List.map_cons, ih, a.1]
    rw [e]
    unfold ndB at hn
    have e2 : (l.map fun p => keyT p.1) = (l.map fun p => p.1.flat).map (fun f => f.map fun x => (Sum.inr (S x) : Key)) := by rw [List.map_map]; rfl
    rw [e2]
    refine List.Pairwise.map _ (fun a b hab z => hab ?_) hn
    exact List.map_inj_right (fun x y z => SX.S_inj (Sum.inr.inj z)) |>.mp z
  clear h hn hp hk hv
  induction kvs generalizing i with
  | nil => simp at hi
  | cons kv kvs ih =>
    rw [List.map_cons, List.nodup_cons] at hkn
    cases i with
    | zero =>
      simp at hi
      subst hi
      exact valV_pos rfl
    | succ i =>
      simp at hi
      rw [valV_neg (fun z => hkn.1 (by rw [z]; exact List.mem_map.mpr ⟨_, List.mem_of_getElem? hi, rfl⟩))]
      exact ih hi hkn.2
theorem ents_vals {K : Frag} {H : Hp} {kvs : List (List Key × V)} {l : Bk} (h : Paired (rEnt K H) kvs l) : Paired (rPr rTm rBl K H) (kvs.map Prod.snd) l := by
  induction h with
  | nil => exact .nil
  | cons a b ih => exact .cons a.2 ih
def spPairs (K : Frag) (C : Addr) : Sp := fun vs H Q _ => ∃ b d l X, vs = [.ref b] ∧ isBk K C X H b d l ∧ Dm X H ∧ ndB l ∧ l.length < 1000 ∧ ∀ v H', Ex H H' → rLst (rPr rTm rBl) K (hid X H') v l → Q v H'
theorem ok_pairs (T : OwnB K mg C) (D : Mth K C "pairs" "Book.pairs" sBookPairs ["self"]) : KpM P w K mg base 1 C "pairs" ["self"] (spPairs K C) :=
  D.kp fun f fd c F => F.ok scBookPairs (fun vs H Q E ⟨b, d, l, X, e, _⟩ => by rw [e]; rfl) fun cdv A outer s H vs Q E hr ⟨b, d, l, X, e, hb, dm, hn, hz, q⟩ => by
    subst e
    refine ⟨_, (pss_one (ps_ret (pe_lock (pe_lc (own := [("key", 1)]) (g := gName 1) (tt := tYes) (te := tDGet (tFld K (tVar 0) "rows") (tVar 1)) rfl scBookPairs.nd (pi_keys (pe_fld (pv 0) rfl)) (blkOk_by (N := NBookPairs) (sc := defScope sBookPairs) (by decide +kernel)) (fun _ _ _ _ _ => (pg_name (i := 1) scBookPairs.nd rfl (.inl rfl))) (fun _ _ _ _ _ => pts_nil) (fun _ _ _ _ _ => (pe_dget (hu_of hr) (pe_fld (pv 0) rfl) (pv 1) (fun _ _ => rfl))))))), ?_⟩
    obtain ⟨dx, kvs, h1, h2, h3⟩ := hb
    have hbd : b ≠ d := fun z => by rw [z] at h1; rw [h1] at h2; cases h2
    have hlen := Paired.len h3
    refine ⟨d, _, h2, trivial, fun od => ?_⟩
    refine run_keysLc (outs := kvs.map Prod.snd) T rfl (by rw [upd_ne hbd]; exact h1) upd_same (List.length_map ..) (by omega) (fun i k v qa H' e' hi hq Q' k' => ?_) fun D H' hD e' hD' => ?_
    · unfold tDGet
      refine run_rows T rfl (e' _ _ (by rw [upd_ne hbd]; exact h1)) ⟨.ref qa, rfl, d, v, rfl, .inr ⟨kvs, k, qa, .inr ⟨od, e' _ _ upd_same⟩, rfl, hq, (ent_at h3 hn hi).symm⟩, k' v ?_⟩
      rw [List.getElem?_map, hi]; rfl
    · have g := e' _ _ (upd_same (H := H) (a := d) (o := .frz od (.dT kvs)))
      have hDd : D ≠ d := fun z => by rw [z, upd_same] at hD; cases hD
      have hDn : H D = none := by rw [upd_ne hDd] at hD; exact hD
      have E := ex_lockedT (Evl.Ex.refl H) h2 e'
      refine ⟨g, q _ _ E ⟨D, kvs.map Prod.snd, rfl, .inl (.inl ?_), ?_⟩⟩
      · rw [hid_out (dm.new hDn), upd_ne hDd]; exact hD'
      · exact ents_vals (Paired.mono (fun _ _ z => rEnt_mono (hid_le (X := X) E) z) h3)
abbrev NBookTerms : List Str := ["self", "key"]
theorem scBookTerms : FnScope NBookTerms ["self"] (defScope sBookTerms) := ⟨rfl, rfl, rfl, by decide +kernel, rfl, by decide +kernel, by decide +kernel⟩
theorem ents_terms {K : Frag} {H : Hp} {kvs : List (List Key × V)} {l : Bk} (h : Paired (rEnt K H) kvs l) : ∃ outs, outs.length = kvs.length ∧ Paired (rTm K H) outs (l.map Prod.fst) ∧ ∀ (i : Nat) k v, kvs[i]? = some (k, v) → ∃ a y o, v = .ref a ∧ SqT K H a [o, y] ∧ outs[i]? = some o := by
  induction h with
  | nil => exact ⟨[], rfl, .nil, fun i k v z => by simp at z⟩
  | @cons kv p kvs l a b ih =>
    obtain ⟨outs, h1, h2, h3⟩ := ih
    obtain ⟨ad, x, y, e, hs, hx, hy⟩ := a.2
    refine ⟨x :: outs, congrArg (· + 1) h1, .cons hx h2, fun i k v z => ?_⟩
    cases i with
    | zero =>
      simp at z
      subst z
      exact ⟨ad, y, x, e, hs, rfl⟩
    | succ i =>
      simp at z
      obtain ⟨a2, y2, o2, g1, g2, g3⟩ := h3 i k v z
      exact ⟨a2, y2, o2, g1, g2, by simpa using g3⟩
def spTerms (K : Frag) (C : Addr) : Sp := fun vs H Q _ => ∃ b d l X, vs = [.ref b] ∧ isBk K C X H b d l ∧ Dm X H ∧ ndB l ∧ l.length < 1000 ∧ ∀ v H', Ex H H' → rLst rTm K (hid X H') v (l.map Prod.fst) → Q v H'
theorem ok_terms (T : OwnB K mg C) (D : Mth K C "terms" "Book.terms" sBookTerms ["self"]) : KpM P w K mg base 1 C "terms" ["self"] (spTerms K C) :=
  D.kp fun f fd c F => F.ok scBookTerms (fun vs H Q E ⟨b, d, l, X, e, _⟩ => by rw [e]; rfl) fun cdv A outer s H vs Q E hr ⟨b, d, l, X, e, hb, dm, hn, hz, q⟩ => by
    subst e
    refine ⟨_, (pss_one (ps_ret (pe_lock (pe_lc (own := [("key", 1)]) (g := gName 1) (tt := tYes) (te := tOp (rIxT K) (tDGet (tFld K (tVar 0) "rows") (tVar 1)) (tC (.int 0))) rfl scBookTerms.nd (pi_keys (pe_fld (pv 0) rfl)) (blkOk_by (N := NBookTerms) (sc := defScope sBookTerms) (by decide +kernel)) (fun _ _ _ _ _ => (pg_name (i := 1) scBookTerms.nd rfl (.inl rfl))) (fun _ _ _ _ _ => pts_nil) (fun _ _ _ _ _ => (pe_ix ix_tup (pe_dget (hu_of hr) (pe_fld (pv 0) rfl) (pv 1) (fun _ _ => rfl)) pe_int (fun _ _ => rfl))))))), ?_⟩
    obtain ⟨dx, kvs, h1, h2, h3⟩ := hb
    have hbd : b ≠ d := fun z => by rw [z] at h1; rw [h1] at h2; cases h2
    have hlen := Paired.len h3
    obtain ⟨outs, o1, o2, o3⟩ := ents_terms h3
    refine ⟨d, _, h2, trivial, fun od => ?_⟩
    refine run_keysLc (outs := outs) T rfl (by rw [upd_ne hbd]; exact h1) upd_same o1 (by omega) (fun i k v qa H' e' hi hq Q' k' => ?_) fun D H' hD e' hD' => ?_
    · unfold tOp tDGet
      obtain ⟨a, y, o, rfl, g1, g2⟩ := o3 i k v hi
      refine run_rows T rfl (e' _ _ (by rw [upd_ne hbd]; exact h1)) ⟨.ref qa, rfl, d, .ref a, rfl, .inr ⟨kvs, k, qa, .inr ⟨od, e' _ _ upd_same⟩, rfl, hq, (ent_at h3 hn hi).symm⟩, a, [o, y], 0, o, rfl, rfl, ?_, at0, k' o g2⟩
      exact ((hid_lockT (X := X) h2).trans (hid_le e')).t g1 |> sqt_hid
    · have g := e' _ _ (upd_same (H := H) (a := d) (o := .frz od (.dT kvs)))
      have hDd : D ≠ d := fun z => by rw [z, upd_same] at hD; cases hD
      have hDn : H D = none := by rw [upd_ne hDd] at hD; exact hD
      have E := ex_lockedT (Evl.Ex.refl H) h2 e'
      refine ⟨g, q _ _ E ⟨D, outs, rfl, .inl (.inl ?_), Paired.mono (fun _ _ z => rTm_mono (hid_le (X := X) E) z) o2⟩⟩
      rw [hid_out (dm.new hDn), upd_ne hDd]; exact hD'
end
end Q
set_option maxHeartbeats 4000000
/-! Q8: len(x) by an own __len__. -/
namespace Q
open PySem PySem.Spec PyProof.Rows L2
section
variable {X : Cx} {C f : Addr} {fd : FuncData} {ps : List Str} {sp : Sp} {k : Nat}
def rLenOwn (C : Addr) (sp : Sp) : List V → Hp → VK → Prop := fun xs H Q => ∃ a dx fs, xs = [.ref a] ∧ H a = some (.ins C dx fs) ∧ sp [.ref a] H (fun v H' => ∃ n : Nat, v = .int (n : Int) ∧ n < 1000000 ∧ Q (.int (n : Int)) H') E0
theorem call_lenOwn (F : FnOk X.prog X.w X.K X.mg X.base CX0 k f fd ps sp) (hs : PySem.W.findIn X.K (.ref C) "__len__" = some (some (.ref f))) (ht : PySem.W.typeIn X.K (.ref f) = some (.type "function")) (hb : Binds X.K fd ps []) (hr : Room (k + 1) X.A) :
    CallR X (.builtin "len") (rLenOwn C sp) := by
  intro pins s σ H xs us Q I r h
  obtain ⟨a, dx, fs, rfl, ha, hsp⟩ := h
  obtain ⟨u, rfl, ru⟩ := vals1 r
  obtain rfl : u = Value.ref a := ru
  obtain ⟨mA, J, _⟩ := ins_get I.hok ha
  obtain ⟨od, J, _⟩ := J.look
  refine Calls.call_function_entry kind_len plain_len entry_len (args_len1 _) ?_
  unfold Builtin.«len»
  refine wpAny_bind (m := oneArg "len" _) (wpAny_pure ?_)
  have sp' : PySem.W.Looks (model X.prog X.w) s.heap (specialOf (.ref a) "__len__") (some (.ref f)) := J.type.andThen (PySem.W.looks_findIn I.kIn hs)
  refine wpAny_bind (m := callSpecial? (.ref a) (PySem.Str.ofString "__len__")) ?_
  unfold callSpecial?
  refine wpAny_bind (sp'.here ?_)
  dsimp only
  refine wpAny_holding (wpAny_bind ((PySem.W.bind_fn I.kIn (.ref a) ht).here ?_))
  dsimp only
  refine wpAny_bind ?_
  have e0 : Env0 X.prog X.w X.K X.mg X.base X.A.in1 X.stack s H := by
    have e := I.env0
    exact ⟨e.frames, e.mod, e.bs, e.bsz, e.funs, e.frf, e.hok, e.bare⟩
  have hl := F.len _ _ _ _ hsp
  have r2 : Vals [V.ref a] [Value.ref a] := .cons rfl .nil
  refine wpAny_call (codeAny_mono (F.run X.A.in1 X.stack s H ⟨[.ref a], []⟩ [.ref a] [.ref a] _ E0 hr.in1 e0 (by
    have := hb s [.ref a] I.kIn (by simpa using hl)
    simpa using this) r2 hsp) fun r s' hq => ?_)
  cases r with
  | error e => exact pass0 pins σ H s e s' I hq
  | ok fl =>
    cases fl with
    | ret w =>
      obtain ⟨z, H', I', rz, n, ez, hn, q⟩ := I.after hq
      subst ez
      obtain ⟨t, rfl⟩ := (show ∃ t, w = Value.int (n : Int) t from rz)
      refine wpAny_pure ?_
      refine wpAny_bind (wpAny_holding (wpAny_pure ?_))
      refine wpAny_bind (wpAny_letGo ?_)
      show wpAny _ _ (if ((n : Nat) : Int) < 0 then _ else _) _ _ _
      rw [if_neg (by omega)]
      show wpAny _ _ (if ((n : Nat) : Int) ≥ 2 ^ 63 then _ else _) _ _ _
      rw [if_neg (by omega)]
      exact wpAny_bind (wpAny_mkInt (wpAny_pure ⟨_, rfl, ⟨.int (n : Int), H', I'.tok _, ⟨_, rfl⟩, q⟩⟩))
    | next => exact False.elim hq
    | brk => exact False.elim hq
    | cont => exact False.elim hq
theorem plain_one : plainId "object.__ne__" = true := by decide +kernel
theorem bind_one (self : Value) : bindSpecial (.builtin "object.__ne__") self = pure (.builtin "object.__ne__", [self]) := by first | rfl | kernel_rfl
def rNeOwn (C : Addr) (R : Addr → Addr → Hp → Prop) : R2 := fun x y H Q => DIns C R x y H ∧ ∀ H', Ext H H' → Q (.bl false) H'
theorem op_neOwn {R : Addr → Addr → Hp → Prop} (F : FnOk X.prog X.w X.K X.mg X.base CX0 k f fd ps (spEq R)) (hs : PySem.W.findIn X.K (.ref C) "__eq__" = some (some (.ref f))) (hf : PySem.W.isFn X.K (.ref f) = true) (hb : Binds X.K fd ps [])
    (hn : PySem.W.findIn X.K (.ref C) "__ne__" = some (some (.builtin "object.__ne__"))) (hm : PySem.W.mroIn X.K C (.type "object") = some true) (hr : Room (k + 1) X.A) : OpR X (compareOp .NotEq) (rNeOwn C R) := by
  intro pins s σ H x y v u Q I rx ry hq
  obtain ⟨⟨a, b, dx, dy, fs, gs, rfl, rfl, ha, hb', hR⟩, q⟩ := hq
  cases rx
  cases ry
  obtain ⟨mA, J, _⟩ := ins_get I.hok ha
  obtain ⟨mB, J', _⟩ := ins_get I.hok hb'
  obtain ⟨od, J, _⟩ := J.look
  obtain ⟨od', J', _⟩ := J'.look
  have hsp : spEq R [.ref a, .ref b] H (fun v H' => v = .bl true ∧ Ext H H') E0 := ⟨a, b, rfl, hR, fun H' e => ⟨rfl, e⟩⟩
  have e0 : Env0 X.prog X.w X.K X.mg X.base X.A.in1 X.stack s H := by
    have e := I.env0
    exact ⟨e.frames, e.mod, e.bs, e.bsz, e.funs, e.frf, e.hok, e.bare⟩
  have hl := F.len _ _ _ _ hsp
  have r2 : Vals [V.ref a, V.ref b] [Value.ref a, Value.ref b] := .cons rfl (.cons rfl .nil)
  have hu : X.A.in1.units < cLine := hr.in1.units0
  have hcall : wpAny (model X.prog X.w) X.A.in1 (call (.ref f) [.ref a, .ref b]) (fun v s' => v = .bool true ∧ EP X pins σ Q (.bool false) s') X.xe s := by
    refine wpAny_call (codeAny_mono (F.run X.A.in1 X.stack s H ⟨[.ref a, .ref b], []⟩ [.ref a, .ref b] [.ref a, .ref b] _ E0 hr.in1 e0 (by
      have := hb s [.ref a, .ref b] I.kIn (by simpa using hl)
      simpa using this) r2 hsp) fun r s' hq => ?_)
    cases r with
    | error e => exact pass0 pins σ H s e s' I hq
    | ok fl =>
      cases fl with
      | ret w =>
        obtain ⟨z, H', I', rz, ez, ex⟩ := I.after hq
        subst ez
        cases rz
        exact ⟨rfl, .bl false, H', I', rfl, q H' ex⟩
      | next => exact False.elim hq
      | brk => exact False.elim hq
      | cont => exact False.elim hq
  have inst : PySem.W.Looks (model X.prog X.w) s.heap (isInstance (.ref a) (.type "object")) true := J.type.andThen (PySem.W.looks_mroIn I.kIn hm)
  have sp' : PySem.W.Looks (model X.prog X.w) s.heap (specialOf (.ref a) "__ne__") (some (.builtin "object.__ne__")) := J.type.andThen (PySem.W.looks_findIn I.kIn hn)
  have body : wpAny (model X.prog X.w) X.A.in1 (Builtin.«object.__ne__» ⟨[.ref a, .ref b], []⟩) (fun r s' => r = .done (.ret (.bool false)) ∧ EP X pins σ Q (.bool false) s') X.xe s := by
    unfold Builtin.«object.__ne__»
    refine wpAny_bind (m := slotArgs "__ne__" 1 _) (wpAny_pure ?_)
    refine wpAny_bind (wpAny_cRoomFor hu ?_)
    refine wpAny_bind (m := callSpecialIfBound? (.ref a) (PySem.Str.ofString "__eq__") [.ref b]) (PySem.W.ifBound_K I.kIn J hs hf (wpAny_mono hcall (fun v s' hv => ?_) fun _ _ e => e))
    obtain ⟨rfl, hv⟩ := hv
    refine wpAny_bind (wpAny_truthy_bool ?_)
    exact wpAny_pure ⟨rfl, hv⟩
  have tc : wpAny (model X.prog X.w) X.A (tryCompare (.ref a) "__ne__" (.ref b)) (fun r s' => r = some (.bool false) ∧ EP X pins σ Q (.bool false) s') X.xe s := by
    unfold tryCompare
    refine wpAny_bind (NtL.csib sp' (bind_one _) (wpAny_call (codeAny_call_builtin plain_one PySem.F.cmpEntry_ne (@PySem.W.check_slot (model X.prog X.w) _ _ _ "object.__ne__" "object" "__ne__" (.ref a) [.ref b] [] _ PySem.F.cmpKind_ne PySem.F.cmpSplit_ne inst (PySem.F.cmpArgs_ne _ _) (wpAny_mono body (fun r s' hr' => ?_) fun _ _ e => e)))))
    obtain ⟨rfl, hv⟩ := hr'
    exact wpAny_pure ⟨rfl, hv⟩
  show wpAny (model X.prog X.w) X.A (richCompare .NotEq (.ref a) (.ref b)) (EP X pins σ Q) X.xe s
  unfold richCompare
  simp only [oneThing_ref]
  refine wpAny_holding (wpAny_bind (wpAny_cRoomFor hr.units0 ?_))
  refine wpAny_bind (J.type.here (wpAny_bind (J'.type.here ?_)))
  rw [show (Value.ref C != Value.ref C) = false from by simp]
  simp only [Bool.false_eq_true, if_false]
  refine wpAny_bind (wpAny_pure ?_)
  simp only [Bool.false_eq_true, if_false]
  refine wpAny_bind (wpAny_mono tc (fun r s' hr' => ?_) fun _ _ e => e)
  obtain ⟨rfl, hv⟩ := hr'
  exact wpAny_pure hv
end
end Q
set_option maxHeartbeats 4000000
/-! F9: making books, their length. -/
namespace Q
open PySem PySem.Spec PyProof.Rows L2
section
variable {X : Cx} {k j : Nat} {x m : Str} {ps : List Str} {sp : Sp} {C : Addr} {e o : Expr} {es : List Expr} {p pos apos : Pos} {t : TA} {ta : TE} {dvs : List V}
theorem pe_kmD {pl : Sem Bool} (c : KpMD X.prog X.w X.K X.mg X.base k C m ps dvs sp) (hr : Room j X.A) (hk : k ≤ j) (he : PE X o ta) (ha : PA X (e :: es) t)
    (hst : starEach (e :: es) X.env = (false, eval e X.env) :: starEach es X.env := by rfl) (hpl : (backTo pos (starEach es X.env)).any (·.1) = false := by rfl)
    (ht : eval (.Call (.Attribute o m apos) (e :: es) [] pos) X.env = (do
      let ov ← eval o X.env
      standAt apos.atName
      let (f, first) ← holding [ov] (getMethod ov m pl)
      callWith pos f first (backTo pos (starEach (e :: es) X.env)) (backToKw pos (keywordEach [] X.env))) := by rfl) :
    PE X (.Call (.Attribute o m apos) (e :: es) [] pos) (tMeth C m sp dvs E0 ta t) := by
  obtain ⟨f, fd, ds, F, cl, hm, b, v⟩ := c
  exact pe_meth he cl hm F (hr.mono hk) b v pass0 ha hst hpl ht
theorem pe_mkD0 (c : KpMD X.prog X.w X.K X.mg X.base k C "__init__" ps dvs sp) (M : MkC X.K C) (hm : X.mg x = some (.ref C)) (hr : Room j X.A) (hk : k + 1 ≤ j) (hg : Gl X x := by rfl) (hdb : (x == ("__debug__" : Str)) = false := by decide) :
    PE X (.Call (.Name x p) [] [] pos) (tMake C sp dvs E0 tNil) := by
  obtain ⟨f, fd, ds, F, cl, h, b, v⟩ := c
  exact pe_make0 ⟨M.makes, h.at_, h.fn, M.kp⟩ F (hr.mono hk) hg hm b v pass0 hdb
end
section
variable {P : Program} {w : World} {K : Frag} {mg : Str → Option Value} {base : Heap} {X : Hs} {σ : L2.St} {H : Hp} {te ta tb : TE} {C : Addr}
abbrev NBookInit : List Str := ["self", "rows", "term", "value"]
theorem scBookInit : FnScope NBookInit ["self", "rows"] (C8.fnScope sBookInit) := ⟨rfl, rfl, rfl, by decide +kernel, rfl, by decide +kernel, by decide +kernel⟩
def spBookInit (K : Frag) (C : Addr) : Sp := fun vs H Q _ => ∃ a dx t, vs = [.ref a, .ref t] ∧ H a = some (.ins C dx []) ∧ (∀ Hx, SqT K Hx t []) ∧
  ∀ d H', H d = none → Off a H H' → H' a = some (.ins C dx [("rows", .ref d)]) → H' d = some (.dT []) → Q .non H'
theorem ok_bookInit {f : Addr} {fd : FuncData} (T : OwnB K mg C) (F : C8.Fun K "__init__" "Book.__init__" sBookInit f fd) : FnOk P w K mg base CX0 1 f fd ["self", "rows"] (spBookInit K C) :=
  C8.fn0 F scBookInit (fun vs H Q E ⟨a, dx, t, e, _⟩ => by rw [e]; rfl) fun cdv A outer s H vs Q E hr ⟨a, dx, t, e, ha, hk, q⟩ => by
    subst e
    refine ⟨_, (pss_cons (ps_fld (pv 0) pe_dnewT rfl)
    (pss_one (ps_for PassesOwn.never rfl (pi_tup (pv 1)) (pg_tup rfl (pgs_cons (pg_name (i := 2) scBookInit.nd rfl (.inl rfl)) (pgs_cons (pg_name (i := 3) scBookInit.nd rfl (.inl rfl)) pgs_nil))) (pss_one ps_never)))), ?_⟩
    refine fun d hd => ⟨.ref a, rfl, a, C, dx, [], rfl, by rw [upd_ne (ne_of_none ha hd)]; exact ha, T.ins.cl, T.na _ (by simp), (by decide), ?_⟩
    have hda : d ≠ a := (ne_of_none ha hd).symm
    generalize hH : upd (upd H d (.dT [])) a (.ins C dx (putF "rows" (.ref d) [])) = H2
    refine st_for (K := K) (X := no) (r := rInt) (xs := []) (fun B n σ' H' => (∃ x y, σ' = [some (.ref a), some (.ref t), x, y]) ∧ Ex B H') (ei_tup (r := rInt) (xs := []) (er_var rfl ⟨t, [], rfl, hk _, .nil⟩)) Dm.no (fun B _ => ⟨⟨_, _, rfl⟩, Evl.Ex.refl _⟩) (fun B n σ' H' _ h => h.2) (fun B n x σ' H' _ h => by simp at h) ?_
    rintro B σ' H' eB ⟨_, e3⟩
    have E2 := eB.trans e3
    refine q d H' hd (fun b o hb h => E2 _ _ ?_) (E2 _ _ ?_) (E2 _ _ ?_)
    · rw [← hH, upd_ne hb, upd_ne (ne_of_none h hd)]; exact h
    · rw [← hH, upd_same]; rfl
    · rw [← hH, upd_ne hda, upd_same]
abbrev NBookLen : List Str := ["self"]
theorem scBookLen : FnScope NBookLen ["self"] (defScope sBookLen) := ⟨rfl, rfl, rfl, by decide +kernel, rfl, by decide +kernel, by decide +kernel⟩
def spLen (K : Frag) (C : Addr) : Sp := fun vs H Q _ => ∃ b d l X, vs = [.ref b] ∧ isBk K C X H b d l ∧ ∀ H', Ex H H' → Q (.int (l.length : Int)) H'
theorem ok_len (B : Bi mg) (T : OwnB K mg C) (D : Mth K C "__len__" "Book.__len__" sBookLen ["self"]) : KpM P w K mg base 1 C "__len__" ["self"] (spLen K C) :=
  D.kp fun f fd c F => F.ok scBookLen (fun vs H Q E ⟨b, d, l, X, e, _⟩ => by rw [e]; rfl) fun cdv A outer s H vs Q E hr ⟨b, d, l, X, e, hb, q⟩ => by
    subst e
    refine ⟨_, (pss_one (ps_ret (pe_callB call_len_dT rfl B.len (by decide +kernel) (pa_cons (pe_fld (pv 0) rfl) pa_nil)))), ?_⟩
    obtain ⟨dx, kvs, h1, h2, h3⟩ := hb
    unfold tRet tCB tCons
    refine run_rows T rfl h1 ⟨d, kvs, rfl, h2, ?_⟩
    rw [Paired.len h3]
    exact q _ (Evl.Ex.refl _)
/-- Book() -/
theorem run_mkBook {t : Addr} {Q : VK} (dm : Dm X H) (hk : ∀ Hx, SqT K Hx t []) (q : ∀ b d H', H b = none → H d = none → Ex H H' → isBk K C X H' b d [] → Q (.ref b) H') : tMake C (spBookInit K C) [.ref t] E0 tNil σ H Q := fun x dx nx nd ne =>
  ⟨x, dx, t, rfl, upd_same, hk, fun d H' hd off g1 g2 => ⟨rfl, by
    have hdx : d ≠ x := fun z => by rw [z, upd_same] at hd; cases hd
    have hdd : d ≠ dx := fun z => by rw [upd_ne hdx, z, upd_same] at hd; cases hd
    refine q x d H' nx (by rw [upd_ne hdx, upd_ne hdd] at hd; exact hd) (ex_make nx nd off) ⟨dx, [], g1, g2, .nil⟩⟩⟩
end
end Q
set_option maxHeartbeats 4000000
/-! Q9: loops in which what is hidden may change. -/
namespace Q
open PySem PySem.Spec PyProof.Rows L2
variable {K : Frag} {X : Hs}
def EiX {α : Type} (K : Frag) (X : Hs) (wi : TI) (σ : L2.St) (H : Hp) (r : Rel α) (xs : List α) : Prop := ∀ H1, Ex H H1 → Dm X H1 → ∀ R : It → Hp → Prop,
  (∀ J H2 (G : Hp → Prop) Y, Ex H1 H2 → Walk J xs.length G Y → (∀ H3, Ex (hid X H2) (hid X H3) → G H3) → (∀ i H3 x H4, Ex (hid X H2) (hid X H3) → Y i H3 x H4 → Ex H3 H4 ∧ ∃ d, xs[i]? = some d ∧ ∀ X', Ex (hid X H2) (hid X' H4) → Dm X' H3 → r K (hid X' H4) x d) → R J H2) → wi σ H1 R
section
variable {α β : Type} {σ : L2.St} {H : Hp} {r : Rel α} {s : Rel β} {te : TE} {ta : TA} {D : Ends}
theorem eix_list [m : Mono r] {xs : List α} (h : Er K X te σ H (rLst r) xs) : EiX K X (iList K te) σ H r xs := fun H1 e dm R q =>
  h H1 e dm _ fun v H2 e2 ⟨a, vs, hv, hs, hp⟩ => ⟨a, hv, ⟨vs, sql_hid hs⟩, q (Itl K a) H2 (fun H => SqL K H a vs) (YAt vs) e2 (by rw [← Paired.len hp]; exact walk_list) (fun H3 e3 => sql_hid (Evl.ex_l e3 hs)) fun i H3 x H4 e3 y => by
    obtain ⟨rfl, y⟩ := y
    obtain ⟨d, h1, h2⟩ := Paired.at' hp i x y
    exact ⟨Evl.Ex.refl _, d, h1, fun X' e' _ => m.mono e'.le h2⟩⟩
theorem eix_tup [m : Mono r] {xs : List α} (h : Er K X te σ H (rTup r) xs) : EiX K X (iTup K te) σ H r xs := fun H1 e dm R q =>
  h H1 e dm _ fun v H2 e2 ⟨a, vs, hv, hs, hp⟩ => ⟨a, hv, ⟨vs, sqt_hid hs⟩, q (Itt K a) H2 (fun H => SqT K H a vs) (YAt vs) e2 (by rw [← Paired.len hp]; exact walk_tup) (fun H3 e3 => sqt_hid (Evl.ex_t e3 hs)) fun i H3 x H4 e3 y => by
    obtain ⟨rfl, y⟩ := y
    obtain ⟨d, h1, h2⟩ := Paired.at' hp i x y
    exact ⟨Evl.Ex.refl _, d, h1, fun X' e' _ => m.mono e'.le h2⟩⟩
theorem eix_range1 {n : Nat} (hn : (n : Int) < 2 ^ 62) (h : Er K X te σ H rInt (n : Int)) : EiX K X (iRng1 (tCons te tNil)) σ H rInt ((List.range n).map fun j => ((j : Nat) : Int)) := fun H1 e dm R q =>
  h H1 e dm _ fun v H2 e2 hv => ⟨(n : Int), by rw [hv], by omega, hn, q (Itr 0 (n : Int).toNat) H2 (fun _ => True) (fun i H x H' => i < n ∧ H' = H ∧ x = .int (0 + i)) e2
    (by
      rw [List.length_map, List.length_range, Int.toNat_natCast]
      exact ⟨fun _ _ hi _ => hi, fun _ _ => Nat.le_refl _, fun i H x H' hi _ y => ⟨hi, y⟩⟩) (fun _ _ => trivial) fun i H3 x H4 e3 ⟨hi, e4, ex⟩ => by
    subst e4
    exact ⟨Evl.Ex.refl _, _, getElem?_range hi, fun _ _ _ => by rw [ex]; show V.int _ = V.int _; rw [Int.zero_add]⟩⟩
theorem eix_enum [m : Mono r] {xs : List α} (h : Er K X te σ H (rLst r) xs) : EiX K X (iEnum K (tCons te tNil)) σ H (rPr rInt r) (((List.range xs.length).map fun j => ((j : Nat) : Int)).zip xs) := fun H1 e dm R q =>
  h H1 e dm _ fun v H2 e2 ⟨a, vs, hv, hs, hp⟩ => ⟨a, vs, by rw [hv], sql_hid hs, q (Ite K a) H2 (fun H => SqL K H a vs) (YPair (fun i => some (.int (i : Nat))) (fun i => vs[i]?)) e2
    (by
      rw [List.length_zip, List.length_map, List.length_range, Nat.min_self, ← Paired.len hp]
      exact walk_enum) (fun H3 e3 => sql_hid (Evl.ex_l e3 hs)) fun i H3 y H4 e3 yy => by
    obtain ⟨T, x1, x2, rfl, hT, rfl, h1, h2⟩ := yy
    obtain ⟨d, h3, h4⟩ := Paired.at' hp i x2 h2
    have hi : i < xs.length := (List.getElem?_eq_some_iff.mp h3).1
    refine ⟨Evl.Ex.new hT, (((i : Nat) : Int), d), ?_, fun X' e' d' => ⟨T, x1, x2, rfl, .inl (.inl ?_), ?_, m.mono e'.le h4⟩⟩
    · rw [List.getElem?_zip_eq_some]
      exact ⟨getElem?_range hi, h3⟩
    · rw [hid_out (d'.new hT), upd_same]
    · exact (Option.some.inj h1).symm⟩
/-- a for in which what is hidden may change -/
theorem st_forX {wi : TI} {g : TG} {tb : TS} {xs : List α} (P : Hp → Nat → L2.St → Hp → Prop) (hi : EiX K X wi σ H r xs) (d : Dm X H) (h0 : ∀ B, Ex H B → P B 0 σ B)
    (hex : ∀ B n σ' H', Ex H B → P B n σ' H' → Ex (hid X B) (hid X H'))
    (hs : ∀ B n x σ' H', Ex H B → xs[n]? = some x → P B n σ' H' → ∀ v H2, Ex H' H2 → (∀ X', Ex (hid X B) (hid X' H2) → Dm X' H' → r K (hid X' H2) v x) → g v σ' H2 fun σ2 H3 => tb { D with nx := P B (n + 1), ct := P B (n + 1), bk := D.nx } σ2 H3)
    (hd : ∀ B σ' H', Ex H B → P B xs.length σ' H' → D.nx σ' H') : tFor wi g tb D σ H :=
  hi H (Evl.Ex.refl H) d _ fun J B G Y e hW hG hY => for_it hW (fun n σ' H' => P B n σ' H') (h0 B e) (fun n σ' H' _ p => hG H' (hex B n σ' H' e p)) (fun n v σ' H' H2 hn p y => by
      obtain ⟨e2, x, hx, hr⟩ := hY n H' v H2 (hex B n σ' H' e p) y
      exact hs B n x σ' H' e hx p v H2 e2 hr) fun σ' H' p => hd B σ' H' e p
/-- what is hidden changed, the rest stands -/
theorem hid_off {H H' : Hp} {a : Addr} (h : ∀ b o, b ≠ a → H b = some o → H' b = some o) (hX : X a = true) : Ex (hid X H) (hid X H') := fun b o q => by
  obtain ⟨h1, h2⟩ := hid_some.mp q
  exact hid_some.mpr ⟨h1, h b o (fun z => by rw [z, hX] at h1; cases h1) h2⟩
end
end Q
set_option maxHeartbeats 8000000
/-! F10: lots. -/
namespace Q
open PySem PySem.Spec PyProof.Rows L2
section
variable {P : Program} {w : World} {K : Frag} {mg : Str → Option Value} {base : Heap} {X : Hs} {σ : L2.St} {H : Hp} {te ta tb : TE} {C Cw Cb : Addr} {α : Type} {r : Rel α}
/-- isinstance(xs, (list, tuple)) -/
theorem er_isiLT [Mono r] {xs : List α} (h : Er K X te σ H (rLst r) xs) : Er K X (tCB (rIsiT K) (tCons te (tCons (tTup (tCons (tC (.ty "list")) (tCons (tC (.ty "tuple")) tNil))) tNil))) σ H rBl true := fun H1 e dm Q k =>
  h H1 e dm _ fun v H2 e2 hv => ⟨(by show 2 ≤ sizeLine; decide), fun p hp => ⟨v, p, [.ty "list", .ty "tuple"], .type "list", [.type "list", .type "tuple"], true, rfl, upd_same, .cons (.ty _) (.cons (.ty _) .nil), ty_lst (X := X) ((inferInstance : Mono (rLst r)).mono (hid_le (Evl.Ex.new hp)) hv),
    kitAny_cons (b := true) (kit_ty (by decide +kernel)) (fun z => nomatch z) (fun _ => rfl), k _ _ (e2.trans (Evl.Ex.new hp)) rfl⟩⟩
theorem er_lenPr {α β : Type} {r : Rel α} {s : Rel β} [Mono r] [Mono s] {p : α × β} (h : Er K X te σ H (rPr r s) p) : Er K X (tCB (rLn K) (tCons te tNil)) σ H rInt 2 := er_cb1 h fun v H1 _ _ hv Q k => by
  obtain ⟨a, x, y, rfl, h2, _⟩ := hv
  exact ⟨_, 2, rfl, .inr ⟨_, sqt_hid h2, rfl⟩, k _ H1 (Evl.Ex.refl _) rfl⟩
/-! is_answer -/
abbrev NIsAnswer : List Str := ["words", "value"]
theorem scIsAnswer : FnScope NIsAnswer ["words", "value"] (defScope sIsAnswer) := ⟨rfl, rfl, rfl, by decide +kernel, rfl, by decide +kernel, by decide +kernel⟩
/-- a term that goes with words and is small -/
def goodT (wd : Wd) (t : Tm) : Prop := t.ok wd ∧ t.deep ≤ 60 ∧ t.size ≤ 200 ∧ t.fit = true
abbrev spIsAnswer (K : Frag) (C : Addr) : Sp := SpF (A2 (rWds C) (rPr rTm rBl) fun wd p => goodT wd p.1) K rBl fun _ => true
theorem ok_isAnswer (B : Bi mg) (G : Gs mg) (c_shape_of : Kp P w K mg base 62 "shape_of" ["words", "value", "deep"] (spShape K C 60)) (D : Dfn K mg "is_answer" sIsAnswer ["words", "value"]) : Kp P w K mg base 63 "is_answer" ["words", "value"] (spIsAnswer K C) :=
  D.kp fun f fd F hm b => F.ok scIsAnswer len2 fun cdv A outer s H vs Q E hr ⟨⟨wd, p⟩, X, dm, ⟨v, v2, e, h, h2, hp⟩, q⟩ => by
    subst e
    refine ⟨_, (pss_cons (ps_if (PW.pt (pw_or (pt_not (pt_val (pe_callB call_isi rfl B.isinstance (by decide +kernel) (pa_cons (pv 1) (pa_cons (pe_bltn (v := .ty "tuple") (u := .type "tuple") rfl B.tuple (by decide +kernel) rfl) pa_nil))))) (pw_or (pt_cmpR op_ne (pe_callB call_len rfl B.len (by decide +kernel) (pa_cons (pv 1) pa_nil)) (C8.pe_gc rfl G.PAIR) (nomark _)) (pw_or1 (pt_not (pt_val (pe_callB call_isi rfl B.isinstance (by decide +kernel) (pa_cons (pe_ix ix_tup (pv 1) pe_int (fun _ _ => rfl)) (pa_cons (pe_bltn (v := .ty "bool") (u := .type "bool") rfl B.bool (by decide +kernel) rfl) pa_nil))))))))) (pss_one (ps_ret pe_bl)) pss_nil)
    (pss_one (ps_ret (pe_cmp (pc_notN (pe_kp c_shape_of hr (Nat.le_refl _) (pa_cons (pv 0) (pa_cons (pe_ix ix_tup (pv 1) pe_int (fun _ _ => rfl)) (pa_cons (C8.pe_gc rfl G.MOST_DEEP) pa_nil))))))))), ?_⟩
    refine st_skip (X := X) (et_or (a := false) (b := false) (et_not (a := true) (et_B (er_isi (r := rPr rTm rBl) (x := p) (er_var rfl h2) fun _ _ z => ⟨_, ty_pr z, by decide +kernel⟩))) fun _ => et_or (a := false) (b := false) (et_test (Er.is (er_neI (K := K) (er_lenPr (er_var rfl h2)) er_int) rfl)) fun _ => et_not (a := true) (et_B (er_isi (r := rBl) (x := p.2) (er_snd (r := rTm) (er_var rfl h2) er_int) fun _ _ z => ⟨_, ty_bl z, by decide +kernel⟩))) dm fun H2 e2 => ?_
    dsimp only
    have w2 := (inferInstance : Mono (rWds C)).mono (hid_le e2) h
    have p2 := (inferInstance : Mono (rPr rTm rBl)).mono (hid_le e2) h2
    refine ret_of (r := rBl) (x := true) (Er.is (er_notN (K := K) (r := rNat) (x := some p.1.size) (er_call3 (r := rWds C) (s := rTm) (t := rNat) (f := fun p : Wd × Tm × Nat => some p.2.1.size) (x := wd) (y := p.1) (c := 60) (er_var rfl w2) (er_fst (s := rBl) (er_var rfl p2) er_int) (er_toNat (x := 60) er_int) ⟨hp.1, hp.2.1, hp.2.2.1, Nat.le_refl _⟩)) rfl) (dm.ex e2) fun v' H' e' hv => q v' H' (e2.trans e') hv
/-- just this value -/
def rIs : Rel V := fun _ _ v x => v = x
instance : Mono rIs := ⟨fun _ h => h⟩
theorem gnm {i : Nat} {D : Ends} {v : V} {H' : Hp} (h : D.nx (σ.set i (some v)) H') : gName i v σ H' D.nx := h
theorem st_drop {D : Ends} {x : α} (h : Er K X te σ H r x) (d : Dm X H) (k : ∀ v H2, Ex H H2 → r K (hid X H2) v x → D.nx σ H2) : tDrop te D σ H := h.go d k
theorem er_get2 {b d : Addr} {l : Bk} {t : Tm} {x : Bool} {i : Nat} {E : XK} (hs : σ[i]? = some (some (.ref b))) (hb : isBk K C X H b d l) (h1 : Er K X ta σ H rTm t) (h2 : Er K X tb σ H rBl x) (hz : t.size ≤ bigT) :
    Er K X (tMeth C "get" (spGet K C) [] E (tVar i) (tCons ta (tCons tb tNil))) σ H rBl (match lkE l t with | some p => p.2 | none => x) := fun H1 e dm Q k => by
  obtain ⟨dx, kvs, g1, g2, g3⟩ := hb.ex e
  refine ⟨.ref b, hs, b, dx, _, rfl, g1, rfl, h1 H1 e dm _ fun u H2 e2 hu => h2 H2 (e.trans e2) (dm.ex e2) _ fun w' H3 e3 hw => ⟨b, d, l, t, X, u, w', rfl, hb.ex ((e.trans e2).trans e3), (dm.ex e2).ex e3, rTm_mono (hid_le e3) hu, hz, fun H4 e4 => ?_⟩⟩
  refine k _ H4 ((e2.trans e3).trans e4) ?_
  cases lkE l t with
  | none => exact hw
  | some p => rfl
theorem er_get1 {b d : Addr} {l : Bk} {t : Tm} {p : Tm × Bool} {i : Nat} {E : XK} (hs : σ[i]? = some (some (.ref b))) (hb : isBk K C X H b d l) (h1 : Er K X ta σ H rTm t) (hz : t.size ≤ bigT) (hp : lkE l t = some p) :
    Er K X (tMeth C "get" (spGet K C) [.non] E (tVar i) (tCons ta tNil)) σ H rBl p.2 := fun H1 e dm Q k => by
  obtain ⟨dx, kvs, g1, g2, g3⟩ := hb.ex e
  refine ⟨.ref b, hs, b, dx, _, rfl, g1, rfl, h1 H1 e dm _ fun u H2 e2 hu => ⟨b, d, l, t, X, u, .non, rfl, hb.ex (e.trans e2), dm.ex e2, hu, hz, fun H4 e4 => ?_⟩⟩
  rw [hp]
  exact k _ H4 (e2.trans e4) rfl
theorem st_put {D : Ends} {b d : Addr} {l : Bk} {t : Tm} {x : Bool} {i : Nat} {E : XK} (hs : σ[i]? = some (some (.ref b))) (hb : isBk K C X H b d l) (hX : X d = true) (dm : Dm X H) (hl : l.length < 1000) (h1 : Er K X ta σ H rTm t) (h2 : Er K X tb σ H rBl x) (hz : t.size ≤ bigT)
    (k : ∀ H2, Off d H H2 → isBk K C X H2 b d (putB l t x) → D.nx σ H2) : tDrop (tMeth C "put" (spPut K C) [] E (tVar i) (tCons ta (tCons tb tNil))) D σ H := by
  obtain ⟨dx, kvs, g1, g2, g3⟩ := id hb
  refine ⟨.ref b, hs, b, dx, _, rfl, g1, rfl, h1.go dm fun u H2 e2 hu => (h2.mono e2).go (dm.ex e2) fun w' H3 e3 hw => ⟨b, d, l, t, x, X, u, w', rfl, hb.ex (e2.trans e3), hl, hX, (dm.ex e2).ex e3, rTm_mono (hid_le e3) hu, hw, hz, fun H4 off h4 => ?_⟩⟩
  exact k H4 (fun a' o hne q => off a' o hne (e3 _ _ (e2 _ _ q))) h4
theorem er_lenBk {b d : Addr} {l : Bk} {i : Nat} (hs : σ[i]? = some (some (.ref b))) (hb : isBk K C X H b d l) (hz : l.length < 1000000) : Er K X (tCB (rLenOwn C (spLen K C)) (tCons (tVar i) tNil)) σ H rInt (l.length : Int) := fun H1 e dm Q k => by
  obtain ⟨dx, kvs, g1, g2, g3⟩ := hb.ex e
  exact ⟨.ref b, hs, b, dx, _, rfl, g1, b, d, l, X, rfl, hb.ex e, fun H2 e2 => ⟨l.length, rfl, hz, k _ H2 e2 rfl⟩⟩
theorem er_termsBk {b d : Addr} {l : Bk} {i : Nat} {E : XK} (hs : σ[i]? = some (some (.ref b))) (hb : isBk K C X H b d l) (hn : ndB l) (hz : l.length < 1000) : Er K X (tMeth C "terms" (spTerms K C) [] E (tVar i) tNil) σ H (rLst rTm) (l.map Prod.fst) := fun H1 e dm Q k => by
  obtain ⟨dx, kvs, g1, g2, g3⟩ := hb.ex e
  exact ⟨.ref b, hs, b, dx, _, rfl, g1, rfl, b, d, l, X, rfl, hb.ex e, dm, hn, hz, fun v H2 e2 hv => k v H2 e2 hv⟩
theorem isBk.sub {b d D : Addr} {l : Bk} (h : isBk K C (X.and D) H b d l) : isBk K C X H b d l := by
  obtain ⟨dx, kvs, h1, h2, h3⟩ := h
  exact ⟨dx, kvs, h1, h2, Paired.mono (fun _ _ z => rEnt_mono hid_sub.le z) h3⟩
theorem isBk.off {a b d : Addr} {H' : Hp} {l : Bk} (h : isBk K C X H b d l) (hX : X a = true) (hb : b ≠ a) (hd : d ≠ a) (off : Off a H H') : isBk K C X H' b d l := by
  obtain ⟨dx, kvs, h1, h2, h3⟩ := h
  exact ⟨dx, kvs, off _ _ hb h1, off _ _ hd h2, Paired.mono (fun _ _ z => rEnt_mono (hid_off off hX).le z) h3⟩
theorem isBk.vis {Y : Hs} {b d : Addr} {H' : Hp} {l : Bk} (h : isBk K C X H b d l) (hb : X b = false) (hd : X d = false) (e : Ex (hid X H) (hid Y H')) : isBk K C Y H' b d l := by
  obtain ⟨dx, kvs, h1, h2, h3⟩ := h
  exact ⟨dx, kvs, hid_get _ _ (e _ _ (hid_some.mpr ⟨hb, h1⟩)), hid_get _ _ (e _ _ (hid_some.mpr ⟨hd, h2⟩)), Paired.mono (fun _ _ z => rEnt_mono e.le z) h3⟩
theorem Dm.off' {a : Addr} {H' : Hp} (dm : Dm X H) (off : Off a H H') (ha : H' a ≠ none) : Dm X H' := fun b hb => by
  by_cases z : b = a
  · rw [z]; exact ha
  · cases q : H b with
    | none => exact absurd q (dm b hb)
    | some o => rw [off b o z q]; exact fun z => nomatch z
/-! Lot -/
/-- what a lot of answers tells: answers by terms, ascending -/
noncomputable def rowsB (l : Bk) : Bk := (asc (l.map Prod.fst)).map fun t => (t, ((lkE l t).map Prod.snd).getD false)
def rLot (Cw C : Addr) : Rel (Wd × Bk) := fun K H v p => ∃ a dx wv tv rv bv, v = .ref a ∧ H a = some (.ins C dx [("words", wv), ("terms", tv), ("rows", rv), ("book", bv)]) ∧ rWds Cw K H wv p.1 ∧ rTup (rPr rTm rBl) K H rv p.2
instance : Mono (rLot Cw C) := ⟨fun e ⟨a, dx, wv, tv, rv, bv, h1, h2, h3, h4⟩ => ⟨a, dx, wv, tv, rv, bv, h1, e.ins _ _ _ _ h2, (inferInstance : Mono (rWds Cw)).mono e h3, (inferInstance : Mono (rTup (rPr rTm rBl))).mono e h4⟩⟩
abbrev OwnL (K : Frag) (mg : Str → Option Value) (C : Addr) : Prop := Own K mg C "Lot" ["words", "terms", "rows", "book"]
abbrev NLotInit : List Str := ["self", "words", "answers", "found", "at", "row", "term"]
theorem scLotInit : FnScope NLotInit ["self", "words", "answers"] (defScope sLotInit) := ⟨rfl, rfl, rfl, by decide +kernel, rfl, by decide +kernel, by decide +kernel⟩
structure OkLot (wd : Wd) (l : Bk) : Prop where
  good : ∀ p ∈ l, goodT wd p.1
  nd : ndB l
  few : l.length < 1000
def spLotInit (K : Frag) (Cw C : Addr) : Sp := fun vs H Q _ => ∃ a dx wv lv wd l X, vs = [.ref a, wv, lv] ∧ H a = some (.ins C dx []) ∧ X a = true ∧ Dm X H ∧ rWds Cw K (hid X H) wv wd ∧ rLst (rPr rTm rBl) K (hid X H) lv l ∧ OkLot wd l ∧
  ∀ tv rv bv H', Off a H H' → H' a = some (.ins C dx [("words", wv), ("terms", tv), ("rows", rv), ("book", bv)]) → rTup (rPr rTm rBl) K (hid X H') rv (rowsB l) → Q .non H'
theorem putB_new {l : Bk} {t : Tm} {b : Bool} (h : lkE l t = none) : putB l t b = l ++ [(t, b)] := by
  unfold putB
  rw [h]
  rfl
theorem lkE_take : ∀ {l : Bk} {n : Nat} {p : Tm × Bool}, ndB l → l[n]? = some p → lkE (l.take n) p.1 = none
  | q :: l, 0, p, _, _ => by rw [List.take_zero]; rfl
  | q :: l, n + 1, p, hn, hp => by
    unfold ndB at hn
    rw [List.map_cons, List.nodup_cons] at hn
    rw [List.take_succ_cons]
    unfold lkE
    have hp' : l[n]? = some p := by simpa using hp
    rw [if_neg (fun e => hn.1 (by rw [e]; exact List.mem_map.mpr ⟨p, List.mem_of_getElem? hp', rfl⟩))]
    exact lkE_take hn.2 hp'
theorem lkE_none : ∀ {l : Bk} {t : Tm}, lkE l t = none → ∀ p ∈ l, p.1.flat ≠ t.flat
  | q :: l, t, h, p, hp => by
    unfold lkE at h
    by_cases e : q.1.flat = t.flat
    · rw [if_pos e] at h; cases h
    · rw [if_neg e] at h
      rcases List.mem_cons.mp hp with rfl | hp
      · exact e
      · exact lkE_none h p hp
theorem ok_lotInit (B : Bi mg) (G : Gs mg) (Tb : OwnB K mg Cb) (T : OwnL K mg C) (Mb : MkC K Cb) {t0 : Addr} (ht0 : ∀ Hx, SqT K Hx t0 [])
    (c_need_words : Kp P w K mg base 1 "need_words" ["value"] (spNeedWords K Cw)) (m_init : KpMD P w K mg base 1 Cb "__init__" ["self", "rows"] [.ref t0] (spBookInit K Cb))
    (c_is_answer : Kp P w K mg base 63 "is_answer" ["words", "value"] (spIsAnswer K Cw)) (m_get : KpM P w K mg base 2 Cb "get" ["self", "term", "default"] (spGet K Cb)) (m_get1 : KpMD P w K mg base 2 Cb "get" ["self", "term", "default"] [.non] (spGet K Cb))
    (m_put : KpM P w K mg base 2 Cb "put" ["self", "term", "value"] (spPut K Cb)) (m_len : ∃ f fd, FnOk P w K mg base CX0 1 f fd ["self"] (spLen K Cb) ∧ PySem.W.findIn K (.ref Cb) "__len__" = some (some (.ref f)) ∧ PySem.W.typeIn K (.ref f) = some (.type "function") ∧ Binds K fd ["self"] [])
    (m_terms : KpM P w K mg base 1 Cb "terms" ["self"] (spTerms K Cb)) (c_ascending : Kp P w K mg base 63 "ascending" ["terms"] (spAsc K 60))
    (D : Mth K C "__init__" "Lot.__init__" sLotInit ["self", "words", "answers"]) : KpM P w K mg base 64 C "__init__" ["self", "words", "answers"] (spLotInit K Cw C) :=
  D.kp fun f fd c F => F.ok scLotInit (fun vs H Q E ⟨a, dx, wv, lv, wd, l, X, e, _⟩ => by rw [e]; rfl) fun cdv A outer s H vs Q E hr ⟨a, dx, wv, lv, wd, l, X, e, ha, hXa, dm, hw, hl, ok, q⟩ => by
    subst e
    obtain ⟨fl, fdl, Fl, hfl, tfl, bfl⟩ := m_len
    refine ⟨_, (pss_cons (ps_expr (pe_kp c_need_words hr (by decide) (pa_cons (pv 1) pa_nil)))
    (pss_cons (ps_if (pt_not (pt_val (pe_callB call_isiT rfl B.isinstance (by decide +kernel) (pa_cons (pv 2) (pa_cons (pe_tup (pa_cons (pe_bltn (v := .ty "list") (u := .type "list") rfl B.list (by decide +kernel) rfl) (pa_cons (pe_bltn (v := .ty "tuple") (u := .type "tuple") rfl B.tuple (by decide +kernel) rfl) pa_nil))) pa_nil))))) (pss_one ps_never) pss_nil)
    (pss_cons (ps_set (i := 3) scLotInit.nd rfl (.inr rfl) (pe_mkD0 m_init Mb Tb.mgC hr (by decide)))
    (pss_cons (ps_for PassesOwn.never rfl (pi_enum (by rfl) B.enumerate (pa_cons (pv 2) pa_nil)) (pg_tup rfl (pgs_cons (pg_name (i := 4) scLotInit.nd rfl (.inl rfl)) (pgs_cons (pg_name (i := 5) scLotInit.nd rfl (.inl rfl)) pgs_nil))) (pss_cons (ps_if (PW.pt (pw_or (pt_not (pt_val (pe_kp c_is_answer hr (by decide) (pa_cons (pv 1) (pa_cons (pv 5) pa_nil))))) (pw_or1 (pt_cmpR op_ne (pe_km m_get hr (by decide) (pv 3) (pa_cons (pe_ix ix_tup (pv 5) pe_int (fun _ _ => rfl)) (pa_cons (pe_ix ix_tup (pv 5) pe_int (fun _ _ => rfl)) pa_nil))) (pe_ix ix_tup (pv 5) pe_int (fun _ _ => rfl)) (nomark _))))) (pss_one ps_never) pss_nil)
    (pss_one (ps_expr (pe_km m_put hr (by decide) (pv 3) (pa_cons (pe_ix ix_tup (pv 5) pe_int (fun _ _ => rfl)) (pa_cons (pe_ix ix_tup (pv 5) pe_int (fun _ _ => rfl)) pa_nil)))))))
    (pss_cons (ps_if (pt_cmpR op_gt (pe_callB (call_lenOwn Fl hfl tfl bfl (hr.mono (by decide))) rfl B.len (by decide +kernel) (pa_cons (pv 3) pa_nil)) (C8.pe_gc rfl G.MOST_TERMS) (nomark _)) (pss_one ps_never) pss_nil)
    (pss_cons (ps_fld (pv 0) (pv 1) rfl)
    (pss_cons (ps_fld (pv 0) (pe_callTy call_tuple_of rfl B.tuple (by decide +kernel) (pa_cons (pe_kp c_ascending hr (by decide) (pa_cons (pe_km0 m_terms hr (by decide) (pv 3)) pa_nil)) pa_nil)) rfl)
    (pss_cons (ps_fld (pv 0) (pe_callTy call_tuple_of rfl B.tuple (by decide +kernel) (pa_cons (pe_lc (own := [("term", 6)]) (g := gName 6) (tt := tYes) rfl scLotInit.nd (pi_tup (pe_fld (pv 0) rfl)) (blkOk_by (N := NLotInit) (sc := defScope sLotInit) (by decide +kernel)) (fun _ _ _ _ _ => (pg_name (i := 6) scLotInit.nd rfl (.inl rfl))) (fun _ _ _ _ _ => pts_nil) (fun _ _ _ _ _ => (pe_tup (pa_cons (pv 6) (pa_cons (pe_kmD m_get1 hr (by decide) (pv 3) (pa_cons (pv 6) pa_nil)) pa_nil))))) pa_nil)) rfl)
    (pss_one (ps_fld (pv 0) (pv 3) rfl)))))))))), ?_⟩
    have mW := (inferInstance : Mono (rWds Cw))
    have mL := (inferInstance : Mono (rLst (rPr rTm rBl)))
    refine st_drop (r := rNon) (x := ()) (er_call1 (r := rWds Cw) (f := fun _ => ()) (x := wd) (er_var rfl hw) trivial) dm fun _ H1 e1 _ => ?_
    have dm1 := dm.ex e1
    refine st_skip (X := X) (et_not (a := true) (et_B (er_isiLT (xs := l) (er_var rfl (mL.mono (hid_le e1) hl))))) dm1 fun H2 e2 => ?_
    have dm2 := dm1.ex e2
    have E2 := e1.trans e2
    dsimp only
    refine sq ?_
    refine run_mkBook dm2 ht0 fun bk d H3 nb nd e3 hbk => ?_
    have E3 := E2.trans e3
    have hda : d ≠ a := fun z => by rw [z, E2 _ _ ha] at nd; cases nd
    have hba : bk ≠ a := fun z => by rw [z, E2 _ _ ha] at nb; cases nb
    have hYX : Ex (hid X H) (hid (X.and d) H3) := Evl.Ex.trans (hid_ex E2) (hid_and e3 nd)
    have hbk0 : isBk K Cb (X.and d) H3 bk d [] := by
      obtain ⟨dx', kvs, g1, g2, g3⟩ := hbk
      cases g3
      exact ⟨dx', [], g1, g2, .nil⟩
    have hd3 : H3 d ≠ none := by
      obtain ⟨_, _, _, g2, _⟩ := hbk
      rw [g2]; exact fun z => nomatch z
    have dm3 : Dm (X.and d) H3 := (dm2.ex e3).and hd3
    refine gnm ?_
    dsimp only
    refine sq ?_
    refine st_forX (K := K) (X := X.and d) (r := rPr rInt (rPr rTm rBl)) (xs := ((List.range l.length).map fun j => ((j : Nat) : Int)).zip l) (fun B k σ' H' => (∃ x y, σ' = [some (.ref a), some wv, some lv, some (.ref bk), x, y, none]) ∧ Off d B H' ∧ isBk K Cb (X.and d) H' bk d (l.take k))
      (eix_enum (er_var rfl (mL.mono hYX.le hl))) dm3 (fun B eB => ⟨⟨_, _, rfl⟩, fun _ _ _ h => h, by rw [List.take_zero]; exact hbk0.ex eB⟩) (fun B n σ' H' _ h => hid_off h.2.1 (Hs.and_at _ _)) ?_ ?_
    · rintro Bh n x σ' H' eB hx ⟨⟨x0, y0, rfl⟩, off, hb⟩ v H4 e4 hv
      have dB := dm3.ex eB
      have hd' : H' d ≠ none := by
        obtain ⟨_, _, _, g2, _⟩ := hb
        rw [g2]; exact fun z => nomatch z
      have dm' := dB.off' off hd'
      have eY : Ex (hid (X.and d) Bh) (hid (X.and d) H4) := Evl.Ex.trans (hid_off off (Hs.and_at _ _)) (hid_ex e4)
      have hv' := hv _ eY dm'
      obtain ⟨z, p⟩ := x
      rw [List.getElem?_zip_eq_some] at hx
      have hp : l[n]? = some p := hx.2
      have hmem := List.mem_of_getElem? hp
      obtain ⟨k1, k2, k3, k4⟩ := ok.good p hmem
      have hsz : p.1.size ≤ bigT := Nat.le_trans k3 (by decide)
      refine eg_pr (r := rInt) (s := rPr rTm rBl) (x := z) (y := p) _ v H4 hv' _ fun σ2 ⟨v1, v2, eσ, hv1, hv2⟩ => ?_
      subst eσ
      have dm4 := dm'.ex e4
      have w4 := mW.mono (Evl.Ex.trans hYX (Evl.Ex.trans (hid_ex eB) eY)).le hw
      have b4 := hb.ex e4
      have hno := lkE_take ok.nd hp
      refine st_skip (X := X.and d) (et_or (a := false) (b := false) (et_not (a := true) (et_B (er_call2 (r := rWds Cw) (s := rPr rTm rBl) (f := fun _ => true) (x := wd) (y := p) (er_var rfl w4) (er_var rfl hv2) (ok.good p hmem)))) fun _ => et_test (Er.is (er_neB (K := K) (i := p.2) (j := p.2) (Er.is (er_get2 (i := 3) rfl b4 (er_fst (s := rBl) (er_var rfl hv2) er_int) (er_snd (r := rTm) (er_var rfl hv2) er_int) hsz) (by rw [hno])) (er_snd (r := rTm) (er_var rfl hv2) er_int)) (by rw [decide_eq_true rfl]; rfl))) dm4 fun H5 e5 => ?_
      have v5 := (inferInstance : Mono (rPr rTm rBl)).mono (hid_le e5) hv2
      refine st_put (i := 3) rfl (b4.ex e5) (Hs.and_at _ _) (dm4.ex e5) ?_ (er_fst (s := rBl) (er_var rfl v5) er_int) (er_snd (r := rTm) (er_var rfl v5) er_int) hsz fun H6 off6 b6 => ?_
      · rw [List.length_take]; have := ok.few; omega
      · refine ⟨⟨_, _, rfl⟩, fun a' o hne q' => off6 a' o hne (e5 _ _ (e4 _ _ (off a' o hne q'))), ?_⟩
        have e7 : l.take (n + 1) = l.take n ++ [p] := by rw [List.take_add_one, hp]; rfl
        rw [e7]
        rw [putB_new hno] at b6
        exact b6
    · rintro Bh σ' H4 eB ⟨⟨x0, y0, rfl⟩, off, hb⟩
      have hl' : (((List.range l.length).map fun j => ((j : Nat) : Int)).zip l).length = l.length := by rw [List.length_zip, List.length_map, List.length_range, Nat.min_self]
      rw [hl', List.take_length] at hb
      have b4 := hb.sub
      have E4 : Ex H H4 := fun a' o q' => by
        have g := eB _ _ (E3 _ _ q')
        have hne : a' ≠ d := ne_of_none (E2 _ _ q') nd
        exact off a' o hne g
      have dm4 := dm.ex E4
      refine st_skip (X := X) (et_test (Er.is (er_cmp0 (K := K) (g := fun i j => decide (j < i)) (er_lenBk (i := 3) rfl b4 (by have := ok.few; omega)) er_int) (decide_eq_false (by have := ok.few; omega)))) dm4 fun H5 e5 => ?_
      have E5 := E4.trans e5
      have dm5 := dm.ex E5
      have b5 := b4.ex e5
      have hXb : X bk = false := dm2.new nb
      have hXd : X d = false := dm2.new nd
      have hY5 : Ex (hid X H) (hid X H5) := hid_ex E5
      have hwv := mW.mono hY5.le hw
      -- self.words = words
      refine st_fld (r := rIs) (x := wv) rfl (E5 _ _ ha) T.ins.cl (T.na _ (by simp)) (by decide) (er_var rfl rfl) dm5 fun v6 H6 e6 hv6 => ?_
      have hv6 : v6 = wv := hv6
      subst hv6
      have n6 := e6 _ _ (E5 _ _ ha)
      generalize hG6 : upd H6 a (.ins C dx (putF "words" v6 [])) = G6
      have off6 : Off a H5 G6 := fun b o hb q' => by rw [← hG6, upd_ne hb]; exact e6 _ _ q'
      have g6 : G6 a = some (.ins C dx [("words", v6)]) := by rw [← hG6, upd_same]; rfl
      have dm6 : Dm X G6 := dm5.off' off6 (by rw [g6]; exact fun z => nomatch z)
      have b6 := b5.off hXa hba hda off6
      -- self.terms = ..
      have hT : ∀ t ∈ l.map Prod.fst, okT 60 t := fun t ht => by
        obtain ⟨p, hp, rfl⟩ := List.mem_map.mp ht
        obtain ⟨k1, k2, k3, k4⟩ := ok.good p hp
        exact ⟨k2, Nat.le_trans k3 (by decide), k4⟩
      refine st_fld (r := rTup rTm) (x := asc (l.map Prod.fst)) rfl g6 T.ins.cl (T.na _ (by simp)) (by show 1 < 1000; decide) (er_tupL (er_call1 (r := rLst rTm) (f := asc) (x := l.map Prod.fst) (er_termsBk (i := 3) rfl b6 ok.nd ok.few) ⟨by rw [List.length_map]; have := ok.few; omega, hT⟩)) dm6 fun tv H7 e7 htv => ?_
      generalize hG7 : upd H7 a (.ins C dx (putF "terms" tv [("words", v6)])) = G7
      have off7 : Off a G6 G7 := fun b o hb q' => by rw [← hG7, upd_ne hb]; exact e7 _ _ q'
      have g7 : G7 a = some (.ins C dx [("words", v6), ("terms", tv)]) := by rw [← hG7, upd_same]; rfl
      have dm7 : Dm X G7 := dm6.off' off7 (by rw [g7]; exact fun z => nomatch z)
      have b7 := b6.off hXa hba hda off7
      have htv7 : rTup rTm K (hid X G7) tv (asc (l.map Prod.fst)) := by rw [← hG7, hid_upd hXa]; exact htv
      -- self.rows = ..
      have hasc : (asc (l.map Prod.fst)).length < 1000000 := by
        have h1 := (asc_nodup (l.map Prod.fst)).length_le_of_subset (fun t ht => mem_asc.mp ht)
        rw [List.length_map] at h1
        have := ok.few
        omega
      refine st_fld (r := rTup (rPr rTm rBl)) (x := rowsB l) rfl g7 T.ins.cl (T.na _ (by simp)) (by show 2 < 1000; decide) (er_tupL (er_lc (r := rTm) (s := rPr rTm rBl) (xs := asc (l.map Prod.fst)) (f := fun t => (t, ((lkE l t).map Prod.snd).getD false)) (ei_tup (er_fldOwn (i := 0) rfl g7 T.ins.cl (T.na _ (by simp)) rfl htv7)) hasc fun t ht Y' v' H' e' hv' => ?_)) dm7 fun rv H8 e8 hrv => ?_
      · obtain ⟨p, hp, hpt⟩ := List.mem_map.mp (mem_asc.mp ht)
        have hlk : lkE l t = some p := by rw [← hpt]; exact lkE_self ok.nd hp
        obtain ⟨k1, k2, k3, k4⟩ := ok.good p hp
        exact er_pr (er_var rfl hv') (Er.is (er_get1 (i := 3) (p := p) rfl (b7.vis hXb hXd e') (er_var rfl hv') (by rw [← hpt]; exact Nat.le_trans k3 (by decide)) hlk) (by rw [hlk]; rfl))
      generalize hG8 : upd H8 a (.ins C dx (putF "rows" rv [("words", v6), ("terms", tv)])) = G8
      have off8 : Off a G7 G8 := fun b o hb q' => by rw [← hG8, upd_ne hb]; exact e8 _ _ q'
      have g8 : G8 a = some (.ins C dx [("words", v6), ("terms", tv), ("rows", rv)]) := by rw [← hG8, upd_same]; rfl
      have dm8 : Dm X G8 := dm7.off' off8 (by rw [g8]; exact fun z => nomatch z)
      have hrv8 : rTup (rPr rTm rBl) K (hid X G8) rv (rowsB l) := by rw [← hG8, hid_upd hXa]; exact hrv
      -- self.book = found
      refine st_fld (r := rIs) (x := .ref bk) rfl g8 T.ins.cl (T.na _ (by simp)) (by show 3 < 1000; decide) (er_var rfl rfl) dm8 fun v9 H9 e9 hv9 => ?_
      refine q tv rv v9 _ (fun b o hb q' => ?_) (by rw [upd_same]; rfl) ?_
      · rw [upd_ne hb]
        exact e9 _ _ (off8 _ _ hb (off7 _ _ hb (off6 _ _ hb (E5 _ _ q'))))
      · rw [hid_upd hXa]
        exact (inferInstance : Mono (rTup (rPr rTm rBl))).mono (hid_le e9) hrv8
end
end Q
set_option maxHeartbeats 8000000
/-! F11: Lot.__eq__, need_lot. -/
namespace Q
open PySem PySem.Spec PyProof.Rows L2
def encB (p : Tm × Bool) : PyData := .tuple [p.1.data, .bool p.2]
def encR (l : Bk) : PyData := .tuple (l.map encB)
theorem encB_self (p : Tm × Bool) : PyData.eqv (encB p) (encB p) = true := by
  unfold encB PyData.eqv PyData.eqvAll PyData.eqvAll PyData.eqvAll
  rw [Tm.eqv_self]
  unfold PyData.eqv
  simp
theorem eqvAll_self : ∀ l : Bk, PyData.eqvAll (l.map encB) (l.map encB) = true
  | [] => by rw [List.map_nil]; unfold PyData.eqvAll; rfl
  | p :: l => by rw [List.map_cons]; unfold PyData.eqvAll; rw [encB_self, eqvAll_self l]; rfl
theorem encR_self (l : Bk) : PyData.eqv (encR l) (encR l) = true := by
  unfold encR PyData.eqv
  exact eqvAll_self l
def small (l : Bk) : Prop := ∀ p ∈ l, p.1.fit = true ∧ p.1.deep ≤ 60
theorem canLay_encB {p : Tm × Bool} (h : p.1.fit = true) : (encB p).canLay0 = true := by
  unfold encB PyData.canLay0 PyData.canLayAll0 PyData.canLayAll0 PyData.canLayAll0
  rw [Tm.canLay _ h]
  unfold PyData.canLay0
  rfl
theorem depth_encB (p : Tm × Bool) : (encB p).depth = p.1.deep + 1 := by
  unfold encB PyData.depth PyData.depthAll PyData.depthAll PyData.depthAll
  rw [Tm.depth_data]
  unfold PyData.depth
  omega
theorem canLay_encR : ∀ {l : Bk}, small l → PyData.canLayAll0 (l.map encB) = true
  | [], _ => by rw [List.map_nil]; unfold PyData.canLayAll0; rfl
  | p :: l, h => by
    rw [List.map_cons]
    unfold PyData.canLayAll0
    rw [canLay_encB (h p List.mem_cons_self).1, canLay_encR fun q hq => h q (List.mem_cons_of_mem _ hq)]
    rfl
theorem depth_encR : ∀ {l : Bk}, small l → PyData.depthAll (l.map encB) ≤ 61
  | [], _ => by rw [List.map_nil]; unfold PyData.depthAll; exact Nat.zero_le _
  | p :: l, h => by
    rw [List.map_cons]
    unfold PyData.depthAll
    have h1 := (h p List.mem_cons_self).2
    have h2 := depth_encR (l := l) fun q hq => h q (List.mem_cons_of_mem _ hq)
    rw [depth_encB]
    omega
theorem shaped_encR {l : Bk} (h : small l) : SeqAt.shaped (encR l) = true := by
  unfold SeqAt.shaped encR PyData.canLay0 PyData.depth
  rw [canLay_encR h, decide_eq_true (by have := depth_encR h; omega)]
  rfl
theorem dp_row {K : Frag} {H : Hp} {v : V} {p : Tm × Bool} (h : rPr rTm rBl K H v p) : Dp K H v (encB p) := by
  obtain ⟨a, x, y, rfl, h2, h3, h4⟩ := h
  exact .tup h2 (.cons (dp_tm _ _ h3) (.cons (by rw [show y = V.bl p.2 from h4]; exact .bl _) .nil))
theorem dp_rows {K : Frag} {H : Hp} : ∀ {vs : List V} {l : Bk}, Paired (rPr rTm rBl K H) vs l → DpAll K H vs (l.map encB)
  | _, _, .nil => .nil
  | _, _, .cons a b => .cons (dp_row a) (dp_rows b)
theorem dp_R {K : Frag} {H : Hp} {v : V} {l : Bk} (h : rTup (rPr rTm rBl) K H v l) : Dp K H v (encR l) := by
  obtain ⟨a, vs, rfl, h2, h3⟩ := h
  exact .tup h2 (dp_rows h3)
section
variable {P : Program} {w : World} {K : Frag} {mg : Str → Option Value} {base : Heap} {X : Hs} {σ : L2.St} {H : Hp} {te ta tb : TE} {C Cw Cb : Addr} {α β : Type} {r : Rel α} {s : Rel β}
theorem er_eqG [m : Mono r] [n : Mono s] {D : Eqv} {x : α} {y : β} (h1 : Er K X ta σ H r x) (h2 : Er K X tb σ H s y) (hD : ∀ v w H1, Dm X H1 → r K (hid X H1) v x → s K (hid X H1) w y → D v w H1) : Er K X (tOp (rEqG D) ta tb) σ H rBl true := er_two h1 h2 fun v w H1 _ dm hv hw Q k =>
  ⟨hD v w H1 dm hv hw, fun H2 e2 => k _ H2 e2 rfl⟩
theorem er_lwords (T : OwnL K mg C) {p : Wd × Bk} (h : Er K X te σ H (rLot Cw C) p) : Er K X (tFld K te "words") σ H (rWds Cw) p.1 :=
  er_fld h fun H1 v ⟨a, dx, wv, tv, rv, bv, h1, h2, h3, h4⟩ => ⟨a, C, dx, _, wv, h1, h2, T.ins.cl, T.na _ (by simp), rfl, h3⟩
theorem er_lrows (T : OwnL K mg C) {p : Wd × Bk} (h : Er K X te σ H (rLot Cw C) p) : Er K X (tFld K te "rows") σ H (rTup (rPr rTm rBl)) p.2 :=
  er_fld h fun H1 v ⟨a, dx, wv, tv, rv, bv, h1, h2, h3, h4⟩ => ⟨a, C, dx, _, rv, h1, h2, T.ins.cl, T.na _ (by simp), rfl, h4⟩
theorem ins_lot {H : Hp} {v : V} {p : Wd × Bk} (h : rLot Cw C K H v p) : ∃ a dx fs, v = .ref a ∧ H a = some (.ins C dx fs) := by
  obtain ⟨a, dx, wv, tv, rv, bv, h1, h2, _⟩ := h
  exact ⟨a, dx, _, h1, h2⟩
theorem er_eqR {l : Bk} (h1 : Er K X ta σ H (rTup (rPr rTm rBl)) l) (h2 : Er K X tb σ H (rTup (rPr rTm rBl)) l) (hs : small l) : Er K X (tOp (rEqD K) ta tb) σ H rBl true := er_two h1 h2 fun v w H1 _ dm hv hw Q k => by
  have m := (inferInstance : Mono (rTup (rPr rTm rBl)))
  exact ⟨encR l, encR l, dp_R (m.mono hid_get.le hv), dp_R (m.mono hid_get.le hw), shaped_encR hs, shaped_encR hs, by rw [encR_self]; exact k _ H1 (Evl.Ex.refl _) rfl⟩
abbrev NLotEq : List Str := ["self", "other"]
theorem scLotEq : FnScope NLotEq ["self", "other"] (defScope sLotEq) := ⟨rfl, rfl, rfl, by decide +kernel, rfl, by decide +kernel, by decide +kernel⟩
def sameL (K : Frag) (Cw C : Addr) : Addr → Addr → Hp → Prop := fun a b H => ∃ X wd l, Dm X H ∧ (wd.map Prod.fst).Nodup ∧ small l ∧ rLot Cw C K (hid X H) (.ref a) (wd, l) ∧ rLot Cw C K (hid X H) (.ref b) (wd, l)
theorem sameL_mono {a b : Addr} {H H' : Hp} (e : Ext H H') (h : sameL K Cw C a b H) : sameL K Cw C a b H' := by
  obtain ⟨X, wd, l, dm, hn, hs, h1, h2⟩ := h
  exact ⟨X, wd, l, dm.ex e, hn, hs, (inferInstance : Mono (rLot Cw C)).mono (hid_le e) h1, (inferInstance : Mono (rLot Cw C)).mono (hid_le e) h2⟩
theorem ok_lotEq (B : Bi mg) (T : OwnL K mg C) (m_eq : KpM P w K mg base 1 Cw "__eq__" ["self", "other"] (spEq (sameW K Cw))) (D : Mth K C "__eq__" "Lot.__eq__" sLotEq ["self", "other"]) : KpM P w K mg base 3 C "__eq__" ["self", "other"] (spEq (sameL K Cw C)) :=
  D.kp fun f fd c F => F.ok scLotEq (fun vs H Q E ⟨a, b, e, _⟩ => by rw [e]; rfl) fun cdv A outer s H vs Q E hr ⟨a, b, e, ⟨X, wd, l, dm, hn, hs, h1, h2⟩, q⟩ => by
    subst e
    obtain ⟨fw, fdw, Fw, cw, hmw, bw⟩ := m_eq
    refine ⟨_, (pss_one (ps_ret (pe_and (pe_callB (C8.call_isC T.ins) rfl B.isinstance (by decide +kernel) (pa_cons (pv 1) (pa_cons (C8.pe_gc rfl T.gc) pa_nil))) (pe_and (pe_cmpR (op_eqG (rcG_ins Fw hmw.at_ hmw.fn bw pass0) (hr.mono (by decide))) (pe_fld (pv 0) rfl) (pe_fld (pv 1) rfl) (nomark _)) (pe_one (pe_cmpR (op_eqD hr.units) (pe_fld (pv 0) rfl) (pe_fld (pv 1) rfl) (nomark _))))))), ?_⟩
    refine ret_of (r := rBl) (x := true) (er_andV (a := true) (b := true) (er_isC T (er_var rfl h2) fun _ _ => ins_lot) fun _ => er_andV (a := true) (b := true) (er_eqG (er_lwords T (er_var rfl h1)) (er_lwords T (er_var rfl h2)) fun v w H1 dm1 hv hw => ?_) fun _ => er_eqR (er_lrows T (er_var rfl h1)) (er_lrows T (er_var rfl h2)) hs) dm fun v H' e hv => ?_
    · obtain ⟨a1, d1, f1, rfl, g1⟩ := ins_wds hv
      obtain ⟨a2, d2, f2, rfl, g2⟩ := ins_wds hw
      exact ⟨a1, a2, d1, d2, f1, f2, rfl, rfl, hid_get _ _ g1, hid_get _ _ g2, X, wd, dm1, hn, hv, hw⟩
    · rw [show v = V.bl true from hv]
      exact q H' e
abbrev NNeedLot : List Str := ["value"]
theorem scNeedLot : FnScope NNeedLot ["value"] (defScope sNeedLot) := ⟨rfl, rfl, rfl, by decide +kernel, rfl, by decide +kernel, by decide +kernel⟩
end
end Q
set_option maxHeartbeats 8000000
/-! F12: texts. -/
namespace Q
open PySem PySem.Spec PyProof.Rows L2
abbrev tF (ts : List TE) : TE := fun σ H Q => tJs ts Str.empty σ H fun out H1 => Q (.str out) H1
def wordT (p : Tx × Nat) : Tx := p.1 ++ (47 :: numTx p.2)
def wordsT (wd : Wd) : Tx := TL.joinL [32] (wd.map wordT)
mutual
def Tm.text : Tm → Tx
  | .nd w ps => if TL.joinL [44] (Tm.texts ps) = [] then w else w ++ (40 :: (TL.joinL [44] (Tm.texts ps) ++ [41]))
def Tm.texts : List Tm → List Tx
  | [] => []
  | p :: ps => p.text :: Tm.texts ps
end
theorem Tm.texts_map : ∀ ps : List Tm, Tm.texts ps = ps.map Tm.text
  | [] => by rw [Tm.texts]; rfl
  | p :: ps => by rw [Tm.texts, Tm.texts_map ps]; rfl
mutual
/-- all words of at most eight signs -/
def Tm.w8 : Tm → Prop
  | .nd w ps => w.length ≤ 8 ∧ Tm.w8s ps
def Tm.w8s : List Tm → Prop
  | [] => True
  | p :: ps => p.w8 ∧ Tm.w8s ps
end
theorem Tm.w8_mem : ∀ {ps : List Tm} {p : Tm}, Tm.w8s ps → p ∈ ps → p.w8
  | q :: ps, p, h, hp => by
    unfold Tm.w8s at h
    rcases List.mem_cons.mp hp with rfl | hp
    · exact h.1
    · exact Tm.w8_mem h.2 hp
theorem join_len (sep : Tx) : ∀ l : List Tx, (TL.joinL sep l).length ≤ (l.map List.length).sum + l.length * sep.length
  | [] => by unfold TL.joinL; exact Nat.zero_le _
  | [p] => by unfold TL.joinL; simp
  | p :: q :: r => by
    unfold TL.joinL
    have h := join_len sep (q :: r)
    rw [List.length_append, List.length_append]
    simp only [List.map_cons, List.sum_cons, List.length_cons] at h ⊢
    have e : (r.length + 1 + 1) * sep.length = (r.length + 1) * sep.length + sep.length := Nat.succ_mul _ _
    omega
mutual
theorem Tm.text_len : ∀ t : Tm, t.w8 → t.text.length + 1 ≤ 11 * t.size
  | .nd w ps, h => by
    unfold Tm.w8 at h
    have h2 := Tm.texts_len ps h.2
    have h3 := join_len [44] (Tm.texts ps)
    have h1 := h.1
    unfold Tm.text Tm.size
    by_cases e : TL.joinL [44] (Tm.texts ps) = []
    · rw [if_pos e]
      omega
    · rw [if_neg e, List.length_append, List.length_cons, List.length_append]
      simp only [List.length_singleton] at h3 ⊢
      omega
theorem Tm.texts_len : ∀ ps : List Tm, Tm.w8s ps → ((Tm.texts ps).map List.length).sum + (Tm.texts ps).length ≤ 11 * Tm.sizes ps
  | [], _ => by unfold Tm.texts Tm.sizes; exact Nat.le_refl _
  | p :: ps, h => by
    unfold Tm.w8s at h
    have h1 := Tm.text_len p h.1
    have h2 := Tm.texts_len ps h.2
    unfold Tm.texts Tm.sizes
    rw [List.map_cons, List.sum_cons, List.length_cons]
    omega
end
section
variable {P : Program} {w : World} {K : Frag} {mg : Str → Option Value} {base : Heap} {X : Hs} {σ : L2.St} {H : Hp} {te ta tb : TE} {C Cw Cb : Addr}
/-! told_words -/
abbrev NToldWords : List Str := ["words", "name"]
theorem scToldWords : FnScope NToldWords ["words"] (defScope sToldWords) := ⟨rfl, rfl, rfl, by decide +kernel, rfl, by decide +kernel, by decide +kernel⟩
/-- words as they are drawn: few, by names -/
structure OkW (wd : Wd) : Prop where
  few : wd.length ≤ 6
  nd : (wd.map Prod.fst).Nodup
  good : ∀ p ∈ wd, isName p.1 = true ∧ p.2 ≤ 3
abbrev spToldWords (K : Frag) (C : Addr) : Sp := SpF (A1 (rWds C) OkW) K rTx wordsT
theorem num_le {n : Nat} (h : n ≤ 3) : numTx n = [48 + n] := TL.numL_lt (by omega)
theorem wordT_len {p : Tx × Nat} (h : isName p.1 = true ∧ p.2 ≤ 3) : (wordT p).length ≤ 10 := by
  have h1 := h.1
  unfold isName at h1
  rw [Bool.and_eq_true, Bool.and_eq_true] at h1
  have h2 := of_decide_eq_true h1.1.2
  unfold wordT
  rw [num_le h.2, List.length_append, List.length_cons, List.length_singleton]
  omega
theorem sum_le {l : List Tx} {n : Nat} (h : ∀ x ∈ l, x.length ≤ n) : (l.map List.length).sum ≤ l.length * n := by
  induction l with
  | nil => exact Nat.zero_le _
  | cons x l ih =>
    rw [List.map_cons, List.sum_cons, List.length_cons, Nat.succ_mul]
    have h1 := h x List.mem_cons_self
    have h2 := ih fun y hy => h y (List.mem_cons_of_mem _ hy)
    omega
theorem words_sum {wd : Wd} (ok : OkW wd) : ((wd.map wordT).map List.length).sum ≤ 60 := by
  have h := sum_le (l := wd.map wordT) (n := 10) fun x hx => by
    obtain ⟨p, hp, rfl⟩ := List.mem_map.mp hx
    exact wordT_len (ok.good p hp)
  rw [List.length_map] at h
  have := ok.few
  omega
theorem ok_toldWords (T : OwnW K mg Cw) (D : Dfn K mg "told_words" sToldWords ["words"]) : Kp P w K mg base 1 "told_words" ["words"] (spToldWords K Cw) :=
  D.kp fun f fd F hm b => F.ok scToldWords len1 fun cdv A outer s H vs Q E hr ⟨wd, X, dm, ⟨v, e, h, ok⟩, q⟩ => by
    subst e
    refine ⟨_, (pss_one (ps_ret (pe_join pe_str (pe_lc (own := [("name", 1)]) (g := gName 1) (tt := tYes) (te := tF [tFmt (tVar 1), tC (.str "/"), tFmt (tDGet (tFld K (tVar 0) "numbers") (tVar 1))]) rfl scToldWords.nd (pi_tup (pe_fld (pv 0) rfl)) (blkOk_by (N := NToldWords) (sc := defScope sToldWords) (by decide +kernel)) (fun _ _ _ _ _ => (pg_name (i := 1) scToldWords.nd rfl (.inl rfl))) (fun _ _ _ _ _ => pts_nil) (fun _ _ _ _ _ => (pe_joined (.cons (pe_fmt (pv 1)) (.cons pe_str (.cons (pe_fmt (pe_dget (hu_of hr) (pe_fld (pv 0) rfl) (pv 1) (fun _ _ => rfl))) .nil))))))))), ?_⟩
    have hsum := words_sum ok
    refine ret_of (r := rTx) (x := wordsT wd) ?_ dm q
    refine er_join (sep := [32]) (xs := wd.map wordT) (er_tx (by decide +kernel)) (Er.is (er_lc (r := rTx) (s := rTx) (xs := wd.map Prod.fst) (f := fun n => wordT (n, (lk wd n).getD 0)) (ei_tup (er_names T (er_var rfl h))) (by rw [List.length_map]; have := ok.few; omega) fun n hn Y v' H' e' hv => ?_) ?_) (by
      have := ok.few
      rw [List.length_map, List.length_singleton]
      omega)
    · obtain ⟨p, hp, rfl⟩ := List.mem_map.mp hn
      have hl : lk wd p.1 = some p.2 := lk_of ok.nd hp
      obtain ⟨g1, g2⟩ := ok.good p hp
      have hz := wordT_len ⟨g1, g2⟩
      have w' := (inferInstance : Mono (rWds Cw)).mono e'.le h
      refine Er.is (er_fs (.cons (er_fmt (er_var rfl hv) (isName_len g1)) (.cons (er_tx (i := [47]) (by decide +kernel)) (.cons (er_fmtI (n := p.2) (er_dget (er_numbers T (er_var rfl w')) (er_var rfl hv) hl) (by omega)) .nil))) ?_) ?_
      · unfold wordT at hz
        rw [List.length_append, List.length_cons] at hz
        simp only [List.map_cons, List.map_nil, List.sum_cons, List.sum_nil, List.length_singleton]
        omega
      · rw [hl]
        show _ = wordT (p.1, p.2)
        simp [wordT]
    · rw [List.map_map]
      refine List.map_congr_left fun p hp => ?_
      show wordT (p.1, (lk wd p.1).getD 0) = wordT p
      rw [lk_of ok.nd hp]
      rfl
/-! told_term -/
abbrev NToldTerm : List Str := ["term", "parts", "part"]
theorem scToldTerm : FnScope NToldTerm ["term"] (defScope sToldTerm) := ⟨rfl, rfl, rfl, by decide +kernel, rfl, by decide +kernel, by decide +kernel⟩
abbrev spToldTerm (K : Frag) (n : Nat) : Sp := SpF (A1 rTm fun t => t.deep ≤ n ∧ t.size ≤ 200 ∧ t.w8) K rTx Tm.text
theorem ok_toldTerm (D : Dfn K mg "told_term" sToldTerm ["term"]) : ∀ n, Kp P w K mg base (n + 1) "told_term" ["term"] (spToldTerm K n)
  | 0 => D.kp fun f fd F hm b => F.ok scToldTerm len1 fun cdv A outer s H vs Q E hr ⟨t, X, dm, ⟨v, e, h, hd, _⟩, _⟩ => by
      cases t with
      | nd a ps =>
        have hd' : (Tm.nd a ps).deep ≤ 0 := hd
        unfold Tm.deep at hd'
        omega
  | n + 1 => D.kp fun f fd F hm b => F.ok scToldTerm len1 fun cdv A outer s H vs Q E hr ⟨t, X, dm, ⟨v, e, h, hd, hz, hw⟩, q⟩ => by
      subst e
      refine ⟨_, (pss_cons (ps_set (i := 1) scToldTerm.nd rfl (.inl rfl) (pe_join pe_str (pe_lc (own := [("part", 2)]) (g := gName 2) (tt := tYes) rfl scToldTerm.nd (pi_tup (pe_slice sl_tupA (pv 0) (po_some pe_int) po_none)) (blkOk_by (N := NToldTerm) (sc := defScope sToldTerm) (by decide +kernel)) (fun _ _ _ _ _ => (pg_name (i := 2) scToldTerm.nd rfl (.inl rfl))) (fun _ _ _ _ _ => pts_nil) (fun _ _ _ _ _ => (pe_kp (ok_toldTerm D n) hr (Nat.le_refl _) (pa_cons (pv 2) pa_nil))))))
    (pss_one (ps_ret (pe_ifExp (pt_cmpR op_eq (pv 1) pe_str (nomark _)) (pe_ix ix_tup (pv 0) pe_int (fun _ _ => rfl)) (pe_joined (.cons (pe_fmt (pe_ix ix_tup (pv 0) pe_int (fun _ _ => rfl))) (.cons pe_str (.cons (pe_fmt (pv 1)) (.cons pe_str .nil))))))))), ?_⟩
      cases t with
      | nd a ps =>
      have hd' : Tm.deeps ps ≤ n := by have hd : (Tm.nd a ps).deep ≤ n + 1 := hd; unfold Tm.deep at hd; omega
      have hz0 : (Tm.nd a ps).size ≤ 200 := hz
      have hz' : Tm.sizes ps ≤ 200 := by unfold Tm.size at hz0; omega
      have hw' : a.length ≤ 8 ∧ Tm.w8s ps := by have hw : (Tm.nd a ps).w8 := hw; unfold Tm.w8 at hw; exact hw
      have hlen := Tm.texts_len ps hw'.2
      have hjl := join_len [44] (Tm.texts ps)
      have hps := Tm.len_sizes ps
      simp only [List.length_singleton] at hjl
      refine st_set (r := rTx) (x := TL.joinL [44] (Tm.texts ps)) (er_join (er_tx (by decide +kernel)) (by
        rw [Tm.texts_map]
        exact er_lc (r := rTm) (s := rTx) (xs := ps) (f := Tm.text) (ei_tup (er_tail (t := .nd a ps) (er_var rfl h) er_int)) (by omega) fun d hm Y v' H' e' hv => er_call1 (r := rTm) (f := Tm.text) (x := d) (er_var rfl hv) ⟨Tm.deeps_le hd' d hm, Nat.le_trans (Tm.size_mem hm) hz', Tm.w8_mem hw'.2 hm⟩) (by rw [List.length_singleton]; omega)) dm fun v2 H2 e2 hv2 => ?_
      dsimp only
      have t2 := rTm_mono (hid_le e2) h
      refine ret_of (r := rTx) (x := (Tm.nd a ps).text) ?_ (dm.ex e2) fun v' H' e' hv => q v' H' (e2.trans e') hv
      have ht := Tm.text_len (.nd a ps) (by unfold Tm.w8; exact hw')
      refine er_if (b := decide (TL.joinL [44] (Tm.texts ps) = [])) (et_test (er_eqT (K := K) (er_var rfl hv2) (er_tx (i := []) (by decide +kernel)))) (fun hb => ?_) fun hb => ?_
      · refine Er.is (er_head (t := .nd a ps) (er_var rfl t2) er_int) ?_
        unfold Tm.text
        rw [if_pos (of_decide_eq_true hb)]
        rfl
      · refine Er.is (er_fs (.cons (er_fmt (er_head (t := .nd a ps) (er_var rfl t2) er_int) (by show a.length < _; omega)) (.cons (er_tx (i := [40]) (by decide +kernel)) (.cons (er_fmt (er_var rfl hv2) (by omega)) (.cons (er_tx (i := [41]) (by decide +kernel)) .nil)))) ?_) ?_
        · simp only [List.map_cons, List.map_nil, List.sum_cons, List.sum_nil, List.length_singleton]
          show a.length + _ < _
          omega
        · unfold Tm.text
          rw [if_neg (of_decide_eq_false hb)]
          simp [Tm.w]
end
end Q
set_option maxHeartbeats 8000000
/-! F13: the texts of answers, wants, lots. -/
namespace Q
open PySem PySem.Spec PyProof.Rows L2
def yesL : Tx := [121, 101, 115]
def noL : Tx := [110, 111]
def wordsL : Tx := [119, 111, 114, 100, 115, 32]
def answerT (p : Tm × Bool) : Tx := (if p.2 then yesL else noL) ++ (32 :: p.1.text)
def lotT (p : Wd × Bk) : Tx := TL.joinL [10] ((wordsL ++ wordsT p.1) :: p.2.map answerT)
def wantsT (l : List Tx) : Tx := if l = [] then [45] else TL.joinL [44] l
section
variable {P : Program} {w : World} {K : Frag} {mg : Str → Option Value} {base : Heap} {X : Hs} {σ : L2.St} {H : Hp} {te ta tb tl : TE} {C Cw Cb : Addr} {α β γ δ : Type} {r : Rel α} {s : Rel β} {t : Rel γ} {u : Rel δ}
theorem wipe2 (σ : L2.St) (v w : V) {i j : Nat} (hij : i ≠ j) : wipe (((wipe σ [i, j]).set i (some v)).set j (some w)) [i, j] = wipe σ [i, j] := by
  show (((((σ.set j none).set i none).set i (some v)).set j (some w)).set j none).set i none = (σ.set j none).set i none
  rw [List.set_set, List.set_set, List.set_comm (some v) none hij, List.set_set, List.set_set]
theorem er_lcP [mr : Mono r] [ms : Mono s] [mt : Mono t] {wi : TI} {i j : Nat} {xs : List (α × β)} {f : α × β → γ} (hij : i ≠ j) (hi : Ei K X wi σ H (rPr r s) xs) (hz : xs.length < 1000000)
    (he : ∀ d, d ∈ xs → ∀ Y v w H', Ex (hid X H) (hid Y H') → r K (hid Y H') v d.1 → s K (hid Y H') w d.2 → Er K Y te (((wipe σ [i, j]).set i (some v)).set j (some w)) H' t (f d)) : Er K X (tLc wi (gTup K 2 (gCons (gName i) (gCons (gName j) gNil))) tYes te [i, j]) σ H (rLst t) (xs.map f) := by
  have z : xs.filter (fun _ => true) = xs := List.filter_eq_self.mpr fun _ _ => rfl
  have k := er_lcG (K := K) (X := X) (σ := σ) (H := H) (r := rPr r s) (s := t) (te := te) (tt := tYes) (vs := [i, j]) (f := f) (p := fun _ => true) (g := gTup K 2 (gCons (gName i) (gCons (gName j) gNil)))
    (P := fun d Y σ' H' => ∃ v w, σ' = ((wipe σ [i, j]).set i (some v)).set j (some w) ∧ r K (hid Y H') v d.1 ∧ s K (hid Y H') w d.2) hi hz (fun d _ => eg_pr)
    (fun d Y σ' H' ⟨v, w, e, _⟩ => by rw [e]; exact wipe2 σ v w hij) (fun d _ Y σ' H' _ _ => et_yes) (fun d hd _ Y σ' H' H'' e ⟨v, w, eσ, h1, h2⟩ e2 => by
      subst eσ
      exact he d hd Y v w H'' e (mr.mono (hid_le e2) h1) (ms.mono (hid_le e2) h2))
  rw [z] at k
  exact k
/-- [x, *xs] -/
theorem er_lstStar [m : Mono r] {x : α} {xs : List α} (h1 : Er K X te σ H r x) (h2 : Er K X tl σ H (rLst r) xs) (hz : xs.length < 999999) : Er K X (tLst (tCons te (StX.tStar K tl tNil))) σ H (rLst r) (x :: xs) := fun H1 e dm Q k =>
  h1 H1 e dm _ fun v H2 e2 hv => h2 H2 (e.trans e2) (dm.ex e2) _ fun u H3 e3 ⟨a, vs, hu, hs, hp⟩ => ⟨a, vs, hu, .inr (sql_hid hs), by
    refine ⟨?_, fun p hn => ?_⟩
    · have := Paired.len hp
      rw [List.append_nil, List.length_cons]
      exact size_le (by omega)
    · refine k _ _ ((e2.trans e3).trans (Evl.Ex.new hn)) ⟨p, _, rfl, .inl (.inl (by rw [hid_out (((dm.ex e2).ex e3).new hn), upd_same])), ?_⟩
      rw [List.append_nil]
      exact .cons (m.mono (hid_le (e3.trans (Evl.Ex.new hn))) hv) (Paired.mono (fun _ _ z => m.mono (hid_le (Evl.Ex.new hn)) z) hp)⟩
/-! told_answer -/
abbrev NToldAnswer : List Str := ["term", "answer"]
theorem scToldAnswer : FnScope NToldAnswer ["term", "answer"] (defScope sToldAnswer) := ⟨rfl, rfl, rfl, by decide +kernel, rfl, by decide +kernel, by decide +kernel⟩
abbrev spToldAnswer (K : Frag) : Sp := SpF (A2 rTm rBl fun t _ => t.deep ≤ 60 ∧ t.size ≤ 200 ∧ t.w8) K rTx answerT
theorem text_lt {t : Tm} (hz : t.size ≤ 200) (hw : t.w8) : t.text.length < 2200 := by
  have := Tm.text_len t hw
  omega
theorem ok_toldAnswer (c_told_term : Kp P w K mg base 61 "told_term" ["term"] (spToldTerm K 60)) (D : Dfn K mg "told_answer" sToldAnswer ["term", "answer"]) : Kp P w K mg base 62 "told_answer" ["term", "answer"] (spToldAnswer K) :=
  D.kp fun f fd F hm b => F.ok scToldAnswer len2 fun cdv A outer s H vs Q E hr ⟨p, X, dm, ⟨v, v2, e, h, h2, hd, hz, hw⟩, q⟩ => by
    subst e
    refine ⟨_, (pss_one (ps_ret (pe_joined (.cons (pe_fmt (pe_ifExp (pt_val (pv 1)) pe_str pe_str)) (.cons pe_str (.cons (pe_fmt (pe_kp c_told_term hr (by decide) (pa_cons (pv 0) pa_nil))) .nil)))))), ?_⟩
    have hl := text_lt hz hw
    refine ret_of (r := rTx) (x := answerT p) ?_ dm q
    refine Er.is (er_fs (.cons (er_fmt (x := if p.2 then yesL else noL) (er_if (b := p.2) (et_B (er_var rfl h2)) (fun hb => Er.is (er_tx (i := yesL) (by decide +kernel)) (by rw [hb]; rfl)) fun hb => Er.is (er_tx (i := noL) (by decide +kernel)) (by rw [hb]; rfl)) (by cases p.2 <;> decide)) (.cons (er_tx (i := [32]) (by decide +kernel)) (.cons (er_fmt (er_call1 (r := rTm) (f := Tm.text) (x := p.1) (er_var rfl h) ⟨hd, hz, hw⟩) (by omega)) .nil))) ?_) ?_
    · simp only [List.map_cons, List.map_nil, List.sum_cons, List.sum_nil, List.length_singleton]
      have : (if p.2 = true then yesL else noL).length ≤ 3 := by cases p.2 <;> decide
      omega
    · simp [answerT]
/-! told_wants -/
abbrev NToldWants : List Str := ["wants"]
theorem scToldWants : FnScope NToldWants ["wants"] (defScope sToldWants) := ⟨rfl, rfl, rfl, by decide +kernel, rfl, by decide +kernel, by decide +kernel⟩
/-- few words of at most eight signs -/
def few8 (n : Nat) (l : List Tx) : Prop := l.length ≤ n ∧ ∀ x ∈ l, x.length ≤ 8
theorem few8_sum {n : Nat} {l : List Tx} (h : few8 n l) : (l.map List.length).sum ≤ 8 * n := by
  have := sum_le h.2
  have := h.1
  omega
abbrev spToldWants (K : Frag) : Sp := SpF (A1 (rTup rTx) fun l => few8 1000 l) K rTx wantsT
theorem ok_toldWants (G : Gs mg) (D : Dfn K mg "told_wants" sToldWants ["wants"]) : Kp P w K mg base 1 "told_wants" ["wants"] (spToldWants K) :=
  D.kp fun f fd F hm b => F.ok scToldWants len1 fun cdv A outer s H vs Q E hr ⟨l, X, dm, ⟨v, e, h, h8⟩, q⟩ => by
    subst e
    refine ⟨_, (pss_one (ps_ret (pe_ifExp (pt_cmpR (op_neNilT (hu0 hr)) (pv 0) (pe_tup pa_nil) (nomark _)) (pe_join pe_str (pv 0)) (C8.pe_gc rfl G.NOTHING)))), ?_⟩
    refine ret_of (r := rTx) (x := wantsT l) ?_ dm q
    have hs := few8_sum h8
    have hn := h8.1
    refine er_if (b := !decide (l.length = 0)) (et_test (er_neNilT (er_var rfl h) er_nilT)) (fun hb => ?_) fun hb => ?_
    · refine Er.is (er_joinT (sep := [44]) (er_tx (by decide +kernel)) (er_var rfl h) (by rw [List.length_singleton]; omega)) ?_
      unfold wantsT
      rw [if_neg (fun z => by rw [z] at hb; simp at hb)]
    · refine Er.is (er_tx (i := [45]) (by decide +kernel)) ?_
      have z : l = [] := List.length_eq_zero_iff.mp (by simpa using hb)
      rw [z]; rfl
/-! need_lot -/
abbrev spNeedLot (K : Frag) (Cw C : Addr) : Sp := SpF (A1 (rLot Cw C) fun _ => True) K rNon fun _ => ()
theorem ok_needLot (B : Bi mg) (T : OwnL K mg C) (D : Dfn K mg "need_lot" sNeedLot ["value"]) : Kp P w K mg base 1 "need_lot" ["value"] (spNeedLot K Cw C) :=
  D.kp fun f fd F hm b => F.ok scNeedLot len1 fun cdv A outer s H vs Q E hr ⟨wd, X, dm, ⟨v, e, h, _⟩, q⟩ => by
    subst e
    refine ⟨_, (pss_one (ps_if (pt_not (pt_val (pe_callB (C8.call_isC T.ins) rfl B.isinstance (by decide +kernel) (pa_cons (pv 0) (pa_cons (C8.pe_gc rfl T.gc) pa_nil))))) (pss_one ps_never) pss_nil)), ?_⟩
    exact st_skip (et_not (a := true) (et_B (er_isC T (er_var rfl h) fun _ _ => ins_lot))) dm fun H2 e2 => q _ H2 e2 rfl
/-! lot_text -/
abbrev NLotText : List Str := ["lot", "rows", "term", "answer"]
theorem scLotText : FnScope NLotText ["lot"] (defScope sLotText) := ⟨rfl, rfl, rfl, by decide +kernel, rfl, by decide +kernel, by decide +kernel⟩
structure OkL (p : Wd × Bk) : Prop where
  wd : OkW p.1
  few : p.2.length < 100
  good : ∀ x ∈ p.2, x.1.deep ≤ 60 ∧ x.1.size ≤ 200 ∧ x.1.w8
abbrev spLotText (K : Frag) (Cw C : Addr) : Sp := SpF (A1 (rLot Cw C) OkL) K rTx lotT
theorem answer_len {p : Tm × Bool} (h : p.1.size ≤ 200 ∧ p.1.w8) : (answerT p).length ≤ 2210 := by
  have := text_lt h.1 h.2
  unfold answerT
  rw [List.length_append, List.length_cons]
  have : (if p.2 = true then yesL else noL).length ≤ 3 := by cases p.2 <;> decide
  omega
theorem wordsT_len {wd : Wd} (ok : OkW wd) : (wordsT wd).length ≤ 70 := by
  have h1 := words_sum ok
  have h2 := join_len [32] (wd.map wordT)
  have := ok.few
  rw [List.length_map, List.length_singleton] at h2
  unfold wordsT
  omega
theorem ok_lotText (T : OwnL K mg C) (c_need_lot : Kp P w K mg base 1 "need_lot" ["value"] (spNeedLot K Cw C)) (c_told_answer : Kp P w K mg base 62 "told_answer" ["term", "answer"] (spToldAnswer K)) (c_told_words : Kp P w K mg base 1 "told_words" ["words"] (spToldWords K Cw))
    (D : Dfn K mg "lot_text" sLotText ["lot"]) : Kp P w K mg base 63 "lot_text" ["lot"] (spLotText K Cw C) :=
  D.kp fun f fd F hm b => F.ok scLotText len1 fun cdv A outer s H vs Q E hr ⟨p, X, dm, ⟨v, e, h, ok⟩, q⟩ => by
    subst e
    refine ⟨_, (pss_cons (ps_expr (pe_kp c_need_lot hr (by decide) (pa_cons (pv 0) pa_nil)))
    (pss_cons (ps_setLc (i := 1) (own := [("term", 2), ("answer", 3)]) (g := gTup K 2 (gCons (gName 2) (gCons (gName 3) gNil))) (tt := tYes) rfl scLotText.nd rfl rfl (sw_true rfl rfl rfl (by decide +kernel)) (pi_tup (pe_fld (pv 0) rfl)) (blkOk_by (N := NLotText) (sc := defScope sLotText) (by decide +kernel)) (fun _ _ _ _ _ => (pg_tup rfl (pgs_cons (pg_name (i := 2) scLotText.nd rfl (.inl rfl)) (pgs_cons (pg_name (i := 3) scLotText.nd rfl (.inl rfl)) pgs_nil)))) (fun _ _ _ _ _ => pts_nil) (fun _ _ _ _ _ => (pe_kp c_told_answer hr (by decide) (pa_cons (pv 2) (pa_cons (pv 3) pa_nil)))))
    (pss_one (ps_ret (pe_join pe_str (pe_lst (pa_cons (pe_joined (.cons pe_str (.cons (pe_fmt (pe_kp c_told_words hr (by decide) (pa_cons (pe_fld (pv 0) rfl) pa_nil))) .nil))) (StX.pa_star (pv 1) pa_nil)))))))), ?_⟩
    have mL := (inferInstance : Mono (rLot Cw C))
    refine st_drop (r := rNon) (x := ()) (er_call1 (r := rLot Cw C) (f := fun _ => ()) (x := p) (er_var rfl h) trivial) dm fun _ H1 e1 _ => ?_
    dsimp only
    have h1 := mL.mono (hid_le e1) h
    have dm1 := dm.ex e1
    refine sq (st_set (r := rLst rTx) (x := p.2.map answerT) (er_lcP (r := rTm) (s := rBl) (by decide) (ei_tup (er_lrows T (er_var rfl h1))) (by have := ok.few; omega) fun d hd Y v1 v2 H' e' hv1 hv2 => er_call2 (r := rTm) (s := rBl) (f := answerT) (x := d.1) (y := d.2) (er_var rfl hv1) (er_var rfl hv2) (ok.good d hd)) dm1 fun v2 H2 e2 hv2 => ?_)
    have h2 := mL.mono (hid_le e2) h1
    dsimp only
    have hw := wordsT_len ok.wd
    have hsum := sum_le (l := p.2.map answerT) (n := 2210) fun x hx => by
      obtain ⟨d, hd, rfl⟩ := List.mem_map.mp hx
      exact answer_len (ok.good d hd).2
    rw [List.length_map] at hsum
    have hfew := ok.few
    refine ret_of (r := rTx) (x := lotT p) ?_ (dm1.ex e2) fun v' H' e' hv => q v' H' ((e1.trans e2).trans e') hv
    refine er_join (sep := [10]) (xs := (wordsL ++ wordsT p.1) :: p.2.map answerT) (er_tx (by decide +kernel)) (er_lstStar (Er.is (er_fs (.cons (er_tx (i := wordsL) (by decide +kernel)) (.cons (er_fmt (er_call1 (r := rWds Cw) (f := wordsT) (x := p.1) (er_lwords T (er_var rfl h2)) ok.wd) (by omega)) .nil)) ?_) ?_) (er_var rfl hv2) (by rw [List.length_map]; omega)) ?_
    · simp only [List.map_cons, List.map_nil, List.sum_cons, List.sum_nil]
      have : wordsL.length = 6 := rfl
      omega
    · simp
    · simp only [List.map_cons, List.sum_cons, List.length_cons, List.length_append, List.length_map, List.length_nil]
      have : wordsL.length = 6 := rfl
      omega
end
end Q
set_option maxHeartbeats 8000000
/-! F14: reading, the small defs. -/
namespace Q
open PySem PySem.Spec PyProof.Rows L2
/-- a text in three parts -/
abbrev Cut := Tx × Tx × Tx
def Cut.all (c : Cut) : Tx := c.1 ++ (c.2.1 ++ c.2.2)
def rCut : Rel Cut := fun _ _ v c => v = .str (S c.all)
instance : Mono rCut := ⟨fun _ h => h⟩
/-- no letter comes first -/
def stop (x : Tx) : Prop := ∀ c, x[0]? = some c → c ∉ lettersL
section
variable {P : Program} {w : World} {K : Frag} {mg : Str → Option Value} {base : Heap} {X : Hs} {σ : L2.St} {H : Hp} {te ta tb tl : TE}
theorem er_cut {c : Cut} (h : Er K X te σ H rCut c) : Er K X te σ H rTx c.all := h
/-! need_text, words_of -/
abbrev NNeedText : List Str := ["value"]
theorem scNeedText : FnScope NNeedText ["value"] (defScope sNeedText) := ⟨rfl, rfl, rfl, by decide +kernel, rfl, by decide +kernel, by decide +kernel⟩
abbrev spNeedText (K : Frag) : Sp := SpF (A1 rTx fun _ => True) K rNon fun _ => ()
theorem ok_needText (B : Bi mg) (D : Dfn K mg "need_text" sNeedText ["value"]) : Kp P w K mg base 1 "need_text" ["value"] (spNeedText K) :=
  D.kp fun f fd F hm b => F.ok scNeedText len1 fun cdv A outer s H vs Q E hr ⟨x, X, dm, ⟨v, e, h, _⟩, q⟩ => by
    subst e
    refine ⟨_, (pss_one (ps_if (pt_not (pt_val (pe_callB call_isi rfl B.isinstance (by decide +kernel) (pa_cons (pv 0) (pa_cons (pe_bltn (v := .ty "str") (u := .type "str") rfl B.str (by decide +kernel) rfl) pa_nil))))) (pss_one ps_never) pss_nil)), ?_⟩
    exact st_skip (et_not (a := true) (et_B (er_isi (r := rTx) (x := x) (er_var rfl h) fun _ _ z => ⟨_, ty_tx z, by decide +kernel⟩))) dm fun H2 e2 => q _ H2 e2 rfl
abbrev NWordsOf : List Str := ["text"]
theorem scWordsOf : FnScope NWordsOf ["text"] (defScope sWordsOf) := ⟨rfl, rfl, rfl, by decide +kernel, rfl, by decide +kernel, by decide +kernel⟩
abbrev spWordsOf (K : Frag) : Sp := SpF (A1 rTx fun x => x.length < 1000000) K (rLst rTx) fun x => TL.spl [32] 0 [] x
theorem ok_wordsOf (D : Dfn K mg "words_of" sWordsOf ["text"]) : Kp P w K mg base 1 "words_of" ["text"] (spWordsOf K) :=
  D.kp fun f fd F hm b => F.ok scWordsOf len1 fun cdv A outer s H vs Q E hr ⟨x, X, dm, ⟨v, e, h, hz⟩, q⟩ => by
    subst e
    refine ⟨_, (pss_one (ps_ret (pe_split (pv 0) pe_str))), ?_⟩
    exact ret_of (r := rLst rTx) (x := TL.spl [32] 0 [] x) (er_split (sep := [32]) (er_var rfl h) (er_tx (by decide +kernel)) (by decide) (by decide) hz) dm q
/-! name_ahead -/
abbrev NNameAhead : List Str := ["word", "at", "end"]
theorem scNameAhead : FnScope NNameAhead ["word", "at"] (defScope sNameAhead) := ⟨rfl, rfl, rfl, by decide +kernel, rfl, by decide +kernel, by decide +kernel⟩
abbrev spNameAhead (K : Frag) : Sp := SpF (A2 rCut rNat fun c i => i = c.1.length ∧ (∀ x ∈ c.2.1, x ∈ lettersL) ∧ stop c.2.2 ∧ c.all.length < 1000000) K rTx fun p => p.1.2.1
theorem cut_mid (c : Cut) (j : Nat) (h : j < c.2.1.length) : c.all[c.1.length + j]? = c.2.1[j]? := by
  unfold Cut.all
  rw [List.getElem?_append_right (by omega), List.getElem?_append_left (by omega)]
  congr 1
  omega
theorem cut_end (c : Cut) : c.all[c.1.length + c.2.1.length]? = c.2.2[0]? := by
  unfold Cut.all
  rw [List.getElem?_append_right (by omega), List.getElem?_append_right (by omega)]
  congr 1
  omega
theorem ok_nameAhead (B : Bi mg) (G : Gs mg) (D : Dfn K mg "name_ahead" sNameAhead ["word", "at"]) : Kp P w K mg base 1 "name_ahead" ["word", "at"] (spNameAhead K) :=
  D.kp fun f fd F hm b => F.ok scNameAhead len2 fun cdv A outer s H vs Q E hr ⟨⟨c, i⟩, X, dm, ⟨v, v2, e, h, h2, hi, hn, hs, hz⟩, q⟩ => by
    subst e
    refine ⟨_, (pss_cons (ps_set (i := 2) scNameAhead.nd rfl (.inl rfl) (pv 1))
    (pss_cons (ps_while PassesOwn.never (PW.pt (pw_and (pt_cmpR op_lt (pv 2) (pe_callB call_len rfl B.len (by decide +kernel) (pa_cons (pv 0) pa_nil)) (nomark _)) (pw_and1 (pt_cmpR op_in_sign (pe_ix ix_str (pv 0) (pv 2) (fun _ _ => rfl)) (C8.pe_gc rfl G.LETTERS) rfl)))) (pss_one (ps_aug (i := 2) scNameAhead.nd rfl (.inl rfl) pe_int ip_add)))
    (pss_one (ps_ret (pe_slice C8.sl_txt (pv 0) (po_some (pv 1)) (po_some (pv 2))))))), ?_⟩
    have hi : i = c.1.length := hi
    have hz : c.all.length < 1000000 := hz
    have hv : v = V.str (S c.all) := h
    have hv2 : v2 = V.int (i : Nat) := h2
    subst hv hv2
    have hall : c.all.length = c.1.length + (c.2.1.length + c.2.2.length) := by unfold Cut.all; rw [List.length_append, List.length_append]
    refine ⟨_, rfl, ?_⟩
    refine st_while (fun m σ H' => ∃ j, j ≤ c.2.1.length ∧ m = c.2.1.length - j ∧ σ = [some (.str (S c.all)), some (.int (i : Nat)), some (.int ((i + j : Nat) : Int))] ∧ Ex H H') c.2.1.length ⟨0, Nat.zero_le _, rfl, rfl, Evl.Ex.refl _⟩ ?_
    rintro m σ H1 ⟨j, hj, rfl, rfl, e1⟩
    refine ⟨X, decide (j < c.2.1.length), dm.ex e1, ?_, fun H2 e2 => ?_⟩
    · have t1 := er_cmp0 (K := K) (X := X) (H := H1) (σ := [some (.str (S c.all)), some (.int (i : Nat)), some (.int ((i + j : Nat) : Int))]) (g := fun i j => decide (i < j)) (i := ((i + j : Nat) : Int)) (j := (c.all.length : Int)) (er_var (i := 2) rfl rfl) (er_lenX hz (er_var (i := 0) rfl rfl))
      by_cases hjn : j < c.2.1.length
      · rw [decide_eq_true hjn]
        obtain ⟨x, hx⟩ : ∃ x, c.2.1[j]? = some x := ⟨_, List.getElem?_eq_getElem hjn⟩
        refine Et.is (et_and (a := true) (b := true) (et_test (Er.is t1 (decide_eq_true (by omega)))) fun _ => et_test (K := K) (Er.is (er_inSign (c := x) (x := lettersL) (er_ixX (x := c.all) (i := i + j) (er_var (i := 0) rfl rfl) (er_var (i := 2) rfl rfl) (by rw [hi, cut_mid c j hjn]; exact hx) hz) (er_tx letters_S)) (decide_eq_true (hn x (List.mem_of_getElem? hx))))) rfl
      · rw [decide_eq_false hjn]
        have hje : j = c.2.1.length := by omega
        cases hp : c.2.2[0]? with
        | none =>
          have h0 : c.2.2.length = 0 := by
            have := List.getElem?_eq_none_iff.mp hp
            omega
          exact Et.is (et_and (a := false) (b := false) (et_test (Er.is t1 (decide_eq_false (by omega)))) fun z => nomatch z) rfl
        | some x =>
          have h0 : 0 < c.2.2.length := (List.getElem?_eq_some_iff.mp hp).1
          refine Et.is (et_and (a := true) (b := false) (et_test (Er.is t1 (decide_eq_true (by omega)))) fun _ => et_test (K := K) (Er.is (er_inSign (c := x) (x := lettersL) (er_ixX (x := c.all) (i := i + j) (er_var (i := 0) rfl rfl) (er_var (i := 2) rfl rfl) (by rw [hi, hje, cut_end c]; exact hp) hz) (er_tx letters_S)) (decide_eq_false (hs x hp)))) rfl
    · by_cases hjn : j < c.2.1.length
      · rw [decide_eq_true hjn]
        refine iteT ⟨fun σ' H' => σ' = [some (.str (S c.all)), some (.int (i : Nat)), some (.int ((i + (j + 1) : Nat) : Int))] ∧ Ex H H', fun σ' H' ⟨hσ, e'⟩ => ⟨c.2.1.length - (j + 1), by omega, j + 1, hjn, rfl, hσ, e'⟩, ?_⟩
        refine ⟨_, rfl, _, _, rfl, rfl, ?_, e1.trans e2⟩
        show [some (V.str (S c.all)), some (.int (i : Nat)), some (.int (((i + j : Nat) : Int) + 1))] = _
        rw [show ((i + j : Nat) : Int) + 1 = ((i + (j + 1) : Nat) : Int) by omega]
      · rw [decide_eq_false hjn]
        have hje : j = c.2.1.length := by omega
        refine iteF ?_
        refine ret_of (r := rTx) (x := c.2.1) (Er.is (er_mid (x := c.all) (i := i) (j := i + j) (er_var (i := 0) rfl rfl) (er_var (i := 1) rfl rfl) (er_var (i := 2) rfl rfl) (by omega) hz) ?_) ((dm.ex e1).ex e2) fun v' H' e' hv => q v' H' ((e1.trans e2).trans e') hv
        rw [hi, hje]
        unfold Cut.all
        rw [List.drop_left, show c.1.length + c.2.1.length - c.1.length = c.2.1.length by omega, List.take_left]
end
end Q
set_option maxHeartbeats 8000000
/-! F15: term_ahead, the mathematics. -/
namespace Q
open PySem PySem.Spec PyProof.Rows L2
def jl (ts : List Tx) (k : Nat) : Nat := if k = 0 then 0 else 1 + (TL.joinL [44] (ts.take k)).length
theorem join_cons (x : Tx) {ts : List Tx} (h : ts ≠ []) : TL.joinL [44] (x :: ts) = x ++ (44 :: TL.joinL [44] ts) := by
  cases ts with
  | nil => exact absurd rfl h
  | cons y r => rfl
theorem join_snoc : ∀ (l : List Tx) (x : Tx), (TL.joinL [44] (l ++ [x])).length = (if l = [] then 0 else (TL.joinL [44] l).length + 1) + x.length
  | [], x => by rw [if_pos rfl]; simp [TL.joinL]
  | [y], x => by rw [if_neg (by simp)]; simp [TL.joinL]; omega
  | y :: z :: r, x => by
    have ih := join_snoc (z :: r) x
    rw [if_neg (by simp)] at ih ⊢
    rw [List.cons_append, join_cons y (ts := z :: r ++ [x]) (by simp), join_cons y (ts := z :: r) (by simp), List.length_append, List.length_cons, ih, List.length_append, List.length_cons]
    omega
theorem jl_succ {ts : List Tx} {k : Nat} {x : Tx} (h : ts[k]? = some x) : jl ts (k + 1) = jl ts k + (1 + x.length) := by
  have e : ts.take (k + 1) = ts.take k ++ [x] := by rw [List.take_add_one, h]; rfl
  unfold jl
  rw [if_neg (by omega), e, join_snoc]
  by_cases hk : k = 0
  · subst hk
    rw [List.take_zero, if_pos rfl, if_pos rfl]
    omega
  · rw [if_neg hk, if_neg]
    · omega
    · intro z
      have h1 := congrArg List.length z
      have h2 := (List.getElem?_eq_some_iff.mp h).1
      rw [List.length_take, List.length_nil] at h1
      omega
/-- ( and the k-th of what is joined -/
theorem par_cut : ∀ (ts : List Tx) (k : Nat) (x : Tx), ts[k]? = some x → ∃ A B, 40 :: TL.joinL [44] ts = A ++ ((if k = 0 then 40 else 44) :: (x ++ B)) ∧ A.length = jl ts k ∧ (B = [] ∨ B[0]? = some 44)
  | [], k, x, h => by simp at h
  | [y], 0, x, h => by
    simp at h
    subst h
    exact ⟨[], [], by simp [TL.joinL], rfl, .inl rfl⟩
  | [y], k + 1, x, h => by simp at h
  | y :: z :: r, 0, x, h => by
    simp at h
    subst h
    exact ⟨[], 44 :: TL.joinL [44] (z :: r), by simp [TL.joinL], rfl, .inr rfl⟩
  | y :: z :: r, k + 1, x, h => by
    obtain ⟨A, B, e, hA, hB⟩ := par_cut (z :: r) k x (by simpa using h)
    by_cases hk : k = 0
    · subst hk
      have hA0 : A = [] := List.length_eq_zero_iff.mp hA
      subst hA0
      rw [if_pos rfl, List.nil_append] at e
      have e2 : TL.joinL [44] (z :: r) = x ++ B := (List.cons.inj e).2
      refine ⟨40 :: y, B, ?_, ?_, hB⟩
      · rw [join_cons y (by simp), e2, if_neg (by omega)]
        simp
      · unfold jl
        simp [TL.joinL]
        omega
    · rw [if_neg hk] at e
      have hjl : jl (z :: r) k = 1 + (TL.joinL [44] ((z :: r).take k)).length := by unfold jl; rw [if_neg hk]
      cases A with
      | nil => rw [hjl] at hA; simp at hA; omega
      | cons a A =>
        rw [List.cons_append] at e
        have e2 : TL.joinL [44] (z :: r) = A ++ (44 :: (x ++ B)) := (List.cons.inj e).2
        refine ⟨40 :: (y ++ (44 :: A)), B, ?_, ?_, hB⟩
        · rw [join_cons y (by simp), e2, if_neg (by omega)]
          simp
        · rw [hjl, List.length_cons] at hA
          have hk2 : (z :: r).take k ≠ [] := fun z' => by
            have := congrArg List.length z'
            simp at this
            omega
          unfold jl
          rw [if_neg (by omega), List.take_succ_cons, join_cons y hk2, List.length_cons, List.length_append, List.length_cons, List.length_append, List.length_cons]
          omega
theorem jl_all {ts : List Tx} (h : ts ≠ []) : jl ts ts.length = 1 + (TL.joinL [44] ts).length := by
  unfold jl
  rw [if_neg (fun z => h (List.length_eq_zero_iff.mp z)), List.take_length]
/-! words are names -/
mutual
def Tm.named : Tm → Prop
  | .nd w ps => isName w = true ∧ Tm.nameds ps
def Tm.nameds : List Tm → Prop
  | [] => True
  | p :: ps => p.named ∧ Tm.nameds ps
end
mutual
theorem Tm.named_ok {wd : Wd} (hw : ∀ p ∈ wd, isName p.1 = true) : ∀ t : Tm, t.ok wd → t.named
  | .nd w ps, h => by
    unfold Tm.ok at h
    unfold Tm.named
    exact ⟨hw _ (lk_mem h.1), Tm.nameds_ok hw ps h.2⟩
theorem Tm.nameds_ok {wd : Wd} (hw : ∀ p ∈ wd, isName p.1 = true) : ∀ ps : List Tm, Tm.oks wd ps → Tm.nameds ps
  | [], _ => by unfold Tm.nameds; trivial
  | p :: ps, h => by
    unfold Tm.oks at h
    unfold Tm.nameds
    exact ⟨Tm.named_ok hw p h.1, Tm.nameds_ok hw ps h.2⟩
end
theorem isName_ne {x : Tx} (h : isName x = true) : x ≠ [] := fun z => by rw [z] at h; cases h
theorem isName_letters {x : Tx} (h : isName x = true) : ∀ c ∈ x, c ∈ lettersL := fun c hc => by
  unfold isName at h
  rw [Bool.and_eq_true] at h
  exact of_decide_eq_true (List.all_eq_true.mp h.2 c hc)
theorem isName_8 {x : Tx} (h : isName x = true) : x.length ≤ 8 := by
  unfold isName at h
  rw [Bool.and_eq_true, Bool.and_eq_true] at h
  exact of_decide_eq_true h.1.2
mutual
theorem Tm.w8_named : ∀ t : Tm, t.named → t.w8
  | .nd w ps, h => by
    unfold Tm.named at h
    unfold Tm.w8
    exact ⟨isName_8 h.1, Tm.w8s_named ps h.2⟩
theorem Tm.w8s_named : ∀ ps : List Tm, Tm.nameds ps → Tm.w8s ps
  | [], _ => by unfold Tm.w8s; trivial
  | p :: ps, h => by
    unfold Tm.nameds at h
    unfold Tm.w8s
    exact ⟨Tm.w8_named p h.1, Tm.w8s_named ps h.2⟩
end
theorem letter_lt {c : Nat} (h : c ∈ lettersL) : c < 128 := by
  have : ∀ c ∈ lettersL, c < 128 := by decide
  exact this c h
mutual
theorem Tm.fit_named : ∀ t : Tm, t.named → t.fit = true
  | .nd w ps, h => by
    unfold Tm.named at h
    unfold Tm.fit
    rw [Tm.fits_named ps h.2, Bool.and_true]
    exact List.all_eq_true.mpr fun c hc => decide_eq_true (Nat.lt_trans (letter_lt (isName_letters h.1 c hc)) (by decide))
theorem Tm.fits_named : ∀ ps : List Tm, Tm.nameds ps → Tm.fits ps = true
  | [], _ => by unfold Tm.fits; rfl
  | p :: ps, h => by
    unfold Tm.nameds at h
    unfold Tm.fits
    rw [Tm.fit_named p h.1, Tm.fits_named ps h.2]
    rfl
end
theorem text_head {t : Tm} (h : t.named) : ∃ c, t.text[0]? = some c ∧ c ∈ lettersL := by
  cases t with
  | nd w ps =>
    unfold Tm.named at h
    cases w with
    | nil => exact absurd rfl (isName_ne h.1)
    | cons c w =>
      refine ⟨c, ?_, isName_letters h.1 c List.mem_cons_self⟩
      unfold Tm.text
      by_cases e : TL.joinL [44] (Tm.texts ps) = []
      · rw [if_pos e]; rfl
      · rw [if_neg e]; rfl
theorem text_ne {t : Tm} (h : t.named) : t.text ≠ [] := fun z => by
  obtain ⟨c, hc, _⟩ := text_head h
  rw [z] at hc
  simp at hc
theorem text_nil (w : Tx) : (Tm.nd w []).text = w := by
  unfold Tm.text
  rw [if_pos (by unfold Tm.texts TL.joinL; rfl)]
theorem text_par {w : Tx} {ps : List Tm} (h : Tm.nameds ps) (hp : ps ≠ []) : (Tm.nd w ps).text = w ++ (40 :: (TL.joinL [44] (ps.map Tm.text) ++ [41])) := by
  unfold Tm.text
  rw [if_neg, Tm.texts_map]
  rw [Tm.texts_map]
  intro z
  cases ps with
  | nil => exact hp rfl
  | cons p ps =>
    unfold Tm.nameds at h
    have h1 := text_ne h.1
    cases ps with
    | nil => rw [List.map_cons, List.map_nil] at z; exact h1 z
    | cons q r =>
      rw [List.map_cons, join_cons p.text (by simp)] at z
      exact h1 (List.append_eq_nil_iff.mp z).1
end Q
set_option maxHeartbeats 16000000
/-! F16: term_ahead. -/
namespace Q
open PySem PySem.Spec PyProof.Rows L2
abbrev CutT := Tx × Tm × Tx
def CutT.all (c : CutT) : Tx := c.1 ++ (c.2.1.text ++ c.2.2)
def rCutT : Rel CutT := fun _ _ v c => v = .str (S c.all)
instance : Mono rCutT := ⟨fun _ h => h⟩
theorem take1 {l : Tx} {i : Nat} {c : Nat} (h : l[i]? = some c) : (l.drop i).take (i + 1 - i) = [c] := by
  rw [show i + 1 - i = 1 by omega]
  have h1 : i < l.length := (List.getElem?_eq_some_iff.mp h).1
  rw [List.drop_eq_getElem_cons h1]
  rw [List.getElem?_eq_getElem h1] at h
  rw [Option.some.inj h]
  rfl
section
variable {P : Program} {w : World} {K : Frag} {mg : Str → Option Value} {base : Heap} {X : Hs} {σ : L2.St} {H : Hp} {te ta tb tl : TE} {C : Addr}
theorem er_min2 {a b : Int} (h : Er K X ta σ H rInt a) (h2 : Er K X tb σ H rInt b) : Er K X (tCB (fun xs H Q => ∃ i j, xs = [.int i, .int j] ∧ Q (.int (if j < i then j else i)) H) (tCons ta (tCons tb tNil))) σ H rInt (if b < a then b else a) :=
  er_cb2 h h2 fun v w H1 _ _ hv hw Q k => ⟨a, b, by rw [show v = V.int a from hv, show w = V.int b from hw], k _ H1 (Evl.Ex.refl _) rfl⟩
theorem er_unSome {α : Type} {r : Rel α} {x : α} (h : Er K X te σ H (rOpt r) (some x)) : Er K X te σ H r x := fun H1 e dm Q k => h H1 e dm Q fun v H2 e2 hv => k v H2 e2 hv.2
/-- (name, *parts), parts one's own list -/
theorem er_tmStar {a : Tx} {ps : List Tm} {o : Addr} {i : Nat} {vs : List V} (h : Er K X te σ H rTx a) (hs : σ[i]? = some (some (.ref o))) (ho : H o = some (.lst vs)) (hp : Paired (rTm K (hid X H)) vs ps) (hz : ps.length < 999999) : Er K X (tTup (tCons te (StX.tStar K (tVar i) tNil))) σ H rTm (.nd a ps) := fun H1 e dm Q k =>
  h H1 e dm _ fun v H2 e2 hv => ⟨.ref o, hs, o, vs, rfl, .inr (.inl (.inl (e2 _ _ (e _ _ ho)))), by
    have hl := Paired.len hp
    refine ⟨by rw [List.append_nil, List.length_cons]; exact size_le (by omega), fun p hn => ?_⟩
    have hv : v = V.str (S a) := hv
    subst hv
    refine k _ _ (e2.trans (Evl.Ex.new hn)) (rTm_iff.mpr ⟨p, vs, rfl, .inl (.inl (by rw [hid_out ((dm.ex e2).new hn), upd_same, List.append_nil])), Paired.mono (fun _ _ z => rTm_mono (hid_le ((e.trans e2).trans (Evl.Ex.new hn))) z) hp⟩)⟩
abbrev NTermAhead : List Str := ["words", "word", "at", "deep", "name", "many", "parts", "place", "found", "part"]
theorem scTermAhead : FnScope NTermAhead ["words", "word", "at", "deep"] (defScope sTermAhead) := ⟨rfl, rfl, rfl, by decide +kernel, rfl, by decide +kernel, by decide +kernel⟩
abbrev spTermAhead (K : Frag) (C : Addr) (n : Nat) : Sp := SpF (A4 (rWds C) rCutT rNat rNat fun wd c i d => OkW wd ∧ c.2.1.ok wd ∧ i = c.1.length ∧ c.2.1.deep ≤ d ∧ d ≤ n ∧ stop c.2.2 ∧ c.all.length < 1000000) K (rOpt (rPr rTm rNat)) fun p => some (p.2.1.2.1, p.2.2.1 + p.2.1.2.1.text.length)
theorem pr_ne {α β : Type} {r : Rel α} {s : Rel β} : ∀ H v (x : α × β), rPr r s K H v x → v ≠ .non := fun H v x ⟨a, _, _, e, _⟩ => by rw [e]; exact fun z => nomatch z
theorem ok_termAhead (B : Bi mg) (G : Gs mg) (T : OwnW K mg C) (m_many : KpM P w K mg base 1 C "many" ["self", "name"] (spMany K C)) (c_name_ahead : Kp P w K mg base 1 "name_ahead" ["word", "at"] (spNameAhead K)) (D : Dfn K mg "term_ahead" sTermAhead ["words", "word", "at", "deep"]) :
    ∀ n, Kp P w K mg base (n + 2) "term_ahead" ["words", "word", "at", "deep"] (spTermAhead K C n)
  | 0 => D.kp fun f fd F hm b => F.ok scTermAhead len4 fun cdv A outer s H vs Q E hr ⟨⟨wd, c, i, d⟩, X, dm, ⟨v, v2, v3, v4, e, h, h2, h3, h4, hw, hok, hi, hd, hn, hs, hz⟩, q⟩ => by
      have hd : c.2.1.deep ≤ d := hd
      have hn : d ≤ 0 := hn
      cases hc : c.2.1 with
      | nd a ps => rw [hc] at hd; unfold Tm.deep at hd; omega
  | n + 1 => D.kp fun f fd F hm b => F.ok scTermAhead len4 fun cdv A outer s H vs Q E hr ⟨⟨wd, ⟨pre, t, post⟩, i, d⟩, X, dm, ⟨v, v2, v3, v4, e, h, h2, h3, h4, hw, hok, hi, hd, hn, hs, hz⟩, q⟩ => by
      subst e
      refine ⟨_, (pss_cons (ps_if (pt_cmpR op_eq (pe_slice C8.sl_txt (pv 1) (po_some (pv 2)) (po_some (pe_op op_add (pv 2) pe_int))) (C8.pe_gc rfl G.HOLE) (nomark _)) (pss_one (ps_ret (pe_tup (pa_cons (pe_tup (pa_cons (C8.pe_gc rfl G.HOLE) pa_nil)) (pa_cons (pe_op op_add (pv 2) pe_int) pa_nil))))) pss_nil)
    (pss_cons (ps_set (i := 4) scTermAhead.nd rfl (.inl rfl) (pe_kp c_name_ahead hr (by omega) (pa_cons (pv 1) (pa_cons (pv 2) pa_nil))))
    (pss_cons (ps_par3 (i := 5) (j := 2) (l := 6) (by rfl) scTermAhead.nd rfl rfl rfl (by decide) (by decide) (by decide) rfl rfl rfl (pa_cons (pe_km m_many hr (by omega) (pv 0) (pa_cons (pv 4) pa_nil)) (pa_cons (pe_op op_add (pv 2) (pe_callB call_len rfl B.len (by decide +kernel) (pa_cons (pv 4) pa_nil))) (pa_cons (pe_lst pa_nil) pa_nil))) (by rfl))
    (pss_cons (ps_if (PW.pt (pw_or (pt_cmp (pc_isN (pv 5))) (pw_or1 (pt_cmpR op_eq (pv 3) pe_int (nomark _))))) (pss_one (ps_ret pe_non)) pss_nil)
    (pss_cons (ps_for PassesOwn.never rfl (pi_range1 (by rfl) B.range (pa_cons (pv 5) pa_nil)) (pg_name (i := 7) scTermAhead.nd rfl (.inl rfl)) (pss_cons (ps_if (pt_cmpR op_ne (pe_slice C8.sl_txt (pv 1) (po_some (pv 2)) (po_some (pe_op op_add (pv 2) pe_int))) (pe_ifExp (pt_cmpR op_eq (pv 7) pe_int (nomark _)) pe_str pe_str) (nomark _)) (pss_one (ps_ret pe_non)) pss_nil)
    (pss_cons (ps_set (i := 8) scTermAhead.nd rfl (.inl rfl) (pe_kp (ok_termAhead B G T m_many c_name_ahead D n) hr (Nat.le_refl _) (pa_cons (pv 0) (pa_cons (pv 1) (pa_cons (pe_op op_add (pv 2) pe_int) (pa_cons (pe_op op_sub (pv 3) pe_int) pa_nil))))))
    (pss_cons (ps_if (pt_cmp (pc_isN (pv 8))) (pss_one (ps_ret pe_non)) pss_nil)
    (pss_cons (ps_asg (pv 8) (pg_tup rfl (pgs_cons (pg_name (i := 9) scTermAhead.nd rfl (.inl rfl)) (pgs_cons (pg_name (i := 2) scTermAhead.nd rfl (.inl rfl)) pgs_nil))))
    (pss_one (ps_expr (pe_bm PySem.F.plainAttrs_list PySem.F.slot_list_append PySem.F.type_list_append mt_append (pv 6) (pa_cons (pv 9) pa_nil)))))))))
    (pss_cons (ps_if (PW.pt (pw_and (pt_cmpR op_gt (pv 5) pe_int (nomark _)) (pw_and1 (pt_cmpR op_ne (pe_slice C8.sl_txt (pv 1) (po_some (pv 2)) (po_some (pe_op op_add (pv 2) pe_int))) pe_str (nomark _))))) (pss_one (ps_ret pe_non)) pss_nil)
    (pss_one (ps_ret (pe_tup (pa_cons (pe_tup (pa_cons (pv 4) (StX.pa_star (pv 6) pa_nil))) (pa_cons (pe_op op_add (pv 2) (pe_callB (call_min2 rfl) rfl B.min (by decide +kernel) (pa_cons (pv 5) (pa_cons pe_int pa_nil)))) pa_nil))))))))))), ?_⟩
      cases t with
      | nd a ps =>
      have hw : OkW wd := hw
      have hok0 : (Tm.nd a ps).ok wd := hok
      have hi : i = pre.length := hi
      have hd : (Tm.nd a ps).deep ≤ d := hd
      have hn : d ≤ n + 1 := hn
      have hs : stop post := hs
      have hz : (CutT.all (pre, Tm.nd a ps, post)).length < 1000000 := hz
      have hv2 : v2 = V.str (S (CutT.all (pre, Tm.nd a ps, post))) := h2
      have hv3 : v3 = V.int (i : Nat) := h3
      have hv4 : v4 = V.int (d : Nat) := h4
      subst hv2 hv3 hv4
      have hnm := Tm.named_ok (fun p hp => (hw.good p hp).1) _ hok0
      obtain ⟨hlk, hoks⟩ : lk wd a = some ps.length ∧ Tm.oks wd ps := by unfold Tm.ok at hok0; exact hok0
      obtain ⟨hna, hnps⟩ : isName a = true ∧ Tm.nameds ps := by unfold Tm.named at hnm; exact hnm
      have hd1 : 1 ≤ d := by unfold Tm.deep at hd; omega
      have hdp : Tm.deeps ps ≤ d - 1 := by unfold Tm.deep at hd; omega
      obtain ⟨c0, hc0, hc0l⟩ := text_head hnm
      -- all that stands
      obtain ⟨rest, htext, hrest, hrs⟩ : ∃ rest, (Tm.nd a ps).text = a ++ rest ∧ (ps = [] → rest = []) ∧ (ps ≠ [] → rest = 40 :: (TL.joinL [44] (ps.map Tm.text) ++ [41])) := by
        by_cases hp : ps = []
        · subst hp
          exact ⟨[], by rw [text_nil, List.append_nil], fun _ => rfl, fun z => absurd rfl z⟩
        · exact ⟨_, text_par hnps hp, fun z => absurd z hp, fun _ => rfl⟩
      have hcut : CutT.all (pre, Tm.nd a ps, post) = Cut.all (pre, a, rest ++ post) := by
        show pre ++ ((Tm.nd a ps).text ++ post) = pre ++ (a ++ (rest ++ post))
        rw [htext, List.append_assoc]
      have hstop : stop (rest ++ post) := by
        by_cases hp : ps = []
        · rw [hrest hp, List.nil_append]; exact hs
        · rw [hrs hp]
          intro c hc
          have : c = 40 := by simpa using hc.symm
          rw [this]; decide
      generalize hall : CutT.all (pre, Tm.nd a ps, post) = all at *
      have hpre : all[i]? = some c0 := by
        rw [← hall, hi]
        show (pre ++ ((Tm.nd a ps).text ++ post))[pre.length]? = _
        rw [List.getElem?_append_right (Nat.le_refl _), Nat.sub_self, List.getElem?_append_left (by
          have := (List.getElem?_eq_some_iff.mp hc0).1
          exact this)]
        exact hc0
      have mW := (inferInstance : Mono (rWds C))
      refine st_skip (X := X) (et_test (K := K) (Er.is (er_eqT (er_mid (x := all) (i := i) (j := i + 1) (er_var (i := 1) rfl rfl) (er_var (i := 2) rfl rfl) (Er.is (er_op0 (g := fun i j => i + j) (i := (i : Int)) (j := 1) (er_var (i := 2) rfl rfl) er_int) (by omega)) (by omega) hz) (er_tx (i := [95]) (by decide +kernel))) (by
        rw [take1 hpre]
        refine decide_eq_false fun z => ?_
        have z2 : c0 = 95 := (List.cons.inj z).1
        rw [z2] at hc0l
        exact absurd hc0l (by decide)))) dm fun H2 e2 => ?_
      have dm2 := dm.ex e2
      dsimp only
      refine sq (st_set (K := K) (X := X) (r := rTx) (x := a) (er_call2 (r := rCut) (s := rNat) (f := fun p : Cut × Nat => p.1.2.1) (x := (pre, a, rest ++ post)) (y := i) (er_var (i := 1) rfl (by show V.str (S all) = V.str (S (Cut.all _)); rw [hcut])) (er_var (i := 2) rfl rfl) ⟨hi, isName_letters hna, hstop, by rw [← hcut]; exact hz⟩) dm2 fun v5 H3 e3 hv5 => ?_)
      have hv5 : v5 = V.str (S a) := hv5
      subst hv5
      have dm3 := dm2.ex e3
      have w3 := mW.mono (hid_le (e2.trans e3)) h
      dsimp only
      refine sq ?_
      refine (Er.is (er_many (K := K) (X := X) (n := a) (er_var (i := 0) rfl w3) (er_var (i := 4) rfl rfl)) hlk).go dm3 fun u H4 e4 hu => ?_
      refine (er_op0 (K := K) (X := X) (g := fun i j => i + j) (i := (i : Int)) (j := (a.length : Int)) (er_var (i := 2) rfl rfl) (er_lenX (x := a) (by have := isName_8 hna; omega) (er_var (i := 4) rfl rfl))).go (dm3.ex e4) fun v6 H5 e5 hv6 => ?_
      have hu : u = V.int (ps.length : Nat) := hu.2
      have hv6 : v6 = V.int ((i + a.length : Nat) : Int) := by
        have : v6 = V.int ((i : Int) + (a.length : Int)) := hv6
        rw [this]
        congr 1
      subst hu hv6
      refine ⟨Nat.zero_le _, fun o ho => ⟨_, _, _, rfl, ?_⟩⟩
      have E5 : Ex H H5 := ((e2.trans e3).trans e4).trans e5
      have dm5 := dm.ex E5
      have hXo : X o = false := dm5.new ho
      generalize hG : upd H5 o (.lst []) = G5
      have E6 : Ex H G5 := by rw [← hG]; exact E5.trans (Evl.Ex.new ho)
      have g5 : G5 o = some (.lst []) := by rw [← hG]; exact upd_same
      have dmY : Dm (X.and o) G5 := (dm.ex E6).and (by rw [g5]; exact fun z => nomatch z)
      have hHo : H o = none := by
        cases q' : H o with
        | none => rfl
        | some u => rw [E5 _ _ q'] at ho; cases ho
      have eY : Ex (hid X H) (hid (X.and o) G5) := hid_and E6 hHo
      have wY := mW.mono eY.le h
      refine st_skip (X := X.and o) (et_or (a := false) (b := false) (et_B (Er.is (er_isN (K := K) (r := rNat) (x := some ps.length) (er_var (r := rOpt rNat) (x := some ps.length) (v := V.int (ps.length : Nat)) (i := 5) rfl ⟨(fun z => nomatch z), rfl⟩)) rfl)) fun _ => et_test (Er.is (er_eqI (K := K) (i := (d : Int)) (j := 0) (er_var (i := 3) rfl rfl) er_int) (decide_eq_false (by omega)))) dmY fun H6 e6 => ?_
      dsimp only
      have dm6 := dmY.ex e6
      have g6 := e6 _ _ g5
      have w6 := mW.mono (hid_le e6) wY
      have hpl := Tm.len_sizes ps
      have hp3 : ps.length ≤ 3 := (hw.good _ (lk_mem hlk)).2
      have hlenall : all.length = pre.length + (a.length + (rest.length + post.length)) := by rw [hcut]; unfold Cut.all; rw [List.length_append, List.length_append, List.length_append]
      refine sq ?_
      refine st_forX (K := K) (X := X.and o) (r := rInt) (xs := (List.range ps.length).map fun j => ((j : Nat) : Int)) (fun B k σ' H' => (∃ x y z, σ' = [some v, some (.str (S all)), some (.int ((i + a.length + jl (ps.map Tm.text) k : Nat) : Int)), some (.int (d : Nat)), some (.str (S a)), some (.int (ps.length : Nat)), some (.ref o), x, y, z]) ∧ Off o B H' ∧ ∃ vs, H' o = some (.lst vs) ∧ Paired (rTm K (hid (X.and o) H')) vs (ps.take k))
        (eix_range1 (n := ps.length) (by have h1 : ps.length ≤ 3 := (hw.good _ (lk_mem hlk)).2; omega) (er_var (i := 5) rfl rfl)) dm6 (fun B eB => ⟨⟨_, _, _, by unfold jl; rw [if_pos rfl]; rfl⟩, fun _ _ _ h => h, [], eB _ _ g6, .nil⟩) (fun B k σ' H' _ hP => hid_off hP.2.1 (Hs.and_at _ _)) ?_ ?_
      · rintro Bh k x σ' H' eB hx ⟨⟨x0, y0, z0, rfl⟩, off, vs, go, hvs⟩ vv H7 e7 hvv
        have hx2 : k < ps.length := by have := (List.getElem?_eq_some_iff.mp hx).1; simpa using this
        rw [getElem?_range hx2] at hx
        have hx : x = ((k : Nat) : Int) := (Option.some.inj hx).symm
        subst hx
        obtain ⟨p, hp⟩ : ∃ p, ps[k]? = some p := ⟨_, List.getElem?_eq_getElem hx2⟩
        have hmem := List.mem_of_getElem? hp
        have hpne : ps ≠ [] := fun z => by rw [z] at hp; simp at hp
        have hts : (ps.map Tm.text)[k]? = some p.text := by rw [List.getElem?_map, hp]; rfl
        obtain ⟨A1, B1, ec, hA1, hB1⟩ := par_cut (ps.map Tm.text) k p.text hts
        have hjs := jl_succ hts
        -- the text cut at this place
        have hrest : rest = A1 ++ ((if k = 0 then 40 else 44) :: (p.text ++ (B1 ++ [41]))) := by
          rw [hrs hpne, ← List.cons_append, ec]
          simp
        generalize hsep : (if k = 0 then 40 else 44 : Nat) = sep at *
        have hall2 : all = (pre ++ (a ++ (A1 ++ [sep]))) ++ (p.text ++ (B1 ++ (41 :: post))) := by
          rw [hcut]
          unfold Cut.all
          rw [hrest]
          simp
        have hpl2 : (pre ++ (a ++ (A1 ++ [sep]))).length = i + a.length + jl (ps.map Tm.text) k + 1 := by
          rw [List.length_append, List.length_append, List.length_append, hA1, hi, List.length_singleton]; omega
        have hch : all[i + a.length + jl (ps.map Tm.text) k]? = some sep := by
          rw [hall2, List.getElem?_append_left (by rw [hpl2]; omega), ← List.append_assoc, ← List.append_assoc, List.getElem?_append_right (by rw [List.length_append, List.length_append, hA1, hi]; omega)]
          rw [List.length_append, List.length_append, hA1, hi, show pre.length + a.length + jl (ps.map Tm.text) k - (pre.length + a.length + jl (ps.map Tm.text) k) = 0 by omega]
          rfl
        have hstop2 : stop (B1 ++ (41 :: post)) := by
          intro c hc
          rcases hB1 with z | z
          · rw [z, List.nil_append] at hc
            have : c = 41 := by simpa using hc.symm
            rw [this]; decide
          · rw [List.getElem?_append_left (List.getElem?_eq_some_iff.mp z).1, z] at hc
            rw [← Option.some.inj hc]; decide
        have dB := dm6.ex eB
        have dm' := dB.off' off (by rw [go]; exact fun z => nomatch z)
        have eY7 : Ex (hid (X.and o) Bh) (hid (X.and o) H7) := Evl.Ex.trans (hid_off off (Hs.and_at _ _)) (hid_ex e7)
        have hv' := hvv _ eY7 dm'
        refine eg_name (r := rInt) (x := ((k : Nat) : Int)) _ vv H7 hv' _ fun σ2 ⟨v1, eσ, hv1⟩ => ?_
        have hv1 : v1 = V.int (k : Nat) := hv1
        subst eσ hv1
        have dm7 := dm'.ex e7
        have w7 := mW.mono (Evl.Ex.trans (hid_ex eB) eY7).le w6
        generalize hat : i + a.length + jl (ps.map Tm.text) k = at_ at *
        refine st_skip (X := X.and o) (et_test (K := K) (Er.is (er_neT (i := [sep]) (j := [sep]) (Er.is (er_mid (x := all) (i := at_) (j := at_ + 1) (er_var (i := 1) rfl rfl) (er_var (i := 2) rfl rfl) (Er.is (er_op0 (g := fun i j => i + j) (i := (at_ : Int)) (j := 1) (er_var (i := 2) rfl rfl) er_int) (by omega)) (by omega) hz) (take1 hch)) (er_if (b := decide (((k : Nat) : Int) = 0)) (et_test (er_eqI (K := K) (er_var (i := 7) rfl rfl) er_int)) (fun hb => Er.is (er_tx (i := [40]) (by decide +kernel)) (by
          rw [← hsep, if_pos (by have := of_decide_eq_true hb; omega)])) (fun hb => Er.is (er_tx (i := [44]) (by decide +kernel)) (by
          rw [← hsep, if_neg (by have := of_decide_eq_false hb; omega)])))) (by rw [decide_eq_true rfl]; rfl))) dm7 fun H8 e8 => ?_
        have dm8 := dm7.ex e8
        have w8 := mW.mono (hid_le e8) w7
        have hsum := Tm.text_len (.nd a ps) (Tm.w8_named _ hnm)
        dsimp only
        refine sq (st_set (K := K) (X := X.and o) (r := rOpt (rPr rTm rNat)) (x := some (p, at_ + 1 + p.text.length)) (er_call4 (r := rWds C) (s := rCutT) (t := rNat) (u := rNat) (f := fun q : Wd × CutT × Nat × Nat => some (q.2.1.2.1, q.2.2.1 + q.2.1.2.1.text.length)) (x := wd) (y := (pre ++ (a ++ (A1 ++ [sep])), p, B1 ++ (41 :: post))) (c := at_ + 1) (d := d - 1) (er_var (i := 0) rfl w8) (er_var (i := 1) rfl (by show V.str (S all) = V.str (S (CutT.all _)); rw [hall2]; rfl)) (er_toNat (Er.is (er_op0 (g := fun i j => i + j) (i := (at_ : Int)) (j := 1) (er_var (i := 2) rfl rfl) er_int) (by omega))) (er_toNat (Er.is (er_op0 (g := fun i j => i - j) (i := (d : Int)) (j := 1) (er_var (i := 3) rfl rfl) er_int) (by omega)))
          ⟨hw, Tm.oks_mem hoks hmem, hpl2.symm, Tm.deeps_le hdp p hmem, by omega, hstop2, by show (CutT.all (pre ++ (a ++ (A1 ++ [sep])), p, B1 ++ (41 :: post))).length < _; unfold CutT.all; rw [← hall2]; exact hz⟩) dm8 fun v9 H9 e9 hv9 => ?_)
        have dm9 := dm8.ex e9
        dsimp only
        refine st_skip (X := X.and o) (et_B (K := K) (Er.is (er_isN (r := rPr rTm rNat) (er_var (i := 8) rfl hv9)) rfl)) dm9 fun H10 e10 => ?_
        have hv10 := (inferInstance : Mono (rPr rTm rNat)).mono (hid_le e10) hv9.2
        dsimp only
        refine sq ?_
        refine ⟨v9, rfl, ?_⟩
        refine eg_pr (K := K) (r := rTm) (s := rNat) (x := p) (y := at_ + 1 + p.text.length) _ v9 H10 hv10 _ fun σ3 ⟨t1, t2, eσ, ht1, ht2⟩ => ?_
        have ht2 : t2 = V.int ((at_ + 1 + p.text.length : Nat) : Int) := ht2
        subst eσ ht2
        have g10 : H10 o = some (.lst vs) := e10 _ _ (e9 _ _ (e8 _ _ (e7 _ _ go)))
        have hvl := Paired.len hvs
        refine st_append (K := K) (X := X.and o) (r := rTm) (x := p) (i := 6) rfl g10 (by rw [hvl, List.length_take]; omega) (dm9.ex e10) (er_var (i := 9) rfl ht1) fun t3 H11 e11 ht3 => ?_
        refine ⟨⟨some (V.int (k : Nat)), some v9, some t1, ?_⟩, fun b o' hb q' => ?_, vs ++ [t3], upd_same, ?_⟩
        · rw [hjs, show i + a.length + (jl (ps.map Tm.text) k + (1 + p.text.length)) = at_ + 1 + p.text.length by omega]
          rfl
        · rw [upd_ne hb]
          exact e11 _ _ (e10 _ _ (e9 _ _ (e8 _ _ (e7 _ _ (off b o' hb q')))))
        · rw [hid_upd (Hs.and_at _ _), show ps.take (k + 1) = ps.take k ++ [p] by rw [List.take_add_one, hp]; rfl]
          exact Paired.snoc' (Paired.mono (fun _ _ z => rTm_mono (hid_le ((((e7.trans e8).trans e9).trans e10).trans e11)) z) hvs) ht3
      · rintro Bh σ' H7 eB ⟨⟨x0, y0, z0, rfl⟩, off, vs, go, hvs⟩
        have hxl : ((List.range ps.length).map fun j => ((j : Nat) : Int)).length = ps.length := by rw [List.length_map, List.length_range]
        rw [hxl] at hvs ⊢
        rw [List.take_length] at hvs
        have dB := dm6.ex eB
        have E7 : Ex H H7 := fun b o' q' => off b o' (ne_of_none q' hHo) (eB _ _ (e6 _ _ (E6 _ _ q')))
        have dm7 := dm.ex E7
        have hvs7 : Paired (rTm K (hid X H7)) vs ps := Paired.mono (fun _ _ z => rTm_mono hid_sub.le z) hvs
        have hmts : (ps.map Tm.text).length = ps.length := List.length_map ..
        have hlt : (Tm.nd a ps).text.length = a.length + rest.length := by rw [htext, List.length_append]
        have tst : Et X (tAnd (tTest (tOp (rI0 fun i j => .bl (decide (j < i))) (tVar 5) (tC (.int 0)))) (tTest (tOp rNe (tSl C8.rSlX (tVar 1) (tPart (tVar 2)) (tPart (tOp (rI0 fun i j => .int (i + j)) (tVar 2) (tC (.int 1))))) (tC (.str ")"))))) [some v, some (.str (S all)), some (.int ((i + a.length + jl (ps.map Tm.text) ps.length : Nat) : Int)), some (.int (d : Nat)), some (.str (S a)), some (.int (ps.length : Nat)), some (.ref o), x0, y0, z0] H7 false := by
          by_cases hp : ps = []
          · exact Et.is (et_and (a := false) (b := false) (et_test (K := K) (Er.is (er_cmp0 (g := fun i j => decide (j < i)) (i := (ps.length : Int)) (j := 0) (er_var (i := 5) rfl rfl) er_int) (decide_eq_false (by rw [hp]; simp)))) fun z => nomatch z) rfl
          · have h0 : ps.length ≠ 0 := fun z => hp (List.length_eq_zero_iff.mp z)
            have hja := jl_all (ts := ps.map Tm.text) (fun z => h0 (by have := congrArg List.length z; simpa using this))
            rw [hmts] at hja
            have hch : all[i + a.length + jl (ps.map Tm.text) ps.length]? = some 41 := by
              rw [hcut]
              show (pre ++ (a ++ (rest ++ post)))[i + a.length + jl (ps.map Tm.text) ps.length]? = some 41
              rw [List.getElem?_append_right (by omega), List.getElem?_append_right (by omega), hrs hp, List.getElem?_append_left (by simp; omega), hja]
              rw [show i + a.length + (1 + (TL.joinL [44] (ps.map Tm.text)).length) - pre.length - a.length = (TL.joinL [44] (ps.map Tm.text)).length + 1 by omega]
              rw [List.getElem?_cons_succ, List.getElem?_append_right (Nat.le_refl _), Nat.sub_self]
              rfl
            refine Et.is (et_and (a := true) (b := false) (et_test (K := K) (Er.is (er_cmp0 (g := fun i j => decide (j < i)) (i := (ps.length : Int)) (j := 0) (er_var (i := 5) rfl rfl) er_int) (decide_eq_true (by omega)))) fun _ => et_test (K := K) (Er.is (er_neT (i := [41]) (j := [41]) (Er.is (er_mid (x := all) (i := i + a.length + jl (ps.map Tm.text) ps.length) (j := i + a.length + jl (ps.map Tm.text) ps.length + 1) (er_var (i := 1) rfl rfl) (er_var (i := 2) rfl rfl) (Er.is (er_op0 (g := fun i j => i + j) (i := ((i + a.length + jl (ps.map Tm.text) ps.length : Nat) : Int)) (j := 1) (er_var (i := 2) rfl rfl) er_int) (by omega)) (by omega) hz) (take1 hch)) (er_tx (i := [41]) (by decide +kernel))) (by rw [decide_eq_true rfl]; rfl))) rfl
        refine st_skip tst dm7 fun H8 e8 => ?_
        dsimp only
        refine ret_of (K := K) (X := X) (r := rOpt (rPr rTm rNat)) (x := some (Tm.nd a ps, i + (Tm.nd a ps).text.length)) (er_some (er_pr (er_tmStar (a := a) (ps := ps) (o := o) (i := 6) (er_var (i := 4) rfl rfl) rfl (e8 _ _ go) (Paired.mono (fun _ _ z => rTm_mono (hid_le e8) z) hvs7) (by omega)) (er_toNat (Er.is (er_op0 (g := fun i j => i + j) (i := ((i + a.length + jl (ps.map Tm.text) ps.length : Nat) : Int)) (er_var (i := 2) rfl rfl) (er_min2 (a := (ps.length : Int)) (b := 1) (er_var (i := 5) rfl rfl) er_int)) ?_))) fun H v => pr_ne H v _) (dm7.ex e8) fun v' H' e' hv => q v' H' ((E7.trans e8).trans e') hv
        rw [hlt]
        by_cases hp : ps = []
        · have hjz : jl (ps.map Tm.text) ps.length = 0 := by rw [hp]; rfl
          rw [hjz, hrest hp]
          have h0 : ps.length = 0 := by rw [hp]; rfl
          rw [h0, if_neg (by decide), List.length_nil]
          omega
        · have h0 : ps.length ≠ 0 := fun z => hp (List.length_eq_zero_iff.mp z)
          have hja := jl_all (ts := ps.map Tm.text) (fun z => h0 (by have := congrArg List.length z; simpa using this))
          rw [hmts] at hja
          have hrl : rest.length = (TL.joinL [44] (ps.map Tm.text)).length + 2 := by rw [hrs hp]; simp
          have hmin : (if (1 : Int) < (ps.length : Int) then (1 : Int) else (ps.length : Int)) = 1 := by
            by_cases h1 : (1 : Int) < (ps.length : Int)
            · rw [if_pos h1]
            · rw [if_neg h1]; omega
          rw [hmin, hja, hrl]
          omega
end
end Q
set_option maxHeartbeats 8000000
/-! F17: number_in, whole_ahead, term_in, head_of. -/
namespace Q
open PySem PySem.Spec PyProof.Rows L2
section
variable {P : Program} {w : World} {K : Frag} {mg : Str → Option Value} {base : Heap} {X : Hs} {σ : L2.St} {H : Hp} {te ta tb tl : TE} {C : Addr}
/-! number_in -/
abbrev NNumberIn : List Str := ["word", "sign"]
theorem scNumberIn : FnScope NNumberIn ["word"] (defScope sNumberIn) := ⟨rfl, rfl, rfl, by decide +kernel, rfl, by decide +kernel, by decide +kernel⟩
def rDig : Rel Nat := fun _ _ v n => v = .str (S [48 + n])
instance : Mono rDig := ⟨fun _ h => h⟩
def figuresL : Tx := [48, 49, 50, 51, 52, 53, 54, 55, 56, 57]
abbrev spNumberIn (K : Frag) : Sp := SpF (A1 rDig fun n => n ≤ 3) K (rOpt rNat) some
theorem int_dig {n : Nat} (h : n ≤ 3) : intText? (S [48 + n]) = some (n : Int) := by
  rw [SX.int_S (by simp; omega) (by simp) (by simp)]
  have : n = 0 ∨ n = 1 ∨ n = 2 ∨ n = 3 := by omega
  rcases this with rfl | rfl | rfl | rfl <;> decide
theorem er_intX {n : Nat} (h : Er K X te σ H rDig n) (hn : n ≤ 3) : Er K X (tCB (fun xs H Q => ∃ a n, xs = [.str a] ∧ PySem.intText? a = some n ∧ a.length ≤ 640 ∧ Q (.int n) H) (tCons te tNil)) σ H rNat n := er_cb1 h fun v H1 _ _ hv Q k =>
  ⟨S [48 + n], (n : Int), by rw [show v = V.str (S [48 + n]) from hv], int_dig hn, by rw [SX.S_len]; simp, k _ H1 (Evl.Ex.refl _) rfl⟩
theorem er_dig {n : Nat} (h : Er K X te σ H rDig n) : Er K X te σ H rTx [48 + n] := h
theorem ok_numberIn (B : Bi mg) (G : Gs mg) (D : Dfn K mg "number_in" sNumberIn ["word"]) : Kp P w K mg base 1 "number_in" ["word"] (spNumberIn K) :=
  D.kp fun f fd F hm b => F.ok scNumberIn len1 fun cdv A outer s H vs Q E hr ⟨n, X, dm, ⟨v, e, h, hn⟩, q⟩ => by
    subst e
    refine ⟨_, (pss_cons (ps_if (PW.pt (pw_or (pt_cmpR op_eq (pv 0) pe_str (nomark _)) (pw_or (pt_cmpR op_gt (pe_callB call_len rfl B.len (by decide +kernel) (pa_cons (pv 0) pa_nil)) (C8.pe_gc rfl G.MOST_FIGURES_reader) (nomark _)) (pw_or1 (pt_not (pt_val (pe_callB (cr_all rfl) rfl B.all (by decide +kernel) (pa_cons (pe_lc (own := [("sign", 1)]) (g := gName 1) (tt := tYes) rfl scNumberIn.nd (pi_str (pv 0)) (blkOk_by (N := NNumberIn) (sc := defScope sNumberIn) (by decide +kernel)) (fun _ _ _ _ _ => (pg_name (i := 1) scNumberIn.nd rfl (.inl rfl))) (fun _ _ _ _ _ => pts_nil) (fun _ _ _ _ _ => (pe_cmpR op_in_sign (pv 1) (C8.pe_gc rfl G.FIGURES) rfl))) pa_nil)))))))) (pss_one (ps_ret pe_non)) pss_nil)
    (pss_one (ps_ret (pe_ifExp (PW.pt (pw_and (pt_cmpR op_gt (pe_callB call_len rfl B.len (by decide +kernel) (pa_cons (pv 0) pa_nil)) pe_int (nomark _)) (pw_and1 (pt_cmpR op_eq (pe_ix ix_str (pv 0) pe_int (fun _ _ => rfl)) pe_str (nomark _))))) pe_non (pe_callTy call_int_str rfl B.int (by decide +kernel) (pa_cons (pv 0) pa_nil)))))), ?_⟩
    have hn : n ≤ 3 := hn
    have hm : 48 + n ∈ figuresL := by
      have : n = 0 ∨ n = 1 ∨ n = 2 ∨ n = 3 := by omega
      rcases this with rfl | rfl | rfl | rfl <;> decide
    have hx : Er K X (tVar 0) (L2.start NNumberIn [v]) H rTx [48 + n] := er_var (i := 0) rfl (show rTx K _ v [48 + n] from h)
    refine st_skip (X := X) (et_or (a := false) (b := false) (et_test (K := K) (Er.is (er_eqT hx (er_tx (i := []) (by decide +kernel))) (decide_eq_false (by simp)))) fun _ => et_or (a := false) (b := false) (et_test (K := K) (Er.is (er_cmp0 (g := fun i j => decide (j < i)) (er_lenX (by simp) hx) er_int) (by simp))) fun _ => et_not (a := true) (et_B (Er.is (er_all (xs := ([48 + n].map sign).map fun c => decide (c.headD 0 ∈ figuresL)) (er_lc (r := rTx) (s := rBl) (xs := [48 + n].map sign) (f := fun c => decide (c.headD 0 ∈ figuresL)) (ei_str hx) (by simp) fun d hd Y v' H' e' hv => ?_)) ?_))) dm fun H2 e2 => ?_
    · obtain ⟨c, _, rfl⟩ := List.mem_map.mp hd
      exact er_inSign (c := c) (x := figuresL) (er_var rfl hv) (er_tx (by decide +kernel))
    · simp [sign, hm]
    · dsimp only
      refine ret_of (K := K) (X := X) (r := rOpt rNat) (x := some n) ?_ (dm.ex e2) fun v' H' e' hv => q v' H' (e2.trans e') hv
      have hx2 := hx.mono e2
      refine er_if (b := false) (Et.is (et_and (a := false) (b := false) (et_test (K := K) (Er.is (er_cmp0 (g := fun i j => decide (j < i)) (er_lenX (by simp) hx2) er_int) (by simp))) fun z => nomatch z) rfl) (fun z => nomatch z) fun _ => er_some (er_intX (er_var (i := 0) rfl h) hn) fun H v => nat_ne H v n
/-! whole_ahead -/
abbrev NWholeAhead : List Str := ["words", "word", "found"]
theorem scWholeAhead : FnScope NWholeAhead ["words", "word"] (defScope sWholeAhead) := ⟨rfl, rfl, rfl, by decide +kernel, rfl, by decide +kernel, by decide +kernel⟩
def rTmX : Rel Tm := fun _ _ v t => v = .str (S t.text)
instance : Mono rTmX := ⟨fun _ h => h⟩
abbrev spWholeAhead (K : Frag) (C : Addr) : Sp := SpF (A2 (rWds C) rTmX fun wd t => OkW wd ∧ t.ok wd ∧ t.deep ≤ 60 ∧ t.size ≤ 200) K (rOpt rTm) fun p => some p.2
theorem tm_ne : ∀ H v (x : Tm), rTm K H v x → v ≠ .non := fun H v x h => by
  cases x with
  | nd a ps =>
    obtain ⟨ad, _, e, _⟩ := rTm_iff.mp h
    rw [e]; exact fun z => nomatch z
theorem ok_wholeAhead (B : Bi mg) (G : Gs mg) (c_term_ahead : Kp P w K mg base 123 "term_ahead" ["words", "word", "at", "deep"] (spTermAhead K C 121)) (D : Dfn K mg "whole_ahead" sWholeAhead ["words", "word"]) : Kp P w K mg base 124 "whole_ahead" ["words", "word"] (spWholeAhead K C) :=
  D.kp fun f fd F hm b => F.ok scWholeAhead len2 fun cdv A outer s H vs Q E hr ⟨⟨wd, t⟩, X, dm, ⟨v, v2, e, h, h2, hw, hok, hd, hz⟩, q⟩ => by
    subst e
    refine ⟨_, (pss_cons (ps_set (i := 2) scWholeAhead.nd rfl (.inl rfl) (pe_kp c_term_ahead hr (Nat.le_refl _) (pa_cons (pv 0) (pa_cons (pv 1) (pa_cons pe_int (pa_cons (C8.pe_gc rfl G.MOST_READ) pa_nil))))))
    (pss_one (ps_ret (pe_ifExp (PW.pt (pw_and (pt_cmp (pc_notN (pv 2))) (pw_and1 (pt_cmpR op_eq (pe_ix ix_tup (pv 2) pe_int (fun _ _ => rfl)) (pe_callB call_len rfl B.len (by decide +kernel) (pa_cons (pv 1) pa_nil)) (nomark _))))) (pe_ix ix_tup (pv 2) pe_int (fun _ _ => rfl)) pe_non)))), ?_⟩
    have hw : OkW wd := hw
    have hok : t.ok wd := hok
    have hd : t.deep ≤ 60 := hd
    have hz : t.size ≤ 200 := hz
    have hv2 : v2 = V.str (S t.text) := h2
    subst hv2
    have hnm := Tm.named_ok (fun p hp => (hw.good p hp).1) _ hok
    have hl := text_lt hz (Tm.w8_named _ hnm)
    have hca : CutT.all ([], t, []) = t.text := by unfold CutT.all; simp
    refine st_set (r := rOpt (rPr rTm rNat)) (x := some (t, 0 + t.text.length)) (er_call4 (r := rWds C) (s := rCutT) (t := rNat) (u := rNat) (f := fun q : Wd × CutT × Nat × Nat => some (q.2.1.2.1, q.2.2.1 + q.2.1.2.1.text.length)) (x := wd) (y := ([], t, [])) (c := 0) (d := 121) (er_var (i := 0) rfl h) (er_var (i := 1) rfl (by show V.str (S t.text) = V.str (S (CutT.all ([], t, []))); rw [hca])) (er_toNat (x := 0) er_int) (er_toNat (x := 121) er_int) ⟨hw, hok, rfl, by show t.deep ≤ 121; omega, Nat.le_refl _, (fun c hc => by simp at hc), by show (CutT.all ([], t, [])).length < _; rw [hca]; omega⟩) dm fun v3 H2 e2 hv3 => ?_
    dsimp only
    have p3 := hv3.2
    refine ret_of (K := K) (X := X) (r := rOpt rTm) (x := some t) ?_ (dm.ex e2) fun v' H' e' hv => q v' H' (e2.trans e') hv
    refine er_if (b := true) (Et.is (et_and (a := true) (b := true) (et_B (K := K) (Er.is (er_notN (r := rPr rTm rNat) (er_var (i := 2) rfl hv3)) rfl)) fun _ => et_test (K := K) (Er.is (er_eqI (i := ((0 + t.text.length : Nat) : Int)) (er_snd (r := rTm) (s := rNat) (p := (t, 0 + t.text.length)) (er_var (i := 2) rfl p3) er_int) (er_lenX (x := t.text) (by omega) (er_var (i := 1) rfl rfl))) (decide_eq_true (by omega)))) rfl) (fun _ => er_some (er_fst (r := rTm) (s := rNat) (p := (t, 0 + t.text.length)) (er_var (i := 2) rfl p3) er_int) fun H v => tm_ne H v t) (fun z => nomatch z)
/-! term_in -/
abbrev NTermIn : List Str := ["words", "word", "found"]
theorem scTermIn : FnScope NTermIn ["words", "word"] (defScope sTermIn) := ⟨rfl, rfl, rfl, by decide +kernel, rfl, by decide +kernel, by decide +kernel⟩
theorem ok_termIn (G : Gs mg) (c_whole_ahead : Kp P w K mg base 124 "whole_ahead" ["words", "word"] (spWholeAhead K C)) (c_shape_of : Kp P w K mg base 62 "shape_of" ["words", "value", "deep"] (spShape K C 60)) (D : Dfn K mg "term_in" sTermIn ["words", "word"]) : Kp P w K mg base 125 "term_in" ["words", "word"] (spWholeAhead K C) :=
  D.kp fun f fd F hm b => F.ok scTermIn len2 fun cdv A outer s H vs Q E hr ⟨⟨wd, t⟩, X, dm, ⟨v, v2, e, h, h2, hw, hok, hd, hz⟩, q⟩ => by
    subst e
    refine ⟨_, (pss_cons (ps_set (i := 2) scTermIn.nd rfl (.inl rfl) (pe_kp c_whole_ahead hr (Nat.le_refl _) (pa_cons (pv 0) (pa_cons (pv 1) pa_nil))))
    (pss_one (ps_ret (pe_ifExp (PW.pt (pw_and (pt_cmp (pc_notN (pv 2))) (pw_and1 (pt_cmp (pc_notN (pe_kp c_shape_of hr (by decide) (pa_cons (pv 0) (pa_cons (pv 2) (pa_cons (C8.pe_gc rfl G.MOST_DEEP) pa_nil))))))))) (pv 2) pe_non)))), ?_⟩
    refine st_set (r := rOpt rTm) (x := some t) (er_call2 (r := rWds C) (s := rTmX) (f := fun p : Wd × Tm => some p.2) (x := wd) (y := t) (er_var (i := 0) rfl h) (er_var (i := 1) rfl h2) ⟨hw, hok, hd, hz⟩) dm fun v3 H2 e2 hv3 => ?_
    dsimp only
    have w2 := (inferInstance : Mono (rWds C)).mono (hid_le e2) h
    refine ret_of (K := K) (X := X) (r := rOpt rTm) (x := some t) ?_ (dm.ex e2) fun v' H' e' hv => q v' H' (e2.trans e') hv
    exact er_if (b := true) (Et.is (et_and (a := true) (b := true) (et_B (K := K) (Er.is (er_notN (r := rTm) (er_var (i := 2) rfl hv3)) rfl)) fun _ => et_B (K := K) (Er.is (er_notN (r := rNat) (x := some t.size) (er_call3 (r := rWds C) (s := rTm) (t := rNat) (f := fun p : Wd × Tm × Nat => some p.2.1.size) (x := wd) (y := t) (c := 60) (er_var (i := 0) rfl w2) (er_var (i := 2) rfl hv3.2) (er_toNat (x := 60) er_int) ⟨hok, hd, hz, Nat.le_refl _⟩)) rfl)) rfl) (fun _ => er_var (i := 2) rfl hv3) (fun z => nomatch z)
/-! head_of -/
abbrev NHeadOf : List Str := ["lines", "head", "told"]
theorem scHeadOf : FnScope NHeadOf ["lines", "head"] (defScope sHeadOf) := ⟨rfl, rfl, rfl, by decide +kernel, rfl, by decide +kernel, by decide +kernel⟩
abbrev spHeadOf (K : Frag) : Sp := SpF (A2 (rLst rTx) rTx fun ls hd => ∃ l r r2 rs, ls[0]? = some l ∧ l.length < 1000000 ∧ TL.spl [32] 0 [] l = r :: r2 :: rs ∧ r = hd) K rNon fun _ => ()
theorem ok_headOf (B : Bi mg) (c_words_of : Kp P w K mg base 1 "words_of" ["text"] (spWordsOf K)) (D : Dfn K mg "head_of" sHeadOf ["lines", "head"]) : Kp P w K mg base 2 "head_of" ["lines", "head"] (spHeadOf K) :=
  D.kp fun f fd F hm b => F.ok scHeadOf len2 fun cdv A outer s H vs Q E hr ⟨⟨ls, hd⟩, X, dm, ⟨v, v2, e, h, h2, l, r, r2, rs, hl, hz, hsp, hrd⟩, q⟩ => by
    subst e
    refine ⟨_, (pss_cons (ps_set (i := 2) scHeadOf.nd rfl (.inl rfl) (pe_kp c_words_of hr (by decide) (pa_cons (pe_ix ix_list (pv 0) pe_int (fun _ _ => rfl)) pa_nil)))
    (pss_cons (ps_if (pt_cmpR op_ne (pe_ix ix_list (pv 2) pe_int (fun _ _ => rfl)) (pv 1) (nomark _)) (pss_one ps_never) pss_nil)
    (pss_one (ps_if (pt_cmpR op_eq (pe_callB call_len rfl B.len (by decide +kernel) (pa_cons (pv 2) pa_nil)) pe_int (nomark _)) (pss_one ps_never) pss_nil)))), ?_⟩
    have hrd : r = hd := hrd
    refine st_set (r := rLst rTx) (x := TL.spl [32] 0 [] l) (er_call1 (r := rTx) (f := fun x => TL.spl [32] 0 [] x) (x := l) (er_ixL (i := 0) (er_var (i := 0) rfl h) er_int hl) hz) dm fun v3 H2 e2 hv3 => ?_
    dsimp only
    have dm2 := dm.ex e2
    refine st_skip (X := X) (et_test (K := K) (Er.is (er_neT (i := r) (j := hd) (er_ixL (r := rTx) (xs := TL.spl [32] 0 [] l) (i := 0) (d := r) (er_var (i := 2) rfl hv3) er_int (by rw [hsp]; rfl)) (er_var (i := 1) rfl h2)) (by rw [decide_eq_true hrd]; rfl))) dm2 fun H3 e3 => ?_
    dsimp only
    refine st_skip (X := X) (et_test (K := K) (Er.is (er_eqI (er_lenL (r := rTx) (xs := TL.spl [32] 0 [] l) (er_var (i := 2) rfl ((inferInstance : Mono (rLst rTx)).mono (hid_le e3) hv3))) er_int) (decide_eq_false (by rw [hsp]; simp; omega)))) (dm2.ex e3) fun H4 e4 => ?_
    exact q _ _ ((e2.trans e3).trans e4) rfl
end
end Q
set_option maxHeartbeats 8000000
/-! F18: words_by. -/
namespace Q
open PySem PySem.Spec PyProof.Rows L2
section
variable {P : Program} {w : World} {K : Frag} {mg : Str → Option Value} {base : Heap} {X : Hs} {σ : L2.St} {H : Hp} {te ta tb tl : TE} {C : Addr} {α : Type} {r : Rel α}
theorem er_toDig {n : Nat} (h : Er K X te σ H rTx [48 + n]) : Er K X te σ H rDig n := h
/-- xs[1:] -/
theorem er_drop1 [m : Mono r] {xs : List α} (h : Er K X te σ H (rLst r) xs) (hi : Er K X ta σ H rInt 1) : Er K X (tSl (rSlL K) te (tPart ta) tNoPart) σ H (rLst r) (xs.drop 1) := fun H1 e dm Q k =>
  h H1 e dm _ fun v H2 e2 ⟨a, vs, hv, hs, hp⟩ => hi H2 (e.trans e2) (dm.ex e2) _ fun w H3 e3 hw => ⟨1, hw, a, vs, hv, Evl.ex_l e3 (sql_hid hs), fun p hn => by
    have ec : cutV vs (some 1) none = vs.drop 1 := by
      cases vs with
      | nil => rfl
      | cons x vs => exact cut1 (n := 0) x vs
    rw [ec]
    exact k _ _ ((e2.trans e3).trans (Evl.Ex.new hn)) ⟨p, _, rfl, .inl (.inl (by rw [hid_out (((dm.ex e2).ex e3).new hn), upd_same])), Paired.drop 1 (Paired.mono (fun _ _ z => m.mono (hid_le (Evl.Ex.trans e3 (Evl.Ex.new hn))) z) hp)⟩⟩
/-- n in d, one's own dict -/
theorem er_dinOwn {n : Tx} {d : Addr} {i : Nat} {l : Wd} (h : Er K X ta σ H rTx n) (hs : σ[i]? = some (some (.ref d))) (hd : H d = some (.dK (kvsW l))) : Er K X (tDIn ta (tVar i)) σ H rBl (lk l n).isSome := fun H1 e dm Q k =>
  h H1 e dm _ fun v H2 e2 hv => ⟨.ref d, hs, d, _, rfl, .inl ⟨_, .inr (S n), .inl (e2 _ _ (e _ _ hd)), hv, rfl⟩, by
    rw [valV_W, Option.isSome_map]
    exact k _ H2 e2 rfl⟩
abbrev NWordsBy : List Str := ["line", "at", "first", "places", "told", "spot", "word", "parts", "many"]
theorem scWordsBy : FnScope NWordsBy ["line", "at", "first"] (defScope sWordsBy) := ⟨rfl, rfl, rfl, by decide +kernel, rfl, by decide +kernel, by decide +kernel⟩
/-- a line that tells words: l in its order, wd by names -/
abbrev Ln := Tx × Wd × Wd
def rLine : Rel Ln := fun _ _ v c => v = .str (S c.1)
instance : Mono rLine := ⟨fun _ h => h⟩
structure OkLine (c : Ln) : Prop where
  spl : ∃ hd, TL.spl [32] 0 [] c.1 = hd :: c.2.1.map wordT
  len : c.1.length < 1000000
  ok : OkWd c.2.1 c.2.2
abbrev spWordsBy (K : Frag) (C : Addr) : Sp := SpF (A3 rLine rInt rInt fun c _ f => OkLine c ∧ f = 1) K (rWds C) fun p => p.1.2.2
theorem no47 {x : Tx} (h : ∀ c ∈ x, c ∈ lettersL) : 47 ∉ x := fun z => absurd (h 47 z) (by decide)
theorem wordT_spl {p : Tx × Nat} (h : isName p.1 = true ∧ p.2 ≤ 3) : TL.spl [47] 0 [] (wordT p) = [p.1, numTx p.2] := by
  have e : wordT p = TL.joinL [47] [p.1, numTx p.2] := rfl
  rw [e]
  refine SX.spl_join (by simp) fun x hx => ?_
  simp at hx
  rcases hx with rfl | rfl
  · exact no47 (isName_letters h.1)
  · rw [num_le h.2]
    intro z
    have : 47 = 48 + p.2 := by simpa using z
    omega
theorem ok_wordsBy (B : Bi mg) (G : Gs mg) (T : OwnW K mg C) (M : MkC K C) (c_words_of : Kp P w K mg base 1 "words_of" ["text"] (spWordsOf K)) (c_number_in : Kp P w K mg base 1 "number_in" ["word"] (spNumberIn K)) (c_is_name : Kp P w K mg base 1 "is_name" ["value"] (spIsName K))
    (m_init : KpM P w K mg base 3 C "__init__" ["self", "places"] (spWordsInit K C)) (D : Dfn K mg "words_by" sWordsBy ["line", "at", "first"]) : Kp P w K mg base 5 "words_by" ["line", "at", "first"] (spWordsBy K C) :=
  D.kp fun f fd F hm b => F.ok scWordsBy len3 fun cdv A outer s H vs Q E hr ⟨⟨⟨line, l, wd⟩, at_, first⟩, X, dm, ⟨v, v2, v3, e, h, h2, h3, okl, hf⟩, q⟩ => by
    subst e
    refine ⟨_, (pss_cons (ps_par (i := 3) (j := 4) (by rfl) scWordsBy.nd rfl rfl (by decide) rfl rfl (pa_cons pe_dnewK (pa_cons (pe_slice sl_list (pe_kp c_words_of hr (by decide) (pa_cons (pv 0) pa_nil)) (po_some (pv 2)) po_none) pa_nil)) (by rfl))
    (pss_cons (ps_for PassesOwn.never rfl (pi_enum (by rfl) B.enumerate (pa_cons (pv 4) pa_nil)) (pg_tup rfl (pgs_cons (pg_name (i := 5) scWordsBy.nd rfl (.inl rfl)) (pgs_cons (pg_name (i := 6) scWordsBy.nd rfl (.inl rfl)) pgs_nil))) (pss_cons (ps_set (i := 7) scWordsBy.nd rfl (.inl rfl) (pe_split (pv 6) pe_str))
    (pss_cons (ps_set (i := 8) scWordsBy.nd rfl (.inl rfl) (pe_ifExp (pt_cmpR op_eq (pe_callB call_len rfl B.len (by decide +kernel) (pa_cons (pv 7) pa_nil)) pe_int (nomark _)) (pe_kp c_number_in hr (by decide) (pa_cons (pe_ix ix_list (pv 7) pe_int (fun _ _ => rfl)) pa_nil)) pe_non))
    (pss_cons (ps_if (PW.pt (pw_or (pt_cmp (pc_isN (pv 8))) (pw_or (pt_cmpR op_gt (pv 8) pe_int (nomark _)) (pw_or (pt_not (pt_val (pe_kp c_is_name hr (by decide) (pa_cons (pe_ix ix_list (pv 7) pe_int (fun _ _ => rfl)) pa_nil)))) (pw_or1 (pt_cmp (pc_din (hu_of hr) (pe_ix ix_list (pv 7) pe_int (fun _ _ => rfl)) (pv 3)) rfl)))))) (pss_one ps_never) pss_nil)
    (pss_one (ps_dput (hu_of hr) (pv 3) (pe_ix ix_list (pv 7) pe_int (fun _ _ => rfl)) (pv 8) rfl))))))
    (pss_one (ps_ret (pe_mkK m_init M T.mgC hr (by decide) (pa_cons (pv 3) pa_nil))))))
, ?_⟩
    have hf : first = 1 := hf
    have hv : v = V.str (S line) := h
    have hv3 : v3 = V.int first := h3
    subst hf hv hv3
    obtain ⟨hd0, hspl⟩ := okl.spl
    have hspl : TL.spl [32] 0 [] line = hd0 :: l.map wordT := hspl
    have hzl : line.length < 1000000 := okl.len
    have ok : OkWd l wd := okl.ok
    refine fun d nd => ?_
    have dm1 : Dm X (upd H d (.dK [])) := dm.ex (Evl.Ex.new nd)
    refine (er_drop1 (K := K) (X := X) (r := rTx) (xs := TL.spl [32] 0 [] line) (er_call1 (r := rTx) (f := fun x => TL.spl [32] 0 [] x) (x := line) (er_var (i := 0) rfl rfl) hzl) (er_var (i := 2) rfl rfl)).go dm1 fun lv H1 e1 hlv => ⟨_, _, rfl, ?_⟩
    rw [hspl] at hlv
    have hlv : rLst rTx K (hid X H1) lv (l.map wordT) := hlv
    have g1 := e1 _ _ (upd_same (H := H) (a := d) (o := .dK []))
    have E1 : Ex H H1 := Evl.Ex.trans (Evl.Ex.new nd) e1
    have eY : Ex (hid X H1) (hid (X.and d) H1) ∨ True := .inr trivial
    have hXd : X d = false := dm.new nd
    have dmY : Dm (X.and d) H1 := (dm.ex E1).and (by rw [g1]; exact fun z => nomatch z)
    have hlY : rLst rTx K (hid (X.and d) H1) lv (l.map wordT) := by
      obtain ⟨a, vs, ea, hs, hp⟩ := hlv
      refine ⟨a, vs, ea, ?_, Paired.mono (fun _ _ z => z) hp⟩
      rcases hs with (hs | ⟨o, hs⟩) | hs
      · refine .inl (.inl (hid_some.mpr ⟨?_, hid_get _ _ hs⟩))
        have hne : a ≠ d := fun z => by rw [z] at hs; have := hid_get _ _ hs; rw [g1] at this; cases this
        rw [Hs.and_ne hne]; exact (hid_some.mp hs).1
      · refine .inl (.inr ⟨o, hid_some.mpr ⟨?_, hid_get _ _ hs⟩⟩)
        have hne : a ≠ d := fun z => by rw [z] at hs; have := hid_get _ _ hs; rw [g1] at this; cases this
        rw [Hs.and_ne hne]; exact (hid_some.mp hs).1
      · exact .inr hs
    dsimp only
    refine sq ?_
    have hlm : (l.map wordT).length = l.length := List.length_map ..
    refine st_forX (K := K) (X := X.and d) (r := rPr rInt rTx) (xs := ((List.range (l.map wordT).length).map fun j => ((j : Nat) : Int)).zip (l.map wordT)) (fun B k σ' H' => (∃ a1 a2 a3 a4, σ' = [some (.str (S line)), some v2, some (.int 1), some (.ref d), some lv, a1, a2, a3, a4]) ∧ Off d B H' ∧ H' d = some (.dK (kvsW (l.take k))))
      (eix_enum (er_var (i := 4) rfl hlY)) dmY (fun B eB => ⟨⟨_, _, _, _, rfl⟩, fun _ _ _ h => h, eB _ _ g1⟩) (fun B k σ' H' _ hP => hid_off hP.2.1 (Hs.and_at _ _)) ?_ ?_
    · rintro Bh k x σ' H' eB hx ⟨⟨a1, a2, a3, a4, rfl⟩, off, go⟩ vv H2 e2 hvv
      obtain ⟨z, tx⟩ := x
      rw [List.getElem?_zip_eq_some, List.getElem?_map (f := wordT)] at hx
      obtain ⟨p, hp, htx⟩ : ∃ p, l[k]? = some p ∧ wordT p = tx := by
        cases hl : l[k]? with
        | none => rw [hl] at hx; cases hx.2
        | some p => rw [hl] at hx; exact ⟨p, rfl, Option.some.inj hx.2⟩
      have htx : tx = wordT p := htx.symm
      subst htx
      have hmem := List.mem_of_getElem? hp
      have hg := ok.good p hmem
      have dB := dmY.ex eB
      have dm' := dB.off' off (by rw [go]; exact fun z => nomatch z)
      have hv' := hvv _ (Evl.Ex.trans (hid_off off (Hs.and_at _ _)) (hid_ex e2)) dm'
      refine eg_pr (K := K) (r := rInt) (s := rTx) (x := z) (y := wordT p) _ vv H2 hv' _ fun σ2 ⟨v1, v5, eσ, _, hw1⟩ => ?_
      subst eσ
      have dm2 := dm'.ex e2
      refine sq (st_set (K := K) (X := X.and d) (r := rLst rTx) (x := [p.1, numTx p.2]) (Er.is (er_split (sep := [47]) (er_var (i := 6) rfl hw1) (er_tx (by decide +kernel)) (by decide) (by decide) (by have := wordT_len hg; omega)) (wordT_spl hg)) dm2 fun v6 H3 e3 hv6 => ?_)
      have dm3 := dm2.ex e3
      dsimp only
      have hnum : numTx p.2 = [48 + p.2] := num_le hg.2
      refine sq (st_set (K := K) (X := X.and d) (r := rOpt rNat) (x := some p.2) (er_if (b := true) (et_test (er_eqI (K := K) (i := 2) (j := 2) (er_lenL (r := rTx) (xs := [p.1, numTx p.2]) (er_var (i := 7) rfl hv6)) er_int)) (fun _ => er_call1 (r := rDig) (f := some) (x := p.2) (er_toDig (Er.is (er_ixL (r := rTx) (xs := [p.1, numTx p.2]) (i := 1) (d := numTx p.2) (er_var (i := 7) rfl hv6) er_int rfl) hnum)) hg.2) (fun z => nomatch z)) dm3 fun v7 H4 e4 hv7 => ?_)
      have dm4 := dm3.ex e4
      have h64 := (inferInstance : Mono (rLst rTx)).mono (hid_le e4) hv6
      have hv7' : v7 = V.int (p.2 : Nat) := hv7.2
      have g4 : H4 d = some (.dK (kvsW (l.take k))) := e4 _ _ (e3 _ _ (e2 _ _ go))
      have htk : l.take (k + 1) = l.take k ++ [p] := by rw [List.take_add_one, hp]; rfl
      have hno : lk (l.take k) p.1 = none := by
        refine lk_none fun hm => ?_
        have hn := ok.nd
        have e7 : l.map Prod.fst = (l.take k).map Prod.fst ++ ([p].map Prod.fst ++ (l.drop (k + 1)).map Prod.fst) := by
          rw [← List.map_append, ← List.map_append, ← List.append_assoc, ← htk, List.take_append_drop]
        rw [e7] at hn
        exact (List.nodup_append.mp hn).2.2 p.1 hm p.1 (List.mem_append_left _ (List.mem_singleton.mpr rfl)) rfl
      dsimp only
      refine st_skip (X := X.and d) (et_or (a := false) (b := false) (et_B (K := K) (Er.is (er_isN (r := rNat) (x := some p.2) (er_var (i := 8) rfl hv7)) rfl)) fun _ => et_or (a := false) (b := false) (et_test (K := K) (Er.is (er_cmp0 (g := fun i j => decide (j < i)) (i := (p.2 : Int)) (j := 3) (er_var (i := 8) rfl hv7.2) er_int) (decide_eq_false (by have := hg.2; omega)))) fun _ => et_or (a := false) (b := false) (et_not (a := true) (et_B (K := K) (Er.is (er_call1 (r := rTx) (f := isName) (x := p.1) (er_ixL (r := rTx) (xs := [p.1, numTx p.2]) (i := 0) (d := p.1) (er_var (i := 7) rfl h64) er_int rfl) (isName_len hg.1)) hg.1))) fun _ => et_B (K := K) (Er.is (er_dinOwn (i := 3) (er_ixL (r := rTx) (xs := [p.1, numTx p.2]) (i := 0) (d := p.1) (er_var (i := 7) rfl h64) er_int rfl) rfl g4) (by rw [hno]; rfl))) dm4 fun H5 e5 => ?_
      have h65 := (inferInstance : Mono (rLst rTx)).mono (hid_le e5) h64
      dsimp only
      refine ⟨v7, rfl, .ref d, rfl, ?_⟩
      refine (er_ixL (K := K) (X := X.and d) (r := rTx) (xs := [p.1, numTx p.2]) (i := 0) (d := p.1) (er_var (i := 7) rfl h65) er_int rfl).go (dm4.ex e5) fun v8 H6 e6 hv8 => ?_
      have g6 := e6 _ _ (e5 _ _ g4)
      refine ⟨d, _, rfl, .inl ⟨_, .inr (S p.1), g6, hv8, ?_, rfl⟩, ?_⟩
      · rw [kvsW, List.length_map, List.length_take]
        have := ok.few
        exact size_lt (by omega)
      · refine ⟨⟨_, _, _, _, rfl⟩, fun b o hb q' => ?_, ?_⟩
        · rw [upd_ne hb]
          exact e6 _ _ (e5 _ _ (e4 _ _ (e3 _ _ (e2 _ _ (off b o hb q')))))
        · rw [upd_same, putK_new _ (by rw [valV_W, hno]; rfl), htk, kvsW, kvsW, List.map_append, hv7']
          rfl
    · rintro Bh σ' H2 eB ⟨⟨a1, a2, a3, a4, rfl⟩, off, go⟩
      have hxl : (((List.range (l.map wordT).length).map fun j => ((j : Nat) : Int)).zip (l.map wordT)).length = l.length := by rw [List.length_zip, List.length_map, List.length_range, Nat.min_self, hlm]
      rw [hxl, List.take_length] at go
      have E2 : Ex H H2 := fun b o q' => off b o (ne_of_none q' nd) (eB _ _ (E1 _ _ q'))
      exact ret_of (K := K) (X := X) (r := rWds C) (x := wd) (er_mkWords (i := 3) rfl go hXd ok) (dm.ex E2) fun v' H' e' hv => q v' H' (E2.trans e') hv
end
end Q
set_option maxHeartbeats 8000000
/-! F19: answer_by. -/
namespace Q
open PySem PySem.Spec PyProof.Rows L2
/-! the signs of a text -/
def tsign (c : Nat) : Prop := c ∈ lettersL ∨ c = 40 ∨ c = 41 ∨ c = 44
theorem join_mem {sep : Tx} {c : Nat} : ∀ {l : List Tx}, c ∈ TL.joinL sep l → c ∈ sep ∨ ∃ x ∈ l, c ∈ x
  | [], h => by simp [TL.joinL] at h
  | [p], h => .inr ⟨p, List.mem_cons_self, by simpa [TL.joinL] using h⟩
  | p :: q :: r, h => by
    unfold TL.joinL at h
    rcases List.mem_append.mp h with h | h
    · exact .inr ⟨p, List.mem_cons_self, h⟩
    · rcases List.mem_append.mp h with h | h
      · exact .inl h
      · rcases join_mem (l := q :: r) h with h | ⟨x, hx, h⟩
        · exact .inl h
        · exact .inr ⟨x, List.mem_cons_of_mem _ hx, h⟩
mutual
theorem text_signs : ∀ t : Tm, t.named → ∀ c ∈ t.text, tsign c
  | .nd w ps, h, c, hc => by
    unfold Tm.named at h
    unfold Tm.text at hc
    by_cases e : TL.joinL [44] (Tm.texts ps) = []
    · rw [if_pos e] at hc
      exact .inl (isName_letters h.1 c hc)
    · rw [if_neg e] at hc
      rcases List.mem_append.mp hc with hc | hc
      · exact .inl (isName_letters h.1 c hc)
      · rcases List.mem_cons.mp hc with rfl | hc
        · exact .inr (.inl rfl)
        · rcases List.mem_append.mp hc with hc | hc
          · rcases join_mem hc with hc | ⟨x, hx, hc⟩
            · exact .inr (.inr (.inr (by simpa using hc)))
            · exact texts_signs ps h.2 x hx c hc
          · exact .inr (.inr (.inl (by simpa using hc)))
theorem texts_signs : ∀ ps : List Tm, Tm.nameds ps → ∀ x ∈ Tm.texts ps, ∀ c ∈ x, tsign c
  | [], _, x, hx, _, _ => by unfold Tm.texts at hx; exact nomatch hx
  | p :: ps, h, x, hx, c, hc => by
    unfold Tm.nameds at h
    unfold Tm.texts at hx
    rcases List.mem_cons.mp hx with e | hx
    · rw [e] at hc; exact text_signs p h.1 c hc
    · exact texts_signs ps h.2 x hx c hc
end
theorem tsign_ne {c : Nat} (h : tsign c) : c ≠ 32 ∧ c ≠ 10 := by
  rcases h with h | h | h | h
  · have : ∀ c ∈ lettersL, c ≠ 32 ∧ c ≠ 10 := by decide
    exact this c h
  · omega
  · omega
  · omega
theorem answer_spl {p : Tm × Bool} (h : p.1.named) : TL.spl [32] 0 [] (answerT p) = [if p.2 then yesL else noL, p.1.text] := by
  have e : answerT p = TL.joinL [32] [if p.2 then yesL else noL, p.1.text] := rfl
  rw [e]
  refine SX.spl_join (by simp) fun x hx => ?_
  simp only [List.mem_cons, List.not_mem_nil, or_false] at hx
  rcases hx with rfl | rfl
  · cases p.2 <;> decide
  · exact fun z => (tsign_ne (text_signs _ h _ z)).1 rfl
/-! ### answer_by -/
/-- the dict ANSWERS of the module -/
structure Ans (K : Frag) (w : World) (mg : Str → Option Value) : Prop where
  ex : ∃ d es n, mg "ANSWERS" = some (.ref d) ∧ KDict K w d es n ∧ PySem.W.nsIn K d "yes" = some (some (.bool true)) ∧ PySem.W.nsIn K d "no" = some (some (.bool false))
section
variable {P : Program} {w : World} {K : Frag} {mg : Str → Option Value} {base : Heap} {X : Hs} {σ : L2.St} {H : Hp} {te ta tb tl : TE} {C Cb : Addr}
abbrev NAnswerBy : List Str := ["words", "line", "at", "told", "parts", "term"]
theorem scAnswerBy : FnScope NAnswerBy ["words", "line", "at", "told"] (defScope sAnswerBy) := ⟨rfl, rfl, rfl, by decide +kernel, rfl, by decide +kernel, by decide +kernel⟩
def spAnswerBy (K : Frag) (C Cb : Addr) : Sp := fun vs H Q _ => ∃ wv lv av bk d wd p l X, vs = [wv, lv, av, .ref bk] ∧ lv = .str (S (answerT p)) ∧ isBk K Cb X H bk d l ∧ lkE l p.1 = none ∧ Dm X H ∧ rWds C K (hid X H) wv wd ∧ OkW wd ∧ p.1.ok wd ∧ p.1.deep ≤ 60 ∧ p.1.size ≤ 200 ∧
  ∀ v H', Ex H H' → rPr rTm rBl K (hid X H') v p → Q v H'
theorem er_has {b d : Addr} {l : Bk} {t : Tm} {i : Nat} {E : XK} (hs : σ[i]? = some (some (.ref b))) (hb : isBk K Cb X H b d l) (h1 : Er K X ta σ H rTm t) (hz : t.size ≤ bigT) : Er K X (tMeth Cb "has" (spHas K Cb) [] E (tVar i) (tCons ta tNil)) σ H rBl (lkE l t).isSome := fun H1 e dm Q k => by
  obtain ⟨dx, kvs, g1, g2, g3⟩ := hb.ex e
  exact ⟨.ref b, hs, b, dx, _, rfl, g1, rfl, h1 H1 e dm _ fun u H2 e2 hu => ⟨b, d, l, t, X, u, rfl, hb.ex (e.trans e2), dm.ex e2, hu, hz, fun H4 e4 => k _ H4 (e2.trans e4) rfl⟩⟩
theorem ok_answerBy (B : Bi mg) (An : Ans K w mg) (c_words_of : Kp P w K mg base 1 "words_of" ["text"] (spWordsOf K)) (c_term_in : Kp P w K mg base 125 "term_in" ["words", "word"] (spWholeAhead K C)) (m_has : KpM P w K mg base 2 Cb "has" ["self", "term"] (spHas K Cb))
    (D : Dfn K mg "answer_by" sAnswerBy ["words", "line", "at", "told"]) : Kp P w K mg base 126 "answer_by" ["words", "line", "at", "told"] (spAnswerBy K C Cb) :=
  D.kp fun f fd F hm b => F.ok scAnswerBy (fun vs H Q E ⟨wv, lv, av, bk, d, wd, p, l, X, e, _⟩ => by rw [e]; rfl) fun cdv A outer s H vs Q E hr ⟨wv, lv, av, bk, d, wd, p, l, X, e, hlv, hb, hno, dm, hwv, hw, hok, hd, hz, q⟩ => by
    subst e hlv
    obtain ⟨da, es, n, hma, kd, hy, hn⟩ := An.ex
    refine ⟨_, (pss_cons (ps_set (i := 4) scAnswerBy.nd rfl (.inl rfl) (pe_kp c_words_of hr (by decide) (pa_cons (pv 1) pa_nil)))
    (pss_cons (ps_if (pt_cmpR (op_notIn_kd kd) (pe_ix ix_list (pv 4) pe_int (fun _ _ => rfl)) (C8.pe_gc (v := .ref da) rfl ⟨_, hma, rfl⟩) rfl) (pss_one ps_never) pss_nil)
    (pss_cons (ps_set (i := 5) scAnswerBy.nd rfl (.inl rfl) (pe_ifExp (pt_cmpR op_gt (pe_callB call_len rfl B.len (by decide +kernel) (pa_cons (pv 4) pa_nil)) pe_int (nomark _)) (pe_kp c_term_in hr (by decide) (pa_cons (pv 0) (pa_cons (pe_ix ix_list (pv 4) pe_int (fun _ _ => rfl)) pa_nil))) pe_non))
    (pss_cons (ps_if (PW.pt (pw_or (pt_cmp (pc_isN (pv 5))) (pw_or1 (pt_val (pe_km m_has hr (by decide) (pv 3) (pa_cons (pv 5) pa_nil)))))) (pss_one ps_never) pss_nil)
    (pss_cons (ps_if (pt_cmpR op_gt (pe_callB call_len rfl B.len (by decide +kernel) (pa_cons (pv 4) pa_nil)) pe_int (nomark _)) (pss_one ps_never) pss_nil)
    (pss_one (ps_ret (pe_tup (pa_cons (pv 5) (pa_cons (pe_ix ix_kdict (C8.pe_gc (v := .ref da) rfl ⟨_, hma, rfl⟩) (pe_ix ix_list (pv 4) pe_int (fun _ _ => rfl)) (fun _ _ => rfl)) pa_nil)))))))))), ?_⟩
    have hb0 := hb
    have hnm := Tm.named_ok (fun p hp => (hw.good p hp).1) _ hok
    have hw8 := Tm.w8_named _ hnm
    have hal := answer_len (p := p) ⟨hz, hw8⟩
    have hsp := answer_spl (p := p) hnm
    generalize hyn : (if p.2 = true then yesL else noL) = yn at hsp
    have hns : PySem.W.nsIn K da (S yn) = some (some (.bool p.2)) := by
      rw [← hyn]
      cases p.2 with
      | true => exact (show ("yes" : Str) = S yesL by decide +kernel) ▸ hy
      | false => exact (show ("no" : Str) = S noL by decide +kernel) ▸ hn
    refine st_set (r := rLst rTx) (x := [yn, p.1.text]) (Er.is (er_call1 (r := rTx) (f := fun x => TL.spl [32] 0 [] x) (x := answerT p) (er_var (i := 1) rfl rfl) (by show (answerT p).length < _; omega)) hsp) dm fun v4 H2 e2 hv4 => ?_
    have dm2 := dm.ex e2
    have w2 := (inferInstance : Mono (rWds C)).mono (hid_le e2) hwv
    dsimp only
    refine st_skip (X := X) (et_test (K := K) (er_two (r := rTx) (s := rIs) (q := rBl) (x := yn) (y := .ref da) (er_ixL (r := rTx) (xs := [yn, p.1.text]) (i := 0) (d := yn) (er_var (i := 4) rfl hv4) er_int rfl) (fun H1 _ _ Q k => k _ H1 (Evl.Ex.refl H1) rfl) fun v w H1 _ _ hv hw' Q k => ⟨S yn, some (.bool p.2), hv, hw', hns, k _ H1 (Evl.Ex.refl _) rfl⟩)) dm2 fun H3 e3 => ?_
    have dm3 := dm2.ex e3
    have w3 := (inferInstance : Mono (rWds C)).mono (hid_le e3) w2
    have p3 := (inferInstance : Mono (rLst rTx)).mono (hid_le e3) hv4
    dsimp only
    refine sq (st_set (K := K) (X := X) (r := rOpt rTm) (x := some p.1) (er_if (b := true) (et_test (K := K) (Er.is (er_cmp0 (g := fun i j => decide (j < i)) (i := 2) (j := 1) (er_lenL (r := rTx) (xs := [yn, p.1.text]) (er_var (i := 4) rfl p3)) er_int) rfl)) (fun _ => er_call2 (r := rWds C) (s := rTmX) (f := fun p : Wd × Tm => some p.2) (x := wd) (y := p.1) (er_var (i := 0) rfl w3) (er_ixL (r := rTx) (xs := [yn, p.1.text]) (i := 1) (d := p.1.text) (er_var (i := 4) rfl p3) er_int rfl) ⟨hw, hok, hd, hz⟩) (fun z => nomatch z)) dm3 fun v5 H4 e4 hv5 => ?_)
    have dm4 := dm3.ex e4
    have b4 := hb.ex ((e2.trans e3).trans e4)
    have p4 := (inferInstance : Mono (rLst rTx)).mono (hid_le e4) p3
    dsimp only
    refine st_skip (X := X) (et_or (a := false) (b := false) (et_B (K := K) (Er.is (er_isN (r := rTm) (er_var (i := 5) rfl hv5)) rfl)) fun _ => et_B (K := K) (Er.is (er_has (i := 3) rfl b4 (er_var (i := 5) rfl hv5.2) (Nat.le_trans hz (by decide))) (by rw [hno]; rfl))) dm4 fun H5 e5 => ?_
    have dm5 := dm4.ex e5
    have p5 := (inferInstance : Mono (rLst rTx)).mono (hid_le e5) p4
    dsimp only
    refine st_skip (X := X) (et_test (K := K) (Er.is (er_cmp0 (g := fun i j => decide (j < i)) (i := 2) (j := 2) (er_lenL (r := rTx) (xs := [yn, p.1.text]) (er_var (i := 4) rfl p5)) er_int) rfl)) dm5 fun H6 e6 => ?_
    have p6 := (inferInstance : Mono (rLst rTx)).mono (hid_le e6) p5
    have t6 := rTm_mono (hid_le (e5.trans e6)) hv5.2
    dsimp only
    exact ret_of (K := K) (X := X) (r := rPr rTm rBl) (x := p) (er_pr (er_var (i := 5) rfl t6) (er_two (r := rIs) (s := rTx) (q := rBl) (x := .ref da) (y := yn) (fun H1 _ _ Q k => k _ H1 (Evl.Ex.refl H1) rfl) (er_ixL (r := rTx) (xs := [yn, p.1.text]) (i := 0) (d := yn) (er_var (i := 4) rfl p6) er_int rfl) fun v w H1 _ _ hv hw' Q k => ⟨da, S yn, .bl p.2, hv, hw', ⟨es, n, .bool p.2, kd.at_, kd.lit, hns, rfl⟩, k _ H1 (Evl.Ex.refl _) rfl⟩)) (dm5.ex e6) fun v' H' e' hv => q v' H' (((((e2.trans e3).trans e4).trans e5).trans e6).trans e') hv
end
end Q
set_option maxHeartbeats 8000000
/-! F20: read_lot. -/
namespace Q
open PySem PySem.Spec PyProof.Rows L2
section
variable {P : Program} {w : World} {K : Frag} {mg : Str → Option Value} {base : Heap} {X : Hs} {σ : L2.St} {H : Hp} {te ta tb tl : TE} {C Cw Cb : Addr}
theorem er_pairsBk {b d : Addr} {l : Bk} {i : Nat} {E : XK} (hs : σ[i]? = some (some (.ref b))) (hb : isBk K Cb X H b d l) (hn : ndB l) (hz : l.length < 1000) : Er K X (tMeth Cb "pairs" (spPairs K Cb) [] E (tVar i) tNil) σ H (rLst (rPr rTm rBl)) l := fun H1 e dm Q k => by
  obtain ⟨dx, kvs, g1, g2, g3⟩ := hb.ex e
  exact ⟨.ref b, hs, b, dx, _, rfl, g1, rfl, b, d, l, X, rfl, hb.ex e, dm, hn, hz, fun v H2 e2 hv => k v H2 e2 hv⟩
/-- Lot(words, answers) -/
theorem er_mkLot {wd : Wd} {l : Bk} {E : XK} (h1 : Er K X ta σ H (rWds Cw) wd) (h2 : Er K X tb σ H (rLst (rPr rTm rBl)) l) (ok : OkLot wd l) : Er K X (tMake C (spLotInit K Cw C) [] E (tCons ta (tCons tb tNil))) σ H (rLot Cw C) (wd, rowsB l) := fun H1 e dm Q k =>
  h1 H1 e dm _ fun wv H2 e2 hw => h2 H2 (e.trans e2) (dm.ex e2) _ fun lv H3 e3 hl x dx nx nd ne => by
    have dm3 := (dm.ex e2).ex e3
    have mW := (inferInstance : Mono (rWds Cw))
    have hx : X x = false := dm3.new nx
    have eN : Ex (hid X H3) (hid (X.and x) (upd (upd H3 dx (.own x)) x (.ins C dx []))) := fun b o q => by
      obtain ⟨g1, g2⟩ := hid_some.mp q
      have n1 : b ≠ x := ne_of_none g2 nx
      have n2 : b ≠ dx := ne_of_none g2 nd
      exact hid_some.mpr ⟨by rw [Hs.and_ne n1]; exact g1, by rw [upd_ne n1, upd_ne n2]; exact g2⟩
    have hw3 := mW.mono (hid_le e3) hw
    refine ⟨x, dx, wv, lv, wd, l, X.and x, rfl, upd_same, Hs.and_at _ _, Dm.and dm3.upd'.upd' (by rw [upd_same]; exact fun z => nomatch z), mW.mono eN.le hw3, (inferInstance : Mono (rLst (rPr rTm rBl))).mono eN.le hl, ok, fun tv rv bv H' off g1 g2 => ⟨rfl, ?_⟩⟩
    have eM := ex_make nx nd off
    exact k _ _ ((e2.trans e3).trans eM) ⟨x, dx, wv, tv, rv, bv, rfl, by rw [hid_out hx]; exact g1, mW.mono (hid_le eM) hw3, (inferInstance : Mono (rTup (rPr rTm rBl))).mono hid_sub.le g2⟩
theorem eix_range2 {n : Nat} (hn : (n : Int) < 2 ^ 61) (h1 : Er K X ta σ H rInt 1) (h2 : Er K X tb σ H rInt ((n : Int) + 1)) : EiX K X (iRng2 (tCons ta (tCons tb tNil))) σ H rInt ((List.range n).map fun j => ((j : Nat) : Int) + 1) := fun H1 e dm R q =>
  h1 H1 e dm _ fun v H2 e2 hv => h2 H2 (e.trans e2) (dm.ex e2) _ fun w H3 e3 hw => ⟨1, (n : Int) + 1, by rw [show v = V.int 1 from hv, show w = V.int ((n : Int) + 1) from hw], ⟨by omega, by omega, by omega, by omega⟩, q (Itr 1 ((n : Int) + 1 - 1).toNat) H3 (fun _ => True) (fun i H x H' => i < n ∧ H' = H ∧ x = .int (1 + i)) (e2.trans e3)
    (by
      rw [List.length_map, List.length_range, show ((n : Int) + 1 - 1).toNat = n by omega]
      exact ⟨fun _ _ hi _ => hi, fun _ _ => Nat.le_refl _, fun i H x H' hi _ y => ⟨hi, y⟩⟩) (fun _ _ => trivial) fun i H3 x H4 e3 ⟨hi, e4, ex⟩ => by
    subst e4
    refine ⟨Evl.Ex.refl _, ((i : Nat) : Int) + 1, by rw [List.getElem?_map, List.getElem?_range hi]; rfl, fun _ _ _ => ?_⟩
    rw [ex]
    show V.int _ = V.int _
    rw [Int.add_comm]⟩
/-- a page of a lot, line by line -/
structure OkDoc (x L0 : Tx) (lw wd : Wd) (l : Bk) : Prop where
  spl : TL.spl [10] 0 [] x = L0 :: l.map answerT
  line : TL.spl [32] 0 [] L0 = [119, 111, 114, 100, 115] :: lw.map wordT
  len : x.length < 1000000
  len0 : L0.length < 1000000
  words : OkWd lw wd
  lot : OkLot wd l
  few : l.length < 100
abbrev Dc := Tx × Tx × Wd × Wd × Bk
def rDoc : Rel Dc := fun _ _ v c => v = .str (S c.1)
instance : Mono rDoc := ⟨fun _ h => h⟩
abbrev spReadLot (K : Frag) (Cw C : Addr) : Sp := SpF (A1 rDoc fun c => OkDoc c.1 c.2.1 c.2.2.1 c.2.2.2.1 c.2.2.2.2) K (rLot Cw C) fun c => (c.2.2.2.1, rowsB c.2.2.2.2)
theorem OkWd.okW {l wd : Wd} (h : OkWd l wd) : OkW wd := ⟨by rw [h.perm.length_eq]; exact h.few, (h.perm.map _).nodup_iff.mpr h.nd, fun p hp => h.good p (h.perm.mem_iff.mp hp)⟩
abbrev NReadLot : List Str := ["text", "lines", "told", "words", "at", "term", "answer"]
theorem scReadLot : FnScope NReadLot ["text"] (defScope sReadLot) := ⟨rfl, rfl, rfl, by decide +kernel, rfl, by decide +kernel, by decide +kernel⟩
theorem ok_readLot (B : Bi mg) (Tb : OwnB K mg Cb) (Tl : OwnL K mg C) (Mb : MkC K Cb) (Ml : MkC K C) {t0 : Addr} (ht0 : ∀ Hx, SqT K Hx t0 []) (c_need_text : Kp P w K mg base 1 "need_text" ["value"] (spNeedText K)) (m_init : KpMD P w K mg base 1 Cb "__init__" ["self", "rows"] [.ref t0] (spBookInit K Cb))
    (c_head_of : Kp P w K mg base 2 "head_of" ["lines", "head"] (spHeadOf K)) (c_words_by : Kp P w K mg base 5 "words_by" ["line", "at", "first"] (spWordsBy K Cw)) (c_answer_by : Kp P w K mg base 126 "answer_by" ["words", "line", "at", "told"] (spAnswerBy K Cw Cb))
    (m_put : KpM P w K mg base 2 Cb "put" ["self", "term", "value"] (spPut K Cb)) (m_pairs : KpM P w K mg base 1 Cb "pairs" ["self"] (spPairs K Cb)) (l_init : KpM P w K mg base 64 C "__init__" ["self", "words", "answers"] (spLotInit K Cw C))
    (D : Dfn K mg "read_lot" sReadLot ["text"]) : Kp P w K mg base 127 "read_lot" ["text"] (spReadLot K Cw C) :=
  D.kp fun f fd F hm b => F.ok scReadLot len1 fun cdv A outer s H vs Q E hr ⟨⟨x, L0, lw, wd, l⟩, X, dm, ⟨v, e, h, ok⟩, q⟩ => by
    subst e
    refine ⟨_, (pss_cons (ps_expr (pe_kp c_need_text hr (by decide) (pa_cons (pv 0) pa_nil)))
    (pss_cons (ps_par (i := 1) (j := 2) (by rfl) scReadLot.nd rfl rfl (by decide) rfl rfl (pa_cons (pe_split (pv 0) pe_str) (pa_cons (pe_mkD0 m_init Mb Tb.mgC hr (by decide)) pa_nil)) (by rfl))
    (pss_cons (ps_expr (pe_kp c_head_of hr (by decide) (pa_cons (pv 1) (pa_cons pe_str pa_nil))))
    (pss_cons (ps_set (i := 3) scReadLot.nd rfl (.inl rfl) (pe_kp c_words_by hr (by decide) (pa_cons (pe_ix ix_list (pv 1) pe_int (fun _ _ => rfl)) (pa_cons pe_int (pa_cons pe_int pa_nil)))))
    (pss_cons (ps_for PassesOwn.never rfl (pi_range2 (by rfl) B.range (pa_cons pe_int (pa_cons (pe_callB call_len rfl B.len (by decide +kernel) (pa_cons (pv 1) pa_nil)) pa_nil))) (pg_name (i := 4) scReadLot.nd rfl (.inl rfl)) (pss_cons (ps_asg (pe_kp c_answer_by hr (Nat.le_refl _) (pa_cons (pv 3) (pa_cons (pe_ix ix_list (pv 1) (pv 4) (fun _ _ => rfl)) (pa_cons (pv 4) (pa_cons (pv 2) pa_nil))))) (pg_tup rfl (pgs_cons (pg_name (i := 5) scReadLot.nd rfl (.inl rfl)) (pgs_cons (pg_name (i := 6) scReadLot.nd rfl (.inl rfl)) pgs_nil))))
    (pss_one (ps_expr (pe_km m_put hr (by decide) (pv 2) (pa_cons (pv 5) (pa_cons (pv 6) pa_nil)))))))
    (pss_one (ps_ret (pe_mkK l_init Ml Tl.mgC hr (by decide) (pa_cons (pv 3) (pa_cons (pe_km0 m_pairs hr (by decide) (pv 2)) pa_nil)))))))))), ?_⟩
    have mW := (inferInstance : Mono (rWds Cw))
    have mT := (inferInstance : Mono (rLst rTx))
    have ok : OkDoc x L0 lw wd l := ok
    have hv : v = V.str (S x) := h
    subst hv
    have hW := ok.words.okW
    refine st_drop (r := rNon) (x := ()) (er_call1 (r := rTx) (f := fun _ => ()) (x := x) (er_var (i := 0) rfl rfl) trivial) dm fun _ H1 e1 _ => ?_
    have dm1 := dm.ex e1
    dsimp only
    refine sq ?_
    refine (Er.is (er_split (K := K) (X := X) (x := x) (sep := [10]) (er_var (i := 0) rfl rfl) (er_tx (by decide +kernel)) (by decide) (by decide) ok.len) ok.spl).go dm1 fun lv H2 e2 hlv => ?_
    have dm2 := dm1.ex e2
    refine run_mkBook dm2 ht0 fun bk d H3 nb nd e3 hbk => ⟨_, _, rfl, ?_⟩
    have E3 : Ex H H3 := (e1.trans e2).trans e3
    have hHd : H d = none := by
      cases q' : H d with
      | none => rfl
      | some u => rw [e2 _ _ (e1 _ _ q')] at nd; cases nd
    have hXb : X bk = false := dm2.new nb
    have hbk0 : isBk K Cb (X.and d) H3 bk d [] := by
      obtain ⟨dx', kvs, g1, g2, g3⟩ := hbk
      cases g3
      exact ⟨dx', [], g1, g2, .nil⟩
    have hd3 : H3 d ≠ none := by
      obtain ⟨_, _, _, g2, _⟩ := hbk
      rw [g2]; exact fun z => nomatch z
    have dmY : Dm (X.and d) H3 := (dm2.ex e3).and hd3
    have hlY := mT.mono (hid_and e3 nd (X := X)).le hlv
    dsimp only
    refine sq ?_
    refine st_drop (K := K) (X := X.and d) (r := rNon) (x := ()) (er_call2 (r := rLst rTx) (s := rTx) (f := fun _ => ()) (x := L0 :: l.map answerT) (y := [119, 111, 114, 100, 115]) (er_var (i := 1) rfl hlY) (er_tx (by decide +kernel)) ?_) dmY fun _ H4 e4 _ => ?_
    · cases lw with
      | nil => exact absurd rfl ok.words.ne
      | cons p lw => exact ⟨L0, _, _, _, rfl, ok.len0, ok.line, rfl⟩
    have dm4 := dmY.ex e4
    have hl4 := mT.mono (hid_le e4) hlY
    dsimp only
    refine sq (st_set (K := K) (X := X.and d) (r := rWds Cw) (x := wd) (er_call3 (r := rLine) (s := rInt) (t := rInt) (f := fun p : Ln × Int × Int => p.1.2.2) (x := (L0, lw, wd)) (y := 0) (c := 1) (er_ixL (r := rTx) (xs := L0 :: l.map answerT) (i := 0) (d := L0) (er_var (i := 1) rfl hl4) er_int rfl) er_int er_int ⟨⟨⟨_, ok.line⟩, ok.len0, ok.words⟩, rfl⟩) dm4 fun wv H5 e5 hwv => ?_)
    have dm5 := dm4.ex e5
    have hl5 := mT.mono (hid_le e5) hl4
    have b5 := (hbk0.ex e4).ex e5
    have hlm : (L0 :: l.map answerT).length = l.length + 1 := by rw [List.length_cons, List.length_map]
    dsimp only
    refine sq ?_
    refine st_forX (K := K) (X := X.and d) (r := rInt) (xs := (List.range l.length).map fun j => ((j : Nat) : Int) + 1) (fun B k σ' H' => (∃ a1 a2 a3, σ' = [some (.str (S x)), some lv, some (.ref bk), some wv, a1, a2, a3]) ∧ Off d B H' ∧ isBk K Cb (X.and d) H' bk d (l.take k))
      (eix_range2 (n := l.length) (by have := ok.few; omega) er_int (Er.is (er_lenL (r := rTx) (xs := L0 :: l.map answerT) (er_var (i := 1) rfl hl5)) (by rw [hlm]; omega))) dm5 (fun B eB => ⟨⟨_, _, _, rfl⟩, fun _ _ _ h => h, by rw [List.take_zero]; exact b5.ex eB⟩) (fun B k σ' H' _ hP => hid_off hP.2.1 (Hs.and_at _ _)) ?_ ?_
    · rintro Bh k z σ' H' eB hz ⟨⟨a1, a2, a3, rfl⟩, off, hb⟩ vv H6 e6 hvv
      have hk : k < l.length := by have := (List.getElem?_eq_some_iff.mp hz).1; simpa using this
      rw [List.getElem?_map, List.getElem?_range hk] at hz
      have hz : z = ((k : Nat) : Int) + 1 := (Option.some.inj hz).symm
      subst hz
      obtain ⟨p, hp⟩ : ∃ p, l[k]? = some p := ⟨_, List.getElem?_eq_getElem hk⟩
      obtain ⟨k1, k2, k3, k4⟩ := ok.lot.good p (List.mem_of_getElem? hp)
      have dB := dm5.ex eB
      have hd' : H' d ≠ none := by
        obtain ⟨_, _, _, g2, _⟩ := hb
        rw [g2]; exact fun z => nomatch z
      have dm' := dB.off' off hd'
      have eY : Ex (hid (X.and d) H5) (hid (X.and d) H6) := Evl.Ex.trans (hid_ex eB) (Evl.Ex.trans (hid_off off (Hs.and_at _ _)) (hid_ex e6))
      have hv' := hvv _ (Evl.Ex.trans (hid_off off (Hs.and_at _ _)) (hid_ex e6)) dm'
      refine eg_name (K := K) (r := rInt) (x := ((k : Nat) : Int) + 1) _ vv H6 hv' _ fun σ2 ⟨v1, eσ, hv1⟩ => ?_
      have hv1 : v1 = V.int (((k : Nat) : Int) + 1) := hv1
      subst eσ hv1
      have dm6 := dm'.ex e6
      have hl6 := mT.mono eY.le hl5
      have hw6 := mW.mono eY.le hwv
      have hno := lkE_take ok.lot.nd hp
      dsimp only
      refine sq ?_
      refine ⟨wv, rfl, ?_⟩
      refine (er_ixL (K := K) (X := X.and d) (r := rTx) (xs := L0 :: l.map answerT) (i := k + 1) (d := answerT p) (er_var (i := 1) rfl hl6) (Er.is (er_var (i := 4) rfl rfl) (by omega)) (by rw [List.getElem?_cons_succ, List.getElem?_map, hp]; rfl)).go dm6 fun lv' H7 e7 hlv' => ⟨_, rfl, _, rfl, ?_⟩
      have dm7 := dm6.ex e7
      have b7 := (hb.ex e6).ex e7
      refine ⟨wv, lv', _, bk, d, wd, p, l.take k, X.and d, rfl, hlv', b7, hno, dm7, mW.mono (hid_le e7) hw6, hW, k1, k2, k3, fun v8 H8 e8 hv8 => ?_⟩
      refine eg_pr (K := K) (r := rTm) (s := rBl) (x := p.1) (y := p.2) _ v8 H8 hv8 _ fun σ3 ⟨t1, t2, eσ, ht1, ht2⟩ => ?_
      subst eσ
      refine st_put (K := K) (X := X.and d) (i := 2) rfl (b7.ex e8) (Hs.and_at _ _) (dm7.ex e8) (by rw [List.length_take]; have := ok.few; omega) (er_var (i := 5) rfl ht1) (er_var (i := 6) rfl ht2) (Nat.le_trans k3 (by decide)) fun H9 off9 b9 => ?_
      refine ⟨⟨_, _, _, rfl⟩, fun a' o hne q' => off9 a' o hne (e8 _ _ (e7 _ _ (e6 _ _ (off a' o hne q')))), ?_⟩
      have e10 : l.take (k + 1) = l.take k ++ [p] := by rw [List.take_add_one, hp]; rfl
      rw [e10]
      rw [putB_new hno] at b9
      exact b9
    · rintro Bh σ' H6 eB ⟨⟨a1, a2, a3, rfl⟩, off, hb⟩
      have hxl : ((List.range l.length).map fun j => ((j : Nat) : Int) + 1).length = l.length := by rw [List.length_map, List.length_range]
      rw [hxl, List.take_length] at hb
      have b6 := hb.sub
      have E6 : Ex H H6 := fun b o q' => off b o (ne_of_none q' hHd) (eB _ _ (e5 _ _ (e4 _ _ (E3 _ _ q'))))
      have dm6 := dm.ex E6
      have eX : Ex (hid (X.and d) H5) (hid X H6) := Evl.Ex.trans (Evl.Ex.trans (hid_ex eB) (hid_off off (Hs.and_at _ _))) hid_sub
      exact ret_of (K := K) (X := X) (r := rLot Cw C) (x := (wd, rowsB l)) (er_mkLot (er_var (i := 3) rfl (mW.mono eX.le hwv)) (er_pairsBk (i := 2) rfl b6 ok.lot.nd ok.lot.few) ok.lot) dm6 fun v' H' e' hv => q v' H' (E6.trans e') hv
end
end Q
set_option maxHeartbeats 8000000
/-! F21: wants_in, is_rule. -/
namespace Q
open PySem PySem.Spec PyProof.Rows L2
/-- wants that are named -/
def okWants (l : List Tx) : Prop := l.length ≤ 20 ∧ ∀ x ∈ l, isName x = true
theorem okWants_few {l : List Tx} (h : okWants l) : few8 1000 l := ⟨Nat.le_trans h.1 (by decide), fun x hx => isName_8 (h.2 x hx)⟩
theorem letter_no {x : Tx} (h : isName x = true) {c : Nat} (hc : c ∉ lettersL) : c ∉ x := fun z => hc (isName_letters h c z)
theorem wants_spl {l : List Tx} (h : okWants l) (hne : l ≠ []) : TL.spl [44] 0 [] (wantsT l) = l := by
  unfold wantsT
  rw [if_neg hne]
  exact SX.spl_join hne fun x hx => letter_no (h.2 x hx) (by decide)
theorem wants_ne {l : List Tx} (h : okWants l) (hne : l ≠ []) : wantsT l ≠ [45] := by
  unfold wantsT
  rw [if_neg hne]
  cases l with
  | nil => exact absurd rfl hne
  | cons x r =>
    have hx := h.2 x List.mem_cons_self
    cases x with
    | nil => exact absurd rfl (isName_ne hx)
    | cons c x =>
      have hc := isName_letters hx c List.mem_cons_self
      intro z
      have : c = 45 := by
        cases r with
        | nil => exact (List.cons.inj z).1
        | cons y r => rw [join_cons _ (by simp)] at z; exact (List.cons.inj z).1
      rw [this] at hc
      exact absurd hc (by decide)
theorem wants_len {l : List Tx} (h : okWants l) : (wantsT l).length ≤ 1000 := by
  unfold wantsT
  by_cases e : l = []
  · rw [if_pos e]; decide
  · rw [if_neg e]
    have h1 := join_len [44] l
    have h2 := sum_le (l := l) (n := 8) fun x hx => isName_8 (h.2 x hx)
    have h3 := h.1
    rw [List.length_singleton] at h1
    omega
section
variable {P : Program} {w : World} {K : Frag} {mg : Str → Option Value} {base : Heap} {X : Hs} {σ : L2.St} {H : Hp} {te ta tb tl : TE} {C Cw Cb : Addr}
theorem tup_ne {α : Type} {r : Rel α} : ∀ H v (x : List α), rTup r K H v x → v ≠ .non := fun H v x ⟨a, _, e, _⟩ => by rw [e]; exact fun z => nomatch z
/-! wants_in -/
abbrev NWantsIn : List Str := ["word", "names", "name"]
theorem scWantsIn : FnScope NWantsIn ["word"] (defScope sWantsIn) := ⟨rfl, rfl, rfl, by decide +kernel, rfl, by decide +kernel, by decide +kernel⟩
def rWantX : Rel (List Tx) := fun _ _ v l => v = .str (S (wantsT l))
instance : Mono rWantX := ⟨fun _ h => h⟩
abbrev spWantsIn (K : Frag) : Sp := SpF (A1 rWantX okWants) K (rOpt (rTup rTx)) some
theorem ok_wantsIn (B : Bi mg) (G : Gs mg) (c_is_name : Kp P w K mg base 1 "is_name" ["value"] (spIsName K)) (D : Dfn K mg "wants_in" sWantsIn ["word"]) : Kp P w K mg base 2 "wants_in" ["word"] (spWantsIn K) :=
  D.kp fun f fd F hm b => F.ok scWantsIn len1 fun cdv A outer s H vs Q E hr ⟨l, X, dm, ⟨v, e, h, ok⟩, q⟩ => by
    subst e
    refine ⟨_, (pss_cons (ps_if (pt_cmpR op_eq (pv 0) (C8.pe_gc rfl G.NOTHING) (nomark _)) (pss_one (ps_ret (pe_tup pa_nil))) pss_nil)
    (pss_cons (ps_set (i := 1) scWantsIn.nd rfl (.inl rfl) (pe_split (pv 0) pe_str))
    (pss_one (ps_ret (pe_ifExp (pt_val (pe_callB (cr_all rfl) rfl B.all (by decide +kernel) (pa_cons (pe_lc (own := [("name", 2)]) (g := gName 2) (tt := tYes) rfl scWantsIn.nd (pi_list (pv 1)) (blkOk_by (N := NWantsIn) (sc := defScope sWantsIn) (by decide +kernel)) (fun _ _ _ _ _ => (pg_name (i := 2) scWantsIn.nd rfl (.inl rfl))) (fun _ _ _ _ _ => pts_nil) (fun _ _ _ _ _ => (pe_kp c_is_name hr (by decide) (pa_cons (pv 2) pa_nil)))) pa_nil))) (pe_callTy call_tuple_of rfl B.tuple (by decide +kernel) (pa_cons (pv 1) pa_nil)) pe_non))))), ?_⟩
    have hv : v = V.str (S (wantsT l)) := h
    subst hv
    have ok : okWants l := ok
    have hlen := wants_len ok
    by_cases hl : l = []
    · subst hl
      refine st_if (X := X) (b := true) (et_test (K := K) (Er.is (er_eqT (i := [45]) (j := [45]) (er_var (i := 0) rfl rfl) (er_tx (by decide +kernel))) (decide_eq_true rfl))) dm (fun _ H2 e2 => ?_) (fun z => nomatch z)
      exact ret_of (K := K) (X := X) (r := rOpt (rTup rTx)) (x := some []) (er_some er_nilT fun H v => tup_ne H v _) (dm.ex e2) fun v' H' e' hv => q v' H' (e2.trans e') hv
    · refine st_skip (X := X) (et_test (K := K) (Er.is (er_eqT (i := wantsT l) (j := [45]) (er_var (i := 0) rfl rfl) (er_tx (by decide +kernel))) (decide_eq_false (wants_ne ok hl)))) dm fun H2 e2 => ?_
      have dm2 := dm.ex e2
      dsimp only
      refine sq (st_set (K := K) (X := X) (r := rLst rTx) (x := l) (Er.is (er_split (x := wantsT l) (sep := [44]) (er_var (i := 0) rfl rfl) (er_tx (by decide +kernel)) (by decide) (by decide) (by omega)) (wants_spl ok hl)) dm2 fun v2 H3 e3 hv2 => ?_)
      have dm3 := dm2.ex e3
      dsimp only
      refine ret_of (K := K) (X := X) (r := rOpt (rTup rTx)) (x := some l) ?_ dm3 fun v' H' e' hv => q v' H' ((e2.trans e3).trans e') hv
      refine er_if (b := true) (et_B (K := K) (Er.is (er_all (xs := l.map isName) (er_lc (r := rTx) (s := rBl) (xs := l) (f := isName) (ei_list (er_var (i := 1) rfl hv2)) (by have := ok.1; omega) fun d hd Y v' H' e' hv => er_call1 (r := rTx) (f := isName) (x := d) (er_var rfl hv) (isName_len (ok.2 d hd)))) (by
        rw [List.all_map]
        exact List.all_eq_true.mpr fun x hx => ok.2 x hx))) (fun _ => er_some (er_tupL (er_var (i := 1) rfl hv2)) fun H v => tup_ne H v _) (fun z => nomatch z)
/-! is_rule -/
abbrev Ru := Tx × Tx × List (List Tx)
abbrev rRu : Rel Ru := rTri rTx rTx (rTup (rTup rTx))
structure OkRu (wd : Wd) (r : Ru) : Prop where
  trait : isName r.1 = true
  word : lk wd r.2.1 = some r.2.2.length
  wants : ∀ l ∈ r.2.2, okWants l
  few : r.2.2.length ≤ 3
abbrev NIsRule : List Str := ["words", "value", "trait", "wants"]
theorem scIsRule : FnScope NIsRule ["words", "value"] (defScope sIsRule) := ⟨rfl, rfl, rfl, by decide +kernel, rfl, by decide +kernel, by decide +kernel⟩
abbrev spIsRule (K : Frag) (C : Addr) : Sp := SpF (A2 (rWds C) rRu OkRu) K rBl fun _ => true
section
variable {α β γ : Type} {r : Rel α} {s : Rel β} {t : Rel γ}
theorem er_t1 [m : Mono r] [n : Mono s] [o : Mono t] {p : α × β × γ} (h : Er K X te σ H (rTri r s t) p) (hi : Er K X ta σ H rInt 0) : Er K X (tOp (rIxT K) te ta) σ H r p.1 := er_two h hi fun v w H1 _ _ hv hw Q k => by
  obtain ⟨a, x, y, z, rfl, h2, h3, _⟩ := hv
  subst hw
  exact ⟨a, _, 0, _, rfl, rfl, sqt_hid h2, at0, k _ H1 (Evl.Ex.refl _) h3⟩
theorem er_t2 [m : Mono r] [n : Mono s] [o : Mono t] {p : α × β × γ} (h : Er K X te σ H (rTri r s t) p) (hi : Er K X ta σ H rInt 1) : Er K X (tOp (rIxT K) te ta) σ H s p.2.1 := er_two h hi fun v w H1 _ _ hv hw Q k => by
  obtain ⟨a, x, y, z, rfl, h2, h3, h4, _⟩ := hv
  subst hw
  exact ⟨a, _, 1, _, rfl, rfl, sqt_hid h2, atI_nat (j := 1) rfl, k _ H1 (Evl.Ex.refl _) h4⟩
theorem er_t3 [m : Mono r] [n : Mono s] [o : Mono t] {p : α × β × γ} (h : Er K X te σ H (rTri r s t) p) (hi : Er K X ta σ H rInt 2) : Er K X (tOp (rIxT K) te ta) σ H t p.2.2 := er_two h hi fun v w H1 _ _ hv hw Q k => by
  obtain ⟨a, x, y, z, rfl, h2, h3, h4, h5⟩ := hv
  subst hw
  exact ⟨a, _, 2, _, rfl, rfl, sqt_hid h2, atI_nat (j := 2) rfl, k _ H1 (Evl.Ex.refl _) h5⟩
theorem er_lenTri [Mono r] [Mono s] [Mono t] {p : α × β × γ} (h : Er K X te σ H (rTri r s t) p) : Er K X (tCB (rLn K) (tCons te tNil)) σ H rInt 3 := er_cb1 h fun v H1 _ _ hv Q k => by
  obtain ⟨a, x, y, z, rfl, h2, _⟩ := hv
  exact ⟨_, 3, rfl, .inr ⟨_, sqt_hid h2, rfl⟩, k _ H1 (Evl.Ex.refl _) rfl⟩
end
theorem ok_isRule (B : Bi mg) (G : Gs mg) (c_is_name : Kp P w K mg base 1 "is_name" ["value"] (spIsName K)) (m_many : KpM P w K mg base 1 C "many" ["self", "name"] (spMany K C)) (D : Dfn K mg "is_rule" sIsRule ["words", "value"]) : Kp P w K mg base 2 "is_rule" ["words", "value"] (spIsRule K C) :=
  D.kp fun f fd F hm b => F.ok scIsRule len2 fun cdv A outer s H vs Q E hr ⟨⟨wd, ru⟩, X, dm, ⟨v, v2, e, h, h2, ok⟩, q⟩ => by
    subst e
    have ok : OkRu wd ru := ok
    refine ⟨_, (pss_cons (ps_if (PW.pt (pw_or (pt_not (pt_val (pe_callB call_isi rfl B.isinstance (by decide +kernel) (pa_cons (pv 1) (pa_cons (pe_bltn (v := .ty "tuple") (u := .type "tuple") rfl B.tuple (by decide +kernel) rfl) pa_nil))))) (pw_or (pt_cmpR op_ne (pe_callB call_len rfl B.len (by decide +kernel) (pa_cons (pv 1) pa_nil)) (C8.pe_gc rfl G.PARTS) (nomark _)) (pw_or (pt_not (pt_val (pe_kp c_is_name hr (by decide) (pa_cons (pe_ix ix_tup (pv 1) pe_int (fun _ _ => rfl)) pa_nil)))) (pw_or1 (pt_not (pt_val (pe_callB call_isi rfl B.isinstance (by decide +kernel) (pa_cons (pe_ix ix_tup (pv 1) pe_int (fun _ _ => rfl)) (pa_cons (pe_bltn (v := .ty "tuple") (u := .type "tuple") rfl B.tuple (by decide +kernel) rfl) pa_nil)))))))))) (pss_one (ps_ret pe_bl)) pss_nil)
    (pss_cons (ps_if (PW.pt (pw_or (pt_cmp (pc_isN (pe_km m_many hr (by decide) (pv 0) (pa_cons (pe_ix ix_tup (pv 1) pe_int (fun _ _ => rfl)) pa_nil)))) (pw_or1 (pt_cmpR op_ne (pe_km m_many hr (by decide) (pv 0) (pa_cons (pe_ix ix_tup (pv 1) pe_int (fun _ _ => rfl)) pa_nil)) (pe_callB call_len rfl B.len (by decide +kernel) (pa_cons (pe_ix ix_tup (pv 1) pe_int (fun _ _ => rfl)) pa_nil)) (nomark _))))) (pss_one (ps_ret pe_bl)) pss_nil)
    (pss_one (ps_ret (pe_callB (cr_all rfl) rfl B.all (by decide +kernel) (pa_cons (pe_lc (own := [("wants", 3)]) (g := gName 3) (tt := tYes) (te := tAndV (tCB (rIsi K) (tCons (tVar 3) (tCons (tC (.ty "tuple")) tNil))) (tCB (rAll K) (tCons (tLc (iTup K (tVar 3)) (gName 2) tYes (tCall (spIsName K) [] E0 (tCons (tVar 2) tNil)) [2]) tNil))) rfl scIsRule.nd (pi_tup (pe_ix ix_tup (pv 1) pe_int (fun _ _ => rfl))) (blkOk_by (N := NIsRule) (sc := defScope sIsRule) (by decide +kernel)) (fun _ _ _ _ _ => (pg_name (i := 3) scIsRule.nd rfl (.inl rfl))) (fun _ _ _ _ _ => pts_nil) (fun _ _ _ _ _ => (pe_and (pe_callB call_isi rfl B.isinstance (by decide +kernel) (pa_cons (pv 3) (pa_cons (pe_bltn (v := .ty "tuple") (u := .type "tuple") rfl B.tuple (by decide +kernel) rfl) pa_nil))) (pe_one (pe_callB (cr_all rfl) rfl B.all (by decide +kernel) (pa_cons (pe_lc (own := [("trait", 2)]) (g := gName 2) (tt := tYes) rfl scIsRule.nd (pi_tup (pv 3)) (blkOk_by (N := NIsRule) (by rfl)) (fun _ _ _ _ _ => (pg_name (i := 2) scIsRule.nd rfl (.inl rfl))) (fun _ _ _ _ _ => pts_nil) (fun _ _ _ _ _ => (pe_kp c_is_name hr (by decide) (pa_cons (pv 2) pa_nil)))) pa_nil)))))) pa_nil)))))), ?_⟩
    have mW := (inferInstance : Mono (rWds C))
    have mR := (inferInstance : Mono rRu)
    refine st_skip (X := X) (et_or (a := false) (b := false) (et_not (a := true) (et_B (er_isi (r := rRu) (x := ru) (er_var (i := 1) rfl h2) fun _ _ z => ⟨_, ty_tri z, by decide +kernel⟩))) fun _ => et_or (a := false) (b := false) (et_test (Er.is (er_neI (K := K) (er_lenTri (r := rTx) (s := rTx) (t := rTup (rTup rTx)) (p := ru) (er_var (i := 1) rfl h2)) er_int) rfl)) fun _ => et_or (a := false) (b := false) (et_not (a := true) (et_B (Er.is (er_call1 (r := rTx) (f := isName) (x := ru.1) (er_t1 (r := rTx) (s := rTx) (t := rTup (rTup rTx)) (er_var (i := 1) rfl h2) er_int) (isName_len ok.trait)) ok.trait))) fun _ => et_not (a := true) (et_B (er_isi (r := rTup (rTup rTx)) (x := ru.2.2) (er_t3 (r := rTx) (s := rTx) (t := rTup (rTup rTx)) (er_var (i := 1) rfl h2) er_int) fun _ _ z => ⟨_, ty_tup z, by decide +kernel⟩))) dm fun H2 e2 => ?_
    have w2 := mW.mono (hid_le e2) h
    have r2 := mR.mono (hid_le e2) h2
    have dm2 := dm.ex e2
    dsimp only
    have hm : ∀ H3, Ex H2 H3 → Er K X (tMeth C "many" (spMany K C) [] E0 (tVar 0) (tCons (tOp (rIxT K) (tVar 1) (tC (.int 1))) tNil)) (L2.start NIsRule [v, v2]) H3 (rOpt rNat) (some ru.2.2.length) := fun H3 e3 =>
      Er.is (er_many (er_var (i := 0) rfl (mW.mono (hid_le e3) w2)) (er_t2 (r := rTx) (s := rTx) (t := rTup (rTup rTx)) (p := ru) (er_var (i := 1) rfl (mR.mono (hid_le e3) r2)) er_int)) ok.word
    refine st_skip (X := X) (et_or (a := false) (b := false) (et_B (K := K) (Er.is (er_isN (r := rNat) (hm H2 (Evl.Ex.refl _))) rfl)) fun _ => et_test (K := K) (Er.is (er_neI (i := (ru.2.2.length : Int)) (er_unSome (hm H2 (Evl.Ex.refl _))) (er_lenT (r := rTup rTx) (xs := ru.2.2) (er_t3 (r := rTx) (s := rTx) (t := rTup (rTup rTx)) (p := ru) (er_var (i := 1) rfl r2) er_int))) (by rw [decide_eq_true rfl]; rfl))) dm2 fun H3 e3 => ?_
    have r3 := mR.mono (hid_le e3) r2
    dsimp only
    refine ret_of (K := K) (X := X) (r := rBl) (x := true) (Er.is (er_all (xs := ru.2.2.map fun l => (l.map isName).all id) ?_) ?_) (dm2.ex e3) fun v' H' e' hv => q v' H' ((e2.trans e3).trans e') hv
    · refine er_lc (r := rTup rTx) (s := rBl) (i := 3) (xs := ru.2.2) (f := fun l => (l.map isName).all id) (ei_tup (er_t3 (r := rTx) (s := rTx) (t := rTup (rTup rTx)) (p := ru) (er_var (i := 1) rfl r3) er_int)) (by have := ok.few; omega) fun l hl Y v' H' e' hv => ?_
      exact Er.is (er_andV (a := true) (b := (l.map isName).all id) (er_isi (r := rTup rTx) (x := l) (er_var (i := 3) rfl hv) fun _ _ z => ⟨_, ty_tup z, by decide +kernel⟩) fun _ => er_all (er_lc (r := rTx) (s := rBl) (xs := l) (f := isName) (ei_tup (er_var (i := 3) rfl hv)) (by have := (ok.wants l hl).1; omega) fun d hd Y2 v2' H2' e2' hv2 => er_call1 (r := rTx) (f := isName) (x := d) (er_var rfl hv2) (isName_len ((ok.wants l hl).2 d hd)))) (Bool.true_and _)
    · rw [List.all_map]
      refine List.all_eq_true.mpr fun l hl => ?_
      show (l.map isName).all id = true
      rw [List.all_map]
      exact List.all_eq_true.mpr fun x hx => (ok.wants l hl).2 x hx
end
end Q
set_option maxHeartbeats 8000000
/-! F22: rule_by. -/
namespace Q
open PySem PySem.Spec PyProof.Rows L2
def ruleParts (r : Ru) : List Tx := [114, 117, 108, 101] :: r.1 :: r.2.1 :: r.2.2.map wantsT
def ruleT (r : Ru) : Tx := TL.joinL [32] (ruleParts r)
theorem wants_signs {l : List Tx} (h : okWants l) : ∀ c ∈ wantsT l, c ∈ lettersL ∨ c = 44 ∨ c = 45 := by
  intro c hc
  unfold wantsT at hc
  by_cases e : l = []
  · rw [if_pos e] at hc; exact .inr (.inr (by simpa using hc))
  · rw [if_neg e] at hc
    rcases join_mem hc with hc | ⟨x, hx, hc⟩
    · exact .inr (.inl (by simpa using hc))
    · exact .inl (isName_letters (h.2 x hx) c hc)
theorem parts_no {wd : Wd} (hw : OkW wd) {r : Ru} (ok : OkRu wd r) {k : Nat} (hk : k = 32 ∨ k = 10) : ∀ x ∈ ruleParts r, k ∉ x := by
  intro x hx hc
  have hl : k ∉ lettersL := by rcases hk with rfl | rfl <;> decide
  unfold ruleParts at hx
  rcases List.mem_cons.mp hx with rfl | hx
  · rcases hk with rfl | rfl <;> exact absurd hc (by decide)
  · rcases List.mem_cons.mp hx with rfl | hx
    · exact letter_no ok.trait hl hc
    · rcases List.mem_cons.mp hx with rfl | hx
      · exact letter_no (hw.good _ (lk_mem ok.word)).1 hl hc
      · obtain ⟨l, hlm, rfl⟩ := List.mem_map.mp hx
        rcases wants_signs (ok.wants l hlm) _ hc with h | h | h
        · exact hl h
        · rcases hk with rfl | rfl <;> cases h
        · rcases hk with rfl | rfl <;> cases h
theorem rule_spl {wd : Wd} (hw : OkW wd) {r : Ru} (ok : OkRu wd r) : TL.spl [32] 0 [] (ruleT r) = ruleParts r :=
  SX.spl_join (by unfold ruleParts; simp) fun x hx => parts_no hw ok (.inl rfl) x hx
theorem rule_len {wd : Wd} (hw : OkW wd) {r : Ru} (ok : OkRu wd r) : (ruleT r).length ≤ 4000 := by
  have h1 := join_len [32] (ruleParts r)
  have h2 := sum_le (l := r.2.2.map wantsT) (n := 1000) fun x hx => by
    obtain ⟨l, hl, rfl⟩ := List.mem_map.mp hx
    exact wants_len (ok.wants l hl)
  have h3 := isName_8 ok.trait
  have h4 : r.2.1.length ≤ 8 := isName_8 (hw.good _ (lk_mem ok.word)).1
  have h3 : r.1.length ≤ 8 := h3
  have h5 := ok.few
  unfold ruleT
  unfold ruleParts at h1 ⊢
  simp only [List.map_cons, List.sum_cons, List.length_cons, List.length_nil, List.length_map] at h1 h2 ⊢
  omega
section
variable {P : Program} {w : World} {K : Frag} {mg : Str → Option Value} {base : Heap} {X : Hs} {σ : L2.St} {H : Hp} {te ta tb tl : TE} {C : Addr}
abbrev NRuleBy : List Str := ["words", "line", "at", "parts", "many", "wants", "place", "found"]
theorem scRuleBy : FnScope NRuleBy ["words", "line", "at"] (defScope sRuleBy) := ⟨rfl, rfl, rfl, by decide +kernel, rfl, by decide +kernel, by decide +kernel⟩
def rRuX : Rel Ru := fun _ _ v r => v = .str (S (ruleT r))
instance : Mono rRuX := ⟨fun _ h => h⟩
abbrev spRuleBy (K : Frag) (C : Addr) : Sp := SpF (A3 (rWds C) rRuX rInt fun wd r _ => OkW wd ∧ OkRu wd r) K rRu fun p => p.2.1
theorem ok_ruleBy (B : Bi mg) (c_words_of : Kp P w K mg base 1 "words_of" ["text"] (spWordsOf K)) (c_is_name : Kp P w K mg base 1 "is_name" ["value"] (spIsName K)) (m_many : KpM P w K mg base 1 C "many" ["self", "name"] (spMany K C)) (c_wants_in : Kp P w K mg base 2 "wants_in" ["word"] (spWantsIn K))
    (D : Dfn K mg "rule_by" sRuleBy ["words", "line", "at"]) : Kp P w K mg base 3 "rule_by" ["words", "line", "at"] (spRuleBy K C) :=
  D.kp fun f fd F hm b => F.ok scRuleBy len3 fun cdv A outer s H vs Q E hr ⟨⟨wd, ru, at_⟩, X, dm, ⟨v, v2, v3, e, h, h2, h3, hw, ok⟩, q⟩ => by
    subst e
    refine ⟨_, (pss_cons (ps_set (i := 3) scRuleBy.nd rfl (.inl rfl) (pe_kp c_words_of hr (by decide) (pa_cons (pv 1) pa_nil)))
    (pss_cons (ps_if (pt_cmpR op_ne (pe_ix ix_list (pv 3) pe_int (fun _ _ => rfl)) pe_str (nomark _)) (pss_one ps_never) pss_nil)
    (pss_cons (ps_if (PW.pt (pw_or (pt_cmpR op_lt (pe_callB call_len rfl B.len (by decide +kernel) (pa_cons (pv 3) pa_nil)) pe_int (nomark _)) (pw_or1 (pt_not (pt_val (pe_kp c_is_name hr (by decide) (pa_cons (pe_ix ix_list (pv 3) pe_int (fun _ _ => rfl)) pa_nil))))))) (pss_one ps_never) pss_nil)
    (pss_cons (ps_set (i := 4) scRuleBy.nd rfl (.inl rfl) (pe_ifExp (pt_cmpR op_gt (pe_callB call_len rfl B.len (by decide +kernel) (pa_cons (pv 3) pa_nil)) pe_int (nomark _)) (pe_km m_many hr (by decide) (pv 0) (pa_cons (pe_ix ix_list (pv 3) pe_int (fun _ _ => rfl)) pa_nil)) pe_non))
    (pss_cons (ps_if (pt_cmp (pc_isN (pv 4))) (pss_one ps_never) pss_nil)
    (pss_cons (ps_set (i := 5) scRuleBy.nd rfl (.inl rfl) (pe_lst pa_nil))
    (pss_cons (ps_for PassesOwn.never rfl (pi_range1 (by rfl) B.range (pa_cons (pv 4) pa_nil)) (pg_name (i := 6) scRuleBy.nd rfl (.inl rfl)) (pss_cons (ps_set (i := 7) scRuleBy.nd rfl (.inl rfl) (pe_ifExp (pt_cmpR op_gt (pe_callB call_len rfl B.len (by decide +kernel) (pa_cons (pv 3) pa_nil)) (pe_op op_add pe_int (pv 6)) (nomark _)) (pe_kp c_wants_in hr (by decide) (pa_cons (pe_ix ix_list (pv 3) (pe_op op_add pe_int (pv 6)) (fun _ _ => rfl)) pa_nil)) pe_non))
    (pss_cons (ps_if (pt_cmp (pc_isN (pv 7))) (pss_one ps_never) pss_nil)
    (pss_one (ps_expr (pe_bm PySem.F.plainAttrs_list PySem.F.slot_list_append PySem.F.type_list_append mt_append (pv 5) (pa_cons (pv 7) pa_nil)))))))
    (pss_cons (ps_if (pt_cmpR op_gt (pe_callB call_len rfl B.len (by decide +kernel) (pa_cons (pv 3) pa_nil)) (pe_op op_add pe_int (pv 4)) (nomark _)) (pss_one ps_never) pss_nil)
    (pss_one (ps_ret (pe_tup (pa_cons (pe_ix ix_list (pv 3) pe_int (fun _ _ => rfl)) (pa_cons (pe_ix ix_list (pv 3) pe_int (fun _ _ => rfl)) (pa_cons (pe_callTy call_tuple_of rfl B.tuple (by decide +kernel) (pa_cons (pv 5) pa_nil)) pa_nil)))))))))))))), ?_⟩
    have hw : OkW wd := hw
    have ok : OkRu wd ru := ok
    have hv2 : v2 = V.str (S (ruleT ru)) := h2
    subst hv2
    have mW := (inferInstance : Mono (rWds C))
    have mT := (inferInstance : Mono (rLst rTx))
    have hlen := rule_len hw ok
    have hpl : (ruleParts ru).length = ru.2.2.length + 3 := by unfold ruleParts; simp
    have hfew := ok.few
    refine st_set (r := rLst rTx) (x := ruleParts ru) (Er.is (er_call1 (r := rTx) (f := fun x => TL.spl [32] 0 [] x) (x := ruleT ru) (er_var (i := 1) rfl rfl) (by show (ruleT ru).length < _; omega)) (rule_spl hw ok)) dm fun v4 H2 e2 hp2 => ?_
    have dm2 := dm.ex e2
    dsimp only
    refine st_skip (X := X) (et_test (K := K) (Er.is (er_neT (i := [114, 117, 108, 101]) (j := [114, 117, 108, 101]) (er_ixL (r := rTx) (xs := ruleParts ru) (i := 0) (er_var (i := 3) rfl hp2) er_int rfl) (er_tx (by decide +kernel))) (by decide))) dm2 fun H3 e3 => ?_
    have dm3 := dm2.ex e3
    have p3 := mT.mono (hid_le e3) hp2
    dsimp only
    refine st_skip (X := X) (et_or (a := false) (b := false) (et_test (K := K) (Er.is (er_cmp0 (g := fun i j => decide (i < j)) (er_lenL (r := rTx) (xs := ruleParts ru) (er_var (i := 3) rfl p3)) er_int) (decide_eq_false (by rw [hpl]; omega)))) fun _ => et_not (a := true) (et_B (K := K) (Er.is (er_call1 (r := rTx) (f := isName) (x := ru.1) (er_ixL (r := rTx) (xs := ruleParts ru) (i := 1) (er_var (i := 3) rfl p3) er_int rfl) (isName_len ok.trait)) ok.trait))) dm3 fun H4 e4 => ?_
    have dm4 := dm3.ex e4
    have p4 := mT.mono (hid_le e4) p3
    have w4 := mW.mono (hid_le ((e2.trans e3).trans e4)) h
    dsimp only
    refine sq (st_set (K := K) (X := X) (r := rOpt rNat) (x := some ru.2.2.length) (er_if (b := true) (et_test (K := K) (Er.is (er_cmp0 (g := fun i j => decide (j < i)) (er_lenL (r := rTx) (xs := ruleParts ru) (er_var (i := 3) rfl p4)) er_int) (decide_eq_true (by rw [hpl]; omega)))) (fun _ => Er.is (er_many (er_var (i := 0) rfl w4) (er_ixL (r := rTx) (xs := ruleParts ru) (i := 2) (er_var (i := 3) rfl p4) er_int rfl)) ok.word) (fun z => nomatch z)) dm4 fun v5 H5 e5 hv5 => ?_)
    have dm5 := dm4.ex e5
    have hv5' : v5 = V.int (ru.2.2.length : Nat) := hv5.2
    subst hv5'
    dsimp only
    refine st_skip (X := X) (et_B (K := K) (Er.is (er_isN (r := rNat) (x := some ru.2.2.length) (er_var (i := 4) rfl hv5)) rfl)) dm5 fun H6 e6 => ?_
    dsimp only
    refine sq (st_new fun o ho => ?_)
    have E6 : Ex H H6 := (((e2.trans e3).trans e4).trans e5).trans e6
    have hHo : H o = none := by
      cases q' : H o with
      | none => rfl
      | some u => rw [E6 _ _ q'] at ho; cases ho
    have p6 := mT.mono (hid_le (e5.trans e6)) p4
    generalize hG : upd H6 o (.lst []) = G6
    have eN : Ex H6 G6 := by rw [← hG]; exact Evl.Ex.new ho
    have g6 : G6 o = some (.lst []) := by rw [← hG]; exact upd_same
    have dmY : Dm (X.and o) G6 := ((dm5.ex e6).ex eN).and (by rw [g6]; exact fun z => nomatch z)
    have pY := mT.mono (hid_and (X := X) eN ho).le p6
    dsimp only
    refine sq ?_
    refine st_forX (K := K) (X := X.and o) (r := rInt) (xs := (List.range ru.2.2.length).map fun j => ((j : Nat) : Int)) (fun B k σ' H' => (∃ x y, σ' = [some v, some (.str (S (ruleT ru))), some v3, some v4, some (.int (ru.2.2.length : Nat)), some (.ref o), x, y]) ∧ Off o B H' ∧ ∃ vs, H' o = some (.lst vs) ∧ Paired (rTup rTx K (hid (X.and o) H')) vs (ru.2.2.take k))
      (eix_range1 (n := ru.2.2.length) (by omega) (er_var (i := 4) rfl rfl)) dmY (fun B eB => ⟨⟨_, _, rfl⟩, fun _ _ _ h => h, [], eB _ _ g6, .nil⟩) (fun B k σ' H' _ hP => hid_off hP.2.1 (Hs.and_at _ _)) ?_ ?_
    · rintro Bh k x σ' H' eB hx ⟨⟨x0, y0, rfl⟩, off, vs, go, hvs⟩ vv H7 e7 hvv
      have hk : k < ru.2.2.length := by have := (List.getElem?_eq_some_iff.mp hx).1; simpa using this
      rw [getElem?_range hk] at hx
      have hx : x = ((k : Nat) : Int) := (Option.some.inj hx).symm
      subst hx
      obtain ⟨l, hl⟩ : ∃ l, ru.2.2[k]? = some l := ⟨_, List.getElem?_eq_getElem hk⟩
      have dB := dmY.ex eB
      have dm' := dB.off' off (by rw [go]; exact fun z => nomatch z)
      have eY : Ex (hid (X.and o) G6) (hid (X.and o) H7) := Evl.Ex.trans (hid_ex eB) (Evl.Ex.trans (hid_off off (Hs.and_at _ _)) (hid_ex e7))
      have hv' := hvv _ (Evl.Ex.trans (hid_off off (Hs.and_at _ _)) (hid_ex e7)) dm'
      refine eg_name (K := K) (r := rInt) (x := ((k : Nat) : Int)) _ vv H7 hv' _ fun σ2 ⟨v1, eσ, hv1⟩ => ?_
      have hv1 : v1 = V.int (k : Nat) := hv1
      subst eσ hv1
      have dm7 := dm'.ex e7
      have p7 := mT.mono eY.le pY
      refine sq (st_set (K := K) (X := X.and o) (r := rOpt (rTup rTx)) (x := some l) (er_if (b := true) (et_test (K := K) (Er.is (er_cmp0 (g := fun i j => decide (j < i)) (er_lenL (r := rTx) (xs := ruleParts ru) (er_var (i := 3) rfl p7)) (er_op0 (g := fun i j => i + j) (i := 3) (j := (k : Int)) er_int (er_var (i := 6) rfl rfl))) (decide_eq_true (by rw [hpl]; omega)))) (fun _ => er_call1 (r := rWantX) (f := some) (x := l) (er_ixL (r := rTx) (xs := ruleParts ru) (i := k + 3) (d := wantsT l) (er_var (i := 3) rfl p7) (Er.is (er_op0 (g := fun i j => i + j) (i := 3) (j := (k : Int)) er_int (er_var (i := 6) rfl rfl)) (by omega)) (by unfold ruleParts; rw [List.getElem?_cons_succ, List.getElem?_cons_succ, List.getElem?_cons_succ, List.getElem?_map, hl]; rfl)) (ok.wants l (List.mem_of_getElem? hl))) (fun z => nomatch z)) dm7 fun v8 H8 e8 hv8 => ?_)
      have dm8 := dm7.ex e8
      dsimp only
      refine st_skip (X := X.and o) (et_B (K := K) (Er.is (er_isN (r := rTup rTx) (x := some l) (er_var (i := 7) rfl hv8)) rfl)) dm8 fun H9 e9 => ?_
      have g9 := e9 _ _ (e8 _ _ (e7 _ _ go))
      dsimp only
      have hvl := Paired.len hvs
      refine st_append (K := K) (X := X.and o) (r := rTup rTx) (x := l) (i := 5) rfl g9 (by rw [hvl, List.length_take]; omega) (dm8.ex e9) (er_var (i := 7) rfl ((inferInstance : Mono (rTup rTx)).mono (hid_le e9) hv8.2)) fun t3 H11 e11 ht3 => ?_
      refine ⟨⟨_, _, rfl⟩, fun b o' hb q' => ?_, vs ++ [t3], upd_same, ?_⟩
      · rw [upd_ne hb]
        exact e11 _ _ (e9 _ _ (e8 _ _ (e7 _ _ (off b o' hb q'))))
      · rw [hid_upd (Hs.and_at _ _), show ru.2.2.take (k + 1) = ru.2.2.take k ++ [l] by rw [List.take_add_one, hl]; rfl]
        exact Paired.snoc' (Paired.mono (fun _ _ z => (inferInstance : Mono (rTup rTx)).mono (hid_le (((e7.trans e8).trans e9).trans e11)) z) hvs) ht3
    · rintro Bh σ' H7 eB ⟨⟨x0, y0, rfl⟩, off, vs, go, hvs⟩
      have hxl : ((List.range ru.2.2.length).map fun j => ((j : Nat) : Int)).length = ru.2.2.length := by rw [List.length_map, List.length_range]
      rw [hxl, List.take_length] at hvs
      have E7 : Ex H H7 := fun b o' q' => off b o' (ne_of_none q' hHo) (eB _ _ (eN _ _ (E6 _ _ q')))
      have dm7 := dm.ex E7
      have p7 := mT.mono (Evl.Ex.trans (hid_ex eB) (Evl.Ex.trans (hid_off off (Hs.and_at _ _)) hid_sub)).le pY
      have hvs7 : Paired (rTup rTx K (hid X H7)) vs ru.2.2 := Paired.mono (fun _ _ z => (inferInstance : Mono (rTup rTx)).mono hid_sub.le z) hvs
      refine st_skip (X := X) (et_test (K := K) (Er.is (er_cmp0 (g := fun i j => decide (j < i)) (er_lenL (r := rTx) (xs := ruleParts ru) (er_var (i := 3) rfl p7)) (er_op0 (g := fun i j => i + j) (i := 3) (j := (ru.2.2.length : Int)) er_int (er_var (i := 4) rfl rfl))) (decide_eq_false (by rw [hpl]; omega)))) dm7 fun H8 e8 => ?_
      have p8 := mT.mono (hid_le e8) p7
      dsimp only
      exact ret_of (K := K) (X := X) (r := rRu) (x := (ru.1, ru.2.1, ru.2.2)) (er_tri (r := rTx) (s := rTx) (q := rTup (rTup rTx)) (er_ixL (r := rTx) (xs := ruleParts ru) (i := 1) (er_var (i := 3) rfl p8) er_int rfl) (er_ixL (r := rTx) (xs := ruleParts ru) (i := 2) (er_var (i := 3) rfl p8) er_int rfl) (er_tupOwn (i := 5) rfl (e8 _ _ go) (Paired.mono (fun _ _ z => (inferInstance : Mono (rTup rTx)).mono (hid_le e8) z) hvs7))) (dm7.ex e8) fun v' H' e' hv => q v' H' ((E7.trans e8).trans e') hv
end
end Q
set_option maxHeartbeats 8000000
/-! F23: Rules as a record; Rules.__eq__. -/
namespace Q
open PySem PySem.Spec PyProof.Rows L2
def encX (x : Tx) : PyData := .str (S x)
def encW (l : List Tx) : PyData := .tuple (l.map encX)
def encU (r : Ru) : PyData := .tuple [encX r.1, encX r.2.1, .tuple (r.2.2.map encW)]
def encUs (l : List Ru) : PyData := .tuple (l.map encU)
theorem eqvAll_of : ∀ {l : List PyData}, (∀ x ∈ l, PyData.eqv x x = true) → PyData.eqvAll l l = true
  | [], _ => by unfold PyData.eqvAll; rfl
  | x :: l, h => by unfold PyData.eqvAll; rw [h x List.mem_cons_self, eqvAll_of fun y hy => h y (List.mem_cons_of_mem _ hy)]; rfl
theorem canLayAll_of : ∀ {l : List PyData}, (∀ x ∈ l, x.canLay0 = true) → PyData.canLayAll0 l = true
  | [], _ => by unfold PyData.canLayAll0; rfl
  | x :: l, h => by unfold PyData.canLayAll0; rw [h x List.mem_cons_self, canLayAll_of fun y hy => h y (List.mem_cons_of_mem _ hy)]; rfl
theorem depthAll_of {n : Nat} : ∀ {l : List PyData}, (∀ x ∈ l, x.depth ≤ n) → PyData.depthAll l ≤ n
  | [], _ => by unfold PyData.depthAll; exact Nat.zero_le _
  | x :: l, h => by
    unfold PyData.depthAll
    have h1 := h x List.mem_cons_self
    have h2 := depthAll_of (l := l) fun y hy => h y (List.mem_cons_of_mem _ hy)
    omega
theorem eqv_encX (x : Tx) : PyData.eqv (encX x) (encX x) = true := by
  unfold encX PyData.eqv
  exact beq_self_eq_true _
theorem eqv_tup {l : List PyData} (h : ∀ x ∈ l, PyData.eqv x x = true) : PyData.eqv (.tuple l) (.tuple l) = true := by
  unfold PyData.eqv
  exact eqvAll_of h
theorem eqv_encW (l : List Tx) : PyData.eqv (encW l) (encW l) = true := eqv_tup fun y hy => by
  obtain ⟨x, _, rfl⟩ := List.mem_map.mp hy
  exact eqv_encX x
theorem eqv_encU (r : Ru) : PyData.eqv (encU r) (encU r) = true := eqv_tup fun y hy => by
  rcases List.mem_cons.mp hy with rfl | hy
  · exact eqv_encX _
  · rcases List.mem_cons.mp hy with rfl | hy
    · exact eqv_encX _
    · rw [List.mem_singleton.mp hy]
      exact eqv_tup fun z hz => by
        obtain ⟨x, _, rfl⟩ := List.mem_map.mp hz
        exact eqv_encW x
theorem eqv_encUs (l : List Ru) : PyData.eqv (encUs l) (encUs l) = true := eqv_tup fun y hy => by
  obtain ⟨x, _, rfl⟩ := List.mem_map.mp hy
  exact eqv_encU x
theorem lay_encX {x : Tx} (h : isName x = true) : (encX x).canLay0 = true := by
  unfold encX PyData.canLay0
  refine strOk_S (List.all_eq_true.mpr fun c hc => decide_eq_true ?_)
  have h1 := isName_letters h c hc
  have h2 : ∀ c ∈ lettersL, c < 0x110000 := by decide
  exact h2 c h1
theorem lay_tup {l : List PyData} (h : ∀ x ∈ l, x.canLay0 = true) : (PyData.tuple l).canLay0 = true := by
  unfold PyData.canLay0
  exact canLayAll_of h
theorem lay_encU {wd : Wd} (hw : OkW wd) {r : Ru} (ok : OkRu wd r) : (encU r).canLay0 = true := lay_tup fun y hy => by
  rcases List.mem_cons.mp hy with rfl | hy
  · exact lay_encX ok.trait
  · rcases List.mem_cons.mp hy with rfl | hy
    · exact lay_encX (hw.good _ (lk_mem ok.word)).1
    · rw [List.mem_singleton.mp hy]
      exact lay_tup fun z hz => by
        obtain ⟨l, hl, rfl⟩ := List.mem_map.mp hz
        exact lay_tup fun u hu => by
          obtain ⟨x, hx, rfl⟩ := List.mem_map.mp hu
          exact lay_encX ((ok.wants l hl).2 x hx)
theorem deep_tup {n : Nat} {l : List PyData} (h : ∀ x ∈ l, x.depth ≤ n) : (PyData.tuple l).depth ≤ n + 1 := by
  unfold PyData.depth
  have := depthAll_of h
  omega
theorem deep_encX (x : Tx) (n : Nat) : (encX x).depth ≤ n := by
  unfold encX PyData.depth
  exact Nat.zero_le _
theorem deep_encU (r : Ru) : (encU r).depth ≤ 3 := deep_tup fun y hy => by
  rcases List.mem_cons.mp hy with rfl | hy
  · exact deep_encX _ _
  · rcases List.mem_cons.mp hy with rfl | hy
    · exact deep_encX _ _
    · rw [List.mem_singleton.mp hy]
      exact deep_tup fun z hz => by
        obtain ⟨l, hl, rfl⟩ := List.mem_map.mp hz
        exact deep_tup fun u hu => by
          obtain ⟨x, hx, rfl⟩ := List.mem_map.mp hu
          exact deep_encX _ _
theorem shaped_encUs {wd : Wd} (hw : OkW wd) {l : List Ru} (ok : ∀ r ∈ l, OkRu wd r) : SeqAt.shaped (encUs l) = true := by
  have h1 : (encUs l).canLay0 = true := lay_tup fun y hy => by
    obtain ⟨x, hx, rfl⟩ := List.mem_map.mp hy
    exact lay_encU hw (ok x hx)
  have h2 : (encUs l).depth ≤ 4 := deep_tup fun y hy => by
    obtain ⟨x, hx, rfl⟩ := List.mem_map.mp hy
    exact deep_encU x
  unfold SeqAt.shaped
  rw [h1, decide_eq_true (by omega)]
  rfl
theorem dp_X {K : Frag} {H : Hp} {v : V} {x : Tx} (h : rTx K H v x) : Dp K H v (encX x) := by
  rw [show v = V.str (S x) from h]; exact .str _
theorem dp_all {α : Type} {r : Rel α} {K : Frag} {H : Hp} {f : α → PyData} (hf : ∀ v x, r K H v x → Dp K H v (f x)) : ∀ {vs : List V} {l : List α}, Paired (r K H) vs l → DpAll K H vs (l.map f)
  | _, _, .nil => .nil
  | _, _, .cons a b => .cons (hf _ _ a) (dp_all hf b)
theorem dp_tup {α : Type} {r : Rel α} {K : Frag} {H : Hp} {f : α → PyData} (hf : ∀ v x, r K H v x → Dp K H v (f x)) {v : V} {l : List α} (h : rTup r K H v l) : Dp K H v (.tuple (l.map f)) := by
  obtain ⟨a, vs, rfl, h2, h3⟩ := h
  exact .tup h2 (dp_all hf h3)
theorem dp_U {K : Frag} {H : Hp} {v : V} {p : Ru} (h : rRu K H v p) : Dp K H v (encU p) := by
  obtain ⟨a, x, y, z, rfl, h2, h3, h4, h5⟩ := h
  exact .tup h2 (.cons (dp_X h3) (.cons (dp_X h4) (.cons (dp_tup (fun _ _ g => dp_tup (fun _ _ g => dp_X g) g) h5) .nil)))
section
variable {P : Program} {w : World} {K : Frag} {mg : Str → Option Value} {base : Heap} {X : Hs} {σ : L2.St} {H : Hp} {te ta tb tl : TE} {C Cw : Addr}
def rRules (Cw C : Addr) : Rel (Wd × List Ru) := fun K H v p => ∃ a dx wv rv tv, v = .ref a ∧ H a = some (.ins C dx [("words", wv), ("rows", rv), ("traits", tv)]) ∧ rWds Cw K H wv p.1 ∧ rTup rRu K H rv p.2
instance : Mono (rRules Cw C) := ⟨fun e ⟨a, dx, wv, rv, tv, h1, h2, h3, h4⟩ => ⟨a, dx, wv, rv, tv, h1, e.ins _ _ _ _ h2, (inferInstance : Mono (rWds Cw)).mono e h3, (inferInstance : Mono (rTup rRu)).mono e h4⟩⟩
abbrev OwnR (K : Frag) (mg : Str → Option Value) (C : Addr) : Prop := Own K mg C "Rules" ["words", "rows", "traits"]
theorem er_rwords (T : OwnR K mg C) {p : Wd × List Ru} (h : Er K X te σ H (rRules Cw C) p) : Er K X (tFld K te "words") σ H (rWds Cw) p.1 :=
  er_fld h fun H1 v ⟨a, dx, wv, rv, tv, h1, h2, h3, h4⟩ => ⟨a, C, dx, _, wv, h1, h2, T.ins.cl, T.na _ (by simp), rfl, h3⟩
theorem er_rrows (T : OwnR K mg C) {p : Wd × List Ru} (h : Er K X te σ H (rRules Cw C) p) : Er K X (tFld K te "rows") σ H (rTup rRu) p.2 :=
  er_fld h fun H1 v ⟨a, dx, wv, rv, tv, h1, h2, h3, h4⟩ => ⟨a, C, dx, _, rv, h1, h2, T.ins.cl, T.na _ (by simp), rfl, h4⟩
theorem ins_rules {H : Hp} {v : V} {p : Wd × List Ru} (h : rRules Cw C K H v p) : ∃ a dx fs, v = .ref a ∧ H a = some (.ins C dx fs) := by
  obtain ⟨a, dx, wv, rv, tv, h1, h2, _⟩ := h
  exact ⟨a, dx, _, h1, h2⟩
theorem er_eqU {wd : Wd} (hw : OkW wd) {l : List Ru} (h1 : Er K X ta σ H (rTup rRu) l) (h2 : Er K X tb σ H (rTup rRu) l) (ok : ∀ r ∈ l, OkRu wd r) : Er K X (tOp (rEqD K) ta tb) σ H rBl true := er_two h1 h2 fun v w H1 _ dm hv hw' Q k => by
  have m := (inferInstance : Mono (rTup rRu))
  exact ⟨encUs l, encUs l, dp_tup (fun _ _ g => dp_U g) (m.mono hid_get.le hv), dp_tup (fun _ _ g => dp_U g) (m.mono hid_get.le hw'), shaped_encUs hw ok, shaped_encUs hw ok, by rw [eqv_encUs]; exact k _ H1 (Evl.Ex.refl _) rfl⟩
abbrev NRulesEq : List Str := ["self", "other"]
theorem scRulesEq : FnScope NRulesEq ["self", "other"] (defScope sRulesEq) := ⟨rfl, rfl, rfl, by decide +kernel, rfl, by decide +kernel, by decide +kernel⟩
def sameR (K : Frag) (Cw C : Addr) : Addr → Addr → Hp → Prop := fun a b H => ∃ X wd l, Dm X H ∧ OkW wd ∧ (∀ r ∈ l, OkRu wd r) ∧ rRules Cw C K (hid X H) (.ref a) (wd, l) ∧ rRules Cw C K (hid X H) (.ref b) (wd, l)
theorem sameR_mono {a b : Addr} {H H' : Hp} (e : Ext H H') (h : sameR K Cw C a b H) : sameR K Cw C a b H' := by
  obtain ⟨X, wd, l, dm, hn, hs, h1, h2⟩ := h
  exact ⟨X, wd, l, dm.ex e, hn, hs, (inferInstance : Mono (rRules Cw C)).mono (hid_le e) h1, (inferInstance : Mono (rRules Cw C)).mono (hid_le e) h2⟩
theorem ok_rulesEq (B : Bi mg) (T : OwnR K mg C) (m_eq : KpM P w K mg base 1 Cw "__eq__" ["self", "other"] (spEq (sameW K Cw))) (D : Mth K C "__eq__" "Rules.__eq__" sRulesEq ["self", "other"]) : KpM P w K mg base 3 C "__eq__" ["self", "other"] (spEq (sameR K Cw C)) :=
  D.kp fun f fd c F => F.ok scRulesEq (fun vs H Q E ⟨a, b, e, _⟩ => by rw [e]; rfl) fun cdv A outer s H vs Q E hr ⟨a, b, e, ⟨X, wd, l, dm, hn, hs, h1, h2⟩, q⟩ => by
    subst e
    obtain ⟨fw, fdw, Fw, cw, hmw, bw⟩ := m_eq
    refine ⟨_, (pss_one (ps_ret (pe_and (pe_callB (C8.call_isC T.ins) rfl B.isinstance (by decide +kernel) (pa_cons (pv 1) (pa_cons (C8.pe_gc rfl T.gc) pa_nil))) (pe_and (pe_cmpR (op_eqG (rcG_ins Fw hmw.at_ hmw.fn bw pass0) (hr.mono (by decide))) (pe_fld (pv 0) rfl) (pe_fld (pv 1) rfl) (nomark _)) (pe_one (pe_cmpR (op_eqD hr.units) (pe_fld (pv 0) rfl) (pe_fld (pv 1) rfl) (nomark _))))))), ?_⟩
    refine ret_of (r := rBl) (x := true) (er_andV (a := true) (b := true) (er_isC T (er_var rfl h2) fun _ _ => ins_rules) fun _ => er_andV (a := true) (b := true) (er_eqG (er_rwords T (er_var rfl h1)) (er_rwords T (er_var rfl h2)) fun v w H1 dm1 hv hw => ?_) fun _ => er_eqU hn (er_rrows T (er_var rfl h1)) (er_rrows T (er_var rfl h2)) hs) dm fun v H' e hv => ?_
    · obtain ⟨a1, d1, f1, rfl, g1⟩ := ins_wds hv
      obtain ⟨a2, d2, f2, rfl, g2⟩ := ins_wds hw
      exact ⟨a1, a2, d1, d2, f1, f2, rfl, rfl, hid_get _ _ g1, hid_get _ _ g2, X, wd, dm1, hn.nd, hv, hw⟩
    · rw [show v = V.bl true from hv]
      exact q H' e
end
end Q
set_option maxHeartbeats 8000000
/-! F24: rules_text. -/
namespace Q
open PySem PySem.Spec PyProof.Rows L2
def rulesT (p : Wd × List Ru) : Tx := TL.joinL [10] ((wordsL ++ wordsT p.1) :: p.2.map ruleT)
structure OkRules (p : Wd × List Ru) : Prop where
  wd : OkW p.1
  few : p.2.length ≤ 40
  good : ∀ r ∈ p.2, OkRu p.1 r
  traits : ∃ ts : List Tx, ts.length ≤ 12 ∧ ∀ r ∈ p.2, r.1 ∈ ts ∧ ∀ l ∈ r.2.2, ∀ x ∈ l, x ∈ ts
theorem wipe3 (σ : L2.St) (v w u : V) {i j k : Nat} (hij : i ≠ j) (hik : i ≠ k) (hjk : j ≠ k) : wipe ((((wipe σ [i, j, k]).set i (some v)).set j (some w)).set k (some u)) [i, j, k] = wipe σ [i, j, k] := by
  show ((((((((σ.set k none).set j none).set i none).set i (some v)).set j (some w)).set k (some u)).set k none).set j none).set i none = (((σ.set k none).set j none).set i none)
  rw [List.set_set, List.set_set, List.set_comm (some w) none hjk, List.set_comm (some v) none hik]
  rw [List.set_set]
  rw [List.set_comm (some v) none hij, List.set_set]
  rw [List.set_comm none none hjk, List.set_set]
  rw [List.set_set]
section
variable {P : Program} {w : World} {K : Frag} {mg : Str → Option Value} {base : Heap} {X : Hs} {σ : L2.St} {H : Hp} {te ta tb tc tl : TE} {C Cw : Addr} {α β γ δ : Type} {r : Rel α} {s : Rel β} {q : Rel γ} {t : Rel δ}
theorem er_lcT [mr : Mono r] [ms : Mono s] [mq : Mono q] [mt : Mono t] {wi : TI} {i j k : Nat} {xs : List (α × β × γ)} {f : α × β × γ → δ} (hij : i ≠ j) (hik : i ≠ k) (hjk : j ≠ k) (hi : Ei K X wi σ H (rTri r s q) xs) (hz : xs.length < 1000000)
    (he : ∀ d, d ∈ xs → ∀ Y v w u H', Ex (hid X H) (hid Y H') → r K (hid Y H') v d.1 → s K (hid Y H') w d.2.1 → q K (hid Y H') u d.2.2 → Er K Y te ((((wipe σ [i, j, k]).set i (some v)).set j (some w)).set k (some u)) H' t (f d)) : Er K X (tLc wi (gTup K 3 (gCons (gName i) (gCons (gName j) (gCons (gName k) gNil)))) tYes te [i, j, k]) σ H (rLst t) (xs.map f) := by
  have z : xs.filter (fun _ => true) = xs := List.filter_eq_self.mpr fun _ _ => rfl
  have k := er_lcG (K := K) (X := X) (σ := σ) (H := H) (r := rTri r s q) (s := t) (te := te) (tt := tYes) (vs := [i, j, k]) (f := f) (p := fun _ => true) (g := gTup K 3 (gCons (gName i) (gCons (gName j) (gCons (gName k) gNil))))
    (P := fun d Y σ' H' => ∃ v w u, σ' = (((wipe σ [i, j, k]).set i (some v)).set j (some w)).set k (some u) ∧ r K (hid Y H') v d.1 ∧ s K (hid Y H') w d.2.1 ∧ q K (hid Y H') u d.2.2) hi hz (fun d _ => eg_tri)
    (fun d Y σ' H' ⟨v, w, u, e, _⟩ => by rw [e]; exact wipe3 σ v w u hij hik hjk) (fun d _ Y σ' H' _ _ => et_yes) (fun d hd _ Y σ' H' H'' e ⟨v, w, u, eσ, h1, h2, h3⟩ e2 => by
      subst eσ
      exact he d hd Y v w u H'' e (mr.mono (hid_le e2) h1) (ms.mono (hid_le e2) h2) (mq.mono (hid_le e2) h3))
  rw [z] at k
  exact k
/-- [a, b, c, *xs] -/
theorem er_lst3Star [m : Mono r] {x y z : α} {xs : List α} (h1 : Er K X ta σ H r x) (h2 : Er K X tb σ H r y) (h3 : Er K X tc σ H r z) (h4 : Er K X tl σ H (rLst r) xs) (hz : xs.length < 999990) : Er K X (tLst (tCons ta (tCons tb (tCons tc (StX.tStar K tl tNil))))) σ H (rLst r) (x :: y :: z :: xs) := fun H1 e dm Q k =>
  h1 H1 e dm _ fun v1 H2 e2 hv1 => h2 H2 (e.trans e2) (dm.ex e2) _ fun v2 H3 e3 hv2 => h3 H3 ((e.trans e2).trans e3) ((dm.ex e2).ex e3) _ fun v3 H4 e4 hv3 => h4 H4 (((e.trans e2).trans e3).trans e4) (((dm.ex e2).ex e3).ex e4) _ fun u H5 e5 ⟨a, vs, hu, hs, hp⟩ => ⟨a, vs, hu, .inr (sql_hid hs), by
    refine ⟨?_, fun p hn => ?_⟩
    · have := Paired.len hp
      rw [List.append_nil, List.length_cons, List.length_cons, List.length_cons]
      exact size_le (by omega)
    · have en : Ex H5 (upd H5 p (.lst (v1 :: v2 :: v3 :: (vs ++ [])))) := Evl.Ex.new hn
      have en' := en
      refine k _ _ ((((e2.trans e3).trans e4).trans e5).trans en) ⟨p, _, rfl, .inl (.inl (by rw [hid_out (((((dm.ex e2).ex e3).ex e4).ex e5).new hn), upd_same])), ?_⟩
      rw [List.append_nil] at en' ⊢
      exact .cons (m.mono (hid_le (((e3.trans e4).trans e5).trans en')) hv1) (.cons (m.mono (hid_le ((e4.trans e5).trans en')) hv2) (.cons (m.mono (hid_le (e5.trans en')) hv3) (Paired.mono (fun _ _ z => m.mono (hid_le en') z) hp)))⟩
abbrev NRulesText : List Str := ["rules", "rows", "trait", "word", "wants", "lot"]
theorem scRulesText : FnScope NRulesText ["rules"] (defScope sRulesText) := ⟨rfl, rfl, rfl, by decide +kernel, rfl, by decide +kernel, by decide +kernel⟩
abbrev spRulesText (K : Frag) (Cw C : Addr) : Sp := SpF (A1 (rRules Cw C) OkRules) K rTx rulesT
theorem ok_rulesText (B : Bi mg) (T : OwnR K mg C) (c_told_wants : Kp P w K mg base 1 "told_wants" ["wants"] (spToldWants K)) (c_told_words : Kp P w K mg base 1 "told_words" ["words"] (spToldWords K Cw))
    (D : Dfn K mg "rules_text" sRulesText ["rules"]) : Kp P w K mg base 3 "rules_text" ["rules"] (spRulesText K Cw C) :=
  D.kp fun f fd F hm b => F.ok scRulesText len1 fun cdv A outer s H vs Q E hr ⟨p, X, dm, ⟨v, e, h, ok⟩, q⟩ => by
    subst e
    refine ⟨_, (pss_cons (ps_if (pt_not (pt_val (pe_callB (C8.call_isC T.ins) rfl B.isinstance (by decide +kernel) (pa_cons (pv 0) (pa_cons (C8.pe_gc rfl T.gc) pa_nil))))) (pss_one ps_never) pss_nil)
    (pss_cons (ps_setLc (i := 1) (own := [("trait", 2), ("word", 3), ("wants", 4)]) (g := gTup K 3 (gCons (gName 2) (gCons (gName 3) (gCons (gName 4) gNil)))) (tt := tYes) (te := tM1 (rJn K) (tC (.str " ")) (tLst (tCons (tC (.str "rule")) (tCons (tVar 2) (tCons (tVar 3) (StX.tStar K (tLc (iTup K (tVar 4)) (gName 5) tYes (tCall (spToldWants K) [] E0 (tCons (tVar 5) tNil)) [5]) tNil)))))) rfl scRulesText.nd rfl rfl (sw_true rfl rfl rfl (by decide +kernel)) (pi_tup (pe_fld (pv 0) rfl)) (blkOk_by (N := NRulesText) (sc := defScope sRulesText) (by decide +kernel)) (fun _ _ _ _ _ => (pg_tup rfl (pgs_cons (pg_name (i := 2) scRulesText.nd rfl (.inl rfl)) (pgs_cons (pg_name (i := 3) scRulesText.nd rfl (.inl rfl)) (pgs_cons (pg_name (i := 4) scRulesText.nd rfl (.inl rfl)) pgs_nil))))) (fun _ _ _ _ _ => pts_nil) (fun _ _ _ _ _ => (pe_join pe_str (pe_lst (pa_cons pe_str (pa_cons (pv 2) (pa_cons (pv 3) (StX.pa_star (pe_lc (own := [("lot", 5)]) (g := gName 5) (tt := tYes) rfl scRulesText.nd (pi_tup (pv 4)) (blkOk_by (N := NRulesText) (by rfl)) (fun _ _ _ _ _ => (pg_name (i := 5) scRulesText.nd rfl (.inl rfl))) (fun _ _ _ _ _ => pts_nil) (fun _ _ _ _ _ => (pe_kp c_told_wants hr (by decide) (pa_cons (pv 5) pa_nil)))) pa_nil))))))))
    (pss_one (ps_ret (pe_join pe_str (pe_lst (pa_cons (pe_joined (.cons pe_str (.cons (pe_fmt (pe_kp c_told_words hr (by decide) (pa_cons (pe_fld (pv 0) rfl) pa_nil))) .nil))) (StX.pa_star (pv 1) pa_nil)))))))), ?_⟩
    have mL := (inferInstance : Mono (rRules Cw C))
    refine st_skip (X := X) (et_not (a := true) (et_B (er_isC T (er_var rfl h) fun _ _ => ins_rules))) dm fun H1 e1 => ?_
    dsimp only
    have h1 := mL.mono (hid_le e1) h
    have dm1 := dm.ex e1
    have hrl : ∀ d ∈ p.2, (ruleT d).length ≤ 4000 := fun d hd => rule_len ok.wd (ok.good d hd)
    refine sq (st_set (K := K) (X := X) (r := rLst rTx) (x := p.2.map ruleT) (er_lcT (r := rTx) (s := rTx) (q := rTup (rTup rTx)) (by decide) (by decide) (by decide) (ei_tup (er_rrows T (er_var rfl h1))) (by have := ok.few; omega) fun d hd Y v1 v2 v3 H' e' hv1 hv2 hv3 => ?_) dm1 fun v2 H2 e2 hv2 => ?_)
    · have ku := ok.good d hd
      have h8 := isName_8 ku.trait
      have h9 : d.2.1.length ≤ 8 := isName_8 (ok.wd.good _ (lk_mem ku.word)).1
      have h3 := sum_le (l := d.2.2.map wantsT) (n := 1000) fun x hx => by
        obtain ⟨l, hl, rfl⟩ := List.mem_map.mp hx
        exact wants_len (ku.wants l hl)
      have h5 := ku.few
      refine er_join (sep := [32]) (xs := ruleParts d) (er_tx (by decide +kernel)) (er_lst3Star (x := [114, 117, 108, 101]) (er_tx (by decide +kernel)) (er_var rfl hv1) (er_var rfl hv2) (er_lc (r := rTup rTx) (s := rTx) (f := wantsT) (ei_tup (er_var rfl hv3)) (by omega) fun l hl Y2 v4 H3 e3 hv4 => er_call1 (r := rTup rTx) (f := wantsT) (x := l) (er_var rfl hv4) (okWants_few (ku.wants l hl))) (by rw [List.length_map]; omega)) ?_
      unfold ruleParts
      simp only [List.map_cons, List.sum_cons, List.length_cons, List.length_map, List.length_nil] at h3 ⊢
      have h8 : d.1.length ≤ 8 := h8
      omega
    · have h2 := mL.mono (hid_le e2) h1
      dsimp only
      have hw := wordsT_len ok.wd
      have hsum := sum_le (l := p.2.map ruleT) (n := 4000) fun x hx => by
        obtain ⟨d, hd, rfl⟩ := List.mem_map.mp hx
        exact hrl d hd
      rw [List.length_map] at hsum
      have hfew := ok.few
      refine ret_of (K := K) (X := X) (r := rTx) (x := rulesT p) ?_ (dm1.ex e2) fun v' H' e' hv => q v' H' ((e1.trans e2).trans e') hv
      refine er_join (sep := [10]) (xs := (wordsL ++ wordsT p.1) :: p.2.map ruleT) (er_tx (by decide +kernel)) (er_lstStar (Er.is (er_fs (.cons (er_tx (i := wordsL) (by decide +kernel)) (.cons (er_fmt (er_call1 (r := rWds Cw) (f := wordsT) (x := p.1) (er_rwords T (er_var rfl h2)) ok.wd) (by omega)) .nil)) ?_) ?_) (er_var rfl hv2) (by rw [List.length_map]; omega)) ?_
      · simp only [List.map_cons, List.map_nil, List.sum_cons, List.sum_nil]
        have : wordsL.length = 6 := rfl
        omega
      · simp
      · simp only [List.map_cons, List.sum_cons, List.length_cons, List.length_append, List.length_map, List.length_nil]
        have : wordsL.length = 6 := rfl
        omega
end
end Q
set_option maxHeartbeats 8000000
/-! F25: read_rules. -/
namespace Q
open PySem PySem.Spec PyProof.Rows L2
section
variable {P : Program} {w : World} {K : Frag} {mg : Str → Option Value} {base : Heap} {X : Hs} {σ : L2.St} {H : Hp} {te ta tb tc tl : TE} {C Cw : Addr} {α : Type} {r : Rel α}
theorem ei_of {wi : TI} {xs : List α} (h : EiX K X wi σ H r xs) : Ei K X wi σ H r xs := fun H1 e dm R q => h H1 e dm R fun J H2 G Y e2 w g y => q J H2 G Y e2 w (fun H3 e3 => g H3 (hid_ex e3)) fun i H3 x H4 e3 yy => y i H3 x H4 (hid_ex e3) yy
def spRulesInit (K : Frag) (Cw C : Addr) : Sp := fun vs H Q _ => ∃ a dx wv lv wd l X, vs = [.ref a, wv, lv] ∧ H a = some (.ins C dx []) ∧ X a = true ∧ Dm X H ∧ rWds Cw K (hid X H) wv wd ∧ rLst rRu K (hid X H) lv l ∧ OkRules (wd, l) ∧
  ∀ rv tv H', Off a H H' → H' a = some (.ins C dx [("words", wv), ("rows", rv), ("traits", tv)]) → rTup rRu K (hid X H') rv l → Q .non H'
/-- Rules(words, rows) -/
theorem er_mkRules {wd : Wd} {l : List Ru} {E : XK} (h1 : Er K X ta σ H (rWds Cw) wd) (h2 : Er K X tb σ H (rLst rRu) l) (ok : OkRules (wd, l)) : Er K X (tMake C (spRulesInit K Cw C) [] E (tCons ta (tCons tb tNil))) σ H (rRules Cw C) (wd, l) := fun H1 e dm Q k =>
  h1 H1 e dm _ fun wv H2 e2 hw => h2 H2 (e.trans e2) (dm.ex e2) _ fun lv H3 e3 hl x dx nx nd ne => by
    have dm3 := (dm.ex e2).ex e3
    have mW := (inferInstance : Mono (rWds Cw))
    have hx : X x = false := dm3.new nx
    have eN : Ex (hid X H3) (hid (X.and x) (upd (upd H3 dx (.own x)) x (.ins C dx []))) := fun b o q => by
      obtain ⟨g1, g2⟩ := hid_some.mp q
      have n1 : b ≠ x := ne_of_none g2 nx
      have n2 : b ≠ dx := ne_of_none g2 nd
      exact hid_some.mpr ⟨by rw [Hs.and_ne n1]; exact g1, by rw [upd_ne n1, upd_ne n2]; exact g2⟩
    have hw3 := mW.mono (hid_le e3) hw
    refine ⟨x, dx, wv, lv, wd, l, X.and x, rfl, upd_same, Hs.and_at _ _, Dm.and dm3.upd'.upd' (by rw [upd_same]; exact fun z => nomatch z), mW.mono eN.le hw3, (inferInstance : Mono (rLst rRu)).mono eN.le hl, ok, fun rv tv H' off g1 g2 => ⟨rfl, ?_⟩⟩
    have eM := ex_make nx nd off
    exact k _ _ ((e2.trans e3).trans eM) ⟨x, dx, wv, rv, tv, rfl, by rw [hid_out hx]; exact g1, mW.mono (hid_le eM) hw3, (inferInstance : Mono (rTup rRu)).mono hid_sub.le g2⟩
/-- a page of rules, line by line -/
structure OkDocR (x L0 : Tx) (lw wd : Wd) (l : List Ru) : Prop where
  spl : TL.spl [10] 0 [] x = L0 :: l.map ruleT
  line : TL.spl [32] 0 [] L0 = [119, 111, 114, 100, 115] :: lw.map wordT
  len : x.length < 1000000
  len0 : L0.length < 1000000
  words : OkWd lw wd
  rules : OkRules (wd, l)
abbrev DcR := Tx × Tx × Wd × Wd × List Ru
def rDocR : Rel DcR := fun _ _ v c => v = .str (S c.1)
instance : Mono rDocR := ⟨fun _ h => h⟩
abbrev spReadRules (K : Frag) (Cw C : Addr) : Sp := SpF (A1 rDocR fun c => OkDocR c.1 c.2.1 c.2.2.1 c.2.2.2.1 c.2.2.2.2) K (rRules Cw C) fun c => (c.2.2.2.1, c.2.2.2.2)
abbrev NReadRules : List Str := ["text", "lines", "words", "at"]
theorem scReadRules : FnScope NReadRules ["text"] (defScope sReadRules) := ⟨rfl, rfl, rfl, by decide +kernel, rfl, by decide +kernel, by decide +kernel⟩
theorem ok_readRules (B : Bi mg) (T : OwnR K mg C) (Mr : MkC K C) (c_need_text : Kp P w K mg base 1 "need_text" ["value"] (spNeedText K))
    (c_head_of : Kp P w K mg base 2 "head_of" ["lines", "head"] (spHeadOf K)) (c_words_by : Kp P w K mg base 5 "words_by" ["line", "at", "first"] (spWordsBy K Cw)) (c_rule_by : Kp P w K mg base 3 "rule_by" ["words", "line", "at"] (spRuleBy K Cw))
    (r_init : KpM P w K mg base 4 C "__init__" ["self", "words", "rows"] (spRulesInit K Cw C))
    (D : Dfn K mg "read_rules" sReadRules ["text"]) : Kp P w K mg base 6 "read_rules" ["text"] (spReadRules K Cw C) :=
  D.kp fun f fd F hm b => F.ok scReadRules len1 fun cdv A outer s H vs Q E hr ⟨⟨x, L0, lw, wd, l⟩, X, dm, ⟨v, e, h, ok⟩, q⟩ => by
    subst e
    refine ⟨_, (pss_cons (ps_expr (pe_kp c_need_text hr (by decide) (pa_cons (pv 0) pa_nil)))
    (pss_cons (ps_set (i := 1) scReadRules.nd rfl (.inr rfl) (pe_split (pv 0) pe_str))
    (pss_cons (ps_expr (pe_kp c_head_of hr (by decide) (pa_cons (pv 1) (pa_cons pe_str pa_nil))))
    (pss_cons (ps_set (i := 2) scReadRules.nd rfl (.inr rfl) (pe_kp c_words_by hr (by decide) (pa_cons (pe_ix ix_list (pv 1) pe_int (fun _ _ => rfl)) (pa_cons pe_int (pa_cons pe_int pa_nil)))))
    (pss_one (ps_ret (pe_mkK r_init Mr T.mgC hr (by decide) (pa_cons (pv 2) (pa_cons (pe_lc (own := [("at", 3)]) (g := gName 3) (tt := tYes) (te := tCall (spRuleBy K Cw) [] E0 (tCons (tVar 2) (tCons (tOp (rIxL K) (tVar 1) (tVar 3)) (tCons (tVar 3) tNil)))) rfl scReadRules.nd (pi_range2 (by rfl) B.range (pa_cons pe_int (pa_cons (pe_callB call_len rfl B.len (by decide +kernel) (pa_cons (pv 1) pa_nil)) pa_nil))) (blkOk_by (N := NReadRules) (sc := defScope sReadRules) (by decide +kernel)) (fun _ _ _ _ _ => (pg_name (i := 3) scReadRules.nd rfl (.inl rfl))) (fun _ _ _ _ _ => pts_nil) (fun _ _ _ _ _ => (pe_kp c_rule_by hr (by decide) (pa_cons (pv 2) (pa_cons (pe_ix ix_list (pv 1) (pv 3) (fun _ _ => rfl)) (pa_cons (pv 3) pa_nil)))))) pa_nil))))))))), ?_⟩
    have mW := (inferInstance : Mono (rWds Cw))
    have mT := (inferInstance : Mono (rLst rTx))
    have ok : OkDocR x L0 lw wd l := ok
    have hv : v = V.str (S x) := h
    subst hv
    have hW := ok.words.okW
    have hfew : l.length ≤ 40 := ok.rules.few
    refine st_drop (K := K) (X := X) (r := rNon) (x := ()) (er_call1 (r := rTx) (f := fun _ => ()) (x := x) (er_var (i := 0) rfl rfl) trivial) dm fun _ H1 e1 _ => ?_
    have dm1 := dm.ex e1
    dsimp only
    refine sq (st_set (K := K) (X := X) (r := rLst rTx) (x := L0 :: l.map ruleT) (Er.is (er_split (K := K) (X := X) (x := x) (sep := [10]) (er_var (i := 0) rfl rfl) (er_tx (by decide +kernel)) (by decide) (by decide) ok.len) ok.spl) dm1 fun lv H2 e2 hlv => ?_)
    have dm2 := dm1.ex e2
    dsimp only
    refine st_drop (K := K) (X := X) (r := rNon) (x := ()) (er_call2 (r := rLst rTx) (s := rTx) (f := fun _ => ()) (x := L0 :: l.map ruleT) (y := [119, 111, 114, 100, 115]) (er_var (i := 1) rfl hlv) (er_tx (by decide +kernel)) ?_) dm2 fun _ H4 e4 _ => ?_
    · cases lw with
      | nil => exact absurd rfl ok.words.ne
      | cons p lw => exact ⟨L0, _, _, _, rfl, ok.len0, ok.line, rfl⟩
    have dm4 := dm2.ex e4
    have hl4 := mT.mono (hid_le e4) hlv
    dsimp only
    refine sq (st_set (K := K) (X := X) (r := rWds Cw) (x := wd) (er_call3 (r := rLine) (s := rInt) (t := rInt) (f := fun p : Ln × Int × Int => p.1.2.2) (x := (L0, lw, wd)) (y := 0) (c := 1) (er_ixL (r := rTx) (xs := L0 :: l.map ruleT) (i := 0) (d := L0) (er_var (i := 1) rfl hl4) er_int rfl) er_int er_int ⟨⟨⟨_, ok.line⟩, ok.len0, ok.words⟩, rfl⟩) dm4 fun wv H5 e5 hwv => ?_)
    have dm5 := dm4.ex e5
    have hl5 := mT.mono (hid_le e5) hl4
    have hlm : (L0 :: l.map ruleT).length = l.length + 1 := by rw [List.length_cons, List.length_map]
    dsimp only
    refine ret_of (K := K) (X := X) (r := rRules Cw C) (x := (wd, l)) (er_mkRules (er_var (i := 2) rfl hwv) ?_ ok.rules) dm5 fun v' H' e' hv => q v' H' ((((e1.trans e2).trans e4).trans e5).trans e') hv
    refine Er.is (er_lc (r := rInt) (s := rRu) (xs := (List.range l.length).map fun j => ((j : Nat) : Int) + 1) (f := fun z : Int => l[z.toNat - 1]?.getD ([], [], [])) (ei_of (eix_range2 (n := l.length) (by omega) er_int (Er.is (er_lenL (r := rTx) (xs := L0 :: l.map ruleT) (er_var (i := 1) rfl hl5)) (by rw [hlm]; omega)))) (by rw [List.length_map, List.length_range]; omega) fun z hz Y v3 H6 e6 hv3 => ?_) ?_
    · obtain ⟨k, hk, rfl⟩ := List.mem_map.mp hz
      have hk : k < l.length := List.mem_range.mp hk
      obtain ⟨p, hp⟩ : ∃ p, l[k]? = some p := ⟨_, List.getElem?_eq_getElem hk⟩
      have hl6 := mT.mono e6.le hl5
      have hw6 := mW.mono e6.le hwv
      have ht : (((k : Nat) : Int) + 1).toNat - 1 = k := by omega
      refine Er.is (er_call3 (r := rWds Cw) (s := rRuX) (t := rInt) (f := fun p : Wd × Ru × Int => p.2.1) (x := wd) (y := p) (c := ((k : Nat) : Int) + 1) (er_var (i := 2) rfl hw6) (er_ixL (r := rTx) (xs := L0 :: l.map ruleT) (i := k + 1) (d := ruleT p) (er_var (i := 1) rfl hl6) (Er.is (er_var (i := 3) rfl hv3) (by omega)) (by rw [List.getElem?_cons_succ, List.getElem?_map, hp]; rfl)) (er_var (i := 3) rfl hv3) ⟨hW, ok.rules.good p (List.mem_of_getElem? hp)⟩) ?_
      show p = l[_]?.getD _
      rw [ht, hp]
      rfl
    · rw [List.map_map]
      refine List.ext_getElem? fun k => ?_
      rw [List.getElem?_map]
      by_cases hk : k < l.length
      · rw [List.getElem?_range hk]
        show some (l[(((k : Nat) : Int) + 1).toNat - 1]?.getD _) = _
        rw [show (((k : Nat) : Int) + 1).toNat - 1 = k by omega, List.getElem?_eq_getElem hk]
        rfl
      · rw [List.getElem?_eq_none (by rw [List.length_range]; omega), List.getElem?_eq_none (by omega)]
        rfl
end
end Q
set_option maxHeartbeats 8000000
/-! F26: [te for x in wi for y in wi1]. -/
namespace Q
open PySem PySem.Spec PyProof.Rows L2
section
variable {P : Program} {w : World} {K : Frag} {mg : Str → Option Value} {base : Heap} {X : Hs} {σ : L2.St} {H : Hp} {te : TE} {α β γ : Type} {r : Rel α} {s : Rel β} {t : Rel γ}
theorem wipe2a (σ : L2.St) (v : V) {i j : Nat} (hij : i ≠ j) : wipe ((wipe σ [i, j]).set i (some v)) [i, j] = wipe σ [i, j] := by
  show ((((σ.set j none).set i none).set i (some v)).set j none).set i none = (σ.set j none).set i none
  rw [List.set_set, List.set_comm (some v) none hij, List.set_set, List.set_set]
theorem er_lc2 [mr : Mono r] [ms : Mono s] [mt : Mono t] {wi wi1 : TI} {i j : Nat} {xs : List α} {ys : α → List β} {f : α → β → γ} (hij : i ≠ j) (hi : Ei K X wi σ H r xs) (hz : xs.length < 100) (hz1 : ∀ d ∈ xs, (ys d).length < 1000)
    (h1 : ∀ d ∈ xs, ∀ Y v H', Ex (hid X H) (hid Y H') → r K (hid Y H') v d → EiX K Y wi1 ((wipe σ [i, j]).set i (some v)) H' s (ys d))
    (he : ∀ d ∈ xs, ∀ c ∈ ys d, ∀ Y v u H', Ex (hid X H) (hid Y H') → r K (hid Y H') v d → s K (hid Y H') u c → Er K Y te ((wipe ((wipe σ [i, j]).set i (some v)) [j]).set j (some u)) H' t (f d c)) :
    Er K X (tLc2 wi (gName i) tYes wi1 (gName j) tYes te [i, j] [j]) σ H (rLst t) (xs.flatMap fun d => (ys d).map (f d)) := fun H1 e dm Q q =>
  hi H1 e dm _ fun J H2 G Y e2 hW hG hY D hD => by
    let PO : Nat → Hp → Prop := fun n H3 => Ex H2 H3 ∧ ∃ acc, H3 D = some (.lst acc) ∧ acc.length ≤ n * 1000 ∧ Paired (t K (hid (X.and D) H3)) acc ((xs.take n).flatMap fun d => (ys d).map (f d))
    refine ⟨fun n m H3 => m = xs.length - n ∧ n ≤ xs.length ∧ PO n H3, ⟨xs.length, by simp, Nat.zero_le _, Evl.Ex.new hD, [], upd_same, Nat.zero_le _, by rw [List.take_zero]; exact .nil⟩, ?_⟩
    rintro n m H3 ⟨rfl, hle, e3, acc, hacc, hal, hpd⟩
    have hG3 := hG H3 e3
    by_cases hlt : n < xs.length
    · refine .inr ⟨hW.goes n H3 hlt hG3, PO (n + 1), fun H' p' => ⟨xs.length - (n + 1), by omega, rfl, hlt, p'⟩, fun x H4 yy => ?_⟩
      obtain ⟨e4, d, hd, hr⟩ := hY n H3 x H4 e3 (hW.yields n H3 x H4 hlt hG3 yy)
      have hmem : d ∈ xs := List.mem_of_getElem? hd
      have htk : xs.take (n + 1) = xs.take n ++ [d] := by rw [List.take_add_one, hd]; rfl
      have dm3 : Dm (X.and D) H3 := ((dm.ex e2).ex e3).and (by rw [hacc]; exact fun z => nomatch z)
      have hr' := hr (X.and D) (hid_and (e3.trans e4) hD) dm3
      have eH4 : Ex (hid X H) (hid (X.and D) H4) := Evl.Ex.trans (hid_ex (e.trans e2)) (hid_and (e3.trans e4) hD)
      refine ⟨wipe2a σ x hij, ?_⟩
      refine (et_yes (X := X.and D) (H := H4)).go (dm3.ex e4) fun H5 e5 => ?_
      rw [if_pos rfl]
      have eH5 : Ex (hid X H) (hid (X.and D) H5) := Evl.Ex.trans eH4 (hid_ex e5)
      have hr5 := mr.mono (hid_le e5) hr'
      refine h1 d hmem (X.and D) x H5 eH5 hr5 H5 (Evl.Ex.refl _) ((dm3.ex e4).ex e5) _ fun J1 H6 G1 Y1 e6 hW1 hG1 hY1 => ?_
      have dm6 := ((dm3.ex e4).ex e5).ex e6
      have E6 : Ex H3 H6 := (e4.trans e5).trans e6
      have eH6 : Ex (hid X H) (hid (X.and D) H6) := Evl.Ex.trans eH5 (hid_ex e6)
      let P1 : Nat → Hp → Prop := fun k H7 => Off D H6 H7 ∧ ∃ ac, H7 D = some (.lst ac) ∧ ac.length ≤ n * 1000 + k ∧ Paired (t K (hid (X.and D) H7)) ac (((xs.take n).flatMap fun d => (ys d).map (f d)) ++ ((ys d).take k).map (f d))
      have hP0 : P1 0 H6 := ⟨fun _ _ _ h => h, acc, E6 _ _ hacc, hal, by
        rw [List.take_zero, List.map_nil, List.append_nil]
        exact Paired.mono (fun _ _ z => mt.mono (hid_le E6) z) hpd⟩
      refine ⟨fun k m H7 => m = (ys d).length - k ∧ k ≤ (ys d).length ∧ P1 k H7, ⟨(ys d).length, by simp, Nat.zero_le _, hP0⟩, ?_⟩
      rintro k m H7 ⟨rfl, hle1, off, ac, hac, hacl, hpd1⟩
      have eY7 : Ex (hid (X.and D) H6) (hid (X.and D) H7) := hid_off off (Hs.and_at _ _)
      have hG7 := hG1 H7 eY7
      have dm7 : Dm (X.and D) H7 := dm6.off' off (by rw [hac]; exact fun z => nomatch z)
      by_cases hk : k < (ys d).length
      · refine .inr ⟨hW1.goes k H7 hk hG7, P1 (k + 1), fun H' p' => ⟨(ys d).length - (k + 1), by omega, rfl, hk, p'⟩, fun x1 H8 yy1 => ?_⟩
        obtain ⟨e8, c, hc, hr1⟩ := hY1 k H7 x1 H8 eY7 (hW1.yields k H7 x1 H8 hk hG7 yy1)
        have hcm : c ∈ ys d := List.mem_of_getElem? hc
        have hc' := hr1 (X.and D) (Evl.Ex.trans eY7 (hid_ex e8)) dm7
        have htk1 : (ys d).take (k + 1) = (ys d).take k ++ [c] := by rw [List.take_add_one, hc]; rfl
        refine ⟨wipe_set _ x1 j, ?_⟩
        refine (et_yes (X := X.and D) (H := H8)).go (dm7.ex e8) fun H9 e9 => ?_
        rw [if_pos rfl]
        have eY9 : Ex (hid (X.and D) H6) (hid (X.and D) H9) := Evl.Ex.trans eY7 (hid_ex (e8.trans e9))
        have hr9 := mr.mono (Evl.Ex.trans (hid_ex e6) eY9).le hr5
        refine (he d hmem c hcm (X.and D) x x1 H9 (Evl.Ex.trans eH6 eY9) hr9 (ms.mono (hid_le e9) hc')).go ((dm7.ex e8).ex e9) fun y H10 e10 hy => ⟨ac, e10 _ _ (e9 _ _ (e8 _ _ hac)), ?_, fun b o hb q' => ?_, ac ++ [y], upd_same, ?_, ?_⟩
        · have h9 := hz1 d hmem
          exact size_lt (by omega)
        · rw [upd_ne hb]
          exact e10 _ _ (e9 _ _ (e8 _ _ (off b o hb q')))
        · rw [List.length_append]
          show ac.length + 1 ≤ n * 1000 + (k + 1)
          omega
        · rw [htk1, List.map_append, ← List.append_assoc, hid_upd (Hs.and_at _ _)]
          exact Paired.app (Paired.mono (fun _ _ z => mt.mono (hid_le ((e8.trans e9).trans e10)) z) hpd1) (.cons hy .nil)
      · have ek : k = (ys d).length := by omega
        subst ek
        refine .inl ⟨hW1.stops H7 hG7, fun b o q' => off b o (ne_of_none q' hD) (E6 _ _ (e3 _ _ q')), ac, hac, ?_, ?_⟩
        · have h9 := hz1 d hmem
          omega
        · rw [List.take_length] at hpd1
          rw [htk, List.flatMap_append, List.flatMap_singleton]
          exact hpd1
    · have en : n = xs.length := by omega
      subst en
      rw [List.take_length] at hpd
      refine .inl ⟨hW.stops H3 hG3, q _ H3 (e2.trans e3) ⟨D, acc, rfl, .inl (.inl ?_), Paired.mono (fun _ _ z => mt.mono hid_sub.le z) hpd⟩⟩
      rw [hid_out ((dm.ex e2).new hD)]
      exact hacc
end
end Q
set_option maxHeartbeats 8000000
/-! F27: rows of answers, in whatever order they were told. -/
namespace Q
open PySem PySem.Spec PyProof.Rows L2
theorem lkE_flat : ∀ {l : Bk} {t u : Tm}, t.flat = u.flat → lkE l t = lkE l u
  | [], _, _, _ => rfl
  | p :: l, t, u, h => by
    unfold lkE
    rw [h, lkE_flat (l := l) h]
theorem ndB_inj {l : Bk} (hn : ndB l) {p q : Tm × Bool} (hp : p ∈ l) (hq : q ∈ l) (h : p.1.flat = q.1.flat) : p = q := by
  have h1 := lkE_self hn hp
  have h2 := lkE_self hn hq
  rw [lkE_flat h, h2] at h1
  exact (Option.some.inj h1).symm
theorem ndB_perm {l m : Bk} (h : l.Perm m) (hn : ndB l) : ndB m := by
  unfold ndB at hn ⊢
  exact (h.map fun p : Tm × Bool => p.1.flat).nodup_iff.mp hn
theorem rowsB_at {l : Bk} (hn : ndB l) {p : Tm × Bool} (hp : p ∈ l) : (p.1, ((lkE l p.1).map Prod.snd).getD false) = p := by
  rw [lkE_self hn hp]
  rfl
/-- the order in which answers are told is nothing to the rows -/
theorem rowsB_perm {l m : Bk} (h : l.Perm m) (hn : ndB l) : rowsB l = rowsB m := by
  unfold rowsB
  rw [asc_perm (h.map Prod.fst)]
  refine List.map_congr_left fun t ht => ?_
  obtain ⟨p, hp, rfl⟩ := List.mem_map.mp (mem_asc.mp ht)
  rw [lkE_self (ndB_perm h hn) hp, lkE_self hn (h.mem_iff.mpr hp)]
/-- rows told in their order stay -/
theorem rowsB_fix {l : Bk} (hn : ndB l) (ha : asc (l.map Prod.fst) = l.map Prod.fst) : rowsB l = l := by
  unfold rowsB
  rw [ha, List.map_map]
  have h : l.map ((fun t => (t, ((lkE l t).map Prod.snd).getD false)) ∘ Prod.fst) = l.map id := List.map_congr_left fun p hp => rowsB_at hn hp
  rw [h, List.map_id]
theorem mem_rowsB {l : Bk} (hn : ndB l) {p : Tm × Bool} : p ∈ rowsB l ↔ p ∈ l := by
  unfold rowsB
  constructor
  · intro h
    obtain ⟨t, ht, rfl⟩ := List.mem_map.mp h
    obtain ⟨q, hq, rfl⟩ := List.mem_map.mp (mem_asc.mp ht)
    rw [rowsB_at hn hq]
    exact hq
  · intro h
    exact List.mem_map.mpr ⟨p.1, mem_asc.mpr (List.mem_map.mpr ⟨p, h, rfl⟩), rowsB_at hn h⟩
theorem rowsB_fst (l : Bk) : (rowsB l).map Prod.fst = asc (l.map Prod.fst) := by
  unfold rowsB
  rw [List.map_map]
  exact List.map_id _
theorem ndB_rowsB {l : Bk} (hn : ndB l) : ndB (rowsB l) := by
  unfold ndB
  have h1 : ((rowsB l).map Prod.fst).Nodup := by rw [rowsB_fst]; exact asc_nodup _
  have h2 := List.pairwise_map.mp h1
  refine List.pairwise_map.mpr (h2.imp_of_mem fun hp hq hne e => hne ?_)
  rw [ndB_inj hn ((mem_rowsB hn).mp hp) ((mem_rowsB hn).mp hq) e]
/-- rows told anew, in any order, are the rows -/
theorem rowsB_again {l m : Bk} (hn : ndB l) (h : (rowsB l).Perm m) : rowsB m = rowsB l := by
  rw [← rowsB_perm h (ndB_rowsB hn)]
  exact rowsB_fix (ndB_rowsB hn) (by rw [rowsB_fst]; exact asc_asc _)
end Q
set_option maxHeartbeats 8000000
/-! F28: a term that goes with the words is known by its words in their order. -/
namespace Q
open PySem PySem.Spec PyProof.Rows L2
mutual
theorem flat_cut (wd : Wd) : ∀ (t u : Tm) (x y : List Tx), t.ok wd → u.ok wd → t.flat ++ x = u.flat ++ y → t = u ∧ x = y
  | .nd a ps, .nd b qs, x, y, ht, hu, h => by
    unfold Tm.ok at ht hu
    unfold Tm.flat at h
    rw [List.cons_append, List.cons_append] at h
    obtain ⟨hab, h2⟩ := List.cons.inj h
    clear h
    subst hab
    have hl : ps.length = qs.length := by
      have z := ht.1
      rw [hu.1] at z
      exact (Option.some.inj z).symm
    obtain ⟨rfl, hxy⟩ := flats_cut wd ps qs x y hl ht.2 hu.2 h2
    exact ⟨rfl, hxy⟩
theorem flats_cut (wd : Wd) : ∀ (ps qs : List Tm) (x y : List Tx), ps.length = qs.length → Tm.oks wd ps → Tm.oks wd qs → Tm.flats ps ++ x = Tm.flats qs ++ y → ps = qs ∧ x = y
  | [], [], x, y, _, _, _, h => by
    unfold Tm.flats at h
    rw [List.nil_append, List.nil_append] at h
    exact ⟨rfl, h⟩
  | p :: ps, q :: qs, x, y, hl, hp, hq, h => by
    unfold Tm.oks at hp hq
    unfold Tm.flats at h
    rw [List.append_assoc, List.append_assoc] at h
    obtain ⟨e, h2⟩ := flat_cut wd p q _ _ hp.1 hq.1 h
    subst e
    obtain ⟨rfl, hxy⟩ := flats_cut wd ps qs x y (by simpa using hl) hp.2 hq.2 h2
    exact ⟨rfl, hxy⟩
end
theorem flat_inj {wd : Wd} {t u : Tm} (ht : t.ok wd) (hu : u.ok wd) (h : t.flat = u.flat) : t = u :=
  (flat_cut wd t u [] [] ht hu (by rw [h])).1
/-- answers about different terms that go with the words -/
theorem ndB_of {wd : Wd} {l : Bk} (hok : ∀ p ∈ l, p.1.ok wd) (hn : (l.map Prod.fst).Nodup) : ndB l := by
  unfold ndB
  refine List.pairwise_map.mpr ((List.pairwise_map.mp hn).imp_of_mem fun hp hq hne e => hne ?_)
  exact flat_inj (hok _ hp) (hok _ hq) e
end Q
set_option maxHeartbeats 8000000
/-! F29: pages, line by line. -/
namespace Q
open PySem PySem.Spec PyProof.Rows L2
theorem wordT_no {p : Tx × Nat} (h : isName p.1 = true ∧ p.2 ≤ 3) {k : Nat} (hk : k = 32 ∨ k = 10) : k ∉ wordT p := by
  unfold wordT
  rw [num_le h.2]
  intro hc
  have hl : k ∉ lettersL := by rcases hk with rfl | rfl <;> decide
  rcases List.mem_append.mp hc with hc | hc
  · exact letter_no h.1 hl hc
  · simp only [List.mem_cons, List.not_mem_nil, or_false] at hc
    rcases hk with rfl | rfl <;> omega
theorem words_line {lw : Wd} (h : lw ≠ []) : wordsL ++ wordsT lw = TL.joinL [32] ([119, 111, 114, 100, 115] :: lw.map wordT) := by
  cases lw with
  | nil => exact absurd rfl h
  | cons p lw => rfl
theorem line_spl {lw : Wd} (h : lw ≠ []) (good : ∀ p ∈ lw, isName p.1 = true ∧ p.2 ≤ 3) : TL.spl [32] 0 [] (wordsL ++ wordsT lw) = [119, 111, 114, 100, 115] :: lw.map wordT := by
  rw [words_line h]
  refine SX.spl_join (by simp) fun x hx => ?_
  rcases List.mem_cons.mp hx with rfl | hx
  · decide
  · obtain ⟨p, hp, rfl⟩ := List.mem_map.mp hx
    exact wordT_no (good p hp) (.inl rfl)
theorem line_no {lw : Wd} (good : ∀ p ∈ lw, isName p.1 = true ∧ p.2 ≤ 3) : 10 ∉ wordsL ++ wordsT lw := by
  intro hc
  rcases List.mem_append.mp hc with hc | hc
  · exact absurd hc (by decide)
  · unfold wordsT at hc
    rcases join_mem hc with hc | ⟨x, hx, hc⟩
    · exact absurd hc (by decide)
    · obtain ⟨p, hp, rfl⟩ := List.mem_map.mp hx
      exact wordT_no (good p hp) (.inr rfl) hc
theorem answer_no {p : Tm × Bool} (h : p.1.named) : 10 ∉ answerT p := by
  intro hc
  unfold answerT at hc
  rcases List.mem_append.mp hc with hc | hc
  · revert hc
    cases p.2 <;> decide
  · rcases List.mem_cons.mp hc with hc | hc
    · cases hc
    · exact (tsign_ne (text_signs _ h _ hc)).2 rfl
theorem line_len {lw wd : Wd} (h : OkWd lw wd) : (wordsL ++ wordsT lw).length ≤ 76 := by
  have h1 := wordsT_len (wd := lw) ⟨h.few, h.nd, h.good⟩
  rw [List.length_append]
  have : wordsL.length = 6 := rfl
  omega
/-- a page of a lot whose words and rows are told in any order -/
theorem okDoc {lw wd : Wd} {l : Bk} (hw : OkWd lw wd) (ok : OkLot wd l) (few : l.length < 100) : OkDoc (TL.joinL [10] ((wordsL ++ wordsT lw) :: l.map answerT)) (wordsL ++ wordsT lw) lw wd l := by
  have hW := hw.okW
  have hnm : ∀ p ∈ l, p.1.named := fun p hp => Tm.named_ok (fun q hq => (hW.good q hq).1) _ (ok.good p hp).1
  have hl := line_len hw
  refine ⟨?_, line_spl hw.ne hw.good, ?_, by omega, hw, ok, few⟩
  · refine SX.spl_join (by simp) fun x hx => ?_
    rcases List.mem_cons.mp hx with rfl | hx
    · exact line_no hw.good
    · obtain ⟨p, hp, rfl⟩ := List.mem_map.mp hx
      exact answer_no (hnm p hp)
  · have h1 := join_len [10] ((wordsL ++ wordsT lw) :: l.map answerT)
    have h2 := sum_le (l := l.map answerT) (n := 2210) fun x hx => by
      obtain ⟨p, hp, rfl⟩ := List.mem_map.mp hx
      exact answer_len ⟨(ok.good p hp).2.2.1, Tm.w8_named _ (hnm p hp)⟩
    rw [List.length_map] at h2
    simp only [List.map_cons, List.sum_cons, List.length_cons, List.length_map, List.length_nil] at h1
    omega
/-- a page of rules whose words are told in any order -/
theorem okDocR {lw wd : Wd} {l : List Ru} (hw : OkWd lw wd) (ok : OkRules (wd, l)) : OkDocR (TL.joinL [10] ((wordsL ++ wordsT lw) :: l.map ruleT)) (wordsL ++ wordsT lw) lw wd l := by
  have hW : OkW wd := hw.okW
  have hgood : ∀ r ∈ l, OkRu wd r := ok.good
  have hl := line_len hw
  have hfew : l.length ≤ 40 := ok.few
  refine ⟨?_, line_spl hw.ne hw.good, ?_, by omega, hw, ok⟩
  · refine SX.spl_join (by simp) fun x hx => ?_
    rcases List.mem_cons.mp hx with rfl | hx
    · exact line_no hw.good
    · obtain ⟨r, hr, rfl⟩ := List.mem_map.mp hx
      intro hc
      unfold ruleT at hc
      rcases join_mem hc with hc | ⟨y, hy, hc⟩
      · exact absurd hc (by decide)
      · exact parts_no hW (hgood r hr) (.inr rfl) y hy hc
  · have h1 := join_len [10] ((wordsL ++ wordsT lw) :: l.map ruleT)
    have h2 := sum_le (l := l.map ruleT) (n := 4000) fun x hx => by
      obtain ⟨r, hr, rfl⟩ := List.mem_map.mp hx
      exact rule_len hW (hgood r hr)
    rw [List.length_map] at h2
    simp only [List.map_cons, List.sum_cons, List.length_cons, List.length_map, List.length_nil] at h1
    omega
end Q
set_option maxHeartbeats 8000000
/-! F30: the traits that rules tell. -/
namespace Q
open PySem PySem.Spec PyProof.Rows L2
/-- what [trait for row in rows for trait in (row[0], *[one for wants in row[2] for one in wants])] gives -/
def toldL (l : List Ru) : List Tx := l.flatMap fun r => (r.1 :: r.2.2.flatten).map fun x => x
theorem nodup_len {α : Type} [DecidableEq α] : ∀ {l ts : List α}, l.Nodup → (∀ x ∈ l, x ∈ ts) → l.length ≤ ts.length
  | [], _, _, _ => Nat.zero_le _
  | x :: l, ts, hn, h => by
    rw [List.nodup_cons] at hn
    have hx : x ∈ ts := h x List.mem_cons_self
    have h1 := nodup_len (l := l) (ts := ts.erase x) hn.2 fun y hy => (List.mem_erase_of_ne (fun e => hn.1 (by rw [← e]; exact hy))).mpr (h y (List.mem_cons_of_mem _ hy))
    rw [List.length_erase_of_mem hx] at h1
    have h2 : 0 < ts.length := List.length_pos_of_mem hx
    rw [List.length_cons]
    omega
theorem told_mem {l : List Ru} {ts : List Tx} (h : ∀ r ∈ l, r.1 ∈ ts ∧ ∀ m ∈ r.2.2, ∀ x ∈ m, x ∈ ts) : ∀ x ∈ toldL l, x ∈ ts := by
  intro x hx
  obtain ⟨r, hr, hx⟩ := List.mem_flatMap.mp hx
  obtain ⟨y, hy, rfl⟩ := List.mem_map.mp hx
  rcases List.mem_cons.mp hy with rfl | hy
  · exact (h r hr).1
  · obtain ⟨m, hm, hy⟩ := List.mem_flatten.mp hy
    exact (h r hr).2 m hm y hy
/-- any list of told traits, each once, has at most twelve -/
theorem traits_few {wd : Wd} {l : List Ru} (ok : OkRules (wd, l)) {us : List Tx} (hn : us.Nodup) (hu : ∀ x ∈ us, x ∈ toldL l) : us.length ≤ 12 := by
  obtain ⟨ts, hts, h⟩ := ok.traits
  exact Nat.le_trans (nodup_len hn fun x hx => told_mem h x (hu x hx)) hts
end Q
set_option maxHeartbeats 8000000
/-! F31: told = [trait for row in rows for trait in (row[0], *[one for wants in row[2] for one in wants])] read. -/
namespace Q
open PySem PySem.Spec PyProof.Rows L2
section
variable {P : Program} {w : World} {K : Frag} {mg : Str → Option Value} {base : Heap} {X : Hs} {σ : L2.St} {H : Hp} {te tl : TE} {α : Type} {r : Rel α}
/-- (x, *xs) -/
theorem er_tupStar [m : Mono r] {x : α} {xs : List α} (h1 : Er K X te σ H r x) (h2 : Er K X tl σ H (rLst r) xs) (hz : xs.length < 999999) : Er K X (tTup (tCons te (StX.tStar K tl tNil))) σ H (rTup r) (x :: xs) := fun H1 e dm Q k =>
  h1 H1 e dm _ fun v H2 e2 hv => h2 H2 (e.trans e2) (dm.ex e2) _ fun u H3 e3 ⟨a, vs, hu, hs, hp⟩ => ⟨a, vs, hu, .inr (sql_hid hs), by
    have hl := Paired.len hp
    refine ⟨by rw [List.append_nil, List.length_cons]; exact size_le (by omega), fun p hn => ?_⟩
    refine k _ _ ((e2.trans e3).trans (Evl.Ex.new hn)) ⟨p, v :: vs, rfl, .inl (.inl (by rw [hid_out (((dm.ex e2).ex e3).new hn), upd_same, List.append_nil])), ?_⟩
    exact .cons (m.mono (hid_le (e3.trans (Evl.Ex.new hn))) hv) (Paired.mono (fun _ _ z => m.mono (hid_le (Evl.Ex.new hn)) z) hp)⟩
/-- the traits told, of rows in slot 2, by the slots 4 (row), 6 (trait), 7 (wants), 8 (one) -/
theorem er_told {wi : TI} {l : List Ru} (h0 : σ.length = 9) (hi : Ei K X wi σ H rRu l) (hz : l.length ≤ 40) (hf : ∀ d ∈ l, d.2.2.length ≤ 3 ∧ ∀ m ∈ d.2.2, m.length ≤ 100) :
    Er K X (tLc2 wi (gName 4) tYes (iTup K (tTup (tCons (tOp (rIxT K) (tVar 4) (tC (.int 0))) (StX.tStar K (tLc2 (iTup K (tOp (rIxT K) (tVar 4) (tC (.int 2)))) (gName 7) tYes (iTup K (tVar 7)) (gName 8) tYes (tVar 8) [7, 8] [8]) tNil)))) (gName 6) tYes (tVar 6) [4, 6] [6]) σ H (rLst rTx) (toldL l) := by
  obtain ⟨s0, s1, s2, s3, s4, s5, s6, s7, s8, rfl⟩ : ∃ a b c d e f g h i, σ = [a, b, c, d, e, f, g, h, i] := by
    match σ, h0 with
    | [a, b, c, d, e, f, g, h, i], _ => exact ⟨a, b, c, d, e, f, g, h, i, rfl⟩
  have mR := (inferInstance : Mono rRu)
  have hlen : ∀ d ∈ l, d.2.2.flatten.length ≤ 300 := fun d hd => by
    obtain ⟨h1, h2⟩ := hf d hd
    have h3 : (d.2.2.map List.length).sum ≤ d.2.2.length * 100 := by
      clear h1 hd hf
      generalize d.2.2 = q at h2 ⊢
      induction q with
      | nil => simp
      | cons m q ih =>
        have a1 := h2 m List.mem_cons_self
        have a2 := ih fun y hy => h2 y (List.mem_cons_of_mem _ hy)
        rw [List.map_cons, List.sum_cons, List.length_cons]
        omega
    rw [List.length_flatten]
    omega
  refine er_lc2 (r := rRu) (s := rTx) (t := rTx) (ys := fun d => d.1 :: d.2.2.flatten) (f := fun _ x => x) (by decide) hi (by omega) (fun d hd => by
    have := hlen d hd
    rw [List.length_cons]; omega) (fun d hd Y v H' e hv => ?_) (fun d hd c hc Y v u H' e hv hu => er_var (i := 6) rfl hu)
  refine eix_tup (r := rTx) (er_tupStar (r := rTx) (er_t1 (r := rTx) (s := rTx) (t := rTup (rTup rTx)) (er_var (i := 4) rfl hv) er_int) ?_ (by have := hlen d hd; omega))
  have hd3 := (hf d hd).1
  have hd4 := (hf d hd).2
  refine Er.is (er_lc2 (r := rTup rTx) (s := rTx) (t := rTx) (xs := d.2.2) (ys := fun m => m) (f := fun _ x => x) (by decide) (ei_tup (er_t3 (r := rTx) (s := rTx) (t := rTup (rTup rTx)) (er_var (i := 4) rfl hv) er_int)) (by omega) (fun m hm => by have := hd4 m hm; omega) (fun m hm Y2 v2 H2 e2 hv2 => eix_tup (er_var (i := 7) rfl hv2)) (fun m hm c hc Y2 v2 u2 H2 e2 hv2 hu2 => er_var (i := 8) rfl hu2)) ?_
  simp [List.flatMap]
end
end Q
set_option maxHeartbeats 4000000
/-! Q10: sets of texts: set(list of texts), sorted(set). -/
namespace Q
open PySem PySem.Spec PyProof.Rows L2
abbrev tKd (P : Program) (w : World) := PySem.strKind P w
def keyX (e : Int × Value) : Str := match e.2 with | .str k _ => k | _ => Str.empty
def GoodX (P : Program) (w : World) (e : Int × Value) : Prop := ∃ k tk, e.2 = Value.str k tk ∧ e.1 = (tKd P w).hash k
/-- the set of texts at a -/
def SetX (P : Program) (w : World) (h : Heap) (a : Addr) (S : Str → Bool) (n : Nat) : Prop :=
  ∃ o es ep t, h.get? a = some o ∧ o.ExactSet ∧ o.data = .set es ep t ∧ (∀ e ∈ es.toList, GoodX P w e) ∧ (es.toList.map keyX).Nodup ∧ (∀ k, S k = true ↔ k ∈ es.toList.map keyX) ∧
    es.size < scanBound ∧ t.fits es.size = true ∧ es.size = n ∧ Ris t.place.toList ∧ (w.params.followText "set-order" = true ∨ t.led = true)
section
variable {P : Program} {w : World} {h h' : Heap} {a : Addr} {S : Str → Bool} {n : Nat}
theorem SetX.at (R : SetX P w h a S n) (k : ∀ o, h.get? a = some o → h'.get? a = some o) : SetX P w h' a S n := by
  obtain ⟨o, es, ep, t, ho, r⟩ := R
  exact ⟨o, es, ep, t, k o ho, r⟩
theorem SetX.congr {S' : Str → Bool} {n' : Nat} (R : SetX P w h a S n) (e : ∀ k, S' k = S k) (en : n' = n) : SetX P w h a S' n' := by
  rw [show S' = S from funext e, en]; exact R
theorem goodX_elems {l : List (Int × Value)} (g : ∀ e ∈ l, GoodX P w e) : ElemsOf (tKd P w) l := fun e he => by
  obtain ⟨k, tk, h1, h2⟩ := g e he
  exact ⟨⟨k, by rw [h1]; exact strKind_is P w k tk, h2⟩, by rw [h1] <;> rfl⟩
theorem goodX_is {e : Int × Value} (g : GoodX P w e) (k : Str) : (tKd P w).is k e.2 = true ↔ keyX e = k := by
  obtain ⟨k0, tk, h1, _⟩ := g
  unfold keyX
  rw [h1]
  show ((k0 == k) = true) ↔ k0 = k
  exact beq_iff_eq
theorem goodX_mem {l : List (Int × Value)} (g : ∀ e ∈ l, GoodX P w e) (k : Str) : k ∈ l.map keyX ↔ ∃ e ∈ l, (tKd P w).is k e.2 = true := by
  rw [List.mem_map]
  exact ⟨fun ⟨e, he, q⟩ => ⟨e, he, (goodX_is (g e he) k).2 q⟩, fun ⟨e, he, q⟩ => ⟨e, he, (goodX_is (g e he) k).1 q⟩⟩
end
section
variable {P : Program} {w : World} {A : Around} {E : Value → Shared → Prop} {s : Shared} {a : Addr} {S : Str → Bool} {n : Nat}
theorem setX_tail {g : Bool → Sem Unit} (hg : ∀ (b : Bool) (s₁ : Shared) (Q' : Unit → Shared → Prop), Q' () s₁ → wpAny (model P w) A (g b) Q' E s₁)
    {o : Obj} {es : Array (Int × Value)} {ep : Nat} {t : SetTable} (ho : s.heap.get? a = some o) (hex : o.ExactSet) (hd : o.data = .set es ep t)
    {es1 : Array (Int × Value)} {t2 : SetTable} {S' : Str → Bool} (g1 : ∀ e ∈ es1.toList, GoodX P w e) (nd1 : (es1.toList.map keyX).Nodup) (m1 : ∀ k, S' k = true ↔ k ∈ es1.toList.map keyX)
    (hb1 : es1.size < scanBound) (hf2 : t2.fits es1.size = true) (hr : Ris t2.place.toList) (hl : w.params.followText "set-order" = true ∨ t2.led = true) {wasDummy : Bool} {R : Option Bool → Shared → Prop}
    (hR : ∀ h', Heap.SameBut a s.heap h' → SetX P w h' a S' es1.size → R (some true) { s with heap := h' }) :
    wpAny (model P w) A (do
        storeSet a es1 t2
        if (!wasDummy && t2.tooFull) = true then do
            g (relayAll t2 es1 (SetTable.grown es1.size)).2.2
            storeSet a (relayAll t2 es1 (SetTable.grown es1.size)).1 (relayAll t2 es1 (SetTable.grown es1.size)).2.1
            pure (some true)
          else pure (some true)) R E s := by
  refine wpAny_bind (wpAny_storeSet_of ho hd ?_ (fits_of_scanBound hb1))
  have ho1 := store_at (es' := es1) (t' := t2) ho hd
  have sb1 := Heap.SameBut.update s.heap a (Obj.putSet es1 t2)
  split
  · have pm := relayAll_perm t2 es1 (SetTable.grown es1.size)
    have hf3 := relayAll_fits t2 es1 (SetTable.grown es1.size)
    have hr3 := relayAll_ris t2 es1 (SetTable.grown es1.size)
    have hl3 := relayAll_led t2 es1 (SetTable.grown es1.size)
    generalize relayAll t2 es1 (SetTable.grown es1.size) = Z at pm hf3 hr3 hl3 ⊢
    obtain ⟨es2, t3, gave⟩ := Z
    dsimp only at pm hf3 hr3 hl3 ⊢
    have hsz : es2.size = es1.size := by rw [← Array.length_toList, pm.length_eq, Array.length_toList]
    have hb2 : es2.size < scanBound := by rw [hsz]; exact hb1
    refine wpAny_bind (hg _ _ _ ?_)
    refine wpAny_bind (wpAny_storeSet_of ho1 rfl ?_ (fits_of_scanBound hb2))
    have ho2 := store_at (es' := es2) (t' := t3) ho1 rfl
    refine wpAny_pure (hR _ (sb1.trans (Heap.SameBut.update _ a _)) ?_)
    exact ⟨_, es2, _, t3, ho2, hex, rfl, fun e he => g1 e (pm.mem_iff.mp he), (pm.map keyX).nodup_iff.mpr nd1, fun k => (m1 k).trans (pm.map keyX).mem_iff.symm, hb2, hf3, hsz, hr3,
      hl.imp id fun z => by rw [hl3]; exact z⟩
  · exact wpAny_pure (hR _ sb1 ⟨_, es1, _, t2, ho1, hex, rfl, g1, nd1, m1, hb1, hf2, rfl, hr, hl⟩)

theorem setX_add {k : Str} {tk : Tok} {Q : Bool → Shared → Prop} (R : SetX P w s.heap a S n) (room : n + 1 < scanBound)
    (hQ : ∀ h', Heap.SameBut a s.heap h' → SetX P w h' a (fun j => S j || decide (j = k)) (if S k = true then n else n + 1) → Q (!S k) { s with heap := h' }) :
    wpAny (model P w) A (setAddHashed a (.str k tk) ((tKd P w).hash k)) Q E s := by
  obtain ⟨o, es, ep, t, ho, hex, hd, g, nd, hm, hb, hf, hn, hr, hl⟩ := R
  have hkey : (tKd P w).is k (.str k tk) = true := strKind_is P w k tk
  have hsc : (Value.str k tk).scannable = true := rfl
  have hel : ElemsOf (tKd P w) es.toList := goodX_elems g
  unfold setAddHashed setAddHashedIn
  refine wpAny_holding (wpAny_bind (wpAny_setState_of ho hd hf ?_))
  dsimp only
  rw [byScan_of hsc hb hel]
  simp only [↓reduceIte]
  unfold setAddByScan
  refine wpAny_bind ?_
  refine wpAny_bind (wpAny_rule ?_)
  refine wpAny_bind (wpAny_setScan_of hkey ho hd hf hel ?_)
  cases hfi : List.findIdx? (fun e => (tKd P w).is k e.2) es.toList with
  | some j =>
    dsimp only
    obtain ⟨hj, pj, _⟩ := List.findIdx?_eq_some_iff_getElem.mp hfi
    have hSk : S k = true := (hm k).2 ((goodX_mem g k).2 ⟨es.toList[j], List.getElem_mem hj, pj⟩)
    refine wpAny_pure (wpAny_pure ?_)
    have q := hQ s.heap (Heap.SameBut.refl a s.heap) ⟨o, es, ep, t, ho, hex, hd, g, nd, fun i => by
      rw [Bool.or_eq_true, decide_eq_true_eq, ← hm i]
      exact ⟨fun z => z.elim id (fun e => e ▸ hSk), .inl⟩, hb, hf, by rw [if_pos hSk]; exact hn, hr, hl⟩
    rw [hSk] at q
    exact q
  | none =>
    dsimp only
    have hnk : k ∉ es.toList.map keyX := fun z => by
      obtain ⟨e, he, q⟩ := (goodX_mem g k).1 z
      have c := List.findIdx?_eq_none_iff.mp hfi e he
      rw [q] at c
      cases c
    have hSk : S k = false := by
      cases q : S k with
      | false => rfl
      | true => exact absurd ((hm k).1 q) hnk
    have hgw : ∀ (b : Bool) {s₁ : Shared} {Q' : Unit → Shared → Prop}, Q' () s₁ → wpAny (model P w) A (match b with | true => rule "set.scan.the-table-gave-way" | false => pure ()) Q' E s₁ :=
      fun b s₁ Q' q => by cases b <;> first | exact wpAny_pure q | exact wpAny_rule q
    have pm := layNew_perm t es ((tKd P w).hash k) (.str k tk)
    have hf1 := layNew_fits t es ((tKd P w).hash k) (.str k tk)
    have hr1 := layNew_ris t es ((tKd P w).hash k) (.str k tk) hr
    have hl1 := layNew_led t es ((tKd P w).hash k) (.str k tk)
    generalize layNew t es ((tKd P w).hash k) (.str k tk) = Z at pm hf1 hr1 hl1 ⊢
    obtain ⟨es1, t1, wasDummy, gave⟩ := Z
    dsimp only at pm hf1 hr1 hl1 ⊢
    rw [Array.toList_push] at pm
    have pc : es1.toList.Perm (((tKd P w).hash k, Value.str k tk) :: es.toList) := pm.trans (List.perm_append_singleton _ _)
    have pk : (es1.toList.map keyX).Perm (k :: es.toList.map keyX) := pc.map keyX
    have g1 : ∀ e ∈ es1.toList, GoodX P w e := fun e he => by
      rcases List.mem_cons.mp (pc.mem_iff.mp he) with z | z
      · rw [z]; exact ⟨k, tk, rfl, rfl⟩
      · exact g e z
    have nd1 : (es1.toList.map keyX).Nodup := pk.nodup_iff.mpr (List.nodup_cons.mpr ⟨hnk, nd⟩)
    have m1 : ∀ i, (S i || decide (i = k)) = true ↔ i ∈ es1.toList.map keyX := fun i => by
      rw [Bool.or_eq_true, decide_eq_true_eq, hm i, pk.mem_iff, List.mem_cons]
      exact Or.comm
    have hsz : es1.size = n + 1 := by rw [← Array.length_toList, pc.length_eq, List.length_cons, Array.length_toList, hn]
    have hb1 : es1.size < scanBound := by rw [hsz]; exact room
    have hled : w.params.followText "set-order" = true ∨ t1.led = true := hl.imp id fun z => by rw [hl1]; exact z
    have fin : ∀ h', Heap.SameBut a s.heap h' → SetX P w h' a (fun j => S j || decide (j = k)) es1.size → Q true { s with heap := h' } := fun h' sb r => by
      have q := hQ h' sb
      rw [hSk] at q
      rw [hsz] at r
      exact q r
    refine wpAny_bind (hgw _ ?_)
    split
    · refine wpAny_bind ?_
      rw [hashByValue_scannable 8 hsc]
      refine wpAny_pure ?_
      refine setX_tail ?_ ho hex hd g1 nd1 m1 hb1 ?_ ?_ ?_ ?_
      · intro b s₁ Q' q; cases b <;> first | exact wpAny_pure q | exact wpAny_rule q
      · first | (split <;> first | exact hf1 | exact SetTable.fits_plain_off hf1) | exact hf1
      · first | (split <;> exact hr1) | exact hr1
      · first | (split <;> exact hled) | exact hled
      · intro h' sb r; dsimp only; exact wpAny_pure (fin h' sb r)
    · refine wpAny_bind (wpAny_pure ?_)
      simp only [↓reduceIte]
      refine setX_tail ?_ ho hex hd g1 nd1 m1 hb1 hf1 hr1 hled ?_
      · intro b s₁ Q' q; cases b <;> first | exact wpAny_pure q | exact wpAny_rule q
      · intro h' sb r; dsimp only; exact wpAny_pure (fin h' sb r)
theorem setX_fresh {h : Heap} {a : Addr} (ho : h.get? a = some { cls := .type "set", dict := none, data := .set #[] 0 (.fresh 0 0 (!w.params.followText "set-order")) }) : SetX P w h a (fun _ => false) 0 :=
  ⟨_, #[], 0, _, ho, ⟨rfl, rfl, rfl⟩, rfl, (fun e he => by simp at he), (by simp), (fun k => by simp), (by decide), (by rfl), rfl, List.Pairwise.nil, by
    show _ ∨ (!w.params.followText "set-order") = true
    cases w.params.followText "set-order"
    · exact .inr rfl
    · exact .inl rfl⟩
end
section
variable {P : Program} {w : World} {A : Around} {R : Result → Shared → Prop} {I : Addr} {fp wr : List Addr} {G : Array GenState → Array GenState → Prop} {n : Nat} {Pv : Nat → Value → Prop} {St : Nat → Shared → Prop}
/-- set.update's loop over texts -/
theorem loopX (W : WalksS P w A.in1 I fp wr G n Pv St) (S : Addr) (hSf : S ∉ fp) (xs : List Str) (hsz : xs.length = n) (hb : n + 1 < scanBound)
    (hval : ∀ i v, Pv i v → ∃ y t, xs[i]? = some y ∧ v = .str y t) :
    ∀ (k i : Nat) (s : Shared), n - i = k → i ≤ n → St i s → (∃ m, m ≤ i ∧ SetX P w s.heap S (fun y => decide (y ∈ xs.take i)) m) →
      (∀ s', Moved (S :: wr) G s s' → (∃ m, m ≤ n ∧ SetX P w s'.heap S (fun y => decide (y ∈ xs)) m) → R (.ok (.ret .none)) s') →
      codeAny (model P w) A (.builtin "set.update.loop" ⟨[.ref S, .ref I], []⟩) R s := by
  have hSw : S ∉ wr := fun h => hSf (W.sub _ h)
  have hsub : ∀ b ∈ wr, b ∈ S :: wr := fun b hb => List.mem_cons_of_mem _ hb
  intro k
  induction k with
  | zero =>
    intro i s hk hi hst ⟨m, hm1, hS⟩ hR
    have hin : i = n := by omega
    subst hin
    refine codeAny_builtin PyProof.Rows.F.entry_set_update_loop ?_
    rw [Around.under_plainId PyProof.Rows.F.plain_set_update_loop _]
    show wpAny _ A.in1 (pyNext (.ref I) >>= _) _ _ s
    refine wpAny_bind (W.done s _ _ hst fun s' hm => ?_)
    show wpAny _ A.in1 (ret Value.none) _ _ s'
    refine wpAny_pure (hR s' (hm.mono hsub) ⟨m, hm1, ?_⟩)
    rw [← hsz, List.take_length] at hS
    exact hS.at fun o e => hm.heap S _ hSw e
  | succ k ih =>
    intro i s hk hi hst ⟨m, hm1, hS⟩ hR
    have hlt : i < n := by omega
    refine codeAny_builtin PyProof.Rows.F.entry_set_update_loop ?_
    rw [Around.under_plainId PyProof.Rows.F.plain_set_update_loop _]
    show wpAny _ A.in1 (pyNext (.ref I) >>= _) _ _ s
    refine wpAny_bind (W.item i s _ _ hlt hst fun v s' hP hst' hm => ?_)
    obtain ⟨y, t, hy, rfl⟩ := hval i v hP
    have hS' : SetX P w s'.heap S (fun y => decide (y ∈ xs.take i)) m := hS.at fun o e => hm.heap S _ hSw e
    show wpAny _ A.in1 (holding [Value.str y t] (setAdd S (.str y t)) >>= _) _ _ s'
    refine wpAny_bind (wpAny_holding ?_)
    unfold setAdd
    refine wpAny_holding ?_
    refine wpAny_bind ((tKd P w).pyHash (k := y) (strKind_is _ _ _ _) ?_)
    refine setX_add (s := { s' with toks := s'.toks + 1 }) hS' (by omega) fun h' hsb hS2 => ?_
    have htk : xs.take (i + 1) = xs.take i ++ [y] := by rw [List.take_add_one, hy]; rfl
    have hS3 : ∃ m, m ≤ i + 1 ∧ SetX P w h' S (fun y => decide (y ∈ xs.take (i + 1))) m := by
      refine ⟨_, ?_, hS2.congr (fun z => ?_) rfl⟩
      · split <;> omega
      · rw [htk]
        simp
    refine wpAny_pure ⟨plainId_quiet PyProof.Rows.F.plain_set_update_loop _, ih (i + 1) _ (by omega) hlt (W.frame _ s' _ _ hst' (Nat.le_succ _) fun b hb o e => ?_) hS3 fun s'' hm'' hS'' => ?_⟩
    · rw [hsb.2 b (fun h : b = S => hSf (by rw [← h]; exact hb))]; exact e
    · refine hR s'' (Moved.trans W.gtrans ((hm.mono hsub).then_heap (Nat.le_succ _) fun b o hb e => ?_) hm'') hS''
      rw [hsb.2 b (fun h : b = S => hb (by rw [h]; exact List.mem_cons_self))]; exact e
end
section
variable {P : Program} {w : World} {A : Around} {E : Value → Shared → Prop} {s : Shared}
theorem strs_nth : ∀ {us : List Value} {xs : List Str}, StrsAre us xs → ∀ (i : Nat) (v : Value), us[i]? = some v → ∃ y t, xs[i]? = some y ∧ v = .str y t
  | _, _, .nil, i, v, h => by simp at h
  | _, _, .cons n t hr, 0, v, h => by simp at h; exact ⟨n, t, rfl, h.symm⟩
  | _, _, .cons n t hr, i + 1, v, h => by
    simp only [List.getElem?_cons_succ] at h ⊢
    exact strs_nth hr i v h
set_option maxHeartbeats 8000000 in
theorem call_setX {l : Addr} {items : Array Value} {xs : List Str} {Q : Value → Shared → Prop}
    (hh : A.handled = none) (hl : s.heap.IsList l items) (hi : StrsAre items.toList xs) (hb : xs.length + 1 < scanBound)
    (h : ∀ (h' : Heap) (tk : Nat) (m : Nat), m ≤ xs.length → SetX P w h' s.heap.objs.size (fun y => decide (y ∈ xs)) m →
      (∀ b o, b < s.heap.objs.size → s.heap.get? b = some o → h'.get? b = some o) → Q (.ref s.heap.objs.size) { s with heap := h', toks := tk }) :
    wpAny (model P w) A (call (.type "set") [.ref l]) Q E s := by
  obtain ⟨c, tl, hmro⟩ := F.called_set.mro
  have hmade := F.called_set.made
  have hsub := F.called_set.sub
  refine wpAny_call (codeAny_of_tree ?_)
  show wpAny _ _ (callAny (.type "set") _) _ _ _
  refine wpAny_pure ⟨Code.quiet_builtin _ (by decide +kernel), codeAny_builtin F.entry_type_call ?_⟩
  rw [Around.under_plain (weight_type_call_type "set" [.ref l] []) rfl]
  have h1 := F.called_set.notType
  have h2 := F.called_set.canCreate
  have hct := F.typeCall_set_1 (.ref l)
  repeat (any_goals (first | assumption | wp_step))
  refine codeAny_mono (code_set_led1 (.ref l) (E := E) (Q₁ := fun obj s₁ => obj = .ref s.heap.objs.size ∧ s₁ = { s with heap := s.heap.push { cls := .type "set", dict := none, data := .set #[] 0 (.fresh 0 0 (!w.params.followText "set-order")) } }) ⟨rfl, rfl⟩) fun r s₁ hr => ?_
  cases r with
  | error e => exact hr
  | ok fl =>
    cases fl with
    | ret obj =>
      obtain ⟨rfl, rfl⟩ := hr
      have hS : (s.heap.push { cls := .type "set", dict := none, data := .set #[] 0 (.fresh 0 0 (!w.params.followText "set-order")) }).get? s.heap.objs.size = some { cls := .type "set", dict := none, data := .set #[] 0 (.fresh 0 0 (!w.params.followText "set-order")) } := Heap.get?_push_size _ rfl
      have hT : Shared.TypeIs { s with heap := s.heap.push { cls := .type "set", dict := none, data := .set #[] 0 (.fresh 0 0 (!w.params.followText "set-order")) } } (.ref s.heap.objs.size) "set" := ⟨_, hS, rfl⟩
      have hli := F.called_set.init.lookup
      have hbi := F.called_set.init.bind (.ref s.heap.objs.size)
      repeat (any_goals (first | assumption | wp_step))
      refine codeAny_mono (codeAny_call_builtin (R := wants (fun r s₂ => r = .none ∧ ∃ h' tk m, s₂ = { s with heap := h', toks := tk } ∧ m ≤ xs.length ∧
          SetX P w h' s.heap.objs.size (fun y => decide (y ∈ xs)) m ∧
          (∀ b o, b < s.heap.objs.size → s.heap.get? b = some o → h'.get? b = some o)) E) F.called_set.init.plain F.entry_set_init (check_set_init_1 hT ?_)) fun r₂ s₂ hr₂ => ?_
      · obtain ⟨ol, hol, hcl, nl, hdl⟩ := hl
        obtain ⟨ocls, odict, odata, oslots⟩ := ol
        simp only at hcl hdl
        subst hcl; subst hdl
        have hol' : (s.heap.push { cls := .type "set", dict := none, data := .set #[] 0 (.fresh 0 0 (!w.params.followText "set-order")) }).get? l = some { cls := .type "list", dict := odict, data := .seq items nl, slots := oslots } := Heap.get?_push_of_some _ hol
        have hsls := F.sub_list_set
        have hslf := F.sub_list_frozenset
        have hne : (Value.type "list" == Value.type "dict") = false := by decide
        have hl1 : (s.heap.push { cls := .type "set", dict := none, data := .set #[] 0 (.fresh 0 0 (!w.params.followText "set-order")) }).IsList l items := ⟨_, hol', rfl, nl, rfl⟩
        unfold Builtin.«set.__init__» noKeywords Builtin.Frozenset.updateFrom
        generalize hPI : pyIter = PI
        wp_walk
        subst hPI
        refine wpAny_pyIter_list hl1 ?_
        refine wpAny_bind (wpAny_runValue ?_)
        have hlS : l < s.heap.objs.size := Heap.lt_size hol
        have hh3 : A.in1.in1.in1.handled = none := by simp [hh]
        have hneI : l ≠ (s.heap.push { cls := .type "set", dict := none, data := .set #[] 0 (.fresh 0 0 (!w.params.followText "set-order")) }).objs.size := by
          rw [Heap.size_push]; exact Nat.ne_of_lt (Nat.lt_succ_of_lt hlS)
        have hSf : s.heap.objs.size ∉ [(s.heap.push { cls := .type "set", dict := none, data := .set #[] 0 (.fresh 0 0 (!w.params.followText "set-order")) }).objs.size, l] := by
          rw [Heap.size_push]; simp only [List.mem_cons, List.mem_singleton, List.not_mem_nil, or_false, not_or]
          exact ⟨Nat.ne_of_lt (Nat.lt_succ_self _), Nat.ne_of_gt hlS⟩
        have hsz : xs.length = items.size := by rw [← StrsAre.len_eq hi, Array.length_toList]
        have hval : ∀ (i : Nat) (v : Value), items[i]? = some v → ∃ y t, xs[i]? = some y ∧ v = .str y t := fun i v hv => strs_nth hi i v (by rw [Array.getElem?_toList]; exact hv)
        refine loopX ((Walks.list hh3 _ l hneI items).toS) s.heap.objs.size
          hSf xs hsz (by rw [← hsz]; exact hb) hval (items.size - 0) 0 _ (by omega) (Nat.zero_le _)
          ⟨⟨_, Heap.get?_push_size _ rfl, rfl, rfl⟩, (hl1.push _)⟩ ⟨0, Nat.le_refl _, ?hS0⟩ ?hR
        case hS0 =>
          have hget : ((s.heap.push { cls := .type "set", dict := none, data := .set #[] 0 (.fresh 0 0 (!w.params.followText "set-order")) }).push { cls := .type "list_iterator", data := .fields #[.ref l, .int 0 0] }).get? s.heap.objs.size
              = some { cls := .type "set", dict := none, data := .set #[] 0 (.fresh 0 0 (!w.params.followText "set-order")) } := Heap.get?_push_of_some _ hS
          exact (setX_fresh hget).congr (fun y => by simp) rfl
        case hR =>
          intro s' hm ⟨m, hm1, hS'⟩
          obtain ⟨h', g', d', tk', os'⟩ := s'
          have eg : g' = s.gens := hm.gens
          have ed : d' = s.drawn := hm.drawn
          have eo : os' = s.os := hm.os
          subst eg; subst ed; subst eo
          show wpAny _ _ _ _ _ _
          refine wpAny_pure ?_
          show wpAny _ _ (ret Value.none) _ _ _
          refine wpAny_pure ⟨rfl, h', tk', m, rfl, by rw [hsz]; exact hm1, hS', fun b o hb e => ?_⟩
          have hb1 : b ≠ s.heap.objs.size := Nat.ne_of_lt hb
          have hb2 : b ≠ (s.heap.push { cls := .type "set", dict := none, data := .set #[] 0 (.fresh 0 0 (!w.params.followText "set-order")) }).objs.size := by
            rw [Heap.size_push]; exact Nat.ne_of_lt (Nat.lt_succ_of_lt hb)
          exact hm.heap b o (by simp only [List.mem_cons, List.mem_singleton, List.not_mem_nil, or_false, not_or]; exact ⟨hb1, hb2⟩) (Heap.get?_push_of_some _ (Heap.get?_push_of_some _ e))
      · cases r₂ with
        | error e => exact hr₂
        | ok fl₂ =>
          cases fl₂ with
          | ret r =>
            obtain ⟨rfl, h', tk, m, rfl, hm1, hS', hk'⟩ := hr₂
            repeat (any_goals (first | assumption | wp_step))
            exact h _ _ _ hm1 hS' hk'
          | _ => exact hr₂.elim
    | _ => exact hr.elim

theorem strs_of : ∀ (l : List Value), (∀ v ∈ l, ∃ k tk, v = Value.str k tk) → StrsAre l (l.map strOf)
  | [], _ => .nil
  | v :: l, h => by
    obtain ⟨k, tk, rfl⟩ := h v List.mem_cons_self
    exact .cons k tk (strs_of l fun u hu => h u (List.mem_cons_of_mem _ hu))
theorem sorted_setX {a : Addr} {S : Str → Bool} {n : Nat} {Q : Value → Shared → Prop} (R : SetX P w s.heap a S n) (hh : A.handled = none)
    (hQ : ∀ s' p (out : Array Value) (c : Nat) (ns : List Str), (∀ b o, s.heap.get? b = some o → s'.heap.get? b = some o) → s'.gens = s.gens → s'.os = s.os → s.heap.objs.size ≤ p →
      s'.heap.get? p = some (seqObj "list" out c) → StrsAre out.toList ns → sortedS ns = true → ns.Nodup → (∀ k, k ∈ ns ↔ S k = true) → ns.length = n → Q (.ref p) s') :
    wpAny (model P w) A (call (.builtin "sorted") [.ref a]) Q E s := by
  obtain ⟨o, es, ep, t, ho, hex, hd, g, nd, hm, hb, hf, hn, hr, hl⟩ := R
  refine Calls.call_function_entry kind_sorted plain_sorted entry_sorted (args_sorted1 _) ?_
  unfold Builtin.«sorted»
  refine wpAny_bind (m := checkCount "sorted" 1 1 _) (wpAny_pure ?_)
  refine wpAny_bind (collect_set (A := A.in1) hh ⟨o, ho, hex.1, hd⟩ hf hb hr hl fun s1 vs k1 hz g1 o1 pm => ?_)
  have hvl : vs.length = n := by rw [pm.length_eq, List.length_map, Array.length_toList]; exact hn
  have hI : StrsAre vs (vs.map strOf) := strs_of vs fun v hv => by
    obtain ⟨e, he, q⟩ := List.mem_map.mp (pm.mem_iff.mp hv)
    obtain ⟨k, tk, h1, _⟩ := g e he
    exact ⟨k, tk, by rw [← q]; exact h1⟩
  have pk : (vs.map strOf).Perm (es.toList.map keyX) := by
    have q := pm.map strOf
    rw [List.map_map] at q
    refine q.trans (List.Perm.of_eq (List.map_congr_left fun e he => ?_))
    obtain ⟨k, tk, h1, _⟩ := g e he
    show strOf e.2 = keyX e
    unfold keyX
    rw [h1]
    rfl
  have hsz : vs.length ≤ sizeLine := by rw [hvl, ← hn]; exact fits_of_scanBound hb
  refine wpAny_bind (wpAny_newList ?_ hsz)
  have hoL : (s1.heap.push (seqObj "list" vs.toArray 0)).get? s1.heap.objs.size = some (seqObj "list" vs.toArray 0) := Heap.get?_push_size _ rfl
  refine wpAny_bind (wpAny_holding (wpAny_call_entry slot_list_sort ⟨_, hoL, rfl⟩ entry_list_sort (list_sort_treeKAny strKind_oneLt hoL hI.keysOf (fun v₁ v₂ rest e => keyKind_strs (by rw [← e]; exact hI)) hsz fun st' hp hs => ?_) (args_list_sort _)))
  obtain ⟨ns', a1, a2, a3⟩ := sorted_out_str hI hp hs
  refine ⟨_, rfl, ?_⟩
  obtain ⟨c, hc⟩ := sortedHeap_at (vs := vs) (out := ((arrOf st').map (·.2))) hoL
  have pn : ns'.Perm (es.toList.map keyX) := a2.trans pk
  refine wpAny_pure ⟨_, rfl, hQ _ s1.heap.objs.size _ c ns' (fun b u e => ?_) g1 o1 hz hc a1 a3 (pn.nodup_iff.mpr nd) (fun k => by rw [pn.mem_iff, ← hm k]) ?_⟩
  · have q := k1 b u e
    have hlt := Heap.lt_size q
    show (sortedHeap (s1.heap.push (seqObj "list" vs.toArray 0)) s1.heap.objs.size vs _).get? b = some u
    rw [sortedHeap_old (Nat.ne_of_lt hlt) (by rw [size_push']; exact Nat.lt_succ_of_lt hlt)]
    exact Heap.get?_push_of_some _ q
  · rw [pn.length_eq, List.length_map, Array.length_toList]; exact hn
end
/-- the set of texts at a -/
def SetXO (P : Program) (w : World) (a : Addr) (S : Str → Bool) (n : Nat) : HO := .ext fun h => SetX P w h a S n
section
variable {X : Cx}
theorem setXO_new {w : World} {P : Program} {H : Hp} {h : Heap} {a : Addr} {S : Str → Bool} {n : Nat} (R : SetX P w h a S n) : ObjOk P w H h a (SetXO P w a S n) := by
  have ⟨o, _, _, _, ho, _⟩ := R
  exact ⟨R, ⟨o, ho⟩, fun h1 h2 p k => SetX.at p k⟩
theorem setXO_get {pins : List (Addr × Obj)} {σ : L2.St} {H : Hp} {s : Shared} {a : Addr} {S : Str → Bool} {n : Nat} (I : Inv X pins σ H s) (ha : H a = some (SetXO X.prog X.w a S n)) : SetX X.prog X.w s.heap a S n := (I.hok a _ ha).1
/-- set(xs), xs a list of texts -/
def rSetOfX (P : Program) (w : World) (K : Frag) : List V → Hp → VK → Prop := fun vs H Q => ∃ a, ∃ ys : List Str, vs = [V.ref a] ∧ SqL K H a (ys.map V.str) ∧ ys.length < 4000 ∧
  ∀ p m, H p = none → m ≤ ys.length → Q (.ref p) (upd H p (SetXO P w p (fun y => decide (y ∈ ys)) m))
theorem cr_setOfX (hc : X.calm = true) : CallR X (.type "set") (rSetOfX X.prog X.w X.K) := by
  intro pins s σ H vs us Q I r h
  obtain ⟨a, ys, rfl, hs, hz, q⟩ := h
  rw [Vals.ref1 r]
  obtain ⟨its, rv, pl, hlz⟩ := I.list hs
  refine call_setX (I.ok.hd hc) pl.isList (by simpa using strsAre_of rv) (by unfold scanBound; omega) fun h' tk m hm hS hk => ?_
  exact ⟨.ref _, upd H s.heap.objs.size (SetXO X.prog X.w s.heap.objs.size (fun y => decide (y ∈ ys)) m), I.laid (t' := tk) (fun b u e => hk b u (Heap.lt_size e) e) (Nat.le_refl _) (setXO_new hS), rfl, q _ m (I.hok.fresh (Nat.le_refl _)) hm⟩
/-- sorted(found) -/
def rSortedX (P : Program) (w : World) : List V → Hp → VK → Prop := fun vs H Q => ∃ (a : Addr) (S : Str → Bool) (n : Nat), vs = [V.ref a] ∧ H a = some (SetXO P w a S n) ∧ n ≤ 4000 ∧
  ∀ (ns : List Str) (p : Addr), sortedS ns = true → ns.Nodup → (∀ k : Str, k ∈ ns ↔ S k = true) → ns.length = n → H p = none → Q (.ref p) (upd H p (.lst (ns.map V.str)))
theorem vals_strs : ∀ {us : List Value} {ns : List Str}, StrsAre us ns → Vals (ns.map V.str) us
  | _, _, .nil => .nil
  | _, _, .cons y t r => .cons ⟨t, rfl⟩ (vals_strs r)
theorem cr_sortedX (hc : X.calm = true) : CallR X (.builtin "sorted") (rSortedX X.prog X.w) := by
  intro pins s σ H vs us Q I r h
  obtain ⟨a, S, n, rfl, ha, h64, q⟩ := h
  have R := setXO_get I ha
  rw [Vals.ref1 r]
  refine sorted_setX R (I.ok.hd hc) fun s' p out c ns k g o hp hg hi hs hnd hm hl => ?_
  have hlen : (ns.map V.str).length ≤ sizeLine := by rw [List.length_map, hl, sizeLine_eq]; omega
  have hn : H p = none := I.hok.fresh hp
  have J : Inv X pins σ (upd H p (.lst (ns.map V.str))) { s with heap := s'.heap, gens := s'.gens, drawn := s'.drawn, toks := s'.toks } :=
    I.call (ch := []) (Un.laid k hp hn) (I.hok.laid k hp ⟨hlen, out.toList, c, vals_strs hi, hg⟩) (by rw [g]; exact I.bare) (fun _ z => nomatch z)
  have e : s' = { s with heap := s'.heap, gens := s'.gens, drawn := s'.drawn, toks := s'.toks } := by
    cases s'
    cases s
    cases o
    rfl
  rw [e]
  exact ⟨.ref p, _, J, rfl, q ns p hs hnd hm hl hn⟩
end
section
variable {P : Program} {w : World} {K : Frag} {X : Hs} {σ : L2.St} {H : Hp} {te ta tb : TE}
/-- the texts of a list, each once, in order -/
def leTx (a b : Tx) : Bool := !decide (b < a)
def onceL : List Tx → List Tx
  | [] => []
  | x :: l => if x ∈ l then onceL l else x :: onceL l
theorem onceL_mem : ∀ {xs : List Tx} {x : Tx}, x ∈ onceL xs ↔ x ∈ xs
  | [], x => Iff.rfl
  | y :: l, x => by
    unfold onceL
    split
    · rw [onceL_mem, List.mem_cons]
      exact ⟨.inr, fun h => h.elim (fun e => by rw [e]; assumption) id⟩
    · rw [List.mem_cons, List.mem_cons, onceL_mem]
theorem onceL_nodup : ∀ xs : List Tx, (onceL xs).Nodup
  | [] => List.nodup_nil
  | y :: l => by
    unfold onceL
    split
    · exact onceL_nodup l
    · exact List.nodup_cons.mpr ⟨fun z => by rw [onceL_mem] at z; contradiction, onceL_nodup l⟩
def onceTx (xs : List Tx) : List Tx := (onceL xs).mergeSort leTx
theorem onceTx_mem {xs : List Tx} {x : Tx} : x ∈ onceTx xs ↔ x ∈ xs := by
  unfold onceTx
  rw [(List.mergeSort_perm _ _).mem_iff, onceL_mem]
theorem onceTx_nodup (xs : List Tx) : (onceTx xs).Nodup := (List.mergeSort_perm _ _).nodup_iff.mpr (onceL_nodup xs)
theorem onceTx_srt (xs : List Tx) : Srt (onceTx xs) := by
  have h := List.pairwise_mergeSort (le := leTx) (fun a b c h1 h2 => by
    unfold leTx at *
    simp only [Bool.not_eq_true', decide_eq_false_iff_not] at *
    exact lt_tr h1 h2) (fun a b => by
    unfold leTx
    by_cases h : b < a
    · have h2 : ¬ a < b := fun z => List.lt_irrefl a (List.lt_trans z h)
      simp [h2]
    · simp [h]) (onceL xs)
  exact h.imp fun z => by
    unfold leTx at z
    simpa using z
/-- sorted(set(te)), texts -/
theorem er_sortedSetX {xs : List Tx} (h : Er K X te σ H (rLst rTx) xs) (hz : xs.length < 4000) : Er K X (tCB (rSortedX P w) (tCons (tCB (rSetOfX P w K) (tCons te tNil)) tNil)) σ H (rLst rTx) (onceTx xs) := fun H1 e dm Q k =>
  h H1 e dm _ fun v H2 e2 ⟨a, vs, ev, hs, hp⟩ => by
    have ht := vals_tx hp
    refine ⟨a, xs.map S, by rw [ev], by rw [← ht]; exact sql_hid hs, by rw [List.length_map]; exact hz, fun p m hn hm => ⟨p, _, m, rfl, upd_same, by rw [List.length_map] at hm; omega, fun ns q hso hnd hmem _ hq => ?_⟩⟩
    have hpe : ns.Perm ((onceTx xs).map S) := by
      have nd2 : ((onceTx xs).map S).Nodup := (onceTx_nodup xs).map S (fun a b hab z => hab (SX.S_inj z))
      refine (List.perm_ext_iff_of_nodup hnd nd2).mpr fun z => ?_
      rw [hmem z]
      simp only [decide_eq_true_eq, List.mem_map, onceTx_mem]
    have hns : ns = (onceTx xs).map S := srtS_uniq hpe hso (List.Perm.refl _) (onceTx_srt xs)
    subst hns
    have E2 : Ex H2 (upd (upd H2 p (SetXO P w p (fun y => decide (y ∈ xs.map S)) m)) q (.lst (((onceTx xs).map S).map V.str))) := Evl.Ex.trans (Evl.Ex.new hn) (Evl.Ex.new hq)
    have hpq : H2 q = none := by
      by_cases z : q = p
      · rw [z, upd_same] at hq; cases hq
      · rw [upd_ne z] at hq; exact hq
    refine k _ _ (e2.trans E2) ⟨q, _, rfl, .inl (.inl (by rw [hid_out ((dm.ex e2).new hpq), upd_same])), ?_⟩
    rw [List.map_map]
    exact Paired.of_map (f := V.str ∘ S) (fun _ => rfl) _
end
end Q
set_option maxHeartbeats 8000000
/-! F32: Rules.__init__. -/
namespace Q
open PySem PySem.Spec PyProof.Rows L2
section
variable {P : Program} {w : World} {K : Frag} {mg : Str → Option Value} {base : Heap} {X : Hs} {σ : L2.St} {H : Hp} {te tl : TE} {C Cw : Addr}
theorem flat_le {q : List (List Tx)} (h2 : ∀ m ∈ q, m.length ≤ 20) : q.flatten.length ≤ q.length * 20 := by
  induction q with
  | nil => simp
  | cons m q ih =>
    have a1 := h2 m List.mem_cons_self
    have a2 := ih fun y hy => h2 y (List.mem_cons_of_mem _ hy)
    rw [List.flatten_cons, List.length_append, List.length_cons]
    omega
theorem told_len {l : List Ru} (h : l.length ≤ 40) (hf : ∀ d ∈ l, d.2.2.length ≤ 3 ∧ ∀ m ∈ d.2.2, m.length ≤ 20) : (toldL l).length < 4000 := by
  have k : (toldL l).length ≤ l.length * 61 := by
    clear h
    unfold toldL
    induction l with
    | nil => simp
    | cons d l ih =>
      obtain ⟨a1, a2⟩ := hf d List.mem_cons_self
      have a3 := ih fun y hy => hf y (List.mem_cons_of_mem _ hy)
      have a4 := flat_le a2
      rw [List.flatMap_cons, List.length_append, List.length_map, List.length_cons, List.length_cons]
      omega
  omega
abbrev NRulesInit : List Str := ["self", "words", "rows", "at", "row", "told", "trait", "wants", "one"]
theorem scRulesInit : FnScope NRulesInit ["self", "words", "rows"] (defScope sRulesInit) := ⟨rfl, rfl, rfl, by decide +kernel, rfl, by decide +kernel, by decide +kernel⟩
theorem ok_rulesInit (B : Bi mg) (G : Gs mg) (T : OwnR K mg C) (c_need_words : Kp P w K mg base 1 "need_words" ["value"] (spNeedWords K Cw)) (c_is_rule : Kp P w K mg base 2 "is_rule" ["words", "value"] (spIsRule K Cw))
    (D : Mth K C "__init__" "Rules.__init__" sRulesInit ["self", "words", "rows"]) : KpM P w K mg base 4 C "__init__" ["self", "words", "rows"] (spRulesInit K Cw C) :=
  D.kp fun f fd c F => F.ok scRulesInit (fun vs H Q E ⟨a, dx, wv, lv, wd, l, X, e, _⟩ => by rw [e]; rfl) fun cdv A outer s H vs Q E hr ⟨a, dx, wv, lv, wd, l, X, e, ha, hXa, dm, hw, hl, ok, q⟩ => by
    subst e
    refine ⟨_, (pss_cons (ps_expr (pe_kp c_need_words hr (by decide) (pa_cons (pv 1) pa_nil)))
    (pss_cons (ps_if (pt_not (pt_val (pe_callB call_isiT rfl B.isinstance (by decide +kernel) (pa_cons (pv 2) (pa_cons (pe_tup (pa_cons (pe_bltn (v := .ty "list") (u := .type "list") rfl B.list (by decide +kernel) rfl) (pa_cons (pe_bltn (v := .ty "tuple") (u := .type "tuple") rfl B.tuple (by decide +kernel) rfl) pa_nil))) pa_nil))))) (pss_one ps_never) pss_nil)
    (pss_cons (ps_if (pt_cmpR op_gt (pe_callB call_len rfl B.len (by decide +kernel) (pa_cons (pv 2) pa_nil)) (C8.pe_gc rfl G.MOST_RULES) (nomark _)) (pss_one ps_never) pss_nil)
    (pss_cons (ps_for PassesOwn.never rfl (pi_enum (by rfl) B.enumerate (pa_cons (pv 2) pa_nil)) (pg_tup rfl (pgs_cons (pg_name (i := 3) scRulesInit.nd rfl (.inl rfl)) (pgs_cons (pg_name (i := 4) scRulesInit.nd rfl (.inl rfl)) pgs_nil))) (pss_one (ps_if (pt_not (pt_val (pe_kp c_is_rule hr (by decide) (pa_cons (pv 1) (pa_cons (pv 4) pa_nil))))) (pss_one ps_never) pss_nil)))
    (pss_cons (ps_setLc2 (i := 5) (own := [("row", 4), ("trait", 6)]) (vs1 := [6]) (g := gName 4) (tt := tYes) (wi1 := iTup K (tTup (tCons (tOp (rIxT K) (tVar 4) (tC (.int 0))) (StX.tStar K (tLc2 (iTup K (tOp (rIxT K) (tVar 4) (tC (.int 2)))) (gName 7) tYes (iTup K (tVar 7)) (gName 8) tYes (tVar 8) [7, 8] [8]) tNil)))) (g1 := gName 6) (tt1 := tYes) (te := tVar 6) rfl scRulesInit.nd rfl rfl (sw_true rfl rfl rfl (by decide +kernel)) (pi_list (pv 2)) (blkOk_by (N := NRulesInit) (sc := defScope sRulesInit) (by decide +kernel)) (by decide) (fun _ _ _ _ _ => pg_name (i := 4) scRulesInit.nd rfl (.inl rfl)) (fun _ _ _ _ _ => pts_nil) (fun _ _ _ _ _ => pi_tup (pe_tup (pa_cons (pe_ix ix_tup (pv 4) pe_int (fun _ _ => rfl)) (StX.pa_star (pe_lc2 (own := [("wants", 7), ("one", 8)]) (vs1 := [8]) (g := gName 7) (tt := tYes) (g1 := gName 8) (tt1 := tYes) (te := tVar 8) rfl scRulesInit.nd (pi_tup (pe_ix ix_tup (pv 4) pe_int (fun _ _ => rfl))) (blkOk_by (N := NRulesInit) (by rfl)) (by decide) (fun _ _ _ _ _ => pg_name (i := 7) scRulesInit.nd rfl (.inl rfl)) (fun _ _ _ _ _ => pts_nil) (fun _ _ _ _ _ => pi_tup (pv 7)) (fun _ _ _ _ _ => pg_name (i := 8) scRulesInit.nd rfl (.inl rfl)) (fun _ _ _ _ _ => pts_nil) (fun _ _ _ _ _ => pv 8)) pa_nil)))) (fun _ _ _ _ _ => pg_name (i := 6) scRulesInit.nd rfl (.inl rfl)) (fun _ _ _ _ _ => pts_nil) (fun _ _ _ _ _ => pv 6))
    (pss_cons (ps_fld (pv 0) (pv 1) rfl)
    (pss_cons (ps_fld (pv 0) (pe_callTy call_tuple_of rfl B.tuple (by decide +kernel) (pa_cons (pv 2) pa_nil)) rfl)
    (pss_cons (ps_fld (pv 0) (pe_callTy call_tuple_of rfl B.tuple (by decide +kernel) (pa_cons (pe_callB (cr_sortedX rfl) rfl B.sorted (by decide +kernel) (pa_cons (pe_callTy (cr_setOfX rfl) rfl B.set (by decide +kernel) (pa_cons (pv 5) pa_nil)) pa_nil)) pa_nil)) rfl)
    (pss_one (ps_if (pt_cmpR op_gt (pe_callB call_len rfl B.len (by decide +kernel) (pa_cons (pe_fld (pv 0) rfl) pa_nil)) (C8.pe_gc rfl G.MOST_TRAITS) (nomark _)) (pss_one ps_never) pss_nil)))))))))), ?_⟩
    have mW := (inferInstance : Mono (rWds Cw))
    have mL := (inferInstance : Mono (rLst rRu))
    have hfew : l.length ≤ 40 := ok.few
    have hflat : ∀ d ∈ l, d.2.2.length ≤ 3 ∧ ∀ m ∈ d.2.2, m.length ≤ 20 := fun d hd => ⟨(ok.good d hd).few, fun m hm => ((ok.good d hd).wants m hm).1⟩
    refine st_drop (r := rNon) (x := ()) (er_call1 (r := rWds Cw) (f := fun _ => ()) (x := wd) (er_var rfl hw) trivial) dm fun _ H1 e1 _ => ?_
    have dm1 := dm.ex e1
    refine st_skip (X := X) (et_not (a := true) (et_B (er_isiLT (xs := l) (er_var rfl (mL.mono (hid_le e1) hl))))) dm1 fun H2 e2 => ?_
    have dm2 := dm1.ex e2
    have l2 := mL.mono (hid_le (e1.trans e2)) hl
    refine st_skip (X := X) (et_test (Er.is (er_cmp0 (K := K) (g := fun i j => decide (j < i)) (er_lenL (r := rRu) (xs := l) (er_var rfl l2)) er_int) (decide_eq_false (by omega)))) dm2 fun H3 e3 => ?_
    have dm3 := dm2.ex e3
    have E3 := (e1.trans e2).trans e3
    have l3 := mL.mono (hid_le E3) hl
    have w3 := mW.mono (hid_le E3) hw
    dsimp only
    refine sq ?_
    refine st_for (K := K) (X := X) (r := rPr rInt rRu) (xs := ((List.range l.length).map fun j => ((j : Nat) : Int)).zip l) (fun Bh k σ' H' => (∃ x y, σ' = [some (.ref a), some wv, some lv, x, y, none, none, none, none]) ∧ Ex Bh H')
      (ei_enum (er_var rfl l3)) dm3 (fun Bh eB => ⟨⟨_, _, rfl⟩, Evl.Ex.refl _⟩) (fun Bh n σ' H' _ h => h.2) ?_ ?_
    · rintro Bh n x σ' H' eB hx ⟨⟨x0, y0, rfl⟩, e4⟩ v H4 e5 hv
      have dm4 := ((dm3.ex eB).ex e4)
      have hv' := hv X (hid_ex (e4.trans e5)) dm4
      obtain ⟨z, p⟩ := x
      rw [List.getElem?_zip_eq_some] at hx
      have hp : l[n]? = some p := hx.2
      refine eg_pr (r := rInt) (s := rRu) (x := z) (y := p) _ v H4 hv' _ fun σ2 ⟨v1, v2, eσ, hv1, hv2⟩ => ?_
      subst eσ
      have w4 := mW.mono (hid_le ((eB.trans e4).trans e5)) w3
      refine st_skip (X := X) (et_not (a := true) (et_B (er_call2 (r := rWds Cw) (s := rRu) (f := fun _ => true) (x := wd) (y := p) (er_var rfl w4) (er_var rfl hv2) (ok.good p (List.mem_of_getElem? hp))))) (dm4.ex e5) fun H5 e6 => ?_
      exact ⟨⟨_, _, rfl⟩, (e4.trans e5).trans e6⟩
    · rintro Bh σ' H4 eB ⟨⟨x0, y0, rfl⟩, e4⟩
      have E4 := (E3.trans eB).trans e4
      have dm4 := dm.ex E4
      have l4 := mL.mono (hid_le E4) hl
      refine sq (st_set (K := K) (X := X) (r := rLst rTx) (x := toldL l) (er_told rfl (ei_list (er_var (i := 2) rfl l4)) hfew fun d hd => ⟨(hflat d hd).1, fun m hm => Nat.le_trans ((hflat d hd).2 m hm) (by decide)⟩) dm4 fun tv H5 e5 htv => ?_)
      have E5 := E4.trans e5
      have dm5 := dm.ex E5
      dsimp only
      refine st_fld (r := rIs) (x := wv) rfl (E5 _ _ ha) T.ins.cl (T.na _ (by simp)) (by decide) (er_var rfl rfl) dm5 fun v6 H6 e6 hv6 => ?_
      have hv6 : v6 = wv := hv6
      subst hv6
      generalize hG6 : upd H6 a (.ins C dx (putF "words" v6 [])) = G6
      have off6 : Off a H5 G6 := fun b o hb q' => by rw [← hG6, upd_ne hb]; exact e6 _ _ q'
      have g6 : G6 a = some (.ins C dx [("words", v6)]) := by rw [← hG6, upd_same]; rfl
      have dm6 : Dm X G6 := dm5.off' off6 (by rw [g6]; exact fun z => nomatch z)
      have ee6 : Ex (hid X H) (hid X G6) := Evl.Ex.trans (hid_ex E5) (hid_off off6 hXa)
      have l6 := mL.mono ee6.le hl
      refine st_fld (r := rTup rRu) (x := l) rfl g6 T.ins.cl (T.na _ (by simp)) (by show 1 < 1000; decide) (er_tupL (er_var (i := 2) rfl l6)) dm6 fun rv H7 e7 hrv => ?_
      generalize hG7 : upd H7 a (.ins C dx (putF "rows" rv [("words", v6)])) = G7
      have off7 : Off a G6 G7 := fun b o hb q' => by rw [← hG7, upd_ne hb]; exact e7 _ _ q'
      have g7 : G7 a = some (.ins C dx [("words", v6), ("rows", rv)]) := by rw [← hG7, upd_same]; rfl
      have dm7 : Dm X G7 := dm6.off' off7 (by rw [g7]; exact fun z => nomatch z)
      have ee7 : Ex (hid X H5) (hid X G7) := Evl.Ex.trans (hid_off off6 hXa) (hid_off off7 hXa)
      have hrv7 : rTup rRu K (hid X G7) rv l := by rw [← hG7, hid_upd hXa]; exact hrv
      have htv7 := (inferInstance : Mono (rLst rTx)).mono ee7.le htv
      have hlen : (toldL l).length < 4000 := told_len hfew hflat
      refine st_fld (r := rTup rTx) (x := onceTx (toldL l)) rfl g7 T.ins.cl (T.na _ (by simp)) (by show 2 < 1000; decide) (er_tupL (er_sortedSetX (er_var (i := 5) rfl htv7) hlen)) dm7 fun sv H8 e8 hsv => ?_
      generalize hG8 : upd H8 a (.ins C dx (putF "traits" sv [("words", v6), ("rows", rv)])) = G8
      have off8 : Off a G7 G8 := fun b o hb q' => by rw [← hG8, upd_ne hb]; exact e8 _ _ q'
      have g8 : G8 a = some (.ins C dx [("words", v6), ("rows", rv), ("traits", sv)]) := by rw [← hG8, upd_same]; rfl
      have dm8 : Dm X G8 := dm7.off' off8 (by rw [g8]; exact fun z => nomatch z)
      have hsv8 : rTup rTx K (hid X G8) sv (onceTx (toldL l)) := by rw [← hG8, hid_upd hXa]; exact hsv
      have hfw : (onceTx (toldL l)).length ≤ 12 := traits_few ok (onceTx_nodup _) fun x hx => onceTx_mem.mp hx
      refine st_skip (X := X) (et_test (Er.is (er_cmp0 (K := K) (g := fun i j => decide (j < i)) (er_lenT (r := rTx) (xs := onceTx (toldL l)) (er_fldOwn (i := 0) rfl g8 T.ins.cl (T.na _ (by simp)) rfl hsv8)) er_int) (decide_eq_false (by omega)))) dm8 fun H9 e9 => ?_
      refine q rv sv H9 (fun b o hb q' => e9 _ _ (off8 _ _ hb (off7 _ _ hb (off6 _ _ hb (E5 _ _ q'))))) (e9 _ _ g8) ((inferInstance : Mono (rTup rRu)).mono (Evl.Ex.trans (hid_off off8 hXa) (hid_ex e9)).le hrv7)
end
end Q
set_option maxHeartbeats 4000000
/-! Q11: an own exception over ValueError (by own classes) whose __init__ says super().__init__(text); self.f = y. -/
namespace Q
open PySem PySem.Spec PyProof.Rows L2 NdefX LamX
abbrev vei : Value := .builtin "ValueError.__init__"
/-- what the written part says of such a class and its __init__ -/
structure ExI (P : Program) (K : Frag) (C : Addr) (qual : Str) (st : Stmt) (fI : Addr) (fd : FuncData) : Prop where
  oex : OexC K C
  iC : PySem.W.findIn K (.ref C) "__init__" = some (some (.ref fI))
  tI : PySem.W.typeIn K (.ref fI) = some (.type "function")
  fn : ∃ (oc : Value) (od : Option Addr) (doc pm : Value) (cda cc : Addr) (vs : Array Value) (file : Str) (tf : Tok) (ccl : Value) (cdd : Option Addr) (ccs : Array (Option Value)) (ct : Value) (osl : Array (Option Value)) (cl : Value) (cld : Option Addr) (csl : Array (Option Value)),
    fd = PySem.W.fnX "__init__" qual (C8.fnArgs st) (C8.fnBody st) (C8.fnScope st) [("__class__", cc)] .none .none doc pm none (.ref cda) ct ∧ K.lookup fI = some ⟨oc, od, .func fd, osl⟩ ∧ PySem.W.codeIn K (.ref cda) qual = true ∧
    K.lookup cda = some ⟨ccl, cdd, .fields vs, ccs⟩ ∧ vs[2]? = some (.str file tf) ∧ ((P.main.file : Str) == file) = true ∧ K.lookup cc = some ⟨cl, cld, .cell (some (.ref C)), csl⟩
  any : PySem.W.nsIn K cStatics "thirdparty.any" = some none
  sup : PySem.W.ks_superIn K C C "__init__" = some (some vei)
  sub : PySem.W.subIn K (.ref C) (.type "ValueError") = some true
  mro : PySem.W.mroIn K C (.ref C) = some true
section
variable {prog : Program} {w : World} {A : Around} {E : Value → Shared → Prop} {h : Heap} {g : Array GenState} {d : Drawn} {t : Nat} {os : OsState}
/-- the bound ValueError.__init__ called -/
theorem call_bwV {K : Frag} {C u e t0 : Addr} {rest : List Value} {Q : Value → Shared → Prop} (T : OexC K C) (X : K.In h) (he : h.get? e = some (PySem.HandSPX.excO C t0)) (hu : h.get? u = some (PySem.W.kxs_mw "ValueError.__init__" e)) (hrest : rest.length ≤ sizeLine)
    (hq : ∀ h' t1, (∀ b o, b ≠ e → h.get? b = some o → h'.get? b = some o) → h'.get? e = some (PySem.HandSPX.excO C t1) → Q .none ⟨h', g, d, t, os⟩) :
    wpAny (model prog w) A (call (.ref u) rest) Q E ⟨h, g, d, t, os⟩ := by
  obtain ⟨nm, q, N, bs, bm, sn, sub, ab, col, dd, k0, k1, k2, k3, k5, hC, hbm⟩ := T.cls
  refine wpAny_call (codeAny_of_tree ?_)
  show wpAny _ A.in1 (callAny (.ref u) ⟨rest, []⟩) _ _ _
  simp only [callAny]
  refine wpAny_bind (wpAny_load hu ?_)
  simp only [PySem.W.kxs_mw, show (Value.type "method-wrapper" == Value.type "method" || Value.type "method-wrapper" == Value.type "builtin_function_or_method" || Value.type "method-wrapper" == Value.type "method-wrapper") = true by decide, if_true]
  refine PySem.W.KFB.if_so (by decide) ?_
  refine wpAny_bind (PySem.W.check_bound_init F.excBase_ValueError.toExcCallFacts (X _ _ hC) he rfl ?_)
  refine wpAny_bind (wpAny_pure (wpAny_pure ?_))
  refine ⟨plainId_quiet F.excBase_ValueError.init.plain _, codeAny_builtin F.excBase_ValueError.initEntry ?_⟩
  exact PySem.W.exc_init_tree (cls := .ref C) (t0 := t0) (dv := none) (c2 := .none) (c3 := .none) (b4 := .bool false) he hrest fun h' k e' _ => hq h' _ k e'
end
/-- super().__init__(text) where it stands in the __init__ -/
theorem super_init {X : Cx} {pins : List (Addr × Obj)} {σ : L2.St} {H : Hp} {s : Shared} {C a f cda cc : Addr} {body : List Stmt} {fd : FuncData} {oc ccl cl : Value} {od cdd cld : Option Addr} {osl ccs csl : Array (Option Value)} {vs : Array Value} {file : Str} {tf : Tok} {ar : Arg}
    {p0 p1 p2 p3 p4 p5 : Pos} {z : Str} {j : Nat} {E : Value → Shared → Prop} {pl : Sem Bool}
    (T : OexC X.K C) (any : PySem.W.nsIn X.K cStatics "thirdparty.any" = some none) (sup : PySem.W.ks_superIn X.K C C "__init__" = some (some vei)) (sub : PySem.W.subIn X.K (.ref C) (.type "ValueError") = some true) (mro : PySem.W.mroIn X.K C (.ref C) = some true)
    (hf : X.K.lookup f = some ⟨oc, od, .func fd, osl⟩) (hp : (fd.params.posonlyargs ++ fd.params.args).head? = some ar) (hcode : X.K.lookup cda = some ⟨ccl, cdd, .fields vs, ccs⟩) (hvs : vs[2]? = some (.str file tf)) (hfile : ((X.prog.main.file : Str) == file) = true)
    (hcell : X.K.lookup cc = some ⟨cl, cld, .cell (some (.ref C)), csl⟩) (hcells : X.env.cells.lookup ("__class__" : Str) = some cc) (hfu : X.env.func = some f) (hco : X.env.code = .ref cda)
    (hks : X.env.kindOf "super" = some .globalImplicit) (hkc : X.env.kindOf "__class__" = some .free) (hka : X.env.kindOf ar.arg = some .local) (msup : X.mg "super" = none) (htop : (X.prog.main.scope.names.lookup ("super" : Str)).isSome = false)
    (I : Inv X pins σ H s) (hN : X.N[0]? = some ar.arg) (h0 : σ[0]? = some (some (.ref a))) (e : H a = some (exo a C none))
    (hi : interactive X.env = false) (hs : swapsWith (.Call (.Attribute (.Call (.Name "super" p0) [] [] p1) "__init__" p2) [.Constant (.str z) j p3] [] p4) none p5.line X.env = pure false)
    (hev : eval (.Call (.Attribute (.Call (.Name "super" p0) [] [] p1) "__init__" p2) [.Constant (.str z) j p3] [] p4) X.env = (do
      let ov ← attributeBase (.Call (.Name "super" p0) [] [] p1) "__init__" X.env (eval (.Call (.Name "super" p0) [] [] p1) X.env)
      standAt p2.atName
      let (f, first) ← holding [ov] (getMethod ov "__init__" pl)
      callWith p4 f first (backTo p4 (starEach [.Constant (.str z) j p3] X.env)) [])) :
    PySem.wpAt (model X.prog X.w) X.A (.func body X.env) (exec (.Expr (.Call (.Attribute (.Call (.Name "super" p0) [] [] p1) "__init__" p2) [.Constant (.str z) j p3] [] p4) p5) X.env) (fun fl s' => fl = .next ∧ Inv X pins σ H s') E s := by
  obtain ⟨nm, q, N, bs, bm, sn, sb, ab, col, dd, k0, k1, k2, k3, k5, hC, hbm⟩ := T.cls
  have hcl : PySem.W.clsIn X.K C = some { name := nm, bases := bs, mro := .ref C :: bm, ns := N, qualname := q, hasDict := true, slotNames := sn, subclasses := sb, abstract := ab, collection := col, hasDel := false } := by unfold PySem.W.clsIn; rw [hC] <;> rfl
  refine ks_wpAt_Expr_any ?_ hi hs
  refine ks_wpAt_MethodCall (pl := pl) ?_ hev
  obtain ⟨m, hns, hlook⟩ := I.loc
  obtain ⟨u, ru, hl⟩ := hlook 0 ar.arg _ hN h0 (.inl hka)
  have hm : m ar.arg = some (.ref a) := by
    rcases hl with ⟨_, q⟩ | ⟨q, _⟩
    · rw [q]
      exact congrArg some ru
    · rcases q with q | q
      · rw [hka] at q; cases q
      · rw [hka] at q; cases q
  obtain ⟨mb, b1, b2⟩ := I.mod.blt
  have XK := I.kIn
  refine ks_wpAt_super_base (env := X.env) hks hkc (by decide) hfu (XK _ _ hf) rfl hp hco (XK _ _ hcode) rfl hvs hfile htop ?_
  refine PySem.W.ks_loadName_global I.ok.kind hks (Calls.loadGlobal_builtin (by rw [I.ok.glob]; exact I.mod.glob.keeps I.bk) msup (by rw [I.ok.blt]; exact b1.keeps I.bk) ((b2 _ (by decide)).trans (by decide +kernel : bootBuiltins "super" = some (.type "super"))) ⟨rfl, ?_⟩)
  refine wpAny_loadName_free I.ok.kind hkc hcells ⟨_, XK _ _ hcell, rfl⟩ ?_
  refine wpAny_loadName_local I.ok.kind hka hns hm ?_
  obtain ⟨t1, ho⟩ := exo_at I.hok e
  obtain ⟨hh, g, dr, tk, os⟩ := s
  refine ks_wpAny_isType_cls (XK _ _ hC) rfl ⟨rfl, ?_⟩
  refine ks_wpAny_call_super (XK _ _ hC) rfl ho rfl (fun c e => by cases e) (PySem.W.looks_mroIn XK mro) (fun h1 e1 k1 => ?_)
  -- getMethod
  have I1 : Inv X pins σ H ⟨h1, g, dr, tk, os⟩ := I.kept (t' := tk) k1
  have XK1 := I1.kIn
  have ho1 := k1 _ _ ho
  have hax : a ≠ C := fun z => by
    have q := XK _ _ hC
    rw [z] at ho
    rw [ho] at q
    cases q
  have sup' : PySem.W.alongIn X.K "__init__" (((Value.ref C :: bm).dropWhile (· != .ref C)).drop 1) = some (some vei) := by
    unfold PySem.W.ks_superIn at sup
    rw [hcl] at sup
    exact sup
  refine PySem.W.kxs_getMethod PySem.W.kxs_ValueError (D := C) (x := a) (C := C) (K := X.K) (l₀ := .ref C :: bm) e1 (PySem.W.looks_opaque XK1 any) ?_ rfl XK1 sup' ?_ hax (by decide) ?_
  · exact fun A Q E s k q => wpAny_bind ((PySem.W.looks_clsIn XK1 hcl) A _ E s k (wpAny_pure q))
  · exact PySem.W.Looks.andThen (a := .ref C) (PySem.W.InstAt.type (C := C) (od := none) ⟨ho1, rfl, rfl, trivial⟩) (PySem.W.looks_subIn XK1 sub)
  have k2 : ∀ b o, h1.get? b = some o → (h1.push (PySem.W.kxs_mw "ValueError.__init__" a)).get? b = some o := fun b o e => Heap.get?_push_of_some _ e
  have I2 : Inv X pins σ H ⟨h1.push (PySem.W.kxs_mw "ValueError.__init__" a), g, dr, tk + 1, os⟩ := I1.kept (t' := tk + 1) k2
  have hu2 : (h1.push (PySem.W.kxs_mw "ValueError.__init__" a)).get? h1.objs.size = some (PySem.W.kxs_mw "ValueError.__init__" a) := Heap.get?_push_at rfl rfl
  -- the call
  dsimp only
  refine PySem.W.kxs_callWith (i := "ValueError.__init__") (x := a) rfl ?_
  refine Calls.evalArgs_plain ?_
  refine PyProof.Rows.args_cons (rest := []) (Calls.Constant_str (PyProof.Rows.args_nil ?_)) rfl
  refine ⟨hu2, ?_⟩
  refine call_bwV T (XK1.keeps k2) (k2 _ _ ho1) hu2 (by show 1 ≤ sizeLine; decide) fun h3 t3 k3 e3 => ?_
  refine ⟨rfl, ?_⟩
  have J := I2.write (t' := tk + 1 + 1) (x := a) (e := a) (o := exo a C none) (by rw [e]; exact True.intro) (.inl rfl) k3 ⟨_, e3⟩ (exo_ok e3)
  have eu : upd H a (exo a C none) = H := by
    funext b
    by_cases hb : b = a
    · rw [hb, upd_same, e]
    · rw [upd_ne hb]
  rw [eu] at J
  exact J
/-- the __init__: what it promises of the exception that is being made -/
def spExI (C : Addr) (x : Str) : Sp := fun vs H Q _ => ∃ a y, vs = [.ref a, y] ∧ H a = some (exo a C none) ∧ ∀ dx, H dx = none → dx ≠ a → Q .non (upd (upd H dx (exd dx [(x, y)])) a (exo a C (some dx)))
section
variable {P : Program} {w : World} {K : Frag} {mg : Str → Option Value} {base : Heap} {CX : CXT}
theorem ok_exI {C fI : Addr} {qual : Str} {st : Stmt} {fd : FuncData} {x y : Str} {p0 p1 p2 p3 p4 p5 p6 p7 p8 p9 p10 : Pos} {z : Str} {j : Nat} (T : ExI P K C qual st fI fd) (no : PySem.W.findIn K (.ref C) x = some none)
    (hb : C8.fnBody st = [.Expr (.Call (.Attribute (.Call (.Name "super" p0) [] [] p1) "__init__" p2) [.Constant (.str z) j p3] [] p4) p5, .Assign [.Attribute (.Name "self" p6) x p7] (.Name y p8) p9])
    (S : NScope ["self", y, "__class__"] ["self", y] ["__class__"] (C8.fnScope st)) (harg : ∃ ar, ((C8.fnArgs st).posonlyargs ++ (C8.fnArgs st).args).head? = some ar ∧ ar.arg = "self")
    (hks : (C8.fnScope st).names.lookup ("super" : Str) = some .globalImplicit) (msup : mg "super" = none) (htop : (P.main.scope.names.lookup ("super" : Str)).isSome = false)
    (hd : (y == ("__debug__" : Str)) = false) (hcl : (y == ("__classdict__" : Str)) = false) (hev : ∀ L cda cc, ∃ pl : Sem Bool, eval (.Call (.Attribute (.Call (.Name "super" p0) [] [] p1) "__init__" p2) [.Constant (.str z) j p3] [] p4) (PySem.W.envX qual (C8.fnScope st) L fI (.ref cda) [("__class__", cc)]) = (do
      let ov ← attributeBase (.Call (.Name "super" p0) [] [] p1) "__init__" (PySem.W.envX qual (C8.fnScope st) L fI (.ref cda) [("__class__", cc)]) (eval (.Call (.Name "super" p0) [] [] p1) (PySem.W.envX qual (C8.fnScope st) L fI (.ref cda) [("__class__", cc)]))
      standAt p2.atName
      let (f, first) ← holding [ov] (getMethod ov "__init__" pl)
      callWith p4 f first (backTo p4 (starEach [.Constant (.str z) j p3] (PySem.W.envX qual (C8.fnScope st) L fI (.ref cda) [("__class__", cc)]))) [])) :
    FnOk P w K mg base CX 1 fI fd ["self", y] (spExI C x) := by
  obtain ⟨oc, od, doc, pm, cda, cc, vs, file, tf, ccl, cdd, ccs, ct, osl, cl, cld, csl, rfl, lk, hcd, hcode, hvs, hfile, hcell⟩ := T.fn
  obtain ⟨ar, har, hself⟩ := harg
  refine ⟨fun vs H Q E ⟨a, y, e, _⟩ => by rw [e]; rfl, fun A outer s H args us vs' Q E hr e0 hbind r ⟨a, yv, ev, he, q⟩ => ?_⟩
  subst ev
  have KX : K.In s.heap := e0.mod.kin.keeps fun b o e => (e0.bs b o e).1
  have lim : s.heap.NoLimit := e0.mod.nolimit.keeps fun b o e => (e0.bs b o e).1
  let F : NF := ⟨"__init__", qual, C8.fnArgs st, C8.fnBody st, C8.fnScope st, [("__class__", cc)], cda⟩
  have hC : CellsAt F.cl ["__class__"] [none] s.heap H := by
    have base_cc := e0.mod.kin _ _ hcell
    have key : ∀ {y : Str} {c : Addr}, F.cl.lookup y = some c → y = "__class__" ∧ c = cc := fun {y c} h => by
      have h : List.lookup y [(("__class__" : Str), cc)] = some c := h
      by_cases e : y = "__class__"
      · subst e
        simp [List.lookup] at h
        exact ⟨rfl, h.symm⟩
      · have e2 : (y == ("__class__" : Str)) = false := by simpa using e
        simp [List.lookup, e2] at h
    refine ⟨rfl, fun y c h => ?_, fun x y c h1 h2 => by rw [(key h1).1, (key h2).1], fun i y hy => ?_⟩
    · obtain ⟨_, rfl⟩ := key h
      exact ⟨(e0.bs _ _ base_cc).2, _, _, (e0.bs _ _ base_cc).1, rfl⟩
    · cases i with
      | succ i => simp at hy
      | zero =>
        simp at hy
        subst hy
        exact ⟨cc, by simp [F, List.lookup], fun v hv => by simp at hv⟩
  refine ks_codeAny_call_defAt (body := C8.fnBody st) hr.depth (KX _ _ lk) rfl lim (PySem.W.codeRec_of KX hcd) rfl hbind S.nocell (fun ⟨n, v⟩ hy => S.par n (List.of_mem_zip hy).1) (fun h₁ hns kp => ?_) S.co S.gen S.kind
  have hl : [V.ref a, yv].length = (["self", y] : List Str).length := rfl
  have I : Inv (ncx CX P w K mg base ["self", y, "__class__"] F fI A outer s H E) [] (startF ["self", y, "__class__"] [V.ref a, yv] [none]) H { s with heap := h₁, toks := s.toks + ((["self", y] : List Str).zip us).length } := inv_startN S hr.hd e0 hl r hC hns kp
  rw [hb]
  have hint : interactive (ncx CX P w K mg base ["self", y, "__class__"] F fI A outer s H E).env = false := by
    show ((C8.fnScope st).kind == ScopeKind.module && _) = false
    rw [S.kind]
    rfl
  obtain ⟨pl, hev⟩ := hev s.heap.objs.size cda cc
  have L1 := super_init (X := ncx CX P w K mg base ["self", y, "__class__"] F fI A outer s H E) (pins := []) (σ := startF ["self", y, "__class__"] [V.ref a, yv] [none]) (H := H) (C := C) (a := a) (f := fI) (cda := cda) (cc := cc) (body := C8.fnBody st)
    (p0 := p0) (p1 := p1) (p2 := p2) (p3 := p3) (p4 := p4) (p5 := p5) (z := z) (j := j) (E := (ncx CX P w K mg base ["self", y, "__class__"] F fI A outer s H E).xe) (pl := pl)
    T.oex T.any T.sup T.sub T.mro lk har hcode hvs hfile hcell rfl rfl rfl hks (S.frk _ (by simp)) (by rw [hself]; exact S.par _ (by simp)) msup htop I (by rw [hself]; rfl) rfl he hint rfl hev
  rw [← hb]
  have L1' := L1
  rw [hb] at L1' ⊢
  refine ks_wpAt_execs_cons (ks_wpAt_mono L1' (fun fl s' ⟨efl, I'⟩ => ?_) fun e s' h => h)
  subst efl
  refine wpAt_of_wpAny ?_
  have hps : PSs (ncx CX P w K mg base ["self", y, "__class__"] F fI A outer s H E) [.Assign [.Attribute (.Name "self" p6) x p7] (.Name y p8) p9] _ := pss_one (ps_ost (pe_var (i := 0) rfl (.inl (S.par _ (by simp)))) (pe_var (i := 1) rfl (.inl (S.par _ (by simp))) hd hcl))
  have hrd := hps.run [] s' (startF ["self", y, "__class__"] [V.ref a, yv] [none]) H { nx := fun _ H' => Q .non H', rt := Q } I' ⟨yv, rfl, .ref a, rfl, a, C, rfl, T.oex, no, .inl ⟨he, fun dx n1 n2 => q dx n1 n2⟩⟩
  refine wpAny_mono hrd (fun fl s'' hs => ?_) fun e s'' hs => hs
  have fin : ∀ {σ' : L2.St} {H' : Hp} {v : V} {u : Value}, Inv (ncx CX P w K mg base ["self", y, "__class__"] F fI A outer s H E) [] σ' H' s'' → L2.RelV v u → Q v H' → CE outer P w H s Q u s'' :=
    fun {σ' H' v u} J rv q => ⟨v, H', J.os, J.bare, J.base, J.hok, rv, q⟩
  cases fl with
  | ret u =>
    obtain ⟨v, σ', H', J, rv, q⟩ := hs
    exact fin J rv q
  | next =>
    obtain ⟨σ', H', J, q⟩ := hs
    exact fin (v := V.non) (u := Value.none) J rfl q
  | brk =>
    obtain ⟨_, _, _, q⟩ := hs
    exact False.elim q
  | cont =>
    obtain ⟨_, _, _, q⟩ := hs
    exact False.elim q
end
end Q
set_option maxHeartbeats 4000000
/-! Q12: lambdas as values, called by a name; several except clauses with names; a rule chosen of two. -/
namespace Q
open PySem PySem.Spec PyProof.Rows L2 NdefX LamX
/-! ### several except clauses with names -/
def wAsMany (K : Frag) (Wout : WX) (D : Ends) : List (Value × Nat × (Addr → Value → Option Addr → TS)) → WX
  | [] => Wout
  | (c, i, ts) :: r => fun cls d σ H => ∃ b, PySem.W.exmOne K cls c = some b ∧ (b = true → ∀ a, H a = none → ts a cls d { nx := fun σ' H' => D.nx (σ'.set i none) H', rt := D.rt, bk := fun σ' H' => D.bk (σ'.set i none) H', ct := fun σ' H' => D.ct (σ'.set i none) H' } (σ.set i (some (.ref a))) H) ∧
      (b = false → wAsMany K Wout D r cls d σ H)
inductive HdsAs (X : Cx) : List ExceptHandler → List (Value × Nat × (Addr → Value → Option Addr → TS)) → Prop
  | nil : HdsAs X [] []
  | cons {x n : Str} {i : Nat} {c : Value} {ts : Addr → Value → Option Addr → TS} {b₀ : Stmt} {suite : List Stmt} {np pos' : Pos} {hds : List ExceptHandler} {l : List (Value × Nat × (Addr → Value → Option Addr → TS))} (hi : X.N[i]? = some n) (hln : X.env.kindOf n = some .local) (hc : Names X x c)
      (hsu : ∀ (a : Addr) (oe : Obj) (cls : Value) (d : Option Addr) (pn : List (Addr × Obj)), Zc cls d oe → (∃ vs, oe.data = .fields vs) → PSs (X.suite a ((a, oe) :: pn)) (b₀ :: suite) (ts a cls d)) (r : HdsAs X hds l) :
      HdsAs X (.ExceptHandler (some (.Name x np)) (some n) (b₀ :: suite) pos' :: hds) ((c, i, ts) :: l)
section
variable {X : Cx} {body : List Stmt} {h₀ : ExceptHandler} {hds : List ExceptHandler} {l : List (Value × Nat × (Addr → Value → Option Addr → TS))} {pos : Pos} {tb : WX → TS} {Wout : WX}
theorem ps_try_asMany (hs : X.stack = X.env :: X.outer) (hf : X.env.frame = some X.env.locals) (hN : X.N.Nodup) (tk : Takes X Wout)
    (hb : ∀ (W : WX) (pn : List (Addr × Obj)) (xe : Value → Shared → Prop), Takes (X.tr pn xe) W → PassesOwn (model X.prog X.w) X.A X.env xe → PSs (X.tr pn xe) body (tb W))
    (hh : HdsAs X (h₀ :: hds) l) : PS X (.Try body (h₀ :: hds) [] [] pos) (fun D σ H => tb (wAsMany X.K Wout D l) D σ H) := by
  refine ⟨fun pins s σ H D I h => ?_⟩
  have ok := I.ok
  have hfr : X.A.frames = some (X.env :: X.outer) := by rw [ok.frames, hs]
  refine wpAny_Try_except ?_
  refine wpAny_mono ((hb (wAsMany X.K Wout D l) (X.pn ++ pins) (fun e s₁ => wpAny (model X.prog X.w) X.A (noteFrame e X.env) (fun _ s₂ => wpAny (model X.prog X.w) X.A (setFlight e none) (fun _ s₃ =>
    wpAny (model X.prog X.w) X.A (handleBy e X.env (h₀ :: hds)) (SP X pins D) X.xe s₃) X.xe s₂) X.xe s₁) (fun u s' xx => ?_) PassesOwn.looking).run [] s σ H D (I.toTry _) h) (fun f s1 hsp => ?_) (fun e s1 he => he)
  · obtain ⟨a, B, sI, pins', σ', H', cls, d, rfl, J', nb, up, sky, na, os, ag, w⟩ := xx
    have J : Inv X pins σ' H' sI := J'.ofTry ok
    have sky' : Sky B (X.env :: X.outer) a (Zc cls d) X.env.locals s'.heap := by rw [← hs]; exact sky
    show wpAny (model X.prog X.w) X.A (noteFrame (.ref a) X.env) _ _ _
    refine Sky.land Zc.steady hfr hf sky' fun h3 fl3 up3 => ?_
    have J3 : Inv X pins σ' H' { s' with heap := h3 } := J.landed nb fl3.1 (up.trans up3) os ag
    obtain ⟨oe3, vs3, he3, hz3, hd3⟩ := fl3.there
    have notFr : ∀ {h : Heap} {o : Obj} {vs : Array Value}, h.FunFrames B (X.env :: X.outer) → h.get? a = some o → o.data = .fields vs → a ∉ frs (X.env :: X.outer) := fun {h o vs} ff e dd hm => by
      obtain ⟨_, o', e', hnf⟩ := ff.mem hm
      rw [e] at e'; cases e'
      exact hnf _ dd
    have nfr := notFr fl3.2.2.1 he3 hd3
    have nL : a ≠ X.env.locals := fun z => nfr (List.mem_filterMap.mpr ⟨X.env, List.mem_cons_self, by rw [hf, z]⟩)
    have nF : a ∉ X.fs := fun hm => by
      obtain ⟨e, he, q⟩ := List.mem_filterMap.mp hm
      exact nfr (List.mem_filterMap.mpr ⟨e, List.mem_cons_of_mem _ he, q⟩)
    have S3 := J3.suite he3 hd3 na nL nF
    have go : ∀ {hds' : List ExceptHandler} {l' : List (Value × Nat × (Addr → Value → Option Addr → TS))}, HdsAs X hds' l' → wAsMany X.K Wout D l' cls d σ' H' →
        wpAny (model X.prog X.w) X.A (handleBy (.ref a) X.env hds') (SP X pins D) X.xe { s' with heap := h3 } := by
      intro hds' l' hk
      induction hk with
      | nil =>
        intro w
        refine wpAny_handleBy_nil ?_
        obtain ⟨k1, k2, k3, oe, vs, T, oT, ts', he, hz, hd, h1, hr⟩ := id fl3
        unfold PySem.passOn
        refine wpAny_bind (wpAny_field he hd h1 ?_)
        rw [if_neg (show ¬ ((Value.ref T == Value.none) = true) from by simp)]
        have fin : wpAny (model X.prog X.w) X.A (setFlight (.ref a) X.env.frame) (fun _ s4 => wpAny (model X.prog X.w) X.A (throw (.ref a) : Sem Flow) (SP X pins D) X.xe s4) X.xe { s' with heap := h3 } := by
          rw [hf]
          refine HandSPX.setFlight_upZ fl3 fun h4 hh4 up4 => wpAny_throw (tk _ _ ?_)
          exact ⟨a, B, sI, pins, σ', H', cls, d, rfl, J, nb, (up.trans up3).trans up4, .inr (.inr (by rw [hs]; exact hh4)), na, os, ag, w⟩
        first
          | exact wpAny_bind (wpAny_pure (wpAny_bind fin))
          | exact wpAny_bind fin
      | @cons x n i c ts b₀ suite np pos' hds2 l2 hi hln hc hsu r ih =>
        intro w
        have hloc : Loc X.env.scope n := .inl hln
        obtain ⟨b, hb1, hyes, hno⟩ := w
        refine wpAny_handleBy_cons (codeAny_handlers_test ?_) (by intro q; cases q)
        have LT : PySem.W.Looks (model X.prog X.w) h3 (typeOf (.ref a)) cls := fun A Q E s k q => wpAny_typeOf_ref (k _ _ he3) (by rw [hz3.1]; exact q)
        have LM := PySem.W.exm_one (M := model X.prog X.w) (J3.kIn) LT hb1
        have test : ∀ {Q : Value → Shared → Prop} {E : Value → Shared → Prop}, Q c { s' with heap := h3 } → wpAny (model X.prog X.w) (X.A.mark (some (.ref a))) (eval (.Name x np) X.env) Q E { s' with heap := h3 } := fun {Q E} q => by
          obtain ⟨hg, hdbg, hm | ⟨hm, hv, hnn⟩⟩ := hc
          · exact ld_glob (X := X.suite a ((a, oe3) :: (X.pn ++ pins))) S3 hg hm q hdbg
          · exact ld_blt (X := X.suite a ((a, oe3) :: (X.pn ++ pins))) S3 hg hm hv q hnn hdbg
        refine test (LM.here ?_)
        cases b with
        | true =>
          refine codeAny_handlers_suite_as ?_
          refine HandSPX.lands_againZ fl3 fun h4 fl4 up4 => ?_
          have J4 : Inv X pins σ' H' { s' with heap := h4 } := J.landed nb fl4.1 ((up.trans up3).trans up4) os ag
          obtain ⟨oe4, vs4, he4, hz4, hd4⟩ := fl4.there
          have S4 := J4.suite he4 hd4 na nL nF
          refine store_ok (X := X.suite a ((a, oe4) :: (X.pn ++ pins))) (v := .ref a) S4 hN hi hloc rfl (fun s5 S5 => ?_) (.inr hln)
          refine wpAny_mono ((hsu a oe4 cls d (X.pn ++ pins) hz4 ⟨_, hd4⟩).run [] s5 _ H' _ S5 (hyes rfl a na)) (fun f s6 hsp => ?_) (fun _ _ z => False.elim z)
          have end_ : ∀ {σ6 : L2.St} {H6 : Hp} {Q : Shared → Prop}, Inv (X.suite a ((a, oe4) :: (X.pn ++ pins))) [] σ6 H6 s6 → (∀ s7, Inv X pins (σ6.set i none) H6 s7 → Q s7) →
              wpAny (model X.prog X.w) X.A (do bindName X.env n .none; unbindBehindTheSuite X.env n pos') (fun _ s7 => Q s7) X.xe s6 := fun {σ6 H6 Q} S6 hq => gone_ok (S6.unsuite ok) hN hi hln hq
          cases f with
          | next =>
            obtain ⟨σ6, H6, S6, q6⟩ := hsp
            exact end_ S6 fun s7 J7 => ⟨_, _, J7, q6⟩
          | brk =>
            obtain ⟨σ6, H6, S6, q6⟩ := hsp
            exact end_ S6 fun s7 J7 => ⟨_, _, J7, q6⟩
          | cont =>
            obtain ⟨σ6, H6, S6, q6⟩ := hsp
            exact end_ S6 fun s7 J7 => ⟨_, _, J7, q6⟩
          | ret u =>
            obtain ⟨v6, σ6, H6, S6, r6, q6⟩ := hsp
            exact end_ S6 fun s7 J7 => ⟨_, _, _, J7, r6, q6⟩
        | false =>
          show wpAny _ X.A (handleBy (.ref a) X.env hds2) _ _ _
          exact ih (hno rfl)
    exact go hh w
  · cases f with
    | next =>
      obtain ⟨σ', H', J', q⟩ := hsp
      exact wpAny_execs_nil ⟨σ', H', J'.ofTry ok, q⟩
    | brk =>
      obtain ⟨σ', H', J', q⟩ := hsp
      exact ⟨σ', H', J'.ofTry ok, q⟩
    | cont =>
      obtain ⟨σ', H', J', q⟩ := hsp
      exact ⟨σ', H', J'.ofTry ok, q⟩
    | ret u =>
      obtain ⟨v, σ', H', J', r, q⟩ := hsp
      exact ⟨v, σ', H', J'.ofTry ok, r, q⟩
end
/-! ### a rule chosen of two -/
def tEither (t u : TE) : TE := fun σ H Q => t σ H Q ∨ u σ H Q
theorem pe_either {X : Cx} {e : Expr} {t u : TE} (h1 : PE X e t) (h2 : PE X e u) : PE X e (tEither t u) := ⟨fun pins s σ H Q I h => h.elim (h1.run pins s σ H Q I) (h2.run pins s σ H Q I)⟩
/-! ### lambdas -/
abbrev lmFd (F : NF) (lb : Expr) (dV pm ctv : Value) : FuncData :=
  { name := F.name, qualname := F.qual, params := F.params, body := .expr lb, scope := F.scope, globals := mainGlobals, closure := F.cl, defaults := dV, kwdefaults := .none, doc := .none, pyModule := pm, annotations := none, code := .ref F.c, closureTuple := ctv, builtins := builtinsNs }
/-- the object at f is the lambda F of the body lb -/
def LmO (f : Addr) (F : NF) (lb : Expr) (dV : Value) : HO := .ext fun h => ∃ (od : Option Addr) (sl : Array (Option Value)) (pm ctv : Value), h.get? f = some (⟨.type "function", od, .func (lmFd F lb dV pm ctv), sl⟩ : Obj)
theorem lmO_at {P : Program} {w : World} {H : Hp} {h : Heap} {f : Addr} {F : NF} {lb : Expr} {dV : Value} (hok : HOk P w H h) (e : H f = some (LmO f F lb dV)) : ∃ (od : Option Addr) (sl : Array (Option Value)) (pm ctv : Value), h.get? f = some (⟨.type "function", od, .func (lmFd F lb dV pm ctv), sl⟩ : Obj) := by
  obtain ⟨z, _, _⟩ := hok f _ e
  exact z
section
variable {M : Model} {A : Around} {E : Value → Shared → Prop} {s : Shared} {name qual : Str} {params : Arguments} {body : Expr} {scope : Scope} {env : Env} {c P : Addr} {ps : Array Value} {pos : Pos} {firstLine : Nat} {mg : Str → Option Value}
  {clos : List (Str × Addr)} {Q : Value → Shared → Prop} {dV : Value}
theorem lm_makeTail (hcl : closureFor scope env = pure clos) (hge0 : env.globals = mainGlobals) (hg : s.heap.Ns mainGlobals mg) (hcode : env.code = .ref c) (C : PySem.W.CodeHd s.heap c P) (hP : s.heap.get? P = some (PySem.W.tabObj ps)) (ht : TriplesOk ps.toList)
    (hnf : codeAmong pos ps.toList = none) (hgP : mainGlobals ≠ P) (hb : s.heap.BuiltinsAt mg P)
    (h : ∀ c' ctv h' tk, Heap.ExtBut P s.heap h' → s.heap.objs.size ≤ c' → c' < h'.objs.size → h'.CodeRec (.ref c') qual → h'.get? P = some (PySem.W.tabObj (ps ++ #[rawInt pos.line, rawInt pos.col, .ref c'])) →
      Q (.ref h'.objs.size) { s with heap := h'.push { cls := .type "function", data := .func (lmFd ⟨name, qual, params, [], scope, clos, c'⟩ body dV ((mg "__name__").getD .none) ctv) }, toks := tk }) :
    wpAny M A (makeTail name qual params (.expr body) scope env dV .none none pos firstLine) Q E s := by
  obtain ⟨bm, ob, hbm, hne0, _, hneP, hbo, hcls, hdict, hdata⟩ := hb
  unfold makeTail
  rw [hcl, hge0]
  refine wpAny_bind (wpAny_pure ?_)
  cases clos with
  | nil =>
    simp only [List.isEmpty_nil, if_true]
    refine wpAny_bind (wpAny_pure ?_)
    refine wpAny_bind (wpAny_functionCodeX hcode (C.code hP ht) (C.tab hP) hnf fun c' h' tk hx hge hlt _ hrec htb _ => ?_)
    have hg' := hg.extBut hx hgP
    refine wpAny_bind (wpAny_builtinsFor hg' hbm hne0 (hx _ _ hneP hbo) hcls hdict hdata ?_)
    refine wpAny_bind (wpAny_nsGet hg' ?_)
    exact wpAny_bind (wpAny_pure (wpAny_newObj_type (h c' .none h' tk hx hge hlt hrec htb.2) (by size_fits)))
  | cons q r =>
    simp only [List.isEmpty_cons, Bool.false_eq_true, if_false]
    refine wpAny_bind (wpAny_newTextTuple ?_)
    refine wpAny_bind (wpAny_functionCodeX hcode ((C.keeps fun b o e => Heap.get?_push_of_some _ e).code (Heap.get?_push_of_some _ hP) ht) ((C.keeps fun b o e => Heap.get?_push_of_some _ e).tab (Heap.get?_push_of_some _ hP)) hnf fun c' h' tk hx hge hlt _ hrec htb _ => ?_)
    have hg' := (hg.push _).extBut hx hgP
    have hx' : Heap.ExtBut P s.heap h' := fun b o hb' e => hx b o hb' (Heap.get?_push_of_some _ e)
    have hge' : s.heap.objs.size ≤ c' := Nat.le_trans (by rw [Heap.size_push]; omega) hge
    refine wpAny_bind (wpAny_builtinsFor hg' hbm hne0 (hx' _ _ hneP hbo) hcls hdict hdata ?_)
    refine wpAny_bind (wpAny_nsGet hg' ?_)
    exact wpAny_bind (wpAny_pure (wpAny_newObj_type (h c' _ h' tk hx' hge' hlt hrec htb.2) (by size_fits)))
theorem lm_makeTailHit {cv : Addr} (hcl : closureFor scope env = pure clos) (hge0 : env.globals = mainGlobals) (hg : s.heap.Ns mainGlobals mg) (hcode : env.code = .ref c) (C : PySem.W.CodeHd s.heap c P) (hP : s.heap.get? P = some (PySem.W.tabObj ps)) (ht : TriplesOk ps.toList)
    (hf : codeAmong pos ps.toList = some (.ref cv)) (hb : s.heap.BuiltinsAt mg P)
    (h : ∀ (ctv : Value) (h' : Heap) (tk : Tok), (∀ b o, s.heap.get? b = some o → h'.get? b = some o) → s.heap.objs.size ≤ h'.objs.size →
      Q (.ref h'.objs.size) { s with heap := h'.push { cls := .type "function", data := .func (lmFd ⟨name, qual, params, [], scope, clos, cv⟩ body dV ((mg "__name__").getD .none) ctv) }, toks := tk }) :
    wpAny M A (makeTail name qual params (.expr body) scope env dV .none none pos firstLine) Q E s := by
  obtain ⟨bm, ob, hbm, hne0, _, hneP, hbo, hcls, hdict, hdata⟩ := hb
  unfold makeTail
  rw [hcl, hge0]
  refine wpAny_bind (wpAny_pure ?_)
  cases clos with
  | nil =>
    simp only [List.isEmpty_nil, if_true]
    refine wpAny_bind (wpAny_pure ?_)
    refine wpAny_bind (wpAny_functionCode_hit hcode (C.code hP ht) hf ?_)
    refine wpAny_bind (wpAny_builtinsFor hg hbm hne0 hbo hcls hdict hdata ?_)
    refine wpAny_bind (wpAny_nsGet hg ?_)
    exact wpAny_bind (wpAny_pure (wpAny_newObj_type (h .none s.heap s.toks (fun _ _ e => e) (Nat.le_refl _)) (by size_fits)))
  | cons q r =>
    simp only [List.isEmpty_cons, Bool.false_eq_true, if_false]
    refine wpAny_bind (wpAny_newTextTuple ?_)
    refine wpAny_bind (wpAny_functionCode_hit hcode ((C.keeps fun b o e => Heap.get?_push_of_some _ e).code (Heap.get?_push_of_some _ hP) ht) hf ?_)
    refine wpAny_bind (wpAny_builtinsFor (hg.push _) hbm hne0 (Heap.get?_push_of_some _ hbo) hcls hdict hdata ?_)
    refine wpAny_bind (wpAny_nsGet (hg.push _) ?_)
    have hsz : ∀ oT : Obj, s.heap.objs.size ≤ (s.heap.push oT).objs.size := fun oT => by rw [Heap.size_push]; omega
    exact wpAny_bind (wpAny_pure (wpAny_newObj_type (h _ _ s.toks (fun b o e => Heap.get?_push_of_some _ e) (hsz _)) (by size_fits)))
end
section
variable {X : Cx} {pins : List (Addr × Obj)} {σ : L2.St} {H : Hp} {s : Shared}
theorem inv_lm {F : NF} {lb : Expr} {dV : Value} {o : Obj} {t' : Nat} {pm ctv : Value} (I : Inv X pins σ H s) (ho : o = { cls := .type "function", data := .func (lmFd F lb dV pm ctv) }) :
    Inv X pins σ (upd H s.heap.objs.size (LmO s.heap.objs.size F lb dV)) { s with heap := s.heap.push o, toks := t' } := by
  subst ho
  refine I.laid (a := s.heap.objs.size) (fun b u e => Heap.get?_push_of_some _ e) (Nat.le_refl _) ?_
  have e : (s.heap.push ({ cls := .type "function", data := .func (lmFd F lb dV pm ctv) } : Obj)).get? s.heap.objs.size = some ({ cls := .type "function", data := .func (lmFd F lb dV pm ctv) } : Obj) := Heap.get?_push_size _ rfl
  exact ⟨⟨_, _, pm, ctv, e⟩, ⟨_, e⟩, fun h1 h2 ⟨od, sl, p, t, z⟩ st => ⟨od, sl, p, t, st _ z⟩⟩
abbrev lmNF (X : Cx) (params : Arguments) (scope : Scope) (c' : Addr) : NF := ⟨"<lambda>", X.env.qual ++ "<lambda>", params, [], scope, cloFrom X.env.cells scope.names [], c'⟩
/-- the lambda's object is made: its code object is new, or found in the table -/
theorem lm_make {T : List (Addr × Str)} {c P : Addr} {params : Arguments} {body : Expr} {scope : Scope} {pos : Pos} {dV : Value} {E : Value → Shared → Prop} {Q : Value → Shared → Prop} (I : Inv X pins σ H s) (TB : TabB X.base X.mg c P) (hcode : X.env.code = .ref c)
    (hm : (P, X.env.qual ++ "<lambda>") ∈ T) (hu : ∀ p ∈ T, p.1 = P → p.2 = X.env.qual ++ "<lambda>") (hT : Tabs T H) (hfree : ∀ y ∈ scope.names, y.2 = .free → ∃ c, X.env.cells.lookup y.1 = some c)
    (h : ∀ (f c' : Addr) (H1 : Hp) (s' : Shared), Inv X pins σ H1 s' → ExtN H H1 → (∀ b, H1 b = Option.none → H b = Option.none) → Tabs T H1 → H f = none → H1 f = some (LmO f (lmNF X params scope c') body dV) → H1 c' = some (CodeO c' (X.env.qual ++ "<lambda>")) → Q (.ref f) s') :
    wpAny (model X.prog X.w) X.A (makeTail "<lambda>" (X.env.qual ++ "<lambda>") params (.expr body) scope X.env dV .none none pos pos.line) Q E s := by
  obtain ⟨ps, hP, ht, ha⟩ := hT _ hm
  have bP : s.heap.BuiltinsAt X.mg P := TB.bm.keeps I.bk
  have hP' : s.heap.get? P = some { cls := .none, data := .fields ps } := I.hok P _ hP
  cases hc : codeAmong pos ps.toList with
  | none =>
    refine lm_makeTail (mg := X.mg) (c := c) (P := P) (ps := ps) (closure_ok hfree) I.ok.glob (I.mod.glob.keeps I.bk) hcode (TB.code.keeps I.bk) hP' ht hc TB.gP bP fun c' ctv h' tk hx hge hlt hrec htb => ?_
    obtain ⟨c2, oc, vs, t, e2, hoc, hd, hv⟩ := hrec
    cases e2
    have nC : H c' = none := I.hok.fresh hge
    have I1 := inv_table (t' := tk) (more := #[rawInt pos.line, rawInt pos.col, .ref c']) (h' := h') I hP (fun b o hb e => hx b o hb e) htb hge ⟨oc, vs, t, hoc, hd, hv⟩
    have hE : ExtN H (upd (upd H P (.tbl (ps ++ #[rawInt pos.line, rawInt pos.col, .ref c']))) c' (CodeO c' (X.env.qual ++ "<lambda>"))) := fun b o e n => by
      rw [upd_ne (ne_of_none e nC), upd_ne (fun z => n ps (Option.some.inj (e.symm.trans (by rw [z]; exact hP))))]
      exact e
    have eL : (ps ++ #[rawInt pos.line, rawInt pos.col, .ref c']).toList = ps.toList ++ [rawInt pos.line, rawInt pos.col, .ref c'] := by simp
    have T1 : Tabs T (upd (upd H P (.tbl (ps ++ #[rawInt pos.line, rawInt pos.col, .ref c']))) c' (CodeO c' (X.env.qual ++ "<lambda>"))) := fun p hp => by
      by_cases hb : p.1 = P
      · rw [hu p hp hb, hb]
        refine ⟨_, by rw [upd_ne (ne_of_none hP nC), upd_same], by rw [eL]; exact PySem.TriplesOk_snoc _ _ _ _ ht, fun p' cv hcv => ?_⟩
        rw [eL] at hcv
        rcases among_app _ ht hcv with z | z
        · obtain ⟨c0, e1, e2⟩ := ha p' cv z
          exact ⟨c0, e1, hE _ _ e2 codeO_ne⟩
        · exact ⟨c', z, upd_same⟩
      · obtain ⟨ps', a1, a2, a3⟩ := hT p hp
        refine ⟨ps', by rw [upd_ne (ne_of_none a1 nC), upd_ne hb]; exact a1, a2, fun p' cv hcv => ?_⟩
        obtain ⟨c0, e1, e2⟩ := a3 p' cv hcv
        exact ⟨c0, e1, hE _ _ e2 codeO_ne⟩
    have nF := I1.hok.fresh (Nat.le_refl _)
    have I2 := inv_lm (F := lmNF X params scope c') (lb := body) (dV := dV) (t' := tk) (pm := (X.mg "__name__").getD .none) (ctv := ctv) I1 rfl
    refine h h'.objs.size c' _ _ I2 (fun b o e n => ?_) (fun b e => upd_none (upd_none (upd_none e))) (T1.ext fun b o e => ?_) (I.hok.fresh (Nat.le_trans hge (Nat.le_of_lt hlt))) upd_same ?_
    · have e1 := hE b o e n
      exact (upd_ne (ne_of_none e1 nF)).trans e1
    · exact (upd_ne (ne_of_none e nF)).trans e
    · exact (upd_ne (Nat.ne_of_lt hlt)).trans upd_same
  | some cv =>
    obtain ⟨c', e, hco⟩ := ha pos cv hc
    subst e
    refine lm_makeTailHit (mg := X.mg) (c := c) (P := P) (ps := ps) (closure_ok hfree) I.ok.glob (I.mod.glob.keeps I.bk) hcode (TB.code.keeps I.bk) hP' ht hc bP fun ctv h' tk hx hsz => ?_
    have I1 : Inv X pins σ H { s with heap := h', toks := tk } := I.kept hx
    have nF : H h'.objs.size = none := I1.hok.fresh (Nat.le_refl _)
    have I2 := inv_lm (F := lmNF X params scope c') (lb := body) (dV := dV) (t' := tk) (pm := (X.mg "__name__").getD .none) (ctv := ctv) I1 rfl
    refine h h'.objs.size c' _ _ I2 (fun b o e n => ?_) (fun b e => upd_none e) (hT.ext fun b o e => ?_) nF upd_same ?_
    · exact (upd_ne (ne_of_none e nF)).trans e
    · exact (upd_ne (ne_of_none e nF)).trans e
    · exact (upd_ne (ne_of_none hco nF)).trans hco
end
/-- lambda: body, a value -/
def tLam0 (X : Cx) (T : List (Addr × Str)) (params : Arguments) (body : Expr) (scope : Scope) : TE := fun σ H Q => Tabs T H ∧ ∀ (f c' : Addr) (H1 : Hp), ExtN H H1 → (∀ b, H1 b = Option.none → H b = Option.none) → Tabs T H1 → H f = none → H1 f = some (LmO f (lmNF X params scope c') body .none) → H1 c' = some (CodeO c' (X.env.qual ++ "<lambda>")) → Q (.ref f) H1
/-- lambda a=d: body -/
def tLam1 (X : Cx) (T : List (Addr × Str)) (params : Arguments) (body : Expr) (scope : Scope) (td : TE) : TE := fun σ H Q => td σ H fun x H0 => ∀ t, H0 t = none → Tabs T (upd H0 t (.tup [x])) ∧
  ∀ (f c' : Addr) (H1 : Hp), ExtN (upd H0 t (.tup [x])) H1 → (∀ b, H1 b = Option.none → upd H0 t (.tup [x]) b = Option.none) → Tabs T H1 → upd H0 t (.tup [x]) f = none → H1 f = some (LmO f (lmNF X params scope c') body (.ref t)) → H1 c' = some (CodeO c' (X.env.qual ++ "<lambda>")) → Q (.ref f) H1
section
variable {X : Cx} {T : List (Addr × Str)} {c P : Addr} {params : Arguments} {body : Expr} {scope : Scope} {pos : Pos}
theorem pe_lam0 (TB : TabB X.base X.mg c P) (hcode : X.env.code = .ref c) (hm : (P, X.env.qual ++ "<lambda>") ∈ T) (hu : ∀ p ∈ T, p.1 = P → p.2 = X.env.qual ++ "<lambda>")
    (hfree : ∀ y ∈ scope.names, y.2 = .free → X.env.scope.names.lookup y.1 = some .cell ∨ X.env.scope.names.lookup y.1 = some .free) (hdef : defaultsOf params X.env = ([], []) := by rfl) : PE X (.Lambda params body scope pos) (tLam0 X T params body scope) := by
  refine ⟨fun pins s σ H Q I h => ?_⟩
  obtain ⟨hT, h⟩ := h
  refine PySem.W.kla_eval hdef ?_
  rw [makeFunction_eq]
  simp only [List.zip_nil_right, List.filterMap_nil, List.isEmpty_nil, if_true, pure_bind]
  exact lm_make I TB hcode hm hu hT (fun y hy e => (hfree y hy e).elim (fun z => I.ok.has _ (.inl z)) fun z => I.ok.has _ (.inr z)) fun f c' H1 s' I1 eN nn T1 f0 f1 c1 => ⟨.ref f, H1, I1, rfl, h f c' H1 eN nn T1 f0 f1 c1⟩
theorem pe_lam1 {d : Expr} {td : TE} (TB : TabB X.base X.mg c P) (hcode : X.env.code = .ref c) (hm : (P, X.env.qual ++ "<lambda>") ∈ T) (hu : ∀ p ∈ T, p.1 = P → p.2 = X.env.qual ++ "<lambda>")
    (hfree : ∀ y ∈ scope.names, y.2 = .free → X.env.scope.names.lookup y.1 = some .cell ∨ X.env.scope.names.lookup y.1 = some .free) (hd : PE X d td) (hdef : defaultsOf params X.env = ([eval d X.env], []) := by rfl) : PE X (.Lambda params body scope pos) (tLam1 X T params body scope td) := by
  refine ⟨fun pins s σ H Q I h => ?_⟩
  rw [arm_eval_Lambda, hdef]
  show wpAny _ X.A (do let dv ← evalAll [eval d X.env]; let kdv ← holding dv (evalAllOpt []); makeFunction "<lambda>" (X.env.qual ++ "<lambda>") params (.expr body) scope X.env dv kdv [] pos pos.line) _ _ s
  refine wpAny_bind (wpAny_bind (wpAny_mono (hd.run pins s σ H _ I h) (fun v s1 hq => ?_) fun _ _ x => x))
  obtain ⟨x, H0, I0, rx, q⟩ := hq
  refine wpAny_bind (wpAny_holding (wpAny_pure (wpAny_pure (wpAny_bind (wpAny_holding (wpAny_pure ?_))))))
  rw [makeFunction_eq]
  simp only [List.zip_nil_right, List.filterMap_nil, List.isEmpty_nil, List.isEmpty_cons, Bool.false_eq_true, if_false, if_true, pure_bind]
  refine wpAny_bind (wpAny_newTextTuple ?_)
  have n0 : H0 s1.heap.objs.size = none := I0.hok.fresh (Nat.le_refl _)
  have I1 : Inv X pins σ (upd H0 s1.heap.objs.size (.tup [x])) { s1 with heap := s1.heap.push { cls := .type "tuple", data := .seq [v].toArray } } :=
    I0.laid (t' := s1.toks) (a := s1.heap.objs.size) (fun b u e => Heap.get?_push_of_some _ e) (Nat.le_refl _) ⟨(by show 1 ≤ sizeLine; decide), [v], .cons rx .nil, _, Heap.get?_push_size _ rfl, rfl, _, rfl⟩
  obtain ⟨hT, q⟩ := q _ n0
  exact lm_make I1 TB hcode hm hu hT (fun y hy e => (hfree y hy e).elim (fun z => I.ok.has _ (.inl z)) fun z => I.ok.has _ (.inr z)) fun f c' H1 s' I2 eN nn T1 f0 f1 c1 => ⟨.ref f, H1, I2, rfl, q f c' H1 eN nn T1 f0 f1 c1⟩
end
/-- x(), x a name that holds a lambda made by mk, whose defaults are ds; js: where the captured names stand among the running frame's -/
def tCallL (mk : Addr → NF) (lb : Expr) (i : Nat) (js : List Nat) (N : List Str) (ds : List V) (E : L2.St → XK) (tb : XK → TE) : TE := fun σ H Q => ∃ f c' dV, σ[i]? = some (some (.ref f)) ∧ H f = some (LmO f (mk c') lb dV) ∧ H (mk c').c = some (CodeO (mk c').c (mk c').qual) ∧
  ((ds = [] ∧ dV = .none) ∨ ∃ t, dV = .ref t ∧ H t = some (.tup ds)) ∧ tb (E σ) (startF N ds (js.map (slotAt σ))) H Q
section
variable {X : Cx} {mk : Addr → NF} {lb : Expr} {cl : List (Str × Addr)} {ps fr N : List Str} {js : List Nat} {i j k : Nat} {x : Str} {ds : List V} {E : L2.St → XK} {tb : XK → TE} {p pos : Pos}
theorem lm_run {pins : List (Addr × Obj)} {σ : L2.St} {H : Hp} {s : Shared} {Q : VK} {f : Addr} {F : NF} {dV pm ctv : Value} {us : List Value} {od : Option Addr} {sl : Array (Option Value)} {t : TE} {E0 : XK} (S : NScope N ps fr F.scope) (hr : Room (k + 1) X.A) (hx : ∀ (pins : List (Addr × Obj)) (H : Hp) (s : Shared) (e : Value) (s' : Shared), Inv X pins σ H s → L2.CX X.prog X.w X.stack H s E0 e s' → X.xe e s') (I : Inv X pins σ H s)
    (ho : s.heap.get? f = some (⟨.type "function", od, .func (lmFd F lb dV pm ctv), sl⟩ : Obj)) (hc : H F.c = some (CodeO F.c F.qual)) (C : CellsAt F.cl fr (js.map (slotAt σ)) s.heap H) (hb : BindsTo s (lmFd F lb dV pm ctv) ⟨[], []⟩ (ps.zip us)) (r : Vals ds us) (hl : ds.length = ps.length)
    (hbody : ∀ (A : Around) (outer : List Env) (s : Shared) (H : Hp), Room k (A.deeper (envF F f s.heap.objs.size)) → PE (ncx (L2.CX X.prog X.w) X.prog X.w X.K X.mg X.base N F f A outer s H E0) lb t)
    (q : t (startF N ds (js.map (slotAt σ))) H Q) : wpAny (model X.prog X.w) X.A (call (.ref f) []) (EP X pins σ Q) X.xe s := by
  have lim : s.heap.NoLimit := I.nolimit
  have rc : codeAny (model X.prog X.w) X.A (.call (.ref f) ⟨[], []⟩) (CR (L2.CX X.prog X.w) X.stack X.prog X.w H s Q E0) s := by
    refine PySem.W.kla_callFunE hr.depth ho rfl S.co S.gen rfl (codeO_at I.hok hc) (hb _ _ _ _ ?_)
    refine wpAny_newFunctionEnv S.nocell (fun ⟨n, _⟩ hy => S.par n (List.of_mem_zip hy).1) (fun h₁ hns hsb => ⟨lim.fresh _ hsb, ?_⟩) S.kind
    show codeAny _ _ (.expr lb (envF F f s.heap.objs.size)) _ _
    have kp : ∀ b o, s.heap.get? b = some o → h₁.get? b = some o := fun b o e => hsb.extBut b o (Nat.ne_of_lt (Heap.lt_size e)) (Heap.get?_push_of_some _ e)
    have J : Inv (ncx (L2.CX X.prog X.w) X.prog X.w X.K X.mg X.base N F f X.A X.stack s H E0) [] (startF N ds (js.map (slotAt σ))) H { s with heap := h₁, toks := s.toks + (ps.zip us).length } := inv_startN S hr.hd I.env0 hl r C hns kp
    refine PySem.W.kla_codeExpr (wpAny_mono ((hbody _ _ s H (hr.deeper _)).run [] _ _ H Q J q) (fun v s' hq => ?_) fun e s' hq => hq)
    obtain ⟨w', H', J', rv, q⟩ := hq
    exact ⟨w', H', J'.os, J'.bare, J'.base, J'.hok, rv, q⟩
  refine wpAny_call (codeAny_mono rc fun r s' hq => ?_)
  cases r with
  | error e => exact hx pins H s e s' I hq
  | ok fl =>
    cases fl with
    | ret u => exact I.after hq
    | next => exact False.elim hq
    | brk => exact False.elim hq
    | cont => exact False.elim hq
theorem pe_callL (S : ∀ c', NScope N ps fr (mk c').scope) (hcl : ∀ c', (mk c').cl = cl) (cp : X.Ok → Caps X cl fr js) (hr : Room j X.A) (hk : k + 1 ≤ j) (hx : ∀ σ, PassesAt (L2.CX X.prog X.w) X σ (E σ)) (hN : X.N[i]? = some x) (hv : Vis X.env.scope x)
    (hl : ds.length = ps.length) (hb0 : ds = [] → ∀ c' pm ctv, bindArgs (lmFd (mk c') lb .none pm ctv) ⟨[], []⟩ = pure (ps.zip []))
    (hb1 : ∀ c' T pm ctv (its : List Value), its.length = ds.length → ∃ kk, bindArgs (lmFd (mk c') lb (.ref T) pm ctv) ⟨[], []⟩ = seqItems? (.ref T) >>= kk ∧ kk (some its.toArray) = pure (ps.zip its))
    (hbody : ∀ (E0 : XK) (f c' : Addr) (A : Around) (outer : List Env) (s : Shared) (H : Hp), Room k (A.deeper (envF (mk c') f s.heap.objs.size)) → PE (ncx (L2.CX X.prog X.w) X.prog X.w X.K X.mg X.base N (mk c') f A outer s H E0) lb (tb E0))
    (hd : (x == ("__debug__" : Str)) = false := by decide) (hcd : (x == ("__classdict__" : Str)) = false := by decide) : PE X (.Call (.Name x p) [] [] pos) (tCallL mk lb i js N ds E tb) := by
  refine ⟨fun pins s σ H Q I h => ?_⟩
  obtain ⟨f, c', dV, hs, hf, hc, hdv, q⟩ := h
  refine wpAny_Call_Name_kw (thn ((pe_var (pos := p) hN hv hd hcd).run pins s σ H (fun v H1 => v = .ref f ∧ H1 = H) I ⟨.ref f, hs, rfl, rfl⟩) fun u s1 ⟨v, H1, I1, r1, q1⟩ => ?_)
  obtain ⟨ev, eH⟩ := q1
  subst ev
  rw [eH] at I1
  obtain rfl : u = Value.ref f := r1
  obtain ⟨od, sl, pm, ctv, ho⟩ := lmO_at I1.hok hf
  refine PySem.W.callWith_F0 (first := []) ⟨_, od, _, sl, ho⟩ ?_
  show wpAny _ _ (call (.ref f) []) _ _ _
  have C : CellsAt (mk c').cl fr (js.map (slotAt σ)) s1.heap H := by
    rw [hcl c']
    exact cells_of I1 (cp I1.ok)
  have hr' : Room (k + 1) X.A := hr.mono hk
  rcases hdv with ⟨ed, e2⟩ | ⟨t, e2, ht⟩
  · subst e2
    refine lm_run (us := []) (S c') hr' (hx σ) I1 ho hc C (.of_eq (hb0 ed c' pm ctv)) (by rw [ed]; exact .nil) hl (fun A outer s H hr => hbody (E σ) f c' A outer s H hr) q
  · subst e2
    obtain ⟨_, its, rv, o, h1, h2, n, h3⟩ := (show ObjOk X.prog X.w H s1.heap t (.tup ds) from I1.hok t _ ht)
    obtain ⟨kk, e1, e2⟩ := hb1 c' t pm ctv its rv.length.symm
    refine lm_run (us := its) (S c') hr' (hx σ) I1 ho hc C (fun M A E Q q => ?_) rv hl (fun A outer s H hr => hbody (E σ) f c' A outer s H hr) q
    rw [e1]
    refine wpAny_bind (wpAny_seqItems h1 h3 ?_)
    rw [e2]
    exact wpAny_pure q
end
end Q
set_option maxHeartbeats 8000000
/-! F33: the law's pen: draws, picks, mixed orders. -/
namespace Q
open PySem PySem.Spec PyProof.Rows L2
abbrev sLawPen : Stmt := top 75
abbrev sLawDraw : Stmt := top 76
abbrev sLawPick : Stmt := top 77
abbrev sLawMixed : Stmt := top 78
abbrev sLawPlaces : Stmt := top 79
abbrev sLawRows : Stmt := top 80
abbrev sLawAllRows : Stmt := top 81
abbrev sLawTable : Stmt := top 82
abbrev sLawSize : Stmt := top 83
abbrev sLawOrdered : Stmt := top 84
abbrev sLawKind : Stmt := top 85
abbrev sLawSays : Stmt := top 86
abbrev sLawTerm : Stmt := top 87
abbrev sLawHidden : Stmt := top 88
abbrev sLawTermText : Stmt := top 89
abbrev sLawWordsText : Stmt := top 90
abbrev sLawLotText : Stmt := top 91
abbrev sLawRules : Stmt := top 92
abbrev sLawRulesText : Stmt := top 93
abbrev sLaw : Stmt := top 94
/-- the pen at p: at most n cells were taken -/
def Pen (H : Hp) (p c : Addr) (n : Nat) : Prop := ∃ (cells : List Int) (at_ rest : Int), H p = some (.lst [.ref c, .int at_, .int rest]) ∧ H c = some (.lst (cells.map V.int)) ∧ 0 ≤ at_ ∧ at_ ≤ n ∧ 0 ≤ rest ∧ cells.length < 1000
theorem Pen.mono {H H' : Hp} {p c : Addr} {n m : Nat} (h : Pen H p c n) (e : Ex H H') (hm : n ≤ m) : Pen H' p c m := by
  obtain ⟨cells, a, r, h1, h2, h3, h4, h5, h6⟩ := h
  exact ⟨cells, a, r, e _ _ h1, e _ _ h2, h3, by omega, h5, h6⟩
theorem Pen.at {H : Hp} {p c : Addr} {n : Nat} (h : Pen H p c n) : H p ≠ none := by
  obtain ⟨cells, a, r, h1, _⟩ := h
  rw [h1]; exact fun z => nomatch z
section
variable {P : Program} {w : World} {K : Frag} {mg : Str → Option Value} {base : Heap} {X : Hs} {σ : L2.St} {H : Hp} {te ta tb ti : TE} {α β : Type} {r : Rel α} {D : Ends}
/-- xs[j], xs one's own -/
theorem er_ixO {i o j : Nat} {vs : List V} {x : α} (hs : σ[i]? = some (some (.ref o))) (ho : H o = some (.lst vs)) {v : V} (hj : vs[j]? = some v) (hr : ∀ H1, Ex H H1 → r K (hid X H1) v x) : Er K X (tOp (rIxL K) (tVar i) (tC (.int (j : Nat)))) σ H r x := fun H1 e d Q q =>
  ⟨.ref o, hs, o, vs, (j : Nat), v, rfl, rfl, .inl (.inl (e _ _ ho)), atI_nat hj, q v H1 (Evl.Ex.refl H1) (hr H1 e)⟩
theorem er_int1 {x : Int} (h : Er K X te σ H rInt x) : Er K X (tCB (fun xs H Q => (∃ i, xs = [V.int i] ∧ Q (.int i) H) ∨ ∃ k, xs = [V.bl k] ∧ Q (.int (if k then 1 else 0)) H) (tCons te tNil)) σ H rInt x := er_cb1 h fun v H1 _ _ hv Q k => .inl ⟨x, by rw [show v = V.int x from hv], k _ H1 (Evl.Ex.refl _) rfl⟩
theorem er_intB {x : Bool} (h : Er K X te σ H rBl x) : Er K X (tCB (fun xs H Q => (∃ i, xs = [V.int i] ∧ Q (.int i) H) ∨ ∃ k, xs = [V.bl k] ∧ Q (.int (if k then 1 else 0)) H) (tCons te tNil)) σ H rInt (if x then 1 else 0) := er_cb1 h fun v H1 _ _ hv Q k => .inr ⟨x, by rw [show v = V.bl x from hv], k _ H1 (Evl.Ex.refl _) rfl⟩
/-- xs[j] = te, xs one's own -/
theorem st_setO {i o j : Nat} {vs : List V} {x : α} (hs : σ[i]? = some (some (.ref o))) (ho : H o = some (.lst vs)) (hj : j < vs.length) (h : Er K X te σ H r x) (d : Dm X H) (k : ∀ v H2, Ex H H2 → r K (hid X H2) v x → D.nx σ (upd H2 o (.lst (vs.set j v)))) :
    tAsg te (gSub (tVar i) (tC (.int (j : Nat))) rSetL) D σ H := h.go d fun v H2 e hv => ⟨.ref o, hs, o, vs, (j : Nat), j, rfl, rfl, e _ _ ho, by
    unfold ixN
    rw [if_pos (by omega), if_pos (by omega)]
    simp, k v H2 e hv⟩
def spDraw : Sp := fun vs H Q _ => ∃ p c n m, vs = [.ref p, .int m] ∧ 0 < m ∧ m < 1073741824 ∧ Pen H p c n ∧ n < 1000000 ∧ ∀ d H', 0 ≤ d → d < m → Off p H H' → Pen H' p c (n + 1) → Q (.int d) H'
theorem Pen.ne {H : Hp} {p c : Addr} {n : Nat} (h : Pen H p c n) : c ≠ p := fun z => by
  obtain ⟨cells, a, r, h1, h2, _⟩ := h
  rw [z, h1] at h2
  have z2 := HO.lst.inj (Option.some.inj h2)
  cases cells with
  | nil => simp at z2
  | cons x l => simp at z2
theorem Pen.cat {H : Hp} {p c : Addr} {n : Nat} (h : Pen H p c n) : H c ≠ none := by
  obtain ⟨cells, a, r, h1, h2, _⟩ := h
  rw [h2]; exact fun z => nomatch z
theorem Pen.upd {H : Hp} {p c b : Addr} {n : Nat} {o : HO} (h : Pen H p c n) (h1 : p ≠ b) (h2 : c ≠ b) : Pen (upd H b o) p c n := by
  obtain ⟨cells, a, r, g1, g2, g3⟩ := h
  exact ⟨cells, a, r, by rw [upd_ne h1]; exact g1, by rw [upd_ne h2]; exact g2, g3⟩
/-- two ways that meet -/
theorem join_at {t : TS} {D : Ends} {σ : L2.St} {H : Hp} (R : L2.St → Hp → Prop) (hR : ∀ σ' H', R σ' H' → D.nx σ' H') (h : (∀ σ' H', R σ' H' → D.nx σ' H') → t D σ H) : t D σ H := h hR
abbrev NLawDraw : List Str := ["pen", "many", "rest", "at", "cell", "mixed"]
theorem scLawDraw : FnScope NLawDraw ["pen", "many"] (defScope sLawDraw) := ⟨rfl, rfl, rfl, by decide +kernel, rfl, by decide +kernel, by decide +kernel⟩
theorem ok_draw (B : Bi mg) (D : Dfn K mg "_law_draw" sLawDraw ["pen", "many"]) : Kp P w K mg base 1 "_law_draw" ["pen", "many"] spDraw :=
  D.kp fun f fd F hm b => F.ok scLawDraw (fun vs H Q E ⟨p, c, n, m, e, _⟩ => by rw [e]; rfl) fun cdv A outer s H vs Q E hr ⟨p, c, n, m, e, m0, m1, hp, hn, q⟩ => by
    subst e
    have hcp := hp.ne
    obtain ⟨cells, at_, rest, h1, h2, h3, h4, h5, h6⟩ := hp
    refine ⟨_, (pss_cons (ps_if (pt_cmpR op_gt (pe_ix ix_list (pv 0) pe_int (fun _ _ => rfl)) pe_int (nomark _)) (pss_cons (ps_set (i := 2) scLawDraw.nd rfl (.inl rfl) (pe_callTy call_int1 rfl B.int (by decide +kernel) (pa_cons (pe_ix ix_list (pv 0) pe_int (fun _ _ => rfl)) pa_nil)))
    (pss_cons (ps_asg (pe_op op_fdiv (pv 2) (pv 1)) (pg_sub (pv 0) pe_int set_list))
    (pss_one (ps_ret (pe_op op_mod (pe_callTy call_int1 rfl B.int (by decide +kernel) (pa_cons (pv 2) pa_nil)) (pv 1)))))) pss_nil)
    (pss_cons (ps_set (i := 3) scLawDraw.nd rfl (.inl rfl) (pe_callTy call_int1 rfl B.int (by decide +kernel) (pa_cons (pe_ix ix_list (pv 0) pe_int (fun _ _ => rfl)) pa_nil)))
    (pss_cons (ps_asg (pe_op op_add (pv 3) pe_int) (pg_sub (pv 0) pe_int set_list))
    (pss_cons (ps_set (i := 4) scLawDraw.nd rfl (.inl rfl) (pe_op op_add (pe_op op_mul pe_int (pv 3)) pe_int))
    (pss_cons (ps_if (pt_cmpR (op_neNil (hu0 hr)) (pe_ix ix_list (pv 0) pe_int (fun _ _ => rfl)) (pe_lst pa_nil) (nomark _)) (pss_one (ps_set (i := 4) scLawDraw.nd rfl (.inl rfl) (pe_ix ix_list (pe_ix ix_list (pv 0) pe_int (fun _ _ => rfl)) (pe_op op_mod (pv 3) (pe_callB call_len rfl B.len (by decide +kernel) (pa_cons (pe_ix ix_list (pv 0) pe_int (fun _ _ => rfl)) pa_nil))) (fun _ _ => rfl)))) pss_nil)
    (pss_cons (ps_if (PW.pt (pw_and (pt_cmpR op_lt (pv 3) (pe_callB call_len rfl B.len (by decide +kernel) (pa_cons (pe_ix ix_list (pv 0) pe_int (fun _ _ => rfl)) pa_nil)) (nomark _)) (pw_and1 (pt_cmpR op_ge (pe_callB call_abs rfl B.abs (by decide +kernel) (pa_cons (pv 4) pa_nil)) (pe_op op_pow pe_int pe_int) (nomark _))))) (pss_cons (ps_set (i := 2) scLawDraw.nd rfl (.inl rfl) (pe_op op_add (pe_op op_mul pe_int (pe_op op_sub (pe_callB call_abs rfl B.abs (by decide +kernel) (pa_cons (pv 4) pa_nil)) (pe_op op_pow pe_int pe_int))) (pe_callTy call_int1 rfl B.int (by decide +kernel) (pa_cons (pe_cmpR op_lt (pv 4) pe_int (nomark _)) pa_nil))))
    (pss_cons (ps_asg (pe_op op_fdiv (pe_callTy call_int1 rfl B.int (by decide +kernel) (pa_cons (pv 2) pa_nil)) (pv 1)) (pg_sub (pv 0) pe_int set_list))
    (pss_one (ps_ret (pe_op op_mod (pe_callTy call_int1 rfl B.int (by decide +kernel) (pa_cons (pv 2) pa_nil)) (pv 1)))))) pss_nil)
    (pss_cons (ps_set (i := 5) scLawDraw.nd rfl (.inl rfl) (pe_op op_mod (pe_callTy call_int1 rfl B.int (by decide +kernel) (pa_cons (pe_op op_pow (pe_op op_add (pe_op op_add (pe_op op_mod (pe_callTy call_int1 rfl B.int (by decide +kernel) (pa_cons (pv 4) pa_nil)) pe_int) (pe_op op_mul pe_int (pv 3))) pe_int) pe_int) pa_nil)) pe_int))
    (pss_cons (ps_set (i := 5) scLawDraw.nd rfl (.inl rfl) (pe_op op_mod (pe_callTy call_int1 rfl B.int (by decide +kernel) (pa_cons (pe_op op_pow (pe_op op_add (pe_op op_add (pe_op op_mul (pv 5) (pe_op op_add (pe_op op_mul pe_int (pv 3)) pe_int)) (pe_op op_mul (pe_op op_mul pe_int (pv 3)) (pv 3))) pe_int) pe_int) pa_nil)) pe_int))
    (pss_one (ps_ret (pe_op op_mod (pe_callTy call_int1 rfl B.int (by decide +kernel) (pa_cons (pe_op op_fdiv (pv 5) pe_int) pa_nil)) (pv 1)))))))))))), ?_⟩
    by_cases hr0 : 0 < rest
    · refine st_if (X := no) (et_test (Er.is (er_cmp0 (K := K) (g := fun i j => decide (j < i)) (er_ixO (r := rInt) (x := rest) (i := 0) (j := 2) rfl h1 rfl fun _ _ => rfl) er_int) (decide_eq_true hr0))) Dm.no (fun _ H1 e1 => ?_) fun z => nomatch z
      refine sq (st_set (K := K) (X := no) (r := rInt) (x := rest) (er_int1 (er_ixO (r := rInt) (x := rest) (i := 0) (j := 2) rfl (e1 _ _ h1) rfl fun _ _ => rfl)) Dm.no fun v H2 e2 hv => ?_)
      have hv : v = .int rest := hv
      subst hv
      have g2 := e2 _ _ (e1 _ _ h1)
      refine sq (st_setO (K := K) (X := no) (r := rInt) (x := rest / m) (i := 0) (j := 2) rfl g2 (by show 2 < 3; decide) (er_opI (C := CDiv) (g := fun i j => i / j) (er_var rfl rfl) (er_var rfl rfl) ⟨m0, m1⟩) Dm.no fun v H3 e3 hv => ?_)
      have hv : v = .int (rest / m) := hv
      subst hv
      have hpen : Pen (upd H3 p (.lst [.ref c, .int at_, .int (rest / m)])) p c (n + 1) := ⟨cells, at_, rest / m, upd_same, by rw [upd_ne hcp]; exact e3 _ _ (e2 _ _ (e1 _ _ h2)), h3, by omega, Int.ediv_nonneg (by omega) (by omega), h6⟩
      refine ret_of (K := K) (X := no) (r := rInt) (x := rest % m) (er_opI (C := fun _ j => 0 < j) (g := fun i j => i % j) (er_int1 (er_var rfl rfl)) (er_var rfl rfl) m0) Dm.no fun v H4 e4 hv => ?_
      rw [show v = V.int (rest % m) from hv]
      exact q _ _ (Int.emod_nonneg _ (by omega)) (Int.emod_lt_of_pos _ m0) (fun b o hb h => e4 _ _ (by rw [upd_ne hb]; exact e3 _ _ (e2 _ _ (e1 _ _ h)))) (hpen.mono e4 (Nat.le_refl _))
    · refine st_skip (X := no) (et_test (Er.is (er_cmp0 (K := K) (g := fun i j => decide (j < i)) (er_ixO (r := rInt) (x := rest) (i := 0) (j := 2) rfl h1 rfl fun _ _ => rfl) er_int) (decide_eq_false hr0))) Dm.no fun H1 e1 => ?_
      refine sq (st_set (K := K) (X := no) (r := rInt) (x := at_) (er_int1 (er_ixO (r := rInt) (x := at_) (i := 0) (j := 1) rfl (e1 _ _ h1) rfl fun _ _ => rfl)) Dm.no fun v H2 e2 hv => ?_)
      have hv : v = .int at_ := hv
      subst hv
      have g2 := e2 _ _ (e1 _ _ h1)
      refine sq (st_setO (K := K) (X := no) (r := rInt) (x := at_ + 1) (i := 0) (j := 1) rfl g2 (by show 1 < 3; decide) (er_op0 (g := fun i j => i + j) (er_var rfl rfl) er_int) Dm.no fun v H3 e3 hv => ?_)
      have hv : v = .int (at_ + 1) := hv
      subst hv
      generalize hG : upd H3 p (.lst (List.set [V.ref c, .int at_, .int rest] 1 (.int (at_ + 1)))) = G
      have off3 : Off p H G := fun b o hb h => by rw [← hG, upd_ne hb]; exact e3 _ _ (e2 _ _ (e1 _ _ h))
      have gp : G p = some (.lst [.ref c, .int (at_ + 1), .int rest]) := by rw [← hG, upd_same]; rfl
      have gc : G c = some (.lst (cells.map V.int)) := off3 _ _ hcp h2
      have hcl : (cells.map V.int).length = cells.length := List.length_map ..
      have rc : ∀ H1, Ex G H1 → rLst rInt K (hid no H1) (V.ref c) cells := fun H1 e => ⟨c, _, rfl, .inl (.inl (by rw [hid_no]; exact e _ _ gc)), Paired.of_map (f := V.int) (fun _ => rfl) _⟩
      have epc : Er K no (tOp (rIxL K) (tVar 0) (tC (.int (0 : Nat)))) [some (.ref p), some (.int m), none, some (.int at_), none, none] G (rLst rInt) cells := er_ixO (i := 0) (j := 0) rfl gp rfl rc
      dsimp only
      refine sq (st_set (K := K) (X := no) (r := rInt) (x := 77157 * at_ + 9653) (er_op0 (g := fun i j => i + j) (er_opI (C := CMul) (g := fun i j => i * j) er_int (er_var (i := 3) rfl rfl) (.inl ⟨by decide, by decide⟩)) er_int) Dm.no fun v H4 e4 hv => ?_)
      have hv : v = .int (77157 * at_ + 9653) := hv
      subst hv
      dsimp only
      refine sq ?_
      refine join_at (fun σ' H' => ∃ cell : Int, σ' = [some (.ref p), some (.int m), none, some (.int at_), some (.int cell), none] ∧ Ex G H') ?_ fun hj => ?_
      rotate_left
      · have epc4 : Er K no (tOp (rIxL K) (tVar 0) (tC (.int (0 : Nat)))) [some (.ref p), some (.int m), none, some (.int at_), some (.int (77157 * at_ + 9653)), none] H4 (rLst rInt) cells := er_ixO (i := 0) (j := 0) rfl (e4 _ _ gp) rfl fun H1 e => rc H1 (e4.trans e)
        refine st_if (X := no) (b := !decide (cells.length = 0)) (et_test (er_neNil (r := rInt) (xs := cells) (ys := []) epc4 er_nil (.inr rfl))) Dm.no (fun hb H5 e5 => ?_) fun hb H5 e5 => hj _ _ ⟨_, rfl, e4.trans e5⟩
        have hl0 : 0 < cells.length := by
          by_cases z : cells.length = 0
          · rw [decide_eq_true z] at hb; cases hb
          · omega
        have epc5 := epc4.mono e5
        have hk1 : 0 ≤ at_ % (cells.length : Int) := Int.emod_nonneg _ (by omega)
        have hk2 : at_ % (cells.length : Int) < cells.length := Int.emod_lt_of_pos _ (by omega)
        obtain ⟨kk, hkk⟩ : ∃ kk : Nat, at_ % (cells.length : Int) = kk := ⟨(at_ % (cells.length : Int)).toNat, by omega⟩
        have hkl : kk < cells.length := by omega
        refine st_set (K := K) (X := no) (r := rInt) (x := cells[kk]) (er_ixL (r := rInt) (xs := cells) (i := kk) epc5 (Er.is (er_opI (C := fun _ j => 0 < j) (g := fun i j => i % j) (er_var (i := 3) rfl rfl) (er_lenL epc5) (by omega)) hkk) (List.getElem?_eq_getElem hkl)) Dm.no fun v H6 e6 hv => ?_
        rw [show v = V.int cells[kk] from hv]
        exact hj _ _ ⟨cells[kk], rfl, (e4.trans e5).trans e6⟩
      rintro σ' H5 ⟨cell, rfl, e5⟩
      have epc5 : Er K no (tOp (rIxL K) (tVar 0) (tC (.int (0 : Nat)))) [some (.ref p), some (.int m), none, some (.int at_), some (.int cell), none] H5 (rLst rInt) cells := er_ixO (i := 0) (j := 0) rfl (e5 _ _ gp) rfl fun H1 e => rc H1 (e5.trans e)
      have e18 : Er K no (tOp (rI CPow fun i j => .int (i ^ j.toNat)) (tC (.int 10)) (tC (.int 18))) [some (.ref p), some (.int m), none, some (.int at_), some (.int cell), none] H5 rInt ((10 : Int) ^ (18 : Int).toNat) := er_opI (C := CPow) (g := fun i j => i ^ j.toNat) er_int er_int ⟨by decide, by decide, by decide⟩
      by_cases hbig : (decide (at_ < (cells.length : Int)) && decide ((10 : Int) ^ 18 ≤ (if cell < 0 then -cell else cell))) = true
      · refine st_if (X := no) (b := decide (at_ < (cells.length : Int)) && decide ((10 : Int) ^ 18 ≤ (if cell < 0 then -cell else cell))) (et_and (et_test (er_cmp0 (g := fun i j => decide (i < j)) (er_var (i := 3) rfl rfl) (er_lenL epc5))) fun _ => et_test (er_cmp0 (g := fun i j => decide (j ≤ i)) (er_abs (er_var (i := 4) rfl rfl)) e18)) Dm.no (fun _ H6 e6 => ?_) fun z => absurd hbig (by rw [z]; exact Bool.false_ne_true)
        have hbg : (10 : Int) ^ 18 ≤ (if cell < 0 then -cell else cell) := of_decide_eq_true (Bool.and_eq_true_iff.mp hbig).2
        let r2 : Int := 2 * ((if cell < 0 then -cell else cell) - 10 ^ 18) + (if decide (cell < 0) = true then 1 else 0)
        have hr2 : 0 ≤ r2 := by
          show 0 ≤ 2 * ((if cell < 0 then -cell else cell) - 10 ^ 18) + (if decide (cell < 0) = true then (1 : Int) else 0)
          split <;> split <;> simp_all <;> omega
        refine sq (st_set (K := K) (X := no) (r := rInt) (x := r2) (er_op0 (g := fun i j => i + j) (er_opI (C := CMul) (g := fun i j => i * j) er_int (er_op0 (g := fun i j => i - j) (er_abs (er_var (i := 4) rfl rfl)) (e18.mono e6)) (.inl ⟨by decide, by decide⟩)) (er_intB (er_cmp0 (g := fun i j => decide (i < j)) (er_var (i := 4) rfl rfl) er_int))) Dm.no fun v H7 e7 hv => ?_)
        have hv : v = .int r2 := hv
        subst hv
        have e67 := (e5.trans e6).trans e7
        dsimp only
        refine sq (st_setO (K := K) (X := no) (r := rInt) (x := r2 / m) (i := 0) (j := 2) rfl (e67 _ _ gp) (by show 2 < 3; decide) (er_opI (C := CDiv) (g := fun i j => i / j) (er_int1 (er_var (i := 2) rfl rfl)) (er_var (i := 1) rfl rfl) ⟨m0, m1⟩) Dm.no fun v H8 e8 hv => ?_)
        have hv : v = .int (r2 / m) := hv
        subst hv
        have E8 := e67.trans e8
        have hpen : Pen (upd H8 p (.lst (List.set [V.ref c, .int (at_ + 1), .int rest] 2 (.int (r2 / m))))) p c (n + 1) := ⟨cells, at_ + 1, r2 / m, upd_same, by rw [upd_ne hcp]; exact E8 _ _ gc, by omega, by omega, Int.ediv_nonneg hr2 (by omega), h6⟩
        refine ret_of (K := K) (X := no) (r := rInt) (x := r2 % m) (er_opI (C := fun _ j => 0 < j) (g := fun i j => i % j) (er_int1 (er_var (i := 2) rfl rfl)) (er_var (i := 1) rfl rfl) m0) Dm.no fun v H9 e9 hv => ?_
        rw [show v = V.int (r2 % m) from hv]
        exact q _ _ (Int.emod_nonneg _ (by omega)) (Int.emod_lt_of_pos _ m0) (fun b o hb h => e9 _ _ (by rw [upd_ne hb]; exact E8 _ _ (off3 _ _ hb h))) (hpen.mono e9 (Nat.le_refl _))
      · refine st_if (X := no) (b := decide (at_ < (cells.length : Int)) && decide ((10 : Int) ^ 18 ≤ (if cell < 0 then -cell else cell))) (et_and (et_test (er_cmp0 (g := fun i j => decide (i < j)) (er_var (i := 3) rfl rfl) (er_lenL epc5))) fun _ => et_test (er_cmp0 (g := fun i j => decide (j ≤ i)) (er_abs (er_var (i := 4) rfl rfl)) e18)) Dm.no (fun z => absurd z hbig) fun _ H6 e6 => ?_
        have ha1 : at_ ≤ 1000000 := by omega
        have hsq : 0 ≤ at_ * at_ ∧ at_ * at_ ≤ 1000000 * 1000000 := ⟨Int.mul_nonneg h3 h3, Int.mul_le_mul ha1 ha1 h3 (by decide)⟩
        have hc1 : 0 ≤ cell % 2147483423 := Int.emod_nonneg _ (by decide)
        have hc2 : cell % 2147483423 < 2147483423 := Int.emod_lt_of_pos _ (by decide)
        let x1 : Int := (cell % 2147483423 + 77157 * at_ + 9653) ^ (5 : Int).toNat % 2147483399
        have hx1 : 0 ≤ x1 := Int.emod_nonneg _ (by decide)
        have hx2 : x1 < 2147483399 := Int.emod_lt_of_pos _ (by decide)
        refine sq (st_set (K := K) (X := no) (r := rInt) (x := x1) (er_opI (C := fun _ j => 0 < j) (g := fun i j => i % j) (er_int1 (er_opI (C := CPow) (g := fun i j => i ^ j.toNat) (er_op0 (g := fun i j => i + j) (er_op0 (g := fun i j => i + j) (er_opI (C := fun _ j => 0 < j) (g := fun i j => i % j) (er_int1 (er_var (i := 4) rfl rfl)) er_int (by decide)) (er_opI (C := CMul) (g := fun i j => i * j) er_int (er_var (i := 3) rfl rfl) (.inl ⟨by decide, by decide⟩))) er_int) er_int ⟨by decide, by decide, by omega⟩)) er_int (by decide)) Dm.no fun v H7 e7 hv => ?_)
        have hv : v = .int x1 := hv
        subst hv
        have hp1 : 0 ≤ x1 * (2 * at_ + 9653) ∧ x1 * (2 * at_ + 9653) ≤ 2147483399 * 2009653 := ⟨Int.mul_nonneg hx1 (by omega), Int.mul_le_mul (by omega) (by omega) (by omega) (by decide)⟩
        have hp2 : 77157 * at_ * at_ = 77157 * (at_ * at_) := Int.mul_assoc _ _ _
        let x2 : Int := (x1 * (2 * at_ + 9653) + 77157 * at_ * at_ + 53543) ^ (3 : Int).toNat % 2147483353
        have hx3 : 0 ≤ x2 := Int.emod_nonneg _ (by decide)
        dsimp only
        refine sq (st_set (K := K) (X := no) (r := rInt) (x := x2) (er_opI (C := fun _ j => 0 < j) (g := fun i j => i % j) (er_int1 (er_opI (C := CPow) (g := fun i j => i ^ j.toNat) (er_op0 (g := fun i j => i + j) (er_op0 (g := fun i j => i + j) (er_opI (C := CMul) (g := fun i j => i * j) (er_var (i := 5) rfl rfl) (er_op0 (g := fun i j => i + j) (er_opI (C := CMul) (g := fun i j => i * j) er_int (er_var (i := 3) rfl rfl) (.inl ⟨by decide, by decide⟩)) er_int) (.inl ⟨by omega, by omega⟩)) (er_opI (C := CMul) (g := fun i j => i * j) (er_opI (C := CMul) (g := fun i j => i * j) er_int (er_var (i := 3) rfl rfl) (.inl ⟨by decide, by decide⟩)) (er_var (i := 3) rfl rfl) (.inl ⟨by omega, by omega⟩))) er_int) er_int ⟨by decide, by decide, by omega⟩)) er_int (by decide)) Dm.no fun v H8 e8 hv => ?_)
        have hv : v = .int x2 := hv
        subst hv
        have E8 := ((e5.trans e6).trans e7).trans e8
        have hpen : Pen H8 p c (n + 1) := ⟨cells, at_ + 1, rest, E8 _ _ gp, E8 _ _ gc, by omega, by omega, h5, h6⟩
        refine ret_of (K := K) (X := no) (r := rInt) (x := x2 / 64 % m) (er_opI (C := fun _ j => 0 < j) (g := fun i j => i % j) (er_int1 (er_opI (C := CDiv) (g := fun i j => i / j) (er_var (i := 5) rfl rfl) er_int ⟨by decide, by decide⟩)) (er_var (i := 1) rfl rfl) m0) Dm.no fun v H9 e9 hv => ?_
        rw [show v = V.int (x2 / 64 % m) from hv]
        exact q _ _ (Int.emod_nonneg _ (by omega)) (Int.emod_lt_of_pos _ m0) (fun b o hb h => e9 _ _ (E8 _ _ (off3 _ _ hb h))) (hpen.mono e9 (Nat.le_refl _))
end
end Q
set_option maxHeartbeats 8000000
/-! F34: picks, mixed orders, the pen's making. -/
namespace Q
open PySem PySem.Spec PyProof.Rows L2
section
variable {P : Program} {w : World} {K : Frag} {mg : Str → Option Value} {base : Heap} {X : Hs} {σ : L2.St} {H : Hp} {te ta tb ti : TE} {α β : Type} {r : Rel α} {D : Ends}
theorem Off.refl (a : Addr) (H : Hp) : Off a H H := fun _ _ _ h => h
theorem Off.trans {a : Addr} {H H1 H2 : Hp} (h : Off a H H1) (h2 : Off a H1 H2) : Off a H H2 := fun b o hb q => h2 b o hb (h b o hb q)
theorem Off.ex {a : Addr} {H H1 : Hp} (h : Ex H H1) : Off a H H1 := fun b o _ q => h b o q
theorem Off.hid {a : Addr} {H H1 : Hp} (h : Off a H H1) (hX : X a = true) : Ex (hid X H) (hid X H1) := hid_off h hX
/-- _law_draw(pen, te) -/
theorem run_draw {i : Nat} {p c : Addr} {n : Nat} {m : Int} {E : XK} {Q : VK} (hs : σ[i]? = some (some (.ref p))) (h : Er K X te σ H rInt m) (dm : Dm X H) (hp : Pen H p c n) (hn : n < 1000000) (m0 : 0 < m) (m1 : m < 1073741824)
    (k : ∀ d H', 0 ≤ d → d < m → Off p H H' → Pen H' p c (n + 1) → Q (.int d) H') : tCall spDraw [] E (tCons (tVar i) (tCons te tNil)) σ H Q :=
  ⟨.ref p, hs, h.go dm fun v H2 e hv => ⟨p, c, n, m, by rw [show v = V.int m from hv]; rfl, m0, m1, hp.mono e (Nat.le_refl _), hn, fun d H' d0 d1 off pn => k d H' d0 d1 ((Off.ex e).trans off) pn⟩⟩
def spPick (K : Frag) : Sp := fun vs H Q _ => ∃ (α : Type) (r : Rel α) (_ : Mono r) (p c : Addr) (n : Nat) (X : Hs) (xs : List α) (sv : V), vs = [.ref p, sv] ∧ X p = true ∧ Dm X H ∧ rLst r K (hid X H) sv xs ∧ xs ≠ [] ∧ xs.length < 1000000 ∧ Pen H p c n ∧ n < 1000000 ∧
  ∀ v x H', x ∈ xs → Off p H H' → Pen H' p c (n + 1) → r K (hid X H') v x → Q v H'
abbrev NLawPick : List Str := ["pen", "some"]
theorem scLawPick : FnScope NLawPick ["pen", "some"] (defScope sLawPick) := ⟨rfl, rfl, rfl, by decide +kernel, rfl, by decide +kernel, by decide +kernel⟩
theorem ok_pick (B : Bi mg) (c_law_draw : Kp P w K mg base 1 "_law_draw" ["pen", "many"] spDraw) (D : Dfn K mg "_law_pick" sLawPick ["pen", "some"]) : Kp P w K mg base 2 "_law_pick" ["pen", "some"] (spPick K) :=
  D.kp fun f fd F hm b => F.ok scLawPick (fun vs H Q E ⟨α, r, mr, p, c, n, X, xs, sv, e, _⟩ => by rw [e]; rfl) fun cdv A outer s H vs Q E hr ⟨α, r, mr, p, c, n, X, xs, sv, e, hX, dm, hl, hne, hz, hp, hn, q⟩ => by
    subst e
    refine ⟨_, (pss_one (ps_ret (pe_ix ix_list (pv 1) (pe_kp c_law_draw hr (by decide) (pa_cons (pv 0) (pa_cons (pe_callB call_len rfl B.len (by decide +kernel) (pa_cons (pv 1) pa_nil)) pa_nil))) (fun _ _ => rfl)))), ?_⟩
    have hpos : 0 < xs.length := List.length_pos_iff.mpr hne
    refine ⟨sv, rfl, run_draw (K := K) (X := X) (i := 0) rfl (er_lenL (r := r) (xs := xs) (er_var (i := 1) rfl hl)) dm hp hn (by omega) (by omega) fun d H' d0 d1 off pn => ?_⟩
    have hl' := (inferInstance : Mono (rLst r)).mono (off.hid hX).le hl
    obtain ⟨a, ws, rfl, hs, hpd⟩ := hl'
    obtain ⟨k, rfl⟩ : ∃ k : Nat, d = k := ⟨d.toNat, by omega⟩
    have hk : k < xs.length := by omega
    obtain ⟨v, hv, hrv⟩ := Paired.at hpd k xs[k] (List.getElem?_eq_getElem hk)
    exact ⟨a, ws, k, v, rfl, rfl, sql_hid hs, atI_nat hv, q v xs[k] H' (List.getElem_mem hk) off pn hrv⟩
/-- _law_pick(pen, te) -/
theorem run_pick [Mono r] {i : Nat} {p c : Addr} {n : Nat} {xs : List α} {E : XK} {Q : VK} (hs : σ[i]? = some (some (.ref p))) (hX : X p = true) (h : Er K X te σ H (rLst r) xs) (dm : Dm X H) (hp : Pen H p c n) (hn : n < 1000000) (hne : xs ≠ []) (hz : xs.length < 1000000)
    (k : ∀ v x H', x ∈ xs → Off p H H' → Pen H' p c (n + 1) → Dm X H' → r K (hid X H') v x → Q v H') : tCall (spPick K) [] E (tCons (tVar i) (tCons te tNil)) σ H Q :=
  ⟨.ref p, hs, h.go dm fun v H2 e hv => ⟨α, r, inferInstance, p, c, n, X, xs, v, rfl, hX, dm.ex e, hv, hne, hz, hp.mono e (Nat.le_refl _), hn, fun y x H' hx off pn hy => k y x H' hx ((Off.ex e).trans off) pn ((dm.ex e).off' off pn.at) hy⟩⟩
def spMixed (K : Frag) : Sp := fun vs H Q _ => ∃ (α : Type) (r : Rel α) (_ : Mono r) (p c : Addr) (n : Nat) (X : Hs) (xs : List α) (sv : V), vs = [.ref p, sv] ∧ X p = true ∧ Dm X H ∧ rLst r K (hid X H) sv xs ∧ Pen H p c n ∧ n + xs.length < 1000000 ∧
  ∀ v ys H', ys.Perm xs → Off p H H' → Pen H' p c (n + xs.length) → rLst r K (hid X H') v ys → Q v H'
theorem Paired.erase {α β : Type} {F : α → β → Prop} : ∀ (n : Nat) {l : List α} {m : List β}, Paired F l m → Paired F (l.eraseIdx n) (m.eraseIdx n)
  | _, _, _, .nil => .nil
  | 0, _, _, .cons _ b => b
  | n + 1, _, _, .cons a b => .cons a (Paired.erase n b)
theorem perm_erase {α : Type} : ∀ (n : Nat) (l : List α) (h : n < l.length), ([l[n]] ++ l.eraseIdx n).Perm l
  | 0, x :: l, _ => List.Perm.refl _
  | n + 1, x :: l, h => by
    have h' : n < l.length := by simpa using h
    have e : (x :: l)[n + 1] = l[n] := rfl
    rw [e]
    show (l[n] :: x :: l.eraseIdx n).Perm (x :: l)
    exact (List.Perm.swap _ _ _).trans (List.Perm.cons _ (perm_erase n l h'))
abbrev NLawMixed : List Str := ["pen", "some", "left", "found"]
theorem scLawMixed : FnScope NLawMixed ["pen", "some"] (defScope sLawMixed) := ⟨rfl, rfl, rfl, by decide +kernel, rfl, by decide +kernel, by decide +kernel⟩
theorem ok_mixed (B : Bi mg) (c_law_draw : Kp P w K mg base 1 "_law_draw" ["pen", "many"] spDraw) (D : Dfn K mg "_law_mixed" sLawMixed ["pen", "some"]) : Kp P w K mg base 2 "_law_mixed" ["pen", "some"] (spMixed K) :=
  D.kp fun f fd F hm b => F.ok scLawMixed (fun vs H Q E ⟨α, r, mr, p, c, n, X, xs, sv, e, _⟩ => by rw [e]; rfl) fun cdv A outer s H vs Q E hr ⟨α, r, mr, p, c, n, X, xs, sv, e, hX, dm, hl, hp, hz, q⟩ => by
    subst e
    refine ⟨_, (pss_cons (ps_par (i := 2) (j := 3) (by rfl) scLawMixed.nd rfl rfl (by decide) rfl rfl (pa_cons (pe_callTy call_list_of rfl B.list (by decide +kernel) (pa_cons (pv 1) pa_nil)) (pa_cons (pe_lst pa_nil) pa_nil)) (by rfl))
    (pss_cons (ps_while PassesOwn.never (pt_cmpR (op_neNil (hu0 hr)) (pv 2) (pe_lst pa_nil) (nomark _)) (pss_one (ps_expr (pe_bm PySem.F.plainAttrs_list PySem.F.slot_list_append PySem.F.type_list_append mt_append (pv 3) (pa_cons (pe_bm PySem.F.plainAttrs_list PySem.F.slot_list_pop PySem.F.type_list_pop mt_popAt (pv 2) (pa_cons (pe_kp c_law_draw hr (by decide) (pa_cons (pv 0) (pa_cons (pe_callB call_len rfl B.len (by decide +kernel) (pa_cons (pv 2) pa_nil)) pa_nil))) pa_nil)) pa_nil)))))
    (pss_one (ps_ret (pv 3))))), ?_⟩
    obtain ⟨sa, ws, rfl, hs, hpd⟩ := hl
    refine ⟨.ref sa, rfl, sa, ws, rfl, .inl (sql_hid hs), fun L hL => ⟨(by show 0 ≤ sizeLine; exact Nat.zero_le _), fun Fd hF => ⟨_, _, rfl, ?_⟩⟩⟩
    have hFL : Fd ≠ L := fun z => by rw [z, upd_same] at hF; cases hF
    have hFn : H Fd = none := by rw [upd_ne hFL] at hF; exact hF
    have hpL : p ≠ L := fun z => hp.at (by rw [z]; exact hL)
    have hpF : p ≠ Fd := fun z => hp.at (by rw [z]; exact hFn)
    generalize hH2 : upd (upd H L (.lst ws)) Fd (.lst []) = H2
    have e2 : Ex H H2 := by rw [← hH2]; exact Evl.Ex.trans (Evl.Ex.new hL) (Evl.Ex.new hF)
    have gL : H2 L = some (.lst ws) := by rw [← hH2, upd_ne hFL.symm, upd_same]
    have gF : H2 Fd = some (.lst []) := by rw [← hH2, upd_same]
    dsimp only
    let X2 : Hs := (X.and L).and Fd
    have X2p : X2 p = true := by
      show (((X p || decide (p = L)) || decide (p = Fd))) = true
      rw [hX]; rfl
    have X2L : X2 L = true := by
      show (((X L || decide (L = L)) || decide (L = Fd))) = true
      simp
    have X2F : X2 Fd = true := Hs.and_at _ _
    have eX : Ex (hid X H) (hid X2 H2) := fun b o hq => by
      obtain ⟨h1, h2⟩ := hid_some.mp hq
      have n1 : b ≠ L := ne_of_none h2 hL
      have n2 : b ≠ Fd := ne_of_none h2 hFn
      exact hid_some.mpr ⟨(Hs.and_ne (X := X.and L) n2).trans ((Hs.and_ne (X := X) n1).trans h1), e2 _ _ h2⟩
    have sub : ∀ H', Ex (hid X2 H') (hid X H') := fun H' b o hq => by
      obtain ⟨h1, h2⟩ := hid_some.mp hq
      refine hid_some.mpr ⟨?_, h2⟩
      have h1 : (((X b || decide (b = L)) || decide (b = Fd))) = false := h1
      exact (Bool.or_eq_false_iff.mp (Bool.or_eq_false_iff.mp h1).1).1
    refine sq (st_while (fun k σ' H' => ∃ ls fs ld fdd, σ' = [some (.ref p), some (.ref sa), some (.ref L), some (.ref Fd)] ∧ H' L = some (.lst ls) ∧ H' Fd = some (.lst fs) ∧ Paired (r K (hid X2 H')) ls ld ∧ Paired (r K (hid X2 H')) fs fdd ∧ (fdd ++ ld).Perm xs ∧ k = ld.length ∧ Pen H' p c (n + fdd.length) ∧ Dm X2 H' ∧
      ∀ b o, b ≠ p → H b = some o → H' b = some o) xs.length ⟨ws, [], xs, [], rfl, gL, gF, Paired.mono (fun _ _ z => mr.mono eX.le z) hpd, .nil, List.Perm.refl _, rfl, hp.mono e2 (Nat.le_refl _), ?_, fun b o _ h => e2 _ _ h⟩ ?_)
    · exact Dm.and (Dm.and (dm.ex e2) (by rw [gL]; exact fun z => nomatch z)) (by rw [gF]; exact fun z => nomatch z)
    · rintro k σ' H' ⟨ls, fs, ld, fdd, rfl, hLs, hFs, hpl, hpf, hperm, rfl, hpen, dm2, keep⟩
      refine ⟨X2, !decide (ls.length = 0), dm2, et_neOwn (i := 2) rfl hLs, fun H3 e3 => ?_⟩
      have hll : ls.length = ld.length := Paired.len hpl
      have hfl : fs.length = fdd.length := Paired.len hpf
      have hlen : fdd.length + ld.length = xs.length := by rw [← List.length_append]; exact hperm.length_eq
      have hL3 := e3 _ _ hLs
      have hF3 := e3 _ _ hFs
      have dm3 := dm2.ex e3
      by_cases h0 : ls.length = 0
      · rw [decide_eq_true h0, Bool.not_true, if_neg Bool.false_ne_true]
        have hld : ld = [] := List.length_eq_zero_iff.mp (by omega)
        subst hld
        rw [List.append_nil] at hperm
        refine ⟨.ref Fd, rfl, q (.ref Fd) fdd H3 hperm (fun b o hb h => e3 _ _ (keep b o hb h)) ?_ ⟨Fd, fs, rfl, .inl (.inl ?_), Paired.mono (fun _ _ z => mr.mono (Evl.Ex.trans (hid_ex e3) (sub H3)).le z) hpf⟩⟩
        · refine hpen.mono e3 ?_
          simp only [List.length_nil] at hlen
          omega
        · rw [hid_out (dm.new hFn)]; exact hF3
      · rw [decide_eq_false h0, Bool.not_false, if_pos rfl]
        refine ⟨fun σ' H' => ∃ m', m' < ld.length ∧ ∃ ls fs ld2 fdd, σ' = [some (.ref p), some (.ref sa), some (.ref L), some (.ref Fd)] ∧ H' L = some (.lst ls) ∧ H' Fd = some (.lst fs) ∧ Paired (r K (hid X2 H')) ls ld2 ∧ Paired (r K (hid X2 H')) fs fdd ∧ (fdd ++ ld2).Perm xs ∧ m' = ld2.length ∧ Pen H' p c (n + fdd.length) ∧ Dm X2 H' ∧
          ∀ b o, b ≠ p → H b = some o → H' b = some o, fun σ' H' h => h, ?_⟩
        refine ⟨.ref Fd, rfl, .inl ⟨rfl, fs, .inl (.inl hF3)⟩, .ref L, rfl, .inl ⟨rfl, ls, .inl (.inl hL3)⟩, ?_⟩
        refine run_draw (K := K) (X := no) (i := 0) rfl (m := (ls.length : Int)) (fun H1 e d Q q => ⟨.ref L, rfl, .ref L, _, rfl, .inl ⟨ls, .inl (.inl (e _ _ hL3)), rfl⟩, q _ H1 (Evl.Ex.refl _) rfl⟩) Dm.no (hpen.mono e3 (Nat.le_refl _)) (by omega) (by omega) (by omega) fun d H4 d0 d1 off pn => ?_
        obtain ⟨j, rfl⟩ : ∃ j : Nat, d = j := ⟨d.toNat, by omega⟩
        have hj : j < ls.length := by omega
        have hL4 := off _ _ hpL.symm hL3
        have hF4 := off _ _ hpF.symm hF3
        have hs4 : seqIndex? (j : Int) ls.length = some j := by
          unfold seqIndex?
          have e1 : ¬ ((j : Int) < 0) := by omega
          simp only [e1, if_false]
          rw [if_pos (by simp; omega)]
          simp
        refine ⟨L, ls, j, j, ls[j], rfl, rfl, hL4, by omega, by omega, hs4, List.getElem?_eq_getElem hj, ?_⟩
        have hx4 : Ex (hid X2 H') (hid X2 H4) := Evl.Ex.trans (hid_ex e3) (off.hid X2p)
        have hfd5 : (upd H4 L (.lst (ls.eraseIdx j))) Fd = some (.lst fs) := by rw [upd_ne hFL]; exact hF4
        refine ⟨Fd, fs, ls[j], rfl, rfl, hfd5, size_lt (by omega), ?_⟩
        obtain ⟨y, hy, hry⟩ := Paired.at' hpl j ls[j] (List.getElem?_eq_getElem hj)
        have hjd : j < ld.length := by omega
        have hyj : ld[j] = y := by
          have := List.getElem?_eq_getElem hjd
          rw [this] at hy
          exact Option.some.inj hy
        have hmn : ∀ {v : V} {x : α}, r K (hid X2 H') v x → r K (hid X2 (upd (upd H4 L (.lst (ls.eraseIdx j))) Fd (.lst (fs ++ [ls[j]])))) v x := fun {v x} h => by
          rw [hid_upd X2F, hid_upd X2L]
          exact mr.mono hx4.le h
        refine ⟨(ld.eraseIdx j).length, ?_, ls.eraseIdx j, fs ++ [ls[j]], ld.eraseIdx j, fdd ++ [y], rfl, by rw [upd_ne hFL.symm, upd_same], upd_same, ?_, ?_, ?_, rfl, ?_, ?_, ?_⟩
        · rw [List.length_eraseIdx_of_lt hjd]; omega
        · exact Paired.mono (fun _ _ z => hmn z) (Paired.erase j hpl)
        · exact Paired.snoc' (Paired.mono (fun _ _ z => hmn z) hpf) (hmn hry)
        · refine List.Perm.trans ?_ hperm
          rw [List.append_assoc]
          refine List.Perm.append_left _ ?_
          rw [← hyj]
          exact perm_erase j ld hjd
        · have hcL : c ≠ L := fun z => hp.cat (by rw [z]; exact hL)
          have hcF : c ≠ Fd := fun z => hp.cat (by rw [z]; exact hFn)
          have pn' := (pn.upd (b := L) (o := .lst (ls.eraseIdx j)) hpL hcL).upd (b := Fd) (o := .lst (fs ++ [ls[j]])) hpF hcF
          refine pn'.mono (Evl.Ex.refl _) ?_
          rw [List.length_append]
          exact Nat.le_refl _
        · exact ((dm3.off' off pn.at).upd').upd'
        · intro b o hb h
          have n1 : b ≠ L := ne_of_none h hL
          have n2 : b ≠ Fd := ne_of_none h hFn
          rw [upd_ne n2, upd_ne n1]
          exact off _ _ hb (e3 _ _ (keep b o hb h))
end
end Q
set_option maxHeartbeats 8000000
/-! F35: comprehensions whose items draw; the pen's making. -/
namespace Q
open PySem PySem.Spec PyProof.Rows L2
section
variable {P : Program} {w : World} {K : Frag} {mg : Str → Option Value} {base : Heap} {X : Hs} {σ : L2.St} {H : Hp} {te ta tb ti : TE} {α β γ : Type} {r : Rel α} {s : Rel β} {D : Ends}
theorem er_val [m : Mono r] {v : V} {x : α} (h : r K (hid X H) v x) : Er K X (tC v) σ H r x := fun H1 e _ Q q => q v H1 (Evl.Ex.refl _) (m.mono (hid_le e) h)
/-- _law_mixed(pen, te) -/
theorem run_mixed [Mono r] {i : Nat} {p c : Addr} {n : Nat} {xs : List α} {E : XK} {Q : VK} (hs : σ[i]? = some (some (.ref p))) (hX : X p = true) (h : Er K X te σ H (rLst r) xs) (dm : Dm X H) (hp : Pen H p c n) (hz : n + xs.length < 1000000)
    (k : ∀ v ys H', ys.Perm xs → Off p H H' → Pen H' p c (n + xs.length) → Dm X H' → rLst r K (hid X H') v ys → Q v H') : tCall (spMixed K) [] E (tCons (tVar i) (tCons te tNil)) σ H Q :=
  ⟨.ref p, hs, h.go dm fun v H2 e hv => ⟨α, r, inferInstance, p, c, n, X, xs, v, rfl, hX, dm.ex e, hv, hp.mono e (Nat.le_refl _), hz, fun y ys H' hy off pn hr => k y ys H' hy ((Off.ex e).trans off) pn ((dm.ex e).off' off pn.at) hr⟩⟩
theorem cut_take {n : Nat} (vs : List V) : cutV vs none (some (n : Int)) = vs.take n := by
  unfold cutV
  rw [HT.sIx, HT.sIx]
  simp only [List.drop_zero, Nat.sub_zero]
  by_cases h : n ≤ vs.length
  · rw [show (if (n : Int) < 0 then ((n : Int) + vs.length).toNat else min (n : Int).toNat vs.length) = n by rw [if_neg (by omega)]; simp; omega]
  · rw [show (if (n : Int) < 0 then ((n : Int) + vs.length).toNat else min (n : Int).toNat vs.length) = vs.length by rw [if_neg (by omega)]; simp; omega]
    rw [List.take_length, List.take_of_length_le (by omega)]
/-- xs[:n] -/
theorem er_takeL [m : Mono r] {xs : List α} {n : Nat} (h : Er K X te σ H (rLst r) xs) (hi : Er K X ta σ H rInt (n : Int)) : Er K X (tSl (rSlL K) te tNoPart (tPart ta)) σ H (rLst r) (xs.take n) := fun H1 e dm Q k =>
  h H1 e dm _ fun v H2 e2 ⟨a, vs, hv, hs, hp⟩ => hi H2 (e.trans e2) (dm.ex e2) _ fun w H3 e3 hw => ⟨(n : Int), hw, a, vs, hv, Evl.ex_l e3 (sql_hid hs), fun p hn => by
    rw [cut_take]
    exact k _ _ ((e2.trans e3).trans (Evl.Ex.new hn)) ⟨p, _, rfl, .inl (.inl (by rw [hid_out (((dm.ex e2).ex e3).new hn), upd_same])), Paired.take n (Paired.mono (fun _ _ z => m.mono (hid_le (Evl.Ex.trans e3 (Evl.Ex.new hn))) z) hp)⟩⟩
/-- [te for x in wi if tt], te and tt draw -/
theorem run_lcP [mr : Mono r] [ms : Mono s] {wi : TI} {tt : TT} {i : Nat} {xs : List β} {p c : Addr} {n cst : Nat} {S : β → α → Prop} {Q : VK} (hi : EiX K X wi σ H s xs) (dm : Dm X H) (hX : X p = true) (hp : Pen H p c n) (hz : xs.length < 1000000)
    (he : ∀ d ∈ xs, ∀ (Y : Hs) (v : V) (H1 : Hp) (k : Nat), Y p = true → Dm Y H1 → Ex (hid X H) (hid Y H1) → s K (hid Y H1) v d → Pen H1 p c (n + k * cst) → k < xs.length → ∀ (Q1 : Bool → Hp → Prop),
      (∀ b H2, Off p H1 H2 → (b = false → Pen H2 p c (n + (k + 1) * cst)) → (b = true → ∀ Q : VK, (∀ y x H3, Off p H1 H3 → Pen H3 p c (n + (k + 1) * cst) → r K (hid Y H3) y x → S d x → Q y H3) → te ((wipe σ [i]).set i (some v)) H2 Q) → Q1 b H2) → tt ((wipe σ [i]).set i (some v)) H1 Q1)
    (k : ∀ v outs H', Off p H H' → Pen H' p c (n + xs.length * cst) → Dm X H' → rLst r K (hid X H') v outs → outs.length ≤ xs.length → (∀ x ∈ outs, ∃ d ∈ xs, S d x) → Q v H') : tLc wi (gName i) tt te [i] σ H Q :=
  hi H (Evl.Ex.refl H) dm _ fun J H2 G Y e2 hW hG hY D hD => lc_it hW (fun k H3 => ∃ ys outs, H3 D = some (.lst ys) ∧ (∀ b o, b ≠ p → H2 b = some o → H3 b = some o) ∧ Pen H3 p c (n + k * cst) ∧ Dm (X.and D) H3 ∧ Paired (r K (hid (X.and D) H3)) ys outs ∧ outs.length ≤ k ∧ ∀ x ∈ outs, ∃ d ∈ xs, S d x)
    ⟨[], [], upd_same, fun b o _ h => by rw [upd_ne (ne_of_none h hD)]; exact h, (hp.mono e2 (by omega)).upd (fun z => (hp.mono e2 (Nat.le_refl _)).at (by rw [z]; exact hD)) (fun z => (hp.mono e2 (Nat.le_refl _)).cat (by rw [z]; exact hD)), Dm.and (dm.ex e2).upd' (by rw [upd_same]; exact fun z => nomatch z), .nil, Nat.zero_le _, fun x hx => absurd hx (by simp)⟩
    (fun i H3 _ ⟨ys, outs, _, keep, _⟩ => hG H3 (fun b o q => by
      obtain ⟨q1, q2⟩ := hid_some.mp q
      exact hid_some.mpr ⟨q1, keep b o (fun z => by rw [z, hX] at q1; cases q1) q2⟩))
    (fun k x H3 H4 hk ⟨ys, outs, hys, keep, pn, dmD, hpd, hle, hS⟩ hy => by
      have eX : Ex (hid X H2) (hid X H3) := fun b o q => by
        obtain ⟨q1, q2⟩ := hid_some.mp q
        exact hid_some.mpr ⟨q1, keep b o (fun z => by rw [z, hX] at q1; cases q1) q2⟩
      have eXD : Ex (hid X H2) (hid (X.and D) H3) := fun b o q => by
        obtain ⟨q1, q2⟩ := hid_some.mp (eX b o q)
        obtain ⟨_, q3⟩ := hid_some.mp q
        exact hid_some.mpr ⟨by rw [Hs.and_ne (ne_of_none q3 hD)]; exact q1, q2⟩
      obtain ⟨e4, d, hd, hr⟩ := hY k H3 x H4 eX hy
      have hmem : d ∈ xs := List.mem_of_getElem? hd
      have XDp : (X.and D) p = true := by
        show (X p || decide (p = D)) = true
        rw [hX]; rfl
      have eXD4 := Evl.Ex.trans eXD (hid_ex (X := X.and D) e4)
      have hr' := hr (X.and D) eXD4 dmD
      refine ⟨wipe_set σ x i, ?_⟩
      refine he d hmem (X.and D) x H4 k XDp (dmD.ex e4) (Evl.Ex.trans (hid_ex e2) eXD4) hr' (pn.mono e4 (Nat.le_refl _)) hk _ fun b H5 off5 hb0 hb1 => ?_
      have hpD : p ≠ D := fun z => (hp.mono e2 (Nat.le_refl _)).at (by rw [z]; exact hD)
      have hcD : c ≠ D := fun z => (hp.mono e2 (Nat.le_refl _)).cat (by rw [z]; exact hD)
      cases b with
      | false =>
        rw [if_neg Bool.false_ne_true]
        have pn5 := hb0 rfl
        exact ⟨ys, outs, off5 _ _ hpD.symm (e4 _ _ hys), fun b o hb h => off5 _ _ hb (e4 _ _ (keep b o hb h)), pn5, (dmD.ex e4).off' off5 pn5.at, Paired.mono (fun _ _ z => mr.mono (Evl.Ex.trans (hid_ex e4) (off5.hid XDp)).le z) hpd, Nat.le_succ_of_le hle, hS⟩
      | true =>
        rw [if_pos rfl]
        refine hb1 rfl _ fun y x6 H6 off6 pn6 hy6 hs6 => ?_
        have dm6 := (dmD.ex e4).off' off6 pn6.at
        refine ⟨ys, off6 _ _ hpD.symm (e4 _ _ hys), ?_, ys ++ [y], outs ++ [x6], upd_same, fun b o hb h => ?_, pn6.upd hpD hcD, dm6.upd', ?_, ?_, fun z hz => ?_⟩
        · have := Paired.len hpd
          exact size_lt (by omega)
        · rw [upd_ne (ne_of_none h hD)]
          exact off6 _ _ hb (e4 _ _ (keep b o hb h))
        · rw [hid_upd (Hs.and_at _ _)]
          exact Paired.snoc' (Paired.mono (fun _ _ z => mr.mono (Evl.Ex.trans (hid_ex e4) (off6.hid XDp)).le z) hpd) hy6
        · rw [List.length_append]
          show outs.length + 1 ≤ k + 1
          omega
        · rcases List.mem_append.mp hz with hz | hz
          · exact hS z hz
          · rw [List.mem_singleton.mp hz]
            exact ⟨d, hmem, hs6⟩)
    (fun H3 ⟨ys, outs, hys, keep, pn, dmD, hpd, hle, hS⟩ => by
      refine k _ outs H3 (fun b o hb h => keep b o hb (e2 _ _ h)) pn (fun b hb => ?_) ⟨D, ys, rfl, .inl (.inl ?_), Paired.mono (fun _ _ z => mr.mono hid_sub.le z) hpd⟩ hle hS
      · refine dmD b ?_
        show (X b || decide (b = D)) = true
        rw [hb]; rfl
      · rw [hid_out ((dm.ex e2).new hD)]
        exact hys)
/-- .. without a test -/
theorem run_lcP0 [mr : Mono r] [ms : Mono s] {wi : TI} {i : Nat} {xs : List β} {p c : Addr} {n cst : Nat} {S : β → α → Prop} {Q : VK} (hi : EiX K X wi σ H s xs) (dm : Dm X H) (hX : X p = true) (hp : Pen H p c n) (hz : xs.length < 1000000)
    (he : ∀ d ∈ xs, ∀ (Y : Hs) (v : V) (H1 : Hp) (k : Nat), Y p = true → Dm Y H1 → Ex (hid X H) (hid Y H1) → s K (hid Y H1) v d → Pen H1 p c (n + k * cst) → k < xs.length → ∀ Q : VK, (∀ y x H3, Off p H1 H3 → Pen H3 p c (n + (k + 1) * cst) → r K (hid Y H3) y x → S d x → Q y H3) → te ((wipe σ [i]).set i (some v)) H1 Q)
    (k : ∀ v outs H', Off p H H' → Pen H' p c (n + xs.length * cst) → Dm X H' → rLst r K (hid X H') v outs → outs.length ≤ xs.length → (∀ x ∈ outs, ∃ d ∈ xs, S d x) → Q v H') : tLc wi (gName i) tYes te [i] σ H Q :=
  run_lcP (tt := tYes) hi dm hX hp hz (fun d hd Y v H1 k hY dmY e hs pn hk Q1 q => q true H1 (Off.refl _ _) (fun z => nomatch z) fun _ Q q2 => he d hd Y v H1 k hY dmY e hs pn hk Q q2) k
def spPen (K : Frag) : Sp := fun vs H Q _ => ∃ l, ∃ xs : List Int, vs = [.ref l] ∧ SqL K H l (xs.map V.int) ∧ ∀ p c H', H p = none → Ex H H' → Pen H' p c 0 → Q (.ref p) H'
abbrev NLawPen : List Str := ["script", "cell"]
theorem scLawPen : FnScope NLawPen ["script"] (defScope sLawPen) := ⟨rfl, rfl, rfl, by decide +kernel, rfl, by decide +kernel, by decide +kernel⟩
theorem ok_pen (B : Bi mg) (D : Dfn K mg "_law_pen" sLawPen ["script"]) : Kp P w K mg base 1 "_law_pen" ["script"] (spPen K) :=
  D.kp fun f fd F hm b => F.ok scLawPen (fun vs H Q E ⟨l, xs, e, _⟩ => by rw [e]; rfl) fun cdv A outer s H vs Q E hr ⟨l, xs, e, hl, q⟩ => by
    subst e
    refine ⟨_, (pss_one (ps_ret (pe_lst (pa_cons (pe_lc (own := [("cell", 1)]) (g := gName 1) (tt := tYes) rfl scLawPen.nd (pi_list (pe_slice sl_list (pv 0) po_none (po_some pe_int))) (blkOk_by (N := NLawPen) (sc := defScope sLawPen) (by decide +kernel)) (fun _ _ _ _ _ => (pg_name (i := 1) scLawPen.nd rfl (.inl rfl))) (fun _ _ _ _ _ => pts_nil) (fun _ _ _ _ _ => (pe_callTy call_int1 rfl B.int (by decide +kernel) (pa_cons (pv 1) pa_nil)))) (pa_cons pe_int (pa_cons pe_int pa_nil)))))), ?_⟩
    have hit : EiX K no (iList K (tSl (rSlL K) (tVar 0) tNoPart (tPart (tC (V.int ((63 : Nat) : Int)))))) [some (V.ref l), none] H rInt (xs.take 63) := eix_list (er_takeL (n := 63) (er_var (i := 0) rfl (v := .ref l) (r := rLst rInt) ⟨l, _, rfl, by rw [hid_no]; exact hl, Paired.of_map (f := V.int) (fun _ => rfl) _⟩) er_int)
    unfold tRet tLst tCons
    refine hit H (Evl.Ex.refl H) Dm.no _ fun J H2 G Y e2 hW hG hY D hD => lc_it hW (fun k H3 => Ex H2 H3 ∧ H3 D = some (.lst (((xs.take 63).take k).map V.int))) ⟨Evl.Ex.new hD, upd_same⟩ (fun i H3 _ h => hG H3 (hid_ex h.1)) (fun k x H3 H4 hk ⟨e3, hys⟩ hy => ?_) (fun H3 ⟨e3, hys⟩ => ?_)
    · obtain ⟨e4, d, hd, hr⟩ := hY k H3 x H4 (hid_ex e3) hy
      have hr' : x = V.int d := hr no (hid_ex (e3.trans e4)) Dm.no
      subst hr'
      refine ⟨wipe_set _ _ 1, ?_⟩
      unfold tYes
      dsimp only
      rw [if_pos rfl]
      refine (er_int1 (K := K) (X := no) (x := d) (er_var (i := 1) rfl rfl)).go Dm.no fun y H5 e5 hy5 => ⟨_, e5 _ _ (e4 _ _ hys), ?_, Evl.Ex.mut ((e3.trans e4).trans e5) hD, ?_⟩
      · rw [List.length_map, List.length_take, List.length_take]
        exact size_lt (by omega)
      · rw [upd_same, show y = V.int d from hy5, show (xs.take 63).take (k + 1) = (xs.take 63).take k ++ [d] by rw [List.take_add_one (l := xs.take 63), hd]; rfl]
        rw [List.map_append]; rfl
    · rw [List.take_length] at hys
      refine ⟨(by show 3 ≤ sizeLine; decide), fun p hp => q p D _ ?_ ((e2.trans e3).trans (Evl.Ex.new hp)) ⟨xs.take 63, 0, 0, upd_same, by rw [upd_ne (ne_of_none hys hp)]; exact hys, by omega, by omega, by omega, by rw [List.length_take]; omega⟩⟩
      cases z : H p with
      | none => rfl
      | some o =>
        have := e3 _ _ (e2 _ _ z)
        rw [hp] at this
        cases this
end
end Q
set_option maxHeartbeats 8000000
/-! F36: displays of lists and dicts, sums of lists and tuples; drawn words; rows. -/
namespace Q
open PySem PySem.Spec PyProof.Rows L2
/-! ### list + list, any readable ones -/
def rCatL (K : Frag) : R2 := fun x y H Q => ∃ l b xs zs, x = .ref l ∧ y = .ref b ∧ SqL K H l xs ∧ SqL K H b zs ∧ xs.length + zs.length ≤ sizeLine ∧ ∀ p, H p = none → Q (.ref p) (upd H p (.lst (xs ++ zs)))
theorem op_catL {X : Cx} : OpR X (binaryOp .Add) (rCatL X.K) := by
  intro pins s σ H x y v u Q I rx ry h
  obtain ⟨l, b, xs, zs, rfl, rfl, hH, hB, hz, q⟩ := h
  cases rx
  cases ry
  obtain ⟨its, r, ⟨⟨cls, dd, data, sl⟩, n, ho, hc, hdd, hd⟩, _⟩ := I.list hH
  obtain ⟨its2, r2, ⟨⟨cls2, dd2, data2, sl2⟩, n2, ho2, hc2, hdd2, hd2⟩, _⟩ := I.list hB
  simp only at hc hd hc2 hd2
  subst hc hd hc2 hd2
  have h1 := r.length
  have h2 := r2.length
  have hsz : its.toArray.size + its2.toArray.size ≤ sizeLine := by rw [List.size_toArray, List.size_toArray]; omega
  refine concat_meets ⟨_, ho, rfl⟩ ⟨_, ho2, rfl⟩ noFill_list_add seq_list_add PySem.F.slot_list_add PySem.F.entry_list_add (PySem.F.args_list_add_2 _ _) (PyProof.Rows.list_addW l b its.toArray its2.toArray n n2 dd dd2 sl sl2 hsz) ⟨ho, ho2, ?_⟩
  have ea : its.toArray ++ its2.toArray = (its ++ its2).toArray := by simp
  rw [ea]
  exact ⟨.ref _, _, I.lnew (t' := s.toks) (r.append r2) (by rw [List.length_append]; omega), rfl, q _ I.fresh⟩
def rTupO {α : Type} (r : Rel α) : Rel (List α) := fun K H v xs => ∃ a vs, v = .ref a ∧ H a = some (.tup vs) ∧ Paired (r K H) vs xs
instance {α : Type} (r : Rel α) [m : Mono r] : Mono (rTupO r) := ⟨fun e ⟨a, vs, h1, h2, h3⟩ => ⟨a, vs, h1, e.tu a _ h2, Paired.mono (fun _ _ z => m.mono e z) h3⟩⟩
section
variable {P : Program} {w : World} {K : Frag} {mg : Str → Option Value} {base : Heap} {X : Hs} {σ : L2.St} {H : Hp} {te ta tb ti td : TE} {α β γ : Type} {r : Rel α} {s : Rel β} {D : Ends}
theorem er_imp {r' : Rel β} {x : α} {y : β} (h : Er K X te σ H r x) (f : ∀ H v, r K H v x → r' K H v y) : Er K X te σ H r' y := fun H1 e d Q q => h H1 e d Q fun v H2 e2 hv => q v H2 e2 (f _ _ hv)
theorem er_catL [m : Mono r] {xs ys : List α} (h : Er K X ta σ H (rLst r) xs) (h2 : Er K X tb σ H (rLst r) ys) (hz : xs.length + ys.length < 1000000) : Er K X (tOp (rCatL K) ta tb) σ H (rLst r) (xs ++ ys) := er_two h h2 fun v w H1 _ dm ⟨a, vs, hv, hs, hp⟩ ⟨b, ws, hw, hs2, hp2⟩ Q k => by
  have l1 := Paired.len hp
  have l2 := Paired.len hp2
  exact ⟨a, b, vs, ws, hv, hw, sql_hid hs, sql_hid hs2, size_le (by omega), fun p hn => k _ _ (Evl.Ex.new hn) ⟨p, _, rfl, .inl (.inl (by rw [hid_out (dm.new hn), upd_same])), Paired.mono (fun _ _ z => m.mono (hid_le (Evl.Ex.new hn)) z) (Paired.app hp hp2)⟩⟩
/-- tuple + tuple -/
theorem er_catT [m : Mono r] {xs ys : List α} (h : Er K X ta σ H (rTup r) xs) (h2 : Er K X tb σ H (rTup r) ys) (hz : xs.length + ys.length < 1000000) : Er K X (tOp (rCatA K) ta tb) σ H (rTup r) (xs ++ ys) := er_two h h2 fun v w H1 _ dm ⟨a, vs, hv, hs, hp⟩ ⟨b, ws, hw, hs2, hp2⟩ Q k => by
  have l1 := Paired.len hp
  have l2 := Paired.len hp2
  refine ⟨a, b, vs, ws, hv, hw, sqt_hid hs, sqt_hid hs2, size_le (by omega), fun e => ?_, fun e1 e2 => ?_, fun e1 e2 p hn => ?_⟩
  · subst e
    cases hp
    exact k _ _ (Evl.Ex.refl _) ⟨b, ws, rfl, hs2, hp2⟩
  · subst e2
    cases hp2
    rw [List.append_nil] at k
    exact k _ _ (Evl.Ex.refl _) ⟨a, vs, rfl, hs, hp⟩
  · exact k _ _ (Evl.Ex.new hn) ⟨p, _, rfl, .inl (.inl (by rw [hid_out (dm.new hn), upd_same])), Paired.mono (fun _ _ z => m.mono (hid_le (Evl.Ex.new hn)) z) (Paired.app hp hp2)⟩
/-- a row that is laid: a word and numbers -/
def rRow : Rel (Tx × List Nat) := fun _ H v x => ∃ a, v = .ref a ∧ H a = some (.tup (V.str (S x.1) :: x.2.map fun n => V.int (n : Nat)))
instance : Mono rRow := ⟨fun e ⟨a, h1, h2⟩ => ⟨a, h1, e.tu a _ h2⟩⟩
def rNs : Rel (List Nat) := fun _ H v x => ∃ a, v = .ref a ∧ H a = some (.tup (x.map fun n => V.int (n : Nat)))
instance : Mono rNs := ⟨fun e ⟨a, h1, h2⟩ => ⟨a, h1, e.tu a _ h2⟩⟩
/-- (name,) -/
def rW1 : Rel Tx := fun _ H v x => ∃ a, v = .ref a ∧ H a = some (.tup [V.str (S x)])
instance : Mono rW1 := ⟨fun e ⟨a, h1, h2⟩ => ⟨a, h1, e.tu a _ h2⟩⟩
def rN1 : Rel Nat := fun _ H v x => ∃ a, v = .ref a ∧ H a = some (.tup [V.int (x : Nat)])
instance : Mono rN1 := ⟨fun e ⟨a, h1, h2⟩ => ⟨a, h1, e.tu a _ h2⟩⟩
theorem er_w1 {x : Tx} (h : Er K X te σ H rTx x) : Er K X (tTup (tCons te tNil)) σ H rW1 x := fun H1 e d Q q => h H1 e d _ fun v H2 e2 hv => ⟨(by show 1 ≤ sizeLine; decide), fun p hp => q _ _ (e2.trans (Evl.Ex.new hp)) ⟨p, rfl, by rw [hid_out ((d.ex e2).new hp), upd_same, show v = V.str (S x) from hv]⟩⟩
theorem er_n1 {x : Nat} (h : Er K X te σ H rNat x) : Er K X (tTup (tCons te tNil)) σ H rN1 x := fun H1 e d Q q => h H1 e d _ fun v H2 e2 hv => ⟨(by show 1 ≤ sizeLine; decide), fun p hp => q _ _ (e2.trans (Evl.Ex.new hp)) ⟨p, rfl, by rw [hid_out ((d.ex e2).new hp), upd_same, show v = V.int (x : Nat) from hv]⟩⟩
theorem er_tup1 [m : Mono r] {x : α} (h : Er K X te σ H r x) : Er K X (tTup (tCons te tNil)) σ H (rTup r) [x] := fun H1 e d Q q => h H1 e d _ fun v H2 e2 hv => ⟨(by show 1 ≤ sizeLine; decide), fun p hp => q _ _ (e2.trans (Evl.Ex.new hp)) ⟨p, [v], rfl, .inl (.inl (by rw [hid_out ((d.ex e2).new hp), upd_same])), .cons (m.mono (hid_le (Evl.Ex.new hp)) hv) .nil⟩⟩
theorem er_ns0 : Er K X (tTup tNil) σ H rNs [] := fun H1 e d Q q => ⟨(by show 0 ≤ sizeLine; exact Nat.zero_le _), fun p hp => q _ _ (Evl.Ex.new hp) ⟨p, rfl, by rw [hid_out (d.new hp), upd_same]; rfl⟩⟩
/-- (name,) + row -/
theorem er_rowCat {x : Tx} {ks : List Nat} (h : Er K X ta σ H rW1 x) (h2 : Er K X tb σ H rNs ks) (hz : ks.length < 1000) : Er K X (tOp (rCatA K) ta tb) σ H rRow (x, ks) := er_two h h2 fun v w H1 _ dm ⟨a, hv, hs⟩ ⟨b, hw, hs2⟩ Q k => by
  refine ⟨a, b, _, _, hv, hw, .inl (.inl (hid_get _ _ hs)), .inl (.inl (hid_get _ _ hs2)), size_le (by simp; omega), fun e => by simp at e, fun e1 e2 => ?_, fun e1 e2 p hn => ?_⟩
  · cases ks with
    | nil => exact k _ _ (Evl.Ex.refl _) ⟨a, rfl, hs⟩
    | cons y l => simp at e2
  · exact k _ _ (Evl.Ex.new hn) ⟨p, rfl, by rw [hid_out (dm.new hn), upd_same]; rfl⟩
/-- row + (one,) -/
theorem er_nsCat {ks : List Nat} {x : Nat} (h : Er K X ta σ H rNs ks) (h2 : Er K X tb σ H rN1 x) (hz : ks.length < 1000) : Er K X (tOp (rCatA K) ta tb) σ H rNs (ks ++ [x]) := er_two h h2 fun v w H1 _ dm ⟨a, hv, hs⟩ ⟨b, hw, hs2⟩ Q k => by
  refine ⟨a, b, _, _, hv, hw, .inl (.inl (hid_get _ _ hs)), .inl (.inl (hid_get _ _ hs2)), size_le (by simp; omega), fun e => ?_, fun e1 e2 => by simp at e2, fun e1 e2 p hn => ?_⟩
  · cases ks with
    | nil => exact k _ _ (Evl.Ex.refl _) ⟨b, rfl, hs2⟩
    | cons y l => simp at e
  · exact k _ _ (Evl.Ex.new hn) ⟨p, rfl, by rw [hid_out (dm.new hn), upd_same, List.map_append]; rfl⟩
/-! ### displays -/
inductive EAs {α : Type} (K : Frag) (X : Hs) (σ : L2.St) (H : Hp) (r : Rel α) : TA → List α → Prop
  | nil : EAs K X σ H r tNil []
  | cons {te : TE} {t : TA} {x : α} {xs : List α} : Er K X te σ H r x → EAs K X σ H r t xs → EAs K X σ H r (tCons te t) (x :: xs)
theorem eas_run [m : Mono r] {t : TA} {xs : List α} (h : EAs K X σ H r t xs) : ∀ H1, Ex H H1 → Dm X H1 → ∀ Q : List V → Hp → Prop, (∀ vs H2, Ex H1 H2 → Paired (r K (hid X H2)) vs xs → Q vs H2) → t σ H1 Q := by
  induction h with
  | nil => exact fun H1 _ _ Q q => q [] H1 (Evl.Ex.refl _) .nil
  | cons he _ ih => exact fun H1 e d Q q => he H1 e d _ fun v H2 e2 hv => ih H2 (e.trans e2) (d.ex e2) _ fun vs H3 e3 hp => q _ H3 (e2.trans e3) (.cons (m.mono (hid_le e3) hv) hp)
theorem er_lstE [m : Mono r] {t : TA} {xs : List α} (h : EAs K X σ H r t xs) (hz : xs.length < 1000000) : Er K X (tLst t) σ H (rLst r) xs := fun H1 e d Q q => eas_run h H1 e d _ fun vs H2 e2 hp => ⟨by rw [Paired.len hp]; exact size_le hz, fun p hn => q _ _ (e2.trans (Evl.Ex.new hn)) ⟨p, vs, rfl, .inl (.inl (by rw [hid_out ((d.ex e2).new hn), upd_same])), Paired.mono (fun _ _ z => m.mono (hid_le (Evl.Ex.new hn)) z) hp⟩⟩
inductive EDs (K : Frag) (X : Hs) (σ : L2.St) (H : Hp) : List (TE × TE) → Wd → Prop
  | nil : EDs K X σ H [] []
  | cons {tk tv : TE} {ts : List (TE × TE)} {x : Tx} {n : Nat} {wd : Wd} : Er K X tk σ H rTx x → Er K X tv σ H rNat n → EDs K X σ H ts wd → EDs K X σ H ((tk, tv) :: ts) ((x, n) :: wd)
theorem eds_run {ts : List (TE × TE)} {wd : Wd} (h : EDs K X σ H ts wd) : ∀ H1, Ex H H1 → Dm X H1 → ∀ Q : List (V × V) → Hp → Prop, (∀ H2, Ex H1 H2 → Q ((kvsW wd).map fun kv => (kV kv.1, kv.2)) H2) → tPairs ts σ H1 Q := by
  induction h with
  | nil => exact fun H1 _ _ Q q => q H1 (Evl.Ex.refl _)
  | @cons tk tv ts x n wd hk hv _ ih =>
    intro H1 e d Q q
    refine hk H1 e d _ fun v H2 e2 hv2 => hv H2 (e.trans e2) (d.ex e2) _ fun y H3 e3 hy => ih H3 ((e.trans e2).trans e3) ((d.ex e2).ex e3) _ fun H4 e4 => ?_
    · rw [show v = V.str (S x) from hv2, show y = V.int (n : Nat) from hy]
      exact q H4 ((e2.trans e3).trans e4)
theorem merge_nd : ∀ (more acc : Wd), ((acc ++ more).map Prod.fst).Nodup → mergeK (kvsW acc) (kvsW more) = kvsW (acc ++ more)
  | [], acc, _ => by rw [List.append_nil]; rfl
  | p :: more, acc, h => by
    have hno : lk acc p.1 = none := lk_none fun hm => by
      rw [List.map_append, List.map_cons] at h
      exact (List.nodup_append.mp h).2.2 p.1 hm p.1 List.mem_cons_self rfl
    have e : acc ++ p :: more = (acc ++ [p]) ++ more := by simp
    rw [e] at h ⊢
    rw [← merge_nd more (acc ++ [p]) h]
    show mergeK (putK (kvsW acc) (.inr (S p.1)) (.int (p.2 : Nat))) (kvsW more) = _
    have e3 : kvsW (acc ++ [p]) = kvsW acc ++ [(.inr (S p.1), .int (p.2 : Nat))] := by unfold kvsW; rw [List.map_append]; rfl
    rw [putK_new _ (by rw [valV_W, hno]; rfl), e3]
theorem er_disp {ts : List (TE × TE)} {wd : Wd} (h : EDs K X σ H ts wd) (hn : (wd.map Prod.fst).Nodup) (hz : wd.length ≤ 15) : Er K X (tDisp ts) σ H rDct wd := fun H1 e d Q q p hp => eds_run h _ (e.trans (Evl.Ex.new hp)) d.upd' _ fun H2 e2 => by
  have g := e2 _ _ (upd_same (H := H1) (a := p) (o := .dK []))
  refine ⟨g, kvsW wd, rfl, by rw [kvsW, List.length_map]; exact hz, ?_⟩
  have em := merge_nd wd [] (by simpa using hn)
  rw [show mergeK [] (kvsW wd) = kvsW wd by simpa [kvsW] using em]
  refine q _ _ (Evl.Ex.mut ((Evl.Ex.new hp).trans e2 |> fun z => ?_) hp) ⟨p, rfl, .inl (by rw [hid_out (d.new hp), upd_same])⟩
  exact z
/-- list(places), sorted(list(places)) -/
theorem er_listD {wd : Wd} (h : Er K X td σ H rDct wd) : Er K X (tCB (fun xs H Q => ∃ (a : Addr) (kvs : List (Key × V)), xs = [V.ref a] ∧ Rd H a (.dK kvs) ∧ ∀ p, H p = none → Q (.ref p) (upd H p (.lst (kvs.map fun kv => kV kv.1)))) (tCons td tNil)) σ H (rLst rTx) (wd.map Prod.fst) := er_cb1 h fun v H1 _ dm ⟨d, hv, hd⟩ Q k =>
  ⟨d, kvsW wd, by rw [hv], rd_hid trivial hd, fun p hp => k _ _ (Evl.Ex.new hp) ⟨p, _, rfl, .inl (.inl (by rw [hid_out (dm.new hp), upd_same])), by
    rw [kvsW, List.map_map]
    have : Paired (rTx K (hid X (upd H1 p (.lst (List.map ((fun kv => kV kv.1) ∘ ent) wd))))) ((wd.map Prod.fst).map fun x => V.str (S x)) (wd.map Prod.fst) := Paired.of_map (f := fun x => V.str (S x)) (fun _ => rfl) _
    rw [List.map_map] at this
    exact this⟩⟩
theorem pairs_of {H1 : Hp} : ∀ {vs : List V} {wd : Wd}, Paired (rPr rTx rNat K (hid X H1)) vs wd → ∃ ps : List Addr, vs = ps.map V.ref ∧ Paired (fun p kv => SqT K H1 p [kV kv.1, kv.2]) ps (kvsW wd)
  | _, _, .nil => ⟨[], rfl, .nil⟩
  | _, y :: _, .cons hx t => by
    obtain ⟨ps, e, hpp⟩ := pairs_of t
    obtain ⟨b, u, z, rfl, h2, h3, h4⟩ := hx
    refine ⟨b :: ps, by rw [e]; rfl, .cons ?_ hpp⟩
    have h2' := sqt_hid h2
    rw [show u = V.str (S y.1) from h3, show z = V.int (y.2 : Nat) from h4] at h2'
    exact h2'
/-- dict(list of pairs) -/
theorem run_dictP {wd : Wd} {Q : VK} (h : Er K X te σ H (rLst (rPr rTx rNat)) wd) (dm : Dm X H) (hn : (wd.map Prod.fst).Nodup) (k : ∀ d H', H d = none → Ex H H' → H' d = some (.dK (kvsW wd)) → Q (.ref d) H') :
    tCB (fun xs H Q => ∃ (a : Addr) (ps : List Addr) (kvs : List (Key × V)), xs = [V.ref a] ∧ SqL K H a (ps.map V.ref) ∧ Paired (fun p kv => SqT K H p [kV kv.1, kv.2]) ps kvs ∧ ∀ p, H p = none → Q (.ref p) (upd H p (.dK (mergeK [] kvs)))) (tCons te tNil) σ H Q :=
  h.go dm fun v H1 e1 ⟨a, vs, hv, hs, hp⟩ => by
    obtain ⟨ps, hps, hpp⟩ : ∃ ps : List Addr, vs = ps.map V.ref ∧ Paired (fun p kv => SqT K H1 p [kV kv.1, kv.2]) ps (kvsW wd) := by
      clear hs hn k h hv
      exact pairs_of hp
    have em := merge_nd wd [] (by simpa using hn)
    refine ⟨a, ps, kvsW wd, by rw [hv], by rw [← hps]; exact sql_hid hs, hpp, fun p hp' => ?_⟩
    rw [show mergeK [] (kvsW wd) = kvsW wd by simpa [kvsW] using em]
    refine k p _ ?_ (e1.trans (Evl.Ex.new hp')) upd_same
    cases z : H p with
    | none => rfl
    | some o =>
      have := e1 _ _ z
      rw [hp'] at this
      cases this
end
end Q
set_option maxHeartbeats 8000000
/-! F37: drawn words; all rows. -/
namespace Q
open PySem PySem.Spec PyProof.Rows L2
def srtTx (xs : List Tx) : List Tx := xs.mergeSort leTx
theorem srtTx_perm (xs : List Tx) : (srtTx xs).Perm xs := List.mergeSort_perm _ _
theorem leTx_trans (a b c : Tx) (h1 : leTx a b = true) (h2 : leTx b c = true) : leTx a c = true := by
  unfold leTx at *
  simp only [Bool.not_eq_true', decide_eq_false_iff_not] at *
  exact lt_tr h1 h2
theorem leTx_total (a b : Tx) : (leTx a b || leTx b a) = true := by
  unfold leTx
  by_cases h : b < a
  · have h2 : ¬ a < b := fun z => List.lt_irrefl a (List.lt_trans z h)
    simp [h2]
  · simp [h]
theorem srtTx_srt (xs : List Tx) : Srt (srtTx xs) := (List.pairwise_mergeSort leTx_trans leTx_total xs).imp fun z => by
  unfold leTx at z
  simpa using z
/-- the words that the law draws from -/
def worlds1 : List Wd := [[([97], 0), ([102], 1)], [([97], 0), ([98], 0), ([102], 1)], [([97], 0), ([102], 1), ([104], 1)], [([97], 0), ([103], 2)], [([97], 0), ([98], 0), ([103], 2)], [([97], 0), ([102], 1), ([103], 2)]]
def worlds2 : List Wd := [[([110, 105, 108], 0), ([99, 111, 110, 115], 2), ([122], 0)], [([97], 0), ([116], 3)], [([97], 0), ([98], 0), ([102], 1), ([103], 2)], [([97, 97], 0), ([97, 98], 1), ([98], 1), ([99], 0)]]
def OkP (wd : Wd) : Prop := ∃ w0 ∈ worlds1 ++ worlds2, wd.Perm w0
theorem worlds_ok : ∀ w0 ∈ worlds1 ++ worlds2, (w0.map Prod.fst).Nodup ∧ w0 ≠ [] ∧ w0.length ≤ 4 ∧ (∀ p ∈ w0, isName p.1 = true ∧ p.2 ≤ 3) ∧ ∃ p ∈ w0, p.2 = 0 := by decide +kernel
section
variable {P : Program} {w : World} {K : Frag} {mg : Str → Option Value} {base : Heap} {X : Hs} {σ : L2.St} {H : Hp} {te ta tb ti td : TE} {α β γ : Type} {r : Rel α} {s : Rel β} {D : Ends}
theorem er_srt {xs : List Tx} (h : Er K X te σ H (rLst rTx) xs) (hz : xs.length < 64) : Er K X (tCB (rSortedS K) (tCons te tNil)) σ H (rLst rTx) (srtTx xs) := er_sortedTx h hz (srtTx_perm xs) (srtTx_srt xs)
theorem gN {i : Nat} {v : V} {Q : L2.St → Hp → Prop} (h : Q (σ.set i (some v)) H) : gName i v σ H Q := h
theorem EDs.c {x' : Str} {x : Tx} {n : Nat} {ts : List (TE × TE)} {wd : Wd} (e : x' = S x) (h : EDs K X σ H ts wd) : EDs K X σ H ((tC (.str x'), tC (.int (n : Nat))) :: ts) ((x, n) :: wd) := .cons (er_tx e) (er_toNat (K := K) er_int) h
def spPlaces (K : Frag) : Sp := fun vs H Q _ => ∃ p c n X, vs = [.ref p] ∧ X p = true ∧ Dm X H ∧ Pen H p c n ∧ n + 20 < 1000000 ∧ ∀ d wd H', H d = none → OkP wd → Off p H H' → Pen H' p c (n + 20) → H' d = some (.dK (kvsW wd)) → Q (.ref d) H'
abbrev NLawPlaces : List Str := ["pen", "some", "places", "name"]
theorem scLawPlaces : FnScope NLawPlaces ["pen"] (defScope sLawPlaces) := ⟨rfl, rfl, rfl, by decide +kernel, rfl, by decide +kernel, by decide +kernel⟩
theorem ok_places (B : Bi mg) (c_law_pick : Kp P w K mg base 2 "_law_pick" ["pen", "some"] (spPick K)) (c_law_mixed : Kp P w K mg base 2 "_law_mixed" ["pen", "some"] (spMixed K)) (D : Dfn K mg "_law_places" sLawPlaces ["pen"]) : Kp P w K mg base 3 "_law_places" ["pen"] (spPlaces K) :=
  D.kp fun f fd F hm b => F.ok scLawPlaces (fun vs H Q E ⟨p, c, n, X, e, _⟩ => by rw [e]; rfl) fun cdv A outer s H vs Q E hr ⟨p, c, n, X, e, hX, dm, hp, hz, q⟩ => by
    subst e
    refine ⟨_, (pss_cons (ps_set (i := 1) scLawPlaces.nd rfl (.inl rfl) (pe_lst (pa_cons (pe_disp (pps_cons pe_str pe_int (pps_cons pe_str pe_int pps_nil)) (by rfl) (by rfl) (fun z => by cases z) (by decide)) (pa_cons (pe_disp (pps_cons pe_str pe_int (pps_cons pe_str pe_int (pps_cons pe_str pe_int pps_nil))) (by rfl) (by rfl) (fun z => by cases z) (by decide)) (pa_cons (pe_disp (pps_cons pe_str pe_int (pps_cons pe_str pe_int (pps_cons pe_str pe_int pps_nil))) (by rfl) (by rfl) (fun z => by cases z) (by decide)) (pa_cons (pe_disp (pps_cons pe_str pe_int (pps_cons pe_str pe_int pps_nil)) (by rfl) (by rfl) (fun z => by cases z) (by decide)) (pa_cons (pe_disp (pps_cons pe_str pe_int (pps_cons pe_str pe_int (pps_cons pe_str pe_int pps_nil))) (by rfl) (by rfl) (fun z => by cases z) (by decide)) (pa_cons (pe_disp (pps_cons pe_str pe_int (pps_cons pe_str pe_int (pps_cons pe_str pe_int pps_nil))) (by rfl) (by rfl) (fun z => by cases z) (by decide)) pa_nil))))))))
    (pss_cons (ps_set (i := 1) scLawPlaces.nd rfl (.inl rfl) (pe_op op_catL (pv 1) (pe_lst (pa_cons (pe_disp (pps_cons pe_str pe_int (pps_cons pe_str pe_int (pps_cons pe_str pe_int pps_nil))) (by rfl) (by rfl) (fun z => by cases z) (by decide)) (pa_cons (pe_disp (pps_cons pe_str pe_int (pps_cons pe_str pe_int pps_nil)) (by rfl) (by rfl) (fun z => by cases z) (by decide)) (pa_cons (pe_disp (pps_cons pe_str pe_int (pps_cons pe_str pe_int (pps_cons pe_str pe_int (pps_cons pe_str pe_int pps_nil)))) (by rfl) (by rfl) (fun z => by cases z) (by decide)) (pa_cons (pe_disp (pps_cons pe_str pe_int (pps_cons pe_str pe_int (pps_cons pe_str pe_int (pps_cons pe_str pe_int pps_nil)))) (by rfl) (by rfl) (fun z => by cases z) (by decide)) pa_nil)))))))
    (pss_cons (ps_set (i := 2) scLawPlaces.nd rfl (.inr rfl) (pe_kp c_law_pick hr (by decide) (pa_cons (pv 0) (pa_cons (pv 1) pa_nil))))
    (pss_one (ps_ret (pe_callTy (call_dictP rfl) rfl B.dict (by decide +kernel) (pa_cons (pe_lc (own := [("name", 3)]) (g := gName 3) (tt := tYes) rfl scLawPlaces.nd (pi_list (pe_kp c_law_mixed hr (by decide) (pa_cons (pv 0) (pa_cons (pe_callB cr_sortedS rfl B.sorted (by decide +kernel) (pa_cons (pe_callTy (call_listD rfl) rfl B.list (by decide +kernel) (pa_cons (pv 2) pa_nil)) pa_nil)) pa_nil)))) (blkOk_by (N := NLawPlaces) (sc := defScope sLawPlaces) (by decide +kernel)) (fun _ _ _ _ _ => (pg_name (i := 3) scLawPlaces.nd rfl (.inl rfl))) (fun _ _ _ _ _ => pts_nil) (fun _ _ _ _ _ => (pe_tup (pa_cons (pv 3) (pa_cons (pe_dget (hu_of hr) (pv 2) (pv 3) (fun _ _ => rfl)) pa_nil))))) pa_nil))))))), ?_⟩
    refine sq (st_set (K := K) (X := X) (r := rLst rDct) (x := worlds1) (er_lstE (.cons (er_disp (.c (by decide +kernel) (.c (by decide +kernel) .nil)) (by decide +kernel) (by decide)) (.cons (er_disp (.c (by decide +kernel) (.c (by decide +kernel) (.c (by decide +kernel) .nil))) (by decide +kernel) (by decide)) (.cons (er_disp (.c (by decide +kernel) (.c (by decide +kernel) (.c (by decide +kernel) .nil))) (by decide +kernel) (by decide)) (.cons (er_disp (.c (by decide +kernel) (.c (by decide +kernel) .nil)) (by decide +kernel) (by decide)) (.cons (er_disp (.c (by decide +kernel) (.c (by decide +kernel) (.c (by decide +kernel) .nil))) (by decide +kernel) (by decide)) (.cons (er_disp (.c (by decide +kernel) (.c (by decide +kernel) (.c (by decide +kernel) .nil))) (by decide +kernel) (by decide)) .nil)))))) (by decide)) dm fun v1 H1 e1 hv1 => ?_)
    have dm1 := dm.ex e1
    refine sq (st_set (K := K) (X := X) (r := rLst rDct) (x := worlds1 ++ worlds2) (er_catL (er_var (i := 1) rfl hv1) (er_lstE (xs := worlds2) (.cons (er_disp (.c (by decide +kernel) (.c (by decide +kernel) (.c (by decide +kernel) .nil))) (by decide +kernel) (by decide)) (.cons (er_disp (.c (by decide +kernel) (.c (by decide +kernel) .nil)) (by decide +kernel) (by decide)) (.cons (er_disp (.c (by decide +kernel) (.c (by decide +kernel) (.c (by decide +kernel) (.c (by decide +kernel) .nil)))) (by decide +kernel) (by decide)) (.cons (er_disp (.c (by decide +kernel) (.c (by decide +kernel) (.c (by decide +kernel) (.c (by decide +kernel) .nil)))) (by decide +kernel) (by decide)) .nil)))) (by decide)) (by decide)) dm1 fun v2 H2 e2 hv2 => ?_)
    have dm2 := dm1.ex e2
    dsimp only
    refine sq ?_
    refine run_pick (K := K) (X := X) (i := 0) (r := rDct) (xs := worlds1 ++ worlds2) rfl hX (er_var (i := 1) rfl hv2) dm2 (hp.mono (e1.trans e2) (Nat.le_refl _)) (by omega) (by decide) (by decide) fun v3 w0 H3 hw0 off3 pn3 dm3 hv3 => ?_
    obtain ⟨k1, k2, k3, k4, k5⟩ := worlds_ok w0 hw0
    have hs0 : (srtTx (w0.map Prod.fst)).Perm (w0.map Prod.fst) := srtTx_perm _
    have hl0 : (w0.map Prod.fst).length ≤ 4 := by rw [List.length_map]; exact k3
    dsimp only
    refine gN ?_
    refine run_mixed (K := K) (X := X) (i := 0) (r := rTx) (xs := srtTx (w0.map Prod.fst)) rfl hX (er_srt (er_listD (er_var (i := 2) rfl hv3)) (by omega)) dm3 pn3 (by rw [hs0.length_eq]; omega) fun v4 ys H4 hys off4 pn4 dm4 hv4 => ?_
    have hperm : ys.Perm (w0.map Prod.fst) := hys.trans hs0
    let fw : Tx → Tx × Nat := fun x => (x, (lk w0 x).getD 0)
    have hfw : (w0.map Prod.fst).map fw = w0 := by
      rw [List.map_map]
      refine (List.map_congr_left (g := id) fun x hx => ?_).trans (List.map_id _)
      show (x.1, (lk w0 x.1).getD 0) = x
      rw [lk_of k1 (m := x.2) hx]
      rfl
    have hwd : (ys.map fw).Perm w0 := by
      have := hperm.map fw
      rw [hfw] at this
      exact this
    have hv34 := (inferInstance : Mono rDct).mono (off4.hid hX).le hv3
    have hl := er_lc (K := K) (X := X) (σ := [some (V.ref p), some v2, some v3, none]) (H := H4) (i := 3) (r := rTx) (s := rPr rTx rNat) (xs := ys) (f := fw) (te := tTup (tCons (tVar 3) (tCons (tDGet (tVar 2) (tVar 3)) tNil))) (ei_list (er_val hv4)) (by have := hperm.length_eq; omega) fun d hd Y v H' e hv => by
      obtain ⟨q, hq, eq⟩ := List.mem_map.mp (hperm.mem_iff.mp hd)
      exact er_pr (er_var (i := 3) rfl hv) (er_dget (w := w0) (er_var (i := 2) rfl ((inferInstance : Mono rDct).mono e.le hv34)) (er_var (i := 3) rfl hv) (by rw [← eq, lk_of k1 (m := q.2) hq]; rfl))
    have hnd : ((ys.map fw).map Prod.fst).Nodup := by
      rw [List.map_map]
      show (ys.map fun x => x).Nodup
      rw [List.map_id']
      exact hperm.nodup_iff.mpr k1
    refine run_dictP (K := K) (X := X) hl dm4 hnd fun d H5 hd e5 g5 => ?_
    have off : Off p H H4 := (Off.ex (e1.trans e2)).trans (off3.trans off4)
    refine q d (ys.map fw) H5 ?_ ⟨w0, hw0, hwd⟩ (off.trans (Off.ex e5)) (pn4.mono e5 (by rw [hs0.length_eq]; omega)) g5
    cases z : H d with
    | none => rfl
    | some o =>
      by_cases hdp : d = p
      · rw [hdp] at hd
        exact absurd hd pn4.at
      · have := off d o hdp z
        rw [hd] at this
        cases this
end
end Q
set_option maxHeartbeats 8000000
/-! F38: all rows of words and kinds. -/
namespace Q
open PySem PySem.Spec PyProof.Rows L2
def rowsF (ks : List Nat) : Nat → List (List Nat)
  | 0 => [[]]
  | m + 1 => (rowsF ks m).flatMap fun row => ks.map fun k => row ++ [k]
theorem rowsF_len (ks : List Nat) : ∀ m, (rowsF ks m).length = ks.length ^ m
  | 0 => rfl
  | m + 1 => by
    have h : ∀ l : List (List Nat), (l.flatMap fun row => ks.map fun k => row ++ [k]).length = l.length * ks.length := by
      intro l
      induction l with
      | nil => simp
      | cons a l ih => rw [List.flatMap_cons, List.length_append, List.length_map, ih, List.length_cons, Nat.add_mul, Nat.one_mul, Nat.add_comm]
    show ((rowsF ks m).flatMap fun row => ks.map fun k => row ++ [k]).length = _
    rw [h, rowsF_len ks m, Nat.pow_succ]
theorem rowsF_row (ks : List Nat) : ∀ m, ∀ row ∈ rowsF ks m, row.length = m ∧ ∀ k ∈ row, k ∈ ks
  | 0, row, h => by
    rw [show rowsF ks 0 = [[]] from rfl, List.mem_singleton] at h
    subst h
    exact ⟨rfl, fun k hk => absurd hk (by simp)⟩
  | m + 1, row, h => by
    obtain ⟨r, hr, h⟩ := List.mem_flatMap.mp h
    obtain ⟨k, hk, rfl⟩ := List.mem_map.mp h
    obtain ⟨h1, h2⟩ := rowsF_row ks m r hr
    refine ⟨by rw [List.length_append, h1]; rfl, fun x hx => ?_⟩
    rcases List.mem_append.mp hx with hx | hx
    · exact h2 x hx
    · rw [List.mem_singleton.mp hx]; exact hk
theorem rowsF_mem (ks : List Nat) : ∀ (row : List Nat), (∀ k ∈ row, k ∈ ks) → row ∈ rowsF ks row.length := by
  intro row
  induction h : row.length generalizing row with
  | zero =>
    intro _
    rw [List.length_eq_zero_iff.mp h]
    exact List.mem_singleton.mpr rfl
  | succ m ih =>
    intro hk
    have hne : row ≠ [] := fun z => by rw [z] at h; cases h
    have e := List.dropLast_concat_getLast hne
    refine List.mem_flatMap.mpr ⟨row.dropLast, ih _ (by rw [List.length_dropLast, h]; rfl) (fun k hk' => hk k (List.dropLast_subset _ hk')), List.mem_map.mpr ⟨row.getLast hne, hk _ (List.getLast_mem hne), e⟩⟩
def allR (wd : Wd) (ks : List Nat) : List (Tx × List Nat) := (srtTx (wd.map Prod.fst)).flatMap fun x => (rowsF ks ((lk wd x).getD 0)).map fun r => (x, r)
/-- words that the law draws: few, short -/
structure OkV (wd : Wd) : Prop where
  nd : (wd.map Prod.fst).Nodup
  few : wd.length ≤ 4
  good : ∀ p ∈ wd, isName p.1 = true ∧ p.2 ≤ 3
  ne : wd ≠ []
  zero : ∃ p ∈ wd, p.2 = 0
theorem OkP.okV {wd : Wd} (h : OkP wd) : OkV wd := by
  obtain ⟨w0, h0, hp⟩ := h
  obtain ⟨k1, k2, k3, k4, k5, h5, h6⟩ := worlds_ok w0 h0
  exact ⟨(hp.map Prod.fst).nodup_iff.mpr k1, by rw [hp.length_eq]; exact k3, fun p h => k4 p (hp.mem_iff.mp h), fun z => k2 (by rw [z] at hp; exact List.nil_perm.mp hp), k5, hp.mem_iff.mpr h5, h6⟩
section
variable {P : Program} {w : World} {K : Frag} {mg : Str → Option Value} {base : Heap} {X : Hs} {σ : L2.St} {H : Hp} {te ta tb ti td : TE} {α β γ : Type} {r : Rel α} {s : Rel β} {D : Ends}
abbrev spRows (K : Frag) : Sp := SpF (A2 (rLst rNat) rNat fun ks m => ks.length ≤ 4 ∧ m ≤ 3) K (rLst rNs) fun p => rowsF p.1 p.2
abbrev NLawRows : List Str := ["lot", "many", "found", "place", "longer", "row", "one"]
theorem scLawRows : FnScope NLawRows ["lot", "many"] (defScope sLawRows) := ⟨rfl, rfl, rfl, by decide +kernel, rfl, by decide +kernel, by decide +kernel⟩
theorem pow_le4 {k m : Nat} (h : k ≤ 4) (hm : m ≤ 3) : k ^ m ≤ 64 := Nat.le_trans (Nat.pow_le_pow_left h m) (Nat.le_trans (Nat.pow_le_pow_right (by decide) hm) (by decide))
theorem flatMap_take {α β : Type} (f : α → List β) (l : List α) (n : Nat) (x : α) (h : l[n]? = some x) : (l.take (n + 1)).flatMap f = (l.take n).flatMap f ++ f x := by
  rw [show l.take (n + 1) = l.take n ++ [x] by rw [List.take_add_one, h]; rfl, List.flatMap_append, List.flatMap_singleton]
theorem ok_rows (B : Bi mg) (D : Dfn K mg "_law_rows" sLawRows ["lot", "many"]) : Kp P w K mg base 1 "_law_rows" ["lot", "many"] (spRows K) :=
  D.kp fun f fd F hm b => F.ok scLawRows len2 fun cdv A outer s H vs Q E hr ⟨⟨ks, m⟩, X, dm, ⟨lv, mv, e, hl, hmv, hk4, hm3⟩, q⟩ => by
    subst e
    have hmv : mv = V.int (m : Nat) := hmv
    subst hmv
    have hk4 : ks.length ≤ 4 := hk4
    have hm3 : m ≤ 3 := hm3
    have mL := (inferInstance : Mono (rLst rNat))
    have mN := (inferInstance : Mono (rLst rNs))
    refine ⟨_, (pss_cons (ps_set (i := 2) scLawRows.nd rfl (.inl rfl) (pe_lst (pa_cons (pe_tup pa_nil) pa_nil)))
    (pss_cons (ps_for PassesOwn.never rfl (pi_range1 (by rfl) B.range (pa_cons (pv 1) pa_nil)) (pg_name (i := 3) scLawRows.nd rfl (.inl rfl)) (pss_cons (ps_set (i := 4) scLawRows.nd rfl (.inl rfl) (pe_lst pa_nil))
    (pss_cons (ps_for PassesOwn.never rfl (pi_list (pv 2)) (pg_name (i := 5) scLawRows.nd rfl (.inr rfl)) (pss_one (ps_set (i := 4) scLawRows.nd rfl (.inl rfl) (pe_op op_catL (pv 4) (pe_lc (own := [("one", 6)]) (g := gName 6) (tt := tYes) (te := tOp (rCatA K) (tVar 5) (tTup (tCons (tVar 6) tNil))) rfl scLawRows.nd (pi_list (pv 0)) (blkOk_by (N := NLawRows) (sc := defScope sLawRows) (by decide +kernel)) (fun _ _ _ _ _ => (pg_name (i := 6) scLawRows.nd rfl (.inl rfl))) (fun _ _ _ _ _ => pts_nil) (fun _ _ _ _ _ => (pe_op op_catA (pv 5) (pe_tup (pa_cons (pv 6) pa_nil)))))))))
    (pss_one (ps_set (i := 2) scLawRows.nd rfl (.inl rfl) (pv 4))))))
    (pss_one (ps_ret (pv 2))))), ?_⟩
    refine sq (st_set (K := K) (X := X) (r := rLst rNs) (x := [[]]) (er_lst1 er_ns0) dm fun fv H1 e1 hfv => ?_)
    have dm1 := dm.ex e1
    refine sq (st_for (K := K) (X := X) (r := rInt) (xs := (List.range m).map fun j => ((j : Nat) : Int)) (fun Bh n σ' H' => (∃ fv pl lg rw', σ' = [some lv, some (V.int (m : Nat)), some fv, pl, lg, rw', none] ∧ rLst rNs K (hid X H') fv (rowsF ks n)) ∧ Ex Bh H')
      (ei_range1 (by omega) (er_var (i := 1) rfl rfl)) dm1 (fun Bh eB => ⟨⟨fv, _, _, _, rfl, mN.mono (hid_le eB) hfv⟩, Evl.Ex.refl _⟩) (fun Bh n σ' H' _ h => h.2) ?_ ?_)
    · rintro Bh n x σ' H' eB hx ⟨⟨fv, pl, lg, rw', rfl, hfv⟩, e2⟩ v H2 e3 hv
      have hn : n < m := by
        have := (List.getElem?_eq_some_iff.mp hx).1
        rw [List.length_map, List.length_range] at this
        exact this
      have dm2 := ((dm1.ex eB).ex e2).ex e3
      refine gN ?_
      have hfv2 := mN.mono (hid_le e3) hfv
      refine sq (st_set (K := K) (X := X) (r := rLst rNs) (x := []) er_nil dm2 fun gv H3 e4 hgv => ?_)
      have dm3 := dm2.ex e4
      have hfv3 := mN.mono (hid_le e4) hfv2
      have hl3 : rLst rNat K (hid X H3) lv ks := mL.mono (hid_le ((((e1.trans eB).trans e2).trans e3).trans e4)) hl
      have hfl : (rowsF ks n).length ≤ 64 := by rw [rowsF_len]; exact pow_le4 hk4 (by omega)
      refine sq (st_for (K := K) (X := X) (r := rNs) (xs := rowsF ks n) (fun B2 j σ' H' => (∃ gv rw', σ' = [some lv, some (V.int (m : Nat)), some fv, some v, some gv, rw', none] ∧ rLst rNs K (hid X H') gv (((rowsF ks n).take j).flatMap fun row => ks.map fun k => row ++ [k])) ∧ Ex B2 H')
        (ei_list (er_var (i := 2) rfl hfv3)) dm3 (fun B2 eB2 => ⟨⟨gv, _, rfl, mN.mono (hid_le eB2) hgv⟩, Evl.Ex.refl _⟩) (fun B2 j σ' H' _ h => h.2) ?_ ?_)
      · rintro B2 j row σ' H' eB2 hrow ⟨⟨gv, rw2, rfl, hgv⟩, e5⟩ u H4 e6 hu
        have dm4 := ((dm3.ex eB2).ex e5).ex e6
        have hu' := hu X (hid_ex (e5.trans e6)) ((dm3.ex eB2).ex e5)
        have hrl := (rowsF_row ks n row (List.mem_of_getElem? hrow)).1
        refine gN ?_
        have hl4 := mL.mono (hid_le ((eB2.trans e5).trans e6)) hl3
        have hgl : (((rowsF ks n).take j).flatMap fun row => ks.map fun k => row ++ [k]).length ≤ 64 * 4 := by
          have : ∀ l : List (List Nat), (l.flatMap fun row => ks.map fun k => row ++ [k]).length = l.length * ks.length := by
            intro l
            induction l with
            | nil => simp
            | cons a l ih => rw [List.flatMap_cons, List.length_append, List.length_map, ih, List.length_cons, Nat.add_mul, Nat.one_mul, Nat.add_comm]
          rw [this, List.length_take]
          exact Nat.mul_le_mul (by omega) hk4
        refine st_set (K := K) (X := X) (r := rLst rNs) (x := (((rowsF ks n).take j).flatMap fun row => ks.map fun k => row ++ [k]) ++ ks.map fun k => row ++ [k]) (er_catL (er_var (i := 4) rfl (mN.mono (hid_le e6) hgv)) (er_lc (r := rNat) (s := rNs) (xs := ks) (f := fun k => row ++ [k]) (ei_list (er_var (i := 0) rfl hl4)) (by omega) fun d hd Y y H' e hy => er_nsCat (er_var (i := 5) rfl ((inferInstance : Mono rNs).mono e.le hu')) (er_n1 (er_var (i := 6) rfl hy)) (by omega)) (by rw [List.length_map]; omega)) dm4 fun y H5 e7 hy => ?_
        refine ⟨⟨y, _, rfl, ?_⟩, (e5.trans e6).trans e7⟩
        rw [flatMap_take _ _ _ _ hrow]
        exact hy
      · rintro B2 σ' H' eB2 ⟨⟨gv, rw2, rfl, hgv⟩, e5⟩
        rw [List.take_length] at hgv
        have dm4 := (dm3.ex eB2).ex e5
        refine st_set (K := K) (X := X) (r := rLst rNs) (x := rowsF ks (n + 1)) (er_var (i := 4) rfl hgv) dm4 fun y H5 e6 hy => ⟨⟨y, _, _, _, rfl, hy⟩, ((((e2.trans e3).trans e4).trans eB2).trans e5).trans e6⟩
    · rintro Bh σ' H' eB ⟨⟨fv, pl, lg, rw', rfl, hfv⟩, e2⟩
      rw [List.length_map, List.length_range] at hfv
      exact ret_of (K := K) (X := X) (r := rLst rNs) (x := rowsF ks m) (er_var (i := 2) rfl hfv) ((dm1.ex eB).ex e2) fun v H'' e' hv => q v H'' (((e1.trans eB).trans e2).trans e') hv
abbrev spAllRows (K : Frag) : Sp := SpF (A2 rDct (rLst rNat) fun wd ks => OkV wd ∧ ks.length ≤ 4) K (rLst rRow) fun p => allR p.1 p.2
theorem allR_len {wd : Wd} {ks : List Nat} (h : OkV wd) (hk : ks.length ≤ 4) (j : Nat) : (((srtTx (wd.map Prod.fst)).take j).flatMap fun x => (rowsF ks ((lk wd x).getD 0)).map fun r => (x, r)).length ≤ 4 * 64 := by
  have hl : (srtTx (wd.map Prod.fst)).length ≤ 4 := by rw [(srtTx_perm _).length_eq, List.length_map]; exact h.few
  have h3 : ∀ x, (lk wd x).getD 0 ≤ 3 := fun x => by
    cases e : lk wd x with
    | none => simp
    | some n => exact (h.good _ (lk_mem e)).2
  have : ∀ l : List Tx, (l.flatMap fun x => (rowsF ks ((lk wd x).getD 0)).map fun r => (x, r)).length ≤ l.length * 64 := by
    intro l
    induction l with
    | nil => simp
    | cons a l ih =>
      rw [List.flatMap_cons, List.length_append, List.length_map, List.length_cons, rowsF_len]
      have := pow_le4 hk (h3 a)
      omega
  refine Nat.le_trans (this _) (Nat.mul_le_mul_right 64 ?_)
  rw [List.length_take]
  omega
abbrev NLawAllRows : List Str := ["places", "kinds", "found", "name", "row"]
theorem scLawAllRows : FnScope NLawAllRows ["places", "kinds"] (defScope sLawAllRows) := ⟨rfl, rfl, rfl, by decide +kernel, rfl, by decide +kernel, by decide +kernel⟩
theorem ok_allRows (B : Bi mg) (c_law_rows : Kp P w K mg base 1 "_law_rows" ["lot", "many"] (spRows K)) (D : Dfn K mg "_law_all_rows" sLawAllRows ["places", "kinds"]) : Kp P w K mg base 2 "_law_all_rows" ["places", "kinds"] (spAllRows K) :=
  D.kp fun f fd F hm b => F.ok scLawAllRows len2 fun cdv A outer s H vs Q E hr ⟨⟨wd, ks⟩, X, dm, ⟨dv, kv, e, hd, hkv, hw, hk4⟩, q⟩ => by
    subst e
    have hk4 : ks.length ≤ 4 := hk4
    have hw : OkV wd := hw
    have mK := (inferInstance : Mono (rLst rNat))
    have mD := (inferInstance : Mono rDct)
    have mN := (inferInstance : Mono (rLst rRow))
    have hnl : (wd.map Prod.fst).length ≤ 4 := by rw [List.length_map]; exact hw.few
    refine ⟨_, (pss_cons (ps_set (i := 2) scLawAllRows.nd rfl (.inl rfl) (pe_lst pa_nil))
    (pss_cons (ps_for PassesOwn.never rfl (pi_list (pe_callB cr_sortedS rfl B.sorted (by decide +kernel) (pa_cons (pe_callTy (call_listD rfl) rfl B.list (by decide +kernel) (pa_cons (pv 0) pa_nil)) pa_nil))) (pg_name (i := 3) scLawAllRows.nd rfl (.inr rfl)) (pss_one (ps_set (i := 2) scLawAllRows.nd rfl (.inl rfl) (pe_op op_catL (pv 2) (pe_lc (own := [("row", 4)]) (g := gName 4) (tt := tYes) (te := tOp (rCatA K) (tTup (tCons (tVar 3) tNil)) (tVar 4)) rfl scLawAllRows.nd (pi_list (pe_kp c_law_rows hr (by decide) (pa_cons (pv 1) (pa_cons (pe_dget (hu_of hr) (pv 0) (pv 3) (fun _ _ => rfl)) pa_nil)))) (blkOk_by (N := NLawAllRows) (sc := defScope sLawAllRows) (by decide +kernel)) (fun _ _ _ _ _ => (pg_name (i := 4) scLawAllRows.nd rfl (.inl rfl))) (fun _ _ _ _ _ => pts_nil) (fun _ _ _ _ _ => (pe_op op_catA (pe_tup (pa_cons (pv 3) pa_nil)) (pv 4))))))))
    (pss_one (ps_ret (pv 2))))), ?_⟩
    refine sq (st_set (K := K) (X := X) (r := rLst rRow) (x := []) er_nil dm fun fv H1 e1 hfv => ?_)
    have dm1 := dm.ex e1
    have hd1 := mD.mono (hid_le e1) hd
    have hk1 := mK.mono (hid_le e1) hkv
    refine sq (st_for (K := K) (X := X) (r := rTx) (xs := srtTx (wd.map Prod.fst)) (fun Bh j σ' H' => (∃ fv nm, σ' = [some dv, some kv, some fv, nm, none] ∧ rLst rRow K (hid X H') fv (((srtTx (wd.map Prod.fst)).take j).flatMap fun x => (rowsF ks ((lk wd x).getD 0)).map fun r => (x, r))) ∧ Ex Bh H')
      (ei_list (er_srt (er_listD (er_var (i := 0) rfl hd1)) (by omega))) dm1 (fun Bh eB => ⟨⟨fv, _, rfl, mN.mono (hid_le eB) hfv⟩, Evl.Ex.refl _⟩) (fun Bh n σ' H' _ h => h.2) ?_ ?_)
    · rintro Bh n x σ' H' eB hx ⟨⟨fv, nm, rfl, hfv⟩, e2⟩ v H2 e3 hv
      have dm2 := ((dm1.ex eB).ex e2).ex e3
      have hv' := hv X (hid_ex (e2.trans e3)) ((dm1.ex eB).ex e2)
      refine gN ?_
      have hmem : x ∈ wd.map Prod.fst := (srtTx_perm _).mem_iff.mp (List.mem_of_getElem? hx)
      obtain ⟨p, hp, rfl⟩ := List.mem_map.mp hmem
      have hlk : lk wd p.1 = some p.2 := lk_of hw.nd hp
      have hp3 : p.2 ≤ 3 := (hw.good p hp).2
      have hrl : (rowsF ks p.2).length ≤ 64 := by rw [rowsF_len]; exact pow_le4 hk4 hp3
      have hal := allR_len hw hk4 n
      refine st_set (K := K) (X := X) (r := rLst rRow) (x := (((srtTx (wd.map Prod.fst)).take n).flatMap fun x => (rowsF ks ((lk wd x).getD 0)).map fun r => (x, r)) ++ (rowsF ks p.2).map fun r => (p.1, r)) (er_catL (er_var (i := 2) rfl (mN.mono (hid_le e3) hfv)) (er_lc (r := rNs) (s := rRow) (xs := rowsF ks p.2) (f := fun r => (p.1, r)) (ei_list (er_call2 (r := rLst rNat) (s := rNat) (f := fun p : List Nat × Nat => rowsF p.1 p.2) (x := ks) (y := p.2) (er_var (i := 1) rfl (mK.mono (hid_le ((eB.trans e2).trans e3)) hk1)) (er_dget (w := wd) (er_var (i := 0) rfl (mD.mono (hid_le ((eB.trans e2).trans e3)) hd1)) (er_var (i := 3) rfl hv') hlk) ⟨hk4, hp3⟩)) (by omega) fun d hdm Y y H' e hy => er_rowCat (er_w1 (er_var (i := 3) rfl hv')) (er_var (i := 4) rfl hy) (by rw [(rowsF_row ks _ d hdm).1]; omega)) (by rw [List.length_map]; omega)) dm2 fun y H5 e7 hy => ?_
      refine ⟨⟨y, _, rfl, ?_⟩, (e2.trans e3).trans e7⟩
      rw [flatMap_take _ _ _ _ hx, hlk]
      exact hy
    · rintro Bh σ' H' eB ⟨⟨fv, nm, rfl, hfv⟩, e2⟩
      rw [List.take_length] at hfv
      exact ret_of (K := K) (X := X) (r := rLst rRow) (x := allR wd ks) (er_var (i := 2) rfl hfv) ((dm1.ex eB).ex e2) fun v H'' e' hv => q v H'' (((e1.trans eB).trans e2).trans e') hv
end
end Q
set_option maxHeartbeats 8000000
/-! F39: the drawn table. -/
namespace Q
open PySem PySem.Spec PyProof.Rows L2
abbrev Row := Tx × List Nat
abbrev Tb := List (Row × Nat)
def keyR (r : Row) : List Key := .inr (S r.1) :: r.2.map fun n => .inl (n : Nat)
theorem keyR_inj {r r' : Row} (h : keyR r = keyR r') : r = r' := by
  obtain ⟨x, ks⟩ := r
  obtain ⟨y, ls⟩ := r'
  have h1 := (List.cons.inj h).1
  have h2 := (List.cons.inj h).2
  have e1 : x = y := SX.S_inj (Sum.inr.inj h1)
  have e2 : ks = ls := (List.map_inj_right (fun a b z => Int.ofNat.inj (Sum.inl.inj z))).mp h2
  rw [e1, e2]
theorem keyR_kV (r : Row) : V.str (S r.1) :: r.2.map (fun n => V.int (n : Nat)) = (keyR r).map kV := by
  show _ = kV _ :: _
  rw [List.map_map]
  rfl
def entR (e : Row × Nat) : List Key × V := (keyR e.1, .int (e.2 : Nat))
def kvsT (t : Tb) : List (List Key × V) := t.map entR
def lt_ : Tb → Row → Option Nat
  | [], _ => none
  | e :: t, r => if e.1 = r then some e.2 else lt_ t r
theorem valV_T : ∀ (t : Tb) (r : Row), valV (kvsT t) (keyR r) = (lt_ t r).map fun m => V.int (m : Nat)
  | [], _ => rfl
  | e :: t, r => by
    show valV (entR e :: kvsT t) (keyR r) = _
    by_cases h : e.1 = r
    · rw [valV_pos (show (entR e).1 = keyR r from congrArg keyR h)]
      show _ = (if e.1 = r then some e.2 else lt_ t r).map _
      rw [if_pos h]; rfl
    · rw [valV_neg (fun z => h (keyR_inj z)), valV_T t r]
      show _ = (if e.1 = r then some e.2 else lt_ t r).map _
      rw [if_neg h]
theorem lt_mem : ∀ {t : Tb} {r : Row} {m : Nat}, lt_ t r = some m → (r, m) ∈ t
  | e :: t, r, m, h => by
    unfold lt_ at h
    by_cases c : e.1 = r
    · rw [if_pos c] at h
      have := Option.some.inj h
      subst this
      rw [← c]
      exact List.mem_cons_self
    · rw [if_neg c] at h
      exact List.mem_cons_of_mem _ (lt_mem h)
theorem lt_some : ∀ {t : Tb} {r : Row}, r ∈ t.map Prod.fst → ∃ m, lt_ t r = some m
  | e :: t, r, h => by
    unfold lt_
    by_cases c : e.1 = r
    · rw [if_pos c]; exact ⟨_, rfl⟩
    · rw [if_neg c]
      rcases List.mem_cons.mp h with h | h
      · exact absurd h.symm c
      · exact lt_some h
theorem lt_none {t : Tb} {r : Row} (h : r ∉ t.map Prod.fst) : lt_ t r = none := by
  cases e : lt_ t r with
  | none => rfl
  | some m => exact absurd (List.mem_map.mpr ⟨_, lt_mem e, rfl⟩) h
theorem lt_isSome (t : Tb) (r : Row) : (lt_ t r).isSome = decide (r ∈ t.map Prod.fst) := by
  by_cases h : r ∈ t.map Prod.fst
  · obtain ⟨m, hm⟩ := lt_some h
    rw [hm, decide_eq_true h]; rfl
  · rw [lt_none h, decide_eq_false h]; rfl
theorem lt_of : ∀ {t : Tb} {e : Row × Nat}, (t.map Prod.fst).Nodup → e ∈ t → lt_ t e.1 = some e.2
  | a :: t, e, hn, h => by
    unfold lt_
    rw [List.map_cons, List.nodup_cons] at hn
    rcases List.mem_cons.mp h with h | h
    · subst h; rw [if_pos rfl]
    · rw [if_neg (fun z => hn.1 (by rw [z]; exact List.mem_map.mpr ⟨e, h, rfl⟩))]
      exact lt_of hn.2 h
theorem kvsT_put {t : Tb} {r : Row} {g : Nat} (h : r ∉ t.map Prod.fst) : putK (kvsT t) (keyR r) (.int (g : Nat)) = kvsT (t ++ [(r, g)]) := by
  rw [putK_new _ (by rw [valV_T, lt_none h]; rfl)]
  unfold kvsT
  rw [List.map_append]; rfl
/-! ### the rows, once each -/
theorem rowsF_nd {ks : List Nat} (h : ks.Nodup) : ∀ m, (rowsF ks m).Nodup
  | 0 => by simp [rowsF]
  | m + 1 => by
    show List.Pairwise _ ((rowsF ks m).flatMap fun row => ks.map fun k => row ++ [k])
    rw [List.pairwise_flatMap]
    refine ⟨fun a _ => ?_, (rowsF_nd h m).imp fun {a b} hab x hx y hy z => ?_⟩
    · refine List.Pairwise.map _ (fun x y hxy z => hxy ?_) h
      have := List.append_cancel_left z
      exact (List.cons.inj this).1
    · obtain ⟨k, _, rfl⟩ := List.mem_map.mp hx
      obtain ⟨k', _, rfl⟩ := List.mem_map.mp hy
      exact hab (List.append_inj_left' z rfl)
theorem allR_nd {wd : Wd} {ks : List Nat} (hw : OkV wd) (h : ks.Nodup) : (allR wd ks).Nodup := by
  show List.Pairwise _ _
  unfold allR
  rw [List.pairwise_flatMap]
  refine ⟨fun a _ => List.Pairwise.map _ (fun x y hxy z => hxy (Prod.mk.inj z).2) (rowsF_nd h _), ((srtTx_perm _).nodup_iff.mpr hw.nd).imp fun {a b} hab x hx y hy z => ?_⟩
  obtain ⟨k, _, rfl⟩ := List.mem_map.mp hx
  obtain ⟨k', _, rfl⟩ := List.mem_map.mp hy
  exact hab (Prod.mk.inj z).1
theorem allR_mem {wd : Wd} {ks : List Nat} (hw : OkV wd) {r : Row} : r ∈ allR wd ks ↔ (r.1, r.2.length) ∈ wd ∧ ∀ k ∈ r.2, k ∈ ks := by
  unfold allR
  constructor
  · intro h
    obtain ⟨x, hx, h⟩ := List.mem_flatMap.mp h
    obtain ⟨k, hk, rfl⟩ := List.mem_map.mp h
    obtain ⟨p, hp, rfl⟩ := List.mem_map.mp ((srtTx_perm _).mem_iff.mp hx)
    rw [lk_of hw.nd (m := p.2) hp] at hk
    obtain ⟨h1, h2⟩ := rowsF_row _ _ _ hk
    exact ⟨by rw [h1]; exact hp, h2⟩
  · rintro ⟨h1, h2⟩
    refine List.mem_flatMap.mpr ⟨r.1, (srtTx_perm _).mem_iff.mpr (List.mem_map.mpr ⟨_, h1, rfl⟩), List.mem_map.mpr ⟨r.2, ?_, rfl⟩⟩
    rw [lk_of hw.nd h1]
    exact rowsF_mem _ _ h2
theorem allR_sub {wd : Wd} {ks ls : List Nat} (hw : OkV wd) (h : ∀ k ∈ ks, k ∈ ls) : ∀ r ∈ allR wd ks, r ∈ allR wd ls := fun r hr => by
  rw [allR_mem hw] at hr ⊢
  exact ⟨hr.1, fun k hk => h k (hr.2 k hk)⟩
theorem allR_le {wd : Wd} {ks : List Nat} (h : OkV wd) (hk : ks.length ≤ 4) : (allR wd ks).length ≤ 256 := by
  have := allR_len h hk (srtTx (wd.map Prod.fst)).length
  rw [List.take_length] at this
  exact this
/-- what a drawn table holds -/
structure OkT (wd : Wd) (t : Tb) : Prop where
  nd : (t.map Prod.fst).Nodup
  few : t.length ≤ 256
  all : ∃ ks : List Nat, (∀ r ∈ allR wd ks, r ∈ t.map Prod.fst) ∧ (∀ e ∈ t, e.2 ∈ ks) ∧ ∀ k ∈ ks, k < 3
section
variable {P : Program} {w : World} {K : Frag} {mg : Str → Option Value} {base : Heap} {X : Hs} {σ : L2.St} {H : Hp} {te ta tb ti td : TE} {α β γ : Type} {r : Rel α} {s : Rel β} {D : Ends}
def rAny : Rel Unit := fun _ _ _ _ => True
instance : Mono rAny := ⟨fun _ _ => trivial⟩
theorem any_of {K : Frag} {H : Hp} {vs : List V} {xs : List α} (h : Paired (r K H) vs xs) : Paired (rAny K H) vs (xs.map fun _ => ()) := by
  induction h with
  | nil => exact .nil
  | cons a b ih => exact .cons trivial ih
theorem rLst_any {K : Frag} {H : Hp} {v : V} {xs : List α} (h : rLst r K H v xs) : rLst rAny K H v (xs.map fun _ => ()) := by
  obtain ⟨a, vs, h1, h2, h3⟩ := h
  exact ⟨a, vs, h1, h2, any_of h3⟩
/-- row not in rows -/
theorem er_rowNotIn {i : Nat} {d : Addr} {t : Tb} {x : Row} (h : Er K X te σ H rRow x) (hs : σ[i]? = some (some (.ref d))) (hd : H d = some (.dT (kvsT t))) : Er K X (tDNotIn te (tVar i)) σ H rBl (!decide (x ∈ t.map Prod.fst)) := fun H1 e dm Q k =>
  h H1 e dm _ fun v H2 e2 ⟨a, hv, ha⟩ => ⟨.ref d, hs, d, valV (kvsT t) (keyR x), rfl, by rw [hv]; exact DGet.t (k := keyR x) (e2 _ _ (e _ _ hd)) (by rw [hid_get _ _ ha, keyR_kV]), by
    rw [valV_T]
    have : ((lt_ t x).map fun m => V.int (m : Nat)).isSome = (lt_ t x).isSome := Option.isSome_map
    rw [this, lt_isSome]
    exact k _ H2 e2 rfl⟩
theorem inV_nat (g : Nat) : ∀ ks : List Nat, inV (.int (g : Nat)) (ks.map fun n => V.int (n : Nat)) = decide (g ∈ ks)
  | [] => rfl
  | k :: ks => by
    have := inV_nat g ks
    unfold inV at this ⊢
    rw [List.map_cons, List.any_cons, this]
    show ((k : Int) == (g : Int) || _) = _
    by_cases h : k = g
    · subst h; simp
    · have h1 : ((k : Int) == (g : Int)) = false := by
        rw [beq_eq_false_iff_ne]; omega
      rw [h1]
      simp [Ne.symm h]
/-- goal not in kinds -/
theorem er_natNotIn {g : Nat} {ks : List Nat} (h : Er K X te σ H rNat g) (h2 : Er K X ta σ H (rLst rNat) ks) : Er K X (tOp (rIn K true) te ta) σ H rBl (!decide (g ∈ ks)) := er_two h h2 fun v w H1 _ _ hv ⟨a, vs, hw, hs, hp⟩ Q k => by
  have hv : v = .int (g : Nat) := hv
  subst hv
  have e : vs = ks.map fun n => V.int (n : Nat) := Paired.to_map (fun _ _ z => z) hp
  refine ⟨a, vs, hw, .inl (sql_hid hs), rfl, ?_, ?_⟩
  · rw [e, List.all_map]
    exact List.all_eq_true.mpr fun _ _ => rfl
  · rw [if_pos rfl, e, inV_nat]
    exact k _ _ (Evl.Ex.refl _) rfl
/-- [goal] * int(..) -/
theorem er_rep1 {g : Nat} {b : Bool} (h : Er K X te σ H rNat g) (h2 : Er K X ta σ H rInt (if b then 1 else 0)) : Er K X (tOp rRep (tLst (tCons te tNil)) ta) σ H (rLst rNat) (if b then [g] else []) := fun H1 e d Q k => by
  refine h H1 e d _ fun v H2 e2 hv => ⟨(by show 1 ≤ sizeLine; decide), fun l hl => ?_⟩
  have hv : v = .int (g : Nat) := hv
  subst hv
  have e3 : Ex H1 (upd H2 l (.lst [.int (g : Nat)])) := e2.trans (Evl.Ex.new hl)
  refine h2 _ (e.trans e3) (d.ex e3) _ fun w H3 e4 hw => ?_
  have hw : w = .int (if b then 1 else 0) := hw
  subst hw
  refine ⟨l, _, [.int (g : Nat)], rfl, rfl, e4 _ _ upd_same, ?_, ?_, ?_, fun p hp => ?_⟩
  · cases b <;> decide
  · cases b <;> decide
  · cases b
    · show 1 * 0 ≤ sizeLine; decide
    · show 1 * 1 ≤ sizeLine; decide
  · refine k _ _ ((e3.trans e4).trans (Evl.Ex.new hp)) ?_
    have dm3 := (d.ex e3).ex e4
    cases b with
    | true => exact ⟨p, [.int (g : Nat)], rfl, .inl (.inl (by rw [hid_out (dm3.new hp), upd_same]; rfl)), .cons rfl .nil⟩
    | false => exact ⟨p, [], rfl, .inl (.inl (by rw [hid_out (dm3.new hp), upd_same]; rfl)), .nil⟩
def Off2 (a d : Addr) (H H' : Hp) : Prop := ∀ b o, b ≠ a → b ≠ d → H b = some o → H' b = some o
theorem Off2.refl (a d : Addr) (H : Hp) : Off2 a d H H := fun _ _ _ _ h => h
theorem Off2.trans {a d : Addr} {H H1 H2 : Hp} (h : Off2 a d H H1) (h2 : Off2 a d H1 H2) : Off2 a d H H2 := fun b o p q z => h2 b o p q (h b o p q z)
theorem Off2.ex {a d : Addr} {H H1 : Hp} (h : Ex H H1) : Off2 a d H H1 := fun b o _ _ q => h b o q
theorem Off2.off {a d : Addr} {H H1 : Hp} (h : Off a H H1) : Off2 a d H H1 := fun b o p _ q => h b o p q
theorem Off2.upd {a d : Addr} {H : Hp} {o : HO} : Off2 a d H (upd H d o) := fun b _ _ p q => by rw [upd_ne p]; exact q
theorem Off2.hid {a d : Addr} {H H1 : Hp} (h : Off2 a d H H1) (ha : X a = true) (hd : X d = true) : Ex (hid X H) (hid X H1) := fun b o q => by
  obtain ⟨q1, q2⟩ := hid_some.mp q
  exact hid_some.mpr ⟨q1, h b o (fun z => by rw [z, ha] at q1; cases q1) (fun z => by rw [z, hd] at q1; cases q1) q2⟩
abbrev NLawTable : List Str := ["pen", "places", "most", "rows", "kinds", "left", "row", "goal"]
theorem scLawTable : FnScope NLawTable ["pen", "places", "most"] (defScope sLawTable) := ⟨rfl, rfl, rfl, by decide +kernel, rfl, by decide +kernel, by decide +kernel⟩
/-- what stands while the table is drawn -/
structure TbI (K : Frag) (X2 : Hs) (wd : Wd) (p c d : Addr) (n m : Nat) (H' : Hp) (t : Tb) (ks : List Nat) (kv : V) : Prop where
  dict : H' d = some (.dT (kvsT t))
  pen : Pen H' p c (n + 2 * t.length)
  kin : rLst rNat K (hid X2 H') kv ks
  nd : (t.map Prod.fst).Nodup
  sub : ∀ r ∈ t.map Prod.fst, r ∈ allR wd (List.range m)
  knd : ks.Nodup
  klt : ∀ k ∈ ks, k < m
  val : ∀ e ∈ t, e.2 ∈ ks
theorem TbI.few {X2 : Hs} {wd : Wd} {p c d : Addr} {n m : Nat} {H' : Hp} {t : Tb} {ks : List Nat} {kv : V} (h : TbI K X2 wd p c d n m H' t ks kv) (hw : OkV wd) (hm : m ≤ 3) : t.length ≤ 256 := by
  have := h.nd.length_le_of_subset h.sub
  rw [List.length_map] at this
  exact Nat.le_trans this (allR_le hw (by rw [List.length_range]; omega))
theorem TbI.kfew {X2 : Hs} {wd : Wd} {p c d : Addr} {n m : Nat} {H' : Hp} {t : Tb} {ks : List Nat} {kv : V} (h : TbI K X2 wd p c d n m H' t ks kv) : ks.length ≤ m := by
  have := h.knd.length_le_of_subset (l₂ := List.range m) fun k hk => List.mem_range.mpr (h.klt k hk)
  rw [List.length_range] at this
  exact this
theorem TbI.ex {X2 : Hs} {wd : Wd} {p c d : Addr} {n m : Nat} {H' H'' : Hp} {t : Tb} {ks : List Nat} {kv : V} (h : TbI K X2 wd p c d n m H' t ks kv) (e : Ex H' H'') : TbI K X2 wd p c d n m H'' t ks kv :=
  ⟨e _ _ h.dict, h.pen.mono e (Nat.le_refl _), (inferInstance : Mono (rLst rNat)).mono (hid_le e) h.kin, h.nd, h.sub, h.knd, h.klt, h.val⟩
theorem Off2.dm {p d : Addr} {H H' : Hp} (h : Off2 p d H H') (hp : H' p ≠ none) (hd : H' d ≠ none) (dm : Dm X H) : Dm X H' := fun a ha => by
  by_cases h1 : a = p
  · rw [h1]; exact hp
  · by_cases h2 : a = d
    · rw [h2]; exact hd
    · cases z : H a with
      | none => exact absurd z (dm a ha)
      | some o => rw [h a o h1 h2 z]; exact fun z => nomatch z
theorem none_of {H H' : Hp} {a : Addr} (e : Ex H H') (h : H' a = none) : H a = none := by
  cases z : H a with
  | none => rfl
  | some o => rw [e _ _ z] at h; cases h
theorem hid_d {H : Hp} {a d : Addr} {o : HO} {kvs : List (List Key × V)} (h : hid X H a = some o) (hd : H d = some (.dT kvs)) (ho : o ≠ .dT kvs) : hid (X.and d) H a = some o := by
  obtain ⟨h1, h2⟩ := hid_some.mp h
  refine hid_some.mpr ⟨?_, h2⟩
  rw [Hs.and_ne (fun z => by rw [z, hd] at h2; exact ho (Option.some.inj h2).symm)]
  exact h1
theorem rows_d {H : Hp} {d : Addr} {v : V} {xs : List Row} {kvs : List (List Key × V)} (h : rLst rRow K (hid X H) v xs) (hd : H d = some (.dT kvs)) : rLst rRow K (hid (X.and d) H) v xs := by
  obtain ⟨a, vs, h1, h2, h3⟩ := h
  refine ⟨a, vs, h1, ?_, Paired.mono (fun x y ⟨b, g1, g2⟩ => ⟨b, g1, hid_d g2 hd (fun z => nomatch z)⟩) h3⟩
  rcases h2 with (h2 | ⟨o, h2⟩) | h2
  · exact .inl (.inl (hid_d h2 hd (fun z => nomatch z)))
  · exact .inl (.inr ⟨o, hid_d h2 hd (fun z => nomatch z)⟩)
  · exact .inr h2
def spTable : Sp := fun vs H Q _ => ∃ p c n d0 wd m X, ∃ dv : V, vs = [.ref p, dv, .int (m : Nat)] ∧ d0 = d0 + 0 ∧ X p = true ∧ Dm X H ∧ Pen H p c n ∧ n + 600 < 1000000 ∧ rDct (default : Frag) (hid X H) dv wd ∧ OkV wd ∧ 0 < m ∧ m ≤ 3 ∧
  ∀ d t H', H d = none → OkT wd t → Off p H H' → Pen H' p c (n + 600) → H' d = some (.dT (kvsT t)) → Q (.ref d) H'
theorem ok_table (B : Bi mg) (c_law_draw : Kp P w K mg base 1 "_law_draw" ["pen", "many"] spDraw) (c_law_all_rows : Kp P w K mg base 2 "_law_all_rows" ["places", "kinds"] (spAllRows K)) (D : Dfn K mg "_law_table" sLawTable ["pen", "places", "most"]) : Kp P w K mg base 3 "_law_table" ["pen", "places", "most"] spTable :=
  D.kp fun f fd F hm b => F.ok scLawTable (fun vs H Q E ⟨p, c, n, d0, wd, m, X, dv, e, _⟩ => by rw [e]; rfl) fun cdv A outer s H vs Q E hr ⟨p, c, n, d0, wd, m, X, dv, e, _, hX, dm, hp, hz, hdv, hw, hm0, hm3, q⟩ => by
    subst e
    refine ⟨_, (pss_cons (ps_asg (pe_tup (pa_cons pe_dnewT (pa_cons (pe_lst pa_nil) (pa_cons (pe_lst (pa_cons pe_non pa_nil)) pa_nil)))) (pg_tup rfl (pgs_cons (pg_name (i := 3) scLawTable.nd rfl (.inr rfl)) (pgs_cons (pg_name (i := 4) scLawTable.nd rfl (.inl rfl)) (pgs_cons (pg_name (i := 5) scLawTable.nd rfl (.inl rfl)) pgs_nil)))))
    (pss_cons (ps_while PassesOwn.never (pt_cmpR (op_neNil (hu0 hr)) (pv 5) (pe_lst pa_nil) (nomark _)) (pss_cons (ps_setLc (i := 5) (own := [("row", 6)]) (g := gName 6) rfl scLawTable.nd rfl rfl (sw_true rfl rfl rfl (by decide +kernel)) (pi_list (pe_kp c_law_all_rows hr (by decide) (pa_cons (pv 1) (pa_cons (pv 4) pa_nil)))) (blkOk_by (N := NLawTable) (sc := defScope sLawTable) (by decide +kernel)) (fun _ _ _ _ _ => (pg_name (i := 6) scLawTable.nd rfl (.inl rfl))) (fun _ _ _ _ _ => (pts_one (pt_cmp (pc_dnotin (hu_of hr) (pv 6) (pv 3))))) (fun _ _ _ _ _ => (pv 6)))
    (pss_one (ps_for PassesOwn.never rfl (pi_list (pv 5)) (pg_name (i := 6) scLawTable.nd rfl (.inl rfl)) (pss_cons (ps_set (i := 7) scLawTable.nd rfl (.inl rfl) (pe_ifExp (pt_cmpR op_gt (pe_kp c_law_draw hr (by decide) (pa_cons (pv 0) (pa_cons pe_int pa_nil))) pe_int (nomark _)) (pe_kp c_law_draw hr (by decide) (pa_cons (pv 0) (pa_cons (pe_callB (call_min2 rfl) rfl B.min (by decide +kernel) (pa_cons (pe_op op_add (pe_callB call_len rfl B.len (by decide +kernel) (pa_cons (pv 4) pa_nil)) pe_int) (pa_cons (pv 2) pa_nil))) pa_nil))) (pe_callB (call_min2 rfl) rfl B.min (by decide +kernel) (pa_cons (pe_callB call_len rfl B.len (by decide +kernel) (pa_cons (pv 4) pa_nil)) (pa_cons (pe_op op_sub (pv 2) pe_int) pa_nil)))))
    (pss_cons (ps_dput (hu_of hr) (pv 3) (pv 6) (pv 7) rfl)
    (pss_one (ps_set (i := 4) scLawTable.nd rfl (.inl rfl) (pe_op op_catL (pv 4) (pe_op op_rep (pe_lst (pa_cons (pv 7) pa_nil)) (pe_callTy call_int1 rfl B.int (by decide +kernel) (pa_cons (pe_cmpR op_notIn_seq (pv 7) (pv 4) (by rfl)) pa_nil))))))))))))
    (pss_one (ps_ret (pv 3))))), ?_⟩
    refine sq (fun d hd => ⟨Nat.zero_le _, fun l hl => ⟨(by show 1 ≤ sizeLine; decide), fun g hg => ⟨(by show 3 ≤ sizeLine; decide), fun a ha => ⟨a, [.ref d, .ref l, .ref g], rfl, .inl (.inl upd_same), rfl, _, _, rfl, _, _, rfl, _, _, rfl, rfl, ?_⟩⟩⟩⟩)
    dsimp only
    have e1 := Evl.Ex.new (H := H) (o := .dT []) hd
    have e2 := Evl.Ex.new (o := .lst []) hl
    have e3 := Evl.Ex.new (o := .lst [.non]) hg
    have e4 := Evl.Ex.new (o := .tup [.ref d, .ref l, .ref g]) ha
    have E0 := ((e1.trans e2).trans e3).trans e4
    generalize hH0 : upd (upd (upd (upd H d (.dT [])) l (.lst [])) g (.lst [.non])) a (.tup [.ref d, .ref l, .ref g]) = H0
    rw [hH0] at E0 e4
    have gd : H0 d = some (.dT (kvsT [])) := e4 _ _ (e3 _ _ (e2 _ _ upd_same))
    have gl : H0 l = some (.lst []) := e4 _ _ (e3 _ _ upd_same)
    have gg : H0 g = some (.lst [.non]) := e4 _ _ upd_same
    have hld : l ≠ d := fun z => by rw [z, upd_same] at hl; cases hl
    have hgd : g ≠ d := fun z => by rw [z] at hg; rw [e2 _ _ upd_same] at hg; cases hg
    let X2 : Hs := X.and d
    have Xd : X d = false := dm.new hd
    have X2d : X2 d = true := Hs.and_at _ _
    have X2p : X2 p = true := by
      show (X p || decide (p = d)) = true
      rw [hX]; rfl
    have dm0 : Dm X2 H0 := Dm.and (dm.ex E0) (by rw [gd]; exact fun z => nomatch z)
    have hl0 : H l = none := none_of e1 hl
    have hg0 : H g = none := none_of (e1.trans e2) hg
    have X2l : X2 l = false := by
      show X.and d l = false
      rw [Hs.and_ne hld]; exact dm.new hl0
    have X2g : X2 g = false := by
      show X.and d g = false
      rw [Hs.and_ne hgd]; exact dm.new hg0
    have hpd : p ≠ d := fun z => hp.at (by rw [z]; exact hd)
    have hcd : c ≠ d := fun z => hp.cat (by rw [z]; exact hd)
    have hdv0 : rDct K (hid X2 H0) dv wd := (inferInstance : Mono rDct).mono (hid_and E0 hd).le hdv
    have hN : ∀ {t : Tb} {ks : List Nat} {kv : V} {H' : Hp}, TbI K X2 wd p c d n m H' t ks kv → ks.length ≤ 4 := fun h => by have := h.kfew; omega
    refine sq (st_while (fun k σ' H' => ∃ t ks ul kv lv rw' gl', k = 2 * (256 - t.length) + (if ul.length = 0 then 0 else 1) ∧ σ' = [some (.ref p), some dv, some (.int (m : Nat)), some (.ref d), some kv, some lv, rw', gl'] ∧ Off2 p d H0 H' ∧ TbI K X2 wd p c d n m H' t ks kv ∧ rLst rAny K (hid X2 H') lv (ul : List Unit) ∧ (ul.length = 0 → ∀ r ∈ allR wd ks, r ∈ t.map Prod.fst)) (2 * 256 + 1) ?_ ?_)
    · refine ⟨[], [], [()], .ref l, .ref g, none, none, rfl, rfl, Off2.refl _ _ _, ⟨gd, hp.mono E0 (Nat.le_refl _), ⟨l, [], rfl, .inl (.inl (by rw [hid_out X2l]; exact gl)), .nil⟩, .nil, fun r h => absurd h (by simp), .nil, fun k h => absurd h (by simp), fun e h => absurd h (by simp)⟩, ⟨g, [.non], rfl, .inl (.inl (by rw [hid_out X2g]; exact gg)), .cons trivial .nil⟩, fun z => nomatch z⟩
    · rintro k σ' H' ⟨t, ks, ul, kv, lv, rw', gl', rfl, rfl, off, I, hlv, hall⟩
      have dm' : Dm X2 H' := off.dm I.pen.at (by rw [I.dict]; exact fun z => nomatch z) dm0
      refine ⟨X2, !decide (ul.length = 0), dm', et_test (er_neNil (r := rAny) (xs := ul) (ys := []) (er_var (i := 5) rfl hlv) er_nil (.inr rfl)), fun H1 e1' => ?_⟩
      by_cases hul : ul.length = 0
      · rw [decide_eq_true hul, Bool.not_true, if_neg Bool.false_ne_true]
        refine ⟨.ref d, rfl, ?_⟩
        refine q d t H1 hd ⟨I.nd, I.few hw hm3, ks, hall hul, I.val, fun k hk => by have := I.klt k hk; omega⟩ (fun b o hb h => e1' _ _ (off b o hb (ne_of_none h hd) (E0 _ _ h))) (I.pen.mono e1' (by have := I.few hw hm3; omega)) (e1' _ _ I.dict)
      · rw [decide_eq_false hul, Bool.not_false, if_pos rfl]
        have hk1 : 2 * (256 - t.length) + (if ul.length = 0 then 0 else 1) = 2 * (256 - t.length) + 1 := by rw [if_neg hul]
        have I1 := I.ex e1'
        have dm1 := dm'.ex e1'
        have off1 := off.trans (Off2.ex e1')
        have hdv1 : rDct K (hid X2 H1) dv wd := (inferInstance : Mono rDct).mono (off1.hid X2p X2d).le hdv0
        refine ⟨fun σ' H' => ∃ t' ks' ul' kv' lv' rw' gl', 2 * (256 - t'.length) + (if ul'.length = 0 then 0 else 1) < 2 * (256 - t.length) + 1 ∧ σ' = [some (.ref p), some dv, some (.int (m : Nat)), some (.ref d), some kv', some lv', rw', gl'] ∧ Off2 p d H0 H' ∧ TbI K X2 wd p c d n m H' t' ks' kv' ∧ rLst rAny K (hid X2 H') lv' (ul' : List Unit) ∧ (ul'.length = 0 → ∀ r ∈ allR wd ks', r ∈ t'.map Prod.fst), ?_, ?_⟩
        · rintro σ2 H2 ⟨t', ks', ul', kv', lv', rw2, gl2, hlt, h⟩
          exact ⟨_, by rw [hk1]; exact hlt, t', ks', ul', kv', lv', rw2, gl2, rfl, h⟩
        let L : List Row := ((allR wd ks).filter fun r => !decide (r ∈ t.map Prod.fst)).map fun r => r
        have hLm : ∀ r ∈ L, r ∈ allR wd ks ∧ r ∉ t.map Prod.fst := fun r hr => by
          have : r ∈ (allR wd ks).filter fun r => !decide (r ∈ t.map Prod.fst) := by simpa [L] using hr
          obtain ⟨h1, h2⟩ := List.mem_filter.mp this
          exact ⟨h1, fun z => by rw [decide_eq_true z] at h2; cases h2⟩
        have hLn : L.Nodup := by
          show (((allR wd ks).filter fun r => !decide (r ∈ t.map Prod.fst)).map fun r => r).Nodup
          rw [List.map_id']
          exact (allR_nd hw I.knd).filter _
        have dmX : Dm X H1 := fun b hb => dm1 b (by show (X b || decide (b = d)) = true; rw [hb]; rfl)
        have hdvX : rDct K (hid X H1) dv wd := (inferInstance : Mono rDct).mono hid_sub.le hdv1
        have hkX : rLst rNat K (hid X H1) kv ks := (inferInstance : Mono (rLst rNat)).mono hid_sub.le I1.kin
        refine sq (st_set (K := K) (X := X) (r := rLst rRow) (x := L) (er_lcIf (r := rRow) (s := rRow) (xs := allR wd ks) (f := fun r => r) (p := fun r => !decide (r ∈ t.map Prod.fst)) (ei_list (er_call2 (r := rDct) (s := rLst rNat) (f := fun p : Wd × List Nat => allR p.1 p.2) (x := wd) (y := ks) (er_var (i := 1) rfl hdvX) (er_var (i := 4) rfl hkX) ⟨hw, hN I⟩)) (by have := allR_le hw (hN I); omega) (fun x hx Y v H2 e hv => et_B (er_rowNotIn (er_var (i := 6) rfl hv) (i := 3) (d := d) rfl (hid_get _ _ (e _ _ (by rw [hid_out Xd]; exact I1.dict))))) (fun x hx _ Y v H2 e hv => er_var (i := 6) rfl hv)) dmX fun fv H2 e2' hfv => ?_)
        have I2 := I1.ex e2'
        have hfv2 : rLst rRow K (hid X2 H2) fv L := rows_d hfv I2.dict
        have dm2 := dm1.ex e2'
        have off2 := off1.trans (Off2.ex e2')
        dsimp only
        refine st_forX (K := K) (X := X2) (r := rRow) (xs := L) (fun B j σ' H' => ∃ t' ks' kv' rw' gl', σ' = [some (.ref p), some dv, some (.int (m : Nat)), some (.ref d), some kv', some fv, rw', gl'] ∧ Off2 p d B H' ∧ TbI K X2 wd p c d n m H' t' ks' kv' ∧ t'.map Prod.fst = t.map Prod.fst ++ L.take j ∧ (j = 0 → t' = t ∧ ks' = ks))
          (eix_list (er_var (i := 5) rfl hfv2)) dm2 (fun B eB => ⟨t, ks, kv, _, _, rfl, Off2.refl _ _ _, I2.ex eB, by simp, fun _ => ⟨rfl, rfl⟩⟩) (fun B j σ' H' eB ⟨t', ks', kv', rw', gl', h1, h2, h3⟩ => h2.hid X2p X2d) ?_ ?_
        · rintro B j x σ' H' eB hx ⟨t', ks', kv', rw', gl', rfl, offB, I', hfst, _⟩ v H3 e3 hv
          have dm3 : Dm X2 H3 := ((offB.dm I'.pen.at (by rw [I'.dict]; exact fun z => nomatch z) (dm2.ex eB))).ex e3
          have hv' := hv X2 (Evl.Ex.trans (offB.hid X2p X2d) (hid_ex e3)) (offB.dm I'.pen.at (by rw [I'.dict]; exact fun z => nomatch z) (dm2.ex eB))
          have I3 := I'.ex e3
          have hxL : x ∈ L := List.mem_of_getElem? hx
          have hjL : j < L.length := (List.getElem?_eq_some_iff.mp hx).1
          have hxt : x ∉ t'.map Prod.fst := fun z => by
            rw [hfst] at z
            rcases List.mem_append.mp z with z | z
            · exact (hLm x hxL).2 z
            · obtain ⟨i, hi⟩ := List.getElem?_of_mem z
              rw [List.getElem?_take] at hi
              split at hi
              · rename_i hij
                have := (List.getElem?_inj (List.getElem?_eq_some_iff.mp hi).1 hLn).mp (hi.trans hx.symm)
                omega
              · cases hi
          have hlen' : t'.length ≤ 256 := I'.few hw hm3
          have hkl := I3.kfew
          refine gN ?_
          refine sq ?_
          refine join_at (fun σ2 H4 => ∃ g : Nat, g < m ∧ σ2 = [some (.ref p), some dv, some (.int (m : Nat)), some (.ref d), some kv', some fv, some v, some (.int (g : Nat))] ∧ Off p H3 H4 ∧ Pen H4 p c (n + 2 * t'.length + 2)) ?_ fun hj => ?_
          · rintro σ2 H4 ⟨g, hg', rfl, off4, pn4⟩
            have kin4 := (inferInstance : Mono (rLst rNat)).mono (off4.hid X2p).le I3.kin
            have dict4 : H4 d = some (.dT (kvsT t')) := off4 _ _ hpd.symm I3.dict
            have hrow4 : rRow K (hid X2 H4) v x := (inferInstance : Mono rRow).mono (off4.hid X2p).le hv'
            obtain ⟨ra, rfl, hra⟩ := hrow4
            refine sq ⟨_, rfl, _, rfl, _, rfl, d, _, rfl, DPut.t (k := keyR x) dict4 (by rw [hid_get _ _ hra, keyR_kV]) (by rw [kvsT, List.length_map]; exact size_lt (by omega)), ?_⟩
            rw [kvsT_put hxt]
            dsimp only
            have dm5 : Dm X2 (upd H4 d (.dT (kvsT (t' ++ [(x, g)])))) := (dm3.off' off4 pn4.at).upd'
            have kin5 : rLst rNat K (hid X2 (upd H4 d (.dT (kvsT (t' ++ [(x, g)]))))) kv' ks' := by rw [hid_upd X2d]; exact kin4
            refine st_set (K := K) (X := X2) (r := rLst rNat) (x := ks' ++ (if (!decide (g ∈ ks')) then [g] else [])) (er_catL (er_var (i := 4) rfl kin5) (er_rep1 (er_var (i := 7) (r := rNat) rfl rfl) (er_intB (er_natNotIn (er_var (i := 7) (r := rNat) rfl rfl) (er_var (i := 4) rfl kin5)))) (by split <;> simp <;> omega)) dm5 fun y H6 e6 hy => ?_
            have hold : ∀ k ∈ ks', k ∈ ks' ++ (if (!decide (g ∈ ks')) then [g] else []) := fun k hk => List.mem_append_left _ hk
            have hgin : g ∈ ks' ++ (if (!decide (g ∈ ks')) then [g] else []) := by
              by_cases hgk : g ∈ ks'
              · exact hold g hgk
              · rw [decide_eq_false hgk]; simp
            refine ⟨t' ++ [(x, g)], _, y, _, _, rfl, ((offB.trans (Off2.ex e3)).trans (Off2.off off4)).trans (Off2.upd.trans (Off2.ex e6)), ⟨e6 _ _ upd_same, ?_, hy, ?_, ?_, ?_, ?_, ?_⟩, ?_, fun z => nomatch z⟩
            · exact (pn4.upd hpd hcd).mono e6 (by rw [List.length_append]; simp; omega)
            · rw [List.map_append]
              exact List.nodup_append.mpr ⟨I'.nd, by simp, fun a ha b hb z => by
                rw [List.map_cons, List.map_nil, List.mem_singleton] at hb
                exact hxt (by rw [← show b = x from hb, ← z]; exact ha)⟩
            · intro r hr
              rw [List.map_append] at hr
              rcases List.mem_append.mp hr with hr | hr
              · exact I'.sub r hr
              · rw [List.map_cons, List.map_nil, List.mem_singleton] at hr
                rw [hr]
                exact allR_sub hw (fun k hk => List.mem_range.mpr (I.klt k hk)) x (hLm x hxL).1
            · by_cases hgk : g ∈ ks'
              · rw [decide_eq_true hgk]; simpa using I'.knd
              · rw [decide_eq_false hgk]
                refine List.nodup_append.mpr ⟨I'.knd, by simp, fun a ha b hb z => ?_⟩
                simp at hb
                exact hgk (by rw [← hb, ← z]; exact ha)
            · intro k hk
              rcases List.mem_append.mp hk with hk | hk
              · exact I'.klt k hk
              · split at hk
                · rw [List.mem_singleton.mp hk]; exact hg'
                · simp at hk
            · intro e he
              rcases List.mem_append.mp he with he | he
              · exact hold _ (I'.val e he)
              · rw [List.mem_singleton.mp he]; exact hgin
            · rw [List.map_append, hfst, List.append_assoc, List.take_add_one, hx]; rfl
          · unfold tAsg tIf tTest tOp
            refine run_draw (K := K) (X := X2) (i := 0) rfl er_int dm3 I3.pen (by omega) (by decide) (by decide) fun u H4 u0 u1 off4 pn4 => ?_
            refine ⟨_, _, rfl, rfl, _, rfl, ?_⟩
            have dm4 : Dm X2 H4 := dm3.off' off4 pn4.at
            have kin4 := (inferInstance : Mono (rLst rNat)).mono (off4.hid X2p).le I3.kin
            have elen : Er K X2 (tCB (rLn K) (tCons (tVar 4) tNil)) [some (.ref p), some dv, some (.int (m : Nat)), some (.ref d), some kv', some fv, some v, gl'] H4 rInt (ks'.length : Int) := er_lenL (er_var (i := 4) rfl kin4)
            dsimp only
            split
            · refine run_draw (K := K) (X := X2) (i := 0) (m := if (m : Int) < (ks'.length : Int) + 1 then (m : Int) else (ks'.length : Int) + 1) rfl (er_min2 (er_op0 (g := fun i j => i + j) elen er_int) (er_var (i := 2) rfl rfl)) dm4 pn4 (by omega) (by split <;> omega) (by split <;> omega) fun g H5 g0 g1 off5 pn5 => ?_
              obtain ⟨k, rfl⟩ : ∃ k : Nat, g = k := ⟨g.toNat, by omega⟩
              exact hj _ _ ⟨k, by split at g1 <;> omega, rfl, off4.trans off5, pn5⟩
            · refine (er_min2 elen (er_op0 (g := fun i j => i - j) (er_var (i := 2) (r := rInt) (x := (m : Int)) rfl rfl) er_int)).go dm4 fun w H5 e5 hw5 => ?_
              obtain ⟨k, hk⟩ : ∃ k : Nat, (if (m : Int) - 1 < (ks'.length : Int) then (m : Int) - 1 else (ks'.length : Int)) = k := ⟨(if (m : Int) - 1 < (ks'.length : Int) then (m : Int) - 1 else (ks'.length : Int)).toNat, by split <;> omega⟩
              rw [show w = V.int (k : Nat) from by rw [← hk]; exact hw5]
              exact hj _ _ ⟨k, by split at hk <;> omega, rfl, off4.trans (Off.ex e5), pn4.mono e5 (by omega)⟩
        · rintro B σ' H' eB ⟨t', ks', kv', rw', gl', rfl, offB, I', hfst, h0⟩
          rw [List.take_length] at hfst
          have hlen : t'.length = t.length + L.length := by
            have := congrArg List.length hfst
            rw [List.length_map, List.length_append, List.length_map] at this
            exact this
          have hl256 := I'.few hw hm3
          refine ⟨t', ks', L.map fun _ => (), kv', fv, rw', gl', ?_, rfl, (off2.trans (Off2.ex eB)).trans offB, I', rLst_any ((inferInstance : Mono (rLst rRow)).mono (Evl.Ex.trans (hid_ex eB) (offB.hid X2p X2d)).le hfv2), fun hz r hr => ?_⟩
          · rw [List.length_map]
            split <;> omega
          · rw [List.length_map] at hz
            obtain ⟨rfl, rfl⟩ := h0 hz
            by_cases hin : r ∈ t'.map Prod.fst
            · exact hin
            · have : r ∈ L := by
                show r ∈ ((allR wd ks').filter fun r => !decide (r ∈ t'.map Prod.fst)).map fun r => r
                rw [List.map_id']
                exact List.mem_filter.mpr ⟨hr, by rw [decide_eq_false hin]; rfl⟩
              rw [List.length_eq_zero_iff.mp hz] at this
              cases this
end
end Q
set_option maxHeartbeats 8000000
/-! F40: the law's own sizes, orders and texts. -/
namespace Q
open PySem PySem.Spec PyProof.Rows L2
def srtW (wd : Wd) : Wd := (srtTx (wd.map Prod.fst)).map fun x => (x, (lk wd x).getD 0)
theorem lk_map {wd : Wd} (h : (wd.map Prod.fst).Nodup) : (wd.map Prod.fst).map (fun x => (x, (lk wd x).getD 0)) = wd := by
  rw [List.map_map]
  refine (List.map_congr_left (g := id) fun x hx => ?_).trans (List.map_id _)
  show (x.1, (lk wd x.1).getD 0) = x
  rw [lk_of h (m := x.2) hx]
  rfl
theorem srtW_perm {wd : Wd} (h : (wd.map Prod.fst).Nodup) : (srtW wd).Perm wd := by
  have := (srtTx_perm (wd.map Prod.fst)).map fun x => (x, (lk wd x).getD 0)
  rw [lk_map h] at this
  exact this
theorem srtW_fst (wd : Wd) : (srtW wd).map Prod.fst = srtTx (wd.map Prod.fst) := by
  unfold srtW
  rw [List.map_map]
  exact List.map_id _
theorem OkV.okW {wd : Wd} (h : OkV wd) : OkW (srtW wd) := by
  have hp := srtW_perm h.nd
  exact ⟨by rw [hp.length_eq]; have := h.few; omega, (hp.map _).nodup_iff.mpr h.nd, fun p hp' => h.good p (hp.mem_iff.mp hp')⟩
section
variable {P : Program} {w : World} {K : Frag} {mg : Str → Option Value} {base : Heap} {X : Hs} {σ : L2.St} {H : Hp} {te ta tb ti td : TE} {α β γ : Type} {r : Rel α} {s : Rel β} {D : Ends}
abbrev NLawSize : List Str := ["term", "part"]
theorem scLawSize : FnScope NLawSize ["term"] (defScope sLawSize) := ⟨rfl, rfl, rfl, by decide +kernel, rfl, by decide +kernel, by decide +kernel⟩
theorem ok_lawSize (B : Bi mg) (D : Dfn K mg "_law_size" sLawSize ["term"]) : ∀ n, Kp P w K mg base (n + 1) "_law_size" ["term"] (spSize K n)
  | 0 => D.kp fun f fd F hm b => F.ok scLawSize len1 fun cdv A outer s H vs Q E hr ⟨t, X, _, ⟨v, e, h, hd, _⟩, _⟩ => by
      cases t with
      | nd a ps => unfold Tm.deep at hd; omega
  | n + 1 => D.kp fun f fd F hm b => F.ok scLawSize len1 fun cdv A outer s H vs Q E hr ⟨t, X, dm, ⟨v, e, h, hd, hz⟩, q⟩ => by
      subst e
      have c_law_size := ok_lawSize B D n
      refine ⟨_, (pss_one (ps_ret (pe_op op_add pe_int (pe_callB (cr_sum rfl) rfl B.sum (by decide +kernel) (pa_cons (pe_lc (own := [("part", 1)]) (g := gName 1) (tt := tYes) rfl scLawSize.nd (pi_tup (pe_slice sl_tupA (pv 0) (po_some pe_int) po_none)) (blkOk_by (N := NLawSize) (sc := defScope sLawSize) (by decide +kernel)) (fun _ _ _ _ _ => (pg_name (i := 1) scLawSize.nd rfl (.inl rfl))) (fun _ _ _ _ _ => pts_nil) (fun _ _ _ _ _ => (pe_kp c_law_size hr (by omega) (pa_cons (pv 1) pa_nil)))) pa_nil))))), ?_⟩
      cases t with
      | nd a ps =>
        have hd' : Tm.deeps ps ≤ n := by unfold Tm.deep at hd; omega
        have hz' : Tm.sizes ps ≤ bigT := by unfold Tm.size at hz; omega
        have e : ((Tm.size (.nd a ps) : Nat) : Int) = 1 + (ps.map fun p => ((p.size : Nat) : Int)).sum := by
          rw [Tm.sizes_sum]; unfold Tm.size; omega
        refine ret_of (K := K) (X := X) (r := rInt) (x := ((Tm.size (.nd a ps) : Nat) : Int)) ?_ dm q
        refine Er.is ?_ e.symm
        refine er_op0 er_int (er_sum (er_lc (r := rTm) (s := rInt) (xs := ps) (f := fun p => ((p.size : Nat) : Int)) (ei_tup (er_tail (t := .nd a ps) (er_var rfl h) er_int)) ?_ fun d hm Y v' H' e' hv => er_call1 (r := rTm) (x := d) (er_var rfl hv) ⟨Tm.deeps_le hd' d hm, ?_⟩))
        · have := Tm.len_sizes ps
          unfold bigT at hz'
          omega
        · exact Nat.le_trans (Tm.size_mem hm) hz'
abbrev NLawOrdered : List Str := ["terms", "pairs", "term", "at"]
theorem scLawOrdered : FnScope NLawOrdered ["terms"] (defScope sLawOrdered) := ⟨rfl, rfl, rfl, by decide +kernel, rfl, by decide +kernel, by decide +kernel⟩
theorem ok_lawOrdered {n : Nat} (hn : n ≤ 60) (B : Bi mg) (c_law_size : Kp P w K mg base (n + 1) "_law_size" ["term"] (spSize K n)) (D : Dfn K mg "_law_ordered" sLawOrdered ["terms"]) : Kp P w K mg base (n + 2) "_law_ordered" ["terms"] (spAsc K n) :=
  D.kp fun f fd F hm b => F.ok scLawOrdered len1 fun cdv A outer s H vs Q E hr ⟨ts, X, dm, ⟨v, e, h, hz, hp⟩, q⟩ => by
    subst e
    refine ⟨_, (pss_cons (ps_set (i := 1) scLawOrdered.nd rfl (.inr rfl) (pe_callB (cr_sortT (hu65 hr)) rfl B.sorted (by decide +kernel) (pa_cons (pe_lc (own := [("term", 2)]) (g := gName 2) (tt := tYes) rfl scLawOrdered.nd (pi_list (pv 0)) (blkOk_by (N := NLawOrdered) (sc := defScope sLawOrdered) (by decide +kernel)) (fun _ _ _ _ _ => (pg_name (i := 2) scLawOrdered.nd rfl (.inl rfl))) (fun _ _ _ _ _ => pts_nil) (fun _ _ _ _ _ => (pe_tup (pa_cons (pe_kp c_law_size hr (by omega) (pa_cons (pv 2) pa_nil)) (pa_cons (pv 2) pa_nil))))) pa_nil)))
    (pss_one (ps_ret (pe_lc (own := [("at", 3)]) (g := gName 3) (te := tOp (rIxT K) (tOp (rIxL K) (tVar 1) (tVar 3)) (tC (.int 1))) (tt := tOr (tTest (tOp rEq (tVar 3) (tC (.int 0)))) (tTest (tOp (rNeD K) (tOp (rIxL K) (tVar 1) (tVar 3)) (tOp (rIxL K) (tVar 1) (tOp (rI0 fun i j => .int (i - j)) (tVar 3) (tC (.int 1))))))) rfl scLawOrdered.nd (pi_range1 (by rfl) B.range (pa_cons (pe_callB call_len rfl B.len (by decide +kernel) (pa_cons (pv 1) pa_nil)) pa_nil)) (blkOk_by (N := NLawOrdered) (sc := defScope sLawOrdered) (by decide +kernel)) (fun _ _ _ _ _ => (pg_name (i := 3) scLawOrdered.nd rfl (.inl rfl))) (fun _ _ _ _ _ => (pts_one (PW.pt (pw_or (pt_cmpR op_eq (pv 3) pe_int (nomark _)) (pw_or1 (pt_cmpR (op_neD hr.units) (pe_ix ix_list (pv 1) (pv 3) (fun _ _ => rfl)) (pe_ix ix_list (pv 1) (pe_op op_sub (pv 3) pe_int) (fun _ _ => rfl)) (nomark _))))))) (fun _ _ _ _ _ => (pe_ix ix_tup (pe_ix ix_list (pv 1) (pv 3) (fun _ _ => rfl)) pe_int (fun _ _ => rfl))))))), ?_⟩
    refine sq (st_set (K := K) (X := X) (r := rLst (rPr rInt rTm)) (x := (ts.map sz).mergeSort tle) (er_sortT (er_lc (r := rTm) (s := rPr rInt rTm) (f := sz) (ei_list (er_var rfl h)) hz fun t ht Y v' H' e' hv => er_pr (er_call1 (r := rTm) (f := fun t => ((t.size : Nat) : Int)) (x := t) (er_var rfl hv) ⟨(hp t ht).1, (hp t ht).2.1⟩) (er_var rfl hv)) ?_) dm fun v2 H2 e2 hv2 => ?_)
    · intro p hp'
      obtain ⟨t, ht, rfl⟩ := List.mem_map.mp hp'
      exact Nat.le_trans (hp t ht).1 hn
    have dm2 := dm.ex e2
    have hks : ∀ p ∈ (ts.map sz).mergeSort tle, p.2.fit = true ∧ p.2.deep ≤ 60 := fun p hp' => by
      obtain ⟨t, ht, rfl⟩ := List.mem_map.mp ((List.mergeSort_perm _ _).mem_iff.mp hp')
      exact ⟨(hp t ht).2.2, Nat.le_trans (hp t ht).1 hn⟩
    have hkl : ((ts.map sz).mergeSort tle).length = ts.length := by rw [(List.mergeSort_perm _ _).length_eq, List.length_map]
    have has := asc_eq ts
    generalize hks' : (ts.map sz).mergeSort tle = ks at hv2 hks hkl has
    dsimp only
    let pr : Int → Int × Pt := fun j => (j, (ks[j.toNat]?).getD (0, .nd [] []))
    have hzip : ((List.range ks.length).map fun j => ((j : Nat) : Int)).zip ks = ((List.range ks.length).map fun j => ((j : Nat) : Int)).map pr := by
      refine List.ext_getElem? fun i => ?_
      by_cases hi : i < ks.length
      · rw [List.getElem?_map, getElem?_range hi]
        rw [List.getElem?_zip_eq_some (z := (((i : Nat) : Int), ks[i])) |>.mpr ⟨getElem?_range hi, List.getElem?_eq_getElem hi⟩]
        show some _ = some (((i : Nat) : Int), (ks[((i : Nat) : Int).toNat]?).getD _)
        rw [Int.toNat_natCast, List.getElem?_eq_getElem hi]
        rfl
      · rw [List.getElem?_eq_none (by simp; omega), List.getElem?_eq_none (by simp; omega)]
    refine ret_of (K := K) (X := X) (r := rLst rTm) (x := asc ts) ?_ dm2 fun v' H' e' hv => q v' H' (e2.trans e') hv
    have hmemi : ∀ d ∈ (List.range ks.length).map fun j => ((j : Nat) : Int), ∃ i : Nat, ∃ k, i < ks.length ∧ d = (i : Nat) ∧ ks[i]? = some k ∧ pr d = (d, k) := fun d hd => by
      obtain ⟨i, hi, rfl⟩ := List.mem_map.mp hd
      have hi := List.mem_range.mp hi
      refine ⟨i, ks[i], hi, rfl, List.getElem?_eq_getElem hi, ?_⟩
      show (_, (ks[((i : Nat) : Int).toNat]?).getD _) = _
      rw [Int.toNat_natCast, List.getElem?_eq_getElem hi]
      rfl
    have mP := (inferInstance : Mono (rLst (rPr rInt rTm)))
    refine Er.is (er_lcIf (r := rInt) (s := rTm) (xs := (List.range ks.length).map fun j => ((j : Nat) : Int)) (f := fun j => (pr j).2.2) (p := fun j => first ks (pr j)) (ei_range1 (by omega) (er_lenL (er_var (i := 1) rfl hv2))) ?_ ?_ ?_) ?_
    · rw [List.length_map, List.length_range, hkl]; exact hz
    · intro d hd Y v3 H3 e3 hv3
      obtain ⟨i, k, hi, rfl, hik, hpr⟩ := hmemi d hd
      rw [hpr]
      unfold first
      refine et_or (et_test (er_eqI (K := K) (er_var (i := 3) rfl hv3) er_int)) fun h0 => ?_
      have h0' : ¬ ((i : Nat) : Int) = 0 := of_decide_eq_false h0
      obtain ⟨k', hk'⟩ : ∃ k', ks[i - 1]? = some k' := ⟨_, List.getElem?_eq_getElem (by omega)⟩
      refine et_test (Er.is (er_nePt (K := K) (a := k) (b := k') (er_ixL (i := i) (er_var (i := 1) rfl (mP.mono e3.le hv2)) (er_var (i := 3) rfl hv3) hik) (er_ixL (i := i - 1) (er_var (i := 1) rfl (mP.mono e3.le hv2)) (Er.is (er_op0 (g := fun i j => i - j) (er_var (i := 3) rfl hv3) er_int) ?_) hk') (hks k (List.mem_of_getElem? hik)) (hks k' (List.mem_of_getElem? hk'))) ?_)
      · omega
      · rw [show (((i : Nat) : Int) - 1).toNat = i - 1 by omega, hk']
        rcases Classical.em (k = k') with hkk | hkk
        · subst hkk; simp
        · have hkk2 : ¬ k' = k := fun z => hkk z.symm
          simp [hkk, hkk2]
    · intro d hd _ Y v3 H3 e3 hv3
      obtain ⟨i, k, hi, rfl, hik, hpr⟩ := hmemi d hd
      rw [hpr]
      exact er_snd (r := rInt) (s := rTm) (p := k) (er_ixL (i := i) (er_var (i := 1) rfl (mP.mono e3.le hv2)) (er_var (i := 3) rfl hv3) hik) er_int
    · rw [← has, hzip, List.filter_map (f := pr), List.map_map]
      rfl
abbrev NLawTermText : List Str := ["term", "part"]
theorem scLawTermText : FnScope NLawTermText ["term"] (defScope sLawTermText) := ⟨rfl, rfl, rfl, by decide +kernel, rfl, by decide +kernel, by decide +kernel⟩
abbrev spLawTermText (K : Frag) (n : Nat) : Sp := SpF (A1 rTm fun t => t.deep ≤ n ∧ t.size ≤ 200 ∧ t.named) K rTx Tm.text
theorem named_mem : ∀ {ps : List Tm} {p : Tm}, Tm.nameds ps → p ∈ ps → p.named
  | q :: ps, p, h, hp => by
    unfold Tm.nameds at h
    rcases List.mem_cons.mp hp with rfl | hp
    · exact h.1
    · exact named_mem h.2 hp
theorem ok_lawTermText (B : Bi mg) (D : Dfn K mg "_law_term_text" sLawTermText ["term"]) : ∀ n, Kp P w K mg base (n + 1) "_law_term_text" ["term"] (spLawTermText K n)
  | 0 => D.kp fun f fd F hm b => F.ok scLawTermText len1 fun cdv A outer s H vs Q E hr ⟨t, X, dm, ⟨v, e, h, hd, _⟩, _⟩ => by
      cases t with
      | nd a ps =>
        have hd' : (Tm.nd a ps).deep ≤ 0 := hd
        unfold Tm.deep at hd'
        omega
  | n + 1 => D.kp fun f fd F hm b => F.ok scLawTermText len1 fun cdv A outer s H vs Q E hr ⟨t, X, dm, ⟨v, e, h, hd, hz, hw⟩, q⟩ => by
      subst e
      have c_law_term_text := ok_lawTermText B D n
      refine ⟨_, (pss_one (ps_ret (pe_ifExp (pt_cmpR op_eq (pe_callB call_len rfl B.len (by decide +kernel) (pa_cons (pv 0) pa_nil)) pe_int (nomark _)) (pe_ix ix_tup (pv 0) pe_int (fun _ _ => rfl)) (pe_op op_add_str (pe_op op_add_str (pe_op op_add_str (pe_ix ix_tup (pv 0) pe_int (fun _ _ => rfl)) pe_str) (pe_join pe_str (pe_lc (own := [("part", 1)]) (g := gName 1) (tt := tYes) rfl scLawTermText.nd (pi_tup (pe_slice sl_tupA (pv 0) (po_some pe_int) po_none)) (blkOk_by (N := NLawTermText) (sc := defScope sLawTermText) (by decide +kernel)) (fun _ _ _ _ _ => (pg_name (i := 1) scLawTermText.nd rfl (.inl rfl))) (fun _ _ _ _ _ => pts_nil) (fun _ _ _ _ _ => (pe_kp c_law_term_text hr (by omega) (pa_cons (pv 1) pa_nil)))))) pe_str)))), ?_⟩
      cases t with
      | nd a ps =>
      have hd' : Tm.deeps ps ≤ n := by have hd : (Tm.nd a ps).deep ≤ n + 1 := hd; unfold Tm.deep at hd; omega
      have hz0 : (Tm.nd a ps).size ≤ 200 := hz
      have hz' : Tm.sizes ps ≤ 200 := by unfold Tm.size at hz0; omega
      have hnm : isName a = true ∧ Tm.nameds ps := by have hw : (Tm.nd a ps).named := hw; unfold Tm.named at hw; exact hw
      have hw8 : Tm.w8s ps := Tm.w8s_named ps hnm.2
      have ha8 := isName_8 hnm.1
      have hlen := Tm.texts_len ps hw8
      have hjl := join_len [44] (Tm.texts ps)
      have hps := Tm.len_sizes ps
      simp only [List.length_singleton] at hjl
      have hto : (Tm.texts ps).length = ps.length := by rw [Tm.texts_map, List.length_map]
      refine ret_of (K := K) (X := X) (r := rTx) (x := (Tm.nd a ps).text) ?_ dm q
      refine er_if (b := decide (((ps.length + 1 : Nat) : Int) = 1)) (et_test (er_eqI (K := K) (er_lenTm (t := .nd a ps) (er_var rfl h)) er_int)) (fun hb => ?_) fun hb => ?_
      · refine Er.is (er_head (t := .nd a ps) (er_var rfl h) er_int) ?_
        have hp0 : ps = [] := List.length_eq_zero_iff.mp (by have := of_decide_eq_true hb; omega)
        subst hp0
        unfold Tm.text
        rw [if_pos (by rw [Tm.texts]; rfl)]
        rfl
      · have hpn : ps ≠ [] := fun z => by rw [z] at hb; exact absurd hb (by decide)
        have hj : Er K X (tM1 (rJn K) (tC (.str ",")) (tLc (iTup K (tSl (rSlA K) (tVar 0) (tPart (tC (.int 1))) tNoPart)) (gName 1) tYes (tCall (spLawTermText K n) [] E0 (tCons (tVar 1) tNil)) [1])) (L2.start NLawTermText [v]) H rTx (TL.joinL [44] (Tm.texts ps)) := er_join (er_tx (by decide +kernel)) (by
          rw [Tm.texts_map]
          exact er_lc (r := rTm) (s := rTx) (xs := ps) (f := Tm.text) (ei_tup (er_tail (t := .nd a ps) (er_var rfl h) er_int)) (by omega) fun d hm Y v' H' e' hv => er_call1 (r := rTm) (f := Tm.text) (x := d) (er_var rfl hv) ⟨Tm.deeps_le hd' d hm, Nat.le_trans (Tm.size_mem hm) hz', named_mem hnm.2 hm⟩) (by rw [List.length_singleton]; omega)
        have ha0 : a.length ≤ 8 := ha8
        refine Er.is (er_catX (er_catX (er_catX (er_head (t := .nd a ps) (er_var rfl h) er_int) (er_tx (i := [40]) (by decide +kernel)) ?_) hj ?_) (er_tx (i := [41]) (by decide +kernel)) ?_) ?_
        · show a.length + 1 < _; omega
        · rw [List.length_append]; show a.length + 1 + _ < _; omega
        · rw [List.length_append, List.length_append]; show a.length + 1 + _ + 1 < _; omega
        · rw [text_par hnm.2 hpn, Tm.texts_map]
          show (a ++ [40] ++ _) ++ [41] = _
          simp
abbrev NLawWordsText : List Str := ["places", "name"]
theorem scLawWordsText : FnScope NLawWordsText ["places"] (defScope sLawWordsText) := ⟨rfl, rfl, rfl, by decide +kernel, rfl, by decide +kernel, by decide +kernel⟩
abbrev spLawWordsText (K : Frag) : Sp := SpF (A1 rDct OkV) K rTx fun wd => wordsT (srtW wd)
theorem ok_lawWordsText (B : Bi mg) (D : Dfn K mg "_law_words_text" sLawWordsText ["places"]) : Kp P w K mg base 1 "_law_words_text" ["places"] (spLawWordsText K) :=
  D.kp fun f fd F hm b => F.ok scLawWordsText len1 fun cdv A outer s H vs Q E hr ⟨wd, X, dm, ⟨v, e, h, ok⟩, q⟩ => by
    subst e
    refine ⟨_, (pss_one (ps_ret (pe_join pe_str (pe_lc (own := [("name", 1)]) (g := gName 1) (tt := tYes) rfl scLawWordsText.nd (pi_list (pe_callB cr_sortedS rfl B.sorted (by decide +kernel) (pa_cons (pe_callTy (call_listD rfl) rfl B.list (by decide +kernel) (pa_cons (pv 0) pa_nil)) pa_nil))) (blkOk_by (N := NLawWordsText) (sc := defScope sLawWordsText) (by decide +kernel)) (fun _ _ _ _ _ => (pg_name (i := 1) scLawWordsText.nd rfl (.inl rfl))) (fun _ _ _ _ _ => pts_nil) (fun _ _ _ _ _ => (pe_op op_add_str (pe_op op_add_str (pv 1) pe_str) (pe_callTy call_str_int rfl B.str (by decide +kernel) (pa_cons (pe_dget (hu_of hr) (pv 0) (pv 1) (fun _ _ => rfl)) pa_nil)))))))), ?_⟩
    have hw := ok.okW
    have hsum := words_sum hw
    have hfew := hw.few
    have mD := (inferInstance : Mono rDct)
    refine ret_of (K := K) (X := X) (r := rTx) (x := wordsT (srtW wd)) ?_ dm q
    have hl4 : (wd.map Prod.fst).length ≤ 4 := by rw [List.length_map]; exact ok.few
    refine er_join (sep := [32]) (xs := (srtW wd).map wordT) (er_tx (by decide +kernel)) (Er.is (er_lc (r := rTx) (s := rTx) (xs := srtTx (wd.map Prod.fst)) (f := fun n => wordT (n, (lk wd n).getD 0)) (ei_list (er_srt (er_listD (er_var rfl h)) (by omega))) (by rw [(srtTx_perm _).length_eq]; omega) fun n hn Y v' H' e' hv => ?_) ?_) (by
      rw [List.length_map, List.length_singleton]
      omega)
    · obtain ⟨p, hp, rfl⟩ := List.mem_map.mp ((srtTx_perm _).mem_iff.mp hn)
      have hl : lk wd p.1 = some p.2 := lk_of ok.nd hp
      obtain ⟨g1, g2⟩ := ok.good p hp
      have hz := wordT_len (p := p) ⟨g1, g2⟩
      have h' := mD.mono e'.le h
      unfold wordT at hz
      rw [List.length_append, List.length_cons] at hz
      refine Er.is (er_catX (er_catX (er_var (i := 1) rfl hv) (er_tx (i := [47]) (by decide +kernel)) (by rw [List.length_singleton]; omega)) (er_strI (n := p.2) (er_dget (w := wd) (er_var (i := 0) rfl h') (er_var (i := 1) rfl hv) hl) (by omega)) ?_) ?_
      · rw [List.length_append, List.length_singleton]; omega
      · rw [hl]
        show _ = wordT (p.1, p.2)
        simp [wordT]
    · unfold srtW
      rw [List.map_map]
      rfl
abbrev NLawLotText : List Str := ["places", "lot", "term", "answer"]
theorem scLawLotText : FnScope NLawLotText ["places", "lot"] (defScope sLawLotText) := ⟨rfl, rfl, rfl, by decide +kernel, rfl, by decide +kernel, by decide +kernel⟩
abbrev spLawLotText (K : Frag) : Sp := SpF (A2 rDct (rLst (rPr rTm rBl)) fun wd l => OkV wd ∧ l.length < 100 ∧ ∀ x ∈ l, x.1.deep ≤ 60 ∧ x.1.size ≤ 200 ∧ x.1.named) K rTx fun p => lotT (srtW p.1, p.2)
theorem ok_lawLotText (c_law_words_text : Kp P w K mg base 1 "_law_words_text" ["places"] (spLawWordsText K)) (c_law_term_text : Kp P w K mg base 61 "_law_term_text" ["term"] (spLawTermText K 60)) (D : Dfn K mg "_law_lot_text" sLawLotText ["places", "lot"]) : Kp P w K mg base 62 "_law_lot_text" ["places", "lot"] (spLawLotText K) :=
  D.kp fun f fd F hm b => F.ok scLawLotText len2 fun cdv A outer s H vs Q E hr ⟨⟨wd, l⟩, X, dm, ⟨dv, lv, e, hd, hl, ok, hfew, hok⟩, q⟩ => by
    subst e
    have ok : OkV wd := ok
    have hfew : l.length < 100 := hfew
    refine ⟨_, (pss_one (ps_ret (pe_join pe_str (pe_op op_catL (pe_lst (pa_cons (pe_op op_add_str pe_str (pe_kp c_law_words_text hr (by decide) (pa_cons (pv 0) pa_nil))) pa_nil)) (pe_lc (own := [("term", 2), ("answer", 3)]) (g := gTup K 2 (gCons (gName 2) (gCons (gName 3) gNil))) (tt := tYes) rfl scLawLotText.nd (pi_list (pv 1)) (blkOk_by (N := NLawLotText) (sc := defScope sLawLotText) (by decide +kernel)) (fun _ _ _ _ _ => (pg_tup rfl (pgs_cons (pg_name (i := 2) scLawLotText.nd rfl (.inl rfl)) (pgs_cons (pg_name (i := 3) scLawLotText.nd rfl (.inl rfl)) pgs_nil)))) (fun _ _ _ _ _ => pts_nil) (fun _ _ _ _ _ => (pe_op op_add_str (pe_ifExp (pt_val (pv 3)) pe_str pe_str) (pe_kp c_law_term_text hr (by decide) (pa_cons (pv 2) pa_nil))))))))), ?_⟩
    have hw := wordsT_len ok.okW
    have hal : ∀ x ∈ l, (answerT x).length ≤ 2210 := fun x hx => answer_len ⟨(hok x hx).2.1, Tm.w8_named _ (hok x hx).2.2⟩
    have hsum := sum_le (l := l.map answerT) (n := 2210) fun x hx => by
      obtain ⟨d, hd, rfl⟩ := List.mem_map.mp hx
      exact hal d hd
    rw [List.length_map] at hsum
    refine ret_of (K := K) (X := X) (r := rTx) (x := lotT (srtW wd, l)) ?_ dm q
    refine er_join (sep := [10]) (xs := [wordsL ++ wordsT (srtW wd)] ++ l.map answerT) (er_tx (by decide +kernel)) (er_catL (er_lst1 (er_catX (x := wordsL) (er_tx (by decide +kernel)) (er_call1 (r := rDct) (f := fun wd => wordsT (srtW wd)) (x := wd) (er_var (i := 0) rfl hd) ok) ?_)) (er_lcP (r := rTm) (s := rBl) (t := rTx) (f := answerT) (by decide) (ei_list (er_var (i := 1) rfl hl)) (by omega) fun d hdm Y v1 v2 H' e' hv1 hv2 => ?_) ?_) ?_
    · show 6 + _ < _; omega
    · have := hal d hdm
      have h1 := text_lt (hok d hdm).2.1 (Tm.w8_named _ (hok d hdm).2.2)
      refine Er.is (er_catX (x := if d.2 then yesL ++ [32] else noL ++ [32]) (er_if (b := d.2) (et_B (er_var (i := 3) rfl hv2)) (fun hb => Er.is (er_tx (i := yesL ++ [32]) (by decide +kernel)) (by rw [hb]; rfl)) fun hb => Er.is (er_tx (i := noL ++ [32]) (by decide +kernel)) (by rw [hb]; rfl)) (er_call1 (r := rTm) (f := Tm.text) (x := d.1) (er_var (i := 2) rfl hv1) (hok d hdm)) ?_) ?_
      · have : (if d.2 = true then yesL ++ [32] else noL ++ [32]).length ≤ 4 := by cases d.2 <;> decide
        omega
      · unfold answerT
        cases d.2 <;> simp
    · rw [List.length_map, List.length_singleton]; omega
    · rw [List.map_append, List.sum_append, List.length_append, List.length_map, List.length_singleton, List.length_singleton]
      show (wordsL ++ wordsT (srtW wd)).length + 0 + _ + _ < _
      rw [List.length_append]
      show 6 + _ + 0 + _ + _ < _
      omega

end
end Q
set_option maxHeartbeats 8000000
/-! F41: the law's own text of rules. -/
namespace Q
open PySem PySem.Spec PyProof.Rows L2
section
variable {P : Program} {w : World} {K : Frag} {mg : Str → Option Value} {base : Heap} {X : Hs} {σ : L2.St} {H : Hp} {te ta tb ti td : TE} {α β γ : Type} {r : Rel α} {s : Rel β} {D : Ends}
theorem Off.exN {o : Addr} {H H' : Hp} (h : Off o H H') (hn : H o = none) : Ex H H' := fun b x hb => h b x (fun z => by rw [z, hn] at hb; cases hb) hb
abbrev NLawRulesText : List Str := ["places", "rows", "lines", "trait", "name", "wants", "lot"]
theorem scLawRulesText : FnScope NLawRulesText ["places", "rows"] (defScope sLawRulesText) := ⟨rfl, rfl, rfl, by decide +kernel, rfl, by decide +kernel, by decide +kernel⟩
abbrev spLawRulesText (K : Frag) : Sp := SpF (A2 rDct (rLst rRu) fun wd l => OkV wd ∧ l.length ≤ 40 ∧ ∀ x ∈ l, OkRu (srtW wd) x) K rTx fun p => rulesT (srtW p.1, p.2)
theorem ok_lawRulesText (c_law_words_text : Kp P w K mg base 1 "_law_words_text" ["places"] (spLawWordsText K)) (D : Dfn K mg "_law_rules_text" sLawRulesText ["places", "rows"]) : Kp P w K mg base 2 "_law_rules_text" ["places", "rows"] (spLawRulesText K) :=
  D.kp fun f fd F hm b => F.ok scLawRulesText len2 fun cdv A outer s H vs Q E hr ⟨⟨wd, l⟩, X, dm, ⟨dv, lv, e, hd, hl, ok, hfew, hok⟩, q⟩ => by
    subst e
    have ok : OkV wd := ok
    have hfew : l.length ≤ 40 := hfew
    refine ⟨_, (pss_cons (ps_set (i := 2) scLawRulesText.nd rfl (.inl rfl) (pe_lst (pa_cons (pe_op op_add_str pe_str (pe_kp c_law_words_text hr (by decide) (pa_cons (pv 0) pa_nil))) pa_nil)))
    (pss_cons (ps_for PassesOwn.never rfl (pi_list (pv 1)) (pg_tup rfl (pgs_cons (pg_name (i := 3) scLawRulesText.nd rfl (.inl rfl)) (pgs_cons (pg_name (i := 4) scLawRulesText.nd rfl (.inl rfl)) (pgs_cons (pg_name (i := 5) scLawRulesText.nd rfl (.inl rfl)) pgs_nil)))) (pss_one (ps_expr (pe_bm PySem.F.plainAttrs_list PySem.F.slot_list_append PySem.F.type_list_append mt_append (pv 2) (pa_cons (pe_join pe_str (pe_op op_catL (pe_lst (pa_cons pe_str (pa_cons (pv 3) (pa_cons (pv 4) pa_nil)))) (pe_lc (own := [("lot", 6)]) (g := gName 6) (tt := tYes) (te := tIf (tTest (tOp (rNeNilT K) (tVar 6) (tTup tNil))) (tM1 (rJn K) (tC (.str ",")) (tVar 6)) (tC (.str "-"))) rfl scLawRulesText.nd (pi_tup (pv 5)) (blkOk_by (N := NLawRulesText) (sc := defScope sLawRulesText) (by decide +kernel)) (fun _ _ _ _ _ => (pg_name (i := 6) scLawRulesText.nd rfl (.inl rfl))) (fun _ _ _ _ _ => pts_nil) (fun _ _ _ _ _ => (pe_ifExp (pt_cmpR (op_neNilT (hu0 hr)) (pv 6) (pe_tup pa_nil) (nomark _)) (pe_join pe_str (pv 6)) pe_str))))) pa_nil)))))
    (pss_one (ps_ret (pe_join pe_str (pv 2)))))), ?_⟩
    have hw := wordsT_len ok.okW
    have hal : ∀ x ∈ l, (ruleT x).length ≤ 4000 := fun x hx => rule_len ok.okW (hok x hx)
    have mR := (inferInstance : Mono (rLst rRu))
    refine sq ?_
    unfold tAsg tLst
    refine (er_catX (K := K) (X := X) (x := wordsL) (y := wordsT (srtW wd)) (er_tx (by decide +kernel)) (er_call1 (r := rDct) (f := fun wd => wordsT (srtW wd)) (x := wd) (er_var (i := 0) rfl hd) ok) (by show 6 + _ < _; omega)).go dm fun v1 H1 e1 hv1 => ⟨(by show 1 ≤ sizeLine; decide), fun o ho => ?_⟩
    have hv1 : v1 = .str (S (wordsL ++ wordsT (srtW wd))) := hv1
    subst hv1
    have dm1 := dm.ex e1
    have Xo : X o = false := dm1.new ho
    have enew := Evl.Ex.new (H := H1) (o := .lst [.str (S (wordsL ++ wordsT (srtW wd)))]) ho
    generalize hH2 : upd H1 o (.lst [.str (S (wordsL ++ wordsT (srtW wd)))]) = H2 at enew
    have ho2 : H2 o = some (.lst [.str (S (wordsL ++ wordsT (srtW wd)))]) := by rw [← hH2]; exact upd_same
    have dm2 : Dm (X.and o) H2 := Dm.and (dm1.ex enew) (by rw [ho2]; exact fun z => nomatch z)
    have hl2 : rLst rRu K (hid (X.and o) H2) lv l := mR.mono (hid_and enew ho).le (mR.mono (hid_le e1) hl)
    have Xo2 : X.and o o = true := Hs.and_at _ _
    dsimp only
    refine sq (st_forX (K := K) (X := X.and o) (r := rRu) (xs := l) (fun B j σ' H' => (∃ a b c d, σ' = [some dv, some lv, some (.ref o), a, b, c, d]) ∧ H' o = some (.lst (((wordsL ++ wordsT (srtW wd)) :: (l.take j).map ruleT).map fun x => V.str (S x))) ∧ Off o B H') (eix_list (er_var (i := 1) rfl hl2)) dm2 (fun B eB => ⟨⟨_, _, _, _, rfl⟩, eB _ _ ho2, Off.refl _ _⟩) (fun B j σ' H' eB h => h.2.2.hid Xo2) ?_ ?_)
    · rintro B j x σ' H' eB hx ⟨⟨a, b, c, d, rfl⟩, hoH, off⟩ v H3 e3 hv
      have ne' : H' o ≠ none := by rw [hoH]; exact fun z => nomatch z
      have dm' : Dm (X.and o) H' := (dm2.ex eB).off' off ne'
      have hv' := hv (X.and o) (Evl.Ex.trans (off.hid Xo2) (hid_ex e3)) dm'
      have hxm : x ∈ l := List.mem_of_getElem? hx
      have hjl : j < l.length := (List.getElem?_eq_some_iff.mp hx).1
      have ku := hok x hxm
      have h8 : x.1.length ≤ 8 := isName_8 ku.trait
      have h9 : x.2.1.length ≤ 8 := isName_8 (ok.okW.good _ (lk_mem ku.word)).1
      have h3 := sum_le (l := x.2.2.map wantsT) (n := 1000) fun y hy => by
        obtain ⟨l, hl, rfl⟩ := List.mem_map.mp hy
        exact wants_len (ku.wants l hl)
      rw [List.length_map] at h3
      have h5 := ku.few
      refine eg_tri (r := rTx) (s := rTx) (t := rTup (rTup rTx)) (x := x.1) (y := x.2.1) (z := x.2.2) (X.and o) v H3 hv' _ fun σ2 ⟨v1, v2, v3, eσ, hv1, hv2, hv3⟩ => ?_
      subst eσ
      refine st_append (K := K) (X := X.and o) (r := rTx) (x := ruleT x) (i := 2) rfl (e3 _ _ hoH) (by rw [List.length_map, List.length_cons, List.length_map, List.length_take]; omega) (dm'.ex e3) (er_join (sep := [32]) (xs := [[114, 117, 108, 101], x.1, x.2.1] ++ x.2.2.map wantsT) (er_tx (by decide +kernel)) (er_catL (er_lstE (.cons (er_tx (by decide +kernel)) (.cons (er_var (i := 3) rfl hv1) (.cons (er_var (i := 4) rfl hv2) .nil))) (by show 3 < 1000000; decide)) (er_lc (r := rTup rTx) (s := rTx) (f := wantsT) (ei_tup (er_var (i := 5) rfl hv3)) (by omega) fun y hy Y v4 H4 e4 hv4 => ?_) ?_) ?_) fun y H4 e4 hy => ?_
      · have h8 := okWants_few (ku.wants y hy)
        have hs := few8_sum h8
        have hn := h8.1
        refine er_if (b := !decide (y.length = 0)) (et_test (er_neNilT (er_var (i := 6) rfl hv4) er_nilT)) (fun hb => ?_) fun hb => ?_
        · refine Er.is (er_joinT (sep := [44]) (er_tx (by decide +kernel)) (er_var (i := 6) rfl hv4) (by rw [List.length_singleton]; omega)) ?_
          unfold wantsT
          rw [if_neg (fun z => by rw [z] at hb; simp at hb)]
        · refine Er.is (er_tx (i := [45]) (by decide +kernel)) ?_
          have z : y = [] := List.length_eq_zero_iff.mp (by simpa using hb)
          rw [z]; rfl
      · rw [List.length_map]; show 3 + _ < _; omega
      · rw [List.map_append, List.sum_append, List.length_append, List.length_map, List.length_singleton]
        show (4 + (x.1.length + (x.2.1.length + 0))) + _ + (3 + _) * 1 < _
        omega
      · rw [show y = V.str (S (ruleT x)) from hy]
        refine ⟨⟨_, _, _, _, rfl⟩, ?_, (off.trans (Off.ex (e3.trans e4))).trans fun b z hb h => by rw [upd_ne hb]; exact h⟩
        rw [upd_same, List.take_add_one, hx, List.map_append, List.map_cons, List.map_cons, List.map_append]
        rfl
    · rintro B σ' H' eB ⟨⟨a, b, c, d, rfl⟩, hoH, off⟩
      rw [List.take_length] at hoH
      have ne' : H' o ≠ none := by rw [hoH]; exact fun z => nomatch z
      have offA : Off o H1 H' := ((show Off o H1 H2 from Off.ex enew).trans (Off.ex eB)).trans off
      have dm' : Dm X H' := dm1.ex (offA.exN ho)
      have hsum := sum_le (l := l.map ruleT) (n := 4000) fun x hx => by
        obtain ⟨d, hd, rfl⟩ := List.mem_map.mp hx
        exact hal d hd
      rw [List.length_map] at hsum
      dsimp only
      refine ret_of (K := K) (X := X) (r := rTx) (x := rulesT (srtW wd, l)) ?_ dm' fun v' H'' e' hv => q v' H'' ((e1.trans (offA.exN ho)).trans e') hv
      refine er_join (sep := [10]) (xs := (wordsL ++ wordsT (srtW wd)) :: l.map ruleT) (er_tx (by decide +kernel)) (er_var (i := 2) rfl ⟨o, _, rfl, .inl (.inl (by rw [hid_out Xo]; exact hoH)), Paired.of_map (f := fun x => V.str (S x)) (fun _ => rfl) _⟩) ?_
      simp only [List.map_cons, List.sum_cons, List.length_cons, List.length_append, List.length_map, List.length_nil]
      have : wordsL.length = 6 := rfl
      omega
end
end Q
set_option maxHeartbeats 8000000
/-! F42: drawn terms. -/
namespace Q
open PySem PySem.Spec PyProof.Rows L2
theorem max_of : ∀ l : List Int, l ≠ [] → ∃ m ∈ l, ∀ y ∈ l, y ≤ m
  | [], h => absurd rfl h
  | [x], _ => ⟨x, List.mem_cons_self, fun y hy => by rw [List.mem_singleton.mp hy]; exact Int.le_refl _⟩
  | x :: y :: l, _ => by
    obtain ⟨m, hm, h⟩ := max_of (y :: l) (fun z => nomatch z)
    by_cases hx : x ≤ m
    · exact ⟨m, List.mem_cons_of_mem _ hm, fun z hz => by
        rcases List.mem_cons.mp hz with rfl | hz
        · exact hx
        · exact h z hz⟩
    · exact ⟨x, List.mem_cons_self, fun z hz => by
        rcases List.mem_cons.mp hz with rfl | hz
        · exact Int.le_refl _
        · have := h z hz; omega⟩
section
variable {P : Program} {w : World} {K : Frag} {mg : Str → Option Value} {base : Heap} {X : Hs} {σ : L2.St} {H : Hp} {te ta tb ti td : TE} {α β γ : Type} {r : Rel α} {s : Rel β} {D : Ends}
/-- [te for x in wi], te draws: as many as there are xs -/
theorem run_lcE [mr : Mono r] [ms : Mono s] {wi : TI} {i : Nat} {xs : List β} {p c : Addr} {n cst : Nat} {S : β → α → Prop} {Q : VK} (hi : EiX K X wi σ H s xs) (dm : Dm X H) (hX : X p = true) (hp : Pen H p c n) (hz : xs.length < 1000000)
    (he : ∀ d ∈ xs, ∀ (Y : Hs) (v : V) (H1 : Hp) (k : Nat), Y p = true → Dm Y H1 → Ex (hid X H) (hid Y H1) → s K (hid Y H1) v d → Pen H1 p c (n + k * cst) → k < xs.length → ∀ Q : VK, (∀ y x H3, Off p H1 H3 → Pen H3 p c (n + (k + 1) * cst) → r K (hid Y H3) y x → S d x → Q y H3) → te ((wipe σ [i]).set i (some v)) H1 Q)
    (k : ∀ v outs H', Off p H H' → Pen H' p c (n + xs.length * cst) → Dm X H' → rLst r K (hid X H') v outs → outs.length = xs.length → (∀ x ∈ outs, ∃ d ∈ xs, S d x) → Q v H') : tLc wi (gName i) tYes te [i] σ H Q :=
  hi H (Evl.Ex.refl H) dm _ fun J H2 G Y e2 hW hG hY D hD => lc_it hW (fun k H3 => ∃ ys outs, H3 D = some (.lst ys) ∧ (∀ b o, b ≠ p → H2 b = some o → H3 b = some o) ∧ Pen H3 p c (n + k * cst) ∧ Dm (X.and D) H3 ∧ Paired (r K (hid (X.and D) H3)) ys outs ∧ outs.length = k ∧ k ≤ xs.length ∧ ∀ x ∈ outs, ∃ d ∈ xs, S d x)
    ⟨[], [], upd_same, fun b o _ h => by rw [upd_ne (ne_of_none h hD)]; exact h, (hp.mono e2 (by omega)).upd (fun z => (hp.mono e2 (Nat.le_refl _)).at (by rw [z]; exact hD)) (fun z => (hp.mono e2 (Nat.le_refl _)).cat (by rw [z]; exact hD)), Dm.and (dm.ex e2).upd' (by rw [upd_same]; exact fun z => nomatch z), .nil, rfl, Nat.zero_le _, fun x hx => absurd hx (by simp)⟩
    (fun i H3 _ ⟨ys, outs, _, keep, _⟩ => hG H3 (fun b o q => by
      obtain ⟨q1, q2⟩ := hid_some.mp q
      exact hid_some.mpr ⟨q1, keep b o (fun z => by rw [z, hX] at q1; cases q1) q2⟩))
    (fun k x H3 H4 hk ⟨ys, outs, hys, keep, pn, dmD, hpd, hle, _, hS⟩ hy => by
      have eX : Ex (hid X H2) (hid X H3) := fun b o q => by
        obtain ⟨q1, q2⟩ := hid_some.mp q
        exact hid_some.mpr ⟨q1, keep b o (fun z => by rw [z, hX] at q1; cases q1) q2⟩
      have eXD : Ex (hid X H2) (hid (X.and D) H3) := fun b o q => by
        obtain ⟨q1, q2⟩ := hid_some.mp (eX b o q)
        obtain ⟨_, q3⟩ := hid_some.mp q
        exact hid_some.mpr ⟨by rw [Hs.and_ne (ne_of_none q3 hD)]; exact q1, q2⟩
      obtain ⟨e4, d, hd, hr⟩ := hY k H3 x H4 eX hy
      have hmem : d ∈ xs := List.mem_of_getElem? hd
      have XDp : (X.and D) p = true := by
        show (X p || decide (p = D)) = true
        rw [hX]; rfl
      have eXD4 := Evl.Ex.trans eXD (hid_ex (X := X.and D) e4)
      have hr' := hr (X.and D) eXD4 dmD
      refine ⟨wipe_set σ x i, ?_⟩
      unfold tYes
      dsimp only
      rw [if_pos rfl]
      have hpD : p ≠ D := fun z => (hp.mono e2 (Nat.le_refl _)).at (by rw [z]; exact hD)
      have hcD : c ≠ D := fun z => (hp.mono e2 (Nat.le_refl _)).cat (by rw [z]; exact hD)
      refine he d hmem (X.and D) x H4 k XDp (dmD.ex e4) (Evl.Ex.trans (hid_ex e2) eXD4) hr' (pn.mono e4 (Nat.le_refl _)) hk _ fun y x6 H6 off6 pn6 hy6 hs6 => ?_
      have dm6 := (dmD.ex e4).off' off6 pn6.at
      refine ⟨ys, off6 _ _ hpD.symm (e4 _ _ hys), ?_, ys ++ [y], outs ++ [x6], upd_same, fun b o hb h => ?_, pn6.upd hpD hcD, dm6.upd', ?_, ?_, hk, fun z hz => ?_⟩
      · have := Paired.len hpd
        exact size_lt (by omega)
      · rw [upd_ne (ne_of_none h hD)]
        exact off6 _ _ hb (e4 _ _ (keep b o hb h))
      · rw [hid_upd (Hs.and_at _ _)]
        exact Paired.snoc' (Paired.mono (fun _ _ z => mr.mono (Evl.Ex.trans (hid_ex e4) (off6.hid XDp)).le z) hpd) hy6
      · rw [List.length_append]
        show outs.length + 1 = k + 1
        omega
      · rcases List.mem_append.mp hz with hz | hz
        · exact hS z hz
        · rw [List.mem_singleton.mp hz]
          exact ⟨d, hmem, hs6⟩)
    (fun H3 ⟨ys, outs, hys, keep, pn, dmD, hpd, hle, _, hS⟩ => by
      refine k _ outs H3 (fun b o hb h => keep b o hb (e2 _ _ h)) pn (fun b hb => ?_) ⟨D, ys, rfl, .inl (.inl ?_), Paired.mono (fun _ _ z => mr.mono hid_sub.le z) hpd⟩ hle hS
      · refine dmD b ?_
        show (X b || decide (b = D)) = true
        rw [hb]; rfl
      · rw [hid_out ((dm.ex e2).new hD)]
        exact hys)
theorem cb1_of {f : List V → Hp → VK → Prop} {t : TE} {Q : VK} (h : t σ H fun v H1 => f [v] H1 Q) : tCB f (tCons t tNil) σ H Q := h
/-- how much a term of at most k levels draws -/
def tcst : Nat → Nat
  | 0 => 0
  | k + 1 => 1 + 3 * tcst k
def spTerm (K : Frag) (k : Nat) : Sp := fun vs H Q _ => ∃ p c n d wd X, ∃ deep : Nat, vs = [.ref p, .ref d, .int (deep : Nat)] ∧ X p = true ∧ X d = false ∧ Dm X H ∧ H d = some (.dK (kvsW wd)) ∧ OkV wd ∧ Pen H p c n ∧ 0 < deep ∧ deep ≤ k ∧ k ≤ 4 ∧ n + tcst k < 1000000 ∧
  ∀ v t H', t.ok wd → t.deep ≤ deep → Off p H H' → Pen H' p c (n + tcst deep) → rTm K (hid X H') v t → Q v H'
theorem tcst_mono {a b : Nat} (h : a ≤ b) : tcst a ≤ tcst b := by
  induction b generalizing a with
  | zero => rw [Nat.le_zero.mp h]; exact Nat.le_refl _
  | succ b ih =>
    cases a with
    | zero => exact Nat.zero_le _
    | succ a =>
      have := ih (Nat.le_of_succ_le_succ h)
      unfold tcst
      omega
theorem oks_of {wd : Wd} : ∀ {ps : List Tm}, (∀ p ∈ ps, p.ok wd) → Tm.oks wd ps
  | [], _ => by unfold Tm.oks; trivial
  | p :: ps, h => by
    unfold Tm.oks
    exact ⟨h p List.mem_cons_self, oks_of fun q hq => h q (List.mem_cons_of_mem _ hq)⟩
theorem deeps_of {n : Nat} : ∀ {ps : List Tm}, (∀ p ∈ ps, p.deep ≤ n) → Tm.deeps ps ≤ n
  | [], _ => by unfold Tm.deeps; exact Nat.zero_le _
  | p :: ps, h => by
    unfold Tm.deeps
    exact Nat.max_le.mpr ⟨h p List.mem_cons_self, deeps_of fun q hq => h q (List.mem_cons_of_mem _ hq)⟩
abbrev NLawTerm : List Str := ["pen", "places", "deep", "name", "some", "place"]
theorem scLawTerm : FnScope NLawTerm ["pen", "places", "deep"] (defScope sLawTerm) := ⟨rfl, rfl, rfl, by decide +kernel, rfl, by decide +kernel, by decide +kernel⟩
theorem ok_lawTerm (B : Bi mg) (c_law_pick : Kp P w K mg base 2 "_law_pick" ["pen", "some"] (spPick K)) (D : Dfn K mg "_law_term" sLawTerm ["pen", "places", "deep"]) : ∀ k, Kp P w K mg base (k + 2) "_law_term" ["pen", "places", "deep"] (spTerm K k)
  | 0 => D.kp fun f fd F hm b => F.ok scLawTerm (fun vs H Q E ⟨p, c, n, d, wd, X, deep, e, _⟩ => by rw [e]; rfl) fun cdv A outer s H vs Q E hr ⟨p, c, n, d, wd, X, deep, e, hX, hXd, dm, hd, ok, hp, h0, hk, _⟩ => absurd h0 (by omega)
  | k + 1 => D.kp fun f fd F hm b => F.ok scLawTerm (fun vs H Q E ⟨p, c, n, d, wd, X, deep, e, _⟩ => by rw [e]; rfl) fun cdv A outer s H vs Q E hr ⟨p, c, n, d, wd, X, deep, e, hX, hXd, dm, hd, ok, hp, h0, hk, hk4, hz, q⟩ => by
    subst e
    have c_law_term := ok_lawTerm B c_law_pick D k
    refine ⟨_, (pss_cons (ps_set (i := 2) scLawTerm.nd rfl (.inr rfl) (pe_ifExp (pt_cmpR op_eq (pe_callB (cr_max rfl) rfl B.max (by decide +kernel) (pa_cons (pe_lock (pe_lc (own := [("name", 3)]) (g := gName 3) (tt := tYes) rfl scLawTerm.nd (pi_keys (pv 1)) (blkOk_by (N := NLawTerm) (sc := defScope sLawTerm) (by decide +kernel)) (fun _ _ _ _ _ => (pg_name (i := 3) scLawTerm.nd rfl (.inl rfl))) (fun _ _ _ _ _ => pts_nil) (fun _ _ _ _ _ => (pe_callTy call_int1 rfl B.int (by decide +kernel) (pa_cons (pe_dget (hu_of hr) (pv 1) (pv 3) (fun _ _ => rfl)) pa_nil))))) pa_nil)) pe_int (nomark _)) (pe_callB (call_min2 rfl) rfl B.min (by decide +kernel) (pa_cons (pe_callTy call_int1 rfl B.int (by decide +kernel) (pa_cons (pv 2) pa_nil)) (pa_cons pe_int pa_nil))) (pv 2)))
    (pss_cons (ps_setLc (i := 4) (own := [("name", 3)]) (g := gName 3) rfl scLawTerm.nd rfl rfl (sw_true rfl rfl rfl (by decide +kernel)) (pi_list (pe_callB cr_sortedS rfl B.sorted (by decide +kernel) (pa_cons (pe_callTy (call_listD rfl) rfl B.list (by decide +kernel) (pa_cons (pv 1) pa_nil)) pa_nil))) (blkOk_by (N := NLawTerm) (sc := defScope sLawTerm) (by decide +kernel)) (fun _ _ _ _ _ => (pg_name (i := 3) scLawTerm.nd rfl (.inl rfl))) (fun _ _ _ _ _ => (pts_one (PW.pt (pw_or (pt_cmpR op_gt (pv 2) pe_int (nomark _)) (pw_or1 (pt_cmpR op_eq (pe_dget (hu_of hr) (pv 1) (pv 3) (fun _ _ => rfl)) pe_int (nomark _))))))) (fun _ _ _ _ _ => (pv 3)))
    (pss_cons (ps_set (i := 3) scLawTerm.nd rfl (.inl rfl) (pe_kp c_law_pick hr (by omega) (pa_cons (pv 0) (pa_cons (pv 4) pa_nil))))
    (pss_one (ps_ret (pe_op op_catA (pe_tup (pa_cons (pv 3) pa_nil)) (pe_callTy call_tuple_of rfl B.tuple (by decide +kernel) (pa_cons (pe_lc (own := [("place", 5)]) (g := gName 5) (tt := tYes) rfl scLawTerm.nd (pi_range1 (by rfl) B.range (pa_cons (pe_dget (hu_of hr) (pv 1) (pv 3) (fun _ _ => rfl)) pa_nil)) (blkOk_by (N := NLawTerm) (sc := defScope sLawTerm) (by decide +kernel)) (fun _ _ _ _ _ => (pg_name (i := 5) scLawTerm.nd rfl (.inl rfl))) (fun _ _ _ _ _ => pts_nil) (fun _ _ _ _ _ => (pe_kp c_law_term hr (by omega) (pa_cons (pv 0) (pa_cons (pv 1) (pa_cons (pe_op op_sub (pv 2) pe_int) pa_nil)))))) pa_nil)))))))), ?_⟩
    have hdn : ∀ {H1 : Hp}, Off p H H1 → H1 d = some (.dK (kvsW wd)) := fun off => off _ _ (fun z => by rw [z, hX] at hXd; cases hXd) hd
    have hdr : ∀ {H1 : Hp}, H1 d = some (.dK (kvsW wd)) → rDct K (hid X H1) (.ref d) wd := fun h => ⟨d, rfl, .inl (by rw [hid_out hXd]; exact h)⟩
    have mD := (inferInstance : Mono rDct)
    have hl4 : (wd.map Prod.fst).length ≤ 4 := by rw [List.length_map]; exact ok.few
    have hne : ((wd.map Prod.fst).map fun x => ((((lk wd x).getD 0 : Nat)) : Int)) ≠ [] := fun z => ok.ne (List.map_eq_nil_iff.mp (List.map_eq_nil_iff.mp z))
    obtain ⟨mx, hmx, hmax⟩ := max_of _ hne
    have hdeep4 : deep ≤ 4 := by omega
    refine sq (st_set (K := K) (X := X) (r := rInt) (x := ((deep : Nat) : Int)) (er_if (b := decide (mx = 3)) (et_test (er_eqI (K := K) (er_max (er_lock (kvs := kvsW wd) hd fun od H1 e1 => er_lc (r := rTx) (s := rInt) (xs := wd.map Prod.fst) (f := fun x => ((((lk wd x).getD 0 : Nat)) : Int)) (ei_keys (i := 1) (d := d) rfl upd_same) (by omega) fun x hx Y v H2 e2 hv => ?_) hmx hmax) er_int)) (fun _ => Er.is (er_min2 (er_int1 (er_var (i := 2) rfl rfl)) er_int) (by rw [if_neg (by omega)])) fun _ => er_var (i := 2) rfl rfl) dm fun v1 H1 e1 hv1 => ?_)
    · obtain ⟨pr, hpr, rfl⟩ := List.mem_map.mp hx
      have hl : lk wd pr.1 = some pr.2 := lk_of ok.nd hpr
      refine Er.is (er_int1 (x := ((pr.2 : Nat) : Int)) (er_dget (w := wd) (er_var (i := 1) rfl (mD.mono e2.le ⟨d, rfl, .inr ⟨od, by rw [hid_out hXd, upd_same]⟩⟩)) (er_var (i := 3) rfl hv) hl)) (by rw [hl]; rfl)
    have hv1 : v1 = .int (deep : Nat) := hv1
    subst hv1
    have dm1 := dm.ex e1
    have hd1 := e1 _ _ hd
    let pf : Tx → Bool := fun x => decide (1 < (deep : Int)) || decide ((((lk wd x).getD 0 : Nat) : Int) = 0)
    dsimp only
    refine sq (st_set (K := K) (X := X) (r := rLst rTx) (x := ((srtTx (wd.map Prod.fst)).filter pf).map fun x => x) (er_lcIf (r := rTx) (s := rTx) (xs := srtTx (wd.map Prod.fst)) (p := pf) (f := fun x => x) (ei_list (er_srt (er_listD (er_var (i := 1) rfl (hdr hd1))) (by omega))) (by rw [(srtTx_perm _).length_eq]; omega) (fun x hx Y v H2 e2 hv => ?_) fun x hx _ Y v H2 e2 hv => er_var (i := 3) rfl hv) dm1 fun v2 H2 e2 hv2 => ?_)
    · obtain ⟨pr, hpr, rfl⟩ := List.mem_map.mp ((srtTx_perm _).mem_iff.mp hx)
      have hl : lk wd pr.1 = some pr.2 := lk_of ok.nd hpr
      refine et_or (et_test (er_cmp0 (K := K) (g := fun i j => decide (j < i)) (er_var (i := 2) rfl rfl) er_int)) fun _ => et_test (Er.is (er_eqI (K := K) (i := ((pr.2 : Nat) : Int)) (er_dget (w := wd) (er_var (i := 1) rfl (mD.mono e2.le (hdr hd1))) (er_var (i := 3) rfl hv) hl) er_int) (by rw [hl]; rfl))
    have hsm : ∀ x, x ∈ ((srtTx (wd.map Prod.fst)).filter pf).map (fun x => x) → x ∈ wd.map Prod.fst ∧ pf x = true := fun x hx => by
      rw [List.map_id'] at hx
      obtain ⟨h1, h2⟩ := List.mem_filter.mp hx
      exact ⟨(srtTx_perm _).mem_iff.mp h1, h2⟩
    have hlen2 : (((srtTx (wd.map Prod.fst)).filter pf).map fun x => x).length ≤ 4 := by
      rw [List.length_map]
      have := List.length_filter_le pf (srtTx (wd.map Prod.fst))
      rw [(srtTx_perm _).length_eq] at this
      omega
    have hne2 : (((srtTx (wd.map Prod.fst)).filter pf).map fun x => x) ≠ [] := fun z => by
      obtain ⟨pr, hpr, hp0⟩ := ok.zero
      have : pr.1 ∈ (srtTx (wd.map Prod.fst)).filter pf := List.mem_filter.mpr ⟨(srtTx_perm _).mem_iff.mpr (List.mem_map.mpr ⟨pr, hpr, rfl⟩), by
        show (_ || decide ((((lk wd pr.1).getD 0 : Nat) : Int) = 0)) = true
        rw [lk_of ok.nd hpr, hp0]
        simp⟩
      rw [List.map_id'] at z
      rw [z] at this
      cases this
    have dm2 := dm1.ex e2
    have ht : tcst deep ≤ tcst (k + 1) := tcst_mono hk
    dsimp only
    refine sq ?_
    refine run_pick (K := K) (X := X) (i := 0) (r := rTx) (xs := ((srtTx (wd.map Prod.fst)).filter pf).map fun x => x) rfl hX (er_var (i := 4) rfl hv2) dm2 (hp.mono (e1.trans e2) (Nat.le_refl _)) (by omega) hne2 (by omega) fun v3 x H3 hx off3 pn3 dm3 hv3 => ?_
    obtain ⟨hx1, hx2⟩ := hsm x hx
    obtain ⟨pr, hpr, rfl⟩ := List.mem_map.mp hx1
    have hl : lk wd pr.1 = some pr.2 := lk_of ok.nd hpr
    obtain ⟨j, rfl⟩ : ∃ j, deep = j + 1 := ⟨deep - 1, by omega⟩
    have hpr3 := (ok.good pr hpr).2
    have hj0 : j = 0 → pr.2 = 0 := fun z => by
      subst z
      have hx2 : (decide ((1 : Int) < ((0 + 1 : Nat) : Int)) || decide ((((lk wd pr.1).getD 0 : Nat) : Int) = 0)) = true := hx2
      rw [hl] at hx2
      simpa using hx2
    have hv3 : v3 = .str (S pr.1) := hv3
    subst hv3
    dsimp only
    refine gN ?_
    have off03 : Off p H H3 := (Off.ex (e1.trans e2)).trans off3
    have hd3 := hdn off03
    unfold tRet tOp
    refine ⟨_, rfl, (by show 1 ≤ sizeLine; decide), fun a ha => ?_⟩
    have e4 := Evl.Ex.new (H := H3) (o := .tup [.str (S pr.1)]) ha
    generalize hH4 : upd H3 a (.tup [.str (S pr.1)]) = H4 at e4
    have ga : H4 a = some (.tup [.str (S pr.1)]) := by rw [← hH4]; exact upd_same
    have dm4 := dm3.ex e4
    have hd4 := e4 _ _ hd3
    have Xa : X a = false := dm3.new ha
    have hap : a ≠ p := fun z => by rw [z, hX] at Xa; cases Xa
    have hit : EiX K X (iRng1 (tCons (tDGet (tVar 1) (tVar 3)) tNil)) [some (.ref p), some (.ref d), some (.int ((j + 1 : Nat) : Int)), some (.str (S pr.1)), some v2, none] H4 rInt ((List.range pr.2).map fun j => ((j : Nat) : Int)) := eix_range1 (n := pr.2) (by omega) (er_nat (er_dget (w := wd) (er_var (i := 1) rfl (hdr hd4)) (er_var (i := 3) rfl rfl) hl))
    refine cb1_of ?_
    refine run_lcE (K := K) (X := X) (r := rTm) (s := rInt) (cst := tcst j) (S := fun _ t => t.ok wd ∧ t.deep ≤ j) hit dm4 hX (pn3.mono e4 (Nat.le_refl _)) (by rw [List.length_map, List.length_range]; omega) (fun i hi Y v H5 kk hY dmY eY hv pn5 hkk Q5 q5 => ?_) fun v outs H5 off5 pn5 dm5 hv5 hol hos => ?_
    · rw [List.length_map, List.length_range] at hkk
      have hjp : 0 < j := by
        rcases Nat.eq_zero_or_pos j with z | z
        · have := hj0 z; omega
        · exact z
      have hh : hid Y H5 d = some (.dK (kvsW wd)) := eY _ _ (by rw [hid_out hXd]; exact hd4)
      obtain ⟨hYd, hd5⟩ := hid_some.mp hh
      have htj : tcst j ≤ tcst k := tcst_mono (by omega)
      have htk : tcst (k + 1) = 1 + 3 * tcst k := rfl
      have hkt : kk * tcst j ≤ 2 * tcst k := Nat.mul_le_mul (by omega) htj
      refine ⟨_, rfl, _, rfl, _, rfl, _, _, rfl, rfl, ?_⟩
      refine ⟨p, c, n + 1 + kk * tcst j, d, wd, Y, j, ?_, hY, hYd, dmY, hd5, ok, pn5, hjp, by omega, by omega, by omega, fun v6 t H6 hto htd off6 pn6 hv6 => q5 v6 t H6 off6 (pn6.mono (Evl.Ex.refl _) (by rw [Nat.succ_mul]; omega)) hv6 ⟨hto, htd⟩⟩
      show [V.ref p, .ref d, .int (((j + 1 : Nat) : Int) - 1)] = _
      rw [show ((j + 1 : Nat) : Int) - 1 = (j : Nat) by omega]
    · rw [List.length_map, List.length_range] at hol pn5
      obtain ⟨la, vs, rfl, hsq, hpd⟩ := hv5
      refine ⟨la, vs, rfl, .inl ⟨sql_hid hsq, fun l hl' => ?_⟩⟩
      have ga5 : H5 a = some (.tup [.str (S pr.1)]) := off5 _ _ hap ga
      have hvl := Paired.len hpd
      have e6 := Evl.Ex.new (H := H5) (o := .tup vs) hl'
      have hok : (Tm.nd pr.1 outs).ok wd := by
        unfold Tm.ok
        exact ⟨by rw [hl, hol], oks_of fun t ht => (hos t ht).elim fun _ h => h.2.1⟩
      have hde : (Tm.nd pr.1 outs).deep ≤ j + 1 := by
        unfold Tm.deep
        have := deeps_of (n := j) (ps := outs) fun t ht => (hos t ht).elim fun _ h => h.2.2
        omega
      have off6 : Off p H (upd H5 l (.tup vs)) := (off03.trans (Off.ex e4)).trans (off5.trans (Off.ex e6))
      have hpen : n + 1 + pr.2 * tcst j ≤ n + tcst (j + 1) := by
        have : pr.2 * tcst j ≤ 3 * tcst j := Nat.mul_le_mul_right _ hpr3
        show _ ≤ n + (1 + 3 * tcst j)
        omega
      refine ⟨a, l, [.str (S pr.1)], vs, rfl, rfl, .inl (.inl (e6 _ _ ga5)), .inl (.inl upd_same), size_le (by rw [List.length_singleton]; omega), (fun z => nomatch z), fun _ z => ?_, fun _ _ x hx' => ?_⟩
      · subst z
        have ho : outs = [] := List.length_eq_zero_iff.mp hvl.symm
        subst ho
        refine q _ (.nd pr.1 []) _ hok hde off6 (pn5.mono e6 hpen) (rTm_iff.mpr ⟨a, [], rfl, .inl (.inl (by rw [hid_out Xa]; exact e6 _ _ ga5)), .nil⟩)
      · have e7 := Evl.Ex.new (H := upd H5 l (.tup vs)) (o := .tup ([.str (S pr.1)] ++ vs)) hx'
        refine q _ (.nd pr.1 outs) _ hok hde (off6.trans (Off.ex e7)) (pn5.mono (e6.trans e7) hpen) (rTm_iff.mpr ⟨x, vs, rfl, .inl (.inl (by rw [hid_out ((dm5.ex e6).new hx'), upd_same]; rfl)), Paired.mono (fun _ _ z => rTm_mono (hid_le (e6.trans e7)) z) hpd⟩)
end
end Q
set_option maxHeartbeats 8000000
/-! F43: drawn plans; what they say of a term. -/
namespace Q
open PySem PySem.Spec PyProof.Rows L2
/-- a plan: its table, the kinds of yes -/
def rPlan : Rel (Tb × List Nat) := fun K H v x => ∃ a kvs dr yv, v = .ref a ∧ Rd H a (.dK kvs) ∧ valV kvs (.inr "rows") = some (.ref dr) ∧ valV kvs (.inr "yes") = some yv ∧ Rd H dr (.dT (kvsT x.1)) ∧ rLst rNat K H yv x.2
instance : Mono rPlan := ⟨fun {K H H' v x} e ⟨a, kvs, dr, yv, h1, h2, h3, h4, h5, h6⟩ => ⟨a, kvs, dr, yv, h1, e.rd _ _ trivial h2, h3, h4, e.rd _ _ trivial h5, (inferInstance : Mono (rLst rNat)).mono e h6⟩⟩
mutual
def kindOf (t : Tb) : Tm → Nat
  | .nd w ps => (lt_ t (w, kindsOf t ps)).getD 0
def kindsOf (t : Tb) : List Tm → List Nat
  | [] => []
  | p :: ps => kindOf t p :: kindsOf t ps
end
theorem kindsOf_map (t : Tb) : ∀ ps, kindsOf t ps = ps.map (kindOf t)
  | [] => by rw [kindsOf]; rfl
  | p :: ps => by rw [kindsOf, kindsOf_map t ps]; rfl
mutual
theorem kind_in {wd : Wd} {tb : Tb} {ks : List Nat} (hw : OkV wd) (h1 : ∀ r ∈ allR wd ks, r ∈ tb.map Prod.fst) (h2 : ∀ e ∈ tb, e.2 ∈ ks) : ∀ t : Tm, t.ok wd → ∃ m, (match t with | .nd w ps => lt_ tb (w, kindsOf tb ps)) = some m ∧ m ∈ ks
  | .nd w ps, h => by
    unfold Tm.ok at h
    have hk := kinds_in hw h1 h2 ps h.2
    have hr : (w, kindsOf tb ps) ∈ allR wd ks := (allR_mem hw).mpr ⟨by
      show (w, (kindsOf tb ps).length) ∈ wd
      rw [kindsOf_map, List.length_map]
      exact lk_mem h.1, hk⟩
    obtain ⟨m, hm⟩ := lt_some (h1 _ hr)
    exact ⟨m, hm, h2 _ (lt_mem hm)⟩
theorem kinds_in {wd : Wd} {tb : Tb} {ks : List Nat} (hw : OkV wd) (h1 : ∀ r ∈ allR wd ks, r ∈ tb.map Prod.fst) (h2 : ∀ e ∈ tb, e.2 ∈ ks) : ∀ ps : List Tm, Tm.oks wd ps → ∀ k ∈ kindsOf tb ps, k ∈ ks
  | [], _, k, hk => by rw [kindsOf] at hk; cases hk
  | p :: ps, h, k, hk => by
    unfold Tm.oks at h
    rw [kindsOf] at hk
    rcases List.mem_cons.mp hk with hk | hk
    · subst hk
      obtain ⟨m, hm, hmk⟩ := kind_in hw h1 h2 p h.1
      cases p with
      | nd w qs =>
        unfold kindOf
        rw [show lt_ tb (w, kindsOf tb qs) = some m from hm]
        exact hmk
    · exact kinds_in hw h1 h2 ps h.2 k hk
end
section
variable {P : Program} {w : World} {K : Frag} {mg : Str → Option Value} {base : Heap} {X : Hs} {σ : L2.St} {H : Hp} {te ta tb ti td : TE} {α β γ : Type} {r : Rel α} {s : Rel β} {D : Ends}
/-- [te for x in d], d of tuple keys, locked: outs are its items -/
theorem run_keysT {i j : Nat} {d : Addr} {kvs : List (List Key × V)} {outs : List V} {od : Obj} (hs : σ[j]? = some (some (.ref d))) (hd : H d = some (.frz od (.dT kvs)))
    (hl : outs.length = kvs.length) (hz : kvs.length < 1000000) (he : ∀ (n : Nat) (k : List Key) (v : V) (q : Addr) (H' : Hp), Ex H H' → kvs[n]? = some (k, v) → H' q = some (.tup (k.map kV)) → ∀ Q : VK, (∀ o, outs[n]? = some o → Q o H') → te ((wipe σ [i]).set i (some (.ref q))) H' Q)
    {Q : VK} (k : ∀ D H', H D = none → Ex H H' → H' D = some (.lst outs) → Q (.ref D) H') : tLc (iKeys (tVar j)) (gName i) tYes te [i] σ H Q := by
  unfold tLc iKeys
  refine ⟨.ref d, hs, d, od, rfl, .inr ⟨kvs, hd, fun D hD => ?_⟩⟩
  have w := walk_keysT (d := d) (o := od) (kvs := kvs)
  refine lc_it w (fun i H3 => Ex H H3 ∧ H3 D = some (.lst (outs.take i))) ⟨Evl.Ex.new hD, upd_same⟩ (fun i H3 _ h => h.1 _ _ hd) (fun n x H3 H4 hi hP hy => ?_) (fun H3 hP => ?_)
  · obtain ⟨e3, hys⟩ := hP
    obtain ⟨e4, kk, v, q, h1, rfl, h3⟩ := hy
    subst e4
    have ho : outs[n]? = some outs[n] := List.getElem?_eq_getElem (by omega)
    refine ⟨wipe_set σ _ i, ?_⟩
    unfold tYes
    dsimp only
    rw [if_pos rfl]
    refine he n kk v q H4 e3 h1 h3 _ fun o ho' => ⟨_, hys, ?_, Evl.Ex.mut e3 hD, ?_⟩
    · rw [List.length_take]; exact size_lt (by omega)
    · rw [upd_same, List.take_add_one, ho']; rfl
  · obtain ⟨e3, hys⟩ := hP
    rw [← hl, List.take_length] at hys
    exact k D H3 hD e3 hys
/-- [int(rows[row]) for row in rows] -/
theorem er_tableVals {i j : Nat} {d : Addr} {t : Tb} (hij : ((wipe σ [i]).set i (some (.ref d)))[j]? = some (some (.ref d))) (hij2 : ∀ v, ((wipe σ [i]).set i (some v))[i]? = some (some v)) (hij3 : ∀ v, ((wipe σ [i]).set i (some v))[j]? = some (some (.ref d))) (hs : σ[j]? = some (some (.ref d))) (hd : H d = some (.dT (kvsT t))) (hn : (t.map Prod.fst).Nodup) (hz : t.length < 1000000) :
    Er K X (tLockE (tLc (iKeys (tVar j)) (gName i) tYes (tCB (fun xs H Q => (∃ i, xs = [V.int i] ∧ Q (.int i) H) ∨ ∃ k, xs = [V.bl k] ∧ Q (.int (if k then 1 else 0)) H) (tCons (tDGet (tVar j) (tVar i)) tNil)) [i])) σ H (rLst rInt) (t.map fun e => ((e.2 : Nat) : Int)) := fun H1 e dm Q k => by
  have hd1 := e _ _ hd
  refine ⟨d, _, hd1, trivial, fun od => ?_⟩
  have hlen : (kvsT t).length = t.length := by unfold kvsT; rw [List.length_map]
  refine run_keysT (outs := t.map fun e => V.int ((e.2 : Nat) : Int)) hs upd_same (by rw [List.length_map, hlen]) (by omega) (fun n kk v q H' e' hi hq Q' k' => ?_) fun D H' hD e' hD' => ?_
  · unfold kvsT at hi
    rw [List.getElem?_map] at hi
    cases hw : t[n]? with
    | none => rw [hw] at hi; cases hi
    | some x =>
      rw [hw] at hi
      have z : entR x = (kk, v) := Option.some.inj hi
      have zk : kk = keyR x.1 := (congrArg Prod.fst z).symm
      subst zk
      refine ⟨.ref d, hij3 _, .ref q, hij2 _, d, .int (x.2 : Nat), rfl, .inr ⟨kvsT t, keyR x.1, q, .inr ⟨od, e' _ _ upd_same⟩, rfl, hq, ?_⟩, .inl ⟨_, rfl, k' _ ?_⟩⟩
      · rw [valV_T, lt_of hn (List.mem_of_getElem? hw)]; rfl
      · rw [List.getElem?_map, hw]; rfl
  · have g := e' _ _ (upd_same (H := H1) (a := d) (o := .frz od (.dT (kvsT t))))
    have hDd : D ≠ d := fun z => by rw [z, upd_same] at hD; cases hD
    have hDn : H1 D = none := by rw [upd_ne hDd] at hD; exact hD
    have E := ex_lockedT (Evl.Ex.refl H1) hd1 e'
    refine ⟨g, k _ _ E ⟨D, t.map fun e => V.int ((e.2 : Nat) : Int), rfl, .inl (.inl ?_), ?_⟩⟩
    · rw [hid_out (dm.new hDn), upd_ne hDd]; exact hD'
    · have : Paired (rInt K (hid X (upd H' d (.dT (kvsT t))))) ((t.map fun e => ((e.2 : Nat) : Int)).map V.int) (t.map fun e => ((e.2 : Nat) : Int)) := Paired.of_map (f := V.int) (fun _ => rfl) _
      rw [List.map_map] at this
      exact this
theorem nat_upd {H : Hp} {a : Addr} {v : V} {xs : List Nat} {kvs : List (Key × V)} {o : HO} (h : rLst rNat K (hid X H) v xs) (ha : H a = some (.dK kvs)) : rLst rNat K (hid X (upd H a o)) v xs := by
  obtain ⟨b, vs, rfl, h2, h3⟩ := h
  have key : ∀ u : HO, u ≠ .dK kvs → hid X H b = some u → hid X (upd H a o) b = some u := fun u hu z => by
    obtain ⟨z1, z2⟩ := hid_some.mp z
    exact hid_some.mpr ⟨z1, by rw [upd_ne (fun y => hu (by rw [y, ha] at z2; exact (Option.some.inj z2).symm))]; exact z2⟩
  refine ⟨b, vs, rfl, ?_, Paired.mono (fun _ _ z => z) h3⟩
  rcases h2 with (h2 | ⟨w, h2⟩) | h2
  · exact .inl (.inl (key _ (fun z => nomatch z) h2))
  · exact .inl (.inr ⟨w, key _ (fun z => nomatch z) h2⟩)
  · exact .inr h2
abbrev NLawHidden : List Str := ["pen", "places", "most", "rows", "many", "row", "kind"]
theorem scLawHidden : FnScope NLawHidden ["pen", "places", "most"] (defScope sLawHidden) := ⟨rfl, rfl, rfl, by decide +kernel, rfl, by decide +kernel, by decide +kernel⟩
def spHidden (K : Frag) : Sp := fun vs H Q _ => ∃ p c n d wd X, ∃ m : Nat, vs = [.ref p, .ref d, .int (m : Nat)] ∧ X p = true ∧ Dm X H ∧ Pen H p c n ∧ n + 700 < 1000000 ∧ rDct K (hid X H) (.ref d) wd ∧ OkV wd ∧ 0 < m ∧ m ≤ 3 ∧
  ∀ v t yes H', OkT wd t → Off p H H' → Pen H' p c (n + 700) → rPlan K (hid X H') v (t, yes) → Q v H'
theorem ok_hidden (B : Bi mg) (c_law_draw : Kp P w K mg base 1 "_law_draw" ["pen", "many"] spDraw) (c_law_table : Kp P w K mg base 3 "_law_table" ["pen", "places", "most"] spTable) (D : Dfn K mg "_law_hidden" sLawHidden ["pen", "places", "most"]) : Kp P w K mg base 4 "_law_hidden" ["pen", "places", "most"] (spHidden K) :=
  D.kp fun f fd F hm b => F.ok scLawHidden (fun vs H Q E ⟨p, c, n, d, wd, X, m, e, _⟩ => by rw [e]; rfl) fun cdv A outer s H vs Q E hr ⟨p, c, n, d, wd, X, m, e, hX, dm, hp, hz, hd, ok, hm0, hm3, q⟩ => by
    subst e
    refine ⟨_, (pss_cons (ps_set (i := 3) scLawHidden.nd rfl (.inr rfl) (pe_kp c_law_table hr (by decide) (pa_cons (pv 0) (pa_cons (pv 1) (pa_cons (pe_op op_add pe_int (pe_kp c_law_draw hr (by decide) (pa_cons (pv 0) (pa_cons (pv 2) pa_nil)))) pa_nil)))))
    (pss_cons (ps_set (i := 4) scLawHidden.nd rfl (.inl rfl) (pe_op op_add pe_int (pe_callB (cr_max rfl) rfl B.max (by decide +kernel) (pa_cons (pe_lock (pe_lc (own := [("row", 5)]) (g := gName 5) (tt := tYes) rfl scLawHidden.nd (pi_keys (pv 3)) (blkOk_by (N := NLawHidden) (sc := defScope sLawHidden) (by decide +kernel)) (fun _ _ _ _ _ => (pg_name (i := 5) scLawHidden.nd rfl (.inl rfl))) (fun _ _ _ _ _ => pts_nil) (fun _ _ _ _ _ => (pe_callTy call_int1 rfl B.int (by decide +kernel) (pa_cons (pe_dget (hu_of hr) (pv 3) (pv 5) (fun _ _ => rfl)) pa_nil))))) pa_nil))))
    (pss_one (ps_ret (pe_disp (pps_cons pe_str (pv 1) (pps_cons pe_str (pv 3) (pps_cons pe_str (pe_lc (own := [("kind", 6)]) (g := gName 6) rfl scLawHidden.nd (pi_range1 (by rfl) B.range (pa_cons (pv 4) pa_nil)) (blkOk_by (N := NLawHidden) (sc := defScope sLawHidden) (by decide +kernel)) (fun _ _ _ _ _ => (pg_name (i := 6) scLawHidden.nd rfl (.inl rfl))) (fun _ _ _ _ _ => (pts_one (pt_cmpR op_eq (pe_kp c_law_draw hr (by decide) (pa_cons (pv 0) (pa_cons pe_int pa_nil))) pe_int (nomark _)))) (fun _ _ _ _ _ => (pv 6))) (pps_cons pe_str (pv 4) pps_nil)))) (by rfl) (by rfl) (fun z => by cases z) (by decide)))))), ?_⟩
    refine sq ⟨.ref p, rfl, .ref d, rfl, run_draw (K := K) (X := X) (i := 0) rfl (er_var (i := 2) rfl rfl) dm hp (by omega) (by omega) (by omega) fun g H1 g0 g1 off1 pn1 => ⟨_, _, rfl, rfl, ?_⟩⟩
    obtain ⟨gn, rfl⟩ : ∃ gn : Nat, g = gn := ⟨g.toNat, by omega⟩
    have dm1 : Dm X H1 := dm.off' off1 pn1.at
    refine ⟨p, c, n + 1, 0, wd, 1 + gn, X, .ref d, ?_, rfl, hX, dm1, pn1, by omega, (inferInstance : Mono rDct).mono (off1.hid hX).le hd, ok, by omega, by omega, fun dr t H2 hdr hT off2 pn2 g2 => ?_⟩
    · show [V.ref p, .ref d, .int ((1 : Int) + (gn : Nat))] = _
      rw [show (1 : Int) + (gn : Nat) = ((1 + gn : Nat) : Int) by omega]
    have dm2 : Dm X H2 := dm1.off' off2 pn2.at
    have Xdr : X dr = false := dm1.new hdr
    have hdp : dr ≠ p := fun z => by rw [z] at Xdr; rw [hX] at Xdr; cases Xdr
    obtain ⟨ks, hT1, hT2, hT3⟩ := hT.all
    have hne : (t.map fun e => ((e.2 : Nat) : Int)) ≠ [] := fun z => by
      have z := List.map_eq_nil_iff.mp z
      obtain ⟨pr, hpr, hp0⟩ := ok.zero
      have : (pr.1, ([] : List Nat)) ∈ allR wd ks := (allR_mem ok).mpr ⟨by
        show (pr.1, 0) ∈ wd
        rw [← hp0]; exact hpr, fun k hk => absurd hk (by simp)⟩
      have := hT1 _ this
      rw [z] at this
      cases this
    obtain ⟨mx, hmx, hmax⟩ := max_of _ hne
    obtain ⟨em, hem, hemx⟩ := List.mem_map.mp hmx
    have hmx3 : em.2 < 3 := hT3 _ (hT2 _ hem)
    have hfew := hT.few
    dsimp only
    refine sq (st_set (K := K) (X := X) (r := rInt) (x := ((1 + em.2 : Nat) : Int)) (Er.is (er_op0 (g := fun i j => i + j) er_int (er_max (er_tableVals (i := 5) (j := 3) (d := dr) (t := t) rfl (fun _ => rfl) (fun _ => rfl) rfl g2 hT.nd (by omega)) hmx hmax)) (by rw [← hemx]; omega)) dm2 fun v3 H3 e3 hv3 => ?_)
    have hv3 : v3 = .int ((1 + em.2 : Nat) : Int) := hv3
    subst hv3
    have dm3 := dm2.ex e3
    have g3 := e3 _ _ g2
    dsimp only
    refine fun a ha => ⟨_, rfl, ⟨_, rfl, ?_⟩⟩
    have ea := Evl.Ex.new (H := H3) (o := .dK []) ha
    have Xa : X a = false := dm3.new ha
    have hap : a ≠ p := fun z => by rw [z] at Xa; rw [hX] at Xa; cases Xa
    have hda : dr ≠ a := fun z => by rw [← z] at ha; rw [g3] at ha; cases ha
    have pn3 := pn2.mono (e3.trans ea) (Nat.le_refl _)
    have dma : Dm X (upd H3 a (.dK [])) := dm3.ex ea
    dsimp only [tPairs, tC]
    have hit : EiX K X (iRng1 (tCons (tVar 4) tNil)) [some (.ref p), some (.ref d), some (.int (m : Nat)), some (.ref dr), some (.int ((1 + em.2 : Nat) : Int)), none, none] (upd H3 a (.dK [])) rInt ((List.range (1 + em.2)).map fun j => ((j : Nat) : Int)) := eix_range1 (by omega) (er_var (i := 4) rfl rfl)
    refine run_lcP (K := K) (X := X) (r := rNat) (s := rInt) (cst := 1) (S := fun _ _ => True) hit dma hX pn3 (by rw [List.length_map, List.length_range]; omega) (fun i hi Y v H5 kk hY dmY eY hv pn5 hkk Q5 q5 => ?_) fun v outs H5 off5 pn5 dm5 hv5 hol hos => ?_
    · rw [List.length_map, List.length_range] at hkk
      obtain ⟨iN, _, rfl⟩ := List.mem_map.mp hi
      have hv : v = .int ((iN : Nat) : Int) := hv
      subst hv
      unfold tTest tOp
      refine run_draw (K := K) (X := Y) (i := 0) rfl er_int dmY pn5 (by omega) (by decide) (by decide) fun g H6 g0 g1 off6 pn6 => ?_
      refine ⟨rfl, _, rfl, q5 _ H6 off6 (fun _ => pn6.mono (Evl.Ex.refl _) (by omega)) fun _ Q q6 => ⟨_, rfl, q6 _ iN H6 off6 (pn6.mono (Evl.Ex.refl _) (by omega)) rfl trivial⟩⟩
    · rw [List.length_map, List.length_range] at pn5
      refine ⟨_, rfl, off5 _ _ hap upd_same, [(.inr "places", .ref d), (.inr "rows", .ref dr), (.inr "yes", v), (.inr "many", .int ((1 + em.2 : Nat) : Int))], rfl, (by show 4 ≤ 15; decide), ?_⟩
      have g5 : H5 dr = some (.dT (kvsT t)) := off5 _ _ hdp (ea _ _ g3)
      have hpa : p ≠ a := fun z => hap z.symm
      have hca : c ≠ a := fun z => (pn2.mono e3 (Nat.le_refl _)).cat (by rw [z]; exact ha)
      refine q (.ref a) t outs _ hT ?_ ((pn5.upd hpa hca).mono (Evl.Ex.refl _) (by omega)) ⟨a, _, dr, v, rfl, .inl (by rw [hid_out Xa, upd_same]), by rfl, by rfl, .inl (by rw [hid_out Xdr, upd_ne hda]; exact g5), ?_⟩
      · have o1 : Off p H H3 := (off1.trans off2).trans (Off.ex e3)
        refine fun b o hb h => ?_
        have hba : b ≠ a := fun z => by
          have := o1 b o hb h
          rw [z, ha] at this
          cases this
        rw [upd_ne hba]
        exact off5 _ _ hb (by rw [upd_ne hba]; exact o1 b o hb h)
      · exact nat_upd hv5 (off5 _ _ hap upd_same)
/-- tuple(list of numbers) -/
theorem er_tupNs {xs : List Nat} (h : Er K X te σ H (rLst rNat) xs) : Er K X (tCB (rTupOf K) (tCons te tNil)) σ H rNs xs := er_cb1 h fun v H1 _ dm ⟨a, vs, hv, hs, hp⟩ Q k =>
  ⟨a, vs, by rw [hv], .inl ⟨sql_hid hs, fun l hl => k _ _ (Evl.Ex.new hl) ⟨l, rfl, by
    rw [hid_out (dm.new hl), upd_same, show vs = xs.map fun n => V.int (n : Nat) from Paired.to_map (fun _ _ z => z) hp]⟩⟩⟩
/-- plan["rows"][row] -/
theorem er_planRow {pl : Tb × List Nat} {x : Row} {m : Nat} {i : Nat} (h : Er K X te σ H rPlan pl) (h2 : Er K X ta σ H rRow x) (hm : lt_ pl.1 x = some m) : Er K X (tDGet (tDGet te (tC (.str "rows"))) ta) σ H rNat m := fun H1 e dm Q k =>
  h H1 e dm _ fun v H2 e2 ⟨a, kvs, dr, yv, h1, h3, h4, h5, h6, h7⟩ => ⟨a, .ref dr, h1, .inl ⟨kvs, .inr "rows", rd_hid trivial h3, rfl, h4.symm⟩, h2 H2 (e.trans e2) (dm.ex e2) _ fun w H3 e3 ⟨b, hw, hb⟩ => ⟨dr, .int (m : Nat), rfl, .inr ⟨kvsT pl.1, keyR x, b, Evl.ex_rd e3 (rd_hid trivial h6), hw, by rw [hid_get _ _ hb, keyR_kV], by rw [valV_T, hm]; rfl⟩, k _ H3 (e2.trans e3) rfl⟩⟩
theorem er_planYes {pl : Tb × List Nat} (h : Er K X te σ H rPlan pl) : Er K X (tDGet te (tC (.str "yes"))) σ H (rLst rNat) pl.2 := fun H1 e dm Q k =>
  h H1 e dm _ fun v H2 e2 ⟨a, kvs, dr, yv, h1, h3, h4, h5, h6, h7⟩ => ⟨a, yv, h1, .inl ⟨kvs, .inr "yes", rd_hid trivial h3, rfl, h5.symm⟩, k _ H2 e2 h7⟩
abbrev NLawKind : List Str := ["plan", "term", "row", "part"]
theorem scLawKind : FnScope NLawKind ["plan", "term"] (defScope sLawKind) := ⟨rfl, rfl, rfl, by decide +kernel, rfl, by decide +kernel, by decide +kernel⟩
def OkPl (pl : Tb × List Nat) (t : Tm) (k : Nat) : Prop := ∃ wd, OkV wd ∧ OkT wd pl.1 ∧ t.ok wd ∧ t.deep ≤ k ∧ t.named
abbrev spKind (K : Frag) (k : Nat) : Sp := SpF (A2 rPlan rTm fun pl t => OkPl pl t k) K rNat fun p => kindOf p.1.1 p.2
theorem ok_kind (B : Bi mg) (D : Dfn K mg "_law_kind" sLawKind ["plan", "term"]) : ∀ k, Kp P w K mg base (k + 1) "_law_kind" ["plan", "term"] (spKind K k)
  | 0 => D.kp fun f fd F hm b => F.ok scLawKind len2 fun cdv A outer s H vs Q E hr ⟨⟨pl, t⟩, X, dm, ⟨v, v2, e, h, h2, wd, _, _, _, hd, _⟩, q⟩ => by
      cases t with
      | nd a ps =>
        have hd' : (Tm.nd a ps).deep ≤ 0 := hd
        unfold Tm.deep at hd'
        omega
  | k + 1 => D.kp fun f fd F hm b => F.ok scLawKind len2 fun cdv A outer s H vs Q E hr ⟨⟨pl, t⟩, X, dm, ⟨v, v2, e, h, h2, wd, hw, hT, hok, hd, hnm⟩, q⟩ => by
      subst e
      have c_law_kind := ok_kind B D k
      refine ⟨_, (pss_cons (ps_set (i := 2) scLawKind.nd rfl (.inl rfl) (pe_op op_catA (pe_tup (pa_cons (pe_ix ix_tup (pv 1) pe_int (fun _ _ => rfl)) pa_nil)) (pe_callTy call_tuple_of rfl B.tuple (by decide +kernel) (pa_cons (pe_lc (own := [("part", 3)]) (g := gName 3) (tt := tYes) rfl scLawKind.nd (pi_tup (pe_slice sl_tupA (pv 1) (po_some pe_int) po_none)) (blkOk_by (N := NLawKind) (sc := defScope sLawKind) (by decide +kernel)) (fun _ _ _ _ _ => (pg_name (i := 3) scLawKind.nd rfl (.inl rfl))) (fun _ _ _ _ _ => pts_nil) (fun _ _ _ _ _ => (pe_kp c_law_kind hr (by omega) (pa_cons (pv 0) (pa_cons (pv 3) pa_nil))))) pa_nil))))
    (pss_one (ps_ret (pe_dget (hu_of hr) (pe_dget (hu_of hr) (pv 0) pe_str (fun _ _ => rfl)) (pv 2) (fun _ _ => rfl))))), ?_⟩
      cases t with
      | nd a ps =>
      have hok : (Tm.nd a ps).ok wd := hok
      have hd : (Tm.nd a ps).deep ≤ k + 1 := hd
      have hnm : (Tm.nd a ps).named := hnm
      have h2 : rTm K (hid X H) v2 (.nd a ps) := h2
      have h : rPlan K (hid X H) v pl := h
      have hok' := hok
      unfold Tm.ok at hok'
      unfold Tm.named at hnm
      unfold Tm.deep at hd
      obtain ⟨ks, hT1, hT2, hT3⟩ := hT.all
      obtain ⟨m, hm, hmk⟩ := kind_in hw hT1 hT2 (.nd a ps) hok
      have hm : lt_ pl.1 (a, kindsOf pl.1 ps) = some m := hm
      have hpl : ps.length ≤ 3 := (hw.good _ (lk_mem hok'.1)).2
      have mP := (inferInstance : Mono rPlan)
      refine sq (st_set (K := K) (X := X) (r := rRow) (x := (a, kindsOf pl.1 ps)) (er_rowCat (er_w1 (er_head (t := .nd a ps) (er_var (i := 1) rfl h2) er_int)) (er_tupNs (by
        rw [kindsOf_map]
        exact er_lc (r := rTm) (s := rNat) (xs := ps) (f := kindOf pl.1) (ei_tup (er_tail (t := .nd a ps) (er_var (i := 1) rfl h2) er_int)) (by omega) fun d hdm Y v3 H3 e3 hv3 => er_call2 (r := rPlan) (s := rTm) (f := fun p : (Tb × List Nat) × Tm => kindOf p.1.1 p.2) (x := pl) (y := d) (er_var (i := 0) rfl (mP.mono e3.le h)) (er_var (i := 3) rfl hv3) ⟨wd, hw, hT, Tm.oks_mem hok'.2 hdm, Tm.deeps_le (by omega) d hdm, named_mem hnm.2 hdm⟩)) (by rw [kindsOf_map, List.length_map]; omega)) dm fun v3 H3 e3 hv3 => ?_)
      dsimp only
      refine ret_of (K := K) (X := X) (r := rNat) (x := kindOf pl.1 (.nd a ps)) ?_ (dm.ex e3) fun v' H' e' hv => q v' H' (e3.trans e') hv
      refine Er.is (er_planRow (i := 0) (er_var (i := 0) rfl (mP.mono (hid_le e3) h)) (er_var (i := 2) rfl hv3) hm) ?_
      unfold kindOf
      rw [hm]
      rfl
abbrev NLawSays : List Str := ["plan", "term"]
theorem scLawSays : FnScope NLawSays ["plan", "term"] (defScope sLawSays) := ⟨rfl, rfl, rfl, by decide +kernel, rfl, by decide +kernel, by decide +kernel⟩
abbrev spSays (K : Frag) (k : Nat) : Sp := SpF (A2 rPlan rTm fun pl t => OkPl pl t k) K rBl fun p => decide (kindOf p.1.1 p.2 ∈ p.1.2)
theorem er_natIn {g : Nat} {ks : List Nat} (h : Er K X te σ H rNat g) (h2 : Er K X ta σ H (rLst rNat) ks) : Er K X (tOp (rIn K false) te ta) σ H rBl (decide (g ∈ ks)) := er_two h h2 fun v w H1 _ _ hv ⟨a, vs, hw, hs, hp⟩ Q k => by
  have hv : v = .int (g : Nat) := hv
  subst hv
  have e : vs = ks.map fun n => V.int (n : Nat) := Paired.to_map (fun _ _ z => z) hp
  refine ⟨a, vs, hw, .inl (sql_hid hs), rfl, ?_, ?_⟩
  · rw [e, List.all_map]
    exact List.all_eq_true.mpr fun _ _ => rfl
  · rw [if_neg (by decide), e, inV_nat]
    exact k _ _ (Evl.Ex.refl _) rfl
theorem ok_says {k : Nat} (c_law_kind : Kp P w K mg base (k + 1) "_law_kind" ["plan", "term"] (spKind K k)) (D : Dfn K mg "_law_says" sLawSays ["plan", "term"]) : Kp P w K mg base (k + 2) "_law_says" ["plan", "term"] (spSays K k) :=
  D.kp fun f fd F hm b => F.ok scLawSays len2 fun cdv A outer s H vs Q E hr ⟨⟨pl, t⟩, X, dm, ⟨v, v2, e, h, h2, hp⟩, q⟩ => by
    subst e
    refine ⟨_, (pss_one (ps_ret (pe_cmpR op_in_seq (pe_kp c_law_kind hr (by omega) (pa_cons (pv 0) (pa_cons (pv 1) pa_nil))) (pe_dget (hu_of hr) (pv 0) pe_str (fun _ _ => rfl)) (by rfl)))), ?_⟩
    refine ret_of (K := K) (X := X) (r := rBl) (x := decide (kindOf pl.1 t ∈ pl.2)) ?_ dm q
    exact er_natIn (er_call2 (r := rPlan) (s := rTm) (f := fun p : (Tb × List Nat) × Tm => kindOf p.1.1 p.2) (x := pl) (y := t) (er_var (i := 0) rfl h) (er_var (i := 1) rfl h2) hp) (er_planYes (er_var (i := 0) rfl h))
end
end Q
set_option maxHeartbeats 8000000
/-! F44: drawn rules. -/
namespace Q
open PySem PySem.Spec PyProof.Rows L2
def T4 : List Tx := [[111, 100, 100], [101, 118, 101, 110], [116], [122, 122, 122, 122, 122, 122, 122, 122]]
theorem T4_name : ∀ x ∈ T4, isName x = true := by decide +kernel
section
variable {P : Program} {w : World} {K : Frag} {mg : Str → Option Value} {base : Heap} {X : Hs} {σ : L2.St} {H : Hp} {te ta tb ti td : TE} {α β γ : Type} {r : Rel α} {s : Rel β} {D : Ends}
/-- range(te), te draws -/
theorem for_rng {te : TE} {g : TG} {tb : TS} (h : te σ H fun v H1 => tFor (iRng1 (tCons (tC v) tNil)) g tb D σ H1) : tFor (iRng1 (tCons te tNil)) g tb D σ H := h
theorem lc_rng {te tb : TE} {g : TG} {tt : TT} {vs : List Nat} {Q : VK} (h : te σ H fun v H1 => tLc (iRng1 (tCons (tC v) tNil)) g tt tb vs σ H1 Q) : tLc (iRng1 (tCons te tNil)) g tt tb vs σ H Q := h
theorem asg_of {te : TE} {g : TG} (h : te σ H fun v H1 => g v σ H1 D.nx) : tAsg te g D σ H := h
theorem asg_tup2 {ta tb : TE} {g : TG} (h : ta σ H fun v H1 => tb σ H1 fun w H2 => [v, w].length ≤ sizeLine ∧ ∀ p, H2 p = none → g (.ref p) σ (upd H2 p (.tup [v, w])) D.nx) : tAsg (tTup (tCons ta (tCons tb tNil))) g D σ H := h
abbrev NLawRules : List Str := ["pen", "places", "traits", "rows", "turn", "name", "wants", "place"]
theorem scLawRules : FnScope NLawRules ["pen", "places"] (defScope sLawRules) := ⟨rfl, rfl, rfl, by decide +kernel, rfl, by decide +kernel, by decide +kernel⟩
def spRules (K : Frag) : Sp := fun vs H Q _ => ∃ p c n wd X, ∃ dv : V, vs = [.ref p, dv] ∧ X p = true ∧ Dm X H ∧ Pen H p c n ∧ n + 100 < 1000000 ∧ rDct K (hid X H) dv wd ∧ OkV wd ∧
  ∀ v l H', l.length ≤ 5 → (∀ x ∈ l, OkRu (srtW wd) x ∧ x.1 ∈ T4 ∧ ∀ m ∈ x.2.2, ∀ y ∈ m, y ∈ T4) → Off p H H' → Pen H' p c (n + 100) → rLst rRu K (hid X H') v l → Q v H'
theorem ok_rules (B : Bi mg) (c_law_draw : Kp P w K mg base 1 "_law_draw" ["pen", "many"] spDraw) (c_law_pick : Kp P w K mg base 2 "_law_pick" ["pen", "some"] (spPick K)) (c_law_mixed : Kp P w K mg base 2 "_law_mixed" ["pen", "some"] (spMixed K)) (D : Dfn K mg "_law_rules" sLawRules ["pen", "places"]) : Kp P w K mg base 3 "_law_rules" ["pen", "places"] (spRules K) :=
  D.kp fun f fd F hm b => F.ok scLawRules (fun vs H Q E ⟨p, c, n, wd, X, dv, e, _⟩ => by rw [e]; rfl) fun cdv A outer s H vs Q E hr ⟨p, c, n, wd, X, dv, e, hX, dm, hp, hz, hd, ok, q⟩ => by
    subst e
    refine ⟨_, (pss_cons (ps_asg (pe_tup (pa_cons (pe_lst (pa_cons pe_str (pa_cons pe_str (pa_cons pe_str (pa_cons pe_str pa_nil))))) (pa_cons (pe_lst pa_nil) pa_nil))) (pg_tup rfl (pgs_cons (pg_name (i := 2) scLawRules.nd rfl (.inr rfl)) (pgs_cons (pg_name (i := 3) scLawRules.nd rfl (.inl rfl)) pgs_nil))))
    (pss_cons (ps_for PassesOwn.never rfl (pi_range1 (by rfl) B.range (pa_cons (pe_kp c_law_draw hr (by decide) (pa_cons (pv 0) (pa_cons pe_int pa_nil))) pa_nil)) (pg_name (i := 4) scLawRules.nd rfl (.inl rfl)) (pss_cons (ps_set (i := 5) scLawRules.nd rfl (.inl rfl) (pe_kp c_law_pick hr (by decide) (pa_cons (pv 0) (pa_cons (pe_callB cr_sortedS rfl B.sorted (by decide +kernel) (pa_cons (pe_callTy (call_listD rfl) rfl B.list (by decide +kernel) (pa_cons (pv 1) pa_nil)) pa_nil)) pa_nil))))
    (pss_cons (ps_set (i := 6) scLawRules.nd rfl (.inl rfl) (pe_callTy call_tuple_of rfl B.tuple (by decide +kernel) (pa_cons (pe_lc (own := [("place", 7)]) (g := gName 7) (tt := tYes) (te := tCB (rTupOf K) (tCons (tSl (rSlL K) (tCall (spMixed K) [] E0 (tCons (tVar 0) (tCons (tVar 2) tNil))) tNoPart (tPart (tCall spDraw [] E0 (tCons (tVar 0) (tCons (tC (.int 3)) tNil))))) tNil)) rfl scLawRules.nd (pi_range1 (by rfl) B.range (pa_cons (pe_dget (hu_of hr) (pv 1) (pv 5) (fun _ _ => rfl)) pa_nil)) (blkOk_by (N := NLawRules) (sc := defScope sLawRules) (by decide +kernel)) (fun _ _ _ _ _ => (pg_name (i := 7) scLawRules.nd rfl (.inl rfl))) (fun _ _ _ _ _ => pts_nil) (fun _ _ _ _ _ => (pe_callTy call_tuple_of rfl B.tuple (by decide +kernel) (pa_cons (pe_slice sl_list (pe_kp c_law_mixed hr (by decide) (pa_cons (pv 0) (pa_cons (pv 2) pa_nil))) po_none (po_some (pe_kp c_law_draw hr (by decide) (pa_cons (pv 0) (pa_cons pe_int pa_nil))))) pa_nil)))) pa_nil)))
    (pss_one (ps_expr (pe_bm PySem.F.plainAttrs_list PySem.F.slot_list_append PySem.F.type_list_append mt_append (pv 3) (pa_cons (pe_tup (pa_cons (pe_kp c_law_pick hr (by decide) (pa_cons (pv 0) (pa_cons (pv 2) pa_nil))) (pa_cons (pv 5) (pa_cons (pv 6) pa_nil)))) pa_nil)))))))
    (pss_one (ps_ret (pv 3))))), ?_⟩
    have mD := (inferInstance : Mono rDct)
    have mT := (inferInstance : Mono (rLst rTx))
    have mR := (inferInstance : Mono (rLst rRu))
    have hl4 : (wd.map Prod.fst).length ≤ 4 := by rw [List.length_map]; exact ok.few
    refine sq (asg_tup2 ?_)
    refine (er_lstE (K := K) (X := X) (r := rTx) (xs := T4) (.cons (er_tx (by decide +kernel)) (.cons (er_tx (by decide +kernel)) (.cons (er_tx (by decide +kernel)) (.cons (er_tx (by decide +kernel)) .nil)))) (by decide)).go dm fun tv H1 e1 htv => ⟨Nat.zero_le _, fun o ho => ⟨(by show 2 ≤ sizeLine; decide), fun a ha => ⟨a, [tv, .ref o], rfl, .inl (.inl upd_same), rfl, _, _, rfl, _, _, rfl, rfl, ?_⟩⟩⟩
    have dm1 := dm.ex e1
    have en := Evl.Ex.new (H := H1) (o := .lst []) ho
    have ea := Evl.Ex.new (o := .tup [tv, .ref o]) ha
    have E2 := en.trans ea
    generalize hH2 : upd (upd H1 o (.lst [])) a (.tup [tv, .ref o]) = H2
    rw [hH2] at ea E2
    have go : H2 o = some (.lst []) := ea _ _ upd_same
    have Xo : X o = false := dm1.new ho
    have hop : o ≠ p := fun z => by rw [z, hX] at Xo; cases Xo
    have dm2 : Dm (X.and o) H2 := Dm.and (dm1.ex E2) (by rw [go]; exact fun z => nomatch z)
    have X2p : X.and o p = true := by
      show (X p || decide (p = o)) = true
      rw [hX]; rfl
    have X2o : X.and o o = true := Hs.and_at _ _
    have hpo : p ≠ o := hop.symm
    have pn2 : Pen H2 p c n := hp.mono (e1.trans E2) (Nat.le_refl _)
    have hco : c ≠ o := fun z => (hp.mono e1 (Nat.le_refl _)).cat (by rw [z]; exact ho)
    have htv2 : rLst rTx K (hid (X.and o) H2) tv T4 := mT.mono (hid_and E2 ho).le htv
    have hd2 : rDct K (hid (X.and o) H2) dv wd := mD.mono (hid_and E2 ho).le (mD.mono (hid_le e1) hd)
    dsimp only
    refine sq (for_rng ?_)
    refine run_draw (K := K) (X := X.and o) (i := 0) rfl er_int dm2 pn2 (by omega) (by decide) (by decide) fun g H3 g0 g1 off3 pn3 => ?_
    obtain ⟨gn, rfl⟩ : ∃ gn : Nat, g = gn := ⟨g.toNat, by omega⟩
    have dm3 := dm2.off' off3 pn3.at
    have go3 : H3 o = some (.lst []) := off3 _ _ hop go
    have htv3 := mT.mono (off3.hid X2p).le htv2
    have hd3 := mD.mono (off3.hid X2p).le hd2
    have hzz : True := trivial
    refine st_forX (K := K) (X := X.and o) (r := rInt) (xs := (List.range gn).map fun j => ((j : Nat) : Int)) (fun B j σ' H' => ∃ t4 t5 t6 vs l, σ' = [some (.ref p), some dv, some tv, some (.ref o), t4, t5, t6, none] ∧ Off2 p o B H' ∧ H' o = some (.lst vs) ∧ Paired (rRu K (hid (X.and o) H')) vs l ∧ Pen H' p c (n + 1 + 17 * j) ∧ l.length = j ∧ ∀ x ∈ l, OkRu (srtW wd) x ∧ x.1 ∈ T4 ∧ ∀ m ∈ x.2.2, ∀ y ∈ m, y ∈ T4)
      (eix_range1 (by omega) (show Er K (X.and o) (tC (.int ((gn : Nat) : Int))) _ _ rInt ((gn : Nat) : Int) from er_int)) dm3 (fun B eB => ⟨_, _, _, [], [], rfl, Off2.refl _ _ _, eB _ _ go3, .nil, pn3.mono eB (by omega), rfl, fun x hx => absurd hx (by simp)⟩) (fun B j σ' H' eB ⟨_, _, _, _, _, _, off, _⟩ => off.hid X2p X2o) ?_ ?_
    · rintro B j iv σ' H' eB hi ⟨t4, t5, t6, vs, l, rfl, off, hvs, hpd, pn, hll, hok⟩ v H4 e4 hv
      have hj : j < gn := by
        have := (List.getElem?_eq_some_iff.mp hi).1
        rw [List.length_map, List.length_range] at this
        exact this
      refine gN ?_
      have dmH : Dm (X.and o) H' := off.dm pn.at (by rw [hvs]; exact fun z => nomatch z) (dm3.ex eB)
      have dm4 := dmH.ex e4
      have pn4 := pn.mono e4 (Nat.le_refl _)
      have offB4 : Off2 p o B H4 := off.trans (Off2.ex e4)
      have EX4 : Ex (hid (X.and o) H3) (hid (X.and o) H4) := Evl.Ex.trans (hid_ex eB) (offB4.hid X2p X2o)
      have hd4 := mD.mono EX4.le hd3
      have htv4 := mT.mono EX4.le htv3
      have hvs4 := e4 _ _ hvs
      refine sq ?_
      refine run_pick (K := K) (X := X.and o) (i := 0) (r := rTx) (xs := srtTx (wd.map Prod.fst)) rfl X2p (er_srt (er_listD (er_var (i := 1) rfl hd4)) (by omega)) dm4 pn4 (by omega) (fun z => ok.ne (List.map_eq_nil_iff.mp (List.perm_nil.mp (z ▸ (srtTx_perm (wd.map Prod.fst)).symm)))) (by rw [(srtTx_perm _).length_eq]; omega) fun nv x H5 hx off5 pn5 dm5 hv5 => ?_
      obtain ⟨pr, hpr, rfl⟩ := List.mem_map.mp ((srtTx_perm _).mem_iff.mp hx)
      have hl : lk wd pr.1 = some pr.2 := lk_of ok.nd hpr
      have hpr3 := (ok.good pr hpr).2
      have hnv : nv = .str (S pr.1) := hv5
      subst hnv
      have hd5 := mD.mono (off5.hid X2p).le hd4
      have htv5 := mT.mono (off5.hid X2p).le htv4
      dsimp only
      refine gN ?_
      refine sq (asg_of (cb1_of ?_))
      have hit : EiX K (X.and o) (iRng1 (tCons (tDGet (tVar 1) (tVar 5)) tNil)) [some (.ref p), some dv, some tv, some (.ref o), some v, some (.str (S pr.1)), t6, none] H5 rInt ((List.range pr.2).map fun j => ((j : Nat) : Int)) := eix_range1 (n := pr.2) (by omega) (er_nat (er_dget (w := wd) (er_var (i := 1) rfl hd5) (er_var (i := 5) rfl rfl) hl))
      refine run_lcE (K := K) (X := X.and o) (r := rTup rTx) (s := rInt) (cst := 5) (S := fun _ l => okWants l ∧ ∀ y ∈ l, y ∈ T4) hit dm5 X2p pn5 (by rw [List.length_map, List.length_range]; omega) (fun i hi Y v6 H6 kk hY dmY eY hv6 pn6 hkk Q6 q6 => ?_) fun lv outs H6 off6 pn6 dm6 hv6 hol hos => ?_
      · rw [List.length_map, List.length_range] at hkk
        refine cb1_of ?_
        unfold tSl tNoPart tPart
        have htv6 := mT.mono eY.le htv5
        refine run_mixed (K := K) (X := Y) (i := 0) (r := rTx) (xs := T4) rfl hY (er_var (i := 2) rfl htv6) dmY pn6 (by show _ + 4 < _; omega) fun mv ms H7 hms off7 pn7 dm7 hmv => ?_
        have pn7 : Pen H7 p c (n + 1 + 17 * j + 1 + kk * 5 + 4) := pn7
        refine run_draw (K := K) (X := Y) (i := 0) rfl er_int dm7 pn7 (by omega) (by decide) (by decide) fun g2 H8 g20 g21 off8 pn8 => ?_
        obtain ⟨gm, rfl⟩ : ∃ gm : Nat, g2 = gm := ⟨g2.toNat, by omega⟩
        obtain ⟨ma, mvs, rfl, hmsq, hmpd⟩ := mT.mono (off8.hid hY).le hmv
        have dm8 := dm7.off' off8 pn8.at
        refine ⟨_, rfl, ma, mvs, rfl, sql_hid hmsq, fun la hla => ?_⟩
        have e9 := Evl.Ex.new (H := H8) (o := .lst (cutV mvs none (some ((gm : Nat) : Int)))) hla
        refine ⟨la, cutV mvs none (some ((gm : Nat) : Int)), rfl, .inl ⟨.inl (.inl upd_same), fun ta hta => ?_⟩⟩
        have e10 := Evl.Ex.new (H := upd H8 la (.lst (cutV mvs none (some ((gm : Nat) : Int))))) (o := .tup (cutV mvs none (some ((gm : Nat) : Int)))) hta
        have hT : ∀ y ∈ ms.take gm, y ∈ T4 := fun y hy => hms.mem_iff.mp (List.take_subset _ _ hy)
        refine q6 _ (ms.take gm) _ ((off7.trans off8).trans (Off.ex (e9.trans e10))) (pn8.mono (e9.trans e10) (by omega)) ⟨ta, _, rfl, .inl (.inl (by rw [hid_out ((dm8.ex e9).new hta), upd_same])), ?_⟩ ⟨⟨?_, fun y hy => T4_name y (hT y hy)⟩, hT⟩
        · rw [cut_take]
          exact Paired.take gm (Paired.mono (fun _ _ z => z) hmpd)
        · rw [List.length_take, hms.length_eq]
          show min gm 4 ≤ 20
          omega
      · rw [List.length_map, List.length_range] at hol pn6
        obtain ⟨la, lvs, rfl, hlsq, hlpd⟩ := hv6
        refine ⟨la, lvs, rfl, .inl ⟨sql_hid hlsq, fun wa hwa => ?_⟩⟩
        have e7 := Evl.Ex.new (H := H6) (o := .tup lvs) hwa
        have dm7 := dm6.ex e7
        have hwa7 : rTup (rTup rTx) K (hid (X.and o) (upd H6 wa (.tup lvs))) (.ref wa) outs := ⟨wa, lvs, rfl, .inl (.inl (by rw [hid_out (dm6.new hwa), upd_same])), Paired.mono (fun _ _ z => (inferInstance : Mono (rTup rTx)).mono (hid_le e7) z) hlpd⟩
        generalize hH7 : upd H6 wa (.tup lvs) = H7 at e7 dm7 hwa7
        have hvs7 : H7 o = some (.lst vs) := e7 _ _ (off6 _ _ hop (off5 _ _ hop hvs4))
        have htv7 : rLst rTx K (hid (X.and o) H7) tv T4 := mT.mono (Evl.Ex.trans (off6.hid X2p) (hid_ex e7)).le htv5
        have hvl := Paired.len hpd
        dsimp only
        refine gN ?_
        refine ⟨.ref o, rfl, .inl ⟨rfl, vs, .inl (.inl hvs7)⟩, ?_⟩
        refine run_pick (K := K) (X := X.and o) (i := 0) (r := rTx) (xs := T4) rfl X2p (er_var (i := 2) rfl htv7) dm7 (pn6.mono e7 (Nat.le_refl _)) (by omega) (by decide) (by decide) fun qv x H8 hx off8 pn8 dm8 hv8 => ⟨_, rfl, _, rfl, (by show 3 ≤ sizeLine; decide), fun rp hrp => ?_⟩
        have hqv : qv = .str (S x) := hv8
        subst hqv
        have e9 := Evl.Ex.new (H := H8) (o := .tup [.str (S x), .str (S pr.1), .ref wa]) hrp
        have dm9 := dm8.ex e9
        have hvs8 : H8 o = some (.lst vs) := off8 _ _ hop hvs7
        refine ⟨o, vs, .ref rp, rfl, rfl, e9 _ _ hvs8, size_lt (by omega), ?_⟩
        have EX9 : Ex (hid (X.and o) H') (hid (X.and o) (upd H8 rp (.tup [.str (S x), .str (S pr.1), .ref wa]))) := Evl.Ex.trans (hid_ex e4) (Evl.Ex.trans (off5.hid X2p) (Evl.Ex.trans (off6.hid X2p) (Evl.Ex.trans (hid_ex e7) (Evl.Ex.trans (off8.hid X2p) (hid_ex e9)))))
        have hrow : rRu K (hid (X.and o) (upd H8 rp (.tup [.str (S x), .str (S pr.1), .ref wa]))) (.ref rp) (x, pr.1, outs) := ⟨rp, _, _, _, rfl, .inl (.inl (by rw [hid_out (dm8.new hrp), upd_same])), rfl, rfl, (inferInstance : Mono (rTup (rTup rTx))).mono (Evl.Ex.trans (off8.hid X2p) (hid_ex e9)).le hwa7⟩
        have hlen1 : outs.length = pr.2 := hol
        refine ⟨_, _, _, vs ++ [.ref rp], l ++ [(x, pr.1, outs)], rfl, ?_, upd_same, ?_, ?_, ?_, fun y hy => ?_⟩
        · exact offB4.trans ((Off2.off (((off5.trans off6).trans (Off.ex e7)).trans (off8.trans (Off.ex e9)))).trans Off2.upd)
        · rw [hid_upd X2o]
          exact Paired.snoc' (Paired.mono (fun _ _ z => (inferInstance : Mono rRu).mono EX9.le z) hpd) hrow
        · exact ((pn8.mono e9 (Nat.le_refl _)).upd hpo hco).mono (Evl.Ex.refl _) (by omega)
        · rw [List.length_append, hll]; rfl
        · rcases List.mem_append.mp hy with hy | hy
          · exact hok y hy
          · rw [List.mem_singleton.mp hy]
            refine ⟨⟨T4_name x hx, ?_, fun m hm => (hos m hm).elim fun _ h => h.2.1, by rw [hlen1]; exact hpr3⟩, hx, fun m hm => (hos m hm).elim fun _ h => h.2.2⟩
            show lk (srtW wd) pr.1 = some outs.length
            rw [hlen1, ← hl]
            exact lk_perm (srtW_perm ok.nd) ((srtW_perm ok.nd).map Prod.fst |>.nodup_iff.mpr ok.nd) _
    · rintro B σ' H' eB ⟨t4, t5, t6, vs, l, rfl, off, hvs, hpd, pn, hll, hok⟩
      rw [List.length_map, List.length_range] at hll pn
      refine ⟨_, rfl, ?_⟩
      refine q (.ref o) l H' (by omega) hok ?_ (pn.mono (Evl.Ex.refl _) (by omega)) ⟨o, vs, rfl, .inl (.inl (by rw [hid_out Xo]; exact hvs)), Paired.mono (fun _ _ z => (inferInstance : Mono rRu).mono hid_sub.le z) hpd⟩
      refine fun b z hb h => ?_
      have h1 := e1 _ _ h
      have hbo : b ≠ o := fun y => by rw [y, ho] at h1; cases h1
      exact off b z hb hbo (eB _ _ (off3 _ _ hb (E2 _ _ h1)))
end
end Q
set_option maxHeartbeats 8000000
/-! F45: refusals. -/
namespace Q
open PySem PySem.Spec PyProof.Rows L2
/-- an own error C by the name x, its __init__ -/
structure OwnX (P : Program) (w : World) (K : Frag) (mg : Str → Option Value) (base : Heap) (C : Addr) (x : Str) : Prop where
  oex : OexC K C
  mgC : mg x = some (.ref C)
  ex : ∃ fI fd, PySem.W.findIn K (.ref C) "__init__" = some (some (.ref fI)) ∧ PySem.W.typeIn K (.ref fI) = some (.type "function") ∧ FnOk P w K mg base CX0 1 fI fd ["self", "at"] (spExI C "at") ∧ Binds K fd ["self", "at"] []
/-- a value that is no C is refused by the error CB(None) -/
def spBad (K : Frag) (C CB : Addr) : Sp := fun vs H Q E => ∃ v t, vs = [v] ∧ TyX K H v t ∧ PySem.W.kitOne K t (.ref C) = some false ∧ ∀ d H', Ex H H' → H' d = some (.xd [("at", .non)]) → E (.ref CB) (some d) H'
/-- .. a name that lets errors out -/
def KpX (P : Program) (w : World) (K : Frag) (mg : Str → Option Value) (base : Heap) (k : Nat) (x : Str) (ps : List Str) (sp : Sp) : Prop :=
  ∃ f fd, FnOk P w K mg base (L2.CX P w) k f fd ps sp ∧ mg x = some (.ref f) ∧ PySem.W.keepIn K (.ref f) = true ∧ Binds K fd ps []
theorem Dfn.kpX {P : Program} {w : World} {K : Frag} {mg : Str → Option Value} {base : Heap} {k : Nat} {x : Str} {st : Stmt} {ps : List Str} {sp : Sp} (D : Dfn K mg x st ps) (h : ∀ f fd, Fun K x x st f fd → mg x = some (.ref f) → Binds K fd ps [] → FnOk P w K mg base (L2.CX P w) k f fd ps sp) : KpX P w K mg base k x ps sp := by
  obtain ⟨f, fd, F, hm, b⟩ := D.ex
  exact ⟨f, fd, h f fd F hm b, hm, F.kp, b⟩
section
variable {X : Cx} {k j : Nat} {x : Str} {ps : List Str} {sp : Sp} {e : Expr} {es : List Expr} {p pos : Pos} {t : TA} {E : XK}
theorem pe_kpX (c : KpX X.prog X.w X.K X.mg X.base k x ps sp) (hr : Room j X.A) (hk : k ≤ j) (hx : Passes (L2.CX X.prog X.w) X E) (ha : PA X (e :: es) t) (hg : Gl X x := by rfl) (hdb : (x == ("__debug__" : Str)) = false := by decide)
    (he : starEach (e :: es) X.env = (false, eval e X.env) :: starEach es X.env := by rfl) (hpl : (backTo pos (starEach es X.env)).any (·.1) = false := by rfl) : PE X (.Call (.Name x p) (e :: es) [] pos) (tCall sp [] E t) := by
  obtain ⟨f, fd, F, hm, kp, b⟩ := c
  exact pe_call F (hr.mono hk) hg hm kp b .nil hx ha hdb he hpl
end
section
variable {P : Program} {w : World} {K : Frag} {mg : Str → Option Value} {base : Heap} {X : Hs} {σ : L2.St} {H : Hp} {D : Ends} {C CB : Addr}
theorem run_bad {E : XK} (q : ∀ d H', Ex H H' → H' d = some (.xd [("at", .non)]) → E (.ref CB) (some d) H') : tMkO CB (spExI CB "at") [] (tCons (tC .non) tNil) σ H (fun cls d H' => E cls d H') := by
  refine ⟨(by show 1 ≤ 1000; decide), fun a ha => ⟨a, .non, rfl, upd_same, fun dx hdx hda => ⟨rfl, dx, [("at", .non)], upd_same, ?_, ?_, ?_⟩⟩⟩
  · rw [upd_ne hda, upd_same]
  · rw [upd_ne hda] at hdx; exact hdx
  · have hd1 : H dx = none := by rw [upd_ne hda] at hdx; exact hdx
    refine q dx _ (fun b o hb => ?_) upd_same
    have hba : b ≠ a := ne_of_none hb ha
    have hbd : b ≠ dx := ne_of_none hb hd1
    rw [upd_ne hbd]
    unfold del
    rw [if_neg hba, upd_ne hba, upd_ne hbd, upd_ne hba]
    exact hb
theorem ok_needLotX (B : Bi mg) (T : OwnL K mg C) (X : OwnX P w K mg base CB "BadLot") (D : Dfn K mg "need_lot" sNeedLot ["value"]) : KpX P w K mg base 3 "need_lot" ["value"] (spBad K C CB) :=
  D.kpX fun f fd F hm b => F.okX scNeedLot (fun vs H Q E ⟨v, t, e, _⟩ => by rw [e]; rfl) fun cdv A outer s H vs Q E hr ⟨v, t, e, hty, hk, q⟩ => by
    subst e
    obtain ⟨fI, fdI, iC, tI, F1, bI⟩ := X.ex
    refine ⟨_, (pss_one (ps_if (pt_not (pt_val (pe_callB call_isi rfl B.isinstance (by decide +kernel) (pa_cons (pv 0) (pa_cons (C8.pe_gc rfl T.gc) pa_nil))))) (pss_one (ps_raise rfl (takes_of rfl rfl rfl rfl) (pmk_oex X.oex iC tI F1 hr bI .nil pass0 rfl X.mgC (pa_cons pe_non pa_nil)))) pss_nil)), ?_⟩
    refine ⟨v, rfl, v, .ref C, t, .ref C, false, rfl, .own C, hty, hk, false, rfl, ?_⟩
    dsimp only
    rw [if_pos (show (!false) = true from rfl)]
    exact run_bad q
theorem ok_lotTextX (c_need_lot : KpX P w K mg base 3 "need_lot" ["value"] (spBad K C CB)) (D : Dfn K mg "lot_text" sLotText ["lot"]) : KpX P w K mg base 4 "lot_text" ["lot"] (spBad K C CB) :=
  D.kpX fun f fd F hm b => F.okX scLotText (fun vs H Q E ⟨v, t, e, _⟩ => by rw [e]; rfl) fun cdv A outer s H vs Q E hr ⟨v, t, e, hty, hk, q⟩ => by
    subst e
    refine ⟨_, (pss_cons (ps_expr (pe_kpX (E := E) c_need_lot hr (by decide) (passes_call (takes_of rfl rfl rfl rfl) fun _ _ _ _ h => h) (pa_cons (pv 0) pa_nil))) pss_never), ?_⟩
    exact ⟨v, rfl, v, t, rfl, hty, hk, q⟩
theorem ok_rulesTextX (B : Bi mg) (T : OwnR K mg C) (X : OwnX P w K mg base CB "BadRule") (D : Dfn K mg "rules_text" sRulesText ["rules"]) : KpX P w K mg base 3 "rules_text" ["rules"] (spBad K C CB) :=
  D.kpX fun f fd F hm b => F.okX scRulesText (fun vs H Q E ⟨v, t, e, _⟩ => by rw [e]; rfl) fun cdv A outer s H vs Q E hr ⟨v, t, e, hty, hk, q⟩ => by
    subst e
    obtain ⟨fI, fdI, iC, tI, F1, bI⟩ := X.ex
    refine ⟨_, (pss_cons (ps_if (pt_not (pt_val (pe_callB call_isi rfl B.isinstance (by decide +kernel) (pa_cons (pv 0) (pa_cons (C8.pe_gc rfl T.gc) pa_nil))))) (pss_one (ps_raise rfl (takes_of rfl rfl rfl rfl) (pmk_oex X.oex iC tI F1 hr bI .nil pass0 rfl X.mgC (pa_cons pe_non pa_nil)))) pss_nil) pss_never), ?_⟩
    refine sq ⟨v, rfl, v, .ref C, t, .ref C, false, rfl, .own C, hty, hk, false, rfl, ?_⟩
    dsimp only
    rw [if_pos (show (!false) = true from rfl)]
    exact run_bad q
end
end Q
set_option maxHeartbeats 4000000
/-! Q13: repr of a list of texts (where the guards are known: in the frame that the caller calls); a def as the caller calls it. -/
namespace Q
open PySem PySem.Spec PyProof.Rows L2
def reprL (ts : List Str) : Str := (PyData.list (ts.map PyData.str)).shown
def rRepr (K : Frag) : List V → Hp → VK → Prop := fun xs H Q => ∃ a ts, xs = [.ref a] ∧ SqL K H a (ts.map V.str) ∧ PyData.layable0 (.list (ts.map PyData.str)) = true ∧ Q (.str (reprL ts)) H
theorem readsAll_strs {h : Heap} : ∀ {ts : List Str} {us : List Value}, Vals (ts.map V.str) us → ReadsAll h us (ts.map PyData.str) []
  | [], _, .nil => .nil
  | t :: ts, u :: us, .cons r rs => by
    obtain ⟨tk, rfl⟩ := r
    exact .cons (as := []) (bs := []) (.str t tk) (readsAll_strs rs)
theorem depth_strs : ∀ ts : List Str, PyData.depthAll (ts.map PyData.str) = 0
  | [] => rfl
  | t :: ts => by
    show max (PyData.depth (.str t)) (PyData.depthAll (ts.map PyData.str)) = 0
    rw [depth_strs ts]
    rfl
theorem showable_strs : ∀ ts : List Str, PyData.showableAll (ts.map PyData.str) = true
  | [] => rfl
  | t :: ts => by
    show (PyData.showable (.str t) && PyData.showableAll (ts.map PyData.str)) = true
    rw [showable_strs ts]
    rfl
theorem noDict_strs : ∀ ts : List Str, PyData.hasDictAll (ts.map PyData.str) = false
  | [] => rfl
  | t :: ts => by
    show (PyData.hasDict (.str t) || PyData.hasDictAll (ts.map PyData.str)) = false
    rw [noDict_strs ts]
    rfl
theorem call_reprL {X : Cx} (hg : X.A.guards = some []) (hu : X.A.units + 2 < cLine) : CallR X (.builtin "repr") (rRepr X.K) := by
  intro pins s σ H xs us Q I r h
  obtain ⟨a, ts, rfl, hS, hl, q⟩ := h
  obtain ⟨u, rfl, ru⟩ : ∃ u, us = [u] ∧ RelV (.ref a) u := by
    cases r with
    | cons r1 r2 => cases r2; exact ⟨_, rfl, r1⟩
  obtain rfl : u = Value.ref a := ru
  obtain ⟨its, r, ⟨⟨cls, dd, data, sl⟩, n, ho, hc, hdd, hd⟩, _⟩ := I.list hS
  have R : Reads s.heap (.ref a) (.list (ts.map PyData.str)) [a] := .list ho hc hd (readsAll_strs (by simpa using r))
  refine repr_of_reads' R ?_ (PyData.noDict_hsm ?_) hg ?_ (fun _ _ e => e) (fun h' u tk hk => ⟨.str (reprL ts), H, I.kept (t' := tk) hk, ⟨_, rfl⟩, q⟩) ?_
  · show PyData.showableAll _ = true
    exact showable_strs ts
  · show PyData.hasDictAll _ = false
    exact noDict_strs ts
  · show X.A.units + ((PyData.depthAll (ts.map PyData.str) + 1) + 1) < cLine
    rw [depth_strs]
    exact hu
  · exact PyData.shown_fits_of_layable0 (B := 13) (by decide) (by decide) hl (PyData.intsShortAll_strs 13 ts)
theorem canLay_txs : ∀ xs : List Tx, (∀ x ∈ xs, x.all (fun c => decide (c < 0x110000)) = true) → PyData.canLayAll0 ((xs.map S).map PyData.str) = true
  | [], _ => rfl
  | x :: xs, hf => by
    show (PyData.canLay0 (.str (S x)) && PyData.canLayAll0 ((xs.map S).map PyData.str)) = true
    rw [canLay_txs xs fun y hy => hf y (List.mem_cons_of_mem _ hy), Bool.and_true]
    exact strOk_S (hf x List.mem_cons_self)
theorem weight_txs : ∀ xs : List Tx, PyData.weightAll ((xs.map S).map PyData.str) = (xs.map List.length).sum + xs.length
  | [] => rfl
  | x :: xs => by
    show PyData.weight (.str (S x)) + 1 + PyData.weightAll ((xs.map S).map PyData.str) = _
    rw [weight_txs xs, List.map_cons, List.sum_cons, List.length_cons]
    have : PyData.weight (.str (S x)) = x.length := by
      show (S x).cps.size = x.length
      exact SX.S_len x
    omega
section
variable {P : Program} {w : World} {K : Frag} {mg : Str → Option Value} {base : Heap} {X : Hs} {σ : L2.St} {H : Hp} {te ta : TE}
theorem tx_of_paired {vs : List V} {xs : List Tx} {H : Hp} (h : Paired (rTx K H) vs xs) : vs = (xs.map S).map V.str := by
  rw [List.map_map]
  exact Paired.to_map (fun _ _ z => z) h
theorem er_repr {xs : List Tx} (h : Er K X te σ H (rLst rTx) xs) (hf : ∀ x ∈ xs, x.all (fun c => decide (c < 0x110000)) = true) (hz : (xs.map List.length).sum + xs.length ≤ 1000000) : Er K X (tCB (rRepr K) (tCons te tNil)) σ H rStr (reprL (xs.map S)) := er_cb1 h fun v H1 _ _ ⟨a, vs, hv, hs, hp⟩ Q k => by
  refine ⟨a, xs.map S, by rw [hv], ?_, ?_, k _ H1 (Evl.Ex.refl _) rfl⟩
  · rw [← tx_of_paired hp]
    exact sql_hid hs
  · have h1 := canLay_txs xs hf
    have h2 := weight_txs xs
    show (PyData.canLayAll0 _ && decide (PyData.depthAll ((xs.map S).map PyData.str) + 1 ≤ 64) && decide (PyData.weightAll ((xs.map S).map PyData.str) ≤ 2 ^ 20)) = true
    rw [h1, h2, depth_strs]
    rw [decide_eq_true (by decide : 0 + 1 ≤ 64), decide_eq_true (by omega)]
    rfl
end
/-! ### a def as the caller calls it: the guards are known -/
open PySem.W (WData Codec OpenSpec Well WellAll ReadsW ReadsAllW)
structure FnAt (P : Program) (w : World) (K : Frag) (mg : Str → Option Value) (base : Heap) (CX : CXT) (k : Nat) (f : Addr) (fd : FuncData) (ps : List Str) (sp : Sp) : Prop where
  len : ∀ vs H Q E, sp vs H Q E → vs.length = ps.length
  run : ∀ (outer : List Env) (s : Shared) (H : Hp) (args : Args) (us : List Value) (vs : List V) (Q : VK) (E : XK), Room k callerA → Env0 P w K mg base callerA outer s H → BindsTo s fd args (ps.zip us) → Vals vs us → sp vs H Q E →
    codeAny (model P w) callerA (.call (.ref f) args) (CR CX outer P w H s Q E) s
theorem fnAt_of {CX : CXT} {P : Program} {w : World} {K : Frag} {mg : Str → Option Value} {base : Heap} {k : Nat} {f : Addr} {name qual : Str} {params : Arguments} {body : List Stmt} {scope : Scope} {dV kV doc pm cdv ct oc : Value} {an od : Option Addr}
    {osl : Array (Option Value)} {N ps : List Str} {sp : Sp} (lk : K.lookup f = some ⟨oc, od, .func (PySem.W.fnOf name qual params body scope dV kV doc pm an cdv ct), osl⟩) (hcd : PySem.W.codeIn K cdv qual = true) (S : FnScope N ps scope)
    (len : ∀ vs H Q E, sp vs H Q E → vs.length = ps.length)
    (hbody : ∀ (A : Around) (outer : List Env) (s : Shared) (H : Hp) (vs : List V) (Q : VK) (E : XK), A.guards = some [] → Room k (A.deeper (envOfC qual scope s.heap.objs.size f cdv)) → Env0 P w K mg base A outer s H → sp vs H Q E →
      ∃ t, PSs (cxOf CX P w K mg base N qual scope f cdv A outer s H E) body t ∧ t { nx := fun _ H' => Q .non H', rt := Q } (start N vs) H) :
    FnAt P w K mg base CX (k + 1) f (PySem.W.fnOf name qual params body scope dV kV doc pm an cdv ct) ps sp := by
  refine ⟨len, fun outer s H args us vs Q E hr e0 hb r hsp => ?_⟩
  have hl := len _ _ _ _ hsp
  have KX : K.In s.heap := e0.mod.kin.keeps fun b o e => (e0.bs b o e).1
  have lim : s.heap.NoLimit := e0.mod.nolimit.keeps fun b o e => (e0.bs b o e).1
  have hkind : ∀ y ∈ ps.zip us, scope.names.lookup y.1 = some .local ∨ (scope.names.lookup y.1 = some .cell ∧ ((cellsFrom (s.heap.objs.size + 1) scope.names []).lookup y.1).isSome = true) := fun ⟨n, v⟩ hy => by
    rcases S.par n (List.of_mem_zip hy).1 with q | q
    · exact .inl q
    · exact .inr ⟨q, PySem.W.cellsFrom_some _ _ _ (.inl q)⟩
  refine codeAny_call_function hr.depth (KX _ _ lk) rfl S.co S.gen rfl (PySem.W.codeRec_of KX hcd) (hb _ _ _ _ ?_)
  refine wpAny_newFunctionEnv_cells S.kind hkind fun env he s1 x => ?_
  subst he
  refine ⟨lim.keeps x.toInCall.keep, codeAny_func ?_⟩
  obtain ⟨t, ht, hq⟩ := hbody callerA outer s H vs Q E rfl (hr.deeper _) e0 hsp
  have I : Inv (cxOf CX P w K mg base N qual scope f cdv callerA outer s H E) [] (start N vs) H s1 := inv_start S hr.hd e0 hl r x
  refine wpAny_mono (ht.run [] s1 (start N vs) H _ I hq) (fun fl s' hs => ?_) fun e s' hs => hs
  have fin : ∀ {σ' : L2.St} {H' : Hp} {v : V} {u : Value}, Inv (cxOf CX P w K mg base N qual scope f cdv callerA outer s H E) [] σ' H' s' → L2.RelV v u → Q v H' → CE outer P w H s Q u s' :=
    fun {σ' H' v u} J rv q => ⟨v, H', J.os, J.bare, J.base, J.hok, rv, q⟩
  cases fl with
  | ret u =>
    obtain ⟨v, σ', H', J, rv, q⟩ := hs
    exact fin J rv q
  | next =>
    obtain ⟨σ', H', J, q⟩ := hs
    exact fin (v := V.non) (u := Value.none) J rfl q
  | brk =>
    obtain ⟨_, _, _, q⟩ := hs
    exact False.elim q
  | cont =>
    obtain ⟨_, _, _, q⟩ := hs
    exact False.elim q
theorem spec_callAt {P : Program} {w : World} {K : Frag} {mg mb : Str → Option Value} {CX : CXT} {k : Nat} {fa : Addr} {fd : FuncData} {ps : List Str} {sp : Sp} {s₁ : Shared} {vals : List Value} {ds : List WData} {R : PySem.W.WRecords} {cl : Str → Option Addr} {d0 : WData}
    (KX : K.In s₁.heap) (hns : s₁.heap.Ns mainGlobals mg) (hb : s₁.heap.Ns builtinsNs mb) (hbb : ∀ x : Str, x ≠ "__name__" → mb x = bootBuiltins x) (hlim : s₁.heap.NoLimit) (hg : s₁.gens = #[])
    (hwl : WellAll w.params s₁.heap vals ds) (hpl : plWs ds = true) (hwt : ∀ d ∈ ds, d.weight ≤ 1048576) (hr : Room k callerA)
    (F : ∀ base : Heap, K.In base → base.Ns mainGlobals mg → FnAt P w K mg base CX k fa fd ps sp) (hbind : ∀ (s : Shared) (us : List Value), us.length = ps.length → BindsTo s fd ⟨us, []⟩ (ps.zip us)) (hlen : ds.length = ps.length)
    (hsp : ∀ (H : Hp) (xs : List V), OnlyF H → DwAll K H xs ds → sp xs H (fun v H' => Dw K H' v d0) fun _ _ _ => False)
    (hCX : ∀ H e s', CX [] H s₁ (fun _ _ _ => False) e s' → False) :
    codeAny (model P w) callerA (.call (.ref fa) ⟨vals, []⟩) (fun r s' => ∃ u as, r = .ok (.ret u) ∧ PySem.W.ReadsW R cl s'.heap u d0 as ∧ OldK s₁.heap s'.heap ∧ s'.os = s₁.os ∧ AllBare s'.gens) s₁ := by
  obtain ⟨A, ho, ar⟩ := area_all ds vals hwl hpl hwt
  have hO : OnlyF (argH K s₁.heap A) := argH_only ar
  have hok : HOk P w (argH K s₁.heap A) s₁.heap := argH_ok ar
  have hS := dw_all KX ar ds vals hwl hpl ho
  have hV := vals_toV ho
  have hK : ∀ b u, argH K s₁.heap A b = some u → K.lookup b = none := fun b u q => (argH_is ar q).1
  have noA : ∀ {b : Addr} {o : Obj} {es : Array DictEntry} {ep : Nat}, s₁.heap.get? b = some o → o.data = .dict es ep → argH K s₁.heap A b = none := fun {b o es ep} e d => by
    cases q : argH K s₁.heap A b with
    | none => rfl
    | some u =>
      obtain ⟨_, vs, _, _, ⟨e2, _⟩ | ⟨e2, _⟩⟩ := argH_is ar q
      · rw [e2] at e
        cases e
        have d' : Data.seq vs.toArray _ = Data.dict es ep := d
        cases d'
      · rw [e2] at e
        cases e
        have d' : Data.seq vs.toArray _ = Data.dict es ep := d
        cases d'
  generalize argH K s₁.heap A = H at hO hok hS hK noA
  have base_of : ∀ {b : Addr} {o : Obj}, s₁.heap.get? b = some o → H b = none → (hidT s₁.heap H).get? b = some o := fun e n => hidT_get e n
  have nsK : ∀ {b : Addr} {m : Str → Option Value}, s₁.heap.Ns b m → (hidT s₁.heap H).Ns b m := fun {b m} ⟨o, es, ep, e, d, r⟩ => ⟨o, es, ep, base_of e (noA e d), d, r⟩
  have nK : ∀ b o, K.lookup b = some o → H b = none := fun b o e => by
    cases q : H b with
    | none => rfl
    | some u =>
      rw [hK b u q] at e
      cases e
  have hKb : K.In (hidT s₁.heap H) := fun b o e => base_of (KX b o e) (nK b o e)
  have hM : Mod K mg (hidT s₁.heap H) := ⟨hKb, nsK hns, ⟨mb, nsK hb, hbb⟩, let ⟨mc, h1, h2⟩ := hlim; ⟨mc, nsK h1, h2⟩⟩
  have e0 : Env0 P w K mg (hidT s₁.heap H) callerA [] s₁ H := ⟨rfl, hM, fun b o e => of_hidT e, Nat.le_of_eq (hidT_size _ _), trivial, fun b hb => absurd (show b ∈ ([] : List Addr) from hb) (by simp), hok, .of_eq hg⟩
  have hl : vals.length = ps.length := by rw [wellAll_len hwl]; exact hlen
  refine codeAny_mono ((F _ hKb (nsK hns)).run [] s₁ H ⟨vals, []⟩ vals (vals.map toV) _ _ hr e0 (hbind s₁ vals hl) hV (hsp H _ hO hS)) fun r s' x => ?_
  cases r with
  | error e => exact (hCX H e s' x).elim
  | ok fl =>
    cases fl with
    | next => exact False.elim x
    | brk => exact False.elim x
    | cont => exact False.elim x
    | ret u =>
      obtain ⟨v, H', os, bare, un, hok', r', q⟩ := x
      have kept : ∀ b o, s₁.heap.get? b = some o → s'.heap.get? b = some o := fun b o e => by
        cases q2 : H b with
        | none => exact un.keep b o e q2 (by intro z; exact absurd (show b ∈ ([] : List Addr) from z) (by simp)) (by simp)
        | some u2 =>
          rcases hO b with z | ⟨ob, u3, z⟩
          · rw [q2] at z
            cases z
          · have z2 := un.frzs b ob _ z
            obtain ⟨e1, _⟩ := hok b _ z
            obtain ⟨e2, _⟩ := hok' b _ z2
            rw [e] at e1
            cases e1
            exact e2
      have KX' : K.In s'.heap := fun b o e => kept b o (KX b o e)
      obtain ⟨as, hrd⟩ := Dw.reads (R := R) (cl := cl) hok' KX' d0 v u q r'
      exact ⟨u, as, rfl, hrd, OldK.of_keep kept, os, bare⟩
theorem walk_specAt {r : OpenSpec} {k : Nat} {q : Program} {loose : List Str} {XP : (Str → Option Value) → Heap → Prop} {YP : World → Heap → Prop} {d : DefRec} {K : Params → Frag} {CX : CXT} {ps : List Str} {sp : Frag → Sp}
    (hwell : r.wellSaid = true) (hdf : d.params.defaults = []) (hlen : r.args.length = ps.length) (hr : Room k callerA)
    (hY : ∀ (w : World) (h : Heap), YP w h → (K w.params).In h)
    (F : ∀ (w : World) (mg : Str → Option Value) (fa : Addr) (h : Heap), YP w h → (K w.params).In h → h.Ns mainGlobals mg → mg d.name = some (.ref fa) →
      ∃ fd : FuncData, (∀ (s : Shared) (us : List Value), us.length = ps.length → BindsTo s fd ⟨us, []⟩ (ps.zip us)) ∧
        ∀ base : Heap, (K w.params).In base → base.Ns mainGlobals mg → FnAt r.prog w (K w.params) mg base CX k fa fd ps (sp (K w.params)))
    (hsp : ∀ (K : Frag) (H : Hp) (xs : List V) (a : PySem.W.Codec.denoteAll r.args), OnlyF H → PySem.W.Codec.withinAll r.args a = true → PySem.W.Codec.app r.args r.asked a = true → DwAll K H xs (PySem.W.Codec.encAll r.args a) →
      sp K xs H (fun v H' => Dw K H' v (r.ret.enc (PySem.W.Codec.app r.args r.f a))) fun _ _ _ => False)
    (hCX : ∀ (H : Hp) (s : Shared) (e : Value) (s' : Shared), CX [] H s (fun _ _ _ => False) e s' → False) :
    PySem.W.WalkOS q loose XP YP r d [] (fun f vs => PySem.call f vs) := by
  intro w s₀ s₁ mg mb G Y fa o pm cd doc dV kV ho hd hcd hD hmg hg args vals as hpre hlay hrd hwl hlo
  obtain ⟨a, e1, e2⟩ := PySem.W.os_pre_some hpre
  obtain ⟨e3, hwi⟩ := PySem.W.Codec.encAll_of_decAll r.args args a e1
  subst e3
  have KX := hY w _ Y
  obtain ⟨fd, hb, hF⟩ := F w mg fa _ Y KX G.T.g hmg
  refine PySem.W.enter_call (codeAny_mono (spec_callAt (R := []) (cl := classAt s₀.heap) (d0 := r.ret.enc (PySem.W.Codec.app r.args r.f a)) KX G.T.g G.T.b G.T.builtins G.T.nolimit hg hwl (pl_encAll _ _) (layable_weight hlay) hr hF hb (by rw [encAll_len]; exact hlen)
    (fun H xs hO hS => hsp (K w.params) H xs a hO hwi e2 hS) fun H e s' => hCX H s₁ e s') fun r' s' hq => ?_)
  obtain ⟨u, as', rfl, h1, h2, h3, h4⟩ := hq
  exact ⟨.inl ⟨u, _, as', rfl, fun _ => rfl, h1, (OpenSpec.post_iff hwell hwi _ _).mpr rfl, fun z => Bool.noConfusion (show false = true from z)⟩, h2, h3, h4⟩
end Q
set_option maxHeartbeats 4000000
/-! Q14: f(p = e) of a def with one parameter. -/
namespace Q
open PySem PySem.Spec PyProof.Rows L2
def gW (us ws : List Value) : List Value := match us with
  | [] => ws ++ []
  | _ => []
def gV (us ws : List V) : List V := match us with
  | [] => ws ++ []
  | _ => []
/-- .. with what binds its keyword -/
def KpW (P : Program) (w : World) (K : Frag) (mg : Str → Option Value) (base : Heap) (k : Nat) (x p : Str) (sp : Sp) : Prop :=
  ∃ f fd, FnOk P w K mg base CX0 k f fd [p] sp ∧ mg x = some (.ref f) ∧ PySem.W.keepIn K (.ref f) = true ∧ KBinds K fd [p] [p] gW gV
theorem Kp.w {P : Program} {w : World} {K : Frag} {mg : Str → Option Value} {base : Heap} {k : Nat} {x p : Str} {st : Stmt} {sp : Sp} (c : Kp P w K mg base k x [p] sp) (D : Dfn K mg x st [p])
    (h : ∀ (kV doc pm : Value) (an : Option Addr) (cdv ct u : Value), bindArgs (PySem.W.fnOf x x (defArgs st) (defBody st) (defScope st) .none kV doc pm an cdv ct) ⟨[], [(p, u)]⟩ = pure [(p, u)]) : KpW P w K mg base k x p sp := by
  obtain ⟨f, fd, F, hm, kp, b, oc, od, sl, lk⟩ := c
  obtain ⟨f', fd', F', hm', b'⟩ := D.ex
  have e : f' = f := by
    have := hm'.symm.trans hm
    cases this; rfl
  subst e
  obtain ⟨oc', od', kV, doc, pm, an, cdv, ct, osl, rfl, lk', hcd⟩ := F'.ex
  have e2 : fd = PySem.W.fnOf x x (defArgs st) (defBody st) (defScope st) .none kV doc pm an cdv ct := by
    have := lk.symm.trans lk'
    cases this; rfl
  subst e2
  refine ⟨f', _, F, hm, kp, ⟨fun s us ws X hl => ?_, fun {vs us zs ws} r1 r2 => ?_⟩⟩
  · cases us with
    | cons u us => cases hl
    | nil =>
      unfold gW at hl ⊢
      rw [List.append_nil] at hl ⊢
      match ws, hl with
      | [u], _ => exact .of_eq (h kV doc pm an cdv ct u)
  · cases r1 with
    | nil =>
      unfold gV gW
      rw [List.append_nil, List.append_nil]
      exact r2
    | cons a b => exact .nil
section
variable {X : Cx} {k j : Nat} {x q : Str} {sp : Sp} {kws : List Keyword} {p pos : Pos} {tk : TA}
theorem pe_kpW (c : KpW X.prog X.w X.K X.mg X.base k x q sp) (hr : Room j X.A) (hk : k ≤ j) (hkw : PK X kws tk)
    (hall : (backToKw pos (keywordEach kws X.env)).all (·.1.isSome) = true := by rfl) (hks : (backToKw pos (keywordEach kws X.env)).filterMap (·.1) = [q] := by rfl) (hg : Gl X x := by rfl) (hdb : (x == ("__debug__" : Str)) = false := by decide)
    (hpl : ((backTo pos (starEach [] X.env)).any (·.1) || (backToKw pos (keywordEach kws X.env)).any (·.1.isNone)) = false := by rfl) : PE X (.Call (.Name x p) [] kws pos) (tCall sp [] E0 tk) := by
  obtain ⟨f, fd, F, hm, kp, hb⟩ := c
  refine ⟨fun pins s σ H Q I h => ?_⟩
  refine wpAny_Call_Name_kw (ld_glob I hg hm ?_ hdb)
  refine PySem.W.callWith_KW0 (h₀ := X.base) I.ok.mod.kin kp hall ?_ hpl
  refine thn (hkw.run pos pins s σ H _ I h) fun ws s2 ⟨zs, H2, I2, rz, q2⟩ => ⟨I2.kIn, ?_⟩
  rw [hks]
  exact run_fnk (us := []) (vs := []) F (hr.mono hk) hb pass0 I2 .nil rz q2
end
end Q
set_option maxHeartbeats 8000000
/-! F46: small rules for the law. -/
namespace Q
open PySem PySem.Spec PyProof.Rows L2
/-! ### sizes, signs -/
def sb : Nat → Nat
  | 0 => 0
  | k + 1 => 1 + 3 * sb k
theorem sb_mono {a b : Nat} (h : a ≤ b) : sb a ≤ sb b := by
  induction b generalizing a with
  | zero => rw [Nat.le_zero.mp h]; exact Nat.le_refl _
  | succ b ih =>
    cases a with
    | zero => exact Nat.zero_le _
    | succ a =>
      have := ih (Nat.le_of_succ_le_succ h)
      unfold sb
      omega
mutual
theorem size_deep {wd : Wd} (hw : OkV wd) : ∀ t : Tm, t.ok wd → ∀ k, t.deep ≤ k → t.size ≤ sb k
  | .nd w ps, h, k, hk => by
    unfold Tm.ok at h
    unfold Tm.deep at hk
    have h3 : ps.length ≤ 3 := (hw.good _ (lk_mem h.1)).2
    obtain ⟨j, rfl⟩ : ∃ j, k = j + 1 := ⟨k - 1, by omega⟩
    have := sizes_deep hw ps h.2 j (by omega)
    unfold Tm.size
    have h4 : ps.length * sb j ≤ 3 * sb j := Nat.mul_le_mul_right _ h3
    show 1 + _ ≤ 1 + 3 * sb j
    omega
theorem sizes_deep {wd : Wd} (hw : OkV wd) : ∀ ps : List Tm, Tm.oks wd ps → ∀ k, Tm.deeps ps ≤ k → Tm.sizes ps ≤ ps.length * sb k
  | [], _, k, _ => by unfold Tm.sizes; exact Nat.zero_le _
  | p :: ps, h, k, hk => by
    unfold Tm.oks at h
    unfold Tm.deeps at hk
    have h1 := size_deep hw p h.1 k (by omega)
    have h2 := sizes_deep hw ps h.2 k (by omega)
    unfold Tm.sizes
    rw [List.length_cons, Nat.add_mul, Nat.one_mul]
    omega
end
def lo (x : Tx) : Prop := ∀ c ∈ x, c < 0x110000
theorem lo_all {x : Tx} (h : lo x) : x.all (fun c => decide (c < 0x110000)) = true := List.all_eq_true.mpr fun c hc => decide_eq_true (h c hc)
theorem lo_app {x y : Tx} (h : lo x) (h2 : lo y) : lo (x ++ y) := fun c hc => (List.mem_append.mp hc).elim (h c) (h2 c)
theorem lo_join {sep : Tx} {l : List Tx} (h : lo sep) (h2 : ∀ x ∈ l, lo x) : lo (TL.joinL sep l) := fun c hc => (join_mem hc).elim (h c) fun ⟨x, hx, hcx⟩ => h2 x hx c hcx
theorem letters_lo : ∀ c ∈ lettersL, c < 0x110000 := by decide +kernel
theorem name_lo {x : Tx} (h : isName x = true) : lo x := fun c hc => letters_lo c (isName_letters h c hc)
theorem wordT_lo {p : Tx × Nat} (h : isName p.1 = true ∧ p.2 ≤ 3) : lo (wordT p) := by
  unfold wordT
  refine lo_app (name_lo h.1) fun c hc => ?_
  rw [num_le h.2] at hc
  rcases List.mem_cons.mp hc with rfl | hc
  · decide
  · rw [List.mem_singleton.mp hc]
    have := h.2
    omega
theorem wordsT_lo {wd : Wd} (ok : OkW wd) : lo (wordsL ++ wordsT wd) := lo_app (by unfold lo; decide +kernel) (lo_join (by unfold lo; decide +kernel) fun x hx => by
  obtain ⟨p, hp, rfl⟩ := List.mem_map.mp hx
  exact wordT_lo (ok.good p hp))
theorem tsign_lo {c : Nat} (h : tsign c) : c < 0x110000 := by
  rcases h with h | h | h | h
  · exact letters_lo c h
  all_goals omega
theorem answerT_lo {p : Tm × Bool} (h : p.1.named) : lo (answerT p) := by
  unfold answerT
  refine lo_app (by cases p.2 <;> (unfold lo; decide +kernel)) fun c hc => ?_
  rcases List.mem_cons.mp hc with rfl | hc
  · decide
  · exact tsign_lo (text_signs _ h c hc)
theorem lotT_lo {p : Wd × Bk} (ok : OkW p.1) (h : ∀ x ∈ p.2, x.1.named) : lo (lotT p) := lo_join (by unfold lo; decide +kernel) fun x hx => by
  rcases List.mem_cons.mp hx with rfl | hx
  · exact wordsT_lo ok
  · obtain ⟨d, hd, rfl⟩ := List.mem_map.mp hx
    exact answerT_lo (h d hd)
theorem ruleT_lo {wd : Wd} (hw : OkW wd) {r : Ru} (ok : OkRu wd r) : lo (ruleT r) := lo_join (by unfold lo; decide +kernel) fun x hx => by
  unfold ruleParts at hx
  rcases List.mem_cons.mp hx with rfl | hx
  · unfold lo; decide +kernel
  rcases List.mem_cons.mp hx with rfl | hx
  · exact name_lo ok.trait
  rcases List.mem_cons.mp hx with rfl | hx
  · exact name_lo (hw.good _ (lk_mem ok.word)).1
  obtain ⟨l, hl, rfl⟩ := List.mem_map.mp hx
  intro c hc
  rcases wants_signs (ok.wants l hl) c hc with h | h | h
  · exact letters_lo c h
  all_goals omega
theorem rulesT_lo {p : Wd × List Ru} (ok : OkW p.1) (h : ∀ x ∈ p.2, OkRu p.1 x) : lo (rulesT p) := lo_join (by unfold lo; decide +kernel) fun x hx => by
  rcases List.mem_cons.mp hx with rfl | hx
  · exact wordsT_lo ok
  · obtain ⟨d, hd, rfl⟩ := List.mem_map.mp hx
    exact ruleT_lo ok (h d hd)
section
variable {P : Program} {w : World} {K : Frag} {mg : Str → Option Value} {base : Heap} {X : Hs} {σ : L2.St} {H : Hp} {te ta tb ti td : TE} {α β γ : Type} {r : Rel α} {s : Rel β} {D : Ends} {Q : VK} {C : Addr}
/-! ### one part after another -/
theorem op_of {rr : R2} (h : ta σ H fun x H1 => tb σ H1 fun y H2 => tOp rr (tC x) (tC y) σ H2 Q) : tOp rr ta tb σ H Q := h
theorem call1_of {sp : Sp} {ds : List V} {E : XK} (h : ta σ H fun x H1 => tCall sp ds E (tCons (tC x) tNil) σ H1 Q) : tCall sp ds E (tCons ta tNil) σ H Q := h
theorem call2_of {sp : Sp} {ds : List V} {E : XK} (h : ta σ H fun x H1 => tb σ H1 fun y H2 => tCall sp ds E (tCons (tC x) (tCons (tC y) tNil)) σ H2 Q) : tCall sp ds E (tCons ta (tCons tb tNil)) σ H Q := h
theorem mk2_of {sp : Sp} {ds : List V} {E : XK} (h : ta σ H fun x H1 => tb σ H1 fun y H2 => tMake C sp ds E (tCons (tC x) (tCons (tC y) tNil)) σ H2 Q) : tMake C sp ds E (tCons ta (tCons tb tNil)) σ H Q := h
theorem lst1_of (h : ta σ H fun x H1 => tLst (tCons (tC x) tNil) σ H1 Q) : tLst (tCons ta tNil) σ H Q := h
theorem m1s_of {rr : V → List V → Hp → VK → Prop} {z : Str} (h : ta σ H fun x H1 => rr (.str z) [x] H1 Q) : tM1 rr (tC (.str z)) ta σ H Q := ⟨⟨z, rfl⟩, h⟩
/-- for i in range(n), the heap as it will -/
theorem st_forR {n : Nat} {g : TG} {tb : TS} (hn : n < 1000000) (Pv : Nat → L2.St → Hp → Prop) (h0 : Pv 0 σ H) (hs : ∀ j σ' H', j < n → Pv j σ' H' → g (.int (j : Nat)) σ' H' fun σ2 H3 => tb { D with nx := Pv (j + 1), ct := Pv (j + 1), bk := D.nx } σ2 H3)
    (hd : ∀ σ' H', Pv n σ' H' → D.nx σ' H') : tFor (iRng1 (tCons (tC (.int (n : Nat))) tNil)) g tb D σ H := by
  refine ⟨((n : Nat) : Int), rfl, by omega, by omega, ?_⟩
  rw [Int.toNat_natCast]
  refine for_it walk_range Pv h0 (fun _ _ _ _ _ => trivial) (fun j x σ' H1 H2 hj hp hy => ?_) hd
  obtain ⟨rfl, rfl⟩ := hy
  have := hs j σ' _ hj hp
  rw [← Int.zero_add ((j : Nat) : Int)] at this
  exact this
/-- x != y by own __eq__: they tell the same -/
theorem er_neOwn [m : Mono r] [ms : Mono s] {R : Addr → Addr → Hp → Prop} {x : α} {y : β} (h : Er K X ta σ H r x) (h2 : Er K X tb σ H s y) (hD : ∀ v w H1, Dm X H1 → r K (hid X H1) v x → s K (hid X H1) w y → DIns C R v w H1) : Er K X (tOp (rNeOwn C R) ta tb) σ H rBl false := er_two h h2 fun v w H1 _ dm hv hw Q k =>
  ⟨hD v w H1 dm hv hw, fun H' e => k _ H' e rfl⟩
/-- [x] * 2 -/
theorem er_rep2 [m : Mono r] {x : α} (h : Er K X te σ H r x) : Er K X (tOp rRep (tLst (tCons te tNil)) (tC (.int 2))) σ H (rLst r) [x, x] := fun H1 e d Q k => by
  refine h H1 e d _ fun v H2 e2 hv => ⟨(by show 1 ≤ sizeLine; decide), fun l hl => ?_⟩
  have e3 : Ex H1 (upd H2 l (.lst [v])) := e2.trans (Evl.Ex.new hl)
  have hv3 := m.mono (hid_le (Evl.Ex.new (o := .lst [v]) hl)) hv
  refine ⟨l, 2, [v], rfl, rfl, upd_same, by decide, by decide, (by show 1 * 2 ≤ sizeLine; decide), fun p hp => ?_⟩
  have e4 := Evl.Ex.new (H := upd H2 l (.lst [v])) (o := .lst [v, v]) hp
  exact k _ _ (e3.trans e4) ⟨p, [v, v], rfl, .inl (.inl (by rw [hid_out ((d.ex e3).new hp), upd_same]; rfl)), .cons (m.mono (hid_le e4) hv3) (.cons (m.mono (hid_le e4) hv3) .nil)⟩
end
end Q
set_option maxHeartbeats 8000000
/-! F47: the law's text: its rules. -/
namespace Q
open PySem PySem.Spec PyProof.Rows L2 NdefX LamX
def forBody : Stmt → List Stmt
  | .For _ _ b _ _ => b
  | _ => []
def forIter : Stmt → Expr
  | .For _ e _ _ _ => e
  | _ => .Constant .none 0 ⟨0, 0, 0, 0⟩
def tupAt (i : Nat) : Expr → Expr
  | .Tuple es _ _ => es.getD i (.Constant .none 0 ⟨0, 0, 0, 0⟩)
  | e => e
def lamArgs : Expr → Arguments
  | .Lambda a _ _ _ => a
  | _ => { posonlyargs := [], args := [], vararg := none, kwonlyargs := [], kw_defaults := [], kwarg := none, defaults := [] }
def lamBody : Expr → Expr
  | .Lambda _ b _ _ => b
  | e => e
def lamScope : Expr → Scope
  | .Lambda _ _ s _ => s
  | _ => { kind := .module, names := [], isGenerator := false, isCoroutine := false }
def sLap : Stmt := (defBody sLaw).getD 1 (.Pass ⟨0, 0, 0, 0⟩)
def sAsk : Stmt := (forBody sLap).getD 12 (.Pass ⟨0, 0, 0, 0⟩)
def eLam (i : Nat) : Expr := tupAt i (forIter sAsk)
abbrev lawQ : Str := (envOfC "law" (defScope sLaw) 0 0 .none).qual ++ "<lambda>"
abbrev lawT (PT : Addr) : List (Addr × Str) := [(PT, lawQ)]
theorem lawTu {PT : Addr} : ∀ p ∈ lawT PT, p.1 = PT → p.2 = lawQ := fun p hp _ => by rw [List.mem_singleton.mp hp]
theorem lam0_free : ∀ y ∈ (lamScope (eLam 0)).names, y.2 = .free → (defScope sLaw).names.lookup y.1 = some .cell ∨ (defScope sLaw).names.lookup y.1 = some .free := by decide +kernel
theorem lam1_free : ∀ y ∈ (lamScope (eLam 1)).names, y.2 = .free → (defScope sLaw).names.lookup y.1 = some .cell ∨ (defScope sLaw).names.lookup y.1 = some .free := by decide +kernel
theorem lam0_sc : NScope ["pen", "due", "rules"] [] ["pen", "due", "rules"] (lamScope (eLam 0)) := nscope_by (by decide +kernel)
theorem lam1_sc : NScope ["a1", "pen", "due", "made"] ["a1"] ["pen", "due", "made"] (lamScope (eLam 1)) := nscope_by (by decide +kernel)
theorem lam0_fr : ∀ y ∈ (["pen", "due", "rules"] : List Str), (y, NameKind.free) ∈ (lamScope (eLam 0)).names := by decide +kernel
theorem lam1_fr : ∀ y ∈ (["pen", "due", "made"] : List Str), (y, NameKind.free) ∈ (lamScope (eLam 1)).names := by decide +kernel
theorem hu2 {k : Nat} {A : Around} (h : Room k A) : A.units + 2 < cLine := by
  have := h.un
  omega
/-- what else the law's walk asks of the written part -/
structure XF (K : Frag) (C : Addr) : Prop where
  xf : XfC K C
  no : PySem.W.findIn K (.ref C) "at" = some none
structure NeF (K : Frag) (C : Addr) : Prop where
  ne : PySem.W.findIn K (.ref C) "__ne__" = some (some (.builtin "object.__ne__"))
  mro : PySem.W.mroIn K C (.type "object") = some true
abbrev NLaw : List Str := ["script", "pen", "lap", "places", "words", "plan", "terms", "turn", "lot", "term", "made", "due", "lines", "turned", "rows", "rules", "told", "ask", "caught", "error"]
theorem scLaw : FnScope NLaw ["script"] (defScope sLaw) := ⟨rfl, rfl, rfl, by decide +kernel, rfl, by decide +kernel, by decide +kernel⟩
structure LawC (P : Program) (w : World) (K : Frag) (mg : Str → Option Value) (base : Heap) (Cw Cb Cl Cr CBL CBR : Addr) : Prop where
  c_law_pen : Kp P w K mg base 1 "_law_pen" ["script"] (spPen K)
  c_law_draw : Kp P w K mg base 1 "_law_draw" ["pen", "many"] spDraw
  c_law_pick : Kp P w K mg base 2 "_law_pick" ["pen", "some"] (spPick K)
  c_law_mixed : Kp P w K mg base 2 "_law_mixed" ["pen", "some"] (spMixed K)
  c_law_places : Kp P w K mg base 3 "_law_places" ["pen"] (spPlaces K)
  c_law_hidden : Kp P w K mg base 4 "_law_hidden" ["pen", "places", "most"] (spHidden K)
  c_law_size : Kp P w K mg base 61 "_law_size" ["term"] (spSize K 60)
  c_law_ordered : Kp P w K mg base 62 "_law_ordered" ["terms"] (spAsc K 60)
  c_law_says : Kp P w K mg base 62 "_law_says" ["plan", "term"] (spSays K 60)
  c_law_term : Kp P w K mg base 5 "_law_term" ["pen", "places", "deep"] (spTerm K 3)
  c_law_lot_text : Kp P w K mg base 62 "_law_lot_text" ["places", "lot"] (spLawLotText K)
  c_law_rules : Kp P w K mg base 3 "_law_rules" ["pen", "places"] (spRules K)
  c_law_rules_text : Kp P w K mg base 2 "_law_rules_text" ["places", "rows"] (spLawRulesText K)
  w_init : KpM P w K mg base 3 Cw "__init__" ["self", "places"] (spWordsInit K Cw)
  l_init : KpM P w K mg base 64 Cl "__init__" ["self", "words", "answers"] (spLotInit K Cw Cl)
  r_init : KpM P w K mg base 4 Cr "__init__" ["self", "words", "rows"] (spRulesInit K Cw Cr)
  m_lotEq : KpM P w K mg base 3 Cl "__eq__" ["self", "other"] (spEq (sameL K Cw Cl))
  m_rulesEq : KpM P w K mg base 3 Cr "__eq__" ["self", "other"] (spEq (sameR K Cw Cr))
  c_lot_text : Kp P w K mg base 63 "lot_text" ["lot"] (spLotText K Cw Cl)
  c_rules_text : Kp P w K mg base 3 "rules_text" ["rules"] (spRulesText K Cw Cr)
  c_read_lot : Kp P w K mg base 127 "read_lot" ["text"] (spReadLot K Cw Cl)
  c_read_rules : Kp P w K mg base 6 "read_rules" ["text"] (spReadRules K Cw Cr)
  c_lot_textW : KpW P w K mg base 63 "lot_text" "lot" (spLotText K Cw Cl)
  c_rules_textW : KpW P w K mg base 3 "rules_text" "rules" (spRulesText K Cw Cr)
  c_read_lotW : KpW P w K mg base 127 "read_lot" "text" (spReadLot K Cw Cl)
  c_read_rulesW : KpW P w K mg base 6 "read_rules" "text" (spReadRules K Cw Cr)
  c_lot_textX : KpX P w K mg base 4 "lot_text" ["lot"] (spBad K Cl CBL)
  c_rules_textX : KpX P w K mg base 3 "rules_text" ["rules"] (spBad K Cr CBR)
  Tw : OwnW K mg Cw
  Tl : OwnL K mg Cl
  Tr : OwnR K mg Cr
  Mw : MkC K Cw
  Ml : MkC K Cl
  Mr : MkC K Cr
  nl : NeF K Cl
  nr : NeF K Cr
  xl : XF K CBL
  xr : XF K CBR
  mgL : mg "BadLot" = some (.ref CBL)
  mgR : mg "BadRule" = some (.ref CBR)
/-- what the lambdas' bodies do -/
abbrev tbL0 (K : Frag) (Cl CBL : Addr) : XK → TE := fun E => tCall (spBad K Cl CBL) [] E (tCons (tCall (spPick K) [] E0 (tCons (tVar 0) (tCons (tLst (tCons (tC .non) (tCons (tC (.int 5)) (tCons (tVar 1) (tCons (tVar 2) tNil))))) tNil))) tNil)
abbrev tbL1 (K : Frag) (Cr CBR : Addr) : XK → TE := fun E => tCall (spBad K Cr CBR) [] E (tCons (tCall (spPick K) [] E0 (tCons (tVar 1) (tCons (tLst (tCons (tC .non) (tCons (tC (.int 5)) (tCons (tVar 2) (tCons (tVar 3) tNil))))) tNil))) tNil)
abbrev suiteL (C : Addr) (x : Str) : Addr → Value → Option Addr → TS := fun a cls d => tAsg (tTup (tCons (tC (.str x)) (tCons (tXf a cls d C "at" (tVar 19)) tNil))) (gName 18)
section
variable {P : Program} {w : World} {K : Frag} {mg : Str → Option Value} {base : Heap}
/-- the text of the law by rules: some reading -/
theorem law_text {Cw Cb Cl Cr CBL CBR cc PT f : Addr} {A : Around} {outer : List Env} {s : Shared} {H : Hp} {E : XK} (B : Bi mg) (L : LawC P w K mg base Cw Cb Cl Cr CBL CBR) (TB : TabB base mg cc PT) (hgd : A.guards = some [])
    (hr : Room 130 (A.deeper (envOfC "law" (defScope sLaw) s.heap.objs.size f (.ref cc)))) : ∃ t, PSs (cxOf CX0 P w K mg base NLaw "law" (defScope sLaw) f (.ref cc) A outer s H E).nox (defBody sLaw) t := by
  obtain ⟨c_law_pen, c_law_draw, c_law_pick, c_law_mixed, c_law_places, c_law_hidden, c_law_size, c_law_ordered, c_law_says, c_law_term, c_law_lot_text, c_law_rules, c_law_rules_text, w_init, l_init, r_init, m_lotEq, m_rulesEq, c_lot_text, c_rules_text, c_read_lot, c_read_rules, c_lot_textW, c_rules_textW, c_read_lotW, c_read_rulesW, c_lot_textX, c_rules_textX, Tw, Tl, Tr, Mw, Ml, Mr, nl, nr, xl, xr, mgL, mgR⟩ := L
  obtain ⟨fl, fdl, Fl, cl, hml, bl⟩ := m_lotEq
  obtain ⟨fr, fdr, Fr, cr, hmr, br⟩ := m_rulesEq
  refine ⟨_, (pss_cons (ps_set (i := 1) scLaw.nd rfl (.inr rfl) (pe_kp c_law_pen hr (by decide) (pa_cons (pv 0) pa_nil)))
    (pss_cons (ps_for PassesOwn.never rfl (pi_range1 (by rfl) B.range (pa_cons pe_int pa_nil)) (pg_name (i := 2) scLaw.nd rfl (.inl rfl)) (pss_cons (ps_set (i := 3) scLaw.nd rfl (.inr rfl) (pe_kp c_law_places hr (by decide) (pa_cons (pv 1) pa_nil)))
    (pss_cons (ps_asg (pe_tup (pa_cons (pe_mkK w_init Mw Tw.mgC hr (by decide) (pa_cons (pv 3) pa_nil)) (pa_cons (pe_kp c_law_hidden hr (by decide) (pa_cons (pv 1) (pa_cons (pv 3) (pa_cons pe_int pa_nil)))) pa_nil))) (pg_tup rfl (pgs_cons (pg_name (i := 4) scLaw.nd rfl (.inl rfl)) (pgs_cons (pg_name (i := 5) scLaw.nd rfl (.inr rfl)) pgs_nil))))
    (pss_cons (ps_set (i := 6) scLaw.nd rfl (.inl rfl) (pe_kp c_law_ordered hr (by decide) (pa_cons (pe_lc (own := [("turn", 7)]) (g := gName 7) (tt := tYes) rfl scLaw.nd (pi_range1 (by rfl) B.range (pa_cons (pe_kp c_law_draw hr (by decide) (pa_cons (pv 1) (pa_cons pe_int pa_nil))) pa_nil)) (blkOk_by (N := NLaw) (sc := defScope sLaw) (by decide +kernel)) (fun _ _ _ _ _ => (pg_name (i := 7) scLaw.nd rfl (.inl rfl))) (fun _ _ _ _ _ => pts_nil) (fun _ _ _ _ _ => (pe_kp c_law_term hr (by decide) (pa_cons (pv 1) (pa_cons (pv 3) (pa_cons pe_int pa_nil)))))) pa_nil)))
    (pss_cons (ps_setLc (i := 8) (own := [("term", 9)]) (g := gName 9) rfl scLaw.nd rfl rfl (sw_true rfl rfl rfl (by decide +kernel)) (pi_list (pv 6)) (blkOk_by (N := NLaw) (sc := defScope sLaw) (by decide +kernel)) (fun _ _ _ _ _ => (pg_name (i := 9) scLaw.nd rfl (.inl rfl))) (fun _ _ _ _ _ => (pts_one (pt_cmpR op_le (pe_kp c_law_size hr (by decide) (pa_cons (pv 9) pa_nil)) pe_int (nomark _)))) (fun _ _ _ _ _ => (pe_tup (pa_cons (pv 9) (pa_cons (pe_kp c_law_says hr (by decide) (pa_cons (pv 5) (pa_cons (pv 9) pa_nil))) pa_nil)))))
    (pss_cons (ps_asg (pe_tup (pa_cons (pe_mkK l_init Ml Tl.mgC hr (by decide) (pa_cons (pv 4) (pa_cons (pe_kp c_law_mixed hr (by decide) (pa_cons (pv 1) (pa_cons (pv 8) pa_nil))) pa_nil))) (pa_cons (pe_kp c_law_lot_text hr (by decide) (pa_cons (pv 3) (pa_cons (pv 8) pa_nil))) pa_nil))) (pg_tup rfl (pgs_cons (pg_name (i := 10) scLaw.nd rfl (.inr rfl)) (pgs_cons (pg_name (i := 11) scLaw.nd rfl (.inr rfl)) pgs_nil))))
    (pss_cons (ps_set (i := 12) scLaw.nd rfl (.inl rfl) (pe_split (pv 11) pe_str))
    (pss_cons (ps_set (i := 13) scLaw.nd rfl (.inl rfl) (pe_join pe_str (pe_op op_catL (pe_lst (pa_cons (pe_op op_add_str pe_str (pe_join pe_str (pe_kp c_law_mixed hr (by decide) (pa_cons (pv 1) (pa_cons (pe_slice sl_list (pe_split (pe_ix ix_list (pv 12) pe_int (fun _ _ => rfl)) pe_str) (po_some pe_int) po_none) pa_nil))))) pa_nil)) (pe_kp c_law_mixed hr (by decide) (pa_cons (pv 1) (pa_cons (pe_slice sl_list (pv 12) (po_some pe_int) po_none) pa_nil))))))
    (pss_cons (ps_if (PW.pt (pw_or (pt_cmpR op_ne (pe_callB (call_reprL hgd (hu2 hr)) rfl B.repr (by decide +kernel) (pa_cons (pe_lst (pa_cons (pe_kp c_lot_text hr (by decide) (pa_cons (pv 10) pa_nil)) (pa_cons (pe_kpW c_lot_textW hr (by decide) (pk_cons (pv 10) pk_nil)) pa_nil))) pa_nil)) (pe_callB (call_reprL hgd (hu2 hr)) rfl B.repr (by decide +kernel) (pa_cons (pe_op op_rep (pe_lst (pa_cons (pv 11) pa_nil)) pe_int) pa_nil)) (nomark _)) (pw_or (pt_cmpR (op_neOwn Fl hml.at_ hml.fn bl nl.ne nl.mro (hr.mono (by decide))) (pe_kp c_read_lot hr (by decide) (pa_cons (pv 13) pa_nil)) (pv 10) (nomark _)) (pw_or1 (pt_cmpR (op_neOwn Fl hml.at_ hml.fn bl nl.ne nl.mro (hr.mono (by decide))) (pe_kpW c_read_lotW hr (by decide) (pk_cons (pv 11) pk_nil)) (pv 10) (nomark _)))))) (pss_one (ps_ret pe_bl)) pss_nil)
    (pss_cons (ps_set (i := 14) scLaw.nd rfl (.inl rfl) (pe_kp c_law_rules hr (by decide) (pa_cons (pv 1) (pa_cons (pv 3) pa_nil))))
    (pss_cons (ps_asg (pe_tup (pa_cons (pe_mkK r_init Mr Tr.mgC hr (by decide) (pa_cons (pv 4) (pa_cons (pv 14) pa_nil))) (pa_cons (pe_kp c_law_rules_text hr (by decide) (pa_cons (pv 3) (pa_cons (pv 14) pa_nil))) pa_nil))) (pg_tup rfl (pgs_cons (pg_name (i := 15) scLaw.nd rfl (.inr rfl)) (pgs_cons (pg_name (i := 11) scLaw.nd rfl (.inr rfl)) pgs_nil))))
    (pss_cons (ps_if (PW.pt (pw_or (pt_cmpR op_ne (pe_callB (call_reprL hgd (hu2 hr)) rfl B.repr (by decide +kernel) (pa_cons (pe_lst (pa_cons (pe_kp c_rules_text hr (by decide) (pa_cons (pv 15) pa_nil)) (pa_cons (pe_kpW c_rules_textW hr (by decide) (pk_cons (pv 15) pk_nil)) pa_nil))) pa_nil)) (pe_callB (call_reprL hgd (hu2 hr)) rfl B.repr (by decide +kernel) (pa_cons (pe_op op_rep (pe_lst (pa_cons (pv 11) pa_nil)) pe_int) pa_nil)) (nomark _)) (pw_or (pt_cmpR (op_neOwn Fr hmr.at_ hmr.fn br nr.ne nr.mro (hr.mono (by decide))) (pe_kp c_read_rules hr (by decide) (pa_cons (pv 11) pa_nil)) (pv 15) (nomark _)) (pw_or1 (pt_cmpR (op_neOwn Fr hmr.at_ hmr.fn br nr.ne nr.mro (hr.mono (by decide))) (pe_kpW c_read_rulesW hr (by decide) (pk_cons (pv 11) pk_nil)) (pv 15) (nomark _)))))) (pss_one (ps_ret pe_bl)) pss_nil)
    (pss_cons (ps_set (i := 16) scLaw.nd rfl (.inl rfl) (pe_lst pa_nil))
    (pss_cons (ps_for PassesOwn.never rfl (pi_tup (pe_tup (pa_cons (pe_lam0 (T := lawT PT) TB rfl (List.mem_singleton.mpr rfl) lawTu lam0_free) (pa_cons (pe_lam1 (T := lawT PT) TB rfl (List.mem_singleton.mpr rfl) lawTu lam1_free pe_int) pa_nil)))) (pg_name (i := 17) scLaw.nd rfl (.inl rfl)) (pss_cons (ps_set (i := 18) scLaw.nd rfl (.inl rfl) pe_non)
    (pss_cons (ps_try_asMany (tb := fun W => tDrop (tEither (tCallL (lmNF (cxOf CX0 P w K mg base NLaw "law" (defScope sLaw) f (.ref cc) A outer s H E).nox (lamArgs (eLam 0)) (lamScope (eLam 0))) (lamBody (eLam 0)) 17 [1, 11, 15] ["pen", "due", "rules"] [] (WE W) (tbL0 K Cl CBL)) (tCallL (lmNF (cxOf CX0 P w K mg base NLaw "law" (defScope sLaw) f (.ref cc) A outer s H E).nox (lamArgs (eLam 1)) (lamScope (eLam 1))) (lamBody (eLam 1)) 17 [1, 11, 10] ["a1", "pen", "due", "made"] [.int 0] (WE W) (tbL1 K Cr CBR)))) (Wout := fun _ _ _ _ => False) (l := [(.ref CBL, 19, suiteL CBL "lot"), (.ref CBR, 19, suiteL CBR "rule")]) rfl rfl scLaw.nd L2.takes0
      (fun W pn xe tk _ => pss_one (ps_expr (pe_either
        (pe_callL (cl := _) (ps := []) (fr := ["pen", "due", "rules"]) (k := 4) (fun _ => lam0_sc) (fun _ => rfl) (fun ok => Caps.made ok lam0_free lam0_fr (by rfl)) hr (by decide) (fun σ => passAt tk σ) (by rfl) (.inl rfl) rfl (fun _ _ _ _ => by rfl) (fun _ _ _ _ its hl => by cases its with
          | nil => exact ⟨_, rfl, rfl⟩
          | cons a b => cases hl) (fun E1 f1 c1 A1 o1 s1 H1 hr1 => (pe_kpX (E := E1) c_lot_textX hr1 (by decide) (passes_call (takes_of rfl rfl rfl rfl) fun _ _ _ _ h => h) (pa_cons (pe_kp c_law_pick hr1 (by decide) (pa_cons (pe_var (i := 0) rfl (.inr (.inr rfl))) (pa_cons (pe_lst (pa_cons pe_non (pa_cons pe_int (pa_cons (pe_var (i := 1) rfl (.inr (.inr rfl))) (pa_cons (pe_var (i := 2) rfl (.inr (.inr rfl))) pa_nil))))) pa_nil))) pa_nil))))
        (pe_callL (cl := _) (ps := ["a1"]) (fr := ["pen", "due", "made"]) (k := 4) (fun _ => lam1_sc) (fun _ => rfl) (fun ok => Caps.made ok lam1_free lam1_fr (by rfl)) hr (by decide) (fun σ => passAt tk σ) (by rfl) (.inl rfl) rfl (fun z => nomatch z) (fun _ _ _ _ its hl => by match its, hl with
          | [u], _ => exact ⟨_, rfl, rfl⟩) (fun E1 f1 c1 A1 o1 s1 H1 hr1 => (pe_kpX (E := E1) c_rules_textX hr1 (by decide) (passes_call (takes_of rfl rfl rfl rfl) fun _ _ _ _ h => h) (pa_cons (pe_kp c_law_pick hr1 (by decide) (pa_cons (pe_var (i := 1) rfl (.inr (.inr rfl))) (pa_cons (pe_lst (pa_cons pe_non (pa_cons pe_int (pa_cons (pe_var (i := 2) rfl (.inr (.inr rfl))) (pa_cons (pe_var (i := 3) rfl (.inr (.inr rfl))) pa_nil))))) pa_nil))) pa_nil)))))))
      (.cons rfl rfl ⟨rfl, by decide, .inl mgL⟩ (fun a oe cls d pn hz hf => pss_one (ps_set (i := 18) scLaw.nd rfl (.inl rfl) (pe_tup (pa_cons pe_str (pa_cons (pe_xf xl.xf xl.no hz hf (pv 19)) pa_nil)))))
      (.cons rfl rfl ⟨rfl, by decide, .inl mgR⟩ (fun a oe cls d pn hz hf => pss_one (ps_set (i := 18) scLaw.nd rfl (.inl rfl) (pe_tup (pa_cons pe_str (pa_cons (pe_xf xr.xf xr.no hz hf (pv 19)) pa_nil))))) .nil)))
    (pss_one (ps_expr (pe_bm PySem.F.plainAttrs_list PySem.F.slot_list_append PySem.F.type_list_append mt_append (pv 16) (pa_cons (pv 18) pa_nil)))))))
    (pss_one (ps_if (pt_cmpR (op_neD hr.units) (pv 16) (pe_lst (pa_cons (pe_tup (pa_cons pe_str (pa_cons pe_non pa_nil))) (pa_cons (pe_tup (pa_cons pe_str (pa_cons pe_non pa_nil))) pa_nil))) (nomark _)) (pss_one (ps_ret pe_bl)) pss_nil))))))))))))))))
    (pss_one (ps_ret pe_bl))))⟩
end
end Q
set_option maxHeartbeats 16000000
/-! F48: the law keeps its promise. -/
namespace Q
open PySem PySem.Spec PyProof.Rows L2 NdefX LamX
theorem tabs_off {T : List (Addr × Str)} {p : Addr} {H H' : Hp} {xs : List V} (t : Tabs T H) (h : Off p H H') (hp : H p = some (.lst xs)) : Tabs T H' := fun q hq => by
  obtain ⟨ps, h1, h2, h3⟩ := t q hq
  refine ⟨ps, h _ _ (fun z => by rw [z, hp] at h1; cases h1) h1, h2, fun pos cv hc => ?_⟩
  obtain ⟨c, e, hco⟩ := h3 pos cv hc
  exact ⟨c, e, h _ _ (fun z => by rw [z, hp] at hco; cases hco) hco⟩
theorem tabs_off2 {T : List (Addr × Str)} {p o : Addr} {H H' : Hp} {xs ys : List V} (t : Tabs T H) (h : Off2 p o H H') (hp : H p = some (.lst xs)) (ho : H o = some (.lst ys)) : Tabs T H' := fun q hq => by
  obtain ⟨ps, h1, h2, h3⟩ := t q hq
  refine ⟨ps, h _ _ (fun z => by rw [z, hp] at h1; cases h1) (fun z => by rw [z, ho] at h1; cases h1) h1, h2, fun pos cv hc => ?_⟩
  obtain ⟨c, e, hco⟩ := h3 pos cv hc
  exact ⟨c, e, h _ _ (fun z => by rw [z, hp] at hco; cases hco) (fun z => by rw [z, ho] at hco; cases hco) hco⟩
theorem Pen.lst {H : Hp} {p c : Addr} {n : Nat} (h : Pen H p c n) : ∃ xs, H p = some (.lst xs) := by
  obtain ⟨cells, a, r, h1, _⟩ := h
  exact ⟨_, h1⟩
theorem OkV.okWd {wd : Wd} (h : OkV wd) : OkWd wd (srtW wd) := ⟨h.ne, by have := h.few; omega, h.nd, h.good, h.zero, srtW_perm h.nd, by rw [srtW_fst]; exact srtTx_srt _⟩
theorem OkWd.self {l wd : Wd} (h : OkWd l wd) : OkWd wd wd := ⟨fun z => h.ne (List.perm_nil.mp (z ▸ h.perm.symm)), by rw [h.perm.length_eq]; exact h.few, (h.perm.map _).nodup_iff.mpr h.nd, fun p hp => h.good p (h.perm.mem_iff.mp hp), h.zero.elim fun p hp => ⟨p, h.perm.mem_iff.mpr hp.1, hp.2⟩, .refl _, h.srt⟩
theorem OkWd.of {l lw wd : Wd} (h : OkWd l wd) (hp : lw.Perm wd) : OkWd lw wd := by
  have h' := h.self
  exact ⟨fun z => h'.ne (List.perm_nil.mp (z ▸ hp.symm)), by rw [hp.length_eq]; exact h'.few, (hp.map _).nodup_iff.mpr h'.nd, fun p q => h'.good p (hp.mem_iff.mp q), h'.zero.elim fun p q => ⟨p, hp.mem_iff.mpr q.1, q.2⟩, hp.symm, h'.srt⟩
mutual
theorem ok_lk {wd wd' : Wd} (h : ∀ x, lk wd x = lk wd' x) : ∀ t : Tm, t.ok wd → t.ok wd'
  | .nd w ps, k => by
    unfold Tm.ok at k ⊢
    exact ⟨by rw [← h]; exact k.1, oks_lk h ps k.2⟩
theorem oks_lk {wd wd' : Wd} (h : ∀ x, lk wd x = lk wd' x) : ∀ ps : List Tm, Tm.oks wd ps → Tm.oks wd' ps
  | [], _ => by unfold Tm.oks; trivial
  | p :: ps, k => by
    unfold Tm.oks at k ⊢
    exact ⟨ok_lk h p k.1, oks_lk h ps k.2⟩
end
theorem perm_map_inv {α β : Type} {f : α → β} {m n : List β} (h : m.Perm n) : ∀ l : List α, n = l.map f → ∃ l' : List α, l'.Perm l ∧ m = l'.map f := by
  induction h with
  | nil => intro l e; exact ⟨[], by rw [List.map_eq_nil_iff.mp e.symm], rfl⟩
  | cons x _ ih =>
    intro l e
    cases l with
    | nil => cases e
    | cons a l =>
      rw [List.map_cons] at e
      obtain ⟨e1, e2⟩ := List.cons.inj e
      obtain ⟨l', h1, h2⟩ := ih l e2
      exact ⟨a :: l', h1.cons a, by rw [List.map_cons, e1, h2]⟩
  | swap x y r =>
    intro l e
    cases l with
    | nil => cases e
    | cons a l =>
      cases l with
      | nil => cases e
      | cons b l =>
        rw [List.map_cons, List.map_cons] at e
        obtain ⟨e1, e2⟩ := List.cons.inj e
        obtain ⟨e3, e4⟩ := List.cons.inj e2
        exact ⟨b :: a :: l, .swap a b l, by rw [List.map_cons, List.map_cons, e1, e3, e4]⟩
  | trans _ _ ih1 ih2 =>
    intro l e
    obtain ⟨l1, h1, h2⟩ := ih2 l e
    obtain ⟨l2, h3, h4⟩ := ih1 l1 h2
    exact ⟨l2, h3.trans h1, h4⟩
def spLaw (K : Frag) (PT : Addr) : Sp := fun vs H Q _ => ∃ a, ∃ ns : List Int, vs = [.ref a] ∧ SqL K H a (ns.map V.int) ∧ H PT = some (.tbl #[]) ∧ ∀ H', Q (.bl true) H'
section
variable {P : Program} {w : World} {K : Frag} {mg : Str → Option Value} {base : Heap}
theorem opc_of {tb : TE} {σ : L2.St} {H : Hp} {Q : VK} {rr : R2} {x : V} (h : tb σ H fun y H2 => tOp rr (tC x) (tC y) σ H2 Q) : tOp rr (tC x) tb σ H Q := h
theorem for_te {te : TE} {g : TG} {tb : TS} {D : Ends} {σ : L2.St} {H : Hp} (h : te σ H fun x H1 => tFor (iTup K (tC x)) g tb D σ H1) : tFor (iTup K te) g tb D σ H := h
theorem for_tupC {g : TG} {tb : TS} {D : Ends} {σ : L2.St} {H : Hp} {a : Addr} {xs : List V} (hq : SqT K H a xs) (Pv : Nat → L2.St → Hp → Prop) (h0 : Pv 0 σ H) (hG : ∀ i σ H, i ≤ xs.length → Pv i σ H → SqT K H a xs)
    (hs : ∀ i x σ H, xs[i]? = some x → Pv i σ H → g x σ H fun σ2 H2 => tb { D with nx := Pv (i + 1), ct := Pv (i + 1), bk := D.nx } σ2 H2) (hd : ∀ σ H, Pv xs.length σ H → D.nx σ H) : tFor (iTup K (tC (.ref a))) g tb D σ H :=
  ⟨a, rfl, ⟨xs, hq⟩, for_it walk_tup Pv h0 hG (fun i x σ H H' hi p y => by
    obtain ⟨rfl, hx⟩ := y
    exact hs i x σ _ hx p) hd⟩
/-- «z».m(x), x there -/
def M1R (rr : V → List V → Hp → VK → Prop) (z : Str) (x : V) (H : Hp) (Q : VK) : Prop := rr (.str z) [x] H Q
theorem m1r_of {ta : TE} {σ : L2.St} {H : Hp} {Q : VK} {rr : V → List V → Hp → VK → Prop} {z : Str} (h : ta σ H fun x H1 => M1R rr z x H1 Q) : tM1 rr (tC (.str z)) ta σ H Q := ⟨⟨z, rfl⟩, h⟩
theorem m1s_go {X : Hs} {σ : L2.St} {H : Hp} {α : Type} {r : Rel α} {y : α} {rr : V → List V → Hp → VK → Prop} {z : Str} {x : V} {Q : VK} (h : Er K X (tM1 rr (tC (.str z)) (tC x)) σ H r y) (dm : Dm X H) (k : ∀ v H2, Ex H H2 → r K (hid X H2) v y → Q v H2) : M1R rr z x H Q := (h.go dm k).2
structure LawX (K : Frag) (Cl Cr CBL CBR : Addr) : Prop where
  exLL : PySem.W.exmOne K (.ref CBL) (.ref CBL) = some true
  exRL : PySem.W.exmOne K (.ref CBR) (.ref CBL) = some false
  exRR : PySem.W.exmOne K (.ref CBR) (.ref CBR) = some true
  nL : PySem.W.kitOne K (.type "NoneType") (.ref Cl) = some false
  iL : PySem.W.kitOne K (.type "int") (.ref Cl) = some false
  sL : PySem.W.kitOne K (.type "str") (.ref Cl) = some false
  oL : PySem.W.kitOne K (.ref Cr) (.ref Cl) = some false
  nR : PySem.W.kitOne K (.type "NoneType") (.ref Cr) = some false
  iR : PySem.W.kitOne K (.type "int") (.ref Cr) = some false
  sR : PySem.W.kitOne K (.type "str") (.ref Cr) = some false
  oR : PySem.W.kitOne K (.ref Cl) (.ref Cr) = some false
/-- None, a number, a text or an instance of C -/
def rBadV (C : Addr) : Rel Unit := fun _ H v _ => v = .non ∨ (∃ i, v = .int i) ∨ (∃ x, v = .str x) ∨ ∃ a dx fs, v = .ref a ∧ H a = some (.ins C dx fs)
instance (C : Addr) : Mono (rBadV C) := ⟨fun e h => by
  rcases h with h | h | h | ⟨a, dx, fs, h1, h2⟩
  · exact .inl h
  · exact .inr (.inl h)
  · exact .inr (.inr (.inl h))
  · exact .inr (.inr (.inr ⟨a, dx, fs, h1, e.ins _ _ _ _ h2⟩))⟩
theorem badV_ty {C D : Addr} {H : Hp} {v : V} (T : C8.InsC K C) (h1 : PySem.W.kitOne K (.type "NoneType") (.ref D) = some false) (h2 : PySem.W.kitOne K (.type "int") (.ref D) = some false) (h3 : PySem.W.kitOne K (.type "str") (.ref D) = some false) (h4 : PySem.W.kitOne K (.ref C) (.ref D) = some false)
    (h : rBadV C K H v ()) : ∃ t, TyX K H v t ∧ PySem.W.kitOne K t (.ref D) = some false := by
  rcases h with rfl | ⟨i, rfl⟩ | ⟨x, rfl⟩ | ⟨a, dx, fs, rfl, h⟩
  · exact ⟨_, .base .non, h1⟩
  · exact ⟨_, .base (.int i), h2⟩
  · exact ⟨_, .base (.str x), h3⟩
  · exact ⟨_, .base (.ins h T.cl T.ha T.hn T.htk T.hm), h4⟩
theorem TyX.mono' {H H' : Hp} {a C dx : Addr} {fs : List (Str × V)} (h : hid (fun _ => false) H a = some (.ins C dx fs)) : True := trivial
theorem lmO_ne {f : Addr} {F : NF} {lb : Expr} {dV : Value} (ps : Array Value) : LmO f F lb dV ≠ .tbl ps := fun z => by
  unfold LmO at z
  cases z
theorem ok_law {Cw Cb Cl Cr CBL CBR cc PT f : Addr} {oc dV kV doc pm ct : Value} {an od : Option Addr} {osl : Array (Option Value)} (B : Bi mg) (L : LawC P w K mg base Cw Cb Cl Cr CBL CBR) (LX : LawX K Cl Cr CBL CBR) (TB : TabB base mg cc PT)
    (lk : K.lookup f = some ⟨oc, od, .func (PySem.W.fnOf "law" "law" (defArgs sLaw) (defBody sLaw) (defScope sLaw) dV kV doc pm an (.ref cc) ct), osl⟩) (hcd : PySem.W.codeIn K (.ref cc) "law" = true) :
    FnAt P w K mg base CX0 131 f (PySem.W.fnOf "law" "law" (defArgs sLaw) (defBody sLaw) (defScope sLaw) dV kV doc pm an (.ref cc) ct) ["script"] (spLaw K PT) :=
  fnAt_of lk hcd scLaw (fun vs H Q E ⟨a, ns, e, _⟩ => by rw [e]; rfl) fun A outer s H vs Q E hgd hr e0 ⟨a, ns, e, hS, hT, q⟩ => by
    subst e
    have key : ∃ t, PSs (cxOf CX0 P w K mg base NLaw "law" (defScope sLaw) f (.ref cc) A outer s H E).nox (defBody sLaw) t ∧ t { nx := fun _ H' => Q .non H', rt := Q } (L2.start NLaw [.ref a]) H := by
      obtain ⟨c_law_pen, c_law_draw, c_law_pick, c_law_mixed, c_law_places, c_law_hidden, c_law_size, c_law_ordered, c_law_says, c_law_term, c_law_lot_text, c_law_rules, c_law_rules_text, w_init, l_init, r_init, m_lotEq, m_rulesEq, c_lot_text, c_rules_text, c_read_lot, c_read_rules, c_lot_textW, c_rules_textW, c_read_lotW, c_read_rulesW, c_lot_textX, c_rules_textX, Tw, Tl, Tr, Mw, Ml, Mr, nl, nr, xl, xr, mgL, mgR⟩ := L
      obtain ⟨fl, fdl, Fl, cl, hml, bl⟩ := m_lotEq
      obtain ⟨fr, fdr, Fr, cr, hmr, br⟩ := m_rulesEq
      refine ⟨_, (pss_cons (ps_set (i := 1) scLaw.nd rfl (.inr rfl) (pe_kp c_law_pen hr (by decide) (pa_cons (pv 0) pa_nil)))
    (pss_cons (ps_for PassesOwn.never rfl (pi_range1 (by rfl) B.range (pa_cons pe_int pa_nil)) (pg_name (i := 2) scLaw.nd rfl (.inl rfl)) (pss_cons (ps_set (i := 3) scLaw.nd rfl (.inr rfl) (pe_kp c_law_places hr (by decide) (pa_cons (pv 1) pa_nil)))
    (pss_cons (ps_asg (pe_tup (pa_cons (pe_mkK w_init Mw Tw.mgC hr (by decide) (pa_cons (pv 3) pa_nil)) (pa_cons (pe_kp c_law_hidden hr (by decide) (pa_cons (pv 1) (pa_cons (pv 3) (pa_cons pe_int pa_nil)))) pa_nil))) (pg_tup rfl (pgs_cons (pg_name (i := 4) scLaw.nd rfl (.inl rfl)) (pgs_cons (pg_name (i := 5) scLaw.nd rfl (.inr rfl)) pgs_nil))))
    (pss_cons (ps_set (i := 6) scLaw.nd rfl (.inl rfl) (pe_kp c_law_ordered hr (by decide) (pa_cons (pe_lc (own := [("turn", 7)]) (g := gName 7) (tt := tYes) rfl scLaw.nd (pi_range1 (by rfl) B.range (pa_cons (pe_kp c_law_draw hr (by decide) (pa_cons (pv 1) (pa_cons pe_int pa_nil))) pa_nil)) (blkOk_by (N := NLaw) (sc := defScope sLaw) (by decide +kernel)) (fun _ _ _ _ _ => (pg_name (i := 7) scLaw.nd rfl (.inl rfl))) (fun _ _ _ _ _ => pts_nil) (fun _ _ _ _ _ => (pe_kp c_law_term hr (by decide) (pa_cons (pv 1) (pa_cons (pv 3) (pa_cons pe_int pa_nil)))))) pa_nil)))
    (pss_cons (ps_setLc (i := 8) (own := [("term", 9)]) (g := gName 9) rfl scLaw.nd rfl rfl (sw_true rfl rfl rfl (by decide +kernel)) (pi_list (pv 6)) (blkOk_by (N := NLaw) (sc := defScope sLaw) (by decide +kernel)) (fun _ _ _ _ _ => (pg_name (i := 9) scLaw.nd rfl (.inl rfl))) (fun _ _ _ _ _ => (pts_one (pt_cmpR op_le (pe_kp c_law_size hr (by decide) (pa_cons (pv 9) pa_nil)) pe_int (nomark _)))) (fun _ _ _ _ _ => (pe_tup (pa_cons (pv 9) (pa_cons (pe_kp c_law_says hr (by decide) (pa_cons (pv 5) (pa_cons (pv 9) pa_nil))) pa_nil)))))
    (pss_cons (ps_asg (pe_tup (pa_cons (pe_mkK l_init Ml Tl.mgC hr (by decide) (pa_cons (pv 4) (pa_cons (pe_kp c_law_mixed hr (by decide) (pa_cons (pv 1) (pa_cons (pv 8) pa_nil))) pa_nil))) (pa_cons (pe_kp c_law_lot_text hr (by decide) (pa_cons (pv 3) (pa_cons (pv 8) pa_nil))) pa_nil))) (pg_tup rfl (pgs_cons (pg_name (i := 10) scLaw.nd rfl (.inr rfl)) (pgs_cons (pg_name (i := 11) scLaw.nd rfl (.inr rfl)) pgs_nil))))
    (pss_cons (ps_set (i := 12) scLaw.nd rfl (.inl rfl) (pe_split (pv 11) pe_str))
    (pss_cons (ps_set (i := 13) scLaw.nd rfl (.inl rfl) (pe_join pe_str (pe_op op_catL (pe_lst (pa_cons (pe_op op_add_str pe_str (pe_join pe_str (pe_kp c_law_mixed hr (by decide) (pa_cons (pv 1) (pa_cons (pe_slice sl_list (pe_split (pe_ix ix_list (pv 12) pe_int (fun _ _ => rfl)) pe_str) (po_some pe_int) po_none) pa_nil))))) pa_nil)) (pe_kp c_law_mixed hr (by decide) (pa_cons (pv 1) (pa_cons (pe_slice sl_list (pv 12) (po_some pe_int) po_none) pa_nil))))))
    (pss_cons (ps_if (PW.pt (pw_or (pt_cmpR op_ne (pe_callB (call_reprL hgd (hu2 hr)) rfl B.repr (by decide +kernel) (pa_cons (pe_lst (pa_cons (pe_kp c_lot_text hr (by decide) (pa_cons (pv 10) pa_nil)) (pa_cons (pe_kpW c_lot_textW hr (by decide) (pk_cons (pv 10) pk_nil)) pa_nil))) pa_nil)) (pe_callB (call_reprL hgd (hu2 hr)) rfl B.repr (by decide +kernel) (pa_cons (pe_op op_rep (pe_lst (pa_cons (pv 11) pa_nil)) pe_int) pa_nil)) (nomark _)) (pw_or (pt_cmpR (op_neOwn Fl hml.at_ hml.fn bl nl.ne nl.mro (hr.mono (by decide))) (pe_kp c_read_lot hr (by decide) (pa_cons (pv 13) pa_nil)) (pv 10) (nomark _)) (pw_or1 (pt_cmpR (op_neOwn Fl hml.at_ hml.fn bl nl.ne nl.mro (hr.mono (by decide))) (pe_kpW c_read_lotW hr (by decide) (pk_cons (pv 11) pk_nil)) (pv 10) (nomark _)))))) (pss_one (ps_ret pe_bl)) pss_nil)
    (pss_cons (ps_set (i := 14) scLaw.nd rfl (.inl rfl) (pe_kp c_law_rules hr (by decide) (pa_cons (pv 1) (pa_cons (pv 3) pa_nil))))
    (pss_cons (ps_asg (pe_tup (pa_cons (pe_mkK r_init Mr Tr.mgC hr (by decide) (pa_cons (pv 4) (pa_cons (pv 14) pa_nil))) (pa_cons (pe_kp c_law_rules_text hr (by decide) (pa_cons (pv 3) (pa_cons (pv 14) pa_nil))) pa_nil))) (pg_tup rfl (pgs_cons (pg_name (i := 15) scLaw.nd rfl (.inr rfl)) (pgs_cons (pg_name (i := 11) scLaw.nd rfl (.inr rfl)) pgs_nil))))
    (pss_cons (ps_if (PW.pt (pw_or (pt_cmpR op_ne (pe_callB (call_reprL hgd (hu2 hr)) rfl B.repr (by decide +kernel) (pa_cons (pe_lst (pa_cons (pe_kp c_rules_text hr (by decide) (pa_cons (pv 15) pa_nil)) (pa_cons (pe_kpW c_rules_textW hr (by decide) (pk_cons (pv 15) pk_nil)) pa_nil))) pa_nil)) (pe_callB (call_reprL hgd (hu2 hr)) rfl B.repr (by decide +kernel) (pa_cons (pe_op op_rep (pe_lst (pa_cons (pv 11) pa_nil)) pe_int) pa_nil)) (nomark _)) (pw_or (pt_cmpR (op_neOwn Fr hmr.at_ hmr.fn br nr.ne nr.mro (hr.mono (by decide))) (pe_kp c_read_rules hr (by decide) (pa_cons (pv 11) pa_nil)) (pv 15) (nomark _)) (pw_or1 (pt_cmpR (op_neOwn Fr hmr.at_ hmr.fn br nr.ne nr.mro (hr.mono (by decide))) (pe_kpW c_read_rulesW hr (by decide) (pk_cons (pv 11) pk_nil)) (pv 15) (nomark _)))))) (pss_one (ps_ret pe_bl)) pss_nil)
    (pss_cons (ps_set (i := 16) scLaw.nd rfl (.inl rfl) (pe_lst pa_nil))
    (pss_cons (ps_for PassesOwn.never rfl (pi_tup (pe_tup (pa_cons (pe_lam0 (T := lawT PT) TB rfl (List.mem_singleton.mpr rfl) lawTu lam0_free) (pa_cons (pe_lam1 (T := lawT PT) TB rfl (List.mem_singleton.mpr rfl) lawTu lam1_free pe_int) pa_nil)))) (pg_name (i := 17) scLaw.nd rfl (.inl rfl)) (pss_cons (ps_set (i := 18) scLaw.nd rfl (.inl rfl) pe_non)
    (pss_cons (ps_try_asMany (tb := fun W => tDrop (tEither (tCallL (lmNF (cxOf CX0 P w K mg base NLaw "law" (defScope sLaw) f (.ref cc) A outer s H E).nox (lamArgs (eLam 0)) (lamScope (eLam 0))) (lamBody (eLam 0)) 17 [1, 11, 15] ["pen", "due", "rules"] [] (WE W) (tbL0 K Cl CBL)) (tCallL (lmNF (cxOf CX0 P w K mg base NLaw "law" (defScope sLaw) f (.ref cc) A outer s H E).nox (lamArgs (eLam 1)) (lamScope (eLam 1))) (lamBody (eLam 1)) 17 [1, 11, 10] ["a1", "pen", "due", "made"] [.int 0] (WE W) (tbL1 K Cr CBR)))) (Wout := fun _ _ _ _ => False) (l := [(.ref CBL, 19, suiteL CBL "lot"), (.ref CBR, 19, suiteL CBR "rule")]) rfl rfl scLaw.nd L2.takes0
      (fun W pn xe tk _ => pss_one (ps_expr (pe_either
        (pe_callL (cl := _) (ps := []) (fr := ["pen", "due", "rules"]) (k := 4) (fun _ => lam0_sc) (fun _ => rfl) (fun ok => Caps.made ok lam0_free lam0_fr (by rfl)) hr (by decide) (fun σ => passAt tk σ) (by rfl) (.inl rfl) rfl (fun _ _ _ _ => by rfl) (fun _ _ _ _ its hl => by cases its with
          | nil => exact ⟨_, rfl, rfl⟩
          | cons a b => cases hl) (fun E1 f1 c1 A1 o1 s1 H1 hr1 => (pe_kpX (E := E1) c_lot_textX hr1 (by decide) (passes_call (takes_of rfl rfl rfl rfl) fun _ _ _ _ h => h) (pa_cons (pe_kp c_law_pick hr1 (by decide) (pa_cons (pe_var (i := 0) rfl (.inr (.inr rfl))) (pa_cons (pe_lst (pa_cons pe_non (pa_cons pe_int (pa_cons (pe_var (i := 1) rfl (.inr (.inr rfl))) (pa_cons (pe_var (i := 2) rfl (.inr (.inr rfl))) pa_nil))))) pa_nil))) pa_nil))))
        (pe_callL (cl := _) (ps := ["a1"]) (fr := ["pen", "due", "made"]) (k := 4) (fun _ => lam1_sc) (fun _ => rfl) (fun ok => Caps.made ok lam1_free lam1_fr (by rfl)) hr (by decide) (fun σ => passAt tk σ) (by rfl) (.inl rfl) rfl (fun z => nomatch z) (fun _ _ _ _ its hl => by match its, hl with
          | [u], _ => exact ⟨_, rfl, rfl⟩) (fun E1 f1 c1 A1 o1 s1 H1 hr1 => (pe_kpX (E := E1) c_rules_textX hr1 (by decide) (passes_call (takes_of rfl rfl rfl rfl) fun _ _ _ _ h => h) (pa_cons (pe_kp c_law_pick hr1 (by decide) (pa_cons (pe_var (i := 1) rfl (.inr (.inr rfl))) (pa_cons (pe_lst (pa_cons pe_non (pa_cons pe_int (pa_cons (pe_var (i := 2) rfl (.inr (.inr rfl))) (pa_cons (pe_var (i := 3) rfl (.inr (.inr rfl))) pa_nil))))) pa_nil))) pa_nil)))))))
      (.cons rfl rfl ⟨rfl, by decide, .inl mgL⟩ (fun a oe cls d pn hz hf => pss_one (ps_set (i := 18) scLaw.nd rfl (.inl rfl) (pe_tup (pa_cons pe_str (pa_cons (pe_xf xl.xf xl.no hz hf (pv 19)) pa_nil)))))
      (.cons rfl rfl ⟨rfl, by decide, .inl mgR⟩ (fun a oe cls d pn hz hf => pss_one (ps_set (i := 18) scLaw.nd rfl (.inl rfl) (pe_tup (pa_cons pe_str (pa_cons (pe_xf xr.xf xr.no hz hf (pv 19)) pa_nil))))) .nil)))
    (pss_one (ps_expr (pe_bm PySem.F.plainAttrs_list PySem.F.slot_list_append PySem.F.type_list_append mt_append (pv 16) (pa_cons (pv 18) pa_nil)))))))
    (pss_one (ps_if (pt_cmpR (op_neD hr.units) (pv 16) (pe_lst (pa_cons (pe_tup (pa_cons pe_str (pa_cons pe_non pa_nil))) (pa_cons (pe_tup (pa_cons pe_str (pa_cons pe_non pa_nil))) pa_nil))) (nomark _)) (pss_one (ps_ret pe_bl)) pss_nil))))))))))))))))
    (pss_one (ps_ret pe_bl)))), ?_⟩
      refine sq ⟨.ref a, rfl, a, ns, rfl, hS, fun p c H1 hp1 e1 pn1 => ?_⟩
      refine gN ?_
      let X : Hs := fun b => decide (b = p)
      have Xp : X p = true := decide_eq_true rfl
      have Xn : ∀ {b : Addr}, b ≠ p → X b = false := fun h => decide_eq_false h
      have dmP : ∀ {H' : Hp}, H' p ≠ none → Dm X H' := fun h b hb => by rw [of_decide_eq_true hb]; exact h
      refine sq (st_forR (n := 4) (by decide) (fun j σ' H' => (∃ t2 t3 t4 t5 t6 t7 t8 t9 t10 t11 t12 t13 t14 t15 t16 t17 t18, σ' = [some (.ref a), some (.ref p), t2, t3, t4, t5, t6, t7, t8, t9, t10, t11, t12, t13, t14, t15, t16, t17, t18, none]) ∧ Pen H' p c (1000 * j) ∧ Tabs (lawT PT) H') ?_ ?_ ?_)
      · refine ⟨⟨_, _, _, _, _, _, _, _, _, _, _, _, _, _, _, _, _, rfl⟩, pn1, fun x hx => ?_⟩
        rw [List.mem_singleton.mp hx]
        exact TabS.nil (e1 _ _ hT)
      · rintro j σ' Hs hj ⟨⟨t2, t3, t4, t5, t6, t7, t8, t9, t10, t11, t12, t13, t14, t15, t16, t17, t18, rfl⟩, pn, tb⟩
        refine gN ?_
        have hnj : 1000 * j < 4000 := by omega
        have tb0 := tb
        obtain ⟨xs0, hp0⟩ := pn.lst
        have dm0 : Dm X Hs := dmP pn.at
        -- places
        refine sq ⟨_, rfl, p, c, 1000 * j, X, rfl, Xp, dm0, pn, by omega, fun d wd H2 hd okp off2 pn2 g2 => ?_⟩
        have okv := okp.okV
        refine gN ?_
        dsimp only
        have dm2 : Dm X H2 := dm0.off' off2 pn2.at
        have hdp : d ≠ p := fun z => pn.at (by rw [← z]; exact hd)
        have Xd := Xn hdp
        have hdct : rDct K (hid X H2) (.ref d) wd := ⟨d, rfl, .inl (by rw [hid_out Xd]; exact g2)⟩
        have okw := okv.okWd
        -- words, plan
        refine sq (asg_tup2 ((er_mkWords (K := K) (X := X) (i := 3) (d := d) (l := wd) (wd := srtW wd) rfl g2 Xd okw).go dm2 fun wv H3 e3 hwv => ?_))
        have dm3 := dm2.ex e3
        have mD := (inferInstance : Mono rDct)
        have mW := (inferInstance : Mono (rWds Cw))
        refine ⟨_, rfl, _, rfl, p, c, 1000 * j + 20, d, wd, X, 3, rfl, Xp, dm3, pn2.mono e3 (Nat.le_refl _), by omega, mD.mono (hid_le e3) hdct, okv, by decide, by decide, fun pv tab yes H4 okt off4 pn4 hpv => ⟨(by show 2 ≤ sizeLine; decide), fun tp htp => ⟨tp, _, rfl, .inl (.inl upd_same), rfl, _, _, rfl, _, _, rfl, rfl, ?_⟩⟩⟩
        have e5 := Evl.Ex.new (H := H4) (o := .tup [wv, pv]) htp
        generalize hH5 : upd H4 tp (.tup [wv, pv]) = H5 at e5
        have dm4 : Dm X H4 := dm3.off' off4 pn4.at
        have dm5 := dm4.ex e5
        have EX35 : Ex (hid X H3) (hid X H5) := Evl.Ex.trans (off4.hid Xp) (hid_ex e5)
        have hwv5 := mW.mono EX35.le hwv
        have hpv5 := (inferInstance : Mono rPlan).mono (hid_le e5) hpv
        have off05 : Off p Hs H5 := (off2.trans (Off.ex e3)).trans (off4.trans (Off.ex e5))
        have hd5 : H5 d = some (.dK (kvsW wd)) := e5 _ _ (off4 _ _ hdp (e3 _ _ g2))
        have pn5 := pn4.mono e5 (Nat.le_refl _)
        dsimp only
        -- terms
        refine sq (asg_of (call1_of (lc_rng ?_)))
        refine run_draw (K := K) (X := X) (i := 1) rfl er_int dm5 pn5 (by omega) (by decide) (by decide) fun g H6 g0 g1 off6 pn6 => ?_
        obtain ⟨gn, rfl⟩ : ∃ gn : Nat, g = gn := ⟨g.toNat, by omega⟩
        have dm6 : Dm X H6 := dm5.off' off6 pn6.at
        have hd6 := off6 _ _ hdp hd5
        refine run_lcE (K := K) (X := X) (r := rTm) (s := rInt) (xs := (List.range gn).map fun j => ((j : Nat) : Int)) (cst := tcst 3) (S := fun _ t => t.ok wd ∧ t.deep ≤ 3) (eix_range1 (by omega) (show Er K X (tC (.int ((gn : Nat) : Int))) _ _ rInt ((gn : Nat) : Int) from er_int)) dm6 Xp pn6 (by rw [List.length_map, List.length_range]; omega) (fun i hi Y v H7 kk hY dmY eY hv pn7 hkk Q7 q7 => ?_) fun tv terms H7 off7 pn7 dm7 htv hol hos => ?_
        · rw [List.length_map, List.length_range] at hkk
          have hh : hid Y H7 d = some (.dK (kvsW wd)) := eY _ _ (by rw [hid_out Xd]; exact hd6)
          obtain ⟨hYd, hd7⟩ := hid_some.mp hh
          have htc : tcst 3 = 13 := rfl
          have hkc : kk * tcst 3 ≤ 4 * 13 := Nat.mul_le_mul (by omega) (Nat.le_refl _)
          refine ⟨_, rfl, _, rfl, ?_⟩
          refine ⟨p, c, _, d, wd, Y, 3, rfl, hY, hYd, dmY, hd7, okv, pn7, by decide, by decide, by decide, by omega, fun v6 t H8 hto htd off8 pn8 hv8 => q7 v6 t H8 off8 (pn8.mono (Evl.Ex.refl _) (by have := Nat.add_mul kk 1 (tcst 3); rw [Nat.one_mul] at this; omega)) hv8 ⟨hto, htd⟩⟩
        rw [List.length_map, List.length_range] at hol pn7
        have ht0 : ∀ t ∈ terms, t.ok wd ∧ t.deep ≤ 3 := fun t ht => (hos t ht).elim fun _ h => h.2
        have hnm0 : ∀ t : Tm, t.ok wd → t.named := fun t ht => Tm.named_ok (fun p hp => (okv.good p hp).1) t ht
        have hz13 : ∀ t : Tm, t.ok wd → t.deep ≤ 3 → t.size ≤ 13 := fun t h1 h2 => size_deep okv t h1 3 h2
        refine (er_call1 (K := K) (X := X) (r := rLst rTm) (f := asc) (x := terms) (er_val htv) ⟨by omega, fun t ht => ⟨by have := (ht0 t ht).2; omega, by have := hz13 t (ht0 t ht).1 (ht0 t ht).2; unfold bigT; omega, Tm.fit_named _ (hnm0 t (ht0 t ht).1)⟩⟩).go dm7 fun av H8 e8 hav => ?_
        refine gN ?_
        dsimp only
        have dm8 := dm7.ex e8
        have ha0 : ∀ t ∈ asc terms, t.ok wd ∧ t.deep ≤ 3 := fun t ht => ht0 t (mem_asc.mp ht)
        have hal : (asc terms).length ≤ 5 := by
          have := (asc_nodup terms).length_le_of_subset fun t ht => mem_asc.mp ht
          omega
        have off58 : Off p H5 H8 := (off6.trans off7).trans (Off.ex e8)
        have EX58 : Ex (hid X H5) (hid X H8) := off58.hid Xp
        have hpv8 := (inferInstance : Mono rPlan).mono EX58.le hpv5
        have hwv8 := mW.mono EX58.le hwv5
        have hd8 := off58 _ _ hdp hd5
        have hdct8 : rDct K (hid X H8) (.ref d) wd := ⟨d, rfl, .inl (by rw [hid_out Xd]; exact hd8)⟩
        have pn8 := pn7.mono e8 (Nat.le_refl _)
        have htc : tcst 3 = 13 := rfl
        have hgc : gn * tcst 3 ≤ 5 * 13 := Nat.mul_le_mul (by omega) (Nat.le_refl _)
        let ff : Tm → Tm × Bool := fun t => (t, decide (kindOf tab t ∈ yes))
        let l : Bk := (asc terms).map ff
        have hlf : l.map Prod.fst = asc terms := by
          show ((asc terms).map ff).map Prod.fst = asc terms
          rw [List.map_map]
          exact List.map_id _
        have hll : l.length ≤ 5 := by show ((asc terms).map ff).length ≤ 5; rw [List.length_map]; exact hal
        have hl0 : ∀ x ∈ l, x.1.ok wd ∧ x.1.deep ≤ 3 := fun x hx => by
          obtain ⟨t, ht, rfl⟩ := List.mem_map.mp hx
          exact ha0 t ht
        have mP := (inferInstance : Mono rPlan)
        have hfil : (asc terms).filter (fun t => decide (((t.size : Nat) : Int) ≤ 200)) = asc terms := List.filter_eq_self.mpr fun t ht => decide_eq_true (by have := hz13 t (ha0 t ht).1 (ha0 t ht).2; omega)
        refine sq (st_set (K := K) (X := X) (r := rLst (rPr rTm rBl)) (x := l) (Er.is (er_lcIf (r := rTm) (s := rPr rTm rBl) (xs := asc terms) (p := fun t => decide (((t.size : Nat) : Int) ≤ 200)) (f := ff) (ei_list (er_var (i := 6) rfl hav)) (by omega) (fun t ht Y v9 H9 e9 hv9 => et_test (er_cmp0 (K := K) (g := fun i j => decide (i ≤ j)) (er_call1 (r := rTm) (f := fun t => ((t.size : Nat) : Int)) (x := t) (er_var (i := 9) rfl hv9) ⟨by have := (ha0 t ht).2; omega, by have := hz13 t (ha0 t ht).1 (ha0 t ht).2; unfold bigT; omega⟩) er_int)) fun t ht _ Y v9 H9 e9 hv9 => er_pr (er_var (i := 9) rfl hv9) (er_call2 (r := rPlan) (s := rTm) (f := fun p : (Tb × List Nat) × Tm => decide (kindOf p.1.1 p.2 ∈ p.1.2)) (x := (tab, yes)) (y := t) (er_var (i := 5) rfl (mP.mono e9.le hpv8)) (er_var (i := 9) rfl hv9) ⟨wd, okv, okt, (ha0 t ht).1, by have := (ha0 t ht).2; omega, hnm0 t (ha0 t ht).1⟩)) (by rw [hfil])) dm8 fun lv H9 e9 hlv => ?_)
        have dm9 := dm8.ex e9
        dsimp only
        -- made, due
        have okp' : ∀ t : Tm, t.ok wd → t.ok (srtW wd) := fun t ht => ok_lk (fun x => lk_perm (srtW_perm okv.nd).symm okv.nd x) t ht
        have hlnd : ndB l := ndB_of (wd := wd) (fun x hx => (hl0 x hx).1) (by rw [hlf]; exact asc_nodup _)
        have okl : ∀ m : Bk, m.Perm l → OkLot (srtW wd) m := fun m hm => ⟨fun x hx => by
          have hx := hl0 x (hm.mem_iff.mp hx)
          exact ⟨okp' _ hx.1, by omega, by have := hz13 _ hx.1 hx.2; omega, Tm.fit_named _ (hnm0 _ hx.1)⟩, ndB_perm hm.symm hlnd, by rw [hm.length_eq]; omega⟩
        have hfix : ∀ m : Bk, m.Perm l → rowsB m = l := fun m hm => (rowsB_perm hm (ndB_perm hm.symm hlnd)).trans (rowsB_fix hlnd (by rw [hlf]; exact asc_asc _))
        have pn9 := pn8.mono e9 (Nat.le_refl _)
        refine sq (asg_tup2 (mk2_of ⟨_, rfl, ?_⟩))
        refine run_mixed (K := K) (X := X) (i := 1) (r := rPr rTm rBl) (xs := l) rfl Xp (er_var (i := 8) rfl hlv) dm9 pn9 (by omega) fun mv lm H10 hperm off10 pn10 dm10 hmv => ?_
        have EX8A : Ex (hid X H8) (hid X H10) := Evl.Ex.trans (hid_ex e9) (off10.hid Xp)
        refine (er_mkLot (K := K) (X := X) (wd := srtW wd) (l := lm) (er_val (mW.mono EX8A.le hwv8)) (er_val hmv) (okl lm hperm)).go dm10 fun madev H11 e11 hmade => ?_
        rw [hfix lm hperm] at hmade
        have dm11 := dm10.ex e11
        have mL := (inferInstance : Mono (rLst (rPr rTm rBl)))
        have hlv11 := mL.mono (Evl.Ex.trans (off10.hid Xp) (hid_ex e11)).le hlv
        have hdct11 := mD.mono (Evl.Ex.trans EX8A (hid_ex e11)).le hdct8
        refine (er_call2 (K := K) (X := X) (r := rDct) (s := rLst (rPr rTm rBl)) (f := fun p : Wd × Bk => lotT (srtW p.1, p.2)) (x := wd) (y := l) (er_var (i := 3) rfl hdct11) (er_var (i := 8) rfl hlv11) ⟨okv, by omega, fun x hx => ⟨by have := (hl0 x hx).2; omega, by have := hz13 _ (hl0 x hx).1 (hl0 x hx).2; omega, hnm0 _ (hl0 x hx).1⟩⟩).go dm11 fun duev H12 e12 hdue => ⟨(by show 2 ≤ sizeLine; decide), fun tp2 htp2 => ⟨tp2, _, rfl, .inl (.inl upd_same), rfl, _, _, rfl, _, _, rfl, rfl, ?_⟩⟩
        have hduev : duev = .str (S (lotT (srtW wd, l))) := hdue
        subst hduev
        have e13 := Evl.Ex.new (H := H12) (o := .tup [madev, .str (S (lotT (srtW wd, l)))]) htp2
        generalize hH13 : upd H12 tp2 (.tup [madev, .str (S (lotT (srtW wd, l)))]) = H13 at e13
        have dm13 := (dm11.ex e12).ex e13
        have mLot := (inferInstance : Mono (rLot Cw Cl))
        have hmade13 := mLot.mono (hid_le (e12.trans e13)) hmade
        have hdct13 := mD.mono (hid_le (e12.trans e13)) hdct11
        have hwv13 := mW.mono (Evl.Ex.trans EX8A (hid_ex ((e11.trans e12).trans e13))).le hwv8
        have pn13 := pn10.mono ((e11.trans e12).trans e13) (Nat.le_refl _)
        have off013 : Off p Hs H13 := (off05.trans off58).trans (((Off.ex e9).trans off10).trans (Off.ex ((e11.trans e12).trans e13)))
        dsimp only
        have hrefl : (l : Bk).Perm l := .refl _
        have DOC := okDoc (OkWd.self okw) (okl l hrefl) (by omega)
        have hdl : (lotT (srtW wd, l)).length < 1000000 := DOC.len
        refine sq (st_set (K := K) (X := X) (r := rLst rTx) (x := (wordsL ++ wordsT (srtW wd)) :: l.map answerT) (Er.is (er_split (sep := [10]) (er_var (i := 11) (r := rTx) rfl rfl) (er_tx (by decide +kernel)) (by decide) (by decide) hdl) DOC.spl) dm13 fun linv H14 e14 hlin => ?_)
        have dm14 := dm13.ex e14
        have pn14 := pn13.mono e14 (Nat.le_refl _)
        dsimp only
        -- turned
        have hokW := okv.okW
        have hal1 : ∀ m : Bk, m.Perm l → ((m.map answerT).map List.length).sum ≤ m.length * 2210 := fun m hm => by
          have := sum_le (l := m.map answerT) (n := 2210) fun x hx => by
            obtain ⟨t, ht, rfl⟩ := List.mem_map.mp hx
            have h := hl0 t (hm.mem_iff.mp ht)
            exact answer_len ⟨by have := hz13 _ h.1 h.2; omega, Tm.w8_named _ (hnm0 _ h.1)⟩
          rw [List.length_map] at this
          exact this
        have hw70 := wordsT_len hokW
        have hL0 : (wordsL ++ wordsT (srtW wd)).length ≤ 76 := by
          rw [List.length_append]
          show 6 + _ ≤ 76
          omega
        have hsl : (srtW wd).length ≤ 6 := hokW.few
        have hwl : ((srtW wd).map wordT).length = (srtW wd).length := List.length_map ..
        have hal2 : (l.map answerT).length = l.length := List.length_map ..
        refine sq (asg_of (m1r_of (op_of (lst1_of (opc_of (m1r_of ?_))))))
        refine run_mixed (K := K) (X := X) (i := 1) (r := rTx) (xs := (srtW wd).map wordT) rfl Xp (Er.is (er_drop1 (er_split (sep := [32]) (er_ixL (r := rTx) (i := 0) (er_var (i := 12) rfl hlin) er_int rfl) (er_tx (by decide +kernel)) (by decide) (by decide) (by omega)) er_int) (by rw [DOC.line]; rfl)) dm14 pn14 (by omega) fun m1v m1 H15 hp1 off15 pn15 dm15 hm1 => ?_
        obtain ⟨lw, hlw, rfl⟩ := perm_map_inv hp1 _ rfl
        rw [hwl] at pn15
        have OKlw := OkWd.of okw hlw
        have hWlw : OkW lw := ⟨by rw [hlw.length_eq]; exact hsl, (hlw.map _).nodup_iff.mpr hokW.nd, fun p hp => hokW.good p (hlw.mem_iff.mp hp)⟩
        have hlwl := hWlw.few
        have hlws := words_sum hWlw
        have hlw70 := wordsT_len hWlw
        refine m1s_go (z := " ") (σ := []) (er_join (K := K) (X := X) (sep := [32]) (xs := lw.map wordT) (er_tx (by decide +kernel)) (er_val hm1) (by rw [List.length_map, List.length_singleton]; omega)) dm15 fun jv H16 e16 hjv => ?_
        have dm16 := dm15.ex e16
        refine (er_catX (K := K) (X := X) (x := wordsL) (y := wordsT lw) (er_tx (by decide +kernel)) (er_val hjv) (by show 6 + _ < _; omega)).go dm16 fun cv H17 e17 hcv => ?_
        have dm17 := dm16.ex e17
        refine (er_lst1 (K := K) (X := X) (r := rTx) (er_val hcv)).go dm17 fun l1v H18 e18 hl1 => ?_
        have dm18 := dm17.ex e18
        have mT := (inferInstance : Mono (rLst rTx))
        have EX1418 : Ex (hid X H14) (hid X H18) := Evl.Ex.trans (off15.hid Xp) (hid_ex ((e16.trans e17).trans e18))
        have hlin18 := mT.mono EX1418.le hlin
        refine run_mixed (K := K) (X := X) (i := 1) (r := rTx) (xs := l.map answerT) rfl Xp (er_drop1 (xs := (wordsL ++ wordsT (srtW wd)) :: l.map answerT) (er_var (i := 12) rfl hlin18) er_int) dm18 (pn15.mono ((e16.trans e17).trans e18) (Nat.le_refl _)) (by omega) fun m2v m2 H19 hp2 off19 pn19 dm19 hm2 => ?_
        obtain ⟨l2, hl2, rfl⟩ := perm_map_inv hp2 _ rfl
        rw [hal2] at pn19
        have hl2s := hal1 l2 hl2
        have hl2l := hl2.length_eq
        refine (er_catL (K := K) (X := X) (r := rTx) (er_val (mT.mono (off19.hid Xp).le hl1)) (er_val hm2) (by rw [List.length_map, List.length_singleton]; omega)).go dm19 fun kv H20 e20 hkv => ?_
        have dm20 := dm19.ex e20
        refine m1s_go (z := "\n") (σ := []) (er_join (K := K) (X := X) (sep := [10]) (xs := [wordsL ++ wordsT lw] ++ l2.map answerT) (er_tx (by decide +kernel)) (er_val hkv) (by
          rw [List.map_append, List.sum_append, List.length_append, List.length_map, List.length_singleton, List.length_singleton]
          show (wordsL ++ wordsT lw).length + 0 + _ + _ < _
          rw [List.length_append]
          show 6 + _ + 0 + _ + _ < _
          omega)) dm20 fun turnv H21 e21 hturn => ?_
        have dm21 := dm20.ex e21
        refine gN ?_
        dsimp only
        have EX1321 : Ex (hid X H13) (hid X H21) := Evl.Ex.trans (hid_ex e14) (Evl.Ex.trans EX1418 (Evl.Ex.trans (off19.hid Xp) (hid_ex (e20.trans e21))))
        have hmade21 := mLot.mono EX1321.le hmade13
        have hdct21 := mD.mono EX1321.le hdct13
        have hwv21 := mW.mono EX1321.le hwv13
        have pn21 := pn19.mono (e20.trans e21) (Nat.le_refl _)
        have off021 : Off p Hs H21 := off013.trans ((Off.ex e14).trans (off15.trans ((Off.ex ((e16.trans e17).trans e18)).trans (off19.trans (Off.ex (e20.trans e21))))))
        have DOC2 := okDoc OKlw (okl l2 hl2) (by omega)
        have hTL : (lotT (srtW wd, l)).length ≤ 20000 := by
          have h1 := join_len [10] ((wordsL ++ wordsT (srtW wd)) :: l.map answerT)
          have h2 := hal1 l hrefl
          rw [List.map_cons, List.sum_cons, List.length_cons, List.length_map, List.length_singleton] at h1
          show (TL.joinL [10] ((wordsL ++ wordsT (srtW wd)) :: l.map answerT)).length ≤ 20000
          omega
        have hlo := lo_all (lotT_lo (p := (srtW wd, l)) hokW fun x hx => hnm0 _ (hl0 x hx).1)
        have okL : OkL (srtW wd, l) := ⟨hokW, by show l.length < 100; omega, fun x hx => by
          have h := hl0 x hx
          exact ⟨by omega, by have := hz13 _ h.1 h.2; omega, Tm.w8_named _ (hnm0 _ h.1)⟩⟩
        have hsm : small l := fun x hx => ⟨Tm.fit_named _ (hnm0 _ (hl0 x hx).1), by have := (hl0 x hx).2; omega⟩
        have hDL : ∀ v w H1, Dm X H1 → rLot Cw Cl K (hid X H1) v (srtW wd, l) → rLot Cw Cl K (hid X H1) w (srtW wd, l) → DIns Cl (sameL K Cw Cl) v w H1 := fun v w H1 dm1 hv hw => by
          obtain ⟨a1, d1, f1, rfl, g1⟩ := ins_lot hv
          obtain ⟨a2, d2, f2, rfl, g2⟩ := ins_lot hw
          exact ⟨a1, a2, d1, d2, f1, f2, rfl, rfl, hid_get _ _ g1, hid_get _ _ g2, X, srtW wd, l, dm1, hokW.nd, hsm, hv, hw⟩
        refine sq (st_skip (X := X) (et_or (a := false) (b := false) (et_test (Er.is (er_neS (K := K) (er_repr (xs := [lotT (srtW wd, l), lotT (srtW wd, l)]) (er_lstE (.cons (er_call1 (r := rLot Cw Cl) (f := lotT) (x := (srtW wd, l)) (er_var (i := 10) rfl hmade21) okL) (.cons (er_call1 (r := rLot Cw Cl) (f := lotT) (x := (srtW wd, l)) (er_var (i := 10) rfl hmade21) okL) .nil)) (by show 2 < 1000000; decide)) (fun x hx => by
            have : x = lotT (srtW wd, l) := by simpa using hx
            rw [this]; exact hlo) (by simp only [List.map_cons, List.map_nil, List.sum_cons, List.sum_nil, List.length_cons, List.length_nil]; omega)) (er_repr (xs := [lotT (srtW wd, l), lotT (srtW wd, l)]) (er_rep2 (er_var (i := 11) (r := rTx) rfl rfl)) (fun x hx => by
            have : x = lotT (srtW wd, l) := by simpa using hx
            rw [this]; exact hlo) (by simp only [List.map_cons, List.map_nil, List.sum_cons, List.sum_nil, List.length_cons, List.length_nil]; omega))) (by rw [decide_eq_true rfl]; rfl))) fun _ => et_or (a := false) (b := false) (et_test (er_neOwn (K := K) (r := rLot Cw Cl) (s := rLot Cw Cl) (x := (srtW wd, l)) (y := (srtW wd, l)) (Er.is (er_call1 (r := rDoc) (f := fun c : Dc => (c.2.2.2.1, rowsB c.2.2.2.2)) (x := (TL.joinL [10] ((wordsL ++ wordsT lw) :: l2.map answerT), wordsL ++ wordsT lw, lw, srtW wd, l2)) (er_var (i := 13) rfl hturn) DOC2) (by rw [hfix l2 hl2])) (er_var (i := 10) rfl hmade21) hDL)) fun _ => et_test (er_neOwn (K := K) (r := rLot Cw Cl) (s := rLot Cw Cl) (x := (srtW wd, l)) (y := (srtW wd, l)) (Er.is (er_call1 (r := rDoc) (f := fun c : Dc => (c.2.2.2.1, rowsB c.2.2.2.2)) (x := (TL.joinL [10] ((wordsL ++ wordsT (srtW wd)) :: l.map answerT), wordsL ++ wordsT (srtW wd), srtW wd, srtW wd, l)) (er_var (i := 11) (r := rDoc) rfl rfl) DOC) (by rw [hfix l hrefl])) (er_var (i := 10) rfl hmade21) hDL)) dm21 fun H22 e22 => ?_)
        have dm22 := dm21.ex e22
        have pn22 := pn21.mono e22 (Nat.le_refl _)
        -- rules
        refine sq ⟨_, rfl, _, rfl, p, c, _, wd, X, .ref d, rfl, Xp, dm22, pn22, by omega, mD.mono (hid_le e22) hdct21, okv, fun rv rl H23 hrl hro off23 pn23 hrv => ?_⟩
        refine gN ?_
        dsimp only
        have dm23 : Dm X H23 := dm22.off' off23 pn23.at
        have EX2123 : Ex (hid X H21) (hid X H23) := Evl.Ex.trans (hid_ex e22) (off23.hid Xp)
        have hwv23 := mW.mono EX2123.le hwv21
        have hdct23 := mD.mono EX2123.le hdct21
        have hmade23 := mLot.mono EX2123.le hmade21
        have mRl := (inferInstance : Mono (rLst rRu))
        have mRs := (inferInstance : Mono (rRules Cw Cr))
        have okR : OkRules (srtW wd, rl) := ⟨hokW, by show rl.length ≤ 40; omega, fun x hx => (hro x hx).1, ⟨T4, by decide, fun x hx => (hro x hx).2⟩⟩
        refine sq (asg_tup2 ((er_mkRules (K := K) (X := X) (wd := srtW wd) (l := rl) (er_var (i := 4) rfl hwv23) (er_var (i := 14) rfl hrv) okR).go dm23 fun rulesv H24 e24 hrules => ?_))
        have dm24 := dm23.ex e24
        refine (er_call2 (K := K) (X := X) (r := rDct) (s := rLst rRu) (f := fun p : Wd × List Ru => rulesT (srtW p.1, p.2)) (x := wd) (y := rl) (er_var (i := 3) rfl (mD.mono (hid_le e24) hdct23)) (er_var (i := 14) rfl (mRl.mono (hid_le e24) hrv)) ⟨okv, by show rl.length ≤ 40; omega, fun x hx => (hro x hx).1⟩).go dm24 fun due2v H25 e25 hdue2 => ⟨(by show 2 ≤ sizeLine; decide), fun tp3 htp3 => ⟨tp3, _, rfl, .inl (.inl upd_same), rfl, _, _, rfl, _, _, rfl, rfl, ?_⟩⟩
        have hdue2v : due2v = .str (S (rulesT (srtW wd, rl))) := hdue2
        subst hdue2v
        have e26 := Evl.Ex.new (H := H25) (o := .tup [rulesv, .str (S (rulesT (srtW wd, rl)))]) htp3
        generalize hH26 : upd H25 tp3 (.tup [rulesv, .str (S (rulesT (srtW wd, rl)))]) = H26 at e26
        have dm26 := (dm24.ex e25).ex e26
        have hrules26 := mRs.mono (hid_le (e25.trans e26)) hrules
        have hmade26 := mLot.mono (hid_le ((e24.trans e25).trans e26)) hmade23
        have pn26 := pn23.mono ((e24.trans e25).trans e26) (Nat.le_refl _)
        have off026 : Off p Hs H26 := (off021.trans (Off.ex e22)).trans (off23.trans (Off.ex ((e24.trans e25).trans e26)))
        dsimp only
        have DOCR := okDocR (OkWd.self okw) okR
        have hTR : (rulesT (srtW wd, rl)).length ≤ 30000 := by
          have h1 := join_len [10] ((wordsL ++ wordsT (srtW wd)) :: rl.map ruleT)
          have h2 := sum_le (l := rl.map ruleT) (n := 4000) fun x hx => by
            obtain ⟨t, ht, rfl⟩ := List.mem_map.mp hx
            exact rule_len hokW (hro t ht).1
          rw [List.map_cons, List.sum_cons, List.length_cons, List.length_map, List.length_singleton] at h1
          rw [List.length_map] at h2
          show (TL.joinL [10] ((wordsL ++ wordsT (srtW wd)) :: rl.map ruleT)).length ≤ 30000
          omega
        have hloR := lo_all (rulesT_lo (p := (srtW wd, rl)) hokW fun x hx => (hro x hx).1)
        have hDR : ∀ v w H1, Dm X H1 → rRules Cw Cr K (hid X H1) v (srtW wd, rl) → rRules Cw Cr K (hid X H1) w (srtW wd, rl) → DIns Cr (sameR K Cw Cr) v w H1 := fun v w H1 dm1 hv hw => by
          obtain ⟨a1, d1, f1, rfl, g1⟩ := ins_rules hv
          obtain ⟨a2, d2, f2, rfl, g2⟩ := ins_rules hw
          exact ⟨a1, a2, d1, d2, f1, f2, rfl, rfl, hid_get _ _ g1, hid_get _ _ g2, X, srtW wd, rl, dm1, hokW, fun x hx => (hro x hx).1, hv, hw⟩
        refine sq (st_skip (X := X) (et_or (a := false) (b := false) (et_test (Er.is (er_neS (K := K) (er_repr (xs := [rulesT (srtW wd, rl), rulesT (srtW wd, rl)]) (er_lstE (.cons (er_call1 (r := rRules Cw Cr) (f := rulesT) (x := (srtW wd, rl)) (er_var (i := 15) rfl hrules26) okR) (.cons (er_call1 (r := rRules Cw Cr) (f := rulesT) (x := (srtW wd, rl)) (er_var (i := 15) rfl hrules26) okR) .nil)) (by show 2 < 1000000; decide)) (fun x hx => by
            have : x = rulesT (srtW wd, rl) := by simpa using hx
            rw [this]; exact hloR) (by simp only [List.map_cons, List.map_nil, List.sum_cons, List.sum_nil, List.length_cons, List.length_nil]; omega)) (er_repr (xs := [rulesT (srtW wd, rl), rulesT (srtW wd, rl)]) (er_rep2 (er_var (i := 11) (r := rTx) rfl rfl)) (fun x hx => by
            have : x = rulesT (srtW wd, rl) := by simpa using hx
            rw [this]; exact hloR) (by simp only [List.map_cons, List.map_nil, List.sum_cons, List.sum_nil, List.length_cons, List.length_nil]; omega))) (by rw [decide_eq_true rfl]; rfl))) fun _ => et_or (a := false) (b := false) (et_test (er_neOwn (K := K) (r := rRules Cw Cr) (s := rRules Cw Cr) (x := (srtW wd, rl)) (y := (srtW wd, rl)) (er_call1 (r := rDocR) (f := fun c : DcR => (c.2.2.2.1, c.2.2.2.2)) (x := (TL.joinL [10] ((wordsL ++ wordsT (srtW wd)) :: rl.map ruleT), wordsL ++ wordsT (srtW wd), srtW wd, srtW wd, rl)) (er_var (i := 11) (r := rDocR) rfl rfl) DOCR) (er_var (i := 15) rfl hrules26) hDR)) fun _ => et_test (er_neOwn (K := K) (r := rRules Cw Cr) (s := rRules Cw Cr) (x := (srtW wd, rl)) (y := (srtW wd, rl)) (er_call1 (r := rDocR) (f := fun c : DcR => (c.2.2.2.1, c.2.2.2.2)) (x := (TL.joinL [10] ((wordsL ++ wordsT (srtW wd)) :: rl.map ruleT), wordsL ++ wordsT (srtW wd), srtW wd, srtW wd, rl)) (er_var (i := 11) (r := rDocR) rfl rfl) DOCR) (er_var (i := 15) rfl hrules26) hDR)) dm26 fun H27 e27 => ?_)
        obtain ⟨ma, mdx, mfs, rfl, gma⟩ := ins_lot (mLot.mono (hid_le e27) hmade26)
        obtain ⟨ra, rdx, rfs, rfl, gra⟩ := ins_rules (mRs.mono (hid_le e27) hrules26)
        have gma := hid_get _ _ gma
        have gra := hid_get _ _ gra
        have pn27 := pn26.mono e27 (Nat.le_refl _)
        have tb27 : Tabs (lawT PT) H27 := tabs_off tb0 (off026.trans (Off.ex e27)) hp0
        -- told
        refine sq (st_new fun o ho => ?_)
        have e28 := Evl.Ex.new (H := H27) (o := .lst []) ho
        generalize hH28 : upd H27 o (.lst []) = H28 at e28
        have go28 : H28 o = some (.lst []) := by rw [← hH28]; exact upd_same
        have tb28 := tb27.ext e28
        have gma28 := e28 _ _ gma
        have gra28 := e28 _ _ gra
        have pn28 := pn27.mono e28 (Nat.le_refl _)
        have hop : o ≠ p := fun z => pn27.at (by rw [← z]; exact ho)
        have hco : c ≠ o := fun z => pn27.cat (by rw [z]; exact ho)
        dsimp only
        -- the lambdas
        refine sq (for_te ⟨tb28, fun f0 c0 H29 eN29 nn29 tb29 hf0 g0' gc0 => fun t1 ht1 => ⟨Tabs.ext tb29 (Evl.Ex.new ht1), fun f1 c1 H30 eN30 nn30 tb30 hf1 g1' gc1 => ⟨(by show 2 ≤ sizeLine; decide), fun tp4 htp4 => ?_⟩⟩⟩)
        have e31 := Evl.Ex.new (H := H30) (o := .tup [.ref f0, .ref f1]) htp4
        have en1 := Evl.Ex.new (H := H29) (o := .tup [.int 0]) ht1
        have keep : ∀ b u, H28 b = some u → (∀ ps, u ≠ .tbl ps) → upd H30 tp4 (.tup [.ref f0, .ref f1]) b = some u := fun b u h hn => e31 _ _ (eN30 _ _ (en1 _ _ (eN29 _ _ h hn)) hn)
        have keep29 : ∀ b u, H29 b = some u → (∀ ps, u ≠ .tbl ps) → upd H30 tp4 (.tup [.ref f0, .ref f1]) b = some u := fun b u h hn => e31 _ _ (eN30 _ _ (en1 _ _ h) hn)
        have gtp : upd H30 tp4 (.tup [.ref f0, .ref f1]) tp4 = some (.tup [.ref f0, .ref f1]) := upd_same
        have gt1 : upd H30 tp4 (.tup [.ref f0, .ref f1]) t1 = some (.tup [.int 0]) := e31 _ _ (eN30 _ _ upd_same fun ps z => nomatch z)
        have gf0 := keep29 _ _ g0' lmO_ne
        have gc0 := keep29 _ _ gc0 codeO_ne
        have gf1 := e31 _ _ g1'
        have gc1 := e31 _ _ gc1
        have tb31 := Tabs.ext tb30 e31
        have gmb := keep _ _ gma28 fun ps z => nomatch z
        have grb := keep _ _ gra28 fun ps z => nomatch z
        have gob := keep _ _ go28 fun ps z => nomatch z
        have pnb : Pen (upd H30 tp4 (.tup [.ref f0, .ref f1])) p c (1000 * j + 950) := by
          obtain ⟨cells, aa, rr, k1, k2, k3⟩ := pn28.mono (m := 1000 * j + 950) (Evl.Ex.refl _) (by omega)
          exact ⟨cells, aa, rr, keep _ _ k1 (fun ps z => nomatch z), keep _ _ k2 (fun ps z => nomatch z), k3⟩
        generalize hHb : upd H30 tp4 (.tup [.ref f0, .ref f1]) = Hb at gtp gt1 gf0 gc0 gf1 gc1 tb31 gmb grb gob pnb
        have neb : ∀ {b : Addr} {u : HO}, Hb b = some u → (∀ vs, u ≠ .lst vs) → b ≠ p ∧ b ≠ o := fun {b u} h hn => by
          obtain ⟨xs1, hp1⟩ := pnb.lst
          exact ⟨fun z => by rw [z, hp1] at h; exact hn _ (Option.some.inj h).symm, fun z => by rw [z, gob] at h; exact hn _ (Option.some.inj h).symm⟩
        dsimp only
        let nm : Nat → Str := fun k => if k = 0 then "lot" else "rule"
        refine for_tupC (xs := [.ref f0, .ref f1]) (.inl (.inl gtp)) (fun j' σ' H' => (∃ t17 t18, σ' = [some (.ref a), some (.ref p), some (.int (j : Nat)), some (.ref d), some wv, some pv, some av, t7, some lv, t9, some (.ref ma), some (.str (S (rulesT (srtW wd, rl)))), some linv, some turnv, some rv, some (.ref ra), some (.ref o), t17, t18, none]) ∧ Off2 p o Hb H' ∧ ∃ vs : List V, H' o = some (.lst vs) ∧ vs.length = j' ∧ (∀ k x, vs[k]? = some x → ∃ q0, x = .ref q0 ∧ q0 ≠ p ∧ q0 ≠ o ∧ H' q0 = some (.tup [.str (nm k), .non])) ∧ Pen H' p c (1000 * j + 950 + j')) ?_ ?_ ?_ ?_
        · exact ⟨⟨_, _, rfl⟩, Off2.refl _ _ _, [], gob, rfl, fun k x h => by simp at h, pnb.mono (Evl.Ex.refl _) (by omega)⟩
        · rintro j' σ' H' _ ⟨_, off, _⟩
          obtain ⟨h1, h2⟩ := neb gtp fun vs z => nomatch z
          exact .inl (.inl (off _ _ h1 h2 gtp))
        · rintro j' x σ' H'' hx ⟨⟨t17, t18, rfl⟩, off, vs, hvs, hvl, hit, pn'⟩
          have hj2 : j' < 2 := (List.getElem?_eq_some_iff.mp hx).1
          rcases (by omega : j' = 0 ∨ j' = 1) with rfl | rfl
          · have hx0 : x = .ref f0 := (Option.some.inj hx).symm
            subst hx0
            have hn0 := neb gf0 fun vs z => by unfold LmO at z; cases z
            have hn1 := neb gc0 fun vs z => by unfold CodeO at z; cases z
            have hn2 := neb gt1 fun vs z => nomatch z
            have hn3 := neb grb fun vs z => nomatch z
            have dm' : Dm X H'' := dmP pn'.at
            refine gN ?_
            refine sq (asg_of (gN ?_))
            refine sq (.inl ⟨f0, c0, .none, rfl, off _ _ hn0.1 hn0.2 gf0, off _ _ hn1.1 hn1.2 gc0, .inl ⟨rfl, rfl⟩, call1_of ?_⟩)
            refine run_pick (K := K) (X := X) (i := 0) (r := rBadV Cr) (xs := [(), (), (), ()]) rfl Xp (er_lstE (.cons (er_val (.inl rfl)) (.cons (er_val (.inr (.inl ⟨5, rfl⟩))) (.cons (er_var (i := 1) rfl (.inr (.inr (.inl ⟨_, rfl⟩)))) (.cons (er_var (i := 2) rfl (.inr (.inr (.inr ⟨ra, rdx, rfs, rfl, (hid_out (Xn hn3.1)).trans (off _ _ hn3.1 hn3.2 grb)⟩)))) .nil)))) (by show 4 < 1000000; decide)) dm' pn' (by omega) (fun z => nomatch z) (by show 4 < 1000000; decide) fun bv bx H32 _ off32 pn32 dm32 hbv => ?_
            obtain ⟨ty, hty, hk⟩ := badV_ty Tr.ins LX.nL LX.iL LX.sL LX.oL ((inferInstance : Mono (rBadV Cr)).mono hid_get.le hbv)
            refine ⟨bv, ty, rfl, hty, hk, fun dd H33 e33 hdd => ?_⟩
            refine ⟨true, LX.exLL, fun _ ae hae => asg_of ⟨.ref ae, rfl, rfl, rfl, dd, _, .non, rfl, hdd, rfl, (by show 2 ≤ sizeLine; decide), fun tq htq => ?_⟩, fun z => nomatch z⟩
            have eq34 := Evl.Ex.new (H := H33) (o := .tup [.str "lot", .non]) htq
            have hvs33 : upd H33 tq (.tup [.str "lot", .non]) o = some (.lst vs) := eq34 _ _ (e33 _ _ (off32 _ _ hop hvs))
            have htp : tq ≠ p := fun z => by rw [z] at htq; exact (pn32.mono e33 (Nat.le_refl _)).at htq
            have hto : tq ≠ o := fun z => by rw [z, e33 _ _ (off32 _ _ hop hvs)] at htq; cases htq
            refine gN ?_
            refine ⟨.ref o, rfl, .inl ⟨rfl, vs, .inl (.inl hvs33)⟩, _, rfl, o, vs, .ref tq, rfl, rfl, hvs33, size_lt (by omega), ?_⟩
            refine ⟨⟨_, _, rfl⟩, off.trans ((Off2.off off32).trans ((Off2.ex (e33.trans eq34)).trans Off2.upd)), vs ++ [.ref tq], upd_same, by rw [List.length_append, hvl]; rfl, fun k x hk => ?_, ((pn32.mono (e33.trans eq34) (Nat.le_refl _)).upd hop.symm hco).mono (Evl.Ex.refl _) (by omega)⟩
            by_cases hkl : k < vs.length
            · rw [List.getElem?_append_left hkl] at hk
              obtain ⟨q0, h1, h2, h3, h4⟩ := hit k x hk
              exact ⟨q0, h1, h2, h3, by rw [upd_ne h3]; exact eq34 _ _ (e33 _ _ (off32 _ _ h2 h4))⟩
            · rw [List.getElem?_append_right (by omega)] at hk
              have hk0 : k - vs.length = 0 := by
                rcases Nat.eq_zero_or_pos (k - vs.length) with z | z
                · exact z
                · rw [List.getElem?_eq_none (by simp; omega)] at hk; cases hk
              rw [hk0] at hk
              have hkx : x = .ref tq := (Option.some.inj hk).symm
              have hke : k = 0 := by omega
              refine ⟨tq, hkx, htp, hto, ?_⟩
              rw [upd_ne hto, upd_same, hke]
              rfl
          · have hx0 : x = .ref f1 := (Option.some.inj hx).symm
            subst hx0
            have hn0 := neb gf1 fun vs z => by unfold LmO at z; cases z
            have hn1 := neb gc1 fun vs z => by unfold CodeO at z; cases z
            have hn2 := neb gt1 fun vs z => nomatch z
            have hn3 := neb gmb fun vs z => nomatch z
            have dm' : Dm X H'' := dmP pn'.at
            refine gN ?_
            refine sq (asg_of (gN ?_))
            refine sq (.inr ⟨f1, c1, .ref t1, rfl, off _ _ hn0.1 hn0.2 gf1, off _ _ hn1.1 hn1.2 gc1, .inr ⟨t1, rfl, off _ _ hn2.1 hn2.2 gt1⟩, call1_of ?_⟩)
            refine run_pick (K := K) (X := X) (i := 1) (r := rBadV Cl) (xs := [(), (), (), ()]) rfl Xp (er_lstE (.cons (er_val (.inl rfl)) (.cons (er_val (.inr (.inl ⟨5, rfl⟩))) (.cons (er_var (i := 2) rfl (.inr (.inr (.inl ⟨_, rfl⟩)))) (.cons (er_var (i := 3) rfl (.inr (.inr (.inr ⟨ma, mdx, mfs, rfl, (hid_out (Xn hn3.1)).trans (off _ _ hn3.1 hn3.2 gmb)⟩)))) .nil)))) (by show 4 < 1000000; decide)) dm' pn' (by omega) (fun z => nomatch z) (by show 4 < 1000000; decide) fun bv bx H32 _ off32 pn32 dm32 hbv => ?_
            obtain ⟨ty, hty, hk⟩ := badV_ty Tl.ins LX.nR LX.iR LX.sR LX.oR ((inferInstance : Mono (rBadV Cl)).mono hid_get.le hbv)
            refine ⟨bv, ty, rfl, hty, hk, fun dd H33 e33 hdd => ?_⟩
            refine ⟨false, LX.exRL, (fun z => nomatch z), fun _ => ⟨true, LX.exRR, fun _ ae hae => asg_of ⟨.ref ae, rfl, rfl, rfl, dd, _, .non, rfl, hdd, rfl, (by show 2 ≤ sizeLine; decide), fun tq htq => ?_⟩, fun z => nomatch z⟩⟩
            have eq34 := Evl.Ex.new (H := H33) (o := .tup [.str "rule", .non]) htq
            have hvs33 : upd H33 tq (.tup [.str "rule", .non]) o = some (.lst vs) := eq34 _ _ (e33 _ _ (off32 _ _ hop hvs))
            have htp : tq ≠ p := fun z => by rw [z] at htq; exact (pn32.mono e33 (Nat.le_refl _)).at htq
            have hto : tq ≠ o := fun z => by rw [z, e33 _ _ (off32 _ _ hop hvs)] at htq; cases htq
            refine gN ?_
            refine ⟨.ref o, rfl, .inl ⟨rfl, vs, .inl (.inl hvs33)⟩, _, rfl, o, vs, .ref tq, rfl, rfl, hvs33, size_lt (by omega), ?_⟩
            refine ⟨⟨_, _, rfl⟩, off.trans ((Off2.off off32).trans ((Off2.ex (e33.trans eq34)).trans Off2.upd)), vs ++ [.ref tq], upd_same, by rw [List.length_append, hvl]; rfl, fun k x hk => ?_, ((pn32.mono (e33.trans eq34) (Nat.le_refl _)).upd hop.symm hco).mono (Evl.Ex.refl _) (by omega)⟩
            by_cases hkl : k < vs.length
            · rw [List.getElem?_append_left hkl] at hk
              obtain ⟨q0, h1, h2, h3, h4⟩ := hit k x hk
              exact ⟨q0, h1, h2, h3, by rw [upd_ne h3]; exact eq34 _ _ (e33 _ _ (off32 _ _ h2 h4))⟩
            · rw [List.getElem?_append_right (by omega)] at hk
              have hk0 : k - vs.length = 0 := by
                rcases Nat.eq_zero_or_pos (k - vs.length) with z | z
                · exact z
                · rw [List.getElem?_eq_none (by simp; omega)] at hk; cases hk
              rw [hk0] at hk
              have hkx : x = .ref tq := (Option.some.inj hk).symm
              have hke : k = 1 := by omega
              refine ⟨tq, hkx, htp, hto, ?_⟩
              rw [upd_ne hto, upd_same, hke]
              rfl
        · rintro σ' H' ⟨⟨t17, t18, rfl⟩, off, vs, hvs, hvl, hit, pn'⟩
          have hvl : vs.length = 2 := hvl
          obtain ⟨x0, x1, rfl⟩ : ∃ x0 x1, vs = [x0, x1] := by
            match vs, hvl with
            | [x0, x1], _ => exact ⟨x0, x1, rfl⟩
          obtain ⟨q0, rfl, h01, h02, h03⟩ := hit 0 x0 rfl
          obtain ⟨q1, rfl, h11, h12, h13⟩ := hit 1 x1 rfl
          obtain ⟨xsb, hpb⟩ := pnb.lst
          have tbE := tabs_off2 tb31 off hpb gob
          refine ⟨_, rfl, (by show 2 ≤ sizeLine; decide), fun qa hqa => ⟨(by show 2 ≤ sizeLine; decide), fun qb hqb => ⟨(by show 2 ≤ sizeLine; decide), fun lq hlq => ?_⟩⟩⟩
          have ea := Evl.Ex.new (H := H') (o := .tup [.str "lot", .non]) hqa
          have eb := Evl.Ex.new (o := .tup [.str "rule", .non]) hqb
          have el := Evl.Ex.new (o := .lst [.ref qa, .ref qb]) hlq
          have E3 := (ea.trans eb).trans el
          refine ⟨.list [.tuple [.str "lot", .none], .tuple [.str "rule", .none]], .list [.tuple [.str "lot", .none], .tuple [.str "rule", .none]], ?_, ?_, by decide +kernel, by decide +kernel, _, rfl, ?_⟩
          · exact .lst (.inl (.inl (E3 _ _ hvs))) (.cons (.tup (.inl (.inl (E3 _ _ h03))) (.cons (.str _) (.cons .non .nil))) (.cons (.tup (.inl (.inl (E3 _ _ h13))) (.cons (.str _) (.cons .non .nil))) .nil))
          · exact .lst (.inl (.inl upd_same)) (.cons (.tup (.inl (.inl (el _ _ (eb _ _ upd_same)))) (.cons (.str _) (.cons .non .nil))) (.cons (.tup (.inl (.inl (el _ _ upd_same))) (.cons (.str _) (.cons .non .nil))) .nil))
          · rw [show (!PyData.eqv (.list [.tuple [.str "lot", .none], .tuple [.str "rule", .none]]) (.list [.tuple [.str "lot", .none], .tuple [.str "rule", .none]])) = false from by decide +kernel]
            dsimp only
            rw [if_neg Bool.false_ne_true]
            have hnn : [V.ref f0, V.ref f1].length = 2 := rfl
            exact ⟨⟨_, _, _, _, _, _, _, _, _, _, _, _, _, _, _, _, _, rfl⟩, pn'.mono E3 (by omega), Tabs.ext tbE E3⟩
      · rintro σ' H' ⟨⟨t2, t3, t4, t5, t6, t7, t8, t9, t10, t11, t12, t13, t14, t15, t16, t17, t18, rfl⟩, _⟩
        exact q H'
    obtain ⟨t, h, q⟩ := key
    exact ⟨t, h.nox, q⟩
end
end Q
set_option maxHeartbeats 4000000
/-! F49: the end of a law row with tables, the def called where the guards are known. -/
namespace Q
open PySem PySem.Spec PyProof.Rows L2 LamX
/-- as law_callTs -/
theorem law_callTsAt {P : Program} {w : World} {K : PySem.W.Frag} {mg mb : Str → Option Value} {CX : CXT} {k : Nat} {fa a : Addr} {cs : List (Addr × Addr)} {fd : FuncData} {x : Str} {sp : Sp} {s₁ : Shared} {vs : List Value} {ns : List Int}
    (KX : K.In s₁.heap) (hns : s₁.heap.Ns mainGlobals mg) (hb : s₁.heap.Ns builtinsNs mb) (hbb : ∀ x : Str, x ≠ "__name__" → mb x = bootBuiltins x) (hlim : s₁.heap.NoLimit) (hg : s₁.gens = #[])
    (hT : ∀ p ∈ cs, s₁.heap.get? p.2 = some { cls := .none, data := .fields #[] }) (nT : ∀ p ∈ cs, K.lookup p.2 = none) (C : ∀ p ∈ cs, PySem.W.CodeHd s₁.heap p.1 p.2)
    (hbm : ∃ (bm : Addr) (ob : Obj), mg "__builtins__" = some (.ref bm) ∧ bm ≠ builtinsNs ∧ s₁.heap.get? bm = some ob ∧ ob.cls = .type "module" ∧ ob.dict = some builtinsNs ∧ ob.data = .plain)
    (ha : s₁.heap.get? a = some { cls := .type "list", data := .seq vs.toArray }) (hi : IntsAre vs ns) (hl : ns.length ≤ sizeLine) (hr : Room k callerA)
    (F : ∀ base : Heap, K.In base → base.Ns mainGlobals mg → (∀ p ∈ cs, TabB base mg p.1 p.2) → FnAt P w K mg base CX k fa fd [x] sp) (hbind : ∀ (s : Shared) (u : Value), BindsTo s fd ⟨[u], []⟩ [(x, u)])
    (hsp : ∀ H : Hp, (∀ p ∈ cs, H p.2 = some (.tbl #[])) → SqL K H a (ns.map V.int) → sp [.ref a] H (fun v _ => v = .bl true) fun _ _ _ => False)
    (hCX : ∀ H e s', CX [] H s₁ (fun _ _ _ => False) e s' → False) :
    codeAny (model P w) callerA (.call (.ref fa) ⟨[.ref a], []⟩) (fun r s' => r = .ok (.ret (.bool true)) ∧ OldK s₁.heap s'.heap ∧ s'.os = s₁.os ∧ AllBare s'.gens) s₁ := by
  have rv := vals_ints hi
  have lenV := hi.length
  have isT : ∀ b : Addr, b ∈ cs.map (·.2) → s₁.heap.get? b = some { cls := .none, data := .fields #[] } := fun b hb => by
    obtain ⟨p, hp, e⟩ := List.mem_map.mp hb
    rw [← e]
    exact hT p hp
  have aT : a ∉ cs.map (·.2) := fun z => by
    have q := isT a z
    rw [ha] at q
    have z' : Data.seq vs.toArray _ = Data.fields #[] := congrArg Obj.data (Option.some.inj q)
    cases z'
  have memT : ∀ p ∈ cs, p.2 ∈ cs.map (·.2) := fun p hp => List.mem_map.mpr ⟨p, hp, rfl⟩
  -- from an abstract heap in which nothing but the script and the tables may be tracked
  have core : ∀ H : Hp, (∀ p ∈ cs, H p.2 = some (.tbl #[])) → (∀ b, H b = none ∨ b ∈ cs.map (·.2) ∨ ∃ o xs, H b = some (.frz o (.lst xs))) → SqL K H a (ns.map V.int) → HOk P w H s₁.heap → (∀ b, H b ≠ none → b = a ∨ b ∈ cs.map (·.2)) → (H a ≠ none → K.lookup a = none) →
      codeAny (model P w) callerA (.call (.ref fa) ⟨[.ref a], []⟩) (fun r s' => r = .ok (.ret (.bool true)) ∧ OldK s₁.heap s'.heap ∧ s'.os = s₁.os ∧ AllBare s'.gens) s₁ := by
    intro H hH hO hS hok hA hK
    have base_of : ∀ {b : Addr} {o : Obj}, s₁.heap.get? b = some o → H b = none → (hidT s₁.heap H).get? b = some o := fun e n => hidT_get e n
    have noD : ∀ {b : Addr} {o : Obj}, s₁.heap.get? b = some o → (∀ vs n, o.data ≠ .seq vs n) → o.data ≠ .fields #[] → H b = none := fun {b o} e h1 h2 => by
      cases q : H b with
      | none => rfl
      | some u =>
        rcases hA b (by rw [q]; simp) with e' | e'
        · rw [e', ha] at e
          cases e
          exact (h1 _ _ rfl).elim
        · rw [isT b e'] at e
          cases e
          exact (h2 rfl).elim
    have noA : ∀ {b : Addr} {o : Obj} {es : Array DictEntry} {ep : Nat}, s₁.heap.get? b = some o → o.data = .dict es ep → H b = none := fun {b o es ep} e d => by
      refine noD e (fun vs n z => ?_) fun z => ?_
      · rw [d] at z
        cases z
      · rw [d] at z
        cases z
    have nsK : ∀ {b : Addr} {m : Str → Option Value}, s₁.heap.Ns b m → (hidT s₁.heap H).Ns b m := fun {b m} ⟨o, es, ep, e, d, r⟩ => ⟨o, es, ep, base_of e (noA e d), d, r⟩
    have hKb : K.In (hidT s₁.heap H) := fun b o e => base_of (KX b o e) (by
      cases q : H b with
      | none => rfl
      | some u =>
        rcases hA b (by rw [q]; simp) with e' | e'
        · rw [e'] at e q
          rw [hK (by rw [q]; simp)] at e
          cases e
        · obtain ⟨p, hp, ep⟩ := List.mem_map.mp e'
          rw [← ep, nT p hp] at e
          cases e)
    have hM : L2.Mod K mg (hidT s₁.heap H) := ⟨hKb, nsK hns, ⟨mb, nsK hb, hbb⟩, let ⟨mc, h1, h2⟩ := hlim; ⟨mc, nsK h1, h2⟩⟩
    have TB : ∀ p ∈ cs, TabB (hidT s₁.heap H) mg p.1 p.2 := fun p hp => by
      have hTp := hT p hp
      refine ⟨?_, ?_, fun z => ?_⟩
      · obtain ⟨o, us, file, tf, flags, tg, inF, text, tt, e1, r1, r2, r3, r4, r5, r6, r7, r8, hne⟩ := C p hp
        refine ⟨o, us, file, tf, flags, tg, inF, text, tt, base_of e1 (noD e1 (fun vs n z => ?_) fun z => ?_), r1, r2, r3, r4, r5, r6, r7, r8, hne⟩
        · rw [r2] at z
          cases z
        · rw [r2] at z
          cases z
          simp at r3
      · obtain ⟨bm, ob, b1, b2, b3, b4, b5, b6⟩ := hbm
        have nG : bm ≠ mainGlobals := fun q => by
          obtain ⟨o, es, ep, e, hd, _⟩ := hns
          rw [q, e] at b3
          cases b3
          rw [hd] at b6
          cases b6
        have nP : bm ≠ p.2 := fun q => by
          rw [q, hTp] at b3
          cases b3
          cases b6
        refine ⟨bm, ob, b1, b2, nG, nP, base_of b3 (noD b3 (fun vs n z => ?_) fun z => ?_), b4, b5, b6⟩
        · rw [b6] at z
          cases z
        · rw [b6] at z
          cases z
      · obtain ⟨o, es, ep, e, hd, _⟩ := hns
        rw [z, hTp] at e
        cases e
        cases hd
    have e0 : Env0 P w K mg (hidT s₁.heap H) callerA [] s₁ H := ⟨rfl, hM, fun b o e => of_hidT e, Nat.le_of_eq (hidT_size _ _), trivial, fun b hb => absurd (show b ∈ ([] : List Addr) from hb) (by simp), hok, .of_eq hg⟩
    refine codeAny_mono ((F _ hKb (nsK hns) TB).run [] s₁ H ⟨[.ref a], []⟩ [.ref a] [.ref a] _ _ hr e0 (hbind s₁ (.ref a)) (.cons rfl .nil) (hsp H hH hS)) fun r s' h => ?_
    cases r with
    | error e => exact (hCX H e s' h).elim
    | ok fl =>
      cases fl with
      | next => exact False.elim h
      | brk => exact False.elim h
      | cont => exact False.elim h
      | ret u =>
        obtain ⟨v, H', os, bare, un, hok', r', q⟩ := h
        have q' : v = .bl true := q
        subst q'
        obtain rfl : u = Value.bool true := r'
        have key : ∀ b o, b ∉ cs.map (·.2) → s₁.heap.get? b = some o → s'.heap.get? b = some o := fun b o nb e => by
          cases q : H b with
          | none => exact un.keep b o e q (by intro z; exact absurd (show b ∈ ([] : List Addr) from z) (by simp)) (by simp)
          | some u =>
            rcases hO b with z | z | ⟨ob, xs, z⟩
            · rw [q] at z; cases z
            · exact absurd z nb
            · have z2 := un.frzs b ob _ z
              obtain ⟨e1, _⟩ := hok b _ z
              obtain ⟨e2, _⟩ := hok' b _ z2
              rw [e] at e1; cases e1
              exact e2
        have grown : ∀ p ∈ cs, ∃ more : Array Value, s'.heap.get? p.2 = some { cls := .none, data := .fields more } := fun p hp => by
          obtain ⟨more, z⟩ := un.tbls p.2 #[] (hH p hp)
          exact ⟨_, hok' p.2 _ z⟩
        refine ⟨rfl, ⟨fun b o e => ?_, fun b o e => ?_⟩, os, bare⟩
        · by_cases hb : b ∈ cs.map (·.2)
          · obtain ⟨p, hp, ep⟩ := List.mem_map.mp hb
            obtain ⟨more, hm⟩ := grown p hp
            rw [← ep] at e ⊢
            rw [hT p hp] at e
            cases e
            exact .inr (.inl ⟨((C p hp).tab (hT p hp)).isCodeTable, rfl, #[], more, rfl, by rw [Array.empty_append]; exact hm⟩)
          · exact .inl (key b o hb e)
        · by_cases hb : b ∈ cs.map (·.2)
          · obtain ⟨p, hp, ep⟩ := List.mem_map.mp hb
            obtain ⟨more, hm⟩ := grown p hp
            rw [← ep]
            exact ⟨_, hm⟩
          · exact ⟨o, key b o hb e⟩
  cases hk : K.lookup a with
  | some o =>
    have e := KX a o hk
    rw [ha] at e
    cases e
    refine core (fun b => if b ∈ cs.map (·.2) then some (.tbl #[]) else none) (fun p hp => if_pos (memT p hp)) (fun b => ?_) (.inr ⟨_, vs.toArray, _, hk, rfl, rfl, rfl, by rw [List.size_toArray, lenV]; exact hl, by simpa using rv⟩) (fun b u z => ?_) (fun b z => ?_) fun z => absurd (show (if a ∈ cs.map (·.2) then some (HO.tbl #[]) else none) = none from if_neg aT) z
    · by_cases hb : b ∈ cs.map (·.2)
      · exact .inr (.inl hb)
      · exact .inl (if_neg hb)
    · by_cases hb : b ∈ cs.map (·.2)
      · have z' := (if_pos hb).symm.trans z
        cases z'
        exact isT b hb
      · have z' := (if_neg hb).symm.trans z
        cases z'
    · by_cases hb : b ∈ cs.map (·.2)
      · exact .inr hb
      · exact absurd (if_neg hb) z
  | none =>
    refine core (fun b => if b = a then some (.frz { cls := .type "list", data := .seq vs.toArray } (.lst (ns.map V.int))) else if b ∈ cs.map (·.2) then some (.tbl #[]) else none) (fun p hp => (if_neg (show ¬ p.2 = a from fun z => aT (by rw [← z]; exact memT p hp))).trans (if_pos (memT p hp))) (fun b => ?_)
      (.inl (.inr ⟨{ cls := .type "list", data := .seq vs.toArray }, if_pos rfl⟩)) (fun b u z => ?_) (fun b z => ?_) fun _ => hk
    · by_cases hb : b = a
      · exact .inr (.inr ⟨_, _, if_pos hb⟩)
      · by_cases hb2 : b ∈ cs.map (·.2)
        · exact .inr (.inl hb2)
        · exact .inl ((if_neg hb).trans (if_neg hb2))
    · by_cases hb : b = a
      · have z' := (if_pos hb).symm.trans z
        cases z'
        rw [hb]
        exact ⟨ha, by rw [List.length_map]; exact hl, vs, _, rv, ha⟩
      · have z1 := (if_neg hb).symm.trans z
        by_cases hb2 : b ∈ cs.map (·.2)
        · have z' := (if_pos hb2).symm.trans z1
          cases z'
          exact isT b hb2
        · have z' := (if_neg hb2).symm.trans z1
          cases z'
    · by_cases hb : b = a
      · exact .inl hb
      · by_cases hb2 : b ∈ cs.map (·.2)
        · exact .inr hb2
        · exact absurd ((if_neg hb).trans (if_neg hb2)) z
def LawAtG (l : PySem.W.OpenLaw) (w : World) (K : PySem.W.Frag) (CX : CXT) (k n : Nat) (x : Str) (mg : Str → Option Value) (fa : Addr) (h : Heap) : Prop :=
  ∃ (fd : FuncData) (cs : List (Addr × Addr)) (sp : Sp), (∀ p ∈ cs, h.get? p.2 = some { cls := .none, data := .fields #[] }) ∧ (∀ p ∈ cs, K.lookup p.2 = none) ∧ (∀ p ∈ cs, PySem.W.CodeHd h p.1 p.2) ∧ (∀ (s : Shared) (u : Value), BindsTo s fd ⟨[u], []⟩ [(x, u)]) ∧
    (∀ (H : Hp) (a : Addr) (ns : List Int), ns.length ≤ n → (∀ z ∈ ns, Builtin.Int.intBits z ≤ 1048576) → (∀ p ∈ cs, H p.2 = some (.tbl #[])) → SqL K H a (ns.map V.int) → sp [.ref a] H (fun v _ => v = .bl true) fun _ _ _ => False) ∧
    ∀ base : Heap, K.In base → base.Ns mainGlobals mg → (∀ p ∈ cs, TabB base mg p.1 p.2) → FnAt l.prog w K mg base CX k fa fd [x] sp
theorem walk_ofTsG {l : PySem.W.OpenLaw} {n k : Nat} {q : Program} {loose : List Str} {XP : (Str → Option Value) → Heap → Prop} {YP : World → Heap → Prop} {d : DefRec} {CX : World → CXT} {x : Str}
    (hn : l.most = some n) (hn2 : n ≤ sizeLine) (hdf : d.params.defaults = []) (hr : Room k callerA)
    (F : ∀ (w : World) (mg : Str → Option Value) (fa : Addr) (h : Heap), YP w h → h.Ns mainGlobals mg → mg d.name = some (.ref fa) → ∃ K : PySem.W.Frag, K.In h ∧ LawAtG l w K (CX w) k n x mg fa h)
    (hCX : ∀ (w : World) (H : Hp) (s : Shared) (e : Value) (s' : Shared), CX w [] H s (fun _ _ _ => False) e s' → False) :
    PySem.W.WalkO q loose XP YP l.row.toRowW d [] (fun f vs => PySem.call f vs) := by
  refine Att.attach_callB hn hdf fun w s₀ s₁ mg mb fa o pm cd doc a vs ns G Y ho hd hcd hmg hobj hints hlen hbits hg => ?_
  obtain ⟨K, KX, fd, cs, sp, hT, nT, C, hb, hsp, hF⟩ := F w mg fa _ Y G.T.g hmg
  exact law_callTsAt KX G.T.g G.T.b G.T.builtins G.T.nolimit hg hT nT C G.T.bmain hobj hints (Nat.le_trans hlen hn2) hr hF hb (fun H hH hS => hsp H a ns hlen hbits hH hS) fun H e s' => hCX w H s₁ e s'
end Q
set_option maxHeartbeats 4000000
/-! F50: from what the top has written to the law's promise. -/
namespace Q
open PySem PySem.Spec PyProof.Rows L2 NdefX LamX
/-- what the top has written -/
structure Wr (w : World) (K : Frag) (mg : Str → Option Value) (Cw Cb Cl Cr t0 : Addr) : Prop where
  B : Bi mg
  G : Gs mg
  An : Ans K w mg
  Tw : OwnW K mg Cw
  Tb : OwnB K mg Cb
  Tl : OwnL K mg Cl
  Tr : OwnR K mg Cr
  Mw : MkC K Cw
  Mb : MkC K Cb
  Ml : MkC K Cl
  Mr : MkC K Cr
  ht0 : ∀ Hx, SqT K Hx t0 []
  d_is_int : Dfn K mg "is_int" sIsInt ["value"]
  d_is_between : Dfn K mg "is_between" sIsBetween ["value", "low", "high"]
  d_is_name : Dfn K mg "is_name" sIsName ["value"]
  w_init : Mth K Cw "__init__" "Words.__init__" sWordsInit ["self", "places"]
  w_many : Mth K Cw "many" "Words.many" sWordsMany ["self", "name"]
  w_eq : Mth K Cw "__eq__" "Words.__eq__" sWordsEq ["self", "other"]
  d_need_words : Dfn K mg "need_words" sNeedWords ["value"]
  d_shape_of : Dfn K mg "shape_of" sShape ["words", "value", "deep"]
  d_size : Dfn K mg "size" sSize ["term"]
  d_order : Dfn K mg "order" sOrder ["term"]
  d_flat : Dfn K mg "flat" sFlat ["term"]
  d_ascending : Dfn K mg "ascending" sAsc ["terms"]
  b_init : MthD K Cb "__init__" "Book.__init__" sBookInit ["self", "rows"] [.ref t0]
  b_put : Mth K Cb "put" "Book.put" sBookPut ["self", "term", "value"]
  b_get : MthD K Cb "get" "Book.get" sBookGet ["self", "term", "default"] [.non]
  b_has : Mth K Cb "has" "Book.has" sBookHas ["self", "term"]
  b_pairs : Mth K Cb "pairs" "Book.pairs" sBookPairs ["self"]
  b_terms : Mth K Cb "terms" "Book.terms" sBookTerms ["self"]
  b_len : Mth K Cb "__len__" "Book.__len__" sBookLen ["self"]
  d_is_answer : Dfn K mg "is_answer" sIsAnswer ["words", "value"]
  l_init : Mth K Cl "__init__" "Lot.__init__" sLotInit ["self", "words", "answers"]
  l_eq : Mth K Cl "__eq__" "Lot.__eq__" sLotEq ["self", "other"]
  d_need_lot : Dfn K mg "need_lot" sNeedLot ["value"]
  d_is_rule : Dfn K mg "is_rule" sIsRule ["words", "value"]
  r_init : Mth K Cr "__init__" "Rules.__init__" sRulesInit ["self", "words", "rows"]
  r_eq : Mth K Cr "__eq__" "Rules.__eq__" sRulesEq ["self", "other"]
  d_told_words : Dfn K mg "told_words" sToldWords ["words"]
  d_told_term : Dfn K mg "told_term" sToldTerm ["term"]
  d_told_answer : Dfn K mg "told_answer" sToldAnswer ["term", "answer"]
  d_told_wants : Dfn K mg "told_wants" sToldWants ["wants"]
  d_lot_text : Dfn K mg "lot_text" sLotText ["lot"]
  d_rules_text : Dfn K mg "rules_text" sRulesText ["rules"]
  d_number_in : Dfn K mg "number_in" sNumberIn ["word"]
  d_name_ahead : Dfn K mg "name_ahead" sNameAhead ["word", "at"]
  d_term_ahead : Dfn K mg "term_ahead" sTermAhead ["words", "word", "at", "deep"]
  d_whole_ahead : Dfn K mg "whole_ahead" sWholeAhead ["words", "word"]
  d_term_in : Dfn K mg "term_in" sTermIn ["words", "word"]
  d_wants_in : Dfn K mg "wants_in" sWantsIn ["word"]
  d_words_of : Dfn K mg "words_of" sWordsOf ["text"]
  d_words_by : Dfn K mg "words_by" sWordsBy ["line", "at", "first"]
  d_head_of : Dfn K mg "head_of" sHeadOf ["lines", "head"]
  d_answer_by : Dfn K mg "answer_by" sAnswerBy ["words", "line", "at", "told"]
  d_rule_by : Dfn K mg "rule_by" sRuleBy ["words", "line", "at"]
  d_need_text : Dfn K mg "need_text" sNeedText ["value"]
  d_read_lot : Dfn K mg "read_lot" sReadLot ["text"]
  d_read_rules : Dfn K mg "read_rules" sReadRules ["text"]
  d_law_pen : Dfn K mg "_law_pen" sLawPen ["script"]
  d_law_draw : Dfn K mg "_law_draw" sLawDraw ["pen", "many"]
  d_law_pick : Dfn K mg "_law_pick" sLawPick ["pen", "some"]
  d_law_mixed : Dfn K mg "_law_mixed" sLawMixed ["pen", "some"]
  d_law_places : Dfn K mg "_law_places" sLawPlaces ["pen"]
  d_law_rows : Dfn K mg "_law_rows" sLawRows ["lot", "many"]
  d_law_all_rows : Dfn K mg "_law_all_rows" sLawAllRows ["places", "kinds"]
  d_law_table : Dfn K mg "_law_table" sLawTable ["pen", "places", "most"]
  d_law_size : Dfn K mg "_law_size" sLawSize ["term"]
  d_law_ordered : Dfn K mg "_law_ordered" sLawOrdered ["terms"]
  d_law_kind : Dfn K mg "_law_kind" sLawKind ["plan", "term"]
  d_law_says : Dfn K mg "_law_says" sLawSays ["plan", "term"]
  d_law_term : Dfn K mg "_law_term" sLawTerm ["pen", "places", "deep"]
  d_law_hidden : Dfn K mg "_law_hidden" sLawHidden ["pen", "places", "most"]
  d_law_term_text : Dfn K mg "_law_term_text" sLawTermText ["term"]
  d_law_words_text : Dfn K mg "_law_words_text" sLawWordsText ["places"]
  d_law_lot_text : Dfn K mg "_law_lot_text" sLawLotText ["places", "lot"]
  d_law_rules : Dfn K mg "_law_rules" sLawRules ["pen", "places"]
  d_law_rules_text : Dfn K mg "_law_rules_text" sLawRulesText ["places", "rows"]
section
variable {P : Program} {w : World} {K : Frag} {mg : Str → Option Value} {base : Heap}
theorem lawC_of {Cw Cb Cl Cr CBL CBR t0 : Addr} (W : Wr w K mg Cw Cb Cl Cr t0) (XL : OwnX P w K mg base CBL "BadLot") (XR : OwnX P w K mg base CBR "BadRule") (nl : NeF K Cl) (nr : NeF K Cr) (xl : XF K CBL) (xr : XF K CBR) : LawC P w K mg base Cw Cb Cl Cr CBL CBR := by
  have B := W.B
  have G := W.G
  have c_is_int : Kp P w K mg base 1 "is_int" ["value"] (spIsInt K) := ok_isInt B G W.d_is_int
  have c_is_between := ok_isBetween c_is_int W.d_is_between
  have c_is_name : Kp P w K mg base 1 "is_name" ["value"] (spIsName K) := ok_isName B G W.d_is_name
  have w_init := ok_wordsInit B G W.Tw c_is_name c_is_between W.w_init
  have w_many : KpM P w K mg base 1 Cw "many" ["self", "name"] (spMany K Cw) := ok_many B W.Tw W.w_many
  have w_eq : KpM P w K mg base 1 Cw "__eq__" ["self", "other"] (spEq (sameW K Cw)) := ok_wordsEq B W.Tw W.w_eq
  have c_need_words : Kp P w K mg base 1 "need_words" ["value"] (spNeedWords K Cw) := ok_needWords B W.Tw W.d_need_words
  have c_shape := ok_shape B G W.Tw w_many W.d_shape_of 60
  have c_size : Kp P w K mg base 61 "size" ["term"] (spSize K 60) := ok_size W.d_size B.sum 60
  have c_order := ok_order c_size W.d_order
  have c_flat : Kp P w K mg base 1 "flat" ["term"] (spFlat K) := ok_flat B W.d_flat
  have c_asc := ok_asc (by decide) B c_order W.d_ascending
  obtain ⟨_, b_init⟩ := W.b_init.kp (P := P) (w := w) (mg := mg) (base := base) fun f fd F => ok_bookInit W.Tb F
  obtain ⟨b_get, b_get1⟩ := W.b_get.kp (P := P) (w := w) (mg := mg) (base := base) fun f fd F => ok_get W.Tb c_flat F
  have b_put := ok_put W.Tb c_flat W.b_put
  have b_has := ok_has W.Tb c_flat W.b_has
  have b_pairs : KpM P w K mg base 1 Cb "pairs" ["self"] (spPairs K Cb) := ok_pairs W.Tb W.b_pairs
  have b_terms : KpM P w K mg base 1 Cb "terms" ["self"] (spTerms K Cb) := ok_terms W.Tb W.b_terms
  have b_len0 : KpM P w K mg base 1 Cb "__len__" ["self"] (spLen K Cb) := ok_len B W.Tb W.b_len
  have b_len : ∃ f fd, FnOk P w K mg base CX0 1 f fd ["self"] (spLen K Cb) ∧ PySem.W.findIn K (.ref Cb) "__len__" = some (some (.ref f)) ∧ PySem.W.typeIn K (.ref f) = some (.type "function") ∧ Binds K fd ["self"] [] := by
    obtain ⟨f, fd, F, _, h, b⟩ := b_len0
    exact ⟨f, fd, F, h.at_, beq_iff_eq.mp h.fn, b⟩
  have c_is_answer := ok_isAnswer B G c_shape W.d_is_answer
  have l_init := ok_lotInit B G W.Tb W.Tl W.Mb W.ht0 c_need_words b_init c_is_answer b_get b_get1 b_put b_len b_terms c_asc W.l_init
  have m_lotEq := ok_lotEq B W.Tl w_eq W.l_eq
  have c_told_words : Kp P w K mg base 1 "told_words" ["words"] (spToldWords K Cw) := ok_toldWords W.Tw W.d_told_words
  have c_told_term : Kp P w K mg base 61 "told_term" ["term"] (spToldTerm K 60) := ok_toldTerm W.d_told_term 60
  have c_told_answer := ok_toldAnswer c_told_term W.d_told_answer
  have c_told_wants : Kp P w K mg base 1 "told_wants" ["wants"] (spToldWants K) := ok_toldWants G W.d_told_wants
  have c_need_lot : Kp P w K mg base 1 "need_lot" ["value"] (spNeedLot K Cw Cl) := ok_needLot B W.Tl W.d_need_lot
  have c_lot_text := ok_lotText W.Tl c_need_lot c_told_answer c_told_words W.d_lot_text
  have c_need_text : Kp P w K mg base 1 "need_text" ["value"] (spNeedText K) := ok_needText B W.d_need_text
  have c_words_of : Kp P w K mg base 1 "words_of" ["text"] (spWordsOf K) := ok_wordsOf W.d_words_of
  have c_name_ahead : Kp P w K mg base 1 "name_ahead" ["word", "at"] (spNameAhead K) := ok_nameAhead B G W.d_name_ahead
  have c_term_ahead := ok_termAhead B G W.Tw w_many c_name_ahead W.d_term_ahead 121
  have c_number_in : Kp P w K mg base 1 "number_in" ["word"] (spNumberIn K) := ok_numberIn B G W.d_number_in
  have c_whole_ahead := ok_wholeAhead B G c_term_ahead W.d_whole_ahead
  have c_term_in := ok_termIn G c_whole_ahead c_shape W.d_term_in
  have c_head_of := ok_headOf B c_words_of W.d_head_of
  have c_words_by := ok_wordsBy B G W.Tw W.Mw c_words_of c_number_in c_is_name w_init W.d_words_by
  have c_answer_by := ok_answerBy B W.An c_words_of c_term_in b_has W.d_answer_by
  have c_read_lot := ok_readLot B W.Tb W.Tl W.Mb W.Ml W.ht0 c_need_text b_init c_head_of c_words_by c_answer_by b_put b_pairs l_init W.d_read_lot
  have c_wants_in := ok_wantsIn B G c_is_name W.d_wants_in
  have c_is_rule := ok_isRule B G c_is_name w_many W.d_is_rule
  have c_rule_by := ok_ruleBy B c_words_of c_is_name w_many c_wants_in W.d_rule_by
  have r_init := ok_rulesInit B G W.Tr c_need_words c_is_rule W.r_init
  have m_rulesEq := ok_rulesEq B W.Tr w_eq W.r_eq
  have c_rules_text := ok_rulesText B W.Tr c_told_wants c_told_words W.d_rules_text
  have c_read_rules := ok_readRules B W.Tr W.Mr c_need_text c_head_of c_words_by c_rule_by r_init W.d_read_rules
  have c_law_pen : Kp P w K mg base 1 "_law_pen" ["script"] (spPen K) := ok_pen B W.d_law_pen
  have c_law_draw : Kp P w K mg base 1 "_law_draw" ["pen", "many"] spDraw := ok_draw B W.d_law_draw
  have c_law_pick := ok_pick B c_law_draw W.d_law_pick
  have c_law_mixed := ok_mixed B c_law_draw W.d_law_mixed
  have c_law_places := ok_places B c_law_pick c_law_mixed W.d_law_places
  have c_law_rows : Kp P w K mg base 1 "_law_rows" ["lot", "many"] (spRows K) := ok_rows B W.d_law_rows
  have c_law_all_rows := ok_allRows B c_law_rows W.d_law_all_rows
  have c_law_table := ok_table B c_law_draw c_law_all_rows W.d_law_table
  have c_law_size : Kp P w K mg base 61 "_law_size" ["term"] (spSize K 60) := ok_lawSize B W.d_law_size 60
  have c_law_ordered := ok_lawOrdered (by decide) B c_law_size W.d_law_ordered
  have c_law_term := ok_lawTerm B c_law_pick W.d_law_term 3
  have c_law_kind : Kp P w K mg base 61 "_law_kind" ["plan", "term"] (spKind K 60) := ok_kind B W.d_law_kind 60
  have c_law_says := ok_says c_law_kind W.d_law_says
  have c_law_hidden := ok_hidden B c_law_draw c_law_table W.d_law_hidden
  have c_law_term_text : Kp P w K mg base 61 "_law_term_text" ["term"] (spLawTermText K 60) := ok_lawTermText B W.d_law_term_text 60
  have c_law_words_text : Kp P w K mg base 1 "_law_words_text" ["places"] (spLawWordsText K) := ok_lawWordsText B W.d_law_words_text
  have c_law_lot_text := ok_lawLotText c_law_words_text c_law_term_text W.d_law_lot_text
  have c_law_rules := ok_rules B c_law_draw c_law_pick c_law_mixed W.d_law_rules
  have c_law_rules_text := ok_lawRulesText c_law_words_text W.d_law_rules_text
  have c_need_lotX := ok_needLotX (CB := CBL) B W.Tl XL W.d_need_lot
  have c_lot_textX := ok_lotTextX c_need_lotX W.d_lot_text
  have c_rules_textX := ok_rulesTextX (CB := CBR) B W.Tr XR W.d_rules_text
  exact {
    c_law_pen := c_law_pen, c_law_draw := c_law_draw, c_law_pick := c_law_pick, c_law_mixed := c_law_mixed, c_law_places := c_law_places, c_law_hidden := c_law_hidden, c_law_size := c_law_size, c_law_ordered := c_law_ordered, c_law_says := c_law_says, c_law_term := c_law_term,
    c_law_lot_text := c_law_lot_text, c_law_rules := c_law_rules, c_law_rules_text := c_law_rules_text, w_init := w_init, l_init := l_init, r_init := r_init, m_lotEq := m_lotEq, m_rulesEq := m_rulesEq, c_lot_text := c_lot_text, c_rules_text := c_rules_text, c_read_lot := c_read_lot,
    c_read_rules := c_read_rules,
    c_lot_textW := c_lot_text.w W.d_lot_text fun _ _ _ _ _ _ _ => rfl, c_rules_textW := c_rules_text.w W.d_rules_text fun _ _ _ _ _ _ _ => rfl, c_read_lotW := c_read_lot.w W.d_read_lot fun _ _ _ _ _ _ _ => rfl, c_read_rulesW := c_read_rules.w W.d_read_rules fun _ _ _ _ _ _ _ => rfl,
    c_lot_textX := c_lot_textX, c_rules_textX := c_rules_textX, Tw := W.Tw, Tl := W.Tl, Tr := W.Tr, Mw := W.Mw, Ml := W.Ml, Mr := W.Mr, nl := nl, nr := nr, xl := xl, xr := xr, mgL := XL.mgC, mgR := XR.mgC }
end
end Q
set_option maxHeartbeats 4000000
/-! F51: what the head tells, by Bools; the Hook. -/
namespace Q
open PySem PySem.Spec PyProof.Rows L2 NdefX LamX He
section
variable {P : Program} {w : World} {K : Frag} {mg : Str → Option Value} {base : Heap}
/-! ### defs -/
theorem dfn_of {x : Str} {st : Stmt} {ps : List Str} (F : ∃ fd, FunD K x x (defArgs st) (defBody st) (defScope st) [] [] (fAd K (x, none)) fd) (hm : mg x = some (.ref (ga K x)))
    (hb : ∀ (kV doc pm : Value) (an : Option Addr) (cdv ct : Value) (us : List Value), us.length = ps.length → bindArgs (PySem.W.fnOf x x (defArgs st) (defBody st) (defScope st) .none kV doc pm an cdv ct) ⟨us, []⟩ = pure (ps.zip us)) : Dfn K mg x st ps := by
  obtain ⟨fd, F⟩ := F
  have b := F.bindsN hb
  obtain ⟨oc, od, dV, kV, doc, pm, an, cdv, ct, osl, e, lk, hcd, hD, hK⟩ := F.ex
  rcases hD with ⟨_, rfl⟩ | ⟨z, _⟩
  · exact ⟨_, fd, ⟨⟨oc, od, kV, doc, pm, an, cdv, ct, osl, e, lk, hcd⟩, F.kp⟩, hm, b⟩
  · exact absurd rfl z
theorem mth_of {x m qual : Str} {st : Stmt} {ps : List Str} (F : ∃ fd, FunD K m qual (defArgs st) (defBody st) (defScope st) [] [] (fAd K (x, some m)) fd) (c : Cls K (ga K x)) (hm : Meth K (ga K x) m (ma K (ga K x) m))
    (hb : ∀ (kV doc pm : Value) (an : Option Addr) (cdv ct : Value) (us : List Value), us.length = ps.length → bindArgs (PySem.W.fnOf m qual (defArgs st) (defBody st) (defScope st) .none kV doc pm an cdv ct) ⟨us, []⟩ = pure (ps.zip us)) : Mth K (ga K x) m qual st ps := by
  obtain ⟨fd, F⟩ := F
  have b := F.bindsN hb
  obtain ⟨oc, od, dV, kV, doc, pm, an, cdv, ct, osl, e, lk, hcd, hD, hK⟩ := F.ex
  rcases hD with ⟨_, rfl⟩ | ⟨z, _⟩
  · exact ⟨_, fd, c, hm, ⟨⟨oc, od, kV, doc, pm, an, cdv, ct, osl, e, lk, hcd⟩, F.kp⟩, b⟩
  · exact absurd rfl z
theorem mthD_of {x m qual : Str} {st : Stmt} {ps : List Str} {v : V} (F : ∃ fd, FunD K m qual (C8.fnArgs st) (C8.fnBody st) (C8.fnScope st) [v] [] (fAd K (x, some m)) fd) (c : Cls K (ga K x)) (hm : Meth K (ga K x) m (ma K (ga K x) m))
    (hb : ∀ (T : Addr) (kV doc pm : Value) (an : Option Addr) (cdv ct : Value) (us its : List Value), us.length = ps.length → its.length = 1 → ∃ k, bindArgs (PySem.W.fnOf m qual (C8.fnArgs st) (C8.fnBody st) (C8.fnScope st) (.ref T) kV doc pm an cdv ct) ⟨us, []⟩ = seqItems? (.ref T) >>= k ∧ k (some its.toArray) = pure (ps.zip (us ++ its.drop 1)))
    (hb1 : ∀ (T : Addr) (kV doc pm : Value) (an : Option Addr) (cdv ct : Value) (us its : List Value), us.length + 1 = ps.length → its.length = 1 → ∃ k, bindArgs (PySem.W.fnOf m qual (C8.fnArgs st) (C8.fnBody st) (C8.fnScope st) (.ref T) kV doc pm an cdv ct) ⟨us, []⟩ = seqItems? (.ref T) >>= k ∧ k (some its.toArray) = pure (ps.zip (us ++ its.drop 0)))
    (hp : 0 < ps.length) : MthD K (ga K x) m qual st ps [v] := by
  obtain ⟨fd, F⟩ := F
  obtain ⟨ds0, v0, b0⟩ := F.binds1 (ps := ps) ps.length 1 (by simp) (by simp) fun T kV doc pm an cdv ct us its h1 h2 => hb T kV doc pm an cdv ct us its h1 h2
  obtain ⟨ds1, v1, b1⟩ := F.binds1 (ps := ps) (ps.length - 1) 0 (by simp) (by simp; omega) fun T kV doc pm an cdv ct us its h1 h2 => hb1 T kV doc pm an cdv ct us its (by omega) h2
  have e0 : ds0 = [] := by
    cases v0
    rfl
  subst e0
  obtain ⟨oc, od, dV, kV, doc, pm, an, cdv, ct, osl, e, lk, hcd, hD, hK⟩ := F.ex
  exact ⟨_, fd, c, hm, ⟨⟨oc, od, dV, kV, doc, pm, an, cdv, ct, osl, e, lk, hcd⟩⟩, b0, ds1, b1, v1⟩
/-! ### classes -/
def insB (K : Frag) (C : Addr) : Bool := eqO (PySem.W.findIn K (.ref C) "__class__") (some (some (.builtin "object.__class__"))) && (eqO (PySem.W.specialIn K (.builtin "object.__class__") "__get__") (some (some (.builtin "getset_descriptor.__get__"))) &&
  (decide (PySem.W.takesIn K (.builtin "object.__class__") = some true) && (decide (PySem.W.mroIn K C (.type "object") = some true) && decide (PySem.W.kitOne K (.ref C) (.ref C) = some true))))
theorem insB_ok {C : Addr} (c : Cls K C) (h : insB K C = true) : C8.InsC K C := by
  obtain ⟨h1, h⟩ := ba h
  obtain ⟨h2, h⟩ := ba h
  obtain ⟨h3, h⟩ := ba h
  obtain ⟨h4, h5⟩ := ba h
  exact ⟨c, eqO_ok h1, eqO_ok h2, of_decide_eq_true h3, of_decide_eq_true h4, of_decide_eq_true h5⟩
def neB (K : Frag) (C : Addr) : Bool := eqO (PySem.W.findIn K (.ref C) "__ne__") (some (some (.builtin "object.__ne__"))) && decide (PySem.W.mroIn K C (.type "object") = some true)
theorem neB_ok {C : Addr} (h : neB K C = true) : NeF K C := ⟨eqO_ok (ba h).1, of_decide_eq_true (ba h).2⟩
def mkB (K : Frag) (C : Addr) : Bool := PySem.W.makesIn K C && PySem.W.keepIn K (.ref C)
theorem mkB_ok {C : Addr} (h : mkB K C = true) : MkC K C := ⟨(ba h).1, (ba h).2⟩
/-! ### errors -/
def oexB1 (K : Frag) (C : Addr) : Bool := match K.lookup C with
  | some ⟨.type "type", _, .cls cd, sl⟩ => (match cd.mro, sl.toList with
    | .ref C' :: bm, [_, _, _, _, some (.builtin n), _] => C' == C && n == "ValueError.__new__" && !cd.hasDel && cd.hasDict && PySem.HandSPX.refsVE bm
    | _, _ => false)
  | _ => false
theorem oexB1_ok {C : Addr} (q : oexB1 K C = true) : ∃ nm q N bs bm sn sub ab col dd k0 k1 k2 k3 k5, K.lookup C = some (excClassObj nm q C N bs bm true sn sub ab col dd k0 k1 k2 k3 k5 "ValueError.__new__") ∧ PySem.HandSPX.refsVE bm = true := by
  unfold oexB1 at q
  split at q
  · rename_i dd cd sl ho
    split at q
    · rename_i C' bm k0 k1 k2 k3 n k5 hm hs
      simp only [Bool.and_eq_true, beq_iff_eq, Bool.not_eq_true'] at q
      obtain ⟨⟨⟨⟨rfl, rfl⟩, hdel⟩, hdi⟩, ht⟩ := q
      obtain ⟨nm, bs, mro, ns, qn, hd, sn, sub, ab, col, del⟩ := cd
      dsimp only at hm hdel hdi
      subst hm hdel hdi
      have hsl : sl = #[k0, k1, k2, k3, some (.builtin "ValueError.__new__"), k5] := by
        obtain ⟨l⟩ := sl
        simp only at hs
        rw [hs]
      subst hsl
      exact ⟨nm, qn, ns, bs, bm, sn, sub, ab, col, dd, k0, k1, k2, k3, k5, ho, ht⟩
    · cases q
  · cases q
def oexB (K : Frag) (C : Addr) : Bool := oexB1 K C && (eqO (PySem.W.findIn K (.ref C) "__setattr__") (some (some (.builtin "object.__setattr__"))) && (decide (PySem.W.subIn K (.ref C) (.type "BaseException") = some true) && (decide (PySem.W.typeIn K (.ref C) = some (.type "type")) && PySem.W.keepIn K (.ref C))))
theorem oexB_ok {C : Addr} (h : oexB K C = true) : OexC K C := by
  obtain ⟨h1, h⟩ := ba h
  obtain ⟨h2, h⟩ := ba h
  obtain ⟨h3, h⟩ := ba h
  obtain ⟨h4, h5⟩ := ba h
  exact ⟨oexB1_ok h1, eqO_ok h2, of_decide_eq_true h3, of_decide_eq_true h4, h5⟩
/-- an error's __init__, as it stands -/
abbrev FnZ : Type := Option (Str × Str × Arguments × FuncBody × Scope × Addr × List Str × Value × Value × Option Addr × Addr)
def fnZ (K : Frag) (x : Str) : FnZ := match K.lookup (fAd K (x, some "__init__")) with
  | some ⟨_, _, .func fd, _⟩ => some (fd.name, fd.qualname, fd.params, fd.body, fd.scope, fd.globals, fd.closure.map (·.1), fd.defaults, fd.kwdefaults, fd.annotations, fd.builtins)
  | _ => none
def valZ (qual : Str) (st : Stmt) : FnZ := some ("__init__", qual, C8.fnArgs st, .stmts (C8.fnBody st), C8.fnScope st, mainGlobals, ["__class__"], .none, .none, none, builtinsNs)
def initB (file : Str) (K : Frag) (C fI : Addr) (qual : Str) : Bool := match K.lookup fI with
  | some ⟨_, _, .func fd, _⟩ => PySem.W.codeIn K fd.code qual && ((match fd.closure with
      | [(_, cc)] => (match K.lookup cc with
        | some ⟨_, _, .cell (some (.ref C')), _⟩ => C' == C
        | _ => false)
      | _ => false) && (match fd.code with
      | .ref cda => (match K.lookup cda with
        | some ⟨_, _, .fields vs, _⟩ => (match (vs[2]? : Option Value) with
          | some (.str y _) => file == y
          | _ => false)
        | _ => false)
      | _ => false))
  | _ => false
def exiB (file : Str) (K : Frag) (x qual : Str) : Bool := initB file K (ga K x) (ma K (ga K x) "__init__") qual && (oexB K (ga K x) && (eqO (PySem.W.findIn K (.ref (ga K x)) "__init__") (some (some (.ref (ma K (ga K x) "__init__")))) && (decide (PySem.W.typeIn K (.ref (ma K (ga K x) "__init__")) = some (.type "function")) &&
  (eqO (PySem.W.nsIn K cStatics "thirdparty.any") (some none) && (eqO (PySem.W.ks_superIn K (ga K x) (ga K x) "__init__") (some (some vei)) && (decide (PySem.W.subIn K (.ref (ga K x)) (.type "ValueError") = some true) && decide (PySem.W.mroIn K (ga K x) (.ref (ga K x)) = some true)))))))
theorem exiB_ok {x qual : Str} {st : Stmt} (e : fnZ K x = valZ qual st) (h : exiB P.main.file K x qual = true) : ∃ fd, ExI P K (ga K x) qual st (ma K (ga K x) "__init__") fd := by
  obtain ⟨h0, h⟩ := ba h
  obtain ⟨h1, h⟩ := ba h
  obtain ⟨h2, h⟩ := ba h
  obtain ⟨h3, h⟩ := ba h
  obtain ⟨h4, h⟩ := ba h
  obtain ⟨h5, h⟩ := ba h
  obtain ⟨h6, h7⟩ := ba h
  unfold initB at h0
  unfold fnZ at e
  have efa : fAd K (x, some "__init__") = ma K (ga K x) "__init__" := rfl
  rw [efa] at e
  cases q : K.lookup (ma K (ga K x) "__init__") with
  | none => rw [q] at h0; cases h0
  | some o =>
    obtain ⟨oc, od, dt, osl⟩ := o
    rw [q] at h0 e
    cases dt with
    | func fd =>
      obtain ⟨n1, n2, n3, n4, n5, n6, n7, n8, n9, n10, n11, n12, n13, n14, n15⟩ := fd
      have e2 : (some (n1, n2, n3, n4, n5, n6, n7.map (·.1), n8, n9, n12, n15) : FnZ) = (some (("__init__" : Str), qual, C8.fnArgs st, FuncBody.stmts (C8.fnBody st), C8.fnScope st, mainGlobals, [("__class__" : Str)], Value.none, Value.none, none, builtinsNs) : FnZ) := e
      simp only [Option.some.injEq, Prod.mk.injEq] at e2
      obtain ⟨g1, g2, g3, g4, g5, g6, g7, g8, g9, g10, g11⟩ := e2
      subst g1 g2 g3 g4 g5 g6 g8 g9 g10 g11
      dsimp only at h0
      obtain ⟨k1, k⟩ := ba h0
      obtain ⟨k2, k3⟩ := ba k
      match n7, g7, k2, q with
      | [(y, cc)], g7, k2, q =>
        have hy : y = "__class__" := by
          have := (List.cons.inj g7).1
          exact this
        subst hy
        dsimp only at k2
        cases qc : K.lookup cc with
        | none => rw [qc] at k2; cases k2
        | some oC =>
          obtain ⟨cl, cld, cdt, csl⟩ := oC
          rw [qc] at k2
          split at k2
          · rename_i heq
            have := beq_iff_eq.mp k2
            subst this
            cases n13 with
            | ref cda =>
              dsimp only at k3
              cases qd : K.lookup cda with
              | none => rw [qd] at k3; cases k3
              | some oD =>
                obtain ⟨ccl, cdd, ddt, ccs⟩ := oD
                rw [qd] at k3
                cases ddt with
                | fields vs =>
                  dsimp only at k3
                  split at k3
                  · rename_i y t hv
                    cases heq
                    exact ⟨_, oexB_ok h1, eqO_ok h2, of_decide_eq_true h3, ⟨oc, od, n10, n11, cda, cc, vs, y, t, ccl, cdd, ccs, n14, osl, cl, cld, csl, rfl, q, k1, qd, hv, k3, qc⟩, eqO_ok h4, eqO_ok h5, of_decide_eq_true h6, of_decide_eq_true h7⟩
                  · cases k3
                | _ => cases k3
            | _ => cases k3
          · cases k2
    | _ => cases h0
/-! ### the Hook: hookX and the errors' __init__s -/
/-- what the names reach, and the statics -/
def asQ (g : Addr → Option Obj) (n : Nat) : List Addr := asD g n ++ [cStatics]
def obsXQ (n : Nat) (fa : List Fa) (fn : List DefD) (ts : List Tab) (tf : List Defn) (ex : Frag → Bool) (g : Addr → Option Obj) (K : Frag) : AlX := (obsT fa fn ts K, ex K && tabsB g tf K)
theorem saysXQ_of {n : Nat} {fa : List Fa} {fn : List DefD} {ts : List Tab} {tf : List Defn} {ex : Frag → Bool} {w : World} {h : Heap} (e : obsXQ n fa fn ts tf ex h.get? (frT h.get? (asQ h.get? n)) = valX fn ts w) : SaysX fa fn ts tf ex w h (frT h.get? (asQ h.get? n)) := by
  have e1 : obsT fa fn ts (frT h.get? (asQ h.get? n)) = valT fn ts w := congrArg (fun z : AlX => z.1) e
  have e2 : (ex (frT h.get? (asQ h.get? n)) && tabsB h.get? tf (frT h.get? (asQ h.get? n))) = true := congrArg (fun z : AlX => z.2) e
  obtain ⟨h1, h2⟩ := ba e2
  have key : ∀ p ∈ tf, PySem.W.codeHdIn (frT h.get? (asQ h.get? n)) (cT (frT h.get? (asQ h.get? n)) p).1 (cT (frT h.get? (asQ h.get? n)) p).2 = true ∧ ∃ o, h.get? (cT (frT h.get? (asQ h.get? n)) p).2 = some o ∧ emptyTab o = true := fun p hp => by
    obtain ⟨h3, h4⟩ := ba (List.all_eq_true.mp h2 p hp)
    refine ⟨h3, ?_⟩
    cases q : h.get? (cT (frT h.get? (asQ h.get? n)) p).2 with
    | none =>
      rw [q] at h4
      cases h4
    | some o =>
      rw [q] at h4
      exact ⟨o, rfl, h4⟩
  exact ⟨e1, h1, fun p hp => (key p hp).1, fun p hp => by
    obtain ⟨_, o, q, z⟩ := key p hp
    exact frT_none q z, fun p hp => by
    obtain ⟨_, o, q, z⟩ := key p hp
    rw [q, emptyTab_eq z]⟩
def obsQ1 (n : Nat) (fa : List Fa) (fn : List DefD) (ts : List Tab) (tf : List Defn) (ex : Frag → Bool) (zs : List Str) (g : Addr → Option Obj) (K : Frag) : AlX × List FnZ := (obsXQ n fa fn ts tf ex g K, zs.map (fnZ K))
def obsQ (n : Nat) (fa : List Fa) (fn : List DefD) (ts : List Tab) (tf : List Defn) (ex : Frag → Bool) (zs : List Str) (g : Addr → Option Obj) : AlX × List FnZ := obsQ1 n fa fn ts tf ex zs g (frT g (asQ g n))
def zsN (zs : List (Str × FnZ)) : List Str := zs.map Prod.fst
def zsV (zs : List (Str × FnZ)) : List FnZ := zs.map Prod.snd
def hookQ (n : Nat) (fa : List Fa) (fn : List DefD) (ts : List Tab) (tf : List Defn) (ex : Frag → Bool) (zs : List (Str × FnZ)) : PySem.W.Hook where
  α := AlX × List FnZ
  obs := fun s => obsQ n fa fn ts tf ex (zsN zs) s.heap.get?
  val := fun w => (valX fn ts w, zsV zs)
  says := fun w h => ∃ K : Frag, K.In h ∧ SaysX fa fn ts tf ex w h K ∧ (zsN zs).map (fnZ K) = zsV zs
  of := fun w s e => ⟨frT s.heap.get? (asQ s.heap.get? n), frT_in, saysXQ_of (congrArg (fun z : AlX × List FnZ => z.1) e), congrArg (fun z : AlX × List FnZ => z.2) e⟩
  keeps := fun _ _ _ ⟨K, hK, c, z⟩ k => ⟨K, PySem.W.Frag.In.keeps hK k, ⟨c.t, c.more, c.hd, c.out, fun p hp => k _ _ (c.empty p hp)⟩, z⟩
theorem obsQ_eq {n : Nat} {fa : List Fa} {fn : List DefD} {ts : List Tab} {tf : List Defn} {ex : Frag → Bool} {zs : List (Str × FnZ)} {g : Addr → Option Obj} {s : Shared} (h : ∀ a, g a = s.heap.get? a) : obsQ n fa fn ts tf ex (zsN zs) g = (hookQ n fa fn ts tf ex zs).obs s := by
  have e : g = s.heap.get? := funext h
  rw [e] <;> rfl
end
end Q
set_option maxHeartbeats 4000000
/-! F52: the data of the head (printed by mk52.py), and what follows from what it tells. -/
namespace Q
open PySem PySem.Spec PyProof.Rows L2 NdefX LamX He
abbrev t0At (K : Frag) : Addr := dflAt ("Book", some "__init__") 0 K
def dd_d_is_int : DefD := ⟨("is_int", none), "is_int", "is_int", defArgs sIsInt, defBody sIsInt, defScope sIsInt, [], []⟩
def dd_d_is_between : DefD := ⟨("is_between", none), "is_between", "is_between", defArgs sIsBetween, defBody sIsBetween, defScope sIsBetween, [], []⟩
def dd_d_is_name : DefD := ⟨("is_name", none), "is_name", "is_name", defArgs sIsName, defBody sIsName, defScope sIsName, [], []⟩
def dd_d_need_words : DefD := ⟨("need_words", none), "need_words", "need_words", defArgs sNeedWords, defBody sNeedWords, defScope sNeedWords, [], []⟩
def dd_d_shape_of : DefD := ⟨("shape_of", none), "shape_of", "shape_of", defArgs sShape, defBody sShape, defScope sShape, [], []⟩
def dd_d_size : DefD := ⟨("size", none), "size", "size", defArgs sSize, defBody sSize, defScope sSize, [], []⟩
def dd_d_order : DefD := ⟨("order", none), "order", "order", defArgs sOrder, defBody sOrder, defScope sOrder, [], []⟩
def dd_d_flat : DefD := ⟨("flat", none), "flat", "flat", defArgs sFlat, defBody sFlat, defScope sFlat, [], []⟩
def dd_d_ascending : DefD := ⟨("ascending", none), "ascending", "ascending", defArgs sAsc, defBody sAsc, defScope sAsc, [], []⟩
def dd_d_is_answer : DefD := ⟨("is_answer", none), "is_answer", "is_answer", defArgs sIsAnswer, defBody sIsAnswer, defScope sIsAnswer, [], []⟩
def dd_d_need_lot : DefD := ⟨("need_lot", none), "need_lot", "need_lot", defArgs sNeedLot, defBody sNeedLot, defScope sNeedLot, [], []⟩
def dd_d_is_rule : DefD := ⟨("is_rule", none), "is_rule", "is_rule", defArgs sIsRule, defBody sIsRule, defScope sIsRule, [], []⟩
def dd_d_told_words : DefD := ⟨("told_words", none), "told_words", "told_words", defArgs sToldWords, defBody sToldWords, defScope sToldWords, [], []⟩
def dd_d_told_term : DefD := ⟨("told_term", none), "told_term", "told_term", defArgs sToldTerm, defBody sToldTerm, defScope sToldTerm, [], []⟩
def dd_d_told_answer : DefD := ⟨("told_answer", none), "told_answer", "told_answer", defArgs sToldAnswer, defBody sToldAnswer, defScope sToldAnswer, [], []⟩
def dd_d_told_wants : DefD := ⟨("told_wants", none), "told_wants", "told_wants", defArgs sToldWants, defBody sToldWants, defScope sToldWants, [], []⟩
def dd_d_lot_text : DefD := ⟨("lot_text", none), "lot_text", "lot_text", defArgs sLotText, defBody sLotText, defScope sLotText, [], []⟩
def dd_d_rules_text : DefD := ⟨("rules_text", none), "rules_text", "rules_text", defArgs sRulesText, defBody sRulesText, defScope sRulesText, [], []⟩
def dd_d_number_in : DefD := ⟨("number_in", none), "number_in", "number_in", defArgs sNumberIn, defBody sNumberIn, defScope sNumberIn, [], []⟩
def dd_d_name_ahead : DefD := ⟨("name_ahead", none), "name_ahead", "name_ahead", defArgs sNameAhead, defBody sNameAhead, defScope sNameAhead, [], []⟩
def dd_d_term_ahead : DefD := ⟨("term_ahead", none), "term_ahead", "term_ahead", defArgs sTermAhead, defBody sTermAhead, defScope sTermAhead, [], []⟩
def dd_d_whole_ahead : DefD := ⟨("whole_ahead", none), "whole_ahead", "whole_ahead", defArgs sWholeAhead, defBody sWholeAhead, defScope sWholeAhead, [], []⟩
def dd_d_term_in : DefD := ⟨("term_in", none), "term_in", "term_in", defArgs sTermIn, defBody sTermIn, defScope sTermIn, [], []⟩
def dd_d_wants_in : DefD := ⟨("wants_in", none), "wants_in", "wants_in", defArgs sWantsIn, defBody sWantsIn, defScope sWantsIn, [], []⟩
def dd_d_words_of : DefD := ⟨("words_of", none), "words_of", "words_of", defArgs sWordsOf, defBody sWordsOf, defScope sWordsOf, [], []⟩
def dd_d_words_by : DefD := ⟨("words_by", none), "words_by", "words_by", defArgs sWordsBy, defBody sWordsBy, defScope sWordsBy, [], []⟩
def dd_d_head_of : DefD := ⟨("head_of", none), "head_of", "head_of", defArgs sHeadOf, defBody sHeadOf, defScope sHeadOf, [], []⟩
def dd_d_answer_by : DefD := ⟨("answer_by", none), "answer_by", "answer_by", defArgs sAnswerBy, defBody sAnswerBy, defScope sAnswerBy, [], []⟩
def dd_d_rule_by : DefD := ⟨("rule_by", none), "rule_by", "rule_by", defArgs sRuleBy, defBody sRuleBy, defScope sRuleBy, [], []⟩
def dd_d_need_text : DefD := ⟨("need_text", none), "need_text", "need_text", defArgs sNeedText, defBody sNeedText, defScope sNeedText, [], []⟩
def dd_d_read_lot : DefD := ⟨("read_lot", none), "read_lot", "read_lot", defArgs sReadLot, defBody sReadLot, defScope sReadLot, [], []⟩
def dd_d_read_rules : DefD := ⟨("read_rules", none), "read_rules", "read_rules", defArgs sReadRules, defBody sReadRules, defScope sReadRules, [], []⟩
def dd_d_law_pen : DefD := ⟨("_law_pen", none), "_law_pen", "_law_pen", defArgs sLawPen, defBody sLawPen, defScope sLawPen, [], []⟩
def dd_d_law_draw : DefD := ⟨("_law_draw", none), "_law_draw", "_law_draw", defArgs sLawDraw, defBody sLawDraw, defScope sLawDraw, [], []⟩
def dd_d_law_pick : DefD := ⟨("_law_pick", none), "_law_pick", "_law_pick", defArgs sLawPick, defBody sLawPick, defScope sLawPick, [], []⟩
def dd_d_law_mixed : DefD := ⟨("_law_mixed", none), "_law_mixed", "_law_mixed", defArgs sLawMixed, defBody sLawMixed, defScope sLawMixed, [], []⟩
def dd_d_law_places : DefD := ⟨("_law_places", none), "_law_places", "_law_places", defArgs sLawPlaces, defBody sLawPlaces, defScope sLawPlaces, [], []⟩
def dd_d_law_rows : DefD := ⟨("_law_rows", none), "_law_rows", "_law_rows", defArgs sLawRows, defBody sLawRows, defScope sLawRows, [], []⟩
def dd_d_law_all_rows : DefD := ⟨("_law_all_rows", none), "_law_all_rows", "_law_all_rows", defArgs sLawAllRows, defBody sLawAllRows, defScope sLawAllRows, [], []⟩
def dd_d_law_table : DefD := ⟨("_law_table", none), "_law_table", "_law_table", defArgs sLawTable, defBody sLawTable, defScope sLawTable, [], []⟩
def dd_d_law_size : DefD := ⟨("_law_size", none), "_law_size", "_law_size", defArgs sLawSize, defBody sLawSize, defScope sLawSize, [], []⟩
def dd_d_law_ordered : DefD := ⟨("_law_ordered", none), "_law_ordered", "_law_ordered", defArgs sLawOrdered, defBody sLawOrdered, defScope sLawOrdered, [], []⟩
def dd_d_law_kind : DefD := ⟨("_law_kind", none), "_law_kind", "_law_kind", defArgs sLawKind, defBody sLawKind, defScope sLawKind, [], []⟩
def dd_d_law_says : DefD := ⟨("_law_says", none), "_law_says", "_law_says", defArgs sLawSays, defBody sLawSays, defScope sLawSays, [], []⟩
def dd_d_law_term : DefD := ⟨("_law_term", none), "_law_term", "_law_term", defArgs sLawTerm, defBody sLawTerm, defScope sLawTerm, [], []⟩
def dd_d_law_hidden : DefD := ⟨("_law_hidden", none), "_law_hidden", "_law_hidden", defArgs sLawHidden, defBody sLawHidden, defScope sLawHidden, [], []⟩
def dd_d_law_term_text : DefD := ⟨("_law_term_text", none), "_law_term_text", "_law_term_text", defArgs sLawTermText, defBody sLawTermText, defScope sLawTermText, [], []⟩
def dd_d_law_words_text : DefD := ⟨("_law_words_text", none), "_law_words_text", "_law_words_text", defArgs sLawWordsText, defBody sLawWordsText, defScope sLawWordsText, [], []⟩
def dd_d_law_lot_text : DefD := ⟨("_law_lot_text", none), "_law_lot_text", "_law_lot_text", defArgs sLawLotText, defBody sLawLotText, defScope sLawLotText, [], []⟩
def dd_d_law_rules : DefD := ⟨("_law_rules", none), "_law_rules", "_law_rules", defArgs sLawRules, defBody sLawRules, defScope sLawRules, [], []⟩
def dd_d_law_rules_text : DefD := ⟨("_law_rules_text", none), "_law_rules_text", "_law_rules_text", defArgs sLawRulesText, defBody sLawRulesText, defScope sLawRulesText, [], []⟩
def dd_w_init : DefD := ⟨("Words", some "__init__"), "__init__", "Words.__init__", defArgs sWordsInit, defBody sWordsInit, defScope sWordsInit, [], []⟩
def dd_w_many : DefD := ⟨("Words", some "many"), "many", "Words.many", defArgs sWordsMany, defBody sWordsMany, defScope sWordsMany, [], []⟩
def dd_w_eq : DefD := ⟨("Words", some "__eq__"), "__eq__", "Words.__eq__", defArgs sWordsEq, defBody sWordsEq, defScope sWordsEq, [], []⟩
def dd_b_put : DefD := ⟨("Book", some "put"), "put", "Book.put", defArgs sBookPut, defBody sBookPut, defScope sBookPut, [], []⟩
def dd_b_has : DefD := ⟨("Book", some "has"), "has", "Book.has", defArgs sBookHas, defBody sBookHas, defScope sBookHas, [], []⟩
def dd_b_pairs : DefD := ⟨("Book", some "pairs"), "pairs", "Book.pairs", defArgs sBookPairs, defBody sBookPairs, defScope sBookPairs, [], []⟩
def dd_b_terms : DefD := ⟨("Book", some "terms"), "terms", "Book.terms", defArgs sBookTerms, defBody sBookTerms, defScope sBookTerms, [], []⟩
def dd_b_len : DefD := ⟨("Book", some "__len__"), "__len__", "Book.__len__", defArgs sBookLen, defBody sBookLen, defScope sBookLen, [], []⟩
def dd_l_init : DefD := ⟨("Lot", some "__init__"), "__init__", "Lot.__init__", defArgs sLotInit, defBody sLotInit, defScope sLotInit, [], []⟩
def dd_l_eq : DefD := ⟨("Lot", some "__eq__"), "__eq__", "Lot.__eq__", defArgs sLotEq, defBody sLotEq, defScope sLotEq, [], []⟩
def dd_r_init : DefD := ⟨("Rules", some "__init__"), "__init__", "Rules.__init__", defArgs sRulesInit, defBody sRulesInit, defScope sRulesInit, [], []⟩
def dd_r_eq : DefD := ⟨("Rules", some "__eq__"), "__eq__", "Rules.__eq__", defArgs sRulesEq, defBody sRulesEq, defScope sRulesEq, [], []⟩
def dd_b_init : DefD := ⟨("Book", some "__init__"), "__init__", "Book.__init__", C8.fnArgs sBookInit, C8.fnBody sBookInit, C8.fnScope sBookInit, [.adr t0At], []⟩
def dd_b_get : DefD := ⟨("Book", some "get"), "get", "Book.get", C8.fnArgs sBookGet, C8.fnBody sBookGet, C8.fnScope sBookGet, [.non], []⟩
def dd_law : DefD := ⟨("law", none), "law", "law", defArgs sLaw, defBody sLaw, defScope sLaw, [], []⟩
def fn0 : List DefD := [dd_d_is_int, dd_d_is_between, dd_d_is_name, dd_d_need_words, dd_d_shape_of, dd_d_size, dd_d_order, dd_d_flat, dd_d_ascending, dd_d_is_answer, dd_d_need_lot, dd_d_is_rule, dd_d_told_words, dd_d_told_term, dd_d_told_answer, dd_d_told_wants, dd_d_lot_text, dd_d_rules_text, dd_d_number_in, dd_d_name_ahead, dd_d_term_ahead, dd_d_whole_ahead, dd_d_term_in, dd_d_wants_in, dd_d_words_of, dd_d_words_by, dd_d_head_of, dd_d_answer_by, dd_d_rule_by, dd_d_need_text, dd_d_read_lot, dd_d_read_rules, dd_d_law_pen, dd_d_law_draw, dd_d_law_pick, dd_d_law_mixed, dd_d_law_places, dd_d_law_rows, dd_d_law_all_rows, dd_d_law_table]
def fn1 : List DefD := [dd_d_law_size, dd_d_law_ordered, dd_d_law_kind, dd_d_law_says, dd_d_law_term, dd_d_law_hidden, dd_d_law_term_text, dd_d_law_words_text, dd_d_law_lot_text, dd_d_law_rules, dd_d_law_rules_text, dd_w_init, dd_w_many, dd_w_eq, dd_b_put, dd_b_has, dd_b_pairs, dd_b_terms, dd_b_len, dd_l_init, dd_l_eq, dd_r_init, dd_r_eq, dd_b_init, dd_b_get, dd_law]
def fnA : List DefD := fn0 ++ (fn1)
def fa0 : List Fa := [.glo "is_int", .glo "is_between", .glo "is_name", .glo "need_words", .glo "shape_of", .glo "size", .glo "order", .glo "flat", .glo "ascending", .glo "is_answer", .glo "need_lot", .glo "is_rule", .glo "told_words", .glo "told_term", .glo "told_answer", .glo "told_wants", .glo "lot_text", .glo "rules_text", .glo "number_in", .glo "name_ahead", .glo "term_ahead", .glo "whole_ahead", .glo "term_in", .glo "wants_in", .glo "words_of", .glo "words_by", .glo "head_of", .glo "answer_by", .glo "rule_by", .glo "need_text", .glo "read_lot", .glo "read_rules", .glo "_law_pen", .glo "_law_draw", .glo "_law_pick", .glo "_law_mixed", .glo "_law_places", .glo "_law_rows", .glo "_law_all_rows", .glo "_law_table"]
def fa1 : List Fa := [.glo "_law_size", .glo "_law_ordered", .glo "_law_kind", .glo "_law_says", .glo "_law_term", .glo "_law_hidden", .glo "_law_term_text", .glo "_law_words_text", .glo "_law_lot_text", .glo "_law_rules", .glo "_law_rules_text", .glo "law", .glo "Words", .glo "Book", .glo "Lot", .glo "Rules", .glo "BadLot", .glo "BadRule", .glo "ANSWERS", .free "sum", .free "len", .free "all", .free "max", .free "min", .free "sorted", .free "tuple", .free "list", .free "dict", .free "set", .free "str", .free "int", .free "bool", .free "abs", .free "repr", .free "isinstance", .free "enumerate", .free "range", .free "super", .str "LETTERS" "abcdefghijklmnopqrstuvwxyz", .int "MOST_LETTERS" 8]
def fa2 : List Fa := [.int "MOST_FIGURES_checks" (10 ^ 30), .int "MOST_WORDS" 6, .int "MOST_PLACES" 3, .int "MOST_SYMBOLS" 200, .int "MOST_DEEP" 60, .int "MOST_TERMS" 2000, .int "PAIR" 2, .int "MOST_RULES" 40, .int "MOST_TRAITS" 12, .int "PARTS" 3, .str "HOLE" "_", .str "NOTHING" "-", .str "FIGURES" "0123456789", .int "MOST_FIGURES_reader" 30, .int "MOST_READ" 121, .cls "Words", .cls "Book", .cls "Lot", .cls "Rules", .noat "Words" "names", .noat "Words" "numbers", .noat "Book" "rows", .noat "Lot" "words", .noat "Lot" "terms", .noat "Lot" "rows", .noat "Lot" "book", .noat "Rules" "words", .noat "Rules" "rows", .noat "Rules" "traits", .meth "Words" "__init__", .meth "Words" "many", .meth "Words" "__eq__", .meth "Book" "put", .meth "Book" "has", .meth "Book" "pairs", .meth "Book" "terms", .meth "Book" "__len__", .meth "Lot" "__init__", .meth "Lot" "__eq__", .meth "Rules" "__init__"]
def fa3 : List Fa := [.meth "Rules" "__eq__", .meth "Book" "__init__", .meth "Book" "get", .exm "BadLot" "BadLot" true, .exm "BadRule" "BadLot" false, .exm "BadRule" "BadRule" true]
def faA : List Fa := fa0 ++ (fa1 ++ (fa2 ++ (fa3)))
def tsA : List Tab := [(fun K => ga K "ANSWERS", ["yes", "no"])]
def tfA : List Defn := [("law", none)]
def t0B (K : Frag) : Bool := match K.lookup (t0At K) with
  | some ⟨.type c, _, .seq its _, _⟩ => decide (c = "tuple") && its.toList.isEmpty
  | _ => false
theorem t0B_ok {K : Frag} (h : t0B K = true) (H : Hp) : SqT K H (t0At K) [] := by
  unfold t0B at h
  cases q : K.lookup (t0At K) with
  | none => rw [q] at h; cases h
  | some o =>
    obtain ⟨oc, od, dt, osl⟩ := o
    rw [q] at h
    cases oc with
    | type c =>
      cases dt with
      | seq its n =>
        obtain ⟨h1, h2⟩ := ba (show (decide (c = "tuple") && its.toList.isEmpty) = true from h)
        have e : its.toList = [] := List.isEmpty_iff.mp h2
        have ez : its.size = 0 := by
          rw [← Array.length_toList, e]; rfl
        exact .inr ⟨_, its, n, q, congrArg Value.type (of_decide_eq_true h1), rfl, by rw [ez]; exact Nat.zero_le _, by rw [e]; exact .nil⟩
      | _ => cases h
    | _ => cases dt <;> cases h
def kitB2 (K : Frag) (x y : Str) : Bool := decide (PySem.W.kitOne K (.ref (ga K x)) (.ref (ga K y)) = some false)
def kitB1 (K : Frag) (t : String) (y : Str) : Bool := decide (PySem.W.kitOne K (.type t) (.ref (ga K y)) = some false)
def xfB2 (K : Frag) (x : Str) : Bool := xfB K (ga K x) && eqO (PySem.W.findIn K (.ref (ga K x)) "at") (some none)
def exA (K : Frag) : Bool := ([t0B K, insB K (ga K "Words"), insB K (ga K "Book"), insB K (ga K "Lot"), insB K (ga K "Rules"), mkB K (ga K "Words"), mkB K (ga K "Book"), mkB K (ga K "Lot"), mkB K (ga K "Rules"), neB K (ga K "Lot"), neB K (ga K "Rules"),
  xfB2 K "BadLot", xfB2 K "BadRule", exiB theP.main.file K "BadLot" "BadLot.__init__", exiB theP.main.file K "BadRule" "BadRule.__init__", kitB1 K "NoneType" "Lot", kitB1 K "int" "Lot", kitB1 K "str" "Lot", kitB2 K "Rules" "Lot", kitB1 K "NoneType" "Rules", kitB1 K "int" "Rules", kitB1 K "str" "Rules", kitB2 K "Lot" "Rules",
  eqO (PySem.W.nsIn K (ga K "ANSWERS") "yes") (some (some (.bool true))), eqO (PySem.W.nsIn K (ga K "ANSWERS") "no") (some (some (.bool false)))] : List Bool).all id
abbrev sBadRuleInit : Stmt := mth 5 0
abbrev sBadLotInit : Stmt := mth 6 0
def zsA : List (Str × FnZ) := [("BadLot", valZ "BadLot.__init__" sBadLotInit), ("BadRule", valZ "BadRule.__init__" sBadRuleInit)]
theorem all_at {l : List Bool} (h : l.all id = true) (i : Nat) {b : Bool} (hb : l[i]? = some b) : b = true := List.all_eq_true.mp h b (List.mem_of_getElem? hb)
section
variable {P : Program} {w : World} {K : Frag} {h : Heap} {mg : Str → Option Value} {base : Heap}
theorem gi_of (X : K.In h) (G : h.Ns mainGlobals mg) {x : Str} {i : Int} (c : (Fa.int x i).ok K = true) : Gc mg x (.int i) := by
  obtain ⟨t, e⟩ := int_ok X G c
  exact ⟨_, e, t, rfl⟩
theorem gs_of (X : K.In h) (G : h.Ns mainGlobals mg) {x z : Str} (c : (Fa.str x z).ok K = true) : Gc mg x (.str z) := by
  obtain ⟨t, e⟩ := str_ok X G c
  exact ⟨_, e, t, rfl⟩
theorem wr_of (X : K.In h) (G : h.Ns mainGlobals mg) (c : SaysX faA fnA tsA tfA exA w h K) : Wr w K mg (ga K "Words") (ga K "Book") (ga K "Lot") (ga K "Rules") (t0At K) := by
  have d := c.t.d
  have ex := c.more
  have f : ∀ (i : Nat) {f : Fa}, faA[i]? = some f → f.ok K = true := fun i f h => d.fact i h
  have e : ∀ (i : Nat) {b : Bool}, _ → b = true := fun i b hb => all_at ex i hb
  exact {
    B := ⟨free_ok X G (f 59 rfl), free_ok X G (f 60 rfl), free_ok X G (f 61 rfl), free_ok X G (f 62 rfl), free_ok X G (f 63 rfl), free_ok X G (f 64 rfl), free_ok X G (f 65 rfl), free_ok X G (f 66 rfl), free_ok X G (f 67 rfl), free_ok X G (f 68 rfl), free_ok X G (f 69 rfl), free_ok X G (f 70 rfl), free_ok X G (f 71 rfl), free_ok X G (f 72 rfl), free_ok X G (f 73 rfl), free_ok X G (f 74 rfl), free_ok X G (f 75 rfl), free_ok X G (f 76 rfl)⟩
    G := ⟨gs_of X G (f 78 rfl), gi_of X G (f 79 rfl), gi_of X G (f 80 rfl), gi_of X G (f 81 rfl), gi_of X G (f 82 rfl), gi_of X G (f 83 rfl), gi_of X G (f 84 rfl), gi_of X G (f 85 rfl), gi_of X G (f 86 rfl), gi_of X G (f 87 rfl), gi_of X G (f 88 rfl), gi_of X G (f 89 rfl), gs_of X G (f 90 rfl), gs_of X G (f 91 rfl), gs_of X G (f 92 rfl), gi_of X G (f 93 rfl), gi_of X G (f 94 rfl)⟩
    An := by
      obtain ⟨es, n, kd⟩ := c.t.tab 0 (t := (fun K => ga K "ANSWERS", ["yes", "no"])) rfl
      exact ⟨_, es, n, glo_ok X G (f 58 rfl), kd, eqO_ok (e 23 rfl), eqO_ok (e 24 rfl)⟩
    Tw := ⟨insB_ok (cls_ok (f 95 rfl)) (e 1 rfl), fun x hx => by
      simp only [List.mem_cons, List.not_mem_nil, or_false] at hx
      rcases hx with rfl | rfl
      · exact noat_ok (f 99 rfl)
      · exact noat_ok (f 100 rfl), glo_ok X G (f 52 rfl)⟩
    Tb := ⟨insB_ok (cls_ok (f 96 rfl)) (e 2 rfl), fun x hx => by
      simp only [List.mem_cons, List.not_mem_nil, or_false] at hx
      subst hx
      exact noat_ok (f 101 rfl), glo_ok X G (f 53 rfl)⟩
    Tl := ⟨insB_ok (cls_ok (f 97 rfl)) (e 3 rfl), fun x hx => by
      simp only [List.mem_cons, List.not_mem_nil, or_false] at hx
      rcases hx with rfl | rfl | rfl | rfl
      · exact noat_ok (f 102 rfl)
      · exact noat_ok (f 103 rfl)
      · exact noat_ok (f 104 rfl)
      · exact noat_ok (f 105 rfl), glo_ok X G (f 54 rfl)⟩
    Tr := ⟨insB_ok (cls_ok (f 98 rfl)) (e 4 rfl), fun x hx => by
      simp only [List.mem_cons, List.not_mem_nil, or_false] at hx
      rcases hx with rfl | rfl | rfl
      · exact noat_ok (f 106 rfl)
      · exact noat_ok (f 107 rfl)
      · exact noat_ok (f 108 rfl), glo_ok X G (f 55 rfl)⟩
    Mw := mkB_ok (e 5 rfl)
    Mb := mkB_ok (e 6 rfl)
    Ml := mkB_ok (e 7 rfl)
    Mr := mkB_ok (e 8 rfl)
    ht0 := t0B_ok (e 0 rfl)
    d_is_int := dfn_of (d.def_ 0 (d := dd_d_is_int) rfl) (glo_ok X G (f 0 rfl)) fun _ _ _ _ _ _ us hl => match us, hl with | [_], _ => rfl
    d_is_between := dfn_of (d.def_ 1 (d := dd_d_is_between) rfl) (glo_ok X G (f 1 rfl)) fun _ _ _ _ _ _ us hl => match us, hl with | [_, _, _], _ => rfl
    d_is_name := dfn_of (d.def_ 2 (d := dd_d_is_name) rfl) (glo_ok X G (f 2 rfl)) fun _ _ _ _ _ _ us hl => match us, hl with | [_], _ => rfl
    d_need_words := dfn_of (d.def_ 3 (d := dd_d_need_words) rfl) (glo_ok X G (f 3 rfl)) fun _ _ _ _ _ _ us hl => match us, hl with | [_], _ => rfl
    d_shape_of := dfn_of (d.def_ 4 (d := dd_d_shape_of) rfl) (glo_ok X G (f 4 rfl)) fun _ _ _ _ _ _ us hl => match us, hl with | [_, _, _], _ => rfl
    d_size := dfn_of (d.def_ 5 (d := dd_d_size) rfl) (glo_ok X G (f 5 rfl)) fun _ _ _ _ _ _ us hl => match us, hl with | [_], _ => rfl
    d_order := dfn_of (d.def_ 6 (d := dd_d_order) rfl) (glo_ok X G (f 6 rfl)) fun _ _ _ _ _ _ us hl => match us, hl with | [_], _ => rfl
    d_flat := dfn_of (d.def_ 7 (d := dd_d_flat) rfl) (glo_ok X G (f 7 rfl)) fun _ _ _ _ _ _ us hl => match us, hl with | [_], _ => rfl
    d_ascending := dfn_of (d.def_ 8 (d := dd_d_ascending) rfl) (glo_ok X G (f 8 rfl)) fun _ _ _ _ _ _ us hl => match us, hl with | [_], _ => rfl
    d_is_answer := dfn_of (d.def_ 9 (d := dd_d_is_answer) rfl) (glo_ok X G (f 9 rfl)) fun _ _ _ _ _ _ us hl => match us, hl with | [_, _], _ => rfl
    d_need_lot := dfn_of (d.def_ 10 (d := dd_d_need_lot) rfl) (glo_ok X G (f 10 rfl)) fun _ _ _ _ _ _ us hl => match us, hl with | [_], _ => rfl
    d_is_rule := dfn_of (d.def_ 11 (d := dd_d_is_rule) rfl) (glo_ok X G (f 11 rfl)) fun _ _ _ _ _ _ us hl => match us, hl with | [_, _], _ => rfl
    d_told_words := dfn_of (d.def_ 12 (d := dd_d_told_words) rfl) (glo_ok X G (f 12 rfl)) fun _ _ _ _ _ _ us hl => match us, hl with | [_], _ => rfl
    d_told_term := dfn_of (d.def_ 13 (d := dd_d_told_term) rfl) (glo_ok X G (f 13 rfl)) fun _ _ _ _ _ _ us hl => match us, hl with | [_], _ => rfl
    d_told_answer := dfn_of (d.def_ 14 (d := dd_d_told_answer) rfl) (glo_ok X G (f 14 rfl)) fun _ _ _ _ _ _ us hl => match us, hl with | [_, _], _ => rfl
    d_told_wants := dfn_of (d.def_ 15 (d := dd_d_told_wants) rfl) (glo_ok X G (f 15 rfl)) fun _ _ _ _ _ _ us hl => match us, hl with | [_], _ => rfl
    d_lot_text := dfn_of (d.def_ 16 (d := dd_d_lot_text) rfl) (glo_ok X G (f 16 rfl)) fun _ _ _ _ _ _ us hl => match us, hl with | [_], _ => rfl
    d_rules_text := dfn_of (d.def_ 17 (d := dd_d_rules_text) rfl) (glo_ok X G (f 17 rfl)) fun _ _ _ _ _ _ us hl => match us, hl with | [_], _ => rfl
    d_number_in := dfn_of (d.def_ 18 (d := dd_d_number_in) rfl) (glo_ok X G (f 18 rfl)) fun _ _ _ _ _ _ us hl => match us, hl with | [_], _ => rfl
    d_name_ahead := dfn_of (d.def_ 19 (d := dd_d_name_ahead) rfl) (glo_ok X G (f 19 rfl)) fun _ _ _ _ _ _ us hl => match us, hl with | [_, _], _ => rfl
    d_term_ahead := dfn_of (d.def_ 20 (d := dd_d_term_ahead) rfl) (glo_ok X G (f 20 rfl)) fun _ _ _ _ _ _ us hl => match us, hl with | [_, _, _, _], _ => rfl
    d_whole_ahead := dfn_of (d.def_ 21 (d := dd_d_whole_ahead) rfl) (glo_ok X G (f 21 rfl)) fun _ _ _ _ _ _ us hl => match us, hl with | [_, _], _ => rfl
    d_term_in := dfn_of (d.def_ 22 (d := dd_d_term_in) rfl) (glo_ok X G (f 22 rfl)) fun _ _ _ _ _ _ us hl => match us, hl with | [_, _], _ => rfl
    d_wants_in := dfn_of (d.def_ 23 (d := dd_d_wants_in) rfl) (glo_ok X G (f 23 rfl)) fun _ _ _ _ _ _ us hl => match us, hl with | [_], _ => rfl
    d_words_of := dfn_of (d.def_ 24 (d := dd_d_words_of) rfl) (glo_ok X G (f 24 rfl)) fun _ _ _ _ _ _ us hl => match us, hl with | [_], _ => rfl
    d_words_by := dfn_of (d.def_ 25 (d := dd_d_words_by) rfl) (glo_ok X G (f 25 rfl)) fun _ _ _ _ _ _ us hl => match us, hl with | [_, _, _], _ => rfl
    d_head_of := dfn_of (d.def_ 26 (d := dd_d_head_of) rfl) (glo_ok X G (f 26 rfl)) fun _ _ _ _ _ _ us hl => match us, hl with | [_, _], _ => rfl
    d_answer_by := dfn_of (d.def_ 27 (d := dd_d_answer_by) rfl) (glo_ok X G (f 27 rfl)) fun _ _ _ _ _ _ us hl => match us, hl with | [_, _, _, _], _ => rfl
    d_rule_by := dfn_of (d.def_ 28 (d := dd_d_rule_by) rfl) (glo_ok X G (f 28 rfl)) fun _ _ _ _ _ _ us hl => match us, hl with | [_, _, _], _ => rfl
    d_need_text := dfn_of (d.def_ 29 (d := dd_d_need_text) rfl) (glo_ok X G (f 29 rfl)) fun _ _ _ _ _ _ us hl => match us, hl with | [_], _ => rfl
    d_read_lot := dfn_of (d.def_ 30 (d := dd_d_read_lot) rfl) (glo_ok X G (f 30 rfl)) fun _ _ _ _ _ _ us hl => match us, hl with | [_], _ => rfl
    d_read_rules := dfn_of (d.def_ 31 (d := dd_d_read_rules) rfl) (glo_ok X G (f 31 rfl)) fun _ _ _ _ _ _ us hl => match us, hl with | [_], _ => rfl
    d_law_pen := dfn_of (d.def_ 32 (d := dd_d_law_pen) rfl) (glo_ok X G (f 32 rfl)) fun _ _ _ _ _ _ us hl => match us, hl with | [_], _ => rfl
    d_law_draw := dfn_of (d.def_ 33 (d := dd_d_law_draw) rfl) (glo_ok X G (f 33 rfl)) fun _ _ _ _ _ _ us hl => match us, hl with | [_, _], _ => rfl
    d_law_pick := dfn_of (d.def_ 34 (d := dd_d_law_pick) rfl) (glo_ok X G (f 34 rfl)) fun _ _ _ _ _ _ us hl => match us, hl with | [_, _], _ => rfl
    d_law_mixed := dfn_of (d.def_ 35 (d := dd_d_law_mixed) rfl) (glo_ok X G (f 35 rfl)) fun _ _ _ _ _ _ us hl => match us, hl with | [_, _], _ => rfl
    d_law_places := dfn_of (d.def_ 36 (d := dd_d_law_places) rfl) (glo_ok X G (f 36 rfl)) fun _ _ _ _ _ _ us hl => match us, hl with | [_], _ => rfl
    d_law_rows := dfn_of (d.def_ 37 (d := dd_d_law_rows) rfl) (glo_ok X G (f 37 rfl)) fun _ _ _ _ _ _ us hl => match us, hl with | [_, _], _ => rfl
    d_law_all_rows := dfn_of (d.def_ 38 (d := dd_d_law_all_rows) rfl) (glo_ok X G (f 38 rfl)) fun _ _ _ _ _ _ us hl => match us, hl with | [_, _], _ => rfl
    d_law_table := dfn_of (d.def_ 39 (d := dd_d_law_table) rfl) (glo_ok X G (f 39 rfl)) fun _ _ _ _ _ _ us hl => match us, hl with | [_, _, _], _ => rfl
    d_law_size := dfn_of (d.def_ 40 (d := dd_d_law_size) rfl) (glo_ok X G (f 40 rfl)) fun _ _ _ _ _ _ us hl => match us, hl with | [_], _ => rfl
    d_law_ordered := dfn_of (d.def_ 41 (d := dd_d_law_ordered) rfl) (glo_ok X G (f 41 rfl)) fun _ _ _ _ _ _ us hl => match us, hl with | [_], _ => rfl
    d_law_kind := dfn_of (d.def_ 42 (d := dd_d_law_kind) rfl) (glo_ok X G (f 42 rfl)) fun _ _ _ _ _ _ us hl => match us, hl with | [_, _], _ => rfl
    d_law_says := dfn_of (d.def_ 43 (d := dd_d_law_says) rfl) (glo_ok X G (f 43 rfl)) fun _ _ _ _ _ _ us hl => match us, hl with | [_, _], _ => rfl
    d_law_term := dfn_of (d.def_ 44 (d := dd_d_law_term) rfl) (glo_ok X G (f 44 rfl)) fun _ _ _ _ _ _ us hl => match us, hl with | [_, _, _], _ => rfl
    d_law_hidden := dfn_of (d.def_ 45 (d := dd_d_law_hidden) rfl) (glo_ok X G (f 45 rfl)) fun _ _ _ _ _ _ us hl => match us, hl with | [_, _, _], _ => rfl
    d_law_term_text := dfn_of (d.def_ 46 (d := dd_d_law_term_text) rfl) (glo_ok X G (f 46 rfl)) fun _ _ _ _ _ _ us hl => match us, hl with | [_], _ => rfl
    d_law_words_text := dfn_of (d.def_ 47 (d := dd_d_law_words_text) rfl) (glo_ok X G (f 47 rfl)) fun _ _ _ _ _ _ us hl => match us, hl with | [_], _ => rfl
    d_law_lot_text := dfn_of (d.def_ 48 (d := dd_d_law_lot_text) rfl) (glo_ok X G (f 48 rfl)) fun _ _ _ _ _ _ us hl => match us, hl with | [_, _], _ => rfl
    d_law_rules := dfn_of (d.def_ 49 (d := dd_d_law_rules) rfl) (glo_ok X G (f 49 rfl)) fun _ _ _ _ _ _ us hl => match us, hl with | [_, _], _ => rfl
    d_law_rules_text := dfn_of (d.def_ 50 (d := dd_d_law_rules_text) rfl) (glo_ok X G (f 50 rfl)) fun _ _ _ _ _ _ us hl => match us, hl with | [_, _], _ => rfl
    w_init := mth_of (d.def_ 51 (d := dd_w_init) rfl) (cls_ok (f 95 rfl)) (meth_ok (f 109 rfl)) fun _ _ _ _ _ _ us hl => match us, hl with | [_, _], _ => rfl
    w_many := mth_of (d.def_ 52 (d := dd_w_many) rfl) (cls_ok (f 95 rfl)) (meth_ok (f 110 rfl)) fun _ _ _ _ _ _ us hl => match us, hl with | [_, _], _ => rfl
    w_eq := mth_of (d.def_ 53 (d := dd_w_eq) rfl) (cls_ok (f 95 rfl)) (meth_ok (f 111 rfl)) fun _ _ _ _ _ _ us hl => match us, hl with | [_, _], _ => rfl
    b_put := mth_of (d.def_ 54 (d := dd_b_put) rfl) (cls_ok (f 96 rfl)) (meth_ok (f 112 rfl)) fun _ _ _ _ _ _ us hl => match us, hl with | [_, _, _], _ => rfl
    b_has := mth_of (d.def_ 55 (d := dd_b_has) rfl) (cls_ok (f 96 rfl)) (meth_ok (f 113 rfl)) fun _ _ _ _ _ _ us hl => match us, hl with | [_, _], _ => rfl
    b_pairs := mth_of (d.def_ 56 (d := dd_b_pairs) rfl) (cls_ok (f 96 rfl)) (meth_ok (f 114 rfl)) fun _ _ _ _ _ _ us hl => match us, hl with | [_], _ => rfl
    b_terms := mth_of (d.def_ 57 (d := dd_b_terms) rfl) (cls_ok (f 96 rfl)) (meth_ok (f 115 rfl)) fun _ _ _ _ _ _ us hl => match us, hl with | [_], _ => rfl
    b_len := mth_of (d.def_ 58 (d := dd_b_len) rfl) (cls_ok (f 96 rfl)) (meth_ok (f 116 rfl)) fun _ _ _ _ _ _ us hl => match us, hl with | [_], _ => rfl
    l_init := mth_of (d.def_ 59 (d := dd_l_init) rfl) (cls_ok (f 97 rfl)) (meth_ok (f 117 rfl)) fun _ _ _ _ _ _ us hl => match us, hl with | [_, _, _], _ => rfl
    l_eq := mth_of (d.def_ 60 (d := dd_l_eq) rfl) (cls_ok (f 97 rfl)) (meth_ok (f 118 rfl)) fun _ _ _ _ _ _ us hl => match us, hl with | [_, _], _ => rfl
    r_init := mth_of (d.def_ 61 (d := dd_r_init) rfl) (cls_ok (f 98 rfl)) (meth_ok (f 119 rfl)) fun _ _ _ _ _ _ us hl => match us, hl with | [_, _, _], _ => rfl
    r_eq := mth_of (d.def_ 62 (d := dd_r_eq) rfl) (cls_ok (f 98 rfl)) (meth_ok (f 120 rfl)) fun _ _ _ _ _ _ us hl => match us, hl with | [_, _], _ => rfl
    b_init := mthD_of (d.def_ 63 (d := dd_b_init) rfl) (cls_ok (f 96 rfl)) (meth_ok (f 121 rfl)) (fun _ _ _ _ _ _ _ us its hl h1 => match us, its, hl, h1 with | [_, _], [_], _, _ => ⟨_, rfl, rfl⟩) (fun _ _ _ _ _ _ _ us its hl h1 => match us, its, hl, h1 with | [_], [_], _, _ => ⟨_, rfl, rfl⟩) (by decide)
    b_get := mthD_of (d.def_ 64 (d := dd_b_get) rfl) (cls_ok (f 96 rfl)) (meth_ok (f 122 rfl)) (fun _ _ _ _ _ _ _ us its hl h1 => match us, its, hl, h1 with | [_, _, _], [_], _, _ => ⟨_, rfl, rfl⟩) (fun _ _ _ _ _ _ _ us its hl h1 => match us, its, hl, h1 with | [_, _], [_], _, _ => ⟨_, rfl, rfl⟩) (by decide)
  }
end
end Q
set_option maxHeartbeats 8000000
/-! F53: the law's promise from what the head tells. -/
namespace Q
open PySem PySem.Spec PyProof.Rows L2 NdefX LamX He
section
variable {w : World} {K : Frag} {h : Heap} {mg : Str → Option Value} {base : Heap}
theorem exX_lot (X : K.In h) (G : h.Ns mainGlobals mg) (c : SaysX faA fnA tsA tfA exA w h K) (z : (zsN zsA).map (fnZ K) = zsV zsA) : OwnX theP w K mg base (ga K "BadLot") "BadLot" := by
  have d := c.t.d
  have ex := c.more
  obtain ⟨fd, T⟩ := exiB_ok (P := theP) (K := K) (x := "BadLot") (qual := "BadLot.__init__") (st := sBadLotInit) (List.cons.inj z).1 (all_at ex 13 rfl)
  have hx := all_at ex 11 (b := xfB2 K "BadLot") rfl
  refine ⟨T.oex, glo_ok X G (d.fact 56 (f := .glo "BadLot") rfl), ma K (ga K "BadLot") "__init__", fd, T.iC, T.tI, ?_, ?_⟩
  · exact ok_exI (p10 := ⟨0, 0, 0, 0⟩) T (eqO_ok (ba hx).2) rfl (nscope_by (by decide +kernel)) ⟨_, rfl, rfl⟩ (by decide +kernel) (free_ok X G (d.fact 77 (f := .free "super") rfl)) (by decide +kernel) (by decide) (by decide) fun L cda cc => ⟨_, rfl⟩
  · obtain ⟨oc, od, doc, pm, cda, cc, vs, file, tf, ccl, cdd, ccs, ct, osl, cl, cld, csl, rfl, _⟩ := T.fn
    exact .all fun us hl => match us, hl with | [_, _], _ => rfl
theorem exX_rule (X : K.In h) (G : h.Ns mainGlobals mg) (c : SaysX faA fnA tsA tfA exA w h K) (z : (zsN zsA).map (fnZ K) = zsV zsA) : OwnX theP w K mg base (ga K "BadRule") "BadRule" := by
  have d := c.t.d
  have ex := c.more
  obtain ⟨fd, T⟩ := exiB_ok (P := theP) (K := K) (x := "BadRule") (qual := "BadRule.__init__") (st := sBadRuleInit) (List.cons.inj (List.cons.inj z).2).1 (all_at ex 14 rfl)
  have hx := all_at ex 12 (b := xfB2 K "BadRule") rfl
  refine ⟨T.oex, glo_ok X G (d.fact 57 (f := .glo "BadRule") rfl), ma K (ga K "BadRule") "__init__", fd, T.iC, T.tI, ?_, ?_⟩
  · exact ok_exI (p10 := ⟨0, 0, 0, 0⟩) T (eqO_ok (ba hx).2) rfl (nscope_by (by decide +kernel)) ⟨_, rfl, rfl⟩ (by decide +kernel) (free_ok X G (d.fact 77 (f := .free "super") rfl)) (by decide +kernel) (by decide) (by decide) fun L cda cc => ⟨_, rfl⟩
  · obtain ⟨oc, od, doc, pm, cda, cc, vs, file, tf, ccl, cdd, ccs, ct, osl, cl, cld, csl, rfl, _⟩ := T.fn
    exact .all fun us hl => match us, hl with | [_, _], _ => rfl
theorem lawX_of (X : K.In h) (c : SaysX faA fnA tsA tfA exA w h K) : LawX K (ga K "Lot") (ga K "Rules") (ga K "BadLot") (ga K "BadRule") := by
  have d := c.t.d
  have ex := c.more
  exact {
    exLL := exm_ok (d.fact 123 (f := .exm "BadLot" "BadLot" true) rfl)
    exRL := exm_ok (d.fact 124 (f := .exm "BadRule" "BadLot" false) rfl)
    exRR := exm_ok (d.fact 125 (f := .exm "BadRule" "BadRule" true) rfl)
    nL := of_decide_eq_true (all_at ex 15 (b := kitB1 K "NoneType" "Lot") rfl)
    iL := of_decide_eq_true (all_at ex 16 (b := kitB1 K "int" "Lot") rfl)
    sL := of_decide_eq_true (all_at ex 17 (b := kitB1 K "str" "Lot") rfl)
    oL := of_decide_eq_true (all_at ex 18 (b := kitB2 K "Rules" "Lot") rfl)
    nR := of_decide_eq_true (all_at ex 19 (b := kitB1 K "NoneType" "Rules") rfl)
    iR := of_decide_eq_true (all_at ex 20 (b := kitB1 K "int" "Rules") rfl)
    sR := of_decide_eq_true (all_at ex 21 (b := kitB1 K "str" "Rules") rfl)
    oR := of_decide_eq_true (all_at ex 22 (b := kitB2 K "Lot" "Rules") rfl) }
theorem law_at {fa : Addr} (X : K.In h) (G : h.Ns mainGlobals mg) (hfa : mg ("law" : Str) = some (.ref fa)) (c : SaysX faA fnA tsA tfA exA w h K) (z : (zsN zsA).map (fnZ K) = zsV zsA) : LawAtG PySem.Challenge.rw_enoughasked_k79_pages_of_told_lots_and_r w K CX0 131 63 "script" mg fa h := by
  have d := c.t.d
  have ex := c.more
  obtain ⟨fd, F⟩ := d.def_ 65 (d := dd_law) rfl
  have b : ∀ (s : Shared) (us : List Value), us.length = (["script"] : List Str).length → BindsTo s fd ⟨us, []⟩ ((["script"] : List Str).zip us) := fun s us hl => FunD.bindsA (ps := ["script"]) F (fun _ _ _ _ _ _ us hl => match us, hl with | [_], _ => rfl) s us hl
  obtain ⟨oc, od, dV, kV, doc, pm, an, cdv, ct, osl, rfl, lk, hcd, hD, hK⟩ := F.ex
  obtain ⟨cc, rfl⟩ := codeIn_ref hcd
  have ecc : codeOf K ("law", none) = cc := codeOf_eq lk rfl
  have e := hfa.symm.trans (glo_ok X G (d.fact 51 (f := .glo "law") rfl))
  cases e
  have mem : (("law", none) : Defn) ∈ tfA := List.mem_cons_self
  refine ⟨_, [cT K ("law", none)], spLaw K (cT K ("law", none)).2, fun p hp => ?_, fun p hp => ?_, fun p hp => ?_, fun s u => b s [u] rfl, fun H a ns _ _ hT hS => ⟨a, ns, rfl, hS, hT _ List.mem_cons_self, fun _ => rfl⟩, fun base KB GB hTB => ?_⟩
  · rw [List.mem_singleton.mp hp]; exact c.empty _ mem
  · rw [List.mem_singleton.mp hp]; exact c.out _ mem
  · rw [List.mem_singleton.mp hp]; exact PySem.W.codeHd_of_K X (c.hd _ mem)
  · have TB := hTB _ List.mem_cons_self
    have ec : (cT K ("law", none)).1 = cc := ecc
    rw [ec] at TB
    have xl : XF K (ga K "BadLot") := by
      have hx := all_at ex 11 (b := xfB2 K "BadLot") rfl
      exact ⟨xfB_ok (ba hx).1, eqO_ok (ba hx).2⟩
    have xr : XF K (ga K "BadRule") := by
      have hx := all_at ex 12 (b := xfB2 K "BadRule") rfl
      exact ⟨xfB_ok (ba hx).1, eqO_ok (ba hx).2⟩
    exact ok_law (P := theP) (wr_of X G c).B (lawC_of (P := theP) (base := base) (wr_of X G c) (exX_lot X G c z) (exX_rule X G c z) (neB_ok (all_at ex 9 (b := neB K (ga K "Lot")) rfl)) (neB_ok (all_at ex 10 (b := neB K (ga K "Rules")) rfl)) xl xr) (lawX_of X c) TB lk hcd
end
end Q
set_option maxHeartbeats 0
/-! F54: the head's facts, by a short list of addresses; the run of the top. -/
namespace Q
section
open PySem PySem.Spec PyProof.Rows L2 NdefX LamX He
abbrev Look := Addr → Option Obj
def obsXN (as : Look → List Addr) (fa : List Fa) (fn : List DefD) (ts : List Tab) (tf : List Defn) (ex : Frag → Bool) (g : Addr → Option Obj) (K : Frag) : AlX := (obsT fa fn ts K, ex K && tabsB g tf K)
theorem saysXN_of {as : Look → List Addr} {fa : List Fa} {fn : List DefD} {ts : List Tab} {tf : List Defn} {ex : Frag → Bool} {w : World} {h : Heap} (e : obsXN as fa fn ts tf ex h.get? (frT h.get? (as h.get?)) = valX fn ts w) : SaysX fa fn ts tf ex w h (frT h.get? (as h.get?)) := by
  have e1 : obsT fa fn ts (frT h.get? (as h.get?)) = valT fn ts w := congrArg (fun z : AlX => z.1) e
  have e2 : (ex (frT h.get? (as h.get?)) && tabsB h.get? tf (frT h.get? (as h.get?))) = true := congrArg (fun z : AlX => z.2) e
  obtain ⟨h1, h2⟩ := ba e2
  have key : ∀ p ∈ tf, PySem.W.codeHdIn (frT h.get? (as h.get?)) (cT (frT h.get? (as h.get?)) p).1 (cT (frT h.get? (as h.get?)) p).2 = true ∧ ∃ o, h.get? (cT (frT h.get? (as h.get?)) p).2 = some o ∧ emptyTab o = true := fun p hp => by
    obtain ⟨h3, h4⟩ := ba (List.all_eq_true.mp h2 p hp)
    refine ⟨h3, ?_⟩
    cases q : h.get? (cT (frT h.get? (as h.get?)) p).2 with
    | none =>
      rw [q] at h4
      cases h4
    | some o =>
      rw [q] at h4
      exact ⟨o, rfl, h4⟩
  exact ⟨e1, h1, fun p hp => (key p hp).1, fun p hp => by
    obtain ⟨_, o, q, z⟩ := key p hp
    exact frT_none q z, fun p hp => by
    obtain ⟨_, o, q, z⟩ := key p hp
    rw [q, emptyTab_eq z]⟩
def obsN1 (as : Look → List Addr) (fa : List Fa) (fn : List DefD) (ts : List Tab) (tf : List Defn) (ex : Frag → Bool) (zs : List Str) (g : Addr → Option Obj) (K : Frag) : AlX × List FnZ := (obsXN as fa fn ts tf ex g K, zs.map (fnZ K))
def obsN (as : Look → List Addr) (fa : List Fa) (fn : List DefD) (ts : List Tab) (tf : List Defn) (ex : Frag → Bool) (zs : List Str) (g : Addr → Option Obj) : AlX × List FnZ := obsN1 as fa fn ts tf ex zs g (frT g (as g))
def hookN (as : Look → List Addr) (fa : List Fa) (fn : List DefD) (ts : List Tab) (tf : List Defn) (ex : Frag → Bool) (zs : List (Str × FnZ)) : PySem.W.Hook where
  α := AlX × List FnZ
  obs := fun s => obsN as fa fn ts tf ex (zsN zs) s.heap.get?
  val := fun w => (valX fn ts w, zsV zs)
  says := fun w h => ∃ K : Frag, K.In h ∧ SaysX fa fn ts tf ex w h K ∧ (zsN zs).map (fnZ K) = zsV zs
  of := fun w s e => ⟨frT s.heap.get? (as s.heap.get?), frT_in, saysXN_of (congrArg (fun z : AlX × List FnZ => z.1) e), congrArg (fun z : AlX × List FnZ => z.2) e⟩
  keeps := fun _ _ _ ⟨K, hK, c, z⟩ k => ⟨K, PySem.W.Frag.In.keeps hK k, ⟨c.t, c.more, c.hd, c.out, fun p hp => k _ _ (c.empty p hp)⟩, z⟩
theorem obsN_eq {as : Look → List Addr} {fa : List Fa} {fn : List DefD} {ts : List Tab} {tf : List Defn} {ex : Frag → Bool} {zs : List (Str × FnZ)} {g : Addr → Option Obj} {s : Shared} (h : ∀ a, g a = s.heap.get? a) : obsN as fa fn ts tf ex (zsN zs) g = (hookN as fa fn ts tf ex zs).obs s := by
  have e : g = s.heap.get? := funext h
  rw [e] <;> rfl
/-! the short list: what the names name, their codes, defaults, cells; the classes' names and methods -/
def refsN (o : Obj) : List Addr := match o.data with
  | .func fd => refV fd.code ++ refV fd.defaults ++ fd.closure.map (·.2)
  | .cls cd => [cd.ns]
  | .dict es _ => es.toList.flatMap fun e => refV e.val
  | .seq its _ => its.toList.flatMap refV
  | _ => []
def onN (g : Look) (as : List Addr) : List Addr := as.flatMap fun a => match g a with
  | some o => refsN o
  | none => []
def l4N (g : Look) (l1 l2 l3 l4 : List Addr) : List Addr := mainGlobals :: cStatics :: (l1 ++ (l2 ++ (l3 ++ (l4 ++ onN g l4))))
def l3N (g : Look) (l1 l2 l3 : List Addr) : List Addr := l4N g l1 l2 l3 (onN g l3)
def l2N (g : Look) (l1 l2 : List Addr) : List Addr := l3N g l1 l2 (onN g l2)
def l1N (g : Look) (l1 : List Addr) : List Addr := l2N g l1 (onN g l1)
def nsX1 : List Str := ["is_int", "is_between", "is_name", "need_words", "shape_of", "size", "order", "flat", "ascending", "is_answer", "need_lot", "is_rule", "told_words", "told_term", "told_answer", "told_wants", "lot_text", "rules_text", "number_in", "name_ahead", "term_ahead", "whole_ahead", "term_in", "wants_in", "words_of", "words_by", "head_of", "answer_by", "rule_by", "need_text"]
def nsX2 : List Str := ["read_lot", "read_rules", "_law_pen", "_law_draw", "_law_pick", "_law_mixed", "_law_places", "_law_rows", "_law_all_rows", "_law_table", "_law_size", "_law_ordered", "_law_kind", "_law_says", "_law_term", "_law_hidden", "_law_term_text", "_law_words_text", "_law_lot_text", "_law_rules", "_law_rules_text", "law", "Words", "Book", "Lot", "Rules", "BadLot", "BadRule", "ANSWERS", "AskError"]
def nsX : List Str := nsX1 ++ nsX2
def asN (g : Look) : List Addr := l1N g (nsX.map fun x => ga (frG g [mainGlobals]) x)
end
section
open PySem PySem.W PySem.Calls PyProof.Rows
abbrev theR : OpenRow := OpenLaw.row PySem.Challenge.rw_enoughasked_k79_pages_of_told_lots_and_r
abbrev theV : Program := view theR.prog [94]
def nm0 : List PySem.Str := [("_wall" : PySem.Str), ("AskError" : PySem.Str), ("BadWords" : PySem.Str), ("BadTerm" : PySem.Str), ("BadRule" : PySem.Str), ("BadLot" : PySem.Str), ("BadText" : PySem.Str), ("TooMany" : PySem.Str), ("NoTerm" : PySem.Str), ("LETTERS" : PySem.Str), ("MOST_LETTERS" : PySem.Str), ("MOST_FIGURES_checks" : PySem.Str), ("is_int" : PySem.Str), ("is_between" : PySem.Str), ("is_name" : PySem.Str), ("MOST_WORDS" : PySem.Str), ("MOST_PLACES" : PySem.Str), ("Words" : PySem.Str), ("need_words" : PySem.Str), ("MOST_SYMBOLS" : PySem.Str), ("MOST_DEEP" : PySem.Str), ("MOST_TERMS" : PySem.Str), ("shape_of" : PySem.Str), ("need_term" : PySem.Str), ("size" : PySem.Str), ("order" : PySem.Str), ("flat" : PySem.Str), ("ascending" : PySem.Str), ("Book" : PySem.Str), ("PAIR" : PySem.Str), ("is_answer" : PySem.Str), ("Lot" : PySem.Str), ("need_lot" : PySem.Str), ("MOST_RULES" : PySem.Str), ("MOST_TRAITS" : PySem.Str), ("PARTS" : PySem.Str), ("is_rule" : PySem.Str), ("Rules" : PySem.Str), ("traits_by" : PySem.Str), ("traits_in" : PySem.Str)]
def nm1 : List PySem.Str := [("HOLE" : PySem.Str), ("NOTHING" : PySem.Str), ("told_words" : PySem.Str), ("told_term" : PySem.Str), ("told_answer" : PySem.Str), ("told_wants" : PySem.Str), ("lot_text" : PySem.Str), ("rules_text" : PySem.Str), ("FIGURES" : PySem.Str), ("MOST_FIGURES_reader" : PySem.Str), ("MOST_READ" : PySem.Str), ("ANSWERS" : PySem.Str), ("number_in" : PySem.Str), ("name_ahead" : PySem.Str), ("term_ahead" : PySem.Str), ("whole_ahead" : PySem.Str), ("term_in" : PySem.Str), ("wants_in" : PySem.Str), ("words_of" : PySem.Str), ("words_by" : PySem.Str), ("head_of" : PySem.Str), ("answer_by" : PySem.Str), ("rule_by" : PySem.Str), ("need_text" : PySem.Str), ("read_lot" : PySem.Str), ("read_rules" : PySem.Str), ("_law_pen" : PySem.Str), ("_law_draw" : PySem.Str), ("_law_pick" : PySem.Str), ("_law_mixed" : PySem.Str), ("_law_places" : PySem.Str), ("_law_rows" : PySem.Str), ("_law_all_rows" : PySem.Str), ("_law_table" : PySem.Str), ("_law_size" : PySem.Str), ("_law_ordered" : PySem.Str), ("_law_kind" : PySem.Str), ("_law_says" : PySem.Str), ("_law_term" : PySem.Str), ("_law_hidden" : PySem.Str)]
def nm2 : List PySem.Str := [("_law_term_text" : PySem.Str), ("_law_words_text" : PySem.Str), ("_law_lot_text" : PySem.Str), ("_law_rules" : PySem.Str), ("_law_rules_text" : PySem.Str)]
def nmA : List PySem.Str := nm0 ++ (nm1 ++ (nm2))
noncomputable def obA (s : SharedT) : He.AlX × List FnZ := obsN asN faA fnA tsA tfA exA (zsN zsA) (HandSHeadRun.getT s)
theorem ob_eq (s : SharedT) : obA s = (hookN asN faA fnA tsA tfA exA zsA).obs s.abs := obsN_eq (HandSHeadRun.getT_eq s)
theorem runF (w : World) : HandSHeadRun.RunEq theR theV (hookN asN faA fnA tsA tfA exA zsA) obA 20000 nmA (w.withFollow "special-get-raises" false) := fun os => by kernel_rfl
theorem runT (w : World) : HandSHeadRun.RunEq theR theV (hookN asN faA fnA tsA tfA exA zsA) obA 20000 nmA (w.withFollow "special-get-raises" true) := fun os => by kernel_rfl
theorem runW (w : World) : HandSHeadRun.RunEq theR theV (hookN asN faA fnA tsA tfA exA zsA) obA 20000 nmA w := byRow2 "special-get-raises" (P := fun w => HandSHeadRun.RunEq theR theV (hookN asN faA fnA tsA tfA exA zsA) obA 20000 nmA w) runF runT w
end
end Q
set_option maxHeartbeats 0
/-! F55: the end. -/
open PySem PySem.W PySem.Calls PyProof.Rows
theorem PySem.Challenge.cw_enoughasked_k79_pages_of_told_lots_and_r_holds : PySem.Challenge.rw_enoughasked_k79_pages_of_told_lots_and_r.Holds := by
  w_on; o_law
  refine HandSHeadRun.head_any (r := OpenLaw.row PySem.Challenge.rw_enoughasked_k79_pages_of_told_lots_and_r) (q := Q.theV) (H := Q.hookN Q.asN Q.faA Q.fnA Q.tsA Q.tfA Q.exA Q.zsA) (ob := Q.obA) (M := 20000) (loose := Q.nmA) (d := HandSHeadRun.topDef Q.theR.prog 94) (kwd := []) Q.ob_eq
    (by kernel_rfl) (fun s => by kernel_rfl) Q.runW (by kernel_rfl) (by kernel_rfl) (by kernel_rfl) (by rfl) (by first | assumption | decide +kernel) (by decide +kernel) ⟨rfl, rfl, rfl, rfl, rfl, by decide +kernel⟩ ?hw ?hc
  case hw => w_witness2
  case hc =>
    refine Q.walk_ofTsG (l := PySem.Challenge.rw_enoughasked_k79_pages_of_told_lots_and_r) (n := 63) (k := 131) (x := "script") (CX := fun _ => L2.CX0) rfl (by decide) (by kernel_rfl) ⟨rfl, by decide, by decide⟩ ?F (fun _ _ _ _ _ z => z)
    intro w mg fa h Y G hmg0
    obtain ⟨K, KX, c, z⟩ := Y
    have hmg : mg ("law" : PySem.Str) = some (.ref fa) := by
      have e : (HandSHeadRun.topDef Q.theR.prog 94).name = ("law" : PySem.Str) := by kernel_rfl
      rw [← e]
      exact hmg0
    exact ⟨K, KX, Q.law_at KX G hmg c z⟩
