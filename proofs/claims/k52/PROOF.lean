import PyProof.Rows.All
import Wide.All
import OpenK.AllK
import Wide.FinOn
import HandS.ForMost
import HandS.Walk
import HandS.Zip
import HandS.Rev
import HandS.RevRange
import HandS.Conv
import HandS.IsInst
import HandS.TupAny
import HandS.TupMul
import HandS.Style
import HandS.Flow
import HandS.SortInts
import HandS.SortKw
import HandS.DictComp
import HandS.Deep
import HandS.ExcOwn
import HandS.TryOnly
import HandS.WordsExc
import HandS.WordsDict
import KE.GoesEnum
import KE.KDictList
import PySem.Challenge.RW_branchhouse_k52_whole_many_arms
set_option Elab.async false
set_option linter.all false
set_option maxRecDepth 100000
set_option maxHeartbeats 1000000
/-! Mini 1: data by value, the store, how they stand in the abstract heap. -/
namespace Mini
open PySem L2

/-- a value: tuples (and lists that nobody writes) by their items; what is written, by its place in the store -/
inductive D where
  | non | bl (b : Bool) | int (i : Int) | str (x : Str) | tup (l : List D) | frz (l : List D) | ref (n : Nat)
  deriving Inhabited
/-- what stands at a place of the store -/
inductive O where
  | lst (l : List D)
  | dct (kvs : List (Key × D))
  | lck (kvs : List (Key × D))
  | ins (c : Nat) (fs : List (Str × D))
  deriving Inhabited
abbrev S := List O
abbrev Ev := List (Option D)
/-- how a run ends -/
inductive R (α : Type) where
  | ok (a : α) (s : S)
  | exc (c : Nat) (as : List D) (s : S)
  | bad
def R.bind {α β : Type} (r : R α) (k : α → S → R β) : R β := match r with
  | .ok a s => k a s
  | .exc c as s => .exc c as s
  | .bad => .bad
@[simp] theorem R.bind_ok {α β : Type} (a : α) (s : S) (k : α → S → R β) : (R.ok a s).bind k = k a s := rfl
@[simp] theorem R.bind_exc {α β : Type} (c : Nat) (as : List D) (s : S) (k : α → S → R β) : (R.exc c as s : R α).bind k = .exc c as s := rfl
@[simp] theorem R.bind_bad {α β : Type} (k : α → S → R β) : (R.bad : R α).bind k = .bad := rfl

/-- what is fixed: the written part, the classes' addresses -/
structure Gx where
  K : PySem.W.Frag
  cl : List Addr

/-- a list that is known to the object, or the module's own -/
def Frz (K : PySem.W.Frag) (H : Hp) (a : Addr) (xs : List V) : Prop := (∃ o, H a = some (.frz o (.lst xs))) ∨ SqL K (fun _ => none) a xs
theorem Frz.sq {K : PySem.W.Frag} {H : Hp} {a : Addr} {xs : List V} (h : Frz K H a xs) : SqL K H a xs := by
  rcases h with ⟨o, h⟩ | h
  · exact .inl (.inr ⟨o, h⟩)
  · rcases h with (h | ⟨o, h⟩) | h
    · cases h
    · cases h
    · exact .inr h

mutual
def RD (G : Gx) (ρ : List Addr) (H : Hp) : D → V → Prop
  | .non, v => v = .non
  | .bl b, v => v = .bl b
  | .int i, v => v = .int i
  | .str x, v => v = .str x
  | .tup l, v => ∃ a xs, v = .ref a ∧ H a = some (.tup xs) ∧ RDs G ρ H l xs
  | .frz l, v => ∃ a xs, v = .ref a ∧ Frz G.K H a xs ∧ RDs G ρ H l xs
  | .ref n, v => ∃ a, v = .ref a ∧ ρ[n]? = some a
def RDs (G : Gx) (ρ : List Addr) (H : Hp) : List D → List V → Prop
  | [], xs => xs = []
  | d :: l, xs => ∃ x r, xs = x :: r ∧ RD G ρ H d x ∧ RDs G ρ H l r
end

/-- tuples and known lists are kept -/
def KeepT (H H' : Hp) : Prop := (∀ a xs, H a = some (.tup xs) → H' a = some (.tup xs)) ∧ ∀ a o xs, H a = some (.frz o (.lst xs)) → H' a = some (.frz o (.lst xs))
theorem KeepT.refl (H : Hp) : KeepT H H := ⟨fun _ _ h => h, fun _ _ _ h => h⟩
theorem KeepT.trans {H H1 H2 : Hp} (a : KeepT H H1) (b : KeepT H1 H2) : KeepT H H2 := ⟨fun x xs h => b.1 x xs (a.1 x xs h), fun x o xs h => b.2 x o xs (a.2 x o xs h)⟩
theorem KeepT.new {H : Hp} {p : Addr} {o : HO} (h : H p = none) : KeepT H (upd H p o) :=
  ⟨fun a xs e => by rw [upd_ne (ne_of_none e h)]; exact e, fun a o xs e => by rw [upd_ne (ne_of_none e h)]; exact e⟩
/-- what may be written over -/
def Wr : HO → Prop
  | .lst _ => True
  | .dK _ => True
  | .ins _ _ _ => True
  | .frz _ (.dK _) => True
  | _ => False
theorem KeepT.wr {H : Hp} {p : Addr} {o u : HO} (h : H p = some u) (w : Wr u) : KeepT H (upd H p o) :=
  ⟨fun a xs e => by rw [upd_ne (fun z => by rw [z, h] at e; cases e; exact w)]; exact e, fun a o xs e => by rw [upd_ne (fun z => by rw [z, h] at e; cases e; exact w)]; exact e⟩

section
variable {G : Gx} {ρ ρ' : List Addr} {H H' : Hp}
theorem pre_get {n : Nat} {a : Addr} (p : ρ <+: ρ') (h : ρ[n]? = some a) : ρ'[n]? = some a := by
  obtain ⟨t, rfl⟩ := p
  rw [List.getElem?_append_left (List.getElem?_eq_some_iff.mp h).1]
  exact h
theorem Frz.mono {K : PySem.W.Frag} {a : Addr} {xs : List V} (k : KeepT H H') (h : Frz K H a xs) : Frz K H' a xs := by
  rcases h with ⟨o, h⟩ | h
  · exact .inl ⟨o, k.2 _ _ _ h⟩
  · exact .inr h
mutual
theorem RD.mono (p : ρ <+: ρ') (k : KeepT H H') : ∀ {d : D} {v : V}, RD G ρ H d v → RD G ρ' H' d v
  | .non, _, h => by unfold RD at *; exact h
  | .bl _, _, h => by unfold RD at *; exact h
  | .int _, _, h => by unfold RD at *; exact h
  | .str _, _, h => by unfold RD at *; exact h
  | .tup l, _, h => by
    unfold RD at *
    obtain ⟨a, xs, e, h1, h2⟩ := h
    exact ⟨a, xs, e, k.1 _ _ h1, RDs.mono p k h2⟩
  | .frz l, _, h => by
    unfold RD at *
    obtain ⟨a, xs, e, h1, h2⟩ := h
    exact ⟨a, xs, e, h1.mono k, RDs.mono p k h2⟩
  | .ref n, _, h => by
    unfold RD at *
    obtain ⟨a, e, h1⟩ := h
    exact ⟨a, e, pre_get p h1⟩
theorem RDs.mono (p : ρ <+: ρ') (k : KeepT H H') : ∀ {l : List D} {xs : List V}, RDs G ρ H l xs → RDs G ρ' H' l xs
  | [], _, h => by unfold RDs at *; exact h
  | d :: l, _, h => by
    unfold RDs at *
    obtain ⟨x, r, e, h1, h2⟩ := h
    exact ⟨x, r, e, RD.mono p k h1, RDs.mono p k h2⟩
end
theorem rds_nil {xs : List V} : RDs G ρ H [] xs ↔ xs = [] := by rw [RDs]
theorem rds_cons {d : D} {l : List D} {xs : List V} : RDs G ρ H (d :: l) xs ↔ ∃ x r, xs = x :: r ∧ RD G ρ H d x ∧ RDs G ρ H l r := by rw [RDs]
theorem rds_cc {d : D} {l : List D} {x : V} {r : List V} : RDs G ρ H (d :: l) (x :: r) ↔ RD G ρ H d x ∧ RDs G ρ H l r := by
  rw [rds_cons]
  constructor
  · rintro ⟨y, q, e, h⟩
    cases e
    exact h
  · intro h
    exact ⟨x, r, rfl, h⟩
theorem rds_iff : ∀ {l : List D} {xs : List V}, RDs G ρ H l xs ↔ l.length = xs.length ∧ ∀ (i : Nat) (d : D) (x : V), l[i]? = some d → xs[i]? = some x → RD G ρ H d x
  | [], xs => by
    rw [rds_nil]
    constructor
    · rintro rfl
      exact ⟨rfl, fun i d x h => by simp at h⟩
    · rintro ⟨h, _⟩
      exact List.length_eq_zero_iff.mp h.symm
  | d :: l, [] => by
    rw [rds_cons]
    constructor
    · rintro ⟨x, r, e, _⟩
      cases e
    · rintro ⟨h, _⟩
      simp at h
  | d :: l, x :: r => by
    rw [rds_cc, rds_iff (l := l) (xs := r)]
    constructor
    · rintro ⟨h1, h2, h3⟩
      refine ⟨by simp [h2], fun i e y he hy => ?_⟩
      cases i with
      | zero =>
        simp only [List.getElem?_cons_zero, Option.some.injEq] at he hy
        subst he hy
        exact h1
      | succ i => exact h3 i e y (by simpa using he) (by simpa using hy)
    · rintro ⟨h1, h2⟩
      exact ⟨h2 0 d x rfl rfl, by simpa using h1, fun i e y he hy => h2 (i + 1) e y (by simpa using he) (by simpa using hy)⟩
theorem RDs.len {l : List D} {xs : List V} (h : RDs G ρ H l xs) : l.length = xs.length := (rds_iff.mp h).1
theorem RDs.get {l : List D} {xs : List V} (h : RDs G ρ H l xs) {i : Nat} {d : D} (hd : l[i]? = some d) : ∃ x, xs[i]? = some x ∧ RD G ρ H d x := by
  obtain ⟨h1, h2⟩ := rds_iff.mp h
  have hi : i < xs.length := by
    have := (List.getElem?_eq_some_iff.mp hd).1
    omega
  exact ⟨xs[i], List.getElem?_eq_getElem hi, h2 i d _ hd (List.getElem?_eq_getElem hi)⟩
theorem RDs.getV {l : List D} {xs : List V} (h : RDs G ρ H l xs) {i : Nat} {x : V} (hx : xs[i]? = some x) : ∃ d, l[i]? = some d ∧ RD G ρ H d x := by
  obtain ⟨h1, h2⟩ := rds_iff.mp h
  have hi : i < l.length := by
    have := (List.getElem?_eq_some_iff.mp hx).1
    omega
  exact ⟨l[i], List.getElem?_eq_getElem hi, h2 i _ x (List.getElem?_eq_getElem hi) hx⟩
theorem RDs.append {l m : List D} {xs ys : List V} (h : RDs G ρ H l xs) (h' : RDs G ρ H m ys) : RDs G ρ H (l ++ m) (xs ++ ys) := by
  induction l generalizing xs with
  | nil => rw [rds_nil] at h; subst h; exact h'
  | cons d l ih =>
    rw [rds_cons] at h
    obtain ⟨x, r, rfl, h1, h2⟩ := h
    exact rds_cc.mpr ⟨h1, ih h2⟩
theorem RDs.take {l : List D} {xs : List V} (h : RDs G ρ H l xs) (n : Nat) : RDs G ρ H (l.take n) (xs.take n) := by
  induction l generalizing xs n with
  | nil => rw [rds_nil] at h; subst h; simp [rds_nil]
  | cons d l ih =>
    rw [rds_cons] at h
    obtain ⟨x, r, rfl, h1, h2⟩ := h
    cases n with
    | zero => simp [rds_nil]
    | succ n => exact rds_cc.mpr ⟨h1, ih h2 n⟩
theorem RDs.drop {l : List D} {xs : List V} (h : RDs G ρ H l xs) (n : Nat) : RDs G ρ H (l.drop n) (xs.drop n) := by
  induction l generalizing xs n with
  | nil => rw [rds_nil] at h; subst h; simp [rds_nil]
  | cons d l ih =>
    rw [rds_cons] at h
    obtain ⟨x, r, rfl, h1, h2⟩ := h
    cases n with
    | zero => exact rds_cc.mpr ⟨h1, h2⟩
    | succ n => exact ih h2 n
theorem RDs.reverse {l : List D} {xs : List V} (h : RDs G ρ H l xs) : RDs G ρ H l.reverse xs.reverse := by
  induction l generalizing xs with
  | nil => rw [rds_nil] at h; subst h; simp [rds_nil]
  | cons d l ih =>
    rw [rds_cons] at h
    obtain ⟨x, r, rfl, h1, h2⟩ := h
    rw [List.reverse_cons, List.reverse_cons]
    exact (ih h2).append (rds_cc.mpr ⟨h1, rds_nil.mpr rfl⟩)
theorem RDs.set {l : List D} {xs : List V} (h : RDs G ρ H l xs) (n : Nat) {d : D} {x : V} (hd : RD G ρ H d x) : RDs G ρ H (l.set n d) (xs.set n x) := by
  induction l generalizing xs n with
  | nil => rw [rds_nil] at h; subst h; simp [rds_nil]
  | cons e l ih =>
    rw [rds_cons] at h
    obtain ⟨y, r, rfl, h1, h2⟩ := h
    cases n with
    | zero => exact rds_cc.mpr ⟨hd, h2⟩
    | succ n => exact rds_cc.mpr ⟨h1, ih h2 n⟩
theorem RDs.erase {l : List D} {xs : List V} (h : RDs G ρ H l xs) (n : Nat) : RDs G ρ H (l.eraseIdx n) (xs.eraseIdx n) := by
  induction l generalizing xs n with
  | nil => rw [rds_nil] at h; subst h; simp [rds_nil]
  | cons e l ih =>
    rw [rds_cons] at h
    obtain ⟨y, r, rfl, h1, h2⟩ := h
    cases n with
    | zero => exact h2
    | succ n => exact rds_cc.mpr ⟨h1, ih h2 n⟩
theorem RDs.dropLast {l : List D} {xs : List V} (h : RDs G ρ H l xs) : RDs G ρ H l.dropLast xs.dropLast := by
  rw [List.dropLast_eq_take, List.dropLast_eq_take, h.len]
  exact h.take _
theorem RDs.rep {l : List D} {xs : List V} (h : RDs G ρ H l xs) (n : Nat) : RDs G ρ H (List.replicate n l).flatten (List.replicate n xs).flatten := by
  induction n with
  | zero => simp [rds_nil]
  | succ n ih =>
    rw [List.replicate_succ, List.replicate_succ, List.flatten_cons, List.flatten_cons]
    exact h.append ih
theorem RDs.one {d : D} {x : V} (h : RD G ρ H d x) : RDs G ρ H [d] [x] := rds_cc.mpr ⟨h, rds_nil.mpr rfl⟩

/-- ints among data -/
theorem rds_ints {l : List Int} {xs : List V} (h : RDs G ρ H (l.map D.int) xs) : xs = l.map V.int := by
  induction l generalizing xs with
  | nil => exact rds_nil.mp h
  | cons i l ih =>
    obtain ⟨x, r, rfl, h1, h2⟩ := rds_cons.mp h
    rw [RD] at h1
    rw [h1, ih h2]
    rfl
theorem rds_ints' {l : List Int} : RDs G ρ H (l.map D.int) (l.map V.int) := by
  induction l with
  | nil => exact rds_nil.mpr rfl
  | cons i l ih => exact rds_cc.mpr ⟨by rw [RD], ih⟩
theorem rds_bls {l : List Bool} {xs : List V} (h : RDs G ρ H (l.map D.bl) xs) : xs = l.map V.bl := by
  induction l generalizing xs with
  | nil => exact rds_nil.mp h
  | cons i l ih =>
    obtain ⟨x, r, rfl, h1, h2⟩ := rds_cons.mp h
    rw [RD] at h1
    rw [h1, ih h2]
    rfl
end

/-- keys and values -/
def RK (G : Gx) (ρ : List Addr) (H : Hp) (kvs : List (Key × D)) (kxs : List (Key × V)) : Prop := kvs.map (·.1) = kxs.map (·.1) ∧ RDs G ρ H (kvs.map (·.2)) (kxs.map (·.2))
/-- attributes: as a lookup -/
def RF (G : Gx) (ρ : List Addr) (H : Hp) (fs : List (Str × D)) (fxs : List (Str × V)) : Prop := fs.map (·.1) = fxs.map (·.1) ∧ RDs G ρ H (fs.map (·.2)) (fxs.map (·.2))
/-- an object of the store at an address -/
def RO (G : Gx) (ρ : List Addr) (H : Hp) (a : Addr) : O → Prop
  | .lst l => ∃ xs, H a = some (.lst xs) ∧ RDs G ρ H l xs
  | .dct kvs => ∃ kxs, H a = some (.dK kxs) ∧ RK G ρ H kvs kxs
  | .lck kvs => ∃ o kxs, H a = some (.frz o (.dK kxs)) ∧ RK G ρ H kvs kxs
  | .ins c fs => ∃ C dx fxs, G.cl[c]? = some C ∧ H a = some (.ins C dx fxs) ∧ RF G ρ H fs fxs
/-- the store stands in the abstract heap, its n-th object at ρ[n] -/
structure Rep (G : Gx) (ρ : List Addr) (s : S) (H : Hp) : Prop where
  len : ρ.length = s.length
  nd : ρ.Nodup
  ob : ∀ (n : Nat) (o : O) (a : Addr), s[n]? = some o → ρ[n]? = some a → RO G ρ H a o

section
variable {G : Gx} {ρ ρ' : List Addr} {H H' : Hp} {s : S}
theorem RK.mono {kvs : List (Key × D)} {kxs : List (Key × V)} (p : ρ <+: ρ') (k : KeepT H H') (h : RK G ρ H kvs kxs) : RK G ρ' H' kvs kxs := ⟨h.1, h.2.mono p k⟩
theorem RF.mono {kvs : List (Str × D)} {kxs : List (Str × V)} (p : ρ <+: ρ') (k : KeepT H H') (h : RF G ρ H kvs kxs) : RF G ρ' H' kvs kxs := ⟨h.1, h.2.mono p k⟩
theorem RO.mono {o : O} {a : Addr} (p : ρ <+: ρ') (k : KeepT H H') (e : H' a = H a) (h : RO G ρ H a o) : RO G ρ' H' a o := by
  cases o with
  | lst l => obtain ⟨xs, h1, h2⟩ := h; exact ⟨xs, e.trans h1, h2.mono p k⟩
  | dct l => obtain ⟨xs, h1, h2⟩ := h; exact ⟨xs, e.trans h1, h2.mono p k⟩
  | lck l => obtain ⟨o, xs, h1, h2⟩ := h; exact ⟨o, xs, e.trans h1, h2.mono p k⟩
  | ins c fs => obtain ⟨C, dx, fxs, h0, h1, h2⟩ := h; exact ⟨C, dx, fxs, h0, e.trans h1, h2.mono p k⟩
theorem RO.there {o : O} {a : Addr} (h : RO G ρ H a o) : ∃ u, H a = some u ∧ Wr u := by
  cases o with
  | lst l => obtain ⟨xs, h1, h2⟩ := h; exact ⟨_, h1, trivial⟩
  | dct l => obtain ⟨xs, h1, h2⟩ := h; exact ⟨_, h1, trivial⟩
  | lck l => obtain ⟨o, xs, h1, h2⟩ := h; exact ⟨_, h1, trivial⟩
  | ins c fs => obtain ⟨C, dx, fxs, h0, h1, h2⟩ := h; exact ⟨_, h1, trivial⟩
theorem Rep.at (r : Rep G ρ s H) {n : Nat} {o : O} (h : s[n]? = some o) : ∃ a, ρ[n]? = some a ∧ RO G ρ H a o := by
  have hn : n < ρ.length := by
    have := (List.getElem?_eq_some_iff.mp h).1
    have := r.len
    omega
  exact ⟨ρ[n], List.getElem?_eq_getElem hn, r.ob n o _ h (List.getElem?_eq_getElem hn)⟩
theorem Rep.at' (r : Rep G ρ s H) {n : Nat} {a : Addr} (h : ρ[n]? = some a) : ∃ o, s[n]? = some o ∧ RO G ρ H a o := by
  have hn : n < s.length := by
    have := (List.getElem?_eq_some_iff.mp h).1
    have := r.len
    omega
  exact ⟨s[n], List.getElem?_eq_getElem hn, r.ob n _ a (List.getElem?_eq_getElem hn) h⟩
theorem nd_ix : ∀ {l : List Addr} {i j : Nat} {a : Addr}, l.Nodup → l[i]? = some a → l[j]? = some a → i = j
  | [], i, j, a, _, h, _ => by simp at h
  | b :: l, 0, 0, a, _, _, _ => rfl
  | b :: l, 0, j + 1, a, nd, h, h' => by
    simp at h h'
    subst h
    exact absurd (List.mem_of_getElem? h') (List.nodup_cons.mp nd).1
  | b :: l, i + 1, 0, a, nd, h, h' => by
    simp at h h'
    subst h'
    exact absurd (List.mem_of_getElem? h) (List.nodup_cons.mp nd).1
  | b :: l, i + 1, j + 1, a, nd, h, h' => by
    simp at h h'
    exact congrArg (· + 1) (nd_ix (List.nodup_cons.mp nd).2 h h')
/-- the n-th object is changed -/
theorem Rep.write (r : Rep G ρ s H) {n : Nat} {a : Addr} {o : O} {ho : HO} (hn : ρ[n]? = some a) (h : ∀ H', KeepT H H' → H' a = some ho → RO G ρ H' a o) : Rep G ρ (s.set n o) (upd H a ho) := by
  obtain ⟨o1, h1, h2⟩ := r.at' hn
  obtain ⟨u, hu, wu⟩ := h2.there
  have k : KeepT H (upd H a ho) := KeepT.wr hu wu
  refine ⟨by rw [List.length_set]; exact r.len, r.nd, fun m o2 b e e' => ?_⟩
  by_cases hm : n = m
  · subst hm
    rw [hn] at e'
    cases e'
    rw [List.getElem?_set_self (List.getElem?_eq_some_iff.mp h1).1] at e
    cases e
    exact h _ k upd_same
  · rw [List.getElem?_set_ne hm] at e
    have hb : b ≠ a := fun z => by
      subst z
      exact hm (nd_ix r.nd hn e')
    exact (r.ob m o2 b e e').mono (List.prefix_refl _) k (upd_ne hb)
/-- a new object -/
theorem Rep.push (r : Rep G ρ s H) {p : Addr} {o : O} {ho : HO} (hp : H p = none) (h : ∀ ρ' H', ρ <+: ρ' → KeepT H H' → H' p = some ho → RO G ρ' H' p o) : Rep G (ρ ++ [p]) (s ++ [o]) (upd H p ho) := by
  have k : KeepT H (upd H p ho) := KeepT.new hp
  have hpn : ∀ {n : Nat} {a : Addr}, ρ[n]? = some a → a ≠ p := fun {n a} e z => by
    subst z
    obtain ⟨o1, h1, h2⟩ := r.at' e
    obtain ⟨u, hu, _⟩ := h2.there
    rw [hp] at hu
    cases hu
  refine ⟨by simp [r.len], ?_, fun m o2 b e e' => ?_⟩
  · rw [List.nodup_append]
    refine ⟨r.nd, by simp, fun a ha b hb => ?_⟩
    rw [List.mem_singleton] at hb
    subst hb
    obtain ⟨n, hn⟩ := List.getElem?_of_mem ha
    exact hpn hn
  · by_cases hm : m < s.length
    · rw [List.getElem?_append_left hm] at e
      rw [List.getElem?_append_left (by rw [r.len]; exact hm)] at e'
      exact (r.ob m o2 b e e').mono (List.prefix_append _ _) k (upd_ne (hpn e'))
    · have hm' : m = s.length := by
        have := (List.getElem?_eq_some_iff.mp e).1
        rw [List.length_append] at this
        simp only [List.length_cons, List.length_nil] at this
        omega
      subst hm'
      rw [List.getElem?_append_right (Nat.le_refl _)] at e
      rw [← r.len, List.getElem?_append_right (Nat.le_refl _)] at e'
      simp at e e'
      subst e e'
      exact h _ _ (List.prefix_append _ _) k upd_same
theorem pre_push {p : Addr} : ρ <+: ρ ++ [p] := List.prefix_append _ _
theorem Rep.last (r : Rep G ρ s H) {p : Addr} : (ρ ++ [p])[s.length]? = some p := by
  rw [← r.len, List.getElem?_append_right (Nat.le_refl _)]
  simp
/-- an object that the store does not know -/
theorem Rep.other (r : Rep G ρ s H) (k : KeepT H H') (e : ∀ a u, H a = some u → H' a = some u) : Rep G ρ s H' := ⟨r.len, r.nd, fun n o a h h' => by
  have q := r.ob n o a h h'
  obtain ⟨u, hu, _⟩ := q.there
  exact q.mono (List.prefix_refl _) k ((e a u hu).trans hu.symm)⟩
theorem Rep.new (r : Rep G ρ s H) {p : Addr} {ho : HO} (hp : H p = none) : Rep G ρ s (upd H p ho) := r.other (KeepT.new hp) fun a u h => by rw [upd_ne (ne_of_none h hp)]; exact h
end
end Mini
set_option Elab.async false
set_option linter.all false
set_option maxRecDepth 100000
set_option maxHeartbeats 1000000
/-! Mini 2: the little language and how it runs. -/
namespace Mini
open PySem L2

/-- built-in kinds -/
inductive Ty where
  | int | bool | str | tuple | list | dict | cls (c : Nat)
/-- strict operations -/
inductive P where
  | add | sub | mul | fdv | md | neg | pw
  | eq | ne | lt | le | gt | ge | isN | ntN | inn | ntn
  | tup | lst | ix | sl (lo hi : Bool) | rvL
  | len | int1 | abs1 | min2 | max2 | minL | maxL | sum | all | any | sorted | list1 | tuple1 | listR1 | listR2 | tupR1 | tupR2 | tupRev | listRev
  | app | ext | pop | popA | setI
  | isi (t : Ty) | isiT (ts : List Ty)
  | dnew | idI | lstI
/-- what a loop walks -/
inductive IK where
  | seq | rng1 | rng2 | rng3 | zip | enu | rev
/-- targets of loops -/
inductive T where
  | nm (i : Nat) | tp (ts : List T)
inductive E where
  | var (i : Nat)
  | con (d : D)
  | prim (p : P) (es : List E)
  | and (a b : E) | or (a b : E) | not (a : E)
  | ife (c a b : E)
  | chn (p q : P) (a b c : E)
  | call (f : Nat) (es : List E)
  | dsp (es : List E)
  | comp (k : IK) (es : List E) (t : T) (c : E) (e : E) (vs : List Nat)
inductive Tg where
  | nm (i : Nat) | sub (o i : E) | tp (ts : List Tg)
inductive St where
  | asg (t : Tg) (e : E)
  | par (is : List Nat) (es : List E)
  | aug (i : Nat) (p : P) (e : E)
  | augI (o i : E) (p : P) (e : E)
  | ex (e : E)
  | ret (e : E) | retN
  | ite (c : E) (a b : List St)
  | whl (c : E) (b : List St)
  | forr (k : IK) (es : List E) (t : T) (b : List St)
  | brk | cnt | pas
  | never

/-! ### operations -/
/-- the size that no list or text passes -/
def LIM : Nat := 10000000
theorem lim_line : LIM ≤ sizeLine := by decide
def items (s : S) : D → Option (List D)
  | .tup l => some l
  | .frz l => some l
  | .ref n => match s[n]? with | some (.lst l) => some l | _ => none
  | _ => none
def asInt : D → Option Int
  | .int i => some i
  | _ => none
def asBl : D → Option Bool
  | .bl i => some i
  | _ => none
def intsD (l : List D) : Option (List Int) := l.mapM asInt
def blsD (l : List D) : Option (List Bool) := l.mapM asBl
def atomPy : D → Option PyData
  | .non => some .none
  | .bl b => some (.bool b)
  | .int i => some (.int i)
  | .str x => if PyData.canLay0 (.str x) then some (.str x) else none
  | _ => none
/-- the datum, lists of the store read out; depth at most k -/
def toPy (s : S) : Nat → D → Option PyData
  | 0, d => atomPy d
  | k + 1, d => match d with
    | .tup l => (l.mapM (toPy s k)).map .tuple
    | .frz l => (l.mapM (toPy s k)).map .list
    | .ref n => match s[n]? with | some (.lst l) => (l.mapM (toPy s k)).map .list | _ => none
    | d => atomPy d
def flatD : D → Bool
  | .non => true | .bl _ => true | .int _ => true | .str _ => true
  | _ => false
def eqF : D → D → Bool
  | .non, .non => true
  | .bl a, .bl b => a == b
  | .bl a, .int b => (if a then 1 else 0) == b
  | .int a, .bl b => a == (if b then 1 else 0)
  | .int a, .int b => a == b
  | .str a, .str b => a == b
  | _, _ => false
/-- == where one side is empty -/
def emptyEq (s : S) (x y : D) : Option Bool := match x with
  | .ref n => match y with
    | .ref m => match s[n]?, s[m]? with
      | some (.lst l), some (.lst k) => if l.isEmpty || k.isEmpty then some (l.isEmpty && k.isEmpty) else none
      | _, _ => none
    | _ => none
  | .tup l => match y with
    | .tup k => if l.isEmpty || k.isEmpty then some (l.isEmpty && k.isEmpty) else none
    | _ => none
  | _ => none
/-- == -/
def eqD (s : S) (x y : D) : Option Bool := match emptyEq s x y with
  | some b => some b
  | none => match toPy s 64 x, toPy s 64 y with
    | some a, some b => some (PyData.eqv a b)
    | _, _ => none
def keyD : D → Option Key
  | .int i => some (.inl i)
  | .str x => some (.inr x)
  | _ => none
def dK : Key → D
  | .inl i => .int i
  | .inr x => .str x
def atD (l : List D) (i : Int) : Option D := atI l i
def getK (kvs : List (Key × D)) (k : Key) : Option D := (kvs.find? fun kv => decide (kv.1 = k)).map (·.2)
def setK (kvs : List (Key × D)) (k : Key) (d : D) : List (Key × D) :=
  if (kvs.any fun kv => decide (kv.1 = k)) = true then kvs.map fun kv => if kv.1 = k then (kv.1, d) else kv else kvs ++ [(k, d)]
def cutD (l : List D) (lo hi : Option Int) : List D := (l.drop (HT.sIx l.length 0 lo)).take (HT.sIx l.length l.length hi - HT.sIx l.length 0 lo)
/-- keys and values, by turns -/
def pairsD : List D → Option (List (Key × D))
  | [] => some []
  | k :: r => match r with
    | [] => none
    | v :: l => (keyD k).bind fun k => (pairsD l).map fun q => (k, v) :: q
def mergeD (kvs more : List (Key × D)) : List (Key × D) := more.foldl (fun acc kv => setK acc kv.1 kv.2) kvs
/-- a display's dict is filled -/
def fillD (n : Nat) (ds : List D) (s : S) : Option (D × S) := match s[n]? with
  | some (.dct []) => (pairsD ds).bind fun kvs => if kvs.length ≤ 15 then some (.ref n, s.set n (.dct (mergeD [] kvs))) else none
  | _ => none
/-- one new object -/
def mk (s : S) (o : O) : Option (D × S) := some (.ref s.length, s ++ [o])
def ordI (f : Int → Int → Bool) (s : S) : D → D → Option (D × S)
  | .int i, .int j => some (.bl (f i j), s)
  | _, _ => none
def inD (s : S) (x y : D) : Option Bool := match y with
  | .ref n => match s[n]? with
    | some (.dct kvs) => (keyD x).map fun k => (getK kvs k).isSome
    | some (.lck kvs) => (keyD x).map fun k => (getK kvs k).isSome
    | some (.lst l) => if flatD x && l.all flatD then some (l.any fun z => eqF z x) else match toPy s 64 x, toPy s 64 (.ref n) with
      | some a, some (.list b) => some (b.any fun z => PyData.eqv z a)
      | _, _ => none
    | _ => none
  | .tup l => if flatD x && l.all flatD then some (l.any fun z => eqF z x) else none
  | .frz l => if flatD x && l.all flatD then some (l.any fun z => eqF z x) else none
  | .str z => match x with
    | .str w => some (!(Builtin.Str.occurrences z w 0 z.length 1).isEmpty)
    | _ => none
  | _ => none
def isStrD : D → Bool
  | .str _ => true
  | _ => false
/-- the kind of a value -/
def tyOf (s : S) : D → Option Ty
  | .non => none
  | .bl _ => some .bool
  | .int _ => some .int
  | .str _ => some .str
  | .tup _ => some .tuple
  | .frz _ => some .list
  | .ref n => match s[n]? with
    | some (.lst _) => some .list
    | some (.dct _) => some .dict
    | some (.lck _) => some .dict
    | some (.ins c _) => some (.cls c)
    | none => none
def isTyK : Option Ty → Ty → Bool
  | some .int, .int => true
  | some .bool, .int => true
  | some .bool, .bool => true
  | some .str, .str => true
  | some .tuple, .tuple => true
  | some .list, .list => true
  | some .dict, .dict => true
  | some (.cls c), .cls c' => c == c'
  | _, _ => false
def isTy (s : S) (d : D) (t : Ty) : Bool := isTyK (tyOf s d) t
/-- ints put in their order -/
def sortI (l : List Int) : List Int := l.mergeSort (fun a b => decide (a ≤ b))
def isNon : D → Bool
  | .non => true
  | _ => false
def okD (s : S) : D → Bool
  | .ref n => match s[n]? with
    | some (.ins _ _) => false
    | some _ => true
    | none => false
  | .frz _ => false
  | _ => true
def okT : Ty → Bool
  | .cls _ => false
  | _ => true

/-- a slice of a datum -/
def slD (x : D) (lo hi : Option Int) (s : S) : Option (D × S) := match x with
  | .tup l => some (.tup (cutD l lo hi), s)
  | .frz l => mk s (.lst (cutD l lo hi))
  | .ref n => match s[n]? with
    | some (.lst l) => mk s (.lst (cutD l lo hi))
    | _ => none
  | .str z => if z.length ≤ LIM then some (.str (cutS z lo hi), s) else none
  | _ => none

def prim : P → List D → S → Option (D × S)
  | .add, [.int i, .int j], s => some (.int (i + j), s)
  | .add, [.int i, .bl k], s => some (.int (i + PyProof.Rows.b2i k), s)
  | .add, [.tup l, .tup m], s => if l.length + m.length ≤ LIM then some (.tup (l ++ m), s) else none
  | .add, [.str x, .str y], s => if x.length + y.length ≤ LIM then some (.str (x ++ y), s) else none
  | .add, [.ref a, .ref b], s => match s[a]?, s[b]? with
    | some (.lst l), some (.lst m) => if l.length + m.length ≤ LIM then mk s (.lst (l ++ m)) else none
    | _, _ => none
  | .sub, [.int i, .int j], s => some (.int (i - j), s)
  | .mul, [.int i, .int j], s => if i.natAbs < 2 ^ 64 ∨ j.natAbs < 2 ^ 64 then some (.int (i * j), s) else none
  | .mul, [.ref a, .int k], s => match s[a]? with
    | some (.lst l) => if k.natAbs ≤ LIM ∧ l.length * k.toNat ≤ LIM then mk s (.lst (List.replicate k.toNat l).flatten) else none
    | _ => none
  | .mul, [.tup l, .int k], s => if l ≠ [] ∧ 2 ≤ k ∧ k ≤ 1000 ∧ l.length ≤ 1000 then some (.tup (List.replicate k.toNat l).flatten, s) else none
  | .fdv, [.int i, .int j], s => if j ≠ 0 ∧ j.natAbs < 1073741824 then some (.int (i.fdiv j), s) else none
  | .md, [.int i, .int j], s => if j ≠ 0 then some (.int (i.fmod j), s) else none
  | .neg, [.int i], s => some (.int (-i), s)
  | .pw, [.int i, .int j], s => if 0 ≤ j ∧ j ≤ 1000 ∧ i.natAbs < 2 ^ 64 then some (.int (i ^ j.toNat), s) else none
  | .eq, [x, y], s => (eqD s x y).map fun b => (.bl b, s)
  | .ne, [x, y], s => (eqD s x y).map fun b => (.bl (!b), s)
  | .lt, [x, y], s => ordI (fun i j => decide (i < j)) s x y
  | .le, [x, y], s => ordI (fun i j => decide (i ≤ j)) s x y
  | .gt, [x, y], s => ordI (fun i j => decide (j < i)) s x y
  | .ge, [x, y], s => ordI (fun i j => decide (j ≤ i)) s x y
  | .isN, [x], s => some (.bl (isNon x), s)
  | .ntN, [x], s => some (.bl (!isNon x), s)
  | .inn, [x, y], s => (inD s x y).map fun b => (.bl b, s)
  | .ntn, [x, y], s => if isStrD y = true then none else (inD s x y).map fun b => (.bl (!b), s)
  | .tup, l, s => if l.length ≤ LIM then some (.tup l, s) else none
  | .lst, l, s => if l.length ≤ LIM then mk s (.lst l) else none
  | .ix, [x, i], s => match x with
    | .str z => match i with
      | .int i => if z.length ≤ LIM then (atI z.cps.toList i).map fun c => (.str ⟨#[c]⟩, s) else none
      | _ => none
    | .tup l => match i with
      | .int i => (atI l i).map fun d => (d, s)
      | _ => none
    | .frz l => match i with
      | .int i => (atI l i).map fun d => (d, s)
      | _ => none
    | .ref n => match s[n]? with
      | some (.lst l) => match i with
        | .int i => (atI l i).map fun d => (d, s)
        | _ => none
      | some (.dct kvs) => (keyD i).bind fun k => (getK kvs k).map fun d => (d, s)
      | some (.lck kvs) => (keyD i).bind fun k => (getK kvs k).map fun d => (d, s)
      | _ => none
    | _ => none
  | .sl lo hi, x :: r, s =>
    let parts : Option (Option Int × Option Int) := match lo, hi, r with
      | true, true, [.int a, .int b] => some (some a, some b)
      | true, false, [.int a] => some (some a, none)
      | false, true, [.int b] => some (none, some b)
      | false, false, [] => some (none, none)
      | _, _, _ => none
    parts.bind fun p => slD x p.1 p.2 s
  | .rvL, [x], s => match x with
    | .ref n => match s[n]? with
      | some (.lst l) => mk s (.lst l.reverse)
      | _ => none
    | .tup l => if l.length ≤ LIM then some (.tup l.reverse, s) else none
    | _ => none
  | .len, [x], s => match x with
    | .str z => if z.length ≤ LIM then some (.int z.length, s) else none
    | .ref n => match s[n]? with
      | some (.lst l) => some (.int l.length, s)
      | some (.dct l) => some (.int l.length, s)
      | some (.lck l) => some (.int l.length, s)
      | _ => none
    | x => (items s x).map fun l => (.int l.length, s)
  | .int1, [.int i], s => some (.int i, s)
  | .int1, [.bl b], s => some (.int (if b then 1 else 0), s)
  | .abs1, [.int i], s => some (.int (if i < 0 then -i else i), s)
  | .min2, [.int i, .int j], s => some (.int (if j < i then j else i), s)
  | .max2, [.int i, .int j], s => some (.int (if j > i then j else i), s)
  | .minL, [.ref n], s => match s[n]? with
    | some (.lst l) => (intsD l).bind fun ns => ns.min?.map fun m => (.int m, s)
    | _ => none
  | .maxL, [.ref n], s => match s[n]? with
    | some (.lst l) => (intsD l).bind fun ns => ns.max?.map fun m => (.int m, s)
    | _ => none
  | .sum, [.ref n], s => match s[n]? with
    | some (.lst l) => (intsD l).map fun ns => (.int ns.sum, s)
    | _ => none
  | .all, [.ref n], s => match s[n]? with
    | some (.lst l) => (blsD l).map fun bs => (.bl (bs.all id), s)
    | _ => none
  | .any, [.ref n], s => match s[n]? with
    | some (.lst l) => (blsD l).map fun bs => (.bl (bs.any id), s)
    | _ => none
  | .sorted, [.ref n], s => match s[n]? with
    | some (.lst l) => (intsD l).bind fun ns => mk s (.lst ((sortI ns).map .int))
    | _ => none
  | .list1, [x], s => match x with
    | .ref n => match s[n]? with
      | some (.lst l) => mk s (.lst l)
      | some (.dct kvs) => mk s (.lst (kvs.map fun kv => dK kv.1))
      | _ => none
    | x => (items s x).bind fun l => mk s (.lst l)
  | .tuple1, [x], s => (items s x).map fun l => (.tup l, s)
  | .app, [.ref n, x], s => match s[n]? with
    | some (.lst l) => if l.length < LIM then some (.non, s.set n (.lst (l ++ [x]))) else none
    | _ => none
  | .ext, [.ref n, .ref m], s => match s[n]?, s[m]? with
    | some (.lst l), some (.lst k) => if l.length + k.length ≤ LIM then some (.non, s.set n (.lst (l ++ k))) else none
    | _, _ => none
  | .pop, [.ref n], s => match s[n]? with
    | some (.lst l) => (l[l.length - 1]?).map fun d => (d, s.set n (.lst l.dropLast))
    | _ => none
  | .popA, [.ref n, .int i], s => match s[n]? with
    | some (.lst l) => if l.length ≤ LIM then (ixN l.length i).bind fun j => (l[j]?).map fun d => (d, s.set n (.lst (l.eraseIdx j))) else none
    | _ => none
  | .setI, [.ref n, i, x], s => match s[n]? with
    | some (.lst l) => match i with
      | .int i => (ixN l.length i).map fun j => (.non, s.set n (.lst (l.set j x)))
      | _ => none
    | some (.dct kvs) => (keyD i).bind fun k => if kvs.length < LIM then some (.non, s.set n (.dct (setK kvs k x))) else none
    | _ => none
  | .isi t, [x], s => if (okD s x && okT t) = true then some (.bl (isTy s x t), s) else none
  | .isiT ts, [x], s => if (okD s x && ts.all okT) = true then some (.bl (ts.any (isTy s x)), s) else none
  | .listR1, [.int j], s => if j < 10000000 ∧ -10000000 < j then mk s (.lst ((List.range j.toNat).map fun (k : Nat) => D.int (k : Int))) else none
  | .listR2, [.int i, .int j], s => if i.natAbs < 4000000 ∧ j.natAbs < 4000000 then mk s (.lst ((List.range (j - i).toNat).map fun (k : Nat) => D.int (i + (k : Int)))) else none
  | .tupR1, [.int j], s => if j < 10000000 ∧ -10000000 < j then some (.tup ((List.range j.toNat).map fun (k : Nat) => D.int (k : Int)), s) else none
  | .tupR2, [.int i, .int j], s => if i.natAbs < 4000000 ∧ j.natAbs < 4000000 then some (.tup ((List.range (j - i).toNat).map fun (k : Nat) => D.int (i + (k : Int))), s) else none
  | .tupRev, [x], s => match x with
    | .frz l => some (.tup l.reverse, s)
    | .ref n => match s[n]? with
      | some (.lst l) => some (.tup l.reverse, s)
      | _ => none
    | _ => none
  | .listRev, [.tup l], s => mk s (.lst l.reverse)
  | .idI, [.int i], s => some (.int i, s)
  | .lstI, [.ref n], s => match s[n]? with
    | some (.lst _) => some (.ref n, s)
    | _ => none
  | .dnew, [], s => mk s (.dct [])
  | _, _, _ => none

/-! ### what is walked -/
inductive It where
  | fix (l : List D) | lst (n : Nat) | zip (n m : Nat) | enu (n : Nat) | rev (n k : Nat) | key (n : Nat)
/-- none: it can't be said; some none: it stops -/
def It.at : It → Nat → S → Option (Option D)
  | .fix l, i, _ => some l[i]?
  | .lst n, i, s => match s[n]? with | some (.lst l) => some l[i]? | _ => none
  | .zip n m, i, s => match s[n]?, s[m]? with
    | some (.lst l), some (.lst k) => some (match l[i]?, k[i]? with | some a, some b => some (.tup [a, b]) | _, _ => none)
    | _, _ => none
  | .enu n, i, s => match s[n]? with | some (.lst l) => some ((l[i]?).map fun d => .tup [.int (i : Int), d]) | _ => none
  | .rev n k, i, s => match s[n]? with | some (.lst l) => if i < k then (l[k - 1 - i]?).map some else some none | _ => none
  | .key n, i, s => match s[n]? with | some (.lck kvs) => some ((kvs[i]?).map fun kv => dK kv.1) | _ => none
def sign (c : Nat) : D := .str ⟨#[c]⟩
/-- range(a, b, c)'s length -/
def rngN (a b c : Int) : Nat := if 0 < c then ((b - a + c - 1) / c).toNat else ((a - b + (-c) - 1) / (-c)).toNat
/-- the items with their numbers -/
def enuD : Nat → List D → List D
  | _, [] => []
  | i, d :: l => .tup [.int (i : Int), d] :: enuD (i + 1) l
theorem enuD_get : ∀ (l : List D) (k i : Nat), (enuD k l)[i]? = (l[i]?).map fun d => .tup [.int ((k + i : Nat) : Int), d]
  | [], _, _ => by simp [enuD]
  | d :: l, k, 0 => by simp [enuD]
  | d :: l, k, i + 1 => by
    rw [enuD, List.getElem?_cons_succ, List.getElem?_cons_succ, enuD_get l (k + 1) i]
    congr 2
    funext d
    rw [show k + 1 + i = k + (i + 1) by omega]
def mkIt : IK → List D → S → Option It
  | .seq, [x], s => match x with
    | .tup l => some (.fix l)
    | .frz l => some (.fix l)
    | .str z => some (.fix (z.cps.toList.map sign))
    | .ref n => match s[n]? with
      | some (.lst _) => some (.lst n)
      | _ => none
    | _ => none
  | .rng1, [.int j], _ => if j.natAbs < 2 ^ 40 then some (.fix ((List.range j.toNat).map fun (k : Nat) => D.int (k : Int))) else none
  | .rng2, [.int i, .int j], _ => if i.natAbs < 2 ^ 40 ∧ j.natAbs < 2 ^ 40 then some (.fix ((List.range (j - i).toNat).map fun (k : Nat) => D.int (i + (k : Int)))) else none
  | .rng3, [.int i, .int j, .int c], _ => if i.natAbs < 2 ^ 40 ∧ j.natAbs < 2 ^ 40 ∧ c = -1 then some (.fix ((List.range (i - j).toNat).map fun (k : Nat) => D.int (i + (k : Int) * -1))) else none
  | .zip, [x, y], s => match x, y with
    | .ref n, .ref m => match s[n]?, s[m]? with
      | some (.lst _), some (.lst _) => some (.zip n m)
      | _, _ => none
    | .tup l, .tup m => some (.fix (List.zipWith (fun a b => .tup [a, b]) l m))
    | _, _ => none
  | .enu, [.tup l], _ => some (.fix (enuD 0 l))
  | .enu, [.ref n], s => match s[n]? with | some (.lst _) => some (.enu n) | _ => none
  | .rev, [x], s => match x with
    | .tup l => some (.fix l.reverse)
    | .ref n => match s[n]? with | some (.lst l) => some (.rev n l.length) | _ => none
    | _ => none
  | _, _, _ => none
/-! ### running -/
structure Cfg where
  call : Nat → List D → S → R D
  fuel : Nat
mutual
def bindT : T → D → Ev → Option Ev
  | .nm i, d, env => some (env.set i (some d))
  | .tp ts, d, env => match d with
    | .tup l => bindTs ts l env
    | _ => none
def bindTs : List T → List D → Ev → Option Ev
  | [], l, env => if l.isEmpty then some env else none
  | t :: ts, l, env => match l with
    | [] => none
    | d :: l => (bindT t d env).bind fun env' => bindTs ts l env'
end
def wipeE (env : Ev) : List Nat → Ev
  | [] => env
  | v :: vs => (wipeE env vs).set v none
def ofOpt {α : Type} (o : Option (α × S)) : R α := match o with
  | some (a, s) => .ok a s
  | none => .bad
/-- a truth value -/
def toB : D → S → R Bool
  | .bl b, s => .ok b s
  | _, _ => .bad
@[simp] theorem toB_bl (b : Bool) (s : S) : toB (.bl b) s = .ok b s := rfl
def condR {α : Type} (r : R D) (a b : S → R α) : R α := (r.bind toB).bind fun k s => if k = true then a s else b s
/-- a comprehension from the i-th turn on, its list at n -/
def compL (n : Nat) (it : It) (step : D → S → R (Option D)) : Nat → Nat → S → R Unit
  | 0, _, _ => .bad
  | f + 1, i, s => match it.at i s with
    | none => .bad
    | some none => .ok () s
    | some (some d) => match step d s with
      | .ok (some y) s1 => match s1[n]? with
        | some (.lst acc) => if acc.length < LIM then compL n it step f (i + 1) (s1.set n (.lst (acc ++ [y]))) else .bad
        | _ => .bad
      | .ok none s1 => compL n it step f (i + 1) s1
      | .exc _ _ _ => .bad
      | .bad => .bad
/-- the iterator -/
def itR (k : IK) (ds : List D) (s : S) : R It := match mkIt k ds s with
  | some it => .ok it s
  | none => .bad
mutual
def eval (c : Cfg) : E → Ev → S → R D
  | .var i, env, s => match env[i]? with
    | some (some d) => .ok d s
    | _ => .bad
  | .con d, _, s => .ok d s
  | .prim p es, env, s => (evals c es env s).bind fun ds s1 => ofOpt (prim p ds s1)
  | .and a b, env, s => condR (eval c a env s) (eval c b env) (fun s1 => .ok (.bl false) s1)
  | .or a b, env, s => condR (eval c a env s) (fun s1 => .ok (.bl true) s1) (eval c b env)
  | .not a, env, s => condR (eval c a env s) (fun s1 => .ok (.bl false) s1) (fun s1 => .ok (.bl true) s1)
  | .ife q a b, env, s => condR (eval c q env s) (eval c a env) (eval c b env)
  | .chn p q a b d, env, s => (eval c a env s).bind fun x s1 => (eval c b env s1).bind fun y s2 => condR (ofOpt (prim p [x, y] s2)) (fun s3 => (eval c d env s3).bind fun z s4 => ofOpt (prim q [y, z] s4)) (fun s3 => .ok (.bl false) s3)
  | .call f es, env, s => (evals c es env s).bind fun ds s1 => c.call f ds s1
  | .dsp es, env, s => (evals c es env (s ++ [.dct []])).bind fun ds s1 => ofOpt (fillD s.length ds s1)
  | .comp k es t q e vs, env, s => ((evals c es env s).bind fun ds s1 => itR k ds s1).bind fun it s1 =>
    (compL s1.length it (fun d s3 => match bindT t d (wipeE env vs) with
      | none => .bad
      | some env1 => condR (eval c q env1 s3) (fun s4 => (eval c e env1 s4).bind fun y s5 => .ok (some y) s5) (fun s4 => .ok none s4)) c.fuel 0 (s1 ++ [.lst []])).bind
        fun _ s2 => .ok (.ref s1.length) s2
def evals (c : Cfg) : List E → Ev → S → R (List D)
  | [], _, s => .ok [] s
  | e :: es, env, s => (eval c e env s).bind fun d s1 => (evals c es env s1).bind fun ds s2 => .ok (d :: ds) s2
end
/-- how a statement ends -/
inductive Fl where
  | nx (env : Ev) (s : S)
  | rt (d : D) (s : S)
  | bk (env : Ev) (s : S)
  | ct (env : Ev) (s : S)
  | ex (c : Nat) (as : List D) (env : Ev) (s : S)
  | bad
/-- a run that lets no exception out -/
def noX {α : Type} : R α → R α
  | .exc _ _ _ => .bad
  | r => r
def flR {α : Type} (env : Ev) (r : R α) (k : α → S → Fl) : Fl := match r with
  | .ok a s => k a s
  | .exc c as s => .ex c as env s
  | .bad => .bad
mutual
def asgT (c : Cfg) : Tg → D → Ev → S → R Ev
  | .nm i, d, env, s => .ok (env.set i (some d)) s
  | .sub o i, d, env, s => (noX (eval c o env s)).bind fun x s1 => (noX (eval c i env s1)).bind fun y s2 => (ofOpt (prim .setI [x, y, d] s2)).bind fun _ s3 => .ok env s3
  | .tp ts, d, env, s => match d with
    | .tup l => asgTs c ts l env s
    | _ => .bad
def asgTs (c : Cfg) : List Tg → List D → Ev → S → R Ev
  | [], l, env, s => if l.isEmpty then .ok env s else .bad
  | t :: ts, l, env, s => match l with
    | [] => .bad
    | d :: l => (asgT c t d env s).bind fun env1 s1 => asgTs c ts l env1 s1
end
def setAll : List Nat → List D → Ev → Option Ev
  | [], l, env => if l.isEmpty then some env else none
  | i :: is, l, env => match l with
    | [] => none
    | d :: l => setAll is l (env.set i (some d))
/-- a while, at most so many turns -/
def whileL (q : Ev → S → R D) (b : Ev → S → Fl) : Nat → Ev → S → Fl
  | 0, _, _ => .bad
  | f + 1, env, s => flR env (q env s) fun d s1 => match d with
    | .bl true => match b env s1 with
      | .nx env1 s2 => whileL q b f env1 s2
      | .ct env1 s2 => whileL q b f env1 s2
      | .bk env1 s2 => .nx env1 s2
      | r => r
    | .bl false => .nx env s1
    | _ => .bad
/-- a for, from the i-th turn on -/
def forL (it : It) (t : T) (b : Ev → S → Fl) : Nat → Nat → Ev → S → Fl
  | 0, _, _, _ => .bad
  | f + 1, i, env, s => match it.at i s with
    | none => .bad
    | some none => .nx env s
    | some (some d) => match bindT t d env with
      | none => .bad
      | some env1 => match b env1 s with
        | .nx env2 s2 => forL it t b f (i + 1) env2 s2
        | .ct env2 s2 => forL it t b f (i + 1) env2 s2
        | .bk env2 s2 => .nx env2 s2
        | r => r
mutual
def exec (c : Cfg) : St → Ev → S → Fl
  | .asg t e, env, s => flR env (eval c e env s) fun d s1 => flR env (noX (asgT c t d env s1)) fun env1 s2 => .nx env1 s2
  | .par is es, env, s => flR env (evals c es env s) fun ds s1 => match setAll is ds env with | some env1 => .nx env1 s1 | none => .bad
  | .aug i p e, env, s => match env[i]? with
    | some (some x) => flR env (eval c e env s) fun y s1 => flR env (ofOpt (prim p [x, y] s1)) fun z s2 => .nx (env.set i (some z)) s2
    | _ => .bad
  | .augI o i p e, env, s => flR env (eval c o env s) fun x s1 => flR env (eval c i env s1) fun y s2 => flR env (ofOpt (prim .ix [x, y] s2)) fun z s3 => flR env (eval c e env s3) fun w s4 =>
      flR env (ofOpt (prim p [z, w] s4)) fun v s5 => flR env (ofOpt (prim .setI [x, y, v] s5)) fun _ s6 => .nx env s6
  | .ex e, env, s => flR env (eval c e env s) fun _ s1 => .nx env s1
  | .ret e, env, s => flR env (eval c e env s) fun d s1 => .rt d s1
  | .retN, _, s => .rt .non s
  | .ite q a b, env, s => flR env (eval c q env s) fun d s1 => match d with
    | .bl true => execs c a env s1
    | .bl false => execs c b env s1
    | _ => .bad
  | .whl q b, env, s => whileL (fun env s => eval c q env s) (fun env s => execs c b env s) c.fuel env s
  | .forr k es t b, env, s => flR env ((evals c es env s).bind fun ds s1 => itR k ds s1) fun it s1 => forL it t (fun env s => execs c b env s) c.fuel 0 env s1
  | .brk, env, s => .bk env s
  | .cnt, env, s => .ct env s
  | .pas, env, s => .nx env s
  | .never, _, _ => .bad
def execs (c : Cfg) : List St → Ev → S → Fl
  | [], env, s => .nx env s
  | st :: r, env, s => match exec c st env s with
    | .nx env1 s1 => execs c r env1 s1
    | f => f
end
end Mini
set_option Elab.async false
set_option linter.all false
set_option maxRecDepth 100000
set_option maxHeartbeats 1000000
/-! Mini 3: what it means that an expression of the program runs as one of the little language. -/
namespace Mini
open PySem L2 PyProof.Rows

/-- an exception of the c-th class with its field, as it lies -/
def RX (G : Gx) (c : Nat) (as : List D) (ρ : List Addr) (H : Hp) (cls : Value) (d : Option Addr) : Prop :=
  ∃ C, G.cl[c]? = some C ∧ cls = .ref C ∧ match as with
    | [] => d = none
    | [x] => ∃ dx f v, d = some dx ∧ H dx = some (.xd [(f, v)]) ∧ RD G ρ H x v
    | _ => False
/-- what is wanted behind a run -/
def WpR {α β : Type} (G : Gx) (rel : List Addr → Hp → α → β → Prop) (W : XK) (r : R α) (ρ : List Addr) (H : Hp) (Q : β → Hp → Prop) : Prop := match r with
  | .ok a s' => ∀ ρ' v H', ρ <+: ρ' → KeepT H H' → Rep G ρ' s' H' → rel ρ' H' a v → Q v H'
  | .exc c as s' => ∀ ρ' H' cls d, ρ <+: ρ' → KeepT H H' → Rep G ρ' s' H' → RX G c as ρ' H' cls d → W cls d H'
  | .bad => False
abbrev relD (G : Gx) : List Addr → Hp → D → V → Prop := fun ρ H d v => RD G ρ H d v
abbrev relL (G : Gx) : List Addr → Hp → List D → List V → Prop := fun ρ H d v => RDs G ρ H d v
abbrev relB : List Addr → Hp → Bool → Bool → Prop := fun _ _ d b => d = b

section
variable {G : Gx} {α β γ δ : Type} {rel : List Addr → Hp → α → β → Prop} {rel2 : List Addr → Hp → γ → δ → Prop} {W : XK} {r : R α} {ρ ρ1 : List Addr} {H H1 : Hp}
theorem WpR.mono {Q Q' : β → Hp → Prop} (p : ρ <+: ρ1) (k : KeepT H H1) (h : WpR G rel W r ρ H Q) (q : ∀ v H', Q v H' → Q' v H') : WpR G rel W r ρ1 H1 Q' := by
  cases r with
  | ok a s => exact fun ρ' v H' a b c d => q _ _ (h ρ' v H' (p.trans a) (k.trans b) c d)
  | exc c as s => exact fun ρ' H' cls d a b c e => h ρ' H' cls d (p.trans a) (k.trans b) c e
  | bad => exact h
theorem WpR.ext {Q : β → Hp → Prop} (p : ρ <+: ρ1) (k : KeepT H H1) (h : WpR G rel W r ρ H Q) : WpR G rel W r ρ1 H1 Q := h.mono p k fun _ _ q => q
/-- one run, then another one -/
theorem WpR.bind {k : α → S → R γ} {Q : δ → Hp → Prop} (h : WpR G rel2 W (r.bind k) ρ H Q) :
    WpR G rel W r ρ H fun v H1 => ∃ ρ1 a s1, ρ <+: ρ1 ∧ KeepT H H1 ∧ Rep G ρ1 s1 H1 ∧ rel ρ1 H1 a v ∧ WpR G rel2 W (k a s1) ρ1 H1 Q := by
  cases r with
  | ok a s =>
    intro ρ' v H' p kt rp rl
    exact ⟨ρ', a, s, p, kt, rp, rl, WpR.ext p kt h⟩
  | exc c as s => exact h
  | bad => exact h
end

/-- the names' values -/
def RE (G : Gx) (ρ : List Addr) (H : Hp) (env : Ev) (σ : L2.St) : Prop := env.length = σ.length ∧ ∀ (i : Nat) (d : D), env[i]? = some (some d) → ∃ v, σ[i]? = some (some v) ∧ RD G ρ H d v
section
variable {G : Gx} {ρ ρ1 : List Addr} {H H1 : Hp} {env : Ev} {σ : L2.St}
theorem RE.mono (p : ρ <+: ρ1) (k : KeepT H H1) (h : RE G ρ H env σ) : RE G ρ1 H1 env σ := ⟨h.1, fun i d e => by
  obtain ⟨v, h1, h2⟩ := h.2 i d e
  exact ⟨v, h1, h2.mono p k⟩⟩
theorem RE.set (h : RE G ρ H env σ) (i : Nat) {d : D} {v : V} (r : RD G ρ H d v) : RE G ρ H (env.set i (some d)) (σ.set i (some v)) := by
  refine ⟨by rw [List.length_set, List.length_set]; exact h.1, fun j e he => ?_⟩
  by_cases hij : i = j
  · subst hij
    have hi : i < env.length := by
      have := (List.getElem?_eq_some_iff.mp he).1
      rw [List.length_set] at this
      exact this
    rw [List.getElem?_set_self hi] at he
    cases he
    exact ⟨v, by rw [List.getElem?_set_self (by rw [← h.1]; exact hi)], r⟩
  · rw [List.getElem?_set_ne hij] at he
    obtain ⟨v', h1, h2⟩ := h.2 j e he
    exact ⟨v', by rw [List.getElem?_set_ne hij]; exact h1, h2⟩
theorem RE.setNone (h : RE G ρ H env σ) (i : Nat) : RE G ρ H (env.set i none) (σ.set i none) := by
  refine ⟨by rw [List.length_set, List.length_set]; exact h.1, fun j e he => ?_⟩
  by_cases hij : i = j
  · subst hij
    have hi : i < env.length := by
      have := (List.getElem?_eq_some_iff.mp he).1
      rw [List.length_set] at this
      exact this
    rw [List.getElem?_set_self hi] at he
    cases he
  · rw [List.getElem?_set_ne hij] at he
    obtain ⟨v', h1, h2⟩ := h.2 j e he
    exact ⟨v', by rw [List.getElem?_set_ne hij]; exact h1, h2⟩
theorem RE.wipe (h : RE G ρ H env σ) : ∀ vs : List Nat, RE G ρ H (wipeE env vs) (wipe σ vs)
  | [] => h
  | v :: vs => by
    unfold wipeE L2.wipe
    exact (RE.wipe h vs).setNone v
end

/-- a def of the table -/
structure FnI where
  name : Str
  ps : List Str
/-- what is fixed for a body -/
structure CC where
  G : Gx
  P : Program
  w : World
  mg : Str → Option Value
  base : Heap
  fns : List FnI
  c : Cfg
  N : List Str
  sc : Scope
  stc : Str → Bool
  k : Nat
/-- a def's promise by its run -/
def spF (G : Gx) (c : Cfg) (i : Nat) : Sp := fun vs H Q E => ∃ ρ ds s, RDs G ρ H ds vs ∧ Rep G ρ s H ∧ WpR G (relD G) E (c.call i ds s) ρ H Q
structure Fit (C : CC) (X : Cx) (W : WX) : Prop where
  P : X.prog = C.P
  w : X.w = C.w
  K : X.K = C.G.K
  mg : X.mg = C.mg
  base : X.base = C.base
  N : X.N = C.N
  nd : C.N.Nodup
  sc : X.env.scope = C.sc
  fnt : ∀ n, C.stc n = true → X.fn n = true
  kind : C.sc.kind = .function
  calm : X.calm = true
  room : Room C.k X.A
  tk : Takes X W
  po : PassesOwn (model X.prog X.w) X.A X.env X.xe
  fn : ∀ (i : Nat) (fi : FnI), C.fns[i]? = some fi → ∃ f fd, X.mg fi.name = some (.ref f) ∧ PySem.W.keepIn X.K (.ref f) = true ∧ Binds X.K fd fi.ps [] ∧ FnOk X.prog X.w X.K X.mg X.base (L2.CX X.prog X.w) C.k f fd fi.ps (spF C.G C.c i)
/-- the reading of an expression, of arguments, of a test -/
def tE (C : CC) (W : WX) (e : E) : TE := fun σ H Q => ∃ ρ env s, RE C.G ρ H env σ ∧ Rep C.G ρ s H ∧ WpR C.G (relD C.G) (fun cls d H' => W cls d σ H') (eval C.c e env s) ρ H Q
def tA (C : CC) (W : WX) (es : List E) : TA := fun σ H Q => ∃ ρ env s, RE C.G ρ H env σ ∧ Rep C.G ρ s H ∧ WpR C.G (relL C.G) (fun cls d H' => W cls d σ H') (evals C.c es env s) ρ H Q
def tT (C : CC) (W : WX) (e : E) : TT := fun σ H Q => ∃ ρ env s, RE C.G ρ H env σ ∧ Rep C.G ρ s H ∧ WpR C.G relB (fun cls d H' => W cls d σ H') ((eval C.c e env s).bind toB) ρ H Q
/-- the expression x of the program runs as e -/
def CE (C : CC) (x : Expr) (e : E) : Prop := ∀ X W, Fit C X W → PE X x (tE C W e)
def CA (C : CC) (xs : List Expr) (es : List E) : Prop := ∀ X W, Fit C X W → PA X xs (tA C W es)
def CT (C : CC) (x : Expr) (e : E) : Prop := ∀ X W, Fit C X W → PT X x (tT C W e)

theorem PE.imp {X : Cx} {x : Expr} {t t' : TE} (h : PE X x t) (k : ∀ σ H Q, t' σ H Q → t σ H Q) : PE X x t' := ⟨fun pins s σ H Q I hw => h.run pins s σ H Q I (k σ H Q hw)⟩
theorem PT.imp {X : Cx} {x : Expr} {t t' : TT} (h : PT X x t) (k : ∀ σ H Q, t' σ H Q → t σ H Q) : PT X x t' := ⟨fun pins s σ H Q I hw => h.run pins s σ H Q I (k σ H Q hw)⟩
theorem PA.imp {X : Cx} {x : List Expr} {t t' : TA} (h : PA X x t) (k : ∀ σ H Q, t' σ H Q → t σ H Q) : PA X x t' := ⟨fun pos pins s σ H Q I hw => h.run pos pins s σ H Q I (k σ H Q hw)⟩
theorem PE.or {X : Cx} {x : Expr} {t t' : TE} (h : PE X x t) (h' : PE X x t') : PE X x (fun σ H Q => t σ H Q ∨ t' σ H Q) := ⟨fun pins s σ H Q I hw => by
  rcases hw with hw | hw
  · exact h.run pins s σ H Q I hw
  · exact h'.run pins s σ H Q I hw⟩

section
variable {C : CC} {x y z : Expr} {e e1 e2 e3 : E} {pos : Pos}
/-- behind one run in a row -/
theorem tE_of {W : WX} {σ : L2.St} {H : Hp} {ρ : List Addr} {env : Ev} {s : S} {e : E} {k : D → S → R D} {Q : VK} (re : RE C.G ρ H env σ) (rp : Rep C.G ρ s H)
    (h : WpR C.G (relD C.G) (fun cls d H' => W cls d σ H') ((eval C.c e env s).bind k) ρ H Q) :
    tE C W e σ H fun v H1 => ∃ ρ1 d s1, ρ <+: ρ1 ∧ KeepT H H1 ∧ RE C.G ρ1 H1 env σ ∧ Rep C.G ρ1 s1 H1 ∧ RD C.G ρ1 H1 d v ∧ WpR C.G (relD C.G) (fun cls d H' => W cls d σ H') (k d s1) ρ1 H1 Q :=
  ⟨ρ, env, s, re, rp, (WpR.bind h).mono (List.prefix_refl _) (KeepT.refl _) fun v H1 ⟨ρ1, a, s1, h1, h2, h3, h4, h5⟩ => ⟨ρ1, a, s1, h1, h2, re.mono h1 h2, h3, h4, h5⟩⟩
theorem tA_of {W : WX} {σ : L2.St} {H : Hp} {ρ : List Addr} {env : Ev} {s : S} {es : List E} {k : List D → S → R D} {Q : VK} (re : RE C.G ρ H env σ) (rp : Rep C.G ρ s H)
    (h : WpR C.G (relD C.G) (fun cls d H' => W cls d σ H') ((evals C.c es env s).bind k) ρ H Q) :
    tA C W es σ H fun v H1 => ∃ ρ1 d s1, ρ <+: ρ1 ∧ KeepT H H1 ∧ RE C.G ρ1 H1 env σ ∧ Rep C.G ρ1 s1 H1 ∧ RDs C.G ρ1 H1 d v ∧ WpR C.G (relD C.G) (fun cls d H' => W cls d σ H') (k d s1) ρ1 H1 Q :=
  ⟨ρ, env, s, re, rp, (WpR.bind h).mono (List.prefix_refl _) (KeepT.refl _) fun v H1 ⟨ρ1, a, s1, h1, h2, h3, h4, h5⟩ => ⟨ρ1, a, s1, h1, h2, re.mono h1 h2, h3, h4, h5⟩⟩
/-- a value that is at hand -/
theorem wp_ok {G : Gx} {W : XK} {ρ : List Addr} {H : Hp} {d : D} {s : S} {v : V} {Q : VK} (rp : Rep G ρ s H) (rd : RD G ρ H d v) (h : WpR G (relD G) W (.ok d s) ρ H Q) : Q v H := h ρ v H (List.prefix_refl _) (KeepT.refl _) rp rd

theorem ce_var (i : Nat) {n : Str} (hN : C.N[i]? = some n) (hv : Vis C.sc n) (hd : (n == ("__debug__" : Str)) = false := by decide) (hcd : (n == ("__classdict__" : Str)) = false := by decide) : CE C (.Name n pos) (.var i) := fun X W F => by
  refine PE.imp (pe_var (i := i) (by rw [F.N]; exact hN) (by rw [F.sc]; exact hv) hd hcd) fun σ H Q h => ?_
  obtain ⟨ρ, env, s, re, rp, h⟩ := h
  rw [eval] at h
  cases he : env[i]? with
  | none => rw [he] at h; exact h.elim
  | some o =>
    cases o with
    | none => rw [he] at h; exact h.elim
    | some d =>
      rw [he] at h
      obtain ⟨v, h1, h2⟩ := re.2 i d he
      exact ⟨v, h1, wp_ok rp h2 h⟩
theorem ce_int {i : Int} {k : Nat} : CE C (.Constant (.int i) k pos) (.con (.int i)) := fun X W F => PE.imp pe_int fun σ H Q ⟨ρ, env, s, re, rp, h⟩ => wp_ok rp (by rw [RD]) h
theorem ce_bl {b : Bool} {k : Nat} : CE C (.Constant (.bool b) k pos) (.con (.bl b)) := fun X W F => PE.imp pe_bl fun σ H Q ⟨ρ, env, s, re, rp, h⟩ => wp_ok rp (by rw [RD]) h
theorem ce_non {k : Nat} : CE C (.Constant .none k pos) (.con .non) := fun X W F => PE.imp pe_non fun σ H Q ⟨ρ, env, s, re, rp, h⟩ => wp_ok rp (by rw [RD]) h
theorem ce_str {z : Str} {k : Nat} : CE C (.Constant (.str z) k pos) (.con (.str z)) := fun X W F => PE.imp pe_str fun σ H Q ⟨ρ, env, s, re, rp, h⟩ => wp_ok rp (by rw [RD]) h
/-- a constant of the module -/
def valOf : D → Tok → Option Value
  | .non, _ => some .none
  | .bl b, _ => some (.bool b)
  | .int i, t => some (.int i t)
  | .str x, t => some (.str x t)
  | _, _ => none
theorem ce_glob {n : Str} {d : D} (hg : C.sc.names.lookup n = some .globalImplicit) (hm : ∃ t u, valOf d t = some u ∧ C.mg n = some u) (hd : (n == ("__debug__" : Str)) = false := by decide) : CE C (.Name n pos) (.con d) := fun X W F => by
  obtain ⟨t, u, h1, h2⟩ := hm
  have hg' : Gl X n := by
    show X.env.scope.names.lookup n = _
    rw [F.sc]
    exact hg
  rw [← F.mg] at h2
  cases d with
  | non =>
    cases h1
    exact PE.imp (pe_glob (v := .non) hg' h2 rfl hd) fun σ H Q ⟨ρ, env, s, re, rp, h⟩ => wp_ok rp (by rw [RD]) h
  | bl b =>
    cases h1
    exact PE.imp (pe_glob (v := .bl b) hg' h2 rfl hd) fun σ H Q ⟨ρ, env, s, re, rp, h⟩ => wp_ok rp (by rw [RD]) h
  | int b =>
    cases h1
    exact PE.imp (pe_glob (v := .int b) hg' h2 ⟨_, rfl⟩ hd) fun σ H Q ⟨ρ, env, s, re, rp, h⟩ => wp_ok rp (by rw [RD]) h
  | str b =>
    cases h1
    exact PE.imp (pe_glob (v := .str b) hg' h2 ⟨_, rfl⟩ hd) fun σ H Q ⟨ρ, env, s, re, rp, h⟩ => wp_ok rp (by rw [RD]) h
  | tup l => cases h1
  | frz l => cases h1
  | ref n => cases h1

/-- .. as a reading's test -/
theorem tT_of {W : WX} {σ : L2.St} {H : Hp} {ρ : List Addr} {env : Ev} {s : S} {e : E} {α β : Type} {rel : List Addr → Hp → α → β → Prop} {a b : S → R α} {Q : β → Hp → Prop} (re : RE C.G ρ H env σ) (rp : Rep C.G ρ s H)
    (h : WpR C.G rel (fun cls d H' => W cls d σ H') (condR (eval C.c e env s) a b) ρ H Q) :
    tT C W e σ H fun k H1 => ∃ ρ1 s1, ρ <+: ρ1 ∧ KeepT H H1 ∧ RE C.G ρ1 H1 env σ ∧ Rep C.G ρ1 s1 H1 ∧ WpR C.G rel (fun cls d H' => W cls d σ H') (if k = true then a s1 else b s1) ρ1 H1 Q := by
  unfold condR at h
  refine ⟨ρ, env, s, re, rp, (WpR.bind (rel := relB) h).mono (List.prefix_refl _) (KeepT.refl _) fun k H1 ⟨ρ1, k', s1, p, kt, rp1, e, q⟩ => ?_⟩
  have e : k' = k := e
  subst e
  exact ⟨ρ1, s1, p, kt, re.mono p kt, rp1, q⟩
/-- a bool as a value -/
theorem toB_wp {G : Gx} {W : XK} {ρ : List Addr} {H : Hp} {r : R D} {Q : Bool → Hp → Prop} (h : WpR G relB W (r.bind toB) ρ H Q) : WpR G (relD G) W r ρ H fun v H1 => ∃ k, v = .bl k ∧ Q k H1 := by
  cases r with
  | bad => exact h
  | exc c as s1 => exact h
  | ok d s1 =>
    cases d with
    | bl k =>
      intro ρ' v H' p kt rp' rl
      unfold relD at rl
      rw [RD] at rl
      exact ⟨k, rl, h ρ' k H' p kt rp' rfl⟩
    | _ => exact h.elim
/-- .. of a value's reading -/
theorem tE_cond {W : WX} {σ : L2.St} {H : Hp} {ρ : List Addr} {env : Ev} {s : S} {e : E} {a b : S → R D} {Q : VK} (re : RE C.G ρ H env σ) (rp : Rep C.G ρ s H)
    (h : WpR C.G (relD C.G) (fun cls d H' => W cls d σ H') (condR (eval C.c e env s) a b) ρ H Q) :
    tE C W e σ H fun v H1 => ∃ k, v = .bl k ∧ ∃ ρ1 s1, ρ <+: ρ1 ∧ KeepT H H1 ∧ RE C.G ρ1 H1 env σ ∧ Rep C.G ρ1 s1 H1 ∧ WpR C.G (relD C.G) (fun cls d H' => W cls d σ H') (if k = true then a s1 else b s1) ρ1 H1 Q := by
  obtain ⟨ρ0, env0, s0, re0, rp0, h0⟩ := tT_of re rp h
  exact ⟨ρ0, env0, s0, re0, rp0, toB_wp h0⟩

theorem ce_and {b : Expr} {r : List Expr} (h1 : CE C x e1) (h2 : CE C (.BoolOp .And (b :: r) pos) e2) : CE C (.BoolOp .And (x :: b :: r) pos) (.and e1 e2) := fun X W F => by
  refine PE.imp (pe_and (h1 X W F) (h2 X W F)) fun σ H Q ⟨ρ, env, s, re, rp, h⟩ => ?_
  rw [eval] at h
  obtain ⟨a, b, c, d, f, g⟩ := tE_cond re rp h
  refine ⟨a, b, c, d, f, g.mono (List.prefix_refl _) (KeepT.refl _) fun v H1 ⟨k, e, ρ1, s1, p, kt, re1, rp1, q⟩ => ⟨k, e, ?_⟩⟩
  cases k with
  | true => rw [if_pos rfl] at q ⊢; exact ⟨ρ1, env, s1, re1, rp1, q⟩
  | false => rw [if_neg Bool.false_ne_true] at q ⊢; exact wp_ok rp1 (by rw [RD]) q
theorem ce_or {b : Expr} {r : List Expr} (h1 : CE C x e1) (h2 : CE C (.BoolOp .Or (b :: r) pos) e2) : CE C (.BoolOp .Or (x :: b :: r) pos) (.or e1 e2) := fun X W F => by
  refine PE.imp (pe_or (h1 X W F) (h2 X W F)) fun σ H Q ⟨ρ, env, s, re, rp, h⟩ => ?_
  rw [eval] at h
  obtain ⟨a, b, c, d, f, g⟩ := tE_cond re rp h
  refine ⟨a, b, c, d, f, g.mono (List.prefix_refl _) (KeepT.refl _) fun v H1 ⟨k, e, ρ1, s1, p, kt, re1, rp1, q⟩ => ⟨k, e, ?_⟩⟩
  cases k with
  | true => rw [if_pos rfl] at q ⊢; exact wp_ok rp1 (by rw [RD]) q
  | false => rw [if_neg Bool.false_ne_true] at q ⊢; exact ⟨ρ1, env, s1, re1, rp1, q⟩
theorem ce_one {op : BoolOp} (h : CE C x e) : CE C (.BoolOp op [x] pos) e := fun X W F => pe_one (h X W F)
theorem ce_not (h1 : CE C x e1) : CE C (.UnaryOp .Not x pos) (.not e1) := fun X W F => by
  refine PE.imp (pe_not (h1 X W F)) fun σ H Q ⟨ρ, env, s, re, rp, h⟩ => ?_
  rw [eval] at h
  obtain ⟨a, b, c, d, f, g⟩ := tE_cond re rp h
  refine ⟨a, b, c, d, f, g.mono (List.prefix_refl _) (KeepT.refl _) fun v H1 ⟨k, e, ρ1, s1, p, kt, re1, rp1, q⟩ => ⟨k, e, ?_⟩⟩
  cases k with
  | true => rw [if_pos rfl] at q; exact wp_ok rp1 (by rw [RD]; rfl) q
  | false => rw [if_neg Bool.false_ne_true] at q; exact wp_ok rp1 (by rw [RD]; rfl) q
theorem ce_ife (hc : CT C x e1) (h2 : CE C y e2) (h3 : CE C z e3) : CE C (.IfExp x y z pos) (.ife e1 e2 e3) := fun X W F => by
  refine PE.imp (pe_ifExp (hc X W F) (h2 X W F) (h3 X W F)) fun σ H Q ⟨ρ, env, s, re, rp, h⟩ => ?_
  rw [eval] at h
  obtain ⟨a, b, c, d, f, g⟩ := tT_of re rp h
  refine ⟨a, b, c, d, f, g.mono (List.prefix_refl _) (KeepT.refl _) fun k H1 ⟨ρ1, s1, p, kt, re1, rp1, q⟩ => ?_⟩
  cases k with
  | true => rw [if_pos rfl] at q ⊢; exact ⟨ρ1, env, s1, re1, rp1, q⟩
  | false => rw [if_neg Bool.false_ne_true] at q ⊢; exact ⟨ρ1, env, s1, re1, rp1, q⟩

/-! ### tests -/
theorem tT_tB {W : WX} {e : E} {σ : L2.St} {H : Hp} {Q : Bool → Hp → Prop} (h : tT C W e σ H Q) : tB (tE C W e) σ H Q := by
  obtain ⟨ρ, env, s, re, rp, h⟩ := h
  exact ⟨ρ, env, s, re, rp, toB_wp h⟩
/-- an expression whose value is a bool -/
theorem ct_val (h1 : CE C x e) (he : ∀ env whole, isTrue x env whole = (do let v ← whole; standAt x.pos; holding [v] (truthy v)) := by intro _ _; rfl) : CT C x e := fun X W F =>
  PT.imp (pt_val (h1 X W F) (fun w => he _ w)) fun σ H Q h => tT_tB h
theorem ct_not (h1 : CT C x e1) : CT C (.UnaryOp .Not x pos) (.not e1) := fun X W F => by
  refine PT.imp (pt_not (h1 X W F)) fun σ H Q ⟨ρ, env, s, re, rp, h⟩ => ?_
  rw [eval] at h
  have h' : WpR C.G relB (fun cls d H' => W cls d σ H') (condR (eval C.c e1 env s) (fun s1 => .ok false s1) (fun s1 => .ok true s1)) ρ H Q := by
    unfold condR at h ⊢
    cases hr : (eval C.c e1 env s).bind toB with
    | bad => rw [hr] at h; exact h
    | exc c as s1 => rw [hr] at h; exact h
    | ok k s1 =>
      rw [hr] at h
      cases k <;> exact h
  obtain ⟨a, b, c, d, f, g⟩ := tT_of re rp h'
  refine ⟨a, b, c, d, f, g.mono (List.prefix_refl _) (KeepT.refl _) fun k H1 ⟨ρ1, s1, p, kt, re1, rp1, q⟩ => ?_⟩
  cases k with
  | true => rw [if_pos rfl] at q; exact q ρ1 _ H1 (List.prefix_refl _) (KeepT.refl _) rp1 rfl
  | false => rw [if_neg Bool.false_ne_true] at q; exact q ρ1 _ H1 (List.prefix_refl _) (KeepT.refl _) rp1 rfl
def CW (C : CC) (x : Expr) (e : E) : Prop := ∀ X W, Fit C X W → PW X x (tT C W e)
theorem PW.imp {X : Cx} {x : Expr} {t t' : TT} (h : PW X x t) (k : ∀ σ H Q, t' σ H Q → t σ H Q) : PW X x t' := ⟨fun wh pins s σ H Q I hw => h.run wh pins s σ H Q I (k σ H Q hw)⟩
/-- condR of bools -/
theorem cond_toB (r : R D) (a b : S → R D) : (condR r a b).bind toB = condR r (fun s => (a s).bind toB) (fun s => (b s).bind toB) := by
  unfold condR
  cases hr : r.bind toB with
  | bad => rfl
  | exc c as s1 => rfl
  | ok k s1 => cases k <;> rfl
theorem cw_and {b : Expr} {r : List Expr} (h1 : CT C x e1) (h2 : CW C (.BoolOp .And (b :: r) pos) e2) : CW C (.BoolOp .And (x :: b :: r) pos) (.and e1 e2) := fun X W F => by
  refine PW.imp (pw_and (h1 X W F) (h2 X W F)) fun σ H Q ⟨ρ, env, s, re, rp, h⟩ => ?_
  rw [eval, cond_toB] at h
  obtain ⟨a, b, c, d, f, g⟩ := tT_of re rp h
  refine ⟨a, b, c, d, f, g.mono (List.prefix_refl _) (KeepT.refl _) fun k H1 ⟨ρ1, s1, p, kt, re1, rp1, q⟩ => ?_⟩
  cases k with
  | true => rw [if_pos rfl] at q ⊢; exact ⟨ρ1, env, s1, re1, rp1, q⟩
  | false => rw [if_neg Bool.false_ne_true] at q ⊢; exact q ρ1 _ H1 (List.prefix_refl _) (KeepT.refl _) rp1 rfl
theorem cw_or {b : Expr} {r : List Expr} (h1 : CT C x e1) (h2 : CW C (.BoolOp .Or (b :: r) pos) e2) : CW C (.BoolOp .Or (x :: b :: r) pos) (.or e1 e2) := fun X W F => by
  refine PW.imp (pw_or (h1 X W F) (h2 X W F)) fun σ H Q ⟨ρ, env, s, re, rp, h⟩ => ?_
  rw [eval, cond_toB] at h
  obtain ⟨a, b, c, d, f, g⟩ := tT_of re rp h
  refine ⟨a, b, c, d, f, g.mono (List.prefix_refl _) (KeepT.refl _) fun k H1 ⟨ρ1, s1, p, kt, re1, rp1, q⟩ => ?_⟩
  cases k with
  | true => rw [if_pos rfl] at q ⊢; exact q ρ1 _ H1 (List.prefix_refl _) (KeepT.refl _) rp1 rfl
  | false => rw [if_neg Bool.false_ne_true] at q ⊢; exact ⟨ρ1, env, s1, re1, rp1, q⟩
theorem cw_and1 (h : CT C x e) : CW C (.BoolOp .And [x] pos) e := fun X W F => pw_and1 (h X W F)
theorem cw_or1 (h : CT C x e) : CW C (.BoolOp .Or [x] pos) e := fun X W F => pw_or1 (h X W F)
theorem CW.ct (h : CW C x e) : CT C x e := fun X W F => (h X W F).pt

/-! ### arguments -/
theorem ca_nil : CA C [] [] := fun X W F => PA.imp pa_nil fun σ H Q ⟨ρ, env, s, re, rp, h⟩ => h ρ [] H (List.prefix_refl _) (KeepT.refl _) rp (rds_nil.mpr rfl)
theorem ca_cons {xs : List Expr} {es : List E} (h1 : CE C x e) (h2 : CA C xs es) (hs : ∀ env, starEach (x :: xs) env = (false, PySem.eval x env) :: starEach xs env := by intro _; rfl) : CA C (x :: xs) (e :: es) := fun X W F => by
  refine PA.imp (pa_cons (h1 X W F) (h2 X W F) (hs _)) fun σ H Q ⟨ρ, env, s, re, rp, h⟩ => ?_
  rw [evals] at h
  refine ⟨ρ, env, s, re, rp, (WpR.bind (rel := relD C.G) h).mono (List.prefix_refl _) (KeepT.refl _) fun v H1 ⟨ρ1, d, s1, p1, k1, rp1, rd1, q1⟩ => ?_⟩
  refine ⟨ρ1, env, s1, re.mono p1 k1, rp1, (WpR.bind (rel := relL C.G) q1).mono (List.prefix_refl _) (KeepT.refl _) fun vs H2 ⟨ρ2, ds, s2, p2, k2, rp2, rd2, q2⟩ => ?_⟩
  exact q2 ρ2 _ H2 (List.prefix_refl _) (KeepT.refl _) rp2 (rds_cc.mpr ⟨rd1.mono p2 k2, rd2⟩)

/-! ### the calls of defs -/
theorem ce_call {n : Str} {i : Nat} {fi : FnI} {xs : List Expr} {es : List E} {p : Pos} (hi : C.fns[i]? = some fi) (hn : fi.name = n) (hg : C.sc.names.lookup n = some .globalImplicit) (ha : CA C (x :: xs) es)
    (hdb : (n == ("__debug__" : Str)) = false := by decide) (he : ∀ env, starEach (x :: xs) env = (false, PySem.eval x env) :: starEach xs env := by intro _; rfl) (hpl : ∀ env, (backTo pos (starEach xs env)).any (·.1) = false := by intro _; rfl) :
    CE C (.Call (.Name n p) (x :: xs) [] pos) (.call i es) := fun X W F => by
  subst hn
  obtain ⟨f, fd, h1, h2, h3, h4⟩ := F.fn i fi hi
  refine PE.imp (pe_callS h4 F.room (show X.env.scope.names.lookup _ = _ by rw [F.sc]; exact hg) h1 h2 h3 (fun σ => passAt F.tk σ) (ha X W F) hdb (he _) (hpl _)) fun σ H Q ⟨ρ, env, s, re, rp, h⟩ => ?_
  rw [eval] at h
  obtain ⟨a, b, c, d, f, g⟩ := tA_of re rp h
  exact ⟨a, b, c, d, f, g.mono (List.prefix_refl _) (KeepT.refl _) fun vs H1 ⟨ρ1, ds, s1, p, kt, re1, rp1, rd1, q⟩ => ⟨ρ1, ds, s1, rd1, rp1, q⟩⟩
end
end Mini
set_option Elab.async false
set_option linter.all false
set_option maxRecDepth 100000
set_option maxHeartbeats 1000000
/-! Mini 4: the operations. -/
namespace Mini
open PySem L2 PyProof.Rows

theorem R.bind_assoc {α β γ : Type} (r : R α) (f : α → S → R β) (g : β → S → R γ) : (r.bind f).bind g = r.bind fun a s => (f a s).bind g := by cases r <;> rfl
section
variable {c : Cfg} {env : Ev} {s : S} {p : P} {a b e : E}
theorem eval_prim0 : eval c (.prim p []) env s = ofOpt (prim p [] s) := by rw [eval, evals]; rfl
theorem eval_prim1 : eval c (.prim p [a]) env s = (eval c a env s).bind fun x s1 => ofOpt (prim p [x] s1) := by
  rw [eval, evals, R.bind_assoc]
  congr 1
theorem eval_prim2 : eval c (.prim p [a, b]) env s = (eval c a env s).bind fun x s1 => (eval c b env s1).bind fun y s2 => ofOpt (prim p [x, y] s2) := by
  rw [eval, evals, R.bind_assoc]
  congr 1
  funext x s1
  rw [evals, R.bind_assoc, R.bind_assoc]
  congr 1
theorem eval_prim3 : eval c (.prim p [a, b, e]) env s = (eval c a env s).bind fun x s1 => (eval c b env s1).bind fun y s2 => (eval c e env s2).bind fun z s3 => ofOpt (prim p [x, y, z] s3) := by
  rw [eval, evals, R.bind_assoc]
  congr 1
  funext x s1
  rw [evals, R.bind_assoc, R.bind_assoc]
  congr 1
  funext y s2
  rw [evals, R.bind_assoc, R.bind_assoc]
  congr 1
end
/-- what is told of a value and a store, reached from H -/
def Got (G : Gx) (ρ : List Addr) (H : Hp) (d : D) (s' : S) (Q : VK) : Prop := ∀ ρ' v H', ρ <+: ρ' → KeepT H H' → Rep G ρ' s' H' → RD G ρ' H' d v → Q v H'
theorem wp_opt {G : Gx} {W : XK} {ρ : List Addr} {H : Hp} {o : Option (D × S)} {Q : VK} (h : WpR G (relD G) W (ofOpt o) ρ H Q) : ∃ d s', o = some (d, s') ∧ Got G ρ H d s' Q := by
  cases o with
  | none => exact h.elim
  | some p => exact ⟨p.1, p.2, rfl, h⟩
theorem Got.here {G : Gx} {ρ : List Addr} {H : Hp} {d : D} {s' : S} {Q : VK} (g : Got G ρ H d s' Q) (rp : Rep G ρ s' H) {v : V} (rd : RD G ρ H d v) : Q v H := g ρ v H (List.prefix_refl _) (KeepT.refl _) rp rd
/-- a new object -/
theorem Got.laid {G : Gx} {ρ : List Addr} {H : Hp} {s : S} {o : O} {ho : HO} {Q : VK} {p : Addr} (g : Got G ρ H (.ref s.length) (s ++ [o]) Q) (rp : Rep G ρ s H) (hp : H p = none)
    (h : ∀ ρ' H', ρ <+: ρ' → KeepT H H' → H' p = some ho → RO G ρ' H' p o) : Q (.ref p) (upd H p ho) :=
  g (ρ ++ [p]) _ _ pre_push (KeepT.new hp) (rp.push hp h) (by rw [RD]; exact ⟨p, rfl, rp.last⟩)
/-- a new tuple -/
theorem Got.tuple {G : Gx} {ρ : List Addr} {H : Hp} {s : S} {l : List D} {xs : List V} {Q : VK} {p : Addr} (g : Got G ρ H (.tup l) s Q) (rp : Rep G ρ s H) (hp : H p = none) (h : RDs G ρ H l xs) : Q (.ref p) (upd H p (.tup xs)) :=
  g ρ _ _ (List.prefix_refl _) (KeepT.new hp) (rp.new hp) (by rw [RD]; exact ⟨p, xs, rfl, upd_same, h.mono (List.prefix_refl _) (KeepT.new hp)⟩)
/-- an object changed -/
theorem Got.wrote {G : Gx} {ρ : List Addr} {H : Hp} {s : S} {n : Nat} {o : O} {ho : HO} {Q : VK} {a : Addr} {d : D} {v : V} (g : Got G ρ H d (s.set n o) Q) (rp : Rep G ρ s H) (hn : ρ[n]? = some a) (rd : RD G ρ H d v)
    (h : ∀ H', KeepT H H' → H' a = some ho → RO G ρ H' a o) : Q v (upd H a ho) := by
  obtain ⟨o1, h1, h2⟩ := rp.at' hn
  obtain ⟨u, hu, wu⟩ := h2.there
  exact g ρ v _ (List.prefix_refl _) (KeepT.wr hu wu) (rp.write hn h) (rd.mono (List.prefix_refl _) (KeepT.wr hu wu))

def Pr1 (G : Gx) (p : P) (r : V → Hp → VK → Prop) : Prop := ∀ ρ H s dx x d s' Q, Rep G ρ s H → RD G ρ H dx x → prim p [dx] s = some (d, s') → Got G ρ H d s' Q → r x H Q
def Pr2 (G : Gx) (p : P) (r : R2) : Prop := ∀ ρ H s dx dy x y d s' Q, Rep G ρ s H → RD G ρ H dx x → RD G ρ H dy y → prim p [dx, dy] s = some (d, s') → Got G ρ H d s' Q → r x y H Q
def PrL (G : Gx) (p : P) (r : List V → Hp → VK → Prop) : Prop := ∀ ρ H s ds xs d s' Q, Rep G ρ s H → RDs G ρ H ds xs → prim p ds s = some (d, s') → Got G ρ H d s' Q → r xs H Q

section
variable {C : CC} {x y z : Expr} {e e1 e2 e3 : E} {pos : Pos}
/-- two operands -/
theorem tE_two {W : WX} {p : P} {r : R2} {σ : L2.St} {H : Hp} {Q : VK} (hp : Pr2 C.G p r) (h : tE C W (.prim p [e1, e2]) σ H Q) : tE C W e1 σ H fun x H1 => tE C W e2 σ H1 fun y H2 => r x y H2 Q := by
  obtain ⟨ρ, env, s, re, rp, h⟩ := h
  rw [eval_prim2] at h
  obtain ⟨a, b, c, d, f, g⟩ := tE_of re rp h
  refine ⟨a, b, c, d, f, g.mono (List.prefix_refl _) (KeepT.refl _) fun vx H1 ⟨ρ1, dx, s1, p1, k1, re1, rp1, rd1, q1⟩ => ?_⟩
  obtain ⟨a, b, c, d, f, g⟩ := tE_of re1 rp1 q1
  refine ⟨a, b, c, d, f, g.mono (List.prefix_refl _) (KeepT.refl _) fun vy H2 ⟨ρ2, dy, s2, p2, k2, re2, rp2, rd2, q2⟩ => ?_⟩
  obtain ⟨d, s', ho, g⟩ := wp_opt q2
  exact hp ρ2 H2 s2 dx dy vx vy d s' Q rp2 (rd1.mono p2 k2) rd2 ho g
theorem tE_one {W : WX} {p : P} {r : V → Hp → VK → Prop} {σ : L2.St} {H : Hp} {Q : VK} (hp : Pr1 C.G p r) (h : tE C W (.prim p [e1]) σ H Q) : tE C W e1 σ H fun x H1 => r x H1 Q := by
  obtain ⟨ρ, env, s, re, rp, h⟩ := h
  rw [eval_prim1] at h
  obtain ⟨a, b, c, d, f, g⟩ := tE_of re rp h
  refine ⟨a, b, c, d, f, g.mono (List.prefix_refl _) (KeepT.refl _) fun vx H1 ⟨ρ1, dx, s1, p1, k1, re1, rp1, rd1, q1⟩ => ?_⟩
  obtain ⟨d, s', ho, g⟩ := wp_opt q1
  exact hp ρ1 H1 s1 dx vx d s' Q rp1 rd1 ho g
theorem tA_all {W : WX} {p : P} {es : List E} {r : List V → Hp → VK → Prop} {σ : L2.St} {H : Hp} {Q : VK} (hp : PrL C.G p r) (h : tE C W (.prim p es) σ H Q) : tA C W es σ H fun x H1 => r x H1 Q := by
  obtain ⟨ρ, env, s, re, rp, h⟩ := h
  rw [eval] at h
  obtain ⟨a, b, c, d, f, g⟩ := tA_of re rp h
  refine ⟨a, b, c, d, f, g.mono (List.prefix_refl _) (KeepT.refl _) fun vx H1 ⟨ρ1, dx, s1, p1, k1, re1, rp1, rd1, q1⟩ => ?_⟩
  obtain ⟨d, s', ho, g⟩ := wp_opt q1
  exact hp ρ1 H1 s1 dx vx d s' Q rp1 rd1 ho g
theorem ce_op {op : Operator} {p : P} {r : PySem.W.Frag → R2} (ho : ∀ X : Cx, X.calm = true → OpR X (binaryOp op) (r X.K)) (hp : Pr2 C.G p (r C.G.K)) (h1 : CE C x e1) (h2 : CE C y e2) : CE C (.BinOp x op y pos) (.prim p [e1, e2]) := fun X W F =>
  PE.imp (pe_op (ho X F.calm) (h1 X W F) (h2 X W F)) fun σ H Q h => by
    rw [F.K]
    exact tE_two hp h
theorem ce_cmp {op : CmpOp} {p : P} {r : PySem.W.Frag → R2} (ho : ∀ X : Cx, X.A.units + 200 < cLine → OpR X (compareOp op) (r X.K)) (hp : Pr2 C.G p (r C.G.K)) (h1 : CE C x e1) (h2 : CE C y e2) (hm : behindInMarks op y = false := by first | exact nomark _ (by decide) (by decide) | rfl) : CE C (.Compare x [op] [y] pos) (.prim p [e1, e2]) := fun X W F =>
  PE.imp (pe_cmpR (ho X (by have := F.room.un; omega)) (h1 X W F) (h2 X W F) hm) fun σ H Q h => by
    rw [F.K]
    exact tE_two hp h
theorem ct_cmp {op : CmpOp} {p : P} {r : PySem.W.Frag → R2} (ho : ∀ X : Cx, X.A.units + 200 < cLine → OpR X (compareOp op) (r X.K)) (hp : Pr2 C.G p (r C.G.K)) (h1 : CE C x e1) (h2 : CE C y e2) (hm : behindInMarks op y = false := by first | exact nomark _ (by decide) (by decide) | rfl) : CT C (.Compare x [op] [y] pos) (.prim p [e1, e2]) := fun X W F =>
  PT.imp (pt_cmpR (ho X (by have := F.room.un; omega)) (h1 X W F) (h2 X W F) hm) fun σ H Q h => by
    rw [F.K]
    exact tE_two (Q := fun v H1 => ∃ k, v = .bl k ∧ Q k H1) hp (tT_tB h)
theorem tE_chain {W : WX} {p q : P} {r r' : R2} {σ : L2.St} {H : Hp} {Q : VK} (hp : Pr2 C.G p r) (hq : Pr2 C.G q r') (h : tE C W (.chn p q e1 e2 e3) σ H Q) : tChain r r' (tE C W e1) (tE C W e2) (tE C W e3) σ H Q := by
  obtain ⟨ρ, env, s, re, rp, h⟩ := h
  rw [eval] at h
  obtain ⟨a, b, c, d, f, g⟩ := tE_of re rp h
  refine ⟨a, b, c, d, f, g.mono (List.prefix_refl _) (KeepT.refl _) fun vx H1 ⟨ρ1, dx, s1, p1, k1, re1, rp1, rd1, q1⟩ => ?_⟩
  obtain ⟨a, b, c, d, f, g⟩ := tE_of re1 rp1 q1
  refine ⟨a, b, c, d, f, g.mono (List.prefix_refl _) (KeepT.refl _) fun vy H2 ⟨ρ2, dy, s2, p2, k2, re2, rp2, rd2, q2⟩ => ?_⟩
  unfold condR at q2
  have q3 := toB_wp (WpR.bind (rel := relB) q2)
  obtain ⟨d, s', ho, g⟩ := wp_opt q3
  refine hp ρ2 H2 s2 dx dy vx vy d s' _ rp2 (rd1.mono p2 k2) rd2 ho fun ρ3 v H3 p3 k3 rp3 rd3 => ?_
  obtain ⟨k, ev, ρ4, k', s4, p4, k4, rp4, ek, q4⟩ := g ρ3 v H3 p3 k3 rp3 rd3
  have ek : k' = k := ek
  subst ek
  refine ⟨k', ev, ?_⟩
  cases k' with
  | false => rw [if_neg Bool.false_ne_true] at q4 ⊢; exact wp_ok rp4 (by rw [RD]) q4
  | true =>
    rw [if_pos rfl] at q4 ⊢
    have rey := re2.mono p4 k4
    obtain ⟨a, b, c, d, f, g⟩ := tE_of rey rp4 q4
    refine ⟨a, b, c, d, f, g.mono (List.prefix_refl _) (KeepT.refl _) fun vz H5 ⟨ρ5, dz, s5, p5, k5, re5, rp5, rd5, q5⟩ => ?_⟩
    obtain ⟨d, s', ho, g⟩ := wp_opt q5
    exact hq ρ5 H5 s5 dy dz vy vz d s' Q rp5 ((rd2.mono p4 k4).mono p5 k5) rd5 ho g
theorem ce_chn {op op' : CmpOp} {p q : P} {r r' : PySem.W.Frag → R2} (ho : ∀ X : Cx, X.A.units + 200 < cLine → OpR X (compareOp op) (r X.K)) (ho' : ∀ X : Cx, X.A.units + 200 < cLine → OpR X (compareOp op') (r' X.K)) (hp : Pr2 C.G p (r C.G.K)) (hq : Pr2 C.G q (r' C.G.K))
    (h1 : CE C x e1) (h2 : CE C y e2) (h3 : CE C z e3) (hm : lastMarks [op, op'] [y, z] = false := by with_unfolding_all rfl) : CE C (.Compare x [op, op'] [y, z] pos) (.chn p q e1 e2 e3) := fun X W F =>
  PE.imp (pe_chain (ho X (by have := F.room.un; omega)) (ho' X (by have := F.room.un; omega)) (h1 X W F) (h2 X W F) (h3 X W F) hm) fun σ H Q h => by
    rw [F.K]
    exact tE_chain hp hq h
theorem ct_chn {op op' : CmpOp} {p q : P} {r r' : PySem.W.Frag → R2} (ho : ∀ X : Cx, X.A.units + 200 < cLine → OpR X (compareOp op) (r X.K)) (ho' : ∀ X : Cx, X.A.units + 200 < cLine → OpR X (compareOp op') (r' X.K)) (hp : Pr2 C.G p (r C.G.K)) (hq : Pr2 C.G q (r' C.G.K))
    (h1 : CE C x e1) (h2 : CE C y e2) (h3 : CE C z e3) (hm : lastMarks [op, op'] [y, z] = false := by with_unfolding_all rfl) : CT C (.Compare x [op, op'] [y, z] pos) (.chn p q e1 e2 e3) := fun X W F =>
  PT.imp (pt_chain (ho X (by have := F.room.un; omega)) (ho' X (by have := F.room.un; omega)) (h1 X W F) (h2 X W F) (h3 X W F) hm) fun σ H Q h => by
    rw [F.K]
    exact tE_chain hp hq (tT_tB h)
/-- a built-in function, a built-in class, called -/
theorem ce_blt {n : Str} {id : String} {p : P} {r : PySem.W.Frag → List V → Hp → VK → Prop} {xs : List Expr} {es : List E} {ps : Pos} (hc : ∀ X : Cx, X.calm = true → CallR X (.builtin id) (r X.K)) (hp : PrL C.G p (r C.G.K)) (hv : bootBuiltins n = some (.builtin id))
    (hg : C.sc.names.lookup n = some .globalImplicit) (hm : C.mg n = none) (ha : CA C (x :: xs) es) (hn : n ≠ "__name__" := by decide) (hdb : (n == ("__debug__" : Str)) = false := by decide)
    (he : ∀ env, starEach (x :: xs) env = (false, PySem.eval x env) :: starEach xs env := by intro _; rfl) (hpl : ∀ env, (backTo pos (starEach xs env)).any (·.1) = false := by intro _; rfl) : CE C (.Call (.Name n ps) (x :: xs) [] pos) (.prim p es) := fun X W F =>
  PE.imp (pe_callB (hc X F.calm) (show X.env.scope.names.lookup _ = _ by rw [F.sc]; exact hg) (by rw [F.mg]; exact hm) hv (ha X W F) hn hdb (he _) (hpl _)) fun σ H Q h => by
    rw [F.K]
    exact tA_all hp h
theorem ce_typ {n : Str} {T : String} {p : P} {r : PySem.W.Frag → List V → Hp → VK → Prop} {xs : List Expr} {es : List E} {ps : Pos} (hc : ∀ X : Cx, X.calm = true → CallR X (.type T) (r X.K)) (hp : PrL C.G p (r C.G.K)) (hv : bootBuiltins n = some (.type T))
    (hg : C.sc.names.lookup n = some .globalImplicit) (hm : C.mg n = none) (ha : CA C (x :: xs) es) (hn : n ≠ "__name__" := by decide) (hdb : (n == ("__debug__" : Str)) = false := by decide)
    (he : ∀ env, starEach (x :: xs) env = (false, PySem.eval x env) :: starEach xs env := by intro _; rfl) (hpl : ∀ env, (backTo pos (starEach xs env)).any (·.1) = false := by intro _; rfl) : CE C (.Call (.Name n ps) (x :: xs) [] pos) (.prim p es) := fun X W F =>
  PE.imp (pe_callTy (hc X F.calm) (show X.env.scope.names.lookup _ = _ by rw [F.sc]; exact hg) (by rw [F.mg]; exact hm) hv (ha X W F) hn hdb (he _) (hpl _)) fun σ H Q h => by
    rw [F.K]
    exact tA_all hp h
end

/-! ### ints -/
section
variable {G : Gx}
theorem OpR.imp {X : Cx} {f : Value → Value → Sem Value} {r r' : R2} (h : OpR X f r) (k : ∀ x y H Q, r' x y H Q → r x y H Q) : OpR X f r' := fun pins s σ H x y v u Q I rx ry q => h pins s σ H x y v u Q I rx ry (k x y H Q q)
def rAdd' (K : PySem.W.Frag) : R2 := fun x y H Q => rI0 (fun i j => .int (i + j)) x y H Q ∨ (∃ i k, x = .int i ∧ y = .bl k ∧ Q (.int (i + b2i k)) H) ∨ rCatA K x y H Q ∨ rCat x y H Q ∨ (∃ i j, x = .str i ∧ y = .str j ∧ i.length + j.length ≤ sizeLine ∧ Q (.str (i ++ j)) H)
theorem op_add' (X : Cx) : OpR X (binaryOp .Add) (rAdd' X.K) := op_add.or (op_add_ib.or (op_catA.or (op_cat.or op_add_str)))
theorem pr_add : Pr2 G .add (rAdd' G.K) := by
  intro ρ H s dx dy x y d s' Q rp rx ry hp g
  cases dx with
  | int i =>
    rw [RD] at rx
    subst rx
    cases dy with
    | int j =>
      rw [RD] at ry
      subst ry
      cases hp
      exact .inl ⟨i, j, rfl, rfl, g.here rp (by rw [RD])⟩
    | bl j =>
      rw [RD] at ry
      subst ry
      cases hp
      exact .inr (.inl ⟨i, j, rfl, rfl, g.here rp (by rw [RD])⟩)
    | _ => cases hp
  | tup l =>
    cases dy with
    | tup m =>
      have rx0 := rx
      have ry0 := ry
      rw [RD] at rx ry
      obtain ⟨a, xs, rfl, ha, hxs⟩ := rx
      obtain ⟨b, ys, rfl, hb, hys⟩ := ry
      have hp : (if l.length + m.length ≤ LIM then some (D.tup (l ++ m), s) else none) = some (d, s') := hp
      by_cases hz : l.length + m.length ≤ LIM
      · rw [if_pos hz] at hp
        cases hp
        refine .inr (.inr (.inl ⟨a, b, xs, ys, rfl, rfl, SqT.of ha, SqT.of hb, ?_, fun z => ?_, fun _ z => ?_, fun _ _ p hp => g.tuple rp hp (hxs.append hys)⟩))
        · rw [← hxs.len, ← hys.len]
          exact Nat.le_trans hz lim_line
        · subst z
          have : l = [] := List.length_eq_zero_iff.mp hxs.len
          subst this
          exact g.here rp ry0
        · subst z
          have : m = [] := List.length_eq_zero_iff.mp hys.len
          subst this
          rw [List.append_nil] at g
          exact g.here rp rx0
      · rw [if_neg hz] at hp
        cases hp
    | _ => cases hp
  | str z =>
    cases dy with
    | str w =>
      rw [RD] at rx ry
      subst rx ry
      have hp : (if z.length + w.length ≤ LIM then some (D.str (z ++ w), s) else none) = some (d, s') := hp
      by_cases hz : z.length + w.length ≤ LIM
      · rw [if_pos hz] at hp
        cases hp
        exact .inr (.inr (.inr (.inr ⟨z, w, rfl, rfl, Nat.le_trans hz lim_line, g.here rp (by rw [RD])⟩)))
      · rw [if_neg hz] at hp
        cases hp
    | _ => cases hp
  | ref n =>
    cases dy with
    | ref m =>
      rw [RD] at rx ry
      obtain ⟨a, rfl, ha⟩ := rx
      obtain ⟨b, rfl, hb⟩ := ry
      obtain ⟨o, ho, ro⟩ := rp.at' ha
      obtain ⟨o2, ho2, ro2⟩ := rp.at' hb
      have hp : (match s[n]?, s[m]? with | some (O.lst l), some (O.lst m) => if l.length + m.length ≤ LIM then mk s (.lst (l ++ m)) else none | _, _ => none) = some (d, s') := hp
      rw [ho, ho2] at hp
      cases o with
      | lst l =>
        cases o2 with
        | lst k =>
          have hp : (if l.length + k.length ≤ LIM then mk s (.lst (l ++ k)) else none) = some (d, s') := hp
          by_cases hz : l.length + k.length ≤ LIM
          · rw [if_pos hz] at hp
            cases hp
            obtain ⟨xs, h1, h2⟩ := ro
            obtain ⟨ys, h3, h4⟩ := ro2
            refine .inr (.inr (.inr (.inl ⟨a, b, xs, ys, rfl, rfl, h1, h3, ?_, fun p hp => g.laid rp hp fun ρ' H' pr kt e => ⟨_, e, (h2.append h4).mono pr kt⟩⟩)))
            rw [← h2.len, ← h4.len]
            exact Nat.le_trans hz lim_line
          · rw [if_neg hz] at hp
            cases hp
        | _ => cases hp
      | _ => cases hp
    | _ => cases hp
  | _ => cases hp
end
end Mini
set_option Elab.async false
set_option linter.all false
set_option maxRecDepth 100000
set_option maxHeartbeats 1000000
/-! Mini 5: the operations, one by one. -/
namespace Mini
open PySem L2 PyProof.Rows

section
variable {G : Gx} {ρ : List Addr} {H : Hp} {s : S}
theorem rd_lst {n : Nat} {x : V} {l : List D} (rp : Rep G ρ s H) (rx : RD G ρ H (.ref n) x) (h : s[n]? = some (.lst l)) : ∃ a xs, x = .ref a ∧ ρ[n]? = some a ∧ H a = some (.lst xs) ∧ RDs G ρ H l xs := by
  rw [RD] at rx
  obtain ⟨a, rfl, ha⟩ := rx
  obtain ⟨xs, h1, h2⟩ := rp.ob n _ a h ha
  exact ⟨a, xs, rfl, ha, h1, h2⟩
theorem rd_dct {n : Nat} {x : V} {l : List (Key × D)} (rp : Rep G ρ s H) (rx : RD G ρ H (.ref n) x) (h : s[n]? = some (.dct l)) : ∃ a xs, x = .ref a ∧ ρ[n]? = some a ∧ H a = some (.dK xs) ∧ RK G ρ H l xs := by
  rw [RD] at rx
  obtain ⟨a, rfl, ha⟩ := rx
  obtain ⟨xs, h1, h2⟩ := rp.ob n _ a h ha
  exact ⟨a, xs, rfl, ha, h1, h2⟩
theorem rd_lck {n : Nat} {x : V} {l : List (Key × D)} (rp : Rep G ρ s H) (rx : RD G ρ H (.ref n) x) (h : s[n]? = some (.lck l)) : ∃ a o xs, x = .ref a ∧ ρ[n]? = some a ∧ H a = some (.frz o (.dK xs)) ∧ RK G ρ H l xs := by
  rw [RD] at rx
  obtain ⟨a, rfl, ha⟩ := rx
  obtain ⟨o, xs, h1, h2⟩ := rp.ob n _ a h ha
  exact ⟨a, o, xs, rfl, ha, h1, h2⟩
theorem rd_int {i : Int} {x : V} : RD G ρ H (.int i) x ↔ x = .int i := by rw [RD]
theorem rd_bl {i : Bool} {x : V} : RD G ρ H (.bl i) x ↔ x = .bl i := by rw [RD]
theorem rd_str {i : Str} {x : V} : RD G ρ H (.str i) x ↔ x = .str i := by rw [RD]
theorem rd_non {x : V} : RD G ρ H .non x ↔ x = .non := by rw [RD]
theorem rd_tup {l : List D} {x : V} : RD G ρ H (.tup l) x ↔ ∃ a xs, x = .ref a ∧ H a = some (.tup xs) ∧ RDs G ρ H l xs := by rw [RD]
theorem rd_frz {l : List D} {x : V} : RD G ρ H (.frz l) x ↔ ∃ a xs, x = .ref a ∧ Frz G.K H a xs ∧ RDs G ρ H l xs := by rw [RD]
/-- what has items -/
theorem items_sq {d : D} {x : V} {l : List D} (rp : Rep G ρ s H) (rx : RD G ρ H d x) (h : items s d = some l) : ∃ a xs, x = .ref a ∧ (SqL G.K H a xs ∨ SqT G.K H a xs) ∧ RDs G ρ H l xs := by
  cases d with
  | tup m =>
    cases h
    obtain ⟨a, xs, rfl, h1, h2⟩ := rd_tup.mp rx
    exact ⟨a, xs, rfl, .inr (SqT.of h1), h2⟩
  | frz m =>
    cases h
    obtain ⟨a, xs, rfl, h1, h2⟩ := rd_frz.mp rx
    exact ⟨a, xs, rfl, .inl h1.sq, h2⟩
  | ref n =>
    have h : (match s[n]? with | some (.lst l) => some l | _ => none) = some l := h
    cases ho : s[n]? with
    | none => rw [ho] at h; cases h
    | some o =>
      rw [ho] at h
      cases o with
      | lst k =>
        cases h
        obtain ⟨a, xs, rfl, h1, h2, h3⟩ := rd_lst rp rx ho
        exact ⟨a, xs, rfl, .inl (SqL.of h2), h3⟩
      | _ => cases h
  | _ => cases h
theorem intsD_of : ∀ {l : List D} {ns : List Int}, intsD l = some ns → l = ns.map D.int
  | [], ns, h => by
    have : ns = [] := (Option.some.inj h).symm
    subst this
    rfl
  | d :: l, ns, h => by
    unfold intsD at h
    rw [List.mapM_cons] at h
    cases d with
    | int i =>
      cases hr : l.mapM asInt with
      | none => rw [hr] at h; cases h
      | some ms =>
        rw [hr] at h
        cases h
        rw [List.map_cons, ← intsD_of (l := l) (ns := ms) hr]
    | _ => cases h
theorem blsD_of : ∀ {l : List D} {ns : List Bool}, blsD l = some ns → l = ns.map D.bl
  | [], ns, h => by
    have : ns = [] := (Option.some.inj h).symm
    subst this
    rfl
  | d :: l, ns, h => by
    unfold blsD at h
    rw [List.mapM_cons] at h
    cases d with
    | bl i =>
      cases hr : l.mapM asBl with
      | none => rw [hr] at h; cases h
      | some ms =>
        rw [hr] at h
        cases h
        rw [List.map_cons, ← blsD_of (l := l) (ns := ms) hr]
    | _ => cases h
theorem intsD_map : ∀ (ns : List Int), intsD (ns.map D.int) = some ns
  | [] => rfl
  | n :: ns => by
    unfold intsD
    rw [List.map_cons, List.mapM_cons]
    have := intsD_map ns
    unfold intsD at this
    rw [this]
    rfl
theorem blsD_map : ∀ (ns : List Bool), blsD (ns.map D.bl) = some ns
  | [] => rfl
  | n :: ns => by
    unfold blsD
    rw [List.map_cons, List.mapM_cons]
    have := blsD_map ns
    unfold blsD at this
    rw [this]
    rfl
end

/-! ### two ints -/
section
variable {G : Gx}
theorem pr_sub : Pr2 G .sub (rI0 fun i j => .int (i - j)) := by
  intro ρ H s dx dy x y d s' Q rp rx ry hp g
  cases dx with
  | int i =>
    cases dy with
    | int j =>
      cases rd_int.mp rx
      cases rd_int.mp ry
      cases hp
      exact ⟨i, j, rfl, rfl, g.here rp (rd_int.mpr rfl)⟩
    | _ => cases hp
  | _ => cases hp
def rMul' (K : PySem.W.Frag) : R2 := fun x y H Q => rI CMul (fun i j => .int (i * j)) x y H Q ∨ rRep x y H Q ∨ rRepT K x y H Q
theorem op_mul' (X : Cx) : OpR X (binaryOp .Mult) (rMul' X.K) := op_mul.or (op_rep.or op_repT)
theorem cmul_of {i j : Int} (h : i.natAbs < 2 ^ 64 ∨ j.natAbs < 2 ^ 64) : CMul i j := by
  rcases h with h | h
  · exact .inl ⟨by omega, by omega⟩
  · exact .inr ⟨by omega, by omega⟩
theorem pr_mul : Pr2 G .mul (rMul' G.K) := by
  intro ρ H s dx dy x y d s' Q rp rx ry hp g
  cases dx with
  | int i =>
    cases dy with
    | int j =>
      cases rd_int.mp rx
      cases rd_int.mp ry
      have hp : (if i.natAbs < 2 ^ 64 ∨ j.natAbs < 2 ^ 64 then some (D.int (i * j), s) else none) = some (d, s') := hp
      by_cases hz : i.natAbs < 2 ^ 64 ∨ j.natAbs < 2 ^ 64
      · rw [if_pos hz] at hp
        cases hp
        exact .inl ⟨i, j, rfl, rfl, cmul_of hz, g.here rp (rd_int.mpr rfl)⟩
      · rw [if_neg hz] at hp
        cases hp
    | _ => cases hp
  | ref n =>
    cases dy with
    | int k =>
      cases rd_int.mp ry
      have hp : (match s[n]? with | some (.lst l) => if k.natAbs ≤ LIM ∧ l.length * k.toNat ≤ LIM then mk s (.lst (List.replicate k.toNat l).flatten) else none | _ => none) = some (d, s') := hp
      cases ho : s[n]? with
      | none => rw [ho] at hp; cases hp
      | some o =>
        rw [ho] at hp
        cases o with
        | lst l =>
          have hp : (if k.natAbs ≤ LIM ∧ l.length * k.toNat ≤ LIM then mk s (.lst (List.replicate k.toNat l).flatten) else none) = some (d, s') := hp
          by_cases hz : k.natAbs ≤ LIM ∧ l.length * k.toNat ≤ LIM
          · rw [if_pos hz] at hp
            cases hp
            obtain ⟨a, xs, rfl, h1, h2, h3⟩ := rd_lst rp rx ho
            have hL : LIM = 10000000 := rfl
            refine .inr (.inl ⟨a, k, xs, rfl, rfl, h2, by omega, by omega, ?_, fun p hp => g.laid rp hp fun ρ' H' pr kt e => ⟨_, e, (h3.rep _).mono pr kt⟩⟩)
            rw [← h3.len]
            exact Nat.le_trans hz.2 lim_line
          · rw [if_neg hz] at hp
            cases hp
        | _ => cases hp
    | _ => cases hp
  | tup l =>
    cases dy with
    | int k =>
      cases rd_int.mp ry
      have hp : (if l ≠ [] ∧ 2 ≤ k ∧ k ≤ 1000 ∧ l.length ≤ 1000 then some (D.tup (List.replicate k.toNat l).flatten, s) else none) = some (d, s') := hp
      by_cases hz : l ≠ [] ∧ 2 ≤ k ∧ k ≤ 1000 ∧ l.length ≤ 1000
      · rw [if_pos hz] at hp
        cases hp
        obtain ⟨a, xs, rfl, h1, h2⟩ := rd_tup.mp rx
        refine .inr (.inr ⟨a, k, xs, rfl, rfl, SqT.of h1, fun z => hz.1 ?_, hz.2.1, hz.2.2.1, by rw [← h2.len]; exact hz.2.2.2, fun p hp => g.tuple rp hp (h2.rep _)⟩)
        subst z
        exact List.length_eq_zero_iff.mp h2.len
      · rw [if_neg hz] at hp
        cases hp
    | _ => cases hp
  | _ => cases hp
theorem pr_fdv : Pr2 G .fdv (rI CDivN fun i j => .int (i.fdiv j)) := by
  intro ρ H s dx dy x y d s' Q rp rx ry hp g
  cases dx with
  | int i =>
    cases dy with
    | int j =>
      cases rd_int.mp rx
      cases rd_int.mp ry
      have hp : (if j ≠ 0 ∧ j.natAbs < 1073741824 then some (D.int (i.fdiv j), s) else none) = some (d, s') := hp
      by_cases hz : j ≠ 0 ∧ j.natAbs < 1073741824
      · rw [if_pos hz] at hp
        cases hp
        exact ⟨i, j, rfl, rfl, hz, g.here rp (rd_int.mpr rfl)⟩
      · rw [if_neg hz] at hp
        cases hp
    | _ => cases hp
  | _ => cases hp
theorem pr_md : Pr2 G .md (rI (fun _ j => j ≠ 0) fun i j => .int (i.fmod j)) := by
  intro ρ H s dx dy x y d s' Q rp rx ry hp g
  cases dx with
  | int i =>
    cases dy with
    | int j =>
      cases rd_int.mp rx
      cases rd_int.mp ry
      have hp : (if j ≠ 0 then some (D.int (i.fmod j), s) else none) = some (d, s') := hp
      by_cases hz : j ≠ 0
      · rw [if_pos hz] at hp
        cases hp
        exact ⟨i, j, rfl, rfl, hz, g.here rp (rd_int.mpr rfl)⟩
      · rw [if_neg hz] at hp
        cases hp
    | _ => cases hp
  | _ => cases hp
theorem pr_pw : Pr2 G .pw (rI CPow fun i j => .int (i ^ j.toNat)) := by
  intro ρ H s dx dy x y d s' Q rp rx ry hp g
  cases dx with
  | int i =>
    cases dy with
    | int j =>
      cases rd_int.mp rx
      cases rd_int.mp ry
      have hp : (if 0 ≤ j ∧ j ≤ 1000 ∧ i.natAbs < 2 ^ 64 then some (D.int (i ^ j.toNat), s) else none) = some (d, s') := hp
      by_cases hz : 0 ≤ j ∧ j ≤ 1000 ∧ i.natAbs < 2 ^ 64
      · rw [if_pos hz] at hp
        cases hp
        exact ⟨i, j, rfl, rfl, ⟨hz.1, by omega, hz.2.2⟩, g.here rp (rd_int.mpr rfl)⟩
      · rw [if_neg hz] at hp
        cases hp
    | _ => cases hp
  | _ => cases hp
theorem ordI_of {f : Int → Int → Bool} {ρ : List Addr} {H : Hp} {s : S} {dx dy d : D} {x y : V} {s' : S} {Q : VK} (rp : Rep G ρ s H) (rx : RD G ρ H dx x) (ry : RD G ρ H dy y) (hp : ordI f s dx dy = some (d, s')) (g : Got G ρ H d s' Q) :
    rI0 (fun i j => .bl (f i j)) x y H Q := by
  cases dx with
  | int i =>
    cases dy with
    | int j =>
      cases rd_int.mp rx
      cases rd_int.mp ry
      cases hp
      exact ⟨i, j, rfl, rfl, g.here rp (rd_bl.mpr rfl)⟩
    | _ => cases hp
  | _ => cases hp
theorem pr_lt : Pr2 G .lt (rI0 fun i j => .bl (decide (i < j))) := fun ρ H s dx dy x y d s' Q rp rx ry hp g => ordI_of rp rx ry hp g
theorem pr_le : Pr2 G .le (rI0 fun i j => .bl (decide (i ≤ j))) := fun ρ H s dx dy x y d s' Q rp rx ry hp g => ordI_of rp rx ry hp g
theorem pr_gt : Pr2 G .gt (rI0 fun i j => .bl (decide (j < i))) := fun ρ H s dx dy x y d s' Q rp rx ry hp g => ordI_of rp rx ry hp g
theorem pr_ge : Pr2 G .ge (rI0 fun i j => .bl (decide (j ≤ i))) := fun ρ H s dx dy x y d s' Q rp rx ry hp g => ordI_of rp rx ry hp g
theorem pr_neg : Pr1 G .neg (rU fun i => .int (-i)) := by
  intro ρ H s dx x d s' Q rp rx hp g
  cases dx with
  | int i =>
    cases rd_int.mp rx
    cases hp
    exact ⟨i, rfl, g.here rp (rd_int.mpr rfl)⟩
  | _ => cases hp
theorem non_iff {ρ : List Addr} {H : Hp} {d : D} {x : V} (rx : RD G ρ H d x) : decide (x = .non) = isNon d := by
  cases d with
  | non => cases rd_non.mp rx; rfl
  | bl b => cases rd_bl.mp rx; rfl
  | int b => cases rd_int.mp rx; rfl
  | str b => cases rd_str.mp rx; rfl
  | tup l => obtain ⟨a, xs, rfl, _⟩ := rd_tup.mp rx; rfl
  | frz l => obtain ⟨a, xs, rfl, _⟩ := rd_frz.mp rx; rfl
  | ref n =>
    rw [RD] at rx
    obtain ⟨a, rfl, _⟩ := rx
    rfl
theorem pr_isN : Pr1 G .isN (fun x H Q => Q (.bl (decide (x = .non))) H) := by
  intro ρ H s dx x d s' Q rp rx hp g
  have hp : some (D.bl (isNon dx), s) = some (d, s') := hp
  cases hp
  rw [non_iff rx]
  exact g.here rp (rd_bl.mpr rfl)
theorem pr_ntN : Pr1 G .ntN (fun x H Q => Q (.bl (!decide (x = .non))) H) := by
  intro ρ H s dx x d s' Q rp rx hp g
  have hp : some (D.bl (!isNon dx), s) = some (d, s') := hp
  cases hp
  rw [non_iff rx]
  exact g.here rp (rd_bl.mpr rfl)
end
section
variable {C : CC} {x y z : Expr} {e e1 e2 e3 : E} {pos p2 : Pos} {k : Nat}
theorem ce_add (h1 : CE C x e1) (h2 : CE C y e2) : CE C (.BinOp x .Add y pos) (.prim .add [e1, e2]) := ce_op (r := rAdd') (fun X _ => op_add' X) pr_add h1 h2
theorem ce_sub (h1 : CE C x e1) (h2 : CE C y e2) : CE C (.BinOp x .Sub y pos) (.prim .sub [e1, e2]) := ce_op (r := fun _ => _) (fun X _ => op_sub) pr_sub h1 h2
theorem ce_mul (h1 : CE C x e1) (h2 : CE C y e2) : CE C (.BinOp x .Mult y pos) (.prim .mul [e1, e2]) := ce_op (r := rMul') (fun X _ => op_mul' X) pr_mul h1 h2
theorem ce_fdv (h1 : CE C x e1) (h2 : CE C y e2) : CE C (.BinOp x .FloorDiv y pos) (.prim .fdv [e1, e2]) := ce_op (r := fun _ => _) (fun X _ => op_fdivN) pr_fdv h1 h2
theorem ce_md (h1 : CE C x e1) (h2 : CE C y e2) : CE C (.BinOp x .Mod y pos) (.prim .md [e1, e2]) := ce_op (r := fun _ => _) (fun X _ => op_modN) pr_md h1 h2
theorem ce_pw (h1 : CE C x e1) (h2 : CE C y e2) : CE C (.BinOp x .Pow y pos) (.prim .pw [e1, e2]) := ce_op (r := fun _ => _) (fun X _ => op_pow) pr_pw h1 h2
theorem ce_neg (h1 : CE C x e1) : CE C (.UnaryOp .USub x pos) (.prim .neg [e1]) := fun X W F => PE.imp (pe_un un_neg (h1 X W F)) fun σ H Q h => tE_one pr_neg h
theorem ce_lt (h1 : CE C x e1) (h2 : CE C y e2) : CE C (.Compare x [.Lt] [y] pos) (.prim .lt [e1, e2]) := ce_cmp (r := fun _ => _) (fun X _ => op_lt) pr_lt h1 h2
theorem ce_le (h1 : CE C x e1) (h2 : CE C y e2) : CE C (.Compare x [.LtE] [y] pos) (.prim .le [e1, e2]) := ce_cmp (r := fun _ => _) (fun X _ => op_le) pr_le h1 h2
theorem ce_gt (h1 : CE C x e1) (h2 : CE C y e2) : CE C (.Compare x [.Gt] [y] pos) (.prim .gt [e1, e2]) := ce_cmp (r := fun _ => _) (fun X _ => op_gt) pr_gt h1 h2
theorem ce_ge (h1 : CE C x e1) (h2 : CE C y e2) : CE C (.Compare x [.GtE] [y] pos) (.prim .ge [e1, e2]) := ce_cmp (r := fun _ => _) (fun X _ => op_ge) pr_ge h1 h2
theorem ct_lt (h1 : CE C x e1) (h2 : CE C y e2) : CT C (.Compare x [.Lt] [y] pos) (.prim .lt [e1, e2]) := ct_cmp (r := fun _ => _) (fun X _ => op_lt) pr_lt h1 h2
theorem ct_le (h1 : CE C x e1) (h2 : CE C y e2) : CT C (.Compare x [.LtE] [y] pos) (.prim .le [e1, e2]) := ct_cmp (r := fun _ => _) (fun X _ => op_le) pr_le h1 h2
theorem ct_gt (h1 : CE C x e1) (h2 : CE C y e2) : CT C (.Compare x [.Gt] [y] pos) (.prim .gt [e1, e2]) := ct_cmp (r := fun _ => _) (fun X _ => op_gt) pr_gt h1 h2
theorem ct_ge (h1 : CE C x e1) (h2 : CE C y e2) : CT C (.Compare x [.GtE] [y] pos) (.prim .ge [e1, e2]) := ct_cmp (r := fun _ => _) (fun X _ => op_ge) pr_ge h1 h2
theorem ce_isN (h1 : CE C x e1) : CE C (.Compare x [.Is] [.Constant .none k p2] pos) (.prim .isN [e1]) := fun X W F => PE.imp (pe_cmp (pc_isN (h1 X W F)) (nomark _)) fun σ H Q h => tE_one pr_isN h
theorem ce_ntN (h1 : CE C x e1) : CE C (.Compare x [.IsNot] [.Constant .none k p2] pos) (.prim .ntN [e1]) := fun X W F => PE.imp (pe_cmp (pc_notN (h1 X W F)) (nomark _)) fun σ H Q h => tE_one pr_ntN h
theorem ct_isN (h1 : CE C x e1) : CT C (.Compare x [.Is] [.Constant .none k p2] pos) (.prim .isN [e1]) := fun X W F => PT.imp (pt_cmp (pc_isN (h1 X W F)) (nomark _)) fun σ H Q h => tE_one (Q := fun v H1 => ∃ k, v = .bl k ∧ Q k H1) pr_isN (tT_tB h)
theorem ct_ntN (h1 : CE C x e1) : CT C (.Compare x [.IsNot] [.Constant .none k p2] pos) (.prim .ntN [e1]) := fun X W F => PT.imp (pt_cmp (pc_notN (h1 X W F)) (nomark _)) fun σ H Q h => tE_one (Q := fun v H1 => ∃ k, v = .bl k ∧ Q k H1) pr_ntN (tT_tB h)
/-- low <= x <= high, chains of orders -/
theorem ce_lele (h1 : CE C x e1) (h2 : CE C y e2) (h3 : CE C z e3) (hm : lastMarks [.LtE, .LtE] [y, z] = false := by with_unfolding_all rfl) : CE C (.Compare x [.LtE, .LtE] [y, z] pos) (.chn .le .le e1 e2 e3) := ce_chn (r := fun _ => _) (r' := fun _ => _) (fun X _ => op_le) (fun X _ => op_le) pr_le pr_le h1 h2 h3 hm
theorem ce_lelt (h1 : CE C x e1) (h2 : CE C y e2) (h3 : CE C z e3) (hm : lastMarks [.LtE, .Lt] [y, z] = false := by with_unfolding_all rfl) : CE C (.Compare x [.LtE, .Lt] [y, z] pos) (.chn .le .lt e1 e2 e3) := ce_chn (r := fun _ => _) (r' := fun _ => _) (fun X _ => op_le) (fun X _ => op_lt) pr_le pr_lt h1 h2 h3 hm
theorem ct_lele (h1 : CE C x e1) (h2 : CE C y e2) (h3 : CE C z e3) (hm : lastMarks [.LtE, .LtE] [y, z] = false := by with_unfolding_all rfl) : CT C (.Compare x [.LtE, .LtE] [y, z] pos) (.chn .le .le e1 e2 e3) := ct_chn (r := fun _ => _) (r' := fun _ => _) (fun X _ => op_le) (fun X _ => op_le) pr_le pr_le h1 h2 h3 hm
theorem ct_lelt (h1 : CE C x e1) (h2 : CE C y e2) (h3 : CE C z e3) (hm : lastMarks [.LtE, .Lt] [y, z] = false := by with_unfolding_all rfl) : CT C (.Compare x [.LtE, .Lt] [y, z] pos) (.chn .le .lt e1 e2 e3) := ct_chn (r := fun _ => _) (r' := fun _ => _) (fun X _ => op_le) (fun X _ => op_lt) pr_le pr_lt h1 h2 h3 hm
end

/-! ### displays -/
section
variable {C : CC} {xs : List Expr} {es : List E} {pos : Pos} {k : Nat} {G : Gx}
theorem tE_displayT {W : WX} {σ : L2.St} {H : Hp} {Q : VK} (h : tE C W (.prim .tup es) σ H Q) : tTup (tA C W es) σ H Q := by
  refine tA_all (r := fun xs H Q => xs.length ≤ sizeLine ∧ ∀ p, H p = none → Q (.ref p) (upd H p (.tup xs))) (fun ρ H s ds xs d s' Q rp rx hp g => ?_) h
  have hp : (if ds.length ≤ LIM then some (D.tup ds, s) else none) = some (d, s') := hp
  by_cases hz : ds.length ≤ LIM
  · rw [if_pos hz] at hp
    cases hp
    exact ⟨by rw [← rx.len]; exact Nat.le_trans hz lim_line, fun p hp => g.tuple rp hp rx⟩
  · rw [if_neg hz] at hp
    cases hp
theorem ce_tup (h : CA C xs es) : CE C (.Tuple xs k pos) (.prim .tup es) := fun X W F => PE.imp (pe_tup (h X W F)) fun σ H Q h => tE_displayT h
theorem ce_lst (h : CA C xs es) : CE C (.List xs pos) (.prim .lst es) := fun X W F => PE.imp (pe_lst (h X W F)) fun σ H Q h => by
  refine tA_all (r := fun xs H Q => xs.length ≤ sizeLine ∧ ∀ p, H p = none → Q (.ref p) (upd H p (.lst xs))) (fun ρ H s ds xs d s' Q rp rx hp g => ?_) h
  have hp : (if ds.length ≤ LIM then mk s (.lst ds) else none) = some (d, s') := hp
  by_cases hz : ds.length ≤ LIM
  · rw [if_pos hz] at hp
    cases hp
    exact ⟨by rw [← rx.len]; exact Nat.le_trans hz lim_line, fun p hp => g.laid rp hp fun ρ' H' pr kt e => ⟨_, e, rx.mono pr kt⟩⟩
  · rw [if_neg hz] at hp
    cases hp
theorem ce_dnew : CE C (.Dict [] [] pos) (.prim .dnew []) := fun X W F => PE.imp pe_dnewK fun σ H Q ⟨ρ, env, s, re, rp, h⟩ => by
  rw [eval_prim0] at h
  obtain ⟨d, s', ho, g⟩ := wp_opt h
  cases ho
  exact fun p hp => g.laid rp hp fun ρ' H' pr kt e => ⟨[], e, rfl, rds_nil.mpr rfl⟩
end
end Mini
set_option Elab.async false
set_option linter.all false
set_option maxRecDepth 100000
set_option maxHeartbeats 1000000
/-! Mini 6: equality, membership, items, slices. -/
namespace Mini
open PySem L2 PyProof.Rows

/-! ### == -/
section
variable {G : Gx} {ρ : List Addr} {H : Hp} {s : S}
theorem atom_dp {d : D} {p : PyData} {v : V} (h : atomPy d = some p) (rx : RD G ρ H d v) : Dp G.K H v p ∧ p.canLay0 = true ∧ p.depth = 0 := by
  cases d with
  | non => cases h; cases rd_non.mp rx; exact ⟨.non, rfl, rfl⟩
  | bl b => cases h; cases rd_bl.mp rx; exact ⟨.bl b, rfl, rfl⟩
  | int b => cases h; cases rd_int.mp rx; exact ⟨.int b, rfl, rfl⟩
  | str b =>
    have h : (if PyData.canLay0 (.str b) then some (PyData.str b) else none) = some p := h
    by_cases hz : PyData.canLay0 (.str b) = true
    · rw [if_pos hz] at h
      cases h
      cases rd_str.mp rx
      exact ⟨.str b, hz, rfl⟩
    · rw [if_neg hz] at h
      cases h
  | _ => cases h
/-- many of them -/
theorem mapM_dp {k : Nat} (ih : ∀ d p v, toPy s k d = some p → RD G ρ H d v → Dp G.K H v p ∧ p.canLay0 = true ∧ p.depth ≤ k) : ∀ {l : List D} {ps : List PyData} {xs : List V}, l.mapM (toPy s k) = some ps → RDs G ρ H l xs →
    DpAll G.K H xs ps ∧ PyData.canLayAll0 ps = true ∧ PyData.depthAll ps ≤ k
  | [], ps, xs, h, rx => by
    have : ps = [] := (Option.some.inj h).symm
    subst this
    cases rds_nil.mp rx
    exact ⟨.nil, rfl, Nat.zero_le _⟩
  | d :: l, ps, xs, h, rx => by
    obtain ⟨x, r, rfl, h1, h2⟩ := rds_cons.mp rx
    rw [List.mapM_cons] at h
    cases hd : toPy s k d with
    | none => rw [hd] at h; cases h
    | some p =>
      rw [hd] at h
      cases hl : l.mapM (toPy s k) with
      | none => rw [hl] at h; cases h
      | some q =>
        rw [hl] at h
        cases h
        obtain ⟨a1, a2, a3⟩ := ih d p x hd h1
        obtain ⟨b1, b2, b3⟩ := mapM_dp ih hl h2
        refine ⟨.cons a1 b1, ?_, ?_⟩
        · show (p.canLay0 && PyData.canLayAll0 q) = true
          rw [a2, b2] <;> rfl
        · show max p.depth (PyData.depthAll q) ≤ k
          exact Nat.max_le.mpr ⟨a3, b3⟩
theorem toPy_dp (rp : Rep G ρ s H) : ∀ (k : Nat) (d : D) (p : PyData) (v : V), toPy s k d = some p → RD G ρ H d v → Dp G.K H v p ∧ p.canLay0 = true ∧ p.depth ≤ k
  | 0, d, p, v, h, rx => by
    obtain ⟨a, b, c⟩ := atom_dp h rx
    exact ⟨a, b, Nat.le_of_eq c⟩
  | k + 1, d, p, v, h, rx => by
    have at_ : atomPy d = some p → Dp G.K H v p ∧ p.canLay0 = true ∧ p.depth ≤ k + 1 := fun h => by
      obtain ⟨a, b, c⟩ := atom_dp h rx
      exact ⟨a, b, by omega⟩
    cases d with
    | tup l =>
      have h : (l.mapM (toPy s k)).map PyData.tuple = some p := h
      obtain ⟨ps, hl, rfl⟩ := Option.map_eq_some_iff.mp h
      obtain ⟨a, xs, rfl, h1, h2⟩ := rd_tup.mp rx
      obtain ⟨a1, a2, a3⟩ := mapM_dp (toPy_dp rp k) hl h2
      exact ⟨.tup (SqT.of h1) a1, a2, Nat.succ_le_succ a3⟩
    | frz l =>
      have h : (l.mapM (toPy s k)).map PyData.list = some p := h
      obtain ⟨ps, hl, rfl⟩ := Option.map_eq_some_iff.mp h
      obtain ⟨a, xs, rfl, h1, h2⟩ := rd_frz.mp rx
      obtain ⟨a1, a2, a3⟩ := mapM_dp (toPy_dp rp k) hl h2
      exact ⟨.lst h1.sq a1, a2, Nat.succ_le_succ a3⟩
    | ref n =>
      have h : (match s[n]? with | some (.lst l) => (l.mapM (toPy s k)).map PyData.list | _ => none) = some p := h
      cases ho : s[n]? with
      | none => rw [ho] at h; cases h
      | some o =>
        rw [ho] at h
        cases o with
        | lst l =>
          have h : (l.mapM (toPy s k)).map PyData.list = some p := h
          obtain ⟨ps, hl, rfl⟩ := Option.map_eq_some_iff.mp h
          obtain ⟨a, xs, rfl, h1, h2, h3⟩ := rd_lst rp rx ho
          obtain ⟨a1, a2, a3⟩ := mapM_dp (toPy_dp rp k) hl h3
          exact ⟨.lst (SqL.of h2) a1, a2, Nat.succ_le_succ a3⟩
        | _ => cases h
    | non => exact at_ h
    | bl b => exact at_ h
    | int b => exact at_ h
    | str b => exact at_ h
theorem toPy_shaped (rp : Rep G ρ s H) {d : D} {p : PyData} {v : V} (h : toPy s 64 d = some p) (rx : RD G ρ H d v) : Dp G.K H v p ∧ SeqAt.shaped p = true := by
  obtain ⟨a, b, c⟩ := toPy_dp rp 64 d p v h rx
  refine ⟨a, ?_⟩
  unfold SeqAt.shaped
  rw [b, decide_eq_true c] <;> rfl
end
/-- one side empty -/
def rNil (K : PySem.W.Frag) (neg : Bool) : R2 := fun x y H Q => ∃ a b xs ys, x = .ref a ∧ y = .ref b ∧ ((SqL K H a xs ∧ SqL K H b ys) ∨ (SqT K H a xs ∧ SqT K H b ys)) ∧ (xs.isEmpty || ys.isEmpty) = true ∧ Q (.bl ((xs.isEmpty && ys.isEmpty) != neg)) H
theorem size_ne {its its2 : List Value} {xs ys : List V} (r1 : Vals xs its) (r2 : Vals ys its2) (h : (xs.isEmpty || ys.isEmpty) = true) (h' : (xs.isEmpty && ys.isEmpty) = false) : (its.toArray.size != its2.toArray.size) = true := by
  rw [List.size_toArray, List.size_toArray, ← r1.length, ← r2.length]
  cases xs with
  | nil =>
    cases ys with
    | nil => simp at h'
    | cons y q => simp
  | cons x r =>
    cases ys with
    | nil => simp
    | cons y q => simp at h
theorem size_nil {its its2 : List Value} {xs ys : List V} (r1 : Vals xs its) (r2 : Vals ys its2) (h' : (xs.isEmpty && ys.isEmpty) = true) : its = [] ∧ its2 = [] := by
  cases r1 with
  | nil =>
    cases r2 with
    | nil => exact ⟨rfl, rfl⟩
    | cons a b => simp at h'
  | cons a b => simp at h'
theorem tup_sizes {its its2 : List Value} {xs ys : List V} (r1 : Vals xs its) (r2 : Vals ys its2) (h : (xs.isEmpty || ys.isEmpty) = true) :
    min its.toArray.size its2.toArray.size = 0 ∧ (its.toArray.size == its2.toArray.size) = (xs.isEmpty && ys.isEmpty) := by
  rw [List.size_toArray, List.size_toArray, ← r1.length, ← r2.length]
  cases xs with
  | nil => cases ys <;> simp
  | cons x r =>
    cases ys with
    | nil => simp
    | cons y q => simp at h
theorem op_nilEq (X : Cx) (hu : X.A.units + 200 < cLine) : OpR X (compareOp .Eq) (rNil X.K false) := by
  intro pins s σ H x y v u Q I rx ry h
  obtain ⟨a, b, xs, ys, rfl, rfl, hh, he, q⟩ := h
  cases rx
  cases ry
  rcases hh with ⟨ha, hb⟩ | ⟨ha, hb⟩
  · obtain ⟨its, r1, p1, _⟩ := I.list ha
    obtain ⟨its2, r2, p2, _⟩ := I.list hb
    cases hc : (xs.isEmpty && ys.isEmpty) with
    | false =>
      rw [hc] at q
      exact SeqAt.eq_list_lengthsAt p1.isList p2.isList (size_ne r1 r2 he hc) (by omega) ⟨.bl false, H, I, rfl, q⟩
    | true =>
      rw [hc] at q
      obtain ⟨rfl, rfl⟩ := size_nil r1 r2 hc
      exact SeqAt.eq_listAt (e := fun _ => true) p1.isList p2.isList rfl (by omega) (fun j h1 h2 => absurd h1 (by simp)) ⟨.bl true, H, I, rfl, q⟩
  · obtain ⟨its, r1, p1, _⟩ := I.tuple ha
    obtain ⟨its2, r2, p2, _⟩ := I.tuple hb
    obtain ⟨hm, hz⟩ := tup_sizes r1 r2 he
    refine SeqAt.eq_tupleAt (e := fun _ => true) p1 p2 (by omega) (fun j h1 h2 => absurd (Nat.lt_min.mpr ⟨h1, h2⟩) (by omega)) ⟨.bl _, H, I, rfl, ?_⟩
    rw [hm, hz]
    simpa using q
theorem op_nilNe (X : Cx) (hu : X.A.units + 200 < cLine) : OpR X (compareOp .NotEq) (rNil X.K true) := by
  intro pins s σ H x y v u Q I rx ry h
  obtain ⟨a, b, xs, ys, rfl, rfl, hh, he, q⟩ := h
  cases rx
  cases ry
  rcases hh with ⟨ha, hb⟩ | ⟨ha, hb⟩
  · obtain ⟨its, r1, p1, _⟩ := I.list ha
    obtain ⟨its2, r2, p2, _⟩ := I.list hb
    cases hc : (xs.isEmpty && ys.isEmpty) with
    | false =>
      rw [hc] at q
      exact SeqAt.RcNeAt.lists_lengths p1.isList p2.isList (size_ne r1 r2 he hc) (by omega) _ _ _ _ ⟨.bl true, H, I, rfl, q⟩
    | true =>
      rw [hc] at q
      obtain ⟨rfl, rfl⟩ := size_nil r1 r2 hc
      exact SeqAt.RcNeAt.lists (e := fun _ => true) p1.isList p2.isList rfl (by omega) (fun j h1 h2 => absurd h1 (by simp)) _ _ _ _ ⟨.bl false, H, I, rfl, q⟩
  · obtain ⟨its, r1, p1, _⟩ := I.tuple ha
    obtain ⟨its2, r2, p2, _⟩ := I.tuple hb
    obtain ⟨hm, hz⟩ := tup_sizes r1 r2 he
    refine SeqAt.RcNeAt.tuples (e := fun _ => true) p1 p2 (by omega) (fun j h1 h2 => absurd (Nat.lt_min.mpr ⟨h1, h2⟩) (by omega)) _ _ _ _ ⟨.bl _, H, I, rfl, ?_⟩
    rw [hm, hz]
    simpa using q
section
variable {G : Gx}
def rEq' (K : PySem.W.Frag) : R2 := fun x y H Q => rEqD K x y H Q ∨ rNil K false x y H Q
def rNe' (K : PySem.W.Frag) : R2 := fun x y H Q => rNeD K x y H Q ∨ rNil K true x y H Q
/-- what == reads -/
theorem eqD_of {ρ : List Addr} {H : Hp} {s : S} {dx dy : D} {x y : V} {b : Bool} (rp : Rep G ρ s H) (rx : RD G ρ H dx x) (ry : RD G ρ H dy y) (h : eqD s dx dy = some b) :
    (∃ d e, Dp G.K H x d ∧ Dp G.K H y e ∧ SeqAt.shaped d = true ∧ SeqAt.shaped e = true ∧ PyData.eqv d e = b) ∨
      ∃ a c xs ys, x = .ref a ∧ y = .ref c ∧ ((SqL G.K H a xs ∧ SqL G.K H c ys) ∨ (SqT G.K H a xs ∧ SqT G.K H c ys)) ∧ (xs.isEmpty || ys.isEmpty) = true ∧ (xs.isEmpty && ys.isEmpty) = b := by
  unfold eqD at h
  cases he : emptyEq s dx dy with
  | some b' =>
    rw [he] at h
    cases h
    right
    have emp : ∀ {l : List D} {xs : List V}, RDs G ρ H l xs → l.isEmpty = xs.isEmpty := fun {l xs} r => by
      have := r.len
      cases l <;> cases xs <;> simp_all
    cases dx with
    | ref n =>
      cases dy with
      | ref m =>
        have he : (match s[n]?, s[m]? with | some (.lst l), some (.lst k) => if l.isEmpty || k.isEmpty then some (l.isEmpty && k.isEmpty) else none | _, _ => none) = some b := he
        cases h1 : s[n]? with
        | none => rw [h1] at he; cases he
        | some o =>
          cases h2 : s[m]? with
          | none => rw [h1, h2] at he; cases o <;> cases he
          | some o2 =>
            rw [h1, h2] at he
            cases o with
            | lst l =>
              cases o2 with
              | lst k =>
                have he : (if (l.isEmpty || k.isEmpty) = true then some (l.isEmpty && k.isEmpty) else none) = some b := he
                obtain ⟨a, xs, rfl, _, e1, r1⟩ := rd_lst rp rx h1
                obtain ⟨c, ys, rfl, _, e2, r2⟩ := rd_lst rp ry h2
                rw [emp r1, emp r2] at he
                by_cases hz : (xs.isEmpty || ys.isEmpty) = true
                · rw [if_pos hz] at he
                  exact ⟨a, c, xs, ys, rfl, rfl, .inl ⟨SqL.of e1, SqL.of e2⟩, hz, Option.some.inj he⟩
                · rw [if_neg hz] at he
                  cases he
              | _ => cases he
            | _ => cases he
      | _ => cases he
    | tup l =>
      cases dy with
      | tup k =>
        have he : (if (l.isEmpty || k.isEmpty) = true then some (l.isEmpty && k.isEmpty) else none) = some b := he
        obtain ⟨a, xs, rfl, e1, r1⟩ := rd_tup.mp rx
        obtain ⟨c, ys, rfl, e2, r2⟩ := rd_tup.mp ry
        rw [emp r1, emp r2] at he
        by_cases hz : (xs.isEmpty || ys.isEmpty) = true
        · rw [if_pos hz] at he
          exact ⟨a, c, xs, ys, rfl, rfl, .inr ⟨SqT.of e1, SqT.of e2⟩, hz, Option.some.inj he⟩
        · rw [if_neg hz] at he
          cases he
      | _ => cases he
    | _ => cases he
  | none =>
    rw [he] at h
    left
    cases h1 : toPy s 64 dx with
    | none => rw [h1] at h; cases h
    | some p =>
      cases h2 : toPy s 64 dy with
      | none => rw [h1, h2] at h; cases h
      | some q =>
        rw [h1, h2] at h
        cases h
        obtain ⟨a1, a2⟩ := toPy_shaped rp h1 rx
        obtain ⟨b1, b2⟩ := toPy_shaped rp h2 ry
        exact ⟨p, q, a1, b1, a2, b2, rfl⟩
theorem pr_eq : Pr2 G .eq (rEq' G.K) := by
  intro ρ H s dx dy x y d s' Q rp rx ry hp g
  have hp : (eqD s dx dy).map (fun b => (D.bl b, s)) = some (d, s') := hp
  obtain ⟨b, hb, e⟩ := Option.map_eq_some_iff.mp hp
  cases e
  rcases eqD_of rp rx ry hb with ⟨p, q, h1, h2, h3, h4, rfl⟩ | ⟨a, c, xs, ys, e1, e2, h1, h2, rfl⟩
  · exact .inl ⟨p, q, h1, h2, h3, h4, g.here rp (rd_bl.mpr rfl)⟩
  · refine .inr ⟨a, c, xs, ys, e1, e2, h1, h2, ?_⟩
    have q := g.here rp (rd_bl.mpr rfl)
    simpa using q
theorem pr_ne : Pr2 G .ne (rNe' G.K) := by
  intro ρ H s dx dy x y d s' Q rp rx ry hp g
  have hp : (eqD s dx dy).map (fun b => (D.bl (!b), s)) = some (d, s') := hp
  obtain ⟨b, hb, e⟩ := Option.map_eq_some_iff.mp hp
  cases e
  rcases eqD_of rp rx ry hb with ⟨p, q, h1, h2, h3, h4, rfl⟩ | ⟨a, c, xs, ys, e1, e2, h1, h2, rfl⟩
  · exact .inl ⟨p, q, h1, h2, h3, h4, g.here rp (rd_bl.mpr rfl)⟩
  · refine .inr ⟨a, c, xs, ys, e1, e2, h1, h2, ?_⟩
    have q := g.here rp (rd_bl.mpr rfl)
    simpa using q
end
section
variable {C : CC} {x y : Expr} {e1 e2 : E} {pos : Pos}
theorem op_eq' (X : Cx) (hu : X.A.units + 200 < cLine) : OpR X (compareOp .Eq) (rEq' X.K) := (op_eqD (by omega)).or (op_nilEq X hu)
theorem op_ne' (X : Cx) (hu : X.A.units + 200 < cLine) : OpR X (compareOp .NotEq) (rNe' X.K) := (op_neD (by omega)).or (op_nilNe X hu)
theorem ce_eq (h1 : CE C x e1) (h2 : CE C y e2) : CE C (.Compare x [.Eq] [y] pos) (.prim .eq [e1, e2]) := ce_cmp op_eq' pr_eq h1 h2
theorem ct_eq (h1 : CE C x e1) (h2 : CE C y e2) : CT C (.Compare x [.Eq] [y] pos) (.prim .eq [e1, e2]) := ct_cmp op_eq' pr_eq h1 h2
theorem ce_ne (h1 : CE C x e1) (h2 : CE C y e2) : CE C (.Compare x [.NotEq] [y] pos) (.prim .ne [e1, e2]) := ce_cmp op_ne' pr_ne h1 h2
theorem ct_ne (h1 : CE C x e1) (h2 : CE C y e2) : CT C (.Compare x [.NotEq] [y] pos) (.prim .ne [e1, e2]) := ct_cmp op_ne' pr_ne h1 h2
end
end Mini
set_option Elab.async false
set_option linter.all false
set_option maxRecDepth 100000
set_option maxHeartbeats 1000000
/-! Mini 7: dicts read, membership, items. -/
namespace Mini
open PySem L2 PyProof.Rows

section
variable {G : Gx} {ρ : List Addr} {H : Hp} {s : S}
theorem rk_nil {kxs : List (Key × V)} : RK G ρ H [] kxs ↔ kxs = [] := by
  unfold RK
  constructor
  · rintro ⟨h, _⟩
    exact List.map_eq_nil_iff.mp h.symm
  · rintro rfl
    exact ⟨rfl, rds_nil.mpr rfl⟩
theorem rk_cons {k : Key} {d : D} {l : List (Key × D)} {kxs : List (Key × V)} : RK G ρ H ((k, d) :: l) kxs ↔ ∃ x r, kxs = (k, x) :: r ∧ RD G ρ H d x ∧ RK G ρ H l r := by
  unfold RK
  constructor
  · rintro ⟨h1, h2⟩
    cases kxs with
    | nil => cases h1
    | cons p r =>
      rw [List.map_cons, List.map_cons] at h1 h2
      rw [List.cons.injEq] at h1
      rw [rds_cc] at h2
      obtain ⟨k', x⟩ := p
      obtain ⟨e, h1⟩ := h1
      cases e
      exact ⟨x, r, rfl, h2.1, h1, h2.2⟩
  · rintro ⟨x, r, rfl, h1, h2, h3⟩
    exact ⟨by rw [List.map_cons, List.map_cons, h2], rds_cc.mpr ⟨h1, h3⟩⟩
theorem RK.len {l : List (Key × D)} {kxs : List (Key × V)} (h : RK G ρ H l kxs) : l.length = kxs.length := by
  have := h.2.len
  rw [List.length_map, List.length_map] at this
  exact this
theorem rk_get {k : Key} : ∀ {l : List (Key × D)} {kxs : List (Key × V)}, RK G ρ H l kxs → (getK l k = none ∧ valV kxs k = none) ∨ ∃ d v, getK l k = some d ∧ valV kxs k = some v ∧ RD G ρ H d v
  | [], kxs, h => by
    rw [rk_nil] at h
    subst h
    exact .inl ⟨rfl, rfl⟩
  | (j, d) :: l, kxs, h => by
    obtain ⟨x, r, rfl, h1, h2⟩ := rk_cons.mp h
    by_cases e : j = k
    · subst e
      exact .inr ⟨d, x, by simp [getK], valV_pos rfl, h1⟩
    · have e1 : getK ((j, d) :: l) k = getK l k := by simp [getK, List.find?_cons, e]
      have e2 : valV ((j, x) :: r) k = valV r k := valV_neg e
      rw [e1, e2]
      exact rk_get h2
theorem rk_isSome {k : Key} {l : List (Key × D)} {kxs : List (Key × V)} (h : RK G ρ H l kxs) : (getK l k).isSome = (valV kxs k).isSome := by
  rcases rk_get (k := k) h with ⟨a, b⟩ | ⟨d, v, a, b, _⟩ <;> rw [a, b] <;> rfl
theorem rk_any {k : Key} : ∀ {l : List (Key × D)} {kxs : List (Key × V)}, RK G ρ H l kxs → (l.any fun kv => decide (kv.1 = k)) = (kxs.any fun kv => decide (kv.1 = k))
  | [], kxs, h => by
    rw [rk_nil] at h
    subst h
    rfl
  | (j, d) :: l, kxs, h => by
    obtain ⟨x, r, rfl, h1, h2⟩ := rk_cons.mp h
    rw [List.any_cons, List.any_cons, rk_any h2]
theorem rk_repl {k : Key} {d : D} {v : V} (rd : RD G ρ H d v) : ∀ {l : List (Key × D)} {kxs : List (Key × V)}, RK G ρ H l kxs → RK G ρ H (l.map fun kv => if kv.1 = k then (kv.1, d) else kv) (kxs.map fun kv => if kv.1 = k then (kv.1, v) else kv)
  | [], kxs, h => by
    rw [rk_nil] at h
    subst h
    exact rk_nil.mpr rfl
  | (j, e) :: l, kxs, h => by
    obtain ⟨x, r, rfl, h1, h2⟩ := rk_cons.mp h
    rw [List.map_cons, List.map_cons]
    by_cases q : j = k
    · rw [if_pos q, if_pos q]
      exact rk_cons.mpr ⟨v, _, rfl, rd, rk_repl rd h2⟩
    · rw [if_neg q, if_neg q]
      exact rk_cons.mpr ⟨x, _, rfl, h1, rk_repl rd h2⟩
theorem rk_snoc {k : Key} {d : D} {v : V} (rd : RD G ρ H d v) : ∀ {l : List (Key × D)} {kxs : List (Key × V)}, RK G ρ H l kxs → RK G ρ H (l ++ [(k, d)]) (kxs ++ [(k, v)])
  | [], kxs, h => by
    rw [rk_nil] at h
    subst h
    exact rk_cons.mpr ⟨v, [], rfl, rd, rk_nil.mpr rfl⟩
  | (j, e) :: l, kxs, h => by
    obtain ⟨x, r, rfl, h1, h2⟩ := rk_cons.mp h
    exact rk_cons.mpr ⟨x, _, rfl, h1, rk_snoc rd h2⟩
theorem rk_set {k : Key} {d : D} {v : V} {l : List (Key × D)} {kxs : List (Key × V)} (rd : RD G ρ H d v) (h : RK G ρ H l kxs) : RK G ρ H (setK l k d) (putK kxs k v) := by
  unfold setK putK
  rw [rk_any h]
  by_cases q : (kxs.any fun kv => decide (kv.1 = k)) = true
  · rw [if_pos q, if_pos q]
    exact rk_repl rd h
  · rw [if_neg q, if_neg q]
    exact rk_snoc rd h
theorem keyD_rd {d : D} {k : Key} {v : V} (h : keyD d = some k) (r : RD G ρ H d v) : v = kV k := by
  cases d with
  | int i => cases h; exact rd_int.mp r
  | str i => cases h; exact rd_str.mp r
  | _ => cases h
theorem dK_rd {k : Key} : RD G ρ H (dK k) (kV k) := by
  cases k with
  | inl i => exact rd_int.mpr rfl
  | inr i => exact rd_str.mpr rfl
/-- the dict at hand, open or locked -/
theorem rd_dict {n : Nat} {v : V} {kvs : List (Key × D)} (rp : Rep G ρ s H) (r : RD G ρ H (.ref n) v) (h : s[n]? = some (.dct kvs) ∨ s[n]? = some (.lck kvs)) : ∃ a kxs, v = .ref a ∧ L2.Rd H a (.dK kxs) ∧ RK G ρ H kvs kxs := by
  rcases h with h | h
  · obtain ⟨a, kxs, e, _, h1, h2⟩ := rd_dct rp r h
    exact ⟨a, kxs, e, .inl h1, h2⟩
  · obtain ⟨a, o, kxs, e, _, h1, h2⟩ := rd_lck rp r h
    exact ⟨a, kxs, e, .inr ⟨o, h1⟩, h2⟩
theorem flat_rd {d : D} {v : V} (h : flatD d = true) (r : RD G ρ H d v) : flatV v = true := by
  cases d with
  | non => cases rd_non.mp r; rfl
  | bl b => cases rd_bl.mp r; rfl
  | int b => cases rd_int.mp r; rfl
  | str b => cases rd_str.mp r; rfl
  | _ => cases h
theorem eq_rd {d e : D} {v w : V} (h : flatD d = true) (h' : flatD e = true) (r : RD G ρ H d v) (r' : RD G ρ H e w) : eqF d e = eqV v w := by
  cases d with
  | non =>
    cases rd_non.mp r
    cases e with
    | non => cases rd_non.mp r'; rfl
    | bl b => cases rd_bl.mp r'; rfl
    | int b => cases rd_int.mp r'; rfl
    | str b => cases rd_str.mp r'; rfl
    | _ => cases h'
  | bl b =>
    cases rd_bl.mp r
    cases e with
    | non => cases rd_non.mp r'; rfl
    | bl b => cases rd_bl.mp r'; rfl
    | int b => cases rd_int.mp r'; rfl
    | str b => cases rd_str.mp r'; rfl
    | _ => cases h'
  | int b =>
    cases rd_int.mp r
    cases e with
    | non => cases rd_non.mp r'; rfl
    | bl b => cases rd_bl.mp r'; rfl
    | int b => cases rd_int.mp r'; rfl
    | str b => cases rd_str.mp r'; rfl
    | _ => cases h'
  | str b =>
    cases rd_str.mp r
    cases e with
    | non => cases rd_non.mp r'; rfl
    | bl b => cases rd_bl.mp r'; rfl
    | int b => cases rd_int.mp r'; rfl
    | str b => cases rd_str.mp r'; rfl
    | _ => cases h'
  | _ => cases h
theorem flats_rd : ∀ {l : List D} {xs : List V}, l.all flatD = true → RDs G ρ H l xs → xs.all flatV = true
  | [], xs, _, r => by cases rds_nil.mp r; rfl
  | d :: l, xs, h, r => by
    obtain ⟨x, q, rfl, h1, h2⟩ := rds_cons.mp r
    rw [List.all_cons, Bool.and_eq_true] at h
    rw [List.all_cons, flat_rd h.1 h1, flats_rd h.2 h2] <;> rfl
theorem anyEq_rd {d : D} {v : V} (hd : flatD d = true) (rd : RD G ρ H d v) : ∀ {l : List D} {xs : List V}, l.all flatD = true → RDs G ρ H l xs → (l.any fun z => eqF z d) = inV v xs
  | [], xs, _, r => by cases rds_nil.mp r; rfl
  | e :: l, xs, h, r => by
    obtain ⟨x, q, rfl, h1, h2⟩ := rds_cons.mp r
    rw [List.all_cons, Bool.and_eq_true] at h
    rw [List.any_cons, anyEq_rd hd rd h.2 h2, eq_rd h.1 hd h1 rd]
    rfl
end
def rInDict (neg : Bool) : R2 := fun x y H Q => ∃ a o, y = .ref a ∧ DGet H a x o ∧ Q (.bl (o.isSome != neg)) H
theorem op_inDict (X : Cx) (hu : X.A.units + 200 < cLine) : OpR X (compareOp .In) (rInDict false) := fun pins s σ H x y v u Q I rx ry h => by
  obtain ⟨a, o, rfl, g, q⟩ := h
  cases ry
  exact d_in (by omega) I g rx fun s' I' => ⟨.bl o.isSome, H, I', rfl, by simpa using q⟩
theorem op_notInDict (X : Cx) (hu : X.A.units + 200 < cLine) : OpR X (compareOp .NotIn) (rInDict true) := fun pins s σ H x y v u Q I rx ry h => by
  obtain ⟨a, o, rfl, g, q⟩ := h
  cases ry
  exact d_notIn (by omega) I g rx fun s' I' => ⟨.bl (!o.isSome), H, I', rfl, by simpa using q⟩
def rInS : R2 := fun x y H Q => ∃ i j, x = .str i ∧ y = .str j ∧ Q (.bl (!(Builtin.Str.occurrences j i 0 j.length 1).isEmpty)) H
def rInA (K : PySem.W.Frag) : R2 := fun x y H Q => rIn K false x y H Q ∨ rInDict false x y H Q ∨ rInD K x y H Q ∨ rInS x y H Q
def rNinA (K : PySem.W.Frag) : R2 := fun x y H Q => rIn K true x y H Q ∨ rInDict true x y H Q ∨ rNotInD K x y H Q
theorem op_inA (X : Cx) (hu : X.A.units + 200 < cLine) : OpR X (compareOp .In) (rInA X.K) := op_in_seq.or ((op_inDict X hu).or ((op_inD (by omega)).or op_in_str))
theorem op_ninA (X : Cx) (hu : X.A.units + 200 < cLine) : OpR X (compareOp .NotIn) (rNinA X.K) := op_notIn_seq.or ((op_notInDict X hu).or (op_notInD (by omega)))
/-- what in reads -/
theorem inD_of {G : Gx} {ρ : List Addr} {H : Hp} {s : S} {dx dy : D} {x y : V} {b : Bool} (rp : Rep G ρ s H) (rx : RD G ρ H dx x) (ry : RD G ρ H dy y) (h : inD s dx dy = some b) :
    (∃ p xs, y = .ref p ∧ (SqL G.K H p xs ∨ SqT G.K H p xs) ∧ flatV x = true ∧ xs.all flatV = true ∧ inV x xs = b) ∨ (∃ a o, y = .ref a ∧ DGet H a x o ∧ o.isSome = b) ∨
      (∃ d ds, Dp G.K H x d ∧ Dp G.K H y (.list ds) ∧ SeqAt.shaped d = true ∧ SeqAt.shaped (.list ds) = true ∧ (ds.any fun z => PyData.eqv z d) = b) ∨
      ∃ i j, dx = .str i ∧ dy = .str j ∧ (!(Builtin.Str.occurrences j i 0 j.length 1).isEmpty) = b := by
  have fl : ∀ {l : List D} {p : Addr} {xs : List V}, (if (flatD dx && l.all flatD) = true then some (l.any fun z => eqF z dx) else none) = some b → RDs G ρ H l xs → flatV x = true ∧ xs.all flatV = true ∧ inV x xs = b := fun {l p xs} h r => by
    by_cases hz : (flatD dx && l.all flatD) = true
    · rw [if_pos hz] at h
      rw [Bool.and_eq_true] at hz
      exact ⟨flat_rd hz.1 rx, flats_rd hz.2 r, by rw [← anyEq_rd hz.1 rx hz.2 r]; exact Option.some.inj h⟩
    · rw [if_neg hz] at h
      cases h
  cases dy with
  | tup l =>
    obtain ⟨a, xs, rfl, h1, h2⟩ := rd_tup.mp ry
    exact .inl ⟨a, xs, rfl, .inr (SqT.of h1), fl (p := a) h h2⟩
  | frz l =>
    obtain ⟨a, xs, rfl, h1, h2⟩ := rd_frz.mp ry
    exact .inl ⟨a, xs, rfl, .inl h1.sq, fl (p := a) h h2⟩
  | str z =>
    cases dx with
    | str w => exact .inr (.inr (.inr ⟨w, z, rfl, rfl, Option.some.inj h⟩))
    | _ => cases h
  | ref n =>
    have dict : ∀ {kvs : List (Key × D)}, (s[n]? = some (.dct kvs) ∨ s[n]? = some (.lck kvs)) → (keyD dx).map (fun k => (getK kvs k).isSome) = some b → ∃ a o, y = .ref a ∧ DGet H a x o ∧ o.isSome = b := fun {kvs} ho h => by
      obtain ⟨k, hk, e⟩ := Option.map_eq_some_iff.mp h
      obtain ⟨a, kxs, rfl, h1, h2⟩ := rd_dict rp ry ho
      cases keyD_rd hk rx
      exact ⟨a, _, rfl, .inl ⟨kxs, k, h1, rfl, rfl⟩, by rw [← rk_isSome h2]; exact e⟩
    unfold inD at h
    dsimp only at h
    cases ho : s[n]? with
    | none => rw [ho] at h; cases h
    | some o =>
      rw [ho] at h
      cases o with
      | dct kvs => exact .inr (.inl (dict (.inl ho) h))
      | lck kvs => exact .inr (.inl (dict (.inr ho) h))
      | ins c fs => cases h
      | lst l =>
        obtain ⟨a, xs, rfl, _, h1, h2⟩ := rd_lst rp ry ho
        have h : (if (flatD dx && l.all flatD) = true then some (l.any fun z => eqF z dx) else match toPy s 64 dx, toPy s 64 (.ref n) with | some a, some (.list b) => some (b.any fun z => PyData.eqv z a) | _, _ => none) = some b := h
        by_cases hz : (flatD dx && l.all flatD) = true
        · rw [if_pos hz] at h
          exact .inl ⟨a, xs, rfl, .inl (SqL.of h1), fl (p := a) (by rw [if_pos hz]; exact h) h2⟩
        · rw [if_neg hz] at h
          cases q1 : toPy s 64 dx with
          | none => rw [q1] at h; cases h
          | some p =>
            cases q2 : toPy s 64 (.ref n) with
            | none => rw [q1, q2] at h; cases h
            | some q =>
              rw [q1, q2] at h
              cases q with
              | list ds =>
                obtain ⟨a1, a2⟩ := toPy_shaped rp q1 rx
                obtain ⟨b1, b2⟩ := toPy_shaped rp q2 ry
                exact .inr (.inr (.inl ⟨p, ds, a1, b1, a2, b2, Option.some.inj h⟩))
              | _ => cases h
  | _ => cases h
section
variable {G : Gx}
theorem pr_in : Pr2 G .inn (rInA G.K) := by
  intro ρ H s dx dy x y d s' Q rp rx ry hp g
  have hp : (inD s dx dy).map (fun b => (D.bl b, s)) = some (d, s') := hp
  obtain ⟨b, hb, e⟩ := Option.map_eq_some_iff.mp hp
  cases e
  have q : Q (.bl b) H := g.here rp (rd_bl.mpr rfl)
  rcases inD_of rp rx ry hb with ⟨p, xs, e, h1, h2, h3, rfl⟩ | ⟨a, o, e, h1, rfl⟩ | ⟨p, ds, h1, h2, h3, h4, rfl⟩ | ⟨i, j, rfl, rfl, rfl⟩
  · exact .inl ⟨p, xs, e, h1, h2, h3, q⟩
  · exact .inr (.inl ⟨a, o, e, h1, by simpa using q⟩)
  · exact .inr (.inr (.inl ⟨p, ds, h1, h2, h3, h4, q⟩))
  · exact .inr (.inr (.inr ⟨i, j, rd_str.mp rx, rd_str.mp ry, q⟩))
theorem pr_nin : Pr2 G .ntn (rNinA G.K) := by
  intro ρ H s dx dy x y d s' Q rp rx ry hp g
  have hp : (if isStrD dy = true then none else (inD s dx dy).map fun b => (D.bl (!b), s)) = some (d, s') := hp
  by_cases hs : isStrD dy = true
  · rw [if_pos hs] at hp
    cases hp
  rw [if_neg hs] at hp
  obtain ⟨b, hb, e⟩ := Option.map_eq_some_iff.mp hp
  cases e
  have q : Q (.bl (!b)) H := g.here rp (rd_bl.mpr rfl)
  rcases inD_of rp rx ry hb with ⟨p, xs, e, h1, h2, h3, rfl⟩ | ⟨a, o, e, h1, rfl⟩ | ⟨p, ds, h1, h2, h3, h4, rfl⟩ | ⟨i, j, e1, e2, rfl⟩
  · exact .inl ⟨p, xs, e, h1, h2, h3, q⟩
  · exact .inr (.inl ⟨a, o, e, h1, by simpa using q⟩)
  · exact .inr (.inr ⟨p, ds, h1, h2, h3, h4, q⟩)
  · subst e2
    exact absurd rfl hs
end
section
variable {C : CC} {x y : Expr} {e1 e2 : E} {pos : Pos}
theorem ce_in (h1 : CE C x e1) (h2 : CE C y e2) (hm : behindInMarks .In y = false := by first | exact nomark _ (by decide) (by decide) | rfl) : CE C (.Compare x [.In] [y] pos) (.prim .inn [e1, e2]) := ce_cmp op_inA pr_in h1 h2 hm
theorem ct_in (h1 : CE C x e1) (h2 : CE C y e2) (hm : behindInMarks .In y = false := by first | exact nomark _ (by decide) (by decide) | rfl) : CT C (.Compare x [.In] [y] pos) (.prim .inn [e1, e2]) := ct_cmp op_inA pr_in h1 h2 hm
theorem ce_nin (h1 : CE C x e1) (h2 : CE C y e2) (hm : behindInMarks .NotIn y = false := by first | exact nomark _ (by decide) (by decide) | rfl) : CE C (.Compare x [.NotIn] [y] pos) (.prim .ntn [e1, e2]) := ce_cmp op_ninA pr_nin h1 h2 hm
theorem ct_nin (h1 : CE C x e1) (h2 : CE C y e2) (hm : behindInMarks .NotIn y = false := by first | exact nomark _ (by decide) (by decide) | rfl) : CT C (.Compare x [.NotIn] [y] pos) (.prim .ntn [e1, e2]) := ct_cmp op_ninA pr_nin h1 h2 hm
end
end Mini
set_option Elab.async false
set_option linter.all false
set_option maxRecDepth 100000
set_option maxHeartbeats 1000000
/-! Mini 8: items, slices, built-in calls. -/
namespace Mini
open PySem L2 PyProof.Rows

/-! ### x[i] -/
section
variable {G : Gx} {ρ : List Addr} {H : Hp} {s : S}
theorem atI_rds {l : List D} {xs : List V} {i : Int} {d : D} (r : RDs G ρ H l xs) (h : atI l i = some d) : ∃ v, atI xs i = some v ∧ RD G ρ H d v := by
  unfold atI at h ⊢
  rw [← r.len]
  cases hj : ixN l.length i with
  | none => rw [hj] at h; cases h
  | some j =>
    rw [hj] at h
    exact r.get h
end
def rIxD : R2 := fun x y H Q => ∃ a v, x = .ref a ∧ DGet H a y (some v) ∧ Q v H
theorem ix_dict {X : Cx} (hu : X.A.units + 200 < cLine) : IxR X rIxD := by
  intro value slice pins s σ H x y v u Q I rx ry h hs
  obtain ⟨a, z, rfl, g, q⟩ := h
  cases rx
  exact tail_any (dict_typeIs I g) PySem.F.slot_dict_getitem.lookup (d_getItem (by omega) I g ry fun w' s' I' r' => ⟨z, H, I', r', q⟩) hs
def rIxA (K : PySem.W.Frag) : R2 := fun x y H Q => rIx K x y H Q ∨ rIxD x y H Q
section
variable {G : Gx}
theorem pr_ix : Pr2 G .ix (rIxA G.K) := by
  intro ρ H s dx dy x y d s' Q rp rx ry hp g
  cases dx with
  | str z =>
    cases dy with
    | int i =>
      have hp : (if z.length ≤ LIM then (atI z.cps.toList i).map fun c => (D.str ⟨#[c]⟩, s) else none) = some (d, s') := hp
      by_cases hz : z.length ≤ LIM
      · rw [if_pos hz] at hp
        obtain ⟨c, hc, e⟩ := Option.map_eq_some_iff.mp hp
        cases e
        exact .inl (.inr (.inr ⟨z, i, c, rd_str.mp rx, rd_int.mp ry, Nat.le_trans hz lim_line, hc, g.here rp (rd_str.mpr rfl)⟩))
      · rw [if_neg hz] at hp
        cases hp
    | _ => cases hp
  | tup l =>
    cases dy with
    | int i =>
      have hp : (atI l i).map (fun d => (d, s)) = some (d, s') := hp
      obtain ⟨c, hc, e⟩ := Option.map_eq_some_iff.mp hp
      cases e
      obtain ⟨a, xs, rfl, h1, h2⟩ := rd_tup.mp rx
      obtain ⟨v, hv, rv⟩ := atI_rds h2 hc
      exact .inl (.inr (.inl ⟨a, xs, i, v, rfl, rd_int.mp ry, SqT.of h1, hv, g.here rp rv⟩))
    | _ => cases hp
  | frz l =>
    cases dy with
    | int i =>
      have hp : (atI l i).map (fun d => (d, s)) = some (d, s') := hp
      obtain ⟨c, hc, e⟩ := Option.map_eq_some_iff.mp hp
      cases e
      obtain ⟨a, xs, rfl, h1, h2⟩ := rd_frz.mp rx
      obtain ⟨v, hv, rv⟩ := atI_rds h2 hc
      exact .inl (.inl ⟨a, xs, i, v, rfl, rd_int.mp ry, h1.sq, hv, g.here rp rv⟩)
    | _ => cases hp
  | ref n =>
    unfold prim at hp
    dsimp only at hp
    have dict : ∀ {kvs : List (Key × D)}, (s[n]? = some (.dct kvs) ∨ s[n]? = some (.lck kvs)) → (keyD dy).bind (fun k => (getK kvs k).map fun d => (d, s)) = some (d, s') → rIxD x y H Q := fun {kvs} ho h => by
      obtain ⟨k, hk, h⟩ := Option.bind_eq_some_iff.mp h
      obtain ⟨e, he, h⟩ := Option.map_eq_some_iff.mp h
      cases h
      obtain ⟨a, kxs, rfl, h1, h2⟩ := rd_dict rp rx ho
      cases keyD_rd hk ry
      rcases rk_get (k := k) h2 with ⟨q, _⟩ | ⟨d', v, q1, q2, q3⟩
      · rw [he] at q; cases q
      · rw [he] at q1
        cases q1
        exact ⟨a, v, rfl, .inl ⟨kxs, k, h1, rfl, q2.symm⟩, g.here rp q3⟩
    cases ho : s[n]? with
    | none => rw [ho] at hp; cases hp
    | some o =>
      rw [ho] at hp
      cases o with
      | dct kvs => exact .inr (dict (.inl ho) hp)
      | lck kvs => exact .inr (dict (.inr ho) hp)
      | ins c fs => cases hp
      | lst l =>
        cases dy with
        | int i =>
          have hp : (atI l i).map (fun d => (d, s)) = some (d, s') := hp
          obtain ⟨c, hc, e⟩ := Option.map_eq_some_iff.mp hp
          cases e
          obtain ⟨a, xs, rfl, _, h1, h2⟩ := rd_lst rp rx ho
          obtain ⟨v, hv, rv⟩ := atI_rds h2 hc
          exact .inl (.inl ⟨a, xs, i, v, rfl, rd_int.mp ry, SqL.of h1, hv, g.here rp rv⟩)
        | _ => cases hp
  | _ => cases hp
end
section
variable {C : CC} {x y z : Expr} {e e1 e2 e3 : E} {pos p2 : Pos}
theorem ce_ix (h1 : CE C x e1) (h2 : CE C y e2) (hs : PlainIx y := by intro _ _; rfl) : CE C (.Subscript x y pos) (.prim .ix [e1, e2]) := fun X W F =>
  PE.imp (pe_ix (ix_seq.or (ix_dict (by have := F.room.un; omega))) (h1 X W F) (h2 X W F) hs) fun σ H Q h => by
    have := tE_two pr_ix h
    rw [← F.K] at this
    exact this
end
/-! ### x[lo:hi] -/
def rSlT (K : PySem.W.Frag) : V → Option Int → Option Int → Hp → VK → Prop := fun x lo hi H Q => rSlL K x lo hi H Q ∨ rSlA K x lo hi H Q ∨ rSlS x lo hi H Q
theorem sl_all {X : Cx} : SlR X (rSlT X.K) := sl_list.or (sl_tupA.or sl_str)
section
variable {G : Gx} {ρ : List Addr} {H : Hp} {s : S}
theorem RDs.cut {l : List D} {xs : List V} (r : RDs G ρ H l xs) (lo hi : Option Int) : RDs G ρ H (cutD l lo hi) (cutV xs lo hi) := by
  unfold cutD cutV
  rw [r.len]
  exact (r.drop _).take _
theorem cut_whole {α : Type} {l : List α} {lo hi : Option Int} (h : HT.sIx l.length 0 lo = 0 ∧ HT.sIx l.length l.length hi = l.length) : (l.drop (HT.sIx l.length 0 lo)).take (HT.sIx l.length l.length hi - HT.sIx l.length 0 lo) = l := by
  rw [h.1, h.2, List.drop_zero, Nat.sub_zero, List.take_length]
theorem slD_of {dx d : D} {x : V} {lo hi : Option Int} {s' : S} {Q : VK} (rp : Rep G ρ s H) (rx : RD G ρ H dx x) (hp : slD dx lo hi s = some (d, s')) (g : Got G ρ H d s' Q) : rSlT G.K x lo hi H Q := by
  cases dx with
  | tup l =>
    cases hp
    obtain ⟨a, xs, e, h1, h2⟩ := rd_tup.mp rx
    refine .inr (.inl ⟨a, xs, e, SqT.of h1, fun hw => ?_, fun _ p hp => g.tuple rp hp (h2.cut lo hi)⟩)
    subst e
    refine g.here rp ?_
    have : cutD l lo hi = l := by
      rw [← h2.len] at hw
      exact cut_whole hw
    rw [this]
    exact rx
  | frz l =>
    cases hp
    obtain ⟨a, xs, e, h1, h2⟩ := rd_frz.mp rx
    exact .inl ⟨a, xs, e, h1.sq, fun p hp => g.laid rp hp fun ρ' H' pr kt e => ⟨_, e, (h2.cut lo hi).mono pr kt⟩⟩
  | ref n =>
    unfold slD at hp
    dsimp only at hp
    cases ho : s[n]? with
    | none => rw [ho] at hp; cases hp
    | some o =>
      rw [ho] at hp
      cases o with
      | lst l =>
        cases hp
        obtain ⟨a, xs, e, _, h1, h2⟩ := rd_lst rp rx ho
        exact .inl ⟨a, xs, e, SqL.of h1, fun p hp => g.laid rp hp fun ρ' H' pr kt e => ⟨_, e, (h2.cut lo hi).mono pr kt⟩⟩
      | _ => cases hp
  | str z =>
    have hp : (if z.length ≤ LIM then some (D.str (cutS z lo hi), s) else none) = some (d, s') := hp
    by_cases hz : z.length ≤ LIM
    · rw [if_pos hz] at hp
      cases hp
      exact .inr (.inr ⟨z, rd_str.mp rx, Nat.le_trans hz lim_line, g.here rp (rd_str.mpr rfl)⟩)
    · rw [if_neg hz] at hp
      cases hp
  | _ => cases hp
end
section
variable {C : CC} {x y z : Expr} {e e1 e2 e3 : E} {pos p2 : Pos}
/-- one more value -/
theorem tE_next {W : WX} {σ : L2.St} {H : Hp} {ρ : List Addr} {env : Ev} {s : S} {k : D → S → R D} {Q : VK} (re : RE C.G ρ H env σ) (rp : Rep C.G ρ s H) (h : WpR C.G (relD C.G) (fun cls d H' => W cls d σ H') ((eval C.c e env s).bind k) ρ H Q)
    {T : V → Hp → Prop} (q : ∀ v H1 ρ1 d s1, ρ <+: ρ1 → KeepT H H1 → RE C.G ρ1 H1 env σ → Rep C.G ρ1 s1 H1 → RD C.G ρ1 H1 d v → WpR C.G (relD C.G) (fun cls d H' => W cls d σ H') (k d s1) ρ1 H1 Q → T v H1) : tE C W e σ H T := by
  obtain ⟨a, b, c, d, f, g⟩ := tE_of re rp h
  exact ⟨a, b, c, d, f, g.mono (List.prefix_refl _) (KeepT.refl _) fun v H1 ⟨ρ1, d, s1, h1, h2, h3, h4, h5, h6⟩ => q v H1 ρ1 d s1 h1 h2 h3 h4 h5 h6⟩
/-- a part of a slice: an int -/
theorem tE_part {W : WX} {σ : L2.St} {H : Hp} {ρ : List Addr} {env : Ev} {s : S} {k : D → S → R D} {Q : Option Int → Hp → Prop} (re : RE C.G ρ H env σ) (rp : Rep C.G ρ s H) {Q0 : VK} (h : WpR C.G (relD C.G) (fun cls d H' => W cls d σ H') ((eval C.c (.prim .idI [e]) env s).bind k) ρ H Q0)
    (q : ∀ i H1 ρ1 s1, ρ <+: ρ1 → KeepT H H1 → RE C.G ρ1 H1 env σ → Rep C.G ρ1 s1 H1 → WpR C.G (relD C.G) (fun cls d H' => W cls d σ H') (k (.int i) s1) ρ1 H1 Q0 → Q (some i) H1) : tPart (tE C W e) σ H Q := by
  rw [eval_prim1, R.bind_assoc] at h
  refine tE_next re rp h fun v H1 ρ1 d s1 p1 k1 re1 rp1 rd1 q1 => ?_
  cases d with
  | int i => exact ⟨i, rd_int.mp rd1, q i H1 ρ1 s1 p1 k1 re1 rp1 q1⟩
  | _ => exact q1.elim
theorem ce_sl11 (h1 : CE C x e1) (h2 : CE C y e2) (h3 : CE C z e3) : CE C (.Subscript x (.Slice (some y) (some z) none p2) pos) (.prim (.sl true true) [e1, .prim .idI [e2], .prim .idI [e3]]) := fun X W F =>
  PE.imp (pe_slice sl_all (h1 X W F) (po_some (h2 X W F)) (po_some (h3 X W F))) fun σ H Q ⟨ρ, env, s, re, rp, h⟩ => by
    rw [eval_prim3] at h
    refine tE_next re rp h fun v1 H1 ρ1 d1 s1 p1 k1 re1 rp1 rd1 q1 => tE_part re1 rp1 q1 fun i H2 ρ2 s2 p2 k2 re2 rp2 q2 => tE_part re2 rp2 q2 fun j H3 ρ3 s3 p3 k3 re3 rp3 q3 => ?_
    obtain ⟨d, s', ho, g⟩ := wp_opt q3
    rw [F.K]
    exact slD_of rp3 ((rd1.mono p2 k2).mono p3 k3) ho g
theorem ce_sl10 (h1 : CE C x e1) (h2 : CE C y e2) : CE C (.Subscript x (.Slice (some y) none none p2) pos) (.prim (.sl true false) [e1, .prim .idI [e2]]) := fun X W F =>
  PE.imp (pe_slice sl_all (h1 X W F) (po_some (h2 X W F)) po_none) fun σ H Q ⟨ρ, env, s, re, rp, h⟩ => by
    rw [eval_prim2] at h
    refine tE_next re rp h fun v1 H1 ρ1 d1 s1 p1 k1 re1 rp1 rd1 q1 => tE_part re1 rp1 q1 fun i H2 ρ2 s2 p2 k2 re2 rp2 q2 => ?_
    obtain ⟨d, s', ho, g⟩ := wp_opt q2
    show rSlT X.K _ _ _ _ _
    rw [F.K]
    exact slD_of rp2 (rd1.mono p2 k2) ho g
theorem ce_sl01 (h1 : CE C x e1) (h2 : CE C y e2) : CE C (.Subscript x (.Slice none (some y) none p2) pos) (.prim (.sl false true) [e1, .prim .idI [e2]]) := fun X W F =>
  PE.imp (pe_slice sl_all (h1 X W F) po_none (po_some (h2 X W F))) fun σ H Q ⟨ρ, env, s, re, rp, h⟩ => by
    rw [eval_prim2] at h
    refine tE_next re rp h fun v1 H1 ρ1 d1 s1 p1 k1 re1 rp1 rd1 q1 => ?_
    show tPart (tE C W e2) σ H1 fun u H3 => rSlT X.K v1 none u H3 Q
    refine tE_part re1 rp1 q1 fun i H2 ρ2 s2 p2 k2 re2 rp2 q2 => ?_
    obtain ⟨d, s', ho, g⟩ := wp_opt q2
    rw [F.K]
    exact slD_of rp2 (rd1.mono p2 k2) ho g
theorem ce_sl00 (h1 : CE C x e1) : CE C (.Subscript x (.Slice none none none p2) pos) (.prim (.sl false false) [e1]) := fun X W F =>
  PE.imp (pe_slice sl_all (h1 X W F) po_none po_none) fun σ H Q ⟨ρ, env, s, re, rp, h⟩ => by
    rw [eval_prim1] at h
    refine tE_next re rp h fun v1 H1 ρ1 d1 s1 p1 k1 re1 rp1 rd1 q1 => ?_
    obtain ⟨d, s', ho, g⟩ := wp_opt q1
    show rSlT X.K _ _ _ _ _
    rw [F.K]
    exact slD_of rp1 rd1 ho g
end
end Mini
set_option Elab.async false
set_option linter.all false
set_option maxRecDepth 100000
set_option maxHeartbeats 1000000
/-! Mini 9: x[::-1], the calls of built-ins. -/
namespace Mini
open PySem L2 PyProof.Rows PySem.Builtin

section
variable {prog : Program} {w : World} {A : Around} {E : Value → Shared → Prop} {s : Shared}
theorem rv_applied {sl : Addr} {vs : Value} {n : Nat} {Q : Int × Int × Nat → Shared → Prop} (hs : s.heap.IsSliceOf sl .none .none vs) (ps : IsPart vs (some (-1)))
    (h : Q ((n : Int) - 1, -1, n) s) : wpAny (model prog w) A (Builtin.Slice.sliceApplied (.ref sl) (pure (n : Int))) Q E s := by
  obtain ⟨os, hos, hcs, hds⟩ := id hs
  unfold Builtin.Slice.sliceApplied Builtin.Slice.sliceFields
  refine wpAny_bind (wpAny_bind (wpAny_field hos hds (x := .none) rfl (wpAny_bind (wpAny_field hos hds (x := .none) rfl (wpAny_bind (wpAny_field hos hds (x := vs) rfl (wpAny_pure ?_)))))))
  refine wpAny_bind (HT.slicePart_ ps ?_)
  show wpAny _ _ (if ((-1 : Int) == 0) = true then _ else _) _ _ s
  rw [if_neg (by decide)]
  refine wpAny_bind (HT.slicePart_ .none (wpAny_bind (HT.slicePart_ .none (wpAny_bind (wpAny_pure ?_)))))
  have e1 : Builtin.Slice.sliceAdjust none none (-1) (n : Int) = ((n : Int) - 1, -1) := by
    unfold Builtin.Slice.sliceAdjust
    simp
  have e2 : Builtin.Slice.slicePlaces ((n : Int) - 1) (-1) (-1) = n := by
    unfold Builtin.Slice.slicePlaces
    simp only [show ¬ ((-1 : Int) > 0) by omega, if_false, show -(-1 : Int) = 1 from rfl, Int.ediv_one]
    split <;> omega
  show wpAny _ _ (match Builtin.Slice.sliceAdjust none none (-1) (n : Int) with | (lo, hi) => pure (lo, (-1 : Int), Builtin.Slice.slicePlaces lo hi (-1))) _ _ s
  rw [e1]
  show wpAny _ _ (pure ((n : Int) - 1, (-1 : Int), Builtin.Slice.slicePlaces ((n : Int) - 1) (-1) (-1))) _ _ s
  rw [e2]
  exact wpAny_pure h
theorem rv_pick (xs : Array Value) : ((List.range xs.size).filterMap fun (m : Nat) => xs[(((xs.size : Nat) : Int) - 1 + (m : Int) * (-1)).toNat]?).toArray = xs.toList.reverse.toArray := by
  congr 1
  have e : ∀ (k : Nat), k ≤ xs.size → ((List.range k).filterMap fun (m : Nat) => xs[(((xs.size : Nat) : Int) - 1 + (m : Int) * (-1)).toNat]?) = xs.toList.reverse.take k := by
    intro k
    induction k with
    | zero => intro _; simp
    | succ k ih =>
      intro hk
      rw [List.range_succ, List.filterMap_append, ih (by omega)]
      have h1 : (((xs.size : Nat) : Int) - 1 + (k : Int) * (-1)).toNat = xs.size - 1 - k := by omega
      have h2 : xs.size - 1 - k < xs.size := by omega
      have h3 : k < xs.toList.reverse.length := by rw [List.length_reverse, Array.length_toList]; omega
      rw [List.take_add_one, List.getElem?_eq_getElem h3]
      congr 1
      rw [List.filterMap_cons, h1, Array.getElem?_eq_getElem h2]
      simp
  rw [e xs.size (Nat.le_refl _), List.take_of_length_le (by rw [List.length_reverse, Array.length_toList]; exact Nat.le_refl _)]
theorem rv_tuple {t sl : Addr} {items : Array Value} {vs : Value} {Q : Value → Shared → Prop} (ht : IsTup s.heap t items) (hs : s.heap.IsSliceOf sl .none .none vs) (ps : IsPart vs (some (-1)))
    (h : Q (.ref s.heap.objs.size) { s with heap := s.heap.push { cls := .type "tuple", data := .seq items.toList.reverse.toArray } }) (hsz : items.size ≤ sizeLine) : wpAny (model prog w) A (getItem (.ref t) (.ref sl)) Q E s := by
  have htake : sizeOk (.seq items.toList.reverse.toArray) := by
    show items.toList.reverse.toArray.size ≤ sizeLine
    rw [List.size_toArray, List.length_reverse, Array.length_toList]
    exact hsz
  obtain ⟨os, hos, hcs, hds⟩ := id hs
  have hTs : s.TypeIs (.ref sl) "slice" := ⟨os, hos, hcs⟩
  unfold getItem
  try with_reducible refine wpAny_holding ?_
  first | refine wpAny_bind (wpAny_pure ?_) | skip
  refine wpAny_bind (wpAny_sequenceKey ht.typeIs (by decide) ?_)
  refine wpAny_bind (wpAny_callSpecial?_slot (name := Str.ofString "__getitem__") ht.typeIs PyProof.Rows.slot_tuple_getitem
    (wpAny_call_entry PyProof.Rows.slot_tuple_getitem ht.typeIs entry_tuple_getitem ?_ (args_tuple_getitem _ _)))
  show wpAny _ _ (Builtin.Tuple.tupleItemsOf (.ref t) >>= _) _ _ s
  refine wpAny_bind (tupleItemsOf_ ht ?_)
  refine wpAny_bind (wpAny_typeOf hTs ?_)
  rw [if_pos (by decide)]
  refine wpAny_bind (rv_applied hs ps ?_)
  have hno : ¬ (((((items.size : Nat) : Int) - 1 == 0 && (-1 : Int) == 1 && items.size == items.size) = true)) := by
    rw [show ((-1 : Int) == 1) = false from rfl, Bool.and_false, Bool.false_and]
    exact Bool.false_ne_true
  show wpAny _ _ (if (((items.size : Nat) : Int) - 1 == 0 && (-1 : Int) == 1 && items.size == items.size) = true then _ else _) _ _ s
  rw [if_neg hno, rv_pick]
  first
    | exact wpAny_bind (m := Builtin.Tuple.tupleExact _) (wpAny_newObj_type (wpAny_pure ⟨_, rfl, wpAny_pure h⟩) htake)
    | exact wpAny_bind (m := Builtin.Tuple.tupleExact _) (wpAny_newObj_type (wpAny_bind (wpAny_pure (wpAny_pure ⟨_, rfl, wpAny_pure h⟩))) htake)
    | exact wpAny_bind (wpAny_bind (m := Builtin.Tuple.tupleExact _) (wpAny_newObj_type (wpAny_pure (wpAny_pure ⟨_, rfl, wpAny_pure h⟩)) htake))
    | exact wpAny_bind (wpAny_bind (m := Builtin.Tuple.tupleExact _) (wpAny_newObj_type (wpAny_pure ⟨_, rfl, wpAny_pure h⟩) htake))
end
def tRvT (K : PySem.W.Frag) (te : TE) : TE := fun σ H Q => te σ H fun x H1 => (∃ a xs, x = .ref a ∧ SqL K H1 a xs ∧ ∀ p, H1 p = none → Q (.ref p) (upd H1 p (.lst xs.reverse))) ∨ ∃ a xs, x = .ref a ∧ SqT K H1 a xs ∧ ∀ p, H1 p = none → Q (.ref p) (upd H1 p (.tup xs.reverse))
theorem pe_rvA {X : Cx} {e : Expr} {te : TE} {k : Nat} {p1 p2 p3 pos : Pos} (he : PE X e te) : PE X (.Subscript e (.Slice none none (some (.UnaryOp .USub (.Constant (.int 1) k p1) p2)) p3) pos) (tRvT X.K te) := by
  refine ⟨fun pins s σ H Q I h => ?_⟩
  refine Subscript_ (thn (he.run pins s σ H _ I h) fun v s1 ⟨x, H1, I1, r1, q1⟩ => ?_)
  have hst : PO X (some (.UnaryOp .USub (.Constant (.int 1) k p1) p2)) (tPart (tUn (rU fun i => .int (-i)) (tC (.int 1)))) := po_some (pe_un un_neg pe_int)
  refine wpAny_Slice (thn (po_none.run pins s1 σ H1 (fun o H2 => o = none ∧ H2 = H1) I1 ⟨rfl, rfl⟩) fun vl s2 ⟨l, H2, I2, pl, el, e2⟩ => ?_)
  subst el e2
  refine thn (po_none.run pins s2 σ H2 (fun o H3 => o = none ∧ H3 = H2) I2 ⟨rfl, rfl⟩) fun vu s3 ⟨u, H3, I3, pu, eu, e3⟩ => ?_
  subst eu e3
  refine thn (hst.run pins s3 σ H3 (fun o H4 => o = some (-1) ∧ H4 = H3) I3 ⟨1, rfl, -1, rfl, rfl, rfl⟩) fun vs s4 ⟨o, H4, I4, ps, eo, e4⟩ => ?_
  subst eo e4
  cases pl
  cases pu
  have I5 : Inv X pins σ H4 { s4 with heap := s4.heap.push { cls := .type "slice", data := .fields #[.none, .none, vs] } } := I4.kept (t' := s4.toks) fun b ob q => Heap.get?_push_of_some _ q
  rcases q1 with ⟨a, xs, ex, hx, q⟩ | ⟨a, xs, ex, hx, q⟩
  · subst ex
    cases r1
    obtain ⟨its, r, ht, hz⟩ := I5.list hx
    have hlen := r.length
    show wpAny (model X.prog X.w) X.A (subscriptTail e (.Slice none none (some (.UnaryOp .USub (.Constant (.int 1) k p1) p2)) p3) (.ref a) (.ref s4.heap.objs.size)) (EP X pins σ Q) X.xe { s4 with heap := s4.heap.push { cls := .type "slice", data := .fields #[.none, .none, vs] } }
    refine tail_any (ops := [.ref a, .ref s4.heap.objs.size]) ht.isList.typeIs (PySem.slot_list_getitem.lookup) ?_ (by with_unfolding_all rfl)
    refine wpAny_getItem_list_slice ht.isList (Heap.IsSliceOf.new _ .none .none vs) .none .none ps (by decide) ?_ (by rw [List.size_toArray]; omega)
    rw [PySem.W.krv_pick]
    refine ⟨.ref _, _, I5.laid (t' := s4.toks) (o := .lst xs.reverse) (fun b ob q => Heap.get?_push_of_some _ q) (Nat.le_refl _) ?_, rfl, q _ (I5.hok.fresh (Nat.le_refl _))⟩
    exact ⟨by rw [List.length_reverse]; exact hz, _, 0, r.reverse, Heap.get?_push_size _ rfl⟩
  · subst ex
    cases r1
    obtain ⟨its, r, ht, hz⟩ := I5.tuple hx
    have hlen := r.length
    show wpAny (model X.prog X.w) X.A (subscriptTail e (.Slice none none (some (.UnaryOp .USub (.Constant (.int 1) k p1) p2)) p3) (.ref a) (.ref s4.heap.objs.size)) (EP X pins σ Q) X.xe { s4 with heap := s4.heap.push { cls := .type "slice", data := .fields #[.none, .none, vs] } }
    refine tail_any (ops := [.ref a, .ref s4.heap.objs.size]) ht.typeIs (PyProof.Rows.slot_tuple_getitem.lookup) ?_ (by with_unfolding_all rfl)
    refine rv_tuple ht (Heap.IsSliceOf.new _ .none .none vs) ps ?_ (by rw [List.size_toArray]; omega)
    refine ⟨.ref _, _, I5.laid (t' := s4.toks) (o := .tup xs.reverse) (fun b ob q => Heap.get?_push_of_some _ q) (Nat.le_refl _) ?_, rfl, q _ (I5.hok.fresh (Nat.le_refl _))⟩
    exact ⟨by rw [List.length_reverse]; exact hz, _, r.reverse, _, Heap.get?_push_size _ rfl, rfl, _, rfl⟩
section
variable {C : CC} {x : Expr} {e1 : E} {G : Gx}
theorem ce_rv {k : Nat} {p1 p2 p3 pos : Pos} (h1 : CE C x e1) : CE C (.Subscript x (.Slice none none (some (.UnaryOp .USub (.Constant (.int 1) k p1) p2)) p3) pos) (.prim .rvL [e1]) := fun X W F =>
  PE.imp (pe_rvA (h1 X W F)) fun σ H Q h => by
    rw [F.K]
    refine tE_one (r := fun x H1 Q => (∃ a xs, x = .ref a ∧ SqL C.G.K H1 a xs ∧ ∀ p, H1 p = none → Q (.ref p) (upd H1 p (.lst xs.reverse))) ∨ ∃ a xs, x = .ref a ∧ SqT C.G.K H1 a xs ∧ ∀ p, H1 p = none → Q (.ref p) (upd H1 p (.tup xs.reverse))) ?_ h
    intro ρ H s dx x d s' Q rp rx hp g
    cases dx with
    | ref n =>
      have hp : (match s[n]? with | some (.lst l) => mk s (.lst l.reverse) | _ => none) = some (d, s') := hp
      cases ho : s[n]? with
      | none => rw [ho] at hp; cases hp
      | some o =>
        rw [ho] at hp
        cases o with
        | lst l =>
          cases hp
          obtain ⟨a, xs, e, _, h1, h2⟩ := rd_lst rp rx ho
          exact .inl ⟨a, xs, e, SqL.of h1, fun p hp => g.laid rp hp fun ρ' H' pr kt e => ⟨_, e, h2.reverse.mono pr kt⟩⟩
        | _ => cases hp
    | tup l =>
      have hp : (if l.length ≤ LIM then some (D.tup l.reverse, s) else none) = some (d, s') := hp
      by_cases hz : l.length ≤ LIM
      · rw [if_pos hz] at hp
        cases hp
        obtain ⟨a, xs, e, h1, h2⟩ := rd_tup.mp rx
        exact .inr ⟨a, xs, e, SqT.of h1, fun p hp => g.tuple rp hp h2.reverse⟩
      · rw [if_neg hz] at hp
        cases hp
    | _ => cases hp
end
end Mini
set_option Elab.async false
set_option linter.all false
set_option maxRecDepth 100000
set_option maxHeartbeats 1000000
/-! Mini 10: the calls of built-ins. -/
namespace Mini
open PySem L2 PyProof.Rows

section
variable {G : Gx}
theorem pl_one {p : P} {r : List V → Hp → VK → Prop} (h0 : ∀ s, prim p [] s = none) (h2 : ∀ a b l s, prim p (a :: b :: l) s = none)
    (h : ∀ ρ H s dx x d s' Q, Rep G ρ s H → RD G ρ H dx x → prim p [dx] s = some (d, s') → Got G ρ H d s' Q → r [x] H Q) : PrL G p r := by
  intro ρ H s ds xs d s' Q rp rx hp g
  rcases ds with _ | ⟨a, _ | ⟨b, l⟩⟩
  · rw [h0] at hp; cases hp
  · obtain ⟨x, q, rfl, h1, h2⟩ := rds_cons.mp rx
    cases rds_nil.mp h2
    exact h ρ H s a x d s' Q rp h1 hp g
  · rw [h2] at hp; cases hp
theorem pl_two {p : P} {r : List V → Hp → VK → Prop} (h0 : ∀ s, prim p [] s = none) (h1 : ∀ a s, prim p [a] s = none) (h3 : ∀ a b c l s, prim p (a :: b :: c :: l) s = none)
    (h : ∀ ρ H s dx dy x y d s' Q, Rep G ρ s H → RD G ρ H dx x → RD G ρ H dy y → prim p [dx, dy] s = some (d, s') → Got G ρ H d s' Q → r [x, y] H Q) : PrL G p r := by
  intro ρ H s ds xs d s' Q rp rx hp g
  rcases ds with _ | ⟨a, _ | ⟨b, _ | ⟨c, l⟩⟩⟩
  · rw [h0] at hp; cases hp
  · rw [h1] at hp; cases hp
  · obtain ⟨x, q, rfl, h1, h2⟩ := rds_cons.mp rx
    obtain ⟨y, q, rfl, h3, h4⟩ := rds_cons.mp h2
    cases rds_nil.mp h4
    exact h ρ H s a b x y d s' Q rp h1 h3 hp g
  · rw [h3] at hp; cases hp
/-! len -/
def rLen' (K : PySem.W.Frag) : List V → Hp → VK → Prop := fun xs H Q => (∃ x n, xs = [x] ∧ LenV K x H n ∧ Q (.int n) H) ∨ ∃ a kvs, xs = [V.ref a] ∧ L2.Rd H a (.dK kvs) ∧ Q (.int kvs.length) H
theorem pr_len : PrL G .len (rLen' G.K) := by
  refine pl_one (fun _ => rfl) (fun a _ _ _ => by cases a <;> rfl) fun ρ H s dx x d s' Q rp rx hp g => ?_
  cases dx with
  | str z =>
    have hp : (if z.length ≤ LIM then some (D.int z.length, s) else none) = some (d, s') := hp
    by_cases hz : z.length ≤ LIM
    · rw [if_pos hz] at hp
      cases hp
      cases rd_str.mp rx
      exact .inl ⟨_, _, rfl, ⟨Nat.le_trans hz lim_line, rfl⟩, g.here rp (rd_int.mpr rfl)⟩
    · rw [if_neg hz] at hp
      cases hp
  | tup l =>
    cases hp
    obtain ⟨a, xs, e, h1, h2⟩ := rd_tup.mp rx
    subst e
    exact .inl ⟨_, l.length, rfl, .inr ⟨xs, SqT.of h1, h2.len⟩, g.here rp (rd_int.mpr rfl)⟩
  | frz l =>
    cases hp
    obtain ⟨a, xs, e, h1, h2⟩ := rd_frz.mp rx
    subst e
    exact .inl ⟨_, l.length, rfl, .inl ⟨xs, h1.sq, h2.len⟩, g.here rp (rd_int.mpr rfl)⟩
  | ref n =>
    unfold prim at hp
    dsimp only at hp
    cases ho : s[n]? with
    | none => rw [ho] at hp; cases hp
    | some o =>
      rw [ho] at hp
      cases o with
      | lst l =>
        cases hp
        obtain ⟨a, xs, e, _, h1, h2⟩ := rd_lst rp rx ho
        subst e
        exact .inl ⟨_, l.length, rfl, .inl ⟨xs, SqL.of h1, h2.len⟩, g.here rp (rd_int.mpr rfl)⟩
      | dct l =>
        cases hp
        obtain ⟨a, xs, e, _, h1, h2⟩ := rd_dct rp rx ho
        subst e
        refine .inr ⟨a, xs, rfl, .inl h1, ?_⟩
        rw [← h2.len]
        exact g.here rp (rd_int.mpr rfl)
      | lck l =>
        cases hp
        obtain ⟨a, o, xs, e, _, h1, h2⟩ := rd_lck rp rx ho
        subst e
        refine .inr ⟨a, xs, rfl, .inr ⟨o, h1⟩, ?_⟩
        rw [← h2.len]
        exact g.here rp (rd_int.mpr rfl)
      | ins c fs => cases hp
  | _ => cases hp
theorem cr_lenR (X : Cx) : CallR X (.builtin "len") (fun xs H Q => ∃ a kvs, xs = [V.ref a] ∧ L2.Rd H a (.dK kvs) ∧ Q (.int kvs.length) H) := by
  intro pins s σ H xs us Q I r h
  obtain ⟨a, kvs, rfl, ha, q⟩ := h
  obtain ⟨u, rfl, ru⟩ := vals1 r
  cases ru
  exact d_len I ha fun t s' I' => ⟨.int kvs.length, H, I', ⟨t, rfl⟩, q⟩
theorem cr_len (X : Cx) (hc : X.calm = true) : CallR X (.builtin "len") (rLen' X.K) := call_len.or (cr_lenR X)
/-! int, abs, min, max -/
theorem pr_int1 : PrL G .int1 (fun xs H Q => (∃ i, xs = [.int i] ∧ Q (.int i) H) ∨ ∃ k, xs = [.bl k] ∧ Q (.int (if k then 1 else 0)) H) := by
  refine pl_one (fun _ => rfl) (fun a _ _ _ => by cases a <;> rfl) fun ρ H s dx x d s' Q rp rx hp g => ?_
  cases dx with
  | int i => cases hp; cases rd_int.mp rx; exact .inl ⟨i, rfl, g.here rp (rd_int.mpr rfl)⟩
  | bl i => cases hp; cases rd_bl.mp rx; exact .inr ⟨i, rfl, g.here rp (rd_int.mpr rfl)⟩
  | _ => cases hp
theorem pr_abs : PrL G .abs1 (fun xs H Q => ∃ i, xs = [.int i] ∧ Q (.int (if i < 0 then -i else i)) H) := by
  refine pl_one (fun _ => rfl) (fun a _ _ _ => by cases a <;> rfl) fun ρ H s dx x d s' Q rp rx hp g => ?_
  cases dx with
  | int i => cases hp; cases rd_int.mp rx; exact ⟨i, rfl, g.here rp (rd_int.mpr rfl)⟩
  | _ => cases hp
theorem pr_min2 : PrL G .min2 (fun xs H Q => ∃ i j, xs = [.int i, .int j] ∧ Q (.int (if j < i then j else i)) H) := by
  refine pl_two (fun _ => rfl) (fun a _ => by cases a <;> rfl) (fun a b _ _ _ => by cases a <;> first | rfl | (cases b <;> rfl)) fun ρ H s dx dy x y d s' Q rp rx ry hp g => ?_
  cases dx with
  | int i =>
    cases dy with
    | int j => cases hp; cases rd_int.mp rx; cases rd_int.mp ry; exact ⟨i, j, rfl, g.here rp (rd_int.mpr rfl)⟩
    | _ => cases hp
  | _ => cases hp
theorem pr_max2 : PrL G .max2 (fun xs H Q => ∃ i j, xs = [.int i, .int j] ∧ Q (.int (if j > i then j else i)) H) := by
  refine pl_two (fun _ => rfl) (fun a _ => by cases a <;> rfl) (fun a b _ _ _ => by cases a <;> first | rfl | (cases b <;> rfl)) fun ρ H s dx dy x y d s' Q rp rx ry hp g => ?_
  cases dx with
  | int i =>
    cases dy with
    | int j => cases hp; cases rd_int.mp rx; cases rd_int.mp ry; exact ⟨i, j, rfl, g.here rp (rd_int.mpr rfl)⟩
    | _ => cases hp
  | _ => cases hp
/-- a list of the store, its items -/
theorem lst_of {α : Type} {n : Nat} {s : S} {f : List D → Option α} {a : α} (h : (match s[n]? with | some (.lst l) => f l | _ => none) = some a) : ∃ l, s[n]? = some (.lst l) ∧ f l = some a := by
  cases ho : s[n]? with
  | none => rw [ho] at h; cases h
  | some o =>
    rw [ho] at h
    cases o with
    | lst l => exact ⟨l, rfl, h⟩
    | _ => cases h
theorem rd_ints {ρ : List Addr} {H : Hp} {s : S} {n : Nat} {x : V} {l : List D} {ns : List Int} (rp : Rep G ρ s H) (rx : RD G ρ H (.ref n) x) (h : s[n]? = some (.lst l)) (hi : intsD l = some ns) : ∃ a, x = .ref a ∧ SqL G.K H a (ns.map V.int) := by
  obtain ⟨a, xs, e, _, h1, h2⟩ := rd_lst rp rx h
  have := intsD_of hi
  subst this
  rw [rds_ints h2] at h1
  exact ⟨a, e, SqL.of h1⟩
theorem pr_sum : PrL G .sum (rSum G.K) := by
  refine pl_one (fun _ => rfl) (fun a _ _ _ => by cases a <;> rfl) fun ρ H s dx x d s' Q rp rx hp g => ?_
  cases dx with
  | ref n =>
    obtain ⟨l, ho, hp⟩ := lst_of (α := D × S) (f := fun l => (intsD l).map fun (ns : List Int) => (D.int ns.sum, s)) hp
    obtain ⟨ns, hi, e⟩ := Option.map_eq_some_iff.mp hp
    cases e
    obtain ⟨a, e, h1⟩ := rd_ints rp rx ho hi
    subst e
    exact ⟨a, ns, rfl, h1, g.here rp (rd_int.mpr rfl)⟩
  | _ => cases hp
theorem pr_maxL : PrL G .maxL (rMax G.K) := by
  refine pl_one (fun _ => rfl) (fun a _ _ _ => by cases a <;> rfl) fun ρ H s dx x d s' Q rp rx hp g => ?_
  cases dx with
  | ref n =>
    obtain ⟨l, ho, hp⟩ := lst_of (α := D × S) (f := fun l => (intsD l).bind fun ns => ns.max?.map fun m => (D.int m, s)) hp
    obtain ⟨ns, hi, hp⟩ := Option.bind_eq_some_iff.mp hp
    obtain ⟨m, hm, e⟩ := Option.map_eq_some_iff.mp hp
    cases e
    obtain ⟨a, e, h1⟩ := rd_ints rp rx ho hi
    subst e
    obtain ⟨m1, m2⟩ := List.max?_eq_some_iff.mp hm
    refine ⟨a, ns, rfl, h1, List.length_pos_of_mem m1, fun k h1 h2 => ?_⟩
    have : k = m := Int.le_antisymm (m2 k h1) (h2 m m1)
    subst this
    exact g.here rp (rd_int.mpr rfl)
  | _ => cases hp
theorem pr_minL : PrL G .minL (rMin G.K) := by
  refine pl_one (fun _ => rfl) (fun a _ _ _ => by cases a <;> rfl) fun ρ H s dx x d s' Q rp rx hp g => ?_
  cases dx with
  | ref n =>
    obtain ⟨l, ho, hp⟩ := lst_of (α := D × S) (f := fun l => (intsD l).bind fun ns => ns.min?.map fun m => (D.int m, s)) hp
    obtain ⟨ns, hi, hp⟩ := Option.bind_eq_some_iff.mp hp
    obtain ⟨m, hm, e⟩ := Option.map_eq_some_iff.mp hp
    cases e
    obtain ⟨a, e, h1⟩ := rd_ints rp rx ho hi
    subst e
    obtain ⟨m1, m2⟩ := List.min?_eq_some_iff.mp hm
    refine ⟨a, ns, rfl, h1, List.length_pos_of_mem m1, fun k h1 h2 => ?_⟩
    have : k = m := Int.le_antisymm (h2 m m1) (m2 k h1)
    subst this
    exact g.here rp (rd_int.mpr rfl)
  | _ => cases hp
theorem rd_bools {ρ : List Addr} {H : Hp} {s : S} {n : Nat} {x : V} {l : List D} {ns : List Bool} (rp : Rep G ρ s H) (rx : RD G ρ H (.ref n) x) (h : s[n]? = some (.lst l)) (hi : blsD l = some ns) : ∃ a, x = .ref a ∧ SqL G.K H a (ns.map V.bl) := by
  obtain ⟨a, xs, e, _, h1, h2⟩ := rd_lst rp rx h
  have := blsD_of hi
  subst this
  rw [rds_bls h2] at h1
  exact ⟨a, e, SqL.of h1⟩
theorem pr_all : PrL G .all (rAll G.K) := by
  refine pl_one (fun _ => rfl) (fun a _ _ _ => by cases a <;> rfl) fun ρ H s dx x d s' Q rp rx hp g => ?_
  cases dx with
  | ref n =>
    obtain ⟨l, ho, hp⟩ := lst_of (α := D × S) (f := fun l => (blsD l).map fun (ns : List Bool) => (D.bl (ns.all id), s)) hp
    obtain ⟨ns, hi, e⟩ := Option.map_eq_some_iff.mp hp
    cases e
    obtain ⟨a, e, h1⟩ := rd_bools rp rx ho hi
    subst e
    exact ⟨a, ns, rfl, h1, g.here rp (rd_bl.mpr rfl)⟩
  | _ => cases hp
theorem pr_any : PrL G .any (rAny G.K) := by
  refine pl_one (fun _ => rfl) (fun a _ _ _ => by cases a <;> rfl) fun ρ H s dx x d s' Q rp rx hp g => ?_
  cases dx with
  | ref n =>
    obtain ⟨l, ho, hp⟩ := lst_of (α := D × S) (f := fun l => (blsD l).map fun (ns : List Bool) => (D.bl (ns.any id), s)) hp
    obtain ⟨ns, hi, e⟩ := Option.map_eq_some_iff.mp hp
    cases e
    obtain ⟨a, e, h1⟩ := rd_bools rp rx ho hi
    subst e
    exact ⟨a, ns, rfl, h1, g.here rp (rd_bl.mpr rfl)⟩
  | _ => cases hp
theorem sortI_perm (l : List Int) : (sortI l).Perm l := List.mergeSort_perm l _
theorem sortI_pw (l : List Int) : (sortI l).Pairwise (· ≤ ·) := by
  have := List.pairwise_mergeSort (le := fun (a b : Int) => decide (a ≤ b)) (fun a b c h1 h2 => by simp at *; omega) (fun a b => by simp; omega) l
  exact this.imp (fun h => by simpa using h)
theorem sorted_uniq {l m : List Int} (p : l.Perm m) (h1 : l.Pairwise (· ≤ ·)) (h2 : m.Pairwise (· ≤ ·)) : l = m := p.eq_of_pairwise (fun a b _ _ h h' => Int.le_antisymm h h') h1 h2
theorem pr_sorted : PrL G .sorted (rSortedI G.K) := by
  refine pl_one (fun _ => rfl) (fun a _ _ _ => by cases a <;> rfl) fun ρ H s dx x d s' Q rp rx hp g => ?_
  cases dx with
  | ref n =>
    obtain ⟨l, ho, hp⟩ := lst_of (α := D × S) (f := fun l => (intsD l).bind fun ns => mk s (.lst ((sortI ns).map .int))) hp
    obtain ⟨ns, hi, e⟩ := Option.bind_eq_some_iff.mp hp
    cases e
    obtain ⟨a, e, h1⟩ := rd_ints rp rx ho hi
    subst e
    refine ⟨a, ns, rfl, h1, fun ns' p q1 q2 hp => ?_⟩
    have : ns' = sortI ns := sorted_uniq (q1.trans (sortI_perm ns).symm) q2 (sortI_pw ns)
    subst this
    exact g.laid rp hp fun ρ' H' pr kt e => ⟨_, e, rds_ints'⟩
  | _ => cases hp
/-! list(x), tuple(x) -/
def rList1 (K : PySem.W.Frag) : List V → Hp → VK → Prop := fun xs H Q => (∃ p ys, xs = [.ref p] ∧ (SqL K H p ys ∨ SqT K H p ys) ∧ ∀ l, H l = none → Q (.ref l) (upd H l (.lst ys))) ∨ rListD xs H Q
theorem cr_list1 (X : Cx) (hc : X.calm = true) : CallR X (.type "list") (rList1 X.K) := call_list_of.or (call_list_dK hc)
theorem rds_keys {ρ : List Addr} {H : Hp} : ∀ {l : List (Key × D)} {kxs : List (Key × V)}, RK G ρ H l kxs → ∀ {ρ' H'}, RDs G ρ' H' (l.map fun kv => dK kv.1) (kxs.map fun kv => kV kv.1)
  | [], kxs, h, _, _ => by
    rw [rk_nil] at h
    subst h
    exact rds_nil.mpr rfl
  | (j, e) :: l, kxs, h, _, _ => by
    obtain ⟨x, r, rfl, h1, h2⟩ := rk_cons.mp h
    exact rds_cc.mpr ⟨dK_rd, rds_keys h2⟩
theorem pr_list1 : PrL G .list1 (rList1 G.K) := by
  refine pl_one (fun _ => rfl) (fun a _ _ _ => by cases a <;> rfl) fun ρ H s dx x d s' Q rp rx hp g => ?_
  have it : ∀ {l : List D}, items s dx = some l → mk s (.lst l) = some (d, s') → rList1 G.K [x] H Q := fun {l} h hp => by
    cases hp
    obtain ⟨a, xs, rfl, h1, h2⟩ := items_sq rp rx h
    exact .inl ⟨a, xs, rfl, h1, fun p hp => g.laid rp hp fun ρ' H' pr kt e => ⟨_, e, h2.mono pr kt⟩⟩
  cases dx with
  | ref n =>
    unfold prim at hp
    dsimp only at hp
    cases ho : s[n]? with
    | none => rw [ho] at hp; cases hp
    | some o =>
      rw [ho] at hp
      cases o with
      | lst l => exact it (l := l) (by unfold items; dsimp only; rw [ho]) hp
      | dct l =>
        cases hp
        obtain ⟨a, xs, e, _, h1, h2⟩ := rd_dct rp rx ho
        subst e
        exact .inr ⟨a, xs, rfl, h1, fun p hp => g.laid rp hp fun ρ' H' pr kt e => ⟨_, e, rds_keys h2⟩⟩
      | _ => cases hp
  | tup l => exact it (l := l) rfl hp
  | frz l => exact it (l := l) rfl hp
  | _ => cases hp
def rTuple1 (K : PySem.W.Frag) : List V → Hp → VK → Prop := fun xs H Q => ∃ p ys, xs = [.ref p] ∧ ((SqL K H p ys ∧ ∀ l, H l = none → Q (.ref l) (upd H l (.tup ys))) ∨ (SqT K H p ys ∧ Q (.ref p) H))
theorem cr_tuple1 (X : Cx) (hc : X.calm = true) : CallR X (.type "tuple") (rTuple1 X.K) := call_tuple_of
theorem pr_tuple1 : PrL G .tuple1 (rTuple1 G.K) := by
  refine pl_one (fun _ => rfl) (fun a _ _ _ => by cases a <;> rfl) fun ρ H s dx x d s' Q rp rx hp g => ?_
  have hp : (items s dx).map (fun l => (D.tup l, s)) = some (d, s') := hp
  obtain ⟨l, hl, e⟩ := Option.map_eq_some_iff.mp hp
  cases e
  cases dx with
  | tup m =>
    cases hl
    obtain ⟨a, xs, e, h1, h2⟩ := rd_tup.mp rx
    subst e
    exact ⟨a, xs, rfl, .inr ⟨SqT.of h1, g.here rp rx⟩⟩
  | frz m =>
    cases hl
    obtain ⟨a, xs, e, h1, h2⟩ := rd_frz.mp rx
    subst e
    exact ⟨a, xs, rfl, .inl ⟨h1.sq, fun p hp => g.tuple rp hp h2⟩⟩
  | ref n =>
    obtain ⟨m, ho, hl⟩ := lst_of (f := fun l => some l) hl
    cases hl
    obtain ⟨a, xs, e, _, h1, h2⟩ := rd_lst rp rx ho
    subst e
    exact ⟨a, xs, rfl, .inl ⟨SqL.of h1, fun p hp => g.tuple rp hp h2⟩⟩
  | _ => cases hl
end
section
variable {C : CC} {x : Expr} {xs : List Expr} {es : List E} {pos ps : Pos}
/-- what a call of a built-in wants of the text -/
structure Bn (C : CC) (n : Str) : Prop where
  g : C.sc.names.lookup n = some .globalImplicit
  m : C.mg n = none
theorem ce_len (b : Bn C "len") (h : CA C (x :: xs) es) (he : ∀ env, starEach (x :: xs) env = (false, PySem.eval x env) :: starEach xs env := by intro _; rfl) (hpl : ∀ env, (backTo pos (starEach xs env)).any (·.1) = false := by intro _; rfl) : CE C (.Call (.Name "len" ps) (x :: xs) [] pos) (.prim .len es) := ce_blt (r := rLen') cr_len pr_len (by rfl) b.g b.m h (he := he) (hpl := hpl)
theorem ce_int1 (b : Bn C "int") (h : CA C (x :: xs) es) (he : ∀ env, starEach (x :: xs) env = (false, PySem.eval x env) :: starEach xs env := by intro _; rfl) (hpl : ∀ env, (backTo pos (starEach xs env)).any (·.1) = false := by intro _; rfl) : CE C (.Call (.Name "int" ps) (x :: xs) [] pos) (.prim .int1 es) := ce_typ (r := fun _ => _) (fun X _ => call_int1) pr_int1 (by rfl) b.g b.m h (he := he) (hpl := hpl)
theorem ce_abs (b : Bn C "abs") (h : CA C (x :: xs) es) (he : ∀ env, starEach (x :: xs) env = (false, PySem.eval x env) :: starEach xs env := by intro _; rfl) (hpl : ∀ env, (backTo pos (starEach xs env)).any (·.1) = false := by intro _; rfl) : CE C (.Call (.Name "abs" ps) (x :: xs) [] pos) (.prim .abs1 es) := ce_blt (r := fun _ => _) (fun X _ => call_abs) pr_abs (by rfl) b.g b.m h (he := he) (hpl := hpl)
theorem ce_min2 (b : Bn C "min") (h : CA C (x :: xs) es) (he : ∀ env, starEach (x :: xs) env = (false, PySem.eval x env) :: starEach xs env := by intro _; rfl) (hpl : ∀ env, (backTo pos (starEach xs env)).any (·.1) = false := by intro _; rfl) : CE C (.Call (.Name "min" ps) (x :: xs) [] pos) (.prim .min2 es) := ce_blt (r := fun _ => _) (fun X hc => call_min2 hc) pr_min2 (by rfl) b.g b.m h (he := he) (hpl := hpl)
theorem ce_max2 (b : Bn C "max") (h : CA C (x :: xs) es) (he : ∀ env, starEach (x :: xs) env = (false, PySem.eval x env) :: starEach xs env := by intro _; rfl) (hpl : ∀ env, (backTo pos (starEach xs env)).any (·.1) = false := by intro _; rfl) : CE C (.Call (.Name "max" ps) (x :: xs) [] pos) (.prim .max2 es) := ce_blt (r := fun _ => _) (fun X hc => call_max2 hc) pr_max2 (by rfl) b.g b.m h (he := he) (hpl := hpl)
theorem ce_minL (b : Bn C "min") (h : CA C (x :: xs) es) (he : ∀ env, starEach (x :: xs) env = (false, PySem.eval x env) :: starEach xs env := by intro _; rfl) (hpl : ∀ env, (backTo pos (starEach xs env)).any (·.1) = false := by intro _; rfl) : CE C (.Call (.Name "min" ps) (x :: xs) [] pos) (.prim .minL es) := ce_blt (r := rMin) (fun X hc => cr_min hc) pr_minL (by rfl) b.g b.m h (he := he) (hpl := hpl)
theorem ce_maxL (b : Bn C "max") (h : CA C (x :: xs) es) (he : ∀ env, starEach (x :: xs) env = (false, PySem.eval x env) :: starEach xs env := by intro _; rfl) (hpl : ∀ env, (backTo pos (starEach xs env)).any (·.1) = false := by intro _; rfl) : CE C (.Call (.Name "max" ps) (x :: xs) [] pos) (.prim .maxL es) := ce_blt (r := rMax) (fun X hc => cr_max hc) pr_maxL (by rfl) b.g b.m h (he := he) (hpl := hpl)
theorem ce_sum (b : Bn C "sum") (h : CA C (x :: xs) es) (he : ∀ env, starEach (x :: xs) env = (false, PySem.eval x env) :: starEach xs env := by intro _; rfl) (hpl : ∀ env, (backTo pos (starEach xs env)).any (·.1) = false := by intro _; rfl) : CE C (.Call (.Name "sum" ps) (x :: xs) [] pos) (.prim .sum es) := ce_blt (r := rSum) (fun X hc => cr_sum hc) pr_sum (by rfl) b.g b.m h (he := he) (hpl := hpl)
theorem ce_all (b : Bn C "all") (h : CA C (x :: xs) es) (he : ∀ env, starEach (x :: xs) env = (false, PySem.eval x env) :: starEach xs env := by intro _; rfl) (hpl : ∀ env, (backTo pos (starEach xs env)).any (·.1) = false := by intro _; rfl) : CE C (.Call (.Name "all" ps) (x :: xs) [] pos) (.prim .all es) := ce_blt (r := rAll) (fun X hc => cr_all hc) pr_all (by rfl) b.g b.m h (he := he) (hpl := hpl)
theorem ce_any (b : Bn C "any") (h : CA C (x :: xs) es) (he : ∀ env, starEach (x :: xs) env = (false, PySem.eval x env) :: starEach xs env := by intro _; rfl) (hpl : ∀ env, (backTo pos (starEach xs env)).any (·.1) = false := by intro _; rfl) : CE C (.Call (.Name "any" ps) (x :: xs) [] pos) (.prim .any es) := ce_blt (r := rAny) (fun X hc => cr_any hc) pr_any (by rfl) b.g b.m h (he := he) (hpl := hpl)
theorem ce_sorted (b : Bn C "sorted") (h : CA C (x :: xs) es) (he : ∀ env, starEach (x :: xs) env = (false, PySem.eval x env) :: starEach xs env := by intro _; rfl) (hpl : ∀ env, (backTo pos (starEach xs env)).any (·.1) = false := by intro _; rfl) : CE C (.Call (.Name "sorted" ps) (x :: xs) [] pos) (.prim .sorted es) := ce_blt (r := rSortedI) (fun X hc => cr_sortedI) pr_sorted (by rfl) b.g b.m h (he := he) (hpl := hpl)
theorem ce_list1 (b : Bn C "list") (h : CA C (x :: xs) es) (he : ∀ env, starEach (x :: xs) env = (false, PySem.eval x env) :: starEach xs env := by intro _; rfl) (hpl : ∀ env, (backTo pos (starEach xs env)).any (·.1) = false := by intro _; rfl) : CE C (.Call (.Name "list" ps) (x :: xs) [] pos) (.prim .list1 es) := ce_typ (r := rList1) cr_list1 pr_list1 (by rfl) b.g b.m h (he := he) (hpl := hpl)
theorem ce_tuple1 (b : Bn C "tuple") (h : CA C (x :: xs) es) (he : ∀ env, starEach (x :: xs) env = (false, PySem.eval x env) :: starEach xs env := by intro _; rfl) (hpl : ∀ env, (backTo pos (starEach xs env)).any (·.1) = false := by intro _; rfl) : CE C (.Call (.Name "tuple" ps) (x :: xs) [] pos) (.prim .tuple1 es) := ce_typ (r := rTuple1) cr_tuple1 pr_tuple1 (by rfl) b.g b.m h (he := he) (hpl := hpl)
end
end Mini
set_option Elab.async false
set_option linter.all false
set_option maxRecDepth 100000
set_option maxHeartbeats 1000000
/-! Mini 11: ranges, isinstance, methods, displays. -/
namespace Mini
open PySem L2 PyProof.Rows

theorem Bn.gl {C : CC} {n : Str} (b : Bn C n) {X : Cx} {W : WX} (F : Fit C X W) : Gl X n := show X.env.scope.names.lookup _ = _ by rw [F.sc]; exact b.g
theorem Bn.mg {C : CC} {n : Str} (b : Bn C n) {X : Cx} {W : WX} (F : Fit C X W) : X.mg n = none := by rw [F.mg]; exact b.m
section
variable {G : Gx} {ρ : List Addr} {H : Hp}
theorem rds_rg (i j : Int) : RDs G ρ H ((List.range (j - i).toNat).map fun (k : Nat) => D.int (i + (k : Int))) (rgV i j) := by
  unfold rgV
  have : ∀ l : List Nat, RDs G ρ H (l.map fun (k : Nat) => D.int (i + (k : Int))) (l.map fun (k : Nat) => V.int (i + (k : Int))) := by
    intro l
    induction l with
    | nil => exact rds_nil.mpr rfl
    | cons a l ih => exact rds_cc.mpr ⟨rd_int.mpr rfl, ih⟩
  exact this _
theorem rg0 (j : Int) : ((List.range j.toNat).map fun (k : Nat) => D.int (k : Int)) = (List.range (j - 0).toNat).map fun (k : Nat) => D.int (0 + (k : Int)) := by
  rw [Int.sub_zero]
  congr 1
  funext k
  rw [Int.zero_add]
theorem lim_eq : sizeLine ≥ 10000000 := lim_line
end
section
variable {C : CC} {x y : Expr} {e1 e2 : E} {pos ps p2 pos2 : Pos}
theorem ce_listR1 (b : Bn C "list") (b2 : Bn C "range") (h : CE C x e1) (n1 : ∀ env, starEach [x] env = (false, PySem.eval x env) :: starEach [] env := by intro _; rfl)
    (n2 : ∀ env, starEach [.Call (.Name "range" p2) [x] [] pos2] env = (false, PySem.eval (.Call (.Name "range" p2) [x] [] pos2) env) :: starEach [] env := by intro _; rfl) :
    CE C (.Call (.Name "list" ps) [.Call (.Name "range" p2) [x] [] pos2] [] pos) (.prim .listR1 [e1]) := fun X W F =>
  PE.imp (pe_listRg F.calm (b.gl F) (b.mg F) (prg_1 (b2.gl F) (b2.mg F) (h X W F) (n1 _)) (n2 _)) fun σ H Q h => by
    show tE C W e1 σ H fun x H1 => ∃ n, x = .int n ∧ RgOk 0 n ∧ ∀ q, H1 q = none → Q (.ref q) (upd H1 q (.lst (rgV 0 n)))
    refine tE_one (r := fun x H1 Q => ∃ n, x = .int n ∧ RgOk 0 n ∧ ∀ q, H1 q = none → Q (.ref q) (upd H1 q (.lst (rgV 0 n)))) ?_ h
    intro ρ H s dx x d s' Q rp rx hp g
    cases dx with
    | int j =>
      have hp : (if j < 10000000 ∧ -10000000 < j then mk s (.lst ((List.range j.toNat).map fun (k : Nat) => D.int (k : Int))) else none) = some (d, s') := hp
      by_cases hz : j < 10000000 ∧ -10000000 < j
      · rw [if_pos hz, rg0] at hp
        cases hp
        exact ⟨j, rd_int.mp rx, ⟨by omega, by omega, by omega, by omega, by omega⟩, fun q hq => g.laid rp hq fun ρ' H' pr kt e => ⟨_, e, rds_rg 0 j⟩⟩
      · rw [if_neg hz] at hp
        cases hp
    | _ => cases hp
theorem ce_tupR1 (b : Bn C "tuple") (b2 : Bn C "range") (h : CE C x e1) (n1 : ∀ env, starEach [x] env = (false, PySem.eval x env) :: starEach [] env := by intro _; rfl)
    (n2 : ∀ env, starEach [.Call (.Name "range" p2) [x] [] pos2] env = (false, PySem.eval (.Call (.Name "range" p2) [x] [] pos2) env) :: starEach [] env := by intro _; rfl) :
    CE C (.Call (.Name "tuple" ps) [.Call (.Name "range" p2) [x] [] pos2] [] pos) (.prim .tupR1 [e1]) := fun X W F =>
  PE.imp (pe_tupRg F.calm (b.gl F) (b.mg F) (prg_1 (b2.gl F) (b2.mg F) (h X W F) (n1 _)) (n2 _)) fun σ H Q h => by
    show tE C W e1 σ H fun x H1 => ∃ n, x = .int n ∧ RgOk 0 n ∧ ∀ q, H1 q = none → Q (.ref q) (upd H1 q (.tup (rgV 0 n)))
    refine tE_one (r := fun x H1 Q => ∃ n, x = .int n ∧ RgOk 0 n ∧ ∀ q, H1 q = none → Q (.ref q) (upd H1 q (.tup (rgV 0 n)))) ?_ h
    intro ρ H s dx x d s' Q rp rx hp g
    cases dx with
    | int j =>
      have hp : (if j < 10000000 ∧ -10000000 < j then some (D.tup ((List.range j.toNat).map fun (k : Nat) => D.int (k : Int)), s) else none) = some (d, s') := hp
      by_cases hz : j < 10000000 ∧ -10000000 < j
      · rw [if_pos hz, rg0] at hp
        cases hp
        exact ⟨j, rd_int.mp rx, ⟨by omega, by omega, by omega, by omega, by omega⟩, fun q hq => g.tuple rp hq (rds_rg 0 j)⟩
      · rw [if_neg hz] at hp
        cases hp
    | _ => cases hp
theorem ce_listR2 (b : Bn C "list") (b2 : Bn C "range") (h : CE C x e1) (h2 : CE C y e2) (n1 : ∀ env, starEach [x, y] env = (false, PySem.eval x env) :: starEach [y] env := by intro _; rfl) (n3 : ∀ env, starEach [y] env = (false, PySem.eval y env) :: starEach [] env := by intro _; rfl) (n4 : ∀ env, (backTo pos2 (starEach [y] env)).any (·.1) = false := by intro _; rfl)
    (n2 : ∀ env, starEach [.Call (.Name "range" p2) [x, y] [] pos2] env = (false, PySem.eval (.Call (.Name "range" p2) [x, y] [] pos2) env) :: starEach [] env := by intro _; rfl) :
    CE C (.Call (.Name "list" ps) [.Call (.Name "range" p2) [x, y] [] pos2] [] pos) (.prim .listR2 [e1, e2]) := fun X W F =>
  PE.imp (pe_listRg F.calm (b.gl F) (b.mg F) (prg_2 (b2.gl F) (b2.mg F) (h X W F) (h2 X W F) (n1 _) (n3 _) (n4 _)) (n2 _)) fun σ H Q h => by
    show tE C W e1 σ H fun x H1 => tE C W e2 σ H1 fun y H2 => ∃ i j, x = .int i ∧ y = .int j ∧ RgOk i j ∧ ∀ q, H2 q = none → Q (.ref q) (upd H2 q (.lst (rgV i j)))
    refine tE_two (r := fun x y H2 Q => ∃ i j, x = .int i ∧ y = .int j ∧ RgOk i j ∧ ∀ q, H2 q = none → Q (.ref q) (upd H2 q (.lst (rgV i j)))) ?_ h
    intro ρ H s dx dy x y d s' Q rp rx ry hp g
    cases dx with
    | int i =>
      cases dy with
      | int j =>
        have hp : (if i.natAbs < 4000000 ∧ j.natAbs < 4000000 then mk s (.lst ((List.range (j - i).toNat).map fun (k : Nat) => D.int (i + (k : Int)))) else none) = some (d, s') := hp
        by_cases hz : i.natAbs < 4000000 ∧ j.natAbs < 4000000
        · rw [if_pos hz] at hp
          cases hp
          exact ⟨i, j, rd_int.mp rx, rd_int.mp ry, ⟨by omega, by omega, by omega, by omega, by omega⟩, fun q hq => g.laid rp hq fun ρ' H' pr kt e => ⟨_, e, rds_rg i j⟩⟩
        · rw [if_neg hz] at hp
          cases hp
      | _ => cases hp
    | _ => cases hp
theorem ce_tupR2 (b : Bn C "tuple") (b2 : Bn C "range") (h : CE C x e1) (h2 : CE C y e2) (n1 : ∀ env, starEach [x, y] env = (false, PySem.eval x env) :: starEach [y] env := by intro _; rfl) (n3 : ∀ env, starEach [y] env = (false, PySem.eval y env) :: starEach [] env := by intro _; rfl) (n4 : ∀ env, (backTo pos2 (starEach [y] env)).any (·.1) = false := by intro _; rfl)
    (n2 : ∀ env, starEach [.Call (.Name "range" p2) [x, y] [] pos2] env = (false, PySem.eval (.Call (.Name "range" p2) [x, y] [] pos2) env) :: starEach [] env := by intro _; rfl) :
    CE C (.Call (.Name "tuple" ps) [.Call (.Name "range" p2) [x, y] [] pos2] [] pos) (.prim .tupR2 [e1, e2]) := fun X W F =>
  PE.imp (pe_tupRg F.calm (b.gl F) (b.mg F) (prg_2 (b2.gl F) (b2.mg F) (h X W F) (h2 X W F) (n1 _) (n3 _) (n4 _)) (n2 _)) fun σ H Q h => by
    show tE C W e1 σ H fun x H1 => tE C W e2 σ H1 fun y H2 => ∃ i j, x = .int i ∧ y = .int j ∧ RgOk i j ∧ ∀ q, H2 q = none → Q (.ref q) (upd H2 q (.tup (rgV i j)))
    refine tE_two (r := fun x y H2 Q => ∃ i j, x = .int i ∧ y = .int j ∧ RgOk i j ∧ ∀ q, H2 q = none → Q (.ref q) (upd H2 q (.tup (rgV i j)))) ?_ h
    intro ρ H s dx dy x y d s' Q rp rx ry hp g
    cases dx with
    | int i =>
      cases dy with
      | int j =>
        have hp : (if i.natAbs < 4000000 ∧ j.natAbs < 4000000 then some (D.tup ((List.range (j - i).toNat).map fun (k : Nat) => D.int (i + (k : Int))), s) else none) = some (d, s') := hp
        by_cases hz : i.natAbs < 4000000 ∧ j.natAbs < 4000000
        · rw [if_pos hz] at hp
          cases hp
          exact ⟨i, j, rd_int.mp rx, rd_int.mp ry, ⟨by omega, by omega, by omega, by omega, by omega⟩, fun q hq => g.tuple rp hq (rds_rg i j)⟩
        · rw [if_neg hz] at hp
          cases hp
      | _ => cases hp
    | _ => cases hp
theorem ce_tupRev (b : Bn C "tuple") (b2 : Bn C "reversed") (h : CE C x e1) (n1 : ∀ env, starEach [x] env = (false, PySem.eval x env) :: starEach [] env := by intro _; rfl)
    (n2 : ∀ env, starEach [.Call (.Name "reversed" p2) [x] [] pos2] env = (false, PySem.eval (.Call (.Name "reversed" p2) [x] [] pos2) env) :: starEach [] env := by intro _; rfl) :
    CE C (.Call (.Name "tuple" ps) [.Call (.Name "reversed" p2) [x] [] pos2] [] pos) (.prim .tupRev [e1]) := fun X W F =>
  PE.imp (RT.pe_tupRev F.calm (b.gl F) (b.mg F) (b2.gl F) (b2.mg F) (h X W F) (n1 _) (n2 _)) fun σ H Q h => by
    rw [F.K]
    refine tE_one (r := fun v H1 Q => ∃ (a : Addr) (xs : List V), v = .ref a ∧ SqL C.G.K H1 a xs ∧ ∀ q, H1 q = none → Q (.ref q) (upd H1 q (.tup xs.reverse))) ?_ h
    intro ρ H s dx x d s' Q rp rx hp g
    cases dx with
    | frz l =>
      cases hp
      obtain ⟨a, xs, e, h1, h2⟩ := rd_frz.mp rx
      exact ⟨a, xs, e, h1.sq, fun q hq => g.tuple rp hq h2.reverse⟩
    | ref n =>
      obtain ⟨l, ho, hp⟩ := lst_of (α := D × S) (f := fun l => some (.tup l.reverse, s)) hp
      cases hp
      obtain ⟨a, xs, e, _, h1, h2⟩ := rd_lst rp rx ho
      exact ⟨a, xs, e, SqL.of h1, fun q hq => g.tuple rp hq h2.reverse⟩
    | _ => cases hp
end

/-! ### isinstance -/
def tyS : Option Ty → String
  | none => "NoneType"
  | some .int => "int"
  | some .bool => "bool"
  | some .str => "str"
  | some .tuple => "tuple"
  | some .list => "list"
  | some .dict => "dict"
  | some (.cls _) => ""
def allTy : List Ty := [.int, .bool, .str, .tuple, .list, .dict]
theorem kit_all : ((none :: allTy.map some).all fun o => allTy.all fun t => kitB (tyS o) (tyS (some t)) == some (isTyK o t)) = true := by decide +kernel
theorem mem_allTy {t : Ty} (h : okT t = true) : t ∈ allTy := by
  cases t <;> first | (cases h; done) | simp [allTy]
theorem kit_at {K : PySem.W.Frag} {o : Option Ty} {t : Ty} (ho : ∀ c, o ≠ some (.cls c)) (ht : okT t = true) : PySem.W.kitOne K (.type (tyS o)) (.type (tyS (some t))) = some (isTyK o t) := by
  refine kit_ty ?_
  have h := kit_all
  rw [List.all_eq_true] at h
  have hm : o ∈ (none :: allTy.map some) := by
    cases o with
    | none => exact List.mem_cons_self
    | some u =>
      refine List.mem_cons_of_mem _ (List.mem_map.mpr ⟨u, mem_allTy ?_, rfl⟩)
      cases u <;> first | rfl | exact absurd rfl (ho _)
  have h1 := h o hm
  rw [List.all_eq_true] at h1
  exact eq_of_beq (h1 t (mem_allTy ht))
section
variable {G : Gx} {ρ : List Addr} {H : Hp} {s : S}
theorem tyx_of {d : D} {x : V} (rp : Rep G ρ s H) (rx : RD G ρ H d x) (h : okD s d = true) : TyX G.K H x (.type (tyS (tyOf s d))) ∧ ∀ c, tyOf s d ≠ some (.cls c) := by
  cases d with
  | non => cases rd_non.mp rx; exact ⟨.base .non, fun _ e => by cases e⟩
  | bl b => cases rd_bl.mp rx; exact ⟨.base (.bl b), fun _ e => by cases e⟩
  | int b => cases rd_int.mp rx; exact ⟨.base (.int b), fun _ e => by cases e⟩
  | str b => cases rd_str.mp rx; exact ⟨.base (.str b), fun _ e => by cases e⟩
  | tup l =>
    obtain ⟨a, xs, rfl, h1, h2⟩ := rd_tup.mp rx
    exact ⟨.base (.tup h1), fun _ e => by cases e⟩
  | frz l => cases h
  | ref n =>
    unfold okD at h
    unfold tyOf
    dsimp only at h ⊢
    cases ho : s[n]? with
    | none => rw [ho] at h; cases h
    | some o =>
      rw [ho] at h
      cases o with
      | lst l =>
        obtain ⟨a, xs, rfl, _, h1, h2⟩ := rd_lst rp rx ho
        exact ⟨.base (.lst h1), fun _ e => by cases e⟩
      | dct l =>
        obtain ⟨a, xs, rfl, _, h1, h2⟩ := rd_dct rp rx ho
        exact ⟨.base (.dK h1), fun _ e => by cases e⟩
      | lck l =>
        obtain ⟨a, o, xs, rfl, _, h1, h2⟩ := rd_lck rp rx ho
        exact ⟨.fDict h1, fun _ e => by cases e⟩
      | ins c fs => cases h
end
section
variable {C : CC} {x : Expr} {xs : List Expr} {e1 : E} {pos ps p2 pos2 : Pos} {k : Nat}
/-- a class's name -/
def TyN (C : CC) (t : Ty) (n : Str) : Prop := Bn C n ∧ bootBuiltins n = some (.type (tyS (some t))) ∧ n ≠ "__name__" ∧ (n == ("__debug__" : Str)) = false ∧ okT t = true
theorem tyN_int (b : Bn C "int") : TyN C .int "int" := ⟨b, by rfl, by decide, by decide, rfl⟩
theorem tyN_bool (b : Bn C "bool") : TyN C .bool "bool" := ⟨b, by rfl, by decide, by decide, rfl⟩
theorem tyN_str (b : Bn C "str") : TyN C .str "str" := ⟨b, by rfl, by decide, by decide, rfl⟩
theorem tyN_tuple (b : Bn C "tuple") : TyN C .tuple "tuple" := ⟨b, by rfl, by decide, by decide, rfl⟩
theorem tyN_list (b : Bn C "list") : TyN C .list "list" := ⟨b, by rfl, by decide, by decide, rfl⟩
theorem tyN_dict (b : Bn C "dict") : TyN C .dict "dict" := ⟨b, by rfl, by decide, by decide, rfl⟩
theorem TyN.pe {t : Ty} {n : Str} (b : TyN C t n) {X : Cx} {W : WX} (F : Fit C X W) : PE X (.Name n p2) (tC (.ty (tyS (some t)))) := pe_bltn (b.1.gl F) (b.1.mg F) b.2.1 rfl b.2.2.1 b.2.2.2.1
theorem ce_isi (b : Bn C "isinstance") {t : Ty} {n : Str} (bt : TyN C t n) (h : CE C x e1) (n1 : ∀ env, starEach [x, .Name n p2] env = (false, PySem.eval x env) :: starEach [.Name n p2] env := by intro _; rfl) :
    CE C (.Call (.Name "isinstance" ps) [x, .Name n p2] [] pos) (.prim (.isi t) [e1]) := fun X W F =>
  PE.imp (pe_callB call_isi (b.gl F) (b.mg F) (by rfl) (pa_cons (h X W F) (pa_cons (bt.pe F) pa_nil (by rfl)) (n1 _)) (by decide) (by decide) (n1 _) (by rfl)) fun σ H Q h => by
    rw [F.K]
    show tE C W e1 σ H fun x H1 => rIsi C.G.K [x, .ty (tyS (some t))] H1 Q
    refine tE_one (r := fun x H1 Q => rIsi C.G.K [x, .ty (tyS (some t))] H1 Q) ?_ h
    intro ρ H s dx x d s' Q rp rx hp g
    have hp : (if (okD s dx && okT t) = true then some (D.bl (isTy s dx t), s) else none) = some (d, s') := hp
    by_cases hz : (okD s dx && okT t) = true
    · rw [if_pos hz] at hp
      cases hp
      rw [Bool.and_eq_true] at hz
      obtain ⟨h1, h2⟩ := tyx_of rp rx hz.1
      exact ⟨x, _, _, _, _, rfl, .ty _, h1, kit_at h2 hz.2, g.here rp (rd_bl.mpr rfl)⟩
    · rw [if_neg hz] at hp
      cases hp
theorem kitAny_all {K : PySem.W.Frag} {o : Option Ty} (ho : ∀ c, o ≠ some (.cls c)) : ∀ {ts : List Ty}, ts.all okT = true → PySem.W.kitAny K (.type (tyS o)) (ts.map fun t => .type (tyS (some t))) = some (ts.any (isTyK o))
  | [], _ => rfl
  | t :: ts, h => by
    rw [List.all_cons, Bool.and_eq_true] at h
    rw [List.map_cons, List.any_cons]
    refine kitAny_cons (kit_at ho h.1) (fun e => ?_) (fun e => ?_)
    · rw [e, Bool.false_or]
      exact kitAny_all ho h.2
    · rw [e, Bool.true_or]
/-- the classes' names in a tuple -/
theorem ca_tys2 {t1 t2 : Ty} {n1 n2 : Str} {q1 q2 : Pos} (b1 : TyN C t1 n1) (b2 : TyN C t2 n2) {X : Cx} {W : WX} (F : Fit C X W) : PA X [.Name n1 q1, .Name n2 q2] (fun σ H Q => Q [.ty (tyS (some t1)), .ty (tyS (some t2))] H) :=
  PA.imp (pa_cons (b1.pe F) (pa_cons (b2.pe F) pa_nil (by rfl)) (by rfl)) fun σ H Q h => h
theorem ce_isiT2 (b : Bn C "isinstance") {t1 t2 : Ty} {m1 m2 : Str} {q1 q2 : Pos} (b1 : TyN C t1 m1) (b2 : TyN C t2 m2) (h : CE C x e1)
    (n1 : ∀ env, starEach [x, .Tuple [.Name m1 q1, .Name m2 q2] k p2] env = (false, PySem.eval x env) :: starEach [.Tuple [.Name m1 q1, .Name m2 q2] k p2] env := by intro _; rfl) :
    CE C (.Call (.Name "isinstance" ps) [x, .Tuple [.Name m1 q1, .Name m2 q2] k p2] [] pos) (.prim (.isiT [t1, t2]) [e1]) := fun X W F =>
  PE.imp (pe_callB call_isiT (b.gl F) (b.mg F) (by rfl) (pa_cons (h X W F) (pa_cons (pe_tup (ca_tys2 b1 b2 F)) pa_nil (by rfl)) (n1 _)) (by decide) (by decide) (n1 _) (by rfl)) fun σ H Q h => by
    rw [F.K]
    show tE C W e1 σ H fun x H1 => 2 ≤ sizeLine ∧ ∀ p, H1 p = none → rIsiT C.G.K [x, .ref p] (upd H1 p (.tup [.ty (tyS (some t1)), .ty (tyS (some t2))])) Q
    refine tE_one (r := fun x H1 Q => 2 ≤ sizeLine ∧ ∀ p, H1 p = none → rIsiT C.G.K [x, .ref p] (upd H1 p (.tup [.ty (tyS (some t1)), .ty (tyS (some t2))])) Q) ?_ h
    intro ρ H s dx x d s' Q rp rx hp g
    have hp : (if (okD s dx && [t1, t2].all okT) = true then some (D.bl ([t1, t2].any (isTy s dx)), s) else none) = some (d, s') := hp
    by_cases hz : (okD s dx && [t1, t2].all okT) = true
    · rw [if_pos hz] at hp
      cases hp
      rw [Bool.and_eq_true] at hz
      refine ⟨by decide, fun p hp => ?_⟩
      have kt : KeepT H (upd H p (.tup [.ty (tyS (some t1)), .ty (tyS (some t2))])) := KeepT.new hp
      obtain ⟨h1, h2⟩ := tyx_of (rp.new hp (ho := .tup [.ty (tyS (some t1)), .ty (tyS (some t2))])) (rx.mono (List.prefix_refl _) kt) hz.1
      refine ⟨x, p, _, _, _, _, rfl, upd_same, .cons (.ty _) (.cons (.ty _) .nil), h1, kitAny_all h2 hz.2, ?_⟩
      exact g ρ _ _ (List.prefix_refl _) kt (rp.new hp) (rd_bl.mpr rfl)
    · rw [if_neg hz] at hp
      cases hp
end
end Mini
set_option Elab.async false
set_option linter.all false
set_option maxRecDepth 100000
set_option maxHeartbeats 1000000
/-! Mini 12: methods of lists, displays of dicts. -/
namespace Mini
open PySem L2 PyProof.Rows

section
variable {C : CC} {o x y z : Expr} {e e1 e2 e3 : E} {apos cpos pos : Pos}
/-- the receiver: a list -/
theorem tE_lst {W : WX} {σ : L2.St} {H : Hp} {ρ : List Addr} {env : Ev} {s : S} {k : D → S → R D} {Q : VK} {T : V → Hp → Prop} (re : RE C.G ρ H env σ) (rp : Rep C.G ρ s H) (h : WpR C.G (relD C.G) (fun cls d H' => W cls d σ H') ((eval C.c (.prim .lstI [e]) env s).bind k) ρ H Q)
    (q : ∀ v H1 ρ1 n l s1, ρ <+: ρ1 → KeepT H H1 → RE C.G ρ1 H1 env σ → Rep C.G ρ1 s1 H1 → RD C.G ρ1 H1 (.ref n) v → s1[n]? = some (.lst l) → WpR C.G (relD C.G) (fun cls d H' => W cls d σ H') (k (.ref n) s1) ρ1 H1 Q → T v H1) : tE C W e σ H T := by
  rw [eval_prim1, R.bind_assoc] at h
  refine tE_next re rp h fun v H1 ρ1 d s1 p1 k1 re1 rp1 rd1 q1 => ?_
  cases d with
  | ref n =>
    have q1 : WpR C.G (relD C.G) (fun cls d H' => W cls d σ H') ((ofOpt (match s1[n]? with | some (O.lst _) => some (D.ref n, s1) | _ => none)).bind k) ρ1 H1 Q := q1
    cases ho : s1[n]? with
    | none => rw [ho] at q1; exact q1.elim
    | some o =>
      rw [ho] at q1
      cases o with
      | lst l => exact q v H1 ρ1 n l s1 p1 k1 re1 rp1 rd1 ho q1
      | _ => exact q1.elim
  | _ => exact q1.elim
theorem tyV_lst {G : Gx} {ρ : List Addr} {H : Hp} {s : S} {n : Nat} {l : List D} {v : V} (rp : Rep G ρ s H) (rx : RD G ρ H (.ref n) v) (h : s[n]? = some (.lst l)) : tyV G.K "list" v H := by
  obtain ⟨a, xs, rfl, _, h1, _⟩ := rd_lst rp rx h
  exact .inl ⟨rfl, xs, SqL.of h1⟩
/-- a method with one argument -/
theorem ce_m1 {nm : Str} {id : String} {p : P} {r : V → List V → Hp → VK → Prop} (slot : Slot "list" nm id) (hty : typeOf (.builtin id) = pure (.type "method_descriptor")) (hm : ∀ X : Cx, MtR X id r)
    (hp : ∀ G ρ H s n l dy v y d s' Q, Rep G ρ s H → RD G ρ H (.ref n) v → s[n]? = some (O.lst l) → RD G ρ H dy y → prim p [.ref n, dy] s = some (d, s') → Got G ρ H d s' Q → r v [y] H Q)
    (hn : ∀ n dy s d s', prim p [.ref n, dy] s = some (d, s') → ∃ l, s[n]? = some (O.lst l))
    (h1 : CE C o e1) (h2 : CE C x e2) (hbase : ∀ env, attributeBase o nm env (PySem.eval o env) = PySem.eval o env)
    (hfew : ∀ env, ((backTo cpos (starEach [x] env)).all (fun x => !x.1) && (backToKw cpos (keywordEach [] env)).all (fun x => x.1.isSome) && decide ([x].length + ([] : List Keyword).length + (if ([] : List Keyword).isEmpty then 0 else 1) < 30)) = true)
    (hline : (apos.endLine == cpos.line) = true) (hs : ∀ env, starEach [x] env = (false, PySem.eval x env) :: starEach [] env) : CE C (.Call (.Attribute o nm apos) [x] [] cpos) (.prim p [.prim .lstI [e1], e2]) := fun X W F =>
  PE.imp (pe_bm PySem.F.plainAttrs_list slot hty (hm X) (h1 X W F) (pa_cons (h2 X W F) pa_nil (hs _)) (hbase _) (hfew _) hline (hs _) (by rfl)) fun σ H Q ⟨ρ, env, s, re, rp, h⟩ => by
    rw [eval_prim2] at h
    refine tE_lst re rp h fun v H1 ρ1 n l s1 p1 k1 re1 rp1 rd1 ho q1 => ⟨by rw [F.K]; exact tyV_lst rp1 rd1 ho, ?_⟩
    refine tE_next re1 rp1 q1 fun y H2 ρ2 dy s2 p2 k2 re2 rp2 rd2 q2 => ?_
    obtain ⟨d, s', hd, g⟩ := wp_opt q2
    obtain ⟨l', hl'⟩ := hn _ _ _ _ _ hd
    exact hp _ _ _ _ _ _ _ _ _ _ _ _ rp2 (rd1.mono p2 k2) hl' rd2 hd g
theorem ce_app (h1 : CE C o e1) (h2 : CE C x e2) (hbase : ∀ env, attributeBase o "append" env (PySem.eval o env) = PySem.eval o env := by intro _; rfl)
    (hfew : ∀ env, ((backTo cpos (starEach [x] env)).all (fun x => !x.1) && (backToKw cpos (keywordEach [] env)).all (fun x => x.1.isSome) && decide ([x].length + ([] : List Keyword).length + (if ([] : List Keyword).isEmpty then 0 else 1) < 30)) = true := by intro _; rfl)
    (hline : (apos.endLine == cpos.line) = true := by rfl) (hs : ∀ env, starEach [x] env = (false, PySem.eval x env) :: starEach [] env := by intro _; rfl) : CE C (.Call (.Attribute o "append" apos) [x] [] cpos) (.prim .app [.prim .lstI [e1], e2]) :=
  ce_m1 PySem.F.slot_list_append PySem.F.type_list_append (fun X => mt_append) (fun G ρ H s n l dy v y d s' Q rp rx ho ry hp g => by
    have hp : (match s[n]? with | some (O.lst l) => if l.length < LIM then some (D.non, s.set n (.lst (l ++ [dy]))) else none | _ => none) = some (d, s') := hp
    rw [ho] at hp
    dsimp only at hp
    by_cases hz : l.length < LIM
    · rw [if_pos hz] at hp
      cases hp
      obtain ⟨a, xs, e, ha, h1, h2⟩ := rd_lst rp rx ho
      refine ⟨a, xs, y, e, rfl, h1, by rw [← h2.len]; exact Nat.lt_of_lt_of_le hz lim_line, ?_⟩
      exact g.wrote rp ha (rd_non.mpr rfl) fun H' kt e => ⟨_, e, (h2.mono (List.prefix_refl _) kt).append (RDs.one (ry.mono (List.prefix_refl _) kt))⟩
    · rw [if_neg hz] at hp
      cases hp) (fun n dy s d s' hp => by
    obtain ⟨l, h, _⟩ := lst_of (α := D × S) (f := fun l => if l.length < LIM then some (D.non, s.set n (.lst (l ++ [dy]))) else none) hp
    exact ⟨l, h⟩) h1 h2 hbase hfew hline hs
theorem ce_ext (h1 : CE C o e1) (h2 : CE C x e2) (hbase : ∀ env, attributeBase o "extend" env (PySem.eval o env) = PySem.eval o env := by intro _; rfl)
    (hfew : ∀ env, ((backTo cpos (starEach [x] env)).all (fun x => !x.1) && (backToKw cpos (keywordEach [] env)).all (fun x => x.1.isSome) && decide ([x].length + ([] : List Keyword).length + (if ([] : List Keyword).isEmpty then 0 else 1) < 30)) = true := by intro _; rfl)
    (hline : (apos.endLine == cpos.line) = true := by rfl) (hs : ∀ env, starEach [x] env = (false, PySem.eval x env) :: starEach [] env := by intro _; rfl) : CE C (.Call (.Attribute o "extend" apos) [x] [] cpos) (.prim .ext [.prim .lstI [e1], e2]) :=
  ce_m1 PySem.F.slot_list_extend PySem.F.type_list_extend (fun X => mt_extend) (fun G ρ H s n l dy v y d s' Q rp rx ho ry hp g => by
    cases dy with
    | ref m =>
      have hp : (match s[n]?, s[m]? with | some (O.lst l), some (O.lst k) => if l.length + k.length ≤ LIM then some (D.non, s.set n (.lst (l ++ k))) else none | _, _ => none) = some (d, s') := hp
      rw [ho] at hp
      cases hm : s[m]? with
      | none => rw [hm] at hp; cases hp
      | some o2 =>
        rw [hm] at hp
        cases o2 with
        | lst k =>
          have hp : (if l.length + k.length ≤ LIM then some (D.non, s.set n (.lst (l ++ k))) else none) = some (d, s') := hp
          by_cases hz : l.length + k.length ≤ LIM
          · rw [if_pos hz] at hp
            cases hp
            obtain ⟨a, xs, e, ha, h1, h2⟩ := rd_lst rp rx ho
            obtain ⟨b, ys, e', hb, h3, h4⟩ := rd_lst rp ry hm
            refine ⟨a, b, xs, ys, e, by rw [e'], h1, h3, by rw [← h2.len, ← h4.len]; exact Nat.le_trans hz lim_line, ?_⟩
            exact g.wrote rp ha (rd_non.mpr rfl) fun H' kt e => ⟨_, e, (h2.mono (List.prefix_refl _) kt).append (h4.mono (List.prefix_refl _) kt)⟩
          · rw [if_neg hz] at hp
            cases hp
        | _ => cases hp
    | _ => cases hp) (fun n dy s d s' hp => by
    cases dy with
    | ref m =>
      have hp : (match s[n]?, s[m]? with | some (O.lst l), some (O.lst k) => if l.length + k.length ≤ LIM then some (D.non, s.set n (.lst (l ++ k))) else none | _, _ => none) = some (d, s') := hp
      cases hn : s[n]? with
      | none => rw [hn] at hp; cases hp
      | some o => cases o with
        | lst l => exact ⟨l, rfl⟩
        | _ => rw [hn] at hp; cases hp
    | _ => cases hp) h1 h2 hbase hfew hline hs
theorem ce_popA (h1 : CE C o e1) (h2 : CE C x e2) (hbase : ∀ env, attributeBase o "pop" env (PySem.eval o env) = PySem.eval o env := by intro _; rfl)
    (hfew : ∀ env, ((backTo cpos (starEach [x] env)).all (fun x => !x.1) && (backToKw cpos (keywordEach [] env)).all (fun x => x.1.isSome) && decide ([x].length + ([] : List Keyword).length + (if ([] : List Keyword).isEmpty then 0 else 1) < 30)) = true := by intro _; rfl)
    (hline : (apos.endLine == cpos.line) = true := by rfl) (hs : ∀ env, starEach [x] env = (false, PySem.eval x env) :: starEach [] env := by intro _; rfl) : CE C (.Call (.Attribute o "pop" apos) [x] [] cpos) (.prim .popA [.prim .lstI [e1], e2]) :=
  ce_m1 PySem.F.slot_list_pop PySem.F.type_list_pop (fun X => mt_popAt) (fun G ρ H s n l dy v y d s' Q rp rx ho ry hp g => by
    cases dy with
    | int i =>
      have hp : (match s[n]? with | some (O.lst l) => if l.length ≤ LIM then (ixN l.length i).bind fun j => (l[j]?).map fun d => (d, s.set n (O.lst (l.eraseIdx j))) else none | _ => none) = some (d, s') := hp
      rw [ho] at hp
      dsimp only at hp
      by_cases hz : l.length ≤ LIM
      · rw [if_pos hz] at hp
        obtain ⟨j, hj, hp⟩ := Option.bind_eq_some_iff.mp hp
        obtain ⟨e, he, hp⟩ := Option.map_eq_some_iff.mp hp
        cases hp
        obtain ⟨a, xs, ev, ha, h1, h2⟩ := rd_lst rp rx ho
        obtain ⟨w, hw, rw'⟩ := h2.get he
        obtain ⟨q1, q2, q3, q4⟩ := ixN_seq hj
        have hl : l.length ≤ 10000000 := hz
        refine ⟨a, xs, i, j, w, ev, by rw [rd_int.mp ry], h1, by omega, by omega, by rw [← h2.len]; exact q1, hw, ?_⟩
        exact g.wrote rp ha rw' fun H' kt e => ⟨_, e, (h2.mono (List.prefix_refl _) kt).erase j⟩
      · rw [if_neg hz] at hp
        cases hp
    | _ => cases hp) (fun n dy s d s' hp => by
    cases dy with
    | int i =>
      obtain ⟨l, h, _⟩ := lst_of (α := D × S) (f := fun l => if l.length ≤ LIM then (ixN l.length i).bind fun j => (l[j]?).map fun d => (d, s.set n (O.lst (l.eraseIdx j))) else none) hp
      exact ⟨l, h⟩
    | _ => cases hp) h1 h2 hbase hfew hline hs
theorem ce_pop (h1 : CE C o e1) (hbase : ∀ env, attributeBase o "pop" env (PySem.eval o env) = PySem.eval o env := by intro _; rfl) (hline : (apos.endLine == cpos.line) = true := by rfl) :
    CE C (.Call (.Attribute o "pop" apos) [] [] cpos) (.prim .pop [e1]) := fun X W F =>
  PE.imp (pe_bm0 PySem.F.plainAttrs_list PySem.F.slot_list_pop PySem.F.type_list_pop mt_pop (h1 X W F) (hbase _) hline) fun σ H Q h => by
    refine tE_one (r := fun x H1 Q => tyV X.K "list" x H1 ∧ rPop x [] H1 Q) ?_ h
    intro ρ H s dx x d s' Q rp rx hp g
    cases dx with
    | ref n =>
      obtain ⟨l, ho, hp⟩ := lst_of (α := D × S) (f := fun l => (l[l.length - 1]?).map fun d => (d, s.set n (O.lst l.dropLast))) hp
      obtain ⟨e, he, hp⟩ := Option.map_eq_some_iff.mp hp
      cases hp
      refine ⟨by rw [F.K]; exact tyV_lst rp rx ho, ?_⟩
      obtain ⟨a, xs, ev, ha, h1, h2⟩ := rd_lst rp rx ho
      obtain ⟨w, hw, rw'⟩ := h2.get he
      refine ⟨a, xs, w, ev, rfl, h1, by rw [← h2.len]; exact hw, ?_⟩
      exact g.wrote rp ha rw' fun H' kt e => ⟨_, e, (h2.mono (List.prefix_refl _) kt).dropLast⟩
    | _ => cases hp
/-! ### displays of dicts -/
def pairUp : List V → List (V × V)
  | [] => []
  | x :: r => match r with
    | [] => []
    | y :: q => (x, y) :: pairUp q
/-- the pairs: keys and values by turns -/
def CP (C : CC) (pos : Pos) (ks : List (Option Expr)) (vs : List Expr) (es : List E) : Prop := ∀ X W, Fit C X W → ∃ trs, PPs X pos ks vs trs ∧ ∀ (σ : L2.St) (ρ : List Addr) (env : Ev) (s : S) (H : Hp) (Q : List (V × V) → Hp → Prop),
  RE C.G ρ H env σ → Rep C.G ρ s H → WpR C.G (relL C.G) (fun cls d H' => W cls d σ H') (evals C.c es env s) ρ H (fun xs H' => Q (pairUp xs) H') → tPairs trs σ H Q
theorem cp_nil : CP C pos [] [] [] := fun X W F => ⟨[], pps_nil, fun σ ρ env s H Q re rp h => by
  rw [evals] at h
  exact h ρ [] H (List.prefix_refl _) (KeepT.refl _) rp (rds_nil.mpr rfl)⟩
theorem cp_cons {k v : Expr} {ks : List (Option Expr)} {vs : List Expr} {es : List E} (h1 : CE C k e1) (h2 : CE C v e2) (h3 : CP C pos ks vs es) : CP C pos (some k :: ks) (v :: vs) (e1 :: e2 :: es) := fun X W F => by
  obtain ⟨trs, q1, q2⟩ := h3 X W F
  refine ⟨_, pps_cons (h1 X W F) (h2 X W F) q1, fun σ ρ env s H Q re rp h => ?_⟩
  rw [evals] at h
  refine ⟨ρ, env, s, re, rp, (WpR.bind (rel := relD C.G) h).mono (List.prefix_refl _) (KeepT.refl _) fun x H1 ⟨ρ1, d, s1, p1, k1, rp1, rd1, q⟩ => ?_⟩
  rw [evals, R.bind_assoc] at q
  refine ⟨ρ1, env, s1, re.mono p1 k1, rp1, (WpR.bind (rel := relD C.G) q).mono (List.prefix_refl _) (KeepT.refl _) fun y H2 ⟨ρ2, d2, s2, p2, k2, rp2, rd2, q⟩ => ?_⟩
  rw [R.bind_assoc] at q
  refine q2 σ ρ2 env s2 H2 _ ((re.mono p1 k1).mono p2 k2) rp2 ((WpR.bind (rel := relL C.G) q).mono (List.prefix_refl _) (KeepT.refl _) fun zs H3 ⟨ρ3, ds, s3, p3, k3, rp3, rd3, q⟩ => ?_)
  exact q ρ3 (x :: y :: zs) H3 (List.prefix_refl _) (KeepT.refl _) rp3 (rds_cc.mpr ⟨(rd1.mono p2 k2).mono p3 k3, rds_cc.mpr ⟨rd2.mono p3 k3, rd3⟩⟩)
theorem pairs_of {G : Gx} {ρ : List Addr} {H : Hp} : ∀ {ds : List D} {xs : List V} {kvs : List (Key × D)}, pairsD ds = some kvs → RDs G ρ H ds xs → ∃ kxs : List (Key × V), pairUp xs = kxs.map (fun kv => (kV kv.1, kv.2)) ∧ RK G ρ H kvs kxs
  | [], xs, kvs, h, r => by
    cases h
    cases rds_nil.mp r
    exact ⟨[], rfl, rk_nil.mpr rfl⟩
  | [k], xs, kvs, h, r => by cases h
  | k :: v :: l, xs, kvs, h, r => by
    have h : (keyD k).bind (fun k => (pairsD l).map fun q => (k, v) :: q) = some kvs := h
    obtain ⟨key, hk, h⟩ := Option.bind_eq_some_iff.mp h
    obtain ⟨q, hq, e⟩ := Option.map_eq_some_iff.mp h
    cases e
    obtain ⟨x, r1, rfl, h1, h2⟩ := rds_cons.mp r
    obtain ⟨y, r2, rfl, h3, h4⟩ := rds_cons.mp h2
    obtain ⟨kxs, e1, e2⟩ := pairs_of hq h4
    cases keyD_rd hk h1
    exact ⟨(key, y) :: kxs, by rw [List.map_cons, ← e1]; rfl, rk_cons.mpr ⟨y, kxs, rfl, h3, e2⟩⟩
theorem rk_merge {G : Gx} {ρ : List Addr} {H : Hp} : ∀ {more : List (Key × D)} {mores : List (Key × V)} {kvs : List (Key × D)} {kxs : List (Key × V)}, RK G ρ H more mores → RK G ρ H kvs kxs → RK G ρ H (mergeD kvs more) (mergeK kxs mores)
  | [], mores, kvs, kxs, h, r => by
    rw [rk_nil] at h
    subst h
    exact r
  | (k, d) :: more, mores, kvs, kxs, h, r => by
    obtain ⟨x, q, rfl, h1, h2⟩ := rk_cons.mp h
    show RK G ρ H (mergeD (setK kvs k d) more) (mergeK (putK kxs k x) q)
    exact rk_merge h2 (rk_set h1 r)
theorem ce_dsp {ks : List (Option Expr)} {vs : List Expr} {es : List E} (h : CP C pos ks vs es) (hall : ks.all (·.isSome) = true := by rfl) (hl : ks.length = vs.length := by rfl) (h0 : ks ≠ [] := by intro h; cases h) (h15 : ks.length ≤ 15 := by decide) : CE C (.Dict ks vs pos) (.dsp es) := fun X W F => by
  obtain ⟨trs, q1, q2⟩ := h X W F
  refine PE.imp (pe_disp q1 hall hl h0 h15) fun σ H Q ⟨ρ, env, s, re, rp, h⟩ p hp => ?_
  rw [eval] at h
  have kt : KeepT H (upd H p (.dK [])) := KeepT.new hp
  have rp' := rp.push (o := .dct []) hp (ho := .dK []) fun ρ' H' pr kt e => ⟨[], e, rk_nil.mpr rfl⟩
  have re' := re.mono (pre_push (p := p)) kt
  refine q2 σ (ρ ++ [p]) env _ _ _ re' rp' ((WpR.bind (rel := relL C.G) (WpR.ext (pre_push (p := p)) kt h)).mono (List.prefix_refl _) (KeepT.refl _) fun xs H2 ⟨ρ2, ds, s2, p2, k2, rp2, rd2, q⟩ => ?_)
  obtain ⟨d, s', ho, g⟩ := wp_opt q
  unfold fillD at ho
  cases hn : s2[s.length]? with
  | none => rw [hn] at ho; cases ho
  | some o =>
    rw [hn] at ho
    cases o with
    | dct kvs0 =>
      cases kvs0 with
      | cons a b => cases ho
      | nil =>
        dsimp only at ho
        obtain ⟨kvs, hk, ho⟩ := Option.bind_eq_some_iff.mp ho
        by_cases hz : kvs.length ≤ 15
        · rw [if_pos hz] at ho
          cases ho
          have hpn : ρ2[s.length]? = some p := pre_get p2 rp.last
          obtain ⟨kx0, e0, r0⟩ := rp2.ob _ _ _ hn hpn
          rw [rk_nil] at r0
          subst r0
          obtain ⟨kxs, e1, e2⟩ := pairs_of hk rd2
          refine ⟨e0, kxs, e1, by rw [← e2.len]; exact hz, ?_⟩
          exact g.wrote rp2 hpn (by rw [RD]; exact ⟨p, rfl, hpn⟩) fun H' kt e => ⟨_, e, rk_merge (e2.mono (List.prefix_refl _) kt) (rk_nil.mpr rfl)⟩
        · rw [if_neg hz] at ho
          cases ho
    | _ => cases ho
end
end Mini
set_option Elab.async false
set_option linter.all false
set_option maxRecDepth 100000
set_option maxHeartbeats 1000000
/-! Mini 13: targets of loops, iterables, comprehensions. -/
namespace Mini
open PySem L2 PyProof.Rows

/-! ### targets of loops -/
mutual
def ixs : T → List Nat
  | .nm i => [i]
  | .tp ts => ixss ts
def ixss : List T → List Nat
  | [] => []
  | t :: ts => ixs t ++ ixss ts
end
/-- these slots alone are other ones -/
def Oth (vs : List Nat) (σ σ1 : L2.St) : Prop := σ1.length = σ.length ∧ ∀ j, j ∉ vs → σ1[j]? = σ[j]?
/-- names alone are stored -/
def tgT (G : Gx) (t : T) : TG := fun v σ H Q => ∃ ρ env d env1, RE G ρ H env σ ∧ RD G ρ H d v ∧ bindT t d env = some env1 ∧ ∀ σ1, RE G ρ H env1 σ1 → Oth (ixs t) σ σ1 → Q σ1 H
def tgTs (G : Gx) (ts : List T) : TGs := fun vs σ H Q => ∃ ρ env l env1, RE G ρ H env σ ∧ RDs G ρ H l vs ∧ bindTs ts l env = some env1 ∧ ∀ σ1, RE G ρ H env1 σ1 → Oth (ixss ts) σ σ1 → Q σ1 H
def CGt (C : CC) (x : Expr) (t : T) : Prop := ∀ X W, Fit C X W → PG X x (tgT C.G t)
def CGts (C : CC) (xs : List Expr) (ts : List T) : Prop := ∀ X W, Fit C X W → PGs X xs (tgTs C.G ts)
theorem PG.imp {X : Cx} {x : Expr} {t t' : TG} (h : PG X x t) (k : ∀ v σ H Q, t' v σ H Q → t v σ H Q) : PG X x t' := ⟨fun pins s σ H v u Q I r hw => h.run pins s σ H v u Q I r (k v σ H Q hw)⟩
theorem PGs.imp {X : Cx} {x : List Expr} {t t' : TGs} (h : PGs X x t) (k : ∀ v σ H Q, t' v σ H Q → t v σ H Q) : PGs X x t' := ⟨fun pins s σ H v u Q I r hw => h.run pins s σ H v u Q I r (k v σ H Q hw)⟩
/-- a name that may be stored to -/
def Sto (C : CC) (n : Str) : Prop := C.sc.names.lookup n = some .local ∨ (C.sc.names.lookup n = some .cell ∧ C.stc n = true)
section
variable {C : CC} {x : Expr} {xs : List Expr} {pos : Pos} {k : Nat}
theorem Sto.loc {n : Str} (h : Sto C n) {X : Cx} {W : WX} (F : Fit C X W) : Loc X.env.scope n := by
  rcases h with h | h
  · exact .inl (by rw [F.sc]; exact h)
  · exact .inr (by rw [F.sc]; exact h.1)
theorem Sto.fn {n : Str} (h : Sto C n) {X : Cx} {W : WX} (F : Fit C X W) : X.fn n = true ∨ X.env.scope.names.lookup n = some .local := by
  rcases h with h | h
  · exact .inr (by rw [F.sc]; exact h)
  · exact .inl (F.fnt n h.2)
theorem cgt_nm {n : Str} {i : Nat} (hN : C.N[i]? = some n) (hs : Sto C n) : CGt C (.Name n pos) (.nm i) := fun X W F =>
  PG.imp (pg_name (i := i) (by rw [F.N]; exact F.nd) (by rw [F.N]; exact hN) (hs.loc F) (hs.fn F)) fun v σ H Q ⟨ρ, env, d, env1, re, rd, hb, q⟩ => by
    cases hb
    exact q _ (re.set i rd) ⟨List.length_set, fun j hj => List.getElem?_set_ne (fun e => hj (by rw [ixs, e]; exact List.mem_singleton.mpr rfl))⟩
theorem cgts_nil : CGts C [] [] := fun X W F => PGs.imp pgs_nil fun vs σ H Q ⟨ρ, env, l, env1, re, rd, hb, q⟩ => by
  have hb : (if l.isEmpty then some env else none) = some env1 := hb
  cases l with
  | nil =>
    cases hb
    exact ⟨rds_nil.mp rd, q _ re ⟨rfl, fun _ _ => rfl⟩⟩
  | cons a l => cases hb
theorem cgts_cons {t : T} {ts : List T} (h1 : CGt C x t) (h2 : CGts C xs ts) (hs : ∀ env, (assignEach (x :: xs) env).map (·.2) = assign x env :: (assignEach xs env).map (·.2) := by intro _; rfl) : CGts C (x :: xs) (t :: ts) := fun X W F =>
  PGs.imp (pgs_cons (h1 X W F) (h2 X W F) (hs _)) fun vs σ H Q ⟨ρ, env, l, env1, re, rd, hb, q⟩ => by
    cases l with
    | nil => cases hb
    | cons d l =>
      obtain ⟨v, r, rfl, r1, r2⟩ := rds_cons.mp rd
      have hb : (bindT t d env).bind (fun env' => bindTs ts l env') = some env1 := hb
      obtain ⟨env2, e1, e2⟩ := Option.bind_eq_some_iff.mp hb
      exact ⟨v, r, rfl, ρ, env, d, env2, re, r1, e1, fun σ1 re1 o1 => ⟨ρ, env2, l, env1, re1, r2, e2, fun σ2 re2 o2 => q σ2 re2 ⟨o2.1.trans o1.1, fun j hj => by
        rw [ixss, List.mem_append, not_or] at hj
        rw [o2.2 j hj.2, o1.2 j hj.1]⟩⟩⟩
theorem bindTs_len : ∀ {ts : List T} {l : List D} {env env1 : Ev}, bindTs ts l env = some env1 → l.length = ts.length
  | [], l, env, env1, h => by
    have h : (if l.isEmpty then some env else none) = some env1 := h
    cases l with
    | nil => rfl
    | cons a l => cases h
  | t :: ts, [], env, env1, h => by cases h
  | t :: ts, d :: l, env, env1, h => by
    have h : (bindT t d env).bind (fun env' => bindTs ts l env') = some env1 := h
    obtain ⟨env2, e1, e2⟩ := Option.bind_eq_some_iff.mp h
    rw [List.length_cons, List.length_cons, bindTs_len e2]
theorem cgt_tp {ts : List T} (h : CGts C xs ts) (hn : ∀ env, (assignEach xs env).length = ts.length := by intro _; rfl) (hst : ∀ env, (assignEach xs env).findIdx? (·.1) = none := by intro _; rfl) : CGt C (.Tuple xs k pos) (.tp ts) := fun X W F =>
  PG.imp (pg_tup (n := ts.length) F.calm (h X W F) (hn _) (hst _)) fun v σ H Q ⟨ρ, env, d, env1, re, rd, hb, q⟩ => by
    rw [F.K]
    cases d with
    | tup l =>
      have hb : bindTs ts l env = some env1 := hb
      obtain ⟨a, ys, rfl, h1, h2⟩ := rd_tup.mp rd
      exact ⟨a, ys, rfl, SqT.of h1, by rw [← h2.len, bindTs_len hb], ρ, env, l, env1, re, h2, hb, q⟩
    | _ => cases hb
end

/-! ### iterables -/
/-- the iterator it, from here on -/
def ItOk (G : Gx) (ρ0 : List Addr) (H0 : Hp) (it : It) (J : L2.It) : Prop := ∀ (ρ : List Addr) (H : Hp) (s : S) (i : Nat), ρ0 <+: ρ → KeepT H0 H → Rep G ρ s H →
  (it.at i s = some none → J.stop i H) ∧ ∀ d, it.at i s = some (some d) → J.go i H ∧ ∀ v H', J.yld i H v H' → KeepT H H' ∧ Rep G ρ s H' ∧ RD G ρ H' d v
abbrev relI (G : Gx) : List Addr → Hp → It → L2.It → Prop := fun ρ H it J => ItOk G ρ H it J
def tI (C : CC) (W : WX) (k : IK) (es : List E) : TI := fun σ H Q => ∃ ρ env s, RE C.G ρ H env σ ∧ Rep C.G ρ s H ∧ WpR C.G (relI C.G) (fun cls d H' => W cls d σ H') ((evals C.c es env s).bind fun ds s1 => itR k ds s1) ρ H Q
def CI (C : CC) (tg iter : Expr) (k : IK) (es : List E) : Prop := ∀ X W, Fit C X W → PI X tg iter (tI C W k es)
theorem PI.imp {X : Cx} {tg x : Expr} {t t' : TI} (h : PI X tg x t) (k : ∀ σ H Q, t' σ H Q → t σ H Q) : PI X tg x t' := ⟨fun pins s σ H R I hw => h.run pins s σ H R I (k σ H R hw)⟩
theorem PI.or {X : Cx} {tg x : Expr} {t t' : TI} (h : PI X tg x t) (h' : PI X tg x t') : PI X tg x (fun σ H Q => t σ H Q ∨ t' σ H Q) := ⟨fun pins s σ H R I hw => by
  rcases hw with hw | hw
  · exact h.run pins s σ H R I hw
  · exact h'.run pins s σ H R I hw⟩
theorem ItOk.mono {G : Gx} {ρ ρ' : List Addr} {H H' : Hp} {it : It} {J : L2.It} (p : ρ <+: ρ') (k : KeepT H H') (h : ItOk G ρ H it J) : ItOk G ρ' H' it J := fun ρ1 H1 s i p1 k1 rp => h ρ1 H1 s i (p.trans p1) (k.trans k1) rp
section
variable {G : Gx} {ρ : List Addr} {H : Hp}
/-- a list of the store -/
theorem itok_lst {n : Nat} {a : Addr} (hn : ρ[n]? = some a) : ItOk G ρ H (.lst n) (Itl G.K a) := fun ρ1 H1 s i p k rp => by
  have hn1 := pre_get p hn
  obtain ⟨o, ho, ro⟩ := rp.at' hn1
  have hat : ∀ l, It.at (.lst n) i s = some l → ∃ m, o = .lst m ∧ l = m[i]? := fun l h => by
    unfold It.at at h
    dsimp only at h
    rw [ho] at h
    cases o with
    | lst m => cases h; exact ⟨m, rfl, rfl⟩
    | _ => cases h
  refine ⟨fun h => ?_, fun d h => ?_⟩
  · obtain ⟨m, rfl, e⟩ := hat _ h
    obtain ⟨xs, h1, h2⟩ := ro
    exact ⟨xs, SqL.of h1, by rw [← h2.len]; exact List.getElem?_eq_none_iff.mp e.symm⟩
  · obtain ⟨m, rfl, e⟩ := hat _ h
    obtain ⟨xs, h1, h2⟩ := ro
    obtain ⟨x, hx, rx⟩ := h2.get e.symm
    refine ⟨⟨xs, x, SqL.of h1, hx⟩, fun v H' y => ?_⟩
    obtain ⟨rfl, y⟩ := y
    have := y xs (SqL.of h1)
    rw [hx] at this
    cases this
    exact ⟨KeepT.refl _, rp, rx⟩
theorem fix_at {l : List D} {i : Nat} {s : S} {o : Option D} (h : It.at (.fix l) i s = some o) : l[i]? = o := Option.some.inj h
/-- a tuple -/
theorem itok_tup {l : List D} {a : Addr} {xs : List V} (ha : H a = some (.tup xs)) (r : RDs G ρ H l xs) : ItOk G ρ H (.fix l) (Itt G.K a) := fun ρ1 H1 s i p k rp => by
  have ha1 := k.1 _ _ ha
  have r1 := r.mono p k
  refine ⟨fun h => ⟨xs, SqT.of ha1, by rw [← r1.len]; exact List.getElem?_eq_none_iff.mp (fix_at h)⟩, fun d h => ?_⟩
  obtain ⟨x, hx, rx⟩ := r1.get (fix_at h)
  refine ⟨⟨xs, x, SqT.of ha1, hx⟩, fun v H' y => ?_⟩
  obtain ⟨rfl, y⟩ := y
  have := y xs (SqT.of ha1)
  rw [hx] at this
  cases this
  exact ⟨KeepT.refl _, rp, rx⟩
theorem itok_frz {l : List D} {a : Addr} {xs : List V} (ha : Frz G.K H a xs) (r : RDs G ρ H l xs) : ItOk G ρ H (.fix l) (Itl G.K a) := fun ρ1 H1 s i p k rp => by
  have ha1 := (ha.mono k).sq
  have r1 := r.mono p k
  refine ⟨fun h => ⟨xs, ha1, by rw [← r1.len]; exact List.getElem?_eq_none_iff.mp (fix_at h)⟩, fun d h => ?_⟩
  obtain ⟨x, hx, rx⟩ := r1.get (fix_at h)
  refine ⟨⟨xs, x, ha1, hx⟩, fun v H' y => ?_⟩
  obtain ⟨rfl, y⟩ := y
  have := y xs ha1
  rw [hx] at this
  cases this
  exact ⟨KeepT.refl _, rp, rx⟩
theorem itok_str {z : Str} : ItOk G ρ H (.fix (z.cps.toList.map sign)) (Its z) := fun ρ1 H1 s i p k rp => by
  have e : (z.cps.toList.map sign)[i]? = (z.cps[i]?).map sign := by rw [List.getElem?_map, Array.getElem?_toList]
  refine ⟨fun h => ?_, fun d h => ?_⟩
  · have h := fix_at h
    rw [e, Option.map_eq_none_iff] at h
    exact Array.getElem?_eq_none_iff.mp h
  · have h := fix_at h
    rw [e] at h
    obtain ⟨c, hc, rfl⟩ := Option.map_eq_some_iff.mp h
    refine ⟨(Array.getElem?_eq_some_iff.mp hc).1, fun v H' y => ?_⟩
    obtain ⟨rfl, c', hc', rfl⟩ := y
    rw [hc] at hc'
    cases hc'
    exact ⟨KeepT.refl _, rp, rd_str.mpr rfl⟩
theorem rng_at {n : Nat} {f : Nat → D} {i : Nat} : (((List.range n).map f)[i]? = none ↔ n ≤ i) ∧ ∀ d, ((List.range n).map f)[i]? = some d → i < n ∧ d = f i := by
  refine ⟨by rw [List.getElem?_eq_none_iff, List.length_map, List.length_range], fun d h => ?_⟩
  have hi : i < n := by
    have := (List.getElem?_eq_some_iff.mp h).1
    rw [List.length_map, List.length_range] at this
    exact this
  rw [List.getElem?_map, List.getElem?_range hi] at h
  exact ⟨hi, (Option.some.inj h).symm⟩
theorem itok_rng {lo : Int} {n : Nat} : ItOk G ρ H (.fix ((List.range n).map fun (k : Nat) => D.int (lo + (k : Int)))) (Itr lo n) := fun ρ1 H1 s i p k rp => by
  refine ⟨fun h => rng_at.1.mp (fix_at h), fun d h => ?_⟩
  obtain ⟨hi, rfl⟩ := rng_at.2 d (fix_at h)
  refine ⟨hi, fun v H' y => ?_⟩
  obtain ⟨rfl, rfl⟩ := y
  exact ⟨KeepT.refl _, rp, rd_int.mpr rfl⟩
theorem itok_rngC {lo c : Int} {n : Nat} : ItOk G ρ H (.fix ((List.range n).map fun (k : Nat) => D.int (lo + (k : Int) * c))) (Itc lo c n) := fun ρ1 H1 s i p k rp => by
  refine ⟨fun h => rng_at.1.mp (fix_at h), fun d h => ?_⟩
  obtain ⟨hi, rfl⟩ := rng_at.2 d (fix_at h)
  refine ⟨hi, fun v H' y => ?_⟩
  obtain ⟨rfl, rfl⟩ := y
  exact ⟨KeepT.refl _, rp, rd_int.mpr rfl⟩
/-- reversed -/
theorem itok_revL {n : Nat} {a : Addr} {m : Nat} (hn : ρ[n]? = some a) : ItOk G ρ H (.rev n m) (Itv G.K a m) := fun ρ1 H1 s i p k rp => by
  have hn1 := pre_get p hn
  obtain ⟨o, ho, ro⟩ := rp.at' hn1
  have hat : ∀ l, It.at (.rev n m) i s = some l → ∃ q, o = .lst q ∧ (if i < m then (q[m - 1 - i]?).map some else some none) = some l := fun l h => by
    unfold It.at at h
    dsimp only at h
    rw [ho] at h
    cases o with
    | lst q => exact ⟨q, rfl, h⟩
    | _ => cases h
  refine ⟨fun h => ?_, fun d h => ?_⟩
  · obtain ⟨q, rfl, e⟩ := hat _ h
    by_cases hi : i < m
    · rw [if_pos hi] at e
      obtain ⟨w, _, e⟩ := Option.map_eq_some_iff.mp e
      cases e
    · exact Nat.le_of_not_lt hi
  · obtain ⟨q, rfl, e⟩ := hat _ h
    obtain ⟨xs, h1, h2⟩ := ro
    by_cases hi : i < m
    · rw [if_pos hi] at e
      obtain ⟨w, hw, e⟩ := Option.map_eq_some_iff.mp e
      cases e
      obtain ⟨x, hx, rx⟩ := h2.get hw
      refine ⟨⟨hi, xs, x, SqL.of h1, hx⟩, fun v H' y => ?_⟩
      obtain ⟨rfl, y⟩ := y
      have := y xs (SqL.of h1)
      rw [hx] at this
      cases this
      exact ⟨KeepT.refl _, rp, rx⟩
    · rw [if_neg hi] at e
      cases e
theorem itok_revT {l : List D} {a : Addr} {xs : List V} (ha : H a = some (.tup xs)) (r : RDs G ρ H l xs) : ItOk G ρ H (.fix l.reverse) (RT.ItvT G.K a xs.length) := fun ρ1 H1 s i p k rp => by
  have ha1 := k.1 _ _ ha
  have r1 := r.mono p k
  have hl := r1.len
  refine ⟨fun h => ?_, fun d h => ?_⟩
  · have := List.getElem?_eq_none_iff.mp (fix_at h)
    rw [List.length_reverse, hl] at this
    exact this
  · have h := fix_at h
    have hi : i < xs.length := by
      have := (List.getElem?_eq_some_iff.mp h).1
      rw [List.length_reverse, hl] at this
      exact this
    rw [List.getElem?_reverse (by rw [hl]; exact hi), hl] at h
    obtain ⟨x, hx, rx⟩ := r1.get h
    refine ⟨⟨hi, xs, x, SqT.of ha1, hx⟩, fun v H' y => ?_⟩
    obtain ⟨rfl, y⟩ := y
    have := y xs (SqT.of ha1)
    rw [hx] at this
    cases this
    exact ⟨KeepT.refl _, rp, rx⟩
end
end Mini
set_option Elab.async false
set_option linter.all false
set_option maxRecDepth 100000
set_option maxHeartbeats 1000000
/-! Mini 14: iterables of the program, comprehensions. -/
namespace Mini
open PySem L2 PyProof.Rows

section
variable {G : Gx} {ρ : List Addr} {H : Hp}
/-- enumerate(list) -/
theorem itok_enu {n : Nat} {a : Addr} (hn : ρ[n]? = some a) : ItOk G ρ H (.enu n) (Ite G.K a) := fun ρ1 H1 s i p k rp => by
  have hn1 := pre_get p hn
  obtain ⟨o, ho, ro⟩ := rp.at' hn1
  have hat : ∀ l, It.at (.enu n) i s = some l → ∃ m, o = .lst m ∧ (m[i]?).map (fun d => D.tup [.int (i : Int), d]) = l := fun l h => by
    unfold It.at at h
    dsimp only at h
    rw [ho] at h
    cases o with
    | lst m => exact ⟨m, rfl, Option.some.inj h⟩
    | _ => cases h
  refine ⟨fun h => ?_, fun d h => ?_⟩
  · obtain ⟨m, rfl, e⟩ := hat _ h
    obtain ⟨xs, h1, h2⟩ := ro
    rw [Option.map_eq_none_iff] at e
    exact ⟨xs, SqL.of h1, by rw [← h2.len]; exact List.getElem?_eq_none_iff.mp e⟩
  · obtain ⟨m, rfl, e⟩ := hat _ h
    obtain ⟨xs, h1, h2⟩ := ro
    obtain ⟨w, hw, rfl⟩ := Option.map_eq_some_iff.mp e
    obtain ⟨x, hx, rx⟩ := h2.get hw
    refine ⟨⟨xs, x, SqL.of h1, hx⟩, fun v H' y => ?_⟩
    obtain ⟨T, x', rfl, hT, rfl, y⟩ := y
    have := y xs (SqL.of h1)
    rw [hx] at this
    cases this
    have kt : KeepT H1 (upd H1 T (.tup [.int (i : Nat), x])) := KeepT.new hT
    refine ⟨kt, rp.new hT, rd_tup.mpr ⟨T, _, rfl, upd_same, rds_cc.mpr ⟨rd_int.mpr rfl, RDs.one (rx.mono (List.prefix_refl _) kt)⟩⟩⟩
/-- zip of two lists -/
theorem itok_zip {n m : Nat} {a b : Addr} (hn : ρ[n]? = some a) (hm : ρ[m]? = some b) : ItOk G ρ H (.zip n m) (Itz G.K a b) := fun ρ1 H1 s i p k rp => by
  have hn1 := pre_get p hn
  have hm1 := pre_get p hm
  obtain ⟨o, ho, ro⟩ := rp.at' hn1
  obtain ⟨o2, ho2, ro2⟩ := rp.at' hm1
  have hat : ∀ l, It.at (.zip n m) i s = some l → ∃ x y, o = .lst x ∧ o2 = .lst y ∧ (match x[i]?, y[i]? with | some a, some b => some (D.tup [a, b]) | _, _ => none) = l := fun l h => by
    unfold It.at at h
    dsimp only at h
    rw [ho, ho2] at h
    cases o with
    | lst x =>
      cases o2 with
      | lst y => exact ⟨x, y, rfl, rfl, Option.some.inj h⟩
      | _ => cases h
    | _ => cases h
  refine ⟨fun h => ?_, fun d h => ?_⟩
  · obtain ⟨l1, l2, rfl, rfl, e⟩ := hat _ h
    obtain ⟨xs, h1, h2⟩ := ro
    obtain ⟨ys, h3, h4⟩ := ro2
    refine ⟨xs, ys, SqL.of h1, SqL.of h3, ?_⟩
    cases q1 : l1[i]? with
    | none => exact .inl (by rw [← h2.len]; exact List.getElem?_eq_none_iff.mp q1)
    | some u =>
      cases q2 : l2[i]? with
      | none => exact .inr (by rw [← h4.len]; exact List.getElem?_eq_none_iff.mp q2)
      | some w => rw [q1, q2] at e; cases e
  · obtain ⟨l1, l2, rfl, rfl, e⟩ := hat _ h
    obtain ⟨xs, h1, h2⟩ := ro
    obtain ⟨ys, h3, h4⟩ := ro2
    cases q1 : l1[i]? with
    | none => rw [q1] at e; cases e
    | some u =>
      cases q2 : l2[i]? with
      | none => rw [q1, q2] at e; cases e
      | some w =>
        rw [q1, q2] at e
        cases e
        obtain ⟨x, hx, rx⟩ := h2.get q1
        obtain ⟨y, hy, ry⟩ := h4.get q2
        refine ⟨⟨xs, ys, x, y, SqL.of h1, SqL.of h3, hx, hy⟩, fun v H' z => ?_⟩
        obtain ⟨T, x', y', rfl, hT, rfl, z1, z2⟩ := z
        have e1 := z1 xs (SqL.of h1)
        have e2 := z2 ys (SqL.of h3)
        rw [hx] at e1
        rw [hy] at e2
        cases e1
        cases e2
        have kt : KeepT H1 (upd H1 T (.tup [x, y])) := KeepT.new hT
        exact ⟨kt, rp.new hT, rd_tup.mpr ⟨T, _, rfl, upd_same, rds_cc.mpr ⟨rx.mono (List.prefix_refl _) kt, RDs.one (ry.mono (List.prefix_refl _) kt)⟩⟩⟩
/-- zip of two tuples -/
theorem itok_zipT {l1 l2 : List D} {a b : Addr} {xs ys : List V} (ha : H a = some (.tup xs)) (hb : H b = some (.tup ys)) (r1 : RDs G ρ H l1 xs) (r2 : RDs G ρ H l2 ys) : ItOk G ρ H (.fix (List.zipWith (fun a b => .tup [a, b]) l1 l2)) (RZ.ItzT G.K a b) := fun ρ1 H1 s i p k rp => by
  have ha1 := k.1 _ _ ha
  have hb1 := k.1 _ _ hb
  have h2 := r1.mono p k
  have h4 := r2.mono p k
  refine ⟨fun h => ?_, fun d h => ?_⟩
  · have h := List.getElem?_eq_none_iff.mp (fix_at h)
    rw [List.length_zipWith] at h
    refine ⟨xs, ys, SqT.of ha1, SqT.of hb1, ?_⟩
    rw [← h2.len, ← h4.len]
    omega
  · have h := fix_at h
    rw [List.getElem?_zipWith] at h
    cases q1 : l1[i]? with
    | none => rw [q1] at h; cases h
    | some u =>
      cases q2 : l2[i]? with
      | none => rw [q1, q2] at h; cases h
      | some w =>
        rw [q1, q2] at h
        cases h
        obtain ⟨x, hx, rx⟩ := h2.get q1
        obtain ⟨y, hy, ry⟩ := h4.get q2
        refine ⟨⟨xs, ys, x, y, SqT.of ha1, SqT.of hb1, hx, hy⟩, fun v H' z => ?_⟩
        obtain ⟨T, x', y', rfl, hT, rfl, z1, z2⟩ := z
        have e1 := z1 xs (SqT.of ha1)
        have e2 := z2 ys (SqT.of hb1)
        rw [hx] at e1
        rw [hy] at e2
        cases e1
        cases e2
        have kt : KeepT H1 (upd H1 T (.tup [x, y])) := KeepT.new hT
        exact ⟨kt, rp.new hT, rd_tup.mpr ⟨T, _, rfl, upd_same, rds_cc.mpr ⟨rx.mono (List.prefix_refl _) kt, RDs.one (ry.mono (List.prefix_refl _) kt)⟩⟩⟩
end

/-! ### what the program walks -/
def Pi1 (G : Gx) (k : IK) (r : V → Hp → (L2.It → Hp → Prop) → Prop) : Prop := ∀ ρ H s dx x it Q, Rep G ρ s H → RD G ρ H dx x → mkIt k [dx] s = some it → (∀ J, ItOk G ρ H it J → Q J H) → r x H Q
def PiL (G : Gx) (k : IK) (r : List V → Hp → (L2.It → Hp → Prop) → Prop) : Prop := ∀ ρ H s ds xs it Q, Rep G ρ s H → RDs G ρ H ds xs → mkIt k ds s = some it → (∀ J, ItOk G ρ H it J → Q J H) → r xs H Q
section
variable {C : CC} {tg x y z : Expr} {e e1 e2 e3 : E} {pos ps : Pos}
theorem itR_of {G : Gx} {W : XK} {ρ : List Addr} {H : Hp} {s : S} {k : IK} {ds : List D} {Q : L2.It → Hp → Prop} (rp : Rep G ρ s H) (h : WpR G (relI G) W (itR k ds s) ρ H Q) : ∃ it, mkIt k ds s = some it ∧ ∀ J, ItOk G ρ H it J → Q J H := by
  unfold itR at h
  cases hm : mkIt k ds s with
  | none => rw [hm] at h; exact h.elim
  | some it =>
    rw [hm] at h
    exact ⟨it, rfl, fun J hJ => h ρ J H (List.prefix_refl _) (KeepT.refl _) rp hJ⟩
theorem tI_one {W : WX} {k : IK} {r : V → Hp → (L2.It → Hp → Prop) → Prop} {σ : L2.St} {H : Hp} {Q : L2.It → Hp → Prop} (hp : Pi1 C.G k r) (h : tI C W k [e1] σ H Q) : tE C W e1 σ H fun x H1 => r x H1 Q := by
  obtain ⟨ρ, env, s, re, rp, h⟩ := h
  rw [evals, R.bind_assoc] at h
  refine ⟨ρ, env, s, re, rp, (WpR.bind (rel := relD C.G) h).mono (List.prefix_refl _) (KeepT.refl _) fun v H1 ⟨ρ1, d, s1, p1, k1, rp1, rd1, q⟩ => ?_⟩
  obtain ⟨it, hm, q⟩ := itR_of rp1 q
  exact hp _ _ _ _ _ _ _ rp1 rd1 hm q
theorem tI_all {W : WX} {k : IK} {es : List E} {r : List V → Hp → (L2.It → Hp → Prop) → Prop} {σ : L2.St} {H : Hp} {Q : L2.It → Hp → Prop} (hp : PiL C.G k r) (h : tI C W k es σ H Q) : tA C W es σ H fun x H1 => r x H1 Q := by
  obtain ⟨ρ, env, s, re, rp, h⟩ := h
  refine ⟨ρ, env, s, re, rp, (WpR.bind (rel := relL C.G) h).mono (List.prefix_refl _) (KeepT.refl _) fun v H1 ⟨ρ1, d, s1, p1, k1, rp1, rd1, q⟩ => ?_⟩
  obtain ⟨it, hm, q⟩ := itR_of rp1 q
  exact hp _ _ _ _ _ _ _ rp1 rd1 hm q
def rSeq (K : PySem.W.Frag) : V → Hp → (L2.It → Hp → Prop) → Prop := fun x H1 R => (∃ a, x = .ref a ∧ (∃ xs, SqL K H1 a xs) ∧ R (Itl K a) H1) ∨ (∃ a, x = .ref a ∧ (∃ xs, SqT K H1 a xs) ∧ R (Itt K a) H1) ∨ ∃ z, x = .str z ∧ R (Its z) H1
theorem pi_seqA {G : Gx} : Pi1 G .seq (rSeq G.K) := by
  intro ρ H s dx x it Q rp rx hm q
  cases dx with
  | tup l =>
    cases hm
    obtain ⟨a, xs, e, h1, h2⟩ := rd_tup.mp rx
    exact .inr (.inl ⟨a, e, ⟨xs, SqT.of h1⟩, q _ (itok_tup h1 h2)⟩)
  | frz l =>
    cases hm
    obtain ⟨a, xs, e, h1, h2⟩ := rd_frz.mp rx
    exact .inl ⟨a, e, ⟨xs, h1.sq⟩, q _ (itok_frz h1 h2)⟩
  | str z =>
    cases hm
    exact .inr (.inr ⟨z, rd_str.mp rx, q _ itok_str⟩)
  | ref n =>
    have hm : (match s[n]? with | some (.lst _) => some (It.lst n) | _ => none) = some it := hm
    cases ho : s[n]? with
    | none => rw [ho] at hm; cases hm
    | some o =>
      rw [ho] at hm
      cases o with
      | lst l =>
        cases hm
        obtain ⟨a, xs, e, ha, h1, h2⟩ := rd_lst rp rx ho
        exact .inl ⟨a, e, ⟨xs, SqL.of h1⟩, q _ (itok_lst ha)⟩
      | _ => cases hm
  | _ => cases hm
theorem pi_any {X : Cx} {te : TE} (he : PE X x te) : PI X tg x (fun σ H R => te σ H fun v H1 => rSeq X.K v H1 R) := ⟨fun pins s σ H R I h => thn (he.run pins s σ H _ I h) fun u s1 ⟨v, H1, I1, rv, q⟩ => by
  rcases q with ⟨a, rfl, ⟨xs, hq⟩, q⟩ | ⟨a, rfl, ⟨xs, hq⟩, q⟩ | ⟨z, rfl, q⟩
  · cases rv
    obtain ⟨its, _, pl, _⟩ := I1.list hq
    exact wpAny_pyIter_list pl.isList (pi_one (tk := s1.toks) I1 _ (turn_list a _) ⟨_, Heap.get?_push_size _ rfl, rfl, rfl⟩ q)
  · cases rv
    obtain ⟨its, _, pl, _⟩ := I1.tuple hq
    exact wpAny_pyIter_tuple (show s1.heap.IsTuple a its.toArray from pl) (pi_one (tk := s1.toks) I1 _ (turn_tuple a _) ⟨_, Heap.get?_push_size _ rfl, rfl, rfl⟩ q)
  · obtain ⟨t, rfl⟩ := rv
    cases hz : z.cps.all (· < 128) with
    | false => exact wpAny_pyIter_wide hz (pi_one (tk := s1.toks) I1 _ (turn_str _ z t "str_iterator" (.inr rfl)) ⟨_, Heap.get?_push_size _ rfl, rfl, rfl⟩ q)
    | true => exact wpAny_pyIter_ascii hz (pi_one (tk := s1.toks) I1 _ (turn_str _ z t "str_ascii_iterator" (.inl rfl)) ⟨_, Heap.get?_push_size _ rfl, rfl, rfl⟩ q)⟩
theorem ci_seq (h : CE C x e1) : CI C tg x .seq [e1] := fun X W F => PI.imp (pi_any (h X W F)) fun σ H Q hw => by
  rw [F.K]
  exact tI_one pi_seqA hw
theorem ci_rng1 (b : Bn C "range") (h : CE C x e1) (n1 : ∀ env, starEach [x] env = [(false, PySem.eval x env)] := by intro _; rfl) : CI C tg (.Call (.Name "range" ps) [x] [] pos) .rng1 [e1] := fun X W F =>
  PI.imp (pi_range1 (b.gl F) (b.mg F) (pa_cons (h X W F) pa_nil (n1 _)) (n1 _)) fun σ H Q hw => by
    refine tI_one (r := fun x H1 R => ∃ j : Int, [x] = [V.int j] ∧ -(2 ^ 62) ≤ j ∧ j < 2 ^ 62 ∧ R (Itr 0 j.toNat) H1) ?_ hw
    intro ρ H s dx x it Q rp rx hm q
    cases dx with
    | int j =>
      have hm : (if j.natAbs < 2 ^ 40 then some (It.fix ((List.range j.toNat).map fun (k : Nat) => D.int (k : Int))) else none) = some it := hm
      by_cases hz : j.natAbs < 2 ^ 40
      · rw [if_pos hz] at hm
        cases hm
        refine ⟨j, by rw [rd_int.mp rx], by omega, by omega, q _ ?_⟩
        have e : ((List.range j.toNat).map fun (k : Nat) => D.int (k : Int)) = (List.range j.toNat).map fun (k : Nat) => D.int (0 + (k : Int)) := by
          congr 1
          funext k
          rw [Int.zero_add]
        rw [e]
        exact itok_rng
      · rw [if_neg hz] at hm
        cases hm
    | _ => cases hm
theorem ci_rng2 {es : List E} (b : Bn C "range") (h : CA C [x, y] es) (n1 : ∀ env, starEach [x, y] env = [(false, PySem.eval x env), (false, PySem.eval y env)] := by intro _; rfl) (n2 : ∀ env, starEach [y] env = [(false, PySem.eval y env)] := by intro _; rfl) :
    CI C tg (.Call (.Name "range" ps) [x, y] [] pos) .rng2 es := fun X W F =>
  PI.imp (pi_range2 (b.gl F) (b.mg F) (h X W F) (n1 _) (n2 _)) fun σ H Q hw => by
    refine tI_all (r := fun vs H1 R => ∃ i j : Int, vs = [.int i, .int j] ∧ (-(2 ^ 62) ≤ i ∧ i < 2 ^ 62 ∧ -(2 ^ 62) ≤ j ∧ j < 2 ^ 62) ∧ R (Itr i (j - i).toNat) H1) ?_ hw
    intro ρ H s ds xs it Q rp rx hm q
    rcases ds with _ | ⟨a, _ | ⟨b, _ | ⟨c, l⟩⟩⟩
    · cases hm
    · cases a <;> cases hm
    · obtain ⟨x, r, rfl, h1, h2⟩ := rds_cons.mp rx
      obtain ⟨y, r, rfl, h3, h4⟩ := rds_cons.mp h2
      cases rds_nil.mp h4
      cases a with
      | int i =>
        cases b with
        | int j =>
          have hm : (if i.natAbs < 2 ^ 40 ∧ j.natAbs < 2 ^ 40 then some (It.fix ((List.range (j - i).toNat).map fun (k : Nat) => D.int (i + (k : Int)))) else none) = some it := hm
          by_cases hz : i.natAbs < 2 ^ 40 ∧ j.natAbs < 2 ^ 40
          · rw [if_pos hz] at hm
            cases hm
            exact ⟨i, j, by rw [rd_int.mp h1, rd_int.mp h3], ⟨by omega, by omega, by omega, by omega⟩, q _ itok_rng⟩
          · rw [if_neg hz] at hm
            cases hm
        | _ => cases hm
      | _ => cases hm
    · cases a <;> first | (cases hm; done) | (cases b <;> cases hm)
theorem ci_rng3 {es : List E} (b : Bn C "range") (h : CA C [x, y, z] es) (n1 : ∀ env, starEach [x, y, z] env = (false, PySem.eval x env) :: starEach [y, z] env := by intro _; rfl) (n2 : ∀ env, (backTo pos (starEach [y, z] env)).any (·.1) = false := by intro _; rfl) :
    CI C tg (.Call (.Name "range" ps) [x, y, z] [] pos) .rng3 es := fun X W F =>
  PI.imp (pi_range3 (b.gl F) (b.mg F) (h X W F) (n1 _) (n2 _)) fun σ H Q hw => by
    refine tI_all (r := fun vs H1 R => ∃ (i j c : Int) (n : Nat), vs = [.int i, .int j, .int c] ∧ RgC i j c n ∧ R (Itc i c n) H1) ?_ hw
    intro ρ H s ds xs it Q rp rx hm q
    rcases ds with _ | ⟨a, _ | ⟨b, _ | ⟨c, _ | ⟨d, l⟩⟩⟩⟩
    · cases hm
    · cases a <;> cases hm
    · cases a <;> first | (cases hm; done) | (cases b <;> cases hm)
    · obtain ⟨x, r, rfl, h1, h2⟩ := rds_cons.mp rx
      obtain ⟨y, r, rfl, h3, h4⟩ := rds_cons.mp h2
      obtain ⟨z, r, rfl, h5, h6⟩ := rds_cons.mp h4
      cases rds_nil.mp h6
      cases a with
      | int i =>
        cases b with
        | int j =>
          cases c with
          | int c =>
            have hm : (if i.natAbs < 2 ^ 40 ∧ j.natAbs < 2 ^ 40 ∧ c = -1 then some (It.fix ((List.range (i - j).toNat).map fun (k : Nat) => D.int (i + (k : Int) * -1))) else none) = some it := hm
            by_cases hz : i.natAbs < 2 ^ 40 ∧ j.natAbs < 2 ^ 40 ∧ c = -1
            · rw [if_pos hz] at hm
              cases hm
              obtain ⟨z1, z2, rfl⟩ := hz
              exact ⟨i, j, -1, _, by rw [rd_int.mp h1, rd_int.mp h3, rd_int.mp h5], RgC.neg (by omega) (by omega) (by omega) (by omega), q _ itok_rngC⟩
            · rw [if_neg hz] at hm
              cases hm
          | _ => cases hm
        | _ => cases hm
      | _ => cases hm
    · cases a <;> first | (cases hm; done) | (cases b <;> first | (cases hm; done) | (cases c <;> cases hm))
theorem ci_rev (b : Bn C "reversed") (h : CE C x e1) (n1 : ∀ env, starEach [x] env = (false, PySem.eval x env) :: starEach [] env := by intro _; rfl) : CI C tg (.Call (.Name "reversed" ps) [x] [] pos) .rev [e1] := fun X W F =>
  PI.imp (RT.pi_revA (b.gl F) (b.mg F) (h X W F) (n1 _)) fun σ H Q hw => by
    rw [F.K]
    refine tI_one (r := fun v H1 R => ∃ (a : Addr) (xs : List V), v = .ref a ∧ ((SqL C.G.K H1 a xs ∧ R (Itv C.G.K a xs.length) H1) ∨ (SqT C.G.K H1 a xs ∧ R (RT.ItvT C.G.K a xs.length) H1))) ?_ hw
    intro ρ H s dx x it Q rp rx hm q
    cases dx with
    | tup l =>
      cases hm
      obtain ⟨a, xs, e, h1, h2⟩ := rd_tup.mp rx
      exact ⟨a, xs, e, .inr ⟨SqT.of h1, q _ (itok_revT h1 h2)⟩⟩
    | ref n =>
      have hm : (match s[n]? with | some (.lst l) => some (It.rev n l.length) | _ => none) = some it := hm
      obtain ⟨l, ho, hm⟩ := lst_of (f := fun l => some (It.rev n l.length)) hm
      cases hm
      obtain ⟨a, xs, e, ha, h1, h2⟩ := rd_lst rp rx ho
      exact ⟨a, xs, e, .inl ⟨SqL.of h1, by rw [← h2.len]; exact q _ (itok_revL ha)⟩⟩
    | _ => cases hm
theorem ci_zip {es : List E} {elts : List Expr} {kk : Nat} {tpos : Pos} (b : Bn C "zip") (h : CA C [x, y] es) (n1 : ∀ env, starEach [x, y] env = (false, PySem.eval x env) :: starEach [y] env := by intro _; rfl) (n2 : ∀ env, (backTo pos (starEach [y] env)).any (·.1) = false := by intro _; rfl) :
    CI C (.Tuple elts kk tpos) (.Call (.Name "zip" ps) [x, y] [] pos) .zip es := fun X W F =>
  PI.imp (RZ.pi_zipA (b.gl F) (b.mg F) (h X W F) (n1 _) (n2 _)) fun σ H Q hw => by
    rw [F.K]
    refine tI_all (r := fun vs H1 R => ∃ a b xs ys, vs = [.ref a, .ref b] ∧ ((SqL C.G.K H1 a xs ∧ SqL C.G.K H1 b ys ∧ R (Itz C.G.K a b) H1) ∨ (SqT C.G.K H1 a xs ∧ SqT C.G.K H1 b ys ∧ R (RZ.ItzT C.G.K a b) H1))) ?_ hw
    intro ρ H s ds xs it Q rp rx hm q
    rcases ds with _ | ⟨u, _ | ⟨w, _ | ⟨c, l⟩⟩⟩
    · cases hm
    · cases u <;> cases hm
    · obtain ⟨x, r, rfl, h1, h2⟩ := rds_cons.mp rx
      obtain ⟨y, r, rfl, h3, h4⟩ := rds_cons.mp h2
      cases rds_nil.mp h4
      cases u with
      | tup l =>
        cases w with
        | tup m =>
          cases hm
          obtain ⟨a, xs, rfl, g1, g2⟩ := rd_tup.mp h1
          obtain ⟨b, ys, rfl, g3, g4⟩ := rd_tup.mp h3
          exact ⟨a, b, xs, ys, rfl, .inr ⟨SqT.of g1, SqT.of g3, q _ (itok_zipT g1 g3 g2 g4)⟩⟩
        | _ => cases hm
      | ref n =>
        cases w with
        | ref m =>
          have hm : (match s[n]?, s[m]? with | some (.lst _), some (.lst _) => some (It.zip n m) | _, _ => none) = some it := hm
          cases ho : s[n]? with
          | none => rw [ho] at hm; cases hm
          | some o =>
            cases ho2 : s[m]? with
            | none => rw [ho, ho2] at hm; cases o <;> cases hm
            | some o2 =>
              rw [ho, ho2] at hm
              cases o with
              | lst l =>
                cases o2 with
                | lst l2 =>
                  cases hm
                  obtain ⟨a, xs, rfl, ha, h1, h2⟩ := rd_lst rp h1 ho
                  obtain ⟨b, ys, rfl, hb, h3, h4⟩ := rd_lst rp h3 ho2
                  exact ⟨a, b, xs, ys, rfl, .inl ⟨SqL.of h1, SqL.of h3, q _ (itok_zip ha hb)⟩⟩
                | _ => cases hm
              | _ => cases hm
        | _ => cases hm
      | _ => cases hm
    · cases u <;> first | (cases hm; done) | (cases w <;> cases hm)
end

/-! ### comprehensions -/
/-- the block of a comprehension -/
def CC.blk (C : CC) (scope : Scope) : CC := { C with sc := relS scope C.sc, stc := fun x => scope.names.lookup x == some .cell }
section
variable {C : CC} {tg iter elt : Expr} {e q : E} {pos : Pos} {scope : Scope}
theorem fit_blk {X : Cx} {W : WX} (F : Fit C X W) (hk : scope.kind = .function) (s : Shared) (H : Hp) (Ca : Addr) (cl : List (Str × Addr)) (fp : List Addr) : Fit (C.blk scope) (X.blk s H scope (compEnvC scope cl Ca X.env) fp) (fun _ _ _ _ => False) where
  P := F.P
  w := F.w
  K := F.K
  mg := F.mg
  base := F.base
  N := F.N
  nd := F.nd
  sc := show relS scope X.env.scope = _ by rw [F.sc]; rfl
  fnt := fun n h => h
  kind := hk
  calm := F.calm
  room := F.room
  tk := fun u s' ⟨_, _, _, _, _, _, _, _, _, _, _, _, _, _, _, _, h⟩ => h.elim
  po := PassesOwn.never
  fn := F.fn
/-- the tests of a clause -/
def CFs (C : CC) (ifs : List Expr) (q : E) : Prop := ∀ X W, Fit C X W → PTs X ifs (tT C W q)
theorem cf_nil : CFs C [] (.con (.bl true)) := fun X W F => ⟨fun pins s σ H Q I h => pts_nil.run pins s σ H Q I (by
  obtain ⟨ρ, env, s, re, rp, h⟩ := h
  rw [eval] at h
  exact h ρ true H (List.prefix_refl _) (KeepT.refl _) rp rfl)⟩
theorem cf_one {c : Expr} (h : CT C c q) : CFs C [c] q := fun X W F => pts_one (h X W F)
/-- one turn's step, as it is reached -/
def stepC (c : Cfg) (q e : E) (t : T) (env : Ev) : D → S → R (Option D) := fun d s3 => match bindT t d env with
  | none => .bad
  | some env1 => condR (eval c q env1 s3) (fun s4 => (eval c e env1 s4).bind fun y s5 => .ok (some y) s5) (fun s4 => .ok none s4)
theorem wipe_in {σ : L2.St} {j : Nat} : ∀ {vs : List Nat}, j ∈ vs → (wipe σ vs)[j]? = if j < σ.length then some none else none
  | [], h => by cases h
  | v :: vs, h => by
    unfold wipe
    by_cases e : v = j
    · subst e
      by_cases hv : v < σ.length
      · rw [if_pos hv, List.getElem?_set_self (by rw [wipe_length]; exact hv)]
      · rw [if_neg hv, List.getElem?_eq_none (by rw [List.length_set, wipe_length]; omega)]
    · rw [List.getElem?_set_ne e]
      exact wipe_in (by
        rcases List.mem_cons.mp h with h | h
        · exact absurd h.symm e
        · exact h)
theorem wipe_oth {σ σ2 : L2.St} {vs is : List Nat} (h : Oth is (wipe σ vs) σ2) (hs : ∀ i ∈ is, i ∈ vs) : wipe σ2 vs = wipe σ vs := by
  apply List.ext_getElem?
  intro j
  have hl : σ2.length = σ.length := by rw [h.1, wipe_length]
  by_cases hj : j ∈ vs
  · rw [wipe_in hj, wipe_in hj, hl]
  · rw [wipe_out hj, wipe_out hj, h.2 j (fun z => hj (hs j z)), wipe_out hj]
/-- the reading of a comprehension -/
theorem tE_lc {W : WX} {k : IK} {es : List E} {t : T} {vs : List Nat} (scope : Scope) (hv : ∀ i ∈ ixs t, i ∈ vs) {σ : L2.St} {H : Hp} {Q : VK} (h : tE C W (.comp k es t q e vs) σ H Q) :
    tLc (tI C W k es) (tgT C.G t) (tT (C.blk scope) (fun _ _ _ _ => False) q) (tE (C.blk scope) (fun _ _ _ _ => False) e) vs σ H Q := by
  obtain ⟨ρ, env, s, re, rp, h⟩ := h
  rw [eval] at h
  refine ⟨ρ, env, s, re, rp, (WpR.bind (rel := relI C.G) h).mono (List.prefix_refl _) (KeepT.refl _) fun J H1 ⟨ρ1, it, s1, p1, k1, rp1, hJ, h1⟩ Dd hD => ?_⟩
  generalize hst : (fun d s3 => match bindT t d (wipeE env vs) with
      | none => R.bad
      | some env1 => condR (eval C.c q env1 s3) (fun s4 => (eval C.c e env1 s4).bind fun y s5 => R.ok (some y) s5) (fun s4 => R.ok none s4)) = step at h1
  have re1 := re.mono p1 k1
  have kt : KeepT H1 (upd H1 Dd (.lst [])) := KeepT.new hD
  have rp2 := rp1.push (o := .lst []) hD (ho := .lst []) fun ρ' H' pr kt e => ⟨[], e, rds_nil.mpr rfl⟩
  refine ⟨fun i m H => ∃ ρ s, ρ1 ++ [Dd] <+: ρ ∧ KeepT (upd H1 Dd (.lst [])) H ∧ Rep C.G ρ s H ∧ WpR C.G (relD C.G) (fun cls d H' => W cls d σ H') ((compL s1.length it step m i s).bind fun _ s2 => .ok (.ref s1.length) s2) ρ H Q,
    ⟨C.c.fuel, ρ1 ++ [Dd], _, List.prefix_refl _, KeepT.refl _, rp2, WpR.ext pre_push kt h1⟩, ?_⟩
  rintro i m H2 ⟨ρ2, s2, p2, k2, rp2, h2⟩
  have hn2 : ρ2[s1.length]? = some Dd := pre_get p2 rp1.last
  obtain ⟨j1, j2⟩ := hJ ρ2 H2 s2 i (pre_push.trans p2) (kt.trans k2) rp2
  cases m with
  | zero => exact h2.elim
  | succ f =>
    rw [compL] at h2
    cases hat : it.at i s2 with
    | none => rw [hat] at h2; exact h2.elim
    | some o =>
      rw [hat] at h2
      cases o with
      | none =>
        exact .inl ⟨j1 hat, h2 ρ2 _ H2 (List.prefix_refl _) (KeepT.refl _) rp2 (by show RD _ _ _ _ _; rw [RD]; exact ⟨Dd, rfl, hn2⟩)⟩
      | some d =>
        obtain ⟨g1, g2⟩ := j2 d hat
        refine .inr ⟨g1, fun H' => ∃ ρ s, ρ1 ++ [Dd] <+: ρ ∧ KeepT (upd H1 Dd (.lst [])) H' ∧ Rep C.G ρ s H' ∧ WpR C.G (relD C.G) (fun cls d H' => W cls d σ H') ((compL s1.length it step f (i + 1) s).bind fun _ s2 => .ok (.ref s1.length) s2) ρ H' Q, fun H' hN => ⟨f, Nat.lt_succ_self f, hN⟩, fun x H3 y => ?_⟩
        obtain ⟨k3, rp3, rd3⟩ := g2 x H3 y
        dsimp only at h2
        have h3 := WpR.ext (List.prefix_refl _) k3 h2
        have hstep : step d s2 = match bindT t d (wipeE env vs) with
            | none => R.bad
            | some env1 => condR (eval C.c q env1 s2) (fun s4 => (eval C.c e env1 s4).bind fun y s5 => R.ok (some y) s5) (fun s4 => R.ok none s4) := by rw [← hst]
        rw [hstep] at h3
        cases hb : bindT t d (wipeE env vs) with
        | none => rw [hb] at h3; exact h3.elim
        | some env1 =>
          rw [hb] at h3
          dsimp only at h3
          refine ⟨ρ2, wipeE env vs, d, env1, (re1.mono (pre_push.trans p2) ((kt.trans k2).trans k3)).wipe vs, rd3, hb, fun σ1 re4 o4 => ⟨wipe_oth o4 hv, ?_⟩⟩
          refine ⟨ρ2, env1, s2, re4, rp3, ?_⟩
          unfold condR at h3
          show WpR C.G relB _ ((eval C.c q env1 s2).bind toB) ρ2 H3 _
          cases hr : (eval C.c q env1 s2).bind toB with
          | bad => rw [hr] at h3; exact h3.elim
          | exc c as s4 => rw [hr] at h3; exact h3.elim
          | ok b s4 =>
            rw [hr] at h3
            intro ρ5 b' H5 p5 k5 rp5 eb
            have eb : b = b' := eb
            subst eb
            have h5 := WpR.ext p5 k5 h3
            cases b with
            | false =>
              rw [if_neg Bool.false_ne_true]
              exact ⟨ρ5, s4, p2.trans p5, (k2.trans k3).trans k5, rp5, h5⟩
            | true =>
              rw [if_pos rfl]
              refine ⟨ρ5, env1, s4, re4.mono p5 k5, rp5, ?_⟩
              show WpR C.G (relD C.G) _ (eval C.c e env1 s4) ρ5 H5 _
              simp only [R.bind_ok, if_true] at h5
              cases hr2 : eval C.c e env1 s4 with
              | bad => rw [hr2] at h5; exact h5.elim
              | exc c as s6 => rw [hr2] at h5; exact h5.elim
              | ok w s6 =>
                rw [hr2] at h5
                intro ρ6 v H6 p6 k6 rp6 rd6
                simp only [R.bind_ok] at h5
                have hn6 : ρ6[s1.length]? = some Dd := pre_get (p5.trans p6) hn2
                obtain ⟨o, ho, ro⟩ := rp6.at' hn6
                rw [ho] at h5
                cases o with
                | lst acc =>
                  dsimp only at h5
                  by_cases hz : acc.length < LIM
                  · rw [if_pos hz] at h5
                    obtain ⟨xs, e1, e2⟩ := ro
                    refine ⟨xs, e1, by rw [← e2.len]; exact Nat.lt_of_lt_of_le hz lim_line, ρ6, _, (p2.trans p5).trans p6, ?_, rp6.write (o := .lst (acc ++ [w])) (ho := .lst (xs ++ [v])) hn6 fun H' kt e => ⟨_, e, (e2.mono (List.prefix_refl _) kt).append (RDs.one (rd6.mono (List.prefix_refl _) kt))⟩, WpR.ext p6 (k6.trans (KeepT.wr e1 trivial)) h5⟩
                    exact (((k2.trans k3).trans k5).trans k6).trans (KeepT.wr e1 trivial)
                  · rw [if_neg hz] at h5
                    exact h5.elim
                | _ => exact h5.elim
theorem ce_comp {k : IK} {es : List E} {t : T} {ifs : List Expr} {own : List (Str × Nat)} (hi : CI C tg iter k es) (ok : BlkOk C.N C.sc scope own) (hg : CGt (C.blk scope) tg t) (hq : CFs (C.blk scope) ifs q) (he : CE (C.blk scope) elt e) (hv : ∀ i ∈ ixs t, i ∈ own.map (·.2))
    (hs : ∀ env x, foldedSetIterable iter env x = pure x := by intro _ _; rfl) : CE C (.ListComp elt [⟨tg, iter, ifs, 0⟩] scope pos) (.comp k es t q e (own.map (·.2))) := fun X W F => by
  have hk : scope.kind = .function := ok.kind
  exact PE.imp (pe_lc F.calm (by rw [F.N]; exact F.nd) (hi X W F) (by rw [F.N, F.sc]; exact ok) (fun s H Ca cl fp => hg _ _ (fit_blk F hk s H Ca cl fp)) (fun s H Ca cl fp => hq _ _ (fit_blk F hk s H Ca cl fp)) (fun s H Ca cl fp => he _ _ (fit_blk F hk s H Ca cl fp)) (hs _)) fun σ H Q h => tE_lc scope hv h
end
end Mini
set_option Elab.async false
set_option linter.all false
set_option maxRecDepth 100000
set_option maxHeartbeats 1000000
/-! Mini 15: statements. -/
namespace Mini
open PySem L2 PyProof.Rows

/-- what is wanted behind a statement's run -/
def FlW (G : Gx) (W : WX) (f : Fl) (ρ : List Addr) (H : Hp) (D : Ends) : Prop := match f with
  | .nx env s => ∀ ρ' σ' H', ρ <+: ρ' → KeepT H H' → Rep G ρ' s H' → RE G ρ' H' env σ' → D.nx σ' H'
  | .rt d s => ∀ ρ' v H', ρ <+: ρ' → KeepT H H' → Rep G ρ' s H' → RD G ρ' H' d v → D.rt v H'
  | .bk env s => ∀ ρ' σ' H', ρ <+: ρ' → KeepT H H' → Rep G ρ' s H' → RE G ρ' H' env σ' → D.bk σ' H'
  | .ct env s => ∀ ρ' σ' H', ρ <+: ρ' → KeepT H H' → Rep G ρ' s H' → RE G ρ' H' env σ' → D.ct σ' H'
  | .ex c as env s => ∀ ρ' H' cls d σ', ρ <+: ρ' → KeepT H H' → Rep G ρ' s H' → RX G c as ρ' H' cls d → RE G ρ' H' env σ' → W cls d σ' H'
  | .bad => False
def tS (C : CC) (W : WX) (st : St) : TS := fun D σ H => ∃ ρ env s, RE C.G ρ H env σ ∧ Rep C.G ρ s H ∧ FlW C.G W (exec C.c st env s) ρ H D
def tSs (C : CC) (W : WX) (st : List St) : TS := fun D σ H => ∃ ρ env s, RE C.G ρ H env σ ∧ Rep C.G ρ s H ∧ FlW C.G W (execs C.c st env s) ρ H D
def CS (C : CC) (x : Stmt) (st : St) : Prop := ∀ X W, Fit C X W → PS X x (tS C W st)
def CSs (C : CC) (x : List Stmt) (st : List St) : Prop := ∀ X W, Fit C X W → PSs X x (tSs C W st)
theorem PS.imp {X : Cx} {x : Stmt} {t t' : TS} (h : PS X x t) (k : ∀ D σ H, t' D σ H → t D σ H) : PS X x t' := ⟨fun pins s σ H D I hw => h.run pins s σ H D I (k D σ H hw)⟩
theorem PSs.imp {X : Cx} {x : List Stmt} {t t' : TS} (h : PSs X x t) (k : ∀ D σ H, t' D σ H → t D σ H) : PSs X x t' := ⟨fun pins s σ H D I hw => h.run pins s σ H D I (k D σ H hw)⟩
section
variable {G : Gx} {W : WX} {ρ ρ1 : List Addr} {H H1 : Hp} {D D' : Ends} {f : Fl} {env : Ev} {σ : L2.St}
theorem FlW.ext (p : ρ <+: ρ1) (k : KeepT H H1) (h : FlW G W f ρ H D) : FlW G W f ρ1 H1 D := by
  cases f with
  | nx env s => exact fun ρ' σ' H' p' k' => h ρ' σ' H' (p.trans p') (k.trans k')
  | rt d s => exact fun ρ' σ' H' p' k' => h ρ' σ' H' (p.trans p') (k.trans k')
  | bk env s => exact fun ρ' σ' H' p' k' => h ρ' σ' H' (p.trans p') (k.trans k')
  | ct env s => exact fun ρ' σ' H' p' k' => h ρ' σ' H' (p.trans p') (k.trans k')
  | ex c as env s => exact fun ρ' H' cls d σ' p' k' => h ρ' H' cls d σ' (p.trans p') (k.trans k')
  | bad => exact h
theorem FlW.of {α β : Type} {rel : List Addr → Hp → α → β → Prop} {r : R α} {k : α → S → Fl} (re : RE G ρ H env σ) (h : FlW G W (flR env r k) ρ H D) :
    WpR G rel (fun cls d H' => W cls d σ H') r ρ H fun v H1 => ∃ ρ1 a s1, ρ <+: ρ1 ∧ KeepT H H1 ∧ RE G ρ1 H1 env σ ∧ Rep G ρ1 s1 H1 ∧ rel ρ1 H1 a v ∧ FlW G W (k a s1) ρ1 H1 D := by
  cases r with
  | ok a s => exact fun ρ' v H' p kt rp rl => ⟨ρ', a, s, p, kt, re.mono p kt, rp, rl, FlW.ext p kt h⟩
  | exc c as s => exact fun ρ' H' cls d p kt rp rx => h ρ' H' cls d σ p kt rp rx (re.mono p kt)
  | bad => exact h
theorem FlW.here {s : S} (rp : Rep G ρ s H) (re : RE G ρ H env σ) (h : FlW G W (.nx env s) ρ H D) : D.nx σ H := h ρ σ H (List.prefix_refl _) (KeepT.refl _) rp re
end

section
variable {C : CC} {x y z tg iter : Expr} {e e1 e2 e3 : E} {pos pos' : Pos} {st : St} {sts : List St} {a : Stmt} {as bs : List Stmt}
theorem cs_nil : CSs C [] [] := fun X W F => PSs.imp pss_nil fun D σ H ⟨ρ, env, s, re, rp, h⟩ => by
  rw [execs] at h
  exact FlW.here rp re h
theorem cs_cons (h1 : CS C a st) (h2 : CSs C as sts) : CSs C (a :: as) (st :: sts) := fun X W F => PSs.imp (pss_cons (h1 X W F) (h2 X W F)) fun D σ H ⟨ρ, env, s, re, rp, h⟩ => by
  rw [execs] at h
  refine ⟨ρ, env, s, re, rp, ?_⟩
  cases hr : exec C.c st env s with
  | nx env1 s1 =>
    rw [hr] at h
    exact fun ρ' σ' H' p k rp' re' => ⟨ρ', env1, s1, re', rp', FlW.ext p k h⟩
  | rt d s1 => rw [hr] at h; exact h
  | bk env1 s1 => rw [hr] at h; exact h
  | ct env1 s1 => rw [hr] at h; exact h
  | ex c as env1 s1 => rw [hr] at h; exact h
  | bad => rw [hr] at h; exact h
theorem cs_pas : CS C (.Pass pos) .pas := fun X W F => PS.imp ps_pass fun D σ H ⟨ρ, env, s, re, rp, h⟩ => by
  rw [exec] at h
  exact FlW.here rp re h
theorem cs_brk : CS C (.Break pos) .brk := fun X W F => PS.imp ps_break fun D σ H ⟨ρ, env, s, re, rp, h⟩ => by
  rw [exec] at h
  exact h ρ σ H (List.prefix_refl _) (KeepT.refl _) rp re
theorem cs_cnt : CS C (.Continue pos) .cnt := fun X W F => PS.imp ps_continue fun D σ H ⟨ρ, env, s, re, rp, h⟩ => by
  rw [exec] at h
  exact h ρ σ H (List.prefix_refl _) (KeepT.refl _) rp re
theorem cs_never : CS C a .never := fun X W F => PS.imp ps_never fun D σ H ⟨ρ, env, s, re, rp, h⟩ => by
  rw [exec] at h
  exact h
theorem cs_ret (h1 : CE C x e) : CS C (.Return (some x) pos) (.ret e) := fun X W F => PS.imp (ps_ret (h1 X W F)) fun D σ H ⟨ρ, env, s, re, rp, h⟩ => by
  rw [exec] at h
  exact ⟨ρ, env, s, re, rp, (FlW.of (rel := relD C.G) re h).mono (List.prefix_refl _) (KeepT.refl _) fun v H1 ⟨ρ1, d, s1, p, k, re1, rp1, rd, q⟩ => q ρ1 v H1 (List.prefix_refl _) (KeepT.refl _) rp1 rd⟩
theorem cs_retN : CS C (.Return none pos) .retN := fun X W F => PS.imp ps_retN fun D σ H ⟨ρ, env, s, re, rp, h⟩ => by
  rw [exec] at h
  exact h ρ .non H (List.prefix_refl _) (KeepT.refl _) rp (rd_non.mpr rfl)
theorem cs_ex (h1 : CE C x e) (hs : ∀ env, swapsWith x none pos.line env = pure false := by intro _; rfl) : CS C (.Expr x pos) (.ex e) := fun X W F => PS.imp (ps_expr (h1 X W F) (hs _)) fun D σ H ⟨ρ, env, s, re, rp, h⟩ => by
  rw [exec] at h
  exact ⟨ρ, env, s, re, rp, (FlW.of (rel := relD C.G) re h).mono (List.prefix_refl _) (KeepT.refl _) fun v H1 ⟨ρ1, d, s1, p, k, re1, rp1, rd, q⟩ => FlW.here rp1 re1 q⟩
/-- a text that stands alone -/
theorem cs_doc {w : Str} {j : Nat} : CS C (.Expr (.Constant (.str w) j pos) pos') .pas := fun X W F => PS.imp ps_doc fun D σ H ⟨ρ, env, s, re, rp, h⟩ => by
  rw [exec] at h
  exact FlW.here rp re h
/-- a test, then by its answer -/
theorem tT_flow {W : WX} {σ : L2.St} {H : Hp} {ρ : List Addr} {env : Ev} {s : S} {D : Ends} {k1 k2 : S → Fl} (re : RE C.G ρ H env σ) (rp : Rep C.G ρ s H)
    (h : FlW C.G W (flR env (eval C.c e env s) fun d s1 => match d with | .bl true => k1 s1 | .bl false => k2 s1 | _ => .bad) ρ H D) :
    tT C W e σ H fun b H1 => ∃ ρ1 s1, ρ <+: ρ1 ∧ KeepT H H1 ∧ RE C.G ρ1 H1 env σ ∧ Rep C.G ρ1 s1 H1 ∧ FlW C.G W (if b = true then k1 s1 else k2 s1) ρ1 H1 D := by
  refine ⟨ρ, env, s, re, rp, ?_⟩
  cases hr : eval C.c e env s with
  | bad => rw [hr] at h; exact h.elim
  | exc c as s1 => rw [hr] at h; exact fun ρ' H' cls d p kt rp' rx => h ρ' H' cls d σ p kt rp' rx (re.mono p kt)
  | ok d s1 =>
    rw [hr] at h
    cases d with
    | bl b =>
      intro ρ' v H' p kt rp' ev
      have ev : b = v := ev
      subst ev
      refine ⟨ρ', s1, p, kt, re.mono p kt, rp', FlW.ext p kt ?_⟩
      cases b with
      | true => exact h
      | false => exact h
    | _ => exact h.elim
theorem cs_ite {sa sb : List St} (h1 : CT C x e) (h2 : CSs C as sa) (h3 : CSs C bs sb) : CS C (.If x as bs pos) (.ite e sa sb) := fun X W F => PS.imp (ps_if (h1 X W F) (h2 X W F) (h3 X W F)) fun D σ H ⟨ρ, env, s, re, rp, h⟩ => by
  rw [exec] at h
  obtain ⟨u1, u2, u3, u4, u5, u6⟩ := tT_flow (k1 := fun s1 => execs C.c sa env s1) (k2 := fun s1 => execs C.c sb env s1) re rp h
  refine ⟨u1, u2, u3, u4, u5, u6.mono (List.prefix_refl _) (KeepT.refl _) fun b H1 ⟨ρ1, s1, p, k, re1, rp1, q⟩ => ?_⟩
  cases b with
  | true => rw [if_pos rfl] at q ⊢; exact ⟨ρ1, env, s1, re1, rp1, q⟩
  | false => rw [if_neg Bool.false_ne_true] at q ⊢; exact ⟨ρ1, env, s1, re1, rp1, q⟩
theorem cs_whl (h1 : CT C x e) (h2 : CSs C as sts) : CS C (.While x as [] pos) (.whl e sts) := fun X W F => PS.imp (ps_while F.po (h1 X W F) (h2 X W F)) fun D σ H ⟨ρ, env, s, re, rp, h⟩ => by
  rw [exec] at h
  refine ⟨fun m σ H => ∃ ρ env s, RE C.G ρ H env σ ∧ Rep C.G ρ s H ∧ FlW C.G W (whileL (fun env s => eval C.c e env s) (fun env s => execs C.c sts env s) m env s) ρ H D, ⟨_, ρ, env, s, re, rp, h⟩, ?_⟩
  rintro m σ2 H2 ⟨ρ2, env2, s2, re2, rp2, h2⟩
  cases m with
  | zero => exact h2.elim
  | succ f =>
    rw [whileL] at h2
    obtain ⟨u1, u2, u3, u4, u5, u6⟩ := tT_flow (k1 := fun s1 => match execs C.c sts env2 s1 with
        | .nx env1 s2 => whileL (fun env s => eval C.c e env s) (fun env s => execs C.c sts env s) f env1 s2
        | .ct env1 s2 => whileL (fun env s => eval C.c e env s) (fun env s => execs C.c sts env s) f env1 s2
        | .bk env1 s2 => .nx env1 s2
        | r => r) (k2 := fun s1 => .nx env2 s1) re2 rp2 h2
    refine ⟨u1, u2, u3, u4, u5, u6.mono (List.prefix_refl _) (KeepT.refl _) fun b H1 ⟨ρ1, s1, p, k, re1, rp1, q⟩ => ?_⟩
    cases b with
    | false => rw [if_neg Bool.false_ne_true] at q ⊢; exact FlW.here rp1 re1 q
    | true =>
      rw [if_pos rfl] at q ⊢
      refine ⟨_, fun σ' H' hN => ⟨f, Nat.lt_succ_self f, hN⟩, ρ1, env2, s1, re1, rp1, ?_⟩
      cases hr : execs C.c sts env2 s1 with
      | nx env1 s3 => rw [hr] at q; exact fun ρ' σ' H' p' k' rp' re' => ⟨ρ', env1, s3, re', rp', FlW.ext p' k' q⟩
      | ct env1 s3 => rw [hr] at q; exact fun ρ' σ' H' p' k' rp' re' => ⟨ρ', env1, s3, re', rp', FlW.ext p' k' q⟩
      | bk env1 s3 => rw [hr] at q; exact q
      | rt d s3 => rw [hr] at q; exact q
      | ex c as env1 s3 => rw [hr] at q; exact q
      | bad => rw [hr] at q; exact q
theorem cs_for {k : IK} {es : List E} {t : T} (hi : CI C tg iter k es) (hg : CGt C tg t) (h2 : CSs C as sts) (hs : ∀ env x, foldedSetIterable iter env x = pure x := by intro _ _; rfl) : CS C (.For tg iter as [] pos) (.forr k es t sts) := fun X W F =>
  PS.imp (ps_for F.po F.calm (hi X W F) (hg X W F) (h2 X W F) (hs _)) fun D σ H ⟨ρ, env, s, re, rp, h⟩ => by
  rw [exec] at h
  refine ⟨ρ, env, s, re, rp, (FlW.of (rel := relI C.G) re h).mono (List.prefix_refl _) (KeepT.refl _) fun J H1 ⟨ρ1, it, s1, p1, k1, re1, rp1, hJ, h1⟩ => ?_⟩
  refine ⟨fun i m σ H => ∃ ρ env s, ρ1 <+: ρ ∧ KeepT H1 H ∧ RE C.G ρ H env σ ∧ Rep C.G ρ s H ∧ FlW C.G W (forL it t (fun env s => execs C.c sts env s) m i env s) ρ H D, ⟨_, ρ1, env, s1, List.prefix_refl _, KeepT.refl _, re1, rp1, h1⟩, ?_⟩
  rintro i m σ2 H2 ⟨ρ2, env2, s2, p2, k2, re2, rp2, h2⟩
  obtain ⟨j1, j2⟩ := hJ ρ2 H2 s2 i p2 k2 rp2
  cases m with
  | zero => exact h2.elim
  | succ f =>
    rw [forL] at h2
    cases hat : it.at i s2 with
    | none => rw [hat] at h2; exact h2.elim
    | some o =>
      rw [hat] at h2
      cases o with
      | none => exact .inl ⟨j1 hat, FlW.here rp2 re2 h2⟩
      | some d =>
        obtain ⟨g1, g2⟩ := j2 d hat
        refine .inr ⟨g1, fun σ' H' => ∃ ρ env s, ρ1 <+: ρ ∧ KeepT H1 H' ∧ RE C.G ρ H' env σ' ∧ Rep C.G ρ s H' ∧ FlW C.G W (forL it t (fun env s => execs C.c sts env s) f (i + 1) env s) ρ H' D, fun σ' H' hN => ⟨f, Nat.lt_succ_self f, hN⟩, fun x H3 y => ?_⟩
        obtain ⟨k3, rp3, rd3⟩ := g2 x H3 y
        dsimp only at h2
        cases hb : bindT t d env2 with
        | none => rw [hb] at h2; exact h2.elim
        | some env1 =>
          rw [hb] at h2
          dsimp only at h2
          refine ⟨ρ2, env2, d, env1, re2.mono (List.prefix_refl _) k3, rd3, hb, fun σ1 re4 _ => ⟨ρ2, env1, s2, re4, rp3, ?_⟩⟩
          have h3 := FlW.ext (List.prefix_refl _) k3 h2
          cases hr : execs C.c sts env1 s2 with
          | nx env3 s3 => rw [hr] at h3; exact fun ρ' σ' H' p' k' rp' re' => ⟨ρ', env3, s3, p2.trans p', (k2.trans k3).trans k', re', rp', FlW.ext p' k' h3⟩
          | ct env3 s3 => rw [hr] at h3; exact fun ρ' σ' H' p' k' rp' re' => ⟨ρ', env3, s3, p2.trans p', (k2.trans k3).trans k', re', rp', FlW.ext p' k' h3⟩
          | bk env3 s3 => rw [hr] at h3; exact h3
          | rt d s3 => rw [hr] at h3; exact h3
          | ex c as env3 s3 => rw [hr] at h3; exact h3
          | bad => rw [hr] at h3; exact h3
end
end Mini
set_option Elab.async false
set_option linter.all false
set_option maxRecDepth 100000
set_option maxHeartbeats 1000000
/-! Mini 16: assignments. -/
namespace Mini
open PySem L2 PyProof.Rows

/-- x[i] = v of a dict -/
def rSetM : TSet := fun o i v H Q => ∃ (a : Addr) (H1 : Hp), o = V.ref a ∧ DPut H a i v H1 ∧ Q H1
theorem set_map {X : Cx} (hu : X.A.units + 200 < cLine) : PSet X rSetM := fun pins s σ H o i v ov iv u Q I ro ri rv ⟨a, H1, ea, g, q⟩ => by
  subst ea
  cases ro
  exact d_setItem (by omega) I g ri rv fun s1 I1 => ⟨H1, I1, q⟩
/-- x[i] = v -/
def rSetA : TSet := fun o i v H Q => rSetL o i v H Q ∨ rSetM o i v H Q
theorem set_any {X : Cx} (hu : X.A.units + 200 < cLine) : PSet X rSetA := fun pins s σ H o i v ov iv u Q I ro ri rv h => by
  rcases h with h | h
  · exact set_list pins s σ H o i v ov iv u Q I ro ri rv h
  · exact set_map hu pins s σ H o i v ov iv u Q I ro ri rv h
theorem setI_of {G : Gx} {ρ : List Addr} {H : Hp} {s : S} {n : D} {i x d : D} {o iv v : V} {s' : S} {Q : Hp → Prop} (rp : Rep G ρ s H) (r1 : RD G ρ H n o) (r2 : RD G ρ H i iv) (r3 : RD G ρ H x v) (hp : prim .setI [n, i, x] s = some (d, s'))
    (q : ∀ H', KeepT H H' → Rep G ρ s' H' → Q H') : rSetA o iv v H Q := by
  cases n with
  | ref n =>
    unfold prim at hp
    dsimp only at hp
    cases ho : s[n]? with
    | none => rw [ho] at hp; cases hp
    | some ob =>
      rw [ho] at hp
      cases ob with
      | lst l =>
        cases i with
        | int i =>
          have hp : (ixN l.length i).map (fun j => (D.non, s.set n (.lst (l.set j x)))) = some (d, s') := hp
          obtain ⟨j, hj, e⟩ := Option.map_eq_some_iff.mp hp
          cases e
          obtain ⟨a, xs, e, ha, h1, h2⟩ := rd_lst rp r1 ho
          refine .inl ⟨a, xs, i, j, e, rd_int.mp r2, h1, by rw [← h2.len]; exact hj, ?_⟩
          exact q _ (KeepT.wr h1 trivial) (rp.write (o := .lst (l.set j x)) (ho := .lst (xs.set j v)) ha fun H' kt e => ⟨_, e, (h2.mono (List.prefix_refl _) kt).set j (r3.mono (List.prefix_refl _) kt)⟩)
        | _ => cases hp
      | dct kvs =>
        have hp : ((keyD i).bind fun k => if kvs.length < LIM then some (D.non, s.set n (.dct (setK kvs k x))) else none) = some (d, s') := hp
        obtain ⟨k, hk, hp⟩ := Option.bind_eq_some_iff.mp hp
        by_cases hz : kvs.length < LIM
        · rw [if_pos hz] at hp
          cases hp
          obtain ⟨a, kxs, e, ha, h1, h2⟩ := rd_dct rp r1 ho
          refine .inr ⟨a, _, e, .inl ⟨kxs, k, h1, keyD_rd hk r2, by rw [← h2.len]; exact Nat.lt_of_lt_of_le hz lim_line, rfl⟩, ?_⟩
          exact q _ (KeepT.wr h1 trivial) (rp.write (o := .dct (setK kvs k x)) (ho := .dK (putK kxs k v)) ha fun H' kt e => ⟨_, e, rk_set (r3.mono (List.prefix_refl _) kt) (h2.mono (List.prefix_refl _) kt)⟩)
        · rw [if_neg hz] at hp
          cases hp
      | _ => cases hp
  | _ => cases hp

/-! ### targets of assignments -/
def tG (C : CC) (t : Tg) : TG := fun v σ H Q => ∃ ρ env s d env1 s1, RE C.G ρ H env σ ∧ Rep C.G ρ s H ∧ RD C.G ρ H d v ∧ asgT C.c t d env s = .ok env1 s1 ∧ ∀ ρ' σ' H', ρ <+: ρ' → KeepT H H' → Rep C.G ρ' s1 H' → RE C.G ρ' H' env1 σ' → Q σ' H'
def tGs (C : CC) (ts : List Tg) : TGs := fun vs σ H Q => ∃ ρ env s l env1 s1, RE C.G ρ H env σ ∧ Rep C.G ρ s H ∧ RDs C.G ρ H l vs ∧ asgTs C.c ts l env s = .ok env1 s1 ∧ ∀ ρ' σ' H', ρ <+: ρ' → KeepT H H' → Rep C.G ρ' s1 H' → RE C.G ρ' H' env1 σ' → Q σ' H'
def CG (C : CC) (x : Expr) (t : Tg) : Prop := ∀ X W, Fit C X W → PG X x (tG C t)
def CGs (C : CC) (xs : List Expr) (ts : List Tg) : Prop := ∀ X W, Fit C X W → PGs X xs (tGs C ts)
theorem bind_ok_iff {α β : Type} {r : R α} {k : α → S → R β} {b : β} {s : S} (h : r.bind k = .ok b s) : ∃ a s1, r = .ok a s1 ∧ k a s1 = .ok b s := by
  cases r with
  | ok a s1 => exact ⟨a, s1, rfl, h⟩
  | exc c as s1 => cases h
  | bad => cases h
theorem noX_ok {α : Type} {r : R α} {a : α} {s : S} (h : noX r = .ok a s) : r = .ok a s := by
  cases r with
  | ok a s1 => exact h
  | exc c as s1 => cases h
  | bad => cases h
theorem ofOpt_ok {α : Type} {o : Option (α × S)} {a : α} {s : S} (h : ofOpt o = .ok a s) : o = some (a, s) := by
  cases o with
  | none => cases h
  | some p => cases h; rfl
section
variable {C : CC} {x y z : Expr} {xs : List Expr} {e e1 e2 e3 : E} {pos : Pos} {k : Nat}
/-- an expression whose run is known -/
theorem tE_ok {W : WX} {σ : L2.St} {H : Hp} {ρ : List Addr} {env : Ev} {s : S} {d : D} {s1 : S} {Q : VK} (re : RE C.G ρ H env σ) (rp : Rep C.G ρ s H) (he : eval C.c e env s = .ok d s1)
    (q : ∀ ρ' v H', ρ <+: ρ' → KeepT H H' → Rep C.G ρ' s1 H' → RD C.G ρ' H' d v → Q v H') : tE C W e σ H Q := ⟨ρ, env, s, re, rp, by rw [he]; exact q⟩
theorem cg_nm {n : Str} {i : Nat} (hN : C.N[i]? = some n) (hs : Sto C n) : CG C (.Name n pos) (.nm i) := fun X W F =>
  PG.imp (pg_name (i := i) (by rw [F.N]; exact F.nd) (by rw [F.N]; exact hN) (hs.loc F) (hs.fn F)) fun v σ H Q ⟨ρ, env, s, d, env1, s1, re, rp, rd, hb, q⟩ => by
    rw [asgT] at hb
    cases hb
    exact q ρ _ H (List.prefix_refl _) (KeepT.refl _) rp (re.set i rd)
theorem cg_sub (h1 : CE C x e1) (h2 : CE C y e2) (ha : ∀ env v, assign (.Subscript x y pos) env v = (do
      let ov ← holding [v] (PySem.eval x env)
      let iv ← holding [v, ov] (PySem.eval y env)
      standAt pos
      holding [v, ov, iv] (setItem ov iv v)
      release [v, ov, iv] []) := by intro _ _; rfl) : CG C (.Subscript x y pos) (.sub e1 e2) := fun X W F =>
  PG.imp (pg_sub (h1 X W F) (h2 X W F) (set_any (by have := F.room.un; omega)) (ha _)) fun v σ H Q ⟨ρ, env, s, d, env1, s1, re, rp, rd, hb, q⟩ => by
    rw [asgT] at hb
    obtain ⟨dx, sa, hx, hb⟩ := bind_ok_iff hb
    obtain ⟨dy, sb, hy, hb⟩ := bind_ok_iff hb
    obtain ⟨dz, sc, hz, hb⟩ := bind_ok_iff hb
    cases hb
    refine tE_ok re rp (noX_ok hx) fun ρ1 vx H1 p1 k1 rp1 rd1 => tE_ok (re.mono p1 k1) rp1 (noX_ok hy) fun ρ2 vy H2 p2 k2 rp2 rd2 => ?_
    exact setI_of rp2 (rd1.mono p2 k2) rd2 ((rd.mono p1 k1).mono p2 k2) (ofOpt_ok hz) fun H3 k3 rp3 => q ρ2 σ H3 (p1.trans p2) ((k1.trans k2).trans k3) rp3 (((re.mono p1 k1).mono p2 k2).mono (List.prefix_refl _) k3)
theorem cgs_nil : CGs C [] [] := fun X W F => PGs.imp pgs_nil fun vs σ H Q ⟨ρ, env, s, l, env1, s1, re, rp, rd, hb, q⟩ => by
  rw [asgTs] at hb
  cases l with
  | nil =>
    cases hb
    exact ⟨rds_nil.mp rd, q ρ σ H (List.prefix_refl _) (KeepT.refl _) rp re⟩
  | cons a l => cases hb
theorem cgs_cons {t : Tg} {ts : List Tg} (h1 : CG C x t) (h2 : CGs C xs ts) (hs : ∀ env, (assignEach (x :: xs) env).map (·.2) = assign x env :: (assignEach xs env).map (·.2) := by intro _; rfl) : CGs C (x :: xs) (t :: ts) := fun X W F =>
  PGs.imp (pgs_cons (h1 X W F) (h2 X W F) (hs _)) fun vs σ H Q ⟨ρ, env, s, l, env1, s1, re, rp, rd, hb, q⟩ => by
    cases l with
    | nil => rw [asgTs] at hb; cases hb
    | cons d l =>
      rw [asgTs] at hb
      obtain ⟨v, r, rfl, r1, r2⟩ := rds_cons.mp rd
      obtain ⟨env2, s2, e1, e2⟩ := bind_ok_iff hb
      exact ⟨v, r, rfl, ρ, env, s, d, env2, s2, re, rp, r1, e1, fun ρ' σ' H' p k rp' re' => ⟨ρ', env2, s2, l, env1, s1, re', rp', r2.mono p k, e2, fun ρ2 σ2 H2 p2 k2 => q ρ2 σ2 H2 (p.trans p2) (k.trans k2)⟩⟩
theorem asgTs_len : ∀ {ts : List Tg} {l : List D} {env env1 : Ev} {s s1 : S}, asgTs C.c ts l env s = .ok env1 s1 → l.length = ts.length
  | [], l, env, env1, s, s1, h => by
    rw [asgTs] at h
    cases l with
    | nil => rfl
    | cons a l => cases h
  | t :: ts, [], env, env1, s, s1, h => by rw [asgTs] at h; cases h
  | t :: ts, d :: l, env, env1, s, s1, h => by
    rw [asgTs] at h
    obtain ⟨env2, s2, e1, e2⟩ := bind_ok_iff h
    rw [List.length_cons, List.length_cons, asgTs_len e2]
theorem cg_tp {ts : List Tg} (h : CGs C xs ts) (hn : ∀ env, (assignEach xs env).length = ts.length := by intro _; rfl) (hst : ∀ env, (assignEach xs env).findIdx? (·.1) = none := by intro _; rfl) : CG C (.Tuple xs k pos) (.tp ts) := fun X W F =>
  PG.imp (pg_tup (n := ts.length) F.calm (h X W F) (hn _) (hst _)) fun v σ H Q ⟨ρ, env, s, d, env1, s1, re, rp, rd, hb, q⟩ => by
    rw [F.K]
    cases d with
    | tup l =>
      have hb : asgTs C.c ts l env s = .ok env1 s1 := by rw [asgT] at hb; exact hb
      obtain ⟨a, ys, rfl, h1, h2⟩ := rd_tup.mp rd
      exact ⟨a, ys, rfl, SqT.of h1, by rw [← h2.len, asgTs_len hb], ρ, env, s, l, env1, s1, re, rp, h2, hb, q⟩
    | _ => rw [asgT] at hb <;> cases hb
/-! ### the statements -/
/-- behind an assignment's value -/
theorem flW_asg {W : WX} {t : Tg} {ρ : List Addr} {σ : L2.St} {H : Hp} {env : Ev} {s : S} {d : D} {v : V} {D' : Ends} (re : RE C.G ρ H env σ) (rp : Rep C.G ρ s H) (rd : RD C.G ρ H d v)
    (h : FlW C.G W (flR env (noX (asgT C.c t d env s)) fun env1 s2 => .nx env1 s2) ρ H D') : tG C t v σ H D'.nx := by
  cases hr : asgT C.c t d env s with
  | bad => rw [hr] at h; exact h.elim
  | exc c as s1 => rw [hr] at h; exact h.elim
  | ok env1 s1 =>
    rw [hr] at h
    exact ⟨ρ, env, s, d, env1, s1, re, rp, rd, hr, h⟩
theorem tAsg_of {W : WX} {t : Tg} {D' : Ends} {σ : L2.St} {H : Hp} (h : tS C W (.asg t e) D' σ H) : tAsg (tE C W e) (tG C t) D' σ H := by
  obtain ⟨ρ, env, s, re, rp, h⟩ := h
  rw [exec] at h
  exact ⟨ρ, env, s, re, rp, (FlW.of (rel := relD C.G) re h).mono (List.prefix_refl _) (KeepT.refl _) fun v H1 ⟨ρ1, d, s1, p, k, re1, rp1, rd, q⟩ => flW_asg re1 rp1 rd q⟩
/-- no stores by turns -/
def NoSw (C : CC) (ts : List Expr) (v : Expr) : Prop := ∀ env : Env, env.scope = C.sc → swappedStores ts v env = pure none
theorem cs_asg {t : Tg} (he : CE C y e) (hg : CG C x t) (hs : ∀ env, swapsWithSole [x] y pos.line env = pure false := by intro _; rfl) (hw : NoSw C [x] y := by first | (intro _ _; rfl) | (intro env h; cases env; cases h; rfl)) (h1 : ∀ env, (assignEach [x] env).map (·.2) = [assign x env] := by intro _; rfl) : CS C (.Assign [x] y pos) (.asg t e) := fun X W F =>
  PS.imp (ps_asg (he X W F) (hg X W F) (hs _) (hw _ F.sc) (h1 _)) fun D σ H h => tAsg_of h
/-- name = [..] on one line -/
theorem cs_setLc {tg iter elt : Expr} {n : Str} {py lp : Pos} {i : Nat} {q : E} {kk : IK} {es : List E} {t : T} {ifs : List Expr} {scope : Scope} {own : List (Str × Nat)} (hN : C.N[i]? = some n) (hl : C.sc.names.lookup n = some .local) (hi : CI C tg iter kk es) (ok : BlkOk C.N C.sc scope own)
    (hg : CGt (C.blk scope) tg t) (hq : CFs (C.blk scope) ifs q) (he : CE (C.blk scope) elt e) (hv : ∀ i ∈ ixs t, i ∈ own.map (·.2)) (hy : (py.line == lp.line) = true) (ha : (scope.names.any fun (m, k) => m == n && (k == .local || k == .cell)) = false) (hs : ∀ env x, foldedSetIterable iter env x = pure x := by intro _ _; rfl) :
    CS C (.Assign [.Name n py] (.ListComp elt [⟨tg, iter, ifs, 0⟩] scope lp) pos) (.asg (.nm i) (.comp kk es t q e (own.map (·.2)))) := fun X W F => by
  have hk : scope.kind = .function := ok.kind
  have hnl : X.env.scope.names.lookup n = some .local := by rw [F.sc]; exact hl
  refine PS.imp (ps_setLc (i := i) F.calm (by rw [F.N]; exact F.nd) (by rw [F.N]; exact hN) hnl (sw_true (by rw [F.sc]; exact F.kind) hnl hy ha) (hi X W F) (by rw [F.N, F.sc]; exact ok) (fun s H Ca cl fp => hg _ _ (fit_blk F hk s H Ca cl fp)) (fun s H Ca cl fp => hq _ _ (fit_blk F hk s H Ca cl fp)) (fun s H Ca cl fp => he _ _ (fit_blk F hk s H Ca cl fp)) (hs _)) fun D σ H h => ?_
  have h := tAsg_of h
  refine tE_lc scope hv ?_
  obtain ⟨ρ, env, s, re, rp, h⟩ := h
  refine ⟨ρ, env, s, re, rp, h.mono (List.prefix_refl _) (KeepT.refl _) fun v H1 ⟨ρ1, env1, s1, d, env2, s2, re1, rp1, rd, hb, q⟩ => ?_⟩
  rw [asgT] at hb
  cases hb
  exact q ρ1 _ H1 (List.prefix_refl _) (KeepT.refl _) rp1 (re1.set i rd)
/-- a, b = x, y -/
theorem tA_par {W : WX} {is : List Nat} {es : List E} {D' : Ends} {σ : L2.St} {H : Hp} (h : tS C W (.par is es) D' σ H) : tA C W es σ H fun vs H1 => ∃ ρ1 env ds s1 env1, RE C.G ρ1 H1 env σ ∧ Rep C.G ρ1 s1 H1 ∧ RDs C.G ρ1 H1 ds vs ∧ setAll is ds env = some env1 ∧ ∀ σ1, RE C.G ρ1 H1 env1 σ1 → D'.nx σ1 H1 := by
  obtain ⟨ρ, env, s, re, rp, h⟩ := h
  rw [exec] at h
  refine ⟨ρ, env, s, re, rp, (FlW.of (rel := relL C.G) re h).mono (List.prefix_refl _) (KeepT.refl _) fun v H1 ⟨ρ1, d, s1, p, k, re1, rp1, rd, q⟩ => ?_⟩
  cases hs : setAll is d env with
  | none => rw [hs] at q; exact q.elim
  | some env1 =>
    rw [hs] at q
    exact ⟨ρ1, env, d, s1, env1, re1, rp1, rd, hs, fun σ1 r => FlW.here rp1 r q⟩
theorem cs_par2 {n m : Str} {i j : Nat} {es : List E} {px py pt pt2 : Pos} {kt k2 : Nat} (hi : C.N[i]? = some n) (hj : C.N[j]? = some m) (hij : i ≠ j) (hx : C.sc.names.lookup n = some .local) (hy : C.sc.names.lookup m = some .local) (ha : CA C [x, y] es)
    (hw : ∀ env : Env, env.scope = C.sc → swappedStores [.Tuple [.Name n px, .Name m py] kt pt] (.Tuple [x, y] k2 pt2) env = pure (some [n, m])) (hs : ∀ env, swapsWithSole [.Tuple [.Name n px, .Name m py] kt pt] (.Tuple [x, y] k2 pt2) pos.line env = pure false := by intro _; rfl) :
    CS C (.Assign [.Tuple [.Name n px, .Name m py] kt pt] (.Tuple [x, y] k2 pt2) pos) (.par [i, j] es) := fun X W F =>
  PS.imp (ps_par (i := i) (j := j) F.calm (by rw [F.N]; exact F.nd) (by rw [F.N]; exact hi) (by rw [F.N]; exact hj) hij (by rw [F.sc]; exact hx) (by rw [F.sc]; exact hy) (ha X W F) (hw _ F.sc) (hs _)) fun D σ H h => by
    obtain ⟨a, b, c, d, f, g⟩ := tA_par h
    refine ⟨a, b, c, d, f, g.mono (List.prefix_refl _) (KeepT.refl _) fun vs H1 ⟨ρ1, env, ds, s1, env1, re, rp, rd, hs, q⟩ => ?_⟩
    rcases ds with _ | ⟨a, _ | ⟨b, _ | ⟨c, l⟩⟩⟩
    · cases hs
    · cases hs
    · obtain ⟨v, r, rfl, h1, h2⟩ := rds_cons.mp rd
      obtain ⟨w, r, rfl, h3, h4⟩ := rds_cons.mp h2
      cases rds_nil.mp h4
      cases hs
      exact ⟨v, w, rfl, q _ ((re.set i h1).set j h3)⟩
    · cases hs
theorem cs_par3 {n m o : Str} {i j l : Nat} {es : List E} {px py pz pt pt2 : Pos} {kt k2 : Nat} (hi : C.N[i]? = some n) (hj : C.N[j]? = some m) (hl : C.N[l]? = some o) (hij : i ≠ j) (hil : i ≠ l) (hjl : j ≠ l) (hx : C.sc.names.lookup n = some .local) (hy : C.sc.names.lookup m = some .local) (hz : C.sc.names.lookup o = some .local) (ha : CA C [x, y, z] es)
    (hw : ∀ env : Env, env.scope = C.sc → swappedStores [.Tuple [.Name n px, .Name m py, .Name o pz] kt pt] (.Tuple [x, y, z] k2 pt2) env = pure (some [n, m, o])) (hs : ∀ env, swapsWithSole [.Tuple [.Name n px, .Name m py, .Name o pz] kt pt] (.Tuple [x, y, z] k2 pt2) pos.line env = pure false := by intro _; rfl) :
    CS C (.Assign [.Tuple [.Name n px, .Name m py, .Name o pz] kt pt] (.Tuple [x, y, z] k2 pt2) pos) (.par [i, j, l] es) := fun X W F =>
  PS.imp (ps_par3 (i := i) (j := j) (l := l) F.calm (by rw [F.N]; exact F.nd) (by rw [F.N]; exact hi) (by rw [F.N]; exact hj) (by rw [F.N]; exact hl) hij hil hjl (by rw [F.sc]; exact hx) (by rw [F.sc]; exact hy) (by rw [F.sc]; exact hz) (ha X W F) (hw _ F.sc) (hs _)) fun D σ H h => by
    obtain ⟨a, b, c, d, f, g⟩ := tA_par h
    refine ⟨a, b, c, d, f, g.mono (List.prefix_refl _) (KeepT.refl _) fun vs H1 ⟨ρ1, env, ds, s1, env1, re, rp, rd, hs, q⟩ => ?_⟩
    rcases ds with _ | ⟨a, _ | ⟨b, _ | ⟨c, _ | ⟨d, l⟩⟩⟩⟩
    · cases hs
    · cases hs
    · cases hs
    · obtain ⟨v, r, rfl, h1, h2⟩ := rds_cons.mp rd
      obtain ⟨w, r, rfl, h3, h4⟩ := rds_cons.mp h2
      obtain ⟨u, r, rfl, h5, h6⟩ := rds_cons.mp h4
      cases rds_nil.mp h6
      cases hs
      exact ⟨v, w, u, rfl, q _ (((re.set i h1).set j h3).set l h5)⟩
    · cases hs
end
end Mini
set_option Elab.async false
set_option linter.all false
set_option maxRecDepth 100000
set_option maxHeartbeats 1000000
/-! Mini 17: defs, calls, the law. -/
namespace Mini
open PySem L2 PyProof.Rows

/-- a def as data: slots, parameters, body -/
structure Def where
  n : Nat
  np : Nat
  body : List St
/-- calls, at most so deep -/
def callN (tbl : List Def) (fuel : Nat) : Nat → Nat → List D → S → R D
  | 0, _, _, _ => .bad
  | k + 1, i, ds, s => match tbl[i]? with
    | none => .bad
    | some d => if ds.length = d.np then match execs ⟨callN tbl fuel k, fuel⟩ d.body (ds.map some ++ List.replicate (d.n - d.np) none) s with
        | .nx _ s1 => .ok .non s1
        | .rt v s1 => .ok v s1
        | .ex c as _ s1 => .exc c as s1
        | _ => .bad
      else .bad
/-- what is fixed for the i-th def's body -/
def bodyC (G : Gx) (P : Program) (w : World) (mg : Str → Option Value) (base : Heap) (fns : List FnI) (c : Cfg) (N : List Str) (st : Stmt) (k : Nat) : CC :=
  { G := G, P := P, w := w, mg := mg, base := base, fns := fns, c := c, N := N, sc := defScope st, stc := fun _ => true, k := k }
/-- the i-th def of the text is that of the table -/
structure DefOk (G : Gx) (P : Program) (w : World) (mg : Str → Option Value) (base : Heap) (fns : List FnI) (tbl : List Def) (i : Nat) (fi : FnI) : Prop where
  ex : ∃ (f : Addr) (fd : FuncData) (qual : Str) (st : Stmt) (N : List Str) (body : List St), mg fi.name = some (.ref f) ∧ Fun G.K fi.name qual st f fd ∧ Binds G.K fd fi.ps [] ∧ FnScope N fi.ps (defScope st) ∧ tbl[i]? = some ⟨N.length, fi.ps.length, body⟩ ∧
    ∀ c k, CSs (bodyC G P w mg base fns c N st k) (defBody st) body
theorem re_start {G : Gx} {ρ : List Addr} {H : Hp} {N : List Str} {ds : List D} {vs : List V} (r : RDs G ρ H ds vs) : RE G ρ H (ds.map some ++ List.replicate (N.length - ds.length) none) (L2.start N vs) := by
  unfold L2.start
  rw [← r.len]
  refine ⟨by simp [r.len], fun i d h => ?_⟩
  by_cases hi : i < ds.length
  · rw [List.getElem?_append_left (by rw [List.length_map]; exact hi), List.getElem?_map] at h
    obtain ⟨d', hd, e⟩ := Option.map_eq_some_iff.mp h
    cases e
    obtain ⟨v, hv, rv⟩ := r.get hd
    exact ⟨v, by rw [List.getElem?_append_left (by rw [List.length_map, ← r.len]; exact hi), List.getElem?_map, hv]; rfl, rv⟩
  · rw [List.getElem?_append_right (by rw [List.length_map]; omega), List.getElem?_replicate] at h
    split at h <;> cases h
/-- one def, where all are right one step down -/
theorem fn_step {G : Gx} {P : Program} {w : World} {mg : Str → Option Value} {base : Heap} {fns : List FnI} {tbl : List Def} {fuel k i : Nat} {fi : FnI} {f : Addr} {fd : FuncData} {qual : Str} {st : Stmt} {N : List Str} {body : List St}
    (ih : ∀ (i : Nat) (fi : FnI), fns[i]? = some fi → ∃ f fd, mg fi.name = some (.ref f) ∧ PySem.W.keepIn G.K (.ref f) = true ∧ Binds G.K fd fi.ps [] ∧ FnOk P w G.K mg base (L2.CX P w) k f fd fi.ps (spF G ⟨callN tbl fuel k, fuel⟩ i))
    (h2 : Fun G.K fi.name qual st f fd) (h4 : FnScope N fi.ps (defScope st)) (h5 : tbl[i]? = some ⟨N.length, fi.ps.length, body⟩) (h6 : ∀ c k, CSs (bodyC G P w mg base fns c N st k) (defBody st) body) :
    FnOk P w G.K mg base (L2.CX P w) (k + 1) f fd fi.ps (spF G ⟨callN tbl fuel (k + 1), fuel⟩ i) := by
  have hpl : fi.ps.length ≤ N.length := by
    have := congrArg List.length h4.pre
    rw [List.length_take] at this
    omega
  have len : ∀ vs H Q E, spF G ⟨callN tbl fuel (k + 1), fuel⟩ i vs H Q E → vs.length = fi.ps.length := fun vs H Q E ⟨ρ, ds, s, rd, _, z⟩ => by
    have z : WpR G (relD G) E (callN tbl fuel (k + 1) i ds s) ρ H Q := z
    rw [callN, h5] at z
    dsimp only at z
    by_cases hl : ds.length = fi.ps.length
    · rw [← rd.len]
      exact hl
    · rw [if_neg hl] at z
      exact z.elim
  refine h2.okX h4 len fun cdv A outer s H vs Q E hr hsp => ?_
  obtain ⟨ρ, ds, s0, rd, rp, z⟩ := hsp
  have z : WpR G (relD G) E (callN tbl fuel (k + 1) i ds s0) ρ H Q := z
  rw [callN, h5] at z
  dsimp only at z
  by_cases hl : ds.length = fi.ps.length
  · rw [if_pos hl] at z
    have F : Fit (bodyC G P w mg base fns ⟨callN tbl fuel k, fuel⟩ N st k) (cxOf (L2.CX P w) P w G.K mg base N qual (defScope st) f cdv A outer s H E) (fun cls d _ H' => E cls d H') := {
      P := rfl, w := rfl, K := rfl, mg := rfl, base := rfl, N := rfl, nd := h4.nd, sc := rfl, fnt := fun _ _ => rfl, kind := h4.kind, calm := rfl, room := hr
      tk := takes_of rfl rfl rfl rfl
      po := passes_of rfl
      fn := ih }
    refine ⟨_, h6 ⟨callN tbl fuel k, fuel⟩ k _ _ F, ρ, _, s0, re_start (N := N) rd, rp, ?_⟩
    rw [hl]
    show FlW G _ (execs ⟨callN tbl fuel k, fuel⟩ body (ds.map some ++ List.replicate (N.length - fi.ps.length) none) s0) ρ H _
    cases hx : execs ⟨callN tbl fuel k, fuel⟩ body (ds.map some ++ List.replicate (N.length - fi.ps.length) none) s0 with
    | nx env s1 => rw [hx] at z; exact fun ρ' σ' H' p kt rp' re' => z ρ' .non H' p kt rp' (rd_non.mpr rfl)
    | rt v s1 => rw [hx] at z; exact z
    | ex c as env s1 => rw [hx] at z; exact fun ρ' H' cls d σ' p kt rp' rx _ => z ρ' H' cls d p kt rp' rx
    | bk env s1 => rw [hx] at z; exact z.elim
    | ct env s1 => rw [hx] at z; exact z.elim
    | bad => rw [hx] at z; exact z.elim
  · rw [if_neg hl] at z
    exact z.elim
theorem fns_ok {G : Gx} {P : Program} {w : World} {mg : Str → Option Value} {base : Heap} {fns : List FnI} {tbl : List Def} {fuel : Nat} (hd : ∀ i fi, fns[i]? = some fi → DefOk G P w mg base fns tbl i fi) :
    ∀ (k i : Nat) (fi : FnI), fns[i]? = some fi → ∃ f fd, mg fi.name = some (.ref f) ∧ PySem.W.keepIn G.K (.ref f) = true ∧ Binds G.K fd fi.ps [] ∧ FnOk P w G.K mg base (L2.CX P w) k f fd fi.ps (spF G ⟨callN tbl fuel k, fuel⟩ i)
  | 0, i, fi, h => by
    obtain ⟨f, fd, qual, st, N, body, h1, h2, h3, h4, h5, h6⟩ := (hd i fi h).ex
    exact ⟨f, fd, h1, h2.kp, h3, fun vs H Q E ⟨ρ, ds, s, _, _, z⟩ => z.elim, fun A outer s H args us vs Q E _ _ _ _ ⟨ρ, ds, s', _, _, z⟩ => z.elim⟩
  | k + 1, i, fi, h => by
    obtain ⟨f, fd, qual, st, N, body, h1, h2, h3, h4, h5, h6⟩ := (hd i fi h).ex
    exact ⟨f, fd, h1, h2.kp, h3, fn_step (fns_ok hd k) h2 h4 h5 h6⟩
/-- the script's list -/
theorem frz_of {K : PySem.W.Frag} {H : Hp} {a : Addr} {xs : List V} (h : Only H) (q : SqL K H a xs) : Frz K H a xs := by
  rcases q with (q | ⟨o, q⟩) | q
  · rcases h a with z | ⟨o, ys, z⟩
    · rw [z] at q; cases q
    · rw [z] at q; cases q
  · exact .inl ⟨o, q⟩
  · exact .inr (.inr q)
/-- nothing lies in the heap but what is known to all -/
theorem rep_nil {G : Gx} {H : Hp} : Rep G [] [] H := ⟨rfl, List.nodup_nil, fun n o a h => by cases h⟩
/-- the law's promise -/
theorem law_sp {G : Gx} {c : Cfg} {i : Nat} {H : Hp} {a : Addr} {ns : List Int} (h : ∃ s, c.call i [.frz (ns.map D.int)] [] = .ok (.bl true) s) (ho : Only H) (hq : SqL G.K H a (ns.map V.int)) : spF G c i [.ref a] H (fun v _ => v = .bl true) fun _ _ _ => False := by
  obtain ⟨s, h⟩ := h
  have hf := frz_of ho hq
  refine ⟨[], [.frz (ns.map D.int)], [], RDs.one (rd_frz.mpr ⟨a, _, rfl, hf, rds_ints'⟩), rep_nil, ?_⟩
  rw [h]
  exact fun ρ' v H' _ _ _ r => rd_bl.mp r
/-- no exception leaves the law -/
theorem cx_no {P : Program} {w : World} {H : Hp} {s s' : Shared} {e : Value} (h : L2.CX P w [] H s (fun _ _ _ => False) e s') : False := by
  obtain ⟨_, _, _, _, _, _, _, _, _, _, _, _, z⟩ := h
  exact z
end Mini
set_option Elab.async false
set_option linter.all false
set_option maxRecDepth 100000
set_option maxHeartbeats 1000000
/-! Mini 18: enumerate of a tuple. -/
namespace Mini
open PySem L2 PyProof.Rows PySem.Spec

theorem enum_meets1 {v : Value} {o : Obj} {Hb : Heap → Prop} (B : Begins v o Hb) :
    Meets (Builtin.«enumerate.__new__» ⟨[.type "enumerate", v], []⟩) (fun _ R s => Hb s.heap ∧
      R (.ok (.ret (.ref (s.heap.push o).objs.size))) { s with heap := (s.heap.push o).push { cls := .type "enumerate", data := .fields #[.none, .bool false, .ref s.heap.objs.size, rawInt 0, .none, .none] } }) :=
  .of_wp fun prog w A R s hyp => by
    obtain ⟨hp, gs, dr, tk, ops⟩ := s
    obtain ⟨there, goal⟩ := hyp
    have hsub := sub_enumerate
    have begun : ∀ {A' : Around} {E : Value → Shared → Prop} {Q : Value → Shared → Prop}, Q (.ref hp.objs.size) ⟨hp.push o, gs, dr, tk, ops⟩ → wpAny (model prog w) A' (pyIter v) Q E ⟨hp, gs, dr, tk, ops⟩ := fun q => B.iter prog w _ _ ⟨hp, gs, dr, tk, ops⟩ _ there q
    wp_walk using begun
    refine wpAny_stack_any fun stk => wpAny_pure ?_
    split
    · rename_i c _ _ _ _ _
      cases (c == Value.type "enumerate") <;> (wp_walk using begun; exact ⟨_, rfl, goal⟩)
    · wp_walk using begun
      exact ⟨_, rfl, goal⟩
section
variable {prog : Program} {w : World} {A : Around} {E : Value → Shared → Prop} {s : Shared}
theorem enum_call1 {v : Value} {o : Obj} {Hb : Heap → Prop} {Q : Value → Shared → Prop} (B : Begins v o Hb) (there : Hb s.heap)
    (q : ∀ h2, IsEnum h2 (s.heap.objs.size + 1) s.heap.objs.size 0 .none → h2.get? s.heap.objs.size = some o → (∀ b u, s.heap.get? b = some u → h2.get? b = some u) → Q (.ref (s.heap.objs.size + 1)) { s with heap := h2 }) :
    wpAny (model prog w) A (call (.type "enumerate") [v]) Q E s := by
  refine callType_new F.called_enumerate (by decide) (F.typeCall_enumerate_1 _) (F.newCall_enumerate_1 _) (fun obj => F.args_object_init_2 obj _) F.entry_enumerate_new (enum_meets1 B) ⟨there, ?_⟩
  have sz : (s.heap.push o).objs.size = s.heap.objs.size + 1 := Heap.size_push ..
  show _ ∧ _
  rw [sz]
  have rcd : IsEnum ((s.heap.push o).push { cls := .type "enumerate", data := .fields #[.none, .bool false, .ref s.heap.objs.size, rawInt 0, .none, .none] }) (s.heap.objs.size + 1) s.heap.objs.size 0 .none := by
    have z := Heap.get?_push_size (s.heap.push o) (o := { cls := .type "enumerate", data := .fields #[.none, .bool false, .ref s.heap.objs.size, rawInt 0, .none, .none] }) rfl
    rw [sz] at z
    exact z
  exact ⟨⟨_, rcd, rfl⟩, q _ rcd (Heap.get?_push_of_some _ (Heap.get?_push_size _ B.free)) fun b u x => Heap.get?_push_of_some _ (Heap.get?_push_of_some _ x)⟩
end
/-- the tuple at t, each item in a new pair -/
def IteT (K : PySem.W.Frag) (t : Addr) (n : Nat) : L2.It :=
  ⟨fun i H => ∃ (xs : List V) (x : V), SqT K H t xs ∧ xs.length = n ∧ xs[i]? = some x, fun i H v H1 => ∃ T x, v = .ref T ∧ H T = none ∧ H1 = upd H T (.tup [.int (i : Nat), x]) ∧ ∀ xs, SqT K H t xs → xs[i]? = some x, fun i H => ∃ xs : List V, SqT K H t xs ∧ xs.length = n ∧ n ≤ i⟩
theorem turn_enumT {P : Program} {w : World} {K : PySem.W.Frag} {elts : List Expr} {kk : Nat} {tpos : Pos} (t e it : Addr) (n : Nat) :
    Turn P w K (.Tuple elts kk tpos) (IteT K t n) [e, it] e (fun i h => (∃ old, IsEnum h e it ((i : Nat) : Int) old) ∧ h.IsTupleIter it t i ∧ e ≠ it ∧ t ≠ it ∧ i ≤ n) where
  mem := by simp
  obj := fun i h st b hb => by
    obtain ⟨⟨old, he⟩, ⟨o, ho, hc, hd⟩, _⟩ := st
    rcases (show b = e ∨ b = it by simpa using hb) with z | z
    · subst z
      exact ⟨_, he, fun v q => nomatch q⟩
    · subst z
      exact ⟨o, ho, fun v q => by rw [hd] at q; cases q⟩
  keep := fun i h h2 st k => by
    obtain ⟨⟨old, he⟩, hi, n1, n2, n3⟩ := st
    exact ⟨⟨old, k e (by simp) _ he⟩, hi.at fun o q => k it (by simp) o q, n1, n2, n3⟩
  item := by
    intro X eP ew eK hc i pins s σ H E I hf st hg
    subst eP ew eK
    obtain ⟨⟨old, he⟩, hit, hne, hti, hin⟩ := st
    obtain ⟨xs, x, hq, hln, hx⟩ := hg
    obtain ⟨its, rv, pl, hz⟩ := I.tuple hq
    obtain ⟨u, hu, ru⟩ := rv.get hx
    have hel : e < s.heap.objs.size := Heap.lt_size he
    have hil : it < s.heap.objs.size := by
      obtain ⟨_, q, _⟩ := hit
      exact Heap.lt_size q
    have hlt : i < its.toArray.size := by
      have := (List.getElem?_eq_some_iff.mp hu).1
      simpa using this
    have het : e ≠ t := fun z => by
      subst z
      obtain ⟨o, q, c, _⟩ := pl
      rw [he] at q
      cases q
      exact absurd (Value.type.inj c) (by decide)
    have D := Draws.tuple (prog := X.prog) (w := X.w) (A := X.A.in1) (show X.A.in1.handled = none from I.ok.hd hc) it t hti its.toArray
    refine wpAny_pyNext_enum_itemC D he ⟨hit, pl⟩ hlt hne (by simp only [List.mem_cons, List.not_mem_nil, or_false, not_or]; exact ⟨hne, het⟩) fun y h1 tk hy out st1 hT hsz hk => ?_
    refine ⟨_, rfl, wpAny_letOwnedTupleGo_enum (s := { s with heap := h1, toks := tk + 1 }) out fun h2 he2 sb => ?_⟩
    have eyu : y = u := by
      have hy : its.toArray[i]? = some y := hy
      rw [show its.toArray[i]? = its[i]? by simp, hu] at hy
      exact (Option.some.inj hy).symm
    subst eyu
    have hT2 : h2.get? s.heap.objs.size = some { cls := .type "tuple", data := .seq #[.int i tk, y] } := (sb.2 _ (Nat.ne_of_gt hel)).trans hT
    have nu : ObjOk X.prog X.w (upd H s.heap.objs.size (.tup [.int (i : Nat), x])) h2 s.heap.objs.size (.tup [.int (i : Nat), x]) :=
      ⟨by show 2 ≤ sizeLine; decide, [.int i tk, y], .cons ⟨_, rfl⟩ (.cons ru .nil), ⟨_, hT2, rfl, _, rfl⟩⟩
    have I1 : Inv X pins σ (upd H s.heap.objs.size (.tup [.int (i : Nat), x])) { s with heap := h2, toks := tk + 1 } :=
      I.turnedNew (ch := [e, it]) (fun b ob hb q => (sb.2 b (fun z => hb (by simp [z]))).trans (hk b ob (fun z => hb (by simp [z])) (fun z => hb (by simp [z])) q)) hf (Nat.le_refl _) nu
    refine ⟨.ref s.heap.objs.size, _, I1, rfl, ⟨_, x, rfl, I.hok.fresh (Nat.le_refl _), rfl, fun ys hy => by rw [I.tuple_inj hy hq]; exact hx⟩, ⟨⟨y, ?_⟩, st1.1.at fun o q => (sb.2 it (Ne.symm hne)).trans q, hne, hti, by have := (List.getElem?_eq_some_iff.mp hx).1; omega⟩, fun b hb => ?_⟩
    · rw [show ((i + 1 : Nat) : Int) = (i : Int) + 1 by omega]
      exact he2
    · have lt : b < s.heap.objs.size := by
        rcases (show b = e ∨ b = it by simpa using hb) with z | z
        · subst z; exact hel
        · subst z; exact hil
      rw [upd_ne (Nat.ne_of_lt lt)]
      exact (hf b hb).1
  done := by
    intro X eP ew eK hc i pins s σ H E I hf st hg
    subst eP ew eK
    obtain ⟨⟨old, he⟩, hit, hne, hti, hin⟩ := st
    obtain ⟨xs, hq, hln, hx⟩ := hg
    obtain ⟨its, rv, pl, hz⟩ := I.tuple hq
    obtain ⟨f0, f1, f2, f3, f4, f5⟩ := hf it (by simp)
    have D := Draws.tuple (prog := X.prog) (w := X.w) (A := X.A.in1) (show X.A.in1.handled = none from I.ok.hd hc) it t hti its.toArray
    have ei : i = its.toArray.size := by
      have := rv.length
      simp only [List.size_toArray]
      omega
    refine wpAny_pyNext_enum_endD D he (by rw [← ei]; exact ⟨hit, pl⟩) fun h2 eb => ⟨rfl, I.turned (t' := s.toks) (fun b o hb q => eb b o hb q) f0 f1 f3 f4 f5⟩
  self := fun A i s Q E st h => by
    obtain ⟨⟨_, he⟩, _⟩ := st
    exact wpAny_pyIter_enum he h
theorem tup_ne {h : Heap} {t it : Addr} {its : Array Value} {i : Nat} (a : IsTup h t its) (b : h.IsTupleIter it t i) : t ≠ it := fun z => by
  subst z
  obtain ⟨o, q, c, _⟩ := a
  obtain ⟨o2, q2, c2, _⟩ := b
  rw [q] at q2
  cases q2
  rw [c] at c2
  exact absurd (Value.type.inj c2) (by decide)
/-- enumerate(x), a list or a tuple -/
def rEnu (K : PySem.W.Frag) : List V → Hp → (L2.It → Hp → Prop) → Prop := fun vs H1 R => ∃ (a : Addr) (xs : List V), vs = [V.ref a] ∧ ((SqL K H1 a xs ∧ R (Ite K a) H1) ∨ (SqT K H1 a xs ∧ R (IteT K a xs.length) H1))
theorem pi_enuA {X : Cx} {e : Expr} {ta : TA} {p pos tpos : Pos} {elts : List Expr} {kk : Nat} (hg : Gl X "enumerate") (hm : X.mg "enumerate" = none) (ha : PA X [e] ta) (hs : starEach [e] X.env = [(false, PySem.eval e X.env)]) :
    PI X (.Tuple elts kk tpos) (.Call (.Name "enumerate" p) [e] [] pos) (fun σ H R => ta σ H fun vs H1 => rEnu X.K vs H1 R) := by
  refine ⟨fun pins s σ H R I h => Call_ (ld_blt I hg hm boot_enumerate (PyProof.Rows.callWith_type1 (thn (ha.run pos pins s σ H _ I h) fun us s1 ⟨vs, H1, I1, r1, q1⟩ => ?_) hs rfl))⟩
  obtain ⟨a, xs, ev, q⟩ := q1
  subst ev
  rw [Vals.ref1 r1]
  have fresh : ∀ b ∈ [s1.heap.objs.size + 1, s1.heap.objs.size], FpOk X pins H1 b := fun b hb => by
    have le : s1.heap.objs.size ≤ b := by
      rcases (show b = s1.heap.objs.size + 1 ∨ b = s1.heap.objs.size by simpa using hb) with z | z <;> omega
    exact I1.fpOk le (I1.hok.fresh le)
  rcases q with ⟨hq, q⟩ | ⟨hq, q⟩
  · obtain ⟨its, rv, pl, hz⟩ := I1.list hq
    refine enum_call1 (begins_list a its.toArray) pl.isList fun h2 he hit hk => wpAny_pyIter_enum he ?_
    exact ⟨s1.heap.objs.size + 1, [s1.heap.objs.size + 1, s1.heap.objs.size], _, _, H1, rfl, I1.kept (t' := s1.toks) hk, turn_enum a (s1.heap.objs.size + 1) s1.heap.objs.size, ⟨⟨.none, he⟩, ⟨_, hit, rfl, rfl⟩, Nat.succ_ne_self _⟩, fresh, q⟩
  · obtain ⟨its, rv, pl, hz⟩ := I1.tuple hq
    have hlt : a < s1.heap.objs.size := by
      obtain ⟨o, ho, _⟩ := id pl
      exact Heap.lt_size ho
    refine enum_call1 (begins_tuple a its.toArray) pl fun h2 he hit hk => wpAny_pyIter_enum he ?_
    exact ⟨s1.heap.objs.size + 1, [s1.heap.objs.size + 1, s1.heap.objs.size], _, _, H1, rfl, I1.kept (t' := s1.toks) hk, turn_enumT a (s1.heap.objs.size + 1) s1.heap.objs.size xs.length, ⟨⟨.none, he⟩, ⟨_, hit, rfl, rfl⟩, Nat.succ_ne_self _, Nat.ne_of_lt hlt, Nat.zero_le _⟩, fresh, q⟩
theorem itok_enuT {G : Gx} {ρ : List Addr} {H : Hp} {l : List D} {a : Addr} {xs : List V} (ha : H a = some (.tup xs)) (r : RDs G ρ H l xs) : ItOk G ρ H (.fix (enuD 0 l)) (IteT G.K a xs.length) := fun ρ1 H1 s i p k rp => by
  have ha1 := k.1 _ _ ha
  have r1 := r.mono p k
  have e : (enuD 0 l)[i]? = (l[i]?).map fun d => D.tup [.int (i : Int), d] := by
    rw [enuD_get]
    simp
  refine ⟨fun h => ?_, fun d h => ?_⟩
  · have h := fix_at h
    rw [e, Option.map_eq_none_iff] at h
    exact ⟨xs, SqT.of ha1, rfl, by rw [← r1.len]; exact List.getElem?_eq_none_iff.mp h⟩
  · have h := fix_at h
    rw [e] at h
    obtain ⟨w, hw, rfl⟩ := Option.map_eq_some_iff.mp h
    obtain ⟨x, hx, rx⟩ := r1.get hw
    refine ⟨⟨xs, x, SqT.of ha1, rfl, hx⟩, fun v H' y => ?_⟩
    obtain ⟨T, x', rfl, hT, rfl, y⟩ := y
    have := y xs (SqT.of ha1)
    rw [hx] at this
    cases this
    have kt : KeepT H1 (upd H1 T (.tup [.int (i : Nat), x])) := KeepT.new hT
    exact ⟨kt, rp.new hT, rd_tup.mpr ⟨T, _, rfl, upd_same, rds_cc.mpr ⟨rd_int.mpr rfl, RDs.one (rx.mono (List.prefix_refl _) kt)⟩⟩⟩
section
variable {C : CC} {x : Expr} {pos ps : Pos}
theorem ci_enu {es : List E} {elts : List Expr} {kk : Nat} {tpos : Pos} (b : Bn C "enumerate") (h : CA C [x] es) (n1 : ∀ env, starEach [x] env = [(false, PySem.eval x env)] := by intro _; rfl) :
    CI C (.Tuple elts kk tpos) (.Call (.Name "enumerate" ps) [x] [] pos) .enu es := fun X W F =>
  PI.imp (pi_enuA (b.gl F) (b.mg F) (h X W F) (n1 _)) fun σ H Q hw => by
    rw [F.K]
    refine tI_all (r := rEnu C.G.K) ?_ hw
    intro ρ H s ds xs it Q rp rx hm q
    rcases ds with _ | ⟨u, _ | ⟨w, l⟩⟩
    · cases hm
    · obtain ⟨x, r, rfl, h1, h2⟩ := rds_cons.mp rx
      cases rds_nil.mp h2
      cases u with
      | tup l =>
        cases hm
        obtain ⟨a, xs, rfl, g1, g2⟩ := rd_tup.mp h1
        exact ⟨a, xs, rfl, .inr ⟨SqT.of g1, q _ (itok_enuT g1 g2)⟩⟩
      | ref n =>
        obtain ⟨l, ho, hm⟩ := lst_of (f := fun _ => some (It.enu n)) hm
        cases hm
        obtain ⟨a, xs, rfl, ha, h1, h2⟩ := rd_lst rp h1 ho
        exact ⟨a, xs, rfl, .inl ⟨SqL.of h1, q _ (itok_enu ha)⟩⟩
      | _ => cases hm
    · cases u <;> cases hm
end
end Mini
set_option Elab.async false
set_option linter.all false
set_option maxRecDepth 100000
set_option maxHeartbeats 1000000
/-! Mini 19: list(reversed(tuple)). -/
namespace Mini
open PySem L2 PyProof.Rows PySem.Spec RT

theorem lrv_nolen : typeLookup (.type "reversed") "__len__" = pure none := by rw [typeLookup_type, builtinLookup_eq_fast]; kernel_rfl
theorem lrv_slot : Slot "reversed" "__length_hint__" "reversed.__length_hint__" :=
  .of (owner := "reversed") (n := "__length_hint__") (by rw [typeLookup_type, builtinLookup_eq_fast]; kernel_rfl) (by decide +kernel) (by decide +kernel) (by decide +kernel)
    (by first | exact .inl (by decide +kernel) | exact .inr (by decide +kernel)) (by rw [isSubtype_type]; kernel_rfl)
theorem lrv_args (a : Value) : argsOk "reversed.__length_hint__" ⟨[a], []⟩ := by
  unfold argsOk
  rw [signature?_of (id := "reversed.__length_hint__") (n := ['_', '_', 't', 'n', 'i', 'h', '_', 'h', 't', 'g', 'n', 'e', 'l', '_', '_']) (o := ['d', 'e', 's', 'r', 'e', 'v', 'e', 'r']) (by kernel_rfl) owner_rt]
  kernel_rfl
theorem lrv_entry : entryFor table "reversed.__length_hint__" = some Builtin.«reversed.__length_hint__» := entryFor_of_tree (by kernel_rfl)
theorem lrv_type : typeOf (.builtin "reversed.__length_hint__") = pure (.type "method_descriptor") := by show builtinType _ = _; rw [builtinType_eq_fast]; kernel_rfl
section
variable {prog : Program} {w : World} {A : Around} {E : Value → Shared → Prop} {s : Shared}
theorem lrv_hint {it t : Addr} {items : Array Value} {Q : Bool → Shared → Prop} (hit : IsRt s.heap it t ((items.size : Int) - 1)) (ht : IsTup s.heap t items) (hn : items.size ≤ sizeLine) (h : ∀ tk, Q (items.size != 0) { s with toks := tk }) :
    wpAny (model prog w) A (Builtin.List.listLengthHint (.ref it)) Q E s := by
  have hT := hit.typeIs
  have hl := line63
  unfold Builtin.List.listLengthHint
  refine wpAny_bind (wpAny_specialOf hT lrv_nolen ?_)
  show wpAny _ _ (specialOf (Value.ref it) (Str.ofString "__length_hint__") >>= _) _ _ _
  refine wpAny_bind (wpAny_specialOf hT lrv_slot.lookup ?_)
  generalize hid : ("reversed.__length_hint__" : String) = id0
  wp_delta
  rw [show splitId id0 = some ("reversed", "__length_hint__") from by subst hid; decide +kernel]
  subst hid
  refine wpAny_bind (wpAny_isInstance (b := true) hT (by rw [isSubtype_type]; kernel_rfl) ?_)
  rw [if_neg (by decide)]
  refine wpAny_ite_split (fun hab => absurd hab (by decide +kernel)) (fun _ => ?_)
  refine wpAny_bind (wpAny_rule ?_)
  refine wpAny_bind ?_
  unfold bindSpecial
  refine wpAny_bind (wpAny_of_eq lrv_type ?_)
  rw [if_pos (by decide)]
  refine wpAny_pure ?_
  dsimp only
  refine wpAny_bind (wpAny_attempt (wpAny_call_entry lrv_slot hit.typeIs lrv_entry ?_ (lrv_args _)))
  obtain ⟨o, ho, hc, hd⟩ := id hit
  unfold Builtin.«reversed.__length_hint__»
  refine wpAny_bind (wpAny_of_eq (a := Value.ref it) rfl ?_)
  dsimp only
  refine wpAny_bind (wpAny_field ho hd (x := .ref t) rfl ?_)
  rw [if_neg (by intro z; cases z)]
  refine wpAny_bind (len_tuple ht (by omega) ?_)
  refine wpAny_bind (wpAny_of_eq (a := some ((items.size : Nat) : Int)) rfl ?_)
  dsimp only
  refine wpAny_bind (wpAny_field (s := { s with toks := s.toks + 1 + 1 }) ho hd (x := rawInt ((items.size : Int) - 1)) rfl ?_)
  show wpAny _ _ (if ((items.size : Nat) : Int) < ((items.size : Int) - 1) + 1 then _ else _) _ _ _
  rw [if_neg (by omega), show ((items.size : Int) - 1) + 1 = (items.size : Int) by omega]
  unfold retInt
  refine wpAny_bind (wpAny_mkInt ?_)
  refine wpAny_pure ⟨_, rfl, ?_⟩
  have h0 : 0 ≤ ((items.size : Nat) : Int) := by omega
  have h1 : ((items.size : Nat) : Int) < 2 ^ 63 := by omega
  have h2 : Builtin.List.listTooLong ((items.size : Nat) : Int).toNat = false := by
    rw [Int.toNat_natCast]
    exact notLongL hn
  have h3 : (((items.size : Nat) : Int) != 0) = (items.size != 0) := by
    cases items.size <;> rfl
  generalize ((items.size : Nat) : Int) = m at h0 h1 h2 h3 ⊢
  show wpAny _ _ (asInt? (Value.int m _) >>= _) _ _ _
  refine wpAny_bind (wpAny_of_eq (a := some m) rfl ?_)
  dsimp only
  rw [if_neg (by rw [fitsIndex_of h0 h1]; decide), if_neg (by omega), if_neg (by rw [h2]; exact Bool.false_ne_true)]
  refine wpAny_pure ?_
  rw [h3]
  exact h _
/-- the items from the end -/
theorem lrv_walks {it t : Addr} {items : Array Value} (hh : A.handled = none) (hne : t ≠ it) (hn : items.size ≤ sizeLine) :
    Walks prog w A it [it, t] [it] items.size (fun i v => items[items.size - 1 - i]? = some v) (fun i h => i ≤ items.size ∧ IsRt h it t ((items.size : Int) - 1 - (i : Int)) ∧ IsTup h t items) where
  sub := fun b hb => by simp at hb; simp [hb]
  frame := fun _ _ _ x hk => ⟨x.1, x.2.1.at fun o e => hk it (by simp) o e, let ⟨o, ho, r⟩ := x.2.2; ⟨o, hk t (by simp) o ho, r⟩⟩
  item := fun i s Q E hi x hQ => by
    have e1 : (items.size : Int) - 1 - (i : Int) = ((items.size - 1 - i : Nat) : Int) := by omega
    have hit := x.2.1
    rw [e1] at hit
    have hx : items[items.size - 1 - i]? = some (items[items.size - 1 - i]'(by omega)) := Array.getElem?_eq_getElem (by omega)
    refine next_rt_item hit x.2.2 hx hn fun h2 hit2 sb => ?_
    have e2 : ((items.size - 1 - i : Nat) : Int) - 1 = (items.size : Int) - 1 - ((i + 1 : Nat) : Int) := by omega
    rw [e2] at hit2
    refine hQ _ h2 (s.toks + 1) hx ⟨hi, hit2, ?_⟩ fun b o hb eo => sb.extBut b o (fun z => hb (by simp [z])) eo
    obtain ⟨o, ho, r⟩ := x.2.2
    exact ⟨o, (sb.2 t hne).trans ho, r⟩
  done := fun s Q E x hQ => by
    have hit := x.2.1
    rw [show (items.size : Int) - 1 - (items.size : Int) = -1 by omega] at hit
    exact next_rt_end hh hit fun h2 eb => hQ h2 s.toks fun b o hb eo => eb b o (fun z => hb (by simp [z])) eo
  self := fun _ _ _ _ x hQ => iter_rt x.2.1 hQ
abbrev lrvP (items : Array Value) : Nat → Value → Prop := fun i v => items[items.size - 1 - i]? = some v
theorem lrv_extend {R : Result → Shared → Prop} {it t : Addr} {items : Array Value} (hh : A.handled = none) (hit : IsRt s.heap it t ((items.size : Int) - 1)) (ht : IsTup s.heap t items) (hne : t ≠ it) (hn : items.size ≤ sizeLine)
    (S : Addr) (hSi : S ≠ it) (hSt : S ≠ t) (res : Value) (c₀ : Nat) (hS : s.heap.get? S = some { cls := .type "list", data := .seq #[] c₀ })
    (hR : ∀ h2 tk acc c, (∀ b o, b ≠ S → b ≠ it → s.heap.get? b = some o → h2.get? b = some o) → h2.get? S = some { cls := .type "list", dict := none, data := .seq acc c, slots := #[] } → ItemsOf (lrvP items) acc items.size → R (.ok (.ret res)) { s with heap := h2, toks := tk }) :
    wpAny (model prog w) A.in1 (Builtin.List.listExtendWith (.ref S) (.ref it) res)
      (fun fin s' => match fin with | .done f => R (.ok f) s' | .again c' => c'.quiet = true ∧ codeAny (model prog w) A c' R s') (fun e s' => R (.error e) s') s := by
  have hSf : S ∉ [it, t] := by simp only [List.mem_cons, List.not_mem_nil, or_false, not_or]; exact ⟨hSi, hSt⟩
  have W := lrv_walks (prog := prog) (w := w) (A := A.in1) hh hne hn
  have key : ∀ (h : Heap) (c₁ tk : Nat), IsRt h it t ((items.size : Int) - 1) → IsTup h t items → (∀ b o, b ≠ S → s.heap.get? b = some o → h.get? b = some o) →
      h.get? S = some { cls := .type "list", data := .seq #[] c₁ } → codeAny (model prog w) A (.builtin "list.extend.loop" ⟨[.ref S, .ref it, res], []⟩) R { s with heap := h, toks := tk } := by
    intro h c₁ tk hit1 ht1 hk hS1
    have e0 : (items.size : Int) - 1 - ((0 : Nat) : Int) = (items.size : Int) - 1 := by omega
    refine codeAny_extend_loopS W.toS hn S hSf res items.size 0 _ #[] c₁ rfl (Nat.zero_le _) ⟨Nat.zero_le _, by rw [e0]; exact hit1, ht1⟩ hS1 (ItemsOf.nil _) fun s2 acc c hm hS2 hacc => ?_
    rw [Moved.eq_with hm]
    refine hR s2.heap s2.toks acc c (fun b o hb hbi e => hm.heap b o (fun hmem => ?_) (hk b o hb e)) hS2 hacc
    rcases List.mem_cons.mp hmem with z | hmem
    · exact hb z
    · exact hbi (List.mem_singleton.mp hmem)
  unfold Builtin.List.listExtendWith
  refine wpAny_bind (wpAny_typeOf (T := "reversed") hit.typeIs ?_)
  have q1 : Builtin.List.listSameRef (.ref S) (.ref it) = false := by simp [Builtin.List.listSameRef, hSi]
  have q2 : (Value.type "reversed" == Value.type "list") = false := by decide
  have q3 : (Value.type "reversed" == Value.type "tuple") = false := by decide
  simp only [q1, q2, q3, Bool.or_false, Bool.false_eq_true, if_false]
  refine wpAny_bind (iter_rt hit ?_)
  refine wpAny_bind (wpAny_holding (lrv_hint hit ht hn fun tk => ?_))
  refine wpAny_ite_split (fun _ => ?_) (fun _ => wpAny_pure ⟨plainId_quiet PySem.F.plain_extend_loop _, key _ c₀ tk hit ht (fun b o _ e => e) hS⟩)
  refine wpAny_bind (wpAny_rule ?_)
  refine wpAny_bind ?_
  show wpAny _ _ (updateSeq S (·.push .none) >>= fun _ => updateSeq S (·.pop)) _ _ _
  refine wpAny_bind (wpAny_updateSeq (s := { s with toks := tk }) hS rfl ?_)
  have hS2 := Heap.get?_update_self (Obj.mapSeq (·.push Value.none)) hS rfl
  refine wpAny_updateSeq (hz := by seq_fits) hS2 rfl ?_
  have hS3 := Heap.get?_update_self (Obj.mapSeq (·.pop)) hS2 rfl
  have oth : ∀ b o, b ≠ S → s.heap.get? b = some o → ((s.heap.update S (Obj.mapSeq (·.push Value.none))).update S (Obj.mapSeq (·.pop))).get? b = some o := fun b o hb e =>
    (Heap.get?_update_other _ _ (Ne.symm hb)).trans ((Heap.get?_update_other _ _ (Ne.symm hb)).trans e)
  refine wpAny_pure ⟨plainId_quiet PySem.F.plain_extend_loop _, key _ _ tk (hit.at fun o e => oth it o (Ne.symm hSi) e) ?_ oth hS3⟩
  obtain ⟨o, ho, r⟩ := ht
  exact ⟨o, oth t o (Ne.symm hSt) ho, r⟩
theorem lrv_init {R : Result → Shared → Prop} {it t : Addr} {items : Array Value} (hh : A.handled = none) (hit : IsRt s.heap it t ((items.size : Int) - 1)) (ht : IsTup s.heap t items) (hne : t ≠ it) (hn : items.size ≤ sizeLine)
    (S : Addr) (hSi : S ≠ it) (hSt : S ≠ t) (hS : s.heap.get? S = some { cls := .type "list", data := .seq #[] })
    (hR : ∀ h2 tk acc c, (∀ b o, b ≠ S → b ≠ it → s.heap.get? b = some o → h2.get? b = some o) → h2.get? S = some { cls := .type "list", dict := none, data := .seq acc c, slots := #[] } → ItemsOf (lrvP items) acc items.size → R (.ok (.ret .none)) { s with heap := h2, toks := tk }) :
    wpAny (model prog w) A.in1 (Builtin.«list.__init__» ⟨[.ref S, .ref it], []⟩)
      (fun fin s' => match fin with | .done f => R (.ok f) s' | .again c' => c'.quiet = true ∧ codeAny (model prog w) A c' R s') (fun e s' => R (.error e) s') s := by
  show wpAny _ _ (Builtin.List.listItems (.ref S) >>= fun old => Builtin.List.listUpdate (.ref S) (fun _ => #[]) >>= fun _ => letGo old.toList.reverse >>= fun _ => Builtin.List.listExtendWith (.ref S) (.ref it) .none) _ _ s
  refine wpAny_bind ?_
  unfold Builtin.List.listItems
  refine wpAny_bind (wpAny_seqItems hS rfl (wpAny_pure ?_))
  show wpAny _ _ (updateSeq S (fun _ => #[]) >>= fun _ => letGo (#[] : Array Value).toList.reverse >>= fun _ => Builtin.List.listExtendWith (.ref S) (.ref it) .none) _ _ s
  refine wpAny_bind (wpAny_updateSeq hS rfl ?_)
  have hS2 := Heap.get?_update_self (Obj.mapSeq (fun _ => (#[] : Array Value))) hS rfl
  have oth : ∀ b o, b ≠ S → s.heap.get? b = some o → (s.heap.update S (Obj.mapSeq (fun _ => (#[] : Array Value)))).get? b = some o := fun b o hb e => (Heap.get?_update_other _ _ (Ne.symm hb)).trans e
  refine wpAny_bind (wpAny_letGo ?_)
  refine lrv_extend hh (hit.at fun o e => oth it o (Ne.symm hSi) e) ?_ hne hn S hSi hSt .none _ hS2 fun h2 tk acc c hk hS3 hacc => hR h2 tk acc c (fun b o hb hbi e => hk b o hb hbi (oth b o hb e)) hS3 hacc
  obtain ⟨o, ho, r⟩ := ht
  exact ⟨o, oth t o (Ne.symm hSt) ho, r⟩
theorem lrv_call {it t : Addr} {items : Array Value} {Q : Value → Shared → Prop} (hh : A.handled = none) (hit : IsRt s.heap it t ((items.size : Int) - 1)) (ht : IsTup s.heap t items) (hne : t ≠ it) (hn : items.size ≤ sizeLine)
    (hQ : ∀ h2 tk acc c, (∀ b o, b ≠ it → s.heap.get? b = some o → h2.get? b = some o) → h2.get? s.heap.objs.size = some { cls := .type "list", dict := none, data := .seq acc c, slots := #[] } → ItemsOf (lrvP items) acc items.size → Q (.ref s.heap.objs.size) { s with heap := h2, toks := tk }) :
    wpAny (model prog w) A (call (.type "list") [.ref it]) Q E s := by
  have li : it < s.heap.objs.size := by obtain ⟨o, ho, _⟩ := id hit; exact Heap.lt_size ho
  have lt : t < s.heap.objs.size := by obtain ⟨o, ho, _⟩ := id ht; exact Heap.lt_size ho
  refine callType_codes (Q₁ := fun obj s₁ => obj = .ref s.heap.objs.size ∧ s₁ = { s with heap := s.heap.push { cls := .type "list", data := .seq #[] } }) PySem.F.called_list (PySem.F.typeCall_list_1 _) PySem.F.entry_list_init
    (code_list_new _ ⟨rfl, rfl⟩) fun obj s₁ h₁ => ?_
  obtain ⟨rfl, rfl⟩ := h₁
  have hS : (s.heap.push { cls := .type "list", data := .seq #[] }).get? s.heap.objs.size = some { cls := .type "list", data := .seq #[] } := Heap.get?_push_size _ rfl
  refine ⟨⟨_, hS, rfl⟩, PySem.F.args_list_init_2 _ _, lrv_init (A := A.in1) hh (hit.at fun o e => Heap.get?_push_of_some _ e) ?_ hne hn _ (Nat.ne_of_gt li) (Nat.ne_of_gt lt) hS fun h2 tk acc c hk hS2 hacc => ?_⟩
  · obtain ⟨o, ho, r⟩ := ht
    exact ⟨o, Heap.get?_push_of_some _ ho, r⟩
  · exact ⟨rfl, hQ h2 tk acc c (fun b o hb e => hk b o (Nat.ne_of_lt (Heap.lt_size e)) hb (Heap.get?_push_of_some _ e)) hS2 hacc⟩
end
/-- list(reversed(x)), x a tuple -/
def tLrv (K : PySem.W.Frag) (te : TE) : TE := fun σ H Q => te σ H fun v H1 => ∃ (a : Addr) (xs : List V), v = .ref a ∧ SqT K H1 a xs ∧ ∀ q, H1 q = none → Q (.ref q) (upd H1 q (.lst xs.reverse))
theorem pe_lrv {X : Cx} {e : Expr} {te : TE} {p p2 pos pos2 : Pos} (hc : X.calm = true) (hg : Gl X "list") (hm : X.mg "list" = none) (hg2 : Gl X "reversed") (hm2 : X.mg "reversed" = none) (he : PE X e te)
    (hs : starEach [e] X.env = (false, PySem.eval e X.env) :: starEach [] X.env) (hs2 : starEach [.Call (.Name "reversed" p2) [e] [] pos2] X.env = (false, PySem.eval (.Call (.Name "reversed" p2) [e] [] pos2) X.env) :: starEach [] X.env) :
    PE X (.Call (.Name "list" p) [.Call (.Name "reversed" p2) [e] [] pos2] [] pos) (tLrv X.K te) := by
  refine ⟨fun pins s σ H Q I h => ?_⟩
  refine Call_ (ld_blt I hg hm boot_list (PyProof.Rows.callWith_type1 (args_cons (Call_ (ld_blt I hg2 hm2 PyProof.Rows.boot_reversed (PyProof.Rows.callWith_type1 (args_cons (thn (he.run pins s σ H _ I h) fun u s1 ⟨v, H1, I1, r1, q1⟩ => args_nil ?_) hs) hs rfl))) hs2) hs2 rfl))
  obtain ⟨a, xs, ev, hq, q⟩ := q1
  subst ev
  obtain rfl : u = Value.ref a := r1
  obtain ⟨its, rv, pl, hz⟩ := I1.tuple hq
  have hl := rv.length
  have hn := line63
  refine call_reversed_tup pl (fun A E Q k => len_tuple pl (by simp only [List.size_toArray] <;> omega) k) (args_nil ?_)
  have k0 : ∀ b o, s1.heap.get? b = some o → (s1.heap.push (rtObj a ((its.toArray.size : Int) - 1))).get? b = some o := fun b o e => Heap.get?_push_of_some _ e
  have I2 : Inv X pins σ H1 { s1 with heap := s1.heap.push (rtObj a ((its.toArray.size : Int) - 1)), toks := s1.toks + 1 + 1 } := I1.kept k0
  have fp := I1.fpOk (H' := H1) (b := s1.heap.objs.size) (Nat.le_refl _) (I1.hok.fresh (Nat.le_refl _))
  have lt : a < s1.heap.objs.size := by obtain ⟨o, ho, _⟩ := id pl; exact Heap.lt_size ho
  have pl2 : IsTup (s1.heap.push (rtObj a ((its.toArray.size : Int) - 1))) a its.toArray := by
    obtain ⟨o, ho, r⟩ := pl
    exact ⟨o, k0 a o ho, r⟩
  refine lrv_call (s := { s1 with heap := s1.heap.push (rtObj a ((its.toArray.size : Int) - 1)), toks := s1.toks + 1 + 1 }) (I1.ok.hd hc) ⟨_, Heap.get?_push_size _ rfl, rfl, rfl⟩ pl2 (Nat.ne_of_lt lt) (by rw [List.size_toArray, ← hl]; exact hz) fun h2 tk acc c hk hS hi => ?_
  have fr : H1 (s1.heap.push (rtObj a ((its.toArray.size : Int) - 1))).objs.size = none := I2.hok.fresh (Nat.le_refl _)
  refine ⟨.ref (s1.heap.push (rtObj a ((its.toArray.size : Int) - 1))).objs.size, upd H1 _ (.lst xs.reverse), ?_, rfl, q _ fr⟩
  refine I1.turnedNew (t' := tk) (ch := [s1.heap.objs.size]) (fun b o hb e => hk b o (fun z => hb (by simp [z])) (k0 b o e)) (fun b hb => ?_) (by rw [Heap.size_push]; omega) ?_
  · obtain rfl : b = s1.heap.objs.size := by simpa using hb
    exact fp
  · exact ⟨by rw [List.length_reverse]; exact hz, acc.toList, c, RT.vals_rev rv hi, by rw [Array.toArray_toList]; exact hS⟩
section
variable {C : CC} {x y : Expr} {e1 e2 : E} {pos ps p2 pos2 : Pos}
theorem ce_listRev (b : Bn C "list") (b2 : Bn C "reversed") (h : CE C x e1) (n1 : ∀ env, starEach [x] env = (false, PySem.eval x env) :: starEach [] env := by intro _; rfl)
    (n2 : ∀ env, starEach [.Call (.Name "reversed" p2) [x] [] pos2] env = (false, PySem.eval (.Call (.Name "reversed" p2) [x] [] pos2) env) :: starEach [] env := by intro _; rfl) :
    CE C (.Call (.Name "list" ps) [.Call (.Name "reversed" p2) [x] [] pos2] [] pos) (.prim .listRev [e1]) := fun X W F =>
  PE.imp (pe_lrv F.calm (b.gl F) (b.mg F) (b2.gl F) (b2.mg F) (h X W F) (n1 _) (n2 _)) fun σ H Q h => by
    rw [F.K]
    refine tE_one (r := fun v H1 Q => ∃ (a : Addr) (xs : List V), v = .ref a ∧ SqT C.G.K H1 a xs ∧ ∀ q, H1 q = none → Q (.ref q) (upd H1 q (.lst xs.reverse))) ?_ h
    intro ρ H s dx x d s' Q rp rx hp g
    cases dx with
    | tup l =>
      cases hp
      obtain ⟨a, xs, e, h1, h2⟩ := rd_tup.mp rx
      exact ⟨a, xs, e, SqT.of h1, fun q hq => g.laid rp hq fun ρ' H' pr kt e => ⟨_, e, h2.reverse.mono pr kt⟩⟩
    | _ => cases hp
end
end Mini
set_option Elab.async false
set_option linter.all false
set_option maxRecDepth 100000
set_option maxHeartbeats 1000000
/-! Mini 20: runs told by invariants. -/
namespace Mini
open PySem L2

/-- a call that gives d, the store only grown -/
def Gives (r : R D) (s : S) (d : D) : Prop := ∃ t, r = .ok d (s ++ t)
theorem for_fix {l : List D} {t : T} {b : Ev → S → Fl} (Inv : Nat → Ev → S → Prop) (step : ∀ i d env s, l[i]? = some d → Inv i env s → ∃ env1, bindT t d env = some env1 ∧ ∃ env2 s2, (b env1 s = .nx env2 s2 ∨ b env1 s = .ct env2 s2) ∧ Inv (i + 1) env2 s2) :
    ∀ (f i : Nat) (env : Ev) (s : S), i ≤ l.length → l.length < f + i → Inv i env s → ∃ env2 s2, forL (.fix l) t b f i env s = .nx env2 s2 ∧ Inv l.length env2 s2
  | 0, i, env, s, h1, h2, _ => by omega
  | f + 1, i, env, s, h1, h2, h => by
    rw [forL]
    show ∃ env2 s2, (match (some l[i]? : Option (Option D)) with
      | none => Fl.bad
      | some none => .nx env s
      | some (some d) => match bindT t d env with
        | none => .bad
        | some env1 => match b env1 s with
          | .nx env2 s2 => forL (.fix l) t b f (i + 1) env2 s2
          | .ct env2 s2 => forL (.fix l) t b f (i + 1) env2 s2
          | .bk env2 s2 => .nx env2 s2
          | r => r) = .nx env2 s2 ∧ Inv l.length env2 s2
    cases hd : l[i]? with
    | none =>
      have : l.length ≤ i := List.getElem?_eq_none_iff.mp hd
      have e : i = l.length := by omega
      subst e
      exact ⟨env, s, rfl, h⟩
    | some d =>
      have hi : i < l.length := (List.getElem?_eq_some_iff.mp hd).1
      obtain ⟨env1, e1, env2, s2, e2, hn⟩ := step i d env s hd h
      obtain ⟨env3, s3, e3, h3⟩ := for_fix Inv step f (i + 1) env2 s2 hi (by omega) hn
      refine ⟨env3, s3, ?_, h3⟩
      dsimp only
      rw [e1]
      dsimp only
      rcases e2 with e2 | e2 <;> rw [e2] <;> exact e3
/-- a while: μ turns at most -/
theorem while_inv {q : Ev → S → R D} {b : Ev → S → Fl} (Inv : Nat → Ev → S → Prop) (Post : Ev → S → Prop)
    (step : ∀ n env s, Inv n env s → (∃ s1, q env s = .ok (.bl false) s1 ∧ Post env s1) ∨ ∃ s1, q env s = .ok (.bl true) s1 ∧ ∃ m env2 s2, n = m + 1 ∧ (b env s1 = .nx env2 s2 ∨ b env s1 = .ct env2 s2) ∧ Inv m env2 s2) :
    ∀ (f n : Nat) (env : Ev) (s : S), n < f → Inv n env s → ∃ env2 s2, whileL q b f env s = .nx env2 s2 ∧ Post env2 s2
  | 0, n, env, s, hn, _ => by omega
  | f + 1, n, env, s, hn, h => by
    rw [whileL]
    rcases step n env s h with ⟨s1, e1, hp⟩ | ⟨s1, e1, m, env2, s2, en, e2, hm⟩
    · rw [e1]
      exact ⟨env, s1, rfl, hp⟩
    · rw [e1]
      obtain ⟨env3, s3, e3, h3⟩ := while_inv Inv Post step f m env2 s2 (by omega) hm
      refine ⟨env3, s3, ?_, h3⟩
      show (match b env s1 with
        | .nx env1 s2 => whileL q b f env1 s2
        | .ct env1 s2 => whileL q b f env1 s2
        | .bk env1 s2 => .nx env1 s2
        | r => r) = .nx env3 s3
      rcases e2 with e2 | e2 <;> rw [e2] <;> exact e3
/-- a comprehension over fixed items -/
theorem comp_fix {l : List D} {n : Nat} {step : D → S → R (Option D)} (Inv : Nat → List D → S → Prop)
    (hs : ∀ i d acc s, l[i]? = some d → Inv i acc s → acc.length < LIM ∧ ∃ y s1, step d s = .ok y s1 ∧ s1[n]? = some (.lst acc) ∧ match y with
      | some y => Inv (i + 1) (acc ++ [y]) (s1.set n (.lst (acc ++ [y])))
      | none => Inv (i + 1) acc s1) :
    ∀ (f i : Nat) (acc : List D) (s : S), i ≤ l.length → l.length < f + i → Inv i acc s → ∃ acc2 s2, compL n (.fix l) step f i s = .ok () s2 ∧ Inv l.length acc2 s2
  | 0, i, acc, s, h1, h2, _ => by omega
  | f + 1, i, acc, s, h1, h2, h => by
    rw [compL]
    cases hd : l[i]? with
    | none =>
      have : l.length ≤ i := List.getElem?_eq_none_iff.mp hd
      have e : i = l.length := by omega
      subst e
      refine ⟨acc, s, ?_, h⟩
      show (match (some l[l.length]? : Option (Option D)) with | none => R.bad | some none => .ok () s | some (some d) => _) = _
      rw [hd]
    | some d =>
      have hi : i < l.length := (List.getElem?_eq_some_iff.mp hd).1
      obtain ⟨hz, y, s1, e1, e2, hy⟩ := hs i d acc s hd h
      have hat : It.at (.fix l) i s = some (some d) := by
        show some l[i]? = _
        rw [hd]
      rw [hat]
      dsimp only
      rw [e1]
      cases y with
      | none =>
        obtain ⟨acc2, s2, e3, h3⟩ := comp_fix Inv hs f (i + 1) acc s1 hi (by omega) hy
        exact ⟨acc2, s2, e3, h3⟩
      | some y =>
        dsimp only
        rw [e2]
        dsimp only
        rw [if_pos hz]
        obtain ⟨acc2, s2, e3, h3⟩ := comp_fix Inv hs f (i + 1) (acc ++ [y]) _ hi (by omega) hy
        exact ⟨acc2, s2, e3, h3⟩
/-- a comprehension whose turns leave the store -/
theorem comp_pure {l : List D} {s : S} {step : D → S → R (Option D)} {g : D → Option D} (hl : l.length < LIM) (hs : ∀ d ∈ l, ∀ acc : List D, step d (s ++ [.lst acc]) = .ok (g d) (s ++ [.lst acc])) {f : Nat} (hf : l.length < f) :
    compL s.length (.fix l) step f 0 (s ++ [.lst []]) = .ok () (s ++ [.lst (l.filterMap g)]) := by
  have at_ : ∀ acc : List D, (s ++ [O.lst acc])[s.length]? = some (.lst acc) := fun acc => by
    rw [List.getElem?_append_right (Nat.le_refl _), Nat.sub_self]
    rfl
  have set_ : ∀ acc acc2 : List D, (s ++ [O.lst acc]).set s.length (.lst acc2) = s ++ [.lst acc2] := fun acc acc2 => by
    rw [List.set_append_right _ _ (Nat.le_refl _), Nat.sub_self]
    rfl
  obtain ⟨acc2, s2, e, h1, h2⟩ := comp_fix (l := l) (n := s.length) (step := step) (fun i acc s2 => s2 = s ++ [.lst acc] ∧ acc = (l.take i).filterMap g) (fun i d acc s2 hd ⟨e1, e2⟩ => by
    subst e1
    have hi : i < l.length := (List.getElem?_eq_some_iff.mp hd).1
    have hal : acc.length ≤ l.length := by
      rw [e2]
      exact Nat.le_trans (List.length_filterMap_le _ _) (by rw [List.length_take]; omega)
    refine ⟨by omega, g d, s ++ [.lst acc], hs d (List.mem_of_getElem? hd) acc, at_ acc, ?_⟩
    have et : l.take (i + 1) = l.take i ++ [d] := by
      rw [List.take_add_one, hd]
      rfl
    cases hg : g d with
    | none =>
      refine ⟨rfl, ?_⟩
      rw [et, List.filterMap_append, ← e2]
      simp [hg]
    | some y =>
      refine ⟨by rw [set_], ?_⟩
      rw [et, List.filterMap_append, ← e2]
      simp [hg]) f 0 [] (s ++ [.lst []]) (Nat.zero_le _) (by omega) ⟨rfl, rfl⟩
  rw [e, h1, h2, List.take_length]
/-! ### steps -/
def retF : Fl → R D
  | .nx _ s => .ok .non s
  | .rt v s => .ok v s
  | .ex c as _ s => .exc c as s
  | _ => .bad
@[simp] theorem retF_rt (d : D) (s : S) : retF (.rt d s) = .ok d s := rfl
@[simp] theorem retF_nx (e : Ev) (s : S) : retF (.nx e s) = .ok .non s := rfl
theorem callN_at {tbl : List Def} {fuel k i : Nat} {n np : Nat} {body : List St} {ds : List D} {s : S} (h : tbl[i]? = some ⟨n, np, body⟩) (hl : ds.length = np) :
    callN tbl fuel (k + 1) i ds s = retF (execs ⟨callN tbl fuel k, fuel⟩ body (ds.map some ++ List.replicate (n - np) none) s) := by
  rw [callN, h]
  dsimp only
  rw [if_pos hl]
  cases execs ⟨callN tbl fuel k, fuel⟩ body (ds.map some ++ List.replicate (n - np) none) s <;> rfl
section
variable {c : Cfg} {env env1 : Ev} {s s1 : S} {st : St} {r : List St} {d : D}
theorem xs_nil : execs c [] env s = .nx env s := by rw [execs]
theorem xs_nx (h : exec c st env s = .nx env1 s1) : execs c (st :: r) env s = execs c r env1 s1 := by rw [execs, h]
theorem xs_rt (h : exec c st env s = .rt d s1) : execs c (st :: r) env s = .rt d s1 := by rw [execs, h]
theorem x_ret {e : E} (h : eval c e env s = .ok d s1) : execs c (.ret e :: r) env s = .rt d s1 := xs_rt (by rw [exec, h]; rfl)
theorem x_asg {i : Nat} {e : E} (h : eval c e env s = .ok d s1) : execs c (.asg (.nm i) e :: r) env s = execs c r (env.set i (some d)) s1 := xs_nx (by rw [exec, h]; rfl)
theorem x_ex {e : E} (h : eval c e env s = .ok d s1) : execs c (.ex e :: r) env s = execs c r env s1 := xs_nx (by rw [exec, h]; rfl)
theorem x_par {is : List Nat} {es : List E} {ds : List D} (h : evals c es env s = .ok ds s1) (h2 : setAll is ds env = some env1) : execs c (.par is es :: r) env s = execs c r env1 s1 := xs_nx (by
  rw [exec, h]
  show (match setAll is ds env with | some env1 => Fl.nx env1 s1 | none => .bad) = _
  rw [h2])
theorem x_tp {ts : List Tg} {e : E} {l : List D} {s2 : S} (h : eval c e env s = .ok (.tup l) s1) (h2 : asgTs c ts l env s1 = .ok env1 s2) : execs c (.asg (.tp ts) e :: r) env s = execs c r env1 s2 := xs_nx (by
  rw [exec, h]
  show flR env (noX (asgT c (.tp ts) (.tup l) env s1)) (fun env1 s2 => Fl.nx env1 s2) = _
  rw [asgT, h2]
  rfl)
theorem x_if {q : E} {a b : List St} (h : eval c q env s = .ok (.bl true) s1) : exec c (.ite q a b) env s = execs c a env s1 := by rw [exec, h]; rfl
theorem x_else {q : E} {a b : List St} (h : eval c q env s = .ok (.bl false) s1) : exec c (.ite q a b) env s = execs c b env s1 := by rw [exec, h]; rfl
/-- a test that does not hold, nothing else -/
theorem x_skip {q : E} {a : List St} (h : eval c q env s = .ok (.bl false) s1) : execs c (.ite q a [] :: r) env s = execs c r env s1 := xs_nx (by rw [x_else h, xs_nil])
theorem x_ifnx {q : E} {a b : List St} {s2 : S} (h : eval c q env s = .ok (.bl true) s1) (h2 : execs c a env s1 = .nx env1 s2) : execs c (.ite q a b :: r) env s = execs c r env1 s2 := xs_nx (by rw [x_if h, h2])
theorem x_elnx {q : E} {a b : List St} {s2 : S} (h : eval c q env s = .ok (.bl false) s1) (h2 : execs c b env s1 = .nx env1 s2) : execs c (.ite q a b :: r) env s = execs c r env1 s2 := xs_nx (by rw [x_else h, h2])
theorem x_ifrt {q : E} {a b : List St} {s2 : S} (h : eval c q env s = .ok (.bl true) s1) (h2 : execs c a env s1 = .rt d s2) : execs c (.ite q a b :: r) env s = .rt d s2 := xs_rt (by rw [x_if h, h2])
theorem x_for {k : IK} {es : List E} {t : T} {b : List St} {ds : List D} {it : It} {s2 : S} (h : evals c es env s = .ok ds s1) (hm : mkIt k ds s1 = some it) (h2 : forL it t (fun env s => execs c b env s) c.fuel 0 env s1 = .nx env1 s2) : execs c (.forr k es t b :: r) env s = execs c r env1 s2 := xs_nx (by
  rw [exec, h, R.bind_ok, itR, hm]
  exact h2)
theorem x_whl {q : E} {b : List St} {s2 : S} (h2 : whileL (fun env s => eval c q env s) (fun env s => execs c b env s) c.fuel env s = .nx env1 s2) : execs c (.whl q b :: r) env s = execs c r env1 s2 := xs_nx (by rw [exec]; exact h2)
end
/-! ### expressions, one step at a time -/
section
variable {c : Cfg} {env : Ev} {s : S}
@[simp] theorem ev_con (d : D) : eval c (.con d) env s = .ok d s := by rw [eval]
theorem ev_var {i : Nat} {d : D} (h : env[i]? = some (some d)) : eval c (.var i) env s = .ok d s := by rw [eval, h]
@[simp] theorem ev_var0 (d : D) (r : Ev) : eval c (.var 0) (some d :: r) s = .ok d s := ev_var rfl
@[simp] theorem ev_var1 (a : Option D) (d : D) (r : Ev) : eval c (.var 1) (a :: some d :: r) s = .ok d s := ev_var rfl
@[simp] theorem ev_var2 (a b : Option D) (d : D) (r : Ev) : eval c (.var 2) (a :: b :: some d :: r) s = .ok d s := ev_var rfl
@[simp] theorem ev_var3 (a b e : Option D) (d : D) (r : Ev) : eval c (.var 3) (a :: b :: e :: some d :: r) s = .ok d s := ev_var rfl
@[simp] theorem ev_var4 (a b e f : Option D) (d : D) (r : Ev) : eval c (.var 4) (a :: b :: e :: f :: some d :: r) s = .ok d s := ev_var rfl
@[simp] theorem ev_var5 (a b e f g : Option D) (d : D) (r : Ev) : eval c (.var 5) (a :: b :: e :: f :: g :: some d :: r) s = .ok d s := ev_var rfl
@[simp] theorem ev_var6 (a b e f g h : Option D) (d : D) (r : Ev) : eval c (.var 6) (a :: b :: e :: f :: g :: h :: some d :: r) s = .ok d s := ev_var rfl
@[simp] theorem ev_var7 (a b e f g h i : Option D) (d : D) (r : Ev) : eval c (.var 7) (a :: b :: e :: f :: g :: h :: i :: some d :: r) s = .ok d s := ev_var rfl
@[simp] theorem ev_p0 (p : P) : eval c (.prim p []) env s = ofOpt (prim p [] s) := eval_prim0
@[simp] theorem ev_p1 (p : P) (a : E) : eval c (.prim p [a]) env s = (eval c a env s).bind fun x s1 => ofOpt (prim p [x] s1) := eval_prim1
@[simp] theorem ev_p2 (p : P) (a b : E) : eval c (.prim p [a, b]) env s = (eval c a env s).bind fun x s1 => (eval c b env s1).bind fun y s2 => ofOpt (prim p [x, y] s2) := eval_prim2
@[simp] theorem ev_p3 (p : P) (a b e : E) : eval c (.prim p [a, b, e]) env s = (eval c a env s).bind fun x s1 => (eval c b env s1).bind fun y s2 => (eval c e env s2).bind fun z s3 => ofOpt (prim p [x, y, z] s3) := eval_prim3
@[simp] theorem ev_and (a b : E) : eval c (.and a b) env s = condR (eval c a env s) (eval c b env) (fun s1 => .ok (.bl false) s1) := by rw [eval]
@[simp] theorem ev_or (a b : E) : eval c (.or a b) env s = condR (eval c a env s) (fun s1 => .ok (.bl true) s1) (eval c b env) := by rw [eval]
@[simp] theorem ev_not (a : E) : eval c (.not a) env s = condR (eval c a env s) (fun s1 => .ok (.bl false) s1) (fun s1 => .ok (.bl true) s1) := by rw [eval]
@[simp] theorem ev_ife (q a b : E) : eval c (.ife q a b) env s = condR (eval c q env s) (eval c a env) (eval c b env) := by rw [eval]
@[simp] theorem ev_call1 (f : Nat) (a : E) : eval c (.call f [a]) env s = (eval c a env s).bind fun x s1 => c.call f [x] s1 := by
  rw [eval, evals, R.bind_assoc]
  congr 1
@[simp] theorem ev_call2 (f : Nat) (a b : E) : eval c (.call f [a, b]) env s = (eval c a env s).bind fun x s1 => (eval c b env s1).bind fun y s2 => c.call f [x, y] s2 := by
  rw [eval, evals, R.bind_assoc]
  congr 1
  funext x s1
  rw [evals, R.bind_assoc, R.bind_assoc]
  congr 1
@[simp] theorem ev_call3 (f : Nat) (a b e : E) : eval c (.call f [a, b, e]) env s = (eval c a env s).bind fun x s1 => (eval c b env s1).bind fun y s2 => (eval c e env s2).bind fun z s3 => c.call f [x, y, z] s3 := by
  rw [eval, evals, R.bind_assoc]
  congr 1
  funext x s1
  rw [evals, R.bind_assoc, R.bind_assoc]
  congr 1
  funext y s2
  rw [evals, R.bind_assoc, R.bind_assoc]
  congr 1
@[simp] theorem ev_chn (p q : P) (a b d : E) : eval c (.chn p q a b d) env s = (eval c a env s).bind fun x s1 => (eval c b env s1).bind fun y s2 => condR (ofOpt (prim p [x, y] s2)) (fun s3 => (eval c d env s3).bind fun z s4 => ofOpt (prim q [y, z] s4)) (fun s3 => .ok (.bl false) s3) := by rw [eval]
@[simp] theorem evs_nil : evals c [] env s = .ok [] s := by rw [evals]
@[simp] theorem evs_cons (a : E) (es : List E) : evals c (a :: es) env s = (eval c a env s).bind fun d s1 => (evals c es env s1).bind fun ds s2 => .ok (d :: ds) s2 := by rw [evals]
@[simp] theorem condR_t {α : Type} (s : S) (a b : S → R α) : condR (.ok (.bl true) s) a b = a s := rfl
@[simp] theorem condR_f {α : Type} (s : S) (a b : S → R α) : condR (.ok (.bl false) s) a b = b s := rfl
theorem condR_b {α : Type} (k : Bool) (s : S) (a b : S → R α) : condR (.ok (.bl k) s) a b = if k = true then a s else b s := rfl
@[simp] theorem ofOpt_some {α : Type} (a : α) (s : S) : ofOpt (some (a, s)) = .ok a s := rfl
@[simp] theorem pm_add (i j : Int) : prim .add [.int i, .int j] s = some (.int (i + j), s) := rfl
@[simp] theorem pm_sub (i j : Int) : prim .sub [.int i, .int j] s = some (.int (i - j), s) := rfl
@[simp] theorem pm_neg (i : Int) : prim .neg [.int i] s = some (.int (-i), s) := rfl
theorem pm_mul {i j : Int} (h : i.natAbs < 2 ^ 64 ∨ j.natAbs < 2 ^ 64) : prim .mul [.int i, .int j] s = some (.int (i * j), s) := by
  show (if _ then _ else _) = _
  rw [if_pos h]
theorem pm_fdv {i j : Int} (h : j ≠ 0 ∧ j.natAbs < 1073741824) : prim .fdv [.int i, .int j] s = some (.int (i.fdiv j), s) := by
  show (if _ then _ else _) = _
  rw [if_pos h]
theorem pm_md {i j : Int} (h : j ≠ 0) : prim .md [.int i, .int j] s = some (.int (i.fmod j), s) := by
  show (if _ then _ else _) = _
  rw [if_pos h]
@[simp] theorem pm_lt (i j : Int) : prim .lt [.int i, .int j] s = some (.bl (decide (i < j)), s) := rfl
@[simp] theorem pm_le (i j : Int) : prim .le [.int i, .int j] s = some (.bl (decide (i ≤ j)), s) := rfl
@[simp] theorem pm_gt (i j : Int) : prim .gt [.int i, .int j] s = some (.bl (decide (j < i)), s) := rfl
@[simp] theorem pm_ge (i j : Int) : prim .ge [.int i, .int j] s = some (.bl (decide (j ≤ i)), s) := rfl
@[simp] theorem pm_isN (d : D) : prim .isN [d] s = some (.bl (isNon d), s) := rfl
@[simp] theorem pm_ntN (d : D) : prim .ntN [d] s = some (.bl (!isNon d), s) := rfl
@[simp] theorem pm_isiI (i : Int) : prim (.isi .int) [.int i] s = some (.bl true, s) := rfl
@[simp] theorem pm_isiB (i : Int) : prim (.isi .bool) [.int i] s = some (.bl false, s) := rfl
@[simp] theorem pm_isiT (l : List D) : prim (.isi .tuple) [.tup l] s = some (.bl true, s) := rfl
@[simp] theorem pm_lst0 : prim .lst [] s = some (.ref s.length, s ++ [.lst []]) := rfl
@[simp] theorem pm_lst1 (a : D) : prim .lst [a] s = some (.ref s.length, s ++ [.lst [a]]) := rfl
@[simp] theorem pm_tup0 : prim .tup [] s = some (.tup [], s) := rfl
@[simp] theorem pm_tup1 (a : D) : prim .tup [a] s = some (.tup [a], s) := rfl
@[simp] theorem pm_tup2 (a b : D) : prim .tup [a, b] s = some (.tup [a, b], s) := rfl
@[simp] theorem pm_tup3 (a b e : D) : prim .tup [a, b, e] s = some (.tup [a, b, e], s) := rfl
@[simp] theorem pm_tup4 (a b e f : D) : prim .tup [a, b, e, f] s = some (.tup [a, b, e, f], s) := rfl
@[simp] theorem pm_min2 (i j : Int) : prim .min2 [.int i, .int j] s = some (.int (if j < i then j else i), s) := rfl
theorem eqf_int (i j : Int) : eqD s (.int i) (.int j) = some (decide (i = j)) := by
  show some (PyData.eqv (.int i) (.int j)) = _
  rfl
end
/-- for i in range(n) -/
theorem run_rng1 {c : Cfg} {es : List E} {j n : Nat} {b : List St} {env : Ev} {s s1 : S} (Inv : Nat → Ev → S → Prop) (he : evals c es env s = .ok [.int n] s1) (hn : n < 2 ^ 40) (hf : n < c.fuel) (h0 : Inv 0 env s1)
    (step : ∀ i env s, i < n → Inv i env s → ∃ env2 s2, execs c b (env.set j (some (.int (i : Nat)))) s = .nx env2 s2 ∧ Inv (i + 1) env2 s2) :
    ∃ env2 s2, exec c (.forr .rng1 es (.nm j) b) env s = .nx env2 s2 ∧ Inv n env2 s2 := by
  obtain ⟨env2, s2, e, h⟩ := for_fix (t := .nm j) (l := (List.range n).map fun (k : Nat) => D.int (k : Int)) (b := fun env s => execs c b env s) Inv (fun i d env s hd h => by
    obtain ⟨hi, rfl⟩ := rng_at.2 d hd
    obtain ⟨env2, s2, e, h2⟩ := step i env s hi h
    exact ⟨_, rfl, env2, s2, .inl e, h2⟩) c.fuel 0 env s1 (Nat.zero_le _) (by simp; exact hf) h0
  rw [List.length_map, List.length_range] at h
  refine ⟨env2, s2, ?_, h⟩
  rw [exec, he, R.bind_ok]
  have hm : mkIt .rng1 [.int n] s1 = some (.fix ((List.range n).map fun (k : Nat) => D.int (k : Int))) := by
    show (if _ then _ else _) = _
    rw [if_pos (by simpa using hn)]
    simp
  rw [itR, hm]
  exact e
/-- for x in a tuple -/
theorem run_seq {c : Cfg} {es : List E} {t : T} {l : List D} {b : List St} {env : Ev} {s s1 : S} (Inv : Nat → Ev → S → Prop) (he : evals c es env s = .ok [.tup l] s1) (hf : l.length < c.fuel) (h0 : Inv 0 env s1)
    (step : ∀ i d env s, l[i]? = some d → Inv i env s → ∃ env1, bindT t d env = some env1 ∧ ∃ env2 s2, execs c b env1 s = .nx env2 s2 ∧ Inv (i + 1) env2 s2) :
    ∃ env2 s2, exec c (.forr .seq es t b) env s = .nx env2 s2 ∧ Inv l.length env2 s2 := by
  obtain ⟨env2, s2, e, h⟩ := for_fix (t := t) (l := l) (b := fun env s => execs c b env s) Inv (fun i d env s hd h => by
    obtain ⟨env1, e1, env2, s2, e, h2⟩ := step i d env s hd h
    exact ⟨env1, e1, env2, s2, .inl e, h2⟩) c.fuel 0 env s1 (Nat.zero_le _) (by omega) h0
  refine ⟨env2, s2, ?_, h⟩
  rw [exec, he, R.bind_ok]
  exact e
/-- a while, by what is left -/
theorem run_whl {c : Cfg} {q : E} {b : List St} {env : Ev} {s : S} (Inv : Nat → Ev → S → Prop) (Post : Ev → S → Prop) {n : Nat} (hf : n < c.fuel) (h0 : Inv n env s)
    (step : ∀ n env s, Inv n env s → (∃ s1, eval c q env s = .ok (.bl false) s1 ∧ Post env s1) ∨ ∃ s1, eval c q env s = .ok (.bl true) s1 ∧ ∃ m env2 s2, n = m + 1 ∧ execs c b env s1 = .nx env2 s2 ∧ Inv m env2 s2) :
    ∃ env2 s2, exec c (.whl q b) env s = .nx env2 s2 ∧ Post env2 s2 := by
  rw [exec]
  refine while_inv Inv Post (fun n env s h => ?_) c.fuel n env s hf h0
  rcases step n env s h with z | ⟨s1, e1, m, env2, s2, en, e2, h2⟩
  · exact .inl z
  · exact .inr ⟨s1, e1, m, env2, s2, en, .inl e2, h2⟩
end Mini
set_option Elab.async false
set_option linter.all false
set_option maxRecDepth 100000
set_option maxHeartbeats 1000000
/-! Mini 21: comprehensions whose turns leave the store. -/
namespace Mini
open PySem L2

theorem comp_const {l : List D} {it : It} {s : S} {step : D → S → R (Option D)} {g : D → Option D} (hat : ∀ i acc, it.at i (s ++ [.lst acc]) = some (l[i]?)) (hl : l.length < LIM) (hs : ∀ d ∈ l, ∀ acc : List D, step d (s ++ [.lst acc]) = .ok (g d) (s ++ [.lst acc])) :
    ∀ (f i : Nat) (acc : List D), i ≤ l.length → l.length < f + i → acc.length ≤ i → compL s.length it step f i (s ++ [.lst acc]) = .ok () (s ++ [.lst (acc ++ (l.drop i).filterMap g)])
  | 0, i, acc, h0, h, _ => by
    omega
  | f + 1, i, acc, h0, h, ha => by
    rw [compL, hat]
    cases hd : l[i]? with
    | none =>
      have hi : l.length ≤ i := List.getElem?_eq_none_iff.mp hd
      rw [List.drop_of_length_le hi]
      simp
    | some d =>
      have hi : i < l.length := (List.getElem?_eq_some_iff.mp hd).1
      have hdr : l.drop i = d :: l.drop (i + 1) := by
        rw [List.drop_eq_getElem_cons hi]
        congr 1
        exact Option.some.inj ((List.getElem?_eq_getElem hi).symm.trans hd)
      dsimp only
      rw [hs d (List.mem_of_getElem? hd) acc]
      cases hg : g d with
      | none =>
        dsimp only
        rw [comp_const hat hl hs f (i + 1) acc hi (by omega) (by omega), hdr, List.filterMap_cons, hg]
      | some y =>
        have at_ : (s ++ [O.lst acc])[s.length]? = some (.lst acc) := by
          rw [List.getElem?_append_right (Nat.le_refl _), Nat.sub_self]
          rfl
        have set_ : (s ++ [O.lst acc]).set s.length (.lst (acc ++ [y])) = s ++ [.lst (acc ++ [y])] := by
          rw [List.set_append_right _ _ (Nat.le_refl _), Nat.sub_self]
          rfl
        dsimp only
        rw [at_]
        dsimp only
        rw [if_pos (by omega), set_, comp_const hat hl hs f (i + 1) (acc ++ [y]) hi (by omega) (by rw [List.length_append, List.length_singleton]; omega), hdr, List.filterMap_cons, hg]
        simp
/-- [e for t in x if q], turns that leave the store -/
theorem ev_comp {c : Cfg} {k : IK} {es : List E} {t : T} {q e : E} {vs : List Nat} {env : Ev} {s s1 : S} {ds : List D} {it : It} {l : List D} {g : D → Option D} (he : evals c es env s = .ok ds s1) (hm : mkIt k ds s1 = some it)
    (hat : ∀ i acc, it.at i (s1 ++ [.lst acc]) = some (l[i]?)) (hl : l.length < LIM) (hf : l.length < c.fuel)
    (hs : ∀ d ∈ l, ∀ acc : List D, ∃ env1, bindT t d (wipeE env vs) = some env1 ∧ condR (eval c q env1 (s1 ++ [.lst acc])) (fun s4 => (eval c e env1 s4).bind fun y s5 => .ok (some y) s5) (fun s4 => .ok none s4) = .ok (g d) (s1 ++ [.lst acc])) :
    eval c (.comp k es t q e vs) env s = .ok (.ref s1.length) (s1 ++ [.lst (l.filterMap g)]) := by
  rw [eval, he, R.bind_ok, itR, hm]
  dsimp only
  rw [R.bind_ok, comp_const (l := l) (g := g) hat hl (fun d hd acc => by
    obtain ⟨env1, e1, e2⟩ := hs d hd acc
    rw [e1]
    exact e2) c.fuel 0 [] (Nat.zero_le _) (by omega) (Nat.le_refl _)]
  simp
/-- over a tuple, no test -/
theorem ev_compT {c : Cfg} {es : List E} {t : T} {e : E} {vs : List Nat} {env : Ev} {s s1 : S} {l : List D} {g : D → D} (he : evals c es env s = .ok [.tup l] s1) (hl : l.length < LIM) (hf : l.length < c.fuel)
    (hs : ∀ d ∈ l, ∀ s : S, ∃ env1, bindT t d (wipeE env vs) = some env1 ∧ eval c e env1 s = .ok (g d) s) :
    eval c (.comp .seq es t (.con (.bl true)) e vs) env s = .ok (.ref s1.length) (s1 ++ [.lst (l.map g)]) := by
  have := ev_comp (l := l) (it := .fix l) (g := fun d => some (g d)) (c := c) (q := .con (.bl true)) (e := e) (t := t) (k := .seq) (vs := vs) he (show mkIt .seq [.tup l] s1 = some (.fix l) from rfl) (fun _ _ => rfl) hl hf (fun d hd acc => by
    obtain ⟨env1, e1, e2⟩ := hs d hd (s1 ++ [.lst acc])
    refine ⟨env1, e1, ?_⟩
    rw [ev_con, condR_t, e2]
    rfl)
  rw [this, List.filterMap_eq_map']
theorem lst_at {s : S} {l acc : List D} {n i : Nat} (h : s[n]? = some (.lst l)) : It.at (.lst n) i (s ++ [.lst acc]) = some l[i]? := by
  have hn : n < s.length := (List.getElem?_eq_some_iff.mp h).1
  show (match (s ++ [O.lst acc])[n]? with | some (.lst l) => some l[i]? | _ => none) = _
  rw [List.getElem?_append_left hn, h]
/-- over a list of the store, no test -/
theorem ev_compL {c : Cfg} {es : List E} {t : T} {e : E} {vs : List Nat} {env : Ev} {s s1 : S} {n : Nat} {l : List D} {g : D → D} (he : evals c es env s = .ok [.ref n] s1) (hn : s1[n]? = some (.lst l)) (hl : l.length < LIM) (hf : l.length < c.fuel)
    (hs : ∀ d ∈ l, ∀ acc : List D, ∃ env1, bindT t d (wipeE env vs) = some env1 ∧ eval c e env1 (s1 ++ [.lst acc]) = .ok (g d) (s1 ++ [.lst acc])) :
    eval c (.comp .seq es t (.con (.bl true)) e vs) env s = .ok (.ref s1.length) (s1 ++ [.lst (l.map g)]) := by
  have hm : mkIt .seq [.ref n] s1 = some (.lst n) := by
    show (match s1[n]? with | some (.lst _) => some (It.lst n) | _ => none) = _
    rw [hn]
  have := ev_comp (l := l) (g := fun d => some (g d)) (c := c) (q := .con (.bl true)) (e := e) (t := t) (vs := vs) he hm (fun i acc => lst_at hn) hl hf (fun d hd acc => by
    obtain ⟨env1, e1, e2⟩ := hs d hd acc
    refine ⟨env1, e1, ?_⟩
    rw [ev_con, condR_t, e2]
    rfl)
  rw [this, List.filterMap_eq_map']
end Mini
set_option Elab.async false
set_option linter.all false
set_option maxRecDepth 100000
set_option maxHeartbeats 4000000
/-! ### the text -/
namespace K52
open Mini PySem L2 PyProof.Rows
def topS (i : Nat) : Stmt := PySem.Challenge.pw_branchhouse_k52_whole_many_arms.main.body.getD i (.Pass ⟨0, 0, 0, 0⟩)
/-! is_integer -/
abbrev s0 : Stmt := topS 1
abbrev N0 : List Str := ["thing"]
abbrev P0 : List Str := ["thing"]
theorem sc0 : FnScope N0 P0 (defScope s0) := ⟨rfl, rfl, rfl, by decide +kernel, rfl, by decide +kernel, by decide +kernel⟩
def B0 : List Mini.St := [.ret (.and (.prim (.isi .int) [.var 0]) (.not (.prim (.isi .bool) [.var 0])))]
/-! is_within -/
abbrev s1 : Stmt := topS 2
abbrev N1 : List Str := ["thing", "low", "high"]
abbrev P1 : List Str := ["thing", "low", "high"]
theorem sc1 : FnScope N1 P1 (defScope s1) := ⟨rfl, rfl, rfl, by decide +kernel, rfl, by decide +kernel, by decide +kernel⟩
def B1 : List Mini.St := [.ret (.and (.call 0 [.var 0]) (.chn .le .le (.var 1) (.var 0) (.var 2)))]
/-! are_integers -/
abbrev s2 : Stmt := topS 3
abbrev N2 : List Str := ["thing", "item"]
abbrev P2 : List Str := ["thing"]
theorem sc2 : FnScope N2 P2 (defScope s2) := ⟨rfl, rfl, rfl, by decide +kernel, rfl, by decide +kernel, by decide +kernel⟩
def B2 : List Mini.St := [.ret (.and (.prim (.isi .tuple) [.var 0]) (.prim .all [.comp .seq [.var 0] (.nm 1) (.con (.bl true)) (.call 0 [.var 1]) [1]]))]
/-! choose -/
abbrev s3 : Stmt := topS 4
abbrev N3 : List Str := ["many", "some", "found", "at"]
abbrev P3 : List Str := ["many", "some"]
theorem sc3 : FnScope N3 P3 (defScope s3) := ⟨rfl, rfl, rfl, by decide +kernel, rfl, by decide +kernel, by decide +kernel⟩
def B3 : List Mini.St := [.ite (.or (.prim .lt [.var 1, .con (.int 0)]) (.prim .gt [.var 1, .var 0])) [.ret (.con (.int 0))] [],
    .asg (.nm 2) (.con (.int 1)),
    .forr .rng1 [.var 1] (.nm 3) [.asg (.nm 2) (.prim .fdv [.prim .mul [.var 2, .prim .sub [.var 0, .var 3]], .prim .add [.var 3, .con (.int 1)]])],
    .ret (.var 2)]
/-! is_many_arms -/
abbrev s4 : Stmt := topS 15
abbrev N4 : List Str := ["arms", "thing", "waiting", "seen", "here", "deep", "one"]
abbrev P4 : List Str := ["arms", "thing"]
theorem sc4 : FnScope N4 P4 (defScope s4) := ⟨rfl, rfl, rfl, by decide +kernel, rfl, by decide +kernel, by decide +kernel⟩
def B4 : List Mini.St := [.ite (.not (.call 1 [.var 0, .con (.int 1), .con (.int 12)])) [.never] [],
    .par [2, 3] [.prim .lst [.prim .tup [.var 1, .con (.int 0)]], .con (.int 0)],
    .whl (.prim .ne [.var 2, .prim .lst []]) [.asg (.tp [(.nm 4), (.nm 5)]) (.prim .pop [.var 2]),
    .ite (.prim .ntN [.var 4]) [.asg (.nm 3) (.prim .add [.var 3, .con (.int 1)]),
    .ite (.or (.not (.prim (.isi .tuple) [.var 4])) (.or (.prim .ne [.prim .len [.var 4], .var 0]) (.or (.prim .gt [.var 3, .con (.int 150)]) (.prim .gt [.var 5, .con (.int 30)])))) [.ret (.con (.bl false))] [],
    .ex (.prim .ext [.prim .lstI [.var 2], .comp .seq [.var 4] (.nm 6) (.con (.bl true)) (.prim .tup [.var 6, .prim .add [.var 5, .con (.int 1)]]) [6]])] []],
    .ret (.con (.bl true))]
/-! check_many -/
abbrev s5 : Stmt := topS 16
abbrev N5 : List Str := ["arms", "thing"]
abbrev P5 : List Str := ["arms", "thing"]
theorem sc5 : FnScope N5 P5 (defScope s5) := ⟨rfl, rfl, rfl, by decide +kernel, rfl, by decide +kernel, by decide +kernel⟩
def B5 : List Mini.St := [.ite (.not (.call 4 [.var 0, .var 1])) [.never] []]
/-! forks -/
abbrev s6 : Stmt := topS 17
abbrev N6 : List Str := ["arms", "tree"]
abbrev P6 : List Str := ["arms", "tree"]
theorem sc6 : FnScope N6 P6 (defScope s6) := ⟨rfl, rfl, rfl, by decide +kernel, rfl, by decide +kernel, by decide +kernel⟩
def B6 : List Mini.St := [.ex (.call 5 [.var 0, .var 1]),
    .ret (.call 7 [.var 1])]
/-! forks_of -/
abbrev s7 : Stmt := topS 18
abbrev N7 : List Str := ["tree", "found", "waiting", "here"]
abbrev P7 : List Str := ["tree"]
theorem sc7 : FnScope N7 P7 (defScope s7) := ⟨rfl, rfl, rfl, by decide +kernel, rfl, by decide +kernel, by decide +kernel⟩
def B7 : List Mini.St := [.par [1, 2] [.con (.int 0), .prim .lst [.var 0]],
    .whl (.prim .ne [.var 2, .prim .lst []]) [.asg (.nm 3) (.prim .pop [.var 2]),
    .ite (.prim .ntN [.var 3]) [.asg (.nm 1) (.prim .add [.var 1, .con (.int 1)]),
    .ex (.prim .ext [.prim .lstI [.var 2], .prim .list1 [.var 3]])] []],
    .ret (.var 1)]
/-! fork_number -/
abbrev s8 : Stmt := topS 19
abbrev N8 : List Str := ["arms", "many"]
abbrev P8 : List Str := ["arms", "many"]
theorem sc8 : FnScope N8 P8 (defScope s8) := ⟨rfl, rfl, rfl, by decide +kernel, rfl, by decide +kernel, by decide +kernel⟩
def B8 : List Mini.St := [.ite (.or (.not (.call 1 [.var 0, .con (.int 1), .con (.int 12)])) (.not (.call 1 [.var 1, .con (.int 0), .con (.int 500)]))) [.never] [],
    .ret (.prim .fdv [.call 3 [.prim .mul [.var 0, .var 1], .var 1], .prim .add [.prim .mul [.prim .sub [.var 0, .con (.int 1)], .var 1], .con (.int 1)]])]
/-! open_word -/
abbrev s9 : Stmt := topS 20
abbrev N9 : List Str := ["arms", "tree", "found", "waiting", "here"]
abbrev P9 : List Str := ["arms", "tree"]
theorem sc9 : FnScope N9 P9 (defScope s9) := ⟨rfl, rfl, rfl, by decide +kernel, rfl, by decide +kernel, by decide +kernel⟩
def B9 : List Mini.St := [.ex (.call 5 [.var 0, .var 1]),
    .par [2, 3] [.prim .lst [], .prim .lst [.var 1]],
    .whl (.prim .ne [.var 3, .prim .lst []]) [.asg (.nm 4) (.prim .pop [.var 3]),
    .ex (.prim .app [.prim .lstI [.var 2], .ife (.prim .isN [.var 4]) (.con (.int 0)) (.con (.int 1))]),
    .ite (.prim .ntN [.var 4]) [.ex (.prim .ext [.prim .lstI [.var 3], .prim .listRev [.var 4]])] []],
    .ret (.prim .tuple1 [.prim (.sl false true) [.var 2, .prim .idI [.prim .neg [.con (.int 1)]]]])]
/-! is_open_word -/
abbrev s10 : Stmt := topS 21
abbrev N10 : List Str := ["arms", "thing", "one", "left"]
abbrev P10 : List Str := ["arms", "thing"]
theorem sc10 : FnScope N10 P10 (defScope s10) := ⟨rfl, rfl, rfl, by decide +kernel, rfl, by decide +kernel, by decide +kernel⟩
def B10 : List Mini.St := [.ite (.not (.call 1 [.var 0, .con (.int 1), .con (.int 12)])) [.never] [],
    .ite (.or (.not (.call 2 [.var 1])) (.or (.prim .gt [.prim .len [.var 1], .prim .mul [.con (.int 150), .con (.int 12)]]) (.not (.prim .all [.comp .seq [.var 1] (.nm 2) (.con (.bl true)) (.prim .inn [.var 2, .prim .tup [.con (.int 0), .con (.int 1)]]) [2]])))) [.ret (.con (.bl false))] [],
    .asg (.nm 3) (.con (.int 1)),
    .forr .seq [.var 1] (.nm 2) [.asg (.nm 3) (.prim .add [.prim .sub [.var 3, .con (.int 1)], .prim .mul [.var 0, .var 2]]),
    .ite (.prim .le [.var 3, .con (.int 0)]) [.ret (.con (.bl false))] []],
    .ret (.prim .eq [.var 3, .con (.int 1)])]
/-! tree_of_word -/
abbrev s11 : Stmt := topS 22
abbrev N11 : List Str := ["arms", "word", "stack", "one", "part", "found", "turn"]
abbrev P11 : List Str := ["arms", "word"]
theorem sc11 : FnScope N11 P11 (defScope s11) := ⟨rfl, rfl, rfl, by decide +kernel, rfl, by decide +kernel, by decide +kernel⟩
def B11 : List Mini.St := [.ite (.not (.call 10 [.var 0, .var 1])) [.never] [],
    .asg (.nm 2) (.prim .lst []),
    .forr .rev [.prim .add [.var 1, .prim .tup [.con (.int 0)]]] (.nm 3) [.ite (.prim .eq [.var 3, .con (.int 0)]) [.ex (.prim .app [.prim .lstI [.var 2], .con .non])] [.asg (.nm 4) (.prim .tuple1 [.comp .rng1 [.var 0] (.nm 6) (.con (.bl true)) (.prim .pop [.var 2]) [6]]),
    .ex (.prim .app [.prim .lstI [.var 2], .var 4])]],
    .asg (.nm 5) (.prim .ix [.var 2, .prim .neg [.con (.int 1)]]),
    .ite (.not (.call 4 [.var 0, .var 5])) [.never] [],
    .ret (.var 5)]
/-! ends_on -/
abbrev s12 : Stmt := topS 23
abbrev N12 : List Str := ["arms", "length", "left", "many"]
abbrev P12 : List Str := ["arms", "length", "left"]
theorem sc12 : FnScope N12 P12 (defScope s12) := ⟨rfl, rfl, rfl, by decide +kernel, rfl, by decide +kernel, by decide +kernel⟩
def B12 : List Mini.St := [.ite (.or (.prim .lt [.var 2, .con (.int 1)]) (.or (.prim .ne [.prim .md [.prim .add [.prim .sub [.var 1, .var 2], .con (.int 1)], .var 0], .con (.int 0)]) (.prim .lt [.var 1, .prim .sub [.var 2, .con (.int 1)]]))) [.ret (.con (.int 0))] [],
    .asg (.nm 3) (.prim .fdv [.prim .add [.prim .sub [.var 1, .var 2], .con (.int 1)], .var 0]),
    .ret (.prim .fdv [.prim .mul [.var 2, .call 3 [.prim .add [.var 1, .con (.int 1)], .var 3]], .prim .add [.var 1, .con (.int 1)]])]
/-! many_arms_at -/
abbrev s13 : Stmt := topS 24
abbrev N13 : List Str := ["arms", "many", "place", "found", "left", "here", "at", "some"]
abbrev P13 : List Str := ["arms", "many", "place"]
theorem sc13 : FnScope N13 P13 (defScope s13) := ⟨rfl, rfl, rfl, by decide +kernel, rfl, by decide +kernel, by decide +kernel⟩
def B13 : List Mini.St := [.ite (.or (.not (.call 1 [.var 0, .con (.int 1), .con (.int 12)])) (.not (.call 1 [.var 1, .con (.int 0), .con (.int 30)]))) [.never] [],
    .ite (.or (.not (.call 0 [.var 2])) (.not (.chn .le .lt (.con (.int 0)) (.var 2) (.prim .fdv [.call 3 [.prim .mul [.var 0, .var 1], .var 1], .prim .add [.prim .mul [.prim .sub [.var 0, .con (.int 1)], .var 1], .con (.int 1)]])))) [.never] [],
    .par [3, 4, 5] [.prim .lst [], .con (.int 1), .var 2],
    .forr .rng1 [.prim .mul [.var 0, .var 1]] (.nm 6) [.asg (.nm 7) (.call 12 [.var 0, .prim .sub [.prim .sub [.prim .mul [.var 0, .var 1], .var 6], .con (.int 1)], .prim .sub [.var 4, .con (.int 1)]]),
    .ite (.prim .lt [.var 5, .var 7]) [.ex (.prim .app [.prim .lstI [.var 3], .con (.int 0)]),
    .asg (.nm 4) (.prim .sub [.var 4, .con (.int 1)])] [.asg (.nm 5) (.prim .sub [.var 5, .var 7]),
    .ex (.prim .app [.prim .lstI [.var 3], .con (.int 1)]),
    .asg (.nm 4) (.prim .add [.prim .sub [.var 4, .con (.int 1)], .var 0])]],
    .ret (.call 11 [.var 0, .prim .tuple1 [.var 3]])]
/-! tree_place -/
abbrev s14 : Stmt := topS 25
abbrev N14 : List Str := ["arms", "tree", "word", "found", "left", "at", "one"]
abbrev P14 : List Str := ["arms", "tree"]
theorem sc14 : FnScope N14 P14 (defScope s14) := ⟨rfl, rfl, rfl, by decide +kernel, rfl, by decide +kernel, by decide +kernel⟩
def B14 : List Mini.St := [.asg (.nm 2) (.call 9 [.var 0, .var 1]),
    .asg (.tp [(.nm 3), (.nm 4)]) (.prim .tup [.con (.int 0), .con (.int 1)]),
    .forr .enu [.var 2] (.tp [(.nm 5), (.nm 6)]) [.ite (.prim .eq [.var 6, .con (.int 1)]) [.asg (.nm 3) (.prim .add [.var 3, .call 12 [.var 0, .prim .sub [.prim .sub [.prim .len [.var 2], .var 5], .con (.int 1)], .prim .sub [.var 4, .con (.int 1)]]])] [],
    .asg (.nm 4) (.prim .add [.prim .sub [.var 4, .con (.int 1)], .prim .mul [.var 0, .var 6]])],
    .ret (.var 3)]
/-! level_word -/
abbrev s15 : Stmt := topS 26
abbrev N15 : List Str := ["arms", "tree", "found", "waiting", "at", "here"]
abbrev P15 : List Str := ["arms", "tree"]
theorem sc15 : FnScope N15 P15 (defScope s15) := ⟨rfl, rfl, rfl, by decide +kernel, rfl, by decide +kernel, by decide +kernel⟩
def B15 : List Mini.St := [.ex (.call 5 [.var 0, .var 1]),
    .par [2, 3, 4] [.prim .lst [], .prim .lst [.var 1], .con (.int 0)],
    .whl (.prim .lt [.var 4, .prim .len [.var 3]]) [.asg (.nm 5) (.prim .ix [.var 3, .var 4]),
    .asg (.nm 4) (.prim .add [.var 4, .con (.int 1)]),
    .ex (.prim .app [.prim .lstI [.var 2], .ife (.prim .isN [.var 5]) (.con (.int 0)) (.con (.int 1))]),
    .ite (.prim .ntN [.var 5]) [.ex (.prim .ext [.prim .lstI [.var 3], .prim .list1 [.var 5]])] []],
    .ret (.prim .tuple1 [.var 2])]
/-! tree_of_levels -/
abbrev s16 : Stmt := topS 27
abbrev N16 : List Str := ["arms", "word", "one", "open_places", "at"]
abbrev P16 : List Str := ["arms", "word"]
theorem sc16 : FnScope N16 P16 (defScope s16) := ⟨rfl, rfl, rfl, by decide +kernel, rfl, by decide +kernel, by decide +kernel⟩
def B16 : List Mini.St := [.ite (.not (.call 1 [.var 0, .con (.int 1), .con (.int 12)])) [.never] [],
    .ite (.or (.not (.call 2 [.var 1])) (.or (.not (.prim .all [.comp .seq [.var 1] (.nm 2) (.con (.bl true)) (.prim .inn [.var 2, .prim .tup [.con (.int 0), .con (.int 1)]]) [2]])) (.prim .gt [.prim .len [.var 1], .prim .mul [.con (.int 150), .con (.int 12)]]))) [.never] [],
    .asg (.nm 3) (.con (.int 1)),
    .forr .enu [.var 1] (.tp [(.nm 4), (.nm 2)]) [.ite (.prim .ge [.var 4, .var 3]) [.never] [],
    .asg (.nm 3) (.prim .add [.var 3, .prim .mul [.var 0, .var 2]])],
    .ite (.prim .ne [.var 3, .prim .len [.var 1]]) [.never] [],
    .ret (.call 17 [.var 0, .var 1])]
/-! put_up -/
abbrev s17 : Stmt := topS 28
abbrev N17 : List Str := ["arms", "word", "firsts", "here", "at", "one", "found", "k"]
abbrev P17 : List Str := ["arms", "word"]
theorem sc17 : FnScope N17 P17 (defScope s17) := ⟨rfl, rfl, rfl, by decide +kernel, rfl, by decide +kernel, by decide +kernel⟩
def B17 : List Mini.St := [.asg (.tp [(.nm 2), (.nm 3)]) (.prim .tup [.prim .dnew [], .con (.int 1)]),
    .forr .enu [.var 1] (.tp [(.nm 4), (.nm 5)]) [.ite (.prim .eq [.var 5, .con (.int 1)]) [.asg (.sub (.var 2) (.var 4)) (.var 3),
    .asg (.nm 3) (.prim .add [.var 3, .var 0])] []],
    .asg (.nm 6) (.prim .dnew []),
    .forr .rng3 [.prim .sub [.prim .len [.var 1], .con (.int 1)], .prim .neg [.con (.int 1)], .prim .neg [.con (.int 1)]] (.nm 4) [.asg (.sub (.var 6) (.var 4)) (.ife (.prim .eq [.prim .ix [.var 1, .var 4], .con (.int 0)]) (.con .non) (.prim .tuple1 [.comp .rng1 [.var 0] (.nm 7) (.con (.bl true)) (.prim .ix [.var 6, .prim .add [.prim .ix [.var 2, .var 4], .var 7]]) [7]]))],
    .ite (.not (.call 4 [.var 0, .prim .ix [.var 6, .con (.int 0)]])) [.never] [],
    .ret (.prim .ix [.var 6, .con (.int 0)])]
/-! heights_sum -/
abbrev s18 : Stmt := topS 29
abbrev N18 : List Str := ["arms", "tree", "inner", "outer", "waiting", "here", "deep", "one"]
abbrev P18 : List Str := ["arms", "tree"]
theorem sc18 : FnScope N18 P18 (defScope s18) := ⟨rfl, rfl, rfl, by decide +kernel, rfl, by decide +kernel, by decide +kernel⟩
def B18 : List Mini.St := [.ex (.call 5 [.var 0, .var 1]),
    .par [2, 3, 4] [.con (.int 0), .con (.int 0), .prim .lst [.prim .tup [.var 1, .con (.int 0)]]],
    .whl (.prim .ne [.var 4, .prim .lst []]) [.asg (.tp [(.nm 5), (.nm 6)]) (.prim .pop [.var 4]),
    .ite (.prim .isN [.var 5]) [.asg (.nm 3) (.prim .add [.var 3, .var 6])] [.asg (.nm 2) (.prim .add [.var 2, .var 6]),
    .ex (.prim .ext [.prim .lstI [.var 4], .comp .seq [.var 5] (.nm 7) (.con (.bl true)) (.prim .tup [.var 7, .prim .add [.var 6, .con (.int 1)]]) [7]])]],
    .ret (.prim .tup [.var 2, .var 3])]
/-! least_sum -/
abbrev s19 : Stmt := topS 30
abbrev N19 : List Str := ["arms", "many", "found", "level", "room", "left", "here"]
abbrev P19 : List Str := ["arms", "many"]
theorem sc19 : FnScope N19 P19 (defScope s19) := ⟨rfl, rfl, rfl, by decide +kernel, rfl, by decide +kernel, by decide +kernel⟩
def B19 : List Mini.St := [.ite (.or (.not (.call 1 [.var 0, .con (.int 2), .con (.int 12)])) (.not (.call 1 [.var 1, .con (.int 0), .prim .pw [.con (.int 10), .con (.int 30)]]))) [.never] [],
    .asg (.tp [(.nm 2), (.nm 3), (.nm 4), (.nm 5)]) (.prim .tup [.con (.int 0), .con (.int 0), .con (.int 1), .var 1]),
    .whl (.prim .gt [.var 5, .con (.int 0)]) [.asg (.nm 6) (.prim .min2 [.var 5, .var 4]),
    .par [2, 5] [.prim .add [.var 2, .prim .mul [.var 6, .var 3]], .prim .sub [.var 5, .var 6]],
    .par [3, 4] [.prim .add [.var 3, .con (.int 1)], .prim .mul [.var 4, .var 0]]],
    .ret (.var 2)]
/-! _law_hand -/
abbrev s20 : Stmt := topS 32
abbrev N20 : List Str := ["script", "cell"]
abbrev P20 : List Str := ["script"]
theorem sc20 : FnScope N20 P20 (defScope s20) := ⟨rfl, rfl, rfl, by decide +kernel, rfl, by decide +kernel, by decide +kernel⟩
def B20 : List Mini.St := [.ret (.prim .lst [.comp .seq [.prim (.sl false true) [.var 0, .prim .idI [.con (.int 63)]]] (.nm 1) (.con (.bl true)) (.prim .abs1 [.prim .int1 [.var 1]]) [1], .con (.int 0), .con (.int 0), .prim .add [.con (.int 353), .prim .mul [.con (.int 3), .prim .len [.prim (.sl false true) [.var 0, .prim .idI [.con (.int 63)]]]]], .con (.int 0)])]
/-! _law_draw -/
abbrev s21 : Stmt := topS 33
abbrev N21 : List Str := ["hand", "many", "cell", "digit", "number"]
abbrev P21 : List Str := ["hand", "many"]
theorem sc21 : FnScope N21 P21 (defScope s21) := ⟨rfl, rfl, rfl, by decide +kernel, rfl, by decide +kernel, by decide +kernel⟩
def B21 : List Mini.St := [.ite (.and (.prim .eq [.prim .ix [.var 0, .con (.int 2)], .con (.int 0)]) (.prim .lt [.prim .ix [.var 0, .con (.int 1)], .prim .len [.prim .ix [.var 0, .con (.int 0)]]])) [.asg (.nm 2) (.prim .ix [.prim .ix [.var 0, .con (.int 0)], .prim .ix [.var 0, .con (.int 1)]]),
    .asg (.sub (.var 0) (.con (.int 1))) (.prim .add [.prim .ix [.var 0, .con (.int 1)], .con (.int 1)]),
    .asg (.sub (.var 0) (.con (.int 3))) (.prim .md [.prim .int1 [.prim .add [.prim .add [.prim .mul [.prim .ix [.var 0, .con (.int 3)], .con (.int 69621)], .prim .mul [.var 2, .con (.int 40692)]], .con (.int 311)]], .con (.int 2147483629)]),
    .ite (.prim .ge [.var 2, .prim .pw [.con (.int 10), .con (.int 18)]]) [.asg (.sub (.var 0) (.con (.int 2))) (.var 2)] []] [],
    .ite (.prim .gt [.prim .ix [.var 0, .con (.int 2)], .con (.int 0)]) [.asg (.nm 3) (.prim .md [.prim .int1 [.prim .ix [.var 0, .con (.int 2)]], .var 1]),
    .asg (.sub (.var 0) (.con (.int 2))) (.prim .fdv [.prim .ix [.var 0, .con (.int 2)], .var 1]),
    .ret (.var 3)] [],
    .asg (.sub (.var 0) (.con (.int 4))) (.prim .add [.prim .ix [.var 0, .con (.int 4)], .con (.int 1)]),
    .asg (.nm 4) (.prim .md [.prim .int1 [.prim .mul [.prim .int1 [.prim .add [.prim .ix [.var 0, .con (.int 3)], .prim .mul [.con (.int 7919), .prim .ix [.var 0, .con (.int 4)]]]], .con (.int 48271)]], .con (.int 2147483647)]),
    .asg (.nm 4) (.prim .md [.prim .int1 [.prim .mul [.var 4, .prim .add [.prim .fdv [.var 4, .con (.int 1009)], .con (.int 69621)]]], .con (.int 2147483647)]),
    .asg (.nm 4) (.prim .md [.prim .int1 [.prim .mul [.var 4, .prim .add [.prim .fdv [.var 4, .con (.int 2003)], .con (.int 40014)]]], .con (.int 2147483563)]),
    .ret (.prim .md [.prim .int1 [.prim .fdv [.var 4, .con (.int 16)]], .var 1])]
/-! _law_any -/
abbrev s22 : Stmt := topS 34
abbrev N22 : List Str := ["hand", "some"]
abbrev P22 : List Str := ["hand", "some"]
theorem sc22 : FnScope N22 P22 (defScope s22) := ⟨rfl, rfl, rfl, by decide +kernel, rfl, by decide +kernel, by decide +kernel⟩
def B22 : List Mini.St := [.ret (.prim .ix [.var 1, .call 21 [.var 0, .prim .len [.var 1]]])]
/-! _law_same -/
abbrev s23 : Stmt := topS 35
abbrev N23 : List Str := ["one", "due", "a", "b"]
abbrev P23 : List Str := ["one", "due"]
theorem sc23 : FnScope N23 P23 (defScope s23) := ⟨rfl, rfl, rfl, by decide +kernel, rfl, by decide +kernel, by decide +kernel⟩
def B23 : List Mini.St := [.ite (.prim (.isiT [.tuple, .list]) [.var 1]) [.ite (.or (.prim .ne [.prim (.isi .tuple) [.var 0], .prim (.isi .tuple) [.var 1]]) (.not (.prim (.isiT [.tuple, .list]) [.var 0]))) [.ret (.con (.bl false))] [],
    .ret (.and (.prim .eq [.prim .len [.var 0], .prim .len [.var 1]]) (.prim .all [.comp .zip [.var 0, .var 1] (.tp [(.nm 2), (.nm 3)]) (.con (.bl true)) (.call 23 [.var 2, .var 3]) [2, 3]]))] [],
    .ite (.or (.prim (.isi .bool) [.var 1]) (.or (.prim (.isi .bool) [.var 0]) (.or (.prim .isN [.var 1]) (.prim .isN [.var 0])))) [.ret (.and (.prim .eq [.prim (.isi .bool) [.var 0], .prim (.isi .bool) [.var 1]]) (.and (.prim .eq [.prim .isN [.var 0], .prim .isN [.var 1]]) (.prim .eq [.var 0, .var 1])))] [],
    .ret (.and (.prim .eq [.prim (.isi .str) [.var 0], .prim (.isi .str) [.var 1]]) (.and (.prim (.isiT [.int, .str]) [.var 0]) (.prim .eq [.var 0, .var 1])))]
/-! _law_of_word -/
abbrev s24 : Stmt := topS 36
abbrev N24 : List Str := ["arms_here", "word", "row", "one", "size_here"]
abbrev P24 : List Str := ["arms_here", "word"]
theorem sc24 : FnScope N24 P24 (defScope s24) := ⟨rfl, rfl, rfl, by decide +kernel, rfl, by decide +kernel, by decide +kernel⟩
def B24 : List Mini.St := [.asg (.nm 2) (.prim .lst []),
    .forr .seq [.prim .rvL [.prim .add [.var 1, .prim .tup [.con (.int 0)]]]] (.nm 3) [.ite (.prim .eq [.var 3, .con (.int 0)]) [.ex (.prim .app [.prim .lstI [.var 2], .con .non])] [.asg (.nm 4) (.prim .sub [.prim .len [.var 2], .var 0]),
    .asg (.nm 2) (.prim .add [.prim (.sl false true) [.var 2, .prim .idI [.var 4]], .prim .lst [.prim .tuple1 [.prim .rvL [.prim (.sl true false) [.var 2, .prim .idI [.var 4]]]]]])]],
    .ret (.prim .ix [.var 2, .con (.int 0)])]
/-! _law_drawn_word -/
abbrev s25 : Stmt := topS 37
abbrev N25 : List Str := ["hand", "arms_here", "size_here", "found", "high", "ups", "is_up"]
abbrev P25 : List Str := ["hand", "arms_here", "size_here"]
theorem sc25 : FnScope N25 P25 (defScope s25) := ⟨rfl, rfl, rfl, by decide +kernel, rfl, by decide +kernel, by decide +kernel⟩
def B25 : List Mini.St := [.asg (.tp [(.nm 3), (.nm 4), (.nm 5)]) (.prim .tup [.prim .tup [], .con (.int 0), .con (.int 0)]),
    .whl (.prim .lt [.prim .len [.var 3], .prim .mul [.var 1, .var 2]]) [.asg (.nm 6) (.and (.prim .lt [.var 5, .var 2]) (.or (.prim .eq [.var 4, .con (.int 0)]) (.prim .eq [.call 21 [.var 0, .con (.int 2)], .con (.int 0)]))),
    .par [3, 4] [.prim .add [.var 3, .prim .tup [.prim .int1 [.var 6]]], .prim .add [.var 4, .ife (.var 6) (.prim .sub [.var 1, .con (.int 1)]) (.prim .neg [.con (.int 1)])]],
    .asg (.nm 5) (.prim .add [.var 5, .prim .int1 [.var 6]])],
    .ret (.var 3)]
/-! _law_levels -/
abbrev s26 : Stmt := topS 38
abbrev N26 : List Str := ["tree", "found", "one", "later"]
abbrev P26 : List Str := ["tree"]
theorem sc26 : FnScope N26 P26 (defScope s26) := ⟨rfl, rfl, rfl, by decide +kernel, rfl, by decide +kernel, by decide +kernel⟩
def B26 : List Mini.St := [.asg (.nm 1) (.prim .lst [.prim .lst [.var 0]]),
    .whl (.prim .any [.comp .seq [.prim .ix [.var 1, .prim .neg [.con (.int 1)]]] (.nm 2) (.con (.bl true)) (.prim .ntN [.var 2]) [2]]) [.asg (.nm 3) (.prim .lst []),
    .forr .seq [.prim .ix [.var 1, .prim .neg [.con (.int 1)]]] (.nm 2) [.ex (.prim .ext [.prim .lstI [.var 3], .ife (.prim .ntN [.var 2]) (.prim .list1 [.var 2]) (.prim .lst [])])],
    .ex (.prim .app [.prim .lstI [.var 1], .var 3])],
    .ret (.var 1)]
/-! _law_number -/
abbrev s27 : Stmt := topS 39
abbrev N27 : List Str := ["arms_here", "size_here", "found", "wide", "turn"]
abbrev P27 : List Str := ["arms_here", "size_here"]
theorem sc27 : FnScope N27 P27 (defScope s27) := ⟨rfl, rfl, rfl, by decide +kernel, rfl, by decide +kernel, by decide +kernel⟩
def B27 : List Mini.St := [.par [2, 3] [.con (.int 1), .prim .mul [.var 0, .var 1]],
    .forr .rng1 [.var 1] (.nm 4) [.asg (.nm 2) (.prim .fdv [.prim .mul [.var 2, .prim .sub [.var 3, .var 4]], .prim .add [.var 4, .con (.int 1)]])],
    .ret (.prim .fdv [.var 2, .prim .add [.prim .mul [.prim .sub [.var 0, .con (.int 1)], .var 1], .con (.int 1)]])]
/-! _law_words -/
abbrev s28 : Stmt := topS 40
abbrev N28 : List Str := ["arms_here", "size_here", "found", "turn", "longer", "row", "high", "ups"]
abbrev P28 : List Str := ["arms_here", "size_here"]
theorem sc28 : FnScope N28 P28 (defScope s28) := ⟨rfl, rfl, rfl, by decide +kernel, rfl, by decide +kernel, by decide +kernel⟩
def B28 : List Mini.St := [.asg (.nm 2) (.prim .lst [.prim .tup [.prim .tup [], .con (.int 0), .con (.int 0)]]),
    .forr .rng1 [.prim .mul [.var 0, .var 1]] (.nm 3) [.asg (.nm 4) (.prim .lst []),
    .forr .seq [.var 2] (.tp [(.nm 5), (.nm 6), (.nm 7)]) [.ite (.prim .gt [.var 6, .con (.int 0)]) [.ex (.prim .app [.prim .lstI [.var 4], .prim .tup [.prim .add [.var 5, .prim .tup [.con (.int 0)]], .prim .sub [.var 6, .con (.int 1)], .var 7]])] [],
    .ite (.prim .lt [.var 7, .var 1]) [.ex (.prim .app [.prim .lstI [.var 4], .prim .tup [.prim .add [.var 5, .prim .tup [.con (.int 1)]], .prim .sub [.prim .add [.var 6, .var 0], .con (.int 1)], .prim .add [.var 7, .con (.int 1)]]])] []],
    .asg (.nm 2) (.var 4)],
    .ret (.comp .seq [.var 2] (.tp [(.nm 5), (.nm 6), (.nm 7)]) (.prim .eq [.var 6, .con (.int 0)]) (.var 5) [5, 6, 7])]
/-! _law_sums -/
abbrev s29 : Stmt := topS 41
abbrev N29 : List Str := ["tree", "first", "last", "level", "row", "size_here", "one"]
abbrev P29 : List Str := ["tree"]
theorem sc29 : FnScope N29 P29 (defScope s29) := ⟨rfl, rfl, rfl, by decide +kernel, rfl, by decide +kernel, by decide +kernel⟩
def B29 : List Mini.St := [.asg (.tp [(.nm 1), (.nm 2)]) (.prim .tup [.con (.int 0), .con (.int 0)]),
    .forr .enu [.call 26 [.var 0]] (.tp [(.nm 3), (.nm 4)]) [.asg (.nm 5) (.prim .len [.comp .seq [.var 4] (.nm 6) (.prim .ntN [.var 6]) (.var 6) [6]]),
    .asg (.nm 1) (.prim .add [.var 1, .prim .mul [.var 3, .var 5]]),
    .asg (.nm 2) (.prim .add [.var 2, .prim .mul [.var 3, .prim .sub [.prim .len [.var 4], .var 5]]])],
    .ret (.prim .tup [.var 1, .var 2])]
/-! _law_least -/
abbrev s30 : Stmt := topS 42
abbrev N30 : List Str := ["arms_here", "many", "level", "wide", "total", "here"]
abbrev P30 : List Str := ["arms_here", "many"]
theorem sc30 : FnScope N30 P30 (defScope s30) := ⟨rfl, rfl, rfl, by decide +kernel, rfl, by decide +kernel, by decide +kernel⟩
def B30 : List Mini.St := [.asg (.tp [(.nm 2), (.nm 3), (.nm 4)]) (.prim .tup [.con (.int 0), .con (.int 1), .con (.int 0)]),
    .whl (.prim .gt [.var 1, .con (.int 0)]) [.asg (.nm 5) (.prim .min2 [.var 3, .var 1]),
    .par [4, 1] [.prim .add [.var 4, .prim .mul [.var 2, .var 5]], .prim .sub [.var 1, .var 5]],
    .par [2, 3] [.prim .add [.var 2, .con (.int 1)], .prim .mul [.var 3, .var 0]]],
    .ret (.var 4)]
/-! _law_is_right -/
abbrev s31 : Stmt := topS 43
abbrev N31 : List Str := ["arms_here", "size_here", "word", "tree", "row", "level", "told", "sums_here", "one"]
abbrev P31 : List Str := ["arms_here", "size_here", "word"]
theorem sc31 : FnScope N31 P31 (defScope s31) := ⟨rfl, rfl, rfl, by decide +kernel, rfl, by decide +kernel, by decide +kernel⟩
def B31 : List Mini.St := [.asg (.nm 3) (.call 24 [.var 0, .var 2]),
    .ite (.not (.call 23 [.prim .lst [.call 9 [.var 0, .var 3], .call 11 [.var 0, .var 2]], .prim .lst [.var 2, .var 3]])) [.ret (.con (.bl false))] [],
    .asg (.nm 4) (.prim .lst []),
    .forr .seq [.call 26 [.var 3]] (.nm 5) [.ex (.prim .ext [.prim .lstI [.var 4], .comp .seq [.var 5] (.nm 8) (.con (.bl true)) (.prim .int1 [.prim .ntN [.var 8]]) [8]])],
    .asg (.nm 6) (.prim .lst [.call 15 [.var 0, .var 3], .call 16 [.var 0, .prim .tuple1 [.var 4]]]),
    .ite (.not (.call 23 [.var 6, .prim .lst [.prim .tuple1 [.var 4], .var 3]])) [.ret (.con (.bl false))] [],
    .asg (.nm 7) (.call 29 [.var 3]),
    .ite (.not (.call 23 [.prim .lst [.call 6 [.var 0, .var 3], .prim .tuple1 [.call 18 [.var 0, .var 3]]], .prim .lst [.var 1, .var 7]])) [.ret (.con (.bl false))] [],
    .ite (.prim .ne [.prim .ix [.var 7, .con (.int 1)], .prim .add [.prim .mul [.prim .sub [.var 0, .con (.int 1)], .prim .ix [.var 7, .con (.int 0)]], .prim .mul [.var 0, .var 1]]]) [.ret (.con (.bl false))] [],
    .ite (.and (.prim .gt [.var 0, .con (.int 1)]) (.prim .gt [.call 19 [.var 0, .var 1], .prim .ix [.var 7, .con (.int 0)]])) [.ret (.con (.bl false))] [],
    .ret (.prim .eq [.call 13 [.var 0, .var 1, .call 14 [.var 0, .var 3]], .var 3])]
/-! law -/
abbrev s32 : Stmt := topS 44
abbrev N32 : List Str := ["script", "hand", "turn", "arms_here", "size_here", "few", "rows", "at", "tree", "told", "great", "wide"]
abbrev P32 : List Str := ["script"]
theorem sc32 : FnScope N32 P32 (defScope s32) := ⟨rfl, rfl, rfl, by decide +kernel, rfl, by decide +kernel, by decide +kernel⟩
def B32 : List Mini.St := [.asg (.nm 1) (.call 20 [.var 0]),
    .ite (.prim .ne [.call 9 [.con (.int 2), .prim .tup [.prim .tup [.con .non, .con .non], .con .non]], .prim .tup [.con (.int 1), .con (.int 1), .con (.int 0), .con (.int 0)]]) [.ret (.con (.bl false))] [],
    .ite (.prim .ne [.call 15 [.con (.int 2), .prim .tup [.con .non, .prim .tup [.con .non, .con .non]]], .prim .tup [.con (.int 1), .con (.int 0), .con (.int 1), .con (.int 0), .con (.int 0)]]) [.ret (.con (.bl false))] [],
    .forr .rng1 [.con (.int 3)] (.nm 2) [.par [3, 4] [.prim .add [.con (.int 1), .call 21 [.var 1, .con (.int 6)]], .call 21 [.var 1, .con (.int 13)]],
    .ite (.not (.call 31 [.var 3, .var 4, .call 25 [.var 1, .var 3, .var 4]])) [.ret (.con (.bl false))] [],
    .asg (.nm 5) (.call 21 [.var 1, .prim .ix [.dsp [.con (.int 1), .con (.int 7), .con (.int 2), .con (.int 6), .con (.int 3), .con (.int 5), .con (.int 4), .con (.int 4), .con (.int 5), .con (.int 4), .con (.int 6), .con (.int 4)], .var 3]]),
    .asg (.nm 6) (.call 28 [.var 3, .var 5]),
    .asg (.nm 7) (.call 21 [.var 1, .prim .len [.var 6]]),
    .asg (.nm 8) (.call 24 [.var 3, .prim .ix [.var 6, .var 7]]),
    .asg (.nm 9) (.prim .lst [.call 13 [.var 3, .var 5, .var 7], .call 14 [.var 3, .var 8], .call 8 [.var 3, .var 5]]),
    .ite (.not (.call 23 [.var 9, .prim .lst [.var 8, .var 7, .prim .len [.var 6]]])) [.ret (.con (.bl false))] [],
    .asg (.nm 10) (.call 21 [.var 1, .con (.int 501)]),
    .asg (.nm 11) (.prim .add [.con (.int 1), .call 21 [.var 1, .con (.int 12)]]),
    .ite (.not (.call 23 [.call 8 [.var 11, .var 10], .call 27 [.var 11, .var 10]])) [.ret (.con (.bl false))] [],
    .asg (.nm 10) (.prim .mul [.call 21 [.var 1, .prim .pw [.con (.int 10), .con (.int 9)]], .call 22 [.var 1, .prim .lst [.con (.int 0), .con (.int 1), .prim .pw [.con (.int 10), .con (.int 20)]]]]),
    .asg (.nm 11) (.prim .add [.con (.int 2), .call 21 [.var 1, .con (.int 11)]]),
    .ite (.not (.call 23 [.call 19 [.var 11, .var 10], .call 30 [.var 11, .var 10]])) [.ret (.con (.bl false))] []],
    .ret (.con (.bl true))]
def FNS : List Mini.FnI := [⟨"is_integer", P0⟩, ⟨"is_within", P1⟩, ⟨"are_integers", P2⟩, ⟨"choose", P3⟩, ⟨"is_many_arms", P4⟩, ⟨"check_many", P5⟩, ⟨"forks", P6⟩, ⟨"forks_of", P7⟩, ⟨"fork_number", P8⟩, ⟨"open_word", P9⟩, ⟨"is_open_word", P10⟩, ⟨"tree_of_word", P11⟩, ⟨"ends_on", P12⟩, ⟨"many_arms_at", P13⟩, ⟨"tree_place", P14⟩, ⟨"level_word", P15⟩, ⟨"tree_of_levels", P16⟩, ⟨"put_up", P17⟩, ⟨"heights_sum", P18⟩, ⟨"least_sum", P19⟩, ⟨"_law_hand", P20⟩, ⟨"_law_draw", P21⟩, ⟨"_law_any", P22⟩, ⟨"_law_same", P23⟩, ⟨"_law_of_word", P24⟩, ⟨"_law_drawn_word", P25⟩, ⟨"_law_levels", P26⟩, ⟨"_law_number", P27⟩, ⟨"_law_words", P28⟩, ⟨"_law_sums", P29⟩, ⟨"_law_least", P30⟩, ⟨"_law_is_right", P31⟩, ⟨"law", P32⟩]
def TBL : List Mini.Def := [⟨1, 1, B0⟩, ⟨3, 3, B1⟩, ⟨2, 1, B2⟩, ⟨4, 2, B3⟩, ⟨7, 2, B4⟩, ⟨2, 2, B5⟩, ⟨2, 2, B6⟩, ⟨4, 1, B7⟩, ⟨2, 2, B8⟩, ⟨5, 2, B9⟩, ⟨4, 2, B10⟩, ⟨7, 2, B11⟩, ⟨4, 3, B12⟩, ⟨8, 3, B13⟩, ⟨7, 2, B14⟩, ⟨6, 2, B15⟩, ⟨5, 2, B16⟩, ⟨8, 2, B17⟩, ⟨8, 2, B18⟩, ⟨7, 2, B19⟩, ⟨2, 1, B20⟩, ⟨5, 2, B21⟩, ⟨2, 2, B22⟩, ⟨4, 2, B23⟩, ⟨5, 2, B24⟩, ⟨7, 3, B25⟩, ⟨4, 1, B26⟩, ⟨5, 2, B27⟩, ⟨8, 2, B28⟩, ⟨7, 1, B29⟩, ⟨6, 2, B30⟩, ⟨9, 3, B31⟩, ⟨12, 1, B32⟩]
/-- what the module holds -/
structure Mg (mg : Str → Option Value) : Prop where
  z_abs : mg "abs" = none
  z_all : mg "all" = none
  z_any : mg "any" = none
  z_bool : mg "bool" = none
  z_enumerate : mg "enumerate" = none
  z_int : mg "int" = none
  z_isinstance : mg "isinstance" = none
  z_len : mg "len" = none
  z_list : mg "list" = none
  z_min : mg "min" = none
  z_range : mg "range" = none
  z_reversed : mg "reversed" = none
  z_str : mg "str" = none
  z_tuple : mg "tuple" = none
  z_zip : mg "zip" = none
  c_MOST_ARMS : ∃ t u, valOf (.int 12) t = some u ∧ mg "MOST_ARMS" = some u
  c_MOST_DEEP : ∃ t u, valOf (.int 30) t = some u ∧ mg "MOST_DEEP" = some u
  c_MOST_FORKS : ∃ t u, valOf (.int 150) t = some u ∧ mg "MOST_FORKS" = some u
section
variable {G : Gx} {P : Program} {w : World} {mg : Str → Option Value} {base : Heap}
theorem cs0 (Z : Mg mg) (c : Cfg) (k : Nat) : CSs (bodyC G P w mg base FNS c N0 s0 k) (defBody s0) B0 := by
  have v_0 : ∀ {pos : Pos}, Mini.CE (bodyC G P w mg base FNS c N0 s0 k) (.Name "thing" pos) (.var 0) := fun {pos} => ce_var 0 (by rfl) (.inl (by kernel_rfl))
  exact cs_cons (cs_ret (ce_and (ce_isi ⟨(by kernel_rfl), Z.z_isinstance⟩ (tyN_int ⟨(by kernel_rfl), Z.z_int⟩) (v_0)) (ce_one (ce_not (ce_isi ⟨(by kernel_rfl), Z.z_isinstance⟩ (tyN_bool ⟨(by kernel_rfl), Z.z_bool⟩) (v_0)))))) (cs_nil)
theorem cs1 (Z : Mg mg) (c : Cfg) (k : Nat) : CSs (bodyC G P w mg base FNS c N1 s1 k) (defBody s1) B1 := by
  have v_0 : ∀ {pos : Pos}, Mini.CE (bodyC G P w mg base FNS c N1 s1 k) (.Name "thing" pos) (.var 0) := fun {pos} => ce_var 0 (by rfl) (.inl (by kernel_rfl))
  have v_1 : ∀ {pos : Pos}, Mini.CE (bodyC G P w mg base FNS c N1 s1 k) (.Name "low" pos) (.var 1) := fun {pos} => ce_var 1 (by rfl) (.inl (by kernel_rfl))
  have v_2 : ∀ {pos : Pos}, Mini.CE (bodyC G P w mg base FNS c N1 s1 k) (.Name "high" pos) (.var 2) := fun {pos} => ce_var 2 (by rfl) (.inl (by kernel_rfl))
  exact cs_cons (cs_ret (ce_and (ce_call (i := 0) (by rfl) (by rfl) (by kernel_rfl) (ca_cons (v_0) (ca_nil))) (ce_one (ce_lele (v_1) (v_0) (v_2))))) (cs_nil)
theorem cs2 (Z : Mg mg) (c : Cfg) (k : Nat) : CSs (bodyC G P w mg base FNS c N2 s2 k) (defBody s2) B2 := by
  have v_0 : ∀ {pos : Pos}, Mini.CE (bodyC G P w mg base FNS c N2 s2 k) (.Name "thing" pos) (.var 0) := fun {pos} => ce_var 0 (by rfl) (.inl (by kernel_rfl))
  exact cs_cons (cs_ret (ce_and (ce_isi ⟨(by kernel_rfl), Z.z_isinstance⟩ (tyN_tuple ⟨(by kernel_rfl), Z.z_tuple⟩) (v_0)) (ce_one (ce_all ⟨(by kernel_rfl), Z.z_all⟩ (ca_cons (ce_comp (own := [("item", 1)]) (ci_seq (v_0)) (blkOk_by (by kernel_rfl)) (cgt_nm (i := 1) (by rfl) (.inl (by kernel_rfl))) (cf_nil) (ce_call (i := 0) (by rfl) (by rfl) (by kernel_rfl) (ca_cons (ce_var 1 (by rfl) (.inl (by kernel_rfl))) (ca_nil))) (by decide)) (ca_nil)))))) (cs_nil)
theorem cs3 (Z : Mg mg) (c : Cfg) (k : Nat) : CSs (bodyC G P w mg base FNS c N3 s3 k) (defBody s3) B3 := by
  have v_0 : ∀ {pos : Pos}, Mini.CE (bodyC G P w mg base FNS c N3 s3 k) (.Name "many" pos) (.var 0) := fun {pos} => ce_var 0 (by rfl) (.inl (by kernel_rfl))
  have v_1 : ∀ {pos : Pos}, Mini.CE (bodyC G P w mg base FNS c N3 s3 k) (.Name "some" pos) (.var 1) := fun {pos} => ce_var 1 (by rfl) (.inl (by kernel_rfl))
  have v_2 : ∀ {pos : Pos}, Mini.CE (bodyC G P w mg base FNS c N3 s3 k) (.Name "found" pos) (.var 2) := fun {pos} => ce_var 2 (by rfl) (.inl (by kernel_rfl))
  have v_3 : ∀ {pos : Pos}, Mini.CE (bodyC G P w mg base FNS c N3 s3 k) (.Name "at" pos) (.var 3) := fun {pos} => ce_var 3 (by rfl) (.inl (by kernel_rfl))
  exact cs_cons (cs_ite (CW.ct (cw_or (ct_lt (v_1) (ce_int)) (cw_or1 (ct_gt (v_1) (v_0))))) (cs_cons (cs_ret (ce_int)) (cs_nil)) (cs_nil)) (cs_cons (cs_asg (ce_int) (cg_nm (i := 2) (by rfl) (.inl (by kernel_rfl)))) (cs_cons (cs_for (ci_rng1 ⟨(by kernel_rfl), Z.z_range⟩ (v_1)) (cgt_nm (i := 3) (by rfl) (.inl (by kernel_rfl))) (cs_cons (cs_asg (ce_fdv (ce_mul (v_2) (ce_sub (v_0) (v_3))) (ce_add (v_3) (ce_int))) (cg_nm (i := 2) (by rfl) (.inl (by kernel_rfl)))) (cs_nil))) (cs_cons (cs_ret (v_2)) (cs_nil))))
theorem cs4 (Z : Mg mg) (c : Cfg) (k : Nat) : CSs (bodyC G P w mg base FNS c N4 s4 k) (defBody s4) B4 := by
  have v_0 : ∀ {pos : Pos}, Mini.CE (bodyC G P w mg base FNS c N4 s4 k) (.Name "arms" pos) (.var 0) := fun {pos} => ce_var 0 (by rfl) (.inl (by kernel_rfl))
  have v_1 : ∀ {pos : Pos}, Mini.CE (bodyC G P w mg base FNS c N4 s4 k) (.Name "thing" pos) (.var 1) := fun {pos} => ce_var 1 (by rfl) (.inl (by kernel_rfl))
  have v_2 : ∀ {pos : Pos}, Mini.CE (bodyC G P w mg base FNS c N4 s4 k) (.Name "waiting" pos) (.var 2) := fun {pos} => ce_var 2 (by rfl) (.inl (by kernel_rfl))
  have v_3 : ∀ {pos : Pos}, Mini.CE (bodyC G P w mg base FNS c N4 s4 k) (.Name "seen" pos) (.var 3) := fun {pos} => ce_var 3 (by rfl) (.inl (by kernel_rfl))
  have v_4 : ∀ {pos : Pos}, Mini.CE (bodyC G P w mg base FNS c N4 s4 k) (.Name "here" pos) (.var 4) := fun {pos} => ce_var 4 (by rfl) (.inl (by kernel_rfl))
  have v_5 : ∀ {pos : Pos}, Mini.CE (bodyC G P w mg base FNS c N4 s4 k) (.Name "deep" pos) (.var 5) := fun {pos} => ce_var 5 (by rfl) (.inr (.inl (by kernel_rfl)))
  exact cs_cons (cs_ite (ct_not (ct_val (ce_call (i := 1) (by rfl) (by rfl) (by kernel_rfl) (ca_cons (v_0) (ca_cons (ce_int) (ca_cons (ce_glob (d := .int 12) (by kernel_rfl) Z.c_MOST_ARMS) (ca_nil))))))) (cs_cons (cs_never) (cs_nil)) (cs_nil)) (cs_cons (cs_par2 (i := 2) (j := 3) (by rfl) (by rfl) (by decide) (by kernel_rfl) (by kernel_rfl) (ca_cons (ce_lst (ca_cons (ce_tup (ca_cons (v_1) (ca_cons (ce_int) (ca_nil)))) (ca_nil))) (ca_cons (ce_int) (ca_nil))) (by intro env h; cases env; cases h; rfl)) (cs_cons (cs_whl (ct_ne (v_2) (ce_lst (ca_nil))) (cs_cons (cs_asg (ce_pop (v_2)) (cg_tp (cgs_cons (cg_nm (i := 4) (by rfl) (.inl (by kernel_rfl))) (cgs_cons (cg_nm (i := 5) (by rfl) (.inr ⟨(by kernel_rfl), by kernel_rfl⟩)) (cgs_nil))))) (cs_cons (cs_ite (ct_ntN (v_4)) (cs_cons (cs_asg (ce_add (v_3) (ce_int)) (cg_nm (i := 3) (by rfl) (.inl (by kernel_rfl)))) (cs_cons (cs_ite (CW.ct (cw_or (ct_not (ct_val (ce_isi ⟨(by kernel_rfl), Z.z_isinstance⟩ (tyN_tuple ⟨(by kernel_rfl), Z.z_tuple⟩) (v_4)))) (cw_or (ct_ne (ce_len ⟨(by kernel_rfl), Z.z_len⟩ (ca_cons (v_4) (ca_nil))) (v_0)) (cw_or (ct_gt (v_3) (ce_glob (d := .int 150) (by kernel_rfl) Z.c_MOST_FORKS)) (cw_or1 (ct_gt (v_5) (ce_glob (d := .int 30) (by kernel_rfl) Z.c_MOST_DEEP))))))) (cs_cons (cs_ret (ce_bl)) (cs_nil)) (cs_nil)) (cs_cons (cs_ex (ce_ext (v_2) (ce_comp (own := [("one", 6)]) (ci_seq (v_4)) (blkOk_by (by kernel_rfl)) (cgt_nm (i := 6) (by rfl) (.inl (by kernel_rfl))) (cf_nil) (ce_tup (ca_cons (ce_var 6 (by rfl) (.inl (by kernel_rfl))) (ca_cons (ce_add (ce_var 5 (by rfl) (.inr (.inl (by kernel_rfl)))) (ce_int)) (ca_nil)))) (by decide)))) (cs_nil)))) (cs_nil)) (cs_nil)))) (cs_cons (cs_ret (ce_bl)) (cs_nil))))
theorem cs5 (Z : Mg mg) (c : Cfg) (k : Nat) : CSs (bodyC G P w mg base FNS c N5 s5 k) (defBody s5) B5 := by
  have v_0 : ∀ {pos : Pos}, Mini.CE (bodyC G P w mg base FNS c N5 s5 k) (.Name "arms" pos) (.var 0) := fun {pos} => ce_var 0 (by rfl) (.inl (by kernel_rfl))
  have v_1 : ∀ {pos : Pos}, Mini.CE (bodyC G P w mg base FNS c N5 s5 k) (.Name "thing" pos) (.var 1) := fun {pos} => ce_var 1 (by rfl) (.inl (by kernel_rfl))
  exact cs_cons (cs_ite (ct_not (ct_val (ce_call (i := 4) (by rfl) (by rfl) (by kernel_rfl) (ca_cons (v_0) (ca_cons (v_1) (ca_nil)))))) (cs_cons (cs_never) (cs_nil)) (cs_nil)) (cs_nil)
theorem cs6 (Z : Mg mg) (c : Cfg) (k : Nat) : CSs (bodyC G P w mg base FNS c N6 s6 k) (defBody s6) B6 := by
  have v_0 : ∀ {pos : Pos}, Mini.CE (bodyC G P w mg base FNS c N6 s6 k) (.Name "arms" pos) (.var 0) := fun {pos} => ce_var 0 (by rfl) (.inl (by kernel_rfl))
  have v_1 : ∀ {pos : Pos}, Mini.CE (bodyC G P w mg base FNS c N6 s6 k) (.Name "tree" pos) (.var 1) := fun {pos} => ce_var 1 (by rfl) (.inl (by kernel_rfl))
  exact cs_cons (cs_ex (ce_call (i := 5) (by rfl) (by rfl) (by kernel_rfl) (ca_cons (v_0) (ca_cons (v_1) (ca_nil))))) (cs_cons (cs_ret (ce_call (i := 7) (by rfl) (by rfl) (by kernel_rfl) (ca_cons (v_1) (ca_nil)))) (cs_nil))
theorem cs7 (Z : Mg mg) (c : Cfg) (k : Nat) : CSs (bodyC G P w mg base FNS c N7 s7 k) (defBody s7) B7 := by
  have v_0 : ∀ {pos : Pos}, Mini.CE (bodyC G P w mg base FNS c N7 s7 k) (.Name "tree" pos) (.var 0) := fun {pos} => ce_var 0 (by rfl) (.inl (by kernel_rfl))
  have v_1 : ∀ {pos : Pos}, Mini.CE (bodyC G P w mg base FNS c N7 s7 k) (.Name "found" pos) (.var 1) := fun {pos} => ce_var 1 (by rfl) (.inl (by kernel_rfl))
  have v_2 : ∀ {pos : Pos}, Mini.CE (bodyC G P w mg base FNS c N7 s7 k) (.Name "waiting" pos) (.var 2) := fun {pos} => ce_var 2 (by rfl) (.inl (by kernel_rfl))
  have v_3 : ∀ {pos : Pos}, Mini.CE (bodyC G P w mg base FNS c N7 s7 k) (.Name "here" pos) (.var 3) := fun {pos} => ce_var 3 (by rfl) (.inl (by kernel_rfl))
  exact cs_cons (cs_par2 (i := 1) (j := 2) (by rfl) (by rfl) (by decide) (by kernel_rfl) (by kernel_rfl) (ca_cons (ce_int) (ca_cons (ce_lst (ca_cons (v_0) (ca_nil))) (ca_nil))) (by intro env h; cases env; cases h; rfl)) (cs_cons (cs_whl (ct_ne (v_2) (ce_lst (ca_nil))) (cs_cons (cs_asg (ce_pop (v_2)) (cg_nm (i := 3) (by rfl) (.inl (by kernel_rfl)))) (cs_cons (cs_ite (ct_ntN (v_3)) (cs_cons (cs_asg (ce_add (v_1) (ce_int)) (cg_nm (i := 1) (by rfl) (.inl (by kernel_rfl)))) (cs_cons (cs_ex (ce_ext (v_2) (ce_list1 ⟨(by kernel_rfl), Z.z_list⟩ (ca_cons (v_3) (ca_nil))))) (cs_nil))) (cs_nil)) (cs_nil)))) (cs_cons (cs_ret (v_1)) (cs_nil)))
theorem cs8 (Z : Mg mg) (c : Cfg) (k : Nat) : CSs (bodyC G P w mg base FNS c N8 s8 k) (defBody s8) B8 := by
  have v_0 : ∀ {pos : Pos}, Mini.CE (bodyC G P w mg base FNS c N8 s8 k) (.Name "arms" pos) (.var 0) := fun {pos} => ce_var 0 (by rfl) (.inl (by kernel_rfl))
  have v_1 : ∀ {pos : Pos}, Mini.CE (bodyC G P w mg base FNS c N8 s8 k) (.Name "many" pos) (.var 1) := fun {pos} => ce_var 1 (by rfl) (.inl (by kernel_rfl))
  exact cs_cons (cs_ite (CW.ct (cw_or (ct_not (ct_val (ce_call (i := 1) (by rfl) (by rfl) (by kernel_rfl) (ca_cons (v_0) (ca_cons (ce_int) (ca_cons (ce_glob (d := .int 12) (by kernel_rfl) Z.c_MOST_ARMS) (ca_nil))))))) (cw_or1 (ct_not (ct_val (ce_call (i := 1) (by rfl) (by rfl) (by kernel_rfl) (ca_cons (v_1) (ca_cons (ce_int) (ca_cons (ce_int) (ca_nil)))))))))) (cs_cons (cs_never) (cs_nil)) (cs_nil)) (cs_cons (cs_ret (ce_fdv (ce_call (i := 3) (by rfl) (by rfl) (by kernel_rfl) (ca_cons (ce_mul (v_0) (v_1)) (ca_cons (v_1) (ca_nil)))) (ce_add (ce_mul (ce_sub (v_0) (ce_int)) (v_1)) (ce_int)))) (cs_nil))
theorem cs9 (Z : Mg mg) (c : Cfg) (k : Nat) : CSs (bodyC G P w mg base FNS c N9 s9 k) (defBody s9) B9 := by
  have v_0 : ∀ {pos : Pos}, Mini.CE (bodyC G P w mg base FNS c N9 s9 k) (.Name "arms" pos) (.var 0) := fun {pos} => ce_var 0 (by rfl) (.inl (by kernel_rfl))
  have v_1 : ∀ {pos : Pos}, Mini.CE (bodyC G P w mg base FNS c N9 s9 k) (.Name "tree" pos) (.var 1) := fun {pos} => ce_var 1 (by rfl) (.inl (by kernel_rfl))
  have v_2 : ∀ {pos : Pos}, Mini.CE (bodyC G P w mg base FNS c N9 s9 k) (.Name "found" pos) (.var 2) := fun {pos} => ce_var 2 (by rfl) (.inl (by kernel_rfl))
  have v_3 : ∀ {pos : Pos}, Mini.CE (bodyC G P w mg base FNS c N9 s9 k) (.Name "waiting" pos) (.var 3) := fun {pos} => ce_var 3 (by rfl) (.inl (by kernel_rfl))
  have v_4 : ∀ {pos : Pos}, Mini.CE (bodyC G P w mg base FNS c N9 s9 k) (.Name "here" pos) (.var 4) := fun {pos} => ce_var 4 (by rfl) (.inl (by kernel_rfl))
  exact cs_cons (cs_ex (ce_call (i := 5) (by rfl) (by rfl) (by kernel_rfl) (ca_cons (v_0) (ca_cons (v_1) (ca_nil))))) (cs_cons (cs_par2 (i := 2) (j := 3) (by rfl) (by rfl) (by decide) (by kernel_rfl) (by kernel_rfl) (ca_cons (ce_lst (ca_nil)) (ca_cons (ce_lst (ca_cons (v_1) (ca_nil))) (ca_nil))) (by intro env h; cases env; cases h; rfl)) (cs_cons (cs_whl (ct_ne (v_3) (ce_lst (ca_nil))) (cs_cons (cs_asg (ce_pop (v_3)) (cg_nm (i := 4) (by rfl) (.inl (by kernel_rfl)))) (cs_cons (cs_ex (ce_app (v_2) (ce_ife (ct_isN (v_4)) (ce_int) (ce_int)))) (cs_cons (cs_ite (ct_ntN (v_4)) (cs_cons (cs_ex (ce_ext (v_3) (ce_listRev ⟨(by kernel_rfl), Z.z_list⟩ ⟨(by kernel_rfl), Z.z_reversed⟩ (v_4)))) (cs_nil)) (cs_nil)) (cs_nil))))) (cs_cons (cs_ret (ce_tuple1 ⟨(by kernel_rfl), Z.z_tuple⟩ (ca_cons (ce_sl01 (v_2) (ce_neg (ce_int))) (ca_nil)))) (cs_nil))))
theorem cs10 (Z : Mg mg) (c : Cfg) (k : Nat) : CSs (bodyC G P w mg base FNS c N10 s10 k) (defBody s10) B10 := by
  have v_0 : ∀ {pos : Pos}, Mini.CE (bodyC G P w mg base FNS c N10 s10 k) (.Name "arms" pos) (.var 0) := fun {pos} => ce_var 0 (by rfl) (.inl (by kernel_rfl))
  have v_1 : ∀ {pos : Pos}, Mini.CE (bodyC G P w mg base FNS c N10 s10 k) (.Name "thing" pos) (.var 1) := fun {pos} => ce_var 1 (by rfl) (.inl (by kernel_rfl))
  have v_2 : ∀ {pos : Pos}, Mini.CE (bodyC G P w mg base FNS c N10 s10 k) (.Name "one" pos) (.var 2) := fun {pos} => ce_var 2 (by rfl) (.inl (by kernel_rfl))
  have v_3 : ∀ {pos : Pos}, Mini.CE (bodyC G P w mg base FNS c N10 s10 k) (.Name "left" pos) (.var 3) := fun {pos} => ce_var 3 (by rfl) (.inl (by kernel_rfl))
  exact cs_cons (cs_ite (ct_not (ct_val (ce_call (i := 1) (by rfl) (by rfl) (by kernel_rfl) (ca_cons (v_0) (ca_cons (ce_int) (ca_cons (ce_glob (d := .int 12) (by kernel_rfl) Z.c_MOST_ARMS) (ca_nil))))))) (cs_cons (cs_never) (cs_nil)) (cs_nil)) (cs_cons (cs_ite (CW.ct (cw_or (ct_not (ct_val (ce_call (i := 2) (by rfl) (by rfl) (by kernel_rfl) (ca_cons (v_1) (ca_nil))))) (cw_or (ct_gt (ce_len ⟨(by kernel_rfl), Z.z_len⟩ (ca_cons (v_1) (ca_nil))) (ce_mul (ce_glob (d := .int 150) (by kernel_rfl) Z.c_MOST_FORKS) (ce_glob (d := .int 12) (by kernel_rfl) Z.c_MOST_ARMS))) (cw_or1 (ct_not (ct_val (ce_all ⟨(by kernel_rfl), Z.z_all⟩ (ca_cons (ce_comp (own := [("one", 2)]) (ci_seq (v_1)) (blkOk_by (by kernel_rfl)) (cgt_nm (i := 2) (by rfl) (.inl (by kernel_rfl))) (cf_nil) (ce_in (ce_var 2 (by rfl) (.inl (by kernel_rfl))) (ce_tup (ca_cons (ce_int) (ca_cons (ce_int) (ca_nil)))) (by with_unfolding_all rfl)) (by decide)) (ca_nil))))))))) (cs_cons (cs_ret (ce_bl)) (cs_nil)) (cs_nil)) (cs_cons (cs_asg (ce_int) (cg_nm (i := 3) (by rfl) (.inl (by kernel_rfl)))) (cs_cons (cs_for (ci_seq (v_1)) (cgt_nm (i := 2) (by rfl) (.inl (by kernel_rfl))) (cs_cons (cs_asg (ce_add (ce_sub (v_3) (ce_int)) (ce_mul (v_0) (v_2))) (cg_nm (i := 3) (by rfl) (.inl (by kernel_rfl)))) (cs_cons (cs_ite (ct_le (v_3) (ce_int)) (cs_cons (cs_ret (ce_bl)) (cs_nil)) (cs_nil)) (cs_nil)))) (cs_cons (cs_ret (ce_eq (v_3) (ce_int))) (cs_nil)))))
theorem cs11 (Z : Mg mg) (c : Cfg) (k : Nat) : CSs (bodyC G P w mg base FNS c N11 s11 k) (defBody s11) B11 := by
  have v_0 : ∀ {pos : Pos}, Mini.CE (bodyC G P w mg base FNS c N11 s11 k) (.Name "arms" pos) (.var 0) := fun {pos} => ce_var 0 (by rfl) (.inl (by kernel_rfl))
  have v_1 : ∀ {pos : Pos}, Mini.CE (bodyC G P w mg base FNS c N11 s11 k) (.Name "word" pos) (.var 1) := fun {pos} => ce_var 1 (by rfl) (.inl (by kernel_rfl))
  have v_2 : ∀ {pos : Pos}, Mini.CE (bodyC G P w mg base FNS c N11 s11 k) (.Name "stack" pos) (.var 2) := fun {pos} => ce_var 2 (by rfl) (.inr (.inl (by kernel_rfl)))
  have v_3 : ∀ {pos : Pos}, Mini.CE (bodyC G P w mg base FNS c N11 s11 k) (.Name "one" pos) (.var 3) := fun {pos} => ce_var 3 (by rfl) (.inl (by kernel_rfl))
  have v_4 : ∀ {pos : Pos}, Mini.CE (bodyC G P w mg base FNS c N11 s11 k) (.Name "part" pos) (.var 4) := fun {pos} => ce_var 4 (by rfl) (.inl (by kernel_rfl))
  have v_5 : ∀ {pos : Pos}, Mini.CE (bodyC G P w mg base FNS c N11 s11 k) (.Name "found" pos) (.var 5) := fun {pos} => ce_var 5 (by rfl) (.inl (by kernel_rfl))
  exact cs_cons (cs_ite (ct_not (ct_val (ce_call (i := 10) (by rfl) (by rfl) (by kernel_rfl) (ca_cons (v_0) (ca_cons (v_1) (ca_nil)))))) (cs_cons (cs_never) (cs_nil)) (cs_nil)) (cs_cons (cs_asg (ce_lst (ca_nil)) (cg_nm (i := 2) (by rfl) (.inr ⟨(by kernel_rfl), by kernel_rfl⟩))) (cs_cons (cs_for (ci_rev ⟨(by kernel_rfl), Z.z_reversed⟩ (ce_add (v_1) (ce_tup (ca_cons (ce_int) (ca_nil))))) (cgt_nm (i := 3) (by rfl) (.inl (by kernel_rfl))) (cs_cons (cs_ite (ct_eq (v_3) (ce_int)) (cs_cons (cs_ex (ce_app (v_2) (ce_non))) (cs_nil)) (cs_cons (cs_asg (ce_tuple1 ⟨(by kernel_rfl), Z.z_tuple⟩ (ca_cons (ce_comp (own := [("turn", 6)]) (ci_rng1 ⟨(by kernel_rfl), Z.z_range⟩ (v_0)) (blkOk_by (by kernel_rfl)) (cgt_nm (i := 6) (by rfl) (.inl (by kernel_rfl))) (cf_nil) (ce_pop (ce_var 2 (by rfl) (.inr (.inl (by kernel_rfl))))) (by decide)) (ca_nil))) (cg_nm (i := 4) (by rfl) (.inl (by kernel_rfl)))) (cs_cons (cs_ex (ce_app (v_2) (v_4))) (cs_nil)))) (cs_nil))) (cs_cons (cs_asg (ce_ix (v_2) (ce_neg (ce_int))) (cg_nm (i := 5) (by rfl) (.inl (by kernel_rfl)))) (cs_cons (cs_ite (ct_not (ct_val (ce_call (i := 4) (by rfl) (by rfl) (by kernel_rfl) (ca_cons (v_0) (ca_cons (v_5) (ca_nil)))))) (cs_cons (cs_never) (cs_nil)) (cs_nil)) (cs_cons (cs_ret (v_5)) (cs_nil))))))
theorem cs12 (Z : Mg mg) (c : Cfg) (k : Nat) : CSs (bodyC G P w mg base FNS c N12 s12 k) (defBody s12) B12 := by
  have v_0 : ∀ {pos : Pos}, Mini.CE (bodyC G P w mg base FNS c N12 s12 k) (.Name "arms" pos) (.var 0) := fun {pos} => ce_var 0 (by rfl) (.inl (by kernel_rfl))
  have v_1 : ∀ {pos : Pos}, Mini.CE (bodyC G P w mg base FNS c N12 s12 k) (.Name "length" pos) (.var 1) := fun {pos} => ce_var 1 (by rfl) (.inl (by kernel_rfl))
  have v_2 : ∀ {pos : Pos}, Mini.CE (bodyC G P w mg base FNS c N12 s12 k) (.Name "left" pos) (.var 2) := fun {pos} => ce_var 2 (by rfl) (.inl (by kernel_rfl))
  have v_3 : ∀ {pos : Pos}, Mini.CE (bodyC G P w mg base FNS c N12 s12 k) (.Name "many" pos) (.var 3) := fun {pos} => ce_var 3 (by rfl) (.inl (by kernel_rfl))
  exact cs_cons (cs_ite (CW.ct (cw_or (ct_lt (v_2) (ce_int)) (cw_or (ct_ne (ce_md (ce_add (ce_sub (v_1) (v_2)) (ce_int)) (v_0)) (ce_int)) (cw_or1 (ct_lt (v_1) (ce_sub (v_2) (ce_int))))))) (cs_cons (cs_ret (ce_int)) (cs_nil)) (cs_nil)) (cs_cons (cs_asg (ce_fdv (ce_add (ce_sub (v_1) (v_2)) (ce_int)) (v_0)) (cg_nm (i := 3) (by rfl) (.inl (by kernel_rfl)))) (cs_cons (cs_ret (ce_fdv (ce_mul (v_2) (ce_call (i := 3) (by rfl) (by rfl) (by kernel_rfl) (ca_cons (ce_add (v_1) (ce_int)) (ca_cons (v_3) (ca_nil))))) (ce_add (v_1) (ce_int)))) (cs_nil)))
theorem cs13 (Z : Mg mg) (c : Cfg) (k : Nat) : CSs (bodyC G P w mg base FNS c N13 s13 k) (defBody s13) B13 := by
  have v_0 : ∀ {pos : Pos}, Mini.CE (bodyC G P w mg base FNS c N13 s13 k) (.Name "arms" pos) (.var 0) := fun {pos} => ce_var 0 (by rfl) (.inl (by kernel_rfl))
  have v_1 : ∀ {pos : Pos}, Mini.CE (bodyC G P w mg base FNS c N13 s13 k) (.Name "many" pos) (.var 1) := fun {pos} => ce_var 1 (by rfl) (.inl (by kernel_rfl))
  have v_2 : ∀ {pos : Pos}, Mini.CE (bodyC G P w mg base FNS c N13 s13 k) (.Name "place" pos) (.var 2) := fun {pos} => ce_var 2 (by rfl) (.inl (by kernel_rfl))
  have v_3 : ∀ {pos : Pos}, Mini.CE (bodyC G P w mg base FNS c N13 s13 k) (.Name "found" pos) (.var 3) := fun {pos} => ce_var 3 (by rfl) (.inl (by kernel_rfl))
  have v_4 : ∀ {pos : Pos}, Mini.CE (bodyC G P w mg base FNS c N13 s13 k) (.Name "left" pos) (.var 4) := fun {pos} => ce_var 4 (by rfl) (.inl (by kernel_rfl))
  have v_5 : ∀ {pos : Pos}, Mini.CE (bodyC G P w mg base FNS c N13 s13 k) (.Name "here" pos) (.var 5) := fun {pos} => ce_var 5 (by rfl) (.inl (by kernel_rfl))
  have v_6 : ∀ {pos : Pos}, Mini.CE (bodyC G P w mg base FNS c N13 s13 k) (.Name "at" pos) (.var 6) := fun {pos} => ce_var 6 (by rfl) (.inl (by kernel_rfl))
  have v_7 : ∀ {pos : Pos}, Mini.CE (bodyC G P w mg base FNS c N13 s13 k) (.Name "some" pos) (.var 7) := fun {pos} => ce_var 7 (by rfl) (.inl (by kernel_rfl))
  exact cs_cons (cs_ite (CW.ct (cw_or (ct_not (ct_val (ce_call (i := 1) (by rfl) (by rfl) (by kernel_rfl) (ca_cons (v_0) (ca_cons (ce_int) (ca_cons (ce_glob (d := .int 12) (by kernel_rfl) Z.c_MOST_ARMS) (ca_nil))))))) (cw_or1 (ct_not (ct_val (ce_call (i := 1) (by rfl) (by rfl) (by kernel_rfl) (ca_cons (v_1) (ca_cons (ce_int) (ca_cons (ce_glob (d := .int 30) (by kernel_rfl) Z.c_MOST_DEEP) (ca_nil)))))))))) (cs_cons (cs_never) (cs_nil)) (cs_nil)) (cs_cons (cs_ite (CW.ct (cw_or (ct_not (ct_val (ce_call (i := 0) (by rfl) (by rfl) (by kernel_rfl) (ca_cons (v_2) (ca_nil))))) (cw_or1 (ct_not (ct_lelt (ce_int) (v_2) (ce_fdv (ce_call (i := 3) (by rfl) (by rfl) (by kernel_rfl) (ca_cons (ce_mul (v_0) (v_1)) (ca_cons (v_1) (ca_nil)))) (ce_add (ce_mul (ce_sub (v_0) (ce_int)) (v_1)) (ce_int)))))))) (cs_cons (cs_never) (cs_nil)) (cs_nil)) (cs_cons (cs_par3 (i := 3) (j := 4) (l := 5) (by rfl) (by rfl) (by rfl) (by decide) (by decide) (by decide) (by kernel_rfl) (by kernel_rfl) (by kernel_rfl) (ca_cons (ce_lst (ca_nil)) (ca_cons (ce_int) (ca_cons (v_2) (ca_nil)))) (by intro env h; cases env; cases h; rfl)) (cs_cons (cs_for (ci_rng1 ⟨(by kernel_rfl), Z.z_range⟩ (ce_mul (v_0) (v_1))) (cgt_nm (i := 6) (by rfl) (.inl (by kernel_rfl))) (cs_cons (cs_asg (ce_call (i := 12) (by rfl) (by rfl) (by kernel_rfl) (ca_cons (v_0) (ca_cons (ce_sub (ce_sub (ce_mul (v_0) (v_1)) (v_6)) (ce_int)) (ca_cons (ce_sub (v_4) (ce_int)) (ca_nil))))) (cg_nm (i := 7) (by rfl) (.inl (by kernel_rfl)))) (cs_cons (cs_ite (ct_lt (v_5) (v_7)) (cs_cons (cs_ex (ce_app (v_3) (ce_int))) (cs_cons (cs_asg (ce_sub (v_4) (ce_int)) (cg_nm (i := 4) (by rfl) (.inl (by kernel_rfl)))) (cs_nil))) (cs_cons (cs_asg (ce_sub (v_5) (v_7)) (cg_nm (i := 5) (by rfl) (.inl (by kernel_rfl)))) (cs_cons (cs_ex (ce_app (v_3) (ce_int))) (cs_cons (cs_asg (ce_add (ce_sub (v_4) (ce_int)) (v_0)) (cg_nm (i := 4) (by rfl) (.inl (by kernel_rfl)))) (cs_nil))))) (cs_nil)))) (cs_cons (cs_ret (ce_call (i := 11) (by rfl) (by rfl) (by kernel_rfl) (ca_cons (v_0) (ca_cons (ce_tuple1 ⟨(by kernel_rfl), Z.z_tuple⟩ (ca_cons (v_3) (ca_nil))) (ca_nil))))) (cs_nil)))))
theorem cs14 (Z : Mg mg) (c : Cfg) (k : Nat) : CSs (bodyC G P w mg base FNS c N14 s14 k) (defBody s14) B14 := by
  have v_0 : ∀ {pos : Pos}, Mini.CE (bodyC G P w mg base FNS c N14 s14 k) (.Name "arms" pos) (.var 0) := fun {pos} => ce_var 0 (by rfl) (.inl (by kernel_rfl))
  have v_1 : ∀ {pos : Pos}, Mini.CE (bodyC G P w mg base FNS c N14 s14 k) (.Name "tree" pos) (.var 1) := fun {pos} => ce_var 1 (by rfl) (.inl (by kernel_rfl))
  have v_2 : ∀ {pos : Pos}, Mini.CE (bodyC G P w mg base FNS c N14 s14 k) (.Name "word" pos) (.var 2) := fun {pos} => ce_var 2 (by rfl) (.inl (by kernel_rfl))
  have v_3 : ∀ {pos : Pos}, Mini.CE (bodyC G P w mg base FNS c N14 s14 k) (.Name "found" pos) (.var 3) := fun {pos} => ce_var 3 (by rfl) (.inl (by kernel_rfl))
  have v_4 : ∀ {pos : Pos}, Mini.CE (bodyC G P w mg base FNS c N14 s14 k) (.Name "left" pos) (.var 4) := fun {pos} => ce_var 4 (by rfl) (.inl (by kernel_rfl))
  have v_5 : ∀ {pos : Pos}, Mini.CE (bodyC G P w mg base FNS c N14 s14 k) (.Name "at" pos) (.var 5) := fun {pos} => ce_var 5 (by rfl) (.inl (by kernel_rfl))
  have v_6 : ∀ {pos : Pos}, Mini.CE (bodyC G P w mg base FNS c N14 s14 k) (.Name "one" pos) (.var 6) := fun {pos} => ce_var 6 (by rfl) (.inl (by kernel_rfl))
  exact cs_cons (cs_asg (ce_call (i := 9) (by rfl) (by rfl) (by kernel_rfl) (ca_cons (v_0) (ca_cons (v_1) (ca_nil)))) (cg_nm (i := 2) (by rfl) (.inl (by kernel_rfl)))) (cs_cons (cs_asg (ce_tup (ca_cons (ce_int) (ca_cons (ce_int) (ca_nil)))) (cg_tp (cgs_cons (cg_nm (i := 3) (by rfl) (.inl (by kernel_rfl))) (cgs_cons (cg_nm (i := 4) (by rfl) (.inl (by kernel_rfl))) (cgs_nil))))) (cs_cons (cs_for (ci_enu ⟨(by kernel_rfl), Z.z_enumerate⟩ (ca_cons (v_2) (ca_nil))) (cgt_tp (cgts_cons (cgt_nm (i := 5) (by rfl) (.inl (by kernel_rfl))) (cgts_cons (cgt_nm (i := 6) (by rfl) (.inl (by kernel_rfl))) (cgts_nil)))) (cs_cons (cs_ite (ct_eq (v_6) (ce_int)) (cs_cons (cs_asg (ce_add (v_3) (ce_call (i := 12) (by rfl) (by rfl) (by kernel_rfl) (ca_cons (v_0) (ca_cons (ce_sub (ce_sub (ce_len ⟨(by kernel_rfl), Z.z_len⟩ (ca_cons (v_2) (ca_nil))) (v_5)) (ce_int)) (ca_cons (ce_sub (v_4) (ce_int)) (ca_nil)))))) (cg_nm (i := 3) (by rfl) (.inl (by kernel_rfl)))) (cs_nil)) (cs_nil)) (cs_cons (cs_asg (ce_add (ce_sub (v_4) (ce_int)) (ce_mul (v_0) (v_6))) (cg_nm (i := 4) (by rfl) (.inl (by kernel_rfl)))) (cs_nil)))) (cs_cons (cs_ret (v_3)) (cs_nil))))
theorem cs15 (Z : Mg mg) (c : Cfg) (k : Nat) : CSs (bodyC G P w mg base FNS c N15 s15 k) (defBody s15) B15 := by
  have v_0 : ∀ {pos : Pos}, Mini.CE (bodyC G P w mg base FNS c N15 s15 k) (.Name "arms" pos) (.var 0) := fun {pos} => ce_var 0 (by rfl) (.inl (by kernel_rfl))
  have v_1 : ∀ {pos : Pos}, Mini.CE (bodyC G P w mg base FNS c N15 s15 k) (.Name "tree" pos) (.var 1) := fun {pos} => ce_var 1 (by rfl) (.inl (by kernel_rfl))
  have v_2 : ∀ {pos : Pos}, Mini.CE (bodyC G P w mg base FNS c N15 s15 k) (.Name "found" pos) (.var 2) := fun {pos} => ce_var 2 (by rfl) (.inl (by kernel_rfl))
  have v_3 : ∀ {pos : Pos}, Mini.CE (bodyC G P w mg base FNS c N15 s15 k) (.Name "waiting" pos) (.var 3) := fun {pos} => ce_var 3 (by rfl) (.inl (by kernel_rfl))
  have v_4 : ∀ {pos : Pos}, Mini.CE (bodyC G P w mg base FNS c N15 s15 k) (.Name "at" pos) (.var 4) := fun {pos} => ce_var 4 (by rfl) (.inl (by kernel_rfl))
  have v_5 : ∀ {pos : Pos}, Mini.CE (bodyC G P w mg base FNS c N15 s15 k) (.Name "here" pos) (.var 5) := fun {pos} => ce_var 5 (by rfl) (.inl (by kernel_rfl))
  exact cs_cons (cs_ex (ce_call (i := 5) (by rfl) (by rfl) (by kernel_rfl) (ca_cons (v_0) (ca_cons (v_1) (ca_nil))))) (cs_cons (cs_par3 (i := 2) (j := 3) (l := 4) (by rfl) (by rfl) (by rfl) (by decide) (by decide) (by decide) (by kernel_rfl) (by kernel_rfl) (by kernel_rfl) (ca_cons (ce_lst (ca_nil)) (ca_cons (ce_lst (ca_cons (v_1) (ca_nil))) (ca_cons (ce_int) (ca_nil)))) (by intro env h; cases env; cases h; rfl)) (cs_cons (cs_whl (ct_lt (v_4) (ce_len ⟨(by kernel_rfl), Z.z_len⟩ (ca_cons (v_3) (ca_nil)))) (cs_cons (cs_asg (ce_ix (v_3) (v_4)) (cg_nm (i := 5) (by rfl) (.inl (by kernel_rfl)))) (cs_cons (cs_asg (ce_add (v_4) (ce_int)) (cg_nm (i := 4) (by rfl) (.inl (by kernel_rfl)))) (cs_cons (cs_ex (ce_app (v_2) (ce_ife (ct_isN (v_5)) (ce_int) (ce_int)))) (cs_cons (cs_ite (ct_ntN (v_5)) (cs_cons (cs_ex (ce_ext (v_3) (ce_list1 ⟨(by kernel_rfl), Z.z_list⟩ (ca_cons (v_5) (ca_nil))))) (cs_nil)) (cs_nil)) (cs_nil)))))) (cs_cons (cs_ret (ce_tuple1 ⟨(by kernel_rfl), Z.z_tuple⟩ (ca_cons (v_2) (ca_nil)))) (cs_nil))))
theorem cs16 (Z : Mg mg) (c : Cfg) (k : Nat) : CSs (bodyC G P w mg base FNS c N16 s16 k) (defBody s16) B16 := by
  have v_0 : ∀ {pos : Pos}, Mini.CE (bodyC G P w mg base FNS c N16 s16 k) (.Name "arms" pos) (.var 0) := fun {pos} => ce_var 0 (by rfl) (.inl (by kernel_rfl))
  have v_1 : ∀ {pos : Pos}, Mini.CE (bodyC G P w mg base FNS c N16 s16 k) (.Name "word" pos) (.var 1) := fun {pos} => ce_var 1 (by rfl) (.inl (by kernel_rfl))
  have v_2 : ∀ {pos : Pos}, Mini.CE (bodyC G P w mg base FNS c N16 s16 k) (.Name "one" pos) (.var 2) := fun {pos} => ce_var 2 (by rfl) (.inl (by kernel_rfl))
  have v_3 : ∀ {pos : Pos}, Mini.CE (bodyC G P w mg base FNS c N16 s16 k) (.Name "open_places" pos) (.var 3) := fun {pos} => ce_var 3 (by rfl) (.inl (by kernel_rfl))
  have v_4 : ∀ {pos : Pos}, Mini.CE (bodyC G P w mg base FNS c N16 s16 k) (.Name "at" pos) (.var 4) := fun {pos} => ce_var 4 (by rfl) (.inl (by kernel_rfl))
  exact cs_cons (cs_ite (ct_not (ct_val (ce_call (i := 1) (by rfl) (by rfl) (by kernel_rfl) (ca_cons (v_0) (ca_cons (ce_int) (ca_cons (ce_glob (d := .int 12) (by kernel_rfl) Z.c_MOST_ARMS) (ca_nil))))))) (cs_cons (cs_never) (cs_nil)) (cs_nil)) (cs_cons (cs_ite (CW.ct (cw_or (ct_not (ct_val (ce_call (i := 2) (by rfl) (by rfl) (by kernel_rfl) (ca_cons (v_1) (ca_nil))))) (cw_or (ct_not (ct_val (ce_all ⟨(by kernel_rfl), Z.z_all⟩ (ca_cons (ce_comp (own := [("one", 2)]) (ci_seq (v_1)) (blkOk_by (by kernel_rfl)) (cgt_nm (i := 2) (by rfl) (.inl (by kernel_rfl))) (cf_nil) (ce_in (ce_var 2 (by rfl) (.inl (by kernel_rfl))) (ce_tup (ca_cons (ce_int) (ca_cons (ce_int) (ca_nil)))) (by with_unfolding_all rfl)) (by decide)) (ca_nil))))) (cw_or1 (ct_gt (ce_len ⟨(by kernel_rfl), Z.z_len⟩ (ca_cons (v_1) (ca_nil))) (ce_mul (ce_glob (d := .int 150) (by kernel_rfl) Z.c_MOST_FORKS) (ce_glob (d := .int 12) (by kernel_rfl) Z.c_MOST_ARMS))))))) (cs_cons (cs_never) (cs_nil)) (cs_nil)) (cs_cons (cs_asg (ce_int) (cg_nm (i := 3) (by rfl) (.inl (by kernel_rfl)))) (cs_cons (cs_for (ci_enu ⟨(by kernel_rfl), Z.z_enumerate⟩ (ca_cons (v_1) (ca_nil))) (cgt_tp (cgts_cons (cgt_nm (i := 4) (by rfl) (.inl (by kernel_rfl))) (cgts_cons (cgt_nm (i := 2) (by rfl) (.inl (by kernel_rfl))) (cgts_nil)))) (cs_cons (cs_ite (ct_ge (v_4) (v_3)) (cs_cons (cs_never) (cs_nil)) (cs_nil)) (cs_cons (cs_asg (ce_add (v_3) (ce_mul (v_0) (v_2))) (cg_nm (i := 3) (by rfl) (.inl (by kernel_rfl)))) (cs_nil)))) (cs_cons (cs_ite (ct_ne (v_3) (ce_len ⟨(by kernel_rfl), Z.z_len⟩ (ca_cons (v_1) (ca_nil)))) (cs_cons (cs_never) (cs_nil)) (cs_nil)) (cs_cons (cs_ret (ce_call (i := 17) (by rfl) (by rfl) (by kernel_rfl) (ca_cons (v_0) (ca_cons (v_1) (ca_nil))))) (cs_nil))))))
theorem cs17 (Z : Mg mg) (c : Cfg) (k : Nat) : CSs (bodyC G P w mg base FNS c N17 s17 k) (defBody s17) B17 := by
  have v_0 : ∀ {pos : Pos}, Mini.CE (bodyC G P w mg base FNS c N17 s17 k) (.Name "arms" pos) (.var 0) := fun {pos} => ce_var 0 (by rfl) (.inl (by kernel_rfl))
  have v_1 : ∀ {pos : Pos}, Mini.CE (bodyC G P w mg base FNS c N17 s17 k) (.Name "word" pos) (.var 1) := fun {pos} => ce_var 1 (by rfl) (.inl (by kernel_rfl))
  have v_2 : ∀ {pos : Pos}, Mini.CE (bodyC G P w mg base FNS c N17 s17 k) (.Name "firsts" pos) (.var 2) := fun {pos} => ce_var 2 (by rfl) (.inr (.inl (by kernel_rfl)))
  have v_3 : ∀ {pos : Pos}, Mini.CE (bodyC G P w mg base FNS c N17 s17 k) (.Name "here" pos) (.var 3) := fun {pos} => ce_var 3 (by rfl) (.inl (by kernel_rfl))
  have v_4 : ∀ {pos : Pos}, Mini.CE (bodyC G P w mg base FNS c N17 s17 k) (.Name "at" pos) (.var 4) := fun {pos} => ce_var 4 (by rfl) (.inr (.inl (by kernel_rfl)))
  have v_5 : ∀ {pos : Pos}, Mini.CE (bodyC G P w mg base FNS c N17 s17 k) (.Name "one" pos) (.var 5) := fun {pos} => ce_var 5 (by rfl) (.inl (by kernel_rfl))
  have v_6 : ∀ {pos : Pos}, Mini.CE (bodyC G P w mg base FNS c N17 s17 k) (.Name "found" pos) (.var 6) := fun {pos} => ce_var 6 (by rfl) (.inr (.inl (by kernel_rfl)))
  exact cs_cons (cs_asg (ce_tup (ca_cons (ce_dnew) (ca_cons (ce_int) (ca_nil)))) (cg_tp (cgs_cons (cg_nm (i := 2) (by rfl) (.inr ⟨(by kernel_rfl), by kernel_rfl⟩)) (cgs_cons (cg_nm (i := 3) (by rfl) (.inl (by kernel_rfl))) (cgs_nil))))) (cs_cons (cs_for (ci_enu ⟨(by kernel_rfl), Z.z_enumerate⟩ (ca_cons (v_1) (ca_nil))) (cgt_tp (cgts_cons (cgt_nm (i := 4) (by rfl) (.inr ⟨(by kernel_rfl), by kernel_rfl⟩)) (cgts_cons (cgt_nm (i := 5) (by rfl) (.inl (by kernel_rfl))) (cgts_nil)))) (cs_cons (cs_ite (ct_eq (v_5) (ce_int)) (cs_cons (cs_asg (v_3) (cg_sub (v_2) (v_4))) (cs_cons (cs_asg (ce_add (v_3) (v_0)) (cg_nm (i := 3) (by rfl) (.inl (by kernel_rfl)))) (cs_nil))) (cs_nil)) (cs_nil))) (cs_cons (cs_asg (ce_dnew) (cg_nm (i := 6) (by rfl) (.inr ⟨(by kernel_rfl), by kernel_rfl⟩))) (cs_cons (cs_for (ci_rng3 ⟨(by kernel_rfl), Z.z_range⟩ (ca_cons (ce_sub (ce_len ⟨(by kernel_rfl), Z.z_len⟩ (ca_cons (v_1) (ca_nil))) (ce_int)) (ca_cons (ce_neg (ce_int)) (ca_cons (ce_neg (ce_int)) (ca_nil))))) (cgt_nm (i := 4) (by rfl) (.inr ⟨(by kernel_rfl), by kernel_rfl⟩)) (cs_cons (cs_asg (ce_ife (ct_eq (ce_ix (v_1) (v_4)) (ce_int)) (ce_non) (ce_tuple1 ⟨(by kernel_rfl), Z.z_tuple⟩ (ca_cons (ce_comp (own := [("k", 7)]) (ci_rng1 ⟨(by kernel_rfl), Z.z_range⟩ (v_0)) (blkOk_by (by kernel_rfl)) (cgt_nm (i := 7) (by rfl) (.inl (by kernel_rfl))) (cf_nil) (ce_ix (ce_var 6 (by rfl) (.inr (.inl (by kernel_rfl)))) (ce_add (ce_ix (ce_var 2 (by rfl) (.inr (.inl (by kernel_rfl)))) (ce_var 4 (by rfl) (.inr (.inl (by kernel_rfl))))) (ce_var 7 (by rfl) (.inl (by kernel_rfl))))) (by decide)) (ca_nil)))) (cg_sub (v_6) (v_4))) (cs_nil))) (cs_cons (cs_ite (ct_not (ct_val (ce_call (i := 4) (by rfl) (by rfl) (by kernel_rfl) (ca_cons (v_0) (ca_cons (ce_ix (v_6) (ce_int)) (ca_nil)))))) (cs_cons (cs_never) (cs_nil)) (cs_nil)) (cs_cons (cs_ret (ce_ix (v_6) (ce_int))) (cs_nil))))))
theorem cs18 (Z : Mg mg) (c : Cfg) (k : Nat) : CSs (bodyC G P w mg base FNS c N18 s18 k) (defBody s18) B18 := by
  have v_0 : ∀ {pos : Pos}, Mini.CE (bodyC G P w mg base FNS c N18 s18 k) (.Name "arms" pos) (.var 0) := fun {pos} => ce_var 0 (by rfl) (.inl (by kernel_rfl))
  have v_1 : ∀ {pos : Pos}, Mini.CE (bodyC G P w mg base FNS c N18 s18 k) (.Name "tree" pos) (.var 1) := fun {pos} => ce_var 1 (by rfl) (.inl (by kernel_rfl))
  have v_2 : ∀ {pos : Pos}, Mini.CE (bodyC G P w mg base FNS c N18 s18 k) (.Name "inner" pos) (.var 2) := fun {pos} => ce_var 2 (by rfl) (.inl (by kernel_rfl))
  have v_3 : ∀ {pos : Pos}, Mini.CE (bodyC G P w mg base FNS c N18 s18 k) (.Name "outer" pos) (.var 3) := fun {pos} => ce_var 3 (by rfl) (.inl (by kernel_rfl))
  have v_4 : ∀ {pos : Pos}, Mini.CE (bodyC G P w mg base FNS c N18 s18 k) (.Name "waiting" pos) (.var 4) := fun {pos} => ce_var 4 (by rfl) (.inl (by kernel_rfl))
  have v_5 : ∀ {pos : Pos}, Mini.CE (bodyC G P w mg base FNS c N18 s18 k) (.Name "here" pos) (.var 5) := fun {pos} => ce_var 5 (by rfl) (.inl (by kernel_rfl))
  have v_6 : ∀ {pos : Pos}, Mini.CE (bodyC G P w mg base FNS c N18 s18 k) (.Name "deep" pos) (.var 6) := fun {pos} => ce_var 6 (by rfl) (.inr (.inl (by kernel_rfl)))
  exact cs_cons (cs_ex (ce_call (i := 5) (by rfl) (by rfl) (by kernel_rfl) (ca_cons (v_0) (ca_cons (v_1) (ca_nil))))) (cs_cons (cs_par3 (i := 2) (j := 3) (l := 4) (by rfl) (by rfl) (by rfl) (by decide) (by decide) (by decide) (by kernel_rfl) (by kernel_rfl) (by kernel_rfl) (ca_cons (ce_int) (ca_cons (ce_int) (ca_cons (ce_lst (ca_cons (ce_tup (ca_cons (v_1) (ca_cons (ce_int) (ca_nil)))) (ca_nil))) (ca_nil)))) (by intro env h; cases env; cases h; rfl)) (cs_cons (cs_whl (ct_ne (v_4) (ce_lst (ca_nil))) (cs_cons (cs_asg (ce_pop (v_4)) (cg_tp (cgs_cons (cg_nm (i := 5) (by rfl) (.inl (by kernel_rfl))) (cgs_cons (cg_nm (i := 6) (by rfl) (.inr ⟨(by kernel_rfl), by kernel_rfl⟩)) (cgs_nil))))) (cs_cons (cs_ite (ct_isN (v_5)) (cs_cons (cs_asg (ce_add (v_3) (v_6)) (cg_nm (i := 3) (by rfl) (.inl (by kernel_rfl)))) (cs_nil)) (cs_cons (cs_asg (ce_add (v_2) (v_6)) (cg_nm (i := 2) (by rfl) (.inl (by kernel_rfl)))) (cs_cons (cs_ex (ce_ext (v_4) (ce_comp (own := [("one", 7)]) (ci_seq (v_5)) (blkOk_by (by kernel_rfl)) (cgt_nm (i := 7) (by rfl) (.inl (by kernel_rfl))) (cf_nil) (ce_tup (ca_cons (ce_var 7 (by rfl) (.inl (by kernel_rfl))) (ca_cons (ce_add (ce_var 6 (by rfl) (.inr (.inl (by kernel_rfl)))) (ce_int)) (ca_nil)))) (by decide)))) (cs_nil)))) (cs_nil)))) (cs_cons (cs_ret (ce_tup (ca_cons (v_2) (ca_cons (v_3) (ca_nil))))) (cs_nil))))
theorem cs19 (Z : Mg mg) (c : Cfg) (k : Nat) : CSs (bodyC G P w mg base FNS c N19 s19 k) (defBody s19) B19 := by
  have v_0 : ∀ {pos : Pos}, Mini.CE (bodyC G P w mg base FNS c N19 s19 k) (.Name "arms" pos) (.var 0) := fun {pos} => ce_var 0 (by rfl) (.inl (by kernel_rfl))
  have v_1 : ∀ {pos : Pos}, Mini.CE (bodyC G P w mg base FNS c N19 s19 k) (.Name "many" pos) (.var 1) := fun {pos} => ce_var 1 (by rfl) (.inl (by kernel_rfl))
  have v_2 : ∀ {pos : Pos}, Mini.CE (bodyC G P w mg base FNS c N19 s19 k) (.Name "found" pos) (.var 2) := fun {pos} => ce_var 2 (by rfl) (.inl (by kernel_rfl))
  have v_3 : ∀ {pos : Pos}, Mini.CE (bodyC G P w mg base FNS c N19 s19 k) (.Name "level" pos) (.var 3) := fun {pos} => ce_var 3 (by rfl) (.inl (by kernel_rfl))
  have v_4 : ∀ {pos : Pos}, Mini.CE (bodyC G P w mg base FNS c N19 s19 k) (.Name "room" pos) (.var 4) := fun {pos} => ce_var 4 (by rfl) (.inl (by kernel_rfl))
  have v_5 : ∀ {pos : Pos}, Mini.CE (bodyC G P w mg base FNS c N19 s19 k) (.Name "left" pos) (.var 5) := fun {pos} => ce_var 5 (by rfl) (.inl (by kernel_rfl))
  have v_6 : ∀ {pos : Pos}, Mini.CE (bodyC G P w mg base FNS c N19 s19 k) (.Name "here" pos) (.var 6) := fun {pos} => ce_var 6 (by rfl) (.inl (by kernel_rfl))
  exact cs_cons (cs_ite (CW.ct (cw_or (ct_not (ct_val (ce_call (i := 1) (by rfl) (by rfl) (by kernel_rfl) (ca_cons (v_0) (ca_cons (ce_int) (ca_cons (ce_glob (d := .int 12) (by kernel_rfl) Z.c_MOST_ARMS) (ca_nil))))))) (cw_or1 (ct_not (ct_val (ce_call (i := 1) (by rfl) (by rfl) (by kernel_rfl) (ca_cons (v_1) (ca_cons (ce_int) (ca_cons (ce_pw (ce_int) (ce_int)) (ca_nil)))))))))) (cs_cons (cs_never) (cs_nil)) (cs_nil)) (cs_cons (cs_asg (ce_tup (ca_cons (ce_int) (ca_cons (ce_int) (ca_cons (ce_int) (ca_cons (v_1) (ca_nil)))))) (cg_tp (cgs_cons (cg_nm (i := 2) (by rfl) (.inl (by kernel_rfl))) (cgs_cons (cg_nm (i := 3) (by rfl) (.inl (by kernel_rfl))) (cgs_cons (cg_nm (i := 4) (by rfl) (.inl (by kernel_rfl))) (cgs_cons (cg_nm (i := 5) (by rfl) (.inl (by kernel_rfl))) (cgs_nil))))))) (cs_cons (cs_whl (ct_gt (v_5) (ce_int)) (cs_cons (cs_asg (ce_min2 ⟨(by kernel_rfl), Z.z_min⟩ (ca_cons (v_5) (ca_cons (v_4) (ca_nil)))) (cg_nm (i := 6) (by rfl) (.inl (by kernel_rfl)))) (cs_cons (cs_par2 (i := 2) (j := 5) (by rfl) (by rfl) (by decide) (by kernel_rfl) (by kernel_rfl) (ca_cons (ce_add (v_2) (ce_mul (v_6) (v_3))) (ca_cons (ce_sub (v_5) (v_6)) (ca_nil))) (by intro env h; cases env; cases h; rfl)) (cs_cons (cs_par2 (i := 3) (j := 4) (by rfl) (by rfl) (by decide) (by kernel_rfl) (by kernel_rfl) (ca_cons (ce_add (v_3) (ce_int)) (ca_cons (ce_mul (v_4) (v_0)) (ca_nil))) (by intro env h; cases env; cases h; rfl)) (cs_nil))))) (cs_cons (cs_ret (v_2)) (cs_nil))))
theorem cs20 (Z : Mg mg) (c : Cfg) (k : Nat) : CSs (bodyC G P w mg base FNS c N20 s20 k) (defBody s20) B20 := by
  have v_0 : ∀ {pos : Pos}, Mini.CE (bodyC G P w mg base FNS c N20 s20 k) (.Name "script" pos) (.var 0) := fun {pos} => ce_var 0 (by rfl) (.inl (by kernel_rfl))
  exact cs_cons (cs_ret (ce_lst (ca_cons (ce_comp (own := [("cell", 1)]) (ci_seq (ce_sl01 (v_0) (ce_int))) (blkOk_by (by kernel_rfl)) (cgt_nm (i := 1) (by rfl) (.inl (by kernel_rfl))) (cf_nil) (ce_abs ⟨(by kernel_rfl), Z.z_abs⟩ (ca_cons (ce_int1 ⟨(by kernel_rfl), Z.z_int⟩ (ca_cons (ce_var 1 (by rfl) (.inl (by kernel_rfl))) (ca_nil))) (ca_nil))) (by decide)) (ca_cons (ce_int) (ca_cons (ce_int) (ca_cons (ce_add (ce_int) (ce_mul (ce_int) (ce_len ⟨(by kernel_rfl), Z.z_len⟩ (ca_cons (ce_sl01 (v_0) (ce_int)) (ca_nil))))) (ca_cons (ce_int) (ca_nil)))))))) (cs_nil)
theorem cs21 (Z : Mg mg) (c : Cfg) (k : Nat) : CSs (bodyC G P w mg base FNS c N21 s21 k) (defBody s21) B21 := by
  have v_0 : ∀ {pos : Pos}, Mini.CE (bodyC G P w mg base FNS c N21 s21 k) (.Name "hand" pos) (.var 0) := fun {pos} => ce_var 0 (by rfl) (.inl (by kernel_rfl))
  have v_1 : ∀ {pos : Pos}, Mini.CE (bodyC G P w mg base FNS c N21 s21 k) (.Name "many" pos) (.var 1) := fun {pos} => ce_var 1 (by rfl) (.inl (by kernel_rfl))
  have v_2 : ∀ {pos : Pos}, Mini.CE (bodyC G P w mg base FNS c N21 s21 k) (.Name "cell" pos) (.var 2) := fun {pos} => ce_var 2 (by rfl) (.inl (by kernel_rfl))
  have v_3 : ∀ {pos : Pos}, Mini.CE (bodyC G P w mg base FNS c N21 s21 k) (.Name "digit" pos) (.var 3) := fun {pos} => ce_var 3 (by rfl) (.inl (by kernel_rfl))
  have v_4 : ∀ {pos : Pos}, Mini.CE (bodyC G P w mg base FNS c N21 s21 k) (.Name "number" pos) (.var 4) := fun {pos} => ce_var 4 (by rfl) (.inl (by kernel_rfl))
  exact cs_cons (cs_ite (CW.ct (cw_and (ct_eq (ce_ix (v_0) (ce_int)) (ce_int)) (cw_and1 (ct_lt (ce_ix (v_0) (ce_int)) (ce_len ⟨(by kernel_rfl), Z.z_len⟩ (ca_cons (ce_ix (v_0) (ce_int)) (ca_nil))))))) (cs_cons (cs_asg (ce_ix (ce_ix (v_0) (ce_int)) (ce_ix (v_0) (ce_int))) (cg_nm (i := 2) (by rfl) (.inl (by kernel_rfl)))) (cs_cons (cs_asg (ce_add (ce_ix (v_0) (ce_int)) (ce_int)) (cg_sub (v_0) (ce_int))) (cs_cons (cs_asg (ce_md (ce_int1 ⟨(by kernel_rfl), Z.z_int⟩ (ca_cons (ce_add (ce_add (ce_mul (ce_ix (v_0) (ce_int)) (ce_int)) (ce_mul (v_2) (ce_int))) (ce_int)) (ca_nil))) (ce_int)) (cg_sub (v_0) (ce_int))) (cs_cons (cs_ite (ct_ge (v_2) (ce_pw (ce_int) (ce_int))) (cs_cons (cs_asg (v_2) (cg_sub (v_0) (ce_int))) (cs_nil)) (cs_nil)) (cs_nil))))) (cs_nil)) (cs_cons (cs_ite (ct_gt (ce_ix (v_0) (ce_int)) (ce_int)) (cs_cons (cs_asg (ce_md (ce_int1 ⟨(by kernel_rfl), Z.z_int⟩ (ca_cons (ce_ix (v_0) (ce_int)) (ca_nil))) (v_1)) (cg_nm (i := 3) (by rfl) (.inl (by kernel_rfl)))) (cs_cons (cs_asg (ce_fdv (ce_ix (v_0) (ce_int)) (v_1)) (cg_sub (v_0) (ce_int))) (cs_cons (cs_ret (v_3)) (cs_nil)))) (cs_nil)) (cs_cons (cs_asg (ce_add (ce_ix (v_0) (ce_int)) (ce_int)) (cg_sub (v_0) (ce_int))) (cs_cons (cs_asg (ce_md (ce_int1 ⟨(by kernel_rfl), Z.z_int⟩ (ca_cons (ce_mul (ce_int1 ⟨(by kernel_rfl), Z.z_int⟩ (ca_cons (ce_add (ce_ix (v_0) (ce_int)) (ce_mul (ce_int) (ce_ix (v_0) (ce_int)))) (ca_nil))) (ce_int)) (ca_nil))) (ce_int)) (cg_nm (i := 4) (by rfl) (.inl (by kernel_rfl)))) (cs_cons (cs_asg (ce_md (ce_int1 ⟨(by kernel_rfl), Z.z_int⟩ (ca_cons (ce_mul (v_4) (ce_add (ce_fdv (v_4) (ce_int)) (ce_int))) (ca_nil))) (ce_int)) (cg_nm (i := 4) (by rfl) (.inl (by kernel_rfl)))) (cs_cons (cs_asg (ce_md (ce_int1 ⟨(by kernel_rfl), Z.z_int⟩ (ca_cons (ce_mul (v_4) (ce_add (ce_fdv (v_4) (ce_int)) (ce_int))) (ca_nil))) (ce_int)) (cg_nm (i := 4) (by rfl) (.inl (by kernel_rfl)))) (cs_cons (cs_ret (ce_md (ce_int1 ⟨(by kernel_rfl), Z.z_int⟩ (ca_cons (ce_fdv (v_4) (ce_int)) (ca_nil))) (v_1))) (cs_nil)))))))
theorem cs22 (Z : Mg mg) (c : Cfg) (k : Nat) : CSs (bodyC G P w mg base FNS c N22 s22 k) (defBody s22) B22 := by
  have v_0 : ∀ {pos : Pos}, Mini.CE (bodyC G P w mg base FNS c N22 s22 k) (.Name "hand" pos) (.var 0) := fun {pos} => ce_var 0 (by rfl) (.inl (by kernel_rfl))
  have v_1 : ∀ {pos : Pos}, Mini.CE (bodyC G P w mg base FNS c N22 s22 k) (.Name "some" pos) (.var 1) := fun {pos} => ce_var 1 (by rfl) (.inl (by kernel_rfl))
  exact cs_cons (cs_ret (ce_ix (v_1) (ce_call (i := 21) (by rfl) (by rfl) (by kernel_rfl) (ca_cons (v_0) (ca_cons (ce_len ⟨(by kernel_rfl), Z.z_len⟩ (ca_cons (v_1) (ca_nil))) (ca_nil)))))) (cs_nil)
theorem cs23 (Z : Mg mg) (c : Cfg) (k : Nat) : CSs (bodyC G P w mg base FNS c N23 s23 k) (defBody s23) B23 := by
  have v_0 : ∀ {pos : Pos}, Mini.CE (bodyC G P w mg base FNS c N23 s23 k) (.Name "one" pos) (.var 0) := fun {pos} => ce_var 0 (by rfl) (.inl (by kernel_rfl))
  have v_1 : ∀ {pos : Pos}, Mini.CE (bodyC G P w mg base FNS c N23 s23 k) (.Name "due" pos) (.var 1) := fun {pos} => ce_var 1 (by rfl) (.inl (by kernel_rfl))
  exact cs_cons (cs_ite (ct_val (ce_isiT2 ⟨(by kernel_rfl), Z.z_isinstance⟩ (tyN_tuple ⟨(by kernel_rfl), Z.z_tuple⟩) (tyN_list ⟨(by kernel_rfl), Z.z_list⟩) (v_1))) (cs_cons (cs_ite (CW.ct (cw_or (ct_ne (ce_isi ⟨(by kernel_rfl), Z.z_isinstance⟩ (tyN_tuple ⟨(by kernel_rfl), Z.z_tuple⟩) (v_0)) (ce_isi ⟨(by kernel_rfl), Z.z_isinstance⟩ (tyN_tuple ⟨(by kernel_rfl), Z.z_tuple⟩) (v_1))) (cw_or1 (ct_not (ct_val (ce_isiT2 ⟨(by kernel_rfl), Z.z_isinstance⟩ (tyN_tuple ⟨(by kernel_rfl), Z.z_tuple⟩) (tyN_list ⟨(by kernel_rfl), Z.z_list⟩) (v_0))))))) (cs_cons (cs_ret (ce_bl)) (cs_nil)) (cs_nil)) (cs_cons (cs_ret (ce_and (ce_eq (ce_len ⟨(by kernel_rfl), Z.z_len⟩ (ca_cons (v_0) (ca_nil))) (ce_len ⟨(by kernel_rfl), Z.z_len⟩ (ca_cons (v_1) (ca_nil)))) (ce_one (ce_all ⟨(by kernel_rfl), Z.z_all⟩ (ca_cons (ce_comp (own := [("a", 2), ("b", 3)]) (ci_zip ⟨(by kernel_rfl), Z.z_zip⟩ (ca_cons (v_0) (ca_cons (v_1) (ca_nil)))) (blkOk_by (by kernel_rfl)) (cgt_tp (cgts_cons (cgt_nm (i := 2) (by rfl) (.inl (by kernel_rfl))) (cgts_cons (cgt_nm (i := 3) (by rfl) (.inl (by kernel_rfl))) (cgts_nil)))) (cf_nil) (ce_call (i := 23) (by rfl) (by rfl) (by kernel_rfl) (ca_cons (ce_var 2 (by rfl) (.inl (by kernel_rfl))) (ca_cons (ce_var 3 (by rfl) (.inl (by kernel_rfl))) (ca_nil)))) (by decide)) (ca_nil)))))) (cs_nil))) (cs_nil)) (cs_cons (cs_ite (CW.ct (cw_or (ct_val (ce_isi ⟨(by kernel_rfl), Z.z_isinstance⟩ (tyN_bool ⟨(by kernel_rfl), Z.z_bool⟩) (v_1))) (cw_or (ct_val (ce_isi ⟨(by kernel_rfl), Z.z_isinstance⟩ (tyN_bool ⟨(by kernel_rfl), Z.z_bool⟩) (v_0))) (cw_or (ct_isN (v_1)) (cw_or1 (ct_isN (v_0))))))) (cs_cons (cs_ret (ce_and (ce_eq (ce_isi ⟨(by kernel_rfl), Z.z_isinstance⟩ (tyN_bool ⟨(by kernel_rfl), Z.z_bool⟩) (v_0)) (ce_isi ⟨(by kernel_rfl), Z.z_isinstance⟩ (tyN_bool ⟨(by kernel_rfl), Z.z_bool⟩) (v_1))) (ce_and (ce_eq (ce_isN (v_0)) (ce_isN (v_1))) (ce_one (ce_eq (v_0) (v_1)))))) (cs_nil)) (cs_nil)) (cs_cons (cs_ret (ce_and (ce_eq (ce_isi ⟨(by kernel_rfl), Z.z_isinstance⟩ (tyN_str ⟨(by kernel_rfl), Z.z_str⟩) (v_0)) (ce_isi ⟨(by kernel_rfl), Z.z_isinstance⟩ (tyN_str ⟨(by kernel_rfl), Z.z_str⟩) (v_1))) (ce_and (ce_isiT2 ⟨(by kernel_rfl), Z.z_isinstance⟩ (tyN_int ⟨(by kernel_rfl), Z.z_int⟩) (tyN_str ⟨(by kernel_rfl), Z.z_str⟩) (v_0)) (ce_one (ce_eq (v_0) (v_1)))))) (cs_nil)))
theorem cs24 (Z : Mg mg) (c : Cfg) (k : Nat) : CSs (bodyC G P w mg base FNS c N24 s24 k) (defBody s24) B24 := by
  have v_0 : ∀ {pos : Pos}, Mini.CE (bodyC G P w mg base FNS c N24 s24 k) (.Name "arms_here" pos) (.var 0) := fun {pos} => ce_var 0 (by rfl) (.inl (by kernel_rfl))
  have v_1 : ∀ {pos : Pos}, Mini.CE (bodyC G P w mg base FNS c N24 s24 k) (.Name "word" pos) (.var 1) := fun {pos} => ce_var 1 (by rfl) (.inl (by kernel_rfl))
  have v_2 : ∀ {pos : Pos}, Mini.CE (bodyC G P w mg base FNS c N24 s24 k) (.Name "row" pos) (.var 2) := fun {pos} => ce_var 2 (by rfl) (.inl (by kernel_rfl))
  have v_3 : ∀ {pos : Pos}, Mini.CE (bodyC G P w mg base FNS c N24 s24 k) (.Name "one" pos) (.var 3) := fun {pos} => ce_var 3 (by rfl) (.inl (by kernel_rfl))
  have v_4 : ∀ {pos : Pos}, Mini.CE (bodyC G P w mg base FNS c N24 s24 k) (.Name "size_here" pos) (.var 4) := fun {pos} => ce_var 4 (by rfl) (.inl (by kernel_rfl))
  exact cs_cons (cs_asg (ce_lst (ca_nil)) (cg_nm (i := 2) (by rfl) (.inl (by kernel_rfl)))) (cs_cons (cs_for (ci_seq (ce_rv (ce_add (v_1) (ce_tup (ca_cons (ce_int) (ca_nil)))))) (cgt_nm (i := 3) (by rfl) (.inl (by kernel_rfl))) (cs_cons (cs_ite (ct_eq (v_3) (ce_int)) (cs_cons (cs_ex (ce_app (v_2) (ce_non))) (cs_nil)) (cs_cons (cs_asg (ce_sub (ce_len ⟨(by kernel_rfl), Z.z_len⟩ (ca_cons (v_2) (ca_nil))) (v_0)) (cg_nm (i := 4) (by rfl) (.inl (by kernel_rfl)))) (cs_cons (cs_asg (ce_add (ce_sl01 (v_2) (v_4)) (ce_lst (ca_cons (ce_tuple1 ⟨(by kernel_rfl), Z.z_tuple⟩ (ca_cons (ce_rv (ce_sl10 (v_2) (v_4))) (ca_nil))) (ca_nil)))) (cg_nm (i := 2) (by rfl) (.inl (by kernel_rfl)))) (cs_nil)))) (cs_nil))) (cs_cons (cs_ret (ce_ix (v_2) (ce_int))) (cs_nil)))
theorem cs25 (Z : Mg mg) (c : Cfg) (k : Nat) : CSs (bodyC G P w mg base FNS c N25 s25 k) (defBody s25) B25 := by
  have v_0 : ∀ {pos : Pos}, Mini.CE (bodyC G P w mg base FNS c N25 s25 k) (.Name "hand" pos) (.var 0) := fun {pos} => ce_var 0 (by rfl) (.inl (by kernel_rfl))
  have v_1 : ∀ {pos : Pos}, Mini.CE (bodyC G P w mg base FNS c N25 s25 k) (.Name "arms_here" pos) (.var 1) := fun {pos} => ce_var 1 (by rfl) (.inl (by kernel_rfl))
  have v_2 : ∀ {pos : Pos}, Mini.CE (bodyC G P w mg base FNS c N25 s25 k) (.Name "size_here" pos) (.var 2) := fun {pos} => ce_var 2 (by rfl) (.inl (by kernel_rfl))
  have v_3 : ∀ {pos : Pos}, Mini.CE (bodyC G P w mg base FNS c N25 s25 k) (.Name "found" pos) (.var 3) := fun {pos} => ce_var 3 (by rfl) (.inl (by kernel_rfl))
  have v_4 : ∀ {pos : Pos}, Mini.CE (bodyC G P w mg base FNS c N25 s25 k) (.Name "high" pos) (.var 4) := fun {pos} => ce_var 4 (by rfl) (.inl (by kernel_rfl))
  have v_5 : ∀ {pos : Pos}, Mini.CE (bodyC G P w mg base FNS c N25 s25 k) (.Name "ups" pos) (.var 5) := fun {pos} => ce_var 5 (by rfl) (.inl (by kernel_rfl))
  have v_6 : ∀ {pos : Pos}, Mini.CE (bodyC G P w mg base FNS c N25 s25 k) (.Name "is_up" pos) (.var 6) := fun {pos} => ce_var 6 (by rfl) (.inl (by kernel_rfl))
  exact cs_cons (cs_asg (ce_tup (ca_cons (ce_tup (ca_nil)) (ca_cons (ce_int) (ca_cons (ce_int) (ca_nil))))) (cg_tp (cgs_cons (cg_nm (i := 3) (by rfl) (.inl (by kernel_rfl))) (cgs_cons (cg_nm (i := 4) (by rfl) (.inl (by kernel_rfl))) (cgs_cons (cg_nm (i := 5) (by rfl) (.inl (by kernel_rfl))) (cgs_nil)))))) (cs_cons (cs_whl (ct_lt (ce_len ⟨(by kernel_rfl), Z.z_len⟩ (ca_cons (v_3) (ca_nil))) (ce_mul (v_1) (v_2))) (cs_cons (cs_asg (ce_and (ce_lt (v_5) (v_2)) (ce_one (ce_or (ce_eq (v_4) (ce_int)) (ce_one (ce_eq (ce_call (i := 21) (by rfl) (by rfl) (by kernel_rfl) (ca_cons (v_0) (ca_cons (ce_int) (ca_nil)))) (ce_int)))))) (cg_nm (i := 6) (by rfl) (.inl (by kernel_rfl)))) (cs_cons (cs_par2 (i := 3) (j := 4) (by rfl) (by rfl) (by decide) (by kernel_rfl) (by kernel_rfl) (ca_cons (ce_add (v_3) (ce_tup (ca_cons (ce_int1 ⟨(by kernel_rfl), Z.z_int⟩ (ca_cons (v_6) (ca_nil))) (ca_nil)))) (ca_cons (ce_add (v_4) (ce_ife (ct_val (v_6)) (ce_sub (v_1) (ce_int)) (ce_neg (ce_int)))) (ca_nil))) (by intro env h; cases env; cases h; rfl)) (cs_cons (cs_asg (ce_add (v_5) (ce_int1 ⟨(by kernel_rfl), Z.z_int⟩ (ca_cons (v_6) (ca_nil)))) (cg_nm (i := 5) (by rfl) (.inl (by kernel_rfl)))) (cs_nil))))) (cs_cons (cs_ret (v_3)) (cs_nil)))
theorem cs26 (Z : Mg mg) (c : Cfg) (k : Nat) : CSs (bodyC G P w mg base FNS c N26 s26 k) (defBody s26) B26 := by
  have v_0 : ∀ {pos : Pos}, Mini.CE (bodyC G P w mg base FNS c N26 s26 k) (.Name "tree" pos) (.var 0) := fun {pos} => ce_var 0 (by rfl) (.inl (by kernel_rfl))
  have v_1 : ∀ {pos : Pos}, Mini.CE (bodyC G P w mg base FNS c N26 s26 k) (.Name "found" pos) (.var 1) := fun {pos} => ce_var 1 (by rfl) (.inl (by kernel_rfl))
  have v_2 : ∀ {pos : Pos}, Mini.CE (bodyC G P w mg base FNS c N26 s26 k) (.Name "one" pos) (.var 2) := fun {pos} => ce_var 2 (by rfl) (.inl (by kernel_rfl))
  have v_3 : ∀ {pos : Pos}, Mini.CE (bodyC G P w mg base FNS c N26 s26 k) (.Name "later" pos) (.var 3) := fun {pos} => ce_var 3 (by rfl) (.inl (by kernel_rfl))
  exact cs_cons (cs_asg (ce_lst (ca_cons (ce_lst (ca_cons (v_0) (ca_nil))) (ca_nil))) (cg_nm (i := 1) (by rfl) (.inl (by kernel_rfl)))) (cs_cons (cs_whl (ct_val (ce_any ⟨(by kernel_rfl), Z.z_any⟩ (ca_cons (ce_comp (own := [("one", 2)]) (ci_seq (ce_ix (v_1) (ce_neg (ce_int)))) (blkOk_by (by kernel_rfl)) (cgt_nm (i := 2) (by rfl) (.inl (by kernel_rfl))) (cf_nil) (ce_ntN (ce_var 2 (by rfl) (.inl (by kernel_rfl)))) (by decide)) (ca_nil)))) (cs_cons (cs_asg (ce_lst (ca_nil)) (cg_nm (i := 3) (by rfl) (.inl (by kernel_rfl)))) (cs_cons (cs_for (ci_seq (ce_ix (v_1) (ce_neg (ce_int)))) (cgt_nm (i := 2) (by rfl) (.inl (by kernel_rfl))) (cs_cons (cs_ex (ce_ext (v_3) (ce_ife (ct_ntN (v_2)) (ce_list1 ⟨(by kernel_rfl), Z.z_list⟩ (ca_cons (v_2) (ca_nil))) (ce_lst (ca_nil))))) (cs_nil))) (cs_cons (cs_ex (ce_app (v_1) (v_3))) (cs_nil))))) (cs_cons (cs_ret (v_1)) (cs_nil)))
theorem cs27 (Z : Mg mg) (c : Cfg) (k : Nat) : CSs (bodyC G P w mg base FNS c N27 s27 k) (defBody s27) B27 := by
  have v_0 : ∀ {pos : Pos}, Mini.CE (bodyC G P w mg base FNS c N27 s27 k) (.Name "arms_here" pos) (.var 0) := fun {pos} => ce_var 0 (by rfl) (.inl (by kernel_rfl))
  have v_1 : ∀ {pos : Pos}, Mini.CE (bodyC G P w mg base FNS c N27 s27 k) (.Name "size_here" pos) (.var 1) := fun {pos} => ce_var 1 (by rfl) (.inl (by kernel_rfl))
  have v_2 : ∀ {pos : Pos}, Mini.CE (bodyC G P w mg base FNS c N27 s27 k) (.Name "found" pos) (.var 2) := fun {pos} => ce_var 2 (by rfl) (.inl (by kernel_rfl))
  have v_3 : ∀ {pos : Pos}, Mini.CE (bodyC G P w mg base FNS c N27 s27 k) (.Name "wide" pos) (.var 3) := fun {pos} => ce_var 3 (by rfl) (.inl (by kernel_rfl))
  have v_4 : ∀ {pos : Pos}, Mini.CE (bodyC G P w mg base FNS c N27 s27 k) (.Name "turn" pos) (.var 4) := fun {pos} => ce_var 4 (by rfl) (.inl (by kernel_rfl))
  exact cs_cons (cs_par2 (i := 2) (j := 3) (by rfl) (by rfl) (by decide) (by kernel_rfl) (by kernel_rfl) (ca_cons (ce_int) (ca_cons (ce_mul (v_0) (v_1)) (ca_nil))) (by intro env h; cases env; cases h; rfl)) (cs_cons (cs_for (ci_rng1 ⟨(by kernel_rfl), Z.z_range⟩ (v_1)) (cgt_nm (i := 4) (by rfl) (.inl (by kernel_rfl))) (cs_cons (cs_asg (ce_fdv (ce_mul (v_2) (ce_sub (v_3) (v_4))) (ce_add (v_4) (ce_int))) (cg_nm (i := 2) (by rfl) (.inl (by kernel_rfl)))) (cs_nil))) (cs_cons (cs_ret (ce_fdv (v_2) (ce_add (ce_mul (ce_sub (v_0) (ce_int)) (v_1)) (ce_int)))) (cs_nil)))
theorem cs28 (Z : Mg mg) (c : Cfg) (k : Nat) : CSs (bodyC G P w mg base FNS c N28 s28 k) (defBody s28) B28 := by
  have v_0 : ∀ {pos : Pos}, Mini.CE (bodyC G P w mg base FNS c N28 s28 k) (.Name "arms_here" pos) (.var 0) := fun {pos} => ce_var 0 (by rfl) (.inl (by kernel_rfl))
  have v_1 : ∀ {pos : Pos}, Mini.CE (bodyC G P w mg base FNS c N28 s28 k) (.Name "size_here" pos) (.var 1) := fun {pos} => ce_var 1 (by rfl) (.inl (by kernel_rfl))
  have v_2 : ∀ {pos : Pos}, Mini.CE (bodyC G P w mg base FNS c N28 s28 k) (.Name "found" pos) (.var 2) := fun {pos} => ce_var 2 (by rfl) (.inl (by kernel_rfl))
  have v_3 : ∀ {pos : Pos}, Mini.CE (bodyC G P w mg base FNS c N28 s28 k) (.Name "turn" pos) (.var 3) := fun {pos} => ce_var 3 (by rfl) (.inl (by kernel_rfl))
  have v_4 : ∀ {pos : Pos}, Mini.CE (bodyC G P w mg base FNS c N28 s28 k) (.Name "longer" pos) (.var 4) := fun {pos} => ce_var 4 (by rfl) (.inl (by kernel_rfl))
  have v_5 : ∀ {pos : Pos}, Mini.CE (bodyC G P w mg base FNS c N28 s28 k) (.Name "row" pos) (.var 5) := fun {pos} => ce_var 5 (by rfl) (.inl (by kernel_rfl))
  have v_6 : ∀ {pos : Pos}, Mini.CE (bodyC G P w mg base FNS c N28 s28 k) (.Name "high" pos) (.var 6) := fun {pos} => ce_var 6 (by rfl) (.inl (by kernel_rfl))
  have v_7 : ∀ {pos : Pos}, Mini.CE (bodyC G P w mg base FNS c N28 s28 k) (.Name "ups" pos) (.var 7) := fun {pos} => ce_var 7 (by rfl) (.inl (by kernel_rfl))
  exact cs_cons (cs_asg (ce_lst (ca_cons (ce_tup (ca_cons (ce_tup (ca_nil)) (ca_cons (ce_int) (ca_cons (ce_int) (ca_nil))))) (ca_nil))) (cg_nm (i := 2) (by rfl) (.inl (by kernel_rfl)))) (cs_cons (cs_for (ci_rng1 ⟨(by kernel_rfl), Z.z_range⟩ (ce_mul (v_0) (v_1))) (cgt_nm (i := 3) (by rfl) (.inl (by kernel_rfl))) (cs_cons (cs_asg (ce_lst (ca_nil)) (cg_nm (i := 4) (by rfl) (.inl (by kernel_rfl)))) (cs_cons (cs_for (ci_seq (v_2)) (cgt_tp (cgts_cons (cgt_nm (i := 5) (by rfl) (.inl (by kernel_rfl))) (cgts_cons (cgt_nm (i := 6) (by rfl) (.inl (by kernel_rfl))) (cgts_cons (cgt_nm (i := 7) (by rfl) (.inl (by kernel_rfl))) (cgts_nil))))) (cs_cons (cs_ite (ct_gt (v_6) (ce_int)) (cs_cons (cs_ex (ce_app (v_4) (ce_tup (ca_cons (ce_add (v_5) (ce_tup (ca_cons (ce_int) (ca_nil)))) (ca_cons (ce_sub (v_6) (ce_int)) (ca_cons (v_7) (ca_nil))))))) (cs_nil)) (cs_nil)) (cs_cons (cs_ite (ct_lt (v_7) (v_1)) (cs_cons (cs_ex (ce_app (v_4) (ce_tup (ca_cons (ce_add (v_5) (ce_tup (ca_cons (ce_int) (ca_nil)))) (ca_cons (ce_sub (ce_add (v_6) (v_0)) (ce_int)) (ca_cons (ce_add (v_7) (ce_int)) (ca_nil))))))) (cs_nil)) (cs_nil)) (cs_nil)))) (cs_cons (cs_asg (v_4) (cg_nm (i := 2) (by rfl) (.inl (by kernel_rfl)))) (cs_nil))))) (cs_cons (cs_ret (ce_comp (own := [("row", 5), ("high", 6), ("ups", 7)]) (ci_seq (v_2)) (blkOk_by (by kernel_rfl)) (cgt_tp (cgts_cons (cgt_nm (i := 5) (by rfl) (.inl (by kernel_rfl))) (cgts_cons (cgt_nm (i := 6) (by rfl) (.inl (by kernel_rfl))) (cgts_cons (cgt_nm (i := 7) (by rfl) (.inl (by kernel_rfl))) (cgts_nil))))) (cf_one (ct_eq (ce_var 6 (by rfl) (.inl (by kernel_rfl))) (ce_int))) (ce_var 5 (by rfl) (.inl (by kernel_rfl))) (by decide))) (cs_nil)))
theorem cs29 (Z : Mg mg) (c : Cfg) (k : Nat) : CSs (bodyC G P w mg base FNS c N29 s29 k) (defBody s29) B29 := by
  have v_0 : ∀ {pos : Pos}, Mini.CE (bodyC G P w mg base FNS c N29 s29 k) (.Name "tree" pos) (.var 0) := fun {pos} => ce_var 0 (by rfl) (.inl (by kernel_rfl))
  have v_1 : ∀ {pos : Pos}, Mini.CE (bodyC G P w mg base FNS c N29 s29 k) (.Name "first" pos) (.var 1) := fun {pos} => ce_var 1 (by rfl) (.inl (by kernel_rfl))
  have v_2 : ∀ {pos : Pos}, Mini.CE (bodyC G P w mg base FNS c N29 s29 k) (.Name "last" pos) (.var 2) := fun {pos} => ce_var 2 (by rfl) (.inl (by kernel_rfl))
  have v_3 : ∀ {pos : Pos}, Mini.CE (bodyC G P w mg base FNS c N29 s29 k) (.Name "level" pos) (.var 3) := fun {pos} => ce_var 3 (by rfl) (.inl (by kernel_rfl))
  have v_4 : ∀ {pos : Pos}, Mini.CE (bodyC G P w mg base FNS c N29 s29 k) (.Name "row" pos) (.var 4) := fun {pos} => ce_var 4 (by rfl) (.inl (by kernel_rfl))
  have v_5 : ∀ {pos : Pos}, Mini.CE (bodyC G P w mg base FNS c N29 s29 k) (.Name "size_here" pos) (.var 5) := fun {pos} => ce_var 5 (by rfl) (.inl (by kernel_rfl))
  exact cs_cons (cs_asg (ce_tup (ca_cons (ce_int) (ca_cons (ce_int) (ca_nil)))) (cg_tp (cgs_cons (cg_nm (i := 1) (by rfl) (.inl (by kernel_rfl))) (cgs_cons (cg_nm (i := 2) (by rfl) (.inl (by kernel_rfl))) (cgs_nil))))) (cs_cons (cs_for (ci_enu ⟨(by kernel_rfl), Z.z_enumerate⟩ (ca_cons (ce_call (i := 26) (by rfl) (by rfl) (by kernel_rfl) (ca_cons (v_0) (ca_nil))) (ca_nil))) (cgt_tp (cgts_cons (cgt_nm (i := 3) (by rfl) (.inl (by kernel_rfl))) (cgts_cons (cgt_nm (i := 4) (by rfl) (.inl (by kernel_rfl))) (cgts_nil)))) (cs_cons (cs_asg (ce_len ⟨(by kernel_rfl), Z.z_len⟩ (ca_cons (ce_comp (own := [("one", 6)]) (ci_seq (v_4)) (blkOk_by (by kernel_rfl)) (cgt_nm (i := 6) (by rfl) (.inl (by kernel_rfl))) (cf_one (ct_ntN (ce_var 6 (by rfl) (.inl (by kernel_rfl))))) (ce_var 6 (by rfl) (.inl (by kernel_rfl))) (by decide)) (ca_nil))) (cg_nm (i := 5) (by rfl) (.inl (by kernel_rfl)))) (cs_cons (cs_asg (ce_add (v_1) (ce_mul (v_3) (v_5))) (cg_nm (i := 1) (by rfl) (.inl (by kernel_rfl)))) (cs_cons (cs_asg (ce_add (v_2) (ce_mul (v_3) (ce_sub (ce_len ⟨(by kernel_rfl), Z.z_len⟩ (ca_cons (v_4) (ca_nil))) (v_5)))) (cg_nm (i := 2) (by rfl) (.inl (by kernel_rfl)))) (cs_nil))))) (cs_cons (cs_ret (ce_tup (ca_cons (v_1) (ca_cons (v_2) (ca_nil))))) (cs_nil)))
theorem cs30 (Z : Mg mg) (c : Cfg) (k : Nat) : CSs (bodyC G P w mg base FNS c N30 s30 k) (defBody s30) B30 := by
  have v_0 : ∀ {pos : Pos}, Mini.CE (bodyC G P w mg base FNS c N30 s30 k) (.Name "arms_here" pos) (.var 0) := fun {pos} => ce_var 0 (by rfl) (.inl (by kernel_rfl))
  have v_1 : ∀ {pos : Pos}, Mini.CE (bodyC G P w mg base FNS c N30 s30 k) (.Name "many" pos) (.var 1) := fun {pos} => ce_var 1 (by rfl) (.inl (by kernel_rfl))
  have v_2 : ∀ {pos : Pos}, Mini.CE (bodyC G P w mg base FNS c N30 s30 k) (.Name "level" pos) (.var 2) := fun {pos} => ce_var 2 (by rfl) (.inl (by kernel_rfl))
  have v_3 : ∀ {pos : Pos}, Mini.CE (bodyC G P w mg base FNS c N30 s30 k) (.Name "wide" pos) (.var 3) := fun {pos} => ce_var 3 (by rfl) (.inl (by kernel_rfl))
  have v_4 : ∀ {pos : Pos}, Mini.CE (bodyC G P w mg base FNS c N30 s30 k) (.Name "total" pos) (.var 4) := fun {pos} => ce_var 4 (by rfl) (.inl (by kernel_rfl))
  have v_5 : ∀ {pos : Pos}, Mini.CE (bodyC G P w mg base FNS c N30 s30 k) (.Name "here" pos) (.var 5) := fun {pos} => ce_var 5 (by rfl) (.inl (by kernel_rfl))
  exact cs_cons (cs_asg (ce_tup (ca_cons (ce_int) (ca_cons (ce_int) (ca_cons (ce_int) (ca_nil))))) (cg_tp (cgs_cons (cg_nm (i := 2) (by rfl) (.inl (by kernel_rfl))) (cgs_cons (cg_nm (i := 3) (by rfl) (.inl (by kernel_rfl))) (cgs_cons (cg_nm (i := 4) (by rfl) (.inl (by kernel_rfl))) (cgs_nil)))))) (cs_cons (cs_whl (ct_gt (v_1) (ce_int)) (cs_cons (cs_asg (ce_min2 ⟨(by kernel_rfl), Z.z_min⟩ (ca_cons (v_3) (ca_cons (v_1) (ca_nil)))) (cg_nm (i := 5) (by rfl) (.inl (by kernel_rfl)))) (cs_cons (cs_par2 (i := 4) (j := 1) (by rfl) (by rfl) (by decide) (by kernel_rfl) (by kernel_rfl) (ca_cons (ce_add (v_4) (ce_mul (v_2) (v_5))) (ca_cons (ce_sub (v_1) (v_5)) (ca_nil))) (by intro env h; cases env; cases h; rfl)) (cs_cons (cs_par2 (i := 2) (j := 3) (by rfl) (by rfl) (by decide) (by kernel_rfl) (by kernel_rfl) (ca_cons (ce_add (v_2) (ce_int)) (ca_cons (ce_mul (v_3) (v_0)) (ca_nil))) (by intro env h; cases env; cases h; rfl)) (cs_nil))))) (cs_cons (cs_ret (v_4)) (cs_nil)))
theorem cs31 (Z : Mg mg) (c : Cfg) (k : Nat) : CSs (bodyC G P w mg base FNS c N31 s31 k) (defBody s31) B31 := by
  have v_0 : ∀ {pos : Pos}, Mini.CE (bodyC G P w mg base FNS c N31 s31 k) (.Name "arms_here" pos) (.var 0) := fun {pos} => ce_var 0 (by rfl) (.inl (by kernel_rfl))
  have v_1 : ∀ {pos : Pos}, Mini.CE (bodyC G P w mg base FNS c N31 s31 k) (.Name "size_here" pos) (.var 1) := fun {pos} => ce_var 1 (by rfl) (.inl (by kernel_rfl))
  have v_2 : ∀ {pos : Pos}, Mini.CE (bodyC G P w mg base FNS c N31 s31 k) (.Name "word" pos) (.var 2) := fun {pos} => ce_var 2 (by rfl) (.inl (by kernel_rfl))
  have v_3 : ∀ {pos : Pos}, Mini.CE (bodyC G P w mg base FNS c N31 s31 k) (.Name "tree" pos) (.var 3) := fun {pos} => ce_var 3 (by rfl) (.inl (by kernel_rfl))
  have v_4 : ∀ {pos : Pos}, Mini.CE (bodyC G P w mg base FNS c N31 s31 k) (.Name "row" pos) (.var 4) := fun {pos} => ce_var 4 (by rfl) (.inl (by kernel_rfl))
  have v_5 : ∀ {pos : Pos}, Mini.CE (bodyC G P w mg base FNS c N31 s31 k) (.Name "level" pos) (.var 5) := fun {pos} => ce_var 5 (by rfl) (.inl (by kernel_rfl))
  have v_6 : ∀ {pos : Pos}, Mini.CE (bodyC G P w mg base FNS c N31 s31 k) (.Name "told" pos) (.var 6) := fun {pos} => ce_var 6 (by rfl) (.inl (by kernel_rfl))
  have v_7 : ∀ {pos : Pos}, Mini.CE (bodyC G P w mg base FNS c N31 s31 k) (.Name "sums_here" pos) (.var 7) := fun {pos} => ce_var 7 (by rfl) (.inl (by kernel_rfl))
  exact cs_cons (cs_asg (ce_call (i := 24) (by rfl) (by rfl) (by kernel_rfl) (ca_cons (v_0) (ca_cons (v_2) (ca_nil)))) (cg_nm (i := 3) (by rfl) (.inl (by kernel_rfl)))) (cs_cons (cs_ite (ct_not (ct_val (ce_call (i := 23) (by rfl) (by rfl) (by kernel_rfl) (ca_cons (ce_lst (ca_cons (ce_call (i := 9) (by rfl) (by rfl) (by kernel_rfl) (ca_cons (v_0) (ca_cons (v_3) (ca_nil)))) (ca_cons (ce_call (i := 11) (by rfl) (by rfl) (by kernel_rfl) (ca_cons (v_0) (ca_cons (v_2) (ca_nil)))) (ca_nil)))) (ca_cons (ce_lst (ca_cons (v_2) (ca_cons (v_3) (ca_nil)))) (ca_nil)))))) (cs_cons (cs_ret (ce_bl)) (cs_nil)) (cs_nil)) (cs_cons (cs_asg (ce_lst (ca_nil)) (cg_nm (i := 4) (by rfl) (.inl (by kernel_rfl)))) (cs_cons (cs_for (ci_seq (ce_call (i := 26) (by rfl) (by rfl) (by kernel_rfl) (ca_cons (v_3) (ca_nil)))) (cgt_nm (i := 5) (by rfl) (.inl (by kernel_rfl))) (cs_cons (cs_ex (ce_ext (v_4) (ce_comp (own := [("one", 8)]) (ci_seq (v_5)) (blkOk_by (by kernel_rfl)) (cgt_nm (i := 8) (by rfl) (.inl (by kernel_rfl))) (cf_nil) (ce_int1 ⟨(by kernel_rfl), Z.z_int⟩ (ca_cons (ce_ntN (ce_var 8 (by rfl) (.inl (by kernel_rfl)))) (ca_nil))) (by decide)))) (cs_nil))) (cs_cons (cs_asg (ce_lst (ca_cons (ce_call (i := 15) (by rfl) (by rfl) (by kernel_rfl) (ca_cons (v_0) (ca_cons (v_3) (ca_nil)))) (ca_cons (ce_call (i := 16) (by rfl) (by rfl) (by kernel_rfl) (ca_cons (v_0) (ca_cons (ce_tuple1 ⟨(by kernel_rfl), Z.z_tuple⟩ (ca_cons (v_4) (ca_nil))) (ca_nil)))) (ca_nil)))) (cg_nm (i := 6) (by rfl) (.inl (by kernel_rfl)))) (cs_cons (cs_ite (ct_not (ct_val (ce_call (i := 23) (by rfl) (by rfl) (by kernel_rfl) (ca_cons (v_6) (ca_cons (ce_lst (ca_cons (ce_tuple1 ⟨(by kernel_rfl), Z.z_tuple⟩ (ca_cons (v_4) (ca_nil))) (ca_cons (v_3) (ca_nil)))) (ca_nil)))))) (cs_cons (cs_ret (ce_bl)) (cs_nil)) (cs_nil)) (cs_cons (cs_asg (ce_call (i := 29) (by rfl) (by rfl) (by kernel_rfl) (ca_cons (v_3) (ca_nil))) (cg_nm (i := 7) (by rfl) (.inl (by kernel_rfl)))) (cs_cons (cs_ite (ct_not (ct_val (ce_call (i := 23) (by rfl) (by rfl) (by kernel_rfl) (ca_cons (ce_lst (ca_cons (ce_call (i := 6) (by rfl) (by rfl) (by kernel_rfl) (ca_cons (v_0) (ca_cons (v_3) (ca_nil)))) (ca_cons (ce_tuple1 ⟨(by kernel_rfl), Z.z_tuple⟩ (ca_cons (ce_call (i := 18) (by rfl) (by rfl) (by kernel_rfl) (ca_cons (v_0) (ca_cons (v_3) (ca_nil)))) (ca_nil))) (ca_nil)))) (ca_cons (ce_lst (ca_cons (v_1) (ca_cons (v_7) (ca_nil)))) (ca_nil)))))) (cs_cons (cs_ret (ce_bl)) (cs_nil)) (cs_nil)) (cs_cons (cs_ite (ct_ne (ce_ix (v_7) (ce_int)) (ce_add (ce_mul (ce_sub (v_0) (ce_int)) (ce_ix (v_7) (ce_int))) (ce_mul (v_0) (v_1)))) (cs_cons (cs_ret (ce_bl)) (cs_nil)) (cs_nil)) (cs_cons (cs_ite (CW.ct (cw_and (ct_gt (v_0) (ce_int)) (cw_and1 (ct_gt (ce_call (i := 19) (by rfl) (by rfl) (by kernel_rfl) (ca_cons (v_0) (ca_cons (v_1) (ca_nil)))) (ce_ix (v_7) (ce_int)))))) (cs_cons (cs_ret (ce_bl)) (cs_nil)) (cs_nil)) (cs_cons (cs_ret (ce_eq (ce_call (i := 13) (by rfl) (by rfl) (by kernel_rfl) (ca_cons (v_0) (ca_cons (v_1) (ca_cons (ce_call (i := 14) (by rfl) (by rfl) (by kernel_rfl) (ca_cons (v_0) (ca_cons (v_3) (ca_nil)))) (ca_nil))))) (v_3))) (cs_nil)))))))))))
theorem cs32 (Z : Mg mg) (c : Cfg) (k : Nat) : CSs (bodyC G P w mg base FNS c N32 s32 k) (defBody s32) B32 := by
  have v_0 : ∀ {pos : Pos}, Mini.CE (bodyC G P w mg base FNS c N32 s32 k) (.Name "script" pos) (.var 0) := fun {pos} => ce_var 0 (by rfl) (.inl (by kernel_rfl))
  have v_1 : ∀ {pos : Pos}, Mini.CE (bodyC G P w mg base FNS c N32 s32 k) (.Name "hand" pos) (.var 1) := fun {pos} => ce_var 1 (by rfl) (.inl (by kernel_rfl))
  have v_2 : ∀ {pos : Pos}, Mini.CE (bodyC G P w mg base FNS c N32 s32 k) (.Name "turn" pos) (.var 2) := fun {pos} => ce_var 2 (by rfl) (.inl (by kernel_rfl))
  have v_3 : ∀ {pos : Pos}, Mini.CE (bodyC G P w mg base FNS c N32 s32 k) (.Name "arms_here" pos) (.var 3) := fun {pos} => ce_var 3 (by rfl) (.inl (by kernel_rfl))
  have v_4 : ∀ {pos : Pos}, Mini.CE (bodyC G P w mg base FNS c N32 s32 k) (.Name "size_here" pos) (.var 4) := fun {pos} => ce_var 4 (by rfl) (.inl (by kernel_rfl))
  have v_5 : ∀ {pos : Pos}, Mini.CE (bodyC G P w mg base FNS c N32 s32 k) (.Name "few" pos) (.var 5) := fun {pos} => ce_var 5 (by rfl) (.inl (by kernel_rfl))
  have v_6 : ∀ {pos : Pos}, Mini.CE (bodyC G P w mg base FNS c N32 s32 k) (.Name "rows" pos) (.var 6) := fun {pos} => ce_var 6 (by rfl) (.inl (by kernel_rfl))
  have v_7 : ∀ {pos : Pos}, Mini.CE (bodyC G P w mg base FNS c N32 s32 k) (.Name "at" pos) (.var 7) := fun {pos} => ce_var 7 (by rfl) (.inl (by kernel_rfl))
  have v_8 : ∀ {pos : Pos}, Mini.CE (bodyC G P w mg base FNS c N32 s32 k) (.Name "tree" pos) (.var 8) := fun {pos} => ce_var 8 (by rfl) (.inl (by kernel_rfl))
  have v_9 : ∀ {pos : Pos}, Mini.CE (bodyC G P w mg base FNS c N32 s32 k) (.Name "told" pos) (.var 9) := fun {pos} => ce_var 9 (by rfl) (.inl (by kernel_rfl))
  have v_10 : ∀ {pos : Pos}, Mini.CE (bodyC G P w mg base FNS c N32 s32 k) (.Name "great" pos) (.var 10) := fun {pos} => ce_var 10 (by rfl) (.inl (by kernel_rfl))
  have v_11 : ∀ {pos : Pos}, Mini.CE (bodyC G P w mg base FNS c N32 s32 k) (.Name "wide" pos) (.var 11) := fun {pos} => ce_var 11 (by rfl) (.inl (by kernel_rfl))
  exact cs_cons (cs_asg (ce_call (i := 20) (by rfl) (by rfl) (by kernel_rfl) (ca_cons (v_0) (ca_nil))) (cg_nm (i := 1) (by rfl) (.inl (by kernel_rfl)))) (cs_cons (cs_ite (ct_ne (ce_call (i := 9) (by rfl) (by rfl) (by kernel_rfl) (ca_cons (ce_int) (ca_cons (ce_tup (ca_cons (ce_tup (ca_cons (ce_non) (ca_cons (ce_non) (ca_nil)))) (ca_cons (ce_non) (ca_nil)))) (ca_nil)))) (ce_tup (ca_cons (ce_int) (ca_cons (ce_int) (ca_cons (ce_int) (ca_cons (ce_int) (ca_nil))))))) (cs_cons (cs_ret (ce_bl)) (cs_nil)) (cs_nil)) (cs_cons (cs_ite (ct_ne (ce_call (i := 15) (by rfl) (by rfl) (by kernel_rfl) (ca_cons (ce_int) (ca_cons (ce_tup (ca_cons (ce_non) (ca_cons (ce_tup (ca_cons (ce_non) (ca_cons (ce_non) (ca_nil)))) (ca_nil)))) (ca_nil)))) (ce_tup (ca_cons (ce_int) (ca_cons (ce_int) (ca_cons (ce_int) (ca_cons (ce_int) (ca_cons (ce_int) (ca_nil)))))))) (cs_cons (cs_ret (ce_bl)) (cs_nil)) (cs_nil)) (cs_cons (cs_for (ci_rng1 ⟨(by kernel_rfl), Z.z_range⟩ (ce_int)) (cgt_nm (i := 2) (by rfl) (.inl (by kernel_rfl))) (cs_cons (cs_par2 (i := 3) (j := 4) (by rfl) (by rfl) (by decide) (by kernel_rfl) (by kernel_rfl) (ca_cons (ce_add (ce_int) (ce_call (i := 21) (by rfl) (by rfl) (by kernel_rfl) (ca_cons (v_1) (ca_cons (ce_int) (ca_nil))))) (ca_cons (ce_call (i := 21) (by rfl) (by rfl) (by kernel_rfl) (ca_cons (v_1) (ca_cons (ce_int) (ca_nil)))) (ca_nil))) (by intro env h; cases env; cases h; rfl)) (cs_cons (cs_ite (ct_not (ct_val (ce_call (i := 31) (by rfl) (by rfl) (by kernel_rfl) (ca_cons (v_3) (ca_cons (v_4) (ca_cons (ce_call (i := 25) (by rfl) (by rfl) (by kernel_rfl) (ca_cons (v_1) (ca_cons (v_3) (ca_cons (v_4) (ca_nil))))) (ca_nil))))))) (cs_cons (cs_ret (ce_bl)) (cs_nil)) (cs_nil)) (cs_cons (cs_asg (ce_call (i := 21) (by rfl) (by rfl) (by kernel_rfl) (ca_cons (v_1) (ca_cons (ce_ix (ce_dsp (cp_cons (ce_int) (ce_int) (cp_cons (ce_int) (ce_int) (cp_cons (ce_int) (ce_int) (cp_cons (ce_int) (ce_int) (cp_cons (ce_int) (ce_int) (cp_cons (ce_int) (ce_int) (cp_nil)))))))) (v_3)) (ca_nil)))) (cg_nm (i := 5) (by rfl) (.inl (by kernel_rfl)))) (cs_cons (cs_asg (ce_call (i := 28) (by rfl) (by rfl) (by kernel_rfl) (ca_cons (v_3) (ca_cons (v_5) (ca_nil)))) (cg_nm (i := 6) (by rfl) (.inl (by kernel_rfl)))) (cs_cons (cs_asg (ce_call (i := 21) (by rfl) (by rfl) (by kernel_rfl) (ca_cons (v_1) (ca_cons (ce_len ⟨(by kernel_rfl), Z.z_len⟩ (ca_cons (v_6) (ca_nil))) (ca_nil)))) (cg_nm (i := 7) (by rfl) (.inl (by kernel_rfl)))) (cs_cons (cs_asg (ce_call (i := 24) (by rfl) (by rfl) (by kernel_rfl) (ca_cons (v_3) (ca_cons (ce_ix (v_6) (v_7)) (ca_nil)))) (cg_nm (i := 8) (by rfl) (.inl (by kernel_rfl)))) (cs_cons (cs_asg (ce_lst (ca_cons (ce_call (i := 13) (by rfl) (by rfl) (by kernel_rfl) (ca_cons (v_3) (ca_cons (v_5) (ca_cons (v_7) (ca_nil))))) (ca_cons (ce_call (i := 14) (by rfl) (by rfl) (by kernel_rfl) (ca_cons (v_3) (ca_cons (v_8) (ca_nil)))) (ca_cons (ce_call (i := 8) (by rfl) (by rfl) (by kernel_rfl) (ca_cons (v_3) (ca_cons (v_5) (ca_nil)))) (ca_nil))))) (cg_nm (i := 9) (by rfl) (.inl (by kernel_rfl)))) (cs_cons (cs_ite (ct_not (ct_val (ce_call (i := 23) (by rfl) (by rfl) (by kernel_rfl) (ca_cons (v_9) (ca_cons (ce_lst (ca_cons (v_8) (ca_cons (v_7) (ca_cons (ce_len ⟨(by kernel_rfl), Z.z_len⟩ (ca_cons (v_6) (ca_nil))) (ca_nil))))) (ca_nil)))))) (cs_cons (cs_ret (ce_bl)) (cs_nil)) (cs_nil)) (cs_cons (cs_asg (ce_call (i := 21) (by rfl) (by rfl) (by kernel_rfl) (ca_cons (v_1) (ca_cons (ce_int) (ca_nil)))) (cg_nm (i := 10) (by rfl) (.inl (by kernel_rfl)))) (cs_cons (cs_asg (ce_add (ce_int) (ce_call (i := 21) (by rfl) (by rfl) (by kernel_rfl) (ca_cons (v_1) (ca_cons (ce_int) (ca_nil))))) (cg_nm (i := 11) (by rfl) (.inl (by kernel_rfl)))) (cs_cons (cs_ite (ct_not (ct_val (ce_call (i := 23) (by rfl) (by rfl) (by kernel_rfl) (ca_cons (ce_call (i := 8) (by rfl) (by rfl) (by kernel_rfl) (ca_cons (v_11) (ca_cons (v_10) (ca_nil)))) (ca_cons (ce_call (i := 27) (by rfl) (by rfl) (by kernel_rfl) (ca_cons (v_11) (ca_cons (v_10) (ca_nil)))) (ca_nil)))))) (cs_cons (cs_ret (ce_bl)) (cs_nil)) (cs_nil)) (cs_cons (cs_asg (ce_mul (ce_call (i := 21) (by rfl) (by rfl) (by kernel_rfl) (ca_cons (v_1) (ca_cons (ce_pw (ce_int) (ce_int)) (ca_nil)))) (ce_call (i := 22) (by rfl) (by rfl) (by kernel_rfl) (ca_cons (v_1) (ca_cons (ce_lst (ca_cons (ce_int) (ca_cons (ce_int) (ca_cons (ce_pw (ce_int) (ce_int)) (ca_nil))))) (ca_nil))))) (cg_nm (i := 10) (by rfl) (.inl (by kernel_rfl)))) (cs_cons (cs_asg (ce_add (ce_int) (ce_call (i := 21) (by rfl) (by rfl) (by kernel_rfl) (ca_cons (v_1) (ca_cons (ce_int) (ca_nil))))) (cg_nm (i := 11) (by rfl) (.inl (by kernel_rfl)))) (cs_cons (cs_ite (ct_not (ct_val (ce_call (i := 23) (by rfl) (by rfl) (by kernel_rfl) (ca_cons (ce_call (i := 19) (by rfl) (by rfl) (by kernel_rfl) (ca_cons (v_11) (ca_cons (v_10) (ca_nil)))) (ca_cons (ce_call (i := 30) (by rfl) (by rfl) (by kernel_rfl) (ca_cons (v_11) (ca_cons (v_10) (ca_nil)))) (ca_nil)))))) (cs_cons (cs_ret (ce_bl)) (cs_nil)) (cs_nil)) (cs_nil)))))))))))))))) (cs_cons (cs_ret (ce_bl)) (cs_nil)))))
end
def FUEL : Nat := 1000000
def DEEP : Nat := 40
def CFG : Cfg := ⟨callN TBL FUEL DEEP, FUEL⟩
abbrev spLaw (K : PySem.W.Frag) : Sp := spF ⟨K, []⟩ ⟨callN TBL FUEL (DEEP - 1 + 1), FUEL⟩ 32
theorem all_mk {l : PySem.W.OpenLaw} {w : World} {K : PySem.W.Frag} {h : Heap} {mg : Str → Option Value} {fa f0 f1 f2 f3 f4 f5 f6 f7 f8 f9 f10 f11 f12 f13 f14 f15 f16 f17 f18 f19 f20 f21 f22 f23 f24 f25 f26 f27 f28 f29 f30 f31 f32 : Addr} (X : K.In h) (Gn : h.Ns mainGlobals mg) (hfa : mg "law" = some (.ref fa))
    {od0 an0 od1 an1 od2 an2 od3 an3 od4 an4 od5 an5 od6 an6 od7 an7 od8 an8 od9 an9 od10 an10 od11 an11 od12 an12 od13 an13 od14 an14 od15 an15 od16 an16 od17 an17 od18 an18 od19 an19 od20 an20 od21 an21 od22 an22 od23 an23 od24 an24 od25 an25 od26 an26 od27 an27 od28 an28 od29 an29 od30 an30 od31 an31 od32 an32 : Option Addr} {sl0 sl1 sl2 sl3 sl4 sl5 sl6 sl7 sl8 sl9 sl10 sl11 sl12 sl13 sl14 sl15 sl16 sl17 sl18 sl19 sl20 sl21 sl22 sl23 sl24 sl25 sl26 sl27 sl28 sl29 sl30 sl31 sl32 : Array (Option Value)}
    {oc0 kV0 dc0 pm0 cd0 ct0 oc1 kV1 dc1 pm1 cd1 ct1 oc2 kV2 dc2 pm2 cd2 ct2 oc3 kV3 dc3 pm3 cd3 ct3 oc4 kV4 dc4 pm4 cd4 ct4 oc5 kV5 dc5 pm5 cd5 ct5 oc6 kV6 dc6 pm6 cd6 ct6 oc7 kV7 dc7 pm7 cd7 ct7 oc8 kV8 dc8 pm8 cd8 ct8 oc9 kV9 dc9 pm9 cd9 ct9 oc10 kV10 dc10 pm10 cd10 ct10 oc11 kV11 dc11 pm11 cd11 ct11 oc12 kV12 dc12 pm12 cd12 ct12 oc13 kV13 dc13 pm13 cd13 ct13 oc14 kV14 dc14 pm14 cd14 ct14 oc15 kV15 dc15 pm15 cd15 ct15 oc16 kV16 dc16 pm16 cd16 ct16 oc17 kV17 dc17 pm17 cd17 ct17 oc18 kV18 dc18 pm18 cd18 ct18 oc19 kV19 dc19 pm19 cd19 ct19 oc20 kV20 dc20 pm20 cd20 ct20 oc21 kV21 dc21 pm21 cd21 ct21 oc22 kV22 dc22 pm22 cd22 ct22 oc23 kV23 dc23 pm23 cd23 ct23 oc24 kV24 dc24 pm24 cd24 ct24 oc25 kV25 dc25 pm25 cd25 ct25 oc26 kV26 dc26 pm26 cd26 ct26 oc27 kV27 dc27 pm27 cd27 ct27 oc28 kV28 dc28 pm28 cd28 ct28 oc29 kV29 dc29 pm29 cd29 ct29 oc30 kV30 dc30 pm30 cd30 ct30 oc31 kV31 dc31 pm31 cd31 ct31 oc32 kV32 dc32 pm32 cd32 ct32 : Value} {tk_MOST_ARMS tk_MOST_DEEP tk_MOST_FORKS : Tok}
    (a0 : PySem.W.nsIn K mainGlobals "is_integer" = some (some (.ref f0))) (l0 : K.lookup f0 = some ⟨oc0, od0, .func (PySem.W.fnOf "is_integer" "is_integer" (defArgs s0) (defBody s0) (defScope s0) .none kV0 dc0 pm0 an0 cd0 ct0), sl0⟩) (c0 : PySem.W.codeIn K cd0 "is_integer" = true) (k0 : PySem.W.keepIn K (.ref f0) = true)
    (a1 : PySem.W.nsIn K mainGlobals "is_within" = some (some (.ref f1))) (l1 : K.lookup f1 = some ⟨oc1, od1, .func (PySem.W.fnOf "is_within" "is_within" (defArgs s1) (defBody s1) (defScope s1) .none kV1 dc1 pm1 an1 cd1 ct1), sl1⟩) (c1 : PySem.W.codeIn K cd1 "is_within" = true) (k1 : PySem.W.keepIn K (.ref f1) = true)
    (a2 : PySem.W.nsIn K mainGlobals "are_integers" = some (some (.ref f2))) (l2 : K.lookup f2 = some ⟨oc2, od2, .func (PySem.W.fnOf "are_integers" "are_integers" (defArgs s2) (defBody s2) (defScope s2) .none kV2 dc2 pm2 an2 cd2 ct2), sl2⟩) (c2 : PySem.W.codeIn K cd2 "are_integers" = true) (k2 : PySem.W.keepIn K (.ref f2) = true)
    (a3 : PySem.W.nsIn K mainGlobals "choose" = some (some (.ref f3))) (l3 : K.lookup f3 = some ⟨oc3, od3, .func (PySem.W.fnOf "choose" "choose" (defArgs s3) (defBody s3) (defScope s3) .none kV3 dc3 pm3 an3 cd3 ct3), sl3⟩) (c3 : PySem.W.codeIn K cd3 "choose" = true) (k3 : PySem.W.keepIn K (.ref f3) = true)
    (a4 : PySem.W.nsIn K mainGlobals "is_many_arms" = some (some (.ref f4))) (l4 : K.lookup f4 = some ⟨oc4, od4, .func (PySem.W.fnOf "is_many_arms" "is_many_arms" (defArgs s4) (defBody s4) (defScope s4) .none kV4 dc4 pm4 an4 cd4 ct4), sl4⟩) (c4 : PySem.W.codeIn K cd4 "is_many_arms" = true) (k4 : PySem.W.keepIn K (.ref f4) = true)
    (a5 : PySem.W.nsIn K mainGlobals "check_many" = some (some (.ref f5))) (l5 : K.lookup f5 = some ⟨oc5, od5, .func (PySem.W.fnOf "check_many" "check_many" (defArgs s5) (defBody s5) (defScope s5) .none kV5 dc5 pm5 an5 cd5 ct5), sl5⟩) (c5 : PySem.W.codeIn K cd5 "check_many" = true) (k5 : PySem.W.keepIn K (.ref f5) = true)
    (a6 : PySem.W.nsIn K mainGlobals "forks" = some (some (.ref f6))) (l6 : K.lookup f6 = some ⟨oc6, od6, .func (PySem.W.fnOf "forks" "forks" (defArgs s6) (defBody s6) (defScope s6) .none kV6 dc6 pm6 an6 cd6 ct6), sl6⟩) (c6 : PySem.W.codeIn K cd6 "forks" = true) (k6 : PySem.W.keepIn K (.ref f6) = true)
    (a7 : PySem.W.nsIn K mainGlobals "forks_of" = some (some (.ref f7))) (l7 : K.lookup f7 = some ⟨oc7, od7, .func (PySem.W.fnOf "forks_of" "forks_of" (defArgs s7) (defBody s7) (defScope s7) .none kV7 dc7 pm7 an7 cd7 ct7), sl7⟩) (c7 : PySem.W.codeIn K cd7 "forks_of" = true) (k7 : PySem.W.keepIn K (.ref f7) = true)
    (a8 : PySem.W.nsIn K mainGlobals "fork_number" = some (some (.ref f8))) (l8 : K.lookup f8 = some ⟨oc8, od8, .func (PySem.W.fnOf "fork_number" "fork_number" (defArgs s8) (defBody s8) (defScope s8) .none kV8 dc8 pm8 an8 cd8 ct8), sl8⟩) (c8 : PySem.W.codeIn K cd8 "fork_number" = true) (k8 : PySem.W.keepIn K (.ref f8) = true)
    (a9 : PySem.W.nsIn K mainGlobals "open_word" = some (some (.ref f9))) (l9 : K.lookup f9 = some ⟨oc9, od9, .func (PySem.W.fnOf "open_word" "open_word" (defArgs s9) (defBody s9) (defScope s9) .none kV9 dc9 pm9 an9 cd9 ct9), sl9⟩) (c9 : PySem.W.codeIn K cd9 "open_word" = true) (k9 : PySem.W.keepIn K (.ref f9) = true)
    (a10 : PySem.W.nsIn K mainGlobals "is_open_word" = some (some (.ref f10))) (l10 : K.lookup f10 = some ⟨oc10, od10, .func (PySem.W.fnOf "is_open_word" "is_open_word" (defArgs s10) (defBody s10) (defScope s10) .none kV10 dc10 pm10 an10 cd10 ct10), sl10⟩) (c10 : PySem.W.codeIn K cd10 "is_open_word" = true) (k10 : PySem.W.keepIn K (.ref f10) = true)
    (a11 : PySem.W.nsIn K mainGlobals "tree_of_word" = some (some (.ref f11))) (l11 : K.lookup f11 = some ⟨oc11, od11, .func (PySem.W.fnOf "tree_of_word" "tree_of_word" (defArgs s11) (defBody s11) (defScope s11) .none kV11 dc11 pm11 an11 cd11 ct11), sl11⟩) (c11 : PySem.W.codeIn K cd11 "tree_of_word" = true) (k11 : PySem.W.keepIn K (.ref f11) = true)
    (a12 : PySem.W.nsIn K mainGlobals "ends_on" = some (some (.ref f12))) (l12 : K.lookup f12 = some ⟨oc12, od12, .func (PySem.W.fnOf "ends_on" "ends_on" (defArgs s12) (defBody s12) (defScope s12) .none kV12 dc12 pm12 an12 cd12 ct12), sl12⟩) (c12 : PySem.W.codeIn K cd12 "ends_on" = true) (k12 : PySem.W.keepIn K (.ref f12) = true)
    (a13 : PySem.W.nsIn K mainGlobals "many_arms_at" = some (some (.ref f13))) (l13 : K.lookup f13 = some ⟨oc13, od13, .func (PySem.W.fnOf "many_arms_at" "many_arms_at" (defArgs s13) (defBody s13) (defScope s13) .none kV13 dc13 pm13 an13 cd13 ct13), sl13⟩) (c13 : PySem.W.codeIn K cd13 "many_arms_at" = true) (k13 : PySem.W.keepIn K (.ref f13) = true)
    (a14 : PySem.W.nsIn K mainGlobals "tree_place" = some (some (.ref f14))) (l14 : K.lookup f14 = some ⟨oc14, od14, .func (PySem.W.fnOf "tree_place" "tree_place" (defArgs s14) (defBody s14) (defScope s14) .none kV14 dc14 pm14 an14 cd14 ct14), sl14⟩) (c14 : PySem.W.codeIn K cd14 "tree_place" = true) (k14 : PySem.W.keepIn K (.ref f14) = true)
    (a15 : PySem.W.nsIn K mainGlobals "level_word" = some (some (.ref f15))) (l15 : K.lookup f15 = some ⟨oc15, od15, .func (PySem.W.fnOf "level_word" "level_word" (defArgs s15) (defBody s15) (defScope s15) .none kV15 dc15 pm15 an15 cd15 ct15), sl15⟩) (c15 : PySem.W.codeIn K cd15 "level_word" = true) (k15 : PySem.W.keepIn K (.ref f15) = true)
    (a16 : PySem.W.nsIn K mainGlobals "tree_of_levels" = some (some (.ref f16))) (l16 : K.lookup f16 = some ⟨oc16, od16, .func (PySem.W.fnOf "tree_of_levels" "tree_of_levels" (defArgs s16) (defBody s16) (defScope s16) .none kV16 dc16 pm16 an16 cd16 ct16), sl16⟩) (c16 : PySem.W.codeIn K cd16 "tree_of_levels" = true) (k16 : PySem.W.keepIn K (.ref f16) = true)
    (a17 : PySem.W.nsIn K mainGlobals "put_up" = some (some (.ref f17))) (l17 : K.lookup f17 = some ⟨oc17, od17, .func (PySem.W.fnOf "put_up" "put_up" (defArgs s17) (defBody s17) (defScope s17) .none kV17 dc17 pm17 an17 cd17 ct17), sl17⟩) (c17 : PySem.W.codeIn K cd17 "put_up" = true) (k17 : PySem.W.keepIn K (.ref f17) = true)
    (a18 : PySem.W.nsIn K mainGlobals "heights_sum" = some (some (.ref f18))) (l18 : K.lookup f18 = some ⟨oc18, od18, .func (PySem.W.fnOf "heights_sum" "heights_sum" (defArgs s18) (defBody s18) (defScope s18) .none kV18 dc18 pm18 an18 cd18 ct18), sl18⟩) (c18 : PySem.W.codeIn K cd18 "heights_sum" = true) (k18 : PySem.W.keepIn K (.ref f18) = true)
    (a19 : PySem.W.nsIn K mainGlobals "least_sum" = some (some (.ref f19))) (l19 : K.lookup f19 = some ⟨oc19, od19, .func (PySem.W.fnOf "least_sum" "least_sum" (defArgs s19) (defBody s19) (defScope s19) .none kV19 dc19 pm19 an19 cd19 ct19), sl19⟩) (c19 : PySem.W.codeIn K cd19 "least_sum" = true) (k19 : PySem.W.keepIn K (.ref f19) = true)
    (a20 : PySem.W.nsIn K mainGlobals "_law_hand" = some (some (.ref f20))) (l20 : K.lookup f20 = some ⟨oc20, od20, .func (PySem.W.fnOf "_law_hand" "_law_hand" (defArgs s20) (defBody s20) (defScope s20) .none kV20 dc20 pm20 an20 cd20 ct20), sl20⟩) (c20 : PySem.W.codeIn K cd20 "_law_hand" = true) (k20 : PySem.W.keepIn K (.ref f20) = true)
    (a21 : PySem.W.nsIn K mainGlobals "_law_draw" = some (some (.ref f21))) (l21 : K.lookup f21 = some ⟨oc21, od21, .func (PySem.W.fnOf "_law_draw" "_law_draw" (defArgs s21) (defBody s21) (defScope s21) .none kV21 dc21 pm21 an21 cd21 ct21), sl21⟩) (c21 : PySem.W.codeIn K cd21 "_law_draw" = true) (k21 : PySem.W.keepIn K (.ref f21) = true)
    (a22 : PySem.W.nsIn K mainGlobals "_law_any" = some (some (.ref f22))) (l22 : K.lookup f22 = some ⟨oc22, od22, .func (PySem.W.fnOf "_law_any" "_law_any" (defArgs s22) (defBody s22) (defScope s22) .none kV22 dc22 pm22 an22 cd22 ct22), sl22⟩) (c22 : PySem.W.codeIn K cd22 "_law_any" = true) (k22 : PySem.W.keepIn K (.ref f22) = true)
    (a23 : PySem.W.nsIn K mainGlobals "_law_same" = some (some (.ref f23))) (l23 : K.lookup f23 = some ⟨oc23, od23, .func (PySem.W.fnOf "_law_same" "_law_same" (defArgs s23) (defBody s23) (defScope s23) .none kV23 dc23 pm23 an23 cd23 ct23), sl23⟩) (c23 : PySem.W.codeIn K cd23 "_law_same" = true) (k23 : PySem.W.keepIn K (.ref f23) = true)
    (a24 : PySem.W.nsIn K mainGlobals "_law_of_word" = some (some (.ref f24))) (l24 : K.lookup f24 = some ⟨oc24, od24, .func (PySem.W.fnOf "_law_of_word" "_law_of_word" (defArgs s24) (defBody s24) (defScope s24) .none kV24 dc24 pm24 an24 cd24 ct24), sl24⟩) (c24 : PySem.W.codeIn K cd24 "_law_of_word" = true) (k24 : PySem.W.keepIn K (.ref f24) = true)
    (a25 : PySem.W.nsIn K mainGlobals "_law_drawn_word" = some (some (.ref f25))) (l25 : K.lookup f25 = some ⟨oc25, od25, .func (PySem.W.fnOf "_law_drawn_word" "_law_drawn_word" (defArgs s25) (defBody s25) (defScope s25) .none kV25 dc25 pm25 an25 cd25 ct25), sl25⟩) (c25 : PySem.W.codeIn K cd25 "_law_drawn_word" = true) (k25 : PySem.W.keepIn K (.ref f25) = true)
    (a26 : PySem.W.nsIn K mainGlobals "_law_levels" = some (some (.ref f26))) (l26 : K.lookup f26 = some ⟨oc26, od26, .func (PySem.W.fnOf "_law_levels" "_law_levels" (defArgs s26) (defBody s26) (defScope s26) .none kV26 dc26 pm26 an26 cd26 ct26), sl26⟩) (c26 : PySem.W.codeIn K cd26 "_law_levels" = true) (k26 : PySem.W.keepIn K (.ref f26) = true)
    (a27 : PySem.W.nsIn K mainGlobals "_law_number" = some (some (.ref f27))) (l27 : K.lookup f27 = some ⟨oc27, od27, .func (PySem.W.fnOf "_law_number" "_law_number" (defArgs s27) (defBody s27) (defScope s27) .none kV27 dc27 pm27 an27 cd27 ct27), sl27⟩) (c27 : PySem.W.codeIn K cd27 "_law_number" = true) (k27 : PySem.W.keepIn K (.ref f27) = true)
    (a28 : PySem.W.nsIn K mainGlobals "_law_words" = some (some (.ref f28))) (l28 : K.lookup f28 = some ⟨oc28, od28, .func (PySem.W.fnOf "_law_words" "_law_words" (defArgs s28) (defBody s28) (defScope s28) .none kV28 dc28 pm28 an28 cd28 ct28), sl28⟩) (c28 : PySem.W.codeIn K cd28 "_law_words" = true) (k28 : PySem.W.keepIn K (.ref f28) = true)
    (a29 : PySem.W.nsIn K mainGlobals "_law_sums" = some (some (.ref f29))) (l29 : K.lookup f29 = some ⟨oc29, od29, .func (PySem.W.fnOf "_law_sums" "_law_sums" (defArgs s29) (defBody s29) (defScope s29) .none kV29 dc29 pm29 an29 cd29 ct29), sl29⟩) (c29 : PySem.W.codeIn K cd29 "_law_sums" = true) (k29 : PySem.W.keepIn K (.ref f29) = true)
    (a30 : PySem.W.nsIn K mainGlobals "_law_least" = some (some (.ref f30))) (l30 : K.lookup f30 = some ⟨oc30, od30, .func (PySem.W.fnOf "_law_least" "_law_least" (defArgs s30) (defBody s30) (defScope s30) .none kV30 dc30 pm30 an30 cd30 ct30), sl30⟩) (c30 : PySem.W.codeIn K cd30 "_law_least" = true) (k30 : PySem.W.keepIn K (.ref f30) = true)
    (a31 : PySem.W.nsIn K mainGlobals "_law_is_right" = some (some (.ref f31))) (l31 : K.lookup f31 = some ⟨oc31, od31, .func (PySem.W.fnOf "_law_is_right" "_law_is_right" (defArgs s31) (defBody s31) (defScope s31) .none kV31 dc31 pm31 an31 cd31 ct31), sl31⟩) (c31 : PySem.W.codeIn K cd31 "_law_is_right" = true) (k31 : PySem.W.keepIn K (.ref f31) = true)
    (a32 : PySem.W.nsIn K mainGlobals "law" = some (some (.ref f32))) (l32 : K.lookup f32 = some ⟨oc32, od32, .func (PySem.W.fnOf "law" "law" (defArgs s32) (defBody s32) (defScope s32) .none kV32 dc32 pm32 an32 cd32 ct32), sl32⟩) (c32 : PySem.W.codeIn K cd32 "law" = true) (k32 : PySem.W.keepIn K (.ref f32) = true)
    (z_abs : PySem.W.nsIn K mainGlobals "abs" = some none)    (z_all : PySem.W.nsIn K mainGlobals "all" = some none)    (z_any : PySem.W.nsIn K mainGlobals "any" = some none)    (z_bool : PySem.W.nsIn K mainGlobals "bool" = some none)    (z_enumerate : PySem.W.nsIn K mainGlobals "enumerate" = some none)    (z_int : PySem.W.nsIn K mainGlobals "int" = some none)    (z_isinstance : PySem.W.nsIn K mainGlobals "isinstance" = some none)    (z_len : PySem.W.nsIn K mainGlobals "len" = some none)    (z_list : PySem.W.nsIn K mainGlobals "list" = some none)    (z_min : PySem.W.nsIn K mainGlobals "min" = some none)    (z_range : PySem.W.nsIn K mainGlobals "range" = some none)    (z_reversed : PySem.W.nsIn K mainGlobals "reversed" = some none)    (z_str : PySem.W.nsIn K mainGlobals "str" = some none)    (z_tuple : PySem.W.nsIn K mainGlobals "tuple" = some none)    (z_zip : PySem.W.nsIn K mainGlobals "zip" = some none)    (g_MOST_ARMS : PySem.W.nsIn K mainGlobals "MOST_ARMS" = some (some (.int 12 tk_MOST_ARMS)))    (g_MOST_DEEP : PySem.W.nsIn K mainGlobals "MOST_DEEP" = some (some (.int 30 tk_MOST_DEEP)))    (g_MOST_FORKS : PySem.W.nsIn K mainGlobals "MOST_FORKS" = some (some (.int 150 tk_MOST_FORKS))) :
    ∃ fd : FuncData, (∀ (s : Shared) (v : Value), BindsTo s fd ⟨[v], []⟩ [("script", v)]) ∧ ∀ base : Heap, K.In base → base.Ns mainGlobals mg → FnOk l.prog w K mg base (L2.CX l.prog w) (DEEP - 1 + 1) fa fd ["script"] (spLaw K) := by
  have e := hfa.symm.trans (PySem.W.mg_of X Gn a32)
  cases e
  have Z : Mg mg := ⟨PySem.W.mg_none_of X Gn z_abs, PySem.W.mg_none_of X Gn z_all, PySem.W.mg_none_of X Gn z_any, PySem.W.mg_none_of X Gn z_bool, PySem.W.mg_none_of X Gn z_enumerate, PySem.W.mg_none_of X Gn z_int, PySem.W.mg_none_of X Gn z_isinstance, PySem.W.mg_none_of X Gn z_len, PySem.W.mg_none_of X Gn z_list, PySem.W.mg_none_of X Gn z_min, PySem.W.mg_none_of X Gn z_range, PySem.W.mg_none_of X Gn z_reversed, PySem.W.mg_none_of X Gn z_str, PySem.W.mg_none_of X Gn z_tuple, PySem.W.mg_none_of X Gn z_zip, ⟨tk_MOST_ARMS, _, rfl, PySem.W.mg_of X Gn g_MOST_ARMS⟩, ⟨tk_MOST_DEEP, _, rfl, PySem.W.mg_of X Gn g_MOST_DEEP⟩, ⟨tk_MOST_FORKS, _, rfl, PySem.W.mg_of X Gn g_MOST_FORKS⟩⟩
  refine ⟨PySem.W.fnOf "law" "law" (defArgs s32) (defBody s32) (defScope s32) .none kV32 dc32 pm32 an32 cd32 ct32, fun s v => .of_eq rfl, fun base _ _ => ?_⟩
  have hd : ∀ i fi, FNS[i]? = some fi → DefOk ⟨K, []⟩ l.prog w mg base FNS TBL i fi := fun i fi h => match i, h with
    | 0, h => by
      obtain rfl : (⟨"is_integer", P0⟩ : FnI) = fi := Option.some.inj h
      exact ⟨f0, _, "is_integer", s0, N0, B0, PySem.W.mg_of X Gn a0, fun_mk (st := s0) l0 c0 k0, (fun_mk (st := s0) l0 c0 k0).binds (ps := P0) fun _ _ _ _ _ _ us hl => match us, hl with | [_], _ => rfl, sc0, rfl, fun c k => cs0 Z c k⟩
    | 1, h => by
      obtain rfl : (⟨"is_within", P1⟩ : FnI) = fi := Option.some.inj h
      exact ⟨f1, _, "is_within", s1, N1, B1, PySem.W.mg_of X Gn a1, fun_mk (st := s1) l1 c1 k1, (fun_mk (st := s1) l1 c1 k1).binds (ps := P1) fun _ _ _ _ _ _ us hl => match us, hl with | [_, _, _], _ => rfl, sc1, rfl, fun c k => cs1 Z c k⟩
    | 2, h => by
      obtain rfl : (⟨"are_integers", P2⟩ : FnI) = fi := Option.some.inj h
      exact ⟨f2, _, "are_integers", s2, N2, B2, PySem.W.mg_of X Gn a2, fun_mk (st := s2) l2 c2 k2, (fun_mk (st := s2) l2 c2 k2).binds (ps := P2) fun _ _ _ _ _ _ us hl => match us, hl with | [_], _ => rfl, sc2, rfl, fun c k => cs2 Z c k⟩
    | 3, h => by
      obtain rfl : (⟨"choose", P3⟩ : FnI) = fi := Option.some.inj h
      exact ⟨f3, _, "choose", s3, N3, B3, PySem.W.mg_of X Gn a3, fun_mk (st := s3) l3 c3 k3, (fun_mk (st := s3) l3 c3 k3).binds (ps := P3) fun _ _ _ _ _ _ us hl => match us, hl with | [_, _], _ => rfl, sc3, rfl, fun c k => cs3 Z c k⟩
    | 4, h => by
      obtain rfl : (⟨"is_many_arms", P4⟩ : FnI) = fi := Option.some.inj h
      exact ⟨f4, _, "is_many_arms", s4, N4, B4, PySem.W.mg_of X Gn a4, fun_mk (st := s4) l4 c4 k4, (fun_mk (st := s4) l4 c4 k4).binds (ps := P4) fun _ _ _ _ _ _ us hl => match us, hl with | [_, _], _ => rfl, sc4, rfl, fun c k => cs4 Z c k⟩
    | 5, h => by
      obtain rfl : (⟨"check_many", P5⟩ : FnI) = fi := Option.some.inj h
      exact ⟨f5, _, "check_many", s5, N5, B5, PySem.W.mg_of X Gn a5, fun_mk (st := s5) l5 c5 k5, (fun_mk (st := s5) l5 c5 k5).binds (ps := P5) fun _ _ _ _ _ _ us hl => match us, hl with | [_, _], _ => rfl, sc5, rfl, fun c k => cs5 Z c k⟩
    | 6, h => by
      obtain rfl : (⟨"forks", P6⟩ : FnI) = fi := Option.some.inj h
      exact ⟨f6, _, "forks", s6, N6, B6, PySem.W.mg_of X Gn a6, fun_mk (st := s6) l6 c6 k6, (fun_mk (st := s6) l6 c6 k6).binds (ps := P6) fun _ _ _ _ _ _ us hl => match us, hl with | [_, _], _ => rfl, sc6, rfl, fun c k => cs6 Z c k⟩
    | 7, h => by
      obtain rfl : (⟨"forks_of", P7⟩ : FnI) = fi := Option.some.inj h
      exact ⟨f7, _, "forks_of", s7, N7, B7, PySem.W.mg_of X Gn a7, fun_mk (st := s7) l7 c7 k7, (fun_mk (st := s7) l7 c7 k7).binds (ps := P7) fun _ _ _ _ _ _ us hl => match us, hl with | [_], _ => rfl, sc7, rfl, fun c k => cs7 Z c k⟩
    | 8, h => by
      obtain rfl : (⟨"fork_number", P8⟩ : FnI) = fi := Option.some.inj h
      exact ⟨f8, _, "fork_number", s8, N8, B8, PySem.W.mg_of X Gn a8, fun_mk (st := s8) l8 c8 k8, (fun_mk (st := s8) l8 c8 k8).binds (ps := P8) fun _ _ _ _ _ _ us hl => match us, hl with | [_, _], _ => rfl, sc8, rfl, fun c k => cs8 Z c k⟩
    | 9, h => by
      obtain rfl : (⟨"open_word", P9⟩ : FnI) = fi := Option.some.inj h
      exact ⟨f9, _, "open_word", s9, N9, B9, PySem.W.mg_of X Gn a9, fun_mk (st := s9) l9 c9 k9, (fun_mk (st := s9) l9 c9 k9).binds (ps := P9) fun _ _ _ _ _ _ us hl => match us, hl with | [_, _], _ => rfl, sc9, rfl, fun c k => cs9 Z c k⟩
    | 10, h => by
      obtain rfl : (⟨"is_open_word", P10⟩ : FnI) = fi := Option.some.inj h
      exact ⟨f10, _, "is_open_word", s10, N10, B10, PySem.W.mg_of X Gn a10, fun_mk (st := s10) l10 c10 k10, (fun_mk (st := s10) l10 c10 k10).binds (ps := P10) fun _ _ _ _ _ _ us hl => match us, hl with | [_, _], _ => rfl, sc10, rfl, fun c k => cs10 Z c k⟩
    | 11, h => by
      obtain rfl : (⟨"tree_of_word", P11⟩ : FnI) = fi := Option.some.inj h
      exact ⟨f11, _, "tree_of_word", s11, N11, B11, PySem.W.mg_of X Gn a11, fun_mk (st := s11) l11 c11 k11, (fun_mk (st := s11) l11 c11 k11).binds (ps := P11) fun _ _ _ _ _ _ us hl => match us, hl with | [_, _], _ => rfl, sc11, rfl, fun c k => cs11 Z c k⟩
    | 12, h => by
      obtain rfl : (⟨"ends_on", P12⟩ : FnI) = fi := Option.some.inj h
      exact ⟨f12, _, "ends_on", s12, N12, B12, PySem.W.mg_of X Gn a12, fun_mk (st := s12) l12 c12 k12, (fun_mk (st := s12) l12 c12 k12).binds (ps := P12) fun _ _ _ _ _ _ us hl => match us, hl with | [_, _, _], _ => rfl, sc12, rfl, fun c k => cs12 Z c k⟩
    | 13, h => by
      obtain rfl : (⟨"many_arms_at", P13⟩ : FnI) = fi := Option.some.inj h
      exact ⟨f13, _, "many_arms_at", s13, N13, B13, PySem.W.mg_of X Gn a13, fun_mk (st := s13) l13 c13 k13, (fun_mk (st := s13) l13 c13 k13).binds (ps := P13) fun _ _ _ _ _ _ us hl => match us, hl with | [_, _, _], _ => rfl, sc13, rfl, fun c k => cs13 Z c k⟩
    | 14, h => by
      obtain rfl : (⟨"tree_place", P14⟩ : FnI) = fi := Option.some.inj h
      exact ⟨f14, _, "tree_place", s14, N14, B14, PySem.W.mg_of X Gn a14, fun_mk (st := s14) l14 c14 k14, (fun_mk (st := s14) l14 c14 k14).binds (ps := P14) fun _ _ _ _ _ _ us hl => match us, hl with | [_, _], _ => rfl, sc14, rfl, fun c k => cs14 Z c k⟩
    | 15, h => by
      obtain rfl : (⟨"level_word", P15⟩ : FnI) = fi := Option.some.inj h
      exact ⟨f15, _, "level_word", s15, N15, B15, PySem.W.mg_of X Gn a15, fun_mk (st := s15) l15 c15 k15, (fun_mk (st := s15) l15 c15 k15).binds (ps := P15) fun _ _ _ _ _ _ us hl => match us, hl with | [_, _], _ => rfl, sc15, rfl, fun c k => cs15 Z c k⟩
    | 16, h => by
      obtain rfl : (⟨"tree_of_levels", P16⟩ : FnI) = fi := Option.some.inj h
      exact ⟨f16, _, "tree_of_levels", s16, N16, B16, PySem.W.mg_of X Gn a16, fun_mk (st := s16) l16 c16 k16, (fun_mk (st := s16) l16 c16 k16).binds (ps := P16) fun _ _ _ _ _ _ us hl => match us, hl with | [_, _], _ => rfl, sc16, rfl, fun c k => cs16 Z c k⟩
    | 17, h => by
      obtain rfl : (⟨"put_up", P17⟩ : FnI) = fi := Option.some.inj h
      exact ⟨f17, _, "put_up", s17, N17, B17, PySem.W.mg_of X Gn a17, fun_mk (st := s17) l17 c17 k17, (fun_mk (st := s17) l17 c17 k17).binds (ps := P17) fun _ _ _ _ _ _ us hl => match us, hl with | [_, _], _ => rfl, sc17, rfl, fun c k => cs17 Z c k⟩
    | 18, h => by
      obtain rfl : (⟨"heights_sum", P18⟩ : FnI) = fi := Option.some.inj h
      exact ⟨f18, _, "heights_sum", s18, N18, B18, PySem.W.mg_of X Gn a18, fun_mk (st := s18) l18 c18 k18, (fun_mk (st := s18) l18 c18 k18).binds (ps := P18) fun _ _ _ _ _ _ us hl => match us, hl with | [_, _], _ => rfl, sc18, rfl, fun c k => cs18 Z c k⟩
    | 19, h => by
      obtain rfl : (⟨"least_sum", P19⟩ : FnI) = fi := Option.some.inj h
      exact ⟨f19, _, "least_sum", s19, N19, B19, PySem.W.mg_of X Gn a19, fun_mk (st := s19) l19 c19 k19, (fun_mk (st := s19) l19 c19 k19).binds (ps := P19) fun _ _ _ _ _ _ us hl => match us, hl with | [_, _], _ => rfl, sc19, rfl, fun c k => cs19 Z c k⟩
    | 20, h => by
      obtain rfl : (⟨"_law_hand", P20⟩ : FnI) = fi := Option.some.inj h
      exact ⟨f20, _, "_law_hand", s20, N20, B20, PySem.W.mg_of X Gn a20, fun_mk (st := s20) l20 c20 k20, (fun_mk (st := s20) l20 c20 k20).binds (ps := P20) fun _ _ _ _ _ _ us hl => match us, hl with | [_], _ => rfl, sc20, rfl, fun c k => cs20 Z c k⟩
    | 21, h => by
      obtain rfl : (⟨"_law_draw", P21⟩ : FnI) = fi := Option.some.inj h
      exact ⟨f21, _, "_law_draw", s21, N21, B21, PySem.W.mg_of X Gn a21, fun_mk (st := s21) l21 c21 k21, (fun_mk (st := s21) l21 c21 k21).binds (ps := P21) fun _ _ _ _ _ _ us hl => match us, hl with | [_, _], _ => rfl, sc21, rfl, fun c k => cs21 Z c k⟩
    | 22, h => by
      obtain rfl : (⟨"_law_any", P22⟩ : FnI) = fi := Option.some.inj h
      exact ⟨f22, _, "_law_any", s22, N22, B22, PySem.W.mg_of X Gn a22, fun_mk (st := s22) l22 c22 k22, (fun_mk (st := s22) l22 c22 k22).binds (ps := P22) fun _ _ _ _ _ _ us hl => match us, hl with | [_, _], _ => rfl, sc22, rfl, fun c k => cs22 Z c k⟩
    | 23, h => by
      obtain rfl : (⟨"_law_same", P23⟩ : FnI) = fi := Option.some.inj h
      exact ⟨f23, _, "_law_same", s23, N23, B23, PySem.W.mg_of X Gn a23, fun_mk (st := s23) l23 c23 k23, (fun_mk (st := s23) l23 c23 k23).binds (ps := P23) fun _ _ _ _ _ _ us hl => match us, hl with | [_, _], _ => rfl, sc23, rfl, fun c k => cs23 Z c k⟩
    | 24, h => by
      obtain rfl : (⟨"_law_of_word", P24⟩ : FnI) = fi := Option.some.inj h
      exact ⟨f24, _, "_law_of_word", s24, N24, B24, PySem.W.mg_of X Gn a24, fun_mk (st := s24) l24 c24 k24, (fun_mk (st := s24) l24 c24 k24).binds (ps := P24) fun _ _ _ _ _ _ us hl => match us, hl with | [_, _], _ => rfl, sc24, rfl, fun c k => cs24 Z c k⟩
    | 25, h => by
      obtain rfl : (⟨"_law_drawn_word", P25⟩ : FnI) = fi := Option.some.inj h
      exact ⟨f25, _, "_law_drawn_word", s25, N25, B25, PySem.W.mg_of X Gn a25, fun_mk (st := s25) l25 c25 k25, (fun_mk (st := s25) l25 c25 k25).binds (ps := P25) fun _ _ _ _ _ _ us hl => match us, hl with | [_, _, _], _ => rfl, sc25, rfl, fun c k => cs25 Z c k⟩
    | 26, h => by
      obtain rfl : (⟨"_law_levels", P26⟩ : FnI) = fi := Option.some.inj h
      exact ⟨f26, _, "_law_levels", s26, N26, B26, PySem.W.mg_of X Gn a26, fun_mk (st := s26) l26 c26 k26, (fun_mk (st := s26) l26 c26 k26).binds (ps := P26) fun _ _ _ _ _ _ us hl => match us, hl with | [_], _ => rfl, sc26, rfl, fun c k => cs26 Z c k⟩
    | 27, h => by
      obtain rfl : (⟨"_law_number", P27⟩ : FnI) = fi := Option.some.inj h
      exact ⟨f27, _, "_law_number", s27, N27, B27, PySem.W.mg_of X Gn a27, fun_mk (st := s27) l27 c27 k27, (fun_mk (st := s27) l27 c27 k27).binds (ps := P27) fun _ _ _ _ _ _ us hl => match us, hl with | [_, _], _ => rfl, sc27, rfl, fun c k => cs27 Z c k⟩
    | 28, h => by
      obtain rfl : (⟨"_law_words", P28⟩ : FnI) = fi := Option.some.inj h
      exact ⟨f28, _, "_law_words", s28, N28, B28, PySem.W.mg_of X Gn a28, fun_mk (st := s28) l28 c28 k28, (fun_mk (st := s28) l28 c28 k28).binds (ps := P28) fun _ _ _ _ _ _ us hl => match us, hl with | [_, _], _ => rfl, sc28, rfl, fun c k => cs28 Z c k⟩
    | 29, h => by
      obtain rfl : (⟨"_law_sums", P29⟩ : FnI) = fi := Option.some.inj h
      exact ⟨f29, _, "_law_sums", s29, N29, B29, PySem.W.mg_of X Gn a29, fun_mk (st := s29) l29 c29 k29, (fun_mk (st := s29) l29 c29 k29).binds (ps := P29) fun _ _ _ _ _ _ us hl => match us, hl with | [_], _ => rfl, sc29, rfl, fun c k => cs29 Z c k⟩
    | 30, h => by
      obtain rfl : (⟨"_law_least", P30⟩ : FnI) = fi := Option.some.inj h
      exact ⟨f30, _, "_law_least", s30, N30, B30, PySem.W.mg_of X Gn a30, fun_mk (st := s30) l30 c30 k30, (fun_mk (st := s30) l30 c30 k30).binds (ps := P30) fun _ _ _ _ _ _ us hl => match us, hl with | [_, _], _ => rfl, sc30, rfl, fun c k => cs30 Z c k⟩
    | 31, h => by
      obtain rfl : (⟨"_law_is_right", P31⟩ : FnI) = fi := Option.some.inj h
      exact ⟨f31, _, "_law_is_right", s31, N31, B31, PySem.W.mg_of X Gn a31, fun_mk (st := s31) l31 c31 k31, (fun_mk (st := s31) l31 c31 k31).binds (ps := P31) fun _ _ _ _ _ _ us hl => match us, hl with | [_, _, _], _ => rfl, sc31, rfl, fun c k => cs31 Z c k⟩
    | 32, h => by
      obtain rfl : (⟨"law", P32⟩ : FnI) = fi := Option.some.inj h
      exact ⟨fa, _, "law", s32, N32, B32, PySem.W.mg_of X Gn a32, fun_mk (st := s32) l32 c32 k32, (fun_mk (st := s32) l32 c32 k32).binds (ps := P32) fun _ _ _ _ _ _ us hl => match us, hl with | [_], _ => rfl, sc32, rfl, fun c k => cs32 Z c k⟩
    | n + 33, h => by cases h
  exact fn_step (G := ⟨K, []⟩) (fi := ⟨"law", P32⟩) (fns_ok hd (DEEP - 1)) (fun_mk (st := s32) l32 c32 k32) sc32 rfl fun c k => cs32 Z c k
end K52
set_option Elab.async false
set_option linter.all false
set_option maxRecDepth 100000
set_option maxHeartbeats 1000000
namespace K52
open Mini
abbrev run (k : Nat) : Nat → List D → S → R D := callN TBL FUEL k
abbrev cf (k : Nat) : Cfg := ⟨callN TBL FUEL k, FUEL⟩
theorem isInt_ok (k : Nat) (i : Int) (s : S) : run (k + 1) 0 [.int i] s = .ok (.bl true) s := by
  rw [run, callN_at (n := 1) (np := 1) (body := B0) rfl rfl, B0]
  rw [x_ret (d := .bl true) (s1 := s) (by simp)]
  rfl
theorem within_ok (k : Nat) (i lo hi : Int) (s : S) (h1 : lo ≤ i) (h2 : i ≤ hi) : run (k + 2) 1 [.int i, .int lo, .int hi] s = .ok (.bl true) s := by
  rw [run, callN_at (n := 3) (np := 3) (body := B1) rfl rfl, B1]
  have e := isInt_ok k i s
  rw [run] at e
  rw [x_ret (d := .bl true) (s1 := s) (by simp [e, h1, h2])]
  rfl
/-- the loop of choose -/
def chF (n : Int) : Nat → Int
  | 0 => 1
  | m + 1 => (chF n m * (n - m)).fdiv (m + 1)
theorem choose_ok (k : Nat) (n : Int) (m : Nat) (s : S) (h1 : (m : Int) ≤ n) (h2 : n < 1000000) : run (k + 1) 3 [.int n, .int m] s = .ok (.int (chF n m)) s := by
  rw [run, callN_at (n := 4) (np := 2) (body := B3) rfl rfl, B3]
  show retF (execs (cf k) _ [some (.int n), some (.int m), none, none] s) = _
  rw [x_skip (s1 := s) (by simp [show ¬ ((m : Int) < 0) by omega, show ¬ (n < (m : Int)) by omega]), x_asg (d := .int 1) (s1 := s) (by simp)]
  simp only [List.set_cons_succ, List.set_cons_zero]
  obtain ⟨env2, s2, e, e1, a, e2⟩ := run_rng1 (c := cf k) (es := [.var 1]) (j := 3) (n := m) (b := [.asg (.nm 2) (.prim .fdv [.prim .mul [.var 2, .prim .sub [.var 0, .var 3]], .prim .add [.var 3, .con (.int 1)]])])
    (env := [some (.int n), some (.int m), some (.int 1), none]) (s := s) (s1 := s) (fun i env s1 => s1 = s ∧ ∃ a, env = [some (.int n), some (.int m), some (.int (chF n i)), a]) (by simp) (by omega) (by simp only [FUEL]; omega) ⟨rfl, none, rfl⟩
    (fun i env s1 hi ⟨e1, a, e2⟩ => by
      subst e1
      subst e2
      refine ⟨_, _, ?_, rfl, some (.int i), rfl⟩
      rw [x_asg (d := .int (chF n (i + 1))) (s1 := s1) (by
        simp only [ev_p2, ev_var2, ev_var0, ev_var3, ev_con, R.bind_ok, List.set_cons_succ, List.set_cons_zero, pm_sub, ofOpt_some, pm_add]
        rw [pm_mul (.inr (by omega)), ofOpt_some, R.bind_ok, pm_fdv (by omega)]
        rfl), xs_nil]
      rfl)
  subst e1
  subst e2
  rw [xs_nx e, x_ret (d := .int (chF n m)) (s1 := s2) (by simp)]
  rfl
theorem fork_ok (k a m : Nat) (s : S) (h1 : 1 ≤ a) (h2 : a ≤ 12) (h3 : m ≤ 500) : run (k + 3) 8 [.int a, .int m] s = .ok (.int ((chF (a * m : Nat) m).fdiv ((a - 1) * m + 1))) s := by
  rw [run, callN_at (n := 2) (np := 2) (body := B8) rfl rfl, B8]
  show retF (execs (cf (k + 2)) _ [some (.int a), some (.int m)] s) = _
  have e1 := within_ok k a 1 12 s (by omega) (by omega)
  have e2 := within_ok k m 0 500 s (by omega) (by omega)
  rw [x_skip (s1 := s) (by simp [cf, run] at e1 e2 ⊢; simp [e1, e2])]
  have hm : m ≤ a * m := Nat.le_mul_of_pos_left m h1
  have hb : a * m ≤ 6000 := Nat.mul_le_mul h2 h3
  have e3 := choose_ok (k + 1) (a * m : Nat) m s (by omega) (by omega)
  rw [Int.natCast_mul] at e3
  have hq : ((a : Int) - 1) * m ≤ 6000 := by
    have : ((a : Int) - 1) * m ≤ a * m := by
      rw [Int.sub_mul]
      omega
    have : ((a : Int) * m) = ((a * m : Nat) : Int) := by rw [Int.natCast_mul]
    omega
  have hq0 : 0 ≤ ((a : Int) - 1) * m := Int.mul_nonneg (by omega) (by omega)
  rw [x_ret (d := .int ((chF (a * m : Nat) m).fdiv ((a - 1) * m + 1))) (s1 := s) (by
    simp only [ev_p2, ev_call2, ev_var0, ev_var1, ev_con, R.bind_ok, pm_sub, ofOpt_some, pm_add]
    rw [pm_mul (.inl (by omega)), ofOpt_some, R.bind_ok]
    rw [show callN TBL FUEL (k + 2) 3 [D.int ((a : Int) * m), .int m] s = .ok (.int (chF ((a : Int) * m) m)) s from e3, R.bind_ok, pm_mul (.inl (by omega)), ofOpt_some, R.bind_ok, pm_add, ofOpt_some, R.bind_ok, pm_fdv (by omega)]
    rw [Int.natCast_mul]
    rfl)]
  rfl
/-- the law's own loop -/
theorem number_ok (k a m : Nat) (s : S) (h1 : 1 ≤ a) (h2 : a ≤ 12) (h3 : m ≤ 500) : run (k + 1) 27 [.int a, .int m] s = .ok (.int ((chF (a * m : Nat) m).fdiv ((a - 1) * m + 1))) s := by
  rw [run, callN_at (n := 5) (np := 2) (body := B27) rfl rfl, B27]
  show retF (execs (cf k) _ [some (.int a), some (.int m), none, none, none] s) = _
  have hb : a * m ≤ 6000 := Nat.mul_le_mul h2 h3
  have hc : ((a : Int) * m) = ((a * m : Nat) : Int) := by rw [Int.natCast_mul]
  have hq : ((a : Int) - 1) * m ≤ 6000 := by
    have : ((a : Int) - 1) * m ≤ a * m := by
      rw [Int.sub_mul]
      omega
    omega
  have hq0 : 0 ≤ ((a : Int) - 1) * m := Int.mul_nonneg (by omega) (by omega)
  rw [x_par (ds := [.int 1, .int (a * m : Nat)]) (s1 := s) (env1 := [some (.int a), some (.int m), some (.int 1), some (.int (a * m : Nat)), none]) (by
    simp only [evs_cons, evs_nil, ev_con, ev_p2, ev_var0, ev_var1, R.bind_ok]
    rw [pm_mul (.inl (by omega)), ofOpt_some, R.bind_ok, R.bind_ok, hc]) rfl]
  obtain ⟨env2, s2, e, e1, z, e2⟩ := run_rng1 (c := cf k) (es := [.var 1]) (j := 4) (n := m) (b := [.asg (.nm 2) (.prim .fdv [.prim .mul [.var 2, .prim .sub [.var 3, .var 4]], .prim .add [.var 4, .con (.int 1)]])])
    (env := [some (.int a), some (.int m), some (.int 1), some (.int (a * m : Nat)), none]) (s := s) (s1 := s) (fun i env s1 => s1 = s ∧ ∃ z, env = [some (.int a), some (.int m), some (.int (chF (a * m : Nat) i)), some (.int (a * m : Nat)), z]) (by simp) (by omega) (by simp only [FUEL]; omega) ⟨rfl, none, rfl⟩
    (fun i env s1 hi ⟨e1, z, e2⟩ => by
      subst e1
      subst e2
      refine ⟨_, _, ?_, rfl, some (.int i), rfl⟩
      rw [x_asg (d := .int (chF (a * m : Nat) (i + 1))) (s1 := s1) (by
        simp only [ev_p2, ev_var2, ev_var3, ev_var4, ev_con, R.bind_ok, List.set_cons_succ, List.set_cons_zero, pm_sub, ofOpt_some, pm_add]
        rw [pm_mul (.inr (by omega)), ofOpt_some, R.bind_ok, pm_fdv (by omega)]
        rfl), xs_nil]
      rfl)
  subst e1
  subst e2
  rw [xs_nx e, x_ret (d := .int ((chF (a * m : Nat) m).fdiv ((a - 1) * m + 1))) (s1 := s2) (by
    simp only [ev_p2, ev_var0, ev_var1, ev_var2, ev_con, R.bind_ok, pm_sub, ofOpt_some, pm_add]
    rw [pm_mul (.inl (by omega)), ofOpt_some, R.bind_ok, pm_add, ofOpt_some, R.bind_ok, pm_fdv (by omega)]
    rfl)]
  rfl
/-- least_sum's loop -/
def leF (a : Int) : Nat → Int → Int → Int → Int
  | 0, _, _, _ => 0
  | f + 1, level, room, left => if 0 < left then (if room < left then room else left) * level + leF a f (level + 1) (room * a) (left - (if room < left then room else left)) else 0
theorem two_pow (n : Nat) : (1 : Int) ≤ 2 ^ n := by
  induction n with
  | zero => decide
  | succ n ih => rw [Int.pow_succ]; omega
theorem le_step {a room left here : Int} {n : Nat} (ha : 2 ≤ a) (hr : 1 ≤ room) (hl : left ≤ room * (2 ^ (n + 1) - 1)) (hh : here = if room < left then room else left) : left - here ≤ room * a * (2 ^ n - 1) := by
  have h1 := two_pow n
  have h2 : 0 ≤ room * a * (2 ^ n - 1) := Int.mul_nonneg (Int.mul_nonneg (by omega) (by omega)) (by omega)
  by_cases h : room < left
  · rw [if_pos h] at hh
    subst hh
    have h3 : here * 2 * (2 ^ n - 1) ≤ here * a * (2 ^ n - 1) := Int.mul_le_mul_of_nonneg_right (Int.mul_le_mul_of_nonneg_left ha (by omega)) (by omega)
    have h4 : here * (2 ^ (n + 1) - 1) = here * 2 * (2 ^ n - 1) + here := by
      rw [Int.pow_succ]
      simp only [Int.mul_sub, Int.mul_assoc, Int.mul_comm 2]
      omega
    omega
  · rw [if_neg h] at hh
    omega
theorem least_ok (k : Nat) (a : Int) (m : Int) (s : S) (h1 : 2 ≤ a) (h2 : a ≤ 12) (h3 : 0 ≤ m) (h4 : m < 10 ^ 30) : run (k + 3) 19 [.int a, .int m] s = .ok (.int (leF a 100 0 1 m)) s := by
  rw [run, callN_at (n := 7) (np := 2) (body := B19) rfl rfl, B19]
  show retF (execs (cf (k + 2)) _ [some (.int a), some (.int m), none, none, none, none, none] s) = _
  have e1 : callN TBL FUEL (k + 2) 1 [.int a, .int 2, .int 12] s = .ok (.bl true) s := within_ok k a 2 12 s (by omega) (by omega)
  have e2 : callN TBL FUEL (k + 2) 1 [.int m, .int 0, .int (10 ^ 30)] s = .ok (.bl true) s := within_ok k m 0 (10 ^ 30) s (by omega) (by omega)
  have e3 : prim .pw [.int 10, .int 30] s = some (.int (10 ^ 30), s) := by
    rfl
  rw [x_skip (s1 := s) (by simp only [ev_or, ev_not, ev_call3, ev_var0, ev_var1, ev_con, ev_p2, R.bind_ok, e1, e3, ofOpt_some, condR_t, condR_f, e2]), x_tp (l := [.int 0, .int 0, .int 1, .int m]) (s1 := s) (env1 := [some (.int a), some (.int m), some (.int 0), some (.int 0), some (.int 1), some (.int m), none]) (s2 := s) (by rw [eval]; simp) rfl]
  obtain ⟨env2, s2, e, q1, f, q2, q3⟩ := run_whl (c := cf (k + 2)) (q := .prim .gt [.var 5, .con (.int 0)]) (b := [.asg (.nm 6) (.prim .min2 [.var 5, .var 4]), .par [2, 5] [.prim .add [.var 2, .prim .mul [.var 6, .var 3]], .prim .sub [.var 5, .var 6]], .par [3, 4] [.prim .add [.var 3, .con (.int 1)], .prim .mul [.var 4, .var 0]]])
    (env := [some (.int a), some (.int m), some (.int 0), some (.int 0), some (.int 1), some (.int m), none]) (s := s) (n := 100)
    (fun n env s1 => s1 = s ∧ ∃ (found level room left : Int) (x : Option D), env = [some (.int a), some (.int m), some (.int found), some (.int level), some (.int room), some (.int left), x] ∧ found + leF a n level room left = leF a 100 0 1 m ∧ left ≤ room * (2 ^ n - 1) ∧ 1 ≤ room ∧ 0 ≤ level ∧ level + n ≤ 100 ∧ 0 ≤ left)
    (fun env s1 => s1 = s ∧ ∃ f, env[2]? = some (some (.int f)) ∧ f = leF a 100 0 1 m) (by simp [FUEL]) ⟨rfl, 0, 0, 1, m, none, rfl, by omega, by
      have : (10 : Int) ^ 30 ≤ 1 * (2 ^ 100 - 1) := by decide
      omega, by omega, by omega, by omega, h3⟩ (fun n env s1 ⟨es, found, level, room, left, x, ee, hT, hL, hr, hlv, hn, hl0⟩ => by
      subst es
      subst ee
      by_cases hz : 0 < left
      · right
        cases n with
        | zero => simp at hL; omega
        | succ n =>
          refine ⟨s1, by simp [hz], n, _, s1, rfl, ?_, rfl, found + (if room < left then room else left) * level, level + 1, room * a, left - (if room < left then room else left), some (.int (if room < left then room else left)), rfl, ?_, le_step h1 hr hL rfl, ?_, by omega, by omega, by split <;> omega⟩
          · rw [x_asg (d := .int (if room < left then room else left)) (s1 := s1) (by simp)]
            simp only [List.set_cons_succ, List.set_cons_zero]
            rw [x_par (ds := [.int (found + (if room < left then room else left) * level), .int (left - (if room < left then room else left))]) (s1 := s1) (by
              simp only [evs_cons, evs_nil, ev_con, ev_p2, ev_var2, ev_var3, ev_var5, ev_var6, R.bind_ok]
              rw [pm_mul (.inr (by omega))]
              rfl) rfl]
            rw [x_par (ds := [.int (level + 1), .int (room * a)]) (s1 := s1) (by
              simp only [evs_cons, evs_nil, ev_con, ev_p2, ev_var0, ev_var3, ev_var4, R.bind_ok, List.set_cons_succ, List.set_cons_zero, pm_add, ofOpt_some]
              rw [pm_mul (.inr (by omega))]
              rfl) rfl, xs_nil]
            rfl
          · rw [← hT]
            show _ = found + (if 0 < left then _ else 0)
            rw [if_pos hz]
            omega
          · have : 1 * 1 ≤ room * a := Int.mul_le_mul hr (by omega) (by omega) (by omega)
            omega
      · left
        refine ⟨s1, by simp [hz], rfl, found, rfl, ?_⟩
        rw [← hT]
        cases n with
        | zero => show _ = found + 0; omega
        | succ n =>
          show _ = found + (if 0 < left then _ else 0)
          rw [if_neg hz]
          omega)
  subst q1
  rw [xs_nx e, x_ret (d := .int f) (s1 := s2) (ev_var q2), q3]
  rfl
theorem least2_ok (k : Nat) (a : Int) (m : Int) (s : S) (h1 : 2 ≤ a) (h2 : a ≤ 12) (h3 : 0 ≤ m) (h4 : m < 10 ^ 30) : run (k + 1) 30 [.int a, .int m] s = .ok (.int (leF a 100 0 1 m)) s := by
  rw [run, callN_at (n := 6) (np := 2) (body := B30) rfl rfl, B30]
  show retF (execs (cf k) _ [some (.int a), some (.int m), none, none, none, none] s) = _
  rw [x_tp (l := [.int 0, .int 1, .int 0]) (s1 := s) (env1 := [some (.int a), some (.int m), some (.int 0), some (.int 1), some (.int 0), none]) (s2 := s) (by simp) rfl]
  obtain ⟨env2, s2, e, q1, f, q2, q3⟩ := run_whl (c := cf k) (q := .prim .gt [.var 1, .con (.int 0)]) (b := [.asg (.nm 5) (.prim .min2 [.var 3, .var 1]), .par [4, 1] [.prim .add [.var 4, .prim .mul [.var 2, .var 5]], .prim .sub [.var 1, .var 5]], .par [2, 3] [.prim .add [.var 2, .con (.int 1)], .prim .mul [.var 3, .var 0]]])
    (env := [some (.int a), some (.int m), some (.int 0), some (.int 1), some (.int 0), none]) (s := s) (n := 100)
    (fun n env s1 => s1 = s ∧ ∃ (found level room left : Int) (x : Option D), env = [some (.int a), some (.int left), some (.int level), some (.int room), some (.int found), x] ∧ found + leF a n level room left = leF a 100 0 1 m ∧ left ≤ room * (2 ^ n - 1) ∧ 1 ≤ room ∧ 0 ≤ level ∧ level + n ≤ 100 ∧ 0 ≤ left)
    (fun env s1 => s1 = s ∧ ∃ f, env[4]? = some (some (.int f)) ∧ f = leF a 100 0 1 m) (by simp [FUEL]) ⟨rfl, 0, 0, 1, m, none, rfl, by omega, by
      have : (10 : Int) ^ 30 ≤ 1 * (2 ^ 100 - 1) := by decide
      omega, by omega, by omega, by omega, h3⟩ (fun n env s1 ⟨es, found, level, room, left, x, ee, hT, hL, hr, hlv, hn, hl0⟩ => by
      subst es
      subst ee
      by_cases hz : 0 < left
      · right
        cases n with
        | zero => simp at hL; omega
        | succ n =>
          have hmin : (if left < room then left else room) = if room < left then room else left := by split <;> split <;> omega
          refine ⟨s1, by simp [hz], n, _, s1, rfl, ?_, rfl, found + (if room < left then room else left) * level, level + 1, room * a, left - (if room < left then room else left), some (.int (if room < left then room else left)), rfl, ?_, le_step h1 hr hL rfl, ?_, by omega, by omega, by split <;> omega⟩
          · rw [x_asg (d := .int (if room < left then room else left)) (s1 := s1) (by simp [hmin])]
            simp only [List.set_cons_succ, List.set_cons_zero]
            rw [x_par (ds := [.int (found + (if room < left then room else left) * level), .int (left - (if room < left then room else left))]) (s1 := s1) (by
              simp only [evs_cons, evs_nil, ev_con, ev_p2, ev_var1, ev_var2, ev_var4, ev_var5, R.bind_ok]
              rw [pm_mul (.inl (by omega)), Int.mul_comm level]
              rfl) rfl]
            rw [x_par (ds := [.int (level + 1), .int (room * a)]) (s1 := s1) (by
              simp only [evs_cons, evs_nil, ev_con, ev_p2, ev_var0, ev_var2, ev_var3, R.bind_ok, List.set_cons_succ, List.set_cons_zero, pm_add, ofOpt_some]
              rw [pm_mul (.inr (by omega))]
              rfl) rfl, xs_nil]
            rfl
          · rw [← hT]
            show _ = found + (if 0 < left then _ else 0)
            rw [if_pos hz]
            omega
          · have : 1 * 1 ≤ room * a := Int.mul_le_mul hr (by omega) (by omega) (by omega)
            omega
      · left
        refine ⟨s1, by simp [hz], rfl, found, rfl, ?_⟩
        rw [← hT]
        cases n with
        | zero => show _ = found + 0; omega
        | succ n =>
          show _ = found + (if 0 < left then _ else 0)
          rw [if_neg hz]
          omega)
  subst q1
  rw [xs_nx e, x_ret (d := .int f) (s1 := s2) (ev_var q2), q3]
  rfl
end K52
set_option Elab.async false
set_option linter.all false
set_option maxRecDepth 100000
set_option maxHeartbeats 1000000
namespace K52
open Mini
/-- the hand as it stands -/
def hd (c : Nat) (p b sd ct : Int) : O := .lst [.ref c, .int p, .int b, .int sd, .int ct]
structure HandOk (s : S) (h : Nat) : Prop where
  ex : ∃ (c : Nat) (cells : List Int) (p b sd ct : Int), s[h]? = some (hd c p b sd ct) ∧ s[c]? = some (.lst (cells.map .int)) ∧ c ≠ h ∧ (∀ x ∈ cells, 0 ≤ x) ∧ 0 ≤ p ∧ 0 ≤ b ∧ 0 ≤ sd ∧ 0 ≤ ct ∧ cells.length ≤ 63
theorem pm_ixL {s : S} {n : Nat} {l : List D} {i : Int} {d : D} (h : s[n]? = some (.lst l)) (e : L2.atI l i = some d) : prim .ix [.ref n, .int i] s = some (d, s) := by
  show (match s[n]? with
      | some (.lst l) => match D.int i with
        | .int i => (L2.atI l i).map fun d => (d, s)
        | _ => none
      | some (.dct kvs) => (keyD (.int i)).bind fun k => (getK kvs k).map fun d => (d, s)
      | some (.lck kvs) => (keyD (.int i)).bind fun k => (getK kvs k).map fun d => (d, s)
      | _ => none) = _
  rw [h]
  dsimp only
  rw [e]
  rfl
theorem pm_setL {s : S} {n j : Nat} {l : List D} {i : Int} {d : D} (h : s[n]? = some (.lst l)) (e : L2.ixN l.length i = some j) : prim .setI [.ref n, .int i, d] s = some (.non, s.set n (.lst (l.set j d))) := by
  show (match s[n]? with
    | some (.lst l) => match D.int i with
      | .int i => (L2.ixN l.length i).map fun j => (D.non, s.set n (.lst (l.set j d)))
      | _ => none
    | some (.dct kvs) => (keyD (.int i)).bind fun k => if kvs.length < LIM then some (.non, s.set n (.dct (setK kvs k d))) else none
    | _ => none) = _
  rw [h]
  dsimp only
  rw [e]
  rfl
section
variable {s : S} {h c : Nat} {p b sd ct : Int}
theorem st_h {o : O} (hh : h < s.length) : (s.set h o)[h]? = some o := List.getElem?_set_self hh
theorem st_c {o : O} (hc : c ≠ h) : (s.set h o)[c]? = s[c]? := List.getElem?_set_ne (Ne.symm hc)
theorem x_sub {cc : Cfg} {env : Ev} {s s1 : S} {o : Nat} {v : Int} {e : E} {n j : Nat} {l : List D} {d : D} {r : List Mini.St} (he : eval cc e env s = .ok d s1) (ho : env[o]? = some (some (.ref n))) (hl : s1[n]? = some (.lst l)) (hj : L2.ixN l.length v = some j) :
    execs cc (.asg (.sub (.var o) (.con (.int v))) e :: r) env s = execs cc r env (s1.set n (.lst (l.set j d))) := xs_nx (by
  rw [exec, he]
  show flR env (noX (asgT cc (.sub (.var o) (.con (.int v))) d env s1)) (fun env1 s2 => Fl.nx env1 s2) = _
  rw [asgT, ev_var ho]
  simp only [noX, R.bind_ok, ev_con]
  rw [pm_setL hl hj]
  rfl)
theorem pm_int1 (i : Int) (s : S) : prim .int1 [.int i] s = some (.int i, s) := rfl
theorem pm_lenL {s : S} {n : Nat} {l : List D} (h : s[n]? = some (.lst l)) : prim .len [.ref n] s = some (D.int l.length, s) := by
  show (match s[n]? with
      | some (.lst l) => some (D.int l.length, s)
      | some (.dct l) => some (D.int l.length, s)
      | some (.lck l) => some (D.int l.length, s)
      | _ => none) = _
  rw [h]
theorem pm_eqI (i j : Int) (s : S) : prim .eq [.int i, .int j] s = some (.bl (decide (i = j)), s) := rfl
end
/-- what a draw leaves -/
structure Drawn (s s' : S) (h : Nat) : Prop where
  len : s'.length = s.length
  oth : ∀ n, n ≠ h → s'[n]? = s[n]?
  ok : HandOk s' h
theorem fmod_rng {a m : Int} (hm : 1 ≤ m) : 0 ≤ a.fmod m ∧ a.fmod m < m := ⟨Int.fmod_nonneg_of_pos a (by omega), Int.fmod_lt_of_pos a (by omega)⟩
theorem draw_ok (k : Nat) {s : S} {h : Nat} {many : Int} (H : HandOk s h) (h1 : 1 ≤ many) (h2 : many ≤ 1000000000) : ∃ d s', run (k + 1) 21 [.ref h, .int many] s = .ok (.int d) s' ∧ 0 ≤ d ∧ d < many ∧ Drawn s s' h := by
  obtain ⟨c, cells, p0, b0, sd0, ct0, e1, e2, hc, hcell, hp, hb, hsd, hct, hlen⟩ := H.ex
  have hh : h < s.length := (List.getElem?_eq_some_iff.mp e1).1
  have es : s = s.set h (hd c p0 b0 sd0 ct0) := by
    apply List.ext_getElem?
    intro j
    by_cases hj : h = j
    · subst hj
      rw [st_h hh, e1]
    · rw [List.getElem?_set_ne hj]
  have fin : ∀ p b sd ct, 0 ≤ p → 0 ≤ b → 0 ≤ sd → 0 ≤ ct → Drawn s (s.set h (hd c p b sd ct)) h := fun p b sd ct q1 q2 q3 q4 =>
    ⟨List.length_set, fun n hn => List.getElem?_set_ne (Ne.symm hn), ⟨c, cells, p, b, sd, ct, st_h hh, (st_c hc).trans e2, hc, hcell, q1, q2, q3, q4, hlen⟩⟩
  have gh : ∀ p b sd ct, (s.set h (hd c p b sd ct))[h]? = some (.lst [.ref c, .int p, .int b, .int sd, .int ct]) := fun p b sd ct => st_h hh
  have l0 : ∀ p b sd ct, prim .ix [.ref h, .int 0] (s.set h (hd c p b sd ct)) = some (.ref c, s.set h (hd c p b sd ct)) := fun p b sd ct => pm_ixL (gh ..) rfl
  have l1 : ∀ p b sd ct, prim .ix [.ref h, .int 1] (s.set h (hd c p b sd ct)) = some (.int p, s.set h (hd c p b sd ct)) := fun p b sd ct => pm_ixL (gh ..) rfl
  have l2 : ∀ p b sd ct, prim .ix [.ref h, .int 2] (s.set h (hd c p b sd ct)) = some (.int b, s.set h (hd c p b sd ct)) := fun p b sd ct => pm_ixL (gh ..) rfl
  have l3 : ∀ p b sd ct, prim .ix [.ref h, .int 3] (s.set h (hd c p b sd ct)) = some (.int sd, s.set h (hd c p b sd ct)) := fun p b sd ct => pm_ixL (gh ..) rfl
  have l4 : ∀ p b sd ct, prim .ix [.ref h, .int 4] (s.set h (hd c p b sd ct)) = some (.int ct, s.set h (hd c p b sd ct)) := fun p b sd ct => pm_ixL (gh ..) rfl
  have lc : ∀ p b sd ct, prim .len [.ref c] (s.set h (hd c p b sd ct)) = some (.int cells.length, s.set h (hd c p b sd ct)) := fun p b sd ct => by
    rw [pm_lenL ((st_c hc).trans e2), List.length_map]
  have lx : ∀ p b sd ct q x, cells[q]? = some x → prim .ix [.ref c, .int (q : Nat)] (s.set h (hd c p b sd ct)) = some (.int x, s.set h (hd c p b sd ct)) := fun p b sd ct q x hx => pm_ixL ((st_c hc).trans e2) (by
    have hq := (List.getElem?_eq_some_iff.mp hx).1
    unfold L2.atI L2.ixN
    rw [if_pos (by omega), List.length_map, if_pos (by omega)]
    show (cells.map D.int)[((q : Nat) : Int).toNat]? = _
    rw [Int.toNat_natCast, List.getElem?_map, hx]
    rfl)
  -- stores
  have w1 : ∀ p b sd ct v, (s.set h (hd c p b sd ct)).set h (.lst ([D.ref c, .int p, .int b, .int sd, .int ct].set 1 (.int v))) = s.set h (hd c v b sd ct) := fun p b sd ct v => List.set_set ..
  have w2 : ∀ p b sd ct v, (s.set h (hd c p b sd ct)).set h (.lst ([D.ref c, .int p, .int b, .int sd, .int ct].set 2 (.int v))) = s.set h (hd c p v sd ct) := fun p b sd ct v => List.set_set ..
  have w3 : ∀ p b sd ct v, (s.set h (hd c p b sd ct)).set h (.lst ([D.ref c, .int p, .int b, .int sd, .int ct].set 3 (.int v))) = s.set h (hd c p b v ct) := fun p b sd ct v => List.set_set ..
  have w4 : ∀ p b sd ct v, (s.set h (hd c p b sd ct)).set h (.lst ([D.ref c, .int p, .int b, .int sd, .int ct].set 4 (.int v))) = s.set h (hd c p b sd v) := fun p b sd ct v => List.set_set ..
  rw [run, callN_at (n := 5) (np := 2) (body := B21) rfl rfl, B21]
  show ∃ d s', retF (execs (cf k) _ [some (.ref h), some (.int many), none, none, none] s) = _ ∧ _
  have l1' : ∀ i j : Int, i.fmod j = i.fmod j := fun _ _ => rfl
  -- the last part: a number of the law's own
  have last : ∀ p b sd x, 0 ≤ p → 0 ≤ b → 0 ≤ sd → ∃ d s', retF (execs (cf k) (B21.drop 2) [some (.ref h), some (.int many), x, none, none] (s.set h (hd c p b sd ct0))) = .ok (.int d) s' ∧ 0 ≤ d ∧ d < many ∧ Drawn s s' h := fun p b sd x hp hb hsd => by
    show ∃ d s', retF (execs (cf k) [_, _, _, _, _] _ _) = _ ∧ _
    rw [x_sub (n := h) (j := 4) (d := .int (ct0 + 1)) (s1 := s.set h (hd c p b sd ct0)) (by simp only [ev_p2, ev_var0, ev_con, R.bind_ok, l4, ofOpt_some, pm_add]) rfl (gh p b sd ct0) rfl, w4]
    obtain ⟨n1, hn1⟩ : ∃ n1, n1 = ((sd + 7919 * (ct0 + 1)) * 48271).fmod 2147483647 := ⟨_, rfl⟩
    have r1 : 0 ≤ n1 ∧ n1 < 2147483647 := by rw [hn1]; exact fmod_rng (by decide)
    rw [x_asg (d := .int n1) (s1 := s.set h (hd c p b sd (ct0 + 1))) (by
      simp only [ev_p2, ev_p1, ev_var0, ev_con, R.bind_ok, l4, l3, ofOpt_some]
      rw [pm_mul (.inl (by decide)), ofOpt_some, R.bind_ok, pm_add, ofOpt_some, R.bind_ok, pm_int1, ofOpt_some, R.bind_ok, pm_mul (.inr (by decide)), ofOpt_some, R.bind_ok, pm_int1, ofOpt_some, R.bind_ok, pm_md (by decide), hn1]
      rfl)]
    simp only [List.set_cons_succ, List.set_cons_zero]
    obtain ⟨n2, hn2⟩ : ∃ n2, n2 = (n1 * (n1.fdiv 1009 + 69621)).fmod 2147483647 := ⟨_, rfl⟩
    have r2 : 0 ≤ n2 ∧ n2 < 2147483647 := by rw [hn2]; exact fmod_rng (by decide)
    rw [x_asg (d := .int n2) (s1 := s.set h (hd c p b sd (ct0 + 1))) (by
      simp only [ev_p2, ev_p1, ev_var4, ev_con, R.bind_ok]
      rw [pm_fdv (by decide), ofOpt_some, R.bind_ok, pm_add, ofOpt_some, R.bind_ok, pm_mul (.inl (by omega)), ofOpt_some, R.bind_ok, pm_int1, ofOpt_some, R.bind_ok, pm_md (by decide), hn2]
      rfl)]
    simp only [List.set_cons_succ, List.set_cons_zero]
    obtain ⟨n3, hn3⟩ : ∃ n3, n3 = (n2 * (n2.fdiv 2003 + 40014)).fmod 2147483563 := ⟨_, rfl⟩
    rw [x_asg (d := .int n3) (s1 := s.set h (hd c p b sd (ct0 + 1))) (by
      simp only [ev_p2, ev_p1, ev_var4, ev_con, R.bind_ok]
      rw [pm_fdv (by decide), ofOpt_some, R.bind_ok, pm_add, ofOpt_some, R.bind_ok, pm_mul (.inl (by omega)), ofOpt_some, R.bind_ok, pm_int1, ofOpt_some, R.bind_ok, pm_md (by decide), hn3]
      rfl)]
    simp only [List.set_cons_succ, List.set_cons_zero]
    rw [x_ret (d := .int ((n3.fdiv 16).fmod many)) (s1 := s.set h (hd c p b sd (ct0 + 1))) (by
      simp only [ev_p2, ev_p1, ev_var1, ev_var4, ev_con, R.bind_ok]
      rw [pm_fdv (by decide), ofOpt_some, R.bind_ok, pm_int1, ofOpt_some, R.bind_ok, pm_md (by omega)]
      rfl)]
    have r4 := fmod_rng (a := n3.fdiv 16) h1
    exact ⟨_, _, rfl, r4.1, r4.2, fin _ _ _ _ hp hb hsd (by omega)⟩
  -- behind the first part
  have mid : ∀ p b sd x, 0 ≤ p → 0 ≤ b → 0 ≤ sd → ∃ d s', retF (execs (cf k) (B21.drop 1) [some (.ref h), some (.int many), x, none, none] (s.set h (hd c p b sd ct0))) = .ok (.int d) s' ∧ 0 ≤ d ∧ d < many ∧ Drawn s s' h := fun p b sd x hp hb hsd => by
    show ∃ d s', retF (execs (cf k) (Mini.St.ite _ _ _ :: B21.drop 2) _ _) = _ ∧ _
    by_cases hz : 0 < b
    · rw [x_ifrt (s1 := s.set h (hd c p b sd ct0)) (d := .int (b.fmod many)) (s2 := s.set h (hd c p (b.fdiv many) sd ct0)) (by simp only [ev_p2, ev_var0, ev_con, R.bind_ok, l2, ofOpt_some, pm_gt, decide_eq_true hz]) (by
        rw [x_asg (d := .int (b.fmod many)) (s1 := s.set h (hd c p b sd ct0)) (by
          simp only [ev_p2, ev_p1, ev_var0, ev_var1, ev_con, R.bind_ok, l2, ofOpt_some, pm_int1]
          rw [pm_md (by omega)]
          rfl)]
        simp only [List.set_cons_succ, List.set_cons_zero]
        rw [x_sub (n := h) (j := 2) (d := .int (b.fdiv many)) (s1 := s.set h (hd c p b sd ct0)) (by
          simp only [ev_p2, ev_p1, ev_var0, ev_var1, ev_con, R.bind_ok, l2, ofOpt_some]
          rw [pm_fdv (by omega)]
          rfl) rfl (gh p b sd ct0) rfl, w2, x_ret (ev_var3 ..)])]
      have r4 := fmod_rng (a := b) h1
      exact ⟨_, _, rfl, r4.1, r4.2, fin _ _ _ _ hp (Int.fdiv_nonneg hb (by omega)) hsd hct⟩
    · rw [x_skip (s1 := s.set h (hd c p b sd ct0)) (by simp only [ev_p2, ev_var0, ev_con, R.bind_ok, l2, ofOpt_some, pm_gt, decide_eq_false hz])]
      exact last p b sd x hp hb hsd
  suffices hs2 : ∃ d s', retF (execs (cf k) B21 [some (.ref h), some (.int many), none, none, none] (s.set h (hd c p0 b0 sd0 ct0))) = .ok (.int d) s' ∧ 0 ≤ d ∧ d < many ∧ Drawn s s' h by
    rw [← es] at hs2
    exact hs2
  show ∃ d s', retF (execs (cf k) (Mini.St.ite _ _ _ :: B21.drop 1) _ _) = _ ∧ _
  by_cases hq : b0 = 0 ∧ p0 < cells.length
  · obtain ⟨q1, q2⟩ := hq
    obtain ⟨x, hx⟩ : ∃ x, cells[p0.toNat]? = some x := ⟨cells[p0.toNat]'(by omega), List.getElem?_eq_getElem (by omega)⟩
    have hx0 := hcell x (List.mem_of_getElem? hx)
    have lx0 := lx p0 b0 sd0 ct0 _ x hx
    rw [Int.toNat_of_nonneg hp] at lx0
    obtain ⟨n1, hn1⟩ : ∃ n1, n1 = (sd0 * 69621 + x * 40692 + 311).fmod 2147483629 := ⟨_, rfl⟩
    have r1 : 0 ≤ n1 ∧ n1 < 2147483629 := by rw [hn1]; exact fmod_rng (by decide)
    have pw : ∀ s : S, prim .pw [.int 10, .int 18] s = some (.int (10 ^ 18), s) := fun s => rfl
    obtain ⟨b2, hb2, hgo⟩ : ∃ b2, 0 ≤ b2 ∧ execs (cf k) [Mini.St.asg (.nm 2) (.prim .ix [.prim .ix [.var 0, .con (.int 0)], .prim .ix [.var 0, .con (.int 1)]]),
        .asg (.sub (.var 0) (.con (.int 1))) (.prim .add [.prim .ix [.var 0, .con (.int 1)], .con (.int 1)]),
        .asg (.sub (.var 0) (.con (.int 3))) (.prim .md [.prim .int1 [.prim .add [.prim .add [.prim .mul [.prim .ix [.var 0, .con (.int 3)], .con (.int 69621)], .prim .mul [.var 2, .con (.int 40692)]], .con (.int 311)]], .con (.int 2147483629)]),
        .ite (.prim .ge [.var 2, .prim .pw [.con (.int 10), .con (.int 18)]]) [.asg (.sub (.var 0) (.con (.int 2))) (.var 2)] []] [some (.ref h), some (.int many), none, none, none] (s.set h (hd c p0 b0 sd0 ct0)) = .nx [some (.ref h), some (.int many), some (.int x), none, none] (s.set h (hd c (p0 + 1) b2 n1 ct0)) := by
      rw [x_asg (d := .int x) (s1 := s.set h (hd c p0 b0 sd0 ct0)) (by simp only [ev_p2, ev_var0, ev_con, R.bind_ok, l0, l1, ofOpt_some, lx0])]
      simp only [List.set_cons_succ, List.set_cons_zero]
      rw [x_sub (n := h) (j := 1) (d := .int (p0 + 1)) (s1 := s.set h (hd c p0 b0 sd0 ct0)) (by simp only [ev_p2, ev_var0, ev_con, R.bind_ok, l1, ofOpt_some, pm_add]) rfl (gh p0 b0 sd0 ct0) rfl, w1]
      rw [x_sub (n := h) (j := 3) (d := .int n1) (s1 := s.set h (hd c (p0 + 1) b0 sd0 ct0)) (by
        simp only [ev_p2, ev_p1, ev_var0, ev_var2, ev_con, R.bind_ok, l3, ofOpt_some]
        rw [pm_mul (.inr (by decide)), ofOpt_some, R.bind_ok, pm_mul (.inr (by decide)), ofOpt_some, R.bind_ok, pm_add, ofOpt_some, R.bind_ok, pm_add, ofOpt_some, R.bind_ok, pm_int1, ofOpt_some, R.bind_ok, pm_md (by decide), hn1]
        rfl) rfl (gh (p0 + 1) b0 sd0 ct0) rfl, w3]
      by_cases hz : (10 : Int) ^ 18 ≤ x
      · refine ⟨x, hx0, ?_⟩
        rw [x_ifnx (s1 := s.set h (hd c (p0 + 1) b0 n1 ct0)) (env1 := [some (.ref h), some (.int many), some (.int x), none, none]) (s2 := s.set h (hd c (p0 + 1) x n1 ct0)) (by simp only [ev_p2, ev_var2, ev_con, R.bind_ok, pw, ofOpt_some, pm_ge, decide_eq_true hz]) (by
          rw [x_sub (n := h) (j := 2) (d := .int x) (s1 := s.set h (hd c (p0 + 1) b0 n1 ct0)) (ev_var2 ..) rfl (gh (p0 + 1) b0 n1 ct0) rfl, w2, xs_nil]), xs_nil]
      · refine ⟨b0, hb, ?_⟩
        rw [x_skip (s1 := s.set h (hd c (p0 + 1) b0 n1 ct0)) (by simp only [ev_p2, ev_var2, ev_con, R.bind_ok, pw, ofOpt_some, pm_ge, decide_eq_false hz]), xs_nil]
    rw [x_ifnx (s1 := s.set h (hd c p0 b0 sd0 ct0)) (by
      simp only [ev_and, ev_p2, ev_p1, ev_var0, ev_con, R.bind_ok, l0, l1, l2, lc, ofOpt_some, pm_eqI, pm_lt, condR_b]
      simp [q1, q2]) hgo]
    exact mid _ _ _ _ (by omega) hb2 r1.1
  · rw [x_skip (s1 := s.set h (hd c p0 b0 sd0 ct0)) (by
      simp only [ev_and, ev_p2, ev_p1, ev_var0, ev_con, R.bind_ok, l0, l1, l2, lc, ofOpt_some, pm_eqI, pm_lt, condR_b]
      by_cases z : b0 = 0
      · have z2 : ¬ p0 < cells.length := fun z2 => hq ⟨z, z2⟩
        simp [z, z2]
      · simp [z])]
    exact mid p0 b0 sd0 none hp hb hsd
end K52
set_option Elab.async false
set_option linter.all false
set_option maxRecDepth 100000
set_option maxHeartbeats 1000000
namespace K52
open Mini
theorem cut63 {l : List D} (h : l.length ≤ 63) : cutD l none (some 63) = l := by
  unfold cutD
  rw [show HT.sIx l.length 0 none = 0 from rfl, show HT.sIx l.length l.length (some 63) = min 63 l.length from HT.sIx_nat l.length l.length 63, List.drop_zero, Nat.sub_zero, List.take_of_length_le (by omega)]
theorem hand_ok (k : Nat) {ns : List Int} (h : ns.length ≤ 63) : ∃ s', run (k + 1) 20 [.frz (ns.map .int)] [] = .ok (.ref 3) s' ∧ HandOk s' 3 := by
  rw [run, callN_at (n := 2) (np := 1) (body := B20) rfl rfl, B20]
  show ∃ s', retF (execs (cf k) _ [some (.frz (ns.map .int)), none] []) = _ ∧ _
  have hl : (ns.map D.int).length ≤ 63 := by rw [List.length_map]; exact h
  have sl : ∀ s : S, prim (.sl false true) [.frz (ns.map .int), .int 63] s = some (.ref s.length, s ++ [.lst (ns.map .int)]) := fun s => by
    show (some ((none : Option Int), some (63 : Int))).bind (fun p => slD (.frz (ns.map D.int)) p.1 p.2 s) = _
    show mk s (.lst (cutD (ns.map D.int) none (some 63))) = _
    rw [cut63 hl]
    rfl
  have idI : ∀ s : S, prim .idI [.int 63] s = some (.int 63, s) := fun s => rfl
  have ec : eval (cf k) (.comp .seq [.prim (.sl false true) [.var 0, .prim .idI [.con (.int 63)]]] (.nm 1) (.con (.bl true)) (.prim .abs1 [.prim .int1 [.var 1]]) [1]) [some (.frz (ns.map .int)), none] [] = .ok (.ref 1) [.lst (ns.map .int), .lst ((ns.map D.int).map fun d => match d with | .int i => .int (if i < 0 then -i else i) | d => d)] := by
    refine ev_compL (s1 := [.lst (ns.map .int)]) (n := 0) (l := ns.map .int) (by
      simp only [evs_cons, evs_nil, ev_p1, ev_p2, ev_var0, ev_con, R.bind_ok, idI, ofOpt_some, sl]
      rfl) rfl (by rw [LIM]; omega) (by simp only [FUEL]; omega) (fun d hd acc => ?_)
    obtain ⟨i, _, rfl⟩ := List.mem_map.mp hd
    refine ⟨_, rfl, ?_⟩
    simp only [wipeE, List.set_cons_succ, List.set_cons_zero, ev_p1, ev_var1, R.bind_ok, pm_int1, ofOpt_some]
    rfl
  have em : ∀ (n : Int) (s : S), prim .mul [.int 3, .int n] s = some (.int (3 * n), s) := fun n s => pm_mul (.inl (by decide))
  refine ⟨[.lst (ns.map .int), .lst ((ns.map D.int).map fun d => match d with | .int i => .int (if i < 0 then -i else i) | d => d), .lst (ns.map .int), hd 1 0 0 (353 + 3 * ns.length) 0], ?_, ⟨1, ns.map fun i => if i < 0 then -i else i, 0, 0, 353 + 3 * ns.length, 0, rfl, ?_, by decide, fun x hx => ?_, by omega, by omega, by omega, by omega, by rw [List.length_map]; exact h⟩⟩
  · rw [x_ret (d := .ref 3) (s1 := [.lst (ns.map .int), .lst ((ns.map D.int).map fun d => match d with | .int i => .int (if i < 0 then -i else i) | d => d), .lst (ns.map .int), hd 1 0 0 (353 + 3 * ns.length) 0]) (by
      rw [eval]
      simp only [evs_cons, evs_nil, ev_p1, ev_p2, ev_var0, ev_con, R.bind_ok, idI, ofOpt_some, sl, ec]
      rw [pm_lenL (l := ns.map .int) rfl, ofOpt_some, R.bind_ok, em, ofOpt_some, R.bind_ok, pm_add, ofOpt_some, List.length_map]
      rfl)]
    rfl
  · show some (O.lst _) = some (.lst _)
    rw [List.map_map, List.map_map]
    rfl
  · obtain ⟨i, _, rfl⟩ := List.mem_map.mp hx
    split <;> omega
/-! ### trees -/
inductive Tr where
  | nil
  | node (l : List Tr)
mutual
def enc : Tr → D
  | .nil => .non
  | .node l => .tup (encs l)
def encs : List Tr → List D
  | [] => []
  | t :: r => enc t :: encs r
end
mutual
/-- all forks with a arms -/
def Ary (a : Nat) : Tr → Prop
  | .nil => True
  | .node l => l.length = a ∧ Arys a l
def Arys (a : Nat) : List Tr → Prop
  | [] => True
  | t :: r => Ary a t ∧ Arys a r
end
mutual
def forksT : Tr → Nat
  | .nil => 0
  | .node l => 1 + forksTs l
def forksTs : List Tr → Nat
  | [] => 0
  | t :: r => forksT t + forksTs r
end
mutual
/-- all places, the ends too -/
def sizeT : Tr → Nat
  | .nil => 1
  | .node l => 1 + sizeTs l
def sizeTs : List Tr → Nat
  | [] => 0
  | t :: r => sizeT t + sizeTs r
end
theorem encs_map : ∀ l : List Tr, encs l = l.map enc
  | [] => rfl
  | t :: r => by rw [encs, encs_map r]; rfl
theorem sizeTs_append (l m : List Tr) : sizeTs (l ++ m) = sizeTs l + sizeTs m := by
  induction l with
  | nil => simp [sizeTs]
  | cons t r ih => simp [sizeTs, ih]; omega
theorem forksTs_append (l m : List Tr) : forksTs (l ++ m) = forksTs l + forksTs m := by
  induction l with
  | nil => simp [forksTs]
  | cons t r ih => simp [forksTs, ih]; omega
theorem arys_append {a : Nat} (l m : List Tr) : Arys a (l ++ m) ↔ Arys a l ∧ Arys a m := by
  induction l with
  | nil => simp [Arys]
  | cons t r ih => simp [Arys, ih, and_assoc]
theorem arys_mem {a : Nat} {l : List Tr} (h : Arys a l) : ∀ t ∈ l, Ary a t := by
  induction l with
  | nil => intro t ht; cases ht
  | cons u r ih =>
    intro t ht
    rw [Arys] at h
    rcases List.mem_cons.mp ht with e | ht
    · rw [e]; exact h.1
    · exact ih h.2 t ht
end K52
set_option Elab.async false
set_option linter.all false
set_option maxRecDepth 100000
set_option maxHeartbeats 1000000
namespace K52
open Mini
/-- what stood there stands there -/
def Old (s s' : S) : Prop := s.length ≤ s'.length ∧ ∀ n, n < s.length → s'[n]? = s[n]?
theorem Old.refl (s : S) : Old s s := ⟨Nat.le_refl _, fun _ _ => rfl⟩
theorem Old.trans {a b c : S} (h : Old a b) (h2 : Old b c) : Old a c := ⟨Nat.le_trans h.1 h2.1, fun n hn => (h2.2 n (Nat.lt_of_lt_of_le hn h.1)).trans (h.2 n hn)⟩
theorem Old.app (s t : S) : Old s (s ++ t) := ⟨by simp, fun n hn => List.getElem?_append_left hn⟩
theorem Old.set {s s1 : S} {n : Nat} {o : O} (h : Old s s1) (hn : s.length ≤ n) : Old s (s1.set n o) := ⟨by rw [List.length_set]; exact h.1, fun m hm => by rw [List.getElem?_set_ne (by omega)]; exact h.2 m hm⟩
theorem Old.at {s s1 : S} {n : Nat} {o : O} (h : Old s s1) (e : s[n]? = some o) : s1[n]? = some o := (h.2 n (List.getElem?_eq_some_iff.mp e).1).trans e
theorem app_last (s : S) (o : O) : (s ++ [o])[s.length]? = some o := by
  rw [List.getElem?_append_right (Nat.le_refl _), Nat.sub_self]
  rfl
section
variable {s : S} {n m : Nat} {l k : List D} {d : D}
theorem pm_neNil (h : s[n]? = some (.lst l)) (h2 : s[m]? = some (.lst [])) : prim .ne [.ref n, .ref m] s = some (.bl (!l.isEmpty), s) := by
  show (eqD s (.ref n) (.ref m)).map (fun b => (D.bl (!b), s)) = _
  have : eqD s (.ref n) (.ref m) = some l.isEmpty := by
    unfold eqD emptyEq
    dsimp only
    rw [h, h2]
    simp
  rw [this]
  rfl
theorem pm_pop (h : s[n]? = some (.lst (l ++ [d]))) : prim .pop [.ref n] s = some (d, s.set n (.lst l)) := by
  show (match s[n]? with
    | some (.lst l) => (l[l.length - 1]?).map fun d => (d, s.set n (.lst l.dropLast))
    | _ => none) = _
  rw [h]
  simp
theorem pm_app (h : s[n]? = some (.lst l)) (hl : l.length < LIM) : prim .app [.ref n, d] s = some (.non, s.set n (.lst (l ++ [d]))) := by
  show (match s[n]? with
    | some (.lst l) => if l.length < LIM then some (D.non, s.set n (.lst (l ++ [d]))) else none
    | _ => none) = _
  rw [h]
  dsimp only
  rw [if_pos hl]
theorem pm_ext (h : s[n]? = some (.lst l)) (h2 : s[m]? = some (.lst k)) (hl : l.length + k.length ≤ LIM) : prim .ext [.ref n, .ref m] s = some (.non, s.set n (.lst (l ++ k))) := by
  show (match s[n]?, s[m]? with
    | some (.lst l), some (.lst k) => if l.length + k.length ≤ LIM then some (D.non, s.set n (.lst (l ++ k))) else none
    | _, _ => none) = _
  rw [h, h2]
  dsimp only
  rw [if_pos hl]
theorem pm_lstI (h : s[n]? = some (.lst l)) : prim .lstI [.ref n] s = some (.ref n, s) := by
  show (match s[n]? with
    | some (.lst _) => some (D.ref n, s)
    | _ => none) = _
  rw [h]
theorem pm_lenT (l : List D) (s : S) : prim .len [.tup l] s = some (.int l.length, s) := rfl
theorem pm_neI (i j : Int) (s : S) : prim .ne [.int i, .int j] s = some (.bl (!decide (i = j)), s) := rfl
/-- while w != [] -/
theorem ev_neNil {c : Cfg} {env : Ev} {j : Nat} (hj : env[j]? = some (some (.ref n))) (h : s[n]? = some (.lst l)) : eval c (.prim .ne [.var j, .prim .lst []]) env s = .ok (.bl (!l.isEmpty)) (s ++ [.lst []]) := by
  have hn : n < s.length := (List.getElem?_eq_some_iff.mp h).1
  rw [ev_p2, ev_var hj, R.bind_ok, ev_p0, pm_lst0, ofOpt_some, R.bind_ok, pm_neNil (by rw [List.getElem?_append_left hn]; exact h) (app_last ..)]
  rfl
end
/-- a place with its depth -/
def pr (p : Tr × Nat) : D := .tup [enc p.1, .int p.2]
def szs : List (Tr × Nat) → Nat
  | [] => 0
  | p :: r => sizeT p.1 + szs r
theorem szs_append (l m : List (Tr × Nat)) : szs (l ++ m) = szs l + szs m := by
  induction l with
  | nil => simp [szs]
  | cons t r ih => simp [szs, ih]; omega
theorem szs_kids (l : List Tr) (d : Nat) : szs (l.map fun t => (t, d)) = sizeTs l := by
  induction l with
  | nil => rfl
  | cons t r ih => simp [szs, sizeTs, ih]
theorem sizeT_pos (t : Tr) : 1 ≤ sizeT t := by
  cases t <;> rw [sizeT] <;> omega
theorem szs_len (l : List (Tr × Nat)) : l.length ≤ szs l := by
  induction l with
  | nil => simp [szs]
  | cons t r ih => have := sizeT_pos t.1; simp [szs]; omega
theorem sizeTs_len (l : List Tr) : l.length ≤ sizeTs l := by
  induction l with
  | nil => simp [sizeTs]
  | cons t r ih => have := sizeT_pos t; simp [sizeTs]; omega
theorem forksTs_mem {l : List Tr} {t : Tr} (h : t ∈ l) : forksT t ≤ forksTs l := by
  induction l with
  | nil => cases h
  | cons u r ih =>
    rw [forksTs]
    rcases List.mem_cons.mp h with e | h
    · rw [e]; omega
    · have := ih h; omega
theorem kids_pr (l : List Tr) (d : Nat) : (encs l).map (fun c => D.tup [c, .int ((d : Int) + 1)]) = (l.map fun c => (c, d + 1)).map pr := by
  rw [encs_map, List.map_map, List.map_map]
  rfl
/-- the body of is_many_arms' loop -/
theorem many_ok (k a : Nat) (t : Tr) (s : S) (h1 : 1 ≤ a) (h2 : a ≤ 12) (hA : Ary a t) (hF : forksT t ≤ 30) (hz : sizeT t ≤ 100000) : ∃ s', run (k + 3) 4 [.int a, enc t] s = .ok (.bl true) s' ∧ Old s s' := by
  rw [run, callN_at (n := 7) (np := 2) (body := B4) rfl rfl, B4]
  show ∃ s', retF (execs (cf (k + 2)) _ [some (.int a), some (enc t), none, none, none, none, none] s) = _ ∧ _
  have e1 : callN TBL FUEL (k + 2) 1 [.int a, .int 1, .int 12] s = .ok (.bl true) s := within_ok k a 1 12 s (by omega) (by omega)
  rw [x_skip (s1 := s) (by simp only [ev_not, ev_call3, ev_var0, ev_con, R.bind_ok, e1, condR_t])]
  rw [x_par (ds := [.ref s.length, .int 0]) (s1 := s ++ [.lst [pr (t, 0)]]) (env1 := [some (.int a), some (enc t), some (.ref s.length), some (.int 0), none, none, none]) (by
    simp only [evs_cons, evs_nil, ev_p1, ev_p2, ev_var1, ev_con, R.bind_ok, pm_tup2, ofOpt_some, pm_lst1]
    rfl) rfl]
  obtain ⟨env2, s2, e, p1⟩ := run_whl (c := cf (k + 2)) (q := .prim .ne [.var 2, .prim .lst []]) (b := [.asg (.tp [(.nm 4), (.nm 5)]) (.prim .pop [.var 2]),
      .ite (.prim .ntN [.var 4]) [.asg (.nm 3) (.prim .add [.var 3, .con (.int 1)]),
      .ite (.or (.not (.prim (.isi .tuple) [.var 4])) (.or (.prim .ne [.prim .len [.var 4], .var 0]) (.or (.prim .gt [.var 3, .con (.int 150)]) (.prim .gt [.var 5, .con (.int 30)])))) [.ret (.con (.bl false))] [],
      .ex (.prim .ext [.prim .lstI [.var 2], .comp .seq [.var 4] (.nm 6) (.con (.bl true)) (.prim .tup [.var 6, .prim .add [.var 5, .con (.int 1)]]) [6]])] []])
    (env := [some (.int a), some (enc t), some (.ref s.length), some (.int 0), none, none, none]) (s := s ++ [.lst [pr (t, 0)]]) (n := sizeT t)
    (fun n env s1 => Old s s1 ∧ ∃ (st : List (Tr × Nat)) (seen : Nat) (x y z : Option D), env = [some (.int a), some (enc t), some (.ref s.length), some (.int seen), x, y, z] ∧ s1[s.length]? = some (.lst (st.map pr)) ∧ szs st = n ∧ n ≤ 100000 ∧ (∀ p ∈ st, Ary a p.1 ∧ p.2 + forksT p.1 ≤ 30) ∧ seen + forksTs (st.map (·.1)) ≤ 30)
    (fun env s1 => Old s s1) (by simp only [FUEL]; omega) ⟨Old.app .., [(t, 0)], 0, none, none, none, rfl, app_last .., by simp [szs], hz, by simp; exact ⟨hA, hF⟩, by simp [forksTs]; exact hF⟩ (fun n env s1 ⟨ho, st, seen, x, y, z, ee, hs, hn, hn2, hp, hsn⟩ => by
      subst ee
      have hlt : s.length < s1.length := (List.getElem?_eq_some_iff.mp hs).1
      rcases List.eq_nil_or_concat st with rfl | ⟨st', p, rfl⟩
      · exact .inl ⟨_, ev_neNil rfl hs, ho.trans (Old.app ..)⟩
      · right
        obtain ⟨t1, d⟩ := p
        rw [List.concat_eq_append] at hs hn hp hsn
        have hs' : (s1 ++ [O.lst []])[s.length]? = some (.lst (st'.map pr ++ [pr (t1, d)])) := by
          rw [List.getElem?_append_left hlt, hs, List.map_append]
          rfl
        have hlt2 : s.length < (s1 ++ [O.lst []]).length := by rw [List.length_append]; omega
        rw [szs_append] at hn
        simp only [szs] at hn
        have hsz := sizeT_pos t1
        have hpt := hp (t1, d) (by simp)
        rw [List.map_append, forksTs_append] at hsn
        simp only [List.map_cons, List.map_nil, forksTs] at hsn
        have hold : Old s ((s1 ++ [O.lst []]).set s.length (.lst (st'.map pr))) := (ho.trans (Old.app ..)).set (Nat.le_refl _)
        have hw : ((s1 ++ [O.lst []]).set s.length (.lst (st'.map pr)))[s.length]? = some (.lst (st'.map pr)) := List.getElem?_set_self hlt2
        refine ⟨s1 ++ [.lst []], by rw [ev_neNil rfl hs]; simp, ?_⟩
        have pop : ∀ (r : List Mini.St) (seen : Nat) (x y z : Option D), execs (cf (k + 2)) (.asg (.tp [(.nm 4), (.nm 5)]) (.prim .pop [.var 2]) :: r) [some (.int a), some (enc t), some (.ref s.length), some (.int seen), x, y, z] (s1 ++ [.lst []]) = execs (cf (k + 2)) r [some (.int a), some (enc t), some (.ref s.length), some (.int seen), some (enc t1), some (.int d), z] ((s1 ++ [O.lst []]).set s.length (.lst (st'.map pr))) := fun r seen x y z =>
          x_tp (by rw [ev_p1, ev_var2, R.bind_ok, pm_pop hs', ofOpt_some]; rfl) rfl
        rw [pop]
        cases t1 with
        | nil =>
          refine ⟨szs st', _, _, by rw [← hn]; simp [sizeT], ?_, hold, st', seen, some .non, some (.int d), z, rfl, hw, rfl, by omega, fun p hp' => hp p (by simp [hp']), by omega⟩
          rw [x_skip (by rw [ev_p1, ev_var4, R.bind_ok]; rfl), xs_nil]
          rfl
        | node l =>
          obtain ⟨hA1, hd1⟩ := hpt
          rw [Ary] at hA1
          simp only [forksT] at hd1 hsn
          simp only [sizeT] at hn
          have hsl := szs_len st'
          have hll := sizeTs_len l
          generalize hS : (s1 ++ [O.lst []]).set s.length (.lst (st'.map pr)) = S2 at hold hw ⊢
          have hlt3 : s.length < S2.length := (List.getElem?_eq_some_iff.mp hw).1
          have hw2 : (S2 ++ [O.lst ((encs l).map fun c => D.tup [c, .int ((d : Int) + 1)])])[s.length]? = some (.lst (st'.map pr)) := by
            rw [List.getElem?_append_left hlt3]
            exact hw
          have el : (encs l).length = l.length := by rw [encs_map, List.length_map]
          have ec : eval (cf (k + 2)) (.comp .seq [.var 4] (.nm 6) (.con (.bl true)) (.prim .tup [.var 6, .prim .add [.var 5, .con (.int 1)]]) [6]) [some (.int a), some (enc t), some (.ref s.length), some (.int (seen + 1 : Nat)), some (enc (.node l)), some (.int d), z] S2 = .ok (.ref S2.length) (S2 ++ [.lst ((encs l).map fun c => D.tup [c, .int ((d : Int) + 1)])]) :=
            ev_compT (l := encs l) (s1 := S2) (by simp only [evs_cons, evs_nil, ev_var4, R.bind_ok]; rfl) (by rw [el, LIM]; omega) (by simp only [FUEL]; omega) fun c hc s => ⟨_, rfl, by
              simp only [wipeE, List.set_cons_succ, List.set_cons_zero, ev_p2, ev_var6, ev_var5, ev_con, R.bind_ok, pm_add, ofOpt_some, pm_tup2]⟩
          refine ⟨szs (st' ++ l.map fun c => (c, d + 1)), [some (.int a), some (enc t), some (.ref s.length), some (.int (seen + 1 : Nat)), some (enc (.node l)), some (.int d), z], (S2 ++ [O.lst ((encs l).map fun c => D.tup [c, .int ((d : Int) + 1)])]).set s.length (.lst ((st' ++ l.map fun c => (c, d + 1)).map pr)), by rw [szs_append, szs_kids]; omega, ?_, (hold.trans (Old.app ..)).set (Nat.le_refl _), st' ++ l.map fun c => (c, d + 1), seen + 1, _, _, _, rfl, List.getElem?_set_self (by rw [List.length_append]; omega), rfl, by rw [szs_append, szs_kids]; omega, fun p hp' => ?_, ?_⟩
          · rw [x_ifnx (s1 := S2) (by rw [ev_p1, ev_var4, R.bind_ok]; rfl) (by
              rw [x_asg (d := .int (seen + 1 : Nat)) (s1 := S2) (by simp only [ev_p2, ev_var3, ev_con, R.bind_ok, pm_add, ofOpt_some]; rfl)]
              simp only [List.set_cons_succ, List.set_cons_zero]
              rw [x_skip (s1 := S2) (by
                have f1 : decide ((150 : Int) < ((seen + 1 : Nat) : Int)) = false := decide_eq_false (by omega)
                have f2 : decide ((30 : Int) < (d : Int)) = false := decide_eq_false (by omega)
                simp only [ev_or, ev_not, ev_p1, ev_p2, ev_var0, ev_var3, ev_var4, ev_var5, ev_con, R.bind_ok, enc, pm_isiT, pm_lenT, pm_neI, pm_gt, ofOpt_some, condR_t, condR_f, el, hA1.1, decide_true, Bool.not_true, f1, f2])]
              rw [x_ex (d := .non) (by
                rw [ev_p2, ev_p1, ev_var2, R.bind_ok, pm_lstI hw, ofOpt_some, R.bind_ok, ec, R.bind_ok, pm_ext hw2 (app_last ..) (by
                  rw [List.length_map, List.length_map, el, LIM]
                  omega), ofOpt_some]), xs_nil]), xs_nil, kids_pr, List.map_append]
          · rcases List.mem_append.mp hp' with q | q
            · exact hp p (by simp [q])
            · obtain ⟨c, hc, rfl⟩ := List.mem_map.mp q
              have := forksTs_mem hc
              exact ⟨arys_mem hA1.2 c hc, by show d + 1 + forksT c ≤ 30; omega⟩
          · rw [List.map_append, forksTs_append, List.map_map]
            have : (l.map ((fun x => x.1) ∘ fun c => (c, d + 1))) = l := by
              rw [show ((fun x : Tr × Nat => x.1) ∘ fun c : Tr => (c, d + 1)) = id from rfl, List.map_id]
            rw [this]
            omega)
  rw [xs_nx e, x_ret (d := .bl true) (s1 := s2) (by simp)]
  exact ⟨s2, rfl, p1⟩
end K52
set_option Elab.async false
set_option linter.all false
set_option maxRecDepth 100000
set_option maxHeartbeats 1000000
namespace K52
open Mini
theorem check_ok (k a : Nat) (t : Tr) (s : S) (h1 : 1 ≤ a) (h2 : a ≤ 12) (hA : Ary a t) (hF : forksT t ≤ 30) (hz : sizeT t ≤ 100000) : ∃ s', run (k + 4) 5 [.int a, enc t] s = .ok .non s' ∧ Old s s' := by
  obtain ⟨s', e, o⟩ := many_ok k a t s h1 h2 hA hF hz
  refine ⟨s', ?_, o⟩
  rw [run, callN_at (n := 2) (np := 2) (body := B5) rfl rfl, B5]
  show retF (execs (cf (k + 3)) _ [some (.int a), some (enc t)] s) = _
  have e : callN TBL FUEL (k + 3) 4 [.int a, enc t] s = .ok (.bl true) s' := e
  rw [x_skip (s1 := s') (by simp only [ev_not, ev_call2, ev_var0, ev_var1, R.bind_ok, e, condR_t]), xs_nil]
  rfl
theorem pm_list1T (l : List D) (s : S) : prim .list1 [.tup l] s = some (.ref s.length, s ++ [.lst l]) := rfl
theorem forksOf_ok (k : Nat) (t : Tr) (s : S) (hz : sizeT t ≤ 100000) : ∃ s', run (k + 1) 7 [enc t] s = .ok (.int (forksT t)) s' ∧ Old s s' := by
  rw [run, callN_at (n := 4) (np := 1) (body := B7) rfl rfl, B7]
  show ∃ s', retF (execs (cf k) _ [some (enc t), none, none, none] s) = _ ∧ _
  rw [x_par (ds := [.int 0, .ref s.length]) (s1 := s ++ [.lst [enc t]]) (env1 := [some (enc t), some (.int 0), some (.ref s.length), none]) (by
    simp only [evs_cons, evs_nil, ev_p1, ev_var0, ev_con, R.bind_ok, pm_lst1, ofOpt_some]) rfl]
  obtain ⟨env2, s2, e, p1, p2⟩ := run_whl (c := cf k) (q := .prim .ne [.var 2, .prim .lst []]) (b := [.asg (.nm 3) (.prim .pop [.var 2]),
      .ite (.prim .ntN [.var 3]) [.asg (.nm 1) (.prim .add [.var 1, .con (.int 1)]), .ex (.prim .ext [.prim .lstI [.var 2], .prim .list1 [.var 3]])] []])
    (env := [some (enc t), some (.int 0), some (.ref s.length), none]) (s := s ++ [.lst [enc t]]) (n := sizeT t)
    (fun n env s1 => Old s s1 ∧ ∃ (st : List Tr) (seen : Nat) (x : Option D), env = [some (enc t), some (.int seen), some (.ref s.length), x] ∧ s1[s.length]? = some (.lst (encs st)) ∧ sizeTs st = n ∧ n ≤ 100000 ∧ seen + forksTs st = forksT t)
    (fun env s1 => Old s s1 ∧ env[1]? = some (some (.int (forksT t)))) (by simp only [FUEL]; omega) ⟨Old.app .., [t], 0, none, rfl, app_last .., by simp [sizeTs], hz, by simp [forksTs]⟩ (fun n env s1 ⟨ho, st, seen, x, ee, hs, hn, hn2, hsn⟩ => by
      subst ee
      have hlt : s.length < s1.length := (List.getElem?_eq_some_iff.mp hs).1
      rcases List.eq_nil_or_concat st with rfl | ⟨st', t1, rfl⟩
      · simp only [forksTs, Nat.add_zero] at hsn
        exact .inl ⟨_, ev_neNil rfl hs, ho.trans (Old.app ..), by rw [← hsn]; rfl⟩
      · right
        rw [List.concat_eq_append] at hs hn hsn
        have en : encs (st' ++ [t1]) = encs st' ++ [enc t1] := by rw [encs_map, encs_map, List.map_append]; rfl
        rw [en] at hs
        have hs' : (s1 ++ [O.lst []])[s.length]? = some (.lst (encs st' ++ [enc t1])) := by
          rw [List.getElem?_append_left hlt, hs]
        have hlt2 : s.length < (s1 ++ [O.lst []]).length := by rw [List.length_append]; omega
        rw [sizeTs_append] at hn
        rw [forksTs_append] at hsn
        simp only [sizeTs, forksTs] at hn hsn
        have hold : Old s ((s1 ++ [O.lst []]).set s.length (.lst (encs st'))) := (ho.trans (Old.app ..)).set (Nat.le_refl _)
        have hw : ((s1 ++ [O.lst []]).set s.length (.lst (encs st')))[s.length]? = some (.lst (encs st')) := List.getElem?_set_self hlt2
        refine ⟨s1 ++ [.lst []], by rw [ev_neNil rfl hs]; simp, ?_⟩
        rw [x_asg (d := enc t1) (s1 := (s1 ++ [O.lst []]).set s.length (.lst (encs st'))) (by rw [ev_p1, ev_var2, R.bind_ok, pm_pop hs', ofOpt_some])]
        simp only [List.set_cons_succ, List.set_cons_zero]
        generalize hS : (s1 ++ [O.lst []]).set s.length (.lst (encs st')) = S2 at hold hw ⊢
        have hlt3 : s.length < S2.length := (List.getElem?_eq_some_iff.mp hw).1
        have el : ∀ l, (encs l).length = l.length := fun l => by rw [encs_map, List.length_map]
        have hsl := sizeTs_len st'
        cases t1 with
        | nil =>
          simp only [sizeT, forksT] at hn hsn
          refine ⟨sizeTs st', _, S2, by omega, ?_, hold, st', seen, some .non, rfl, hw, rfl, by omega, by omega⟩
          rw [x_skip (by rw [ev_p1, ev_var3, R.bind_ok]; rfl), xs_nil]
          rfl
        | node l =>
          simp only [sizeT, forksT] at hn hsn
          have hll := sizeTs_len l
          refine ⟨sizeTs (st' ++ l), [some (enc t), some (.int (seen + 1 : Nat)), some (.ref s.length), some (enc (.node l))], (S2 ++ [O.lst (encs l)]).set s.length (.lst (encs (st' ++ l))), by rw [sizeTs_append]; omega, ?_, (hold.trans (Old.app ..)).set (Nat.le_refl _), st' ++ l, seen + 1, _, rfl, List.getElem?_set_self (by rw [List.length_append]; omega), rfl, by rw [sizeTs_append]; omega, by rw [forksTs_append]; omega⟩
          have hw2 : (S2 ++ [O.lst (encs l)])[s.length]? = some (.lst (encs st')) := by
            rw [List.getElem?_append_left hlt3]
            exact hw
          rw [x_ifnx (s1 := S2) (by rw [ev_p1, ev_var3, R.bind_ok]; rfl) (by
            rw [x_asg (d := .int (seen + 1 : Nat)) (s1 := S2) (by simp only [ev_p2, ev_var1, ev_con, R.bind_ok, pm_add, ofOpt_some]; rfl)]
            simp only [List.set_cons_succ, List.set_cons_zero]
            rw [x_ex (d := .non) (by
              rw [ev_p2, ev_p1, ev_var2, R.bind_ok, pm_lstI hw, ofOpt_some, R.bind_ok, ev_p1, ev_var3, R.bind_ok, show enc (.node l) = .tup (encs l) from rfl, pm_list1T, ofOpt_some, R.bind_ok, pm_ext hw2 (app_last ..) (by
                rw [el, el, LIM]
                omega), ofOpt_some]), xs_nil]), xs_nil]
          rw [show encs (st' ++ l) = encs st' ++ encs l by rw [encs_map, encs_map, encs_map, List.map_append]])
  rw [xs_nx e, x_ret (d := .int (forksT t)) (s1 := s2) (ev_var p2)]
  exact ⟨s2, rfl, p1⟩
theorem forks_ok (k a : Nat) (t : Tr) (s : S) (h1 : 1 ≤ a) (h2 : a ≤ 12) (hA : Ary a t) (hF : forksT t ≤ 30) (hz : sizeT t ≤ 100000) : ∃ s', run (k + 5) 6 [.int a, enc t] s = .ok (.int (forksT t)) s' ∧ Old s s' := by
  obtain ⟨s1, e1, o1⟩ := check_ok k a t s h1 h2 hA hF hz
  obtain ⟨s2, e2, o2⟩ := forksOf_ok (k + 3) t s1 hz
  refine ⟨s2, ?_, o1.trans o2⟩
  rw [run, callN_at (n := 2) (np := 2) (body := B6) rfl rfl, B6]
  show retF (execs (cf (k + 4)) _ [some (.int a), some (enc t)] s) = _
  have e1 : callN TBL FUEL (k + 4) 5 [.int a, enc t] s = .ok .non s1 := e1
  have e2 : callN TBL FUEL (k + 4) 7 [enc t] s1 = .ok (.int (forksT t)) s2 := e2
  rw [x_ex (d := .non) (s1 := s1) (by simp only [ev_call2, ev_var0, ev_var1, R.bind_ok, e1]), x_ret (d := .int (forksT t)) (s1 := s2) (by simp only [ev_call1, ev_var1, R.bind_ok, e2])]
  rfl
end K52
set_option Elab.async false
set_option linter.all false
set_option maxRecDepth 100000
set_option maxHeartbeats 1000000
namespace K52
open Mini
mutual
/-- the word: 1 for a fork, 0 for an end -/
def wd : Tr → List Int
  | .nil => [0]
  | .node l => 1 :: wds l
def wds : List Tr → List Int
  | [] => []
  | t :: r => wd t ++ wds r
end
theorem wds_append (l m : List Tr) : wds (l ++ m) = wds l ++ wds m := by
  induction l with
  | nil => rfl
  | cons t r ih => rw [List.cons_append, wds, wds, ih, List.append_assoc]
mutual
theorem wd_len : ∀ t : Tr, (wd t).length = sizeT t
  | .nil => rfl
  | .node l => by rw [wd, sizeT, List.length_cons, wds_len l, Nat.add_comm]
theorem wds_len : ∀ l : List Tr, (wds l).length = sizeTs l
  | [] => rfl
  | t :: r => by rw [wds, sizeTs, List.length_append, wd_len t, wds_len r]
end
theorem sizeTs_rev (l : List Tr) : sizeTs l.reverse = sizeTs l := by
  induction l with
  | nil => rfl
  | cons t r ih => rw [List.reverse_cons, sizeTs_append, ih, sizeTs]; simp [sizeTs]; omega
theorem pm_listRev (l : List D) (s : S) : prim .listRev [.tup l] s = some (.ref s.length, s ++ [.lst l.reverse]) := rfl
theorem encs_append (l m : List Tr) : encs (l ++ m) = encs l ++ encs m := by rw [encs_map, encs_map, encs_map, List.map_append]
theorem encs_rev (l : List Tr) : encs l.reverse = (encs l).reverse := by rw [encs_map, encs_map, List.map_reverse]
theorem encs_len (l : List Tr) : (encs l).length = l.length := by rw [encs_map, List.length_map]
theorem cutL1 {l : List D} : cutD l none (some (-1)) = l.dropLast := by
  unfold cutD
  rw [show HT.sIx l.length 0 none = 0 from rfl]
  have : HT.sIx l.length l.length (some (-1)) = l.length - 1 := by
    unfold HT.sIx
    simp
    omega
  rw [this, List.drop_zero, Nat.sub_zero, List.dropLast_eq_take]
theorem word_ok (k a : Nat) (t : Tr) (s : S) (h1 : 1 ≤ a) (h2 : a ≤ 12) (hA : Ary a t) (hF : forksT t ≤ 30) (hz : sizeT t ≤ 100000) : ∃ s', run (k + 5) 9 [.int a, enc t] s = .ok (.tup (((wd t).dropLast).map .int)) s' ∧ Old s s' := by
  obtain ⟨s1, e1, o1⟩ := check_ok k a t s h1 h2 hA hF hz
  rw [run, callN_at (n := 5) (np := 2) (body := B9) rfl rfl, B9]
  show ∃ s', retF (execs (cf (k + 4)) _ [some (.int a), some (enc t), none, none, none] s) = _ ∧ _
  have e1 : callN TBL FUEL (k + 4) 5 [.int a, enc t] s = .ok .non s1 := e1
  rw [x_ex (d := .non) (s1 := s1) (by simp only [ev_call2, ev_var0, ev_var1, R.bind_ok, e1])]
  have hlen2 : (s1 ++ [O.lst []]).length = s1.length + 1 := by simp
  rw [x_par (ds := [.ref s1.length, .ref (s1.length + 1)]) (s1 := s1 ++ [.lst []] ++ [.lst [enc t]]) (env1 := [some (.int a), some (enc t), some (.ref s1.length), some (.ref (s1.length + 1)), none]) (by
    simp only [evs_cons, evs_nil, ev_p0, ev_p1, ev_var1, R.bind_ok, pm_lst0, pm_lst1, ofOpt_some, hlen2]) rfl]
  have a0 : (s1 ++ [O.lst []] ++ [O.lst [enc t]])[s1.length]? = some (.lst []) := by
    rw [List.getElem?_append_left (by rw [hlen2]; omega)]
    exact app_last ..
  have a1 : (s1 ++ [O.lst []] ++ [O.lst [enc t]])[s1.length + 1]? = some (.lst [enc t]) := by
    have := app_last (s1 ++ [O.lst []]) (O.lst [enc t])
    rw [hlen2] at this
    exact this
  obtain ⟨env2, s2, e, p1, p2, p3⟩ := run_whl (c := cf (k + 4)) (q := .prim .ne [.var 3, .prim .lst []]) (b := [.asg (.nm 4) (.prim .pop [.var 3]),
      .ex (.prim .app [.prim .lstI [.var 2], .ife (.prim .isN [.var 4]) (.con (.int 0)) (.con (.int 1))]),
      .ite (.prim .ntN [.var 4]) [.ex (.prim .ext [.prim .lstI [.var 3], .prim .listRev [.var 4]])] []])
    (env := [some (.int a), some (enc t), some (.ref s1.length), some (.ref (s1.length + 1)), none]) (s := s1 ++ [.lst []] ++ [.lst [enc t]]) (n := sizeT t)
    (fun n env s2 => Old s1 s2 ∧ ∃ (st : List Tr) (fd : List Int) (x : Option D), env = [some (.int a), some (enc t), some (.ref s1.length), some (.ref (s1.length + 1)), x] ∧ s2[s1.length]? = some (.lst (fd.map .int)) ∧ s2[s1.length + 1]? = some (.lst (encs st)) ∧ sizeTs st = n ∧ n ≤ 100000 ∧ fd ++ wds st.reverse = wd t)
    (fun env s2 => Old s1 s2 ∧ env[2]? = some (some (.ref s1.length)) ∧ s2[s1.length]? = some (.lst ((wd t).map .int))) (by simp only [FUEL]; omega)
    ⟨(Old.app ..).trans (Old.app ..), [t], [], none, rfl, a0, a1, by simp [sizeTs], hz, by simp [wds]⟩ (fun n env s2 ⟨ho, st, fd, x, ee, hf, hs, hn, hn2, hw⟩ => by
      subst ee
      have hlt : s1.length + 1 < s2.length := (List.getElem?_eq_some_iff.mp hs).1
      rcases List.eq_nil_or_concat st with rfl | ⟨st', t1, rfl⟩
      · simp only [List.reverse_nil, wds, List.append_nil] at hw
        subst hw
        exact .inl ⟨_, ev_neNil rfl hs, ho.trans (Old.app ..), rfl, by rw [List.getElem?_append_left (by omega)]; exact hf⟩
      · right
        rw [List.concat_eq_append] at hs hn hw
        rw [encs_append] at hs
        rw [List.reverse_append, List.reverse_singleton, List.singleton_append, wds] at hw
        rw [sizeTs_append] at hn
        simp only [sizeTs] at hn
        have hfl : fd.length + sizeT t1 ≤ sizeT t := by
          have := congrArg List.length hw
          rw [List.length_append, List.length_append, wd_len, wd_len] at this
          omega
        have hsp := sizeT_pos t1
        have hlt2 : s1.length + 1 < (s2 ++ [O.lst []]).length := by rw [List.length_append]; omega
        have hs' : (s2 ++ [O.lst []])[s1.length + 1]? = some (.lst (encs st' ++ [enc t1])) := by
          rw [List.getElem?_append_left hlt, hs]
          rfl
        have hf' : (s2 ++ [O.lst []])[s1.length]? = some (.lst (fd.map .int)) := by
          rw [List.getElem?_append_left (by omega), hf]
        refine ⟨s2 ++ [.lst []], by rw [ev_neNil rfl hs]; simp [encs], ?_⟩
        rw [x_asg (d := enc t1) (s1 := (s2 ++ [O.lst []]).set (s1.length + 1) (.lst (encs st'))) (by rw [ev_p1, ev_var3, R.bind_ok, pm_pop hs', ofOpt_some])]
        simp only [List.set_cons_succ, List.set_cons_zero]
        have hold : Old s1 ((s2 ++ [O.lst []]).set (s1.length + 1) (.lst (encs st'))) := (ho.trans (Old.app ..)).set (by omega)
        have b1 : ((s2 ++ [O.lst []]).set (s1.length + 1) (.lst (encs st')))[s1.length + 1]? = some (.lst (encs st')) := List.getElem?_set_self hlt2
        have b0 : ((s2 ++ [O.lst []]).set (s1.length + 1) (.lst (encs st')))[s1.length]? = some (.lst (fd.map .int)) := by
          rw [List.getElem?_set_ne (by omega)]
          exact hf'
        generalize hS : (s2 ++ [O.lst []]).set (s1.length + 1) (.lst (encs st')) = S2 at hold b1 b0 ⊢
        have hlt3 : s1.length + 1 < S2.length := (List.getElem?_eq_some_iff.mp b1).1
        have hsl := sizeTs_len st'
        have bit : ∀ (i : Int), (∀ S, eval (cf (k + 4)) (.ife (.prim .isN [.var 4]) (.con (.int 0)) (.con (.int 1))) [some (.int a), some (enc t), some (.ref s1.length), some (.ref (s1.length + 1)), some (enc t1)] S = .ok (.int i) S) → ∀ r, execs (cf (k + 4)) (.ex (.prim .app [.prim .lstI [.var 2], .ife (.prim .isN [.var 4]) (.con (.int 0)) (.con (.int 1))]) :: r) [some (.int a), some (enc t), some (.ref s1.length), some (.ref (s1.length + 1)), some (enc t1)] S2 = execs (cf (k + 4)) r [some (.int a), some (enc t), some (.ref s1.length), some (.ref (s1.length + 1)), some (enc t1)] (S2.set s1.length (.lst ((fd ++ [i]).map .int))) := fun i hi r =>
          x_ex (d := .non) (by
            rw [ev_p2, ev_p1, ev_var2, R.bind_ok, pm_lstI b0, ofOpt_some, R.bind_ok, hi, R.bind_ok, pm_app b0 (by rw [List.length_map, LIM]; omega), ofOpt_some, List.map_append]
            rfl)
        have c1 : ∀ o, (S2.set s1.length o)[s1.length + 1]? = some (.lst (encs st')) := fun o => by
          rw [List.getElem?_set_ne (by omega)]
          exact b1
        have c0 : ∀ o, (S2.set s1.length o)[s1.length]? = some o := fun o => List.getElem?_set_self (by omega)
        cases t1 with
        | nil =>
          simp only [sizeT] at hn
          rw [bit 0 (fun S => by simp only [ev_ife, ev_p1, ev_var4, R.bind_ok, enc, pm_isN, ofOpt_some, ev_con]; rfl)]
          refine ⟨sizeTs st', _, _, by omega, ?_, hold.set (n := s1.length) (by omega), st', fd ++ [0], some .non, rfl, c0 _, c1 _, rfl, by omega, by rw [← hw, List.append_assoc]; rfl⟩
          rw [x_skip (by rw [ev_p1, ev_var4, R.bind_ok]; rfl), xs_nil]
          rfl
        | node l =>
          simp only [sizeT] at hn hfl
          have hll := sizeTs_len l
          rw [bit 1 (fun S => by simp only [ev_ife, ev_p1, ev_var4, R.bind_ok, enc, pm_isN, ofOpt_some, ev_con]; rfl)]
          generalize hS3 : S2.set s1.length (.lst ((fd ++ [1]).map .int)) = S3
          have d1 : S3[s1.length + 1]? = some (.lst (encs st')) := by rw [← hS3]; exact c1 _
          have d0 : S3[s1.length]? = some (.lst ((fd ++ [1]).map .int)) := by rw [← hS3]; exact c0 _
          have hold3 : Old s1 S3 := by rw [← hS3]; exact hold.set (n := s1.length) (by omega)
          have hlt4 : s1.length + 1 < S3.length := (List.getElem?_eq_some_iff.mp d1).1
          refine ⟨sizeTs (st' ++ l.reverse), [some (.int a), some (enc t), some (.ref s1.length), some (.ref (s1.length + 1)), some (enc (.node l))], (S3 ++ [O.lst (encs l).reverse]).set (s1.length + 1) (.lst (encs (st' ++ l.reverse))), by rw [sizeTs_append, sizeTs_rev]; omega, ?_, (hold3.trans (Old.app ..)).set (by omega), st' ++ l.reverse, fd ++ [1], _, rfl, ?_, List.getElem?_set_self (by rw [List.length_append]; omega), rfl, by rw [sizeTs_append, sizeTs_rev]; omega, ?_⟩
          · rw [x_ifnx (s1 := S3) (by rw [ev_p1, ev_var4, R.bind_ok]; rfl) (by
              rw [x_ex (d := .non) (by
                rw [ev_p2, ev_p1, ev_var3, R.bind_ok, pm_lstI d1, ofOpt_some, R.bind_ok, ev_p1, ev_var4, R.bind_ok, show enc (.node l) = .tup (encs l) from rfl, pm_listRev, ofOpt_some, R.bind_ok, pm_ext (l := encs st') (k := (encs l).reverse) (by rw [List.getElem?_append_left hlt4]; exact d1) (app_last ..) (by
                  rw [List.length_reverse, encs_len, encs_len, LIM]
                  omega), ofOpt_some]), xs_nil]), xs_nil, encs_append, encs_rev]
          · rw [List.getElem?_set_ne (by omega), List.getElem?_append_left (by omega)]
            exact d0
          · rw [← hw, List.reverse_append, List.reverse_reverse, wds_append, wd]
            simp)
  have sl : prim (.sl false true) [.ref s1.length, .int (-1)] s2 = some (.ref s2.length, s2 ++ [.lst ((wd t).map D.int).dropLast]) := by
    show (some ((none : Option Int), some (-1 : Int))).bind (fun p => slD (.ref s1.length) p.1 p.2 s2) = _
    show slD (.ref s1.length) none (some (-1)) s2 = _
    unfold slD
    dsimp only
    rw [p3]
    dsimp only
    rw [cutL1]
    rfl
  rw [xs_nx e, x_ret (d := .tup (((wd t).dropLast).map .int)) (s1 := s2 ++ [.lst ((wd t).map D.int).dropLast]) (by
    rw [ev_p1, ev_p2, ev_var p2, R.bind_ok, ev_p1, ev_p1, ev_con, R.bind_ok, pm_neg, ofOpt_some, R.bind_ok]
    rw [show prim .idI [.int (-1)] s2 = some (.int (-1), s2) from rfl, ofOpt_some, R.bind_ok, sl, ofOpt_some, R.bind_ok]
    show ofOpt ((items (s2 ++ [.lst ((wd t).map D.int).dropLast]) (.ref s2.length)).map fun l => (D.tup l, s2 ++ [.lst ((wd t).map D.int).dropLast])) = _
    rw [show items (s2 ++ [O.lst ((wd t).map D.int).dropLast]) (.ref s2.length) = some ((wd t).map D.int).dropLast by
      show (match (s2 ++ [O.lst ((wd t).map D.int).dropLast])[s2.length]? with | some (.lst l) => some l | _ => none) = _
      rw [app_last]]
    rw [List.map_dropLast]
    rfl)]
  exact ⟨_, rfl, (o1.trans p1).trans (Old.app ..)⟩
end K52
set_option Elab.async false
set_option linter.all false
set_option maxRecDepth 100000
set_option maxHeartbeats 1000000
namespace K52
open Mini
/-- one sign of a word, from the right -/
def stp (a : Nat) (stk : List Tr) (b : Int) : List Tr := if b = 0 then .nil :: stk else .node (stk.take a) :: stk.drop a
def okS (a : Nat) : List Tr → List Int → Prop
  | _, [] => True
  | stk, b :: r => (b = 0 ∨ (b = 1 ∧ a ≤ stk.length)) ∧ okS a (stp a stk b) r
theorem okS_append {a : Nat} : ∀ {stk : List Tr} {r q : List Int}, okS a stk (r ++ q) ↔ okS a stk r ∧ okS a (r.foldl (stp a) stk) q
  | stk, [], q => by simp [okS]
  | stk, b :: r, q => by
    rw [List.cons_append, okS, okS, okS_append (r := r) (q := q), List.foldl_cons, and_assoc]
theorem stp_size {a : Nat} {stk : List Tr} {b : Int} : sizeTs (stp a stk b) = sizeTs stk + 1 := by
  unfold stp
  split
  · simp [sizeTs, sizeT]; omega
  · have := sizeTs_append (stk.take a) (stk.drop a)
    rw [List.take_append_drop] at this
    simp [sizeTs, sizeT]
    omega
theorem fold_size {a : Nat} : ∀ {r : List Int} {stk : List Tr}, sizeTs (r.foldl (stp a) stk) = sizeTs stk + r.length
  | [], stk => rfl
  | b :: r, stk => by
    rw [List.foldl_cons, fold_size, stp_size, List.length_cons]
    omega
theorem pm_slL {s : S} {n : Nat} {l : List D} {i : Nat} (h : s[n]? = some (.lst l)) (hi : i ≤ l.length) : prim (.sl false true) [.ref n, .int (i : Nat)] s = some (.ref s.length, s ++ [.lst (l.take i)]) := by
  show (some ((none : Option Int), some ((i : Nat) : Int))).bind (fun p => slD (.ref n) p.1 p.2 s) = _
  show slD (.ref n) none (some ((i : Nat) : Int)) s = _
  unfold slD
  dsimp only
  rw [h]
  dsimp only
  unfold cutD
  rw [show HT.sIx l.length 0 none = 0 from rfl, HT.sIx_nat l.length l.length i, Nat.min_eq_left hi, List.drop_zero, Nat.sub_zero]
  rfl
theorem pm_slR {s : S} {n : Nat} {l : List D} {i : Nat} (h : s[n]? = some (.lst l)) (hi : i ≤ l.length) : prim (.sl true false) [.ref n, .int (i : Nat)] s = some (.ref s.length, s ++ [.lst (l.drop i)]) := by
  show (some (some ((i : Nat) : Int), (none : Option Int))).bind (fun p => slD (.ref n) p.1 p.2 s) = _
  show slD (.ref n) (some ((i : Nat) : Int)) none s = _
  unfold slD
  dsimp only
  rw [h]
  dsimp only
  unfold cutD
  rw [HT.sIx_nat l.length 0 i, show HT.sIx l.length l.length none = l.length from rfl, Nat.min_eq_left hi, List.take_of_length_le (by rw [List.length_drop]; omega)]
  rfl
theorem pm_rvL {s : S} {n : Nat} {l : List D} (h : s[n]? = some (.lst l)) : prim .rvL [.ref n] s = some (.ref s.length, s ++ [.lst l.reverse]) := by
  show (match s[n]? with
      | some (.lst l) => mk s (.lst l.reverse)
      | _ => none) = _
  rw [h]
  rfl
theorem pm_tuple1L {s : S} {n : Nat} {l : List D} (h : s[n]? = some (.lst l)) : prim .tuple1 [.ref n] s = some (.tup l, s) := by
  show (items s (.ref n)).map (fun l => (D.tup l, s)) = _
  unfold items
  dsimp only
  rw [h]
  rfl
theorem pm_addL {s : S} {n m : Nat} {l k : List D} (h : s[n]? = some (.lst l)) (h2 : s[m]? = some (.lst k)) (hl : l.length + k.length ≤ LIM) : prim .add [.ref n, .ref m] s = some (.ref s.length, s ++ [.lst (l ++ k)]) := by
  show (match s[n]?, s[m]? with
    | some (.lst l), some (.lst m) => if l.length + m.length ≤ LIM then mk s (.lst (l ++ m)) else none
    | _, _ => none) = _
  rw [h, h2]
  dsimp only
  rw [if_pos hl]
  rfl
theorem pm_addT {s : S} {l k : List D} (hl : l.length + k.length ≤ LIM) : prim .add [.tup l, .tup k] s = some (.tup (l ++ k), s) := by
  show (if _ then _ else _) = _
  rw [if_pos hl]
theorem pm_rvT {s : S} {l : List D} (hl : l.length ≤ LIM) : prim .rvL [.tup l] s = some (.tup l.reverse, s) := by
  show (if _ then _ else _) = _
  rw [if_pos hl]
theorem x_idI {c : Cfg} {env : Ev} {s : S} {e : E} {i : Int} (h : eval c e env s = .ok (.int i) s) : eval c (.prim .idI [e]) env s = .ok (.int i) s := by
  rw [ev_p1, h]
  rfl
theorem ofWord_ok (k a : Nat) (w : List Int) (s : S) (t : Tr) (hw : w.length ≤ 10000) (hok : okS a [] (w ++ [0]).reverse) (ht : (w ++ [0]).reverse.foldl (stp a) [] = [t]) : ∃ s', run (k + 1) 24 [.int a, .tup (w.map .int)] s = .ok (enc t) s' ∧ Old s s' := by
  rw [run, callN_at (n := 5) (np := 2) (body := B24) rfl rfl, B24]
  show ∃ s', retF (execs (cf k) _ [some (.int a), some (.tup (w.map .int)), none, none, none] s) = _ ∧ _
  rw [x_asg (d := .ref s.length) (s1 := s ++ [.lst []]) (by rw [ev_p0, pm_lst0, ofOpt_some])]
  simp only [List.set_cons_succ, List.set_cons_zero]
  have hL : ((w ++ [0]).reverse.map D.int) = ((w.map D.int) ++ [D.int 0]).reverse := by rw [List.map_reverse, List.map_append]; rfl
  have hl : ((w ++ [0]).reverse.map D.int).length = w.length + 1 := by simp
  obtain ⟨env2, s2, e, n, y, z, p1, p2, p3⟩ := run_seq (c := cf k) (es := [.prim .rvL [.prim .add [.var 1, .prim .tup [.con (.int 0)]]]]) (t := .nm 3) (l := (w ++ [0]).reverse.map .int) (b := [.ite (.prim .eq [.var 3, .con (.int 0)]) [.ex (.prim .app [.prim .lstI [.var 2], .con .non])] [.asg (.nm 4) (.prim .sub [.prim .len [.var 2], .var 0]),
    .asg (.nm 2) (.prim .add [.prim (.sl false true) [.var 2, .prim .idI [.var 4]], .prim .lst [.prim .tuple1 [.prim .rvL [.prim (.sl true false) [.var 2, .prim .idI [.var 4]]]]]])]])
    (env := [some (.int a), some (.tup (w.map .int)), some (.ref s.length), none, none]) (s := s ++ [.lst []]) (s1 := s ++ [.lst []])
    (fun i env s1 => ∃ n y z, env = [some (.int a), some (.tup (w.map .int)), some (.ref n), y, z] ∧ Old s s1 ∧ s.length ≤ n ∧ s1[n]? = some (.lst (encs (((w ++ [0]).reverse.take i).foldl (stp a) []).reverse)))
    (by
      simp only [evs_cons, evs_nil, ev_p1, ev_p2, ev_var1, ev_con, R.bind_ok, pm_tup1, ofOpt_some]
      rw [pm_addT (by rw [List.length_map, List.length_singleton, LIM]; omega), ofOpt_some, R.bind_ok, pm_rvT (by rw [List.length_append, List.length_map, List.length_singleton, LIM]; omega), ofOpt_some, R.bind_ok, hL]) (by simp only [FUEL]; omega) ⟨s.length, none, none, rfl, Old.app .., Nat.le_refl _, app_last ..⟩
    (fun i d env s1 hd ⟨n, y, z, ee, ho, hn, hs⟩ => by
      subst ee
      rw [List.getElem?_map] at hd
      obtain ⟨b, hb, rfl⟩ := Option.map_eq_some_iff.mp hd
      have hi : i < (w ++ [0]).reverse.length := (List.getElem?_eq_some_iff.mp hb).1
      have hi2 : i < w.length + 1 := by simpa using hi
      have htk : (w ++ [0]).reverse.take (i + 1) = (w ++ [0]).reverse.take i ++ [b] := by rw [List.take_add_one, hb]; rfl
      have hfold : ((w ++ [0]).reverse.take (i + 1)).foldl (stp a) [] = stp a (((w ++ [0]).reverse.take i).foldl (stp a) []) b := by rw [htk, List.foldl_append]; rfl
      have hcond : b = 0 ∨ (b = 1 ∧ a ≤ (((w ++ [0]).reverse.take i).foldl (stp a) []).length) := by
        have h1 : okS a [] ((w ++ [0]).reverse.take i ++ (w ++ [0]).reverse.drop i) := by rw [List.take_append_drop]; exact hok
        have h2 := (okS_append.mp h1).2
        rw [List.drop_eq_getElem_cons hi] at h2
        have h3 := h2.1
        have eb : (w ++ [0]).reverse[i] = b := by
          have := List.getElem?_eq_getElem hi
          rw [hb] at this
          exact (Option.some.inj this).symm
        rw [eb] at h3
        exact h3
      generalize hstk : ((w ++ [0]).reverse.take i).foldl (stp a) [] = stk at hs hfold hcond
      have hsz : stk.length ≤ w.length + 1 := by
        have h1 := fold_size (a := a) (r := (w ++ [0]).reverse.take i) (stk := [])
        rw [hstk, List.length_take] at h1
        have h2 := sizeTs_len stk
        simp [sizeTs] at h1
        omega
      refine ⟨[some (.int a), some (.tup (w.map .int)), some (.ref n), some (.int b), z], rfl, ?_⟩
      have hlt : n < s1.length := (List.getElem?_eq_some_iff.mp hs).1
      have hel : (encs stk.reverse).length = stk.length := by rw [encs_len, List.length_reverse]
      rcases hcond with hb0 | ⟨hb1, hal⟩
      · subst hb0
        refine ⟨[some (.int a), some (.tup (w.map .int)), some (.ref n), some (.int 0), z], s1.set n (.lst (encs (stp a stk 0).reverse)), ?_, n, _, _, rfl, ho.set hn, hn, by rw [hfold]; exact List.getElem?_set_self hlt⟩
        rw [x_ifnx (s1 := s1) (by simp only [ev_p2, ev_var3, ev_con, R.bind_ok, pm_eqI, ofOpt_some]; rfl) (by
          rw [x_ex (d := .non) (by
            rw [ev_p2, ev_p1, ev_var2, R.bind_ok, pm_lstI hs, ofOpt_some, R.bind_ok, ev_con, R.bind_ok, pm_app hs (by rw [hel, LIM]; omega), ofOpt_some]), xs_nil]), xs_nil]
        rw [show stp a stk 0 = .nil :: stk from rfl, List.reverse_cons, encs_append]
        rfl
      · subst hb1
        obtain ⟨m, hm⟩ : ∃ m : Nat, m = stk.length - a := ⟨_, rfl⟩
        have e1 : (encs stk.reverse).take m = encs (stk.drop a).reverse := by
          rw [encs_map, encs_map, ← List.map_take, List.take_reverse]
          congr 3
          omega
        have e2 : ((encs stk.reverse).drop m).reverse = encs (stk.take a) := by
          rw [encs_map, encs_map, ← List.map_drop, ← List.map_reverse, List.drop_reverse, List.reverse_reverse]
          congr 2
          omega
        have s2 : (s1 ++ [O.lst ((encs stk.reverse).take m)])[n]? = some (.lst (encs stk.reverse)) := by rw [List.getElem?_append_left hlt]; exact hs
        refine ⟨[some (.int a), some (.tup (w.map .int)), some (.ref (s1.length + 4)), some (.int 1), some (.int m)], s1 ++ [O.lst ((encs stk.reverse).take m)] ++ [O.lst ((encs stk.reverse).drop m)] ++ [O.lst ((encs stk.reverse).drop m).reverse] ++ [O.lst [.tup (encs (stk.take a))]] ++ [O.lst (encs (stp a stk 1).reverse)], ?_, s1.length + 4, _, _, rfl, ((((ho.trans (Old.app ..)).trans (Old.app ..)).trans (Old.app ..)).trans (Old.app ..)).trans (Old.app ..), by omega, ?_⟩
        · rw [xs_nx (env1 := [some (.int a), some (.tup (w.map .int)), some (.ref (s1.length + 4)), some (.int 1), some (.int m)]) (s1 := s1 ++ [O.lst ((encs stk.reverse).take m)] ++ [O.lst ((encs stk.reverse).drop m)] ++ [O.lst ((encs stk.reverse).drop m).reverse] ++ [O.lst [.tup (encs (stk.take a))]] ++ [O.lst (encs (stp a stk 1).reverse)]) (by
            rw [x_else (s1 := s1) (by simp only [ev_p2, ev_var3, ev_con, R.bind_ok, pm_eqI, ofOpt_some]; rfl)]
            rw [x_asg (d := .int m) (s1 := s1) (by
              rw [ev_p2, ev_p1, ev_var2, R.bind_ok, pm_lenL hs, ofOpt_some, R.bind_ok, ev_var0, R.bind_ok, pm_sub, ofOpt_some, hel, hm]
              congr 2
              omega)]
            simp only [List.set_cons_succ, List.set_cons_zero]
            rw [x_asg (d := .ref (s1.length + 4)) (s1 := s1 ++ [O.lst ((encs stk.reverse).take m)] ++ [O.lst ((encs stk.reverse).drop m)] ++ [O.lst ((encs stk.reverse).drop m).reverse] ++ [O.lst [.tup (encs (stk.take a))]] ++ [O.lst (encs (stp a stk 1).reverse)]) (by
              rw [ev_p2, ev_p2, ev_var2, R.bind_ok, x_idI (ev_var4 ..), R.bind_ok, pm_slL hs (by rw [hel]; omega), ofOpt_some, R.bind_ok]
              rw [ev_p1, ev_p1, ev_p1, ev_p2, ev_var2, R.bind_ok, x_idI (ev_var4 ..), R.bind_ok, pm_slR s2 (by rw [hel]; omega), ofOpt_some, R.bind_ok, pm_rvL (app_last ..), ofOpt_some, R.bind_ok, pm_tuple1L (app_last ..), ofOpt_some, R.bind_ok, pm_lst1, ofOpt_some, R.bind_ok, e2]
              rw [pm_addL (l := (encs stk.reverse).take m) (k := [.tup (encs (stk.take a))]) (by
                rw [List.getElem?_append_left (by simp), List.getElem?_append_left (by simp), List.getElem?_append_left (by simp)]
                exact app_last ..) (app_last ..) (by rw [List.length_take, List.length_singleton, hel, LIM]; omega), ofOpt_some, e1]
              rw [show encs (stp a stk 1).reverse = encs (stk.drop a).reverse ++ [.tup (encs (stk.take a))] by
                rw [show stp a stk 1 = .node (stk.take a) :: stk.drop a from rfl, List.reverse_cons, encs_append]
                rfl]
              simp), xs_nil]
            rfl), xs_nil]
        · rw [hfold]
          have := app_last (s1 ++ [O.lst ((encs stk.reverse).take m)] ++ [O.lst ((encs stk.reverse).drop m)] ++ [O.lst ((encs stk.reverse).drop m).reverse] ++ [O.lst [.tup (encs (stk.take a))]]) (O.lst (encs (stp a stk 1).reverse))
          rw [show (s1 ++ [O.lst ((encs stk.reverse).take m)] ++ [O.lst ((encs stk.reverse).drop m)] ++ [O.lst ((encs stk.reverse).drop m).reverse] ++ [O.lst [.tup (encs (stk.take a))]]).length = s1.length + 4 by simp] at this
          exact this)
  rw [List.length_map, List.take_length, ht] at p3
  subst p1
  rw [xs_nx e, x_ret (d := enc t) (s1 := s2) (by
    rw [ev_p2, ev_var2, R.bind_ok, ev_con, R.bind_ok, pm_ixL p3.2 rfl, ofOpt_some])]
  exact ⟨s2, rfl, p2⟩
end K52
set_option Elab.async false
set_option linter.all false
set_option maxRecDepth 100000
set_option maxHeartbeats 1000000
namespace K52
open Mini
/-- open places, from the left -/
def Opn (a : Nat) : Int → List Int → Prop
  | n, [] => n = 1
  | n, b :: r => (b = 0 ∨ b = 1) ∧ 0 < n - 1 + a * b ∧ Opn a (n - 1 + a * b) r
theorem stp_wds {a : Nat} {stk : List Tr} {b : Int} (h : b = 0 ∨ b = 1) : wds (stp a stk b) = b :: wds stk := by
  rcases h with rfl | rfl
  · rfl
  · show wd (.node (stk.take a)) ++ wds (stk.drop a) = _
    rw [wd, List.cons_append, ← wds_append, List.take_append_drop]
theorem stp_arys {a : Nat} {stk : List Tr} {b : Int} (h : b = 0 ∨ (b = 1 ∧ a ≤ stk.length)) (hs : Arys a stk) : Arys a (stp a stk b) := by
  rcases h with rfl | ⟨rfl, h⟩
  · exact ⟨trivial, hs⟩
  · have := (arys_append (stk.take a) (stk.drop a)).mp (by rw [List.take_append_drop]; exact hs)
    exact ⟨⟨by rw [List.length_take, Nat.min_eq_left h], this.1⟩, this.2⟩
theorem stp_forks {a : Nat} {stk : List Tr} {b : Int} (h : b = 0 ∨ b = 1) : (forksTs (stp a stk b) : Int) = forksTs stk + b := by
  rcases h with rfl | rfl
  · show ((forksT .nil + forksTs stk : Nat) : Int) = _
    simp [forksT]
  · show ((forksT (.node (stk.take a)) + forksTs (stk.drop a) : Nat) : Int) = _
    have := forksTs_append (stk.take a) (stk.drop a)
    rw [List.take_append_drop] at this
    rw [forksT, this]
    omega
theorem opn_all {a : Nat} : ∀ {w : List Int} {n : Int}, Opn a n w → 1 ≤ n → okS a [] (w ++ [0]).reverse ∧ (((w ++ [0]).reverse.foldl (stp a) []).length : Int) = n ∧ wds ((w ++ [0]).reverse.foldl (stp a) []) = w ++ [0] ∧ Arys a ((w ++ [0]).reverse.foldl (stp a) []) ∧ (forksTs ((w ++ [0]).reverse.foldl (stp a) []) : Int) = w.sum
  | [], n, h, _ => by
    have h : n = 1 := h
    subst h
    exact ⟨⟨.inl rfl, trivial⟩, rfl, rfl, ⟨trivial, trivial⟩, rfl⟩
  | b :: r, n, h, hn => by
    obtain ⟨hb, h0, h1⟩ := h
    obtain ⟨i1, i2, i3, i4, i5⟩ := opn_all h1 (by omega)
    have e : (b :: r ++ [0]).reverse = (r ++ [0]).reverse ++ [b] := by rw [List.cons_append, List.reverse_cons]
    have hc : b = 0 ∨ (b = 1 ∧ a ≤ ((r ++ [0]).reverse.foldl (stp a) []).length) := by
      rcases hb with hb | hb
      · exact .inl hb
      · right
        subst hb
        refine ⟨rfl, ?_⟩
        rw [Int.mul_one] at i2
        omega
    refine ⟨?_, ?_, ?_, ?_, ?_⟩
    · rw [e]
      exact okS_append.mpr ⟨i1, hc, trivial⟩
    all_goals rw [e, List.foldl_append]
    all_goals generalize (r ++ [0]).reverse.foldl (stp a) [] = stk at i2 i3 i4 i5 hc ⊢
    · show ((stp a stk b).length : Int) = n
      rcases hc with rfl | ⟨rfl, hc⟩
      · show ((stk.length + 1 : Nat) : Int) = n
        simp at i2
        omega
      · show (((stk.drop a).length + 1 : Nat) : Int) = n
        rw [List.length_drop]
        rw [Int.mul_one] at i2
        omega
    · show wds (stp a stk b) = _
      rw [stp_wds hb, i3]
      rfl
    · exact stp_arys hc i4
    · show (forksTs (stp a stk b) : Int) = _
      rw [stp_forks hb, i5, List.sum_cons]
      omega
/-- the tree of a word -/
theorem opn_tree {a : Nat} {w : List Int} (h : Opn a 1 w) : ∃ t, okS a [] (w ++ [0]).reverse ∧ (w ++ [0]).reverse.foldl (stp a) [] = [t] ∧ wd t = w ++ [0] ∧ Ary a t ∧ (forksT t : Int) = w.sum ∧ sizeT t = w.length + 1 := by
  obtain ⟨i1, i2, i3, i4, i5⟩ := opn_all h (by omega)
  generalize hs : (w ++ [0]).reverse.foldl (stp a) [] = stk at i2 i3 i4 i5
  match stk, i2, i3, i4, i5 with
  | [t], _, i3, i4, i5 =>
    rw [wds, wds, List.append_nil] at i3
    refine ⟨t, i1, rfl, i3, i4.1, by simpa [forksTs] using i5, ?_⟩
    rw [← wd_len, i3, List.length_append, List.length_singleton]
  | [], i2, _, _, _ => simp at i2
  | _ :: _ :: _, i2, _, _, _ => simp at i2; omega
theorem opn_bits {a : Nat} : ∀ {w : List Int} {n : Int}, Opn a n w → ∀ b ∈ w, b = 0 ∨ b = 1
  | [], _, _, b, h => by cases h
  | c :: r, n, h, b, hb => by
    rcases List.mem_cons.mp hb with rfl | hb
    · exact h.1
    · exact opn_bits h.2.2 b hb
theorem pm_allL {s : S} {n : Nat} {l : List D} {bs : List Bool} (h : s[n]? = some (.lst l)) (e : l = bs.map .bl) : prim .all [.ref n] s = some (.bl (bs.all id), s) := by
  show (match s[n]? with
    | some (.lst l) => (blsD l).map fun (bs : List Bool) => (D.bl (bs.all id), s)
    | _ => none) = _
  rw [h, e]
  dsimp only
  rw [blsD_map]
  rfl
theorem areInts_ok (k : Nat) (w : List Int) (s : S) (hw : w.length ≤ 10000) : ∃ s', run (k + 2) 2 [.tup (w.map .int)] s = .ok (.bl true) s' ∧ Old s s' := by
  rw [run, callN_at (n := 2) (np := 1) (body := B2) rfl rfl, B2]
  show ∃ s', retF (execs (cf (k + 1)) _ [some (.tup (w.map .int)), none] s) = _ ∧ _
  have ec : eval (cf (k + 1)) (.comp .seq [.var 0] (.nm 1) (.con (.bl true)) (.call 0 [.var 1]) [1]) [some (.tup (w.map .int)), none] s = .ok (.ref s.length) (s ++ [.lst ((w.map D.int).map fun _ => .bl true)]) :=
    ev_compT (l := w.map .int) (by simp only [evs_cons, evs_nil, ev_var0, R.bind_ok]) (by rw [List.length_map, LIM]; omega) (by rw [List.length_map]; simp only [FUEL]; omega) fun d hd s => by
      obtain ⟨i, _, rfl⟩ := List.mem_map.mp hd
      refine ⟨_, rfl, ?_⟩
      simp only [wipeE, List.set_cons_succ, List.set_cons_zero, ev_call1, ev_var1, R.bind_ok]
      exact isInt_ok k i s
  rw [x_ret (d := .bl true) (s1 := s ++ [.lst ((w.map D.int).map fun _ => .bl true)]) (by
    rw [ev_and, ev_p1, ev_var0, R.bind_ok, pm_isiT, ofOpt_some, condR_t, ev_p1, ec, R.bind_ok, pm_allL (bs := w.map fun _ => true) (app_last ..) (by rw [List.map_map, List.map_map]; rfl), ofOpt_some]
    congr 2
    simp)]
  exact ⟨_, rfl, Old.app ..⟩
theorem inBit (b : Int) (h : b = 0 ∨ b = 1) (s : S) : prim .inn [.int b, .tup [.int 0, .int 1]] s = some (.bl true, s) := by
  rcases h with rfl | rfl <;> rfl
theorem isWord_ok (k a : Nat) (w : List Int) (s : S) (h1 : 1 ≤ a) (h2 : a ≤ 12) (hw : w.length ≤ 1800) (ho : Opn a 1 w) : ∃ s', run (k + 3) 10 [.int a, .tup (w.map .int)] s = .ok (.bl true) s' ∧ Old s s' := by
  rw [run, callN_at (n := 4) (np := 2) (body := B10) rfl rfl, B10]
  show ∃ s', retF (execs (cf (k + 2)) _ [some (.int a), some (.tup (w.map .int)), none, none] s) = _ ∧ _
  have e1 : callN TBL FUEL (k + 2) 1 [.int a, .int 1, .int 12] s = .ok (.bl true) s := within_ok k a 1 12 s (by omega) (by omega)
  rw [x_skip (s1 := s) (by simp only [ev_not, ev_call3, ev_var0, ev_con, R.bind_ok, e1, condR_t])]
  obtain ⟨s1, e2, o1⟩ := areInts_ok k w s (by omega)
  have e2 : (cf (k + 2)).call 2 [.tup (w.map .int)] s = .ok (.bl true) s1 := e2
  have ec : eval (cf (k + 2)) (.comp .seq [.var 1] (.nm 2) (.con (.bl true)) (.prim .inn [.var 2, .prim .tup [.con (.int 0), .con (.int 1)]]) [2]) [some (.int a), some (.tup (w.map .int)), none, none] s1 = .ok (.ref s1.length) (s1 ++ [.lst ((w.map D.int).map fun _ => .bl true)]) :=
    ev_compT (l := w.map .int) (by simp only [evs_cons, evs_nil, ev_var1, R.bind_ok]) (by rw [List.length_map, LIM]; omega) (by rw [List.length_map]; simp only [FUEL]; omega) fun d hd s => by
      obtain ⟨i, hi, rfl⟩ := List.mem_map.mp hd
      refine ⟨_, rfl, ?_⟩
      simp only [wipeE, List.set_cons_succ, List.set_cons_zero, ev_p2, ev_var2, ev_con, R.bind_ok, pm_tup2, ofOpt_some, inBit i (opn_bits ho i hi)]
  have f1 : decide ((1800 : Int) < (w.length : Int)) = false := decide_eq_false (by omega)
  rw [x_skip (s1 := s1 ++ [.lst ((w.map D.int).map fun _ => .bl true)]) (by
    rw [ev_or, ev_not, ev_call1, ev_var1, R.bind_ok, e2, condR_t, condR_f, ev_or, ev_p2, ev_p1, ev_var1, R.bind_ok, pm_lenT, ofOpt_some, R.bind_ok, ev_p2, ev_con, R.bind_ok, ev_con, R.bind_ok]
    rw [show ofOpt (prim .mul [D.int 150, .int 12] s1) = .ok (.int 1800) s1 from rfl, R.bind_ok, pm_gt, List.length_map, ofOpt_some, f1, condR_f, ev_not, ev_p1, ec, R.bind_ok, pm_allL (bs := w.map fun _ => true) (app_last ..) (by rw [List.map_map, List.map_map]; rfl), ofOpt_some]
    rw [show (w.map fun _ => true).all id = true by simp]
    rfl)]
  generalize hS : s1 ++ [O.lst ((w.map D.int).map fun _ => .bl true)] = S1
  have o2 : Old s S1 := by rw [← hS]; exact o1.trans (Old.app ..)
  rw [x_asg (d := .int 1) (s1 := S1) (ev_con ..)]
  simp only [List.set_cons_succ, List.set_cons_zero]
  -- the count of open places
  obtain ⟨env2, s2, e, p1, n, y, p2, p3⟩ := run_seq (c := cf (k + 2)) (es := [.var 1]) (t := .nm 2) (l := w.map .int) (b := [.asg (.nm 3) (.prim .add [.prim .sub [.var 3, .con (.int 1)], .prim .mul [.var 0, .var 2]]), .ite (.prim .le [.var 3, .con (.int 0)]) [.ret (.con (.bl false))] []])
    (env := [some (.int a), some (.tup (w.map .int)), none, some (.int 1)]) (s := S1) (s1 := S1)
    (fun i env s2 => s2 = S1 ∧ ∃ n y, env = [some (.int a), some (.tup (w.map .int)), y, some (.int n)] ∧ Opn a n (w.drop i)) (by simp only [evs_cons, evs_nil, ev_var1, R.bind_ok]) (by rw [List.length_map]; simp only [FUEL]; omega) ⟨rfl, 1, none, rfl, ho⟩
    (fun i d env s2 hd ⟨es, n, y, ee, hn⟩ => by
      subst es
      subst ee
      rw [List.getElem?_map] at hd
      obtain ⟨b, hb, rfl⟩ := Option.map_eq_some_iff.mp hd
      have hi : i < w.length := (List.getElem?_eq_some_iff.mp hb).1
      rw [List.drop_eq_getElem_cons hi] at hn
      have eb : w[i] = b := by
        have := List.getElem?_eq_getElem hi
        rw [hb] at this
        exact (Option.some.inj this).symm
      rw [eb] at hn
      obtain ⟨q1, q2, q3⟩ := hn
      refine ⟨_, rfl, [some (.int a), some (.tup (w.map .int)), some (.int b), some (.int (n - 1 + a * b))], s2, ?_, rfl, _, _, rfl, q3⟩
      simp only [List.set_cons_succ, List.set_cons_zero]
      rw [x_asg (d := .int (n - 1 + a * b)) (s1 := s2) (by
        simp only [ev_p2, ev_var0, ev_var2, ev_var3, ev_con, R.bind_ok, pm_sub, ofOpt_some]
        rw [pm_mul (.inl (by omega))]
        rfl)]
      simp only [List.set_cons_succ, List.set_cons_zero]
      rw [x_skip (s1 := s2) (by
        simp only [ev_p2, ev_var3, ev_con, R.bind_ok, pm_le, ofOpt_some]
        rw [decide_eq_false (by omega)]), xs_nil])
  subst p1
  rw [List.length_map, List.drop_length] at p3
  have p3 : n = 1 := p3
  subst p3
  subst p2
  rw [xs_nx e, x_ret (d := .bl true) (s1 := s2) (by simp only [ev_p2, ev_var3, ev_con, R.bind_ok, pm_eqI, ofOpt_some]; rfl)]
  exact ⟨s2, rfl, o2⟩
end K52
set_option Elab.async false
set_option linter.all false
set_option maxRecDepth 100000
set_option maxHeartbeats 1000000
namespace K52
open Mini
theorem run_fix {c : Cfg} {kd : IK} {es : List E} {t : T} {l : List D} {b : List Mini.St} {env : Ev} {s s1 : S} {ds : List D} (Inv : Nat → Ev → S → Prop) (he : evals c es env s = .ok ds s1) (hm : mkIt kd ds s1 = some (.fix l)) (hf : l.length < c.fuel) (h0 : Inv 0 env s1)
    (step : ∀ i d env s, l[i]? = some d → Inv i env s → ∃ env1, bindT t d env = some env1 ∧ ∃ env2 s2, execs c b env1 s = .nx env2 s2 ∧ Inv (i + 1) env2 s2) :
    ∃ env2 s2, exec c (.forr kd es t b) env s = .nx env2 s2 ∧ Inv l.length env2 s2 := by
  obtain ⟨env2, s2, e, h⟩ := for_fix (t := t) (l := l) (b := fun env s => execs c b env s) Inv (fun i d env s hd h => by
    obtain ⟨env1, e1, env2, s2, e, h2⟩ := step i d env s hd h
    exact ⟨env1, e1, env2, s2, .inl e, h2⟩) c.fuel 0 env s1 (Nat.zero_le _) (by omega) h0
  refine ⟨env2, s2, ?_, h⟩
  rw [exec, he, R.bind_ok, itR, hm]
  exact e
theorem toWord_ok (k a : Nat) (w : List Int) (s : S) (t : Tr) (h1 : 1 ≤ a) (h2 : a ≤ 12) (hw : w.length ≤ 1800) (ho : Opn a 1 w) (ht : (w ++ [0]).reverse.foldl (stp a) [] = [t]) (hA : Ary a t) (hF : forksT t ≤ 30) (hz : sizeT t ≤ 100000) : ∃ s', run (k + 4) 11 [.int a, .tup (w.map .int)] s = .ok (enc t) s' ∧ Old s s' := by
  rw [run, callN_at (n := 7) (np := 2) (body := B11) rfl rfl, B11]
  show ∃ s', retF (execs (cf (k + 3)) _ [some (.int a), some (.tup (w.map .int)), none, none, none, none, none] s) = _ ∧ _
  obtain ⟨s1, e1, o1⟩ := isWord_ok k a w s h1 h2 hw ho
  have e1 : (cf (k + 3)).call 10 [.int a, .tup (w.map .int)] s = .ok (.bl true) s1 := e1
  have hok := (opn_tree ho).choose_spec.1
  rw [x_skip (s1 := s1) (by rw [ev_not, ev_call2, ev_var0, R.bind_ok, ev_var1, R.bind_ok, e1, condR_t])]
  rw [x_asg (d := .ref s1.length) (s1 := s1 ++ [.lst []]) (by rw [ev_p0, pm_lst0, ofOpt_some])]
  simp only [List.set_cons_succ, List.set_cons_zero]
  have hL : ((w ++ [0]).reverse.map D.int) = ((w.map D.int) ++ [D.int 0]).reverse := by rw [List.map_reverse, List.map_append]; rfl
  have hl : ((w ++ [0]).reverse.map D.int).length = w.length + 1 := by simp
  obtain ⟨env2, s2, e, x, y, z, p1, p2, p3⟩ := run_fix (c := cf (k + 3)) (kd := .rev) (es := [.prim .add [.var 1, .prim .tup [.con (.int 0)]]]) (t := .nm 3) (l := (w ++ [0]).reverse.map .int) (b := [.ite (.prim .eq [.var 3, .con (.int 0)]) [.ex (.prim .app [.prim .lstI [.var 2], .con .non])] [.asg (.nm 4) (.prim .tuple1 [.comp .rng1 [.var 0] (.nm 6) (.con (.bl true)) (.prim .pop [.var 2]) [6]]),
    .ex (.prim .app [.prim .lstI [.var 2], .var 4])]])
    (env := [some (.int a), some (.tup (w.map .int)), some (.ref s1.length), none, none, none, none]) (s := s1 ++ [.lst []]) (s1 := s1 ++ [.lst []]) (ds := [.tup ((w.map D.int) ++ [D.int 0])])
    (fun i env s2 => ∃ x y z, env = [some (.int a), some (.tup (w.map .int)), some (.ref s1.length), x, y, none, z] ∧ Old s1 s2 ∧ s2[s1.length]? = some (.lst (encs (((w ++ [0]).reverse.take i).foldl (stp a) []).reverse)))
    (by
      simp only [evs_cons, evs_nil, ev_p1, ev_p2, ev_var1, ev_con, R.bind_ok, pm_tup1, ofOpt_some]
      rw [pm_addT (by rw [List.length_map, List.length_singleton, LIM]; omega), ofOpt_some, R.bind_ok]) (by rw [hL]; rfl) (by simp only [FUEL]; omega) ⟨none, none, none, rfl, Old.app .., app_last ..⟩
    (fun i d env s2 hd ⟨x, y, z, ee, ho, hs⟩ => by
      subst ee
      rw [List.getElem?_map] at hd
      obtain ⟨b, hb, rfl⟩ := Option.map_eq_some_iff.mp hd
      have hi : i < (w ++ [0]).reverse.length := (List.getElem?_eq_some_iff.mp hb).1
      have hi2 : i < w.length + 1 := by simpa using hi
      have htk : (w ++ [0]).reverse.take (i + 1) = (w ++ [0]).reverse.take i ++ [b] := by rw [List.take_add_one, hb]; rfl
      have hfold : ((w ++ [0]).reverse.take (i + 1)).foldl (stp a) [] = stp a (((w ++ [0]).reverse.take i).foldl (stp a) []) b := by rw [htk, List.foldl_append]; rfl
      have hcond : b = 0 ∨ (b = 1 ∧ a ≤ (((w ++ [0]).reverse.take i).foldl (stp a) []).length) := by
        have q1 : okS a [] ((w ++ [0]).reverse.take i ++ (w ++ [0]).reverse.drop i) := by rw [List.take_append_drop]; exact hok
        have q2 := (okS_append.mp q1).2
        rw [List.drop_eq_getElem_cons hi] at q2
        have q3 := q2.1
        have eb : (w ++ [0]).reverse[i] = b := by
          have := List.getElem?_eq_getElem hi
          rw [hb] at this
          exact (Option.some.inj this).symm
        rw [eb] at q3
        exact q3
      generalize hstk : ((w ++ [0]).reverse.take i).foldl (stp a) [] = stk at hs hfold hcond
      have hsz : stk.length ≤ w.length + 1 := by
        have q1 := fold_size (a := a) (r := (w ++ [0]).reverse.take i) (stk := [])
        rw [hstk, List.length_take] at q1
        have q2 := sizeTs_len stk
        simp [sizeTs] at q1
        omega
      refine ⟨[some (.int a), some (.tup (w.map .int)), some (.ref s1.length), some (.int b), y, none, z], rfl, ?_⟩
      have hlt : s1.length < s2.length := (List.getElem?_eq_some_iff.mp hs).1
      have hel : ∀ l : List Tr, (encs l.reverse).length = l.length := fun l => by rw [encs_len, List.length_reverse]
      rcases hcond with hb0 | ⟨hb1, hal⟩
      · subst hb0
        refine ⟨[some (.int a), some (.tup (w.map .int)), some (.ref s1.length), some (.int 0), y, none, z], s2.set s1.length (.lst (encs (stp a stk 0).reverse)), ?_, _, _, _, rfl, ho.set (Nat.le_refl _), by rw [hfold]; exact List.getElem?_set_self hlt⟩
        rw [x_ifnx (s1 := s2) (by simp only [ev_p2, ev_var3, ev_con, R.bind_ok, pm_eqI, ofOpt_some]; rfl) (by
          rw [x_ex (d := .non) (by
            rw [ev_p2, ev_p1, ev_var2, R.bind_ok, pm_lstI hs, ofOpt_some, R.bind_ok, ev_con, R.bind_ok, pm_app hs (by rw [hel, LIM]; omega), ofOpt_some]), xs_nil]), xs_nil]
        rw [show stp a stk 0 = .nil :: stk from rfl, List.reverse_cons, encs_append]
        rfl
      · subst hb1
        -- a parts are taken off the stack
        obtain ⟨acc, s3, ec, hacc, q1, q2, q3⟩ : ∃ (acc : List D) (s3 : S), compL s2.length (.fix ((List.range a).map fun (k : Nat) => D.int (k : Int))) (fun d s3 => match bindT (.nm 6) d (wipeE [some (.int a), some (.tup (w.map .int)), some (.ref s1.length), some (.int 1), y, none, z] [6]) with
            | none => .bad
            | some env1 => condR (eval (cf (k + 3)) (.con (.bl true)) env1 s3) (fun s4 => (eval (cf (k + 3)) (.prim .pop [.var 2]) env1 s4).bind fun y s5 => .ok (some y) s5) (fun s4 => .ok none s4)) (cf (k + 3)).fuel 0 (s2 ++ [.lst []]) = .ok () s3 ∧ acc = encs (stk.take a) ∧ Old s1 s3 ∧ s3[s1.length]? = some (.lst (encs (stk.drop a).reverse)) ∧ s3[s2.length]? = some (.lst acc) := by
          obtain ⟨acc, s3, e, i1, i2, i3, i4⟩ := comp_fix (l := (List.range a).map fun (k : Nat) => D.int (k : Int)) (n := s2.length) (step := fun d s3 => match bindT (.nm 6) d (wipeE [some (.int a), some (.tup (w.map .int)), some (.ref s1.length), some (.int 1), y, none, z] [6]) with
            | none => .bad
            | some env1 => condR (eval (cf (k + 3)) (.con (.bl true)) env1 s3) (fun s4 => (eval (cf (k + 3)) (.prim .pop [.var 2]) env1 s4).bind fun y s5 => .ok (some y) s5) (fun s4 => .ok none s4))
            (fun i acc s3 => acc = encs (stk.take i) ∧ Old s1 s3 ∧ s3[s1.length]? = some (.lst (encs (stk.drop i).reverse)) ∧ s3[s2.length]? = some (.lst acc)) (fun i d acc s3 hd ⟨j1, j2, j3, j4⟩ => by
              obtain ⟨hia, rfl⟩ := rng_at.2 d hd
              have hik : i < stk.length := by omega
              have hdr : stk.drop i = stk[i] :: stk.drop (i + 1) := List.drop_eq_getElem_cons hik
              have hpop : s3[s1.length]? = some (.lst (encs (stk.drop (i + 1)).reverse ++ [enc stk[i]])) := by
                rw [j3, hdr, List.reverse_cons, encs_append]
                rfl
              have hltm : s2.length < s3.length := (List.getElem?_eq_some_iff.mp j4).1
              have hlt1 : s1.length < s3.length := (List.getElem?_eq_some_iff.mp j3).1
              have hacl : acc.length ≤ i := by rw [j1, encs_len, List.length_take]; omega
              refine ⟨by rw [LIM]; omega, some (enc stk[i]), s3.set s1.length (.lst (encs (stk.drop (i + 1)).reverse)), ?_, ?_, ?_⟩
              · show condR (eval (cf (k + 3)) (.con (.bl true)) [some (.int a), some (.tup (w.map .int)), some (.ref s1.length), some (.int 1), y, none, some (.int i)] s3) _ _ = _
                rw [ev_con, condR_t, ev_p1, ev_var (i := 2) (d := .ref s1.length) rfl, R.bind_ok, pm_pop hpop, ofOpt_some, R.bind_ok]
              · rw [List.getElem?_set_ne (by omega)]
                exact j4
              · have hne : s1.length ≠ s2.length := by omega
                refine ⟨?_, (j2.set (Nat.le_refl _)).set (by omega), ?_, ?_⟩
                · rw [List.take_add_one, List.getElem?_eq_getElem hik, encs_append, j1]
                  rfl
                · rw [List.getElem?_set_ne (Ne.symm hne)]
                  exact List.getElem?_set_self hlt1
                · exact List.getElem?_set_self (by rw [List.length_set]; exact hltm)) (cf (k + 3)).fuel 0 [] (s2 ++ [.lst []]) (Nat.zero_le _) (by rw [List.length_map, List.length_range]; simp only [FUEL]; omega) ⟨rfl, ho.trans (Old.app ..), by rw [List.getElem?_append_left hlt, List.drop_zero]; exact hs, app_last ..⟩
          rw [List.length_map, List.length_range] at i1 i3
          exact ⟨acc, s3, e, i1, i2, i3, i4⟩
        have hlt3 : s1.length < s3.length := (List.getElem?_eq_some_iff.mp q2).1
        refine ⟨[some (.int a), some (.tup (w.map .int)), some (.ref s1.length), some (.int 1), some (.tup acc), none, z], s3.set s1.length (.lst (encs (stp a stk 1).reverse)), ?_, _, _, _, rfl, q1.set (Nat.le_refl _), by rw [hfold]; exact List.getElem?_set_self hlt3⟩
        have hm : mkIt .rng1 [.int a] s2 = some (.fix ((List.range a).map fun (k : Nat) => D.int (k : Int))) := by
          show (if _ then _ else _) = _
          rw [if_pos (by omega)]
          rfl
        have eco : eval (cf (k + 3)) (.comp .rng1 [.var 0] (.nm 6) (.con (.bl true)) (.prim .pop [.var 2]) [6]) [some (.int a), some (.tup (w.map .int)), some (.ref s1.length), some (.int 1), y, none, z] s2 = .ok (.ref s2.length) s3 := by
          rw [eval]
          simp only [evs_cons, evs_nil, ev_var0, R.bind_ok]
          rw [itR, hm]
          dsimp only
          rw [R.bind_ok]
          exact (congrArg (fun r => R.bind r fun _ s4 => R.ok (D.ref s2.length) s4) ec).trans rfl
        rw [xs_nx (env1 := [some (.int a), some (.tup (w.map .int)), some (.ref s1.length), some (.int 1), some (.tup acc), none, z]) (s1 := s3.set s1.length (.lst (encs (stp a stk 1).reverse))) (by
          rw [x_else (s1 := s2) (by simp only [ev_p2, ev_var3, ev_con, R.bind_ok, pm_eqI, ofOpt_some]; rfl)]
          rw [x_asg (d := .tup acc) (s1 := s3) (by rw [ev_p1, eco, R.bind_ok, pm_tuple1L q3, ofOpt_some])]
          simp only [List.set_cons_succ, List.set_cons_zero]
          rw [x_ex (d := .non) (by
            rw [ev_p2, ev_p1, ev_var2, R.bind_ok, pm_lstI q2, ofOpt_some, R.bind_ok, ev_var4, R.bind_ok, pm_app q2 (by rw [hel, List.length_drop, LIM]; omega), ofOpt_some]), xs_nil]
          rw [show stp a stk 1 = .node (stk.take a) :: stk.drop a from rfl, List.reverse_cons, encs_append, hacc]
          rfl), xs_nil])
  rw [List.length_map, List.take_length, ht] at p3
  subst p1
  have hlt : s1.length < s2.length := (List.getElem?_eq_some_iff.mp p3).1
  obtain ⟨s3, e3, o3⟩ := many_ok k a t s2 h1 h2 hA hF hz
  have e3 : (cf (k + 3)).call 4 [.int a, enc t] s2 = .ok (.bl true) s3 := e3
  rw [xs_nx e, x_asg (d := enc t) (s1 := s2) (by
    rw [ev_p2, ev_var2, R.bind_ok, ev_p1, ev_con, R.bind_ok, pm_neg, ofOpt_some, R.bind_ok, pm_ixL p3 (d := enc t) rfl, ofOpt_some])]
  simp only [List.set_cons_succ, List.set_cons_zero]
  rw [x_skip (s1 := s3) (by rw [ev_not, ev_call2, ev_var0, R.bind_ok, ev_var5, R.bind_ok, e3, condR_t]), x_ret (d := enc t) (s1 := s3) (ev_var5 ..)]
  exact ⟨s3, rfl, (o1.trans p2).trans o3⟩
end K52
set_option Elab.async false
set_option linter.all false
set_option maxRecDepth 100000
set_option maxHeartbeats 1000000
namespace K52
open Mini
def OpnTo (a : Nat) : Int → List Int → Int → Prop
  | n, [], m => n = m
  | n, b :: r, m => (b = 0 ∨ b = 1) ∧ 0 < n - 1 + a * b ∧ OpnTo a (n - 1 + a * b) r m
theorem opnTo_one {a : Nat} : ∀ {w : List Int} {n : Int}, OpnTo a n w 1 → Opn a n w
  | [], n, h => h
  | b :: r, n, h => ⟨h.1, h.2.1, opnTo_one h.2.2⟩
theorem opnTo_snoc {a : Nat} {b : Int} (hb : b = 0 ∨ b = 1) : ∀ {w : List Int} {n m : Int}, OpnTo a n w m → 0 < m - 1 + a * b → OpnTo a n (w ++ [b]) (m - 1 + a * b)
  | [], n, m, h, h0 => by
    have h : n = m := h
    subst h
    exact ⟨hb, h0, rfl⟩
  | c :: r, n, m, h, h0 => ⟨h.1, h.2.1, opnTo_snoc hb h.2.2 h0⟩
theorem Drawn.refl {s : S} {h : Nat} (H : HandOk s h) : Drawn s s h := ⟨rfl, fun _ _ => rfl, H⟩
theorem Drawn.trans {a b c : S} {h : Nat} (x : Drawn a b h) (y : Drawn b c h) : Drawn a c h := ⟨y.len.trans x.len, fun n hn => (y.oth n hn).trans (x.oth n hn), y.ok⟩
theorem pm_int1B (k : Bool) (s : S) : prim .int1 [.bl k] s = some (.int (if k then 1 else 0), s) := rfl
theorem drawn_ok (k a m : Nat) (s : S) (h : Nat) (H : HandOk s h) (h1 : 1 ≤ a) (h2 : a ≤ 12) (h3 : m ≤ 100) : ∃ w s', run (k + 2) 25 [.ref h, .int a, .int m] s = .ok (.tup (w.map .int)) s' ∧ Drawn s s' h ∧ w.length = a * m ∧ Opn a 1 w ∧ w.sum = m := by
  rw [run, callN_at (n := 7) (np := 3) (body := B25) rfl rfl, B25]
  show ∃ w s', retF (execs (cf (k + 1)) _ [some (.ref h), some (.int a), some (.int m), none, none, none, none] s) = _ ∧ _
  have hb : a * m ≤ 1200 := Nat.mul_le_mul h2 h3
  have hc : ((a : Int) * m) = ((a * m : Nat) : Int) := by rw [Int.natCast_mul]
  rw [x_tp (l := [.tup [], .int 0, .int 0]) (s1 := s) (env1 := [some (.ref h), some (.int a), some (.int m), some (.tup []), some (.int 0), some (.int 0), none]) (s2 := s) (by simp) rfl]
  obtain ⟨env2, s2, e, w, p1, p2, p3, p4, p5⟩ := run_whl (c := cf (k + 1)) (q := .prim .lt [.prim .len [.var 3], .prim .mul [.var 1, .var 2]]) (b := [.asg (.nm 6) (.and (.prim .lt [.var 5, .var 2]) (.or (.prim .eq [.var 4, .con (.int 0)]) (.prim .eq [.call 21 [.var 0, .con (.int 2)], .con (.int 0)]))),
      .par [3, 4] [.prim .add [.var 3, .prim .tup [.prim .int1 [.var 6]]], .prim .add [.var 4, .ife (.var 6) (.prim .sub [.var 1, .con (.int 1)]) (.prim .neg [.con (.int 1)])]],
      .asg (.nm 5) (.prim .add [.var 5, .prim .int1 [.var 6]])])
    (env := [some (.ref h), some (.int a), some (.int m), some (.tup []), some (.int 0), some (.int 0), none]) (s := s) (n := a * m)
    (fun n env s1 => Drawn s s1 h ∧ ∃ (w : List Int) (high ups : Int) (x : Option D), env = [some (.ref h), some (.int a), some (.int m), some (.tup (w.map .int)), some (.int high), some (.int ups), x] ∧ w.length + n = a * m ∧ 0 ≤ high ∧ 0 ≤ ups ∧ ups ≤ m ∧ high = a * ups - w.length ∧ OpnTo a 1 w (1 + high) ∧ w.sum = ups)
    (fun env s1 => ∃ w : List Int, Drawn s s1 h ∧ env[3]? = some (some (.tup (w.map .int))) ∧ w.length = a * m ∧ Opn a 1 w ∧ w.sum = m) (by simp only [FUEL]; omega)
    ⟨Drawn.refl H, [], 0, 0, none, rfl, by simp, by omega, by omega, by omega, by simp, rfl, rfl⟩ (fun n env s1 ⟨hD, w, high, ups, x, ee, hn, q1, q2, q3, q4, q5, q6⟩ => by
      subst ee
      have ql : eval (cf (k + 1)) (.prim .lt [.prim .len [.var 3], .prim .mul [.var 1, .var 2]]) [some (.ref h), some (.int a), some (.int m), some (.tup (w.map .int)), some (.int high), some (.int ups), x] s1 = .ok (.bl (decide ((w.length : Int) < ((a * m : Nat) : Int)))) s1 := by
        rw [ev_p2, ev_p1, ev_var3, R.bind_ok, pm_lenT, ofOpt_some, R.bind_ok, ev_p2, ev_var1, R.bind_ok, ev_var2, R.bind_ok, pm_mul (.inl (by omega)), ofOpt_some, R.bind_ok, pm_lt, ofOpt_some, List.length_map, hc]
      cases n with
      | zero =>
        left
        have hups : ups = m := by
          have : (a : Int) * ups ≥ a * m := by omega
          have h0 : (0 : Int) < a := by omega
          have := Int.le_of_mul_le_mul_left this h0
          omega
        subst hups
        have hh0 : high = 0 := by omega
        subst hh0
        exact ⟨s1, by rw [ql, decide_eq_false (by omega)], w, hD, rfl, by omega, opnTo_one q5, q6⟩
      | succ n =>
        right
        refine ⟨s1, by rw [ql, decide_eq_true (by omega)], n, ?_⟩
        -- up or down
        obtain ⟨up, s2, eu, hD2, hu1, hu2⟩ : ∃ (up : Bool) (s2 : S), eval (cf (k + 1)) (.and (.prim .lt [.var 5, .var 2]) (.or (.prim .eq [.var 4, .con (.int 0)]) (.prim .eq [.call 21 [.var 0, .con (.int 2)], .con (.int 0)]))) [some (.ref h), some (.int a), some (.int m), some (.tup (w.map .int)), some (.int high), some (.int ups), x] s1 = .ok (.bl up) s2 ∧ Drawn s s2 h ∧ (up = true → ups < m) ∧ (up = false → ups = m ∨ high ≠ 0) := by
          by_cases z1 : ups < m
          · by_cases z2 : high = 0
            · exact ⟨true, s1, by rw [ev_and, ev_p2, ev_var5, R.bind_ok, ev_var2, R.bind_ok, pm_lt, ofOpt_some, decide_eq_true z1, condR_t, ev_or, ev_p2, ev_var4, R.bind_ok, ev_con, R.bind_ok, pm_eqI, ofOpt_some, decide_eq_true z2, condR_t], hD, fun _ => z1, fun z => by cases z⟩
            · obtain ⟨d, s2, e1, _, _, hD2⟩ := draw_ok k (many := 2) hD.ok (by omega) (by omega)
              have e1 : (cf (k + 1)).call 21 [.ref h, .int 2] s1 = .ok (.int d) s2 := e1
              exact ⟨decide (d = 0), s2, by rw [ev_and, ev_p2, ev_var5, R.bind_ok, ev_var2, R.bind_ok, pm_lt, ofOpt_some, decide_eq_true z1, condR_t, ev_or, ev_p2, ev_var4, R.bind_ok, ev_con, R.bind_ok, pm_eqI, ofOpt_some, decide_eq_false z2, condR_f, ev_p2, ev_call2, ev_var0, R.bind_ok, ev_con, R.bind_ok, e1, R.bind_ok, ev_con, R.bind_ok, pm_eqI, ofOpt_some], hD.trans hD2, fun _ => z1, fun _ => .inr z2⟩
          · exact ⟨false, s1, by rw [ev_and, ev_p2, ev_var5, R.bind_ok, ev_var2, R.bind_ok, pm_lt, ofOpt_some, decide_eq_false z1, condR_f], hD, fun z => by (cases z), fun _ => .inl (by omega)⟩
        obtain ⟨b, hbv⟩ : ∃ b : Int, b = if up then 1 else 0 := ⟨_, rfl⟩
        have hb01 : b = 0 ∨ b = 1 := by rw [hbv]; cases up <;> simp
        have hab : (a : Int) * b = if up then (a : Int) else 0 := by rw [hbv]; cases up <;> simp
        have hup : ups + b ≤ m := by
          cases up with
          | true => have := hu1 rfl; simp at hbv; omega
          | false => simp at hbv; omega
        have hhi : 0 ≤ high - 1 + a * b := by
          cases up with
          | true => simp at hab; omega
          | false =>
            simp at hab
            rcases hu2 rfl with z | z
            · subst z
              omega
            · omega
        refine ⟨[some (.ref h), some (.int a), some (.int m), some (.tup ((w ++ [b]).map .int)), some (.int (high - 1 + a * b)), some (.int (ups + b)), some (.bl up)], s2, rfl, ?_, hD2, w ++ [b], high - 1 + a * b, ups + b, _, rfl, by rw [List.length_append, List.length_singleton]; omega, hhi, by omega, hup, ?_, ?_, by simp [q6]⟩
        · rw [x_asg (d := .bl up) (s1 := s2) eu]
          simp only [List.set_cons_succ, List.set_cons_zero]
          rw [x_par (ds := [.tup ((w ++ [b]).map .int), .int (high - 1 + a * b)]) (s1 := s2) (by
            simp only [evs_cons, evs_nil, ev_p2, ev_p1, ev_var3, ev_var6, ev_var4, ev_var1, ev_con, ev_ife, R.bind_ok, pm_int1B, ofOpt_some, pm_tup1, pm_sub, pm_neg, condR_b]
            rw [pm_addT (by rw [List.length_map, List.length_singleton, LIM]; omega), ofOpt_some, R.bind_ok]
            cases up with
            | true =>
              simp at hab hbv
              subst hbv
              simp
              omega
            | false =>
              simp at hab hbv
              subst hbv
              simp
              omega) rfl]
          simp only [List.set_cons_succ, List.set_cons_zero]
          rw [x_asg (d := .int (ups + b)) (s1 := s2) (by
            simp only [ev_p2, ev_p1, ev_var5, ev_var6, R.bind_ok, pm_int1B, ofOpt_some, pm_add, hbv]), xs_nil]
          rfl
        · rw [List.length_append, List.length_singleton, Int.mul_add]
          omega
        · have := opnTo_snoc hb01 q5 (by omega)
          rw [show 1 + high - 1 + (a : Int) * b = 1 + (high - 1 + a * b) by omega] at this
          exact this)
  refine ⟨w, s2, ?_, p1, p3, p4, p5⟩
  rw [xs_nx e, x_ret (d := .tup (w.map .int)) (s1 := s2) (ev_var p2)]
  rfl
end K52
set_option Elab.async false
set_option linter.all false
set_option maxRecDepth 100000
set_option maxHeartbeats 1000000
namespace K52
open Mini
def kids : Tr → List Tr
  | .nil => []
  | .node l => l
def dg : Tr → Int
  | .nil => 0
  | .node _ => 1
/-- places in the order of levels, from those that wait -/
def bq : Nat → List Tr → List Tr
  | 0, _ => []
  | _ + 1, [] => []
  | n + 1, t :: r => t :: bq n (r ++ kids t)
def dgs (l : List Tr) : List D := l.map fun t => .int (dg t)
theorem sizeT_kids (t : Tr) : sizeT t = 1 + sizeTs (kids t) := by cases t <;> simp [sizeT, kids, sizeTs]
theorem bq_cons {t : Tr} {r : List Tr} : bq (sizeTs (t :: r)) (t :: r) = t :: bq (sizeTs (r ++ kids t)) (r ++ kids t) := by
  rw [sizeTs, sizeTs_append, sizeT_kids, show 1 + sizeTs (kids t) + sizeTs r = (sizeTs r + sizeTs (kids t)) + 1 by omega, bq]
theorem bq_nil {n : Nat} : bq n [] = [] := by cases n <;> rfl
theorem atI_nat {l : List D} {i : Nat} {d : D} (h : l[i]? = some d) : L2.atI l (i : Nat) = some d := by
  have hq := (List.getElem?_eq_some_iff.mp h).1
  unfold L2.atI L2.ixN
  rw [if_pos (by omega), if_pos (by omega)]
  show l[((i : Nat) : Int).toNat]? = _
  rw [Int.toNat_natCast, h]
theorem pm_ixN {s : S} {n i : Nat} {l : List D} {d : D} (h : s[n]? = some (.lst l)) (e : l[i]? = some d) : prim .ix [.ref n, .int (i : Nat)] s = some (d, s) := pm_ixL h (atI_nat e)
theorem levelWord_ok (k a : Nat) (t : Tr) (s : S) (h1 : 1 ≤ a) (h2 : a ≤ 12) (hA : Ary a t) (hF : forksT t ≤ 30) (hz : sizeT t ≤ 100000) : ∃ s', run (k + 5) 15 [.int a, enc t] s = .ok (.tup (dgs (bq (sizeT t) [t]))) s' ∧ Old s s' := by
  obtain ⟨s1, e1, o1⟩ := check_ok k a t s h1 h2 hA hF hz
  rw [run, callN_at (n := 6) (np := 2) (body := B15) rfl rfl, B15]
  show ∃ s', retF (execs (cf (k + 4)) _ [some (.int a), some (enc t), none, none, none, none] s) = _ ∧ _
  have e1 : callN TBL FUEL (k + 4) 5 [.int a, enc t] s = .ok .non s1 := e1
  rw [x_ex (d := .non) (s1 := s1) (by simp only [ev_call2, ev_var0, ev_var1, R.bind_ok, e1])]
  obtain ⟨f, hf⟩ : ∃ f, f = s1.length := ⟨_, rfl⟩
  rw [x_par (ds := [.ref f, .ref (f + 1), .int 0]) (s1 := (s1 ++ [.lst []]) ++ [.lst [enc t]]) (env1 := [some (.int a), some (enc t), some (.ref f), some (.ref (f + 1)), some (.int 0), none]) (by
    simp only [evs_cons, evs_nil, ev_p0, ev_p1, ev_var1, ev_con, R.bind_ok, pm_lst0, pm_lst1, ofOpt_some]
    rw [hf, List.length_append, List.length_singleton]) rfl]
  obtain ⟨env2, s2, e, p1, p2, p3⟩ := run_whl (c := cf (k + 4)) (q := .prim .lt [.var 4, .prim .len [.var 3]]) (b := [.asg (.nm 5) (.prim .ix [.var 3, .var 4]),
    .asg (.nm 4) (.prim .add [.var 4, .con (.int 1)]),
    .ex (.prim .app [.prim .lstI [.var 2], .ife (.prim .isN [.var 5]) (.con (.int 0)) (.con (.int 1))]),
    .ite (.prim .ntN [.var 5]) [.ex (.prim .ext [.prim .lstI [.var 3], .prim .list1 [.var 5]])] []])
    (env := [some (.int a), some (enc t), some (.ref f), some (.ref (f + 1)), some (.int 0), none]) (s := (s1 ++ [.lst []]) ++ [.lst [enc t]]) (n := sizeT t)
    (fun n env s2 => Old s1 s2 ∧ ∃ (dn q : List Tr) (x : Option D), env = [some (.int a), some (enc t), some (.ref f), some (.ref (f + 1)), some (.int dn.length), x] ∧ s2[f]? = some (.lst (dgs dn)) ∧ s2[f + 1]? = some (.lst (encs (dn ++ q))) ∧ sizeTs q = n ∧ dn.length + n = sizeT t ∧ dn ++ bq (sizeTs q) q = bq (sizeT t) [t])
    (fun env s2 => Old s1 s2 ∧ env[2]? = some (some (.ref f)) ∧ s2[f]? = some (.lst (dgs (bq (sizeT t) [t])))) (by simp only [FUEL]; omega)
    ⟨(Old.app ..).trans (Old.app ..), [], [t], none, rfl, by
      rw [List.getElem?_append_left (by simp; omega), hf, app_last]; rfl, by
      rw [show f + 1 = (s1 ++ [O.lst []]).length by simp [hf], app_last]; rfl, by simp [sizeTs], by simp [sizeTs], by simp [sizeTs]⟩ (fun n env s2 ⟨ho, dn, q, x, ee, hs1, hs2, hn, hn2, hq⟩ => by
      subst ee
      have hb : f + 1 < s2.length := (List.getElem?_eq_some_iff.mp hs2).1
      have hdl : (dgs dn).length = dn.length := by rw [dgs, List.length_map]
      cases q with
      | nil =>
        left
        refine ⟨s2, ?_, ho, rfl, ?_⟩
        · rw [ev_p2, ev_var4, R.bind_ok, ev_p1, ev_var3, R.bind_ok, pm_lenL hs2, ofOpt_some, R.bind_ok, pm_lt, ofOpt_some, encs_len, List.append_nil, decide_eq_false (by omega)]
        · rw [bq_nil, List.append_nil] at hq
          rw [hs1, hq]
      | cons t1 r =>
        right
        rw [bq_cons] at hq
        have hsz : sizeTs (t1 :: r) = 1 + sizeTs (r ++ kids t1) := by rw [sizeTs, sizeTs_append, sizeT_kids]; omega
        have hrl := sizeTs_len (r ++ kids t1)
        rw [List.length_append] at hrl
        refine ⟨s2, by rw [ev_p2, ev_var4, R.bind_ok, ev_p1, ev_var3, R.bind_ok, pm_lenL hs2, ofOpt_some, R.bind_ok, pm_lt, ofOpt_some, encs_len, List.length_append, List.length_cons, decide_eq_true (by omega)], ?_⟩
        rw [x_asg (d := enc t1) (s1 := s2) (by rw [ev_p2, ev_var3, R.bind_ok, ev_var4, R.bind_ok, pm_ixN hs2 (d := enc t1) (by rw [encs_append, List.getElem?_append_right (by rw [encs_len]; omega), encs_len, Nat.sub_self]; rfl), ofOpt_some])]
        simp only [List.set_cons_succ, List.set_cons_zero]
        rw [x_asg (d := .int (dn.length + 1)) (s1 := s2) (by simp only [ev_p2, ev_var4, ev_con, R.bind_ok, pm_add, ofOpt_some])]
        simp only [List.set_cons_succ, List.set_cons_zero]
        rw [x_ex (d := .non) (s1 := s2.set f (.lst (dgs (dn ++ [t1])))) (by
          rw [ev_p2, ev_p1, ev_var2, R.bind_ok, pm_lstI hs1, ofOpt_some, R.bind_ok, ev_ife, ev_p1, ev_var5, R.bind_ok, pm_isN, ofOpt_some, condR_b]
          rw [show (if isNon (enc t1) = true then eval (cf (k + 4)) (.con (.int 0)) [some (.int a), some (enc t), some (.ref f), some (.ref (f + 1)), some (.int (dn.length + 1)), some (enc t1)] s2 else eval (cf (k + 4)) (.con (.int 1)) [some (.int a), some (enc t), some (.ref f), some (.ref (f + 1)), some (.int (dn.length + 1)), some (enc t1)] s2) = .ok (.int (dg t1)) s2 by cases t1 <;> simp [isNon, enc, dg], R.bind_ok, pm_app hs1 (by rw [hdl, LIM]; omega), ofOpt_some]
          rw [dgs, dgs, List.map_append]; rfl)]
        have g1 : (s2.set f (.lst (dgs (dn ++ [t1]))))[f]? = some (.lst (dgs (dn ++ [t1]))) := List.getElem?_set_self (by omega)
        have g2 : (s2.set f (.lst (dgs (dn ++ [t1]))))[f + 1]? = some (.lst (encs (dn ++ t1 :: r))) := by rw [List.getElem?_set_ne (by omega), hs2]
        have ho2 : Old s1 (s2.set f (.lst (dgs (dn ++ [t1])))) := ho.set (by omega)
        generalize hS : s2.set f (.lst (dgs (dn ++ [t1]))) = S2 at g1 g2 ho2 ⊢
        have hb2 : f + 1 < S2.length := (List.getElem?_eq_some_iff.mp g2).1
        refine ⟨sizeTs (r ++ kids t1), ?_⟩
        have hfin : (dn ++ [t1]) ++ bq (sizeTs (r ++ kids t1)) (r ++ kids t1) = bq (sizeT t) [t] := by rw [← hq, List.append_assoc]; rfl
        cases t1 with
        | nil =>
          refine ⟨_, S2, by omega, ?_, ho2, dn ++ [.nil], r, some .non, rfl, g1, by rw [g2, List.append_assoc]; rfl, by simp [kids], by rw [List.length_append, List.length_singleton]; omega, by simpa [kids] using hfin⟩
          rw [x_skip (by rw [ev_p1, ev_var5, R.bind_ok]; rfl), xs_nil, List.length_append, List.length_singleton]
          rfl
        | node l =>
          have hk : kids (.node l) = l := rfl
          rw [hk] at hsz hrl hfin ⊢
          refine ⟨_, (S2 ++ [O.lst (encs l)]).set (f + 1) (.lst (encs ((dn ++ .node l :: r) ++ l))), by omega, ?_, (ho2.trans (Old.app ..)).set (by omega), dn ++ [.node l], r ++ l, some (enc (.node l)), rfl, by rw [List.getElem?_set_ne (by omega), List.getElem?_append_left (by omega), g1], by
            rw [List.getElem?_set_self (by rw [List.length_append]; omega)]
            simp, rfl, by rw [List.length_append, List.length_singleton]; omega, hfin⟩
          have g3 : (S2 ++ [O.lst (encs l)])[f + 1]? = some (.lst (encs (dn ++ .node l :: r))) := by rw [List.getElem?_append_left hb2, g2]
          rw [x_ifnx (s1 := S2) (by rw [ev_p1, ev_var5, R.bind_ok]; rfl) (by
            rw [x_ex (d := .non) (by
              rw [ev_p2, ev_p1, ev_var3, R.bind_ok, pm_lstI g2, ofOpt_some, R.bind_ok, ev_p1, ev_var5, R.bind_ok, show enc (.node l) = .tup (encs l) from rfl, pm_list1T, ofOpt_some, R.bind_ok, pm_ext g3 (app_last ..) (by
                rw [encs_len, encs_len, List.length_append, List.length_cons, LIM]
                omega), ofOpt_some]), xs_nil]), xs_nil]
          rw [← encs_append, List.length_append, List.length_singleton]
          rfl)
  rw [xs_nx e]
  rw [x_ret (d := .tup (dgs (bq (sizeT t) [t]))) (s1 := s2) (by rw [ev_p1, ev_var p2, R.bind_ok, pm_tuple1L p3, ofOpt_some])]
  exact ⟨s2, rfl, o1.trans p1⟩
end K52
set_option Elab.async false
set_option linter.all false
set_option maxRecDepth 100000
set_option maxHeartbeats 1000000
namespace K52
open Mini
/-- how many ends of words -/
def endF (a n left : Int) : Int :=
  if left < 1 ∨ (n - left + 1).fmod a ≠ 0 ∨ n < left - 1 then 0
  else (left * chF (n + 1) ((n - left + 1).fdiv a).toNat).fdiv (n + 1)
theorem ends_ok (k a : Nat) (n left : Int) (s : S) (h1 : 1 ≤ a) (h2 : a ≤ 12) (h3 : 0 ≤ n) (h4 : n ≤ 10000) (h5 : 0 ≤ left) (h6 : left ≤ 10000) : run (k + 2) 12 [.int a, .int n, .int left] s = .ok (.int (endF a n left)) s := by
  rw [run, callN_at (n := 4) (np := 3) (body := B12) rfl rfl, B12]
  show retF (execs (cf (k + 1)) _ [some (.int a), some (.int n), some (.int left), none] s) = _
  by_cases hc : left < 1 ∨ (n - left + 1).fmod a ≠ 0 ∨ n < left - 1
  · rw [endF, if_pos hc]
    rw [xs_rt (d := .int 0) (s1 := s) (by
      rw [x_if (s1 := s) (by
        simp only [ev_or, ev_p2, ev_var0, ev_var1, ev_var2, ev_con, R.bind_ok, pm_lt, pm_sub, pm_add, ofOpt_some]
        rw [condR_b]
        by_cases z1 : left < 1
        · rw [decide_eq_true z1, if_pos rfl]
        · rw [if_neg (by rw [decide_eq_false z1]; simp)]
          simp only [ev_or, ev_p2, ev_var0, ev_var1, ev_var2, ev_con, R.bind_ok, pm_lt, pm_sub, pm_add, ofOpt_some]
          rw [pm_md (by omega), ofOpt_some, R.bind_ok, pm_neI, ofOpt_some, condR_b]
          by_cases z2 : (n - left + 1).fmod a = 0
          · rw [if_neg (by rw [decide_eq_true z2]; simp)]
            simp only [ev_p2, ev_var1, ev_var2, ev_con, R.bind_ok, pm_lt, pm_sub, ofOpt_some]
            rw [decide_eq_true (by rcases hc with h | h | h; exact absurd h z1; exact absurd z2 h; exact h)]
          · rw [if_pos (by rw [decide_eq_false z2]; rfl)])]
      exact x_ret (ev_con ..))]
    rfl
  · have z1 : ¬ left < 1 := fun h => hc (.inl h)
    have z2 : (n - left + 1).fmod a = 0 := Classical.byContradiction fun h => hc (.inr (.inl h))
    have z3 : ¬ n < left - 1 := fun h => hc (.inr (.inr h))
    rw [endF, if_neg hc]
    rw [x_skip (s1 := s) (by
      simp only [ev_or, ev_p2, ev_var0, ev_var1, ev_var2, ev_con, R.bind_ok, pm_lt, pm_sub, pm_add, ofOpt_some]
      rw [decide_eq_false z1, condR_f]
      simp only [ev_or, ev_p2, ev_var0, ev_var1, ev_var2, ev_con, R.bind_ok, pm_lt, pm_sub, pm_add, ofOpt_some]
      rw [pm_md (by omega), ofOpt_some, R.bind_ok, pm_neI, ofOpt_some, decide_eq_true z2]
      rw [show (!true) = false from rfl, condR_f]
      simp only [ev_p2, ev_var1, ev_var2, ev_con, R.bind_ok, pm_lt, pm_sub, ofOpt_some]
      rw [decide_eq_false z3])]
    have hq : 0 ≤ (n - left + 1).fdiv a := by rw [Int.fdiv_eq_ediv_of_nonneg _ (by omega)]; exact Int.ediv_nonneg (by omega) (by omega)
    have hq2 : (n - left + 1).fdiv a ≤ n - left + 1 := by rw [Int.fdiv_eq_ediv_of_nonneg _ (by omega)]; exact Int.ediv_le_self _ (by omega)
    obtain ⟨m, hm⟩ : ∃ m : Nat, (n - left + 1).fdiv a = m := ⟨((n - left + 1).fdiv a).toNat, (Int.toNat_of_nonneg hq).symm⟩
    have ec : callN TBL FUEL (k + 1) 3 [.int (n + 1), .int m] s = .ok (.int (chF (n + 1) m)) s := choose_ok k (n + 1) m s (by omega) (by omega)
    rw [x_asg (d := .int m) (s1 := s) (by
      simp only [ev_p2, ev_var0, ev_var1, ev_var2, ev_con, R.bind_ok, pm_sub, pm_add, ofOpt_some]
      rw [pm_fdv (by omega), ofOpt_some, hm])]
    simp only [List.set_cons_succ, List.set_cons_zero]
    rw [hm, Int.toNat_natCast]
    rw [x_ret (d := .int ((left * chF (n + 1) m).fdiv (n + 1))) (s1 := s) (by
      simp only [ev_p2, ev_call2, ev_var0, ev_var1, ev_var2, ev_var3, ev_con, R.bind_ok, pm_add, ofOpt_some]
      rw [ec, R.bind_ok, pm_mul (.inl (by omega)), ofOpt_some, R.bind_ok, pm_fdv (by omega), ofOpt_some])]
    rfl
end K52
set_option Elab.async false
set_option linter.all false
set_option maxRecDepth 100000
set_option maxHeartbeats 1000000
namespace K52
open Mini
/-- the place of a word -/
def plF (a : Nat) : Int → List Int → Int
  | _, [] => 0
  | left, b :: r => (if b = 1 then endF a r.length (left - 1) else 0) + plF a (left - 1 + a * b) r
/-- the word at a place -/
def unF (a : Nat) : Nat → Int → Int → List Int
  | 0, _, _ => []
  | n + 1, left, here => if here < endF a n (left - 1) then 0 :: unF a n (left - 1) here else 1 :: unF a n (left - 1 + a) (here - endF a n (left - 1))
theorem end_chk : ((List.range 7).all fun a => (List.range (12 * a)).all fun n => (List.range 13).all fun j =>
    decide (a * j ≤ n + 1 → (endF a ((n : Int) + 1) ((n : Int) + 2 - a * j) = endF a n ((n : Int) + 2 - a * j - 1) + endF a n ((n : Int) + 2 - a * j - 1 + a) ∧ 0 ≤ endF a n ((n : Int) + 2 - a * j - 1) ∧ 0 ≤ endF a n ((n : Int) + 2 - a * j - 1 + a)))) = true := by decide +kernel
theorem end_zero {a n left : Int} (h : (n - left + 1).fmod a ≠ 0 ∨ n < left - 1) : endF a n left = 0 := by rw [endF, if_pos (.inr h)]
theorem end_rec {a n : Nat} {left : Int} (h1 : 1 ≤ a) (h2 : a ≤ 6) (hn : n < 12 * a) (hl : 1 ≤ left) : endF a ((n : Int) + 1) left = endF a n (left - 1) + endF a n (left - 1 + a) ∧ 0 ≤ endF a n (left - 1) ∧ 0 ≤ endF a n (left - 1 + a) := by
  by_cases z2 : (n : Int) + 1 < left - 1
  · rw [end_zero (.inr z2), end_zero (.inr (by omega)), end_zero (.inr (by omega))]
    simp
  by_cases z1 : ((n : Int) + 2 - left).fmod a = 0
  · obtain ⟨q, hq⟩ := Int.dvd_of_fmod_eq_zero z1
    have hq0 : 0 ≤ q := by
      rcases Int.lt_or_le q 0 with h | h
      · have : (a : Int) * q ≤ (a : Int) * (-1) := Int.mul_le_mul_of_nonneg_left (by omega) (by omega)
        omega
      · exact h
    obtain ⟨j, rfl⟩ := Int.eq_ofNat_of_zero_le hq0
    have hj : a * j ≤ n + 1 := by
      have : ((a * j : Nat) : Int) = (a : Int) * (j : Int) := Int.natCast_mul ..
      omega
    have hj2 : j < 13 := by
      rcases Nat.lt_or_ge j 13 with h | h
      · exact h
      · have : a * 13 ≤ a * j := Nat.mul_le_mul_left a h
        omega
    have := end_chk
    have := List.all_eq_true.mp this a (List.mem_range.mpr (by omega))
    have := List.all_eq_true.mp this n (List.mem_range.mpr hn)
    have := List.all_eq_true.mp this j (List.mem_range.mpr hj2)
    have := of_decide_eq_true this hj
    rw [show (n : Int) + 2 - a * (j : Nat) = left by omega] at this
    exact this
  · have e1 : ((n : Int) + 1 - left + 1).fmod a ≠ 0 := by rw [show (n : Int) + 1 - left + 1 = n + 2 - left by omega]; exact z1
    have e2 : ((n : Int) - (left - 1) + 1).fmod a ≠ 0 := by rw [show (n : Int) - (left - 1) + 1 = n + 2 - left by omega]; exact z1
    have e3 : ((n : Int) - (left - 1 + a) + 1).fmod a ≠ 0 := by
      rw [show (n : Int) - (left - 1 + a) + 1 = n + 2 - left - a by omega]
      intro h
      apply z1
      have h1 := Int.dvd_of_fmod_eq_zero h
      have h2 : (a : Int) ∣ (n : Int) + 2 - left := by
        have := Int.dvd_add h1 (Int.dvd_refl (a : Int))
        rwa [Int.sub_add_cancel] at this
      exact Int.fmod_eq_zero_of_dvd h2
    rw [end_zero (.inl e1), end_zero (.inl e2), end_zero (.inl e3)]
    simp
theorem pl_un {a : Nat} (h1 : 1 ≤ a) (h2 : a ≤ 6) : ∀ {w : List Int} {left : Int}, Opn a left w → 1 ≤ left → w.length ≤ 12 * a → 0 ≤ plF a left w ∧ plF a left w < endF a w.length left ∧ unF a w.length left (plF a left w) = w
  | [], left, h, _, _ => by
    have h : left = 1 := h
    subst h
    refine ⟨Int.le_refl _, ?_, rfl⟩
    show 0 < endF a (0 : Nat) 1
    rw [endF, if_neg (by simp)]
    simp [chF]
  | b :: r, left, ⟨hb, h0, ho⟩, hl, hw => by
    rw [List.length_cons] at hw
    obtain ⟨i1, i2, i3⟩ := pl_un h1 h2 ho (by omega) (by omega)
    obtain ⟨r1, r2, r3⟩ := end_rec (left := left) h1 h2 (n := r.length) (by omega) hl
    rcases hb with rfl | rfl
    · simp only [plF, Int.mul_zero, Int.add_zero, List.length_cons, Int.natCast_add] at i1 i2 i3 ⊢
      rw [if_neg (by decide), Int.zero_add]
      refine ⟨i1, by rw [show ((1 : Nat) : Int) = 1 from rfl, r1]; omega, ?_⟩
      rw [unF, if_pos i2, i3]
    · simp only [plF, Int.mul_one, List.length_cons, Int.natCast_add] at i1 i2 i3 ⊢
      simp only [if_true]
      refine ⟨by omega, by rw [show ((1 : Nat) : Int) = 1 from rfl, r1]; omega, ?_⟩
      rw [unF, if_neg (by omega), show endF a r.length (left - 1) + plF a (left - 1 + a) r - endF a r.length (left - 1) = plF a (left - 1 + a) r by omega, i3]
theorem many_chk : ((List.range 7).all fun a => (List.range 13).all fun m => decide (1 ≤ a → (chF (a * m : Nat) m).fdiv (((a : Int) - 1) * m + 1) = endF a (a * m : Nat) 1)) = true := by decide +kernel
theorem many_end {a m : Nat} (h1 : 1 ≤ a) (h2 : a ≤ 6) (h3 : m ≤ 12) : (chF (a * m : Nat) m).fdiv (((a : Int) - 1) * m + 1) = endF a (a * m : Nat) 1 := by
  have := many_chk
  have := List.all_eq_true.mp this a (List.mem_range.mpr (by omega))
  have := List.all_eq_true.mp this m (List.mem_range.mpr (by omega))
  exact of_decide_eq_true this h1
end K52
set_option Elab.async false
set_option linter.all false
set_option maxRecDepth 100000
set_option maxHeartbeats 1000000
namespace K52
open Mini
theorem enuD_len : ∀ (l : List D) (k : Nat), (enuD k l).length = l.length
  | [], _ => rfl
  | d :: l, k => by rw [enuD, List.length_cons, List.length_cons, enuD_len l]
theorem place_ok (k a : Nat) (t : Tr) (w : List Int) (s : S) (h1 : 1 ≤ a) (h2 : a ≤ 12) (hA : Ary a t) (hF : forksT t ≤ 30) (hw : wd t = w ++ [0]) (ho : Opn a 1 w) (hl : w.length ≤ 200) : ∃ s', run (k + 6) 14 [.int a, enc t] s = .ok (.int (plF a 1 w)) s' ∧ Old s s' := by
  have hz : sizeT t ≤ 100000 := by
    rw [← wd_len, hw, List.length_append, List.length_singleton]
    omega
  obtain ⟨s1, e1, o1⟩ := word_ok k a t s h1 h2 hA hF hz
  rw [hw, List.dropLast_concat] at e1
  have e1 : callN TBL FUEL (k + 5) 9 [.int a, enc t] s = .ok (.tup (w.map .int)) s1 := e1
  rw [run, callN_at (n := 7) (np := 2) (body := B14) rfl rfl, B14]
  show ∃ s', retF (execs (cf (k + 5)) _ [some (.int a), some (enc t), none, none, none, none, none] s) = _ ∧ _
  rw [x_asg (d := .tup (w.map .int)) (s1 := s1) (by simp only [ev_call2, ev_var0, ev_var1, R.bind_ok, e1])]
  simp only [List.set_cons_succ, List.set_cons_zero]
  rw [x_tp (l := [.int 0, .int 1]) (s1 := s1) (env1 := [some (.int a), some (enc t), some (.tup (w.map .int)), some (.int 0), some (.int 1), none, none]) (s2 := s1) (by simp only [ev_p2, ev_con, R.bind_ok, pm_tup2, ofOpt_some]) rfl]
  obtain ⟨env2, s2, e, p1, f, left, x, y, p2, p3, p4, p5⟩ := run_fix (c := cf (k + 5)) (kd := .enu) (es := [.var 2]) (t := .tp [.nm 5, .nm 6]) (l := enuD 0 (w.map .int)) (ds := [.tup (w.map .int)]) (b := [.ite (.prim .eq [.var 6, .con (.int 1)]) [.asg (.nm 3) (.prim .add [.var 3, .call 12 [.var 0, .prim .sub [.prim .sub [.prim .len [.var 2], .var 5], .con (.int 1)], .prim .sub [.var 4, .con (.int 1)]]])] [],
    .asg (.nm 4) (.prim .add [.prim .sub [.var 4, .con (.int 1)], .prim .mul [.var 0, .var 6]])])
    (env := [some (.int a), some (enc t), some (.tup (w.map .int)), some (.int 0), some (.int 1), none, none]) (s := s1) (s1 := s1)
    (fun i env s2 => s2 = s1 ∧ ∃ f left x y, env = [some (.int a), some (enc t), some (.tup (w.map .int)), some (.int f), some (.int left), x, y] ∧ Opn a left (w.drop i) ∧ 1 ≤ left ∧ left ≤ 1 + 12 * (i : Int) ∧ f + plF a left (w.drop i) = plF a 1 w)
    (by simp only [evs_cons, evs_nil, ev_var2, R.bind_ok]) rfl (by rw [enuD_len, List.length_map]; simp only [FUEL]; omega) ⟨rfl, 0, 1, none, none, rfl, ho, by omega, by omega, by rw [Int.zero_add]; rfl⟩
    (fun i d env s2 hd ⟨es, f, left, x, y, ee, q1, q2, q3, q4⟩ => by
      subst es
      subst ee
      rw [enuD_get, Nat.zero_add, List.getElem?_map, Option.map_map] at hd
      obtain ⟨b, hb, rfl⟩ := Option.map_eq_some_iff.mp hd
      have hi : i < w.length := (List.getElem?_eq_some_iff.mp hb).1
      rw [List.drop_eq_getElem_cons hi] at q1 q4
      have eb : w[i] = b := by
        have := List.getElem?_eq_getElem hi
        rw [hb] at this
        exact (Option.some.inj this).symm
      rw [eb] at q1 q4
      obtain ⟨r1, r2, r3⟩ := q1
      rw [plF, List.length_drop] at q4
      have hlen : (((w.length - (i + 1) : Nat)) : Int) = (w.length : Int) - (i : Int) - 1 := by omega
      rw [hlen] at q4
      have ec : callN TBL FUEL (k + 5) 12 [.int a, .int ((w.length : Int) - (i : Int) - 1), .int (left - 1)] s2 = .ok (.int (endF a ((w.length : Int) - (i : Int) - 1) (left - 1))) s2 := ends_ok (k + 3) a _ _ s2 h1 h2 (by omega) (by omega) (by omega) (by omega)
      refine ⟨[some (.int a), some (enc t), some (.tup (w.map .int)), some (.int f), some (.int left), some (.int (i : Nat)), some (.int b)], rfl, [some (.int a), some (enc t), some (.tup (w.map .int)), some (.int (f + if b = 1 then endF a ((w.length : Int) - (i : Int) - 1) (left - 1) else 0)), some (.int (left - 1 + a * b)), some (.int (i : Nat)), some (.int b)], s2, ?_, rfl, _, _, _, _, rfl, r3, by omega, ?_, by omega⟩
      · have last : ∀ f, execs (cf (k + 5)) [.asg (.nm 4) (.prim .add [.prim .sub [.var 4, .con (.int 1)], .prim .mul [.var 0, .var 6]])] [some (.int a), some (enc t), some (.tup (w.map .int)), some (.int f), some (.int left), some (.int (i : Nat)), some (.int b)] s2 = .nx [some (.int a), some (enc t), some (.tup (w.map .int)), some (.int f), some (.int (left - 1 + a * b)), some (.int (i : Nat)), some (.int b)] s2 := fun f => by
          rw [x_asg (d := .int (left - 1 + a * b)) (s1 := s2) (by
            simp only [ev_p2, ev_var0, ev_var4, ev_var6, ev_con, R.bind_ok, pm_sub, ofOpt_some]
            rw [pm_mul (.inl (by omega)), ofOpt_some, R.bind_ok, pm_add, ofOpt_some]), xs_nil]
          rfl
        by_cases hb1 : b = 1
        · subst hb1
          rw [if_pos rfl]
          rw [x_ifnx (env1 := [some (.int a), some (enc t), some (.tup (w.map .int)), some (.int (f + endF a ((w.length : Int) - (i : Int) - 1) (left - 1))), some (.int left), some (.int (i : Nat)), some (.int 1)]) (s1 := s2) (s2 := s2) (by simp only [ev_p2, ev_var6, ev_con, R.bind_ok, pm_eqI, ofOpt_some]; rfl) (by
            rw [x_asg (d := .int (f + endF a ((w.length : Int) - (i : Int) - 1) (left - 1))) (s1 := s2) (by
              simp only [ev_p2, ev_p1, ev_call3, ev_var0, ev_var2, ev_var3, ev_var4, ev_var5, ev_con, R.bind_ok, pm_lenT, List.length_map, pm_sub, ofOpt_some, ec, pm_add]), xs_nil]
            rfl)]
          exact last _
        · rw [if_neg hb1, Int.add_zero, x_skip (s1 := s2) (by simp only [ev_p2, ev_var6, ev_con, R.bind_ok, pm_eqI, ofOpt_some]; rw [decide_eq_false hb1])]
          exact last _
      · rcases r1 with rfl | rfl <;> omega)
  subst p1
  subst p2
  rw [enuD_len, List.length_map, List.drop_length] at p3
  rw [enuD_len, List.length_map, List.drop_length, plF, Int.add_zero] at p5
  rw [xs_nx e, x_ret (d := .int f) (s1 := s2) (ev_var3 ..), p5.2]
  exact ⟨s2, rfl, o1⟩
end K52
set_option Elab.async false
set_option linter.all false
set_option maxRecDepth 100000
set_option maxHeartbeats 1000000
namespace K52
open Mini
theorem manyAt_ok (k a m : Nat) (t : Tr) (w : List Int) (s : S) (h1 : 1 ≤ a) (h2 : a ≤ 6) (hm : m ≤ 12) (hA : Ary a t) (hF : forksT t ≤ 30) (ht : (w ++ [0]).reverse.foldl (stp a) [] = [t]) (ho : Opn a 1 w) (hl : w.length = a * m) (hz : sizeT t ≤ 100000) : ∃ s', run (k + 5) 13 [.int a, .int m, .int (plF a 1 w)] s = .ok (enc t) s' ∧ Old s s' := by
  have hw72 : a * m ≤ 72 := Nat.mul_le_mul h2 hm
  have hwm : a * m ≤ 12 * a := by rw [Nat.mul_comm 12]; exact Nat.mul_le_mul_left a hm
  obtain ⟨g1, g2, g3⟩ := pl_un h1 h2 ho (by omega) (by omega)
  generalize plF a 1 w = p at g1 g2 g3
  have eam : ((a : Int) * (m : Int)) = ((a * m : Nat) : Int) := by rw [Int.natCast_mul]
  have hmm : m ≤ a * m := Nat.le_mul_of_pos_left m h1
  rw [hl] at g2 g3
  rw [run, callN_at (n := 8) (np := 3) (body := B13) rfl rfl, B13]
  show ∃ s', retF (execs (cf (k + 4)) _ [some (.int a), some (.int m), some (.int p), none, none, none, none, none] s) = _ ∧ _
  have e1 : callN TBL FUEL (k + 4) 1 [.int a, .int 1, .int 12] s = .ok (.bl true) s := within_ok (k + 2) a 1 12 s (by omega) (by omega)
  have e2 : callN TBL FUEL (k + 4) 1 [.int m, .int 0, .int 30] s = .ok (.bl true) s := within_ok (k + 2) m 0 30 s (by omega) (by omega)
  have e3 : callN TBL FUEL (k + 4) 0 [.int p] s = .ok (.bl true) s := isInt_ok (k + 3) p s
  have e4 : callN TBL FUEL (k + 4) 3 [.int (a * m : Nat), .int m] s = .ok (.int (chF (a * m : Nat) m)) s := choose_ok (k + 3) (a * m : Nat) m s (by omega) (by omega)
  have hq0 : 0 ≤ ((a : Int) - 1) * m := Int.mul_nonneg (by omega) (by omega)
  have hq : ((a : Int) - 1) * m ≤ 72 := by rw [Int.sub_mul]; omega
  rw [x_skip (s1 := s) (by
    simp only [ev_or, ev_not, ev_call3, ev_var0, ev_con, R.bind_ok, e1, condR_t, condR_f]
    simp only [ev_not, ev_call3, ev_var1, ev_con, R.bind_ok, e2, condR_t])]
  rw [x_skip (s1 := s) (by
    simp only [ev_or, ev_not, ev_call1, ev_var2, R.bind_ok, e3, condR_t, condR_f]
    simp only [ev_not, ev_chn, ev_con, ev_var2, R.bind_ok, pm_le, ofOpt_some]
    rw [decide_eq_true g1, condR_t]
    simp only [ev_p2, ev_call2, ev_var0, ev_var1, ev_con, R.bind_ok, pm_sub, ofOpt_some]
    rw [pm_mul (.inl (by omega)), ofOpt_some, R.bind_ok, eam, e4, R.bind_ok, pm_mul (.inr (by omega)), ofOpt_some, R.bind_ok, pm_add, ofOpt_some, R.bind_ok, pm_fdv (by omega), ofOpt_some, R.bind_ok, pm_lt, ofOpt_some, many_end h1 h2 hm, decide_eq_true g2, condR_t])]
  obtain ⟨f, hf⟩ : ∃ f, f = s.length := ⟨_, rfl⟩
  rw [x_par (ds := [.ref f, .int 1, .int p]) (s1 := s ++ [.lst []]) (env1 := [some (.int a), some (.int m), some (.int p), some (.ref f), some (.int 1), some (.int p), none, none]) (by
    simp only [evs_cons, evs_nil, ev_p0, ev_var2, ev_con, R.bind_ok, pm_lst0, ofOpt_some]
    rw [hf]) rfl]
  obtain ⟨env2, s2, e, p1, left, here, x, y, p2, p3, p4⟩ := run_rng1 (c := cf (k + 4)) (es := [.prim .mul [.var 0, .var 1]]) (j := 6) (n := a * m) (b := [.asg (.nm 7) (.call 12 [.var 0, .prim .sub [.prim .sub [.prim .mul [.var 0, .var 1], .var 6], .con (.int 1)], .prim .sub [.var 4, .con (.int 1)]]),
    .ite (.prim .lt [.var 5, .var 7]) [.ex (.prim .app [.prim .lstI [.var 3], .con (.int 0)]),
    .asg (.nm 4) (.prim .sub [.var 4, .con (.int 1)])] [.asg (.nm 5) (.prim .sub [.var 5, .var 7]),
    .ex (.prim .app [.prim .lstI [.var 3], .con (.int 1)]),
    .asg (.nm 4) (.prim .add [.prim .sub [.var 4, .con (.int 1)], .var 0])]])
    (env := [some (.int a), some (.int m), some (.int p), some (.ref f), some (.int 1), some (.int p), none, none]) (s := s ++ [.lst []]) (s1 := s ++ [.lst []])
    (fun i env s2 => Old s s2 ∧ ∃ left here x y, env = [some (.int a), some (.int m), some (.int p), some (.ref f), some (.int left), some (.int here), x, y] ∧ s2[f]? = some (.lst ((w.take i).map .int)) ∧ Opn a left (w.drop i) ∧ 1 ≤ left ∧ left ≤ 1 + 12 * (i : Int) ∧ unF a (a * m - i) left here = w.drop i)
    (by
      simp only [evs_cons, evs_nil, ev_p2, ev_var0, ev_var1, R.bind_ok]
      rw [pm_mul (.inl (by omega)), ofOpt_some, R.bind_ok, eam]) (by omega) (by simp only [FUEL]; omega)
    ⟨Old.app .., 1, p, none, none, rfl, by rw [hf, app_last]; rfl, ho, by omega, by omega, g3⟩
    (fun i env s2 hi ⟨o, left, here, x, y, ee, q1, q2, q3, q4, q5⟩ => by
      subst ee
      have hi2 : i < w.length := by omega
      have hft : f < s2.length := (List.getElem?_eq_some_iff.mp q1).1
      obtain ⟨b, hb⟩ : ∃ b, w[i]? = some b := ⟨_, List.getElem?_eq_getElem hi2⟩
      have eb : w[i] = b := by
        have := List.getElem?_eq_getElem hi2
        rw [hb] at this
        exact (Option.some.inj this).symm
      rw [List.drop_eq_getElem_cons hi2, eb] at q2 q5
      obtain ⟨r1, r2, r3⟩ := q2
      rw [show a * m - i = (a * m - (i + 1)) + 1 by omega, unF] at q5
      have hlen : (((a * m - (i + 1) : Nat)) : Int) = ((a * m : Nat) : Int) - (i : Int) - 1 := by omega
      rw [hlen] at q5
      have ec : callN TBL FUEL (k + 4) 12 [.int a, .int (((a * m : Nat) : Int) - (i : Int) - 1), .int (left - 1)] s2 = .ok (.int (endF a (((a * m : Nat) : Int) - (i : Int) - 1) (left - 1))) s2 := ends_ok (k + 2) a _ _ s2 h1 (by omega) (by omega) (by omega) (by omega) (by omega)
      generalize endF a (((a * m : Nat) : Int) - (i : Int) - 1) (left - 1) = E at ec q5
      have htk : (w.take (i + 1)).map D.int = (w.take i).map D.int ++ [.int b] := by rw [List.take_add_one, hb]; simp
      simp only [List.set_cons_succ, List.set_cons_zero]
      rw [x_asg (d := .int E) (s1 := s2) (by
        simp only [ev_p2, ev_call3, ev_var0, ev_var1, ev_var4, ev_var6, ev_con, R.bind_ok]
        rw [pm_mul (.inl (by omega)), ofOpt_some, R.bind_ok, eam, pm_sub, ofOpt_some, R.bind_ok, pm_sub, ofOpt_some, R.bind_ok, pm_sub, ofOpt_some, R.bind_ok, ec])]
      simp only [List.set_cons_succ, List.set_cons_zero]
      have hll : ((w.take i).map D.int).length < LIM := by rw [List.length_map, List.length_take, LIM]; omega
      have hset : ∀ v : Int, Old s (s2.set f (.lst ((w.take i).map .int ++ [.int v]))) := fun v => o.set (by omega)
      by_cases hlt : here < E
      · rw [if_pos hlt] at q5
        obtain ⟨z1, z2⟩ := List.cons.inj q5
        subst z1
        rw [Int.mul_zero, Int.add_zero] at r2 r3
        refine ⟨[some (.int a), some (.int m), some (.int p), some (.ref f), some (.int (left - 1)), some (.int here), some (.int i), some (.int E)], s2.set f (.lst ((w.take i).map .int ++ [.int 0])), ?_, hset 0, left - 1, here, _, _, rfl, by rw [htk]; exact List.getElem?_set_self hft, r3, by omega, by omega, z2⟩
        rw [x_ifnx (s1 := s2) (by simp only [ev_p2, ev_var5, ev_var7, R.bind_ok, pm_lt, ofOpt_some, decide_eq_true hlt]) (by
          rw [x_ex (d := .non) (by rw [ev_p2, ev_p1, ev_var3, R.bind_ok, pm_lstI q1, ofOpt_some, R.bind_ok, ev_con, R.bind_ok, pm_app q1 hll, ofOpt_some]), x_asg (d := .int (left - 1)) (s1 := s2.set f (.lst ((w.take i).map .int ++ [.int 0]))) (by simp only [ev_p2, ev_var4, ev_con, R.bind_ok, pm_sub, ofOpt_some]), xs_nil]), xs_nil]
        rfl
      · rw [if_neg hlt] at q5
        obtain ⟨z1, z2⟩ := List.cons.inj q5
        subst z1
        rw [Int.mul_one] at r2 r3
        refine ⟨[some (.int a), some (.int m), some (.int p), some (.ref f), some (.int (left - 1 + a)), some (.int (here - E)), some (.int i), some (.int E)], s2.set f (.lst ((w.take i).map .int ++ [.int 1])), ?_, hset 1, left - 1 + a, here - E, _, _, rfl, by rw [htk]; exact List.getElem?_set_self hft, r3, by omega, by omega, z2⟩
        rw [x_elnx (s1 := s2) (by simp only [ev_p2, ev_var5, ev_var7, R.bind_ok, pm_lt, ofOpt_some, decide_eq_false hlt]) (by
          rw [x_asg (d := .int (here - E)) (s1 := s2) (by simp only [ev_p2, ev_var5, ev_var7, R.bind_ok, pm_sub, ofOpt_some])]
          simp only [List.set_cons_succ, List.set_cons_zero]
          rw [x_ex (d := .non) (by rw [ev_p2, ev_p1, ev_var3, R.bind_ok, pm_lstI q1, ofOpt_some, R.bind_ok, ev_con, R.bind_ok, pm_app q1 hll, ofOpt_some]), x_asg (d := .int (left - 1 + a)) (s1 := s2.set f (.lst ((w.take i).map .int ++ [.int 1]))) (by simp only [ev_p2, ev_var0, ev_var4, ev_con, R.bind_ok, pm_sub, pm_add, ofOpt_some]), xs_nil]), xs_nil]
        rfl)
  subst p2
  rw [← hl, List.take_length] at p3
  obtain ⟨s3, e5, o3⟩ := toWord_ok k a w s2 t h1 (by omega) (by omega) ho ht hA hF hz
  have e5 : callN TBL FUEL (k + 4) 11 [.int a, .tup (w.map .int)] s2 = .ok (enc t) s3 := e5
  rw [xs_nx e, x_ret (d := enc t) (s1 := s3) (by
    rw [ev_call2, ev_var0, R.bind_ok, ev_p1, ev_var3, R.bind_ok, pm_tuple1L p3, ofOpt_some, R.bind_ok]
    exact e5)]
  exact ⟨s3, rfl, p1.trans o3⟩
end K52
set_option Elab.async false
set_option linter.all false
set_option maxRecDepth 100000
set_option maxHeartbeats 1000000
namespace K52
open Mini
mutual
/-- depths of forks together -/
def inT : Tr → Nat → Nat
  | .nil, _ => 0
  | .node l, d => d + inTs l (d + 1)
def inTs : List Tr → Nat → Nat
  | [], _ => 0
  | t :: r, d => inT t d + inTs r d
end
mutual
/-- depths of ends together -/
def outT : Tr → Nat → Nat
  | .nil, d => d
  | .node l, d => outTs l (d + 1)
def outTs : List Tr → Nat → Nat
  | [], _ => 0
  | t :: r, d => outT t d + outTs r d
end
def inP : List (Tr × Nat) → Nat
  | [] => 0
  | p :: r => inT p.1 p.2 + inP r
def outP : List (Tr × Nat) → Nat
  | [] => 0
  | p :: r => outT p.1 p.2 + outP r
theorem inP_append (l m : List (Tr × Nat)) : inP (l ++ m) = inP l + inP m := by
  induction l with
  | nil => simp [inP]
  | cons t r ih => simp [inP, ih]; omega
theorem outP_append (l m : List (Tr × Nat)) : outP (l ++ m) = outP l + outP m := by
  induction l with
  | nil => simp [outP]
  | cons t r ih => simp [outP, ih]; omega
theorem inP_kids (l : List Tr) (d : Nat) : inP (l.map fun t => (t, d)) = inTs l d := by
  induction l with
  | nil => rfl
  | cons t r ih => simp [inP, inTs, ih]
theorem outP_kids (l : List Tr) (d : Nat) : outP (l.map fun t => (t, d)) = outTs l d := by
  induction l with
  | nil => rfl
  | cons t r ih => simp [outP, outTs, ih]
theorem heights_ok (k a : Nat) (t : Tr) (s : S) (h1 : 1 ≤ a) (h2 : a ≤ 12) (hA : Ary a t) (hF : forksT t ≤ 30) (hz : sizeT t ≤ 100000) : ∃ s', run (k + 5) 18 [.int a, enc t] s = .ok (.tup [.int (inT t 0), .int (outT t 0)]) s' ∧ Old s s' := by
  obtain ⟨s0, e1, o1⟩ := check_ok k a t s h1 h2 hA hF hz
  rw [run, callN_at (n := 8) (np := 2) (body := B18) rfl rfl, B18]
  show ∃ s', retF (execs (cf (k + 4)) _ [some (.int a), some (enc t), none, none, none, none, none, none] s) = _ ∧ _
  have e1 : callN TBL FUEL (k + 4) 5 [.int a, enc t] s = .ok .non s0 := e1
  rw [x_ex (d := .non) (s1 := s0) (by simp only [ev_call2, ev_var0, ev_var1, R.bind_ok, e1])]
  rw [x_par (ds := [.int 0, .int 0, .ref s0.length]) (s1 := s0 ++ [.lst [pr (t, 0)]]) (env1 := [some (.int a), some (enc t), some (.int 0), some (.int 0), some (.ref s0.length), none, none, none]) (by
    simp only [evs_cons, evs_nil, ev_p1, ev_p2, ev_var1, ev_con, R.bind_ok, pm_tup2, ofOpt_some, pm_lst1]
    rfl) rfl]
  obtain ⟨env2, s2, e, p1, p2, p3⟩ := run_whl (c := cf (k + 4)) (q := .prim .ne [.var 4, .prim .lst []]) (b := [.asg (.tp [(.nm 5), (.nm 6)]) (.prim .pop [.var 4]),
    .ite (.prim .isN [.var 5]) [.asg (.nm 3) (.prim .add [.var 3, .var 6])] [.asg (.nm 2) (.prim .add [.var 2, .var 6]),
    .ex (.prim .ext [.prim .lstI [.var 4], .comp .seq [.var 5] (.nm 7) (.con (.bl true)) (.prim .tup [.var 7, .prim .add [.var 6, .con (.int 1)]]) [7]])]])
    (env := [some (.int a), some (enc t), some (.int 0), some (.int 0), some (.ref s0.length), none, none, none]) (s := s0 ++ [.lst [pr (t, 0)]]) (n := sizeT t)
    (fun n env s1 => Old s0 s1 ∧ ∃ (st : List (Tr × Nat)) (i o : Nat) (x y z : Option D), env = [some (.int a), some (enc t), some (.int i), some (.int o), some (.ref s0.length), x, y, z] ∧ s1[s0.length]? = some (.lst (st.map pr)) ∧ szs st = n ∧ n ≤ 100000 ∧ i + inP st = inT t 0 ∧ o + outP st = outT t 0)
    (fun env s1 => Old s0 s1 ∧ env[2]? = some (some (.int (inT t 0))) ∧ env[3]? = some (some (.int (outT t 0)))) (by simp only [FUEL]; omega) ⟨Old.app .., [(t, 0)], 0, 0, none, none, none, rfl, app_last .., by simp [szs], hz, by simp [inP], by simp [outP]⟩ (fun n env s1 ⟨ho, st, i, o, x, y, z, ee, hs, hn, hn2, hi, hoo⟩ => by
      subst ee
      have hlt : s0.length < s1.length := (List.getElem?_eq_some_iff.mp hs).1
      rcases List.eq_nil_or_concat st with rfl | ⟨st', p, rfl⟩
      · simp only [inP, outP, Nat.add_zero] at hi hoo
        exact .inl ⟨_, ev_neNil rfl hs, ho.trans (Old.app ..), by rw [← hi]; rfl, by rw [← hoo]; rfl⟩
      · right
        obtain ⟨t1, d⟩ := p
        rw [List.concat_eq_append] at hs hn hi hoo
        have hs' : (s1 ++ [O.lst []])[s0.length]? = some (.lst (st'.map pr ++ [pr (t1, d)])) := by
          rw [List.getElem?_append_left hlt, hs, List.map_append]
          rfl
        have hlt2 : s0.length < (s1 ++ [O.lst []]).length := by rw [List.length_append]; omega
        rw [szs_append] at hn
        rw [inP_append] at hi
        rw [outP_append] at hoo
        simp only [szs, inP, outP] at hn hi hoo
        have hsz := sizeT_pos t1
        have hold : Old s0 ((s1 ++ [O.lst []]).set s0.length (.lst (st'.map pr))) := (ho.trans (Old.app ..)).set (Nat.le_refl _)
        have hw : ((s1 ++ [O.lst []]).set s0.length (.lst (st'.map pr)))[s0.length]? = some (.lst (st'.map pr)) := List.getElem?_set_self hlt2
        refine ⟨s1 ++ [.lst []], by rw [ev_neNil rfl hs]; simp, ?_⟩
        rw [x_tp (env1 := [some (.int a), some (enc t), some (.int i), some (.int o), some (.ref s0.length), some (enc t1), some (.int d), z]) (by rw [ev_p1, ev_var4, R.bind_ok, pm_pop hs', ofOpt_some]; rfl) rfl]
        generalize hS : (s1 ++ [O.lst []]).set s0.length (.lst (st'.map pr)) = S2 at hold hw ⊢
        cases t1 with
        | nil =>
          simp only [inT, outT, sizeT] at hn hi hoo
          refine ⟨szs st', _, S2, by omega, ?_, hold, st', i, o + d, some .non, some (.int d), z, rfl, hw, rfl, by omega, by omega, by omega⟩
          rw [x_ifnx (s1 := S2) (by rw [ev_p1, ev_var5, R.bind_ok]; rfl) (by rw [x_asg (d := .int (o + d : Nat)) (s1 := S2) (by simp only [ev_p2, ev_var3, ev_var6, R.bind_ok, pm_add, ofOpt_some]; rfl), xs_nil]), xs_nil]
          rfl
        | node l =>
          simp only [inT, outT, sizeT] at hn hi hoo
          have hsl := szs_len st'
          have hll := sizeTs_len l
          have hlt3 : s0.length < S2.length := (List.getElem?_eq_some_iff.mp hw).1
          have hw2 : (S2 ++ [O.lst ((encs l).map fun c => D.tup [c, .int ((d : Int) + 1)])])[s0.length]? = some (.lst (st'.map pr)) := by
            rw [List.getElem?_append_left hlt3]
            exact hw
          have el : (encs l).length = l.length := by rw [encs_map, List.length_map]
          have ec : eval (cf (k + 4)) (.comp .seq [.var 5] (.nm 7) (.con (.bl true)) (.prim .tup [.var 7, .prim .add [.var 6, .con (.int 1)]]) [7]) [some (.int a), some (enc t), some (.int (i + d : Nat)), some (.int o), some (.ref s0.length), some (enc (.node l)), some (.int d), z] S2 = .ok (.ref S2.length) (S2 ++ [.lst ((encs l).map fun c => D.tup [c, .int ((d : Int) + 1)])]) :=
            ev_compT (l := encs l) (s1 := S2) (by simp only [evs_cons, evs_nil, ev_var5, R.bind_ok]; rfl) (by rw [el, LIM]; omega) (by simp only [FUEL]; omega) fun c hc s => ⟨_, rfl, by
              simp only [wipeE, List.set_cons_succ, List.set_cons_zero, ev_p2, ev_var6, ev_var7, ev_con, R.bind_ok, pm_add, ofOpt_some, pm_tup2]⟩
          refine ⟨szs (st' ++ l.map fun c => (c, d + 1)), [some (.int a), some (enc t), some (.int (i + d : Nat)), some (.int o), some (.ref s0.length), some (enc (.node l)), some (.int d), z], (S2 ++ [O.lst ((encs l).map fun c => D.tup [c, .int ((d : Int) + 1)])]).set s0.length (.lst ((st' ++ l.map fun c => (c, d + 1)).map pr)), by rw [szs_append, szs_kids]; omega, ?_, (hold.trans (Old.app ..)).set (Nat.le_refl _), st' ++ l.map fun c => (c, d + 1), i + d, o, _, _, _, rfl, List.getElem?_set_self (by rw [List.length_append]; omega), rfl, by rw [szs_append, szs_kids]; omega, by rw [inP_append, inP_kids]; omega, by rw [outP_append, outP_kids]; omega⟩
          rw [x_elnx (s1 := S2) (by rw [ev_p1, ev_var5, R.bind_ok]; rfl) (by
              rw [x_asg (d := .int (i + d : Nat)) (s1 := S2) (by simp only [ev_p2, ev_var2, ev_var6, R.bind_ok, pm_add, ofOpt_some]; rfl)]
              simp only [List.set_cons_succ, List.set_cons_zero]
              rw [x_ex (d := .non) (by
                rw [ev_p2, ev_p1, ev_var4, R.bind_ok, pm_lstI hw, ofOpt_some, R.bind_ok, ec, R.bind_ok, pm_ext hw2 (app_last ..) (by
                  rw [List.length_map, List.length_map, el, LIM]
                  omega), ofOpt_some]), xs_nil]), xs_nil, kids_pr, List.map_append])
  rw [xs_nx e, x_ret (d := .tup [.int (inT t 0), .int (outT t 0)]) (s1 := s2) (by rw [ev_p2, ev_var p2, R.bind_ok, ev_var p3, R.bind_ok, pm_tup2, ofOpt_some])]
  exact ⟨s2, rfl, o1.trans p1⟩
-- outer against inner
mutual
theorem out_in (a : Nat) : ∀ (t : Tr) (d : Nat), Ary a t → (outT t d : Int) = ((a : Int) - 1) * inT t d + a * forksT t + d
  | .nil, d, _ => by simp [outT, inT, forksT]
  | .node l, d, h => by
    have := outs_ins a l (d + 1) h.2
    rw [outT, inT, forksT, this, h.1]
    simp only [Int.natCast_add, Int.mul_add, Int.sub_mul, Int.natCast_one, Int.mul_one, Int.one_mul]
    omega
theorem outs_ins (a : Nat) : ∀ (l : List Tr) (d : Nat), Arys a l → (outTs l d : Int) = ((a : Int) - 1) * inTs l d + a * forksTs l + l.length * d
  | [], d, _ => by simp [outTs, inTs, forksTs]
  | t :: r, d, h => by
    have e1 := out_in a t d h.1
    have e2 := outs_ins a r d h.2
    rw [outTs, inTs, forksTs, List.length_cons, Int.natCast_add, e1, e2]
    simp only [Int.natCast_add, Int.mul_add, Int.add_mul, Int.sub_mul, Int.natCast_one, Int.mul_one, Int.one_mul]
    omega
end
end K52
set_option Elab.async false
set_option linter.all false
set_option maxRecDepth 100000
set_option maxHeartbeats 1000000
namespace K52
open Mini
theorem for_it {it : It} {l : List D} {t : T} {b : Ev → S → Fl} (Inv : Nat → Ev → S → Prop) (hat : ∀ i env s, Inv i env s → it.at i s = some (l[i]?)) (step : ∀ i d env s, l[i]? = some d → Inv i env s → ∃ env1, bindT t d env = some env1 ∧ ∃ env2 s2, b env1 s = .nx env2 s2 ∧ Inv (i + 1) env2 s2) :
    ∀ (f i : Nat) (env : Ev) (s : S), i ≤ l.length → l.length < f + i → Inv i env s → ∃ env2 s2, forL it t b f i env s = .nx env2 s2 ∧ Inv l.length env2 s2
  | 0, i, env, s, h1, h2, _ => by omega
  | f + 1, i, env, s, h1, h2, h => by
    rw [forL, hat i env s h]
    cases hd : l[i]? with
    | none =>
      have : l.length ≤ i := List.getElem?_eq_none_iff.mp hd
      have e : i = l.length := by omega
      subst e
      exact ⟨env, s, rfl, h⟩
    | some d =>
      have hi : i < l.length := (List.getElem?_eq_some_iff.mp hd).1
      obtain ⟨env1, e1, env2, s2, e2, hn⟩ := step i d env s hd h
      obtain ⟨env3, s3, e3, h3⟩ := for_it Inv hat step f (i + 1) env2 s2 hi (by omega) hn
      refine ⟨env3, s3, ?_, h3⟩
      dsimp only
      rw [e1]
      dsimp only
      rw [e2]
      exact e3
/-- for x in a list of the store, which stays -/
theorem run_lst {c : Cfg} {es : List E} {t : T} {n : Nat} {l : List D} {b : List Mini.St} {env : Ev} {s s1 : S} (Inv : Nat → Ev → S → Prop) (he : evals c es env s = .ok [.ref n] s1) (hn : s1[n]? = some (.lst l)) (hk : ∀ i env s, Inv i env s → s[n]? = some (.lst l)) (hf : l.length < c.fuel) (h0 : Inv 0 env s1)
    (step : ∀ i d env s, l[i]? = some d → Inv i env s → ∃ env1, bindT t d env = some env1 ∧ ∃ env2 s2, execs c b env1 s = .nx env2 s2 ∧ Inv (i + 1) env2 s2) :
    ∃ env2 s2, exec c (.forr .seq es t b) env s = .nx env2 s2 ∧ Inv l.length env2 s2 := by
  obtain ⟨env2, s2, e, h⟩ := for_it (it := .lst n) (t := t) (l := l) (b := fun env s => execs c b env s) Inv (fun i env s h => by
    show (match s[n]? with | some (.lst l) => some (l[i]?) | _ => none) = _
    rw [hk i env s h]) step c.fuel 0 env s1 (Nat.zero_le _) (by omega) h0
  refine ⟨env2, s2, ?_, h⟩
  have hm : mkIt .seq [.ref n] s1 = some (.lst n) := by
    show (match s1[n]? with | some (.lst _) => some (It.lst n) | _ => none) = _
    rw [hn]
  rw [exec, he, R.bind_ok, itR, hm]
  exact e
def isNd : Tr → Bool
  | .nil => false
  | .node _ => true
def kidsL (l : List Tr) : List Tr := l.flatMap kids
/-- the levels from one on -/
def lvls : Nat → List Tr → List (List Tr)
  | 0, q => [q]
  | n + 1, q => if q.any isNd then q :: lvls n (kidsL q) else [q]
theorem kidsL_cons (t : Tr) (r : List Tr) : kidsL (t :: r) = kids t ++ kidsL r := by simp [kidsL]
theorem kidsL_append (l r : List Tr) : kidsL (l ++ r) = kidsL l ++ kidsL r := by simp [kidsL]
theorem kidsL_size : ∀ q : List Tr, sizeTs (kidsL q) + q.length = sizeTs q
  | [] => rfl
  | t :: r => by
    have := kidsL_size r
    rw [kidsL_cons, sizeTs_append, List.length_cons, sizeTs, sizeT_kids]
    omega
theorem kidsL_arys {a : Nat} : ∀ q : List Tr, Arys a q → Arys a (kidsL q)
  | [], _ => trivial
  | .nil :: r, h => kidsL_arys r h.2
  | .node l :: r, h => by
    rw [kidsL_cons]
    exact (arys_append _ _).mpr ⟨h.1.2, kidsL_arys r h.2⟩
theorem bq_level : ∀ (q r : List Tr), bq (sizeTs (q ++ r)) (q ++ r) = q ++ bq (sizeTs (r ++ kidsL q)) (r ++ kidsL q)
  | [], r => by simp [kidsL]
  | t :: q, r => by
    rw [List.cons_append, bq_cons, List.append_assoc, bq_level q (r ++ kids t), kidsL_cons, List.append_assoc]
    rfl
theorem noNd : ∀ {q : List Tr}, q.any isNd = false → kidsL q = []
  | [], _ => rfl
  | .nil :: r, h => by
    rw [kidsL_cons, noNd (q := r) (by simpa [isNd] using h)]
    rfl
  | .node l :: r, h => by simp [isNd] at h
theorem lvls_bq : ∀ (n : Nat) (q : List Tr), sizeTs q ≤ n → (lvls n q).flatten = bq (sizeTs q) q
  | 0, q, h => by
    have := sizeTs_len q
    obtain rfl : q = [] := List.eq_nil_of_length_eq_zero (by omega)
    rfl
  | n + 1, q, h => by
    have e := bq_level q []
    rw [List.append_nil, List.nil_append] at e
    rw [lvls, e]
    split
    · have := kidsL_size q
      rename_i hq
      have hne : 0 < q.length := by cases q with
        | nil => simp at hq
        | cons t r => simp
      rw [List.flatten_cons, lvls_bq n (kidsL q) (by omega)]
    · rename_i hq
      rw [noNd (by simpa using hq)]
      simp [bq_nil]
theorem pm_anyL {s : S} {n : Nat} {l : List D} {bs : List Bool} (h : s[n]? = some (.lst l)) (e : l = bs.map .bl) : prim .any [.ref n] s = some (.bl (bs.any id), s) := by
  show (match s[n]? with
    | some (.lst l) => (blsD l).map fun (bs : List Bool) => (D.bl (bs.any id), s)
    | _ => none) = _
  rw [h, e]
  dsimp only
  rw [blsD_map]
  rfl
theorem ix_last {s : S} {n : Nat} {l : List D} {d : D} (h : s[n]? = some (.lst (l ++ [d]))) : prim .ix [.ref n, .int (-1)] s = some (d, s) := pm_ixL h (by
  unfold L2.atI L2.ixN
  rw [if_neg (by omega), List.length_append, List.length_singleton, if_pos (by omega)]
  show (l ++ [d])[(((l.length + 1 : Nat) : Int) + -1).toNat]? = _
  rw [show (((l.length + 1 : Nat) : Int) + -1).toNat = l.length by omega, List.getElem?_append_right (Nat.le_refl _), Nat.sub_self]
  rfl)
/-- lists of levels as they lie -/
def Lie (s : S) (n0 : Nat) : List Nat → List (List Tr) → Prop
  | [], [] => True
  | r :: rs, q :: qs => (n0 ≤ r ∧ s[r]? = some (.lst (encs q))) ∧ Lie s n0 rs qs
  | _, _ => False
theorem lie_app {s : S} {n0 : Nat} : ∀ {rs : List Nat} {qs : List (List Tr)} {r : Nat} {q : List Tr}, Lie s n0 rs qs → n0 ≤ r → s[r]? = some (.lst (encs q)) → Lie s n0 (rs ++ [r]) (qs ++ [q])
  | [], [], _, _, _, h1, h2 => ⟨⟨h1, h2⟩, trivial⟩
  | _ :: _, _ :: _, _, _, ⟨h, h'⟩, h1, h2 => ⟨h, lie_app h' h1 h2⟩
theorem lie_mono {s s' : S} {n0 : Nat} (hk : ∀ (r : Nat) (o : O), n0 ≤ r → s[r]? = some o → s'[r]? = some o) : ∀ {rs : List Nat} {qs : List (List Tr)}, Lie s n0 rs qs → Lie s' n0 rs qs
  | [], [], _ => trivial
  | _ :: _, _ :: _, ⟨h, h'⟩ => ⟨⟨h.1, hk _ _ h.1 h.2⟩, lie_mono hk h'⟩
theorem lie_len {s : S} {n0 : Nat} : ∀ {rs : List Nat} {qs : List (List Tr)}, Lie s n0 rs qs → rs.length = qs.length
  | [], [], _ => rfl
  | _ :: _, _ :: _, ⟨_, h'⟩ => by rw [List.length_cons, List.length_cons, lie_len h']
theorem encs_isN (l : List Tr) : (encs l).map (fun d => D.bl (!isNon d)) = (l.map isNd).map .bl := by
  rw [encs_map, List.map_map, List.map_map]
  apply List.map_congr_left
  intro t _
  cases t <;> rfl
/-- one level on -/
theorem later_ok (k : Nat) {env : Ev} {s : S} {f c g : Nat} {fl : List D} {q : List Tr} {x2 : Option D} {t : D} (hg : s[f]? = some (.lst (fl ++ [.ref c]))) (hc : s[c]? = some (.lst (encs q))) (hx : s[g]? = some (.lst [])) (h1 : f ≠ g) (h2 : c ≠ g) (hz : sizeTs q ≤ 100000) (hge : env = [some t, some (.ref f), x2, some (.ref g)]) :
    ∃ env2 s2, exec (cf k) (.forr .seq [.prim .ix [.var 1, .prim .neg [.con (.int 1)]]] (.nm 2) [.ex (.prim .ext [.prim .lstI [.var 3], .ife (.prim .ntN [.var 2]) (.prim .list1 [.var 2]) (.prim .lst [])])]) env s = .nx env2 s2 ∧ (∃ y, env2 = [some t, some (.ref f), y, some (.ref g)]) ∧ s2[g]? = some (.lst (encs (kidsL q))) ∧ s.length ≤ s2.length ∧ ∀ r, r ≠ g → r < s.length → s2[r]? = s[r]? := by
  subst hge
  have hgl : g < s.length := (List.getElem?_eq_some_iff.mp hx).1
  have hcl : c < s.length := (List.getElem?_eq_some_iff.mp hc).1
  obtain ⟨env2, s2, e, ⟨y, e2⟩, e3, e4, e5⟩ := run_lst (c := cf k) (es := [.prim .ix [.var 1, .prim .neg [.con (.int 1)]]]) (t := .nm 2) (n := c) (l := encs q) (b := [.ex (.prim .ext [.prim .lstI [.var 3], .ife (.prim .ntN [.var 2]) (.prim .list1 [.var 2]) (.prim .lst [])])]) (env := [some t, some (.ref f), x2, some (.ref g)]) (s := s) (s1 := s)
    (fun i env s2 => (∃ y, env = [some t, some (.ref f), y, some (.ref g)]) ∧ s2[g]? = some (.lst (encs (kidsL (q.take i)))) ∧ s.length ≤ s2.length ∧ ∀ r, r ≠ g → r < s.length → s2[r]? = s[r]?)
    (by simp only [evs_cons, evs_nil, ev_p2, ev_p1, ev_var1, ev_con, R.bind_ok, pm_neg, ofOpt_some, ix_last hg]) hc (fun i env s2 h => by rw [h.2.2.2 c h2 hcl, hc]) (by
      have := sizeTs_len q
      rw [encs_len]; simp only [FUEL]; omega) ⟨⟨x2, rfl⟩, hx, Nat.le_refl _, fun _ _ _ => rfl⟩ (fun i d env s2 hd ⟨⟨y, e1⟩, i1, i2, i3⟩ => by
      subst e1
      rw [encs_map, List.getElem?_map] at hd
      obtain ⟨t1, ht, rfl⟩ := Option.map_eq_some_iff.mp hd
      have htk : kidsL (q.take (i + 1)) = kidsL (q.take i) ++ kids t1 := by
        rw [List.take_add_one, ht, kidsL_append]
        simp [kidsL]
      have hsz : (kidsL (q.take (i + 1))).length ≤ 100000 := by
        have z1 := sizeTs_len (kidsL (q.take (i + 1)))
        have z2 := kidsL_size (q.take (i + 1))
        have z3 := sizeTs_append (q.take (i + 1)) (q.drop (i + 1))
        rw [List.take_append_drop] at z3
        omega
      rw [htk, List.length_append] at hsz
      have hgl2 : g < s2.length := by omega
      refine ⟨_, rfl, [some t, some (.ref f), some (enc t1), some (.ref g)], (s2 ++ [O.lst (encs (kids t1))]).set g (.lst (encs (kidsL (q.take i)) ++ encs (kids t1))), ?_, ⟨_, rfl⟩, ?_, ?_, ?_⟩
      · simp only [List.set_cons_succ, List.set_cons_zero]
        have ei : eval (cf k) (.ife (.prim .ntN [.var 2]) (.prim .list1 [.var 2]) (.prim .lst [])) [some t, some (.ref f), some (enc t1), some (.ref g)] s2 = .ok (.ref s2.length) (s2 ++ [.lst (encs (kids t1))]) := by
          rw [ev_ife, ev_p1, ev_var2, R.bind_ok, pm_ntN, ofOpt_some]
          cases t1 with
          | nil => rfl
          | node l =>
            rw [show (!isNon (enc (.node l))) = true from rfl, condR_t, ev_p1, ev_var2, R.bind_ok]
            rfl
        rw [x_ex (d := .non) (by
          rw [ev_p2, ev_p1, ev_var3, R.bind_ok, pm_lstI i1, ofOpt_some, R.bind_ok, ei, R.bind_ok, pm_ext (by rw [List.getElem?_append_left hgl2]; exact i1) (app_last ..) (by rw [encs_len, encs_len, LIM]; omega), ofOpt_some]), xs_nil]
      · rw [htk, encs_append]
        exact List.getElem?_set_self (by rw [List.length_append]; omega)
      · rw [List.length_set, List.length_append]; omega
      · intro r hr hr2
        rw [List.getElem?_set_ne (Ne.symm hr), List.getElem?_append_left (by omega), i3 r hr hr2])
  rw [encs_len, List.take_length] at e3
  exact ⟨env2, s2, e, ⟨y, e2⟩, e3, e4, e5⟩
end K52

set_option Elab.async false
set_option linter.all false
set_option maxRecDepth 100000
set_option maxHeartbeats 1000000
namespace K52
open Mini
theorem levels_ok (k : Nat) (t : Tr) (s : S) (hz : sizeT t ≤ 100000) : ∃ (s' : S) (f : Nat) (rs : List Nat), run (k + 1) 26 [enc t] s = .ok (.ref f) s' ∧ Old s s' ∧ s.length ≤ f ∧ s'[f]? = some (.lst (rs.map .ref)) ∧ Lie s' s.length rs (lvls (sizeT t) [t]) := by
  rw [run, callN_at (n := 4) (np := 1) (body := B26) rfl rfl, B26]
  show ∃ (s' : S) (f : Nat) (rs : List Nat), retF (execs (cf k) _ [some (enc t), none, none, none] s) = _ ∧ _
  obtain ⟨f, hf⟩ : ∃ f, f = s.length + 1 := ⟨_, rfl⟩
  rw [x_asg (d := .ref f) (s1 := (s ++ [.lst [enc t]]) ++ [.lst [.ref s.length]]) (by
    simp only [ev_p1, ev_var0, R.bind_ok, pm_lst1, ofOpt_some]
    rw [hf, List.length_append, List.length_singleton])]
  simp only [List.set_cons_succ, List.set_cons_zero]
  obtain ⟨env2, s2, e, p1, p2, rs, p3, p4⟩ := run_whl (c := cf k) (q := .prim .any [.comp .seq [.prim .ix [.var 1, .prim .neg [.con (.int 1)]]] (.nm 2) (.con (.bl true)) (.prim .ntN [.var 2]) [2]]) (b := [.asg (.nm 3) (.prim .lst []),
    .forr .seq [.prim .ix [.var 1, .prim .neg [.con (.int 1)]]] (.nm 2) [.ex (.prim .ext [.prim .lstI [.var 3], .ife (.prim .ntN [.var 2]) (.prim .list1 [.var 2]) (.prim .lst [])])],
    .ex (.prim .app [.prim .lstI [.var 1], .var 3])])
    (env := [some (enc t), some (.ref f), none, none]) (s := (s ++ [.lst [enc t]]) ++ [.lst [.ref s.length]]) (n := sizeT t)
    (fun n env s2 => Old s s2 ∧ ∃ (rs : List Nat) (c : Nat) (pre : List (List Tr)) (q : List Tr) (x y : Option D), env = [some (enc t), some (.ref f), x, y] ∧ s2[f]? = some (.lst (rs.map .ref ++ [.ref c])) ∧ f ∉ rs ++ [c] ∧ Lie s2 s.length (rs ++ [c]) (pre ++ [q]) ∧ pre ++ lvls n q = lvls (sizeT t) [t] ∧ sizeTs q ≤ n ∧ rs.length + n ≤ sizeT t)
    (fun env s2 => Old s s2 ∧ env[1]? = some (some (.ref f)) ∧ ∃ rs : List Nat, s2[f]? = some (.lst (rs.map .ref)) ∧ Lie s2 s.length rs (lvls (sizeT t) [t])) (by simp only [FUEL]; omega)
    ⟨(Old.app ..).trans (Old.app ..), [], s.length, [], [t], none, none, rfl, by
      rw [hf, show s.length + 1 = (s ++ [O.lst [enc t]]).length by simp, app_last]; rfl, by simp [hf], ⟨⟨Nat.le_refl _, by
      rw [List.getElem?_append_left (by simp), app_last]; rfl⟩, trivial⟩, rfl, by simp [sizeTs], by simp⟩ (fun n env s2 ⟨ho, rs, c, pre, q, x, y, ee, hs, hnf, hlie, hl, hq, hn⟩ => by
      subst ee
      have hfl : f < s2.length := (List.getElem?_eq_some_iff.mp hs).1
      obtain ⟨hcl, hc⟩ : s.length ≤ c ∧ s2[c]? = some (.lst (encs q)) := by
        clear hs hnf hl
        induction rs generalizing pre with
        | nil => cases pre with
          | nil => exact hlie.1
          | cons p pre => cases pre <;> exact absurd hlie.2 (by simp [Lie])
        | cons r rs ih => cases pre with
          | nil => cases rs <;> exact absurd hlie.2 (by simp [Lie])
          | cons p pre => exact ih pre hlie.2 (by simp at hn; omega)
      have hc2 : c < s2.length := (List.getElem?_eq_some_iff.mp hc).1
      have hql := sizeTs_len q
      have eq : eval (cf k) (.prim .any [.comp .seq [.prim .ix [.var 1, .prim .neg [.con (.int 1)]]] (.nm 2) (.con (.bl true)) (.prim .ntN [.var 2]) [2]]) [some (enc t), some (.ref f), x, y] s2 = .ok (.bl (q.any isNd)) (s2 ++ [.lst ((encs q).map fun d => .bl (!isNon d))]) := by
        rw [ev_p1, ev_compL (n := c) (l := encs q) (g := fun d => .bl (!isNon d)) (s1 := s2) (by simp only [evs_cons, evs_nil, ev_p2, ev_p1, ev_var1, ev_con, R.bind_ok, pm_neg, ofOpt_some, ix_last hs]) hc (by rw [encs_len, LIM]; omega) (by rw [encs_len]; simp only [FUEL]; omega) (fun d hd acc => ⟨_, rfl, by
          simp only [wipeE, List.set_cons_succ, List.set_cons_zero, ev_p1, ev_var2, R.bind_ok, pm_ntN, ofOpt_some]⟩), R.bind_ok, pm_anyL (bs := q.map isNd) (app_last ..) (encs_isN q), ofOpt_some]
        rw [List.any_map]
        rfl
      have ho2 : Old s (s2 ++ [O.lst ((encs q).map fun d => D.bl (!isNon d))]) := ho.trans (Old.app ..)
      have hsx : (s2 ++ [O.lst ((encs q).map fun d => D.bl (!isNon d))])[f]? = some (.lst (rs.map .ref ++ [.ref c])) := by rw [List.getElem?_append_left hfl, hs]
      have hlx : Lie (s2 ++ [O.lst ((encs q).map fun d => D.bl (!isNon d))]) s.length (rs ++ [c]) (pre ++ [q]) := lie_mono (fun r o _ h => by rw [List.getElem?_append_left (List.getElem?_eq_some_iff.mp h).1, h]) hlie
      have hcx : (s2 ++ [O.lst ((encs q).map fun d => D.bl (!isNon d))])[c]? = some (.lst (encs q)) := by rw [List.getElem?_append_left hc2, hc]
      generalize hS : s2 ++ [O.lst ((encs q).map fun d => D.bl (!isNon d))] = S2 at eq ho2 hsx hlx hcx
      have hfl2 : f < S2.length := (List.getElem?_eq_some_iff.mp hsx).1
      cases hany : q.any isNd with
      | false =>
        left
        refine ⟨S2, by rw [eq, hany], ho2, rfl, rs ++ [c], by rw [hsx]; simp, ?_⟩
        rw [← hl]
        have : lvls n q = [q] := by cases n <;> simp [lvls, hany]
        rw [this]
        exact hlx
      | true =>
        right
        have hqp : 0 < q.length := by
          cases q with
          | nil => simp at hany
          | cons t r => simp
        obtain ⟨m, rfl⟩ : ∃ m, n = m + 1 := ⟨n - 1, by omega⟩
        refine ⟨S2, by rw [eq, hany], m, ?_⟩
        rw [lvls, hany] at hl
        simp only [if_true] at hl
        obtain ⟨g, hg⟩ : ∃ g, g = S2.length := ⟨_, rfl⟩
        have hkz := kidsL_size q
        obtain ⟨env3, s3, e3, ⟨y3, e4⟩, e5, e6, e7⟩ := later_ok k (env := [some (enc t), some (.ref f), x, some (.ref g)]) (s := S2 ++ [.lst []]) (f := f) (c := c) (g := g) (fl := rs.map .ref) (q := q) (x2 := x) (t := enc t) (by rw [List.getElem?_append_left hfl2, hsx]) (by rw [List.getElem?_append_left (List.getElem?_eq_some_iff.mp hcx).1, hcx]) (by rw [hg, app_last]) (by omega) (by have := (List.getElem?_eq_some_iff.mp hcx).1; omega) (by omega) rfl
        subst e4
        have hkeep : ∀ (r : Nat) (o : O), S2[r]? = some o → s3[r]? = some o := fun r o h => by
          have hr := (List.getElem?_eq_some_iff.mp h).1
          rw [e7 r (by omega) (by rw [List.length_append]; omega), List.getElem?_append_left hr, h]
        have hgl : g < s3.length := (List.getElem?_eq_some_iff.mp e5).1
        have hf3 : s3[f]? = some (.lst (rs.map .ref ++ [.ref c])) := hkeep _ _ hsx
        have hgf : g ≠ f := by omega
        rw [List.length_append] at e6
        have ho3 : Old s s3 := ⟨by have := ho2.1; omega, fun r hr => by
          have h2 := ho2.1
          rw [e7 r (by omega) (by rw [List.length_append]; omega), List.getElem?_append_left (by omega), ho2.2 r hr]⟩
        have hrl : (rs.map D.ref ++ [D.ref c]).length < LIM := by rw [List.length_append, List.length_map, List.length_singleton, LIM]; omega
        refine ⟨[some (enc t), some (.ref f), y3, some (.ref g)], s3.set f (.lst (rs.map .ref ++ [.ref c] ++ [.ref g])), rfl, ?_, ho3.set (by omega), rs ++ [c], g, pre ++ [q], kidsL q, y3, _, rfl, ?_, ?_, ?_, ?_, by omega, by rw [List.length_append, List.length_singleton]; omega⟩
        · rw [x_asg (d := .ref g) (s1 := S2 ++ [.lst []]) (by rw [ev_p0, pm_lst0, ofOpt_some, hg])]
          simp only [List.set_cons_succ, List.set_cons_zero]
          rw [xs_nx e3, x_ex (d := .non) (by rw [ev_p2, ev_p1, ev_var1, R.bind_ok, pm_lstI hf3, ofOpt_some, R.bind_ok, ev_var3, R.bind_ok, pm_app hf3 hrl, ofOpt_some]), xs_nil]
        · rw [List.getElem?_set_self (by omega)]
          simp
        · rw [List.mem_append, not_or]
          exact ⟨hnf, by simp; omega⟩
        · have hset : ∀ (r : Nat), r ≠ f → (s3.set f (.lst (rs.map .ref ++ [.ref c] ++ [.ref g])))[r]? = s3[r]? := fun r hr => List.getElem?_set_ne (Ne.symm hr)
          refine lie_app ?_ (by have := ho2.1; omega) (by rw [hset g hgf, e5])
          have : ∀ {rs' : List Nat} {qs : List (List Tr)}, f ∉ rs' → Lie S2 s.length rs' qs → Lie (s3.set f (.lst (rs.map .ref ++ [.ref c] ++ [.ref g]))) s.length rs' qs := by
            intro rs'
            induction rs' with
            | nil => intro qs _ h; cases qs with
              | nil => trivial
              | cons a b => exact absurd h (by simp [Lie])
            | cons r rs' ih => intro qs hn h; cases qs with
              | nil => exact absurd h (by simp [Lie])
              | cons a b =>
                simp only [List.mem_cons, not_or] at hn
                exact ⟨⟨h.1.1, by rw [hset r (fun e => hn.1 e.symm)]; exact hkeep _ _ h.1.2⟩, ih hn.2 h.2⟩
          exact this hnf hlx
        · rw [← hl, List.append_assoc]
          rfl)
  refine ⟨s2, f, rs, ?_, p1, by omega, p3, p4⟩
  rw [xs_nx e, x_ret (d := .ref f) (s1 := s2) (ev_var p2)]
  rfl
end K52
set_option Elab.async false
set_option linter.all false
set_option maxRecDepth 100000
set_option maxHeartbeats 1000000
namespace K52
open Mini
def cN (q : List Tr) : Nat := (q.filter isNd).length
def sI : Nat → List (List Tr) → Nat
  | _, [] => 0
  | d, q :: r => d * cN q + sI (d + 1) r
def sO : Nat → List (List Tr) → Nat
  | _, [] => 0
  | d, q :: r => d * (q.length - cN q) + sO (d + 1) r
theorem cN_le (q : List Tr) : cN q ≤ q.length := List.length_filter_le ..
theorem inTs_append (d : Nat) : ∀ l m : List Tr, inTs (l ++ m) d = inTs l d + inTs m d
  | [], m => by simp [inTs]
  | t :: l, m => by simp [inTs, inTs_append d l m]; omega
theorem outTs_append (d : Nat) : ∀ l m : List Tr, outTs (l ++ m) d = outTs l d + outTs m d
  | [], m => by simp [outTs]
  | t :: l, m => by simp [outTs, outTs_append d l m]; omega
theorem inTs_kids (d : Nat) : ∀ q : List Tr, inTs q d = d * cN q + inTs (kidsL q) (d + 1)
  | [] => by simp [inTs, kidsL, cN]
  | .nil :: r => by
    have := inTs_kids d r
    rw [kidsL_cons, show kids .nil = [] from rfl, List.nil_append]
    simpa [inTs, inT, cN, isNd] using this
  | .node l :: r => by
    have := inTs_kids d r
    rw [kidsL_cons, inTs_append, show kids (.node l) = l from rfl]
    simp only [inTs, inT, cN, isNd, List.filter_cons, if_true, List.length_cons, Nat.mul_add, Nat.mul_one] at this ⊢
    omega
theorem outTs_kids (d : Nat) : ∀ q : List Tr, outTs q d = d * (q.length - cN q) + outTs (kidsL q) (d + 1)
  | [] => by simp [outTs, kidsL]
  | .nil :: r => by
    have := outTs_kids d r
    have h2 := cN_le r
    rw [kidsL_cons, show kids .nil = [] from rfl, List.nil_append]
    have e : cN (.nil :: r) = cN r := by simp [cN, isNd]
    rw [e, List.length_cons, show r.length + 1 - cN r = (r.length - cN r) + 1 by omega, Nat.mul_add, outTs, outT]
    omega
  | .node l :: r => by
    have := outTs_kids d r
    rw [kidsL_cons, outTs_append, show kids (.node l) = l from rfl]
    have e : cN (.node l :: r) = cN r + 1 := by rw [cN, List.filter_cons, if_pos (show isNd (.node l) = true from rfl), List.length_cons]; rfl
    rw [e, List.length_cons, show r.length + 1 - (cN r + 1) = r.length - cN r by omega, outTs, outT]
    omega
theorem noNd_c {q : List Tr} (h : q.any isNd = false) : cN q = 0 := by
  rw [cN, List.length_eq_zero_iff, List.filter_eq_nil_iff]
  intro t ht
  have := List.any_eq_false.mp h t ht
  simpa using this
theorem sI_lvls : ∀ (n d : Nat) (q : List Tr), sizeTs q ≤ n → sI d (lvls n q) = inTs q d
  | 0, d, q, h => by
    have := sizeTs_len q
    obtain rfl : q = [] := List.eq_nil_of_length_eq_zero (by omega)
    rfl
  | n + 1, d, q, h => by
    rw [lvls]
    split
    · have := kidsL_size q
      rename_i hq
      have hne : 0 < q.length := by cases q with
        | nil => simp at hq
        | cons t r => simp
      rw [sI, sI_lvls n (d + 1) (kidsL q) (by omega), ← inTs_kids]
    · rename_i hq
      have hq : q.any isNd = false := by simpa using hq
      rw [sI, inTs_kids d q, noNd hq]
      rfl
theorem sO_lvls : ∀ (n d : Nat) (q : List Tr), sizeTs q ≤ n → sO d (lvls n q) = outTs q d
  | 0, d, q, h => by
    have := sizeTs_len q
    obtain rfl : q = [] := List.eq_nil_of_length_eq_zero (by omega)
    rfl
  | n + 1, d, q, h => by
    rw [lvls]
    split
    · have := kidsL_size q
      rename_i hq
      have hne : 0 < q.length := by cases q with
        | nil => simp at hq
        | cons t r => simp
      rw [sO, sO_lvls n (d + 1) (kidsL q) (by omega), ← outTs_kids]
    · rename_i hq
      have hq : q.any isNd = false := by simpa using hq
      rw [sO, outTs_kids d q, noNd hq]
      rfl
theorem lie_get {s : S} {n0 : Nat} : ∀ {rs : List Nat} {qs : List (List Tr)} {i r : Nat}, Lie s n0 rs qs → rs[i]? = some r → ∃ q, qs[i]? = some q ∧ s[r]? = some (.lst (encs q))
  | _ :: _, q :: _, 0, r, ⟨h, _⟩, e => ⟨q, rfl, by rw [← Option.some.inj e]; exact h.2⟩
  | _ :: _, _ :: _, i + 1, r, ⟨_, h'⟩, e => by
    obtain ⟨q, e1, e2⟩ := lie_get (i := i) h' e
    exact ⟨q, e1, e2⟩
theorem lvls_size : ∀ (n : Nat) (q : List Tr), sizeTs q ≤ n → ∀ p ∈ lvls n q, sizeTs p ≤ sizeTs q
  | 0, q, h, p, hp => by
    simp [lvls] at hp
    rw [hp]
    exact Nat.le_refl _
  | n + 1, q, h, p, hp => by
    rw [lvls] at hp
    split at hp
    · have := kidsL_size q
      rename_i hq
      have hne : 0 < q.length := by cases q with
        | nil => simp at hq
        | cons t r => simp
      rcases List.mem_cons.mp hp with rfl | hp
      · exact Nat.le_refl _
      · have := lvls_size n (kidsL q) (by omega) p hp
        omega
    · simp at hp
      rw [hp]
      exact Nat.le_refl _
theorem lvls_len : ∀ (n : Nat) (q : List Tr), (lvls n q).length ≤ n + 1
  | 0, q => by simp [lvls]
  | n + 1, q => by
    rw [lvls]
    split
    · have := lvls_len n (kidsL q)
      rw [List.length_cons]
      omega
    · simp
theorem run_enuL {c : Cfg} {es : List E} {t : T} {n : Nat} {l : List D} {b : List Mini.St} {env : Ev} {s s1 : S} (Inv : Nat → Ev → S → Prop) (he : evals c es env s = .ok [.ref n] s1) (hn : s1[n]? = some (.lst l)) (hk : ∀ i env s, Inv i env s → s[n]? = some (.lst l)) (hf : l.length < c.fuel) (h0 : Inv 0 env s1)
    (step : ∀ i d env s, l[i]? = some d → Inv i env s → ∃ env1, bindT t (.tup [.int (i : Nat), d]) env = some env1 ∧ ∃ env2 s2, execs c b env1 s = .nx env2 s2 ∧ Inv (i + 1) env2 s2) :
    ∃ env2 s2, exec c (.forr .enu es t b) env s = .nx env2 s2 ∧ Inv l.length env2 s2 := by
  have el : (enuD 0 l).length = l.length := enuD_len l 0
  obtain ⟨env2, s2, e, h⟩ := for_it (it := .enu n) (t := t) (l := enuD 0 l) (b := fun env s => execs c b env s) Inv (fun i env s h => by
    show (match s[n]? with | some (.lst l) => some ((l[i]?).map fun d => D.tup [.int (i : Int), d]) | _ => none) = _
    rw [hk i env s h, enuD_get, Nat.zero_add]) (fun i d env s hd h => by
    rw [enuD_get, Nat.zero_add] at hd
    obtain ⟨d', hd', rfl⟩ := Option.map_eq_some_iff.mp hd
    exact step i d' env s hd' h) c.fuel 0 env s1 (Nat.zero_le _) (by omega) h0
  rw [el] at h
  refine ⟨env2, s2, ?_, h⟩
  have hm : mkIt .enu [.ref n] s1 = some (.enu n) := by
    show (match s1[n]? with | some (.lst _) => some (It.enu n) | _ => none) = _
    rw [hn]
  rw [exec, he, R.bind_ok, itR, hm]
  exact e
theorem cut_isN (q : List Tr) : (encs q).filterMap (fun d => if !isNon d then some d else none) = encs (q.filter isNd) := by
  rw [encs_map, encs_map, List.filterMap_map]
  induction q with
  | nil => rfl
  | cons t r ih => cases t with
    | nil => rw [List.filterMap_cons, List.filter_cons, if_neg (by simp [isNd])]; exact ih
    | node l => rw [List.filterMap_cons, List.filter_cons, if_pos (show isNd (.node l) = true from rfl), List.map_cons, ← ih]; rfl
theorem ev_compLq {c : Cfg} {es : List E} {t : T} {q e : E} {vs : List Nat} {env : Ev} {s s1 : S} {n : Nat} {l : List D} {g : D → Option D} (he : evals c es env s = .ok [.ref n] s1) (hn : s1[n]? = some (.lst l)) (hl : l.length < LIM) (hf : l.length < c.fuel)
    (hs : ∀ d ∈ l, ∀ acc : List D, ∃ env1, bindT t d (wipeE env vs) = some env1 ∧ condR (eval c q env1 (s1 ++ [.lst acc])) (fun s4 => (eval c e env1 s4).bind fun y s5 => .ok (some y) s5) (fun s4 => .ok none s4) = .ok (g d) (s1 ++ [.lst acc])) :
    eval c (.comp .seq es t q e vs) env s = .ok (.ref s1.length) (s1 ++ [.lst (l.filterMap g)]) := by
  have hm : mkIt .seq [.ref n] s1 = some (.lst n) := by
    show (match s1[n]? with | some (.lst _) => some (It.lst n) | _ => none) = _
    rw [hn]
  exact ev_comp (l := l) he hm (fun i acc => lst_at hn) hl hf hs
theorem sums_ok (k : Nat) (t : Tr) (s : S) (hz : sizeT t ≤ 100000) : ∃ s', run (k + 2) 29 [enc t] s = .ok (.tup [.int (inT t 0), .int (outT t 0)]) s' ∧ Old s s' := by
  rw [run, callN_at (n := 7) (np := 1) (body := B29) rfl rfl, B29]
  show ∃ s', retF (execs (cf (k + 1)) _ [some (enc t), none, none, none, none, none, none] s) = _ ∧ _
  rw [x_tp (l := [.int 0, .int 0]) (s1 := s) (env1 := [some (enc t), some (.int 0), some (.int 0), none, none, none, none]) (s2 := s) (by simp only [ev_p2, ev_con, R.bind_ok, pm_tup2, ofOpt_some]) rfl]
  obtain ⟨s1, f, rs, e1, o1, hfl, hf, hlie⟩ := levels_ok k t s hz
  have e1 : callN TBL FUEL (k + 1) 26 [enc t] s = .ok (.ref f) s1 := e1
  have hL1 := lvls_size (sizeT t) [t] (by simp [sizeTs])
  have hL2 := lvls_len (sizeT t) [t]
  have hI := sI_lvls (sizeT t) 0 [t] (by simp [sizeTs])
  have hO := sO_lvls (sizeT t) 0 [t] (by simp [sizeTs])
  have hrl := lie_len hlie
  generalize hLL : lvls (sizeT t) [t] = L at hlie hL1 hL2 hI hO hrl
  simp only [inTs, outTs, Nat.add_zero] at hI hO
  simp only [sizeTs, Nat.add_zero] at hL1
  obtain ⟨env2, s2, e, p1, x, y, z, u, a, b, p2, p3, p4⟩ := run_enuL (c := cf (k + 1)) (es := [.call 26 [.var 0]]) (t := .tp [(.nm 3), (.nm 4)]) (n := f) (l := rs.map .ref) (b := [.asg (.nm 5) (.prim .len [.comp .seq [.var 4] (.nm 6) (.prim .ntN [.var 6]) (.var 6) [6]]),
    .asg (.nm 1) (.prim .add [.var 1, .prim .mul [.var 3, .var 5]]),
    .asg (.nm 2) (.prim .add [.var 2, .prim .mul [.var 3, .prim .sub [.prim .len [.var 4], .var 5]]])])
    (env := [some (enc t), some (.int 0), some (.int 0), none, none, none, none]) (s := s) (s1 := s1)
    (fun i env s2 => Old s1 s2 ∧ ∃ (x y z u : Option D) (a b : Nat), env = [some (enc t), some (.int a), some (.int b), x, y, z, u] ∧ a + sI i (L.drop i) = inT t 0 ∧ b + sO i (L.drop i) = outT t 0)
    (by simp only [evs_cons, evs_nil, ev_call1, ev_var0, R.bind_ok, e1]) hf (fun i env s h => h.1.at hf) (by rw [List.length_map]; simp only [FUEL]; omega) ⟨Old.refl _, none, none, none, none, 0, 0, rfl, by rw [List.drop_zero]; omega, by rw [List.drop_zero]; omega⟩
    (fun i d env s2 hd ⟨o, x, y, z, u, a, b, ee, i1, i2⟩ => by
      subst ee
      rw [List.getElem?_map] at hd
      obtain ⟨r, hr, rfl⟩ := Option.map_eq_some_iff.mp hd
      obtain ⟨q, hq, hrq⟩ := lie_get hlie hr
      have hrq2 := o.at hrq
      have hqm := hL1 q (List.mem_of_getElem? hq)
      have hql := sizeTs_len q
      have hi : i < L.length := (List.getElem?_eq_some_iff.mp hq).1
      have eb : L[i] = q := by
        have := List.getElem?_eq_getElem hi
        rw [hq] at this
        exact (Option.some.inj this).symm
      rw [List.drop_eq_getElem_cons hi, eb] at i1 i2
      rw [sI] at i1
      rw [sO] at i2
      have hc := cN_le q
      refine ⟨_, rfl, [some (enc t), some (.int (a + i * cN q : Nat)), some (.int (b + i * (q.length - cN q) : Nat)), some (.int i), some (.ref r), some (.int (cN q)), u], s2 ++ [.lst (encs (q.filter isNd))], ?_, o.trans (Old.app ..), _, _, _, _, _, _, rfl, by omega, by omega⟩
      simp only [List.set_cons_succ, List.set_cons_zero]
      have hi2 : i < 100000 + 1 := by omega
      rw [x_asg (d := .int (cN q)) (s1 := s2 ++ [.lst (encs (q.filter isNd))]) (by
        rw [ev_p1, ev_compLq (n := r) (l := encs q) (g := fun d => if !isNon d then some d else none) (s1 := s2) (by simp only [evs_cons, evs_nil, ev_var4, R.bind_ok]) hrq2 (by rw [encs_len, LIM]; omega) (by rw [encs_len]; simp only [FUEL]; omega) (fun d hd acc => ⟨_, rfl, by
          simp only [wipeE, List.set_cons_succ, List.set_cons_zero, ev_p1, ev_var6, R.bind_ok, pm_ntN, ofOpt_some]
          cases isNon d <;> rfl⟩), R.bind_ok, cut_isN, pm_lenL (app_last ..), ofOpt_some, encs_len]
        rfl)]
      simp only [List.set_cons_succ, List.set_cons_zero]
      rw [x_asg (d := .int (a + i * cN q : Nat)) (s1 := s2 ++ [.lst (encs (q.filter isNd))]) (by
        simp only [ev_p2, ev_var1, ev_var3, ev_var5, R.bind_ok]
        rw [pm_mul (.inl (by omega)), ofOpt_some, R.bind_ok, pm_add, ofOpt_some, Int.natCast_add, Int.natCast_mul])]
      simp only [List.set_cons_succ, List.set_cons_zero]
      rw [x_asg (d := .int (b + i * (q.length - cN q) : Nat)) (s1 := s2 ++ [.lst (encs (q.filter isNd))]) (by
        simp only [ev_p2, ev_p1, ev_var2, ev_var3, ev_var4, ev_var5, R.bind_ok]
        rw [pm_lenL (by rw [List.getElem?_append_left (List.getElem?_eq_some_iff.mp hrq2).1]; exact hrq2), ofOpt_some, R.bind_ok, pm_sub, ofOpt_some, R.bind_ok, pm_mul (.inl (by omega)), ofOpt_some, R.bind_ok, pm_add, ofOpt_some, encs_len, Int.natCast_add, Int.natCast_mul, Int.natCast_sub hc]), xs_nil]
      rfl)
  subst p2
  rw [List.length_map, hrl, List.drop_length] at p3 p4
  simp only [sI, sO, Nat.add_zero] at p3 p4
  subst p3
  subst p4
  rw [xs_nx e, x_ret (d := .tup [.int (inT t 0), .int (outT t 0)]) (s1 := s2) (by simp only [ev_p2, ev_var1, ev_var2, R.bind_ok, pm_tup2, ofOpt_some])]
  exact ⟨s2, rfl, o1.trans p1⟩
end K52
set_option Elab.async false
set_option linter.all false
set_option maxRecDepth 100000
set_option maxHeartbeats 1000000
namespace K52
open Mini L2
theorem getK_cons (k1 k2 : L2.Key) (v : D) (r : List (L2.Key × D)) : getK ((k1, v) :: r) k2 = if k1 = k2 then some v else getK r k2 := by
  rw [getK, getK, List.find?_cons]
  by_cases h : k1 = k2 <;> simp [h]
theorem getK_map (k k2 : L2.Key) (d : D) : ∀ kvs : List (L2.Key × D), getK (kvs.map fun kv => if kv.1 = k then (kv.1, d) else kv) k2 = if k = k2 then (getK kvs k2).map (fun _ => d) else getK kvs k2
  | [] => by simp [getK]
  | (k1, v) :: r => by
    rw [List.map_cons]
    by_cases h1 : k1 = k
    · rw [if_pos h1, getK_cons, getK_cons, getK_map k k2 d r]
      by_cases h2 : k1 = k2 <;> by_cases h3 : k = k2 <;> simp_all
    · rw [if_neg h1, getK_cons, getK_cons, getK_map k k2 d r]
      by_cases h2 : k1 = k2 <;> by_cases h3 : k = k2 <;> simp_all
theorem getK_app (k k2 : L2.Key) (d : D) : ∀ kvs : List (L2.Key × D), getK (kvs ++ [(k, d)]) k2 = (getK kvs k2).or (if k = k2 then some d else none)
  | [] => by rw [List.nil_append, getK_cons]; rfl
  | (k1, v) :: r => by
    rw [List.cons_append, getK_cons, getK_cons, getK_app k k2 d r]
    by_cases h : k1 = k2 <;> simp [h]
theorem getK_none (k : L2.Key) : ∀ kvs : List (L2.Key × D), (kvs.any fun kv => decide (kv.1 = k)) = (getK kvs k).isSome
  | [] => rfl
  | (k1, v) :: r => by
    rw [List.any_cons, getK_cons, getK_none k r]
    by_cases h : k1 = k <;> simp [h]
theorem getK_set (k k2 : L2.Key) (d : D) (kvs : List (L2.Key × D)) : getK (setK kvs k d) k2 = if k = k2 then some d else getK kvs k2 := by
  rw [setK, getK_none]
  split
  · rename_i h
    rw [getK_map]
    by_cases h3 : k = k2
    · subst h3
      rw [if_pos rfl, if_pos rfl]
      obtain ⟨x, hx⟩ := Option.isSome_iff_exists.mp h
      rw [hx]
      rfl
    · rw [if_neg h3, if_neg h3]
  · rename_i h
    rw [getK_app]
    by_cases h3 : k = k2
    · subst h3
      rw [if_pos rfl, if_pos rfl]
      cases hx : getK kvs k with
      | none => rfl
      | some x => rw [hx] at h; simp at h
    · rw [if_neg h3, if_neg h3, Option.or_none]
theorem setK_len (k : L2.Key) (d : D) (kvs : List (L2.Key × D)) : (setK kvs k d).length ≤ kvs.length + 1 := by
  rw [setK]
  split
  · rw [List.length_map]; omega
  · rw [List.length_append, List.length_singleton]; omega
theorem pm_ixD {s : S} {n : Nat} {kvs : List (L2.Key × D)} {i : Int} {d : D} (h : s[n]? = some (.dct kvs)) (e : getK kvs (.inl i) = some d) : prim .ix [.ref n, .int i] s = some (d, s) := by
  show (match s[n]? with
      | some (.lst l) => match D.int i with
        | .int i => (L2.atI l i).map fun d => (d, s)
        | _ => none
      | some (.dct kvs) => (keyD (.int i)).bind fun k => (getK kvs k).map fun d => (d, s)
      | some (.lck kvs) => (keyD (.int i)).bind fun k => (getK kvs k).map fun d => (d, s)
      | _ => none) = _
  rw [h]
  dsimp only
  rw [show keyD (.int i) = some (.inl i) from rfl, Option.bind_some, e]
  rfl
theorem pm_setD {s : S} {n : Nat} {kvs : List (L2.Key × D)} {i : Int} {d : D} (h : s[n]? = some (.dct kvs)) (hl : kvs.length < LIM) : prim .setI [.ref n, .int i, d] s = some (.non, s.set n (.dct (setK kvs (.inl i) d))) := by
  show (match s[n]? with
    | some (.lst l) => match D.int i with
      | .int i => (L2.ixN l.length i).map fun j => (D.non, s.set n (.lst (l.set j d)))
      | _ => none
    | some (.dct kvs) => (keyD (.int i)).bind fun k => if kvs.length < LIM then some (.non, s.set n (.dct (setK kvs k d))) else none
    | _ => none) = _
  rw [h]
  dsimp only
  rw [show keyD (.int i) = some (.inl i) from rfl, Option.bind_some, if_pos hl]
/-- x[o] = e, a dict, a number told by a name -/
theorem x_subD {cc : Cfg} {env : Ev} {s s1 : S} {o p : Nat} {v : Int} {e : E} {n : Nat} {kvs : List (L2.Key × D)} {d : D} {r : List Mini.St} (he : eval cc e env s = .ok d s1) (ho : env[o]? = some (some (.ref n))) (hv : env[p]? = some (some (.int v))) (hl : s1[n]? = some (.dct kvs)) (hk : kvs.length < LIM) :
    execs cc (.asg (.sub (.var o) (.var p)) e :: r) env s = execs cc r env (s1.set n (.dct (setK kvs (.inl v) d))) := xs_nx (by
  rw [exec, he]
  show flR env (noX (asgT cc (.sub (.var o) (.var p)) d env s1)) (fun env1 s2 => Fl.nx env1 s2) = _
  rw [asgT, ev_var ho]
  simp only [noX, R.bind_ok, ev_var hv]
  rw [pm_setD hl hk]
  rfl)
-- the numbers of forks before a place
def onesB (W : List Tr) (i : Nat) : Nat := cN (W.take i)
theorem onesB_succ {W : List Tr} {i : Nat} {t : Tr} (h : W[i]? = some t) : onesB W (i + 1) = onesB W i + (if isNd t then 1 else 0) := by
  rw [onesB, onesB, List.take_add_one, h, cN, cN, List.filter_append, List.length_append]
  cases t <;> rfl
/-- what comes of those that wait: the arms lie where the numbers say -/
theorem bq_kids {a : Nat} : ∀ (n : Nat) (dn q : List Tr), sizeTs q ≤ n → Arys a q → (dn ++ q).length = 1 + a * cN dn → ∀ (i k : Nat) (l : List Tr), dn.length ≤ i → (dn ++ bq (sizeTs q) q)[i]? = some (.node l) → k < a → (dn ++ bq (sizeTs q) q)[1 + a * onesB (dn ++ bq (sizeTs q) q) i + k]? = l[k]?
  | 0, dn, q, h, hA, hl, i, k, l, hi, he, hk => by
    have := sizeTs_len q
    obtain rfl : q = [] := List.eq_nil_of_length_eq_zero (by omega)
    rw [bq_nil, List.append_nil, List.getElem?_eq_none (by omega)] at he
    cases he
  | n + 1, dn, [], h, hA, hl, i, k, l, hi, he, hk => by
    rw [bq_nil, List.append_nil, List.getElem?_eq_none (by omega)] at he
    cases he
  | n + 1, dn, t :: r, h, hA, hl, i, k, l, hi, he, hk => by
    have hsz : sizeTs (t :: r) = 1 + sizeTs (r ++ kids t) := by rw [sizeTs, sizeTs_append, sizeT_kids]; omega
    have hcat : dn ++ bq (sizeTs (t :: r)) (t :: r) = (dn ++ [t]) ++ bq (sizeTs (r ++ kids t)) (r ++ kids t) := by rw [bq_cons, List.append_assoc]; rfl
    have hkl : Arys a (r ++ kids t) := (arys_append _ _).mpr ⟨hA.2, by cases t with
      | nil => trivial
      | node l => exact hA.1.2⟩
    have hlen : ((dn ++ [t]) ++ (r ++ kids t)).length = 1 + a * cN (dn ++ [t]) := by
      have e : cN (dn ++ [t]) = cN dn + (if isNd t then 1 else 0) := by
        rw [cN, cN, List.filter_append, List.length_append]
        cases t <;> rfl
      rw [e, Nat.mul_add]
      simp only [List.length_append, List.length_cons, List.length_nil] at hl ⊢
      cases t with
      | nil => simp [kids, isNd]; omega
      | node l => have := hA.1.1; simp [kids, isNd]; omega
    rw [hcat] at he ⊢
    rcases Nat.lt_or_ge dn.length i with h1 | h1
    · exact bq_kids n (dn ++ [t]) (r ++ kids t) (by omega) hkl hlen i k l (by rw [List.length_append, List.length_singleton]; omega) he hk
    · obtain rfl : i = dn.length := by omega
      have hi0 : ((dn ++ [t]) ++ bq (sizeTs (r ++ kids t)) (r ++ kids t))[dn.length]? = some t := by
        rw [List.append_assoc, List.getElem?_append_right (Nat.le_refl _), Nat.sub_self]
        rfl
      rw [hi0] at he
      obtain rfl : t = .node l := Option.some.inj he
      have ho : onesB ((dn ++ [.node l]) ++ bq (sizeTs (r ++ kids (.node l))) (r ++ kids (.node l))) dn.length = cN dn := by
        rw [onesB, List.append_assoc, List.take_append_of_le_length (Nat.le_refl _), List.take_length]
      rw [ho]
      have hb := bq_level r (kids (.node l))
      have hb2 := bq_level (r ++ kids (.node l)) []
      rw [List.append_nil] at hb2
      rw [hb2, show kids (.node l) = l from rfl]
      simp only [List.length_append, List.length_cons, List.length_nil] at hl
      have hll := hA.1.1
      rw [show (dn ++ [.node l]) ++ ((r ++ l) ++ bq (sizeTs ([] ++ kidsL (r ++ l))) ([] ++ kidsL (r ++ l))) = (dn ++ [.node l] ++ r) ++ (l ++ bq (sizeTs ([] ++ kidsL (r ++ l))) ([] ++ kidsL (r ++ l))) by simp, List.getElem?_append_right (by simp; omega)]
      simp only [List.length_append, List.length_cons, List.length_nil]
      rw [show 1 + a * cN dn + k - (dn.length + (0 + 1) + r.length) = k by omega, List.getElem?_append_left (by omega)]
end K52
set_option Elab.async false
set_option linter.all false
set_option maxRecDepth 100000
set_option maxHeartbeats 1000000
namespace K52
open Mini L2
theorem bq_len : ∀ (n : Nat) (q : List Tr), sizeTs q ≤ n → (bq (sizeTs q) q).length = sizeTs q
  | 0, q, h => by
    have := sizeTs_len q
    obtain rfl : q = [] := List.eq_nil_of_length_eq_zero (by omega)
    rfl
  | n + 1, [], h => rfl
  | n + 1, t :: r, h => by
    have hsz : sizeTs (t :: r) = 1 + sizeTs (r ++ kids t) := by rw [sizeTs, sizeTs_append, sizeT_kids]; omega
    rw [bq_cons, List.length_cons, bq_len n _ (by omega), hsz]
    omega
theorem bq_open {a : Nat} : ∀ (n : Nat) (dn q : List Tr), sizeTs q ≤ n → Arys a q → (dn ++ q).length = 1 + a * cN dn →
    (∀ i, dn.length ≤ i → i < (dn ++ bq (sizeTs q) q).length → i < 1 + a * onesB (dn ++ bq (sizeTs q) q) i) ∧ (dn ++ bq (sizeTs q) q).length = 1 + a * cN (dn ++ bq (sizeTs q) q)
  | 0, dn, q, h, hA, hl => by
    have := sizeTs_len q
    obtain rfl : q = [] := List.eq_nil_of_length_eq_zero (by omega)
    rw [bq_nil]
    exact ⟨fun i h1 h2 => by rw [List.append_nil] at h2; omega, by rw [hl, List.append_nil]⟩
  | n + 1, dn, [], h, hA, hl => by
    rw [bq_nil]
    exact ⟨fun i h1 h2 => by rw [List.append_nil] at h2; omega, by rw [hl, List.append_nil]⟩
  | n + 1, dn, t :: r, h, hA, hl => by
    have hsz : sizeTs (t :: r) = 1 + sizeTs (r ++ kids t) := by rw [sizeTs, sizeTs_append, sizeT_kids]; omega
    have hcat : dn ++ bq (sizeTs (t :: r)) (t :: r) = (dn ++ [t]) ++ bq (sizeTs (r ++ kids t)) (r ++ kids t) := by rw [bq_cons, List.append_assoc]; rfl
    have hkl : Arys a (r ++ kids t) := (arys_append _ _).mpr ⟨hA.2, by cases t with
      | nil => trivial
      | node l => exact hA.1.2⟩
    have hlen : ((dn ++ [t]) ++ (r ++ kids t)).length = 1 + a * cN (dn ++ [t]) := by
      have e : cN (dn ++ [t]) = cN dn + (if isNd t then 1 else 0) := by
        rw [cN, cN, List.filter_append, List.length_append]
        cases t <;> rfl
      rw [e, Nat.mul_add]
      simp only [List.length_append, List.length_cons, List.length_nil] at hl ⊢
      cases t with
      | nil => simp [kids, isNd]; omega
      | node l => have := hA.1.1; simp [kids, isNd]; omega
    obtain ⟨i1, i2⟩ := bq_open n (dn ++ [t]) (r ++ kids t) (by omega) hkl hlen
    rw [hcat]
    refine ⟨fun i h1 h2 => ?_, i2⟩
    rcases Nat.lt_or_ge dn.length i with h3 | h3
    · exact i1 i (by rw [List.length_append, List.length_singleton]; omega) h2
    · obtain rfl : i = dn.length := by omega
      have ho : onesB ((dn ++ [t]) ++ bq (sizeTs (r ++ kids t)) (r ++ kids t)) dn.length = cN dn := by
        rw [onesB, List.append_assoc, List.take_append_of_le_length (Nat.le_refl _), List.take_length]
      rw [ho, ← hl, List.length_append, List.length_cons]
      omega
theorem range_map (l : List Tr) : ((List.range l.length).map fun (k : Nat) => enc (l.getD k .nil)) = encs l := by
  rw [encs_map]
  apply List.ext_getElem?
  intro i
  rw [List.getElem?_map, List.getElem?_map]
  rcases Nat.lt_or_ge i l.length with h | h
  · rw [List.getElem?_range h, List.getElem?_eq_getElem h]
    simp [h]
  · rw [List.getElem?_eq_none (by rw [List.length_range]; exact h), List.getElem?_eq_none h]
    rfl
theorem dg_eq (t : Tr) : dg t = if isNd t then 1 else 0 := by cases t <;> rfl
theorem bq_arys {a : Nat} : ∀ (n : Nat) (q : List Tr), sizeTs q ≤ n → Arys a q → ∀ t ∈ bq (sizeTs q) q, Ary a t := by
              intro n
              induction n with
              | zero => intro q h _ t ht
                        have := sizeTs_len q
                        obtain rfl : q = [] := List.eq_nil_of_length_eq_zero (by omega)
                        rw [bq_nil] at ht
                        cases ht
              | succ n ih => intro q h hA t ht
                             cases q with
                             | nil => rw [bq_nil] at ht; cases ht
                             | cons u r =>
                               have hsz : sizeTs (u :: r) = 1 + sizeTs (r ++ kids u) := by rw [sizeTs, sizeTs_append, sizeT_kids]; omega
                               rw [bq_cons] at ht
                               rcases List.mem_cons.mp ht with rfl | ht
                               · exact hA.1
                               · exact ih (r ++ kids u) (by omega) ((arys_append _ _).mpr ⟨hA.2, by cases u with
                                   | nil => trivial
                                   | node l => exact hA.1.2⟩) t ht
theorem putUp_ok (k a : Nat) (t : Tr) (s : S) (h1 : 1 ≤ a) (h2 : a ≤ 12) (hA : Ary a t) (hF : forksT t ≤ 30) (hz : sizeT t ≤ 100000) : ∃ s', run (k + 4) 17 [.int a, .tup (dgs (bq (sizeT t) [t]))] s = .ok (enc t) s' ∧ Old s s' := by
  have hA1 : Arys a [t] := ⟨hA, trivial⟩
  have hS1 : sizeTs [t] = sizeT t := by simp [sizeTs]
  have hkid := bq_kids (a := a) (sizeT t) [] [t] (by omega) hA1 (by simp [cN])
  obtain ⟨hop, htot⟩ := bq_open (a := a) (sizeT t) [] [t] (by omega) hA1 (by simp [cN])
  have hlen := bq_len (sizeT t) [t] (by omega)
  have h0 : (bq (sizeTs [t]) [t])[0]? = some t := by rw [bq_cons]; rfl
  have hAW := bq_arys (a := a) (sizeT t) [t] (by omega) hA1
  rw [hS1] at hkid hAW hop htot hlen h0
  rw [List.nil_append] at hkid hop htot
  generalize bq (sizeT t) [t] = W at hkid hAW hop htot hlen h0
  have hdl : (dgs W).length = W.length := by rw [dgs, List.length_map]
  have hdg : ∀ i t', W[i]? = some t' → (dgs W)[i]? = some (D.int (dg t')) := fun i t' h => by rw [dgs, List.getElem?_map, h]; rfl
  rw [run, callN_at (n := 8) (np := 2) (body := B17) rfl rfl, B17]
  show ∃ s', retF (execs (cf (k + 3)) _ [some (.int a), some (.tup (dgs W)), none, none, none, none, none, none] s) = _ ∧ _
  obtain ⟨f, hf⟩ : ∃ f, f = s.length := ⟨_, rfl⟩
  rw [x_tp (l := [.ref f, .int 1]) (s1 := s ++ [.dct []]) (env1 := [some (.int a), some (.tup (dgs W)), some (.ref f), some (.int 1), none, none, none, none]) (s2 := s ++ [.dct []]) (by rw [ev_p2, ev_p0, show prim .dnew [] s = some (.ref s.length, s ++ [.dct []]) from rfl, ofOpt_some, R.bind_ok, ev_con, R.bind_ok, pm_tup2, ofOpt_some, hf]) rfl]
  obtain ⟨env2, s2, e, ho2, kvs, x, y, p1, p2, p3, p4⟩ := run_fix (c := cf (k + 3)) (kd := .enu) (es := [.var 1]) (t := .tp [(.nm 4), (.nm 5)]) (l := enuD 0 (dgs W)) (ds := [.tup (dgs W)]) (b := [.ite (.prim .eq [.var 5, .con (.int 1)]) [.asg (.sub (.var 2) (.var 4)) (.var 3),
    .asg (.nm 3) (.prim .add [.var 3, .var 0])] []])
    (env := [some (.int a), some (.tup (dgs W)), some (.ref f), some (.int 1), none, none, none, none]) (s := s ++ [.dct []]) (s1 := s ++ [.dct []])
    (fun i env s2 => Old s s2 ∧ ∃ (kvs : List (L2.Key × D)) (x y : Option D), env = [some (.int a), some (.tup (dgs W)), some (.ref f), some (.int (1 + a * onesB W i : Nat)), x, y, none, none] ∧ s2[f]? = some (.dct kvs) ∧ kvs.length ≤ i ∧ ∀ j l, j < i → W[j]? = some (.node l) → getK kvs (.inl (j : Nat)) = some (.int (1 + a * onesB W j : Nat)))
    (by simp only [evs_cons, evs_nil, ev_var1, R.bind_ok]) rfl (by rw [enuD_len, hdl]; simp only [FUEL]; omega) ⟨Old.app .., [], none, none, rfl, by rw [hf, app_last], Nat.le_refl _, fun j l h => by omega⟩
    (fun i d env s2 hd ⟨o, kvs, x, y, ee, q1, q2, q3⟩ => by
      subst ee
      rw [enuD_get, Nat.zero_add, dgs, List.getElem?_map, Option.map_map] at hd
      obtain ⟨t', ht', rfl⟩ := Option.map_eq_some_iff.mp hd
      have hi : i < W.length := (List.getElem?_eq_some_iff.mp ht').1
      have hfl : f < s2.length := (List.getElem?_eq_some_iff.mp q1).1
      have hos := onesB_succ ht'
      have hlow : ∀ kv2, (∀ j l, j < i → W[j]? = some (.node l) → getK kv2 (.inl (j : Nat)) = some (.int (1 + a * onesB W j : Nat))) → (∀ l, W[i]? = some (.node l) → getK kv2 (.inl (i : Nat)) = some (.int (1 + a * onesB W i : Nat))) → ∀ j l, j < i + 1 → W[j]? = some (.node l) → getK kv2 (.inl (j : Nat)) = some (.int (1 + a * onesB W j : Nat)) := fun kv2 z1 z2 j l hj hw => by
        rcases Nat.lt_or_ge j i with h | h
        · exact z1 j l h hw
        · obtain rfl : j = i := by omega
          exact z2 l hw
      refine ⟨[some (.int a), some (.tup (dgs W)), some (.ref f), some (.int (1 + a * onesB W i : Nat)), some (.int (i : Nat)), some (.int (dg t')), none, none], rfl, ?_⟩
      cases t' with
      | nil =>
        refine ⟨[some (.int a), some (.tup (dgs W)), some (.ref f), some (.int (1 + a * onesB W (i + 1) : Nat)), some (.int (i : Nat)), some (.int (dg .nil)), none, none], s2, ?_, o, kvs, _, _, rfl, q1, by omega, hlow kvs q3 (fun l hw => by rw [ht'] at hw; cases hw)⟩
        rw [x_skip (s1 := s2) (by simp only [ev_p2, ev_var5, ev_con, R.bind_ok, pm_eqI, ofOpt_some]; rfl), xs_nil, hos]
        rfl
      | node l =>
        refine ⟨[some (.int a), some (.tup (dgs W)), some (.ref f), some (.int (1 + a * onesB W (i + 1) : Nat)), some (.int (i : Nat)), some (.int (dg (.node l))), none, none], s2.set f (.dct (setK kvs (.inl (i : Nat)) (.int (1 + a * onesB W i : Nat)))), ?_, o.set (by omega), setK kvs (.inl (i : Nat)) (.int (1 + a * onesB W i : Nat)), _, _, rfl, List.getElem?_set_self hfl, by have := setK_len (.inl (i : Nat)) (.int (1 + a * onesB W i : Nat)) kvs; omega, hlow _ (fun j l hj hw => by
          rw [getK_set, if_neg (by simp; omega)]
          exact q3 j l hj hw) (fun l hw => by rw [getK_set, if_pos rfl])⟩
        rw [x_ifnx (s1 := s2) (by simp only [ev_p2, ev_var5, ev_con, R.bind_ok, pm_eqI, ofOpt_some]; rfl) (by
          rw [x_subD (n := f) (v := i) (kvs := kvs) (d := .int (1 + a * onesB W i : Nat)) (s1 := s2) (ev_var3 ..) rfl rfl q1 (by rw [LIM]; omega)]
          rw [x_asg (d := .int (1 + a * onesB W (i + 1) : Nat)) (s1 := s2.set f (.dct (setK kvs (.inl (i : Nat)) (.int (1 + a * onesB W i : Nat))))) (by
            simp only [ev_p2, ev_var3, ev_var0, R.bind_ok, pm_add, ofOpt_some]
            rw [hos, if_pos (show isNd (.node l) = true from rfl), Nat.mul_add, Nat.mul_one, ← Nat.add_assoc, Int.natCast_add _ a]), xs_nil]), xs_nil]
        rfl)
  subst p1
  rw [enuD_len, hdl] at p3 p4 e
  rw [xs_nx e]
  clear e
  have hfl : f < s2.length := (List.getElem?_eq_some_iff.mp p2).1
  obtain ⟨g, hg⟩ : ∃ g, g = s2.length := ⟨_, rfl⟩
  rw [x_asg (d := .ref g) (s1 := s2 ++ [.dct []]) (by rw [ev_p0, show prim .dnew [] s2 = some (.ref s2.length, s2 ++ [.dct []]) from rfl, ofOpt_some, hg])]
  simp only [List.set_cons_succ, List.set_cons_zero]
  have hgl : g < (s2 ++ [O.dct []]).length := by rw [List.length_append, List.length_singleton]; omega
  have hm3 : mkIt .rng3 [D.int ((W.length : Int) - 1), .int (-1), .int (-1)] (s2 ++ [O.dct []]) = some (.fix ((List.range W.length).map fun (k : Nat) => D.int ((W.length : Int) - 1 + (k : Int) * -1))) := by
    show (if _ then _ else _) = _
    rw [if_pos (by refine ⟨by omega, by decide, rfl⟩), show ((W.length : Int) - 1 - -1).toNat = W.length by omega]
  obtain ⟨env3, s3, e, ho3, fd, x4, x5, x7, q1, q2, q3, q4, q5⟩ := run_fix (c := cf (k + 3)) (kd := .rng3) (es := [.prim .sub [.prim .len [.var 1], .con (.int 1)], .prim .neg [.con (.int 1)], .prim .neg [.con (.int 1)]]) (t := .nm 4) (l := (List.range W.length).map fun (k : Nat) => D.int ((W.length : Int) - 1 + (k : Int) * -1)) (ds := [.int ((W.length : Int) - 1), .int (-1), .int (-1)]) (b := [.asg (.sub (.var 6) (.var 4)) (.ife (.prim .eq [.prim .ix [.var 1, .var 4], .con (.int 0)]) (.con .non) (.prim .tuple1 [.comp .rng1 [.var 0] (.nm 7) (.con (.bl true)) (.prim .ix [.var 6, .prim .add [.prim .ix [.var 2, .var 4], .var 7]]) [7]]))])
    (env := [some (.int a), some (.tup (dgs W)), some (.ref f), some (.int (1 + a * onesB W W.length : Nat)), x, y, some (.ref g), none]) (s := s2 ++ [.dct []]) (s1 := s2 ++ [.dct []])
    (fun i env s3 => Old s s3 ∧ ∃ (fd : List (L2.Key × D)) (x4 x5 x7 : Option D), env = [some (.int a), some (.tup (dgs W)), some (.ref f), some (.int (1 + a * onesB W W.length : Nat)), x4, x5, some (.ref g), x7] ∧ s3[f]? = some (.dct kvs) ∧ s3[g]? = some (.dct fd) ∧ fd.length ≤ i ∧ ∀ j t', W.length ≤ i + j → W[j]? = some t' → getK fd (.inl (j : Nat)) = some (enc t'))
    (by simp only [evs_cons, evs_nil, ev_p2, ev_p1, ev_var1, ev_con, R.bind_ok, pm_lenT, pm_sub, pm_neg, ofOpt_some, hdl]) hm3 (by rw [List.length_map, List.length_range]; simp only [FUEL]; omega)
    ⟨ho2.trans (Old.app ..), [], x, y, none, rfl, by rw [List.getElem?_append_left hfl, p2], by rw [hg, app_last], Nat.le_refl _, fun j t' h hw => by have := (List.getElem?_eq_some_iff.mp hw).1; omega⟩
    (fun i d env s3 hd ⟨o, fd, x4, x5, x7, ee, q1, q2, q3, q4⟩ => by
      subst ee
      obtain ⟨hi, rfl⟩ := rng_at.2 d hd
      obtain ⟨j, hj⟩ : ∃ j, j = W.length - 1 - i := ⟨_, rfl⟩
      rw [show (W.length : Int) - 1 + (i : Int) * -1 = (j : Nat) by omega]
      have hjl : j < W.length := by omega
      obtain ⟨t', ht'⟩ : ∃ t', W[j]? = some t' := ⟨_, List.getElem?_eq_getElem hjl⟩
      have hgl3 : g < s3.length := (List.getElem?_eq_some_iff.mp q2).1
      refine ⟨_, rfl, ?_⟩
      simp only [List.set_cons_succ, List.set_cons_zero]
      have hix : ∀ s : S, prim .ix [.tup (dgs W), .int (j : Nat)] s = some (.int (dg t'), s) := fun s => by
        show ((L2.atI (dgs W) (j : Nat)).map fun d => (d, s)) = _
        rw [atI_nat (hdg j t' ht')]
        rfl
      have key : ∃ S3 : S, eval (cf (k + 3)) (.ife (.prim .eq [.prim .ix [.var 1, .var 4], .con (.int 0)]) (.con .non) (.prim .tuple1 [.comp .rng1 [.var 0] (.nm 7) (.con (.bl true)) (.prim .ix [.var 6, .prim .add [.prim .ix [.var 2, .var 4], .var 7]]) [7]])) [some (.int a), some (.tup (dgs W)), some (.ref f), some (.int (1 + a * onesB W W.length : Nat)), some (.int (j : Nat)), x5, some (.ref g), x7] s3 = .ok (enc t') S3 ∧ Old s3 S3 := by
        rw [ev_ife, ev_p2, ev_p2, ev_var1, R.bind_ok, ev_var4, R.bind_ok, hix, ofOpt_some, R.bind_ok, ev_con, R.bind_ok, pm_eqI, ofOpt_some]
        cases t' with
        | nil => exact ⟨s3, rfl, Old.refl _⟩
        | node l =>
          have hAl : l.length = a := by
            exact (hAW (.node l) (List.mem_of_getElem? ht')).1
          have hfj := p4 j l hjl ht'
          have hlt := hop j (Nat.zero_le _) hjl
          have hkd : ∀ i', i' < a → getK fd (.inl ((1 + a * onesB W j + i' : Nat) : Int)) = some (enc (l.getD i' .nil)) := fun i' hi' => by
            have e1 := hkid j i' l (Nat.zero_le _) ht' hi'
            have e2 : l[i']? = some (l.getD i' .nil) := by
              rw [List.getElem?_eq_getElem (by omega)]
              simp [List.getD, show i' < l.length by omega]
            exact q4 _ _ (by omega) (e1.trans e2)
          rw [show decide (dg (.node l) = 0) = false from rfl, condR_f, ev_p1]
          have hm1 : mkIt .rng1 [.int a] s3 = some (.fix ((List.range a).map fun (k : Nat) => D.int (k : Int))) := by
            show (if _ then _ else _) = _
            rw [if_pos (by omega)]
            rfl
          rw [ev_comp (l := (List.range a).map fun (k : Nat) => D.int (k : Int)) (s1 := s3) (ds := [.int a]) (g := fun d => some (match d with | .int i => enc (l.getD i.toNat .nil) | _ => .non)) (by simp only [evs_cons, evs_nil, ev_var0, R.bind_ok]) hm1 (fun _ _ => rfl) (by rw [List.length_map, List.length_range, LIM]; omega) (by rw [List.length_map, List.length_range]; simp only [FUEL]; omega) (fun d hd acc => by
            obtain ⟨i', hi', rfl⟩ := List.mem_map.mp hd
            have hi' := List.mem_range.mp hi'
            refine ⟨_, rfl, ?_⟩
            simp only [wipeE, List.set_cons_succ, List.set_cons_zero]
            rw [ev_con, condR_t, ev_p2, ev_var6, R.bind_ok, ev_p2, ev_p2, ev_var2, R.bind_ok, ev_var4, R.bind_ok, pm_ixD (kvs := kvs) (by rw [List.getElem?_append_left (List.getElem?_eq_some_iff.mp q1).1]; exact q1) hfj, ofOpt_some, R.bind_ok, ev_var7, R.bind_ok, pm_add, ofOpt_some, R.bind_ok, ← Int.natCast_add, pm_ixD (kvs := fd) (by rw [List.getElem?_append_left hgl3]; exact q2) (hkd i' hi'), ofOpt_some, R.bind_ok]
            rfl), R.bind_ok, pm_tuple1L (app_last ..), ofOpt_some, List.filterMap_eq_map', List.map_map]
          have er := range_map l
          rw [hAl] at er
          refine ⟨s3 ++ [.lst (encs l)], ?_, Old.app ..⟩
          show R.ok (D.tup (List.map (fun k : Nat => enc (l.getD k .nil)) (List.range a))) (s3 ++ [O.lst (List.map (fun k : Nat => enc (l.getD k .nil)) (List.range a))]) = _
          rw [er]
          rfl
      obtain ⟨S3, ek, ok⟩ := key
      have hgS : S3[g]? = some (.dct fd) := ok.at q2
      have hS3 : g < S3.length := (List.getElem?_eq_some_iff.mp hgS).1
      have hsg : s.length ≤ g := by have := ho2.1; omega
      refine ⟨_, S3.set g (.dct (setK fd (.inl (j : Nat)) (enc t'))), by rw [x_subD (n := g) (v := j) (kvs := fd) (d := enc t') (s1 := S3) ek rfl rfl hgS (by rw [LIM]; omega), xs_nil], (o.trans ok).set hsg, setK fd (.inl (j : Nat)) (enc t'), _, _, _, rfl, by rw [List.getElem?_set_ne (by omega)]; exact ok.at q1, List.getElem?_set_self hS3, by have := setK_len (.inl (j : Nat)) (enc t') fd; omega, fun j' t2 hj' hw => ?_⟩
      rw [getK_set]
      by_cases hjj : j = j'
      · subst hjj
        rw [if_pos rfl]
        rw [ht'] at hw
        rw [Option.some.inj hw]
      · rw [if_neg (by simp; omega)]
        exact q4 j' t2 (by omega) hw)
  subst q1
  rw [List.length_map, List.length_range] at q5
  have hl0 : 0 < W.length := (List.getElem?_eq_some_iff.mp h0).1
  have hr0 : getK fd (.inl 0) = some (enc t) := q5 0 t (by omega) h0
  obtain ⟨s4, e4, o4⟩ := many_ok k a t s3 h1 h2 hA hF hz
  have e4 : callN TBL FUEL (k + 3) 4 [.int a, enc t] s3 = .ok (.bl true) s4 := e4
  rw [xs_nx e, x_skip (s1 := s4) (by rw [ev_not, ev_call2, ev_var0, R.bind_ok, ev_p2, ev_var6, R.bind_ok, ev_con, R.bind_ok, pm_ixD q3 hr0, ofOpt_some, R.bind_ok, show (cf (k + 3)).call 4 [.int a, enc t] s3 = .ok (.bl true) s4 from e4, condR_t])]
  rw [x_ret (d := enc t) (s1 := s4) (by rw [ev_p2, ev_var6, R.bind_ok, ev_con, R.bind_ok, pm_ixD (o4.at q3) hr0, ofOpt_some])]
  exact ⟨s4, rfl, ho3.trans o4⟩
end K52
set_option Elab.async false
set_option linter.all false
set_option maxRecDepth 100000
set_option maxHeartbeats 1000000
namespace K52
open Mini
theorem dg01 (t : Tr) : dg t = 0 ∨ dg t = 1 := by cases t <;> simp [dg]
theorem dgs_map (W : List Tr) : dgs W = (W.map dg).map .int := by rw [List.map_map]; rfl
theorem ofLevels_ok (k a : Nat) (t : Tr) (s : S) (h1 : 1 ≤ a) (h2 : a ≤ 12) (hA : Ary a t) (hF : forksT t ≤ 30) (hz : sizeT t ≤ 1800) : ∃ s', run (k + 5) 16 [.int a, .tup (dgs (bq (sizeT t) [t]))] s = .ok (enc t) s' ∧ Old s s' := by
  have hA1 : Arys a [t] := ⟨hA, trivial⟩
  have hS1 : sizeTs [t] = sizeT t := by simp [sizeTs]
  obtain ⟨hop, htot⟩ := bq_open (a := a) (sizeT t) [] [t] (by omega) hA1 (by simp [cN])
  have hlen := bq_len (sizeT t) [t] (by omega)
  have hput := fun s => putUp_ok k a t s h1 h2 hA hF (by omega)
  rw [hS1] at hop htot hlen
  rw [List.nil_append] at hop htot
  generalize bq (sizeT t) [t] = W at hop htot hlen hput
  have hdl : (dgs W).length = W.length := by rw [dgs, List.length_map]
  rw [run, callN_at (n := 5) (np := 2) (body := B16) rfl rfl, B16]
  show ∃ s', retF (execs (cf (k + 4)) _ [some (.int a), some (.tup (dgs W)), none, none, none] s) = _ ∧ _
  have e1 : callN TBL FUEL (k + 4) 1 [.int a, .int 1, .int 12] s = .ok (.bl true) s := within_ok (k + 2) a 1 12 s (by omega) (by omega)
  rw [x_skip (s1 := s) (by simp only [ev_not, ev_call3, ev_var0, ev_con, R.bind_ok, e1, condR_t])]
  obtain ⟨s1, e2, o1⟩ := areInts_ok (k + 2) (W.map dg) s (by rw [List.length_map]; omega)
  rw [← dgs_map] at e2
  have e2 : (cf (k + 4)).call 2 [.tup (dgs W)] s = .ok (.bl true) s1 := e2
  have ec : eval (cf (k + 4)) (.comp .seq [.var 1] (.nm 2) (.con (.bl true)) (.prim .inn [.var 2, .prim .tup [.con (.int 0), .con (.int 1)]]) [2]) [some (.int a), some (.tup (dgs W)), none, none, none] s1 = .ok (.ref s1.length) (s1 ++ [.lst ((dgs W).map fun _ => .bl true)]) :=
    ev_compT (l := dgs W) (by simp only [evs_cons, evs_nil, ev_var1, R.bind_ok]) (by rw [hdl, LIM]; omega) (by rw [hdl]; simp only [FUEL]; omega) fun d hd s => by
      obtain ⟨t', _, rfl⟩ := List.mem_map.mp hd
      refine ⟨_, rfl, ?_⟩
      simp only [wipeE, List.set_cons_succ, List.set_cons_zero, ev_p2, ev_var2, ev_con, R.bind_ok, pm_tup2, ofOpt_some, inBit (dg t') (dg01 t')]
  have f1 : decide ((1800 : Int) < (W.length : Int)) = false := decide_eq_false (by omega)
  rw [x_skip (s1 := s1 ++ [.lst ((dgs W).map fun _ => .bl true)]) (by
    rw [ev_or, ev_not, ev_call1, ev_var1, R.bind_ok, e2, condR_t, condR_f, ev_or, ev_not, ev_p1, ec, R.bind_ok, pm_allL (bs := W.map fun _ => true) (app_last ..) (by rw [dgs, List.map_map, List.map_map]; rfl), ofOpt_some]
    rw [show (W.map fun _ => true).all id = true by simp, condR_t, condR_f, ev_p2, ev_p1, ev_var1, R.bind_ok, pm_lenT, ofOpt_some, R.bind_ok, ev_p2, ev_con, R.bind_ok, ev_con, R.bind_ok]
    rw [show ofOpt (prim .mul [D.int 150, .int 12] (s1 ++ [.lst ((dgs W).map fun _ => .bl true)])) = .ok (.int 1800) (s1 ++ [.lst ((dgs W).map fun _ => .bl true)]) from rfl, R.bind_ok, pm_gt, hdl, ofOpt_some, f1])]
  generalize hS : s1 ++ [O.lst ((dgs W).map fun _ => .bl true)] = S1
  have o2 : Old s S1 := by rw [← hS]; exact o1.trans (Old.app ..)
  rw [x_asg (d := .int 1) (s1 := S1) (ev_con ..)]
  simp only [List.set_cons_succ, List.set_cons_zero]
  obtain ⟨env2, s2, e, p1, x, y, p2⟩ := run_fix (c := cf (k + 4)) (kd := .enu) (es := [.var 1]) (t := .tp [(.nm 4), (.nm 2)]) (l := enuD 0 (dgs W)) (ds := [.tup (dgs W)]) (b := [.ite (.prim .ge [.var 4, .var 3]) [.never] [],
    .asg (.nm 3) (.prim .add [.var 3, .prim .mul [.var 0, .var 2]])])
    (env := [some (.int a), some (.tup (dgs W)), none, some (.int 1), none]) (s := S1) (s1 := S1)
    (fun i env s2 => s2 = S1 ∧ ∃ x y, env = [some (.int a), some (.tup (dgs W)), x, some (.int (1 + a * onesB W i : Nat)), y])
    (by simp only [evs_cons, evs_nil, ev_var1, R.bind_ok]) rfl (by rw [enuD_len, hdl]; simp only [FUEL]; omega) ⟨rfl, none, none, rfl⟩
    (fun i d env s2 hd ⟨es, x, y, ee⟩ => by
      subst es
      subst ee
      rw [enuD_get, Nat.zero_add, dgs, List.getElem?_map, Option.map_map] at hd
      obtain ⟨t', ht', rfl⟩ := Option.map_eq_some_iff.mp hd
      have hi : i < W.length := (List.getElem?_eq_some_iff.mp ht').1
      have hos := onesB_succ ht'
      have hlt := hop i (Nat.zero_le _) hi
      refine ⟨[some (.int a), some (.tup (dgs W)), some (.int (dg t')), some (.int (1 + a * onesB W i : Nat)), some (.int (i : Nat))], rfl, [some (.int a), some (.tup (dgs W)), some (.int (dg t')), some (.int (1 + a * onesB W (i + 1) : Nat)), some (.int (i : Nat))], s2, ?_, rfl, _, _, rfl⟩
      have f2 : decide (((1 + a * onesB W i : Nat) : Int) ≤ (i : Int)) = false := decide_eq_false (by omega)
      rw [x_skip (s1 := s2) (by simp only [ev_p2, ev_var3, ev_var4, R.bind_ok, pm_ge, ofOpt_some, f2])]
      rw [x_asg (d := .int (1 + a * onesB W (i + 1) : Nat)) (s1 := s2) (by
        simp only [ev_p2, ev_var0, ev_var2, ev_var3, R.bind_ok]
        rw [pm_mul (.inl (by omega)), ofOpt_some, R.bind_ok, pm_add, ofOpt_some, hos, dg_eq]
        cases isNd t' <;> simp [Nat.mul_add, Int.add_assoc]), xs_nil]
      rfl)
  subst p1
  subst p2
  rw [xs_nx e]
  rw [enuD_len, hdl]
  have hone : 1 + a * onesB W W.length = W.length := by rw [onesB, List.take_length]; omega
  rw [hone]
  have f3 : decide ((W.length : Int) = (W.length : Int)) = true := decide_eq_true rfl
  rw [x_skip (s1 := s2) (by simp only [ev_p2, ev_p1, ev_var3, ev_var1, R.bind_ok, pm_lenT, pm_neI, ofOpt_some, hdl, decide_true, Bool.not_true])]
  obtain ⟨s3, e5, o3⟩ := hput s2
  have e5 : callN TBL FUEL (k + 4) 17 [.int a, .tup (dgs W)] s2 = .ok (enc t) s3 := e5
  rw [x_ret (d := enc t) (s1 := s3) (by simp only [ev_call2, ev_var0, ev_var1, R.bind_ok, e5])]
  exact ⟨s3, rfl, o2.trans o3⟩
end K52
set_option Elab.async false
set_option linter.all false
set_option maxRecDepth 100000
set_option maxHeartbeats 1000000
namespace K52
open Mini
abbrev Wd := List Int × Int × Int
def itW (x : Wd) : D := .tup [.tup (x.1.map .int), .int x.2.1, .int x.2.2]
def stW (a m : Int) (x : Wd) : List Wd := (if 0 < x.2.1 then [(x.1 ++ [0], x.2.1 - 1, x.2.2)] else []) ++ (if x.2.2 < m then [(x.1 ++ [1], x.2.1 + a - 1, x.2.2 + 1)] else [])
def wsF (a m : Int) : Nat → List Wd
  | 0 => [([], 0, 0)]
  | n + 1 => (wsF a m n).flatMap (stW a m)
theorem stW_len (a m : Int) (x : Wd) : (stW a m x).length ≤ 2 := by
  rw [stW]
  split <;> split <;> simp
theorem flat_len (a m : Int) : ∀ l : List Wd, (l.flatMap (stW a m)).length ≤ 2 * l.length
  | [] => by simp
  | x :: r => by
    have := flat_len a m r
    have := stW_len a m x
    rw [List.flatMap_cons, List.length_append, List.length_cons]
    omega
theorem wsF_len (a m : Int) : ∀ n : Nat, (wsF a m n).length ≤ 2 ^ n
  | 0 => by simp [wsF]
  | n + 1 => by
    have := flat_len a m (wsF a m n)
    have := wsF_len a m n
    rw [wsF, Nat.pow_succ]
    omega
theorem wsF_row (a m : Int) : ∀ (n : Nat), ∀ x ∈ wsF a m n, x.1.length = n
  | 0, x, h => by
    simp [wsF] at h
    rw [h]
    rfl
  | n + 1, x, h => by
    rw [wsF] at h
    obtain ⟨y, hy, hx⟩ := List.mem_flatMap.mp h
    have := wsF_row a m n y hy
    rw [stW] at hx
    rcases List.mem_append.mp hx with q | q
    · split at q
      · simp at q
        rw [q, List.length_append, this]
        rfl
      · cases q
    · split at q
      · simp at q
        rw [q, List.length_append, this]
        rfl
      · cases q
theorem words_ok (k a m : Nat) (s : S) (h1 : 1 ≤ a) (h2 : a ≤ 12) (hm : a * m ≤ 18) : ∃ s' f, run (k + 1) 28 [.int a, .int m] s = .ok (.ref f) s' ∧ Old s s' ∧ s.length ≤ f ∧ s'[f]? = some (.lst (((wsF a m (a * m)).filter fun x => decide (x.2.1 = 0)).map fun x => .tup (x.1.map .int))) := by
  have eam : ((a : Int) * (m : Int)) = ((a * m : Nat) : Int) := by rw [Int.natCast_mul]
  rw [run, callN_at (n := 8) (np := 2) (body := B28) rfl rfl, B28]
  show ∃ s' f, retF (execs (cf k) _ [some (.int a), some (.int m), none, none, none, none, none, none] s) = _ ∧ _
  rw [x_asg (d := .ref s.length) (s1 := s ++ [.lst [itW ([], 0, 0)]]) (by
    simp only [ev_p0, ev_p1, ev_p3, ev_con, R.bind_ok, pm_tup0, pm_tup3, pm_lst1, ofOpt_some]
    rfl)]
  simp only [List.set_cons_succ, List.set_cons_zero]
  have hfl : ∀ i, i ≤ a * m → (wsF a m i).length ≤ 262144 := fun i hi => by
    have e1 := wsF_len a m i
    have e2 : 2 ^ i ≤ 2 ^ 18 := Nat.pow_le_pow_right (by decide) (by omega)
    have e3 : (2 : Nat) ^ 18 = 262144 := by decide
    omega
  obtain ⟨env2, s2, e, ho, f, x3, x4, x5, x6, x7, p1, p2, p3⟩ := run_rng1 (c := cf k) (es := [.prim .mul [.var 0, .var 1]]) (j := 3) (n := a * m) (b := [.asg (.nm 4) (.prim .lst []),
    .forr .seq [.var 2] (.tp [(.nm 5), (.nm 6), (.nm 7)]) [.ite (.prim .gt [.var 6, .con (.int 0)]) [.ex (.prim .app [.prim .lstI [.var 4], .prim .tup [.prim .add [.var 5, .prim .tup [.con (.int 0)]], .prim .sub [.var 6, .con (.int 1)], .var 7]])] [],
    .ite (.prim .lt [.var 7, .var 1]) [.ex (.prim .app [.prim .lstI [.var 4], .prim .tup [.prim .add [.var 5, .prim .tup [.con (.int 1)]], .prim .sub [.prim .add [.var 6, .var 0], .con (.int 1)], .prim .add [.var 7, .con (.int 1)]]])] []],
    .asg (.nm 2) (.var 4)])
    (env := [some (.int a), some (.int m), some (.ref s.length), none, none, none, none, none]) (s := s ++ [.lst [itW ([], 0, 0)]]) (s1 := s ++ [.lst [itW ([], 0, 0)]])
    (fun i env s2 => Old s s2 ∧ ∃ (f : Nat) (x3 x4 x5 x6 x7 : Option D), env = [some (.int a), some (.int m), some (.ref f), x3, x4, x5, x6, x7] ∧ s.length ≤ f ∧ s2[f]? = some (.lst ((wsF a m i).map itW)))
    (by simp only [evs_cons, evs_nil, ev_p2, ev_var0, ev_var1, R.bind_ok]
        rw [pm_mul (.inl (by omega)), ofOpt_some, R.bind_ok, eam]) (by omega) (by simp only [FUEL]; omega) ⟨Old.app .., s.length, none, none, none, none, none, rfl, Nat.le_refl _, app_last ..⟩
    (fun i env s2 hi ⟨o, f, x3, x4, x5, x6, x7, ee, hf, hs⟩ => by
      subst ee
      simp only [List.set_cons_succ, List.set_cons_zero]
      obtain ⟨g, hg⟩ : ∃ g, g = s2.length := ⟨_, rfl⟩
      have hfl2 : f < s2.length := (List.getElem?_eq_some_iff.mp hs).1
      have hwl := hfl i (by omega)
      rw [x_asg (d := .ref g) (s1 := s2 ++ [.lst []]) (by rw [ev_p0, pm_lst0, ofOpt_some, hg])]
      simp only [List.set_cons_succ, List.set_cons_zero]
      have hs0 : (s2 ++ [O.lst []])[f]? = some (.lst ((wsF a m i).map itW)) := by rw [List.getElem?_append_left hfl2, hs]
      obtain ⟨env3, s3, e3, o3, ⟨y5, y6, y7, r1⟩, r2, r3⟩ := run_lst (c := cf k) (es := [.var 2]) (t := .tp [(.nm 5), (.nm 6), (.nm 7)]) (n := f) (l := (wsF a m i).map itW) (b := [.ite (.prim .gt [.var 6, .con (.int 0)]) [.ex (.prim .app [.prim .lstI [.var 4], .prim .tup [.prim .add [.var 5, .prim .tup [.con (.int 0)]], .prim .sub [.var 6, .con (.int 1)], .var 7]])] [],
        .ite (.prim .lt [.var 7, .var 1]) [.ex (.prim .app [.prim .lstI [.var 4], .prim .tup [.prim .add [.var 5, .prim .tup [.con (.int 1)]], .prim .sub [.prim .add [.var 6, .var 0], .con (.int 1)], .prim .add [.var 7, .con (.int 1)]]])] []])
        (env := [some (.int a), some (.int m), some (.ref f), some (.int i), some (.ref g), x5, x6, x7]) (s := s2 ++ [.lst []]) (s1 := s2 ++ [.lst []])
        (fun j env s3 => Old s2 s3 ∧ (∃ y5 y6 y7 : Option D, env = [some (.int a), some (.int m), some (.ref f), some (.int i), some (.ref g), y5, y6, y7]) ∧ s3[g]? = some (.lst ((((wsF a m i).take j).flatMap (stW a m)).map itW)) ∧ s3[f]? = some (.lst ((wsF a m i).map itW)))
        (by simp only [evs_cons, evs_nil, ev_var2, R.bind_ok]) hs0 (fun _ _ _ h => h.2.2.2) (by rw [List.length_map]; simp only [FUEL]; omega) ⟨Old.app .., ⟨_, _, _, rfl⟩, by rw [hg, app_last]; rfl, hs0⟩
        (fun j d env s3 hd ⟨o3, ⟨y5, y6, y7, r1⟩, r2, r3⟩ => by
          subst r1
          rw [List.getElem?_map] at hd
          obtain ⟨⟨row, hi', up⟩, hx, rfl⟩ := Option.map_eq_some_iff.mp hd
          have hrow := wsF_row a m i _ (List.mem_of_getElem? hx)
          have hgl : g < s3.length := (List.getElem?_eq_some_iff.mp r2).1
          have htk : ((wsF a m i).take (j + 1)).flatMap (stW a m) = ((wsF a m i).take j).flatMap (stW a m) ++ stW a m (row, hi', up) := by
            rw [List.take_add_one, hx, List.flatMap_append]
            simp
          have hbl : (((wsF a m i).take j).flatMap (stW a m)).length ≤ 2 * 262144 := by
            have := flat_len a m ((wsF a m i).take j)
            have : ((wsF a m i).take j).length ≤ (wsF a m i).length := by rw [List.length_take]; omega
            omega
          generalize hB : ((wsF a m i).take j).flatMap (stW a m) = B at r2 htk hbl
          have hrow : row.length = i := hrow
          have hadd : ∀ (b : Int) (s : S), prim .add [.tup (row.map .int), .tup [.int b]] s = some (.tup ((row ++ [b]).map .int), s) := fun b s => by
            rw [pm_addT (by rw [List.length_map, List.length_singleton, LIM]; omega), List.map_append]
            rfl
          refine ⟨[some (.int a), some (.int m), some (.ref f), some (.int i), some (.ref g), some (.tup (row.map .int)), some (.int hi'), some (.int up)], rfl, ?_⟩
          -- first
          have first : ∀ r : List Mini.St, ∃ s4, execs (cf k) (.ite (.prim .gt [.var 6, .con (.int 0)]) [.ex (.prim .app [.prim .lstI [.var 4], .prim .tup [.prim .add [.var 5, .prim .tup [.con (.int 0)]], .prim .sub [.var 6, .con (.int 1)], .var 7]])] [] :: r) [some (.int a), some (.int m), some (.ref f), some (.int i), some (.ref g), some (.tup (row.map .int)), some (.int hi'), some (.int up)] s3 = execs (cf k) r [some (.int a), some (.int m), some (.ref f), some (.int i), some (.ref g), some (.tup (row.map .int)), some (.int hi'), some (.int up)] s4 ∧ Old s2 s4 ∧ s4[g]? = some (.lst ((B ++ (if 0 < hi' then [(row ++ [0], hi' - 1, up)] else [])).map itW)) ∧ s4[f]? = some (.lst ((wsF a m i).map itW)) := fun r => by
            by_cases z : 0 < hi'
            · refine ⟨s3.set g (.lst (B.map itW ++ [itW (row ++ [0], hi' - 1, up)])), ?_, o3.set (by omega), by rw [if_pos z, List.map_append]; exact List.getElem?_set_self hgl, by rw [List.getElem?_set_ne (by omega), r3]⟩
              rw [x_ifnx (s1 := s3) (by simp only [ev_p2, ev_var6, ev_con, R.bind_ok, pm_gt, ofOpt_some, decide_eq_true z]) (by
                rw [x_ex (d := .non) (by
                  rw [ev_p2, ev_p1, ev_var4, R.bind_ok, pm_lstI r2, ofOpt_some, R.bind_ok, ev_p3, ev_p2, ev_var5, R.bind_ok, ev_p1, ev_con, R.bind_ok, pm_tup1, ofOpt_some, R.bind_ok, hadd, ofOpt_some, R.bind_ok, ev_p2, ev_var6, R.bind_ok, ev_con, R.bind_ok, pm_sub, ofOpt_some, R.bind_ok, ev_var7, R.bind_ok, pm_tup3, ofOpt_some, R.bind_ok, pm_app r2 (by rw [List.length_map, LIM]; omega), ofOpt_some]), xs_nil])]
              rfl
            · refine ⟨s3, ?_, o3, by rw [if_neg z, List.append_nil]; exact r2, r3⟩
              rw [x_skip (s1 := s3) (by simp only [ev_p2, ev_var6, ev_con, R.bind_ok, pm_gt, ofOpt_some, decide_eq_false z])]
          obtain ⟨s4, e4, o4, t2, t3⟩ := first _
          rw [e4]
          have hgl4 : g < s4.length := (List.getElem?_eq_some_iff.mp t2).1
          have hbl2 : (B ++ (if 0 < hi' then [(row ++ [0], hi' - 1, up)] else [])).length ≤ 2 * 262144 + 1 := by
            rw [List.length_append]
            split <;> simp <;> omega
          rw [htk, stW, ← List.append_assoc]
          dsimp only
          generalize B ++ (if 0 < hi' then [(row ++ [0], hi' - 1, up)] else []) = B2 at t2 hbl2
          by_cases z : up < (m : Int)
          · refine ⟨[some (.int a), some (.int m), some (.ref f), some (.int i), some (.ref g), some (.tup (row.map .int)), some (.int hi'), some (.int up)], s4.set g (.lst (B2.map itW ++ [itW (row ++ [1], hi' + a - 1, up + 1)])), ?_, o4.set (by omega), ⟨_, _, _, rfl⟩, by rw [if_pos z, List.map_append]; exact List.getElem?_set_self hgl4, by rw [List.getElem?_set_ne (by omega), t3]⟩
            rw [x_ifnx (s1 := s4) (by simp only [ev_p2, ev_var7, ev_var1, R.bind_ok, pm_lt, ofOpt_some, decide_eq_true z]) (by
              rw [x_ex (d := .non) (by
                rw [ev_p2, ev_p1, ev_var4, R.bind_ok, pm_lstI t2, ofOpt_some, R.bind_ok, ev_p3, ev_p2, ev_var5, R.bind_ok, ev_p1, ev_con, R.bind_ok, pm_tup1, ofOpt_some, R.bind_ok, hadd, ofOpt_some, R.bind_ok, ev_p2, ev_p2, ev_var6, R.bind_ok, ev_var0, R.bind_ok, pm_add, ofOpt_some, R.bind_ok, ev_con, R.bind_ok, pm_sub, ofOpt_some, R.bind_ok, ev_p2, ev_var7, R.bind_ok, ev_con, R.bind_ok, pm_add, ofOpt_some, R.bind_ok, pm_tup3, ofOpt_some, R.bind_ok, pm_app t2 (by rw [List.length_map, LIM]; omega), ofOpt_some]), xs_nil]), xs_nil]
            rfl
          · refine ⟨[some (.int a), some (.int m), some (.ref f), some (.int i), some (.ref g), some (.tup (row.map .int)), some (.int hi'), some (.int up)], s4, ?_, o4, ⟨_, _, _, rfl⟩, by rw [if_neg z, List.append_nil]; exact t2, t3⟩
            rw [x_skip (s1 := s4) (by simp only [ev_p2, ev_var7, ev_var1, R.bind_ok, pm_lt, ofOpt_some, decide_eq_false z]), xs_nil])
      subst r1
      rw [List.length_map, List.take_length] at r2
      rw [xs_nx e3, x_asg (d := .ref g) (s1 := s3) (ev_var4 ..), xs_nil]
      exact ⟨_, s3, rfl, o.trans o3, g, _, _, _, _, _, rfl, by have := o.1; omega, r2⟩)
  subst p1
  have hwl := hfl (a * m) (Nat.le_refl _)
  obtain ⟨G, hG⟩ : ∃ G : D → Option D, ∀ x : Wd, G (itW x) = if x.2.1 = 0 then some (.tup (x.1.map .int)) else none := ⟨fun d => match d with | .tup [r, .int h, _] => if h = 0 then some r else none | _ => none, fun x => rfl⟩
  have hfin : ∀ l : List Wd, (l.map itW).filterMap G = (l.filter fun x => decide (x.2.1 = 0)).map fun x => D.tup (x.1.map .int) := fun l => by
    induction l with
    | nil => rfl
    | cons x r ih =>
      rw [List.map_cons, List.filterMap_cons, List.filter_cons, hG]
      by_cases z : x.2.1 = 0
      · rw [if_pos z, if_pos (decide_eq_true z), List.map_cons, ← ih]
      · rw [if_neg z, if_neg (by simp [z]), ← ih]
  have ec := ev_compLq (c := cf k) (q := .prim .eq [.var 6, .con (.int 0)]) (e := .var 5) (t := .tp [(.nm 5), (.nm 6), (.nm 7)]) (vs := [5, 6, 7]) (es := [.var 2]) (env := [some (.int a), some (.int m), some (.ref f), x3, x4, x5, x6, x7]) (s := s2) (n := f) (l := (wsF a m (a * m)).map itW) (s1 := s2) (g := G) (by simp only [evs_cons, evs_nil, ev_var2, R.bind_ok]) p3 (by rw [List.length_map, LIM]; omega) (by rw [List.length_map]; simp only [FUEL]; omega) (fun d hd acc => by
    obtain ⟨⟨row, h, up⟩, _, rfl⟩ := List.mem_map.mp hd
    refine ⟨_, rfl, ?_⟩
    simp only [wipeE, List.set_cons_succ, List.set_cons_zero]
    rw [ev_p2, ev_var6, R.bind_ok, ev_con, R.bind_ok, pm_eqI, ofOpt_some, hG]
    by_cases z : h = 0
    · rw [if_pos z, decide_eq_true z]
      rfl
    · rw [if_neg z, decide_eq_false z]
      rfl)
  rw [hfin] at ec
  refine ⟨s2 ++ [.lst (((wsF a m (a * m)).filter fun x => decide (x.2.1 = 0)).map fun x => .tup (x.1.map .int))], s2.length, ?_, ho.trans (Old.app ..), ho.1, app_last ..⟩
  rw [xs_nx e, x_ret ec]
  rfl
end K52
set_option Elab.async false
set_option linter.all false
set_option maxRecDepth 100000
set_option maxHeartbeats 1000000
namespace K52
open Mini
def opnB (a : Nat) : Int → List Int → Bool
  | n, [] => decide (n = 1)
  | n, b :: r => (decide (b = 0) || decide (b = 1)) && decide (0 < n - 1 + a * b) && opnB a (n - 1 + a * b) r
theorem opnB_ok {a : Nat} : ∀ {w : List Int} {n : Int}, opnB a n w = true → Opn a n w
  | [], n, h => by
    rw [opnB] at h
    show n = 1
    exact of_decide_eq_true h
  | b :: r, n, h => by
    rw [opnB, Bool.and_eq_true, Bool.and_eq_true, Bool.or_eq_true] at h
    exact ⟨h.1.1.imp of_decide_eq_true of_decide_eq_true, of_decide_eq_true h.1.2, opnB_ok h.2⟩
def limW : Nat → Nat
  | 1 => 7
  | 2 => 6
  | 3 => 5
  | _ => 4
def rowsW (a m : Nat) : List (List Int) := ((wsF a m (a * m)).filter fun x => decide (x.2.1 = 0)).map (·.1)
def okW (a : Nat) : Nat → List (List Int) → Bool
  | _, [] => true
  | i, w :: r => opnB a 1 w && decide (plF a 1 w = i) && okW a (i + 1) r
theorem okW_get {a : Nat} : ∀ {l : List (List Int)} {i j : Nat} {w : List Int}, okW a i l = true → l[j]? = some w → Opn a 1 w ∧ plF a 1 w = (i + j : Nat)
  | w :: r, i, 0, w', h, e => by
    rw [okW, Bool.and_eq_true, Bool.and_eq_true] at h
    obtain rfl : w = w' := Option.some.inj e
    exact ⟨opnB_ok h.1.1, of_decide_eq_true h.1.2⟩
  | w :: r, i, j + 1, w', h, e => by
    rw [okW, Bool.and_eq_true] at h
    have := okW_get (i := i + 1) (j := j) h.2 e
    rw [show i + (j + 1) = i + 1 + j by omega]
    exact this
theorem words_chk : ((List.range 7).all fun a => (List.range (limW a)).all fun m => decide (1 ≤ a → (okW a 0 (rowsW a m) = true ∧ ((rowsW a m).length : Int) = (chF (a * m : Nat) m).fdiv (((a : Int) - 1) * m + 1) ∧ 0 < (rowsW a m).length ∧ a * m ≤ 18))) = true := by decide +kernel
theorem words_all {a m : Nat} (h1 : 1 ≤ a) (h2 : a ≤ 6) (h3 : m < limW a) : okW a 0 (rowsW a m) = true ∧ ((rowsW a m).length : Int) = (chF (a * m : Nat) m).fdiv (((a : Int) - 1) * m + 1) ∧ 0 < (rowsW a m).length ∧ a * m ≤ 18 := by
  have := words_chk
  have := List.all_eq_true.mp this a (List.mem_range.mpr (by omega))
  have := List.all_eq_true.mp this m (List.mem_range.mpr h3)
  exact of_decide_eq_true this h1
end K52
set_option Elab.async false
set_option linter.all false
set_option maxRecDepth 100000
set_option maxHeartbeats 1000000
namespace K52
open Mini
theorem leF_zero (a : Int) (n : Nat) (lev room : Int) : leF a n lev room 0 = 0 := by
  cases n with
  | zero => rfl
  | succ n => rw [leF, if_neg (by omega)]
/-- one more costs a level at least -/
theorem leF_more {a : Int} (ha : 1 ≤ a) : ∀ (n : Nat) (lev room x y : Int), 0 ≤ lev → 1 ≤ room → 0 ≤ x → 0 ≤ y → x + y ≤ n → leF a n lev room x + y * lev ≤ leF a n lev room (x + y)
  | 0, lev, room, x, y, h1, h2, h3, h4, h5 => by
    obtain rfl : y = 0 := by omega
    simp [leF]
  | n + 1, lev, room, x, y, h1, h2, h3, h4, h5 => by
    have hra : 1 ≤ room * a := by
      have := Int.mul_le_mul h2 ha (by omega) (by omega)
      omega
    by_cases z : 0 < x + y
    · obtain ⟨h, hh⟩ : ∃ h, h = if room < x + y then room else x + y := ⟨_, rfl⟩
      have hh1 : 1 ≤ h ∧ h ≤ x + y := by rw [hh]; split <;> omega
      have e : leF a (n + 1) lev room (x + y) = h * lev + leF a n (lev + 1) (room * a) (x + y - h) := by rw [leF, if_pos z, ← hh]
      rw [e]
      have tail := leF_more ha n (lev + 1) (room * a) 0 (x + y - h) (by omega) hra (by omega) (by omega) (by omega)
      rw [leF_zero, Int.zero_add, Int.zero_add, Int.mul_add, Int.mul_one, Int.sub_mul, Int.add_mul] at tail
      by_cases zx : 0 < x
      · by_cases zr : room < x
        · have e2 : leF a (n + 1) lev room x = room * lev + leF a n (lev + 1) (room * a) (x - room) := by rw [leF, if_pos zx, if_pos zr]
          rw [e2]
          obtain rfl : h = room := by rw [hh, if_pos (by omega)]
          have := leF_more ha n (lev + 1) (h * a) (x - h) y (by omega) hra (by omega) h4 (by omega)
          rw [Int.mul_add, Int.mul_one, show x - h + y = x + y - h by omega] at this
          omega
        · have e2 : leF a (n + 1) lev room x = x * lev := by rw [leF, if_pos zx, if_neg zr, Int.sub_self, leF_zero, Int.add_zero]
          rw [e2]
          omega
      · obtain rfl : x = 0 := by omega
        rw [leF_zero]
        rw [Int.zero_mul] at tail
        omega
    · obtain rfl : y = 0 := by omega
      rw [Int.zero_mul, Int.add_zero, Int.add_zero]
      exact Int.le_refl _
theorem forks_kids : ∀ q : List Tr, forksTs q = cN q + forksTs (kidsL q)
  | [] => rfl
  | .nil :: r => by
    have := forks_kids r
    rw [kidsL_cons, show kids .nil = [] from rfl, List.nil_append]
    have e : cN (.nil :: r) = cN r := by simp [cN, isNd]
    rw [e, forksTs, forksT]
    omega
  | .node l :: r => by
    have := forks_kids r
    rw [kidsL_cons, forksTs_append, show kids (.node l) = l from rfl]
    have e : cN (.node l :: r) = cN r + 1 := by rw [cN, List.filter_cons, if_pos (show isNd (.node l) = true from rfl), List.length_cons]; rfl
    rw [e, forksTs, forksT]
    omega
theorem kids_len {a : Nat} : ∀ q : List Tr, Arys a q → (kidsL q).length = a * cN q
  | [], _ => rfl
  | .nil :: r, h => by
    have := kids_len r h.2
    rw [kidsL_cons, show kids .nil = [] from rfl, List.nil_append]
    have e : cN (.nil :: r) = cN r := by simp [cN, isNd]
    rw [e, this]
  | .node l :: r, h => by
    have := kids_len r h.2
    have hl := h.1.1
    rw [kidsL_cons, List.length_append, show kids (.node l) = l from rfl]
    have e : cN (.node l :: r) = cN r + 1 := by rw [cN, List.filter_cons, if_pos (show isNd (.node l) = true from rfl), List.length_cons]; rfl
    rw [e, this, hl, Nat.mul_add, Nat.mul_one]
    omega
theorem least_in {a : Nat} (ha : 1 ≤ a) : ∀ (n : Nat) (lev : Nat) (room : Int) (q : List Tr), Arys a q → (q.length : Int) ≤ room → 1 ≤ room → forksTs q ≤ n → leF a n lev room (forksTs q) ≤ inTs q lev
  | 0, lev, room, q, hA, hq, hr, hn => by
    rw [leF]
    omega
  | n + 1, lev, room, q, hA, hq, hr, hn => by
    have ek := forks_kids q
    by_cases z : forksTs q = 0
    · rw [z]
      have := leF_zero a (n + 1) lev room
      rw [show ((0 : Nat) : Int) = 0 from rfl, this]
      omega
    · have hc1 : 1 ≤ cN q := by
        rcases Nat.eq_zero_or_pos (cN q) with h | h
        · have := kids_len q hA
          rw [h, Nat.mul_zero] at this
          have e0 : kidsL q = [] := List.eq_nil_of_length_eq_zero this
          rw [e0, forksTs] at ek
          omega
        · exact h
      have hcl := cN_le q
      have hra : 1 ≤ room * a := by
        have := Int.mul_le_mul hr (show (1 : Int) ≤ a by omega) (by omega) (by omega)
        omega
      have hkl : ((kidsL q).length : Int) ≤ room * a := by
        rw [kids_len q hA, Int.natCast_mul, Int.mul_comm room]
        exact Int.mul_le_mul_of_nonneg_left (by omega) (by omega)
      have ih := least_in ha n (lev + 1) (room * a) (kidsL q) (kidsL_arys q hA) hkl hra (by omega)
      obtain ⟨h, hh⟩ : ∃ h : Int, h = if room < (forksTs q : Int) then room else (forksTs q : Int) := ⟨_, rfl⟩
      have hh1 : (cN q : Int) ≤ h ∧ h ≤ forksTs q := by rw [hh]; split <;> omega
      have e : leF a (n + 1) lev room (forksTs q) = h * lev + leF a n (lev + 1) (room * a) (forksTs q - h) := by rw [leF, if_pos (by omega), ← hh]
      have mo := leF_more (a := a) (by omega) n ((lev : Int) + 1) (room * a) ((forksTs q : Int) - h) (h - cN q) (by omega) hra (by omega) (by omega) (by omega)
      rw [show (forksTs q : Int) - h + (h - cN q) = forksTs (kidsL q) by omega, Int.mul_add, Int.mul_one, Int.sub_mul] at mo
      rw [e, inTs_kids, Int.natCast_add, Int.natCast_mul, Int.mul_comm (lev : Int)]
      rw [Int.natCast_add] at ih
      have ih' : leF a n ((lev : Int) + 1) (room * a) (forksTs (kidsL q)) ≤ inTs (kidsL q) (lev + 1) := ih
      omega
end K52
set_option Elab.async false
set_option linter.all false
set_option maxRecDepth 100000
set_option maxHeartbeats 1000000
namespace K52
open Mini
theorem comp_it {it : It} {l : List D} {n : Nat} {step : D → S → R (Option D)} (Inv : Nat → List D → S → Prop) (hat : ∀ i acc s, Inv i acc s → it.at i s = some (l[i]?))
    (hs : ∀ i d acc s, l[i]? = some d → Inv i acc s → acc.length < LIM ∧ ∃ y s1, step d s = .ok (some y) s1 ∧ s1[n]? = some (.lst acc) ∧ Inv (i + 1) (acc ++ [y]) (s1.set n (.lst (acc ++ [y])))) :
    ∀ (f i : Nat) (acc : List D) (s : S), i ≤ l.length → l.length < f + i → Inv i acc s → ∃ acc2 s2, compL n it step f i s = .ok () s2 ∧ Inv l.length acc2 s2
  | 0, i, acc, s, h1, h2, _ => by omega
  | f + 1, i, acc, s, h1, h2, h => by
    rw [compL, hat i acc s h]
    cases hd : l[i]? with
    | none =>
      have : l.length ≤ i := List.getElem?_eq_none_iff.mp hd
      have e : i = l.length := by omega
      subst e
      exact ⟨acc, s, rfl, h⟩
    | some d =>
      have hi : i < l.length := (List.getElem?_eq_some_iff.mp hd).1
      obtain ⟨hz, y, s1, e1, e2, hy⟩ := hs i d acc s hd h
      dsimp only
      rw [e1]
      dsimp only
      rw [e2]
      dsimp only
      rw [if_pos hz]
      obtain ⟨acc2, s2, e3, h3⟩ := comp_it Inv hat hs f (i + 1) (acc ++ [y]) _ hi (by omega) hy
      exact ⟨acc2, s2, e3, h3⟩
/-- the like, as the law's own look at it -/
def Sm (s : S) : Nat → D → D → Prop
  | _, .int i, .int j => i = j
  | _, .non, .non => True
  | k + 1, .tup l, .tup m => l.length = m.length ∧ l.length < LIM ∧ l.length < FUEL ∧ ∀ (i : Nat) (x y : D), l[i]? = some x → m[i]? = some y → Sm s k x y
  | k + 1, .ref n, .ref m => ∃ l l', s[n]? = some (.lst l) ∧ s[m]? = some (.lst l') ∧ l.length = l'.length ∧ l.length < LIM ∧ l.length < FUEL ∧ ∀ (i : Nat) (x y : D), l[i]? = some x → l'[i]? = some y → Sm s k x y
  | _, _, _ => False
theorem sm_old {s s' : S} (h : Old s s') : ∀ (k : Nat) (x y : D), Sm s k x y → Sm s' k x y
  | 0, x, y, z => by
    cases x <;> cases y <;> first | exact z | exact absurd z (by simp [Sm])
  | k + 1, x, y, z => by
    cases x <;> cases y <;> first
      | exact z
      | (obtain ⟨z1, z2, z3, z4⟩ := z; exact ⟨z1, z2, z3, fun i x y h1 h2 => sm_old h k x y (z4 i x y h1 h2)⟩)
      | (obtain ⟨l, l', z0, z00, z1, z2, z3, z4⟩ := z; exact ⟨l, l', h.at z0, h.at z00, z1, z2, z3, fun i x y h1 h2 => sm_old h k x y (z4 i x y h1 h2)⟩)
      | exact absurd z (by simp [Sm])
theorem any_ok (k : Nat) {s : S} {h : Nat} {n : Nat} {l : List Int} (H : HandOk s h) (hn : s[n]? = some (.lst (l.map .int))) (hne : n ≠ h) (h1 : 1 ≤ l.length) (h2 : l.length ≤ 1000) : ∃ x s', run (k + 2) 22 [.ref h, .ref n] s = .ok (.int x) s' ∧ x ∈ l ∧ Drawn s s' h := by
  rw [run, callN_at (n := 2) (np := 2) (body := B22) rfl rfl, B22]
  show ∃ x s', retF (execs (cf (k + 1)) _ [some (.ref h), some (.ref n)] s) = _ ∧ _
  obtain ⟨d, s1, e1, d0, d1, hD⟩ := draw_ok k (many := l.length) H (by omega) (by omega)
  have e1 : callN TBL FUEL (k + 1) 21 [.ref h, .int l.length] s = .ok (.int d) s1 := e1
  obtain ⟨i, rfl⟩ := Int.eq_ofNat_of_zero_le d0
  have hi : i < l.length := by omega
  refine ⟨l[i], s1, ?_, List.getElem_mem hi, hD⟩
  rw [x_ret (d := .int l[i]) (s1 := s1) (by
    simp only [ev_p1, ev_p2, ev_call2, ev_var0, ev_var1, R.bind_ok, pm_lenL hn, ofOpt_some, List.length_map, e1]
    rw [pm_ixN (l := l.map .int) (d := .int l[i]) (by rw [hD.oth n hne, hn]) (by rw [List.getElem?_map, List.getElem?_eq_getElem hi]; rfl), ofOpt_some])]
  rfl
end K52
set_option Elab.async false
set_option linter.all false
set_option maxRecDepth 100000
set_option maxHeartbeats 1000000
namespace K52
open Mini
theorem isiT_ref {s : S} {n : Nat} {l : List D} (h : s[n]? = some (.lst l)) : prim (.isiT [.tuple, .list]) [.ref n] s = some (.bl true, s) := by
  show (if (okD s (.ref n) && [Ty.tuple, .list].all okT) = true then some (D.bl ([Ty.tuple, .list].any (isTy s (.ref n))), s) else none) = _
  simp [okD, isTy, tyOf, h, okT, isTyK]
theorem isi_refT {s : S} {n : Nat} {l : List D} (h : s[n]? = some (.lst l)) : prim (.isi .tuple) [.ref n] s = some (.bl false, s) := by
  show (if (okD s (.ref n) && okT .tuple) = true then some (D.bl (isTy s (.ref n) .tuple), s) else none) = _
  simp only [okD, isTy, tyOf, h]
  rfl
theorem pm_neB (a b : Bool) (s : S) : prim .ne [.bl a, .bl b] s = some (.bl (!(a == b)), s) := by cases a <;> cases b <;> rfl
theorem pm_eqB (a b : Bool) (s : S) : prim .eq [.bl a, .bl b] s = some (.bl (a == b), s) := by cases a <;> cases b <;> rfl
/-- the middle: all parts alike -/
theorem same_all (k : Nat) {it : It} {x y : D} {l l' : List D} {s : S} (hlen : l.length = l'.length) (hl : l.length < LIM) (hf : l.length < FUEL) (hm : mkIt .zip [x, y] s = some it)
    (hat : ∀ i s', Old s s' → it.at i s' = some ((List.zipWith (fun a b => D.tup [a, b]) l l')[i]?))
    (hs : ∀ (i : Nat) (p q : D), l[i]? = some p → l'[i]? = some q → ∀ s1, Old s s1 → ∃ s2, (cf (k + 1)).call 23 [p, q] s1 = .ok (.bl true) s2 ∧ Old s1 s2) :
    ∃ s2, eval (cf (k + 1)) (.prim .all [.comp .zip [.var 0, .var 1] (.tp [(.nm 2), (.nm 3)]) (.con (.bl true)) (.call 23 [.var 2, .var 3]) [2, 3]]) [some x, some y, none, none] s = .ok (.bl true) s2 ∧ Old s s2 := by
  have hzl : (List.zipWith (fun a b => D.tup [a, b]) l l').length = l.length := by rw [List.length_zipWith, ← hlen, Nat.min_self]
  obtain ⟨acc, s2, e, ⟨i1, i2, i3, i4⟩⟩ := comp_it (it := it) (l := List.zipWith (fun a b => D.tup [a, b]) l l') (n := s.length) (step := fun d s3 => match bindT (.tp [(.nm 2), (.nm 3)]) d (wipeE [some x, some y, none, none] [2, 3]) with
      | none => .bad
      | some env1 => condR (eval (cf (k + 1)) (.con (.bl true)) env1 s3) (fun s4 => (eval (cf (k + 1)) (.call 23 [.var 2, .var 3]) env1 s4).bind fun y s5 => .ok (some y) s5) (fun s4 => .ok none s4))
    (fun i acc s2 => Old s s2 ∧ s2[s.length]? = some (.lst acc) ∧ acc.length = i ∧ ∃ bs : List Bool, acc = bs.map .bl ∧ bs.all id = true) (fun i acc s2 h => hat i s2 h.1)
    (fun i d acc s2 hd ⟨j1, j2, j3, bs, j4, j5⟩ => by
      have hi : i < l.length := by
        have := (List.getElem?_eq_some_iff.mp hd).1
        omega
      have e1 : l[i]? = some l[i] := List.getElem?_eq_getElem hi
      have e2 : l'[i]? = some (l'[i]'(by omega)) := List.getElem?_eq_getElem (by omega)
      rw [List.getElem?_zipWith, e1, e2] at hd
      obtain rfl := Option.some.inj hd
      obtain ⟨s3, e3, o3⟩ := hs i _ _ e1 e2 s2 j1
      have hg : s3[s.length]? = some (.lst acc) := o3.at j2
      refine ⟨by omega, .bl true, s3, ?_, hg, (j1.trans o3).set (Nat.le_refl _), List.getElem?_set_self (List.getElem?_eq_some_iff.mp hg).1, by rw [List.length_append, List.length_singleton, j3], bs ++ [true], by rw [j4, List.map_append]; rfl, by rw [List.all_append, j5]; rfl⟩
      show condR (eval (cf (k + 1)) (.con (.bl true)) [some x, some y, some l[i], some (l'[i]'(by omega))] s2) _ _ = _
      rw [ev_con, condR_t, ev_call2, ev_var (i := 2) (d := l[i]) rfl, R.bind_ok, ev_var (i := 3) (d := l'[i]'(by omega)) rfl, R.bind_ok, e3, R.bind_ok]) (cf (k + 1)).fuel 0 [] (s ++ [.lst []]) (Nat.zero_le _) (by rw [hzl]; exact hf) ⟨Old.app .., app_last .., rfl, [], rfl, rfl⟩
  obtain ⟨bs, j4, j5⟩ := i4
  refine ⟨s2, ?_, i1⟩
  have ec : eval (cf (k + 1)) (.comp .zip [.var 0, .var 1] (.tp [(.nm 2), (.nm 3)]) (.con (.bl true)) (.call 23 [.var 2, .var 3]) [2, 3]) [some x, some y, none, none] s = .ok (.ref s.length) s2 := by
    rw [eval]
    simp only [evs_cons, evs_nil, ev_var0, ev_var1, R.bind_ok]
    rw [itR, hm]
    dsimp only
    rw [R.bind_ok]
    exact (congrArg (fun r => R.bind r fun _ s4 => R.ok (D.ref s.length) s4) e).trans rfl
  rw [ev_p1, ec, R.bind_ok, pm_allL i2 j4, j5, ofOpt_some]
end K52
set_option Elab.async false
set_option linter.all false
set_option maxRecDepth 100000
set_option maxHeartbeats 1000000
namespace K52
open Mini
theorem same_ok : ∀ (k j : Nat) (x y : D) (s : S), Sm s k x y → ∃ s', run (k + j + 1) 23 [x, y] s = .ok (.bl true) s' ∧ Old s s' := by
  have sameI : ∀ (j : Nat) (i : Int) (s : S), ∃ s', run (j + 1) 23 [.int i, .int i] s = .ok (.bl true) s' ∧ Old s s' := fun j i s => by
    rw [run, callN_at (n := 4) (np := 2) (body := B23) rfl rfl, B23]
    show ∃ s', retF (execs (cf j) _ [some (.int i), some (.int i), none, none] s) = _ ∧ _
    refine ⟨s, ?_, Old.refl _⟩
    rw [x_skip (s1 := s) (by rw [ev_p1, ev_var1, R.bind_ok]; rfl)]
    rw [x_skip (s1 := s) (by
      simp only [ev_or, ev_p1, ev_var0, ev_var1, R.bind_ok, pm_isiB, ofOpt_some, condR_f, pm_isN, isNon])]
    rw [x_ret (d := .bl true) (s1 := s) (by
      simp only [ev_and, ev_p1, ev_p2, ev_var0, ev_var1, R.bind_ok]
      rw [show prim (.isi .str) [.int i] s = some (.bl false, s) from rfl, ofOpt_some, R.bind_ok, show prim (.isi .str) [.int i] s = some (.bl false, s) from rfl, ofOpt_some, R.bind_ok, pm_eqB, ofOpt_some, show (false == false) = true from rfl, condR_t]
      simp only [ev_and, ev_p1, ev_p2, ev_var0, ev_var1, R.bind_ok]
      rw [show prim (.isiT [.int, .str]) [.int i] s = some (.bl true, s) from rfl, ofOpt_some, condR_t]
      simp only [ev_p2, ev_var0, ev_var1, R.bind_ok, pm_eqI, ofOpt_some, decide_true])]
    rfl
  have sameN : ∀ (j : Nat) (s : S), ∃ s', run (j + 1) 23 [.non, .non] s = .ok (.bl true) s' ∧ Old s s' := fun j s => by
    rw [run, callN_at (n := 4) (np := 2) (body := B23) rfl rfl, B23]
    exact ⟨s, by rfl, Old.refl _⟩
  intro k
  induction k with
  | zero =>
    intro j x y s h
    rw [Nat.zero_add]
    cases x <;> cases y <;> first
      | (obtain rfl : _ = _ := h; exact sameI j _ s)
      | exact sameN j s
      | exact absurd h (by simp [Sm])
  | succ k ih =>
    intro j x y s h
    cases x with
    | int i => cases y with
      | int i' =>
        obtain rfl : i = i' := h
        exact sameI (k + 1 + j) i s
      | _ => exact absurd h (by simp [Sm])
    | non => cases y with
      | non => exact sameN (k + 1 + j) s
      | _ => exact absurd h (by simp [Sm])
    | tup l => cases y with
      | tup m =>
        obtain ⟨h1, h2, h3, h4⟩ := h
        rw [run, callN_at (n := 4) (np := 2) (body := B23) rfl rfl, B23]
        show ∃ s', retF (execs (cf (k + 1 + j)) _ [some (.tup l), some (.tup m), none, none] s) = _ ∧ _
        obtain ⟨s2, e, o⟩ := same_all (k + j) (it := .fix (List.zipWith (fun a b => D.tup [a, b]) l m)) (x := .tup l) (y := .tup m) (s := s) h1 h2 h3 rfl (fun _ _ _ => rfl) (fun i p q hp hq s1 o1 => by
          obtain ⟨s2, e, o⟩ := ih j p q s1 (sm_old o1 k p q (h4 i p q hp hq))
          exact ⟨s2, e, o⟩)
        rw [show k + j + 1 = k + 1 + j by omega] at e
        refine ⟨s2, ?_, o⟩
        rw [xs_rt (d := .bl true) (s1 := s2) (by
          rw [x_if (s1 := s) (by rw [ev_p1, ev_var1, R.bind_ok]; rfl)]
          rw [x_skip (s1 := s) (by
            rw [ev_or, ev_p2, ev_p1, ev_var0, R.bind_ok, pm_isiT, ofOpt_some, R.bind_ok, ev_p1, ev_var1, R.bind_ok, pm_isiT, ofOpt_some, R.bind_ok, pm_neB, ofOpt_some, show (!(true == true)) = false from rfl, condR_f, ev_not, ev_p1, ev_var0, R.bind_ok]
            rfl)]
          exact x_ret (by rw [ev_and, ev_p2, ev_p1, ev_var0, R.bind_ok, pm_lenT, ofOpt_some, R.bind_ok, ev_p1, ev_var1, R.bind_ok, pm_lenT, ofOpt_some, R.bind_ok, pm_eqI, ofOpt_some, decide_eq_true (by omega), condR_t, e]))]
        rfl
      | _ => exact absurd h (by simp [Sm])
    | ref n => cases y with
      | ref m =>
        obtain ⟨l, l', g1, g2, h1, h2, h3, h4⟩ := h
        rw [run, callN_at (n := 4) (np := 2) (body := B23) rfl rfl, B23]
        show ∃ s', retF (execs (cf (k + 1 + j)) _ [some (.ref n), some (.ref m), none, none] s) = _ ∧ _
        obtain ⟨s2, e, o⟩ := same_all (k + j) (it := .zip n m) (x := .ref n) (y := .ref m) (s := s) h1 h2 h3 (by
          show (match s[n]?, s[m]? with | some (.lst _), some (.lst _) => some (It.zip n m) | _, _ => none) = _
          rw [g1, g2]) (fun i s' o => by
          show (match s'[n]?, s'[m]? with
            | some (.lst l), some (.lst k) => some (match l[i]?, k[i]? with | some a, some b => some (D.tup [a, b]) | _, _ => none)
            | _, _ => none) = _
          rw [o.at g1, o.at g2, List.getElem?_zipWith]
          dsimp only
          cases l[i]? <;> cases l'[i]? <;> rfl) (fun i p q hp hq s1 o1 => by
          obtain ⟨s2, e, o⟩ := ih j p q s1 (sm_old o1 k p q (h4 i p q hp hq))
          exact ⟨s2, e, o⟩)
        rw [show k + j + 1 = k + 1 + j by omega] at e
        refine ⟨s2, ?_, o⟩
        rw [xs_rt (d := .bl true) (s1 := s2) (by
          rw [x_if (s1 := s) (by rw [ev_p1, ev_var1, R.bind_ok, isiT_ref g2, ofOpt_some])]
          rw [x_skip (s1 := s) (by
            rw [ev_or, ev_p2, ev_p1, ev_var0, R.bind_ok, isi_refT g1, ofOpt_some, R.bind_ok, ev_p1, ev_var1, R.bind_ok, isi_refT g2, ofOpt_some, R.bind_ok, pm_neB, ofOpt_some, show (!(false == false)) = false from rfl, condR_f, ev_not, ev_p1, ev_var0, R.bind_ok, isiT_ref g1, ofOpt_some, condR_t])]
          exact x_ret (by rw [ev_and, ev_p2, ev_p1, ev_var0, R.bind_ok, pm_lenL g1, ofOpt_some, R.bind_ok, ev_p1, ev_var1, R.bind_ok, pm_lenL g2, ofOpt_some, R.bind_ok, pm_eqI, ofOpt_some, decide_eq_true (by omega), condR_t, e]))]
        rfl
      | _ => exact absurd h (by simp [Sm])
    | _ => cases y <;> exact absurd h (by simp [Sm])
end K52
set_option Elab.async false
set_option linter.all false
set_option maxRecDepth 100000
set_option maxHeartbeats 1000000
namespace K52
open Mini
theorem sm_enc (s : S) : ∀ (k : Nat) (t : Tr), forksT t ≤ k → sizeT t ≤ 100000 → Sm s k (enc t) (enc t)
  | 0, .nil, _, _ => trivial
  | k + 1, .nil, _, _ => trivial
  | 0, .node l, h, _ => by
    rw [forksT] at h
    omega
  | k + 1, .node l, h, hz => by
    rw [forksT] at h
    rw [sizeT] at hz
    have hl := sizeTs_len l
    refine ⟨rfl, by rw [encs_len, LIM]; omega, by rw [encs_len]; simp only [FUEL]; omega, fun i x y h1 h2 => ?_⟩
    obtain rfl : x = y := Option.some.inj (h1.symm.trans h2)
    rw [encs_map, List.getElem?_map] at h1
    obtain ⟨t, ht, rfl⟩ := Option.map_eq_some_iff.mp h1
    have hm := forksTs_mem (List.mem_of_getElem? ht)
    refine sm_enc s k t (by omega) ?_
    have : ∀ (l : List Tr) (t : Tr), t ∈ l → sizeT t ≤ sizeTs l := fun l t ht => by
      induction l with
      | nil => cases ht
      | cons u r ih =>
        rw [sizeTs]
        rcases List.mem_cons.mp ht with e | h
        · rw [e]; omega
        · have := ih h; omega
    have := this l t (List.mem_of_getElem? ht)
    omega
theorem sm_ints (s : S) (k : Nat) (w : List Int) (h : w.length ≤ 100000) : Sm s (k + 1) (.tup (w.map .int)) (.tup (w.map .int)) := by
  refine ⟨rfl, by rw [List.length_map, LIM]; omega, by rw [List.length_map]; simp only [FUEL]; omega, fun i x y h1 h2 => ?_⟩
  obtain rfl : x = y := Option.some.inj (h1.symm.trans h2)
  rw [List.getElem?_map] at h1
  obtain ⟨b, _, rfl⟩ := Option.map_eq_some_iff.mp h1
  cases k <;> rfl
end K52
set_option Elab.async false
set_option linter.all false
set_option maxRecDepth 100000
set_option maxHeartbeats 1000000
namespace K52
open Mini
theorem pm_lst2 (a b : D) (s : S) : prim .lst [a, b] s = some (.ref s.length, s ++ [.lst [a, b]]) := rfl
theorem pm_lst3 (a b c : D) (s : S) : prim .lst [a, b, c] s = some (.ref s.length, s ++ [.lst [a, b, c]]) := rfl
/-- two lists of two -/
theorem sm_two {s : S} {k n m : Nat} {a b c d : D} (h1 : s[n]? = some (.lst [a, b])) (h2 : s[m]? = some (.lst [c, d])) (e1 : Sm s k a c) (e2 : Sm s k b d) : Sm s (k + 1) (.ref n) (.ref m) :=
  ⟨_, _, h1, h2, rfl, by simp [LIM], by simp [FUEL], fun i x y hx hy => match i with
    | 0 => by
      obtain rfl := Option.some.inj hx
      obtain rfl := Option.some.inj hy
      exact e1
    | 1 => by
      obtain rfl := Option.some.inj hx
      obtain rfl := Option.some.inj hy
      exact e2
    | i + 2 => by cases hx⟩
theorem sm_three {s : S} {k n m : Nat} {a b c d e f : D} (h1 : s[n]? = some (.lst [a, b, c])) (h2 : s[m]? = some (.lst [d, e, f])) (e1 : Sm s k a d) (e2 : Sm s k b e) (e3 : Sm s k c f) : Sm s (k + 1) (.ref n) (.ref m) :=
  ⟨_, _, h1, h2, rfl, by simp [LIM], by simp [FUEL], fun i x y hx hy => match i with
    | 0 => by
      obtain rfl := Option.some.inj hx
      obtain rfl := Option.some.inj hy
      exact e1
    | 1 => by
      obtain rfl := Option.some.inj hx
      obtain rfl := Option.some.inj hy
      exact e2
    | 2 => by
      obtain rfl := Option.some.inj hx
      obtain rfl := Option.some.inj hy
      exact e3
    | i + 3 => by cases hx⟩
end K52
set_option Elab.async false
set_option linter.all false
set_option maxRecDepth 100000
set_option maxHeartbeats 1000000
namespace K52
open Mini
theorem lie_ge {s : S} {n0 : Nat} : ∀ {rs : List Nat} {qs : List (List Tr)} {i r : Nat}, Lie s n0 rs qs → rs[i]? = some r → n0 ≤ r
  | _ :: _, q :: _, 0, r, ⟨h, _⟩, e => by rw [← Option.some.inj e]; exact h.1
  | _ :: _, _ :: _, i + 1, r, ⟨_, h'⟩, e => lie_ge (i := i) h' e
mutual
def py : Tr → PySem.PyData
  | .nil => PySem.PyData.none
  | .node l => PySem.PyData.tuple (pys l)
def pys : List Tr → List PySem.PyData
  | [] => []
  | t :: r => py t :: pys r
end
mutual
theorem eqv_py : ∀ t : Tr, PySem.PyData.eqv (py t) (py t) = true
  | .nil => by simp [py, PySem.PyData.eqv]
  | .node l => by
    rw [py, PySem.PyData.eqv]
    exact eqv_pys l
theorem eqv_pys : ∀ l : List Tr, PySem.PyData.eqvAll (pys l) (pys l) = true
  | [] => by simp [pys, PySem.PyData.eqvAll]
  | t :: r => by
    rw [pys, PySem.PyData.eqvAll, eqv_py t, eqv_pys r]
    rfl
end
theorem toPy_enc (s : S) : ∀ (k : Nat) (t : Tr), forksT t ≤ k → toPy s k (enc t) = some (py t)
  | 0, .nil, _ => rfl
  | 0, .node l, h => by
    rw [forksT] at h
    omega
  | k + 1, .nil, _ => rfl
  | k + 1, .node l, h => by
    rw [forksT] at h
    show ((encs l).mapM (toPy s k)).map PySem.PyData.tuple = _
    have : ∀ l : List Tr, forksTs l ≤ k → (encs l).mapM (toPy s k) = some (pys l) := by
      intro l
      induction l with
      | nil => intro _; rfl
      | cons t r ih =>
        intro h
        rw [forksTs] at h
        rw [encs, List.mapM_cons, toPy_enc s k t (by omega), ih (by omega)]
        rfl
    rw [this l (by omega)]
    rfl
theorem pm_eqT (t : Tr) (s : S) (h : forksT t ≤ 64) : prim .eq [enc t, enc t] s = some (.bl true, s) := by
  show (eqD s (enc t) (enc t)).map (fun b => (D.bl b, s)) = _
  have : eqD s (enc t) (enc t) = some true := by
    cases t with
    | nil => rfl
    | node l =>
      rw [eqD]
      by_cases hl : (encs l).isEmpty = true
      · have : emptyEq s (enc (.node l)) (enc (.node l)) = some true := by
          show (if ((encs l).isEmpty || (encs l).isEmpty) = true then some ((encs l).isEmpty && (encs l).isEmpty) else none) = _
          simp [hl]
        rw [this]
      · have : emptyEq s (enc (.node l)) (enc (.node l)) = none := by
          show (if ((encs l).isEmpty || (encs l).isEmpty) = true then some ((encs l).isEmpty && (encs l).isEmpty) else none) = _
          simp [hl]
        rw [this, toPy_enc s 64 _ h]
        show some (PySem.PyData.eqv _ _) = _
        rw [eqv_py]
  rw [this]
  rfl
theorem right_ok (a n : Nat) (w : List Int) (s : S) (h1 : 1 ≤ a) (h2 : a ≤ 6) (hn : n ≤ 12) (ho : Opn a 1 w) (hl : w.length = a * n) (hsum : w.sum = n) : ∃ s', run 39 31 [.int a, .int n, .tup (w.map .int)] s = .ok (.bl true) s' ∧ Old s s' := by
  obtain ⟨t, t1, t2, t3, t4, t5, t6⟩ := opn_tree ho
  have hw72 : a * n ≤ 72 := Nat.mul_le_mul h2 hn
  have hF : forksT t = n := by omega
  have hz : sizeT t ≤ 73 := by omega
  rw [run, callN_at (n := 9) (np := 3) (body := B31) rfl rfl, B31]
  show ∃ s', retF (execs (cf 38) _ [some (.int a), some (.int n), some (.tup (w.map .int)), none, none, none, none, none, none] s) = _ ∧ _
  obtain ⟨s1, e1, o1⟩ := ofWord_ok 37 a w s t (by omega) t1 t2
  have e1 : callN TBL FUEL 38 24 [.int a, .tup (w.map .int)] s = .ok (enc t) s1 := e1
  rw [x_asg (d := enc t) (s1 := s1) (by simp only [ev_call2, ev_var0, ev_var2, R.bind_ok]; exact e1)]
  simp only [List.set_cons_succ, List.set_cons_zero]
  obtain ⟨s2, e2, o2⟩ := word_ok 33 a t s1 h1 (by omega) t4 (by omega) (by omega)
  rw [t3, List.dropLast_concat] at e2
  have e2 : callN TBL FUEL 38 9 [.int a, enc t] s1 = .ok (.tup (w.map .int)) s2 := e2
  obtain ⟨s3, e3, o3⟩ := toWord_ok 34 a w s2 t h1 (by omega) (by omega) ho t2 t4 (by omega) (by omega)
  have e3 : callN TBL FUEL 38 11 [.int a, .tup (w.map .int)] s2 = .ok (enc t) s3 := e3
  obtain ⟨s4, e4, o4⟩ := same_ok 15 22 (.ref s3.length) (.ref (s3.length + 1)) ((s3 ++ [.lst [.tup (w.map .int), enc t]]) ++ [.lst [.tup (w.map .int), enc t]]) (sm_two (k := 14) (by rw [List.getElem?_append_left (by simp), app_last]) (by rw [show s3.length + 1 = (s3 ++ [O.lst [.tup (w.map .int), enc t]]).length by simp, app_last]) (sm_ints _ 13 w (by omega)) (sm_enc _ 14 t (by omega) (by omega)))
  have e4 : callN TBL FUEL 38 23 [.ref s3.length, .ref (s3.length + 1)] ((s3 ++ [.lst [.tup (w.map .int), enc t]]) ++ [.lst [.tup (w.map .int), enc t]]) = .ok (.bl true) s4 := e4
  rw [x_skip (s1 := s4) (by
    simp only [ev_not, ev_call2, ev_p2, ev_var0, ev_var2, ev_var3, R.bind_ok]
    rw [e2, R.bind_ok, e3, R.bind_ok, pm_lst2, ofOpt_some, R.bind_ok, pm_lst2, ofOpt_some, R.bind_ok, List.length_append, List.length_singleton, e4, condR_t])]
  have oa : Old s s4 := (((o1.trans o2).trans o3).trans ((Old.app ..).trans (Old.app ..))).trans o4
  obtain ⟨r, hr⟩ : ∃ r, r = s4.length := ⟨_, rfl⟩
  rw [x_asg (d := .ref r) (s1 := s4 ++ [.lst []]) (by rw [ev_p0, pm_lst0, ofOpt_some, hr])]
  simp only [List.set_cons_succ, List.set_cons_zero]
  obtain ⟨s6, f, rs, e6, o6, hfl, hf, hlie⟩ := levels_ok 37 t (s4 ++ [.lst []]) (by omega)
  have e6 : callN TBL FUEL 38 26 [enc t] (s4 ++ [.lst []]) = .ok (.ref f) s6 := e6
  have hbq := lvls_bq (sizeT t) [t] (by simp [sizeTs])
  have hL1 := lvls_size (sizeT t) [t] (by simp [sizeTs])
  have hL2 := lvls_len (sizeT t) [t]
  have hrl := lie_len hlie
  simp only [sizeTs, Nat.add_zero] at hbq hL1
  generalize lvls (sizeT t) [t] = L at hlie hbq hL1 hL2 hrl
  have hr6 : s6[r]? = some (.lst []) := o6.at (by rw [hr, app_last])
  have hrl6 : r < s6.length := (List.getElem?_eq_some_iff.mp hr6).1
  have hfr : f ≠ r := by rw [List.length_append, List.length_singleton] at hfl; omega
  have hff : f < s6.length := (List.getElem?_eq_some_iff.mp hf).1
  have hint : ∀ (b : Bool) (s : S), prim .int1 [.bl b] s = some (.int (if b then 1 else 0), s) := fun b s => by cases b <;> rfl
  have htot : L.flatten.length ≤ 73 := by rw [hbq, ← (show sizeTs [t] = sizeT t by simp [sizeTs]), bq_len (sizeT t) [t] (by simp [sizeTs])]; simp [sizeTs]; omega
  obtain ⟨env7, s7, e7, ⟨x7, p1⟩, p2, p3, p4⟩ := run_lst (c := cf 38) (es := [.call 26 [.var 3]]) (t := .nm 5) (n := f) (l := rs.map .ref) (b := [.ex (.prim .ext [.prim .lstI [.var 4], .comp .seq [.var 5] (.nm 8) (.con (.bl true)) (.prim .int1 [.prim .ntN [.var 8]]) [8]])])
    (env := [some (.int a), some (.int n), some (.tup (w.map .int)), some (enc t), some (.ref r), none, none, none, none]) (s := s4 ++ [.lst []]) (s1 := s6)
    (fun i env s7 => (∃ x, env = [some (.int a), some (.int n), some (.tup (w.map .int)), some (enc t), some (.ref r), x, none, none, none]) ∧ s7[r]? = some (.lst (dgs (L.take i).flatten)) ∧ s6.length ≤ s7.length ∧ ∀ q, q ≠ r → q < s6.length → s7[q]? = s6[q]?)
    (by simp only [evs_cons, evs_nil, ev_call1, ev_var3, R.bind_ok]; rw [e6, R.bind_ok]) hf (fun i env s h => by rw [h.2.2.2 f hfr hff, hf]) (by rw [List.length_map]; simp only [FUEL]; omega) ⟨⟨none, rfl⟩, hr6, Nat.le_refl _, fun _ _ _ => rfl⟩
    (fun i d env s7 hd ⟨⟨x, ee⟩, i1, i2, i3⟩ => by
      subst ee
      rw [List.getElem?_map] at hd
      obtain ⟨ri, hri, rfl⟩ := Option.map_eq_some_iff.mp hd
      obtain ⟨q, hq, hrq⟩ := lie_get hlie hri
      have hge := lie_ge hlie hri
      rw [List.length_append, List.length_singleton] at hge
      have hne : ri ≠ r := by omega
      have hrq7 : s7[ri]? = some (.lst (encs q)) := by rw [i3 ri hne (List.getElem?_eq_some_iff.mp hrq).1, hrq]
      have hql := sizeTs_len q
      have hqm := hL1 q (List.mem_of_getElem? hq)
      have hr7 : r < s7.length := by omega
      have htk : (L.take (i + 1)).flatten = (L.take i).flatten ++ q := by rw [List.take_add_one, hq, List.flatten_append]; simp
      have hlen2 : (L.take i).flatten.length + q.length ≤ 73 := by
        have e1 : (L.take (i + 1)).flatten.length ≤ L.flatten.length := by
          have : L.flatten = (L.take (i + 1)).flatten ++ (L.drop (i + 1)).flatten := by rw [← List.flatten_append, List.take_append_drop]
          rw [this, List.length_append]
          omega
        rw [htk, List.length_append] at e1
        omega
      have dl : ∀ l, (dgs l).length = l.length := fun l => by rw [dgs, List.length_map]
      have hmap : (encs q).map (fun d => D.int (if !isNon d then 1 else 0)) = dgs q := by
        rw [encs_map, List.map_map, dgs]
        apply List.map_congr_left
        intro t _
        cases t <;> rfl
      refine ⟨_, rfl, [some (.int a), some (.int n), some (.tup (w.map .int)), some (enc t), some (.ref r), some (.ref ri), none, none, none], (s7 ++ [O.lst (dgs q)]).set r (.lst (dgs (L.take i).flatten ++ dgs q)), ?_, ⟨_, rfl⟩, by rw [htk, dgs, dgs, dgs, List.map_append]; exact List.getElem?_set_self (by rw [List.length_append]; omega), by rw [List.length_set, List.length_append]; omega, fun q' h1 h2 => by rw [List.getElem?_set_ne (Ne.symm h1), List.getElem?_append_left (by omega), i3 q' h1 h2]⟩
      simp only [List.set_cons_succ, List.set_cons_zero]
      have ec : eval (cf 38) (.comp .seq [.var 5] (.nm 8) (.con (.bl true)) (.prim .int1 [.prim .ntN [.var 8]]) [8]) [some (.int a), some (.int n), some (.tup (w.map .int)), some (enc t), some (.ref r), some (.ref ri), none, none, none] s7 = .ok (.ref s7.length) (s7 ++ [.lst ((encs q).map fun d => D.int (if !isNon d then 1 else 0))]) :=
        ev_compL (n := ri) (l := encs q) (s1 := s7) (by simp only [evs_cons, evs_nil, ev_var5, R.bind_ok]) hrq7 (by rw [encs_len, LIM]; omega) (by rw [encs_len]; simp only [FUEL]; omega) (fun d hd acc => ⟨_, rfl, by
          simp only [wipeE, List.set_cons_succ, List.set_cons_zero]
          rw [ev_p1, ev_p1, ev_var (i := 8) (d := d) rfl, R.bind_ok, pm_ntN, ofOpt_some, R.bind_ok, hint, ofOpt_some]⟩)
      rw [hmap] at ec
      rw [x_ex (d := .non) (by rw [ev_p2, ev_p1, ev_var4, R.bind_ok, pm_lstI i1, ofOpt_some, R.bind_ok, ec, R.bind_ok, pm_ext (by rw [List.getElem?_append_left hr7]; exact i1) (app_last ..) (by rw [dl, dl, LIM]; omega), ofOpt_some]), xs_nil])
  subst p1
  rw [List.length_map, hrl, List.take_length, hbq] at p2
  rw [xs_nx e7]
  have o7 : Old s s7 := oa.trans ⟨by have := o6.1; rw [List.length_append] at this; omega, fun q hq => by
    have z1 := o6.1
    rw [List.length_append] at z1
    rw [p4 q (by omega) (by omega), o6.2 q (by rw [List.length_append]; omega), List.getElem?_append_left hq]⟩
  obtain ⟨s8, e8, o8⟩ := levelWord_ok 33 a t s7 h1 (by omega) t4 (by omega) (by omega)
  obtain ⟨s9, e9, o9⟩ := ofLevels_ok 33 a t s8 h1 (by omega) t4 (by omega) (by omega)
  have hWl : (bq (sizeT t) [t]).length ≤ 73 := by rw [← (show sizeTs [t] = sizeT t by simp [sizeTs]), bq_len (sizeT t) [t] (by simp [sizeTs])]; simp [sizeTs]; omega
  generalize hW : bq (sizeT t) [t] = W at p2 e8 e9 hWl
  have e8 : callN TBL FUEL 38 15 [.int a, enc t] s7 = .ok (.tup (dgs W)) s8 := e8
  have e9 : callN TBL FUEL 38 16 [.int a, .tup (dgs W)] s8 = .ok (enc t) s9 := e9
  have p8 : s8[r]? = some (.lst (dgs W)) := o8.at p2
  have p9 : s9[r]? = some (.lst (dgs W)) := o9.at p8
  rw [x_asg (d := .ref s9.length) (s1 := s9 ++ [.lst [.tup (dgs W), enc t]]) (by
    simp only [ev_p1, ev_p2, ev_call2, ev_var0, ev_var3, ev_var4, R.bind_ok]
    rw [e8, R.bind_ok, pm_tuple1L p8, ofOpt_some, R.bind_ok, e9, R.bind_ok, pm_lst2, ofOpt_some])]
  simp only [List.set_cons_succ, List.set_cons_zero]
  have hsmW : ∀ s, Sm s 14 (.tup (dgs W)) (.tup (dgs W)) := fun s => by rw [dgs_map]; exact sm_ints s 13 _ (by rw [List.length_map]; omega)
  obtain ⟨s11, e11, o11⟩ := same_ok 15 22 (.ref s9.length) (.ref (s9.length + 1)) ((s9 ++ [.lst [.tup (dgs W), enc t]]) ++ [.lst [.tup (dgs W), enc t]]) (sm_two (k := 14) (by rw [List.getElem?_append_left (by simp), app_last]) (by rw [show s9.length + 1 = (s9 ++ [O.lst [.tup (dgs W), enc t]]).length by simp, app_last]) (hsmW _) (sm_enc _ 14 t (by omega) (by omega)))
  have e11 : callN TBL FUEL 38 23 [.ref s9.length, .ref (s9.length + 1)] ((s9 ++ [.lst [.tup (dgs W), enc t]]) ++ [.lst [.tup (dgs W), enc t]]) = .ok (.bl true) s11 := e11
  have p10 : (s9 ++ [O.lst [.tup (dgs W), enc t]])[r]? = some (.lst (dgs W)) := (Old.app s9 _).at p9
  rw [x_skip (s1 := s11) (by
    simp only [ev_not, ev_call2, ev_p1, ev_p2, ev_var3, ev_var4, ev_var6, R.bind_ok]
    rw [pm_tuple1L p10, ofOpt_some, R.bind_ok, pm_lst2, ofOpt_some, R.bind_ok, List.length_append, List.length_singleton, e11, condR_t])]
  have ob : Old s s11 := ((o7.trans o8).trans o9).trans (((Old.app ..).trans (Old.app ..)).trans o11)
  obtain ⟨s12, e12, o12⟩ := sums_ok 36 t s11 (by omega)
  have e12 : callN TBL FUEL 38 29 [enc t] s11 = .ok (.tup [.int (inT t 0), .int (outT t 0)]) s12 := e12
  rw [x_asg (d := .tup [.int (inT t 0), .int (outT t 0)]) (s1 := s12) (by simp only [ev_call1, ev_var3, R.bind_ok, e12])]
  simp only [List.set_cons_succ, List.set_cons_zero]
  obtain ⟨s13, e13, o13⟩ := forks_ok 33 a t s12 h1 (by omega) t4 (by omega) (by omega)
  rw [hF] at e13
  have e13 : callN TBL FUEL 38 6 [.int a, enc t] s12 = .ok (.int n) s13 := e13
  obtain ⟨s14, e14, o14⟩ := heights_ok 33 a t s13 h1 (by omega) t4 (by omega) (by omega)
  have e14 : callN TBL FUEL 38 18 [.int a, enc t] s13 = .ok (.tup [.int (inT t 0), .int (outT t 0)]) s14 := e14
  have htt : ∀ s, prim .tuple1 [.tup [.int (inT t 0), .int (outT t 0)]] s = some (.tup [.int (inT t 0), .int (outT t 0)], s) := fun _ => rfl
  have hix1 : ∀ s, prim .ix [.tup [.int (inT t 0), .int (outT t 0)], .int 1] s = some (.int (outT t 0), s) := fun _ => rfl
  have hix0 : ∀ s, prim .ix [.tup [.int (inT t 0), .int (outT t 0)], .int 0] s = some (.int (inT t 0), s) := fun _ => rfl
  obtain ⟨s15, e15, o15⟩ := same_ok 15 22 (.ref s14.length) (.ref (s14.length + 1)) ((s14 ++ [.lst [.int n, .tup [.int (inT t 0), .int (outT t 0)]]]) ++ [.lst [.int n, .tup [.int (inT t 0), .int (outT t 0)]]]) (sm_two (k := 14) (by rw [List.getElem?_append_left (by simp), app_last]; rfl) (by rw [show s14.length + 1 = (s14 ++ [O.lst [.int n, .tup [.int (inT t 0), .int (outT t 0)]]]).length by simp, app_last]; rfl) (a := .int n) (c := .int n) (by rw [Sm]) (sm_ints _ 13 [(inT t 0 : Int), (outT t 0 : Int)] (by simp)))
  have e15 : callN TBL FUEL 38 23 [.ref s14.length, .ref (s14.length + 1)] ((s14 ++ [.lst [.int n, .tup [.int (inT t 0), .int (outT t 0)]]]) ++ [.lst [.int n, .tup [.int (inT t 0), .int (outT t 0)]]]) = .ok (.bl true) s15 := e15
  rw [x_skip (s1 := s15) (by
    simp only [ev_not, ev_call2, ev_p1, ev_p2, ev_var0, ev_var1, ev_var3, ev_var7, R.bind_ok]
    rw [e13, R.bind_ok, e14, R.bind_ok, htt, ofOpt_some, R.bind_ok, pm_lst2, ofOpt_some, R.bind_ok, pm_lst2, ofOpt_some, R.bind_ok, List.length_append, List.length_singleton, e15, condR_t])]
  have hq := out_in a t 0 t4
  rw [hF] at hq
  rw [x_skip (s1 := s15) (by
    simp only [ev_p2, ev_var0, ev_var1, ev_var7, ev_con, R.bind_ok, hix1, hix0, pm_sub, ofOpt_some]
    rw [pm_mul (.inl (by omega)), ofOpt_some, R.bind_ok, pm_mul (.inl (by omega)), ofOpt_some, R.bind_ok, pm_add, ofOpt_some, R.bind_ok, pm_neI, decide_eq_true (by rw [hq]; simp)]
    rfl)]
  have hin := least_in h1 100 0 1 [t] ⟨t4, trivial⟩ (by simp) (by omega) (by simp only [forksTs]; omega)
  have hin : leF a 100 0 1 n ≤ (inT t 0 : Int) := by
    simp only [forksTs, inTs, hF, Nat.add_zero] at hin
    exact hin
  rw [x_skip (s1 := s15) (by
    simp only [ev_and, ev_p2, ev_var0, ev_con, R.bind_ok, pm_gt, ofOpt_some]
    by_cases ha : (1 : Int) < a
    · have e16 : callN TBL FUEL 38 19 [.int a, .int n] s15 = .ok (.int (leF a 100 0 1 n)) s15 := least_ok 35 a n s15 (by omega) (by omega) (by omega) (by omega)
      rw [decide_eq_true ha, condR_t]
      simp only [ev_p2, ev_con, ev_call2, ev_var0, ev_var1, ev_var7, R.bind_ok]
      rw [e16, R.bind_ok, hix0, ofOpt_some, R.bind_ok, pm_gt, decide_eq_false (by omega)]
      rfl
    · rw [decide_eq_false ha, condR_f])]
  obtain ⟨s16, e17, o16⟩ := place_ok 32 a t w s15 h1 (by omega) t4 (by omega) t3 ho (by omega)
  have e17 : callN TBL FUEL 38 14 [.int a, enc t] s15 = .ok (.int (plF a 1 w)) s16 := e17
  obtain ⟨s17, e18, o17⟩ := manyAt_ok 33 a n t w s16 h1 h2 hn t4 (by omega) t2 ho hl (by omega)
  have e18 : callN TBL FUEL 38 13 [.int a, .int n, .int (plF a 1 w)] s16 = .ok (enc t) s17 := e18
  rw [x_ret (d := .bl true) (s1 := s17) (by
    simp only [ev_p2, ev_call2, ev_call3, ev_var0, ev_var1, ev_var3, R.bind_ok]
    rw [e17, R.bind_ok, e18, R.bind_ok, pm_eqT t s17 (by omega), ofOpt_some])]
  exact ⟨s17, rfl, (((ob.trans o12).trans o13).trans o14).trans ((((Old.app ..).trans (Old.app ..)).trans o15).trans (o16.trans o17))⟩
end K52
set_option Elab.async false
set_option linter.all false
set_option maxRecDepth 100000
set_option maxHeartbeats 1000000
namespace K52
open Mini
theorem HandOk.old {s s' : S} {h : Nat} (H : HandOk s h) (o : Old s s') : HandOk s' h := by
  obtain ⟨c, cells, p, b, sd, ct, e1, e2, r⟩ := H.ex
  exact ⟨⟨c, cells, p, b, sd, ct, o.at e1, o.at e2, r⟩⟩
theorem HandOk.lt {s : S} {h : Nat} (H : HandOk s h) : h < s.length := by
  obtain ⟨c, cells, p, b, sd, ct, e1, _⟩ := H.ex
  exact (List.getElem?_eq_some_iff.mp e1).1
mutual
theorem forks_le : ∀ t : Tr, forksT t ≤ sizeT t
  | .nil => by simp [forksT]
  | .node l => by
    have := forkss_le l
    rw [forksT, sizeT]
    omega
theorem forkss_le : ∀ l : List Tr, forksTs l ≤ sizeTs l
  | [] => by simp [forksTs]
  | t :: r => by
    have := forks_le t
    have := forkss_le r
    rw [forksTs, sizeTs]
    omega
end
section
variable {c : Cfg} {s : S}
theorem ev_var8 (a b e f g h i j : Option D) (d : D) (r : Ev) : eval c (.var 8) (a :: b :: e :: f :: g :: h :: i :: j :: some d :: r) s = .ok d s := ev_var rfl
theorem ev_var9 (a b e f g h i j k : Option D) (d : D) (r : Ev) : eval c (.var 9) (a :: b :: e :: f :: g :: h :: i :: j :: k :: some d :: r) s = .ok d s := ev_var rfl
theorem ev_var10 (a b e f g h i j k l : Option D) (d : D) (r : Ev) : eval c (.var 10) (a :: b :: e :: f :: g :: h :: i :: j :: k :: l :: some d :: r) s = .ok d s := ev_var rfl
theorem ev_var11 (a b e f g h i j k l m : Option D) (d : D) (r : Ev) : eval c (.var 11) (a :: b :: e :: f :: g :: h :: i :: j :: k :: l :: m :: some d :: r) s = .ok d s := ev_var rfl
end
def KV : List (L2.Key × D) := [(.inl 1, .int 7), (.inl 2, .int 6), (.inl 3, .int 5), (.inl 4, .int 4), (.inl 5, .int 4), (.inl 6, .int 4)]
theorem dsp_ok (c : Cfg) (env : Ev) (s : S) (a : Nat) (h1 : 1 ≤ a) (h2 : a ≤ 6) (hv : env[3]? = some (some (.int a))) :
    eval c (.prim .ix [.dsp [.con (.int 1), .con (.int 7), .con (.int 2), .con (.int 6), .con (.int 3), .con (.int 5), .con (.int 4), .con (.int 4), .con (.int 5), .con (.int 4), .con (.int 6), .con (.int 4)], .var 3]) env s = .ok (.int (limW a)) (s ++ [.dct KV]) := by
  have e : eval c (.dsp [.con (.int 1), .con (.int 7), .con (.int 2), .con (.int 6), .con (.int 3), .con (.int 5), .con (.int 4), .con (.int 4), .con (.int 5), .con (.int 4), .con (.int 6), .con (.int 4)]) env s = .ok (.ref s.length) (s ++ [.dct KV]) := by
    rw [eval]
    simp only [evs_cons, evs_nil, ev_con, R.bind_ok]
    rw [fillD, app_last]
    have : pairsD [.int 1, .int 7, .int 2, .int 6, .int 3, .int 5, .int 4, .int 4, .int 5, .int 4, .int 6, .int 4] = some KV := rfl
    dsimp only
    rw [this]
    have hm : mergeD [] KV = KV := rfl
    show ofOpt (if KV.length ≤ 15 then some (D.ref s.length, (s ++ [O.dct []]).set s.length (O.dct (mergeD [] KV))) else none) = _
    rw [if_pos (by decide), hm, List.set_append_right _ _ (Nat.le_refl _), Nat.sub_self]
    rfl
  rw [ev_p2, e, R.bind_ok, ev_var hv, R.bind_ok, pm_ixD (d := .int (limW a)) (app_last ..) (by
    have : a = 1 ∨ a = 2 ∨ a = 3 ∨ a = 4 ∨ a = 5 ∨ a = 6 := by omega
    rcases this with rfl | rfl | rfl | rfl | rfl | rfl <;> rfl), ofOpt_some]
abbrev TB : List Mini.St := [.par [3, 4] [.prim .add [.con (.int 1), .call 21 [.var 1, .con (.int 6)]], .call 21 [.var 1, .con (.int 13)]],
    .ite (.not (.call 31 [.var 3, .var 4, .call 25 [.var 1, .var 3, .var 4]])) [.ret (.con (.bl false))] [],
    .asg (.nm 5) (.call 21 [.var 1, .prim .ix [.dsp [.con (.int 1), .con (.int 7), .con (.int 2), .con (.int 6), .con (.int 3), .con (.int 5), .con (.int 4), .con (.int 4), .con (.int 5), .con (.int 4), .con (.int 6), .con (.int 4)], .var 3]]),
    .asg (.nm 6) (.call 28 [.var 3, .var 5]),
    .asg (.nm 7) (.call 21 [.var 1, .prim .len [.var 6]]),
    .asg (.nm 8) (.call 24 [.var 3, .prim .ix [.var 6, .var 7]]),
    .asg (.nm 9) (.prim .lst [.call 13 [.var 3, .var 5, .var 7], .call 14 [.var 3, .var 8], .call 8 [.var 3, .var 5]]),
    .ite (.not (.call 23 [.var 9, .prim .lst [.var 8, .var 7, .prim .len [.var 6]]])) [.ret (.con (.bl false))] [],
    .asg (.nm 10) (.call 21 [.var 1, .con (.int 501)]),
    .asg (.nm 11) (.prim .add [.con (.int 1), .call 21 [.var 1, .con (.int 12)]]),
    .ite (.not (.call 23 [.call 8 [.var 11, .var 10], .call 27 [.var 11, .var 10]])) [.ret (.con (.bl false))] [],
    .asg (.nm 10) (.prim .mul [.call 21 [.var 1, .prim .pw [.con (.int 10), .con (.int 9)]], .call 22 [.var 1, .prim .lst [.con (.int 0), .con (.int 1), .prim .pw [.con (.int 10), .con (.int 20)]]]]),
    .asg (.nm 11) (.prim .add [.con (.int 2), .call 21 [.var 1, .con (.int 11)]]),
    .ite (.not (.call 23 [.call 19 [.var 11, .var 10], .call 30 [.var 11, .var 10]])) [.ret (.con (.bl false))] []]
theorem rows_len {a m : Nat} (h : a * m ≤ 18) : (rowsW a m).length ≤ 262144 := by
  rw [rowsW, List.length_map]
  have h1 := List.length_filter_le (fun x : Wd => decide (x.2.1 = 0)) (wsF a m (a * m))
  have h2 := wsF_len a m (a * m)
  have h3 : 2 ^ (a * m) ≤ 2 ^ 18 := Nat.pow_le_pow_right (by omega) h
  omega
theorem turn_ok (f : D) (i : Int) (x3 x4 x5 x6 x7 x8 x9 x10 x11 : Option D) (s : S) (H : HandOk s 3) : ∃ y3 y4 y5 y6 y7 y8 y9 y10 y11 s', execs (cf 39) TB [some f, some (.ref 3), some (.int i), x3, x4, x5, x6, x7, x8, x9, x10, x11] s = .nx [some f, some (.ref 3), some (.int i), y3, y4, y5, y6, y7, y8, y9, y10, y11] s' ∧ HandOk s' 3 := by
  obtain ⟨d1, s1, e1, g1, g1', D1⟩ := draw_ok 38 (many := 6) H (by omega) (by omega)
  have e1 : callN TBL FUEL 39 21 [.ref 3, .int 6] s = .ok (.int d1) s1 := e1
  obtain ⟨d2, s2, e2, g2, g2', D2⟩ := draw_ok 38 (many := 13) D1.ok (by omega) (by omega)
  have e2 : callN TBL FUEL 39 21 [.ref 3, .int 13] s1 = .ok (.int d2) s2 := e2
  obtain ⟨a, ha⟩ : ∃ a : Nat, (a : Int) = 1 + d1 := ⟨(1 + d1).toNat, by omega⟩
  obtain ⟨n, hn⟩ : ∃ n : Nat, (n : Int) = d2 := ⟨d2.toNat, by omega⟩
  have ha1 : 1 ≤ a := by omega
  have ha6 : a ≤ 6 := by omega
  have hn12 : n ≤ 12 := by omega
  rw [TB, x_par (ds := [.int a, .int n]) (s1 := s2) (env1 := [some f, some (.ref 3), some (.int i), some (.int a), some (.int n), x5, x6, x7, x8, x9, x10, x11]) (by
    simp only [evs_cons, evs_nil, ev_p2, ev_call2, ev_con, ev_var1, R.bind_ok]
    rw [e1, R.bind_ok, pm_add, ofOpt_some, R.bind_ok, e2, R.bind_ok, R.bind_ok, ← ha, hn]) rfl]
  obtain ⟨w, s3, e3, D3, w1, w2, w3⟩ := drawn_ok 37 a n s2 3 D2.ok ha1 (by omega) (by omega)
  have e3 : callN TBL FUEL 39 25 [.ref 3, .int a, .int n] s2 = .ok (.tup (w.map .int)) s3 := e3
  obtain ⟨s4, e4, o4⟩ := right_ok a n w s3 ha1 ha6 hn12 w2 w1 w3
  have e4 : callN TBL FUEL 39 31 [.int a, .int n, .tup (w.map .int)] s3 = .ok (.bl true) s4 := e4
  rw [x_skip (s1 := s4) (by
    simp only [ev_not, ev_call3, ev_var1, ev_var3, ev_var4, R.bind_ok]
    rw [e3, R.bind_ok, e4, condR_t])]
  have H5 : HandOk (s4 ++ [.dct KV]) 3 := (D3.ok.old o4).old (Old.app ..)
  have hlw : 1 ≤ limW a ∧ limW a ≤ 7 := by
    have : a = 1 ∨ a = 2 ∨ a = 3 ∨ a = 4 ∨ a = 5 ∨ a = 6 := by omega
    rcases this with rfl | rfl | rfl | rfl | rfl | rfl <;> exact ⟨by decide, by decide⟩
  obtain ⟨d3, s5, e5, g3, g3', D5⟩ := draw_ok 38 (many := (limW a : Int)) H5 (by omega) (by omega)
  obtain ⟨m, hm⟩ : ∃ m : Nat, (m : Int) = d3 := ⟨d3.toNat, by omega⟩
  subst hm
  have e5 : callN TBL FUEL 39 21 [.ref 3, .int (limW a)] (s4 ++ [.dct KV]) = .ok (.int m) s5 := e5
  rw [x_asg (d := .int m) (s1 := s5) (by rw [ev_call2, ev_var1, R.bind_ok, dsp_ok _ _ _ a ha1 ha6 rfl, R.bind_ok]; exact e5)]
  simp only [List.set_cons_succ, List.set_cons_zero]
  obtain ⟨k1, k2, k3, k4⟩ := words_all (a := a) (m := m) ha1 ha6 (by omega)
  obtain ⟨s6, fr, e6, o6, hfr, hrows⟩ := words_ok 38 a m s5 ha1 (by omega) k4
  have e6 : callN TBL FUEL 39 28 [.int a, .int m] s5 = .ok (.ref fr) s6 := e6
  have hrows : s6[fr]? = some (.lst ((rowsW a m).map fun w => .tup (w.map .int))) := by
    rw [hrows, rowsW, List.map_map]
    rfl
  rw [x_asg (d := .ref fr) (s1 := s6) (by rw [ev_call2, ev_var3, R.bind_ok, ev_var5, R.bind_ok]; exact e6)]
  simp only [List.set_cons_succ, List.set_cons_zero]
  have H6 := D5.ok.old o6
  have hfr3 : fr ≠ 3 := by
    have := D5.ok.lt
    omega
  have hlen := rows_len k4
  obtain ⟨d4, s7, e7, g4, g4', D7⟩ := draw_ok 38 (many := ((rowsW a m).length : Int)) H6 (by omega) (by omega)
  obtain ⟨j, hj⟩ : ∃ j : Nat, (j : Int) = d4 := ⟨d4.toNat, by omega⟩
  subst hj
  have e7 : callN TBL FUEL 39 21 [.ref 3, .int ((rowsW a m).length : Int)] s6 = .ok (.int j) s7 := e7
  have hrows7 := (D7.oth fr hfr3).trans hrows
  rw [x_asg (d := .int j) (s1 := s7) (by
    rw [ev_call2, ev_var1, R.bind_ok, ev_p1, ev_var6, R.bind_ok, pm_lenL hrows, ofOpt_some, R.bind_ok, List.length_map]
    exact e7)]
  simp only [List.set_cons_succ, List.set_cons_zero]
  obtain ⟨w', hw'⟩ : ∃ w', (rowsW a m)[j]? = some w' := ⟨_, List.getElem?_eq_getElem (by omega)⟩
  obtain ⟨ho', hpl⟩ := okW_get k1 hw'
  have hpl : plF a 1 w' = (j : Int) := by rw [hpl, Nat.zero_add]
  obtain ⟨t, t1, t2, t3, t4, t5, t6⟩ := opn_tree ho'
  have hl' : w'.length = a * m := by
    have hmem := List.mem_of_getElem? hw'
    rw [rowsW] at hmem
    obtain ⟨x, hx, rfl⟩ := List.mem_map.mp hmem
    exact wsF_row _ _ _ x (List.mem_filter.mp hx).1
  have hf := forks_le t
  obtain ⟨s8, e8, o8⟩ := ofWord_ok 38 a w' s7 t (by omega) t1 t2
  have e8 : callN TBL FUEL 39 24 [.int a, .tup (w'.map .int)] s7 = .ok (enc t) s8 := e8
  rw [x_asg (d := enc t) (s1 := s8) (by
    rw [ev_call2, ev_var3, R.bind_ok, ev_p2, ev_var6, R.bind_ok, ev_var7, R.bind_ok, pm_ixN hrows7 (d := .tup (w'.map .int)) (by rw [List.getElem?_map, hw']; rfl), ofOpt_some, R.bind_ok]
    exact e8)]
  simp only [List.set_cons_succ, List.set_cons_zero]
  obtain ⟨s9, e9, o9⟩ := manyAt_ok 34 a m t w' s8 ha1 ha6 (by omega) t4 (by omega) t2 ho' hl' (by omega)
  rw [hpl] at e9
  have e9 : callN TBL FUEL 39 13 [.int a, .int m, .int j] s8 = .ok (enc t) s9 := e9
  obtain ⟨s10, e10, o10⟩ := place_ok 33 a t w' s9 ha1 (by omega) t4 (by omega) t3 ho' (by omega)
  rw [hpl] at e10
  have e10 : callN TBL FUEL 39 14 [.int a, enc t] s9 = .ok (.int j) s10 := e10
  have e11 := fork_ok 36 a m s10 ha1 (by omega) (by omega)
  rw [← k2] at e11
  have e11 : callN TBL FUEL 39 8 [.int a, .int m] s10 = .ok (.int ((rowsW a m).length : Int)) s10 := e11
  rw [x_asg (d := .ref s10.length) (s1 := s10 ++ [.lst [enc t, .int j, .int ((rowsW a m).length : Int)]]) (by
    simp only [ev_p3, ev_call3, ev_call2, ev_var3, ev_var5, ev_var7, ev_var8, R.bind_ok]
    rw [e9, R.bind_ok, e10, R.bind_ok, e11, R.bind_ok, pm_lst3, ofOpt_some])]
  simp only [List.set_cons_succ, List.set_cons_zero]
  have hrows10 : (s10 ++ [O.lst [enc t, .int j, .int ((rowsW a m).length : Int)]])[fr]? = some (.lst ((rowsW a m).map fun w => .tup (w.map .int))) := (((o8.trans o9).trans o10).trans (Old.app ..)).at hrows7
  obtain ⟨s12, e12, o12⟩ := same_ok 20 18 (.ref s10.length) (.ref (s10.length + 1)) ((s10 ++ [.lst [enc t, .int j, .int ((rowsW a m).length : Int)]]) ++ [.lst [enc t, .int j, .int ((rowsW a m).length : Int)]]) (sm_three (k := 19) (by rw [List.getElem?_append_left (by simp), app_last]) (by rw [show s10.length + 1 = (s10 ++ [O.lst [enc t, .int j, .int ((rowsW a m).length : Int)]]).length by simp, app_last]) (sm_enc _ 19 t (by omega) (by omega)) (b := .int j) (e := .int j) (c := .int ((rowsW a m).length : Int)) (f := .int ((rowsW a m).length : Int)) (by rw [Sm]) (by rw [Sm]))
  have e12 : callN TBL FUEL 39 23 [.ref s10.length, .ref (s10.length + 1)] ((s10 ++ [.lst [enc t, .int j, .int ((rowsW a m).length : Int)]]) ++ [.lst [enc t, .int j, .int ((rowsW a m).length : Int)]]) = .ok (.bl true) s12 := e12
  rw [x_skip (s1 := s12) (by
    simp only [ev_not, ev_call2, ev_p1, ev_p3, ev_var6, ev_var7, ev_var8, ev_var9, R.bind_ok]
    rw [pm_lenL hrows10, ofOpt_some, R.bind_ok, pm_lst3, ofOpt_some, R.bind_ok, List.length_append, List.length_singleton, List.length_map, e12, condR_t])]
  have H12 : HandOk s12 3 := D7.ok.old ((((o8.trans o9).trans o10).trans (Old.app ..)).trans ((Old.app ..).trans o12))
  obtain ⟨d5, s13, e13, g5, g5', D13⟩ := draw_ok 38 (many := 501) H12 (by omega) (by omega)
  obtain ⟨g, hg⟩ : ∃ g : Nat, (g : Int) = d5 := ⟨d5.toNat, by omega⟩
  subst hg
  have e13 : callN TBL FUEL 39 21 [.ref 3, .int 501] s12 = .ok (.int g) s13 := e13
  rw [x_asg (d := .int g) (s1 := s13) (by rw [ev_call2, ev_var1, R.bind_ok, ev_con, R.bind_ok]; exact e13)]
  simp only [List.set_cons_succ, List.set_cons_zero]
  obtain ⟨d6, s14, e14, g6, g6', D14⟩ := draw_ok 38 (many := 12) D13.ok (by omega) (by omega)
  have e14 : callN TBL FUEL 39 21 [.ref 3, .int 12] s13 = .ok (.int d6) s14 := e14
  obtain ⟨b, hb⟩ : ∃ b : Nat, (b : Int) = 1 + d6 := ⟨(1 + d6).toNat, by omega⟩
  rw [x_asg (d := .int b) (s1 := s14) (by
    simp only [ev_p2, ev_call2, ev_con, ev_var1, R.bind_ok]
    rw [e14, R.bind_ok, pm_add, ofOpt_some, ← hb])]
  simp only [List.set_cons_succ, List.set_cons_zero]
  have e15 : callN TBL FUEL 39 8 [.int b, .int g] s14 = _ := fork_ok 36 b g s14 (by omega) (by omega) (by omega)
  have e16 : callN TBL FUEL 39 27 [.int b, .int g] s14 = _ := number_ok 38 b g s14 (by omega) (by omega) (by omega)
  generalize (chF (b * g : Nat) g).fdiv (((b : Int) - 1) * g + 1) = q at e15 e16
  obtain ⟨s15, e17, o15⟩ := same_ok 15 23 (.int q) (.int q) s14 rfl
  have e17 : callN TBL FUEL 39 23 [.int q, .int q] s14 = .ok (.bl true) s15 := e17
  rw [x_skip (s1 := s15) (by
    simp only [ev_not, ev_call2, ev_var10, ev_var11, R.bind_ok]
    rw [e15, R.bind_ok, e16, R.bind_ok, e17, condR_t])]
  have H15 := D14.ok.old o15
  obtain ⟨d7, s16, e18, g7, g7', D16⟩ := draw_ok 38 (many := 1000000000) H15 (by omega) (by omega)
  have e18 : callN TBL FUEL 39 21 [.ref 3, .int 1000000000] s15 = .ok (.int d7) s16 := e18
  have H17 : HandOk (s16 ++ [.lst [.int 0, .int 1, .int (10 ^ 20)]]) 3 := D16.ok.old (Old.app ..)
  have h3lt := D16.ok.lt
  obtain ⟨y, s17, e19, hy, D17⟩ := any_ok 37 (n := s16.length) (l := [0, 1, 10 ^ 20]) H17 (app_last ..) (by omega) (by simp) (by simp)
  have e19 : callN TBL FUEL 39 22 [.ref 3, .ref s16.length] (s16 ++ [.lst [.int 0, .int 1, .int (10 ^ 20)]]) = .ok (.int y) s17 := e19
  have hy0 : 0 ≤ y ∧ y ≤ 10 ^ 20 := by
    simp only [List.mem_cons, List.not_mem_nil, or_false] at hy
    omega
  have hp9 : ∀ s : S, prim .pw [.int 10, .int 9] s = some (.int 1000000000, s) := fun _ => rfl
  have hp20 : ∀ s : S, prim .pw [.int 10, .int 20] s = some (.int (10 ^ 20), s) := fun _ => rfl
  rw [x_asg (d := .int (d7 * y)) (s1 := s17) (by
    simp only [ev_p2, ev_p3, ev_call2, ev_con, ev_var1, R.bind_ok, hp9, hp20, ofOpt_some]
    rw [e18, R.bind_ok, pm_lst3, ofOpt_some, R.bind_ok, e19, R.bind_ok, pm_mul (.inl (by omega)), ofOpt_some])]
  simp only [List.set_cons_succ, List.set_cons_zero]
  obtain ⟨d8, s18, e20, g8, g8', D18⟩ := draw_ok 38 (many := 11) D17.ok (by omega) (by omega)
  have e20 : callN TBL FUEL 39 21 [.ref 3, .int 11] s17 = .ok (.int d8) s18 := e20
  rw [x_asg (d := .int (2 + d8)) (s1 := s18) (by
    simp only [ev_p2, ev_call2, ev_con, ev_var1, R.bind_ok]
    rw [e20, R.bind_ok, pm_add, ofOpt_some])]
  simp only [List.set_cons_succ, List.set_cons_zero]
  have hq0 : 0 ≤ d7 * y := Int.mul_nonneg g7 hy0.1
  have hq1 : d7 * y < 10 ^ 30 := by
    have : d7 * y ≤ 1000000000 * 10 ^ 20 := Int.mul_le_mul (by omega) hy0.2 hy0.1 (by omega)
    omega
  have e21 : callN TBL FUEL 39 19 [.int (2 + d8), .int (d7 * y)] s18 = _ := least_ok 36 (2 + d8) (d7 * y) s18 (by omega) (by omega) hq0 hq1
  have e22 : callN TBL FUEL 39 30 [.int (2 + d8), .int (d7 * y)] s18 = _ := least2_ok 38 (2 + d8) (d7 * y) s18 (by omega) (by omega) hq0 hq1
  generalize leF (2 + d8) 100 0 1 (d7 * y) = z at e21 e22
  obtain ⟨s19, e23, o19⟩ := same_ok 15 23 (.int z) (.int z) s18 rfl
  have e23 : callN TBL FUEL 39 23 [.int z, .int z] s18 = .ok (.bl true) s19 := e23
  rw [x_skip (s1 := s19) (by
    simp only [ev_not, ev_call2, ev_var10, ev_var11, R.bind_ok]
    rw [e21, R.bind_ok, e22, R.bind_ok, e23, condR_t]), xs_nil]
  exact ⟨_, _, _, _, _, _, _, _, _, s19, rfl, D18.ok.old o19⟩
theorem law_right (ns : List Int) (h : ns.length ≤ 63) : ∃ s, (Mini.callN K52.TBL K52.FUEL (K52.DEEP - 1 + 1)) 32 [.frz (ns.map Mini.D.int)] [] = .ok (.bl true) s := by
  show ∃ s, callN TBL FUEL 40 32 _ _ = _
  rw [callN_at (n := 12) (np := 1) (body := B32) rfl rfl, B32]
  show ∃ s', retF (execs (cf 39) _ [some (.frz (ns.map .int)), none, none, none, none, none, none, none, none, none, none, none] []) = _
  obtain ⟨s1, e1, H1⟩ := hand_ok 38 h
  have e1 : callN TBL FUEL 39 20 [.frz (ns.map .int)] [] = .ok (.ref 3) s1 := e1
  rw [x_asg (d := .ref 3) (s1 := s1) (by rw [ev_call1, ev_var0, R.bind_ok]; exact e1)]
  simp only [List.set_cons_succ, List.set_cons_zero]
  obtain ⟨s2, e2, o2⟩ := word_ok 34 2 (.node [.node [.nil, .nil], .nil]) s1 (by omega) (by omega) (by simp [Ary, Arys]) (by simp [forksT, forksTs]) (by simp [sizeT, sizeTs])
  have hw : (wd (.node [.node [.nil, .nil], .nil])).dropLast = [1, 1, 0, 0] := by simp [wd, wds]
  rw [hw] at e2
  have e2 : callN TBL FUEL 39 9 [.int 2, .tup [.tup [.non, .non], .non]] s1 = .ok (.tup [.int 1, .int 1, .int 0, .int 0]) s2 := e2
  have c4 : ∀ (env : Ev) (s : S), eval (cf 39) (.prim .tup [.con (.int 1), .con (.int 1), .con (.int 0), .con (.int 0)]) env s = .ok (.tup [.int 1, .int 1, .int 0, .int 0]) s := fun env s => by
    rw [eval]
    simp only [evs_cons, evs_nil, ev_con, R.bind_ok]
    rfl
  have c5 : ∀ (env : Ev) (s : S), eval (cf 39) (.prim .tup [.con (.int 1), .con (.int 0), .con (.int 1), .con (.int 0), .con (.int 0)]) env s = .ok (.tup [.int 1, .int 0, .int 1, .int 0, .int 0]) s := fun env s => by
    rw [eval]
    simp only [evs_cons, evs_nil, ev_con, R.bind_ok]
    rfl
  have n4 : ∀ s : S, prim .ne [.tup [.int 1, .int 1, .int 0, .int 0], .tup [.int 1, .int 1, .int 0, .int 0]] s = some (.bl false, s) := fun _ => rfl
  have n5 : ∀ s : S, prim .ne [.tup [.int 1, .int 0, .int 1, .int 0, .int 0], .tup [.int 1, .int 0, .int 1, .int 0, .int 0]] s = some (.bl false, s) := fun _ => rfl
  rw [x_skip (s1 := s2) (by
    rw [ev_p2]
    simp only [ev_call2, ev_p2, ev_con, R.bind_ok, pm_tup2, ofOpt_some]
    rw [e2, R.bind_ok, c4, R.bind_ok, n4, ofOpt_some])]
  obtain ⟨s3, e3, o3⟩ := levelWord_ok 34 2 (.node [.nil, .node [.nil, .nil]]) s2 (by omega) (by omega) (by simp [Ary, Arys]) (by simp [forksT, forksTs]) (by simp [sizeT, sizeTs])
  have hw : dgs (bq (sizeT (.node [.nil, .node [.nil, .nil]])) [.node [.nil, .node [.nil, .nil]]]) = [.int 1, .int 0, .int 1, .int 0, .int 0] := by simp [sizeT, sizeTs, bq, dgs, dg, kids]
  rw [hw] at e3
  have e3 : callN TBL FUEL 39 15 [.int 2, .tup [.non, .tup [.non, .non]]] s2 = .ok (.tup [.int 1, .int 0, .int 1, .int 0, .int 0]) s3 := e3
  rw [x_skip (s1 := s3) (by
    rw [ev_p2]
    simp only [ev_call2, ev_p2, ev_con, R.bind_ok, pm_tup2, ofOpt_some]
    rw [e3, R.bind_ok, c5, R.bind_ok, n5, ofOpt_some])]
  have H3 : HandOk s3 3 := (H1.old o2).old o3
  obtain ⟨env2, s4, e4, _⟩ := run_rng1 (c := cf 39) (es := [.con (.int 3)]) (j := 2) (n := 3) (b := TB) (env := [some (.frz (ns.map .int)), some (.ref 3), none, none, none, none, none, none, none, none, none, none]) (s := s3) (s1 := s3)
    (fun i env s => (∃ x2 x3 x4 x5 x6 x7 x8 x9 x10 x11, env = [some (.frz (ns.map .int)), some (.ref 3), x2, x3, x4, x5, x6, x7, x8, x9, x10, x11]) ∧ HandOk s 3)
    (by simp only [evs_cons, evs_nil, ev_con, R.bind_ok]; rfl) (by omega) (by simp [FUEL]) ⟨⟨_, _, _, _, _, _, _, _, _, _, rfl⟩, H3⟩
    (fun i env s hi ⟨⟨x2, x3, x4, x5, x6, x7, x8, x9, x10, x11, ee⟩, H⟩ => by
      subst ee
      simp only [List.set_cons_succ, List.set_cons_zero]
      obtain ⟨y3, y4, y5, y6, y7, y8, y9, y10, y11, s', e, H'⟩ := turn_ok (.frz (ns.map .int)) i x3 x4 x5 x6 x7 x8 x9 x10 x11 s H
      exact ⟨_, s', e, ⟨_, _, _, _, _, _, _, _, _, _, rfl⟩, H'⟩)
  rw [xs_nx e4, x_ret (d := .bl true) (s1 := s4) (ev_con _)]
  exact ⟨s4, rfl⟩
end K52
set_option Elab.async false
set_option linter.all false
set_option maxRecDepth 100000
open PySem PySem.W PyProof.Rows
set_option maxHeartbeats 0 in
theorem PySem.Challenge.cw_branchhouse_k52_whole_many_arms_holds : PySem.Challenge.rw_branchhouse_k52_whole_many_arms.Holds := by
  w_on; o_law; k_head; (case hw => w_witness2)
  k_fill
  refine L2.walk_of (l := PySem.Challenge.rw_branchhouse_k52_whole_many_arms) (n := 63) (k := K52.DEEP - 1 + 1) (x := "script") (CX := fun w => L2.CX PySem.Challenge.rw_branchhouse_k52_whole_many_arms.prog w) (sp := fun w => K52.spLaw _) rfl (by decide) rfl ⟨rfl, by decide, by decide⟩ (fun w h Y => PySem.W.kIn_of Y) ?F (fun w H a ns hl ho hS => Mini.law_sp (K52.law_right ns hl) ho hS) (fun w H s e s1 hx => Mini.cx_no hx)
  case F =>
    intro w mg fa h KX G hmg
    refine' K52.all_mk KX G hmg ?a0 ?l0 ?c0 ?k0 ?a1 ?l1 ?c1 ?k1 ?a2 ?l2 ?c2 ?k2 ?a3 ?l3 ?c3 ?k3 ?a4 ?l4 ?c4 ?k4 ?a5 ?l5 ?c5 ?k5 ?a6 ?l6 ?c6 ?k6 ?a7 ?l7 ?c7 ?k7 ?a8 ?l8 ?c8 ?k8 ?a9 ?l9 ?c9 ?k9 ?a10 ?l10 ?c10 ?k10 ?a11 ?l11 ?c11 ?k11 ?a12 ?l12 ?c12 ?k12 ?a13 ?l13 ?c13 ?k13 ?a14 ?l14 ?c14 ?k14 ?a15 ?l15 ?c15 ?k15 ?a16 ?l16 ?c16 ?k16 ?a17 ?l17 ?c17 ?k17 ?a18 ?l18 ?c18 ?k18 ?a19 ?l19 ?c19 ?k19 ?a20 ?l20 ?c20 ?k20 ?a21 ?l21 ?c21 ?k21 ?a22 ?l22 ?c22 ?k22 ?a23 ?l23 ?c23 ?k23 ?a24 ?l24 ?c24 ?k24 ?a25 ?l25 ?c25 ?k25 ?a26 ?l26 ?c26 ?k26 ?a27 ?l27 ?c27 ?k27 ?a28 ?l28 ?c28 ?k28 ?a29 ?l29 ?c29 ?k29 ?a30 ?l30 ?c30 ?k30 ?a31 ?l31 ?c31 ?k31 ?a32 ?l32 ?c32 ?k32 ?z_abs ?z_all ?z_any ?z_bool ?z_enumerate ?z_int ?z_isinstance ?z_len ?z_list ?z_min ?z_range ?z_reversed ?z_str ?z_tuple ?z_zip ?g_MOST_ARMS ?g_MOST_DEEP ?g_MOST_FORKS
    (case a0 => k_is)
    (case l0 => k_is)
    (case c0 => k_is)
    (case k0 => k_is)
    (case a1 => k_is)
    (case l1 => k_is)
    (case c1 => k_is)
    (case k1 => k_is)
    (case a2 => k_is)
    (case l2 => k_is)
    (case c2 => k_is)
    (case k2 => k_is)
    (case a3 => k_is)
    (case l3 => k_is)
    (case c3 => k_is)
    (case k3 => k_is)
    (case a4 => k_is)
    (case l4 => k_is)
    (case c4 => k_is)
    (case k4 => k_is)
    (case a5 => k_is)
    (case l5 => k_is)
    (case c5 => k_is)
    (case k5 => k_is)
    (case a6 => k_is)
    (case l6 => k_is)
    (case c6 => k_is)
    (case k6 => k_is)
    (case a7 => k_is)
    (case l7 => k_is)
    (case c7 => k_is)
    (case k7 => k_is)
    (case a8 => k_is)
    (case l8 => k_is)
    (case c8 => k_is)
    (case k8 => k_is)
    (case a9 => k_is)
    (case l9 => k_is)
    (case c9 => k_is)
    (case k9 => k_is)
    (case a10 => k_is)
    (case l10 => k_is)
    (case c10 => k_is)
    (case k10 => k_is)
    (case a11 => k_is)
    (case l11 => k_is)
    (case c11 => k_is)
    (case k11 => k_is)
    (case a12 => k_is)
    (case l12 => k_is)
    (case c12 => k_is)
    (case k12 => k_is)
    (case a13 => k_is)
    (case l13 => k_is)
    (case c13 => k_is)
    (case k13 => k_is)
    (case a14 => k_is)
    (case l14 => k_is)
    (case c14 => k_is)
    (case k14 => k_is)
    (case a15 => k_is)
    (case l15 => k_is)
    (case c15 => k_is)
    (case k15 => k_is)
    (case a16 => k_is)
    (case l16 => k_is)
    (case c16 => k_is)
    (case k16 => k_is)
    (case a17 => k_is)
    (case l17 => k_is)
    (case c17 => k_is)
    (case k17 => k_is)
    (case a18 => k_is)
    (case l18 => k_is)
    (case c18 => k_is)
    (case k18 => k_is)
    (case a19 => k_is)
    (case l19 => k_is)
    (case c19 => k_is)
    (case k19 => k_is)
    (case a20 => k_is)
    (case l20 => k_is)
    (case c20 => k_is)
    (case k20 => k_is)
    (case a21 => k_is)
    (case l21 => k_is)
    (case c21 => k_is)
    (case k21 => k_is)
    (case a22 => k_is)
    (case l22 => k_is)
    (case c22 => k_is)
    (case k22 => k_is)
    (case a23 => k_is)
    (case l23 => k_is)
    (case c23 => k_is)
    (case k23 => k_is)
    (case a24 => k_is)
    (case l24 => k_is)
    (case c24 => k_is)
    (case k24 => k_is)
    (case a25 => k_is)
    (case l25 => k_is)
    (case c25 => k_is)
    (case k25 => k_is)
    (case a26 => k_is)
    (case l26 => k_is)
    (case c26 => k_is)
    (case k26 => k_is)
    (case a27 => k_is)
    (case l27 => k_is)
    (case c27 => k_is)
    (case k27 => k_is)
    (case a28 => k_is)
    (case l28 => k_is)
    (case c28 => k_is)
    (case k28 => k_is)
    (case a29 => k_is)
    (case l29 => k_is)
    (case c29 => k_is)
    (case k29 => k_is)
    (case a30 => k_is)
    (case l30 => k_is)
    (case c30 => k_is)
    (case k30 => k_is)
    (case a31 => k_is)
    (case l31 => k_is)
    (case c31 => k_is)
    (case k31 => k_is)
    (case a32 => k_is)
    (case l32 => k_is)
    (case c32 => k_is)
    (case k32 => k_is)
    (case z_abs => k_is)
    (case z_all => k_is)
    (case z_any => k_is)
    (case z_bool => k_is)
    (case z_enumerate => k_is)
    (case z_int => k_is)
    (case z_isinstance => k_is)
    (case z_len => k_is)
    (case z_list => k_is)
    (case z_min => k_is)
    (case z_range => k_is)
    (case z_reversed => k_is)
    (case z_str => k_is)
    (case z_tuple => k_is)
    (case z_zip => k_is)
    (case g_MOST_ARMS => k_is)
    (case g_MOST_DEEP => k_is)
    (case g_MOST_FORKS => k_is)
