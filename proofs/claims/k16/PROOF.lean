import PyProof.Rows.All
import Wide.All
import OpenK.AllK
import Wide.FinOn
import HandS.ForMost
import HandS.Flow
import HandS.Strs
import HandS.SortInts
import HandS.SetFor
import HandS.Deep
import HandS.Defaults
import HandS.Style
import HandS.SetBool
import HandS.Remove
import PySem.Challenge.RW_skewer_k16_whole_built_automata_spell
set_option Elab.async false
set_option linter.all false
/-! Skewer, the plain law: programs, the rows they spell, the automaton of places. No program text in sight. -/
namespace Sk

/-- a program over an alphabet of steps -/
inductive Pg (α : Type) where
  | st (a : α) | rest | any (p : Pg α) | row (ps : List (Pg α)) | alt (ps : List (Pg α))

section
variable {α : Type}

mutual
def stepsP : Pg α → List α
  | .st a => [a]
  | .rest => []
  | .any p => stepsP p
  | .row ps => stepsL ps
  | .alt ps => stepsL ps
def stepsL : List (Pg α) → List α
  | [] => []
  | p :: ps => stepsP p ++ stepsL ps
end
mutual
def depthP : Pg α → Nat
  | .st _ => 1
  | .rest => 1
  | .any p => depthP p + 1
  | .row ps => depthL ps + 1
  | .alt ps => depthL ps + 1
def depthL : List (Pg α) → Nat
  | [] => 0
  | p :: ps => max (depthP p) (depthL ps)
end

/-- any number of rows one behind the other -/
inductive Star (L : List α → Prop) : List α → Prop where
  | nil : Star L []
  | cons {u v : List α} : L u → Star L v → Star L (u ++ v)

mutual
def Spl : Pg α → List α → Prop
  | .st a, w => w = [a]
  | .rest, w => w = []
  | .any p, w => Star (Spl p) w
  | .row ps, w => SplRow ps w
  | .alt ps, w => SplAlt ps w
def SplRow : List (Pg α) → List α → Prop
  | [], w => w = []
  | p :: ps, w => ∃ u v, w = u ++ v ∧ Spl p u ∧ SplRow ps v
def SplAlt : List (Pg α) → List α → Prop
  | [], _ => False
  | p :: ps, w => Spl p w ∨ SplAlt ps w
end

/- the same over places: the i-th step of the program has the place b + i -/
mutual
def Pl : Pg α → Nat → List Nat → Prop
  | .st _, b, w => w = [b + 1]
  | .rest, _, w => w = []
  | .any p, b, w => Star (Pl p b) w
  | .row ps, b, w => PlRow ps b w
  | .alt ps, b, w => PlAlt ps b w
def PlRow : List (Pg α) → Nat → List Nat → Prop
  | [], _, w => w = []
  | p :: ps, b, w => ∃ u v, w = u ++ v ∧ Pl p b u ∧ PlRow ps (b + (stepsP p).length) v
def PlAlt : List (Pg α) → Nat → List Nat → Prop
  | [], _, _ => False
  | p :: ps, b, w => Pl p b w ∨ PlAlt ps (b + (stepsP p).length) w
end

/-- f names the steps of xs at the places behind b -/
def Names (f : Nat → α) (b : Nat) (xs : List α) : Prop := ∀ i a, xs[i]? = some a → f (b + 1 + i) = a
theorem Names.left {f : Nat → α} {b : Nat} {xs ys : List α} (h : Names f b (xs ++ ys)) : Names f b xs := fun i a e => h i a (by
  have hi : i < xs.length := (List.getElem?_eq_some_iff.mp e).1
  rw [List.getElem?_append_left hi]; exact e)
theorem Names.right {f : Nat → α} {b : Nat} {xs ys : List α} (h : Names f b (xs ++ ys)) : Names f (b + xs.length) ys := fun i a e => by
  have q := h (xs.length + i) a (by rw [List.getElem?_append_right (by omega), Nat.add_sub_cancel_left]; exact e)
  rw [show b + xs.length + 1 + i = b + 1 + (xs.length + i) by omega]; exact q

theorem star_map {β : Type} {L : List α → Prop} {M : List β → Prop} {f : β → α} (h : ∀ w, L w ↔ ∃ u, M u ∧ u.map f = w) (w : List α) : Star L w ↔ ∃ u, Star M u ∧ u.map f = w := by
  constructor
  · intro s
    induction s with
    | nil => exact ⟨[], .nil, rfl⟩
    | cons l _ ih =>
      obtain ⟨x, hx, rfl⟩ := (h _).mp l
      obtain ⟨y, hy, rfl⟩ := ih
      exact ⟨x ++ y, .cons hx hy, List.map_append⟩
  · rintro ⟨u, s, rfl⟩
    induction s with
    | nil => exact .nil
    | cons l _ ih =>
      rw [List.map_append]
      exact .cons ((h _).mpr ⟨_, l, rfl⟩) ih

mutual
theorem spl_places (f : Nat → α) : ∀ (p : Pg α) (b : Nat) (w : List α), Names f b (stepsP p) → (Spl p w ↔ ∃ u, Pl p b u ∧ u.map f = w)
  | .st a, b, w, h => by
    have e : f (b + 1) = a := h 0 a (by simp [stepsP])
    simp only [Spl, Pl]
    constructor
    · rintro rfl; exact ⟨_, rfl, by simp [e]⟩
    · rintro ⟨u, rfl, rfl⟩; simp [e]
  | .rest, b, w, h => by
    simp only [Spl, Pl]
    constructor
    · rintro rfl; exact ⟨_, rfl, rfl⟩
    · rintro ⟨u, rfl, rfl⟩; rfl
  | .any p, b, w, h => by
    simp only [Spl, Pl]
    exact star_map (fun w => spl_places f p b w (by simpa only [stepsP] using h)) w
  | .row ps, b, w, h => by
    simp only [Spl, Pl]
    exact splRow_places f ps b w (by simpa only [stepsP] using h)
  | .alt ps, b, w, h => by
    simp only [Spl, Pl]
    exact splAlt_places f ps b w (by simpa only [stepsP] using h)
theorem splRow_places (f : Nat → α) : ∀ (ps : List (Pg α)) (b : Nat) (w : List α), Names f b (stepsL ps) → (SplRow ps w ↔ ∃ u, PlRow ps b u ∧ u.map f = w)
  | [], b, w, h => by
    simp only [SplRow, PlRow]
    constructor
    · rintro rfl; exact ⟨_, rfl, rfl⟩
    · rintro ⟨u, rfl, rfl⟩; rfl
  | p :: ps, b, w, h => by
    simp only [stepsL] at h
    simp only [SplRow, PlRow]
    constructor
    · rintro ⟨u, v, rfl, hu, hv⟩
      obtain ⟨x, hx, rfl⟩ := (spl_places f p b u h.left).mp hu
      obtain ⟨y, hy, rfl⟩ := (splRow_places f ps _ v h.right).mp hv
      exact ⟨x ++ y, ⟨x, y, rfl, hx, hy⟩, List.map_append⟩
    · rintro ⟨_, ⟨x, y, rfl, hx, hy⟩, rfl⟩
      exact ⟨x.map f, y.map f, List.map_append, (spl_places f p b _ h.left).mpr ⟨x, hx, rfl⟩, (splRow_places f ps _ _ h.right).mpr ⟨y, hy, rfl⟩⟩
theorem splAlt_places (f : Nat → α) : ∀ (ps : List (Pg α)) (b : Nat) (w : List α), Names f b (stepsL ps) → (SplAlt ps w ↔ ∃ u, PlAlt ps b u ∧ u.map f = w)
  | [], b, w, h => by
    simp only [SplAlt, PlAlt]
    exact ⟨False.elim, fun ⟨_, z, _⟩ => z.elim⟩
  | p :: ps, b, w, h => by
    simp only [stepsL] at h
    simp only [SplAlt, PlAlt]
    rw [spl_places f p b w h.left, splAlt_places f ps _ w h.right]
    constructor
    · rintro (⟨u, hu, e⟩ | ⟨u, hu, e⟩)
      · exact ⟨u, .inl hu, e⟩
      · exact ⟨u, .inr hu, e⟩
    · rintro ⟨u, hu | hu, e⟩
      · exact .inl ⟨u, hu, e⟩
      · exact .inr ⟨u, hu, e⟩
end

/-! ### what can come first, last and next -/
structure Ps where
  first : List Nat
  last : List Nat
  emp : Bool
  pairs : List (Nat × Nat)
  spells : Bool
  deriving DecidableEq

def nothing : Ps := ⟨[], [], false, [], false⟩
def start : Ps := ⟨[], [], true, [], true⟩
/-- every last one with every first one -/
def cross (l f : List Nat) : List (Nat × Nat) := l.flatMap fun x => f.map fun y => (x, y)
def catP (w p : Ps) : Ps := ⟨if w.emp then w.first ++ p.first else w.first, if p.emp then w.last ++ p.last else p.last, w.emp && p.emp, w.pairs ++ p.pairs ++ cross w.last p.first, true⟩
def inOrder (ps : List Ps) : Ps := if ps.all (·.spells) then ps.foldl catP start else nothing
def oneOf (ps : List Ps) : Ps := if ps.any (·.spells) then ⟨ps.flatMap (·.first), ps.flatMap (·.last), ps.any (·.emp), ps.flatMap (·.pairs), true⟩ else nothing
mutual
def places : Pg α → Nat → Ps
  | .st _, b => ⟨[b + 1], [b + 1], false, [], true⟩
  | .rest, _ => start
  | .any p, b => ⟨(places p b).first, (places p b).last, true, (places p b).pairs ++ cross (places p b).last (places p b).first, true⟩
  | .row ps, b => inOrder (placesL ps b)
  | .alt ps, b => oneOf (placesL ps b)
def placesL : List (Pg α) → Nat → List Ps
  | [], _ => []
  | p :: ps, b => places p b :: placesL ps (b + (stepsP p).length)
end

/-- a row of places that goes on from x by the pairs -/
def Runs (p : Ps) : Nat → List Nat → Prop
  | x, [] => x ∈ p.last
  | x, y :: ys => (x, y) ∈ p.pairs ∧ Runs p y ys
def Loc (p : Ps) : List Nat → Prop
  | [] => p.emp = true
  | x :: xs => x ∈ p.first ∧ Runs p x xs
/-- all places lie in (lo, hi] -/
structure In (p : Ps) (lo hi : Nat) : Prop where
  f : ∀ x ∈ p.first, lo < x ∧ x ≤ hi
  l : ∀ x ∈ p.last, lo < x ∧ x ≤ hi
  p : ∀ z ∈ p.pairs, (lo < z.1 ∧ z.1 ≤ hi) ∧ lo < z.2 ∧ z.2 ≤ hi
theorem In.wide {p : Ps} {lo hi lo' hi' : Nat} (h : In p lo hi) (h1 : lo' ≤ lo) (h2 : hi ≤ hi') : In p lo' hi' :=
  ⟨fun x hx => by have := h.f x hx; omega, fun x hx => by have := h.l x hx; omega, fun z hz => by have := h.p z hz; omega⟩
theorem in_nothing (lo hi : Nat) : In nothing lo hi := ⟨fun _ h => (nomatch h), fun _ h => (nomatch h), fun _ h => (nomatch h)⟩
theorem in_start (lo hi : Nat) : In start lo hi := ⟨fun _ h => (nomatch h), fun _ h => (nomatch h), fun _ h => (nomatch h)⟩
theorem mem_cross {l f : List Nat} {z : Nat × Nat} : z ∈ cross l f ↔ z.1 ∈ l ∧ z.2 ∈ f := by
  unfold cross
  simp only [List.mem_flatMap, List.mem_map]
  constructor
  · rintro ⟨x, hx, y, hy, rfl⟩; exact ⟨hx, hy⟩
  · rintro ⟨h1, h2⟩; exact ⟨z.1, h1, z.2, h2, rfl⟩
theorem in_cat {w p : Ps} {lo m hi : Nat} (a : In w lo m) (b : In p m hi) (h1 : lo ≤ m) (h2 : m ≤ hi) : In (catP w p) lo hi := by
  have a' := a.wide (Nat.le_refl lo) h2
  have b' := b.wide h1 (Nat.le_refl hi)
  refine ⟨fun x hx => ?_, fun x hx => ?_, fun z hz => ?_⟩
  · unfold catP at hx
    dsimp only at hx
    split at hx
    · exact (List.mem_append.mp hx).elim (a'.f x) (b'.f x)
    · exact a'.f x hx
  · unfold catP at hx
    dsimp only at hx
    split at hx
    · exact (List.mem_append.mp hx).elim (a'.l x) (b'.l x)
    · exact b'.l x hx
  · unfold catP at hz
    rcases List.mem_append.mp hz with hz | hz
    · exact (List.mem_append.mp hz).elim (a'.p z) (b'.p z)
    · have q := mem_cross.mp hz
      exact ⟨a'.l _ q.1, b'.f _ q.2⟩
theorem cat_high {w p : Ps} {lo m hi : Nat} (a : In w lo m) (b : In p m hi) : ∀ (xs : List Nat) (x : Nat), m < x → (Runs (catP w p) x xs ↔ Runs p x xs)
  | [], x, hx => by
    show x ∈ (catP w p).last ↔ x ∈ p.last
    unfold catP
    dsimp only
    split
    · exact ⟨fun h => (List.mem_append.mp h).elim (fun z => absurd (a.l x z).2 (by omega)) id, fun h => List.mem_append_right _ h⟩
    · exact Iff.rfl
  | y :: ys, x, hx => by
    show (x, y) ∈ w.pairs ++ p.pairs ++ cross w.last p.first ∧ Runs (catP w p) y ys ↔ (x, y) ∈ p.pairs ∧ Runs p y ys
    constructor
    · rintro ⟨h, r⟩
      have hp : (x, y) ∈ p.pairs := by
        rcases List.mem_append.mp h with h | h
        · rcases List.mem_append.mp h with h | h
          · exact absurd (a.p _ h).1.2 (by show ¬ x ≤ m; omega)
          · exact h
        · exact absurd (a.l _ (mem_cross.mp h).1).2 (by show ¬ x ≤ m; omega)
      exact ⟨hp, (cat_high a b ys y (b.p _ hp).2.1).mp r⟩
    · rintro ⟨h, r⟩
      exact ⟨List.mem_append_left _ (List.mem_append_right _ h), (cat_high a b ys y (b.p _ h).2.1).mpr r⟩
theorem cat_low {w p : Ps} {lo m hi : Nat} (a : In w lo m) (b : In p m hi) : ∀ (xs : List Nat) (x : Nat), x ≤ m → (Runs (catP w p) x xs ↔ ∃ u v, xs = u ++ v ∧ Runs w x u ∧ Loc p v)
  | [], x, hx => by
    show x ∈ (catP w p).last ↔ _
    have e : x ∈ (catP w p).last ↔ x ∈ w.last ∧ p.emp = true := by
      unfold catP
      dsimp only
      split
      · rename_i he
        exact ⟨fun h => ⟨(List.mem_append.mp h).elim id (fun z => absurd (b.l x z).1 (by omega)), he⟩, fun h => List.mem_append_left _ h.1⟩
      · rename_i he
        exact ⟨fun h => absurd (b.l x h).1 (by omega), fun h => absurd h.2 he⟩
    rw [e]
    constructor
    · rintro ⟨h1, h2⟩; exact ⟨[], [], rfl, h1, h2⟩
    · rintro ⟨u, v, h, h1, h2⟩
      obtain ⟨rfl, rfl⟩ := List.append_eq_nil_iff.mp h.symm
      exact ⟨h1, h2⟩
  | y :: ys, x, hx => by
    show (x, y) ∈ w.pairs ++ p.pairs ++ cross w.last p.first ∧ Runs (catP w p) y ys ↔ _
    constructor
    · rintro ⟨h, r⟩
      rcases List.mem_append.mp h with h | h
      · rcases List.mem_append.mp h with h | h
        · obtain ⟨u, v, rfl, h1, h2⟩ := (cat_low a b ys y (a.p _ h).2.2).mp r
          exact ⟨y :: u, v, rfl, ⟨h, h1⟩, h2⟩
        · exact absurd (b.p _ h).1.1 (by show ¬ m < x; omega)
      · have q := mem_cross.mp h
        exact ⟨[], y :: ys, rfl, q.1, q.2, (cat_high a b ys y (b.f _ q.2).1).mp r⟩
    · rintro ⟨u, v, e, h1, h2⟩
      cases u with
      | nil =>
        obtain rfl : y :: ys = v := e
        exact ⟨List.mem_append_right _ (mem_cross.mpr ⟨h1, h2.1⟩), (cat_high a b ys y (b.f _ h2.1).1).mpr h2.2⟩
      | cons z u =>
        injection e with e1 e2
        subst e1
        exact ⟨List.mem_append_left _ (List.mem_append_left _ h1.1), (cat_low a b ys y (a.p _ h1.1).2.2).mpr ⟨u, v, e2, h1.2, h2⟩⟩
theorem loc_cat {w p : Ps} {lo m hi : Nat} (a : In w lo m) (b : In p m hi) : ∀ xs : List Nat, Loc (catP w p) xs ↔ ∃ u v, xs = u ++ v ∧ Loc w u ∧ Loc p v
  | [] => by
    show (w.emp && p.emp) = true ↔ _
    rw [Bool.and_eq_true]
    constructor
    · rintro ⟨h1, h2⟩; exact ⟨[], [], rfl, h1, h2⟩
    · rintro ⟨u, v, h, h1, h2⟩
      obtain ⟨rfl, rfl⟩ := List.append_eq_nil_iff.mp h.symm
      exact ⟨h1, h2⟩
  | x :: xs => by
    show x ∈ (catP w p).first ∧ Runs (catP w p) x xs ↔ _
    have e : x ∈ (catP w p).first ↔ x ∈ w.first ∨ (w.emp = true ∧ x ∈ p.first) := by
      unfold catP
      dsimp only
      split
      · rename_i he
        rw [List.mem_append]
        exact ⟨fun h => h.elim .inl fun z => .inr ⟨he, z⟩, fun h => h.elim .inl fun z => .inr z.2⟩
      · rename_i he
        exact ⟨.inl, fun h => h.elim id fun z => absurd z.1 he⟩
    rw [e]
    constructor
    · rintro ⟨h | ⟨h0, h⟩, r⟩
      · obtain ⟨u, v, rfl, h1, h2⟩ := (cat_low a b xs x (a.f _ h).2).mp r
        exact ⟨x :: u, v, rfl, ⟨h, h1⟩, h2⟩
      · exact ⟨[], x :: xs, rfl, h0, h, (cat_high a b xs x (b.f _ h).1).mp r⟩
    · rintro ⟨u, v, e, h1, h2⟩
      cases u with
      | nil =>
        obtain rfl : x :: xs = v := e
        exact ⟨.inr ⟨h1, h2.1⟩, (cat_high a b xs x (b.f _ h2.1).1).mpr h2.2⟩
      | cons z u =>
        injection e with e1 e2
        subst e1
        exact ⟨.inl h1.1, (cat_low a b xs x (a.f _ h1.1).2).mpr ⟨u, v, e2, h1.2, h2⟩⟩

/-- again and again: the pairs of p and every last one with every first one -/
def anyP (p : Ps) : Ps := ⟨p.first, p.last, true, p.pairs ++ cross p.last p.first, true⟩
theorem runs_any_of {p : Ps} {v : List Nat} (s : Star (Loc p) v) : ∀ (u : List Nat) (x : Nat), Runs p x u → Runs (anyP p) x (u ++ v) := by
  induction s with
  | nil =>
    intro u
    induction u with
    | nil => intro x h; exact h
    | cons y u ih => intro x h; exact ⟨List.mem_append_left _ h.1, ih y h.2⟩
  | @cons u1 v1 l _ ih =>
    cases u1 with
    | nil => exact ih
    | cons y w =>
      intro u
      induction u with
      | nil => intro x h; exact ⟨List.mem_append_right _ (mem_cross.mpr ⟨h, l.1⟩), ih w y l.2⟩
      | cons z u ih2 => intro x h; exact ⟨List.mem_append_left _ h.1, ih2 z h.2⟩
theorem runs_any {p : Ps} : ∀ (xs : List Nat) (x : Nat), Runs (anyP p) x xs → ∃ u v, xs = u ++ v ∧ Runs p x u ∧ Star (Loc p) v
  | [], x, h => ⟨[], [], rfl, h, .nil⟩
  | y :: ys, x, ⟨h, r⟩ => by
    obtain ⟨u, v, rfl, h1, h2⟩ := runs_any ys y r
    rcases List.mem_append.mp h with h | h
    · exact ⟨y :: u, v, rfl, ⟨h, h1⟩, h2⟩
    · have q := mem_cross.mp h
      exact ⟨[], y :: (u ++ v), rfl, q.1, .cons (u := y :: u) ⟨q.2, h1⟩ h2⟩
theorem loc_any {p : Ps} (xs : List Nat) : Loc (anyP p) xs ↔ Star (Loc p) xs := by
  constructor
  · cases xs with
    | nil => intro _; exact .nil
    | cons x xs =>
      rintro ⟨h, r⟩
      obtain ⟨u, v, rfl, h1, h2⟩ := runs_any xs x r
      exact .cons (u := x :: u) ⟨h, h1⟩ h2
  · intro s
    induction s with
    | nil => rfl
    | @cons u v l s ih =>
      cases u with
      | nil => exact ih
      | cons x u => exact ⟨l.1, runs_any_of s u x l.2⟩
theorem star_congr {L M : List Nat → Prop} (h : ∀ w, L w ↔ M w) (w : List Nat) : Star L w ↔ Star M w := by
  have e : L = M := funext fun w => propext (h w)
  rw [e]

/-- rows of several parts -/
def LocRow : List Ps → List Nat → Prop
  | [], w => w = []
  | p :: ps, w => ∃ u v, w = u ++ v ∧ Loc p u ∧ LocRow ps v
/-- each part behind the one ahead of it -/
def InL : List Ps → Nat → Nat → Prop
  | [], lo, hi => lo ≤ hi
  | p :: ps, lo, hi => ∃ m, lo ≤ m ∧ In p lo m ∧ InL ps m hi
theorem InL.le : ∀ {ps : List Ps} {lo hi : Nat}, InL ps lo hi → lo ≤ hi
  | [], _, _, h => h
  | _ :: _, _, _, ⟨_, h1, _, h2⟩ => Nat.le_trans h1 (InL.le h2)
theorem in_fold : ∀ (ps : List Ps) (w : Ps) (lo m hi : Nat), lo ≤ m → In w lo m → InL ps m hi → In (ps.foldl catP w) lo hi
  | [], w, lo, m, hi, h1, a, h => a.wide (Nat.le_refl _) h
  | p :: ps, w, lo, m, hi, h1, a, ⟨m', h2, b, r⟩ => in_fold ps (catP w p) lo m' hi (Nat.le_trans h1 h2) (in_cat a b h1 h2) r
theorem loc_fold : ∀ (ps : List Ps) (w : Ps) (lo m hi : Nat), lo ≤ m → In w lo m → InL ps m hi → ∀ xs, (Loc (ps.foldl catP w) xs ↔ ∃ u v, xs = u ++ v ∧ Loc w u ∧ LocRow ps v)
  | [], w, lo, m, hi, h1, a, h, xs => by
    constructor
    · intro z; exact ⟨xs, [], (List.append_nil _).symm, z, rfl⟩
    · rintro ⟨u, v, rfl, z, rfl⟩; rw [List.append_nil]; exact z
  | p :: ps, w, lo, m, hi, h1, a, ⟨m', h2, b, r⟩, xs => by
    have ih := loc_fold ps (catP w p) lo m' hi (Nat.le_trans h1 h2) (in_cat a b h1 h2) r xs
    show Loc (ps.foldl catP (catP w p)) xs ↔ _
    rw [ih]
    constructor
    · rintro ⟨u, v, rfl, z, q⟩
      obtain ⟨u1, u2, rfl, z1, z2⟩ := (loc_cat a b u).mp z
      exact ⟨u1, u2 ++ v, List.append_assoc .., z1, u2, v, rfl, z2, q⟩
    · rintro ⟨u1, _, rfl, z1, u2, v, rfl, z2, q⟩
      exact ⟨u1 ++ u2, v, (List.append_assoc ..).symm, (loc_cat a b _).mpr ⟨u1, u2, rfl, z1, z2⟩, q⟩
theorem loc_start (xs : List Nat) : Loc start xs ↔ xs = [] := by
  cases xs with
  | nil => exact ⟨fun _ => rfl, fun _ => rfl⟩
  | cons x xs => exact ⟨fun h => (nomatch h.1), fun h => (nomatch h)⟩
theorem loc_nothing (xs : List Nat) : ¬ Loc nothing xs := by
  cases xs with
  | nil => exact fun h => (nomatch h)
  | cons x xs => exact fun h => (nomatch h.1)

/-- alternatives -/
def altP (ps : List Ps) : Ps := ⟨ps.flatMap (·.first), ps.flatMap (·.last), ps.any (·.emp), ps.flatMap (·.pairs), true⟩
theorem in_alt : ∀ (ps : List Ps) (lo hi : Nat), InL ps lo hi → In (altP ps) lo hi
  | [], lo, hi, _ => ⟨fun _ h => (nomatch h), fun _ h => (nomatch h), fun _ h => (nomatch h)⟩
  | p :: ps, lo, hi, ⟨m, h1, a, r⟩ => by
    have b := in_alt ps m hi r
    have a' := a.wide (Nat.le_refl lo) r.le
    have b' := b.wide h1 (Nat.le_refl hi)
    refine ⟨fun x hx => ?_, fun x hx => ?_, fun z hz => ?_⟩
    · have hx : x ∈ p.first ++ ps.flatMap (·.first) := hx
      exact (List.mem_append.mp hx).elim (a'.f x) (b'.f x)
    · have hx : x ∈ p.last ++ ps.flatMap (·.last) := hx
      exact (List.mem_append.mp hx).elim (a'.l x) (b'.l x)
    · have hz : z ∈ p.pairs ++ ps.flatMap (·.pairs) := hz
      exact (List.mem_append.mp hz).elim (a'.p z) (b'.p z)
theorem alt_low {p : Ps} {ps : List Ps} {lo m hi : Nat} (a : In p lo m) (b : In (altP ps) m hi) : ∀ (xs : List Nat) (x : Nat), x ≤ m → (Runs (altP (p :: ps)) x xs ↔ Runs p x xs)
  | [], x, hx => by
    show x ∈ p.last ++ (altP ps).last ↔ x ∈ p.last
    rw [List.mem_append]
    exact ⟨fun h => h.elim id fun z => absurd (b.l x z).1 (by omega), .inl⟩
  | y :: ys, x, hx => by
    show (x, y) ∈ p.pairs ++ (altP ps).pairs ∧ Runs (altP (p :: ps)) y ys ↔ (x, y) ∈ p.pairs ∧ Runs p y ys
    rw [List.mem_append]
    constructor
    · rintro ⟨h, r⟩
      have hp : (x, y) ∈ p.pairs := h.elim id fun z => absurd (b.p _ z).1.1 (by show ¬ m < x; omega)
      exact ⟨hp, (alt_low a b ys y (a.p _ hp).2.2).mp r⟩
    · rintro ⟨h, r⟩
      exact ⟨.inl h, (alt_low a b ys y (a.p _ h).2.2).mpr r⟩
theorem alt_high {p : Ps} {ps : List Ps} {lo m hi : Nat} (a : In p lo m) (b : In (altP ps) m hi) : ∀ (xs : List Nat) (x : Nat), m < x → (Runs (altP (p :: ps)) x xs ↔ Runs (altP ps) x xs)
  | [], x, hx => by
    show x ∈ p.last ++ (altP ps).last ↔ x ∈ (altP ps).last
    rw [List.mem_append]
    exact ⟨fun h => h.elim (fun z => absurd (a.l x z).2 (by omega)) id, .inr⟩
  | y :: ys, x, hx => by
    show (x, y) ∈ p.pairs ++ (altP ps).pairs ∧ Runs (altP (p :: ps)) y ys ↔ (x, y) ∈ (altP ps).pairs ∧ Runs (altP ps) y ys
    rw [List.mem_append]
    constructor
    · rintro ⟨h, r⟩
      have hp : (x, y) ∈ (altP ps).pairs := h.elim (fun z => absurd (a.p _ z).1.2 (by show ¬ x ≤ m; omega)) id
      exact ⟨hp, (alt_high a b ys y (b.p _ hp).2.1).mp r⟩
    · rintro ⟨h, r⟩
      exact ⟨.inr h, (alt_high a b ys y (b.p _ h).2.1).mpr r⟩
def LocAlt : List Ps → List Nat → Prop
  | [], _ => False
  | p :: ps, w => Loc p w ∨ LocAlt ps w
theorem loc_alt : ∀ (ps : List Ps) (lo hi : Nat), InL ps lo hi → ∀ xs, (Loc (altP ps) xs ↔ LocAlt ps xs)
  | [], lo, hi, _, xs => by
    cases xs with
    | nil => exact ⟨fun h => (nomatch h), fun h => h.elim⟩
    | cons x xs => exact ⟨fun h => (nomatch h.1), fun h => h.elim⟩
  | p :: ps, lo, hi, ⟨m, h1, a, r⟩, xs => by
    have b := in_alt ps m hi r
    have ih := loc_alt ps m hi r
    show _ ↔ Loc p xs ∨ LocAlt ps xs
    rw [← ih xs]
    cases xs with
    | nil =>
      show ((p :: ps).any (·.emp)) = true ↔ p.emp = true ∨ (ps.any (·.emp)) = true
      rw [List.any_cons, Bool.or_eq_true]
    | cons x xs =>
      show x ∈ p.first ++ (altP ps).first ∧ Runs (altP (p :: ps)) x xs ↔ (x ∈ p.first ∧ Runs p x xs) ∨ (x ∈ (altP ps).first ∧ Runs (altP ps) x xs)
      rw [List.mem_append]
      constructor
      · rintro ⟨h | h, q⟩
        · exact .inl ⟨h, (alt_low a b xs x (a.f _ h).2).mp q⟩
        · exact .inr ⟨h, (alt_high a b xs x (b.f _ h).1).mp q⟩
      · rintro (⟨h, q⟩ | ⟨h, q⟩)
        · exact ⟨.inl h, (alt_low a b xs x (a.f _ h).2).mpr q⟩
        · exact ⟨.inr h, (alt_high a b xs x (b.f _ h).1).mpr q⟩

/-! ### a program's places: where they lie, whether it spells anything -/
mutual
theorem places_in : ∀ (p : Pg α) (b : Nat), In (places p b) b (b + (stepsP p).length)
  | .st a, b => by
    simp only [places, stepsP, List.length_singleton]
    exact ⟨fun x h => by simp at h; omega, fun x h => by simp at h; omega, fun _ h => (nomatch h)⟩
  | .rest, b => by simp only [places]; exact in_start _ _
  | .any p, b => by
    have h := places_in p b
    simp only [places, stepsP]
    refine ⟨h.f, h.l, fun z hz => ?_⟩
    rcases List.mem_append.mp hz with hz | hz
    · exact h.p z hz
    · have q := mem_cross.mp hz
      exact ⟨h.l _ q.1, h.f _ q.2⟩
  | .row ps, b => by
    simp only [places, stepsP]
    unfold inOrder
    split
    · exact in_fold _ _ b b _ (Nat.le_refl _) (in_start _ _) (placesL_in ps b)
    · exact in_nothing _ _
  | .alt ps, b => by
    simp only [places, stepsP]
    unfold oneOf
    split
    · exact in_alt _ _ _ (placesL_in ps b)
    · exact in_nothing _ _
theorem placesL_in : ∀ (ps : List (Pg α)) (b : Nat), InL (placesL ps b) b (b + (stepsL ps).length)
  | [], b => by simp only [placesL, stepsL]; exact Nat.le_add_right _ _
  | p :: ps, b => by
    simp only [placesL, stepsL, List.length_append]
    refine ⟨b + (stepsP p).length, Nat.le_add_right _ _, places_in p b, ?_⟩
    rw [← Nat.add_assoc]
    exact placesL_in ps _
end
theorem spells_fold : ∀ (ps : List Ps) (w : Ps), w.spells = true → (ps.foldl catP w).spells = true
  | [], w, h => h
  | p :: ps, w, _ => spells_fold ps (catP w p) rfl
mutual
theorem spells_iff : ∀ (p : Pg α) (b : Nat), (places p b).spells = true ↔ ∃ u, Pl p b u
  | .st a, b => by simp [places, Pl]
  | .rest, b => by simp [places, Pl, start]
  | .any p, b => by simp only [places, Pl]; exact ⟨fun _ => ⟨[], .nil⟩, fun _ => trivial⟩
  | .row ps, b => by
    simp only [places, Pl]
    rw [← spellsRow_iff ps b]
    unfold inOrder
    split
    · rename_i h; exact ⟨fun _ => h, fun _ => spells_fold _ _ rfl⟩
    · rename_i h; exact ⟨fun z => (nomatch z), fun z => absurd z h⟩
  | .alt ps, b => by
    simp only [places, Pl]
    rw [← spellsAlt_iff ps b]
    unfold oneOf
    split
    · rename_i h; exact ⟨fun _ => h, fun _ => rfl⟩
    · rename_i h; exact ⟨fun z => (nomatch z), fun z => absurd z h⟩
theorem spellsRow_iff : ∀ (ps : List (Pg α)) (b : Nat), (placesL ps b).all (·.spells) = true ↔ ∃ u, PlRow ps b u
  | [], b => by simp [placesL, PlRow]
  | p :: ps, b => by
    simp only [placesL, PlRow, List.all_cons, Bool.and_eq_true]
    rw [spells_iff p b, spellsRow_iff ps]
    constructor
    · rintro ⟨⟨u, hu⟩, v, hv⟩; exact ⟨u ++ v, u, v, rfl, hu, hv⟩
    · rintro ⟨_, u, v, _, hu, hv⟩; exact ⟨⟨u, hu⟩, v, hv⟩
theorem spellsAlt_iff : ∀ (ps : List (Pg α)) (b : Nat), (placesL ps b).any (·.spells) = true ↔ ∃ u, PlAlt ps b u
  | [], b => by simp [placesL, PlAlt]
  | p :: ps, b => by
    simp only [placesL, PlAlt, List.any_cons, Bool.or_eq_true]
    rw [spells_iff p b, spellsAlt_iff ps]
    constructor
    · rintro (⟨u, hu⟩ | ⟨u, hu⟩)
      · exact ⟨u, .inl hu⟩
      · exact ⟨u, .inr hu⟩
    · rintro ⟨u, hu | hu⟩
      · exact .inl ⟨u, hu⟩
      · exact .inr ⟨u, hu⟩
end

/- THE places of a program say which rows of places it spells -/
mutual
theorem loc_places : ∀ (p : Pg α) (b : Nat) (xs : List Nat), Loc (places p b) xs ↔ Pl p b xs
  | .st a, b, xs => by
    simp only [places, Pl]
    match xs with
    | [] => exact ⟨fun h => (nomatch h), fun h => (nomatch h)⟩
    | [x] =>
      constructor
      · rintro ⟨h, _⟩; rw [List.mem_singleton.mp h]
      · intro h; injection h with h _; subst h; exact ⟨List.mem_singleton.mpr rfl, List.mem_singleton.mpr rfl⟩
    | x :: y :: xs => exact ⟨fun h => (nomatch h.2.1), fun h => (nomatch h)⟩
  | .rest, b, xs => by simp only [places, Pl]; exact loc_start xs
  | .any p, b, xs => by
    simp only [places, Pl]
    exact (loc_any (p := places p b) xs).trans (star_congr (fun w => loc_places p b w) xs)
  | .row ps, b, xs => by
    simp only [places, Pl]
    unfold inOrder
    split
    · rw [loc_fold _ _ b b _ (Nat.le_refl _) (in_start _ _) (placesL_in ps b) xs]
      constructor
      · rintro ⟨u, v, rfl, h1, h2⟩
        rw [(loc_start u).mp h1]
        exact (locRow_places ps b v).mp h2
      · intro h
        exact ⟨[], xs, rfl, (loc_start []).mpr rfl, (locRow_places ps b xs).mpr h⟩
    · rename_i h
      exact ⟨fun z => absurd z (loc_nothing xs), fun z => absurd ((spellsRow_iff ps b).mpr ⟨xs, z⟩) h⟩
  | .alt ps, b, xs => by
    simp only [places, Pl]
    unfold oneOf
    split
    · exact (loc_alt _ _ _ (placesL_in ps b) xs).trans (locAlt_places ps b xs)
    · rename_i h
      exact ⟨fun z => absurd z (loc_nothing xs), fun z => absurd ((spellsAlt_iff ps b).mpr ⟨xs, z⟩) h⟩
theorem locRow_places : ∀ (ps : List (Pg α)) (b : Nat) (xs : List Nat), LocRow (placesL ps b) xs ↔ PlRow ps b xs
  | [], b, xs => by simp only [placesL, LocRow, PlRow]
  | p :: ps, b, xs => by
    simp only [placesL, LocRow, PlRow]
    constructor
    · rintro ⟨u, v, e, h1, h2⟩; exact ⟨u, v, e, (loc_places p b u).mp h1, (locRow_places ps _ v).mp h2⟩
    · rintro ⟨u, v, e, h1, h2⟩; exact ⟨u, v, e, (loc_places p b u).mpr h1, (locRow_places ps _ v).mpr h2⟩
theorem locAlt_places : ∀ (ps : List (Pg α)) (b : Nat) (xs : List Nat), LocAlt (placesL ps b) xs ↔ PlAlt ps b xs
  | [], b, xs => by simp only [placesL, LocAlt, PlAlt]
  | p :: ps, b, xs => by
    simp only [placesL, LocAlt, PlAlt]
    rw [loc_places p b xs, locAlt_places ps _ xs]
end
end
end Sk
namespace Sk
section
variable {α : Type}
/- the number of parts -/
mutual
def nodesP : Pg α → Nat
  | .st _ => 1
  | .rest => 1
  | .any p => nodesP p + 1
  | .row ps => nodesL ps + 1
  | .alt ps => nodesL ps + 1
def nodesL : List (Pg α) → Nat
  | [] => 0
  | p :: ps => nodesP p + nodesL ps
end
end
end Sk

set_option Elab.async false
set_option linter.all false
set_option maxRecDepth 100000
set_option maxHeartbeats 4000000
/-! Skewer, the ground of the walk: the text by places, data in the heap, hidden addresses. -/
namespace Sk
open PySem L2
def topS (i : Nat) : Stmt := PySem.Challenge.pw_skewer_k16_whole_built_automata_spell.main.body.getD i (.Pass ⟨0, 0, 0, 0⟩)
abbrev sAuto : Stmt := inClass (topS 2) 0
abbrev sStepsOf : Stmt := topS 3
abbrev sPlaces0 : Stmt := inClass (topS 4) 0
abbrev sNothing : Stmt := topS 5
abbrev sInOrder : Stmt := topS 6
abbrev sOneOf : Stmt := topS 7
abbrev sPlaces : Stmt := topS 8
abbrev sBuildFor : Stmt := topS 9
abbrev sSpells : Stmt := topS 10
abbrev sMix : Stmt := topS 12
abbrev sNumbers : Stmt := topS 13
abbrev sTake : Stmt := topS 14
abbrev sStep : Stmt := topS 15
abbrev sPart : Stmt := topS 16
abbrev sBehind : Stmt := topS 17
abbrev sSpelled : Stmt := topS 18
abbrev sSteps : Stmt := topS 19
abbrev sWords : Stmt := topS 20
abbrev sWalked : Stmt := topS 21
abbrev sNear : Stmt := topS 22
abbrev sRowOut : Stmt := topS 23
abbrev sOutline : Stmt := topS 24
abbrev sDue : Stmt := topS 25
abbrev sAscends : Stmt := topS 26
abbrev sLaw : Stmt := topS 27

/-! ### data that stands in the heap -/
theorem seqT {K : PySem.W.Frag} {H H' : Hp} {a : Addr} {xs : List V} (e : Same H H') (h : SqT K H a xs) : SqT K H' a xs := by
  rcases h with (h | ⟨o, h⟩) | h
  · exact .inl (.inl (e _ _ h))
  · exact .inl (.inr ⟨o, e _ _ h⟩)
  · exact .inr h
section
variable {K : PySem.W.Frag} {H H' : Hp}
mutual
theorem dp_same (e : Same H H') : ∀ (d : PyData) (v : V), Dp K H v d → Dp K H' v d
  | .none, _, h => by cases h; exact .non
  | .bool b, _, h => by cases h; exact .bl b
  | .int i, _, h => by cases h; exact .int i
  | .str x, _, h => by cases h; exact .str x
  | .list ds, _, h => by
    cases h with
    | lst hs ha => exact .lst (e.seq hs) (dpAll_same e ds _ ha)
  | .tuple ds, _, h => by
    cases h with
    | tup hs ha => exact .tup (seqT e hs) (dpAll_same e ds _ ha)
  | .dict _, _, h => by cases h
theorem dpAll_same (e : Same H H') : ∀ (ds : List PyData) (vs : List V), DpAll K H vs ds → DpAll K H' vs ds
  | [], _, h => by cases h; exact .nil
  | d :: ds, _, h => by
    cases h with
    | cons h1 h2 => exact .cons (dp_same e d _ h1) (dpAll_same e ds _ h2)
end
theorem Same.dp {v : V} {d : PyData} (e : Same H H') (h : Dp K H v d) : Dp K H' v d := dp_same e d v h
theorem Same.all {vs : List V} {ds : List PyData} (e : Same H H') (h : DpAll K H vs ds) : DpAll K H' vs ds := dpAll_same e ds vs h
theorem list_inv {v : V} {ds : List PyData} (h : Dp K H v (.list ds)) : ∃ a xs, v = .ref a ∧ SqL K H a xs ∧ DpAll K H xs ds := by
  cases h with
  | lst hs ha => exact ⟨_, _, rfl, hs, ha⟩
theorem tup_inv {v : V} {ds : List PyData} (h : Dp K H v (.tuple ds)) : ∃ a xs, v = .ref a ∧ SqT K H a xs ∧ DpAll K H xs ds := by
  cases h with
  | tup hs ha => exact ⟨_, _, rfl, hs, ha⟩
theorem int_inv {v : V} {i : Int} (h : Dp K H v (.int i)) : v = .int i := by cases h; rfl
theorem str_inv {v : V} {x : Str} (h : Dp K H v (.str x)) : v = .str x := by cases h; rfl
theorem bool_inv {v : V} {b : Bool} (h : Dp K H v (.bool b)) : v = .bl b := by cases h; rfl
theorem none_inv {v : V} (h : Dp K H v .none) : v = .non := by cases h; rfl
theorem nil_inv {vs : List V} (h : DpAll K H vs []) : vs = [] := by cases h; rfl
theorem cons_inv {vs : List V} {d : PyData} {ds : List PyData} (h : DpAll K H vs (d :: ds)) : ∃ v r, vs = v :: r ∧ Dp K H v d ∧ DpAll K H r ds := by
  cases h with
  | cons h1 h2 => exact ⟨_, _, rfl, h1, h2⟩
theorem all_len : ∀ {vs : List V} {ds : List PyData}, DpAll K H vs ds → vs.length = ds.length
  | _, [], h => by rw [nil_inv h]; rfl
  | _, d :: ds, h => by
    obtain ⟨v, r, rfl, _, h2⟩ := cons_inv h
    rw [List.length_cons, List.length_cons, all_len h2]
theorem all_get : ∀ {ds : List PyData} {vs : List V} {i : Nat} {x : V}, DpAll K H vs ds → vs[i]? = some x → ∃ d, ds[i]? = some d ∧ Dp K H x d
  | [], vs, i, x, h, e => by rw [nil_inv h] at e; simp at e
  | d :: ds, vs, i, x, h, e => by
    obtain ⟨v, r, rfl, h1, h2⟩ := cons_inv h
    cases i with
    | zero => simp at e; subst e; exact ⟨d, by simp, h1⟩
    | succ i =>
      obtain ⟨d', e1, e2⟩ := all_get (i := i) h2 (by simpa using e)
      exact ⟨d', by simpa using e1, e2⟩
theorem all_at : ∀ {ds : List PyData} {vs : List V} {i : Nat} {d : PyData}, DpAll K H vs ds → ds[i]? = some d → ∃ x, vs[i]? = some x ∧ Dp K H x d
  | [], vs, i, d, h, e => by simp at e
  | d0 :: ds, vs, i, d, h, e => by
    obtain ⟨v, r, rfl, h1, h2⟩ := cons_inv h
    cases i with
    | zero => simp at e; subst e; exact ⟨v, by simp, h1⟩
    | succ i =>
      obtain ⟨x, e1, e2⟩ := all_at (i := i) h2 (by simpa using e)
      exact ⟨x, by simpa using e1, e2⟩
theorem all_app : ∀ {ds es : List PyData} {vs us : List V}, DpAll K H vs ds → DpAll K H us es → DpAll K H (vs ++ us) (ds ++ es)
  | [], _, _, _, h, q => by rw [nil_inv h]; exact q
  | d :: ds, _, _, _, h, q => by
    obtain ⟨v, r, rfl, h1, h2⟩ := cons_inv h
    exact .cons h1 (all_app h2 q)
theorem all_one {v : V} {d : PyData} (h : Dp K H v d) : DpAll K H [v] [d] := .cons h .nil
theorem all_snoc {ds : List PyData} {vs : List V} {v : V} {d : PyData} (h : DpAll K H vs ds) (q : Dp K H v d) : DpAll K H (vs ++ [v]) (ds ++ [d]) := all_app h (all_one q)
/-- one more of a list that is gone through -/
theorem all_next {ds : List PyData} {vs : List V} {v : V} {d : PyData} {i : Nat} (h : DpAll K H vs (ds.take i)) (e : ds[i]? = some d) (q : Dp K H v d) : DpAll K H (vs ++ [v]) (ds.take (i + 1)) := by
  rw [List.take_add_one, e]; exact all_snoc h q
theorem all_ints : ∀ (ns : List Int), DpAll K H (ns.map V.int) (ns.map PyData.int)
  | [] => .nil
  | n :: ns => .cons (.int n) (all_ints ns)
theorem ints_inv : ∀ {ns : List Int} {vs : List V}, DpAll K H vs (ns.map PyData.int) → vs = ns.map V.int
  | [], vs, h => nil_inv h
  | n :: ns, vs, h => by
    obtain ⟨v, r, rfl, h1, h2⟩ := cons_inv h
    rw [int_inv h1, ints_inv h2]; rfl
theorem all_bools : ∀ (ns : List Bool), DpAll K H (ns.map V.bl) (ns.map PyData.bool)
  | [] => .nil
  | n :: ns => .cons (.bl n) (all_bools ns)
theorem bools_inv : ∀ {ns : List Bool} {vs : List V}, DpAll K H vs (ns.map PyData.bool) → vs = ns.map V.bl
  | [], vs, h => nil_inv h
  | n :: ns, vs, h => by
    obtain ⟨v, r, rfl, h1, h2⟩ := cons_inv h
    rw [bool_inv h1, bools_inv h2]; rfl
end
/-- a list of ints -/
def intD (ns : List Int) : PyData := .list (ns.map PyData.int)
def zs (ns : List Nat) : List Int := ns.map fun n : Nat => (n : Int)
def natD (ns : List Nat) : PyData := intD (zs ns)
def pairD (z : Nat × Nat) : PyData := .tuple [.int z.1, .int z.2]
def pairsD (ps : List (Nat × Nat)) : PyData := .list (ps.map pairD)
section
variable {K : PySem.W.Frag} {H H' : Hp}
theorem intD_inv {v : V} {ns : List Int} (h : Dp K H v (intD ns)) : ∃ a, v = .ref a ∧ SqL K H a (ns.map V.int) := by
  obtain ⟨a, xs, rfl, h1, h2⟩ := list_inv h
  rw [ints_inv h2] at h1
  exact ⟨a, rfl, h1⟩
theorem intD_of {a : Addr} {ns : List Int} (h : SqL K H a (ns.map V.int)) : Dp K H (.ref a) (intD ns) := .lst h (all_ints ns)
theorem pairD_inv {v : V} {z : Nat × Nat} (h : Dp K H v (pairD z)) : ∃ a, v = .ref a ∧ SqT K H a [.int z.1, .int z.2] := by
  obtain ⟨a, xs, rfl, h1, h2⟩ := tup_inv h
  obtain ⟨_, _, rfl, q1, h2⟩ := cons_inv h2
  obtain ⟨_, _, rfl, q2, h2⟩ := cons_inv h2
  rw [nil_inv h2, int_inv q1, int_inv q2] at h1
  exact ⟨a, rfl, h1⟩
theorem pairD_of {a : Addr} {z : Nat × Nat} (h : SqT K H a [.int z.1, .int z.2]) : Dp K H (.ref a) (pairD z) := .tup h (.cons (.int _) (.cons (.int _) .nil))
end

/-! ### steps and programs -/
def stepNames : List Str := ["go", "empty", "own", "foe", "at", "take", "lay"]
structure Step where
  nm : Str
  arg : Option Int
  ok : nm ∈ stepNames
  deriving DecidableEq
def argD : Option Int → List PyData
  | none => []
  | some k => [.int k]
def argV : Option Int → List V
  | none => []
  | some k => [.int k]
def stepD (s : Step) : PyData := .tuple (.str s.nm :: argD s.arg)
def stepV (s : Step) : List V := .str s.nm :: argV s.arg
abbrev Prog := Pg Step
mutual
def progD : Prog → PyData
  | .st s => stepD s
  | .rest => .tuple [.str "rest"]
  | .any p => .tuple [.str "any", progD p]
  | .row ps => .tuple [.str "row", .list (progsD ps)]
  | .alt ps => .tuple [.str "either", .list (progsD ps)]
def progsD : List Prog → List PyData
  | [] => []
  | p :: ps => progD p :: progsD ps
end
theorem progsD_map : ∀ ps : List Prog, progsD ps = ps.map progD
  | [] => rfl
  | p :: ps => by unfold progsD; rw [progsD_map ps]; rfl
def entD (e : Step × Nat) : PyData := .tuple [stepD e.1, .int e.2]
def rowD (r : List (Step × Nat)) : PyData := .list (r.map entD)
def rowsD (rs : List (List (Step × Nat))) : PyData := .list (rs.map rowD)
def wordD (w : List Step) : PyData := .list (w.map stepD)
section
variable {K : PySem.W.Frag} {H H' : Hp}
theorem argD_all (o : Option Int) : DpAll K H (argV o) (argD o) := by
  cases o with
  | none => exact .nil
  | some k => exact .cons (.int k) .nil
theorem arg_inv {o : Option Int} {vs : List V} (h : DpAll K H vs (argD o)) : vs = argV o := by
  cases o with
  | none => exact nil_inv h
  | some k =>
    obtain ⟨_, _, rfl, q1, h2⟩ := cons_inv h
    rw [nil_inv h2, int_inv q1]; rfl
theorem stepD_of {a : Addr} {s : Step} (h : SqT K H a (stepV s)) : Dp K H (.ref a) (stepD s) := .tup h (.cons (.str _) (argD_all _))
theorem stepD_inv {v : V} {s : Step} (h : Dp K H v (stepD s)) : ∃ a, v = .ref a ∧ SqT K H a (stepV s) := by
  obtain ⟨a, xs, rfl, h1, h2⟩ := tup_inv h
  obtain ⟨_, _, rfl, q1, h2⟩ := cons_inv h2
  rw [arg_inv h2, str_inv q1] at h1
  exact ⟨a, rfl, h1⟩
theorem entD_inv {v : V} {e : Step × Nat} (h : Dp K H v (entD e)) : ∃ a x, v = .ref a ∧ SqT K H a [x, .int e.2] ∧ Dp K H x (stepD e.1) := by
  obtain ⟨a, xs, rfl, h1, h2⟩ := tup_inv h
  obtain ⟨x, _, rfl, q1, h2⟩ := cons_inv h2
  obtain ⟨_, _, rfl, q2, h2⟩ := cons_inv h2
  rw [nil_inv h2, int_inv q2] at h1
  exact ⟨a, x, rfl, h1, q1⟩
theorem entD_of {a : Addr} {x : V} {e : Step × Nat} (h : SqT K H a [x, .int e.2]) (q : Dp K H x (stepD e.1)) : Dp K H (.ref a) (entD e) := .tup h (.cons q (.cons (.int _) .nil))
end

/-! ### equal data -/
theorem str_beq (x y : Str) : (x == y) = decide (x = y) := by
  by_cases h : x = y
  · subst h; simp
  · rw [decide_eq_false h]; exact beq_eq_false_iff_ne.mpr h
theorem stepD_eqv (s t : Step) : PyData.eqv (stepD s) (stepD t) = decide (s = t) := by
  obtain ⟨n, a, h⟩ := s
  obtain ⟨m, b, h'⟩ := t
  unfold stepD
  simp only [PyData.eqv, PyData.eqvAll, str_beq, Step.mk.injEq]
  by_cases e : n = m
  · subst e
    cases a with
    | none => cases b with
      | none => simp [argD, PyData.eqvAll]
      | some j => simp [argD, PyData.eqvAll]
    | some i => cases b with
      | none => simp [argD, PyData.eqvAll]
      | some j => simp [argD, PyData.eqv, PyData.eqvAll]; by_cases q : i = j <;> simp [q]
  · simp [e]
theorem strOk_step : ∀ x ∈ stepNames, SeqAt.shaped (.str x) = true := by
  intro x hx
  have h : stepNames.all (fun x => SeqAt.shaped (.str x)) = true := by decide +kernel
  exact List.all_eq_true.mp h x hx
theorem stepD_lay (s : Step) : (stepD s).canLay0 = true := by
  have h := SeqAt.canLay_of_shaped (strOk_step s.nm s.ok)
  unfold stepD
  simp only [PyData.canLay0, PyData.canLayAll0]
  simp only [PyData.canLay0] at h
  rw [h]
  cases s.arg <;> simp [argD, PyData.canLay0, PyData.canLayAll0]
theorem stepD_depth (s : Step) : (stepD s).depth ≤ 1 := by
  unfold stepD
  cases s.arg <;> simp [argD, PyData.depth, PyData.depthAll]
theorem shaped_of {d : PyData} (h : d.canLay0 = true) (q : d.depth ≤ 64) : SeqAt.shaped d = true := by
  unfold SeqAt.shaped
  rw [h, decide_eq_true q]; rfl
theorem lay_map {α : Type} (f : α → PyData) (h : ∀ a, (f a).canLay0 = true) : ∀ xs : List α, PyData.canLayAll0 (xs.map f) = true
  | [] => rfl
  | x :: xs => by rw [List.map_cons, PyData.canLayAll0, h x, lay_map f h xs]; rfl
theorem depth_map {α : Type} (f : α → PyData) (n : Nat) (h : ∀ a, (f a).depth ≤ n) : ∀ xs : List α, PyData.depthAll (xs.map f) ≤ n
  | [] => Nat.zero_le _
  | x :: xs => by
    rw [List.map_cons, PyData.depthAll]
    exact Nat.max_le.mpr ⟨h x, depth_map f n h xs⟩
theorem stepD_shaped (s : Step) : SeqAt.shaped (stepD s) = true := shaped_of (stepD_lay s) (Nat.le_trans (stepD_depth s) (by decide))
theorem entD_lay (e : Step × Nat) : (entD e).canLay0 = true := by
  unfold entD
  simp only [PyData.canLay0, PyData.canLayAll0, stepD_lay, Bool.and_true]
theorem entD_depth (e : Step × Nat) : (entD e).depth ≤ 2 := by
  have := stepD_depth e.1
  unfold entD
  simp only [PyData.depth, PyData.depthAll]
  omega
theorem rowD_lay (r : List (Step × Nat)) : (rowD r).canLay0 = true := by unfold rowD; simp only [PyData.canLay0]; exact lay_map _ entD_lay r
theorem rowD_depth (r : List (Step × Nat)) : (rowD r).depth ≤ 3 := by
  have := depth_map entD 2 entD_depth r
  unfold rowD
  simp only [PyData.depth]
  omega
theorem rowsD_lay (r : List (List (Step × Nat))) : (rowsD r).canLay0 = true := by unfold rowsD; simp only [PyData.canLay0]; exact lay_map _ rowD_lay r
theorem rowsD_depth (r : List (List (Step × Nat))) : (rowsD r).depth ≤ 4 := by
  have := depth_map rowD 3 rowD_depth r
  unfold rowsD
  simp only [PyData.depth]
  omega
theorem wordD_lay (w : List Step) : (wordD w).canLay0 = true := by unfold wordD; simp only [PyData.canLay0]; exact lay_map _ stepD_lay w
theorem wordD_depth (w : List Step) : (wordD w).depth ≤ 2 := by
  have := depth_map stepD 1 stepD_depth w
  unfold wordD
  simp only [PyData.depth]
  omega
theorem intD_lay (ns : List Int) : (intD ns).canLay0 = true := by unfold intD; simp only [PyData.canLay0]; exact lay_map _ (fun _ => rfl) ns
theorem intD_depth (ns : List Int) : (intD ns).depth ≤ 1 := by
  have := depth_map PyData.int 0 (fun _ => Nat.le_refl _) ns
  unfold intD
  simp only [PyData.depth]
  omega
theorem pairD_lay (z : Nat × Nat) : (pairD z).canLay0 = true := rfl
theorem pairD_depth (z : Nat × Nat) : (pairD z).depth ≤ 1 := Nat.le_refl _
theorem pairD_eqv (z w : Nat × Nat) : PyData.eqv (pairD z) (pairD w) = decide (z = w) := by
  obtain ⟨a, b⟩ := z
  obtain ⟨c, d⟩ := w
  unfold pairD
  simp only [PyData.eqv, PyData.eqvAll, Bool.and_true]
  by_cases h1 : a = c
  · by_cases h2 : b = d
    · subst h1 h2; simp
    · have q : ((b : Int) == (d : Int)) = false := beq_eq_false_iff_ne.mpr (by omega)
      simp [q, h1, h2]
  · have q : ((a : Int) == (c : Int)) = false := beq_eq_false_iff_ne.mpr (by omega)
    simp [q, h1]
theorem pairsD_shaped (ps : List (Nat × Nat)) : SeqAt.shaped (pairsD ps) = true := shaped_of (by unfold pairsD; simp only [PyData.canLay0]; exact lay_map _ pairD_lay ps) (by
  have := depth_map pairD 1 pairD_depth ps
  unfold pairsD
  simp only [PyData.depth]
  omega)
theorem any_pair (ps : List (Nat × Nat)) (z : Nat × Nat) : (ps.map pairD).any (fun d => PyData.eqv d (pairD z)) = decide (z ∈ ps) := by
  rw [List.any_map]
  induction ps with
  | nil => rfl
  | cons p ps ih =>
    rw [List.any_cons, ih]
    show (PyData.eqv (pairD p) (pairD z) || decide (z ∈ ps)) = _
    rw [pairD_eqv]
    by_cases h : p = z
    · subst h; simp
    · have h' : ¬ z = p := fun e => h e.symm
      simp [h, h']
theorem inV_ints (k : Int) (ns : List Int) : inV (.int k) (ns.map V.int) = decide (k ∈ ns) := by
  unfold inV
  rw [List.any_map]
  induction ns with
  | nil => rfl
  | cons n ns ih =>
    rw [List.any_cons, ih]
    show (eqV (.int n) (.int k) || decide (k ∈ ns)) = _
    have e : eqV (.int n) (.int k) = decide (n = k) := by
      unfold eqV
      simp [Bool.beq_eq_decide_eq]
    rw [e]
    by_cases h : n = k
    · subst h; simp
    · have h' : ¬ k = n := fun e => h e.symm
      simp [h, h']
theorem inV_strs (k : Str) (ns : List Str) : inV (.str k) (ns.map V.str) = decide (k ∈ ns) := by
  unfold inV
  rw [List.any_map]
  induction ns with
  | nil => rfl
  | cons n ns ih =>
    rw [List.any_cons, ih]
    show (eqV (.str n) (.str k) || decide (k ∈ ns)) = _
    have e : eqV (.str n) (.str k) = decide (n = k) := by
      unfold eqV
      simp [str_beq]
    rw [e]
    by_cases h : n = k
    · subst h; simp
    · have h' : ¬ k = n := fun e => h e.symm
      simp [h, h']
theorem flat_ints (ns : List Int) : (ns.map V.int).all flatV = true := by
  induction ns with
  | nil => rfl
  | cons n ns ih => rw [List.map_cons, List.all_cons, ih]; rfl

/-! ### hidden addresses: what a def changes while it builds is told apart -/
def hid (Z : List Addr) (H : Hp) : Hp := fun b => if b ∈ Z then none else H b
def Dom (Z : List Addr) (H : Hp) : Prop := ∀ b ∈ Z, H b ≠ none
section
variable {Z : List Addr} {H H' : Hp} {p D : Addr} {o : HO}
theorem hid_in (h : D ∈ Z) : hid Z H D = none := if_pos h
theorem hid_out (h : D ∉ Z) : hid Z H D = H D := if_neg h
theorem hid_get (h : hid Z H p = some o) : H p = some o ∧ p ∉ Z := by
  by_cases q : p ∈ Z
  · rw [hid_in q] at h; cases h
  · rw [hid_out q] at h; exact ⟨h, q⟩
theorem hid_le : Same (hid Z H) H := fun _ _ h => (hid_get h).1
theorem hid_cons : Same (hid (D :: Z) H) (hid Z H) := fun b o h => by
  obtain ⟨h1, h2⟩ := hid_get h
  rw [hid_out fun q => h2 (List.mem_cons_of_mem _ q)]; exact h1
theorem hid_nil : hid [] H = H := funext fun b => if_neg (by simp)
theorem same_hid (e : Same H H') : Same (hid Z H) (hid Z H') := fun b o h => by
  obtain ⟨h1, h2⟩ := hid_get h
  rw [hid_out h2]; exact e _ _ h1
theorem Dom.nil : Dom [] H := fun _ h => (nomatch h)
theorem Dom.same (h : Dom Z H) (e : Same H H') : Dom Z H' := fun b hb => by
  cases q : H b with
  | none => exact absurd q (h b hb)
  | some o => rw [e b o q]; exact fun z => (nomatch z)
theorem Dom.cons (h : Dom Z H) (q : H D = some o) : Dom (D :: Z) H := fun b hb => by
  rcases List.mem_cons.mp hb with rfl | hb
  · rw [q]; exact fun z => (nomatch z)
  · exact h b hb
theorem Dom.out (h : Dom Z H) (q : H p = none) : p ∉ Z := fun hb => h p hb q
theorem same_new (h : H p = none) : Same H (upd H p o) := fun b u q => by rw [upd_ne (ne_of_none q h)]; exact q
theorem Dom.upd (h : Dom Z H) : Dom Z (upd H p o) := fun b hb => by
  by_cases e : b = p
  · subst e; rw [upd_same]; exact fun z => (nomatch z)
  · rw [upd_ne e]; exact h b hb
theorem hid_new (h : Dom Z H) (q : H p = none) : hid Z (upd H p o) = upd (hid Z H) p o := funext fun b => by
  by_cases e : b = p
  · subst e; rw [hid_out (h.out q), upd_same, upd_same]
  · rw [upd_ne e]
    by_cases z : b ∈ Z
    · rw [hid_in z, hid_in z]
    · rw [hid_out z, hid_out z, upd_ne e]
theorem hid_upd (h : D ∈ Z) : hid Z (upd H D o) = hid Z H := funext fun b => by
  by_cases z : b ∈ Z
  · rw [hid_in z, hid_in z]
  · rw [hid_out z, hid_out z, upd_ne (show b ≠ D from fun e => z (by rw [e]; exact h))]
theorem hid_put (h : D ∉ Z) : hid Z (upd H D o) D = some o := by rw [hid_out h, upd_same]
/-- D comes into sight -/
theorem hid_open (h : D ∉ Z) : Same (hid (D :: Z) H) (hid Z (upd H D o)) := fun b u q => by
  obtain ⟨h1, h2⟩ := hid_get q
  have hb : b ≠ D := fun e => h2 (e ▸ List.mem_cons_self ..)
  rw [hid_out fun z => h2 (List.mem_cons_of_mem _ z), upd_ne hb]; exact h1
end
section
variable {K : PySem.W.Frag} {Z : List Addr} {H H' : Hp} {p : Addr} {o : HO} {xs : List V} {ds : List PyData}
theorem same_newZ (h : H p = none) : Same (hid Z H) (hid Z (upd H p o)) := same_hid (same_new h)
theorem new_at (hZ : Dom Z H) (np : H p = none) : hid Z (upd H p o) p = some o := by rw [hid_new hZ np, upd_same]
/-- a new list, a new tuple, of data -/
theorem dp_new (hZ : Dom Z H) (np : H p = none) (h : DpAll K (hid Z H) xs ds) : Dp K (hid Z (upd H p (.lst xs))) (.ref p) (.list ds) :=
  .lst (.of (new_at hZ np)) (Same.all (same_newZ np) h)
theorem dp_newT (hZ : Dom Z H) (np : H p = none) (h : DpAll K (hid Z H) xs ds) : Dp K (hid Z (upd H p (.tup xs))) (.ref p) (.tuple ds) :=
  .tup (.of (new_at hZ np)) (Same.all (same_newZ np) h)
end
/-- all but what stands at R is kept -/
abbrev But (R : Addr) (H H' : Hp) : Prop := Same (hid [R] H) (hid [R] H')
section
variable {Z : List Addr} {H H' : Hp} {p R b : Addr} {o : HO}
theorem But.get (e : But R H H') (h : H b = some o) (n : b ≠ R) : H' b = some o := (hid_get (e b o (by rw [hid_out (by simpa using n)]; exact h))).1
theorem But.hid (e : But R H H') (h : R ∈ Z) : Same (Sk.hid Z H) (Sk.hid Z H') := fun b o q => by
  obtain ⟨h1, h2⟩ := hid_get q
  rw [hid_out h2]
  exact e.get h1 fun z => h2 (z ▸ h)
theorem Same.but (e : Same H H') : But R H H' := same_hid e
theorem But.upd (e : But R H H') : But R H (upd H' R o) := by
  unfold But
  rw [hid_upd (List.mem_cons_self ..)]; exact e
theorem But.dom (e : But R H H') (h : Dom Z H) (q : H' R ≠ none) : Dom Z H' := fun b hb => by
  by_cases z : b = R
  · rw [z]; exact q
  · cases w : H b with
    | none => exact absurd w (h b hb)
    | some o => rw [e.get w z]; exact fun z => (nomatch z)
theorem But.free (e : But R H H') (h : H' p = none) (q : H' R ≠ none) : H p = none := by
  cases w : H p with
  | none => rfl
  | some o =>
    have n : p ≠ R := fun z => q (z ▸ h)
    rw [e.get w n] at h; cases h
end

/-! ### + of two lists that are read -/
section
variable {X : Cx}
def rCatL (K : PySem.W.Frag) : R2 := fun x y H Q => ∃ a b xs ys, x = .ref a ∧ y = .ref b ∧ SqL K H a xs ∧ SqL K H b ys ∧ xs.length + ys.length ≤ sizeLine ∧ ∀ p, H p = none → Q (.ref p) (upd H p (.lst (xs ++ ys)))
theorem op_catL : OpR X (binaryOp .Add) (rCatL X.K) := by
  intro pins s σ H x y v u Q I rx ry h
  obtain ⟨a, b, xs, ys, rfl, rfl, ha, hb, hz, q⟩ := h
  cases rx
  cases ry
  obtain ⟨i1, r1, ⟨⟨c1, d1, t1, l1⟩, n1, g1, e1, _, w1⟩, _⟩ := I.list ha
  obtain ⟨i2, r2, ⟨⟨c2, d2, t2, l2⟩, n2, g2, e2, _, w2⟩, _⟩ := I.list hb
  dsimp only at e1 e2 w1 w2
  subst e1 e2 w1 w2
  have z1 := r1.length
  have z2 := r2.length
  have hs : i1.toArray.size + i2.toArray.size ≤ sizeLine := by rw [List.size_toArray, List.size_toArray]; omega
  refine concat_meets ⟨_, g1, rfl⟩ ⟨_, g2, rfl⟩ noFill_list_add seq_list_add PySem.F.slot_list_add PySem.F.entry_list_add (PySem.F.args_list_add_2 _ _) (PyProof.Rows.list_addW a b i1.toArray i2.toArray n1 n2 d1 d2 l1 l2 hs) ⟨g1, g2, ?_⟩
  rw [show i1.toArray ++ i2.toArray = (i1 ++ i2).toArray by simp]
  exact ⟨.ref _, _, I.lnew (t' := s.toks) (r1.append r2) (by rw [List.length_append]; exact hz), rfl, q _ I.fresh⟩
end
end Sk

set_option Elab.async false
set_option linter.all false
set_option maxRecDepth 100000
set_option maxHeartbeats 4000000
/-! Skewer, the walk: calls in short, steps_of, _law_steps. -/
namespace Sk
open PySem L2
/-! ### a def that is called by its name -/
structure Callee (P : Program) (w : World) (K : PySem.W.Frag) (mg : Str → Option Value) (base : Heap) (k : Nat) (x : Str) (ps : List Str) (sp : Sp) : Prop where
  ex : ∃ f fd, FnOk P w K mg base CX0 k f fd ps sp ∧ Binds K fd ps [] ∧ PySem.W.keepIn K (.ref f) = true ∧ mg x = some (.ref f)
section
variable {X : Cx}
theorem pe_cal {k : Nat} {x : Str} {ps : List Str} {sp : Sp} {p pos : Pos} {e : Expr} {es : List Expr} {t : TA} (C : Callee X.prog X.w X.K X.mg X.base k x ps sp) (hr : Room k X.A) (hg : Gl X x) (ha : PA X (e :: es) t)
    (hdb : (x == ("__debug__" : Str)) = false := by decide) (he : starEach (e :: es) X.env = (false, eval e X.env) :: starEach es X.env := by rfl) (hpl : (backTo pos (starEach es X.env)).any (·.1) = false := by rfl) :
    PE X (.Call (.Name x p) (e :: es) [] pos) (tCall sp [] E0 t) := by
  obtain ⟨f, fd, F, b, kp, m⟩ := C.ex
  exact pe_call F hr hg m kp b .nil pass0 ha hdb he hpl
theorem pe_cal0 {k : Nat} {x : Str} {ps : List Str} {sp : Sp} {p pos : Pos} (C : Callee X.prog X.w X.K X.mg X.base k x ps sp) (hr : Room k X.A) (hg : Gl X x)
    (hdb : (x == ("__debug__" : Str)) = false := by decide) : PE X (.Call (.Name x p) [] [] pos) (tCall sp [] E0 tNil) := by
  obtain ⟨f, fd, F, b, kp, m⟩ := C.ex
  exact pe_call0 F hr hg m kp b .nil pass0 hdb
end
/-! ### what the text asks of the top -/
structure Txt (K : PySem.W.Frag) (mg : Str → Option Value) : Prop where
  list : mg "list" = none
  all : mg "all" = none
  any : mg "any" = none
  len : mg "len" = none
  range : mg "range" = none
  int : mg "int" = none
  sorted : mg "sorted" = none
  set : mg "set" = none
  steps : ∃ a, mg "STEPS" = some (.ref a) ∧ ∀ H, SqT K H a (stepNames.map V.str)

/-! ### a program in the heap -/
def kindP : Prog → Str
  | .st s => s.nm
  | .rest => "rest"
  | .any _ => "any"
  | .row _ => "row"
  | .alt _ => "either"
section
variable {K : PySem.W.Frag} {H : Hp} {v : V}
theorem prog_st {s : Step} (h : Dp K H v (progD (.st s))) : ∃ a, v = .ref a ∧ SqT K H a (stepV s) := by
  unfold progD at h
  exact stepD_inv h
theorem prog_rest (h : Dp K H v (progD .rest)) : ∃ a, v = .ref a ∧ SqT K H a [.str "rest"] := by
  unfold progD at h
  obtain ⟨a, xs, rfl, h1, h2⟩ := tup_inv h
  obtain ⟨_, r, rfl, q1, h2⟩ := cons_inv h2
  obtain rfl := nil_inv h2
  rw [str_inv q1] at h1
  exact ⟨a, rfl, h1⟩
theorem prog_any {p : Prog} (h : Dp K H v (progD (.any p))) : ∃ a x, v = .ref a ∧ SqT K H a [.str "any", x] ∧ Dp K H x (progD p) := by
  unfold progD at h
  obtain ⟨a, xs, rfl, h1, h2⟩ := tup_inv h
  obtain ⟨_, _, rfl, q1, h2⟩ := cons_inv h2
  obtain ⟨x, r, rfl, q2, h2⟩ := cons_inv h2
  obtain rfl := nil_inv h2
  rw [str_inv q1] at h1
  exact ⟨a, x, rfl, h1, q2⟩
theorem prog_list {kn : Str} {ps : List Prog} (h : Dp K H v (.tuple [.str kn, .list (progsD ps)])) : ∃ a l xs, v = .ref a ∧ SqT K H a [.str kn, .ref l] ∧ SqL K H l xs ∧ DpAll K H xs (ps.map progD) := by
  obtain ⟨a, xs, rfl, h1, h2⟩ := tup_inv h
  obtain ⟨_, _, rfl, q1, h2⟩ := cons_inv h2
  obtain ⟨x, r, rfl, q2, h5⟩ := cons_inv h2
  obtain ⟨l, ys, rfl, h3, h4⟩ := list_inv q2
  obtain rfl := nil_inv h5
  rw [str_inv q1] at h1
  rw [progsD_map] at h4
  exact ⟨a, l, ys, rfl, h1, h3, h4⟩
/-- a row or an either, told alike -/
structure Many (K : PySem.W.Frag) (H : Hp) (v : V) (p : Prog) (kn : Str) (ps : List Prog) (a l : Addr) (xs : List V) : Prop where
  k : kn = "row" ∧ p = .row ps ∨ kn = "either" ∧ p = .alt ps
  v : v = .ref a
  t : SqT K H a [.str kn, .ref l]
  l : SqL K H l xs
  d : DpAll K H xs (ps.map progD)
theorem prog_cases {p : Prog} (h : Dp K H v (progD p)) : (∃ s a, p = .st s ∧ v = .ref a ∧ SqT K H a (stepV s)) ∨ (∃ a, p = .rest ∧ v = .ref a ∧ SqT K H a [.str "rest"]) ∨
    (∃ p' a x, p = .any p' ∧ v = .ref a ∧ SqT K H a [.str "any", x] ∧ Dp K H x (progD p')) ∨ ∃ kn ps a l xs, Many K H v p kn ps a l xs := by
  cases p with
  | st s => obtain ⟨a, h1, h2⟩ := prog_st h; exact .inl ⟨s, a, rfl, h1, h2⟩
  | rest => obtain ⟨a, h1, h2⟩ := prog_rest h; exact .inr (.inl ⟨a, rfl, h1, h2⟩)
  | any p => obtain ⟨a, x, h1, h2, h3⟩ := prog_any h; exact .inr (.inr (.inl ⟨p, a, x, rfl, h1, h2, h3⟩))
  | row ps =>
    unfold progD at h
    obtain ⟨a, l, xs, h1, h2, h3, h4⟩ := prog_list h
    exact .inr (.inr (.inr ⟨"row", ps, a, l, xs, .inl ⟨rfl, rfl⟩, h1, h2, h3, h4⟩))
  | alt ps =>
    unfold progD at h
    obtain ⟨a, l, xs, h1, h2, h3, h4⟩ := prog_list h
    exact .inr (.inr (.inr ⟨"either", ps, a, l, xs, .inr ⟨rfl, rfl⟩, h1, h2, h3, h4⟩))
section
variable {p : Prog} {kn : Str} {ps : List Prog} {a l : Addr} {xs : List V}
theorem Many.steps (m : Many K H v p kn ps a l xs) : stepsP p = stepsL ps := by rcases m.k with ⟨_, rfl⟩ | ⟨_, rfl⟩ <;> simp only [stepsP]
theorem Many.depth (m : Many K H v p kn ps a l xs) : depthP p = depthL ps + 1 := by rcases m.k with ⟨_, rfl⟩ | ⟨_, rfl⟩ <;> simp only [depthP]
theorem Many.nodes (m : Many K H v p kn ps a l xs) : nodesP p = nodesL ps + 1 := by rcases m.k with ⟨_, rfl⟩ | ⟨_, rfl⟩ <;> simp only [nodesP]
theorem Many.noStep (m : Many K H v p kn ps a l xs) : kn ∉ stepNames := by rcases m.k with ⟨rfl, _⟩ | ⟨rfl, _⟩ <;> decide +kernel
theorem Many.noAny (m : Many K H v p kn ps a l xs) : ¬ (V.str kn = V.str "any") := by rcases m.k with ⟨rfl, _⟩ | ⟨rfl, _⟩ <;> decide +kernel
theorem Many.noRest (m : Many K H v p kn ps a l xs) : ¬ (V.str kn = V.str "rest") := by rcases m.k with ⟨rfl, _⟩ | ⟨rfl, _⟩ <;> decide +kernel
theorem Many.isMany (m : Many K H v p kn ps a l xs) : kn ∈ (["row", "either"] : List Str) := by rcases m.k with ⟨rfl, _⟩ | ⟨rfl, _⟩ <;> decide +kernel
end
end
theorem at0 {x : V} {xs : List V} : atI (x :: xs) (0 : Int) = some x := atI_nat (j := 0) rfl
theorem at1 {x y : V} {xs : List V} : atI (x :: y :: xs) (1 : Int) = some y := atI_nat (j := 1) rfl
theorem stepsL_take_succ {α : Type} : ∀ (ps : List (Pg α)) (i : Nat) (p : Pg α), ps[i]? = some p → stepsL (ps.take (i + 1)) = stepsL (ps.take i) ++ stepsP p
  | [], i, p, h => by simp at h
  | q :: ps, 0, p, h => by
    simp at h; subst h
    simp [stepsL]
  | q :: ps, i + 1, p, h => by
    have ih := stepsL_take_succ ps i p (by simpa using h)
    simp only [List.take_succ_cons, stepsL, ih, List.append_assoc]
theorem stepsL_take_le {α : Type} : ∀ (ps : List (Pg α)) (i : Nat), (stepsL (ps.take i)).length ≤ (stepsL ps).length
  | [], i => by simp
  | q :: ps, 0 => by simp [stepsL]
  | q :: ps, i + 1 => by
    have ih := stepsL_take_le ps i
    simp only [List.take_succ_cons, stepsL, List.length_append]
    omega
mutual
theorem steps_le {α : Type} : ∀ p : Pg α, (stepsP p).length ≤ nodesP p
  | .st _ => Nat.le_refl _
  | .rest => Nat.zero_le _
  | .any p => by have := steps_le p; simp only [stepsP, nodesP]; omega
  | .row ps => by have := stepsL_le ps; simp only [stepsP, nodesP]; omega
  | .alt ps => by have := stepsL_le ps; simp only [stepsP, nodesP]; omega
theorem stepsL_le {α : Type} : ∀ ps : List (Pg α), (stepsL ps).length ≤ nodesL ps
  | [] => Nat.le_refl _
  | p :: ps => by
    have h1 := steps_le p
    have h2 := stepsL_le ps
    simp only [stepsL, nodesL, List.length_append]
    omega
end
theorem nodesL_mem {α : Type} : ∀ {ps : List (Pg α)} {p : Pg α}, p ∈ ps → nodesP p ≤ nodesL ps
  | q :: ps, p, h => by
    simp only [nodesL]
    rcases List.mem_cons.mp h with rfl | h
    · omega
    · have := nodesL_mem h; omega
theorem depthL_mem {α : Type} : ∀ {ps : List (Pg α)} {p : Pg α}, p ∈ ps → depthP p ≤ depthL ps
  | q :: ps, p, h => by
    simp only [depthL]
    rcases List.mem_cons.mp h with rfl | h
    · omega
    · have := depthL_mem h; omega
theorem line60 {n : Nat} (h : n ≤ 1000000) : n < sizeLine := Nat.lt_of_le_of_lt h (by decide)
theorem line60' {n : Nat} (h : n ≤ 1000000) : n ≤ sizeLine := Nat.le_of_lt (line60 h)

/-! ### steps_of -/
def spSteps (K : PySem.W.Frag) (n : Nat) : Sp := fun vs H Q _ => ∃ (Z : List Addr) (v : V) (p : Prog), vs = [v] ∧ Dom Z H ∧ Dp K (hid Z H) v (progD p) ∧ depthP p ≤ n ∧ nodesP p ≤ 1000 ∧
  ∀ H' r, Same H H' → Dp K (hid Z H') r (wordD (stepsP p)) → Q r H'
theorem kind_ne {s : Step} {x : Str} (h : x ∉ stepNames) : s.nm ≠ x := fun e => h (e ▸ s.ok)
section
variable {P : Program} {w : World} {K : PySem.W.Frag} {mg : Str → Option Value} {base : Heap} {f : Addr} {fd : FuncData}
theorem scStepsOf : FnScope ["program", "kind", "found", "part"] ["program"] (defScope sStepsOf) := ⟨rfl, rfl, rfl, by decide +kernel, rfl, by decide +kernel, by decide +kernel⟩
theorem ok_stepsOf {n : Nat} (F : Fun K "steps_of" "steps_of" sStepsOf f fd) (T : Txt K mg) (C : Callee P w K mg base n "steps_of" ["program"] (spSteps K n)) : FnOk P w K mg base CX0 (n + 1) f fd ["program"] (spSteps K (n + 1)) := by
  obtain ⟨aS, mS, tS⟩ := T.steps
  refine F.ok scStepsOf (fun vs H Q E h => ?_) (fun cdv A outer s H vs Q E hr h => ?_)
  · obtain ⟨Z, v, p, rfl, _⟩ := h
    rfl
  obtain ⟨Z, v, p, rfl, hZ, hp, hd, hn, q⟩ := h
  refine ⟨_, pss_cons (ps_set (i := 1) scStepsOf.nd rfl (.inl rfl) (pe_ix ix_tup (pv 0) pe_int (fun _ _ => rfl)))
    (pss_cons (ps_if (pt_cmpR op_in_seq (pv 1) (pe_glob (v := .ref aS) rfl mS rfl) rfl) (pss_one (ps_ret (pe_lst (pa_cons (pv 0) pa_nil)))) pss_nil)
    (pss_cons (ps_if (pt_cmpR op_eq (pv 1) pe_str (nomark _)) (pss_one (ps_ret (pe_cal C hr (by rfl) (pa_cons (pe_ix ix_tup (pv 0) pe_int (fun _ _ => rfl)) pa_nil)))) pss_nil)
    (pss_cons (ps_set (i := 2) scStepsOf.nd rfl (.inl rfl) (pe_lst pa_nil))
    (pss_cons (ps_if (pt_cmpR op_in_seq (pv 1) (pe_tup (pa_cons pe_str (pa_cons pe_str pa_nil))) rfl)
      (pss_one (ps_for PassesOwn.never rfl (pi_list (pe_ix ix_tup (pv 0) pe_int (fun _ _ => rfl))) (pg_name (i := 3) scStepsOf.nd rfl (.inl rfl))
        (pss_one (ps_set (i := 2) scStepsOf.nd rfl (.inl rfl) (pe_op op_catL (pv 2) (pe_cal C hr (by rfl) (pa_cons (pv 3) pa_nil))))))) pss_nil)
    (pss_one (ps_ret (pv 2))))))), ?_⟩
  rcases prog_cases hp with ⟨s1, a, rfl, rfl, hS⟩ | ⟨a, rfl, rfl, hS⟩ | ⟨p', a, x, rfl, rfl, hS, hx⟩ | ⟨kn, ps, a, l, xs, M⟩
  · -- a step
    refine ⟨_, rfl, a, _, _, _, rfl, rfl, seqT hid_le hS, at0, ?_⟩
    refine ⟨_, rfl, aS, _, rfl, .inr (tS _), rfl, rfl, _, rfl, ?_⟩
    dsimp only
    rw [if_neg Bool.false_ne_true, inV_strs, decide_eq_true s1.ok]
    refine iteT ?_
    refine ⟨_, rfl, (by show 1 ≤ sizeLine; decide), fun p np => ?_⟩
    exact q _ _ (same_new np) (dp_new hZ np (all_one (stepD_of hS)))
  · -- rest
    refine ⟨_, rfl, a, _, _, _, rfl, rfl, seqT hid_le hS, at0, ?_⟩
    refine ⟨_, rfl, aS, _, rfl, .inr (tS _), rfl, rfl, _, rfl, ?_⟩
    dsimp only
    rw [if_neg Bool.false_ne_true, inV_strs, decide_eq_false (show ¬ ("rest" : Str) ∈ stepNames by decide +kernel)]
    refine iteF ?_
    refine ⟨_, rfl, rfl, _, rfl, ite2 (fun c => absurd (of_decide_eq_true c) (by decide +kernel)) (fun _ => ?_)⟩
    refine ⟨(by show 0 ≤ sizeLine; decide), fun p np => ?_⟩
    have s1 := same_new (o := .lst []) np
    refine ⟨_, rfl, (by show 2 ≤ sizeLine; decide), fun t nt => ?_⟩
    have s2 := same_new (o := .tup [.str "row", .str "either"]) nt
    refine ⟨t, _, rfl, .inr (.of upd_same), rfl, rfl, _, rfl, ?_⟩
    refine ite2 (fun c => absurd c (by decide +kernel)) (fun _ => ?_)
    exact ⟨_, rfl, q _ _ (s1.trans s2) (Same.dp (same_hid s2) (dp_new hZ np .nil))⟩
  · -- any
    refine ⟨_, rfl, a, _, _, _, rfl, rfl, seqT hid_le hS, at0, ?_⟩
    refine ⟨_, rfl, aS, _, rfl, .inr (tS _), rfl, rfl, _, rfl, ?_⟩
    dsimp only
    rw [if_neg Bool.false_ne_true, inV_strs, decide_eq_false (show ¬ ("any" : Str) ∈ stepNames by decide +kernel)]
    refine iteF ?_
    refine ⟨_, rfl, rfl, _, rfl, ite2 (fun _ => ?_) (fun c => absurd (decide_eq_true rfl) c)⟩
    refine ⟨_, rfl, a, _, _, _, rfl, rfl, seqT hid_le hS, at1, ?_⟩
    simp only [depthP] at hd
    simp only [nodesP] at hn
    exact ⟨Z, x, p', rfl, hZ, hx, by omega, by omega, q⟩
  · -- row, either
    rw [M.depth] at hd
    rw [M.nodes] at hn
    rw [M.steps] at q
    refine ⟨_, rfl, a, _, _, _, M.v, rfl, seqT hid_le M.t, at0, ?_⟩
    refine ⟨_, rfl, aS, _, rfl, .inr (tS _), rfl, rfl, _, rfl, ?_⟩
    dsimp only
    rw [if_neg Bool.false_ne_true, inV_strs, decide_eq_false M.noStep]
    refine iteF ?_
    refine ⟨_, rfl, rfl, _, rfl, ite2 (fun c => absurd (of_decide_eq_true c) M.noAny) (fun _ => ?_)⟩
    refine ⟨(by show 0 ≤ sizeLine; decide), fun fo nf => ?_⟩
    have s1 := same_new (o := .lst []) nf
    refine ⟨_, rfl, (by show 2 ≤ sizeLine; decide), fun t nt => ?_⟩
    have s2 := same_new (o := .tup [.str "row", .str "either"]) nt
    refine ⟨t, [.str "row", .str "either"], rfl, .inr (.of upd_same), rfl, rfl, _, rfl, ?_⟩
    rw [show inV (V.str kn) [.str "row", .str "either"] = true from (inV_strs kn ["row", "either"]).trans (decide_eq_true M.isMany)]
    refine iteT ?_
    have s12 := s1.trans s2
    refine ⟨_, rfl, a, _, _, _, M.v, rfl, seqT (hid_le.trans s12) M.t, at1, l, rfl, ⟨xs, (hid_le.trans s12).seq M.l⟩, ?_⟩
    refine for_list (K := K) (a := l) (xs := xs) (fun i σ H2 => ∃ x3 r, σ = [some v, some (.str kn), some r, x3] ∧ Same H H2 ∧ Dp K (hid Z H2) r (wordD (stepsL (ps.take i)))) ?_ ?_ ?_ ?_
    · exact ⟨none, .ref fo, rfl, s12, Same.dp (same_hid s2) (dp_new hZ nf .nil)⟩
    · rintro i σ H2 _ ⟨_, _, _, s3, _⟩
      exact (hid_le.trans s3).seq M.l
    · rintro i x σ H2 hi ⟨x3, r, rfl, s3, hr3⟩
      obtain ⟨d, hd1, hd2⟩ := all_get M.d hi
      rw [List.getElem?_map] at hd1
      obtain ⟨p1, hp1, rfl⟩ := Option.map_eq_some_iff.mp hd1
      have mem : p1 ∈ ps := List.mem_of_getElem? hp1
      have d1 := depthL_mem mem
      have n1 := nodesL_mem mem
      refine ⟨r, rfl, x, rfl, Z, x, p1, rfl, hZ.same s3, Same.dp (same_hid s3) hd2, by omega, by omega, fun H4 r4 s4 hr4 => ?_⟩
      obtain ⟨b1, ys1, rfl, hl1, ha1⟩ := list_inv hr3
      obtain ⟨b2, ys2, rfl, hl2, ha2⟩ := list_inv hr4
      have z1 := all_len ha1
      have z2 := all_len ha2
      have z3 := stepsL_take_le ps i
      have z4 := stepsL_le ps
      have z5 := steps_le p1
      rw [List.length_map] at z1 z2
      refine ⟨b1, b2, ys1, ys2, rfl, rfl, (Same.trans (same_hid s4) hid_le).seq hl1, hid_le.seq hl2, line60' (by omega), fun c nc => ?_⟩
      have s5 := same_new (o := .lst (ys1 ++ ys2)) nc
      refine ⟨some x, .ref c, rfl, s3.trans (s4.trans s5), ?_⟩
      rw [stepsL_take_succ ps i p1 hp1]
      unfold wordD
      rw [List.map_append]
      exact dp_new ((hZ.same s3).same s4) nc (all_app (Same.all (same_hid s4) ha1) ha2)
    · rintro σ H2 ⟨x3, r, rfl, s3, hr3⟩
      refine ⟨r, rfl, q _ _ s3 ?_⟩
      have e : ps.take xs.length = ps := List.take_of_length_le (by have := all_len M.d; rw [List.length_map] at this; omega)
      rw [e] at hr3
      exact hr3
end
end Sk

set_option Elab.async false
set_option linter.all false
set_option maxRecDepth 100000
set_option maxHeartbeats 4000000
/-! Skewer, the walk: _law_steps, the defs that draw numbers. -/
namespace Sk
open PySem L2
section
variable {P : Program} {w : World} {K : PySem.W.Frag} {mg : Str → Option Value} {base : Heap} {f : Addr} {fd : FuncData}
theorem scSteps : FnScope ["_law_program", "_law_kind", "_law_found", "_law_part_here"] ["_law_program"] (defScope sSteps) := ⟨rfl, rfl, rfl, by decide +kernel, rfl, by decide +kernel, by decide +kernel⟩
theorem ok_steps {n : Nat} (F : Fun K "_law_steps" "_law_steps" sSteps f fd) (C : Callee P w K mg base n "_law_steps" ["_law_program"] (spSteps K n)) : FnOk P w K mg base CX0 (n + 1) f fd ["_law_program"] (spSteps K (n + 1)) := by
  refine F.ok scSteps (fun vs H Q E h => ?_) (fun cdv A outer s H vs Q E hr h => ?_)
  · obtain ⟨Z, v, p, rfl, _⟩ := h
    rfl
  obtain ⟨Z, v, p, rfl, hZ, hp, hd, hn, q⟩ := h
  refine ⟨_, pss_cons (ps_set (i := 1) scSteps.nd rfl (.inl rfl) (pe_ix ix_tup (pv 0) pe_int (fun _ _ => rfl)))
    (pss_cons (ps_if (pt_cmpR op_in_seq (pv 1) (pe_lst (pa_cons pe_str (pa_cons pe_str pa_nil))) rfl)
      (pss_cons (ps_set (i := 2) scSteps.nd rfl (.inl rfl) (pe_lst pa_nil))
      (pss_cons (ps_for PassesOwn.never rfl (pi_list (pe_ix ix_tup (pv 0) pe_int (fun _ _ => rfl))) (pg_name (i := 3) scSteps.nd rfl (.inl rfl))
        (pss_one (ps_set (i := 2) scSteps.nd rfl (.inl rfl) (pe_op op_catL (pv 2) (pe_cal C hr (by rfl) (pa_cons (pv 3) pa_nil))))))
      (pss_one (ps_ret (pv 2))))) pss_nil)
    (pss_cons (ps_if (pt_cmpR op_eq (pv 1) pe_str (nomark _)) (pss_one (ps_ret (pe_cal C hr (by rfl) (pa_cons (pe_ix ix_tup (pv 0) pe_int (fun _ _ => rfl)) pa_nil)))) pss_nil)
    (pss_cons (ps_if (pt_cmpR op_eq (pv 1) pe_str (nomark _)) (pss_one (ps_ret (pe_lst pa_nil))) pss_nil)
    (pss_one (ps_ret (pe_lst (pa_cons (pv 0) pa_nil))))))), ?_⟩
  rcases prog_cases hp with ⟨s1, a, rfl, rfl, hS⟩ | ⟨a, rfl, rfl, hS⟩ | ⟨p', a, x, rfl, rfl, hS, hx⟩ | ⟨kn, ps, a, l, xs, M⟩
  · -- a step
    refine ⟨_, rfl, a, _, _, _, rfl, rfl, seqT hid_le hS, at0, ?_⟩
    refine ⟨_, rfl, (by show 2 ≤ sizeLine; decide), fun t nt => ?_⟩
    have s0 := same_new (o := .lst [.str "row", .str "either"]) nt
    refine ⟨t, [.str "row", .str "either"], rfl, .inl (.of upd_same), rfl, rfl, _, rfl, ?_⟩
    rw [show inV (V.str s1.nm) [.str "row", .str "either"] = false from (inV_strs s1.nm ["row", "either"]).trans (decide_eq_false fun h => by
      have := s1.ok
      simp only [List.mem_cons, List.not_mem_nil, or_false] at h
      rcases h with h | h <;> rw [h] at this <;> exact absurd this (by decide +kernel))]
    refine iteF ?_
    refine ⟨_, rfl, rfl, _, rfl, ite2 (fun c => absurd (of_decide_eq_true c) (fun e => kind_ne (s := s1) (x := "any") (by decide +kernel) (V.str.inj e))) (fun _ => ?_)⟩
    refine ⟨_, rfl, rfl, _, rfl, ite2 (fun c => absurd (of_decide_eq_true c) (fun e => kind_ne (s := s1) (x := "rest") (by decide +kernel) (V.str.inj e))) (fun _ => ?_)⟩
    refine ⟨_, rfl, (by show 1 ≤ sizeLine; decide), fun p np => ?_⟩
    exact q _ _ (s0.trans (same_new np)) (dp_new (hZ.same s0) np (all_one (Same.dp (same_hid s0) (stepD_of hS))))
  · -- rest
    refine ⟨_, rfl, a, _, _, _, rfl, rfl, seqT hid_le hS, at0, ?_⟩
    refine ⟨_, rfl, (by show 2 ≤ sizeLine; decide), fun t nt => ?_⟩
    have s0 := same_new (o := .lst [.str "row", .str "either"]) nt
    refine ⟨t, [.str "row", .str "either"], rfl, .inl (.of upd_same), rfl, rfl, _, rfl, ?_⟩
    refine ite2 (fun c => absurd c (by decide +kernel)) (fun _ => ?_)
    refine ⟨_, rfl, rfl, _, rfl, ite2 (fun c => absurd (of_decide_eq_true c) (by decide +kernel)) (fun _ => ?_)⟩
    refine ⟨_, rfl, rfl, _, rfl, ite2 (fun _ => ?_) (fun c => absurd (decide_eq_true rfl) c)⟩
    refine ⟨(by show 0 ≤ sizeLine; decide), fun p np => ?_⟩
    exact q _ _ (s0.trans (same_new np)) (dp_new (hZ.same s0) np .nil)
  · -- any
    refine ⟨_, rfl, a, _, _, _, rfl, rfl, seqT hid_le hS, at0, ?_⟩
    refine ⟨_, rfl, (by show 2 ≤ sizeLine; decide), fun t nt => ?_⟩
    have s0 := same_new (o := .lst [.str "row", .str "either"]) nt
    refine ⟨t, [.str "row", .str "either"], rfl, .inl (.of upd_same), rfl, rfl, _, rfl, ?_⟩
    refine ite2 (fun c => absurd c (by decide +kernel)) (fun _ => ?_)
    refine ⟨_, rfl, rfl, _, rfl, ite2 (fun _ => ?_) (fun c => absurd (decide_eq_true rfl) c)⟩
    refine ⟨_, rfl, a, _, _, _, rfl, rfl, seqT (hid_le.trans s0) hS, at1, ?_⟩
    simp only [depthP] at hd
    simp only [nodesP] at hn
    exact ⟨Z, x, p', rfl, hZ.same s0, Same.dp (same_hid s0) hx, by omega, by omega, fun H' r e => q H' r (s0.trans e)⟩
  · -- row, either
    rw [M.depth] at hd
    rw [M.nodes] at hn
    rw [M.steps] at q
    refine ⟨_, rfl, a, _, _, _, M.v, rfl, seqT hid_le M.t, at0, ?_⟩
    refine ⟨_, rfl, (by show 2 ≤ sizeLine; decide), fun t nt => ?_⟩
    have s1 := same_new (o := .lst [.str "row", .str "either"]) nt
    refine ⟨t, [.str "row", .str "either"], rfl, .inl (.of upd_same), rfl, rfl, _, rfl, ?_⟩
    rw [show inV (V.str kn) [.str "row", .str "either"] = true from (inV_strs kn ["row", "either"]).trans (decide_eq_true M.isMany)]
    refine iteT ?_
    refine ⟨(by show 0 ≤ sizeLine; decide), fun fo nf => ?_⟩
    have s2 := same_new (o := .lst []) nf
    have s12 := s1.trans s2
    refine ⟨_, rfl, a, _, _, _, M.v, rfl, seqT (hid_le.trans s12) M.t, at1, l, rfl, ⟨xs, (hid_le.trans s12).seq M.l⟩, ?_⟩
    refine for_list (K := K) (a := l) (xs := xs) (fun i σ H2 => ∃ x3 r, σ = [some v, some (.str kn), some r, x3] ∧ Same H H2 ∧ Dp K (hid Z H2) r (wordD (stepsL (ps.take i)))) ?_ ?_ ?_ ?_
    · exact ⟨none, .ref fo, rfl, s12, dp_new (hZ.same s1) nf .nil⟩
    · rintro i σ H2 _ ⟨_, _, _, s3, _⟩
      exact (hid_le.trans s3).seq M.l
    · rintro i x σ H2 hi ⟨x3, r, rfl, s3, hr3⟩
      obtain ⟨d, hd1, hd2⟩ := all_get M.d hi
      rw [List.getElem?_map] at hd1
      obtain ⟨p1, hp1, rfl⟩ := Option.map_eq_some_iff.mp hd1
      have mem : p1 ∈ ps := List.mem_of_getElem? hp1
      have d1 := depthL_mem mem
      have n1 := nodesL_mem mem
      refine ⟨r, rfl, x, rfl, Z, x, p1, rfl, hZ.same s3, Same.dp (same_hid s3) hd2, by omega, by omega, fun H4 r4 s4 hr4 => ?_⟩
      obtain ⟨b1, ys1, rfl, hl1, ha1⟩ := list_inv hr3
      obtain ⟨b2, ys2, rfl, hl2, ha2⟩ := list_inv hr4
      have z1 := all_len ha1
      have z2 := all_len ha2
      have z3 := stepsL_take_le ps i
      have z4 := stepsL_le ps
      have z5 := steps_le p1
      rw [List.length_map] at z1 z2
      refine ⟨b1, b2, ys1, ys2, rfl, rfl, (Same.trans (same_hid s4) hid_le).seq hl1, hid_le.seq hl2, line60' (by omega), fun c nc => ?_⟩
      have s5 := same_new (o := .lst (ys1 ++ ys2)) nc
      refine ⟨some x, .ref c, rfl, s3.trans (s4.trans s5), ?_⟩
      rw [stepsL_take_succ ps i p1 hp1]
      unfold wordD
      rw [List.map_append]
      exact dp_new ((hZ.same s3).same s4) nc (all_app (Same.all (same_hid s4) ha1) ha2)
    · rintro σ H2 ⟨x3, r, rfl, s3, hr3⟩
      refine ⟨r, rfl, q _ _ s3 ?_⟩
      have e : ps.take xs.length = ps := List.take_of_length_le (by have := all_len M.d; rw [List.length_map] at this; omega)
      rw [e] at hr3
      exact hr3

/-! ### _law_mix -/
def spMix : Sp := fun vs H Q _ => ∃ (n k : Int), vs = [.int n, .int k] ∧ -1000 ≤ k ∧ k ≤ 1000 ∧ ∀ r : Int, Q (.int r) H
theorem scMix : FnScope ["_law_number", "_law_k"] ["_law_number", "_law_k"] (defScope sMix) := ⟨rfl, rfl, rfl, by decide +kernel, rfl, by decide +kernel, by decide +kernel⟩
theorem ok_mix {n : Nat} (F : Fun K "_law_mix" "_law_mix" sMix f fd) (T : Txt K mg) : FnOk P w K mg base CX0 (n + 1) f fd ["_law_number", "_law_k"] spMix := by
  refine F.ok scMix (fun vs H Q E h => ?_) (fun cdv A outer s H vs Q E hr h => ?_)
  · obtain ⟨n, k, rfl, _⟩ := h
    rfl
  obtain ⟨n, k, rfl, h1, h2, q⟩ := h
  refine ⟨_, pss_one (ps_ret (pe_op op_mod (pe_op op_mul (pe_op op_mod (pe_callTy call_int1 (by rfl) T.int (by decide +kernel) (pa_cons
    (pe_op op_mul (pe_op op_add (pe_op op_add (pe_op op_mod (pe_callTy call_int1 (by rfl) T.int (by decide +kernel) (pa_cons (pv 0) pa_nil)) pe_int) (pe_op op_mul pe_int (pv 1))) pe_int) pe_int) pa_nil)) pe_int) pe_int) pe_int)), ?_⟩
  refine ⟨_, rfl, .inl ⟨n, rfl, ?_⟩⟩
  refine ⟨n, 1000003, rfl, rfl, (by show (0 : Int) < 1000003; decide), _, rfl, 7919, k, rfl, rfl, .inl (by decide), _, _, rfl, rfl, _, _, rfl, rfl, _, _, rfl, rfl, .inl ?_, ?_⟩
  · have := Int.emod_nonneg n (show (1000003 : Int) ≠ 0 by decide)
    have := Int.emod_lt_of_pos n (show (0 : Int) < 1000003 by decide)
    exact ⟨by omega, by omega⟩
  refine .inl ⟨_, rfl, _, _, rfl, rfl, (by show (0 : Int) < 1000033; decide), _, _, rfl, rfl, .inl ?_, _, _, rfl, rfl, (by show (0 : Int) < 998244353; decide), q _⟩
  generalize (n % 1000003 + 7919 * k + 1) * 48271 = z
  have := Int.emod_nonneg z (show (1000033 : Int) ≠ 0 by decide)
  have := Int.emod_lt_of_pos z (show (0 : Int) < 1000033 by decide)
  exact ⟨by omega, by omega⟩
end
end Sk

set_option Elab.async false
set_option linter.all false
set_option maxRecDepth 100000
set_option maxHeartbeats 4000000
/-! Skewer, the walk: _law_numbers, _law_take, _law_step. -/
namespace Sk
open PySem L2
theorem cut_ints (ns : List Int) (lo hi : Option Int) : ∃ ms : List Int, cutV (ns.map V.int) lo hi = ms.map V.int ∧ ms.length ≤ ns.length := by
  refine ⟨(ns.drop (HT.sIx (ns.map V.int).length 0 lo)).take (HT.sIx (ns.map V.int).length (ns.map V.int).length hi - HT.sIx (ns.map V.int).length 0 lo), ?_, ?_⟩
  · unfold cutV
    rw [List.map_take, List.map_drop]
  · rw [List.length_take, List.length_drop]
    omega
theorem same_put {H H' : Hp} {R : Addr} {o : HO} (h : Same H H') (n : H R = none) : Same H (upd H' R o) := fun b u e => by
  rw [upd_ne (ne_of_none e n)]
  exact h _ _ e
/-- a list of ints that grows -/
def RowAt (H : Hp) (R : Addr) (m : Nat) : Prop := ∃ ms : List Int, H R = some (.lst (ms.map V.int)) ∧ ms.length ≤ m
theorem RowAt.more {H : Hp} {R : Addr} {m m' : Nat} (h : RowAt H R m) (l : m ≤ m') : RowAt H R m' := let ⟨ms, e, z⟩ := h; ⟨ms, e, Nat.le_trans z l⟩
theorem RowAt.dom {H : Hp} {R : Addr} {m : Nat} (h : RowAt H R m) : H R ≠ none := by
  obtain ⟨ms, e, _⟩ := h
  rw [e]
  exact fun z => (nomatch z)
theorem int_at {ns : List Int} {i : Nat} {x : V} (h : (ns.map V.int)[i]? = some x) : ∃ z : Int, x = .int z ∧ ns[i]? = some z := by
  rw [List.getElem?_map] at h
  obtain ⟨z, hz, e⟩ := Option.map_eq_some_iff.mp h
  exact ⟨z, e.symm, hz⟩
def spNumbers (K : PySem.W.Frag) : Sp := fun vs H Q _ => ∃ (a : Addr) (ns : List Int), vs = [.ref a, .int 130] ∧ SqL K H a (ns.map V.int) ∧ ns.length ≤ 63 ∧
  ∀ (R : Addr) (H' : Hp), Same H H' → H R = none → RowAt H' R 10000 → Q (.ref R) H'
section
variable {P : Program} {w : World} {K : PySem.W.Frag} {mg : Str → Option Value} {base : Heap} {f : Addr} {fd : FuncData}
theorem scNumbers : FnScope ["_law_script", "_law_count", "_law_row", "_law_base", "_law_cell", "_law_rest", "_law_k"] ["_law_script", "_law_count"] (defScope sNumbers) := ⟨rfl, rfl, rfl, by decide +kernel, rfl, by decide +kernel, by decide +kernel⟩
theorem ok_numbers {n : Nat} (F : Fun K "_law_numbers" "_law_numbers" sNumbers f fd) (T : Txt K mg) (C : Callee P w K mg base n "_law_mix" ["_law_number", "_law_k"] spMix) : FnOk P w K mg base CX0 (n + 1) f fd ["_law_script", "_law_count"] (spNumbers K) := by
  refine F.ok scNumbers (fun vs H Q E h => ?_) (fun cdv A outer s H vs Q E hr h => ?_)
  · obtain ⟨a, ns, rfl, _⟩ := h
    rfl
  obtain ⟨a, ns, rfl, hS, hl, q⟩ := h
  refine ⟨_, pss_cons (ps_set (i := 2) scNumbers.nd rfl (.inl rfl) (pe_lst pa_nil))
    (pss_cons (ps_set (i := 3) scNumbers.nd rfl (.inl rfl) pe_int)
    (pss_cons (ps_for PassesOwn.never rfl (pi_list (pe_slice sl_list (pv 0) po_none (po_some pe_int))) (pg_name (i := 4) scNumbers.nd rfl (.inl rfl))
      (pss_cons (ps_set (i := 3) scNumbers.nd rfl (.inl rfl) (pe_op op_add (pv 3) (pv 4)))
      (pss_one (ps_if (pt_cmpR op_ge (pv 4) pe_int (nomark _))
        (pss_cons (ps_set (i := 5) scNumbers.nd rfl (.inl rfl) (pv 4))
        (pss_one (ps_for PassesOwn.never rfl (pi_range1 (by rfl) T.range (pa_cons pe_int pa_nil)) (pg_name (i := 6) scNumbers.nd rfl (.inl rfl))
          (pss_cons (ps_expr (pe_bm PySem.F.plainAttrs_list PySem.F.slot_list_append PySem.F.type_list_append mt_append (pv 2) (pa_cons (pe_op op_mod (pe_callTy call_int1 (by rfl) T.int (by decide +kernel) (pa_cons (pv 5) pa_nil)) pe_int) pa_nil)))
          (pss_cons (ps_set (i := 5) scNumbers.nd rfl (.inl rfl) (pe_op op_fdiv (pv 5) pe_int))
          (pss_one (ps_if (pt_cmpR op_eq (pv 5) pe_int (nomark _)) (pss_one ps_break) pss_nil)))))))
        (pss_one (ps_expr (pe_bm PySem.F.plainAttrs_list PySem.F.slot_list_append PySem.F.type_list_append mt_append (pv 2) (pa_cons (pe_cal C hr (by rfl) (pa_cons (pe_cal C hr (by rfl) (pa_cons (pv 4) (pa_cons pe_int pa_nil))) (pa_cons pe_int pa_nil))) pa_nil))))))))
    (pss_cons (ps_for PassesOwn.never rfl (pi_range1 (by rfl) T.range (pa_cons (pv 1) pa_nil)) (pg_name (i := 6) scNumbers.nd rfl (.inl rfl))
      (pss_one (ps_expr (pe_bm PySem.F.plainAttrs_list PySem.F.slot_list_append PySem.F.type_list_append mt_append (pv 2) (pa_cons (pe_cal C hr (by rfl) (pa_cons (pe_cal C hr (by rfl) (pa_cons (pe_op op_add (pv 3) (pe_op op_mul pe_int (pv 6))) (pa_cons (pe_op op_add pe_int (pv 6)) pa_nil))) (pa_cons pe_int pa_nil))) pa_nil)))))
    (pss_cons (ps_expr (pe_bm0 PySem.F.plainAttrs_list PySem.F.slot_list_reverse PySem.F.type_list_reverse mt_reverse (pv 2)))
    (pss_one (ps_ret (pv 2))))))), ?_⟩
  refine ⟨(by show 0 ≤ sizeLine; decide), fun R nR => ?_⟩
  have s1 := same_new (o := .lst []) nR
  refine ⟨.ref a, rfl, ?_⟩
  refine ⟨63, rfl, a, _, rfl, s1.seq hS, fun c nc => ?_⟩
  obtain ⟨ms, em, lm⟩ := cut_ints ns none (some 63)
  rw [em]
  have s2 := same_new (o := .lst (ms.map V.int)) nc
  have nRc : R ≠ c := ne_of_none upd_same nc
  have ncH : H c = none := s1.free nc
  refine ⟨c, rfl, ⟨_, .of upd_same⟩, ?_⟩
  -- the loop over the script
  refine for_list (K := K) (a := c) (xs := ms.map V.int) (fun i σ H2 => ∃ b x4 x5 x6, σ = [some (.ref a), some (.int 130), some (.ref R), some (.int b), x4, x5, x6] ∧ Same H H2 ∧ H2 c = some (.lst (ms.map V.int)) ∧ RowAt H2 R (60 * i)) ?_ ?_ ?_ ?_
  · refine ⟨0, none, none, none, rfl, s1.trans s2, upd_same, [], ?_, Nat.le_refl _⟩
    rw [upd_ne nRc, upd_same]
    rfl
  · rintro i σ H2 _ ⟨_, _, _, _, _, _, hc, _⟩
    exact .of hc
  · rintro i x σ H2 hi ⟨b, x4, x5, x6, rfl, s3, hc, ms1, hR, lR⟩
    have li : i < ms.length := by have := (List.getElem?_eq_some_iff.mp hi).1; rwa [List.length_map] at this
    obtain ⟨z, rfl, _⟩ := int_at hi
    refine ⟨_, rfl, _, rfl, b, z, rfl, rfl, ?_⟩
    refine ⟨_, rfl, z, 1000000000000000000, rfl, rfl, _, rfl, ite2 (fun _ => ?_) (fun _ => ?_)⟩
    · refine ⟨_, rfl, 60, rfl, by decide, by decide, ?_⟩
      refine for_range (lo := 0) (n := 60) (fun j σ H4 => ∃ z' x6, σ = [some (.ref a), some (.int 130), some (.ref R), some (.int (b + z)), some (.int z), some (.int z'), x6] ∧ Same H H4 ∧ H4 c = some (.lst (ms.map V.int)) ∧ RowAt H4 R (60 * i + j)) ?_ ?_ ?_
      · exact ⟨z, x6, rfl, s3, hc, ms1, hR, lR⟩
      · rintro j σ H4 hj ⟨z', x6, rfl, s4, hc4, ms2, hR4, lR4⟩
        refine ⟨.ref R, rfl, .inl ⟨rfl, _, .of hR4⟩, _, rfl, .inl ⟨z', rfl, z', 840, rfl, rfl, (by show (0 : Int) < 840; decide), ?_⟩⟩
        refine ⟨R, _, _, rfl, rfl, hR4, line60 (by rw [List.length_map]; omega), ?_⟩
        refine ⟨_, rfl, z', 840, rfl, rfl, ⟨by decide, by decide⟩, ?_⟩
        have next : ∃ z'' x6', [some (.ref a), some (.int 130), some (.ref R), some (.int (b + z)), some (.int z), some (.int (z' / 840)), some (.int (0 + (j : Int)))] = [some (.ref a), some (.int 130), some (.ref R), some (.int (b + z)), some (.int z), some (V.int z''), x6'] ∧
            Same H (upd H4 R (.lst (ms2.map V.int ++ [.int (z' % 840)]))) ∧ (upd H4 R (.lst (ms2.map V.int ++ [.int (z' % 840)]))) c = some (.lst (ms.map V.int)) ∧ RowAt (upd H4 R (.lst (ms2.map V.int ++ [.int (z' % 840)]))) R (60 * i + (j + 1)) :=
          ⟨z' / 840, some (.int (0 + (j : Int))), rfl, same_put s4 nR, by rw [upd_ne nRc.symm]; exact hc4, ms2 ++ [z' % 840], by rw [upd_same, List.map_append]; rfl, by rw [List.length_append, List.length_singleton]; omega⟩
        refine ⟨_, rfl, rfl, _, rfl, ite2 (fun _ => ?_) (fun _ => ?_)⟩
        · obtain ⟨z'', x6', e, r1, r2, r3⟩ := next
          exact ⟨b + z, some (.int z), some (.int (z' / 840)), some (.int (0 + (j : Int))), rfl, r1, r2, r3.more (by omega)⟩
        · exact next
      · rintro σ H4 ⟨z', x6, rfl, s4, hc4, r4⟩
        exact ⟨b + z, some (.int z), some (.int z'), x6, rfl, s4, hc4, r4.more (by omega)⟩
    · refine ⟨.ref R, rfl, .inl ⟨rfl, _, .of hR⟩, _, rfl, z, 3, rfl, by decide, by decide, fun r1 => ?_⟩
      refine ⟨r1, 5, rfl, by decide, by decide, fun r2 => ?_⟩
      refine ⟨R, _, _, rfl, rfl, hR, line60 (by rw [List.length_map]; omega), ?_⟩
      exact ⟨b + z, some (.int z), x5, x6, rfl, same_put s3 nR, by rw [upd_ne nRc.symm]; exact hc, ms1 ++ [r2], by rw [upd_same, List.map_append]; rfl, by rw [List.length_append, List.length_singleton]; omega⟩
  · rintro σ H2 ⟨b, x4, x5, x6, rfl, s3, hc, r3⟩
    rw [List.length_map] at r3
    refine ⟨_, rfl, 130, rfl, by decide, by decide, ?_⟩
    refine for_range (lo := 0) (n := 130) (fun j σ H4 => ∃ x4 x5 x6, σ = [some (.ref a), some (.int 130), some (.ref R), some (.int b), x4, x5, x6] ∧ Same H H4 ∧ RowAt H4 R (60 * ms.length + j)) ?_ ?_ ?_
    · exact ⟨x4, x5, x6, rfl, s3, r3⟩
    · rintro j σ H4 hj ⟨x4, x5, x6, rfl, s4, ms2, hR4, lR4⟩
      refine ⟨.ref R, rfl, .inl ⟨rfl, _, .of hR4⟩, _, rfl, _, rfl, 31, _, rfl, rfl, .inl ⟨by decide, by decide⟩, b, _, rfl, rfl, _, rfl, 11, _, rfl, rfl, ?_⟩
      refine ⟨_, _, rfl, by omega, by omega, fun r1 => ?_⟩
      refine ⟨r1, 17, rfl, by decide, by decide, fun r2 => ?_⟩
      refine ⟨R, _, _, rfl, rfl, hR4, line60 (by rw [List.length_map]; omega), ?_⟩
      exact ⟨x4, x5, some (.int (0 + (j : Int))), rfl, same_put s4 nR, ms2 ++ [r2], by rw [upd_same, List.map_append]; rfl, by rw [List.length_append, List.length_singleton]; omega⟩
    · rintro σ H4 ⟨x4, x5, x6, rfl, s4, ms2, hR4, lR4⟩
      refine ⟨.ref R, rfl, .inl ⟨rfl, _, .of hR4⟩, R, _, rfl, rfl, hR4, ?_⟩
      refine ⟨_, rfl, q R _ (same_put s4 nR) nR ⟨ms2.reverse, ?_, ?_⟩⟩
      · rw [upd_same, List.map_reverse]
      · rw [List.length_reverse]; omega
end
end Sk

set_option Elab.async false
set_option linter.all false
set_option maxRecDepth 100000
set_option maxHeartbeats 4000000
/-! Skewer, the walk: _law_take, _law_step, _law_part. -/
namespace Sk
open PySem L2
theorem RowAt.new {H : Hp} {R p : Addr} {m : Nat} {o : HO} (h : RowAt H R m) (np : H p = none) : RowAt (upd H p o) R m := by
  obtain ⟨ms, e, l⟩ := h
  exact ⟨ms, by rw [upd_ne (ne_of_none e np)]; exact e, l⟩
theorem RowAt.put {H : Hp} {R D : Addr} {m : Nat} {o : HO} (h : RowAt H R m) (n : R ≠ D) : RowAt (upd H D o) R m := by
  obtain ⟨ms, e, l⟩ := h
  exact ⟨ms, by rw [upd_ne n]; exact e, l⟩
theorem But.tr {H H1 H2 : Hp} {R : Addr} (a : But R H H1) (b : But R H1 H2) : But R H H2 := Same.trans a b
theorem But.put {H H' : Hp} {R D : Addr} {o : HO} (h : But R H H') (n : H D = none) : But R H (L2.upd H' D o) := fun b u e => by
  obtain ⟨e1, e2⟩ := hid_get e
  have e3 := hid_get (h b u e)
  rw [hid_out e2, upd_ne (ne_of_none e1 n)]
  exact e3.1
theorem But.new {H H' : Hp} {R p : Addr} {o : HO} (h : But R H H') (np : H' p = none) : But R H (L2.upd H' p o) := Same.trans h (same_hid (same_new np))
def spTake : Sp := fun vs H Q _ => ∃ (R : Addr) (m : Nat) (b : Int), vs = [.ref R, .int b] ∧ RowAt H R m ∧ 0 < b ∧
  ∀ (H' : Hp) (r : Nat), But R H H' → RowAt H' R m → (r : Int) < b → Q (.int r) H'
section
variable {P : Program} {w : World} {K : PySem.W.Frag} {mg : Str → Option Value} {base : Heap} {f : Addr} {fd : FuncData}
theorem scTake : FnScope ["_law_row", "_law_bound"] ["_law_row", "_law_bound"] (defScope sTake) := ⟨rfl, rfl, rfl, by decide +kernel, rfl, by decide +kernel, by decide +kernel⟩
theorem ok_take {n : Nat} (F : Fun K "_law_take" "_law_take" sTake f fd) (T : Txt K mg) : FnOk P w K mg base CX0 (n + 1) f fd ["_law_row", "_law_bound"] spTake := by
  refine F.ok scTake (fun vs H Q E h => ?_) (fun cdv A outer s H vs Q E hr h => ?_)
  · obtain ⟨R, m, b, rfl, _⟩ := h
    rfl
  obtain ⟨R, m, b, rfl, hR, hb, q⟩ := h
  refine ⟨_, pss_cons (ps_if (pt_not (pt_truth (pv 0) (by intro _; rfl))) (pss_one (ps_ret pe_int)) pss_nil)
    (pss_one (ps_ret (pe_op op_mod (pe_callTy call_int1 (by rfl) T.int (by decide +kernel) (pa_cons (pe_bm0 PySem.F.plainAttrs_list PySem.F.slot_list_pop PySem.F.type_list_pop mt_pop (pv 0)) pa_nil)) (pv 1)))), ?_⟩
  obtain ⟨ms, eR, lR⟩ := id hR
  refine ⟨_, rfl, _, .inl ⟨_, .of eR, rfl⟩, ?_⟩
  cases ms with
  | nil =>
    refine ite2 (fun _ => ?_) (fun c => absurd rfl c)
    exact q H 0 (Same.refl _) hR hb
  | cons z zs =>
    refine ite2 (fun c => absurd c (by simp)) (fun _ => ?_)
    obtain ⟨y, hy⟩ : ∃ y, (z :: zs).getLast? = some y := ⟨_, List.getLast?_eq_some_getLast (by simp)⟩
    refine ⟨.ref R, rfl, .inl ⟨rfl, _, .of eR⟩, R, _, .int y, rfl, rfl, eR, ?_, ?_⟩
    · rw [← List.getLast?_eq_getElem?, List.getLast?_map, hy]
      rfl
    · refine .inl ⟨_, rfl, _, rfl, _, _, rfl, rfl, hb, ?_⟩
      have h1 := Int.emod_nonneg y (show b ≠ 0 by omega)
      have h2 := Int.emod_lt_of_pos y hb
      have e : ((y % b).toNat : Int) = y % b := Int.toNat_of_nonneg h1
      show Q (.int (y % b)) _
      rw [← e]
      refine q _ _ (But.upd (Same.refl _)) ⟨(z :: zs).dropLast, ?_, ?_⟩ (by omega)
      · rw [upd_same, List.map_dropLast]
      · rw [List.length_dropLast]
        omega

/-! ### _law_step -/
def spStep (K : PySem.W.Frag) : Sp := fun vs H Q _ => ∃ (Z : List Addr) (R : Addr) (m : Nat) (a b : Int), vs = [.ref R, .int a, .int b] ∧ Dom Z H ∧ R ∈ Z ∧ RowAt H R m ∧ 0 < a ∧ 0 < b ∧
  ∀ (H' : Hp) (v : V) (s : Step), But R H H' → RowAt H' R m → Dp K (hid Z H') v (stepD s) → Q v H'
theorem scStep : FnScope ["_law_row", "_law_ways", "_law_kinds", "_law_choice"] ["_law_row", "_law_ways", "_law_kinds"] (defScope sStep) := ⟨rfl, rfl, rfl, by decide +kernel, rfl, by decide +kernel, by decide +kernel⟩
theorem step_one {H : Hp} {Z : List Addr} {p : Addr} {x : Str} (hx : x ∈ stepNames) (hZ : Dom Z H) (np : H p = none) : Dp K (hid Z (upd H p (.tup [.str x]))) (.ref p) (stepD ⟨x, none, hx⟩) :=
  stepD_of (.of (new_at hZ np))
theorem step_two {H : Hp} {Z : List Addr} {p : Addr} {x : Str} {k : Int} (hx : x ∈ stepNames) (hZ : Dom Z H) (np : H p = none) : Dp K (hid Z (upd H p (.tup [.str x, .int k]))) (.ref p) (stepD ⟨x, some k, hx⟩) :=
  stepD_of (.of (new_at hZ np))
theorem ok_step {n : Nat} (F : Fun K "_law_step" "_law_step" sStep f fd) (C : Callee P w K mg base n "_law_take" ["_law_row", "_law_bound"] spTake) : FnOk P w K mg base CX0 (n + 1) f fd ["_law_row", "_law_ways", "_law_kinds"] (spStep K) := by
  refine F.ok scStep (fun vs H Q E h => ?_) (fun cdv A outer s H vs Q E hr h => ?_)
  · obtain ⟨Z, R, m, a, b, rfl, _⟩ := h
    rfl
  obtain ⟨Z, R, m, a, b, rfl, hZ, hRZ, hR, ha, hb, q⟩ := h
  refine ⟨_, pss_cons (ps_set (i := 3) scStep.nd rfl (.inl rfl) (pe_cal C hr (by rfl) (pa_cons (pv 0) (pa_cons pe_int pa_nil))))
    (pss_cons (ps_if (pt_cmpR op_lt (pv 3) pe_int (nomark _)) (pss_one (ps_ret (pe_tup (pa_cons pe_str (pa_cons (pe_cal C hr (by rfl) (pa_cons (pv 0) (pa_cons (pv 1) pa_nil))) pa_nil))))) pss_nil)
    (pss_cons (ps_if (pt_cmpR op_lt (pv 3) pe_int (nomark _)) (pss_one (ps_ret (pe_tup (pa_cons pe_str pa_nil)))) pss_nil)
    (pss_cons (ps_if (pt_cmpR op_eq (pv 3) pe_int (nomark _)) (pss_one (ps_ret (pe_ix ix_list (pe_lst (pa_cons (pe_tup (pa_cons pe_str pa_nil)) (pa_cons (pe_tup (pa_cons pe_str pa_nil)) pa_nil))) (pe_cal C hr (by rfl) (pa_cons (pv 0) (pa_cons pe_int pa_nil))) (fun _ _ => rfl)))) pss_nil)
    (pss_cons (ps_if (pt_cmpR op_eq (pv 3) pe_int (nomark _)) (pss_one (ps_ret (pe_tup (pa_cons pe_str (pa_cons (pe_cal C hr (by rfl) (pa_cons (pv 0) (pa_cons (pv 2) pa_nil))) pa_nil))))) pss_nil)
    (pss_cons (ps_if (pt_cmpR op_eq (pv 3) pe_int (nomark _)) (pss_one (ps_ret (pe_tup (pa_cons pe_str pa_nil)))) pss_nil)
    (pss_one (ps_ret (pe_tup (pa_cons pe_str (pa_cons (pe_cal C hr (by rfl) (pa_cons (pv 0) (pa_cons (pv 2) pa_nil))) pa_nil)))))))))), ?_⟩
  refine ⟨_, rfl, R, m, 10, rfl, hR, by decide, fun H1 c b1 r1 _ => ?_⟩
  have z1 := b1.dom hZ r1.dom
  refine ⟨_, rfl, _, _, rfl, rfl, _, rfl, ite2 (fun _ => ?_) (fun _ => ?_)⟩
  · refine ⟨_, rfl, _, rfl, R, m, a, rfl, r1, ha, fun H2 k b2 r2 _ => ?_⟩
    refine ⟨(by show 2 ≤ sizeLine; decide), fun p np => ?_⟩
    exact q _ _ ⟨"go", some (k : Int), by decide +kernel⟩ ((b1.tr b2).new np) (r2.new np) (step_two _ (b2.dom z1 r2.dom) np)
  refine ⟨_, rfl, _, _, rfl, rfl, _, rfl, ite2 (fun _ => ?_) (fun _ => ?_)⟩
  · refine ⟨(by show 1 ≤ sizeLine; decide), fun p np => ?_⟩
    exact q _ _ ⟨"empty", none, by decide +kernel⟩ (b1.new np) (r1.new np) (step_one _ z1 np)
  refine ⟨_, rfl, rfl, _, rfl, ite2 (fun _ => ?_) (fun _ => ?_)⟩
  · refine ⟨(by show 1 ≤ sizeLine; decide), fun p np => ?_⟩
    refine ⟨(by show 1 ≤ sizeLine; decide), fun p' np' => ?_⟩
    refine ⟨(by show 2 ≤ sizeLine; decide), fun l nl => ?_⟩
    have s1 := same_new (o := .tup [.str "own"]) np
    have s2 := same_new (o := .tup [.str "foe"]) np'
    have s3 := same_new (o := .lst [.ref p, .ref p']) nl
    have z2 := z1.same s1
    have z3 := (z2.same s2).same s3
    have d1 : Dp K (hid Z (upd (upd (upd H1 p (.tup [.str "own"])) p' (.tup [.str "foe"])) l (.lst [.ref p, .ref p']))) (.ref p) (stepD ⟨"own", none, by decide +kernel⟩) := Same.dp (same_hid (s2.trans s3)) (step_one _ z1 np)
    have d2 : Dp K (hid Z (upd (upd (upd H1 p (.tup [.str "own"])) p' (.tup [.str "foe"])) l (.lst [.ref p, .ref p']))) (.ref p') (stepD ⟨"foe", none, by decide +kernel⟩) := Same.dp (same_hid s3) (step_one _ z2 np')
    have r3 : RowAt (upd (upd (upd H1 p (.tup [.str "own"])) p' (.tup [.str "foe"])) l (.lst [.ref p, .ref p'])) R m := ((r1.new np).new np').new nl
    have b3 : But R H (upd (upd (upd H1 p (.tup [.str "own"])) p' (.tup [.str "foe"])) l (.lst [.ref p, .ref p'])) := ((b1.new np).new np').new nl
    refine ⟨_, rfl, R, m, 2, rfl, r3, by decide, fun H2 k b2 r2 hk => ?_⟩
    have lR : l ≠ R := fun e => (r2.dom (by
      have := nl
      rw [e] at this
      exact absurd this ((r1.new np).new np').dom))
    have gl : H2 l = some (.lst [.ref p, .ref p']) := b2.get upd_same lR
    have hk2 : k = 0 ∨ k = 1 := by omega
    rcases hk2 with rfl | rfl
    · exact ⟨l, _, _, _, rfl, rfl, .of gl, at0, q _ _ _ (b3.tr b2) r2 (Same.dp (b2.hid hRZ) d1)⟩
    · exact ⟨l, _, _, _, rfl, rfl, .of gl, at1, q _ _ _ (b3.tr b2) r2 (Same.dp (b2.hid hRZ) d2)⟩
  refine ⟨_, rfl, rfl, _, rfl, ite2 (fun _ => ?_) (fun _ => ?_)⟩
  · refine ⟨_, rfl, _, rfl, R, m, b, rfl, r1, hb, fun H2 k b2 r2 _ => ?_⟩
    refine ⟨(by show 2 ≤ sizeLine; decide), fun p np => ?_⟩
    exact q _ _ ⟨"at", some (k : Int), by decide +kernel⟩ ((b1.tr b2).new np) (r2.new np) (step_two _ (b2.dom z1 r2.dom) np)
  refine ⟨_, rfl, rfl, _, rfl, ite2 (fun _ => ?_) (fun _ => ?_)⟩
  · refine ⟨(by show 1 ≤ sizeLine; decide), fun p np => ?_⟩
    exact q _ _ ⟨"take", none, by decide +kernel⟩ (b1.new np) (r1.new np) (step_one _ z1 np)
  refine ⟨_, rfl, _, rfl, R, m, b, rfl, r1, hb, fun H2 k b2 r2 _ => ?_⟩
  refine ⟨(by show 2 ≤ sizeLine; decide), fun p np => ?_⟩
  exact q _ _ ⟨"lay", some (k : Int), by decide +kernel⟩ ((b1.tr b2).new np) (r2.new np) (step_two _ (b2.dom z1 r2.dom) np)
/-! ### _law_part -/
def bnd : Nat → Nat
  | 0 => 1
  | d + 1 => 3 * bnd d + 1
theorem bnd_pos : ∀ d, 1 ≤ bnd d
  | 0 => Nat.le_refl _
  | d + 1 => Nat.le_add_left _ _
def spPart (K : PySem.W.Frag) (n : Nat) : Sp := fun vs H Q _ => ∃ (Z : List Addr) (R : Addr) (m d : Nat) (a b : Int), vs = [.ref R, .int d, .int a, .int b] ∧ Dom Z H ∧ R ∈ Z ∧ RowAt H R m ∧ 0 < a ∧ 0 < b ∧ d < n ∧
  ∀ (H' : Hp) (v : V) (p : Prog), But R H H' → RowAt H' R m → Dp K (hid Z H') v (progD p) → depthP p ≤ d + 1 → nodesP p ≤ bnd d → Q v H'
theorem scPart : FnScope ["_law_row", "_law_depth", "_law_ways", "_law_kinds", "_law_choice", "_law_parts", "_law_k"] ["_law_row", "_law_depth", "_law_ways", "_law_kinds"] (defScope sPart) := ⟨rfl, rfl, rfl, by decide +kernel, rfl, by decide +kernel, by decide +kernel⟩
theorem ok_part {j n : Nat} (F : Fun K "_law_part" "_law_part" sPart f fd) (T : Txt K mg) (C1 : Callee P w K mg base j "_law_take" ["_law_row", "_law_bound"] spTake) (C2 : Callee P w K mg base j "_law_step" ["_law_row", "_law_ways", "_law_kinds"] (spStep K))
    (C : Callee P w K mg base j "_law_part" ["_law_row", "_law_depth", "_law_ways", "_law_kinds"] (spPart K n)) : FnOk P w K mg base CX0 (j + 1) f fd ["_law_row", "_law_depth", "_law_ways", "_law_kinds"] (spPart K (n + 1)) := by
  refine F.ok scPart (fun vs H Q E h => ?_) (fun cdv A outer s H vs Q E hr h => ?_)
  · obtain ⟨Z, R, m, d, a, b, rfl, _⟩ := h
    rfl
  obtain ⟨Z, R, m, d, a, b, rfl, hZ, hRZ, hR, ha, hb, hd, q⟩ := h
  refine ⟨_, pss_cons (ps_set (i := 4) scPart.nd rfl (.inl rfl) (pe_cal C1 hr (by rfl) (pa_cons (pv 0) (pa_cons pe_int pa_nil))))
    (pss_cons (ps_if (PW.pt (pw_or (pt_cmpR op_eq (pv 1) pe_int (nomark _)) (pw_or1 (pt_cmpR op_lt (pv 4) pe_int (nomark _))))) (pss_one (ps_ret (pe_cal C2 hr (by rfl) (pa_cons (pv 0) (pa_cons (pv 2) (pa_cons (pv 3) pa_nil)))))) pss_nil)
    (pss_cons (ps_if (pt_cmpR op_eq (pv 4) pe_int (nomark _)) (pss_one (ps_ret (pe_tup (pa_cons pe_str (pa_cons (pe_cal C hr (by rfl) (pa_cons (pv 0) (pa_cons (pe_op op_sub (pv 1) pe_int) (pa_cons (pv 2) (pa_cons (pv 3) pa_nil))))) pa_nil))))) pss_nil)
    (pss_cons (ps_if (pt_cmpR op_eq (pv 4) pe_int (nomark _)) (pss_one (ps_ret (pe_tup (pa_cons pe_str pa_nil)))) pss_nil)
    (pss_cons (ps_setLc (i := 5) (own := [("_law_k", 6)]) (g := gName 6) (tt := tYes) (by rfl) scPart.nd rfl rfl (sw_true rfl rfl rfl (by decide +kernel)) (pi_range1 (by rfl) T.range (pa_cons (pe_cal C1 hr (by rfl) (pa_cons (pv 0) (pa_cons pe_int pa_nil))) pa_nil))
      (blkOk_by (N := ["_law_row", "_law_depth", "_law_ways", "_law_kinds", "_law_choice", "_law_parts", "_law_k"]) (sc := defScope sPart) (by decide +kernel)) (fun _ _ _ _ _ => pg_name (i := 6) scPart.nd rfl (Or.inl rfl)) (fun _ _ _ _ _ => pts_nil)
      (fun _ _ _ _ _ => pe_cal C hr (by rfl) (pa_cons (pv 0) (pa_cons (pe_op op_sub (pv 1) pe_int) (pa_cons (pv 2) (pa_cons (pv 3) pa_nil))))))
    (pss_one (ps_ret (pe_tup (pa_cons (pe_ix ix_list (pe_lst (pa_cons pe_str (pa_cons pe_str (pa_cons pe_str (pa_cons pe_str pa_nil))))) (pe_op op_sub (pv 4) pe_int) (fun _ _ => rfl)) (pa_cons (pv 5) pa_nil))))))))), ?_⟩
  refine ⟨_, rfl, R, m, 9, rfl, hR, by decide, fun H1 c b1 r1 hc => ?_⟩
  have z1 := b1.dom hZ r1.dom
  have leaf : spStep K [.ref R, .int a, .int b] H1 Q E0 := ⟨Z, R, m, a, b, rfl, z1, hRZ, r1, ha, hb, fun H2 v s b2 r2 hv => q H2 v (.st s) (b1.tr b2) r2 (by unfold progD; exact hv) (by simp only [depthP]; omega) (by simp only [nodesP]; exact bnd_pos d)⟩
  refine ⟨_, rfl, rfl, _, rfl, ite2 (fun _ => iteT ?_) (fun nd => ?_)⟩
  · exact ⟨_, rfl, _, rfl, _, rfl, leaf⟩
  refine ⟨_, rfl, _, _, rfl, rfl, _, rfl, ite2 (fun _ => ?_) (fun n3 => ?_)⟩
  · exact ⟨_, rfl, _, rfl, _, rfl, leaf⟩
  have hd0 : d ≠ 0 := fun e => nd (decide_eq_true (by rw [e]; rfl))
  obtain ⟨d, rfl⟩ : ∃ d', d = d' + 1 := ⟨d - 1, by omega⟩
  have ed : ((d + 1 : Nat) : Int) - 1 = (d : Int) := by omega
  refine ⟨_, rfl, rfl, _, rfl, ite2 (fun _ => ?_) (fun nc3 => ?_)⟩
  · refine ⟨_, rfl, _, rfl, _, _, rfl, rfl, _, rfl, _, rfl, Z, R, m, d, a, b, (by show [V.ref R, V.int (((d + 1 : Nat) : Int) - 1), V.int a, V.int b] = _; rw [ed]), z1, hRZ, r1, ha, hb, by omega, fun H2 v p b2 r2 hv hp1 hp2 => ?_⟩
    refine ⟨(by show 2 ≤ sizeLine; decide), fun t nt => ?_⟩
    refine q _ _ (.any p) ((b1.tr b2).new nt) (r2.new nt) ?_ (by simp only [depthP]; omega) (by simp only [nodesP, bnd]; have := bnd_pos d; omega)
    unfold progD
    exact dp_newT (b2.dom z1 r2.dom) nt (.cons (.str _) (.cons hv .nil))
  refine ⟨_, rfl, rfl, _, rfl, ite2 (fun _ => ?_) (fun nc4 => ?_)⟩
  · refine ⟨(by show 1 ≤ sizeLine; decide), fun t nt => ?_⟩
    refine q _ _ .rest (b1.new nt) (r1.new nt) ?_ (by simp only [depthP]; omega) (by simp only [nodesP]; exact bnd_pos _)
    unfold progD
    exact dp_newT z1 nt (.cons (.str _) .nil)
  -- the parts
  refine ⟨_, rfl, R, m, 4, rfl, r1, by decide, fun H2 k b2 r2 hk => ?_⟩
  have z2 := b2.dom z1 r2.dom
  refine ⟨k, rfl, by omega, by omega, ?_⟩
  intro D nD
  have DR : D ≠ R := fun e => r2.dom (e ▸ nD)
  have DZ : D ∉ Z := z2.out nD
  refine lc_range (lo := 0) (n := (k : Int).toNat) (fun i H3 => ∃ acc ps, H3 D = some (.lst acc) ∧ But R H2 H3 ∧ RowAt H3 R m ∧ DpAll K (hid (D :: Z) H3) acc (ps.map progD) ∧ ps.length = i ∧ depthL ps ≤ d + 1 ∧ nodesL ps ≤ i * bnd d) ?_ ?_ ?_
  · exact ⟨[], [], upd_same, But.put (Same.refl _) nD, r2.put DR.symm, .nil, rfl, Nat.zero_le _, Nat.zero_le _⟩
  · rintro i H3 hi ⟨acc, ps, e3, b3, r3, a3, l3, dp3, n3'⟩
    refine ⟨rfl, ?_⟩
    have z3 : Dom (D :: Z) H3 := (b3.dom z2 r3.dom).cons e3
    refine ⟨_, rfl, _, rfl, _, _, rfl, rfl, _, rfl, _, rfl, D :: Z, R, m, d, a, b, (by show [V.ref R, V.int (((d + 1 : Nat) : Int) - 1), V.int a, V.int b] = _; rw [ed]), z3, List.mem_cons_of_mem _ hRZ, r3, ha, hb, by omega, fun H4 v p b4 r4 hv hp1 hp2 => ?_⟩
    have la := all_len a3
    rw [List.length_map] at la
    refine ⟨acc, b4.get e3 DR, line60 (by omega), acc ++ [v], ps ++ [p], upd_same, (b3.tr b4).put nD, r4.put DR.symm, ?_, by rw [List.length_append, l3]; rfl, ?_, ?_⟩
    · rw [hid_upd (List.mem_cons_self ..), List.map_append]
      exact all_snoc (Same.all (b4.hid (List.mem_cons_of_mem _ hRZ)) a3) hv
    · have e : ∀ ps : List Prog, depthL (ps ++ [p]) = max (depthL ps) (depthP p) := fun ps => by
        induction ps with
        | nil => simp [depthL]
        | cons x xs ih => simp only [List.cons_append, depthL, ih]; omega
      rw [e]
      omega
    · have e : ∀ ps : List Prog, nodesL (ps ++ [p]) = nodesL ps + nodesP p := fun ps => by
        induction ps with
        | nil => simp [nodesL]
        | cons x xs ih => simp only [List.cons_append, nodesL, ih]; omega
      rw [e, Nat.succ_mul]
      omega
  · rintro H3 ⟨acc, ps, e3, b3, r3, a3, l3, dp3, n3'⟩
    have hk3 : k ≤ 3 := by omega
    have ln : nodesL ps ≤ 3 * bnd d := Nat.le_trans n3' (Nat.mul_le_mul_right _ (by omega))
    have z3 := b3.dom z2 r3.dom
    -- which of the two
    refine ⟨(by show 4 ≤ sizeLine; decide), fun l nl => ?_⟩
    have s4 := same_new (o := .lst [.str "row", .str "row", .str "either", .str "either"]) nl
    have lD : D ≠ l := ne_of_none e3 nl
    have fin : ∀ (kn : Str) (p : Prog), (kn = "row" ∧ p = .row ps ∨ kn = "either" ∧ p = .alt ps) → ∀ t, (upd H3 l (.lst [.str "row", .str "row", .str "either", .str "either"])) t = none →
        Q (.ref t) (upd (upd H3 l (.lst [.str "row", .str "row", .str "either", .str "either"])) t (.tup [.str kn, .ref D])) := fun kn p hkp t nt => by
      have b5 : But R H (upd H3 l (.lst [.str "row", .str "row", .str "either", .str "either"])) := ((b1.tr b2).tr b3).new nl
      have r5 := r3.new (o := .lst [.str "row", .str "row", .str "either", .str "either"]) nl
      have z5 := z3.same s4
      have dl : Dp K (hid Z (upd H3 l (.lst [.str "row", .str "row", .str "either", .str "either"]))) (.ref D) (.list (progsD ps)) := by
        rw [progsD_map]
        refine Same.dp (same_hid s4) (.lst (.of (by rw [hid_out DZ]; exact e3)) (Same.all hid_cons a3))
      have dt : Dp K (hid Z (upd (upd H3 l (.lst [.str "row", .str "row", .str "either", .str "either"])) t (.tup [.str kn, .ref D]))) (.ref t) (.tuple [.str kn, .list (progsD ps)]) := dp_newT z5 nt (.cons (.str _) (.cons dl .nil))
      rcases hkp with ⟨rfl, rfl⟩ | ⟨rfl, rfl⟩
      · exact q _ _ (.row ps) (b5.new nt) (r5.new nt) (by unfold progD; exact dt) (by simp only [depthP]; omega) (by simp only [nodesP, bnd]; omega)
      · exact q _ _ (.alt ps) (b5.new nt) (r5.new nt) (by unfold progD; exact dt) (by simp only [depthP]; omega) (by simp only [nodesP, bnd]; omega)
    have g3 : ¬ (c : Int) < 3 := fun h => n3 (decide_eq_true h)
    have g4 : ¬ c = 3 := fun h => nc3 (decide_eq_true (by rw [h]; rfl))
    have g5 : ¬ c = 4 := fun h => nc4 (decide_eq_true (by rw [h]; rfl))
    have c5 : c = 5 ∨ c = 6 ∨ c = 7 ∨ c = 8 := by omega
    rcases c5 with rfl | rfl | rfl | rfl
    · exact ⟨_, rfl, _, _, rfl, rfl, l, _, _, .str "row", rfl, rfl, .of upd_same, rfl, _, rfl, (by show 2 ≤ sizeLine; decide), fin "row" _ (.inl ⟨rfl, rfl⟩)⟩
    · exact ⟨_, rfl, _, _, rfl, rfl, l, _, _, .str "row", rfl, rfl, .of upd_same, rfl, _, rfl, (by show 2 ≤ sizeLine; decide), fin "row" _ (.inl ⟨rfl, rfl⟩)⟩
    · exact ⟨_, rfl, _, _, rfl, rfl, l, _, _, .str "either", rfl, rfl, .of upd_same, rfl, _, rfl, (by show 2 ≤ sizeLine; decide), fin "either" _ (.inr ⟨rfl, rfl⟩)⟩
    · exact ⟨_, rfl, _, _, rfl, rfl, l, _, _, .str "either", rfl, rfl, .of upd_same, rfl, _, rfl, (by show 2 ≤ sizeLine; decide), fin "either" _ (.inr ⟨rfl, rfl⟩)⟩
end
end Sk

set_option Elab.async false
set_option linter.all false
set_option maxRecDepth 100000
set_option maxHeartbeats 4000000
/-! Skewer, the walk: loops of comprehensions with two sources; the pairs of two lists. -/
namespace Sk
open PySem L2
/-- what a comprehension does with an element that has come: it is put to the list at D -/
abbrev putL (D : Addr) : V → Hp → (Hp → Prop) → Prop := fun y H N => ∃ acc, H D = some (.lst acc) ∧ acc.length < sizeLine ∧ N (upd H D (.lst (acc ++ [y])))
/-- the second source's loop over a list that stays -/
theorem inner2 {K : PySem.W.Frag} {b : Addr} {ys : List V} {g1 : TG} {tt1 : TT} {te : TE} {vs1 : List Nat} {σ2 : L2.St} {H4 : Hp} {S : V → Hp → (Hp → Prop) → Prop} {Nx : Hp → Prop} (Pw : Nat → Hp → Prop) (h0 : Pw 0 H4) (hl : ∀ j H, j ≤ ys.length → Pw j H → SqL K H b ys)
    (hs : ∀ j y H, ys[j]? = some y → Pw j H → g1 y (wipe σ2 vs1) H fun σ3 H5 => wipe σ3 vs1 = wipe σ2 vs1 ∧ tt1 σ3 H5 fun c H6 => if c = true then te σ3 H6 fun y H7 => S y H7 (Pw (j + 1)) else Pw (j + 1) H6) (hd : ∀ H, Pw ys.length H → Nx H) :
    ∃ W1 : Nat → Nat → Hp → Prop, (∃ m, W1 0 m H4) ∧ ∀ j k H, W1 j k H →
      ((Itl K b).stop j H ∧ Nx H) ∨ ((Itl K b).go j H ∧ ∃ Nx1 : Hp → Prop, (∀ H', Nx1 H' → ∃ k', k' < k ∧ W1 (j + 1) k' H') ∧ ∀ x H', (Itl K b).yld j H x H' → g1 x (wipe σ2 vs1) H' fun σ3 H5 => wipe σ3 vs1 = wipe σ2 vs1 ∧ tt1 σ3 H5 fun c H6 =>
        if c = true then te σ3 H6 fun y H7 => S y H7 Nx1 else Nx1 H6) := by
  refine ⟨fun j m H => m + j = ys.length ∧ Pw j H, ⟨ys.length, rfl, h0⟩, ?_⟩
  rintro j m H ⟨e, p⟩
  have q := hl j H (by omega) p
  by_cases hj : j < ys.length
  · refine .inr ⟨⟨ys, ys[j], q, List.getElem?_eq_getElem hj⟩, Pw (j + 1), fun H' p' => ⟨m - 1, by omega, by omega, p'⟩, fun x H' y => ?_⟩
    obtain ⟨rfl, y⟩ := y
    exact hs j x H' (y ys q) p
  · obtain rfl : j = ys.length := by omega
    exact .inl ⟨⟨ys, q, Nat.le_refl _⟩, hd H p⟩
/-- the first source's loop over a list that stays -/
theorem outer2 {K : PySem.W.Frag} {a : Addr} {xs : List V} {g : TG} {T : L2.St → Hp → (Hp → Prop) → Prop} {vs : List Nat} {σ : L2.St} {H0 : Hp} {Qd : Hp → Prop} (Pv : Nat → Hp → Prop) (h0 : Pv 0 H0) (hl : ∀ i H, i ≤ xs.length → Pv i H → SqL K H a xs)
    (hs : ∀ i x H, xs[i]? = some x → Pv i H → g x (wipe σ vs) H fun σ2 H2 => wipe σ2 vs = wipe σ vs ∧ T σ2 H2 (Pv (i + 1))) (hd : ∀ H, Pv xs.length H → Qd H) :
    ∃ W : Nat → Nat → Hp → Prop, (∃ m, W 0 m H0) ∧ ∀ i m H, W i m H →
      ((Itl K a).stop i H ∧ Qd H) ∨ ((Itl K a).go i H ∧ ∃ Nx : Hp → Prop, (∀ H', Nx H' → ∃ m', m' < m ∧ W (i + 1) m' H') ∧ ∀ x H', (Itl K a).yld i H x H' → g x (wipe σ vs) H' fun σ2 H2 => wipe σ2 vs = wipe σ vs ∧ T σ2 H2 Nx) := by
  refine ⟨fun j m H => m + j = xs.length ∧ Pv j H, ⟨xs.length, rfl, h0⟩, ?_⟩
  rintro j m H ⟨e, p⟩
  have q := hl j H (by omega) p
  by_cases hj : j < xs.length
  · refine .inr ⟨⟨xs, xs[j], q, List.getElem?_eq_getElem hj⟩, Pv (j + 1), fun H' p' => ⟨m - 1, by omega, by omega, p'⟩, fun x H' y => ?_⟩
    obtain ⟨rfl, y⟩ := y
    exact hs j x H' (y xs q) p
  · obtain rfl : j = xs.length := by omega
    exact .inl ⟨⟨xs, q, Nat.le_refl _⟩, hd H p⟩
/-! ### data that grows at D, hidden -/
structure GrowAt (K : PySem.W.Frag) (Z : List Addr) (D : Addr) (H0 H : Hp) (ds : List PyData) : Prop where
  at_ : ∃ acc, H D = some (.lst acc) ∧ DpAll K (hid (D :: Z) H) acc ds
  same : Same H0 H
section
variable {K : PySem.W.Frag} {Z : List Addr} {D : Addr} {H0 H H' : Hp} {ds : List PyData}
theorem GrowAt.start (nD : H0 D = none) : GrowAt K Z D H0 (upd H0 D (.lst [])) [] := ⟨⟨[], upd_same, .nil⟩, same_new nD⟩
theorem GrowAt.dom (g : GrowAt K Z D H0 H ds) (hZ : Dom Z H0) : Dom (D :: Z) H := let ⟨_, e, _⟩ := g.at_; (hZ.same g.same).cons e
/-- other things were made -/
theorem GrowAt.keep (g : GrowAt K Z D H0 H ds) (s : Same H H') : GrowAt K Z D H0 H' ds := let ⟨acc, e, a⟩ := g.at_; ⟨⟨acc, s _ _ e, Same.all (same_hid s) a⟩, Same.trans g.same s⟩
/-- one more -/
theorem GrowAt.put {N : Hp → Prop} {y : V} {d : PyData} (g : GrowAt K Z D H0 H ds) (nD : H0 D = none) (hd : Dp K (hid (D :: Z) H) y d) (hz : ds.length < sizeLine) (k : ∀ H', GrowAt K Z D H0 H' (ds ++ [d]) → N H') : putL D y H N := by
  obtain ⟨acc, e, a⟩ := g.at_
  refine ⟨acc, e, by rw [all_len a]; exact hz, k _ ⟨⟨_, upd_same, ?_⟩, same_put g.same nD⟩⟩
  rw [hid_upd (List.mem_cons_self ..)]
  exact all_snoc a hd
/-- it is whole -/
theorem GrowAt.done (g : GrowAt K Z D H0 H ds) (hZ : Dom Z H0) (nD : H0 D = none) : Dp K (hid Z H) (.ref D) (.list ds) := by
  obtain ⟨acc, e, a⟩ := g.at_
  exact .lst (.of (by rw [hid_out (hZ.out nD)]; exact e)) (Same.all hid_cons a)
end
/-! ### [(last, first) for last in A for first in B] -/
theorem cross_len (l f : List Nat) : (cross l f).length = l.length * f.length := by
  unfold cross
  induction l with
  | nil => simp
  | cons x xs ih => rw [List.flatMap_cons, List.length_append, ih, List.length_map, List.length_cons, Nat.succ_mul]; omega
theorem cross_succ {l f : List Nat} {i : Nat} {x : Nat} (h : l[i]? = some x) : cross (l.take (i + 1)) f = cross (l.take i) f ++ f.map fun y => (x, y) := by
  unfold cross
  rw [List.take_add_one, h, List.flatMap_append]
  simp
theorem natAt {ns : List Nat} {i : Nat} {x : V} (h : ((zs ns).map V.int)[i]? = some x) : ∃ n : Nat, x = .int (n : Int) ∧ ns[i]? = some n := by
  obtain ⟨z, rfl, hz⟩ := int_at h
  unfold zs at hz
  rw [List.getElem?_map] at hz
  obtain ⟨n, hn, rfl⟩ := Option.map_eq_some_iff.mp hz
  exact ⟨n, rfl, hn⟩
theorem zs_len (ns : List Nat) : ((zs ns).map V.int).length = ns.length := by unfold zs; rw [List.length_map, List.length_map]
/-- the reading of the comprehension: i, j the slots of last and first -/
theorem cross_read {K : PySem.W.Frag} {Z : List Addr} {H1 : Hp} {a b : Addr} {l f : List Nat} {σ : L2.St} {Q : Addr → Hp → Prop} {i j : Nat} {tl : TE} (hZ : Dom Z H1) (hij : i ≠ j) (hi : i < σ.length) (hj : j < σ.length) (ha : SqL K H1 a ((zs l).map V.int)) (hb : SqL K H1 b ((zs f).map V.int)) (hsz : l.length * f.length < sizeLine)
    (htl : ∀ (x : V) (H : Hp) (R : V → Hp → Prop), Same H1 H → R (.ref b) H → tl ((wipe σ [i, j]).set i (some x)) H R)
    (q : ∀ (D : Addr) (H : Hp), Same H1 H → Dp K (hid Z H) (.ref D) (pairsD (cross l f)) → Q D H) :
    ∀ D, H1 D = none → ∃ W : Nat → Nat → Hp → Prop, (∃ m, W 0 m (upd H1 D (.lst []))) ∧ ∀ n m H, W n m H →
      ((Itl K a).stop n H ∧ Q D H) ∨ ((Itl K a).go n H ∧ ∃ Nx : Hp → Prop, (∀ H', Nx H' → ∃ m', m' < m ∧ W (n + 1) m' H') ∧ ∀ x H', (Itl K a).yld n H x H' → gName i x (wipe σ [i, j]) H' fun σ2 H2 => wipe σ2 [i, j] = wipe σ [i, j] ∧ tYes σ2 H2 fun b H3 =>
        if b = true then iList K tl σ2 H3 fun J1 H4 => ∃ W1 : Nat → Nat → Hp → Prop, (∃ m, W1 0 m H4) ∧ ∀ j' k H, W1 j' k H →
          (J1.stop j' H ∧ Nx H) ∨ (J1.go j' H ∧ ∃ Nx1 : Hp → Prop, (∀ H', Nx1 H' → ∃ k', k' < k ∧ W1 (j' + 1) k' H') ∧ ∀ x H', J1.yld j' H x H' → gName j x (wipe σ2 [j]) H' fun σ3 H5 => wipe σ3 [j] = wipe σ2 [j] ∧ tYes σ3 H5 fun b H6 =>
            if b = true then tTup (tCons (tVar i) (tCons (tVar j) tNil)) σ3 H6 fun y H7 => ∃ acc, H7 D = some (.lst acc) ∧ acc.length < sizeLine ∧ Nx1 (upd H7 D (.lst (acc ++ [y]))) else Nx1 H6)
        else Nx H3) := by
  intro D nD
  have len2 : (wipe σ [i, j]).length = σ.length := wipe_length _ _
  have wset : ∀ x, wipe ((wipe σ [i, j]).set i (some x)) [i, j] = wipe σ [i, j] := fun x => by
    show ((((σ.set j none).set i none).set i (some x)).set j none).set i none = (σ.set j none).set i none
    rw [List.set_set, List.set_comm _ _ hij, List.set_set, List.set_set]
  have put2 : ∀ (x y : V), wipe ((wipe ((wipe σ [i, j]).set i (some x)) [j]).set j (some y)) [j] = wipe ((wipe σ [i, j]).set i (some x)) [j] := fun x y => by
    show (((((σ.set j none).set i none).set i (some x)).set j none).set j (some y)).set j none = (((σ.set j none).set i none).set i (some x)).set j none
    rw [List.set_set, List.set_set]
  have get1 : ∀ (x y : V), ((wipe ((wipe σ [i, j]).set i (some x)) [j]).set j (some y))[i]? = some (some x) := fun x y => by
    show (((((σ.set j none).set i none).set i (some x)).set j none).set j (some y))[i]? = _
    rw [List.getElem?_set_ne (fun e => hij e.symm), List.getElem?_set_ne (fun e => hij e.symm), List.getElem?_set_self (by simpa using hi)]
  have get2 : ∀ (x y : V), ((wipe ((wipe σ [i, j]).set i (some x)) [j]).set j (some y))[j]? = some (some y) := fun x y => by
    show (((((σ.set j none).set i none).set i (some x)).set j none).set j (some y))[j]? = _
    rw [List.getElem?_set_self (by simpa using hj)]
  refine outer2 (T := fun σ2 H2 Nx => tYes σ2 H2 fun b H3 => if b = true then iList K tl σ2 H3 fun J1 H4 => ∃ W1 : Nat → Nat → Hp → Prop, (∃ m, W1 0 m H4) ∧ ∀ j' k H, W1 j' k H →
          (J1.stop j' H ∧ Nx H) ∨ (J1.go j' H ∧ ∃ Nx1 : Hp → Prop, (∀ H', Nx1 H' → ∃ k', k' < k ∧ W1 (j' + 1) k' H') ∧ ∀ x H', J1.yld j' H x H' → gName j x (wipe σ2 [j]) H' fun σ3 H5 => wipe σ3 [j] = wipe σ2 [j] ∧ tYes σ3 H5 fun b H6 =>
            if b = true then tTup (tCons (tVar i) (tCons (tVar j) tNil)) σ3 H6 fun y H7 => ∃ acc, H7 D = some (.lst acc) ∧ acc.length < sizeLine ∧ Nx1 (upd H7 D (.lst (acc ++ [y]))) else Nx1 H6) else Nx H3)
    (K := K) (a := a) (xs := (zs l).map V.int) (fun n H => GrowAt K Z D H1 H ((cross (l.take n) f).map pairD)) ?_ ?_ ?_ ?_
  · exact .start nD
  · intro n H _ g
    exact g.same.seq ha
  · intro n x H hx g
    obtain ⟨x, rfl, hn⟩ := natAt hx
    refine ⟨wset _, ?_⟩
    refine htl _ _ _ g.same ⟨b, rfl, ⟨_, g.same.seq hb⟩, ?_⟩
    refine inner2 (S := putL D) (K := K) (b := b) (ys := (zs f).map V.int) (fun m H => GrowAt K Z D H1 H ((cross (l.take n) f ++ (f.take m).map fun y => (x, y)).map pairD)) ?_ ?_ ?_ ?_
    · simpa using g
    · intro m H _ g
      exact g.same.seq hb
    · intro m y H hy g
      obtain ⟨y, rfl, hm⟩ := natAt hy
      refine ⟨put2 _ _, ?_⟩
      refine ⟨_, get1 _ _, _, get2 _ _, (by show 2 ≤ sizeLine; decide), fun t nt => ?_⟩
      have zD := g.dom hZ
      refine (g.keep (same_new nt)).put (d := pairD (x, y)) nD (dp_newT zD nt (.cons (.int _) (.cons (.int _) .nil))) ?_ fun H' g' => ?_
      · rw [List.length_map, List.length_append, List.length_map, cross_len, List.length_take, List.length_take]
        have h1 : n < l.length := (List.getElem?_eq_some_iff.mp hn).1
        have h2 : m < f.length := (List.getElem?_eq_some_iff.mp hm).1
        rw [Nat.min_eq_left (by omega), Nat.min_eq_left (by omega)]
        have h3 : n * f.length + m < (n + 1) * f.length := by rw [Nat.succ_mul]; omega
        have h4 : (n + 1) * f.length ≤ l.length * f.length := Nat.mul_le_mul_right _ h1
        omega
      · rw [List.take_add_one, hm]
        simp only [List.map_append, Option.toList, List.map_cons, List.map_nil, List.append_assoc] at g' ⊢
        exact g'
    · intro H g
      rw [zs_len, List.take_length] at g
      rw [cross_succ hn]
      exact g
  · intro H g
    rw [zs_len, List.take_length] at g
    exact q D H g.same (g.done hZ nD)
end Sk

set_option Elab.async false
set_option linter.all false
set_option maxRecDepth 100000
set_option maxHeartbeats 4000000
/-! Skewer, the walk: Places, nothing, in_order, one_of. -/
namespace Sk
open PySem L2
/-! ### attributes by name -/
theorem putF_new (f : Str) (v : V) : ∀ fs : List (Str × V), f ∉ fs.map (·.1) → putF f v fs = fs ++ [(f, v)]
  | [], _ => rfl
  | (g, x) :: r, h => by
    have h1 : ¬ g = f := fun e => h (by rw [e]; exact List.mem_cons_self ..)
    show (if g = f then _ else (g, x) :: putF f v r) = _
    rw [if_neg h1, putF_new f v r fun q => h (List.mem_cons_of_mem _ q)]
    rfl
theorem look_hd {f : Str} {x : V} {r : List (Str × V)} : List.lookup f ((f, x) :: r) = some x := by simp [List.lookup]
theorem look_tl {f g : Str} {x : V} {r : List (Str × V)} (h : ¬ f = g) : List.lookup f ((g, x) :: r) = List.lookup f r := by
  have e : (f == g) = false := beq_eq_false_iff_ne.mpr h
  simp [List.lookup, e]
def plF (v1 v2 v3 v4 v5 : V) : List (Str × V) := [("first", v1), ("last", v2), ("is_empty", v3), ("pairs", v4), ("spells_any", v5)]
section
variable {v1 v2 v3 v4 v5 : V}
theorem plF_first : (plF v1 v2 v3 v4 v5).lookup ("first" : Str) = some v1 := look_hd
theorem plF_last : (plF v1 v2 v3 v4 v5).lookup ("last" : Str) = some v2 := (look_tl (by decide +kernel)).trans look_hd
theorem plF_empty : (plF v1 v2 v3 v4 v5).lookup ("is_empty" : Str) = some v3 := (look_tl (by decide +kernel)).trans ((look_tl (by decide +kernel)).trans look_hd)
theorem plF_pairs : (plF v1 v2 v3 v4 v5).lookup ("pairs" : Str) = some v4 := (look_tl (by decide +kernel)).trans ((look_tl (by decide +kernel)).trans ((look_tl (by decide +kernel)).trans look_hd))
theorem plF_spells : (plF v1 v2 v3 v4 v5).lookup ("spells_any" : Str) = some v5 := (look_tl (by decide +kernel)).trans ((look_tl (by decide +kernel)).trans ((look_tl (by decide +kernel)).trans ((look_tl (by decide +kernel)).trans look_hd)))
end
/-! ### Places(..) -/
def spPl (C : Addr) : Sp := fun vs H Q _ => ∃ (x dx : Addr) (v1 v2 v3 v4 v5 : V), vs = [.ref x, v1, v2, v3, v4, v5] ∧ H x = some (.ins C dx []) ∧ Q .non (upd H x (.ins C dx (plF v1 v2 v3 v4 v5)))
abbrev plPs : List Str := ["self", "first", "last", "is_empty", "pairs", "spells_any"]
structure PlTxt (P : Program) (w : World) (K : PySem.W.Frag) (mg : Str → Option Value) (base : Heap) (k : Nat) (C : Addr) : Prop where
  cl : Cls K C
  n1 : NoAttr K C "first"
  n2 : NoAttr K C "last"
  n3 : NoAttr K C "is_empty"
  n4 : NoAttr K C "pairs"
  n5 : NoAttr K C "spells_any"
  mgC : mg "Places" = some (.ref C)
  ex : ∃ f fd ds, Mk K C f ∧ FnOk P w K mg base CX0 k f fd plPs (spPl C) ∧ Binds K fd plPs [] ∧ Binds K fd plPs ds ∧ Vals [.bl true] ds
section
variable {P : Program} {w : World} {K : PySem.W.Frag} {mg : Str → Option Value} {base : Heap} {f C : Addr} {fd : FuncData}
theorem scPl : FnScope plPs plPs (defScope sPlaces0) := ⟨rfl, rfl, rfl, by decide +kernel, rfl, by decide +kernel, by decide +kernel⟩
theorem ok_pl {n : Nat} (F : FunD K "__init__" "Places.__init__" (defArgs sPlaces0) (defBody sPlaces0) (defScope sPlaces0) [.bl true] [] f fd) (cl : Cls K C) (n1 : NoAttr K C "first") (n2 : NoAttr K C "last") (n3 : NoAttr K C "is_empty") (n4 : NoAttr K C "pairs") (n5 : NoAttr K C "spells_any") :
    FnOk P w K mg base CX0 (n + 1) f fd plPs (spPl C) := by
  refine F.ok scPl (fun vs H Q E h => ?_) (fun cdv A outer s H vs Q E hr h => ?_)
  · obtain ⟨x, dx, v1, v2, v3, v4, v5, rfl, _⟩ := h
    rfl
  obtain ⟨x, dx, v1, v2, v3, v4, v5, rfl, hx, q⟩ := h
  refine ⟨_, pss_cons (ps_fld (pv 0) (pv 1) rfl) (pss_cons (ps_fld (pv 0) (pv 2) rfl) (pss_cons (ps_fld (pv 0) (pv 3) rfl) (pss_cons (ps_fld (pv 0) (pv 4) rfl) (pss_one (ps_fld (pv 0) (pv 5) rfl))))), ?_⟩
  refine ⟨_, rfl, _, rfl, x, C, dx, [], rfl, hx, cl, n1, (by show 0 < 1000; decide), ?_⟩
  rw [putF_new _ _ _ (by show ¬ ("first" : Str) ∈ ([] : List Str); decide +kernel)]
  refine ⟨_, rfl, _, rfl, x, C, dx, _, rfl, upd_same, cl, n2, (by show 1 < 1000; decide), ?_⟩
  rw [putF_new _ _ _ (by show ¬ ("last" : Str) ∈ (["first"] : List Str); decide +kernel), upd_upd]
  refine ⟨_, rfl, _, rfl, x, C, dx, _, rfl, upd_same, cl, n3, (by show 2 < 1000; decide), ?_⟩
  rw [putF_new _ _ _ (by show ¬ ("is_empty" : Str) ∈ (["first", "last"] : List Str); decide +kernel), upd_upd]
  refine ⟨_, rfl, _, rfl, x, C, dx, _, rfl, upd_same, cl, n4, (by show 3 < 1000; decide), ?_⟩
  rw [putF_new _ _ _ (by show ¬ ("pairs" : Str) ∈ (["first", "last", "is_empty"] : List Str); decide +kernel), upd_upd]
  refine ⟨_, rfl, _, rfl, x, C, dx, _, rfl, upd_same, cl, n5, (by show 4 < 1000; decide), ?_⟩
  rw [putF_new _ _ _ (by show ¬ ("spells_any" : Str) ∈ (["first", "last", "is_empty", "pairs"] : List Str); decide +kernel), upd_upd]
  exact q
end
/-- the heap behind Places(..) -/
def mkAt (H : Hp) (C dx x : Addr) (fs : List (Str × V)) : Hp := upd (upd H dx (.own x)) x (.ins C dx fs)
section
variable {X : Cx} {k : Nat} {C : Addr} {p pos : Pos} {e : Expr} {es : List Expr} {t : TA}
theorem pe_pl (T : PlTxt X.prog X.w X.K X.mg X.base k C) (hr : Room (k + 1) X.A) (hg : Gl X "Places") (ha : PA X (e :: es) t)
    (he : starEach (e :: es) X.env = (false, eval e X.env) :: starEach es X.env := by rfl) (hpl : (backTo pos (starEach es X.env)).any (·.1) = false := by rfl) :
    PE X (.Call (.Name "Places" p) (e :: es) [] pos) (tMake C (spPl C) [.bl true] E0 t) := by
  obtain ⟨f, fd, ds, M, F, _, b, v⟩ := T.ex
  exact pe_make M F hr hg T.mgC b v pass0 ha (by decide) he hpl
theorem pe_pl5 (T : PlTxt X.prog X.w X.K X.mg X.base k C) (hr : Room (k + 1) X.A) (hg : Gl X "Places") (ha : PA X (e :: es) t)
    (he : starEach (e :: es) X.env = (false, eval e X.env) :: starEach es X.env := by rfl) (hpl : (backTo pos (starEach es X.env)).any (·.1) = false := by rfl) :
    PE X (.Call (.Name "Places" p) (e :: es) [] pos) (tMake C (spPl C) [] E0 t) := by
  obtain ⟨f, fd, ds, M, F, b, _, v⟩ := T.ex
  exact pe_make M F hr hg T.mgC b .nil pass0 ha (by decide) he hpl
theorem pl_go {vs : List V} {H : Hp} {R : VK} {E : XK} {x dx : Addr} {v1 v2 v3 v4 v5 : V} (hv : vs = [.ref x, v1, v2, v3, v4, v5]) (q : R .non (mkAt H C dx x (plF v1 v2 v3 v4 v5))) :
    spPl C vs (upd (upd H dx (.own x)) x (.ins C dx [])) R E := by
  refine ⟨x, dx, v1, v2, v3, v4, v5, hv, upd_same, ?_⟩
  rw [upd_upd]
  exact q
end
/-! ### a Places in the heap -/
structure PsAt (K : PySem.W.Frag) (C : Addr) (H : Hp) (v : V) (p : Ps) : Prop where
  ex : ∃ a dx v1 v2 v4, v = .ref a ∧ H a = some (.ins C dx (plF v1 v2 (.bl p.emp) v4 (.bl p.spells))) ∧ Dp K H v1 (natD p.first) ∧ Dp K H v2 (natD p.last) ∧ Dp K H v4 (pairsD p.pairs)
inductive All2 {α β : Type} (R : α → β → Prop) : List α → List β → Prop where
  | nil : All2 R [] []
  | cons {a : α} {b : β} {as : List α} {bs : List β} : R a b → All2 R as bs → All2 R (a :: as) (b :: bs)
section
variable {α β : Type} {R R' : α → β → Prop}
theorem All2.imp (h : ∀ a b, R a b → R' a b) : ∀ {as : List α} {bs : List β}, All2 R as bs → All2 R' as bs
  | _, _, .nil => .nil
  | _, _, .cons q r => .cons (h _ _ q) (r.imp h)
theorem All2.len : ∀ {as : List α} {bs : List β}, All2 R as bs → as.length = bs.length
  | _, _, .nil => rfl
  | _, _, .cons _ r => by rw [List.length_cons, List.length_cons, r.len]
theorem All2.get : ∀ {as : List α} {bs : List β} {i : Nat} {a : α}, All2 R as bs → as[i]? = some a → ∃ b, bs[i]? = some b ∧ R a b
  | _, _, i, a, .nil, e => by simp at e
  | _, _, 0, a, .cons q _, e => by simp at e; subst e; exact ⟨_, rfl, q⟩
  | _, _, i + 1, a, .cons _ r, e => by
    obtain ⟨b, h1, h2⟩ := r.get (i := i) (by simpa using e)
    exact ⟨b, by simpa using h1, h2⟩
theorem All2.snoc {a : α} {b : β} : ∀ {as : List α} {bs : List β}, All2 R as bs → R a b → All2 R (as ++ [a]) (bs ++ [b])
  | _, _, .nil, q => .cons q .nil
  | _, _, .cons p r, q => .cons p (r.snoc q)
end
section
variable {K : PySem.W.Frag} {C x dx : Addr} {H H' : Hp} {Z : List Addr} {v v1 v2 v4 : V} {p : Ps} {fs : List (Str × V)}
theorem PsAt.up (h : PsAt K C H v p) (e : Same H H') : PsAt K C H' v p := by
  obtain ⟨a, dx, v1, v2, v4, h1, h2, h3, h4, h5⟩ := h.ex
  exact ⟨a, dx, v1, v2, v4, h1, e _ _ h2, Same.dp e h3, Same.dp e h4, Same.dp e h5⟩
theorem same_mk (nx : H x = none) (nd : H dx = none) : Same H (mkAt H C dx x fs) := fun b o e => by
  unfold mkAt
  rw [upd_ne (ne_of_none e nx), upd_ne (ne_of_none e nd)]
  exact e
theorem mk_at (hZ : Dom Z H) (nx : H x = none) : hid Z (mkAt H C dx x fs) x = some (.ins C dx fs) := by
  rw [hid_out (hZ.out nx)]
  exact upd_same
theorem psAt_new (hZ : Dom Z H) (nx : H x = none) (nd : H dx = none) (h1 : Dp K (hid Z H) v1 (natD p.first)) (h2 : Dp K (hid Z H) v2 (natD p.last)) (h4 : Dp K (hid Z H) v4 (pairsD p.pairs)) :
    PsAt K C (hid Z (mkAt H C dx x (plF v1 v2 (.bl p.emp) v4 (.bl p.spells)))) (.ref x) p :=
  ⟨x, dx, v1, v2, v4, rfl, mk_at hZ nx, Same.dp (same_hid (same_mk nx nd)) h1, Same.dp (same_hid (same_mk nx nd)) h2, Same.dp (same_hid (same_mk nx nd)) h4⟩
end
/-! ### nothing -/
def spNothing (K : PySem.W.Frag) (C : Addr) : Sp := fun vs H Q _ => ∃ Z : List Addr, vs = [] ∧ Dom Z H ∧ ∀ H' v, Same H H' → PsAt K C (hid Z H') v nothing → Q v H'
section
variable {P : Program} {w : World} {K : PySem.W.Frag} {mg : Str → Option Value} {base : Heap} {f C : Addr} {fd : FuncData}
theorem scNothing : FnScope [] [] (defScope sNothing) := ⟨rfl, rfl, rfl, by decide +kernel, rfl, by decide +kernel, by decide +kernel⟩
theorem ok_nothing {k : Nat} (F : Fun K "nothing" "nothing" sNothing f fd) (T : PlTxt P w K mg base k C) : FnOk P w K mg base CX0 (k + 2) f fd [] (spNothing K C) := by
  refine F.ok scNothing (fun vs H Q E h => ?_) (fun cdv A outer s H vs Q E hr h => ?_)
  · obtain ⟨Z, rfl, _⟩ := h
    rfl
  obtain ⟨Z, rfl, hZ, q⟩ := h
  refine ⟨_, pss_one (ps_ret (pe_pl5 T hr (by rfl) (pa_cons (pe_lst pa_nil) (pa_cons (pe_lst pa_nil) (pa_cons pe_bl (pa_cons (pe_lst pa_nil) (pa_cons pe_bl pa_nil))))))), ?_⟩
  refine ⟨(by show 0 ≤ sizeLine; decide), fun a na => ⟨(by show 0 ≤ sizeLine; decide), fun b nb => ⟨(by show 0 ≤ sizeLine; decide), fun c nc => fun x dx nx nd ne => pl_go (by rfl) ⟨rfl, ?_⟩⟩⟩⟩
  have s1 := same_new (o := .lst []) na
  have s2 := same_new (o := .lst []) nb
  have s3 := same_new (o := .lst []) nc
  have z1 := hZ.same s1
  have z2 := z1.same s2
  have z3 := z2.same s3
  refine q _ _ (((s1.trans s2).trans s3).trans (same_mk nx nd)) ?_
  exact psAt_new (p := nothing) z3 nx nd (Same.dp (same_hid (s2.trans s3)) (dp_new hZ na .nil)) (Same.dp (same_hid s3) (dp_new z1 nb .nil)) (dp_new z2 nc .nil)
end
end Sk

set_option Elab.async false
set_option linter.all false
set_option maxRecDepth 100000
set_option maxHeartbeats 4000000
/-! Skewer, the walk: in_order, one_of. -/
namespace Sk
open PySem L2
theorem lineB {n : Nat} (h : n ≤ 16000000) : n < sizeLine := Nat.lt_of_le_of_lt h (by decide)
theorem lineB' {n : Nat} (h : n ≤ 16000000) : n ≤ sizeLine := Nat.le_of_lt (lineB h)
/-- [test for x in xs] -/
theorem bools_read {K : PySem.W.Frag} {a D : Addr} {xs : List V} {j : Nat} {te : TE} {σ : L2.St} {H1 : Hp} {Qd : Hp → Prop} (bs : List Bool) (hl : xs.length = bs.length) (ha : SqL K H1 a xs) (nD : H1 D = none) (hb : bs.length ≤ 1000000)
    (hel : ∀ (i : Nat) (x : V) (b : Bool) (H : Hp) (R : VK), xs[i]? = some x → bs[i]? = some b → Same H1 H → R (.bl b) H → te ((wipe σ [j]).set j (some x)) H R) (q : ∀ H, Same H1 H → SqL K H D (bs.map V.bl) → Qd H) :
    ∃ W : Nat → Nat → Hp → Prop, (∃ m, W 0 m (upd H1 D (.lst []))) ∧ ∀ i m H, W i m H →
      ((Itl K a).stop i H ∧ Qd H) ∨ ((Itl K a).go i H ∧ ∃ Nx : Hp → Prop, (∀ H', Nx H' → ∃ m', m' < m ∧ W (i + 1) m' H') ∧ ∀ x H', (Itl K a).yld i H x H' → gName j x (wipe σ [j]) H' fun σ2 H2 => wipe σ2 [j] = wipe σ [j] ∧ tYes σ2 H2 fun b H3 =>
        if b = true then te σ2 H3 fun y H4 => ∃ acc, H4 D = some (.lst acc) ∧ acc.length < sizeLine ∧ Nx (upd H4 D (.lst (acc ++ [y]))) else Nx H3) := by
  refine lc_list (K := K) (a := a) (xs := xs) (fun i H => Same H1 H ∧ H D = some (.lst ((bs.take i).map V.bl))) ?_ ?_ ?_ ?_
  · exact ⟨same_new nD, upd_same⟩
  · rintro i H _ ⟨s, _⟩
    exact s.seq ha
  · rintro i x H hx ⟨s, e⟩
    have hi : i < bs.length := by rw [← hl]; exact (List.getElem?_eq_some_iff.mp hx).1
    refine ⟨?_, ?_⟩
    · show (((σ.set j none).set j (some x)).set j none) = σ.set j none
      rw [List.set_set, List.set_set]
    · refine hel i x bs[i] H _ hx (List.getElem?_eq_getElem hi) s ⟨_, e, ?_, same_put s nD, ?_⟩
      · rw [List.length_map, List.length_take]
        exact line60 (by omega)
      · rw [upd_same, List.take_add_one, List.getElem?_eq_getElem hi, List.map_append]
        rfl
  · rintro H ⟨s, e⟩
    rw [hl, List.take_length] at e
    exact q H s (.of e)
/-! ### sizes -/
def sumF : List Ps → Nat
  | [] => 0
  | p :: ps => p.first.length + sumF ps
def sumL : List Ps → Nat
  | [] => 0
  | p :: ps => p.last.length + sumL ps
def sumP : List Ps → Nat
  | [] => 0
  | p :: ps => p.pairs.length + sumP ps
theorem fold_size : ∀ (ps : List Ps) (w : Ps) (f l q : Nat), w.first.length ≤ f → w.last.length ≤ l → w.pairs.length ≤ q + l * f →
    (ps.foldl catP w).first.length ≤ f + sumF ps ∧ (ps.foldl catP w).last.length ≤ l + sumL ps ∧ (ps.foldl catP w).pairs.length ≤ (q + sumP ps) + (l + sumL ps) * (f + sumF ps)
  | [], w, f, l, q, h1, h2, h3 => ⟨h1, h2, h3⟩
  | p :: ps, w, f, l, q, h1, h2, h3 => by
    have g1 : (catP w p).first.length ≤ f + p.first.length := by
      unfold catP
      dsimp only
      split
      · rw [List.length_append]; omega
      · omega
    have g2 : (catP w p).last.length ≤ l + p.last.length := by
      unfold catP
      dsimp only
      split
      · rw [List.length_append]; omega
      · omega
    have g3 : (catP w p).pairs.length ≤ (q + p.pairs.length) + (l + p.last.length) * (f + p.first.length) := by
      unfold catP
      dsimp only
      rw [List.length_append, List.length_append, cross_len]
      have e1 : w.last.length * p.first.length ≤ l * p.first.length := Nat.mul_le_mul_right _ h2
      have e2 : (l + p.last.length) * (f + p.first.length) = l * f + l * p.first.length + p.last.length * (f + p.first.length) := by rw [Nat.add_mul, Nat.mul_add]
      omega
    obtain ⟨i1, i2, i3⟩ := fold_size ps (catP w p) _ _ _ g1 g2 g3
    refine ⟨?_, ?_, ?_⟩
    · show ((ps.foldl catP (catP w p)).first.length) ≤ f + (p.first.length + sumF ps)
      omega
    · show ((ps.foldl catP (catP w p)).last.length) ≤ l + (p.last.length + sumL ps)
      omega
    · show ((ps.foldl catP (catP w p)).pairs.length) ≤ (q + (p.pairs.length + sumP ps)) + (l + (p.last.length + sumL ps)) * (f + (p.first.length + sumF ps))
      rw [← Nat.add_assoc, ← Nat.add_assoc, ← Nat.add_assoc]
      exact i3
theorem sumF_take : ∀ (ps : List Ps) (i : Nat), sumF (ps.take i) ≤ sumF ps
  | [], i => by simp
  | p :: ps, 0 => by simp [sumF]
  | p :: ps, i + 1 => by have := sumF_take ps i; simp only [List.take_succ_cons, sumF]; omega
theorem sumL_take : ∀ (ps : List Ps) (i : Nat), sumL (ps.take i) ≤ sumL ps
  | [], i => by simp
  | p :: ps, 0 => by simp [sumL]
  | p :: ps, i + 1 => by have := sumL_take ps i; simp only [List.take_succ_cons, sumL]; omega
theorem sumP_take : ∀ (ps : List Ps) (i : Nat), sumP (ps.take i) ≤ sumP ps
  | [], i => by simp
  | p :: ps, 0 => by simp [sumP]
  | p :: ps, i + 1 => by have := sumP_take ps i; simp only [List.take_succ_cons, sumP]; omega
theorem sumF_mem : ∀ {ps : List Ps} {p : Ps}, p ∈ ps → p.first.length ≤ sumF ps
  | q :: ps, p, h => by
    simp only [sumF]
    rcases List.mem_cons.mp h with rfl | h
    · omega
    · have := sumF_mem h; omega
theorem sumL_mem : ∀ {ps : List Ps} {p : Ps}, p ∈ ps → p.last.length ≤ sumL ps
  | q :: ps, p, h => by
    simp only [sumL]
    rcases List.mem_cons.mp h with rfl | h
    · omega
    · have := sumL_mem h; omega
theorem sumP_mem : ∀ {ps : List Ps} {p : Ps}, p ∈ ps → p.pairs.length ≤ sumP ps
  | q :: ps, p, h => by
    simp only [sumP]
    rcases List.mem_cons.mp h with rfl | h
    · omega
    · have := sumP_mem h; omega
/-- few enough -/
structure Few (ps : List Ps) : Prop where
  f : sumF ps ≤ 1000
  l : sumL ps ≤ 1000
  p : sumP ps ≤ 1000000
  n : ps.length ≤ 1000
theorem Few.fold {ps : List Ps} (h : Few ps) (i : Nat) : ((ps.take i).foldl catP start).first.length ≤ 1000 ∧ ((ps.take i).foldl catP start).last.length ≤ 1000 ∧ ((ps.take i).foldl catP start).pairs.length ≤ 2000000 := by
  obtain ⟨h1, h2, h3⟩ := fold_size (ps.take i) start 0 0 0 (Nat.le_refl _) (Nat.le_refl _) (Nat.le_refl _)
  have a := sumF_take ps i
  have b := sumL_take ps i
  have c := sumP_take ps i
  have f := h.f
  have l := h.l
  have p := h.p
  refine ⟨by omega, by omega, ?_⟩
  have e : (0 + sumL (ps.take i)) * (0 + sumF (ps.take i)) ≤ 1000 * 1000 := Nat.mul_le_mul (by omega) (by omega)
  omega
theorem fold_succ {ps : List Ps} {i : Nat} {p : Ps} (h : ps[i]? = some p) : (ps.take (i + 1)).foldl catP start = catP ((ps.take i).foldl catP start) p := by
  rw [List.take_add_one, h, List.foldl_append]
  rfl
def spParts (K : PySem.W.Frag) (C : Addr) (g : List Ps → Ps) : Sp := fun vs H Q _ => ∃ (Z : List Addr) (a : Addr) (xs : List V) (ps : List Ps), vs = [.ref a] ∧ Dom Z H ∧ SqL K (hid Z H) a xs ∧ All2 (PsAt K C (hid Z H)) xs ps ∧ Few ps ∧
  ∀ H' v, Same H H' → PsAt K C (hid Z H') v (g ps) → Q v H'
section
variable {K : PySem.W.Frag} {Z : List Addr} {H H' : Hp} {a b c : Addr} {ns ms : List Int} {xs ys : List V} {ds es : List PyData}
/-- the sum of two lists -/
theorem cat_read {Q : VK} {x y : V} {B : Prop} (hZ : Dom Z H) (hx : Dp K (hid Z H) x (.list ds)) (hy : Dp K (hid Z H) y (.list es)) (hz : ds.length + es.length ≤ 16000000) (q : ∀ c, H c = none → ∀ H', Same H H' → Dom Z H' → Dp K (hid Z H') (.ref c) (.list (ds ++ es)) → Q (.ref c) H') : rCatL K x y H Q := by
  obtain ⟨a, xs, rfl, h1, h2⟩ := list_inv hx
  obtain ⟨b, ys, rfl, h3, h4⟩ := list_inv hy
  refine ⟨a, b, xs, ys, rfl, rfl, hid_le.seq h1, hid_le.seq h3, lineB' (by rw [all_len h2, all_len h4]; exact hz), fun c nc => ?_⟩
  exact q c nc _ (same_new nc) (hZ.same (same_new nc)) (dp_new hZ nc (all_app h2 h4))
end
theorem natD_app (a b : List Nat) : natD (a ++ b) = .list ((zs a).map PyData.int ++ (zs b).map PyData.int) := by
  unfold natD intD zs
  rw [List.map_append, List.map_append]
section
variable {P : Program} {w : World} {K : PySem.W.Frag} {mg : Str → Option Value} {base : Heap} {f C : Addr} {fd : FuncData}
abbrev nInOrder : List Str := ["parts", "part", "whole", "pairs", "first", "last"]
theorem scInOrder : FnScope nInOrder ["parts"] (defScope sInOrder) := ⟨rfl, rfl, rfl, by decide +kernel, rfl, by decide +kernel, by decide +kernel⟩
theorem ok_inOrder {k : Nat} (F : Fun K "in_order" "in_order" sInOrder f fd) (T : Txt K mg) (TP : PlTxt P w K mg base k C) (CN : Callee P w K mg base (k + 2) "nothing" [] (spNothing K C)) : FnOk P w K mg base CX0 (k + 3) f fd ["parts"] (spParts K C inOrder) := by
  refine F.ok scInOrder (fun vs H Q E h => ?_) (fun cdv A outer s H vs Q E hr h => ?_)
  · obtain ⟨Z, a, xs, ps, rfl, _⟩ := h
    rfl
  obtain ⟨Z, a, xs, ps, rfl, hZ, ha, hp, hB, q⟩ := h
  have hr1 := hr.mono (show k + 1 ≤ k + 2 by omega)
  refine ⟨_, pss_cons (ps_if (pt_not (pt_val (pe_callB (cr_all rfl) (by rfl) T.all (by decide +kernel) (pa_cons (pe_lc (own := [("part", 1)]) (g := gName 1) (tt := tYes) (te := tFld K (tVar 1) "spells_any") (by rfl) scInOrder.nd (pi_list (pv 0))
      (blkOk_by (N := nInOrder) (sc := defScope sInOrder) (by decide +kernel)) (fun _ _ _ _ _ => pg_name (i := 1) scInOrder.nd rfl (Or.inl rfl)) (fun _ _ _ _ _ => pts_nil) (fun _ _ _ _ _ => pe_fld (pv 1) (by rfl))) pa_nil)))) (pss_one (ps_ret (pe_cal0 CN hr (by rfl)))) pss_nil)
    (pss_cons (ps_set (i := 2) scInOrder.nd rfl (.inl rfl) (pe_pl TP hr1 (by rfl) (pa_cons (pe_lst pa_nil) (pa_cons (pe_lst pa_nil) (pa_cons pe_bl (pa_cons (pe_lst pa_nil) pa_nil))))))
    (pss_cons (ps_for PassesOwn.never rfl (pi_list (pv 0)) (pg_name (i := 1) scInOrder.nd rfl (.inr rfl))
      (pss_cons (ps_set (i := 3) scInOrder.nd rfl (.inl rfl) (pe_op op_catL (pe_op op_catL (pe_fld (pv 2) rfl) (pe_fld (pv 1) rfl))
        (pe_lc2 (own := [("last", 5), ("first", 4)]) (vs1 := [4]) (g := gName 5) (g1 := gName 4) (tt := tYes) (tt1 := tYes) (wi1 := iList K (tFld K (tVar 1) "first")) (by rfl) scInOrder.nd (pi_list (pe_fld (pv 2) rfl)) (blkOk_by (N := nInOrder) (sc := defScope sInOrder) (by decide +kernel)) (by decide)
          (fun _ _ _ _ _ => pg_name (i := 5) scInOrder.nd rfl (Or.inl rfl)) (fun _ _ _ _ _ => pts_nil) (fun _ _ _ _ _ => pi_list (pe_fld (pv 1) (by rfl))) (fun _ _ _ _ _ => pg_name (i := 4) scInOrder.nd rfl (Or.inl rfl)) (fun _ _ _ _ _ => pts_nil)
          (fun _ _ _ _ _ => pe_tup (pa_cons (pv 5) (pa_cons (pv 4) pa_nil))))))
      (pss_cons (ps_set (i := 4) scInOrder.nd rfl (.inl rfl) (pe_ifExp (pt_val (pe_fld (pv 2) rfl)) (pe_op op_catL (pe_fld (pv 2) rfl) (pe_fld (pv 1) rfl)) (pe_fld (pv 2) rfl)))
      (pss_cons (ps_set (i := 5) scInOrder.nd rfl (.inl rfl) (pe_ifExp (pt_val (pe_fld (pv 1) rfl)) (pe_op op_catL (pe_fld (pv 2) rfl) (pe_fld (pv 1) rfl)) (pe_fld (pv 1) rfl)))
      (pss_one (ps_set (i := 2) scInOrder.nd rfl (.inl rfl) (pe_pl TP hr1 (by rfl) (pa_cons (pv 4) (pa_cons (pv 5) (pa_cons (pe_and (pe_fld (pv 2) rfl) (pe_one (pe_fld (pv 1) rfl))) (pa_cons (pv 3) pa_nil)))))))))))
    (pss_one (ps_ret (pv 2))))), ?_⟩
  have lp := hp.len
  refine ⟨_, rfl, a, rfl, ⟨xs, hid_le.seq ha⟩, fun D nD => ?_⟩
  refine bools_read (K := K) (ps.map (·.spells)) (by rw [List.length_map]; exact lp) (hid_le.seq ha) nD (by rw [List.length_map]; have := hB.n; omega) ?_ ?_
  · intro i x b H' R hx hb s r
    obtain ⟨p, hp1, hp2⟩ := hp.get hx
    rw [List.getElem?_map, hp1] at hb
    obtain rfl : p.spells = b := Option.some.inj hb
    obtain ⟨pa, pdx, p1, p2, p4, rfl, g, _⟩ := hp2.ex
    exact ⟨_, rfl, pa, C, pdx, _, _, rfl, s _ _ (hid_le _ _ g), TP.cl, TP.n5, plF_spells, r⟩
  intro H1 s1 hD
  refine ⟨D, _, rfl, hD, _, rfl, ?_⟩
  rw [List.all_map]
  have z1 := hZ.same s1
  by_cases hsp : ps.all (·.spells) = true
  rotate_left
  · have e : (ps.all (id ∘ (·.spells))) = false := Bool.eq_false_iff.mpr hsp
    rw [e]
    refine iteT ?_
    refine ⟨Z, rfl, z1, fun H' v s' hv => q H' v (s1.trans s') ?_⟩
    unfold inOrder
    rw [if_neg hsp]
    exact hv
  have e : (ps.all (id ∘ (·.spells))) = true := hsp
  rw [e]
  refine iteF ?_
  have eg : inOrder ps = ps.foldl catP start := by unfold inOrder; rw [if_pos hsp]
  rw [eg] at q
  -- whole = Places([], [], True, [])
  refine ⟨(by show 0 ≤ sizeLine; decide), fun a1 na1 => ⟨(by show 0 ≤ sizeLine; decide), fun a2 na2 => ⟨(by show 0 ≤ sizeLine; decide), fun a3 na3 => fun x dx nx nd ne => pl_go (by rfl) ⟨rfl, ?_⟩⟩⟩⟩
  have t1 := same_new (o := .lst []) na1
  have t2 := same_new (o := .lst []) na2
  have t3 := same_new (o := .lst []) na3
  have y1 := z1.same t1
  have y2 := y1.same t2
  have y3 := y2.same t3
  have hstart : PsAt K C (hid Z (mkAt _ C dx x (plF (.ref a1) (.ref a2) (.bl true) (.ref a3) (.bl true)))) (.ref x) start :=
    psAt_new (p := start) y3 nx nd (Same.dp (same_hid (t2.trans t3)) (dp_new z1 na1 .nil)) (Same.dp (same_hid t3) (dp_new y1 na2 .nil)) (dp_new y2 na3 .nil)
  have s2 : Same H _ := s1.trans (((t1.trans t2).trans t3).trans (same_mk (C := C) (fs := plF (.ref a1) (.ref a2) (.bl true) (.ref a3) (.bl true)) nx nd))
  refine ⟨_, rfl, a, rfl, ⟨xs, (hid_le.trans s2).seq ha⟩, ?_⟩
  refine for_list (K := K) (a := a) (xs := xs) (fun i σ H2 => ∃ x1 wv x3 x4 x5, σ = [some (.ref a), x1, some wv, x3, x4, x5] ∧ Same H H2 ∧ PsAt K C (hid Z H2) wv ((ps.take i).foldl catP start)) ?_ ?_ ?_ ?_
  · exact ⟨none, .ref x, none, none, none, rfl, s2, hstart⟩
  · rintro i σ H2 _ ⟨_, _, _, _, _, _, s3, _⟩
    exact (hid_le.trans s3).seq ha
  · rintro i xv σ H2 hi ⟨x1, wv, x3, x4, x5, rfl, s3, hW⟩
    obtain ⟨p, hpi, hP⟩ := hp.get hi
    have mem : p ∈ ps := List.mem_of_getElem? hpi
    have hP := hP.up (same_hid s3)
    obtain ⟨b1, b2, b3⟩ := hB.fold i
    have c1 := Nat.le_trans (sumF_mem mem) hB.f
    have c2 := Nat.le_trans (sumL_mem mem) hB.l
    have c3 := Nat.le_trans (sumP_mem mem) hB.p
    rw [fold_succ hpi]
    generalize (ps.take i).foldl catP start = W at hW b1 b2 b3
    obtain ⟨wa, wdx, w1, w2, w4, rfl, gw, hw1, hw2, hw4⟩ := hW.ex
    obtain ⟨pa, pdx, p1, p2, p4, rfl, gp, hp1, hp2, hp4⟩ := hP.ex
    have zH := hZ.same s3
    -- pairs
    refine ⟨_, rfl, wa, C, wdx, _, _, rfl, hid_le _ _ gw, TP.cl, TP.n4, plF_pairs, _, rfl, pa, C, pdx, _, _, rfl, hid_le _ _ gp, TP.cl, TP.n4, plF_pairs, ?_⟩
    refine cat_read (B := True) zH hw4 hp4 (by rw [List.length_map, List.length_map]; omega) fun c nc H3 s4 z3 d3 => ?_
    obtain ⟨la, hla, gla⟩ := intD_inv hw2
    subst hla
    refine ⟨_, rfl, wa, C, wdx, _, _, rfl, s4 _ _ (hid_le _ _ gw), TP.cl, TP.n2, plF_last, la, rfl, ⟨_, (hid_le.trans s4).seq gla⟩, ?_⟩
    obtain ⟨fa, hfa, gfa⟩ := intD_inv hp1
    subst hfa
    have hmul : W.last.length * p.first.length ≤ 1000 * 1000 := Nat.mul_le_mul b2 c1
    refine cross_read (K := K) (Z := Z) (l := W.last) (f := p.first) (i := 5) (j := 4) z3 (by decide) ?_ ?_ ((hid_le.trans s4).seq gla) ((hid_le.trans s4).seq gfa) (lineB (by omega)) ?_ ?_
    · show 5 < 6; decide
    · show 4 < 6; decide
    · intro x H' R s' r
      exact ⟨_, rfl, pa, C, pdx, _, _, rfl, s' _ _ (s4 _ _ (hid_le _ _ gp)), TP.cl, TP.n1, plF_first, r⟩
    intro D H4 s5 d5
    have z4 := z3.same s5
    refine cat_read (B := True) z4 (Same.dp (same_hid s5) d3) d5 (by rw [List.length_append, List.length_map, List.length_map, List.length_map, cross_len]; omega) fun c' nc' H5 s6 z5 d6 => ?_
    have s46 : Same H2 H5 := s4.trans (s5.trans s6)
    have dpairs : Dp K (hid Z H5) (.ref c') (pairsD (catP W p).pairs) := by
      unfold pairsD catP
      dsimp only
      rw [List.map_append, List.map_append]
      exact d6
    -- first
    refine ⟨_, rfl, wa, C, wdx, _, _, rfl, s46 _ _ (hid_le _ _ gw), TP.cl, TP.n3, plF_empty, W.emp, rfl, ?_⟩
    have goLast : ∀ (v1 v2 : V) (H6 : Hp), Same H5 H6 → Dp K (hid Z H6) v1 (natD (catP W p).first) → Dp K (hid Z H6) v2 (natD (catP W p).last) →
        (tAsg (tMake C (spPl C) [.bl true] E0 (tCons (tVar 4) (tCons (tVar 5) (tCons (tAndV (tFld K (tVar 2) "is_empty") (tFld K (tVar 1) "is_empty")) (tCons (tVar 3) tNil))))) (gName 2))
          { nx := fun σ H2 => ∃ x1 wv x3 x4 x5, σ = [some (.ref a), x1, some wv, x3, x4, x5] ∧ Same H H2 ∧ PsAt K C (hid Z H2) wv (catP W p), rt := Q } [some (.ref a), some (.ref pa), some (.ref wa), some (.ref c'), some v1, some v2] H6 := by
      intro v1 v2 H6 s7 e1 e2
      have z6 := z5.same s7
      have fin : ∀ b, b = (W.emp && p.emp) → ∀ x dx, H6 x = none → H6 dx = none → dx ≠ x → spPl C (.ref x :: ([v1, v2, .bl b, .ref c'] ++ [.bl true])) (upd (upd H6 dx (.own x)) x (.ins C dx [])) (fun v H2 => v = .non ∧
          ∃ x1 wv x3 x4 x5, ([some (.ref a), some (.ref pa), some (.ref wa), some (.ref c'), some v1, some v2].set 2 (some (.ref x)) : L2.St) = [some (.ref a), x1, some wv, x3, x4, x5] ∧ Same H H2 ∧ PsAt K C (hid Z H2) wv (catP W p)) E0 := by
        rintro b rfl x dx nx nd ne
        refine pl_go (by rfl) ⟨rfl, some (.ref pa), .ref x, some (.ref c'), some v1, some v2, rfl, (s3.trans (s46.trans s7)).trans (same_mk nx nd), ?_⟩
        exact psAt_new (p := catP W p) z6 nx nd e1 e2 (Same.dp (same_hid s7) dpairs)
      refine ⟨_, rfl, _, rfl, _, rfl, wa, C, wdx, _, _, rfl, s7 _ _ (s46 _ _ (hid_le _ _ gw)), TP.cl, TP.n3, plF_empty, W.emp, rfl, ?_⟩
      cases hwe : W.emp with
      | true =>
        refine iteT ?_
        refine ⟨_, rfl, pa, C, pdx, _, _, rfl, s7 _ _ (s46 _ _ (hid_le _ _ gp)), TP.cl, TP.n3, plF_empty, _, rfl, fin _ ?_⟩
        rw [hwe]
        rfl
      | false =>
        refine iteF ?_
        refine ⟨_, rfl, fin _ ?_⟩
        rw [hwe]
        rfl
    have goFirst : ∀ (v1 : V) (H6 : Hp), Same H5 H6 → Dp K (hid Z H6) v1 (natD (catP W p).first) →
        (tSeq (tAsg (tIf (tB (tFld K (tVar 1) "is_empty")) (tOp (rCatL K) (tFld K (tVar 2) "last") (tFld K (tVar 1) "last")) (tFld K (tVar 1) "last")) (gName 5))
          (tAsg (tMake C (spPl C) [.bl true] E0 (tCons (tVar 4) (tCons (tVar 5) (tCons (tAndV (tFld K (tVar 2) "is_empty") (tFld K (tVar 1) "is_empty")) (tCons (tVar 3) tNil))))) (gName 2)))
          { nx := fun σ H2 => ∃ x1 wv x3 x4 x5, σ = [some (.ref a), x1, some wv, x3, x4, x5] ∧ Same H H2 ∧ PsAt K C (hid Z H2) wv (catP W p), rt := Q } [some (.ref a), some (.ref pa), some (.ref wa), some (.ref c'), some v1, x5] H6 := by
      intro v1 H6 s7 e1
      have z6 := z5.same s7
      have s47 := s46.trans s7
      refine ⟨_, rfl, pa, C, pdx, _, _, rfl, s47 _ _ (hid_le _ _ gp), TP.cl, TP.n3, plF_empty, p.emp, rfl, ?_⟩
      cases hpe : p.emp with
      | true =>
        refine iteT ?_
        refine ⟨_, rfl, wa, C, wdx, _, _, rfl, s47 _ _ (hid_le _ _ gw), TP.cl, TP.n2, plF_last, _, rfl, pa, C, pdx, _, _, rfl, s47 _ _ (hid_le _ _ gp), TP.cl, TP.n2, plF_last, ?_⟩
        refine cat_read (B := True) z6 (Same.dp (same_hid s47) hw2) (Same.dp (same_hid s47) hp2) (by simp only [zs, List.length_map]; omega) fun c2 nc2 H7 s8 z7 d7 => ?_
        refine goLast v1 (.ref c2) H7 (s7.trans s8) (Same.dp (same_hid s8) e1) ?_
        rw [show (catP W p).last = W.last ++ p.last by unfold catP; rw [hpe]; rfl, natD_app]
        exact d7
      | false =>
        refine iteF ?_
        refine ⟨_, rfl, pa, C, pdx, _, _, rfl, s47 _ _ (hid_le _ _ gp), TP.cl, TP.n2, plF_last, ?_⟩
        refine goLast v1 _ H6 s7 e1 ?_
        rw [show (catP W p).last = p.last by unfold catP; rw [hpe]; rfl]
        exact Same.dp (same_hid s47) hp2
    cases hwe : W.emp with
    | true =>
      refine iteT ?_
      refine ⟨_, rfl, wa, C, wdx, _, _, rfl, s46 _ _ (hid_le _ _ gw), TP.cl, TP.n1, plF_first, _, rfl, pa, C, pdx, _, _, rfl, s46 _ _ (hid_le _ _ gp), TP.cl, TP.n1, plF_first, ?_⟩
      refine cat_read (B := True) z5 (Same.dp (same_hid s46) hw1) (Same.dp (same_hid s46) hp1) (by simp only [zs, List.length_map]; omega) fun c2 nc2 H7 s8 z7 d7 => ?_
      refine goFirst (.ref c2) H7 s8 ?_
      rw [show (catP W p).first = W.first ++ p.first by unfold catP; rw [hwe]; rfl, natD_app]
      exact d7
    | false =>
      refine iteF ?_
      refine ⟨_, rfl, wa, C, wdx, _, _, rfl, s46 _ _ (hid_le _ _ gw), TP.cl, TP.n1, plF_first, ?_⟩
      refine goFirst _ H5 (Same.refl _) ?_
      rw [show (catP W p).first = W.first by unfold catP; rw [hwe]; rfl]
      exact Same.dp (same_hid s46) hw1
  · rintro σ H2 ⟨x1, wv, x3, x4, x5, rfl, s3, hW⟩
    rw [lp, List.take_length] at hW
    exact ⟨_, rfl, q _ _ s3 hW⟩
end
end Sk

set_option Elab.async false
set_option linter.all false
set_option maxRecDepth 100000
set_option maxHeartbeats 4000000
/-! Skewer, the walk: one_of. -/
namespace Sk
open PySem L2
theorem flat_take {α : Type} (f : Ps → List α) (ps : List Ps) {i : Nat} {p : Ps} (h : ps[i]? = some p) : (ps.take (i + 1)).flatMap f = (ps.take i).flatMap f ++ f p := by
  rw [List.take_add_one, h, List.flatMap_append]
  simp
theorem flatF : ∀ ps : List Ps, (ps.flatMap (·.first)).length = sumF ps
  | [] => rfl
  | p :: ps => by rw [List.flatMap_cons, List.length_append, flatF ps]; rfl
theorem flatL : ∀ ps : List Ps, (ps.flatMap (·.last)).length = sumL ps
  | [] => rfl
  | p :: ps => by rw [List.flatMap_cons, List.length_append, flatL ps]; rfl
theorem flatP : ∀ ps : List Ps, (ps.flatMap (·.pairs)).length = sumP ps
  | [] => rfl
  | p :: ps => by rw [List.flatMap_cons, List.length_append, flatP ps]; rfl
theorem pairsD_app (a b : List (Nat × Nat)) : pairsD (a ++ b) = .list (a.map pairD ++ b.map pairD) := by
  unfold pairsD
  rw [List.map_append]
section
variable {P : Program} {w : World} {K : PySem.W.Frag} {mg : Str → Option Value} {base : Heap} {f C : Addr} {fd : FuncData}
abbrev nOneOf : List Str := ["parts", "part", "first", "last", "pairs"]
theorem scOneOf : FnScope nOneOf ["parts"] (defScope sOneOf) := ⟨rfl, rfl, rfl, by decide +kernel, rfl, by decide +kernel, by decide +kernel⟩
theorem ok_oneOf {k : Nat} (F : Fun K "one_of" "one_of" sOneOf f fd) (T : Txt K mg) (TP : PlTxt P w K mg base k C) (CN : Callee P w K mg base (k + 2) "nothing" [] (spNothing K C)) : FnOk P w K mg base CX0 (k + 3) f fd ["parts"] (spParts K C oneOf) := by
  refine F.ok scOneOf (fun vs H Q E h => ?_) (fun cdv A outer s H vs Q E hr h => ?_)
  · obtain ⟨Z, a, xs, ps, rfl, _⟩ := h
    rfl
  obtain ⟨Z, a, xs, ps, rfl, hZ, ha, hp, hB, q⟩ := h
  have hr1 := hr.mono (show k + 1 ≤ k + 2 by omega)
  refine ⟨_, pss_cons (ps_if (pt_not (pt_val (pe_callB (cr_any rfl) (by rfl) T.any (by decide +kernel) (pa_cons (pe_lc (own := [("part", 1)]) (g := gName 1) (tt := tYes) (te := tFld K (tVar 1) "spells_any") (by rfl) scOneOf.nd (pi_list (pv 0))
      (blkOk_by (N := nOneOf) (sc := defScope sOneOf) (by decide +kernel)) (fun _ _ _ _ _ => pg_name (i := 1) scOneOf.nd rfl (Or.inl rfl)) (fun _ _ _ _ _ => pts_nil) (fun _ _ _ _ _ => pe_fld (pv 1) (by rfl))) pa_nil)))) (pss_one (ps_ret (pe_cal0 CN hr (by rfl)))) pss_nil)
    (pss_cons (ps_set (i := 2) scOneOf.nd rfl (.inl rfl) (pe_lst pa_nil))
    (pss_cons (ps_set (i := 3) scOneOf.nd rfl (.inl rfl) (pe_lst pa_nil))
    (pss_cons (ps_set (i := 4) scOneOf.nd rfl (.inl rfl) (pe_lst pa_nil))
    (pss_cons (ps_for PassesOwn.never rfl (pi_list (pv 0)) (pg_name (i := 1) scOneOf.nd rfl (.inl rfl))
      (pss_cons (ps_set (i := 2) scOneOf.nd rfl (.inl rfl) (pe_op op_catL (pv 2) (pe_fld (pv 1) rfl)))
      (pss_cons (ps_set (i := 3) scOneOf.nd rfl (.inl rfl) (pe_op op_catL (pv 3) (pe_fld (pv 1) rfl)))
      (pss_one (ps_set (i := 4) scOneOf.nd rfl (.inl rfl) (pe_op op_catL (pv 4) (pe_fld (pv 1) rfl)))))))
    (pss_one (ps_ret (pe_pl TP hr1 (by rfl) (pa_cons (pv 2) (pa_cons (pv 3) (pa_cons (pe_callB (cr_any rfl) (by rfl) T.any (by decide +kernel) (pa_cons (pe_lc (own := [("part", 1)]) (g := gName 1) (tt := tYes) (te := tFld K (tVar 1) "is_empty") (by rfl) scOneOf.nd (pi_list (pv 0))
      (blkOk_by (N := nOneOf) (sc := defScope sOneOf) (by decide +kernel)) (fun _ _ _ _ _ => pg_name (i := 1) scOneOf.nd rfl (Or.inl rfl)) (fun _ _ _ _ _ => pts_nil) (fun _ _ _ _ _ => pe_fld (pv 1) (by rfl))) pa_nil)) (pa_cons (pv 4) pa_nil))))))))))), ?_⟩
  have lp := hp.len
  refine ⟨_, rfl, a, rfl, ⟨xs, hid_le.seq ha⟩, fun D nD => ?_⟩
  refine bools_read (K := K) (ps.map (·.spells)) (by rw [List.length_map]; exact lp) (hid_le.seq ha) nD (by rw [List.length_map]; have := hB.n; omega) ?_ ?_
  · intro i x b H' R hx hb s r
    obtain ⟨p, hp1, hp2⟩ := hp.get hx
    rw [List.getElem?_map, hp1] at hb
    obtain rfl : p.spells = b := Option.some.inj hb
    obtain ⟨pa, pdx, p1, p2, p4, rfl, g, _⟩ := hp2.ex
    exact ⟨_, rfl, pa, C, pdx, _, _, rfl, s _ _ (hid_le _ _ g), TP.cl, TP.n5, plF_spells, r⟩
  intro H1 s1 hD
  refine ⟨D, _, rfl, hD, _, rfl, ?_⟩
  rw [List.any_map]
  have z1 := hZ.same s1
  by_cases hsp : ps.any (·.spells) = true
  rotate_left
  · have e : (ps.any (id ∘ (·.spells))) = false := Bool.eq_false_iff.mpr hsp
    rw [e]
    refine iteT ?_
    refine ⟨Z, rfl, z1, fun H' v s' hv => q H' v (s1.trans s') ?_⟩
    unfold oneOf
    rw [if_neg hsp]
    exact hv
  have e : (ps.any (id ∘ (·.spells))) = true := hsp
  rw [e]
  refine iteF ?_
  have eg : oneOf ps = altP ps := by unfold oneOf; rw [if_pos hsp]; rfl
  rw [eg] at q
  refine ⟨(by show 0 ≤ sizeLine; decide), fun a1 na1 => ⟨(by show 0 ≤ sizeLine; decide), fun a2 na2 => ⟨(by show 0 ≤ sizeLine; decide), fun a3 na3 => ?_⟩⟩⟩
  have t1 := same_new (o := .lst []) na1
  have t2 := same_new (o := .lst []) na2
  have t3 := same_new (o := .lst []) na3
  have y1 := z1.same t1
  have y2 := y1.same t2
  have s2 : Same H _ := s1.trans ((t1.trans t2).trans t3)
  refine ⟨_, rfl, a, rfl, ⟨xs, (hid_le.trans s2).seq ha⟩, ?_⟩
  refine for_list (K := K) (a := a) (xs := xs) (fun i σ H2 => ∃ x1 v2 v3 v4, σ = [some (.ref a), x1, some v2, some v3, some v4] ∧ Same H H2 ∧ Dp K (hid Z H2) v2 (natD ((ps.take i).flatMap (·.first))) ∧ Dp K (hid Z H2) v3 (natD ((ps.take i).flatMap (·.last))) ∧ Dp K (hid Z H2) v4 (pairsD ((ps.take i).flatMap (·.pairs)))) ?_ ?_ ?_ ?_
  · exact ⟨none, .ref a1, .ref a2, .ref a3, rfl, s2, Same.dp (same_hid (t2.trans t3)) (dp_new z1 na1 .nil), Same.dp (same_hid t3) (dp_new y1 na2 .nil), dp_new y2 na3 .nil⟩
  · rintro i σ H2 _ ⟨_, _, _, _, _, s3, _⟩
    exact (hid_le.trans s3).seq ha
  · rintro i xv σ H2 hi ⟨x1, v2, v3, v4, rfl, s3, e2, e3, e4⟩
    obtain ⟨p, hpi, hP⟩ := hp.get hi
    have mem : p ∈ ps := List.mem_of_getElem? hpi
    have hP := hP.up (same_hid s3)
    have c1 := Nat.le_trans (sumF_mem mem) hB.f
    have c2 := Nat.le_trans (sumL_mem mem) hB.l
    have c3 := Nat.le_trans (sumP_mem mem) hB.p
    have b1 := Nat.le_trans (sumF_take ps i) hB.f
    have b2 := Nat.le_trans (sumL_take ps i) hB.l
    have b3 := Nat.le_trans (sumP_take ps i) hB.p
    rw [← flatF] at b1
    rw [← flatL] at b2
    rw [← flatP] at b3
    obtain ⟨pa, pdx, p1, p2, p4, rfl, gp, hp1, hp2, hp4⟩ := hP.ex
    have zH := hZ.same s3
    refine ⟨_, rfl, _, rfl, pa, C, pdx, _, _, rfl, hid_le _ _ gp, TP.cl, TP.n1, plF_first, ?_⟩
    refine cat_read (B := True) zH e2 hp1 (by simp only [zs, List.length_map]; omega) fun c1 nc1 H3 u1 z3 d1 => ?_
    refine ⟨_, rfl, _, rfl, pa, C, pdx, _, _, rfl, u1 _ _ (hid_le _ _ gp), TP.cl, TP.n2, plF_last, ?_⟩
    refine cat_read (B := True) z3 (Same.dp (same_hid u1) e3) (Same.dp (same_hid u1) hp2) (by simp only [zs, List.length_map]; omega) fun c2 nc2 H4 u2 z4 d2 => ?_
    have u12 := u1.trans u2
    refine ⟨_, rfl, _, rfl, pa, C, pdx, _, _, rfl, u12 _ _ (hid_le _ _ gp), TP.cl, TP.n4, plF_pairs, ?_⟩
    refine cat_read (B := True) z4 (Same.dp (same_hid u12) e4) (Same.dp (same_hid u12) hp4) (by simp only [List.length_map]; omega) fun c3 nc3 H5 u3 z5 d3 => ?_
    refine ⟨some (.ref pa), .ref c1, .ref c2, .ref c3, rfl, s3.trans (u12.trans u3), ?_, ?_, ?_⟩
    · rw [flat_take _ _ hpi, natD_app]
      exact Same.dp (same_hid (u2.trans u3)) d1
    · rw [flat_take _ _ hpi, natD_app]
      exact Same.dp (same_hid u3) d2
    · rw [flat_take _ _ hpi, pairsD_app]
      exact d3
  · rintro σ H2 ⟨x1, v2, v3, v4, rfl, s3, e2, e3, e4⟩
    rw [lp, List.take_length] at e2 e3 e4
    refine ⟨_, rfl, _, rfl, _, rfl, a, rfl, ⟨xs, (hid_le.trans s3).seq ha⟩, fun D2 nD2 => ?_⟩
    refine bools_read (K := K) (ps.map (·.emp)) (by rw [List.length_map]; exact lp) ((hid_le.trans s3).seq ha) nD2 (by rw [List.length_map]; have := hB.n; omega) ?_ ?_
    · intro i x b H' R hx hb s r
      obtain ⟨p, hp1, hp2⟩ := hp.get hx
      rw [List.getElem?_map, hp1] at hb
      obtain rfl : p.emp = b := Option.some.inj hb
      obtain ⟨pa, pdx, p1, p2, p4, rfl, g, _⟩ := hp2.ex
      exact ⟨_, rfl, pa, C, pdx, _, _, rfl, s _ _ (s3 _ _ (hid_le _ _ g)), TP.cl, TP.n3, plF_empty, r⟩
    intro H3 s4 hD2
    refine ⟨D2, _, rfl, hD2, _, rfl, ?_⟩
    intro x dx nx nd ne
    refine pl_go (by rfl) ⟨rfl, ?_⟩
    refine q _ _ ((s3.trans s4).trans (same_mk nx nd)) ?_
    rw [List.any_map]
    exact psAt_new (p := altP ps) ((hZ.same s3).same s4) nx nd (Same.dp (same_hid s4) e2) (Same.dp (same_hid s4) e3) (Same.dp (same_hid s4) e4)
end
end Sk

set_option Elab.async false
set_option linter.all false
set_option maxRecDepth 100000
set_option maxHeartbeats 4000000
/-! Skewer, the walk: places. -/
namespace Sk
open PySem L2
theorem sq_le {a b : Nat} (h : a ≤ b) : a * a ≤ b * b := Nat.mul_le_mul h h
mutual
theorem places_size {α : Type} : ∀ (p : Pg α) (b : Nat), (places p b).first.length ≤ (stepsP p).length ∧ (places p b).last.length ≤ (stepsP p).length ∧ (places p b).pairs.length ≤ nodesP p * ((stepsP p).length * (stepsP p).length)
  | .st a, b => by simp [places, stepsP]
  | .rest, b => by simp [places, start]
  | .any p, b => by
    obtain ⟨h1, h2, h3⟩ := places_size p b
    simp only [places, stepsP, nodesP, List.length_append, cross_len]
    refine ⟨h1, h2, ?_⟩
    have e := Nat.mul_le_mul h2 h1
    rw [Nat.succ_mul]
    omega
  | .row ps, b => by
    obtain ⟨h1, h2, h3⟩ := placesL_size ps b
    simp only [places, stepsP, nodesP]
    unfold inOrder
    split
    · obtain ⟨g1, g2, g3⟩ := fold_size (placesL ps b) start 0 0 0 (Nat.le_refl _) (Nat.le_refl _) (Nat.le_refl _)
      refine ⟨by omega, by omega, Nat.le_trans g3 ?_⟩
      have e : (0 + sumL (placesL ps b)) * (0 + sumF (placesL ps b)) ≤ (stepsL ps).length * (stepsL ps).length := Nat.mul_le_mul (by omega) (by omega)
      rw [Nat.succ_mul]
      omega
    · exact ⟨Nat.zero_le _, Nat.zero_le _, Nat.zero_le _⟩
  | .alt ps, b => by
    obtain ⟨h1, h2, h3⟩ := placesL_size ps b
    simp only [places, stepsP, nodesP]
    unfold oneOf
    split
    · dsimp only
      rw [flatF, flatL, flatP, Nat.succ_mul]
      exact ⟨h1, h2, by omega⟩
    · exact ⟨Nat.zero_le _, Nat.zero_le _, Nat.zero_le _⟩
theorem placesL_size {α : Type} : ∀ (ps : List (Pg α)) (b : Nat), sumF (placesL ps b) ≤ (stepsL ps).length ∧ sumL (placesL ps b) ≤ (stepsL ps).length ∧ sumP (placesL ps b) ≤ nodesL ps * ((stepsL ps).length * (stepsL ps).length)
  | [], b => by simp [placesL, sumF, sumL, sumP]
  | p :: ps, b => by
    obtain ⟨h1, h2, h3⟩ := places_size p b
    obtain ⟨g1, g2, g3⟩ := placesL_size ps (b + (stepsP p).length)
    simp only [placesL, sumF, sumL, sumP, stepsL, nodesL, List.length_append]
    refine ⟨by omega, by omega, ?_⟩
    have e1 : nodesP p * ((stepsP p).length * (stepsP p).length) ≤ nodesP p * (((stepsP p).length + (stepsL ps).length) * ((stepsP p).length + (stepsL ps).length)) := Nat.mul_le_mul_left _ (sq_le (by omega))
    have e2 : nodesL ps * ((stepsL ps).length * (stepsL ps).length) ≤ nodesL ps * (((stepsP p).length + (stepsL ps).length) * ((stepsP p).length + (stepsL ps).length)) := Nat.mul_le_mul_left _ (sq_le (by omega))
    rw [Nat.add_mul]
    omega
end
theorem placesL_len {α : Type} : ∀ (ps : List (Pg α)) (b : Nat), (placesL ps b).length = ps.length
  | [], b => rfl
  | p :: ps, b => by simp only [placesL, List.length_cons, placesL_len ps]
theorem len_nodes {α : Type} : ∀ ps : List (Pg α), ps.length ≤ nodesL ps
  | [] => Nat.le_refl _
  | p :: ps => by
    have h1 := len_nodes ps
    have h2 : 1 ≤ nodesP p := by cases p <;> simp only [nodesP] <;> omega
    simp only [List.length_cons, nodesL]
    omega
theorem placesL_few {α : Type} {ps : List (Pg α)} (h : nodesL ps ≤ 60) (b : Nat) : Few (placesL ps b) := by
  obtain ⟨h1, h2, h3⟩ := placesL_size ps b
  have h4 := stepsL_le ps
  have h5 := len_nodes ps
  refine ⟨by omega, by omega, ?_, by rw [placesL_len]; omega⟩
  have e1 : (stepsL ps).length * (stepsL ps).length ≤ 60 * 60 := Nat.mul_le_mul (by omega) (by omega)
  have e2 : nodesL ps * ((stepsL ps).length * (stepsL ps).length) ≤ 60 * (60 * 60) := Nat.mul_le_mul h e1
  omega
theorem placesL_take {α : Type} : ∀ (ps : List (Pg α)) (b i : Nat) (p : Pg α), ps[i]? = some p → placesL (ps.take (i + 1)) b = placesL (ps.take i) b ++ [places p (b + (stepsL (ps.take i)).length)]
  | [], b, i, p, h => by simp at h
  | q :: ps, b, 0, p, h => by
    simp at h
    subst h
    simp [placesL, stepsL]
  | q :: ps, b, i + 1, p, h => by
    have ih := placesL_take ps (b + (stepsP q).length) i p (by simpa using h)
    simp only [List.take_succ_cons, placesL, ih, stepsL, List.length_append, List.cons_append]
    rw [Nat.add_assoc]
def spPlaces (K : PySem.W.Frag) (C : Addr) (n : Nat) : Sp := fun vs H Q _ => ∃ (Z : List Addr) (v : V) (b : Nat) (p : Prog), vs = [v, .int b] ∧ Dom Z H ∧ Dp K (hid Z H) v (progD p) ∧ depthP p ≤ n ∧ nodesP p ≤ 60 ∧
  ∀ H' r, Same H H' → PsAt K C (hid Z H') r (places p b) → Q r H'
section
variable {P : Program} {w : World} {K : PySem.W.Frag} {mg : Str → Option Value} {base : Heap} {f C : Addr} {fd : FuncData}
abbrev nPlaces : List Str := ["program", "before", "kind", "inner", "pairs", "parts", "part", "last", "first"]
theorem scPlaces : FnScope nPlaces ["program", "before"] (defScope sPlaces) := ⟨rfl, rfl, rfl, by decide +kernel, rfl, by decide +kernel, by decide +kernel⟩
theorem ok_places {k n j : Nat} (F : Fun K "places" "places" sPlaces f fd) (T : Txt K mg) (TP : PlTxt P w K mg base k C) (hj : k + 1 ≤ j)
    (CS : Callee P w K mg base j "steps_of" ["program"] (spSteps K n)) (CI : Callee P w K mg base j "in_order" ["parts"] (spParts K C inOrder)) (CO : Callee P w K mg base j "one_of" ["parts"] (spParts K C oneOf))
    (CP : Callee P w K mg base j "places" ["program", "before"] (spPlaces K C n)) : FnOk P w K mg base CX0 (j + 1) f fd ["program", "before"] (spPlaces K C (n + 1)) := by
  obtain ⟨aS, mS, tS⟩ := T.steps
  refine F.ok scPlaces (fun vs H Q E h => ?_) (fun cdv A outer s H vs Q E hr h => ?_)
  · obtain ⟨Z, v, b, p, rfl, _⟩ := h
    rfl
  obtain ⟨Z, v, b, p, rfl, hZ, hp, hd, hn, q⟩ := h
  have hr1 := hr.mono hj
  refine ⟨_, pss_cons (ps_set (i := 2) scPlaces.nd rfl (.inl rfl) (pe_ix ix_tup (pv 0) pe_int (fun _ _ => rfl)))
    (pss_cons (ps_if (pt_cmpR op_in_seq (pv 2) (pe_glob (v := .ref aS) rfl mS rfl) rfl) (pss_one (ps_ret (pe_pl TP hr1 (by rfl) (pa_cons (pe_lst (pa_cons (pe_op op_add (pv 1) pe_int) pa_nil)) (pa_cons (pe_lst (pa_cons (pe_op op_add (pv 1) pe_int) pa_nil)) (pa_cons pe_bl (pa_cons (pe_lst pa_nil) pa_nil))))))) pss_nil)
    (pss_cons (ps_if (pt_cmpR op_eq (pv 2) pe_str (nomark _)) (pss_one (ps_ret (pe_pl TP hr1 (by rfl) (pa_cons (pe_lst pa_nil) (pa_cons (pe_lst pa_nil) (pa_cons pe_bl (pa_cons (pe_lst pa_nil) pa_nil))))))) pss_nil)
    (pss_cons (ps_if (pt_cmpR op_eq (pv 2) pe_str (nomark _))
      (pss_cons (ps_set (i := 3) scPlaces.nd rfl (.inr rfl) (pe_cal CP hr (by rfl) (pa_cons (pe_ix ix_tup (pv 0) pe_int (fun _ _ => rfl)) (pa_cons (pv 1) pa_nil))))
      (pss_cons (ps_set (i := 4) scPlaces.nd rfl (.inl rfl) (pe_op op_catL (pe_fld (pv 3) rfl)
        (pe_lc2 (own := [("last", 7), ("first", 8)]) (vs1 := [8]) (g := gName 7) (g1 := gName 8) (tt := tYes) (tt1 := tYes) (wi1 := iList K (tFld K (tVar 3) "first")) (by rfl) scPlaces.nd (pi_list (pe_fld (pv 3) rfl)) (blkOk_by (N := nPlaces) (sc := defScope sPlaces) (by decide +kernel)) (by decide)
          (fun _ _ _ _ _ => pg_name (i := 7) scPlaces.nd rfl (Or.inl rfl)) (fun _ _ _ _ _ => pts_nil) (fun _ _ _ _ _ => pi_list (pe_fld (pv 3) (by rfl))) (fun _ _ _ _ _ => pg_name (i := 8) scPlaces.nd rfl (Or.inl rfl)) (fun _ _ _ _ _ => pts_nil)
          (fun _ _ _ _ _ => pe_tup (pa_cons (pv 7) (pa_cons (pv 8) pa_nil))))))
      (pss_one (ps_ret (pe_pl TP hr1 (by rfl) (pa_cons (pe_fld (pv 3) rfl) (pa_cons (pe_fld (pv 3) rfl) (pa_cons pe_bl (pa_cons (pv 4) pa_nil))))))))) pss_nil)
    (pss_cons (ps_set (i := 5) scPlaces.nd rfl (.inl rfl) (pe_lst pa_nil))
    (pss_cons (ps_for PassesOwn.never rfl (pi_list (pe_ix ix_tup (pv 0) pe_int (fun _ _ => rfl))) (pg_name (i := 6) scPlaces.nd rfl (.inl rfl))
      (pss_cons (ps_expr (pe_bm PySem.F.plainAttrs_list PySem.F.slot_list_append PySem.F.type_list_append mt_append (pv 5) (pa_cons (pe_cal CP hr (by rfl) (pa_cons (pv 6) (pa_cons (pv 1) pa_nil))) pa_nil)))
      (pss_one (ps_aug (i := 1) scPlaces.nd rfl (.inl rfl) (pe_callB call_len_seq (by rfl) T.len PySem.boot_len (pa_cons (pe_cal CS hr (by rfl) (pa_cons (pv 6) pa_nil)) pa_nil)) ip_add))))
    (pss_cons (ps_if (pt_cmpR op_eq (pv 2) pe_str (nomark _)) (pss_one (ps_ret (pe_cal CI hr (by rfl) (pa_cons (pv 5) pa_nil)))) pss_nil)
    (pss_one (ps_ret (pe_cal CO hr (by rfl) (pa_cons (pv 5) pa_nil)))))))))), ?_⟩
  rcases prog_cases hp with ⟨s1, a, rfl, rfl, hS⟩ | ⟨a, rfl, rfl, hS⟩ | ⟨p', a, x, rfl, rfl, hS, hx⟩ | ⟨kn, ps, a, l, xs, M⟩
  · -- a step
    refine ⟨_, rfl, a, _, _, _, rfl, rfl, seqT hid_le hS, at0, ?_⟩
    refine ⟨_, rfl, aS, _, rfl, .inr (tS _), rfl, rfl, _, rfl, ?_⟩
    dsimp only
    rw [if_neg Bool.false_ne_true, inV_strs, decide_eq_true s1.ok]
    refine iteT ?_
    refine ⟨_, rfl, b, 1, rfl, rfl, (by show 1 ≤ sizeLine; decide), fun a1 na1 => ⟨_, rfl, b, 1, rfl, rfl, (by show 1 ≤ sizeLine; decide), fun a2 na2 => ⟨(by show 0 ≤ sizeLine; decide), fun a3 na3 => fun x dx nx nd ne => pl_go (by rfl) ⟨rfl, ?_⟩⟩⟩⟩
    have t1 := same_new (o := .lst [.int (b + 1)]) na1
    have t2 := same_new (o := .lst [.int (b + 1)]) na2
    have t3 := same_new (o := .lst []) na3
    have y1 := hZ.same t1
    have y2 := y1.same t2
    have y3 := y2.same t3
    refine q _ _ (((t1.trans t2).trans t3).trans (same_mk nx nd)) ?_
    simp only [places]
    exact psAt_new (p := ⟨[b + 1], [b + 1], false, [], true⟩) y3 nx nd (Same.dp (same_hid (t2.trans t3)) (dp_new hZ na1 (.cons (.int _) .nil))) (Same.dp (same_hid t3) (dp_new y1 na2 (.cons (.int _) .nil))) (dp_new y2 na3 .nil)
  · -- rest
    refine ⟨_, rfl, a, _, _, _, rfl, rfl, seqT hid_le hS, at0, ?_⟩
    refine ⟨_, rfl, aS, _, rfl, .inr (tS _), rfl, rfl, _, rfl, ?_⟩
    dsimp only
    rw [if_neg Bool.false_ne_true, inV_strs, decide_eq_false (show ¬ ("rest" : Str) ∈ stepNames by decide +kernel)]
    refine iteF ?_
    refine ⟨_, rfl, rfl, _, rfl, ite2 (fun _ => ?_) (fun c => absurd (decide_eq_true rfl) c)⟩
    refine ⟨(by show 0 ≤ sizeLine; decide), fun a1 na1 => ⟨(by show 0 ≤ sizeLine; decide), fun a2 na2 => ⟨(by show 0 ≤ sizeLine; decide), fun a3 na3 => fun x dx nx nd ne => pl_go (by rfl) ⟨rfl, ?_⟩⟩⟩⟩
    have t1 := same_new (o := .lst []) na1
    have t2 := same_new (o := .lst []) na2
    have t3 := same_new (o := .lst []) na3
    have y1 := hZ.same t1
    have y2 := y1.same t2
    have y3 := y2.same t3
    refine q _ _ (((t1.trans t2).trans t3).trans (same_mk nx nd)) ?_
    simp only [places]
    exact psAt_new (p := start) y3 nx nd (Same.dp (same_hid (t2.trans t3)) (dp_new hZ na1 .nil)) (Same.dp (same_hid t3) (dp_new y1 na2 .nil)) (dp_new y2 na3 .nil)
  · -- any
    simp only [depthP] at hd
    simp only [nodesP] at hn
    refine ⟨_, rfl, a, _, _, _, rfl, rfl, seqT hid_le hS, at0, ?_⟩
    refine ⟨_, rfl, aS, _, rfl, .inr (tS _), rfl, rfl, _, rfl, ?_⟩
    dsimp only
    rw [if_neg Bool.false_ne_true, inV_strs, decide_eq_false (show ¬ ("any" : Str) ∈ stepNames by decide +kernel)]
    refine iteF ?_
    refine ⟨_, rfl, rfl, _, rfl, ite2 (fun c => absurd (of_decide_eq_true c) (by decide +kernel)) (fun _ => ?_)⟩
    refine ⟨_, rfl, rfl, _, rfl, ite2 (fun _ => ?_) (fun c => absurd (decide_eq_true rfl) c)⟩
    refine ⟨_, rfl, a, _, _, _, rfl, rfl, seqT hid_le hS, at1, _, rfl, ?_⟩
    refine ⟨Z, x, b, p', rfl, hZ, hx, by omega, by omega, fun H1 r s1 hr1 => ?_⟩
    have z1 := hZ.same s1
    obtain ⟨pa, pdx, p1, p2, p4, rfl, gp, hp1, hp2, hp4⟩ := hr1.ex
    obtain ⟨c1, c2, c3⟩ := places_size p' b
    have c4 := steps_le p'
    have c5 : (stepsP p').length * (stepsP p').length ≤ 60 * 60 := Nat.mul_le_mul (by omega) (by omega)
    have c6 : nodesP p' * ((stepsP p').length * (stepsP p').length) ≤ 60 * (60 * 60) := Nat.mul_le_mul (by omega) c5
    have c7 : (places p' b).last.length * (places p' b).first.length ≤ 60 * 60 := Nat.mul_le_mul (by omega) (by omega)
    obtain ⟨la, rfl, gla⟩ := intD_inv hp2
    obtain ⟨fa, rfl, gfa⟩ := intD_inv hp1
    refine ⟨_, rfl, pa, C, pdx, _, _, rfl, hid_le _ _ gp, TP.cl, TP.n4, plF_pairs, _, rfl, pa, C, pdx, _, _, rfl, hid_le _ _ gp, TP.cl, TP.n2, plF_last, la, rfl, ⟨_, hid_le.seq gla⟩, ?_⟩
    refine cross_read (K := K) (Z := Z) (l := (places p' b).last) (f := (places p' b).first) (i := 7) (j := 8) z1 (by decide) ?_ ?_ (hid_le.seq gla) (hid_le.seq gfa) (lineB (by omega)) ?_ ?_
    · show 7 < 9; decide
    · show 8 < 9; decide
    · intro x H' R s' r
      exact ⟨_, rfl, pa, C, pdx, _, _, rfl, s' _ _ (hid_le _ _ gp), TP.cl, TP.n1, plF_first, r⟩
    intro D H2 s2 d2
    refine cat_read (B := True) (z1.same s2) (Same.dp (same_hid s2) hp4) d2 (by rw [List.length_map, List.length_map, cross_len]; omega) fun c nc H3 s3 z3 d3 => ?_
    have s23 := s2.trans s3
    refine ⟨_, rfl, pa, C, pdx, _, _, rfl, s23 _ _ (hid_le _ _ gp), TP.cl, TP.n1, plF_first, _, rfl, pa, C, pdx, _, _, rfl, s23 _ _ (hid_le _ _ gp), TP.cl, TP.n2, plF_last, _, rfl, ?_⟩
    intro x dx nx nd ne
    refine pl_go (by rfl) ⟨rfl, ?_⟩
    refine q _ _ ((s1.trans s23).trans (same_mk nx nd)) ?_
    simp only [places]
    refine psAt_new (p := anyP (places p' b)) z3 nx nd (Same.dp (same_hid s23) hp1) (Same.dp (same_hid s23) hp2) ?_
    unfold anyP
    rw [pairsD_app]
    exact d3
  · -- row, either
    rw [M.depth] at hd
    rw [M.nodes] at hn
    refine ⟨_, rfl, a, _, _, _, M.v, rfl, seqT hid_le M.t, at0, ?_⟩
    refine ⟨_, rfl, aS, _, rfl, .inr (tS _), rfl, rfl, _, rfl, ?_⟩
    dsimp only
    rw [if_neg Bool.false_ne_true, inV_strs, decide_eq_false M.noStep]
    refine iteF ?_
    refine ⟨_, rfl, rfl, _, rfl, ite2 (fun c => absurd (of_decide_eq_true c) M.noRest) (fun _ => ?_)⟩
    refine ⟨_, rfl, rfl, _, rfl, ite2 (fun c => absurd (of_decide_eq_true c) M.noAny) (fun _ => ?_)⟩
    refine ⟨(by show 0 ≤ sizeLine; decide), fun D nD => ?_⟩
    have s1 := same_new (o := .lst []) nD
    refine ⟨_, rfl, a, _, _, _, M.v, rfl, seqT (hid_le.trans s1) M.t, at1, l, rfl, ⟨xs, (hid_le.trans s1).seq M.l⟩, ?_⟩
    refine for_list (K := K) (a := l) (xs := xs) (fun i σ H2 => ∃ x6 acc, σ = [some v, some (.int ((b + (stepsL (ps.take i)).length : Nat) : Int)), some (.str kn), none, none, some (.ref D), x6, none, none] ∧ Same H H2 ∧ H2 D = some (.lst acc) ∧ All2 (PsAt K C (hid (D :: Z) H2)) acc (placesL (ps.take i) b)) ?_ ?_ ?_ ?_
    · exact ⟨none, [], rfl, s1, upd_same, .nil⟩
    · rintro i σ H2 _ ⟨_, _, _, s3, _⟩
      exact (hid_le.trans s3).seq M.l
    · rintro i x σ H2 hi ⟨x6, acc, rfl, s3, gD, hA⟩
      obtain ⟨d, hd1, hd2⟩ := all_get M.d hi
      rw [List.getElem?_map] at hd1
      obtain ⟨p1, hp1, rfl⟩ := Option.map_eq_some_iff.mp hd1
      have mem : p1 ∈ ps := List.mem_of_getElem? hp1
      have d1 := depthL_mem mem
      have n1 := nodesL_mem mem
      have lA := hA.len
      rw [placesL_len, List.length_take] at lA
      have l60 := len_nodes ps
      have zD : Dom (D :: Z) H2 := (hZ.same s3).cons gD
      have DZ : D ∉ Z := hZ.out nD
      -- D is new: the parts lie apart from it
      have hx2 : Dp K (hid (D :: Z) H2) x (progD p1) := by
        refine Same.dp (fun c o e => ?_) hd2
        obtain ⟨e1, e2⟩ := hid_get e
        have ne : c ≠ D := ne_of_none e1 nD
        rw [hid_out (fun z => (List.mem_cons.mp z).elim ne e2)]
        exact s3 _ _ e1
      refine ⟨_, rfl, .inl ⟨rfl, _, .of gD⟩, _, rfl, _, rfl, D :: Z, x, _, p1, rfl, zD, hx2, by omega, by omega, fun H3 r s4 hr3 => ?_⟩
      refine ⟨D, acc, r, rfl, rfl, s4 _ _ gD, lineB (by omega), ?_⟩
      have s5 : Same H (upd H3 D (.lst (acc ++ [r]))) := same_put (s3.trans s4) nD
      refine ⟨_, rfl, _, rfl, Z, x, p1, rfl, hZ.same s5, Same.dp (same_hid s5) hd2, by omega, by omega, fun H6 r6 s6 hr6 => ?_⟩
      obtain ⟨b6, ys, rfl, hl6, ha6⟩ := list_inv hr6
      have z6 := all_len ha6
      rw [List.length_map] at z6
      refine ⟨b6, ys, rfl, .inl (hid_le.seq hl6), _, _, rfl, rfl, ?_⟩
      refine ⟨some x, acc ++ [r], ?_, s5.trans s6, s6 _ _ upd_same, ?_⟩
      · rw [z6, stepsL_take_succ ps i p1 hp1, List.length_append, ← Nat.add_assoc]
        rfl
      · rw [placesL_take ps b i p1 hp1]
        have e7 : Same (hid (D :: Z) H3) (hid (D :: Z) H6) := by
          have := same_hid (Z := D :: Z) s6
          rw [hid_upd (List.mem_cons_self ..)] at this
          exact this
        exact (hA.imp fun a b h => (h.up (same_hid s4)).up e7).snoc (hr3.up e7)
    · rintro σ H2 ⟨x6, acc, rfl, s3, gD, hA⟩
      have e : ps.take xs.length = ps := List.take_of_length_le (by have := all_len M.d; rw [List.length_map] at this; omega)
      rw [e] at hA
      have DZ : D ∉ Z := hZ.out nD
      have hA' : All2 (PsAt K C (hid Z H2)) acc (placesL ps b) := hA.imp fun a b h => h.up hid_cons
      have hD : SqL K (hid Z H2) D acc := .of (by rw [hid_out DZ]; exact gD)
      have few := placesL_few (ps := ps) (by omega) b
      have z2 := hZ.same s3
      refine ⟨_, rfl, rfl, _, rfl, ite2 (fun c => ?_) (fun c => ?_)⟩
      · refine ⟨_, rfl, Z, D, acc, _, rfl, z2, hD, hA', few, fun H' v s' hv => q H' v (s3.trans s') ?_⟩
        rcases M.k with ⟨_, rfl⟩ | ⟨rfl, _⟩
        · simp only [places]; exact hv
        · exact absurd (of_decide_eq_true c) (by decide +kernel)
      · refine ⟨_, rfl, Z, D, acc, _, rfl, z2, hD, hA', few, fun H' v s' hv => q H' v (s3.trans s') ?_⟩
        rcases M.k with ⟨rfl, _⟩ | ⟨_, rfl⟩
        · exact absurd (decide_eq_true rfl) c
        · simp only [places]; exact hv
end
end Sk

set_option Elab.async false
set_option linter.all false
set_option maxRecDepth 100000
set_option maxHeartbeats 4000000
/-! Skewer: a set comprehension with two sources, its elements ints: the rule that the layer lacks (two sources are told there of lists, one of sets). -/
namespace Sk
open PySem PySem.Spec PyProof.Rows L2
/-- an element that has come is put into the set at D -/
abbrev putS (w : World) (D : Addr) : V → Hp → (Hp → Prop) → Prop := fun y H N => ∃ (k : Int) (S : Int → Bool) (n : Nat), y = .int k ∧ H D = some (SetO w D S n) ∧ n + 1 < scanBound ∧
  N (upd H D (SetO w D (fun j => S j || decide (j = k)) (if S k = true then n else n + 1)))
theorem put_ok {X : Cx} {pins : List (Addr × Obj)} {σ : L2.St} {H : Hp} {s : Shared} {E : Value → Shared → Prop} {D : Addr} {y : V} {v : Value} {N : Hp → Prop} {Q : Value → Shared → Prop} (I : Inv X pins σ H s) (r : RelV y v) (h : putS X.w D y H N)
    (k : ∀ H' s', Inv X pins σ H' s' → N H' → Q .none s') : wpAny (model X.prog X.w) X.A (call (.builtin "set.add") [.ref D, v]) Q E s := by
  obtain ⟨z, S, n, rfl, hD, room, q⟩ := h
  obtain ⟨tk, rfl⟩ := r
  refine setR_add (setO_get I hD) room fun h' sb new => ?_
  obtain ⟨o, _, _, _, ho, _⟩ := id new
  exact k _ _ (I.write (e := D) (t' := s.toks + 1) (by rw [hD]; trivial) (.inl rfl) (fun b u hb hu => (sb.2 b hb).trans hu) ⟨o, ho⟩ (setO_new new)) q
/-- the tests of a clause, one after the other -/
abbrev testsOf' (ifs : List Expr) (env : Env) : Sem Bool := forIn ifs true fun c r => if r = true then do let ok ← isTrue c env (eval c env); pure (ForInStep.yield ok) else pure (ForInStep.yield r)
abbrev two (elt t0 i0 t1 i1 : Expr) (f0 f1 : List Expr) (scope : Scope) (pos : Pos) : Expr := .SetComp elt [⟨t0, i0, f0, 0⟩, ⟨t1, i1, f1, 0⟩] scope pos
section
variable {prog : Program} {w : World} {A : Around} {R : Result → Shared → Prop} {s : Shared} {elt t0 i0 t1 i1 : Expr} {f0 f1 : List Expr} {scope : Scope} {pos : Pos} {it acc : Value} {env : Env}
/-- a turn of the first source -/
def OutTurn (prog : Program) (w : World) (A : Around) (R : Result → Shared → Prop) (C : Expr) (t0 i1 : Expr) (f0 : List Expr) (it acc : Value) (env : Env) (Nx : Shared → Prop) (s : Shared) : Prop :=
  wpAny (model prog w) A (pyNext it) (fun r s1 => match r with
    | none => R (.ok .next) s1
    | some v => wpAny (model prog w) A (letOwnedTupleGo t0 it v) (fun _ s2 => wpAny (model prog w) A (assign t0 env v) (fun _ s3 => wpAny (model prog w) A (testsOf' f0 env) (fun b s4 =>
        if b = true then wpAny (model prog w) A (eval i1 env) (fun x s5 => wpAny (model prog w) A (pyIter x) (fun it1 s6 => codeAny (model prog w) A (.compStart C 1 it1 acc env) (fun r s' => match r with
          | .ok _ => Nx s'
          | .error _ => False) s6) (fun _ _ => False) s5) (fun _ _ => False) s4
        else Nx s4) (fun _ _ => False) s3) (fun _ _ => False) s2) (fun _ _ => False) s1) (fun _ _ => False) s
theorem never {α : Type} {t : Sem α} {Q : α → Shared → Prop} {E : Value → Shared → Prop} (h : wpAny (model prog w) A t Q (fun _ _ => False) s) : wpAny (model prog w) A t Q E s := wpAny_mono h (fun _ _ q => q) fun _ _ z => z.elim
theorem out_loop (hs : ∀ x, foldedSetIterable i1 env x = pure x) (I : Nat → Shared → Prop) (turn : ∀ n s, I n s → OutTurn prog w A R (two elt t0 i0 t1 i1 f0 f1 scope pos) t0 i1 f0 it acc env (fun s' => ∃ m, m < n ∧ I m s') s) (n : Nat) (h : I n s) :
    codeAny (model prog w) A (.compLoop (two elt t0 i0 t1 i1 f0 f1 scope pos) 0 it acc env) R s := by
  refine codeAny_loop rfl I (fun n s hI => ?_) n h
  refine wpAny_noted ?_
  have shape : compTurn (two elt t0 i0 t1 i1 f0 f1 scope pos) 0 it acc env = (do
      standAt i0.pos
      match ← pyNext it with
      | none => pure (.done .next)
      | some v =>
        letOwnedTupleGo t0 it v
        assign t0 env v
        let ok ← testsOf' f0 env
        if ok then
          let x ← eval i1 env
          standAt i1.pos
          let x ← foldedSetIterable i1 env x
          let _ ← runOwn (.compStart (two elt t0 i0 t1 i1 f0 f1 scope pos) 1 (← holding [x] (pyIter x)) acc env) env
        again (.compLoop (two elt t0 i0 t1 i1 f0 f1 scope pos) 0 it acc env)) := by rfl
  rw [shape]
  refine wpAny_bind (wpAny_standAt (wpAny_bind (wpAny_mono (never (turn n s hI)) (fun r s1 h1 => ?_) fun _ _ z => z)))
  cases r with
  | none => exact wpAny_pure h1
  | some v =>
    refine wpAny_bind (wpAny_mono (never h1) (fun _ s2 h2 => wpAny_bind (wpAny_mono (never h2) (fun _ s3 h3 => wpAny_bind (wpAny_mono (never h3) (fun b s4 h4 => ?_) fun _ _ z => z)) fun _ _ z => z)) fun _ _ z => z)
    cases b with
    | false => exact wpAny_pure ⟨rfl, h4⟩
    | true =>
      refine wpAny_bind (wpAny_mono (never h4) (fun x s5 h5 => ?_) fun _ _ z => z)
      refine wpAny_bind (wpAny_standAt (wpAny_bind (wpAny_of_eq (hs x) (wpAny_bind (wpAny_holding (wpAny_mono (never h5) (fun it1 s6 h6 => wpAny_bind (wpAny_runOwn ?_)) fun _ _ z => z))))))
      rw [Around.mark_none]
      refine codeAny_mono h6 fun r s' hr => ?_
      cases r with
      | error e => exact hr.elim
      | ok f => first
        | exact wpAny_pure ⟨rfl, hr⟩
        | exact wpAny_bind (wpAny_pure (wpAny_pure ⟨rfl, hr⟩))
/-- a turn of the second source -/
def InTurn (prog : Program) (w : World) (A : Around) (R : Result → Shared → Prop) (elt t1 : Expr) (f1 : List Expr) (it acc : Value) (env : Env) (Nx : Shared → Prop) (s : Shared) : Prop :=
  wpAny (model prog w) A (pyNext it) (fun r s1 => match r with
    | none => R (.ok .next) s1
    | some v => wpAny (model prog w) A (letOwnedTupleGo t1 it v) (fun _ s2 => wpAny (model prog w) A (assign t1 env v) (fun _ s3 => wpAny (model prog w) A (testsOf' f1 env) (fun b s4 =>
        if b = true then wpAny (model prog w) A (eval elt env) (fun x s5 => wpAny (model prog w) A (call (.builtin "set.add") [acc, x]) (fun _ s6 => Nx s6) (fun _ _ => False) s5) (fun _ _ => False) s4
        else Nx s4) (fun _ _ => False) s3) (fun _ _ => False) s2) (fun _ _ => False) s1) (fun _ _ => False) s
theorem in_loop (I : Nat → Shared → Prop) (turn : ∀ n s, I n s → InTurn prog w A R elt t1 f1 it acc env (fun s' => ∃ m, m < n ∧ I m s') s) (n : Nat) (h : I n s) :
    codeAny (model prog w) A (.compLoop (two elt t0 i0 t1 i1 f0 f1 scope pos) 1 it acc env) R s := by
  refine codeAny_loop rfl I (fun n s hI => ?_) n h
  refine wpAny_noted ?_
  have shape : compTurn (two elt t0 i0 t1 i1 f0 f1 scope pos) 1 it acc env = (do
      standAt i1.pos
      match ← pyNext it with
      | none => pure (.done .next)
      | some v =>
        letOwnedTupleGo t1 it v
        assign t1 env v
        let ok ← testsOf' f1 env
        if ok then
          (do let v ← eval elt env; standAt elt.pos; let _ ← call (.builtin "set.add") [acc, v])
        again (.compLoop (two elt t0 i0 t1 i1 f0 f1 scope pos) 1 it acc env)) := by rfl
  rw [shape]
  refine wpAny_bind (wpAny_standAt (wpAny_bind (wpAny_mono (never (turn n s hI)) (fun r s1 h1 => ?_) fun _ _ z => z)))
  cases r with
  | none => exact wpAny_pure h1
  | some v =>
    refine wpAny_bind (wpAny_mono (never h1) (fun _ s2 h2 => wpAny_bind (wpAny_mono (never h2) (fun _ s3 h3 => wpAny_bind (wpAny_mono (never h3) (fun b s4 h4 => ?_) fun _ _ z => z)) fun _ _ z => z)) fun _ _ z => z)
    cases b with
    | false => exact wpAny_pure ⟨rfl, h4⟩
    | true => exact wpAny_bind (wpAny_bind (wpAny_mono (never h4) (fun x s5 h5 => wpAny_bind (wpAny_standAt (wpAny_bind (wpAny_mono (never h5) (fun _ s6 h6 => wpAny_pure (wpAny_pure ⟨rfl, h6⟩)) fun _ _ z => z)))) fun _ _ z => z))
/-- how a clause begins: the iterator's own __iter__ -/
theorem start_of {n : Nat} (h0 : codeAny (model prog w) A (.compLoop (two elt t0 i0 t1 i1 f0 f1 scope pos) n it acc env) R s)
    (h : wpAny (model prog w) A (pyIter it) (fun it' s' => codeAny (model prog w) A (.compLoop (two elt t0 i0 t1 i1 f0 f1 scope pos) n it' acc env) R s') (notedBy (model prog w) A env fun x s' => R (.error x) s') s) (hn : n = 0 ∨ n = 1) :
    codeAny (model prog w) A (.compStart (two elt t0 i0 t1 i1 f0 f1 scope pos) n it acc env) R s := by
  rcases hn with rfl | rfl
  · exact PpSet.codeAny_compStart_set h0 h
  · refine codeAny_of_tree ?_
    refine wpAny_notedAt ?_
    unfold compStart
    refine wpAny_bind (wpAny_askSetting (wpAny_ite ?_))
    split
    · first
        | exact wpAny_bind (wpAny_pure (wpAny_pure ⟨rfl, h0⟩))
        | exact wpAny_pure ⟨rfl, h0⟩
    · refine wpAny_bind (wpAny_rule ?_)
      show wpAny _ _ (standAt i1.pos >>= _) _ _ s
      exact wpAny_bind (wpAny_standAt (wpAny_bind (wpAny_mono h (fun it' s' h' => wpAny_pure ⟨rfl, h'⟩) fun _ _ x => x)))
end
/-! ### the rule -/
section
variable {X : Cx}
/-- what the second source's loop asks, from its iterator J1 on: it is to reach Nx -/
def AskIn (w : World) (D : Addr) (g1 : TG) (tt1 : TT) (te : TE) (vs1 : List Nat) (Nx : Hp → Prop) (σ2 : L2.St) (J1 : It) (H4 : Hp) : Prop :=
  ∃ W1 : Nat → Nat → Hp → Prop, (∃ m, W1 0 m H4) ∧ ∀ j k H, W1 j k H → (J1.stop j H ∧ Nx H) ∨ (J1.go j H ∧ ∃ Nx1 : Hp → Prop, (∀ H', Nx1 H' → ∃ k', k' < k ∧ W1 (j + 1) k' H') ∧ ∀ x H', J1.yld j H x H' →
    g1 x (wipe σ2 vs1) H' fun σ3 H5 => wipe σ3 vs1 = wipe σ2 vs1 ∧ tt1 σ3 H5 fun b H6 => if b = true then te σ3 H6 fun y H7 => putS w D y H7 Nx1 else Nx1 H6)
def tSc2 (w : World) (wi : TI) (g : TG) (tt : TT) (wi1 : TI) (g1 : TG) (tt1 : TT) (te : TE) (vs vs1 : List Nat) : TE := fun σ H Q => wi σ H fun J H1 => ∀ D, H1 D = none →
  ∃ W : Nat → Nat → Hp → Prop, (∃ m, W 0 m (upd H1 D (SetO w D (fun _ => false) 0))) ∧ ∀ i m H, W i m H → (J.stop i H ∧ Q (.ref D) H) ∨ (J.go i H ∧ ∃ Nx : Hp → Prop, (∀ H', Nx H' → ∃ m', m' < m ∧ W (i + 1) m' H') ∧ ∀ x H', J.yld i H x H' →
    g x (wipe σ vs) H' fun σ2 H2 => wipe σ2 vs = wipe σ vs ∧ tt σ2 H2 fun b H3 => if b = true then wi1 σ2 H3 fun J1 H4 => AskIn w D g1 tt1 te vs1 Nx σ2 J1 H4 else Nx H3)
/-- the iterator's objects, pinned, stand behind whatever the turn did -/
theorem pins_stand {fp : List Addr} {pins : List (Addr × Obj)} {σ : L2.St} {H : Hp} {s s7 : Shared} (I : Inv X (pins ++ pinsAt fp s7.heap) σ H s) {b : Addr} (hb : b ∈ fp) {o : Obj} (e : s7.heap.get? b = some o) : s.heap.get? b = some o ∧ H b = none :=
  let z := I.pin (b, o) (List.mem_append_right _ (List.mem_append_right _ (mem_pinsAt hb e)))
  ⟨z.1, z.2.1⟩
/-- slots that know no less -/
def Knows (σ σ' : L2.St) : Prop := σ.length = σ'.length ∧ ∀ (j : Nat) v, σ[j]? = some (some v) → σ'[j]? = some (some v)
theorem Knows.weak {pins : List (Addr × Obj)} {σ σ' : L2.St} {H : Hp} {s : Shared} (k : Knows σ σ') (I : Inv X pins σ' H s) : Inv X pins σ H s := I.weak k.1 k.2
theorem knows_wipe (σ : L2.St) (vs : List Nat) : Knows (wipe σ vs) σ := ⟨wipe_length _ _, fun _ _ e => (wipe_some e).1⟩
theorem pe_sc2 {elt tg iter tg1 iter1 : Expr} {ifs ifs1 : List Expr} {scope : Scope} {own : List (PySem.Str × Nat)} {vs1 : List Nat} {pos : Pos} {wi wi1 : TI} {g g1 : TG} {tt tt1 : TT} {te : TE} (hc : X.calm = true) (hN : X.N.Nodup) (hi : PI X tg iter wi) (ok : BlkOk X.N X.env.scope scope own) (hv : ∀ i ∈ vs1, i ∈ own.map (·.2))
    (hg : ∀ (s : Shared) (H : Hp) (C : Addr) (cl : List (PySem.Str × Addr)) (fp : List Addr), PG (X.blk s H scope (compEnvC scope cl C X.env) fp) tg g)
    (ht : ∀ (s : Shared) (H : Hp) (C : Addr) (cl : List (PySem.Str × Addr)) (fp : List Addr), PTs (X.blk s H scope (compEnvC scope cl C X.env) fp) ifs tt)
    (hi1 : ∀ (s : Shared) (H : Hp) (C : Addr) (cl : List (PySem.Str × Addr)) (fp : List Addr), PI (X.blk s H scope (compEnvC scope cl C X.env) fp) tg1 iter1 wi1)
    (hg1 : ∀ (s : Shared) (H : Hp) (C : Addr) (cl : List (PySem.Str × Addr)) (fp : List Addr), PG (X.blk s H scope (compEnvC scope cl C X.env) fp) tg1 g1)
    (ht1 : ∀ (s : Shared) (H : Hp) (C : Addr) (cl : List (PySem.Str × Addr)) (fp : List Addr), PTs (X.blk s H scope (compEnvC scope cl C X.env) fp) ifs1 tt1)
    (he : ∀ (s : Shared) (H : Hp) (C : Addr) (cl : List (PySem.Str × Addr)) (fp : List Addr), PE (X.blk s H scope (compEnvC scope cl C X.env) fp) elt te) (hs : ∀ x, foldedSetIterable iter X.env x = pure x := by intro _; rfl) (hs1 : ∀ env x, foldedSetIterable iter1 env x = pure x := by intro _ _; rfl) :
    PE X (two elt tg iter tg1 iter1 ifs ifs1 scope pos) (tSc2 X.w wi g tt wi1 g1 tt1 te (own.map (·.2)) vs1) := by
  refine ⟨fun pins s σ H Q I h => ?_⟩
  rw [PpSet.eval_SetComp]
  have hfree : ∀ y ∈ scope.names, y.2 = .free → ∃ c, X.env.cells.lookup y.1 = some c := fun y hy e => (ok.free y hy e).elim (fun k => I.ok.has _ (.inl k)) fun k => I.ok.has _ (.inr k)
  refine wpAny_comprehension_free (use := none) rfl hs (closure_ok hfree) ok.kind (fun y hy e => by rw [ok.uniq y hy, e]) (thn (hi.run pins s σ H _ I h) fun xv s1 hx => thn hx fun itv s2 h2 => ?_)
  obtain ⟨it, fp, tn, J, H2, rfl, I2, T, st2, f2, q⟩ := h2
  refine PpSet.newSet_ok (newEnv_comp ?_)
  -- the new set at D
  generalize hD : s2.heap.objs.size = D
  obtain ⟨W, ⟨m0, w0⟩, turn⟩ := q D (I2.hok.fresh (Nat.le_of_eq hD))
  generalize hs3 : ({ s2 with heap := s2.heap.push { cls := .type "set", dict := none, data := .set #[] 0 (.fresh 0 0 (!X.w.params.followText "set-order")) } } : Shared) = s3
  generalize hH3 : upd H2 D (SetO X.w D (fun _ => false) 0) = H3 at w0
  have kp3 : ∀ b o, s2.heap.get? b = some o → s3.heap.get? b = some o := fun b o e => by rw [← hs3]; exact Heap.get?_push_of_some _ e
  have I3 : Inv X pins σ H3 s3 := by
    rw [← hs3, ← hH3]
    refine I2.laid (t' := s2.toks) (fun b o e => Heap.get?_push_of_some _ e) (Nat.le_of_eq hD) ?_
    rw [← hD]
    exact setO_new (setR_fresh X.w)
  have f3 : ∀ b ∈ fp, FpOk X pins H3 b ∧ b < s3.heap.objs.size := fun b hb => by
    obtain ⟨o, e, _⟩ := T.obj _ _ st2 b hb
    have hlt := Heap.lt_size e
    refine ⟨⟨?_, (f2 b hb).2⟩, Heap.lt_size (kp3 _ _ e)⟩
    rw [← hH3, upd_ne (by rw [← hD]; exact Nat.ne_of_lt hlt)]
    exact (f2 b hb).1
  -- the block
  have I4 := block_start I3 ok hN f3
  generalize hcl : cellsFrom (s3.heap.objs.size + 1) scope.names (cloFrom X.env.cells scope.names []) = cl at I4
  have pg := hg s3 H3 s3.heap.objs.size cl fp
  have pt := ht s3 H3 s3.heap.objs.size cl fp
  have pe := he s3 H3 s3.heap.objs.size cl fp
  have pi1 := hi1 s3 H3 s3.heap.objs.size cl fp
  have pg1 := hg1 s3 H3 s3.heap.objs.size cl fp
  have pt1 := ht1 s3 H3 s3.heap.objs.size cl fp
  show codeAny _ _ (.compStart (two elt tg iter tg1 iter1 ifs ifs1 scope pos) 0 (.ref it) (.ref D) (compEnvC scope cl s3.heap.objs.size X.env)) (compPost (model X.prog X.w) X.A X.xe none _ (.ref D) s3.heap.objs.size) { s3 with heap := pushCells (s3.heap.push { cls := .type "dict", data := .dict #[] }) scope.names }
  generalize hce : compEnvC scope cl s3.heap.objs.size X.env = ce at I4 pg pt pe pi1 pg1 pt1 ⊢
  have cL : ce.locals = s3.heap.objs.size := by subst hce; rfl
  generalize hs4 : ({ s3 with heap := pushCells (s3.heap.push { cls := .type "dict", data := .dict #[] }) scope.names } : Shared) = s4 at I4 ⊢
  have st4 : tn 0 s4.heap := T.keep _ _ _ st2 fun b _ o e => by rw [← hs4]; exact pushCells_keeps _ _ _ _ (Heap.get?_push_of_some _ (kp3 b o e))
  generalize hσ0 : wipe σ (own.map (·.2)) = σ0 at I4 turn
  -- the first source's objects stay apart
  have stat : ∀ {σ' : L2.St} {H' : Hp} {s' : Shared}, Inv (X.blk s3 H3 scope ce fp) [] σ' H' s' → (∀ b ∈ fp, H' b = none) → ∀ b ∈ fp, FpOk (X.blk s3 H3 scope ce fp) [] H' b := fun I' hn b hb =>
    ⟨hn b hb, (I'.ok.exf b hb).1, I'.ok.exfs b hb, .inl hb, fun x c e => (I'.ok.exf b hb).2 x c e, fun p hp => absurd (show p ∈ ([] : List (Addr × Obj)) ++ [] from hp) (by simp)⟩
  let Out : Nat → Shared → Prop := fun n s' => ∃ i H', Inv (X.blk s3 H3 scope ce fp) [] σ0 H' s' ∧ tn i s'.heap ∧ (∀ b ∈ fp, H' b = none) ∧ W i n H'
  have loop : codeAny (model X.prog X.w) X.A (.compLoop (two elt tg iter tg1 iter1 ifs ifs1 scope pos) 0 (.ref it) (.ref D) ce) (compPost (model X.prog X.w) X.A X.xe none (EP X pins σ Q) (.ref D) s3.heap.objs.size) s4 := by
    refine out_loop (hs1 ce) Out ?_ m0 ⟨0, H3, I4, st4, fun b hb => (f3 b hb).1.1, w0⟩
    rintro n s5 ⟨i, H5, I5, st5, n5, w5⟩
    rcases turn i n H5 w5 with ⟨stop, qq⟩ | ⟨go, Nx, hNx, step⟩
    · refine thn (T.done (X.blk s3 H3 scope ce fp) rfl rfl rfl hc i [] s5 _ H5 (fun _ _ => False) I5 (stat I5 n5) st5 stop) fun r s6 ⟨hr, I6⟩ => ?_
      subst hr
      -- back in the def
      have I7 : Inv X pins σ H5 s6 := I3.call' (ch := fp) I6.os I6.base I6.hok I6.bare fun b hb => ⟨(f3 b hb).1.2.2.2.1, (f3 b hb).1.2.1, (f3 b hb).1.2.2.2.2.1, (f3 b hb).1.2.2.2.2.2⟩
      have nC : H5 s3.heap.objs.size = none := by rw [← cL]; exact I6.free
      obtain ⟨m, hn, _⟩ := I6.loc
      refine ⟨m, by rw [← cL]; exact hn, fun h'' sb => ?_⟩
      obtain ⟨g0, g1', _, g3, g4, g5⟩ := I3.fpOk (Nat.le_refl _) nC
      exact ⟨.ref D, H5, I7.turned (t' := s6.toks) (fun b o hb e => (sb.2 b hb).trans e) g0 g1' g3 g4 g5, rfl, qq⟩
    · refine thn (T.item (X.blk s3 H3 scope ce fp) rfl rfl rfl hc i [] s5 _ H5 (fun _ _ => False) I5 (stat I5 n5) st5 go) fun r s6 ⟨u, hr, h6⟩ => ?_
      subst hr
      refine thn h6 fun _ s7 ⟨x, H7, I7, r7, y7, st7, n7⟩ => ?_
      have I7' := I7.pinned (stat I7 n7) (T.obj _ _ st7)
      refine thn (pg.run _ s7 _ H7 x u _ I7' r7 (step x H7 y7)) fun _ s8 ⟨σ8, H8, I8, hw8, q8⟩ => ?_
      refine thn (pt.run _ s8 σ8 H8 _ I8 q8) fun b s9 ⟨H9, I9, q9⟩ => ?_
      have k8 : Knows σ0 σ8 := by rw [← hw8]; exact knows_wipe _ _
      -- the turn's end
      have fin : ∀ {σ9 : L2.St} {s' : Shared} {H' : Hp}, Inv (X.blk s3 H3 scope ce fp) ([] ++ pinsAt fp s7.heap) σ9 H' s' → Knows σ0 σ9 → Nx H' → ∃ m, m < n ∧ Out m s' := fun {σ9 s' H'} I' k nx => by
        obtain ⟨m', hm, w'⟩ := hNx H' nx
        refine ⟨m', hm, i + 1, H', k.weak (I'.unpinned (pins := [])), T.keep _ _ _ st7 fun b hb o e => (pins_stand I' hb e).1, fun b hb => ?_, w'⟩
        obtain ⟨o, e, _⟩ := T.obj _ _ st7 b hb
        exact (pins_stand I' hb e).2
      have k9 : Knows σ0 (wipe σ8 vs1) := ⟨k8.1.trans (wipe_length _ _).symm, fun j v e => by
        rw [← hw8] at e
        obtain ⟨e1, e2⟩ := wipe_some e
        rw [wipe_out fun z => e2 (hv j z)]
        exact e1⟩
      cases b with
      | false => exact fin I9 k8 (by simpa using q9)
      | true =>
        have q9 : wi1 σ8 H9 fun J1 H4 => AskIn X.w D g1 tt1 te vs1 Nx σ8 J1 H4 := by simpa using q9
        show wpAny _ _ (eval iter1 ce) _ _ _
        refine thn (pi1.run _ s9 σ8 H9 _ I9 q9) fun xv s10 hx => thn hx fun itv s11 h11 => ?_
        obtain ⟨it1, fp1, tn1, J1, H11, rfl, I11, T1, st11, f11, W1, ⟨m1, w1⟩, turn1⟩ := h11
        have stat1 : ∀ {H' : Hp}, (∀ b ∈ fp1, H' b = none) → ∀ b ∈ fp1, FpOk (X.blk s3 H3 scope ce fp) ([] ++ pinsAt fp s7.heap) H' b := fun hn b hb => ⟨hn b hb, (f11 b hb).2⟩
        have loop1 : codeAny (model X.prog X.w) X.A (.compLoop (two elt tg iter tg1 iter1 ifs ifs1 scope pos) 1 (.ref it1) (.ref D) ce) (fun r s' => match r with
            | .ok _ => ∃ m, m < n ∧ Out m s'
            | .error _ => False) s11 := by
          refine in_loop (fun k s' => ∃ j H', Inv (X.blk s3 H3 scope ce fp) ([] ++ pinsAt fp s7.heap) (wipe σ8 vs1) H' s' ∧ tn1 j s'.heap ∧ (∀ b ∈ fp1, H' b = none) ∧ W1 j k H') ?_ m1 ⟨0, H11, (knows_wipe σ8 vs1).weak I11, st11, fun b hb => (f11 b hb).1, w1⟩
          rintro k s12 ⟨j, H12, I12, st12, n12, w12⟩
          rcases turn1 j k H12 w12 with ⟨stop1, nx1⟩ | ⟨go1, Nx1, hNx1, step1⟩
          · refine thn (T1.done (X.blk s3 H3 scope ce fp) rfl rfl rfl hc j _ s12 (wipe σ8 vs1) H12 (fun _ _ => False) I12 (stat1 n12) st12 stop1) fun r s13 ⟨hr, I13⟩ => ?_
            subst hr
            exact fin I13 k9 nx1
          · refine thn (T1.item (X.blk s3 H3 scope ce fp) rfl rfl rfl hc j _ s12 (wipe σ8 vs1) H12 (fun _ _ => False) I12 (stat1 n12) st12 go1) fun r s13 ⟨u1, hr, h13⟩ => ?_
            subst hr
            refine thn h13 fun _ s14 ⟨x1, H14, I14, r14, y14, st14, n14⟩ => ?_
            have I14' := I14.pinned (stat1 n14) (T1.obj _ _ st14)
            refine thn (pg1.run _ s14 (wipe σ8 vs1) H14 x1 u1 _ I14' r14 (step1 x1 H14 y14)) fun _ s15 ⟨σ15, H15, I15, hw15, q15⟩ => ?_
            refine thn (pt1.run _ s15 σ15 H15 _ I15 q15) fun b1 s16 ⟨H16, I16, q16⟩ => ?_
            have fin1 : ∀ H' s', Inv (X.blk s3 H3 scope ce fp) (([] ++ pinsAt fp s7.heap) ++ pinsAt fp1 s14.heap) σ15 H' s' → Nx1 H' → ∃ m, m < k ∧ ∃ j H', Inv (X.blk s3 H3 scope ce fp) ([] ++ pinsAt fp s7.heap) (wipe σ8 vs1) H' s' ∧ tn1 j s'.heap ∧ (∀ b ∈ fp1, H' b = none) ∧ W1 j m H' := fun H' s' I' nx => by
              obtain ⟨m', hm, w'⟩ := hNx1 H' nx
              refine ⟨m', hm, j + 1, H', Knows.weak (by rw [← hw15]; exact knows_wipe _ _) I'.unpinned, T1.keep _ _ _ st14 fun b hb o e => (pins_stand I' hb e).1, fun b hb => ?_, w'⟩
              obtain ⟨o, e, _⟩ := T1.obj _ _ st14 b hb
              exact (pins_stand I' hb e).2
            cases b1 with
            | false => exact fin1 _ _ I16 (by simpa using q16)
            | true =>
              have q16 : te σ15 H16 fun y H7 => putS X.w D y H7 Nx1 := by simpa using q16
              show wpAny _ _ (eval elt ce) _ _ _
              refine thn (pe.run _ s16 σ15 H16 _ I16 q16) fun z s17 ⟨yv, H17, I17, r17, p17⟩ => ?_
              exact put_ok (X := X.blk s3 H3 scope ce fp) I17 r17 p17 fin1
        exact start_of loop1 (T1.self X.A 0 _ _ _ st11 loop1) (.inr rfl)
  exact start_of loop (T.self X.A 0 _ _ _ st4 loop) (.inl rfl)
end
end Sk

set_option Elab.async false
set_option linter.all false
set_option maxRecDepth 100000
set_option maxHeartbeats 8000000
/-! Skewer: set(xs) of a list of ints, as a set that sorted takes; the room is that of the DIFFERENT ints (the layer's rules count the items). -/
namespace Sk
open PySem PySem.Spec PyProof.Rows L2
theorem nodup_le : ∀ (m : Nat) (l : List Int), l.Nodup → (∀ x ∈ l, 0 ≤ x ∧ x < (m : Int)) → l.length ≤ m
  | 0, l, _, h => by
    cases l with
    | nil => exact Nat.le_refl _
    | cons x r =>
      have := h x (List.mem_cons_self ..)
      omega
  | m + 1, l, hn, h => by
    have h1 : (l.erase (m : Int)).Nodup := hn.erase _
    have h2 : ∀ x ∈ l.erase (m : Int), 0 ≤ x ∧ x < (m : Int) := fun x hx => by
      have q := h x (List.mem_of_mem_erase hx)
      have n : x ≠ (m : Int) := fun e => (hn.not_mem_erase (a := (m : Int))) (e ▸ hx)
      omega
    have ih := nodup_le m _ h1 h2
    rw [List.length_erase] at ih
    split at ih <;> omega
/-- a set's members as a list -/
theorem set_card {w : World} {h : Heap} {a : Addr} {S : Int → Bool} {n : Nat} (R : SetR w h a S n) : ∃ l : List Int, l.Nodup ∧ l.length = n ∧ ∀ k, S k = true ↔ k ∈ l := by
  obtain ⟨o, es, ep, t, _, _, _, _, nd, mem, _, _, sz, _⟩ := R
  exact ⟨es.toList.map keyOf, nd, by rw [List.length_map, Array.length_toList]; exact sz, mem⟩
theorem set_small {w : World} {h : Heap} {a : Addr} {S : Int → Bool} {n m : Nat} (R : SetR w h a S n) (hS : ∀ k, S k = true → 0 ≤ k ∧ k < (m : Int)) : n ≤ m := by
  obtain ⟨l, nd, rfl, mem⟩ := set_card R
  exact nodup_le m l nd fun x hx => hS x ((mem x).mpr hx)
section
variable {P : Program} {w : World} {A : Around} {E : Value → Shared → Prop} {s : Shared}
/-- the loop of set.update, the members below 1000 -/
theorem fill_loop {I : Addr} {fp wr : List Addr} {G : Array GenState → Array GenState → Prop} {n : Nat} {Pv : Nat → Value → Prop} {St : Nat → Shared → Prop} {R : Result → Shared → Prop} (W : WalksS P w A.in1 I fp wr G n Pv St) (S : Addr) (hSf : S ∉ fp) (ns : List Int) (hn : n = ns.length)
    (hb : ∀ k ∈ ns, 0 ≤ k ∧ k < 1000) (hval : ∀ i v, Pv i v → ∃ k t, ns[i]? = some k ∧ v = .int k t) : ∀ (k i : Nat) (s : Shared), i + k = n → St i s → (∃ c, SetR w s.heap S (fun j => decide (j ∈ ns.take i)) c) →
      (∀ s' c, Moved (S :: wr) G s s' → SetR w s'.heap S (fun j => decide (j ∈ ns)) c → R (.ok (.ret .none)) s') → codeAny (model P w) A (.builtin "set.update.loop" ⟨[.ref S, .ref I], []⟩) R s := by
  have hSw : S ∉ wr := fun h => hSf (W.sub _ h)
  have sub : ∀ b ∈ wr, b ∈ S :: wr := fun b hb => List.mem_cons_of_mem _ hb
  intro k
  induction k with
  | zero =>
    rintro i s hi hst ⟨c, hS⟩ hR
    obtain rfl : i = n := hi
    rw [show ns.take i = ns from List.take_of_length_le (Nat.le_of_eq hn.symm)] at hS
    refine codeAny_builtin F.entry_set_update_loop ?_
    rw [Around.under_plainId F.plain_set_update_loop _]
    refine wpAny_bind (W.done s _ _ hst fun s' hm => ?_)
    exact wpAny_pure (hR s' c (hm.mono sub) (hS.at fun o e => hm.heap S o hSw e))
  | succ k ih =>
    rintro i s hi hst ⟨c, hS⟩ hR
    have hlt : i < n := by omega
    refine codeAny_builtin F.entry_set_update_loop ?_
    rw [Around.under_plainId F.plain_set_update_loop _]
    refine wpAny_bind (W.item i s _ _ hlt hst fun v s' hP hst' hm => ?_)
    obtain ⟨z, t, hz, rfl⟩ := hval i v hP
    have hS' : SetR w s'.heap S (fun j => decide (j ∈ ns.take i)) c := hS.at fun o e => hm.heap S o hSw e
    have room : c ≤ 1000 := set_small hS' fun q hq => hb q (List.mem_of_mem_take (of_decide_eq_true hq))
    show wpAny _ A.in1 (holding [Value.int z t] (setAdd S (.int z t)) >>= _) _ _ s'
    refine wpAny_bind (wpAny_holding ?_)
    unfold setAdd
    refine wpAny_holding (wpAny_bind ((intKind P w).pyHash (k := z) (intKind_is _ _ _ _) ?_))
    refine setR_add_hashed (s := { s' with toks := s'.toks + 1 }) hS' (by unfold scanBound; omega) fun h' sb hS2 => ?_
    have hS3 : SetR w h' S (fun j => decide (j ∈ ns.take (i + 1))) (if decide (z ∈ ns.take i) = true then c else c + 1) := hS2.congr fun j => by
      rw [List.take_add_one, hz]
      simp [List.mem_append]
    refine wpAny_pure ⟨plainId_quiet F.plain_set_update_loop _, ih (i + 1) _ (by omega) (W.frame _ s' _ _ hst' (Nat.le_succ _) fun b hb o e => ?_) ⟨_, hS3⟩ fun s'' c2 hm'' hS'' => ?_⟩
    · have n : b ≠ S := fun h => hSf (h ▸ hb)
      exact (sb.2 b n).trans e
    · refine hR s'' c2 (Moved.trans W.gtrans ((hm.mono sub).then_heap (Nat.le_succ _) fun b o hb e => ?_) hm'') hS''
      have n : b ≠ S := fun h => hb (h ▸ List.mem_cons_self ..)
      exact (sb.2 b n).trans e
/-- a set as set() makes it -/
abbrev freshObj (w : World) : Obj := { cls := .type "set", dict := none, data := .set #[] 0 (.fresh 0 0 (!w.params.followText "set-order")) }
theorem fresh_set {h : Heap} {a : Addr} {ns : List Int} (ho : h.get? a = some { cls := .type "set", dict := none, data := .set #[] 0 (.fresh 0 0 (!w.params.followText "set-order")) }) : SetR w h a (fun j => decide (j ∈ ns.take 0)) 0 :=
  setR_new_at ho
theorem call_setL {l : Addr} {items : Array Value} (ns : List Int) {Q : Value → Shared → Prop} (hh : A.handled = none) (hl : s.heap.IsList l items) (hit : IntsAre items.toList ns) (hb : ∀ k ∈ ns, 0 ≤ k ∧ k < 1000)
    (h : ∀ (h' : Heap) (tk c : Nat), SetR w h' s.heap.objs.size (fun j => decide (j ∈ ns)) c → (∀ b o, s.heap.get? b = some o → h'.get? b = some o) → Q (.ref s.heap.objs.size) { s with heap := h', toks := tk }) :
    wpAny (model P w) A (call (.type "set") [.ref l]) Q E s := by
  have hsz : items.size = ns.length := by
    have q := IntsAre.length hit
    rwa [Array.length_toList] at q
  obtain ⟨c, tl, hmro⟩ := F.called_set.mro
  have hmade := F.called_set.made
  have hsub := F.called_set.sub
  refine wpAny_call (codeAny_of_tree ?_)
  show wpAny _ _ (callAny (.type "set") _) _ _ _
  refine wpAny_pure ⟨Code.quiet_builtin _ (by decide +kernel), codeAny_builtin F.entry_type_call ?_⟩
  rw [Around.under_plain (weight_type_call_type "set" [.ref l] []) rfl]
  have h1 := F.called_set.notType
  have h2 := F.called_set.canCreate
  have hct := F.typeCall_set_1 (.ref l)
  repeat (any_goals (first | assumption | wp_step))
  refine codeAny_mono (code_set_led1 (.ref l) (E := E) (Q₁ := fun obj s1 => obj = .ref s.heap.objs.size ∧ s1 = { s with heap := s.heap.push (freshObj w) }) ⟨rfl, rfl⟩) fun r s1 hr => ?_
  cases r with
  | error e => exact hr
  | ok fl =>
    cases fl with
    | ret obj =>
      obtain ⟨rfl, rfl⟩ := hr
      have hS : (s.heap.push (freshObj w)).get? s.heap.objs.size = some (freshObj w) := Heap.get?_push_size _ rfl
      have hT : Shared.TypeIs { s with heap := s.heap.push (freshObj w) } (.ref s.heap.objs.size) "set" := ⟨_, hS, rfl⟩
      have hli := F.called_set.init.lookup
      have hbi := F.called_set.init.bind (.ref s.heap.objs.size)
      repeat (any_goals (first | assumption | wp_step))
      refine codeAny_mono (codeAny_call_builtin (R := wants (fun r s2 => r = .none ∧ ∃ h' tk c, s2 = { s with heap := h', toks := tk } ∧ SetR w h' s.heap.objs.size (fun j => decide (j ∈ ns)) c ∧ (∀ b o, s.heap.get? b = some o → h'.get? b = some o)) E)
        F.called_set.init.plain F.entry_set_init (check_set_init_1 hT ?_)) fun r2 s2 hr2 => ?_
      · obtain ⟨⟨oc, od, odata, osl⟩, hol, hcl, nl, hdl⟩ := hl
        dsimp only at hcl hdl
        subst hcl hdl
        have hol' : (s.heap.push (freshObj w)).get? l = some { cls := .type "list", dict := od, data := .seq items nl, slots := osl } := Heap.get?_push_of_some _ hol
        have hsls := F.sub_list_set
        have hslf := F.sub_list_frozenset
        have hne : (Value.type "list" == Value.type "dict") = false := by decide
        have hl1 : (s.heap.push (freshObj w)).IsList l items := ⟨_, hol', rfl, nl, rfl⟩
        unfold Builtin.«set.__init__» noKeywords Builtin.Frozenset.updateFrom
        generalize hPI : pyIter = PI
        wp_walk
        subst hPI
        refine wpAny_pyIter_list hl1 ?_
        refine wpAny_bind (wpAny_runValue ?_)
        have hlS : l < s.heap.objs.size := Heap.lt_size hol
        have hh3 : A.in1.in1.in1.handled = none := by simp [hh]
        have hneI : l ≠ (s.heap.push (freshObj w)).objs.size := by rw [Heap.size_push]; exact Nat.ne_of_lt (Nat.lt_succ_of_lt hlS)
        have hSf : s.heap.objs.size ∉ [(s.heap.push (freshObj w)).objs.size, l] := by
          rw [Heap.size_push]
          simp only [List.mem_cons, List.not_mem_nil, or_false, not_or]
          exact ⟨Nat.ne_of_lt (Nat.lt_succ_self _), Nat.ne_of_gt hlS⟩
        have hval : ∀ (i : Nat) (v : Value), items[i]? = some v → ∃ k t, ns[i]? = some k ∧ v = .int k t := fun i v hv => by
          have hi : i < ns.length := by rw [← hsz]; exact (Array.getElem?_eq_some_iff.mp hv).1
          obtain ⟨t, e⟩ := PyProof.Rows.IntsAre.int_at hit i v (by rw [Array.getElem?_toList]; exact hv)
          exact ⟨ns[i], t, List.getElem?_eq_getElem hi, by rw [e, List.getD_eq_getElem?_getD, List.getElem?_eq_getElem hi]; rfl⟩
        refine fill_loop ((Walks.list hh3 _ l hneI items).toS) s.heap.objs.size hSf ns hsz hb hval items.size 0 _ (Nat.zero_add _) ⟨⟨_, Heap.get?_push_size _ rfl, rfl, rfl⟩, (hl1.push _)⟩ ⟨0, ?_⟩ ?_
        · exact fresh_set (Heap.get?_push_of_some _ hS)
        · intro s' c' hm hS'
          obtain ⟨h', g2, d', tk', os'⟩ := s'
          obtain rfl : g2 = s.gens := hm.gens
          obtain rfl : d' = s.drawn := hm.drawn
          obtain rfl : os' = s.os := hm.os
          show wpAny _ _ _ _ _ _
          refine wpAny_pure ?_
          show wpAny _ _ (ret Value.none) _ _ _
          refine wpAny_pure ⟨rfl, h', tk', c', rfl, hS', fun b o e => ?_⟩
          have hb0 : b < s.heap.objs.size := Heap.lt_size e
          have hb2 : b ≠ (s.heap.push (freshObj w)).objs.size := by rw [Heap.size_push]; exact Nat.ne_of_lt (Nat.lt_succ_of_lt hb0)
          exact hm.heap b o (by simp only [List.mem_cons, List.not_mem_nil, or_false, not_or]; exact ⟨Nat.ne_of_lt hb0, hb2⟩) (Heap.get?_push_of_some _ (Heap.get?_push_of_some _ e))
      · cases r2 with
        | error e => exact hr2
        | ok fl2 =>
          cases fl2 with
          | ret r =>
            obtain ⟨rfl, h', tk, c', rfl, hS', hk'⟩ := hr2
            repeat (any_goals (first | assumption | wp_step))
            exact h _ _ _ hS' hk'
          | _ => exact hr2.elim
    | _ => exact hr.elim
end
section
variable {X : Cx}
/-- set(xs): its size is told as that of a list without twins -/
def rSetL (K : PySem.W.Frag) (w : World) : List V → Hp → VK → Prop := fun vs H Q => ∃ (a : Addr) (ns : List Int), vs = [.ref a] ∧ SqL K H a (ns.map V.int) ∧ (∀ k ∈ ns, 0 ≤ k ∧ k < 1000) ∧
  ∀ (p : Addr) (l : List Int), H p = none → l.Nodup → (∀ k, k ∈ l ↔ k ∈ ns) → Q (.ref p) (upd H p (SetO w p (fun j => decide (j ∈ ns)) l.length))
theorem cr_setL (hc : X.calm = true) : CallR X (.type "set") (rSetL X.K X.w) := by
  intro pins s σ H vs us Q I r h
  obtain ⟨a, ns, rfl, hs, hb, q⟩ := h
  obtain ⟨its, rv, hl, hz⟩ := I.list hs
  rw [Vals.ref1 r]
  refine call_setL ns (I.ok.hd hc) hl.isList (by simpa using rv.ints) hb fun h' tk c hS kp => ?_
  obtain ⟨l, nd, rfl, mem⟩ := set_card hS
  have hn : H s.heap.objs.size = none := I.hok.fresh (Nat.le_refl _)
  exact ⟨.ref _, _, I.laid (t' := tk) kp (Nat.le_refl _) (setO_new hS), rfl, q _ l hn nd fun k => by rw [← mem k]; exact ⟨of_decide_eq_true, decide_eq_true⟩⟩
end
end Sk

set_option Elab.async false
set_option linter.all false
/-! Skewer, the plain law: the built automaton as lists. -/
namespace Sk
section
variable {α : Type}
def colOf (ps : List (Nat × Nat)) (b : Nat) : List Nat := (ps.filter fun z => z.1 == b).map (·.2)
theorem mem_colOf {ps : List (Nat × Nat)} {b y : Nat} : y ∈ colOf ps b ↔ (b, y) ∈ ps := by
  unfold colOf
  simp only [List.mem_map, List.mem_filter, beq_iff_eq]
  constructor
  · rintro ⟨⟨x, z⟩, ⟨h, rfl⟩, rfl⟩; exact h
  · intro h; exact ⟨(b, y), ⟨h, rfl⟩, rfl⟩
theorem colOf_snoc (ps : List (Nat × Nat)) (z : Nat × Nat) (b : Nat) : colOf (ps ++ [z]) b = colOf ps b ++ (if z.1 = b then [z.2] else []) := by
  unfold colOf
  rw [List.filter_append, List.map_append]
  by_cases h : z.1 = b
  · simp [h]
  · simp [h]
/-- the places that come behind state s -/
def fols (pl : Ps) : Nat → List Nat
  | 0 => pl.first
  | s + 1 => colOf pl.pairs (s + 1)
def follow (pl : Ps) (n s : Nat) : List Nat := (List.range' 1 n).filter fun y => decide (y ∈ fols pl s)
def ent (xs : List α) (y : Nat) : Option (α × Nat) := (xs[y - 1]?).map fun a => (a, y)
def brow (xs : List α) (pl : Ps) (s : Nat) : List (α × Nat) := (follow pl xs.length s).filterMap (ent xs)
def brows (xs : List α) (pl : Ps) : List (List (α × Nat)) := (List.range (xs.length + 1)).map (brow xs pl)
def bends (xs : List α) (pl : Ps) : List Nat := (if pl.emp then [0] else []) ++ (List.range' 1 xs.length).filter fun y => decide (y ∈ pl.last)
theorem mem_range1 {n y : Nat} : y ∈ List.range' 1 n ↔ 1 ≤ y ∧ y ≤ n := by
  rw [List.mem_range'_1]
  omega
theorem fols_in {pl : Ps} {n s y : Nat} (h : In pl 0 n) (hy : y ∈ fols pl s) : 1 ≤ y ∧ y ≤ n := by
  cases s with
  | zero => have := h.f y hy; omega
  | succ s => have := (h.p _ (mem_colOf.mp hy)).2; exact ⟨by have := this.1; omega, this.2⟩
theorem mem_follow {pl : Ps} {n s y : Nat} (h : In pl 0 n) : y ∈ follow pl n s ↔ y ∈ fols pl s := by
  unfold follow
  rw [List.mem_filter, mem_range1, decide_eq_true_eq]
  exact ⟨fun z => z.2, fun z => ⟨fols_in h z, z⟩⟩
theorem range'_asc : ∀ (n s : Nat), (List.range' s n).Pairwise (· < ·)
  | 0, s => by simp
  | n + 1, s => by
    rw [List.range'_succ, List.pairwise_cons]
    exact ⟨fun y hy => by rw [List.mem_range'_1] at hy; omega, range'_asc n (s + 1)⟩
theorem follow_asc (pl : Ps) (n s : Nat) : (follow pl n s).Pairwise (· < ·) := (range'_asc n 1).filter _
/-- ascending lists with the same members -/
theorem asc_ext {β : Type} {lt : β → β → Prop} (irr : ∀ a, ¬ lt a a) (tr : ∀ a b c, lt a b → lt b c → lt a c) : ∀ {a b : List β}, a.Pairwise lt → b.Pairwise lt → (∀ k, k ∈ a ↔ k ∈ b) → a = b
  | [], [], _, _, _ => rfl
  | [], y :: b, _, _, h => by have := (h y).mpr (List.mem_cons_self ..); cases this
  | x :: a, [], _, _, h => by have := (h x).mp (List.mem_cons_self ..); cases this
  | x :: a, y :: b, ha, hb, h => by
    rw [List.pairwise_cons] at ha hb
    have e : x = y := by
      have h1 := (h x).mp (List.mem_cons_self ..)
      have h2 := (h y).mpr (List.mem_cons_self ..)
      rcases List.mem_cons.mp h1 with e | h1
      · exact e
      · rcases List.mem_cons.mp h2 with e | h2
        · exact e.symm
        · exact absurd (tr _ _ _ (ha.1 _ h2) (hb.1 _ h1)) (irr _)
    subst e
    rw [asc_ext irr tr ha.2 hb.2 fun k => ?_]
    constructor
    · intro hk
      rcases List.mem_cons.mp ((h k).mp (List.mem_cons_of_mem _ hk)) with e | q
      · subst e; exact absurd (ha.1 _ hk) (irr _)
      · exact q
    · intro hk
      rcases List.mem_cons.mp ((h k).mpr (List.mem_cons_of_mem _ hk)) with e | q
      · subst e; exact absurd (hb.1 _ hk) (irr _)
      · exact q
theorem ent_some {xs : List α} {y : Nat} (h1 : 1 ≤ y) (h2 : y ≤ xs.length) : ∃ a, xs[y - 1]? = some a ∧ ent xs y = some (a, y) := by
  have h : y - 1 < xs.length := by omega
  refine ⟨xs[y - 1], List.getElem?_eq_getElem h, ?_⟩
  unfold ent
  rw [List.getElem?_eq_getElem h]
  rfl
/-- the places with which a row can end, each once -/
theorem nodup_app {a b : List Nat} {m : Nat} (ha : a.Nodup) (hb : b.Nodup) (h1 : ∀ x ∈ a, x ≤ m) (h2 : ∀ x ∈ b, m < x) : (a ++ b).Nodup := by
  rw [List.nodup_append]
  exact ⟨ha, hb, fun x hx y hy e => by have := h1 x hx; have := h2 y hy; omega⟩
theorem cat_nodup {w p : Ps} {lo m hi : Nat} (a : In w lo m) (b : In p m hi) (h1 : w.last.Nodup) (h2 : p.last.Nodup) : (catP w p).last.Nodup := by
  unfold catP
  dsimp only
  split
  · exact nodup_app h1 h2 (fun x hx => (a.l x hx).2) fun x hx => (b.l x hx).1
  · exact h2
theorem fold_nodup : ∀ (ps : List Ps) (w : Ps) (lo m hi : Nat), lo ≤ m → In w lo m → InL ps m hi → w.last.Nodup → (∀ p ∈ ps, p.last.Nodup) → (ps.foldl catP w).last.Nodup
  | [], w, lo, m, hi, _, _, _, h, _ => h
  | p :: ps, w, lo, m, hi, h1, a, ⟨m', h2, b, r⟩, h, hp =>
    fold_nodup ps (catP w p) lo m' hi (Nat.le_trans h1 h2) (in_cat a b h1 h2) r (cat_nodup a b h (hp p (List.mem_cons_self ..))) fun q hq => hp q (List.mem_cons_of_mem _ hq)
theorem alt_nodup : ∀ (ps : List Ps) (lo hi : Nat), InL ps lo hi → (∀ p ∈ ps, p.last.Nodup) → (altP ps).last.Nodup
  | [], lo, hi, _, _ => List.nodup_nil
  | p :: ps, lo, hi, ⟨m, h1, a, r⟩, hp => by
    have b := in_alt ps m hi r
    show (p.last ++ (altP ps).last).Nodup
    exact nodup_app (hp p (List.mem_cons_self ..)) (alt_nodup ps m hi r fun q hq => hp q (List.mem_cons_of_mem _ hq)) (fun x hx => (a.l x hx).2) fun x hx => (b.l x hx).1
mutual
theorem last_nodup : ∀ (p : Pg α) (b : Nat), (places p b).last.Nodup
  | .st a, b => by simp [places]
  | .rest, b => by simp [places, start]
  | .any p, b => by simp only [places]; exact last_nodup p b
  | .row ps, b => by
    simp only [places]
    unfold inOrder
    split
    · exact fold_nodup _ _ b b _ (Nat.le_refl _) (in_start _ _) (placesL_in ps b) List.nodup_nil (lastL_nodup ps b)
    · exact List.nodup_nil
  | .alt ps, b => by
    simp only [places]
    unfold oneOf
    split
    · exact alt_nodup _ _ _ (placesL_in ps b) (lastL_nodup ps b)
    · exact List.nodup_nil
theorem lastL_nodup : ∀ (ps : List (Pg α)) (b : Nat), ∀ q ∈ placesL ps b, q.last.Nodup
  | [], b, q, h => by simp [placesL] at h
  | p :: ps, b, q, h => by
    simp only [placesL] at h
    rcases List.mem_cons.mp h with rfl | h
    · exact last_nodup p b
    · exact lastL_nodup ps _ q h
end
theorem places_in0 (p : Pg α) : In (places p 0) 0 (stepsP p).length := by
  have := places_in p 0
  rwa [Nat.zero_add] at this
end
end Sk

set_option Elab.async false
set_option linter.all false
set_option maxRecDepth 100000
set_option maxHeartbeats 4000000
/-! Skewer, the walk: Automaton, build_for. -/
namespace Sk
open PySem L2
/-! ### Automaton(..) -/
def auF (u1 u2 : V) : List (Str × V) := [("rows", u1), ("ends", u2)]
section
variable {u1 u2 : V}
theorem auF_rows : (auF u1 u2).lookup ("rows" : Str) = some u1 := look_hd
theorem auF_ends : (auF u1 u2).lookup ("ends" : Str) = some u2 := (look_tl (by decide +kernel)).trans look_hd
end
structure AutAt (K : PySem.W.Frag) (C : Addr) (H : Hp) (v : V) (rows : List (List (Step × Nat))) (ends : List Nat) : Prop where
  ex : ∃ a dx u1 u2, v = .ref a ∧ H a = some (.ins C dx (auF u1 u2)) ∧ Dp K H u1 (rowsD rows) ∧ Dp K H u2 (natD ends)
theorem AutAt.up {K : PySem.W.Frag} {C : Addr} {H H' : Hp} {v : V} {rows : List (List (Step × Nat))} {ends : List Nat} (h : AutAt K C H v rows ends) (e : Same H H') : AutAt K C H' v rows ends := by
  obtain ⟨a, dx, u1, u2, h1, h2, h3, h4⟩ := h.ex
  exact ⟨a, dx, u1, u2, h1, e _ _ h2, Same.dp e h3, Same.dp e h4⟩
def spAu (K : PySem.W.Frag) (C : Addr) : Sp := fun vs H Q _ => ∃ (Z : List Addr) (x dx : Addr) (v1 v2 : V) (rows : List (List (Step × Nat))) (ends : List Nat), vs = [.ref x, v1, v2] ∧ Dom Z H ∧ x ∈ Z ∧ H x = some (.ins C dx []) ∧ Dp K (hid Z H) v1 (rowsD rows) ∧ Dp K (hid Z H) v2 (natD ends) ∧ rows.length ≤ 1000 ∧
  ∀ H' u1 u2, But x H H' → H' x = some (.ins C dx (auF u1 u2)) → Dp K (hid Z H') u1 (rowsD rows) → Dp K (hid Z H') u2 (natD ends) → Q .non H'
abbrev auPs : List Str := ["self", "rows", "ends"]
structure AuTxt (P : Program) (w : World) (K : PySem.W.Frag) (mg : Str → Option Value) (base : Heap) (k : Nat) (C : Addr) : Prop where
  cl : Cls K C
  n1 : NoAttr K C "rows"
  n2 : NoAttr K C "ends"
  mgC : mg "Automaton" = some (.ref C)
  ex : ∃ f fd, Mk K C f ∧ FnOk P w K mg base CX0 k f fd auPs (spAu K C) ∧ Binds K fd auPs []
section
variable {X : Cx} {k : Nat} {C : Addr} {p pos : Pos} {e : Expr} {es : List Expr} {t : TA}
theorem pe_au (T : AuTxt X.prog X.w X.K X.mg X.base k C) (hr : Room (k + 1) X.A) (hg : Gl X "Automaton") (ha : PA X (e :: es) t)
    (he : starEach (e :: es) X.env = (false, eval e X.env) :: starEach es X.env := by rfl) (hpl : (backTo pos (starEach es X.env)).any (·.1) = false := by rfl) :
    PE X (.Call (.Name "Automaton" p) (e :: es) [] pos) (tMake C (spAu X.K C) [] E0 t) := by
  obtain ⟨f, fd, M, F, b⟩ := T.ex
  exact pe_make M F hr hg T.mgC b .nil pass0 ha (by decide) he hpl
end
/-- what the reading of Automaton(..) asks -/
theorem au_go {K : PySem.W.Frag} {C : Addr} {vs : List V} {Z : List Addr} {H : Hp} {R : VK} {E : XK} {x dx : Addr} {v1 v2 : V} {rows : List (List (Step × Nat))} {ends : List Nat} (nx : H x = none) (nd : H dx = none) (ne : dx ≠ x) (hv : vs = [.ref x, v1, v2]) (hZ : Dom Z H) (h1 : Dp K (hid Z H) v1 (rowsD rows)) (h2 : Dp K (hid Z H) v2 (natD ends)) (hl : rows.length ≤ 1000)
    (q : ∀ H', Same H H' → AutAt K C (hid Z H') (.ref x) rows ends → R .non H') : spAu K C vs (upd (upd H dx (.own x)) x (.ins C dx [])) R E := by
  have s : Same H (upd (upd H dx (.own x)) x (.ins C dx [])) := same_mk (C := C) (fs := []) nx nd
  have xZ : x ∉ Z := hZ.out nx
  have up : Same (hid Z H) (hid (x :: Z) (upd (upd H dx (.own x)) x (.ins C dx []))) := fun b o e => by
    obtain ⟨e1, e2⟩ := hid_get e
    rw [hid_out fun z => (List.mem_cons.mp z).elim (ne_of_none e1 nx) e2]
    exact s _ _ e1
  refine ⟨x :: Z, x, dx, v1, v2, rows, ends, hv, (hZ.same s).cons upd_same, List.mem_cons_self .., upd_same, Same.dp up h1, Same.dp up h2, hl, fun H' u1 u2 b hx d1 d2 => q H' (fun c o e => ?_) ⟨x, dx, u1, u2, rfl, by rw [hid_out xZ]; exact hx, Same.dp hid_cons d1, Same.dp hid_cons d2⟩⟩
  exact b.get (s _ _ e) (ne_of_none e nx)
section
variable {P : Program} {w : World} {K : PySem.W.Frag} {mg : Str → Option Value} {base : Heap} {f C : Addr} {fd : FuncData}
abbrev nAu : List Str := ["self", "rows", "ends", "row"]
theorem scAu : FnScope nAu auPs (defScope sAuto) := ⟨rfl, rfl, rfl, by decide +kernel, rfl, by decide +kernel, by decide +kernel⟩
theorem ok_au {n : Nat} (F : Fun K "__init__" "Automaton.__init__" sAuto f fd) (T : Txt K mg) (cl : Cls K C) (n1 : NoAttr K C "rows") (n2 : NoAttr K C "ends") : FnOk P w K mg base CX0 (n + 1) f fd auPs (spAu K C) := by
  refine F.ok scAu (fun vs H Q E h => ?_) (fun cdv A outer s H vs Q E hr h => ?_)
  · obtain ⟨Z, x, dx, v1, v2, rows, ends, rfl, _⟩ := h
    rfl
  obtain ⟨Z, x, dx, v1, v2, rows, ends, rfl, hZ, hxZ, hx, h1, h2, hl, q⟩ := h
  refine ⟨_, pss_cons (ps_fld (pv 0) (pe_lc (own := [("row", 3)]) (g := gName 3) (tt := tYes) (te := tCB (fun xs H Q => ∃ p ys, xs = [.ref p] ∧ (SqL K H p ys ∨ SqT K H p ys) ∧ ∀ l, H l = none → Q (.ref l) (upd H l (.lst ys))) (tCons (tVar 3) tNil)) (by rfl) scAu.nd (pi_list (pv 1))
      (blkOk_by (N := nAu) (sc := defScope sAuto) (by decide +kernel)) (fun _ _ _ _ _ => pg_name (i := 3) scAu.nd rfl (Or.inl rfl)) (fun _ _ _ _ _ => pts_nil) (fun _ _ _ _ _ => pe_callTy call_list_of (by rfl) T.list (by decide +kernel) (pa_cons (pv 3) pa_nil))) rfl)
    (pss_one (ps_fld (pv 0) (pe_callTy call_list_of (by rfl) T.list (by decide +kernel) (pa_cons (pv 2) pa_nil)) rfl)), ?_⟩
  obtain ⟨a, xs, rfl, ha, hxs⟩ := list_inv h1
  refine ⟨_, rfl, a, rfl, ⟨xs, hid_le.seq ha⟩, fun D nD => ?_⟩
  have lx := all_len hxs
  rw [List.length_map] at lx
  refine lc_list (K := K) (a := a) (xs := xs) (fun i H2 => GrowAt K Z D H H2 ((rows.take i).map rowD)) ?_ ?_ ?_ ?_
  · exact .start nD
  · intro i H2 _ g
    exact (hid_le.trans g.same).seq ha
  · intro i v H2 hi g
    refine ⟨rfl, ?_⟩
    obtain ⟨d, hd1, hd2⟩ := all_get hxs hi
    rw [List.getElem?_map] at hd1
    obtain ⟨r, hr1, rfl⟩ := Option.map_eq_some_iff.mp hd1
    obtain ⟨b, ys, rfl, hb, hys⟩ := list_inv hd2
    refine ⟨_, rfl, b, ys, rfl, .inl ((hid_le.trans g.same).seq hb), fun l nl => ?_⟩
    have zD := g.dom hZ
    have up : Same (hid Z H) (hid (D :: Z) H2) := fun c o e => by
      obtain ⟨e1, e2⟩ := hid_get e
      rw [hid_out fun z => (List.mem_cons.mp z).elim (ne_of_none e1 nD) e2]
      exact g.same _ _ e1
    show putL D _ _ fun H' => GrowAt K Z D H H' ((rows.take (i + 1)).map rowD)
    refine (g.keep (same_new nl)).put (d := rowD r) nD (dp_new zD nl (Same.all up hys)) ?_ fun H' g' => ?_
    · rw [List.length_map, List.length_take]
      exact line60 (by omega)
    · rw [List.take_add_one, hr1, List.map_append]
      exact g'
  · intro H2 g
    rw [lx, List.take_length] at g
    have d1 := g.done hZ nD
    have s2 := g.same
    refine ⟨_, rfl, x, C, dx, [], rfl, s2 _ _ hx, cl, n1, (by show 0 < 1000; decide), ?_⟩
    rw [putF_new _ _ _ (by show ¬ ("rows" : Str) ∈ ([] : List Str); decide +kernel)]
    have b2 : But x H (upd H2 x (.ins C dx ([] ++ [(("rows" : Str), V.ref D)]))) := But.upd (Same.but s2)
    obtain ⟨e, rfl, he⟩ := intD_inv h2
    have zx : Dom Z (upd H2 x (.ins C dx ([] ++ [(("rows" : Str), V.ref D)]))) := (hZ.same s2).upd
    have eq : hid Z (upd H2 x (.ins C dx ([] ++ [(("rows" : Str), V.ref D)]))) = hid Z H2 := hid_upd hxZ
    refine ⟨_, rfl, e, _, rfl, .inl ((hid_le.seq (by rw [eq]; exact (same_hid s2).seq he))), fun l nl => ?_⟩
    have nlx : x ≠ l := ne_of_none upd_same nl
    refine ⟨_, rfl, x, C, dx, _, rfl, by rw [upd_ne nlx]; exact upd_same, cl, n2, (by show 1 < 1000; decide), ?_⟩
    rw [putF_new _ _ _ (by show ¬ ("ends" : Str) ∈ (["rows"] : List Str); decide +kernel)]
    have eq2 : ∀ o, hid Z (upd (upd (upd H2 x (.ins C dx ([] ++ [(("rows" : Str), V.ref D)]))) l (.lst ((zs ends).map V.int))) x o) = hid Z (upd (upd H2 x (.ins C dx ([] ++ [(("rows" : Str), V.ref D)]))) l (.lst ((zs ends).map V.int))) := fun o => hid_upd hxZ
    refine q _ (.ref D) (.ref l) ?_ upd_same ?_ ?_
    · exact But.upd (b2.tr (Same.but (same_new nl)))
    · rw [eq2]
      refine Same.dp (same_hid (same_new nl)) ?_
      rw [eq]
      exact d1
    · rw [eq2]
      exact dp_new zx nl (all_ints _)
end
end Sk

set_option Elab.async false
set_option linter.all false
set_option maxRecDepth 100000
set_option maxHeartbeats 4000000
/-! Skewer, the walk: build_for. -/
namespace Sk
open PySem L2
theorem mem_zs {ns : List Nat} {k : Int} : k ∈ zs ns ↔ ∃ n : Nat, n ∈ ns ∧ k = (n : Int) := by
  unfold zs
  rw [List.mem_map]
  constructor
  · rintro ⟨n, h, e⟩; exact ⟨n, h, e.symm⟩
  · rintro ⟨n, h, e⟩; exact ⟨n, h, e.symm⟩
theorem zs_asc {ns : List Nat} (h : ns.Pairwise (· < ·)) : (zs ns).Pairwise (· < ·) := by
  unfold zs
  rw [List.pairwise_map]
  exact h.imp fun h => by omega
theorem asc_int {a b : List Int} (ha : a.Pairwise (· < ·)) (hb : b.Pairwise (· < ·)) (h : ∀ k, k ∈ a ↔ k ∈ b) : a = b := asc_ext (fun _ => Int.lt_irrefl _) (fun _ _ _ => Int.lt_trans) ha hb h
/-- an ascending list of ints that are places is that of the ascending places -/
theorem asc_zs {a : List Int} {b : List Nat} (ha : a.Pairwise (· < ·)) (hb : b.Pairwise (· < ·)) (h : ∀ k, k ∈ a ↔ k ∈ zs b) : a = zs b := asc_int ha (zs_asc hb) h
theorem ix_nat {n j : Nat} (h : j < n) : ixN n (j : Int) = some j := by
  unfold ixN
  rw [if_pos (Int.natCast_nonneg _), if_pos (by omega)]
  rfl
/-- the lists that follow, as they are filled: all new, each apart -/
structure Fol (H0 H : Hp) (rs : List Addr) (col : Nat → List Nat) : Prop where
  new : ∀ r ∈ rs, H0 r = none
  nd : rs.Nodup
  at_ : ∀ k r, rs[k]? = some r → H r = some (.lst ((zs (col (k + 1))).map V.int))
theorem small_int {m : Nat} {ns : List Nat} (h : ∀ y ∈ ns, y < m) (hm : m ≤ 1000) : ∀ k ∈ zs ns, 0 ≤ k ∧ k < 1000 := fun k hk => by
  obtain ⟨n, hn, rfl⟩ := mem_zs.mp hk
  have := h n hn
  omega
/-- the entries of a row, step by step -/
theorem ents_take {α : Type} {xs : List α} {ys : List Nat} {j y : Nat} {a : α} (h : ys[j]? = some y) (e : ent xs y = some (a, y)) : (ys.take (j + 1)).filterMap (ent xs) = (ys.take j).filterMap (ent xs) ++ [(a, y)] := by
  rw [List.take_add_one, h, List.filterMap_append]
  simp [e]
def spBuild (K : PySem.W.Frag) (C : Addr) : Sp := fun vs H Q _ => ∃ (Z : List Addr) (v : V) (p : Prog), vs = [v] ∧ Dom Z H ∧ Dp K (hid Z H) v (progD p) ∧ depthP p ≤ 6 ∧ nodesP p ≤ 60 ∧
  ∀ H' r, Same H H' → AutAt K C (hid Z H') r (brows (stepsP p) (places p 0)) (bends (stepsP p) (places p 0)) → Q r H'
section
variable {P : Program} {w : World} {K : PySem.W.Frag} {mg : Str → Option Value} {base : Heap} {f C CP : Addr} {fd : FuncData}
abbrev nBuild : List Str := ["program", "steps", "whole", "following", "before", "after", "rows", "ends", "_", "found", "place"]
theorem scBuild : FnScope nBuild ["program"] (defScope sBuildFor) := ⟨rfl, rfl, rfl, by decide +kernel, rfl, by decide +kernel, by decide +kernel⟩
abbrev teEnt (K : PySem.W.Frag) : TE := tTup (tCons (tOp (rIxL K) (tVar 1) (tOp (rI0 fun i j => .int (i - j)) (tVar 10) (tC (.int 1)))) (tCons (tVar 10) tNil))
abbrev wiSorted (w : World) (K : PySem.W.Frag) : TI := iList K (tCB (rSortedSet w) (tCons (tCB (rSetL K w) (tCons (tVar 9) tNil)) tNil))
def lcScope : Expr → Scope
  | .ListComp _ _ sc _ => sc
  | _ => { kind := .function, names := [], isGenerator := false, isCoroutine := false }
def asgVal : Stmt → Expr
  | .Assign _ v _ => v
  | _ => .Constant .none 0 ⟨0, 0, 0, 0⟩
theorem ok_build {j k ka : Nat} (F : Fun K "build_for" "build_for" sBuildFor f fd) (T : Txt K mg) (TP : PlTxt P w K mg base k CP) (TA : AuTxt P w K mg base ka C) (hj : ka + 1 ≤ j)
    (CS : Callee P w K mg base j "steps_of" ["program"] (spSteps K 6)) (CPl : Callee P w K mg base j "places" ["program", "before"] (spPlaces K CP 6)) : FnOk P w K mg base CX0 (j + 1) f fd ["program"] (spBuild K C) := by
  refine F.ok scBuild (fun vs H Q E h => ?_) (fun cdv A outer s H vs Q E hr h => ?_)
  · obtain ⟨Z, v, p, rfl, _⟩ := h
    rfl
  obtain ⟨Z, v, p, rfl, hZ, hp, hd, hn, q⟩ := h
  have hr1 := hr.mono hj
  refine ⟨_, pss_cons (ps_set (i := 1) scBuild.nd rfl (.inr rfl) (pe_cal CS hr (by rfl) (pa_cons (pv 0) pa_nil)))
    (pss_cons (ps_set (i := 2) scBuild.nd rfl (.inl rfl) (pe_cal CPl hr (by rfl) (pa_cons (pv 0) (pa_cons pe_int pa_nil))))
    (pss_cons (ps_setLc (i := 3) (own := [("_", 8)]) (g := gName 8) (tt := tYes) (by rfl) scBuild.nd rfl rfl (sw_true rfl rfl rfl (by decide +kernel)) (pi_range1 (by rfl) T.range (pa_cons (pe_op op_add (pe_callB call_len_seq (by rfl) T.len PySem.boot_len (pa_cons (pv 1) pa_nil)) pe_int) pa_nil))
      (blkOk_by (N := nBuild) (sc := defScope sBuildFor) (by decide +kernel)) (fun _ _ _ _ _ => pg_name (i := 8) scBuild.nd rfl (Or.inl rfl)) (fun _ _ _ _ _ => pts_nil) (fun _ _ _ _ _ => pe_lst pa_nil))
    (pss_cons (ps_asg (pe_fld (pv 2) rfl) (pg_sub (pv 3) pe_int set_list))
    (pss_cons (ps_for PassesOwn.never rfl (pi_list (pe_fld (pv 2) rfl)) (pg_tup rfl (pgs_cons (pg_name (i := 4) scBuild.nd rfl (.inl rfl)) (pgs_cons (pg_name (i := 5) scBuild.nd rfl (.inl rfl)) pgs_nil)))
      (pss_one (ps_expr (pe_bm PySem.F.plainAttrs_list PySem.F.slot_list_append PySem.F.type_list_append mt_append (pe_ix ix_list (pv 3) (pv 4) (fun _ _ => rfl)) (pa_cons (pv 5) pa_nil)))))
    (pss_cons (ps_setLc (i := 6) (own := [("found", 9)]) (g := gName 9) (tt := tYes) (te := tLc (wiSorted w K) (gName 10) tYes (teEnt K) [10]) (by rfl) scBuild.nd rfl rfl (sw_true rfl rfl rfl (by decide +kernel)) (pi_list (pv 3))
      (blkOk_by (N := nBuild) (sc := defScope sBuildFor) (by decide +kernel)) (fun _ _ _ _ _ => pg_name (i := 9) scBuild.nd rfl (Or.inl rfl)) (fun _ _ _ _ _ => pts_nil)
      (fun _ _ _ _ _ => pe_lc (own := [("place", 10)]) (g := gName 10) (tt := tYes) (te := teEnt K) (by rfl) scBuild.nd (pi_list (pe_callB (cr_sortedSet (by rfl)) (by rfl) T.sorted (by decide +kernel) (pa_cons (pe_callTy (cr_setL (by rfl)) (by rfl) T.set (by decide +kernel) (pa_cons (pv 9) pa_nil)) pa_nil)))
        (blkOk_by (N := nBuild) (sc := relS (lcScope (asgVal ((defBody sBuildFor).getD 5 (.Pass ⟨0, 0, 0, 0⟩)))) (defScope sBuildFor)) (by decide +kernel)) (fun _ _ _ _ _ => pg_name (i := 10) scBuild.nd rfl (Or.inl rfl)) (fun _ _ _ _ _ => pts_nil)
        (fun _ _ _ _ _ => pe_tup (pa_cons (pe_ix ix_list (pv 1) (pe_op op_sub (pv 10) pe_int) (fun _ _ => rfl)) (pa_cons (pv 10) pa_nil)))))
    (pss_cons (ps_set (i := 7) scBuild.nd rfl (.inl rfl) (pe_callB cr_sortedI (by rfl) T.sorted (by decide +kernel) (pa_cons (pe_fld (pv 2) rfl) pa_nil)))
    (pss_one (ps_ret (pe_au TA hr1 (by rfl) (pa_cons (pv 6) (pa_cons (pe_ifExp (pt_val (pe_fld (pv 2) rfl)) (pe_op op_catL (pe_lst (pa_cons pe_int pa_nil)) (pv 7)) (pv 7)) pa_nil))))))))))), ?_⟩
  -- steps, whole
  refine ⟨_, rfl, Z, v, p, rfl, hZ, hp, by omega, by omega, fun H1 sv s1 hsv => ?_⟩
  refine ⟨_, rfl, Z, v, 0, p, rfl, hZ.same s1, Same.dp (same_hid s1) hp, hd, hn, fun H2 wv s2 hw => ?_⟩
  have z2 := (hZ.same s1).same s2
  have s12 := s1.trans s2
  obtain ⟨sa, sxs, rfl, gs, hs⟩ := list_inv (Same.dp (same_hid s2) hsv)
  obtain ⟨wa, wdx, w1, w2, w4, rfl, gw, hw1, hw2, hw4⟩ := hw.ex
  have ls := all_len hs
  rw [List.length_map] at ls
  have n60 := steps_le p
  have hin := places_in0 p
  have hnd := last_nodup p 0
  obtain ⟨c1, c2, c3⟩ := places_size p 0
  have c5 : (stepsP p).length * (stepsP p).length ≤ 60 * 60 := Nat.mul_le_mul (by omega) (by omega)
  have c6 : nodesP p * ((stepsP p).length * (stepsP p).length) ≤ 60 * (60 * 60) := Nat.mul_le_mul (by omega) c5
  have c7 : (places p 0).pairs.length ≤ 216000 := by omega
  generalize hpl : places p 0 = pl at hw1 hw2 hw4 hin hnd c1 c2 c7 q gw
  generalize hst : stepsP p = st at hs ls n60 hin c1 c2 q
  obtain ⟨fa, rfl, gfa⟩ := intD_inv hw1
  obtain ⟨la, rfl, gla⟩ := intD_inv hw2
  obtain ⟨pa, pxs, rfl, gpa, hpa⟩ := list_inv hw4
  -- following
  refine ⟨_, rfl, sa, sxs, rfl, .inl (hid_le.seq gs), _, 1, rfl, rfl, _, rfl, by omega, by omega, fun D nD => ?_⟩
  refine lc_range (lo := 0) (n := ((sxs.length : Int) + 1).toNat) (fun i H3 => ∃ rs : List Addr, H3 D = some (.lst (rs.map V.ref)) ∧ rs.length = i ∧ rs.Nodup ∧ D ∉ rs ∧ (∀ r ∈ rs, H3 r = some (.lst [])) ∧ (∀ r ∈ rs, H2 r = none) ∧ Same H2 H3) ?_ ?_ ?_
  · exact ⟨[], upd_same, rfl, List.nodup_nil, fun h => (nomatch h), fun _ h => (nomatch h), fun _ h => (nomatch h), same_new nD⟩
  · rintro i H3 hi ⟨rs, e1, e2, e3, e4, e5, e6, e7⟩
    refine ⟨rfl, (by show 0 ≤ sizeLine; decide), fun l nl => ?_⟩
    have lD : D ≠ l := ne_of_none e1 nl
    have lr : ∀ r ∈ rs, r ≠ l := fun r hr => ne_of_none (e5 r hr) nl
    refine ⟨rs.map V.ref, by rw [upd_ne lD]; exact e1, line60 (by rw [List.length_map]; omega), rs ++ [l], by rw [upd_same, List.map_append]; rfl, by rw [List.length_append, e2]; rfl, ?_, ?_, ?_, ?_, ?_⟩
    · rw [List.nodup_append]
      exact ⟨e3, by simp, fun x hx y hy => by rw [List.mem_singleton.mp hy]; exact lr x hx⟩
    · intro h
      rcases List.mem_append.mp h with h | h
      · exact e4 h
      · exact lD (List.mem_singleton.mp h)
    · intro r hr
      rcases List.mem_append.mp hr with h | h
      · rw [upd_ne (show r ≠ D from fun e => e4 (by rw [← e]; exact h)), upd_ne (lr r h)]
        exact e5 r h
      · rw [List.mem_singleton.mp h, upd_ne lD.symm, upd_same]
    · intro r hr
      rcases List.mem_append.mp hr with h | h
      · exact e6 r h
      · rw [List.mem_singleton.mp h]
        exact e7.free nl
    · exact same_put (e7.trans (same_new nl)) nD
  rintro H3 ⟨rs0, e1, e2, e3, e4, e5, e6, e7⟩
  obtain ⟨r0, rs, rfl⟩ : ∃ r0 rs, rs0 = r0 :: rs := by
    cases rs0 with
    | nil => rw [List.length_nil] at e2; omega
    | cons r0 rs => exact ⟨r0, rs, rfl⟩
  rw [List.length_cons] at e2
  have lrs : rs.length = st.length := by omega
  -- following[0] = whole.first
  refine ⟨_, rfl, wa, CP, wdx, _, _, rfl, e7 _ _ (hid_le _ _ gw), TP.cl, TP.n1, plF_first, _, rfl, D, _, 0, 0, rfl, rfl, e1, ix_nat (j := 0) (by rw [List.length_map, List.length_cons]; omega), ?_⟩
  have e8 : Same H2 (upd H3 D (.lst (((r0 :: rs).map V.ref).set 0 (.ref fa)))) := same_put e7 nD
  refine ⟨_, rfl, wa, CP, wdx, _, _, rfl, e8 _ _ (hid_le _ _ gw), TP.cl, TP.n4, plF_pairs, pa, rfl, ⟨_, (hid_le.trans e8).seq gpa⟩, ?_⟩
  have lp := all_len hpa
  rw [List.length_map] at lp
  refine for_list (K := K) (a := pa) (xs := pxs) (fun i σ H4 => ∃ x4 x5, σ = [some v, some (.ref sa), some (.ref wa), some (.ref D), x4, x5, none, none, none, none, none] ∧ Same H2 H4 ∧ H4 D = some (.lst (.ref fa :: rs.map V.ref)) ∧ Fol H2 H4 rs (colOf (pl.pairs.take i))) ?_ ?_ ?_ ?_
  · refine ⟨none, none, rfl, e8, upd_same, fun r hr => e6 r (List.mem_cons_of_mem _ hr), (List.nodup_cons.mp e3).2, fun k r hk => ?_⟩
    have hr : r ∈ rs := List.mem_of_getElem? hk
    rw [upd_ne (show r ≠ D from fun e => e4 (by rw [← e]; exact List.mem_cons_of_mem _ hr))]
    exact e5 r (List.mem_cons_of_mem _ hr)
  · rintro i σ H4 _ ⟨_, _, _, s4, _⟩
    exact (hid_le.trans s4).seq gpa
  · rintro i x σ H4 hi ⟨x4, x5, rfl, s4, gD, fol⟩
    obtain ⟨d, hd1, hd2⟩ := all_get hpa hi
    rw [List.getElem?_map] at hd1
    obtain ⟨⟨a, b⟩, hab, rfl⟩ := Option.map_eq_some_iff.mp hd1
    have mem : (a, b) ∈ pl.pairs := List.mem_of_getElem? hab
    obtain ⟨⟨i1, i2⟩, i3, i4⟩ := hin.p _ mem
    dsimp only at i1 i2 i3 i4
    obtain ⟨t, rfl, gt⟩ := pairD_inv hd2
    refine ⟨t, _, rfl, seqT (hid_le.trans s4) gt, rfl, _, _, rfl, _, _, rfl, rfl, ?_⟩
    obtain ⟨k, rfl⟩ : ∃ k, a = k + 1 := ⟨a - 1, by omega⟩
    have hk : k < rs.length := by omega
    have hr : rs[k]? = some rs[k] := List.getElem?_eq_getElem hk
    have gr := fol.at_ k _ hr
    have mr : rs[k] ∈ rs := List.getElem_mem hk
    have rD : rs[k] ≠ D := fun e => e4 (by rw [← e]; exact List.mem_cons_of_mem _ mr)
    have ha : atI (V.ref fa :: rs.map V.ref) ((k + 1 : Nat) : Int) = some (.ref rs[k]) := atI_nat (by rw [List.getElem?_cons_succ, List.getElem?_map, hr]; rfl)
    refine ⟨_, rfl, _, rfl, D, _, _, _, rfl, rfl, .of gD, ha, .inl ⟨rfl, _, .of gr⟩, _, rfl, rs[k], _, _, rfl, rfl, gr, ?_, ?_⟩
    · have l1 : (colOf (pl.pairs.take i) (k + 1)).length ≤ pl.pairs.length := by
        unfold colOf
        rw [List.length_map]
        exact Nat.le_trans (List.length_filter_le ..) (by rw [List.length_take]; omega)
      refine line60 ?_
      rw [zs_len]
      omega
    · refine ⟨some (.int ((k + 1 : Nat) : Int)), some (.int (b : Int)), rfl, same_put s4 (fol.new _ mr), by rw [upd_ne rD.symm]; exact gD, fol.new, fol.nd, fun k' r' hk' => ?_⟩
      rw [List.take_add_one, hab]
      rw [show ((some (k + 1, b)).toList : List (Nat × Nat)) = [(k + 1, b)] from rfl, colOf_snoc]
      by_cases e : k' = k
      · subst e
        rw [hr] at hk'
        cases hk'
        rw [upd_same, if_pos rfl]
        unfold zs
        rw [List.map_append, List.map_append]
        rfl
      · have ne : r' ≠ rs[k] := fun z => e (nd_ix fol.nd hk' (z ▸ hr))
        rw [upd_ne ne, if_neg (by show ¬ k + 1 = k' + 1; omega), List.append_nil]
        exact fol.at_ k' r' hk'
  rintro σ H5 ⟨x4, x5, rfl, s5, gD, fol⟩
  rw [lp, List.take_length] at fol
  have z5 := z2.same s5
  -- rows
  refine ⟨_, rfl, D, rfl, ⟨_, .of gD⟩, fun D2 nD2 => ?_⟩
  have item : ∀ i x, (V.ref fa :: rs.map V.ref)[i]? = some x → ∃ b, x = .ref b ∧ SqL K H5 b ((zs (fols pl i)).map V.int) := fun i x hi => by
    cases i with
    | zero =>
      simp at hi
      subst hi
      exact ⟨fa, rfl, (hid_le.trans s5).seq gfa⟩
    | succ k =>
      rw [List.getElem?_cons_succ, List.getElem?_map] at hi
      obtain ⟨r, hr, rfl⟩ := Option.map_eq_some_iff.mp hi
      exact ⟨r, rfl, .of (fol.at_ k r hr)⟩
  have small : ∀ i, ∀ k ∈ zs (fols pl i), 0 ≤ k ∧ k < 1000 := fun i => small_int (m := 1000) (fun y hy => by have := (fols_in hin hy).2; omega) (Nat.le_refl _)
  have lrow : (brows st pl).length = st.length + 1 := by unfold brows; rw [List.length_map, List.length_range]
  refine lc_list (K := K) (a := D) (xs := .ref fa :: rs.map V.ref) (fun i H6 => GrowAt K Z D2 H5 H6 (((brows st pl).take i).map rowD)) ?_ ?_ ?_ ?_
  · exact .start nD2
  · intro i H6 _ g
    exact g.same.seq (.of gD)
  · intro i x H6 hi g
    obtain ⟨b, rfl, gb⟩ := item i x hi
    have hil : i < st.length + 1 := by
      have := (List.getElem?_eq_some_iff.mp hi).1
      rw [List.length_cons, List.length_map] at this
      omega
    have hrow : (brows st pl)[i]? = some (brow st pl i) := by
      unfold brows
      rw [List.getElem?_map, List.getElem?_range hil]
      rfl
    refine ⟨rfl, _, rfl, b, _, rfl, g.same.seq gb, small i, fun sp l nsp nd mem => ?_⟩
    have t1 := same_new (o := SetO w sp (fun j => decide (j ∈ zs (fols pl i))) l.length) nsp
    have l64 : l.length < 64 := Nat.lt_of_le_of_lt (nodup_le 61 l nd fun x hx => by
      obtain ⟨n, hn, rfl⟩ := mem_zs.mp ((mem x).mp hx)
      have := fols_in hin hn
      omega) (by decide)
    refine ⟨sp, _, _, rfl, upd_same, l64, fun ns so asc mns _ nso => ?_⟩
    have ens : ns = zs (follow pl st.length i) := asc_zs asc (follow_asc _ _ _) fun k => by
      rw [mns k, decide_eq_true_eq, mem_zs, mem_zs]
      exact ⟨fun ⟨n, h, e⟩ => ⟨n, (mem_follow hin).mpr h, e⟩, fun ⟨n, h, e⟩ => ⟨n, (mem_follow hin).mp h, e⟩⟩
    subst ens
    have t2 := same_new (o := .lst ((zs (follow pl st.length i)).map V.int)) nso
    have g2 := (g.keep t1).keep t2
    refine ⟨so, rfl, ⟨_, .of upd_same⟩, fun D3 nD3 => ?_⟩
    have zD := g2.dom z5
    have lf : (follow pl st.length i).length ≤ st.length := by
      unfold follow
      exact Nat.le_trans (List.length_filter_le ..) (Nat.le_of_eq (List.length_range' ..))
    refine lc_list (K := K) (a := so) (xs := (zs (follow pl st.length i)).map V.int) (fun j H7 => GrowAt K (D2 :: Z) D3 (upd (upd H6 sp (SetO w sp (fun j => decide (j ∈ zs (fols pl i))) l.length)) so (.lst ((zs (follow pl st.length i)).map V.int))) H7 ((((follow pl st.length i).take j).filterMap (ent st)).map entD)) ?_ ?_ ?_ ?_
    · exact .start nD3
    · intro j H7 _ g3
      exact g3.same.seq (.of upd_same)
    · intro j y H7 hj g3
      obtain ⟨y, rfl, hy⟩ := natAt hj
      have my : y ∈ follow pl st.length i := List.mem_of_getElem? hy
      obtain ⟨y1, y2⟩ := fols_in hin ((mem_follow hin).mp my)
      obtain ⟨a, ha1, ha2⟩ := ent_some (xs := st) y1 y2
      obtain ⟨sx, hsx, dsx⟩ := all_at hs (show (st.map stepD)[y - 1]? = some (stepD a) by rw [List.getElem?_map, ha1]; rfl)
      have s7 : Same H2 H7 := s5.trans (g2.same.trans g3.same)
      have ey : ((y : Int) - 1) = ((y - 1 : Nat) : Int) := by omega
      have hat : atI sxs ((y : Int) - 1) = some sx := at_of ey hsx
      refine ⟨rfl, _, rfl, _, rfl, (y : Int), 1, rfl, rfl, sa, sxs, _, sx, rfl, rfl, (hid_le.trans s7).seq gs, hat, _, rfl, (by show 2 ≤ sizeLine; decide), fun tp ntp => ?_⟩
      have zD3 := g3.dom zD
      -- the step lies apart from what grows
      have up : Same (hid Z H2) (hid (D3 :: D2 :: Z) H7) := fun c o e => by
        obtain ⟨q1, q2⟩ := hid_get e
        have n2 : c ≠ D2 := ne_of_none (s5 _ _ q1) nD2
        have n3 : c ≠ D3 := ne_of_none (g2.same _ _ (s5 _ _ q1)) nD3
        rw [hid_out fun z => (List.mem_cons.mp z).elim n3 fun z => (List.mem_cons.mp z).elim n2 q2]
        exact s7 _ _ q1
      show putL D3 _ _ fun H' => GrowAt K (D2 :: Z) D3 (upd (upd H6 sp (SetO w sp (fun j => decide (j ∈ zs (fols pl i))) l.length)) so (.lst ((zs (follow pl st.length i)).map V.int))) H' ((((follow pl st.length i).take (j + 1)).filterMap (ent st)).map entD)
      refine (g3.keep (same_new ntp)).put (d := entD (a, y)) nD3 (dp_newT zD3 ntp (.cons (Same.dp up dsx) (.cons (.int _) .nil))) ?_ fun H' g' => ?_
      · refine line60 ?_
        rw [List.length_map]
        exact Nat.le_trans (List.length_filterMap_le ..) (by rw [List.length_take]; omega)
      · rw [ents_take hy ha2, List.map_append]
        exact g'
    · intro H7 g3
      rw [zs_len, List.take_length] at g3
      have d3 := g3.done zD nD3
      show putL D2 _ _ fun H' => GrowAt K Z D2 H5 H' (((brows st pl).take (i + 1)).map rowD)
      refine (g2.keep g3.same).put (d := rowD (brow st pl i)) nD2 d3 ?_ fun H' g' => ?_
      · refine line60 ?_
        rw [List.length_map, List.length_take]
        omega
      · rw [List.take_add_one, hrow, List.map_append]
        exact g'
  · intro H6 g
    rw [show (V.ref fa :: rs.map V.ref).length = (brows st pl).length by rw [List.length_cons, List.length_map, lrow, lrs], List.take_length] at g
    have dr := g.done z5 nD2
    have s6 : Same H2 H6 := s5.trans g.same
    have z6 := z2.same s6
    -- ends
    refine ⟨_, rfl, wa, CP, wdx, _, _, rfl, s6 _ _ (hid_le _ _ gw), TP.cl, TP.n2, plF_last, la, _, rfl, (hid_le.trans s6).seq gla, fun ns' ea perm asc nea => ?_⟩
    have ens : ns' = zs ((List.range' 1 st.length).filter fun y => decide (y ∈ pl.last)) := by
      have nd : ns'.Nodup := perm.symm.nodup (by
        unfold zs
        exact List.Pairwise.map _ (fun a b h e => h (Int.ofNat.inj e)) hnd)
      have lt : ns'.Pairwise (· < ·) := (List.Pairwise.and asc nd).imp fun ⟨h1, h2⟩ => by omega
      refine asc_zs lt ((range'_asc _ _).filter _) fun k => ?_
      rw [perm.mem_iff, mem_zs, mem_zs]
      constructor
      · rintro ⟨n, h, e⟩
        have := hin.l n h
        exact ⟨n, List.mem_filter.mpr ⟨mem_range1.mpr (by omega), decide_eq_true h⟩, e⟩
      · rintro ⟨n, h, e⟩
        exact ⟨n, of_decide_eq_true (List.mem_filter.mp h).2, e⟩
    subst ens
    have t7 := same_new (o := .lst ((zs ((List.range' 1 st.length).filter fun y => decide (y ∈ pl.last))).map V.int)) nea
    have z7 := z6.same t7
    have de : Dp K (hid Z _) (.ref ea) (natD ((List.range' 1 st.length).filter fun y => decide (y ∈ pl.last))) := dp_new z6 nea (all_ints _)
    have s7 := s6.trans t7
    have lr1000 : (brows st pl).length ≤ 1000 := by omega
    refine ⟨_, rfl, _, rfl, wa, CP, wdx, _, _, rfl, s7 _ _ (hid_le _ _ gw), TP.cl, TP.n3, plF_empty, pl.emp, rfl, ?_⟩
    cases he : pl.emp with
    | true =>
      refine iteT ?_
      refine ⟨(by show 1 ≤ sizeLine; decide), fun ba nba => ⟨_, rfl, ?_⟩⟩
      have t8 := same_new (o := .lst [.int 0]) nba
      have z8 := z7.same t8
      refine cat_read (B := True) z8 (dp_new z7 nba (all_ints [0])) (Same.dp (same_hid t8) de) ?_ fun c nc H9 t9 z9 d9 => ?_
      · rw [List.length_map]
        have l1 : ((List.range' 1 st.length).filter fun y => decide (y ∈ pl.last)).length ≤ st.length := Nat.le_trans (List.length_filter_le ..) (Nat.le_of_eq (List.length_range' ..))
        simp only [List.length_cons, List.length_nil, List.length_map, zs]
        omega
      intro x dx nx nd ne
      refine au_go nx nd ne (by rfl) z9 (Same.dp (same_hid (t7.trans (t8.trans t9))) dr) (ends := bends st pl) ?_ lr1000 fun H' s' au => ⟨rfl, q H' _ (s12.trans (s7.trans (t8.trans (t9.trans s')))) au⟩
      unfold bends
      rw [he, natD_app]
      exact d9
    | false =>
      refine iteF ⟨_, rfl, ?_⟩
      intro x dx nx nd ne
      refine au_go nx nd ne (by rfl) z7 (Same.dp (same_hid t7) dr) (ends := bends st pl) ?_ lr1000 fun H' s' au => ⟨rfl, q H' _ (s12.trans (s7.trans s')) au⟩
      unfold bends
      rw [he]
      exact de
end
end Sk

set_option Elab.async false
set_option linter.all false
/-! Skewer, the plain law: an automaton's states. -/
namespace Sk
section
variable {α : Type} [DecidableEq α]
def hits (a : α) (r : List (α × Nat)) : List Nat := (r.filter fun e => decide (e.1 = a)).map (·.2)
def rowOf (rows : List (List (α × Nat))) (s : Nat) : List (α × Nat) := (rows[s]?).getD []
def outs (rows : List (List (α × Nat))) (a : α) (S : List Nat) : List Nat := S.flatMap fun s => hits a (rowOf rows s)
def stepS (rows : List (List (α × Nat))) (a : α) (S : List Nat) : List Nat := (List.range rows.length).filter fun y => decide (y ∈ outs rows a S)
def runS (rows : List (List (α × Nat))) (w : List α) : List Nat := w.foldl (fun S a => stepS rows a S) [0]
def accB (rows : List (List (α × Nat))) (ends : List Nat) (w : List α) : Bool := (runS rows w).any fun s => decide (s ∈ ends)
structure WfA (rows : List (List (α × Nat))) : Prop where
  pos : 0 < rows.length
  len : rows.length ≤ 63
  row : ∀ r ∈ rows, r.length ≤ 63 ∧ ∀ e ∈ r, e.2 < rows.length
theorem mem_hits {a : α} {r : List (α × Nat)} {y : Nat} : y ∈ hits a r ↔ (a, y) ∈ r := by
  unfold hits
  simp only [List.mem_map, List.mem_filter, decide_eq_true_eq]
  constructor
  · rintro ⟨⟨x, z⟩, ⟨h, rfl⟩, rfl⟩; exact h
  · intro h; exact ⟨(a, y), ⟨h, rfl⟩, rfl⟩
theorem mem_outs {rows : List (List (α × Nat))} {a : α} {S : List Nat} {y : Nat} : y ∈ outs rows a S ↔ ∃ s ∈ S, (a, y) ∈ rowOf rows s := by
  unfold outs
  simp only [List.mem_flatMap, mem_hits]
theorem WfA.rowOf {rows : List (List (α × Nat))} (W : WfA rows) {s : Nat} (hs : s < rows.length) : rows[s]? = some (rowOf rows s) ∧ (Sk.rowOf rows s).length ≤ 63 ∧ ∀ e ∈ Sk.rowOf rows s, e.2 < rows.length := by
  have e : rows[s]? = some (Sk.rowOf rows s) := by
    unfold Sk.rowOf
    rw [List.getElem?_eq_getElem hs]
    rfl
  exact ⟨e, W.row _ (List.mem_of_getElem? e)⟩
theorem outs_lt {rows : List (List (α × Nat))} (W : WfA rows) {a : α} {S : List Nat} {y : Nat} (h : y ∈ outs rows a S) : y < rows.length := by
  obtain ⟨s, _, h⟩ := mem_outs.mp h
  unfold rowOf at h
  cases e : rows[s]? with
  | none => rw [e] at h; cases h
  | some r =>
    rw [e] at h
    exact (W.row r (List.mem_of_getElem? e)).2 _ h
theorem mem_stepS {rows : List (List (α × Nat))} (W : WfA rows) {a : α} {S : List Nat} {y : Nat} : y ∈ stepS rows a S ↔ y ∈ outs rows a S := by
  unfold stepS
  rw [List.mem_filter, List.mem_range, decide_eq_true_eq]
  exact ⟨fun h => h.2, fun h => ⟨outs_lt W h, h⟩⟩
theorem range_asc (n : Nat) : (List.range n).Pairwise (· < ·) := by
  rw [List.range_eq_range']
  exact range'_asc n 0
theorem stepS_asc (rows : List (List (α × Nat))) (a : α) (S : List Nat) : (stepS rows a S).Pairwise (· < ·) := (range_asc _).filter _
theorem runS_snoc (rows : List (List (α × Nat))) (w : List α) (a : α) : runS rows (w ++ [a]) = stepS rows a (runS rows w) := by
  unfold runS
  rw [List.foldl_append]
  rfl
theorem runS_take {rows : List (List (α × Nat))} {w : List α} {i : Nat} {a : α} (h : w[i]? = some a) : runS rows (w.take (i + 1)) = stepS rows a (runS rows (w.take i)) := by
  rw [List.take_add_one, h]
  exact runS_snoc rows _ a
theorem runS_ok {rows : List (List (α × Nat))} (W : WfA rows) (w : List α) : (runS rows w).Pairwise (· < ·) ∧ ∀ s ∈ runS rows w, s < rows.length := by
  have key : ∀ (w : List α) (S : List Nat), S.Pairwise (· < ·) → (∀ s ∈ S, s < rows.length) → (w.foldl (fun S a => stepS rows a S) S).Pairwise (· < ·) ∧ ∀ s ∈ w.foldl (fun S a => stepS rows a S) S, s < rows.length := by
    intro w
    induction w with
    | nil => exact fun S h1 h2 => ⟨h1, h2⟩
    | cons a w ih => exact fun S _ _ => ih _ (stepS_asc ..) fun s hs => outs_lt W ((mem_stepS W).mp hs)
  exact key w [0] (by simp) fun s hs => by rw [List.mem_singleton.mp hs]; exact W.pos
theorem asc_len {l : List Nat} {m : Nat} (h : l.Pairwise (· < ·)) (b : ∀ s ∈ l, s < m) : l.length ≤ m := by
  have e : l = (List.range m).filter fun y => decide (y ∈ l) := asc_ext (fun _ => Nat.lt_irrefl _) (fun _ _ _ => Nat.lt_trans) h ((range_asc m).filter _) fun k => by
    rw [List.mem_filter, List.mem_range, decide_eq_true_eq]
    exact ⟨fun q => ⟨b k q, q⟩, fun q => q.2⟩
  rw [e]
  exact Nat.le_trans (List.length_filter_le ..) (Nat.le_of_eq List.length_range)
theorem hits_take {a : α} {r : List (α × Nat)} {j : Nat} {e : α × Nat} (h : r[j]? = some e) : hits a (r.take (j + 1)) = hits a (r.take j) ++ (if e.1 = a then [e.2] else []) := by
  rw [List.take_add_one, h]
  unfold hits
  rw [List.filter_append, List.map_append]
  by_cases q : e.1 = a
  · simp [q]
  · simp [q]
theorem hits_len (a : α) (r : List (α × Nat)) : (hits a r).length ≤ r.length := by
  unfold hits
  rw [List.length_map]
  exact List.length_filter_le ..
theorem outs_take {rows : List (List (α × Nat))} {a : α} {S : List Nat} {i s : Nat} (h : S[i]? = some s) : outs rows a (S.take (i + 1)) = outs rows a (S.take i) ++ hits a (rowOf rows s) := by
  unfold outs
  rw [List.take_add_one, h, List.flatMap_append]
  simp
end
end Sk

set_option Elab.async false
set_option linter.all false
set_option maxRecDepth 100000
set_option maxHeartbeats 4000000
/-! Skewer, the walk: spells. -/
namespace Sk
open PySem L2
/-- the set at D, by a list of its members -/
structure SetIs (w : World) (D : Addr) (H0 H : Hp) (l : List Int) : Prop where
  at_ : ∃ S, H D = some (SetO w D S l.length) ∧ ∀ k, S k = true ↔ k ∈ l
  nd : l.Nodup
  same : Same H0 H
theorem SetIs.start {w : World} {D : Addr} {H0 : Hp} (nD : H0 D = none) : SetIs w D H0 (upd H0 D (SetO w D (fun _ => false) 0)) [] := ⟨⟨_, upd_same, fun k => ⟨fun h => (nomatch h), fun h => (nomatch h)⟩⟩, List.nodup_nil, same_new nD⟩
theorem SetIs.keep {w : World} {D : Addr} {H0 H H' : Hp} {l : List Int} (g : SetIs w D H0 H l) (s : Same H H') : SetIs w D H0 H' l := let ⟨S, e, m⟩ := g.at_; ⟨⟨S, s _ _ e, m⟩, g.nd, Same.trans g.same s⟩
/-- one more, if it is not there yet -/
theorem SetIs.put {w : World} {D : Addr} {H0 H : Hp} {l : List Int} {k : Int} {N : Hp → Prop} (g : SetIs w D H0 H l) (nD : H0 D = none) (hz : l.length ≤ 1000) (q : ∀ H' l', SetIs w D H0 H' l' → (∀ j, j ∈ l' ↔ j ∈ l ∨ j = k) → N H') : putS w D (.int k) H N := by
  obtain ⟨S, e, m⟩ := g.at_
  refine ⟨k, S, l.length, rfl, e, by unfold scanBound; omega, ?_⟩
  by_cases h : k ∈ l
  · rw [if_pos ((m k).mpr h)]
    refine q _ l ⟨⟨_, upd_same, fun j => ?_⟩, g.nd, same_put g.same nD⟩ fun j => ⟨.inl, fun z => z.elim id fun z => by rw [z]; exact h⟩
    rw [Bool.or_eq_true, decide_eq_true_eq, m j]
    exact ⟨fun z => z.elim id fun z => by rw [z]; exact h, .inl⟩
  · rw [if_neg fun z => h ((m k).mp z)]
    have el : l.length + 1 = (l ++ [k]).length := by rw [List.length_append]; rfl
    rw [el]
    refine q _ (l ++ [k]) ⟨⟨_, upd_same, fun j => ?_⟩, ?_, same_put g.same nD⟩ fun j => by rw [List.mem_append, List.mem_singleton]
    · rw [Bool.or_eq_true, decide_eq_true_eq, m j, List.mem_append, List.mem_singleton]
    · rw [List.nodup_append]
      exact ⟨g.nd, by simp, fun x hx y hy z => h (by rw [← List.mem_singleton.mp hy, ← z]; exact hx)⟩
def spSpells (K : PySem.W.Frag) (C : Addr) : Sp := fun vs H Q _ => ∃ (Z : List Addr) (av wv : V) (rows : List (List (Step × Nat))) (ends : List Nat) (wd : List Step), vs = [av, wv] ∧ Dom Z H ∧ AutAt K C (hid Z H) av rows ends ∧ Dp K (hid Z H) wv (wordD wd) ∧ WfA rows ∧
  ∀ H', Same H H' → Q (.bl (accB rows ends wd)) H'
section
variable {P : Program} {w : World} {K : PySem.W.Frag} {mg : Str → Option Value} {base : Heap} {f C : Addr} {fd : FuncData}
abbrev nSpells : List Str := ["automaton", "row", "states", "step", "state", "other", "after"]
theorem scSpells : FnScope nSpells ["automaton", "row"] (defScope sSpells) := ⟨rfl, rfl, rfl, by decide +kernel, rfl, by decide +kernel, by decide +kernel⟩
theorem ok_spells {n ka : Nat} (F : Fun K "spells" "spells" sSpells f fd) (T : Txt K mg) (TA : AuTxt P w K mg base ka C) : FnOk P w K mg base CX0 (n + 1) f fd ["automaton", "row"] (spSpells K C) := by
  refine F.ok scSpells (fun vs H Q E h => ?_) (fun cdv A outer s H vs Q E hr h => ?_)
  · obtain ⟨Z, av, wv, rows, ends, wd, rfl, _⟩ := h
    rfl
  obtain ⟨Z, av, wv, rows, ends, wd, rfl, hZ, hA, hW, WF, q⟩ := h
  refine ⟨_, pss_cons (ps_set (i := 2) scSpells.nd rfl (.inl rfl) (pe_lst (pa_cons pe_int pa_nil)))
    (pss_cons (ps_for PassesOwn.never rfl (pi_list (pv 1)) (pg_name (i := 3) scSpells.nd rfl (.inr rfl))
      (pss_one (ps_set (i := 2) scSpells.nd rfl (.inl rfl) (pe_callB (cr_sortedSet (by rfl)) (by rfl) T.sorted (by decide +kernel) (pa_cons
        (pe_sc2 (own := [("state", 4), ("other", 5), ("after", 6)]) (vs1 := [5, 6]) (g := gName 4) (g1 := gTup K 2 (gCons (gName 5) (gCons (gName 6) gNil))) (tt := tYes) (tt1 := tTest (tOp (rEqD K) (tVar 5) (tVar 3))) (wi1 := iList K (tOp (rIxL K) (tFld K (tVar 0) "rows") (tVar 4))) (te := tVar 6) (by rfl) scSpells.nd (pi_list (pv 2))
          (blkOk_by (N := nSpells) (sc := defScope sSpells) (by decide +kernel)) (by decide) (fun _ _ _ _ _ => pg_name (i := 4) scSpells.nd rfl (Or.inl rfl)) (fun _ _ _ _ _ => pts_nil)
          (fun _ _ _ _ _ => pi_list (pe_ix ix_list (pe_fld (pv 0) (by rfl)) (pv 4) (fun _ _ => rfl)))
          (fun _ _ _ _ _ => pg_tup (by rfl) (pgs_cons (pg_name (i := 5) scSpells.nd rfl (Or.inl rfl)) (pgs_cons (pg_name (i := 6) scSpells.nd rfl (Or.inl rfl)) pgs_nil)))
          (fun _ _ _ _ _ => pts_one (pt_cmpR (op_eqD hr.units) (pv 5) (pv 3) (nomark _))) (fun _ _ _ _ _ => pv 6)) pa_nil)))))
    (pss_one (ps_ret (pe_callB (cr_any rfl) (by rfl) T.any (by decide +kernel) (pa_cons (pe_lc (own := [("state", 4)]) (g := gName 4) (tt := tYes) (te := tOp (rIn K false) (tVar 4) (tFld K (tVar 0) "ends")) (by rfl) scSpells.nd (pi_list (pv 2))
      (blkOk_by (N := nSpells) (sc := defScope sSpells) (by decide +kernel)) (fun _ _ _ _ _ => pg_name (i := 4) scSpells.nd rfl (Or.inl rfl)) (fun _ _ _ _ _ => pts_nil) (fun _ _ _ _ _ => pe_cmpR op_in_seq (pv 4) (pe_fld (pv 0) (by rfl)) (by rfl))) pa_nil))))), ?_⟩
  obtain ⟨aa, adx, u1, u2, rfl, ga, d1, d2⟩ := hA.ex
  obtain ⟨wl, wxs, rfl, gwl, hwl⟩ := list_inv hW
  obtain ⟨ra, rxs, rfl, gra, hra⟩ := list_inv d1
  obtain ⟨ea, rfl, gea⟩ := intD_inv d2
  have lw := all_len hwl
  rw [List.length_map] at lw
  refine ⟨(by show 1 ≤ sizeLine; decide), fun s0 ns0 => ?_⟩
  have t0 := same_new (o := .lst [.int 0]) ns0
  refine ⟨_, rfl, wl, rfl, ⟨_, (hid_le.trans t0).seq gwl⟩, ?_⟩
  refine for_list (K := K) (a := wl) (xs := wxs) (fun i σ H2 => ∃ x3 sa, σ = [some (.ref aa), some (.ref wl), some (.ref sa), x3, none, none, none] ∧ Same H H2 ∧ SqL K H2 sa ((zs (runS rows (wd.take i))).map V.int)) ?_ ?_ ?_ ?_
  · exact ⟨none, s0, rfl, t0, .of upd_same⟩
  · rintro i σ H2 _ ⟨_, _, _, s2, _⟩
    exact (hid_le.trans s2).seq gwl
  · rintro i xa σ H2 hi ⟨x3, sa, rfl, s2, gs⟩
    obtain ⟨d, hd1, hd2⟩ := all_get hwl hi
    rw [List.getElem?_map] at hd1
    obtain ⟨a, ha, rfl⟩ := Option.map_eq_some_iff.mp hd1
    obtain ⟨asc, lt⟩ := runS_ok WF (wd.take i)
    rw [runS_take ha]
    generalize runS rows (wd.take i) = S at gs asc lt
    have z2 := hZ.same s2
    refine ⟨_, rfl, sa, rfl, ⟨_, gs⟩, fun D nD => ?_⟩
    have lt1000 : ∀ l : List Int, l.Nodup → (∀ j ∈ l, ∃ y : Nat, j = (y : Int) ∧ y < rows.length) → l.length ≤ 63 := fun l nd h => Nat.le_trans (nodup_le rows.length l nd fun x hx => by
      obtain ⟨y, rfl, hy⟩ := h x hx
      omega) WF.len
    refine outer2 (T := fun σ2 H2 Nx => tYes σ2 H2 fun b H3 => if b = true then iList K (tOp (rIxL K) (tFld K (tVar 0) "rows") (tVar 4)) σ2 H3 fun J1 H4 => AskIn w D (gTup K 2 (gCons (gName 5) (gCons (gName 6) gNil))) (tTest (tOp (rEqD K) (tVar 5) (tVar 3))) (tVar 6) [5, 6] Nx σ2 J1 H4 else Nx H3)
      (K := K) (a := sa) (xs := (zs S).map V.int) (fun n H3 => ∃ l, SetIs w D H2 H3 l ∧ ∀ j, j ∈ l ↔ j ∈ zs (outs rows a (S.take n))) ?_ ?_ ?_ ?_
    · exact ⟨[], .start nD, fun j => by simp [outs, zs]⟩
    · rintro n H3 _ ⟨l, g, _⟩
      exact g.same.seq gs
    · rintro n x H3 hx ⟨l, g, ml⟩
      obtain ⟨st, rfl, hn⟩ := natAt hx
      have hst := lt st (List.mem_of_getElem? hn)
      obtain ⟨hrow, hr63, hre⟩ := WF.rowOf hst
      obtain ⟨rv, hrv, drv⟩ := all_at hra (show (rows.map rowD)[st]? = some (rowD (rowOf rows st)) by rw [List.getElem?_map, hrow]; rfl)
      obtain ⟨rl, rys, rfl, grl, hrl⟩ := list_inv drv
      have s3 := s2.trans g.same
      refine ⟨rfl, _, rfl, aa, C, adx, _, _, rfl, s3 _ _ (hid_le _ _ ga), TA.cl, TA.n1, auF_rows, _, rfl, ra, rxs, _, _, rfl, rfl, (hid_le.trans s3).seq gra, atI_nat hrv, rl, rfl, ⟨_, (hid_le.trans s3).seq grl⟩, ?_⟩
      refine inner2 (S := putS w D) (K := K) (b := rl) (ys := rys) (fun m H4 => ∃ l, SetIs w D H2 H4 l ∧ ∀ j, j ∈ l ↔ j ∈ zs (outs rows a (S.take n) ++ hits a ((rowOf rows st).take m))) ?_ ?_ ?_ ?_
      · exact ⟨l, g, fun j => by rw [ml j]; simp [hits]⟩
      · rintro m H4 _ ⟨l, g, _⟩
        exact (hid_le.trans (s2.trans g.same)).seq grl
      · rintro m y H4 hy ⟨l, g, ml⟩
        obtain ⟨d, hd1, hd2'⟩ := all_get hrl hy
        rw [List.getElem?_map] at hd1
        obtain ⟨e, he, rfl⟩ := Option.map_eq_some_iff.mp hd1
        obtain ⟨t, sv, rfl, gt, dsv⟩ := entD_inv hd2'
        have s4 := s2.trans g.same
        refine ⟨t, _, rfl, seqT (hid_le.trans s4) gt, rfl, _, _, rfl, _, _, rfl, rfl, ?_⟩
        refine ⟨rfl, _, rfl, _, rfl, stepD e.1, stepD a, Same.dp (hid_le.trans s4) dsv, Same.dp (hid_le.trans s4) hd2, stepD_shaped _, stepD_shaped _, _, rfl, ?_⟩
        rw [stepD_eqv]
        have me : e ∈ rowOf rows st := List.mem_of_getElem? he
        refine ite2 (fun c => ?_) (fun c => ?_)
        · have ea : e.1 = a := of_decide_eq_true c
          refine ⟨_, rfl, ?_⟩
          refine g.put nD (Nat.le_trans (lt1000 l g.nd fun j hj => ?_) (by decide)) fun H' l' g' ml' => ⟨l', g', fun j => ?_⟩
          · obtain ⟨y, hy, rfl⟩ := mem_zs.mp ((ml j).mp hj)
            refine ⟨y, rfl, ?_⟩
            rcases List.mem_append.mp hy with hy | hy
            · exact outs_lt WF hy
            · exact hre _ (List.mem_of_mem_take (mem_hits.mp hy))
          · rw [ml' j, ml j, hits_take he, if_pos ea, ← List.append_assoc]
            simp only [mem_zs, List.mem_append, List.mem_singleton]
            constructor
            · rintro (⟨y, hy, e⟩ | e)
              · exact ⟨y, .inl hy, e⟩
              · exact ⟨_, .inr rfl, e⟩
            · rintro ⟨y, hy | hy, e⟩
              · exact .inl ⟨y, hy, e⟩
              · exact .inr (by rw [e, hy])
        · have ea : ¬ e.1 = a := fun z => c (decide_eq_true z)
          refine ⟨l, g, fun j => ?_⟩
          rw [ml j, hits_take he, if_neg ea, List.append_nil]
      · rintro H4 ⟨l, g, ml⟩
        have lr := all_len hrl
        rw [List.length_map] at lr
        rw [lr, List.take_length] at ml
        exact ⟨l, g, fun j => by rw [ml j, outs_take hn]⟩
    · rintro H3 ⟨l, g, ml⟩
      rw [zs_len, List.take_length] at ml
      obtain ⟨SS, eS, mS⟩ := g.at_
      have l63 := lt1000 l g.nd fun j hj => by
        obtain ⟨y, hy, e⟩ := mem_zs.mp ((ml j).mp hj)
        exact ⟨y, e, outs_lt WF hy⟩
      refine ⟨D, SS, l.length, rfl, eS, by omega, fun ns so ascn mns _ nso => ?_⟩
      have ens : ns = zs (stepS rows a S) := asc_zs ascn (stepS_asc ..) fun k => by
        rw [mns k, mS k, ml k, mem_zs, mem_zs]
        exact ⟨fun ⟨n, h, e⟩ => ⟨n, (mem_stepS WF).mpr h, e⟩, fun ⟨n, h, e⟩ => ⟨n, (mem_stepS WF).mp h, e⟩⟩
      subst ens
      exact ⟨some xa, so, rfl, s2.trans (g.same.trans (same_new nso)), .of upd_same⟩
  · rintro σ H2 ⟨x3, sa, rfl, s2, gs⟩
    rw [lw, List.take_length] at gs
    refine ⟨_, rfl, sa, rfl, ⟨_, gs⟩, fun D nD => ?_⟩
    have lS : (runS rows wd).length ≤ 63 := Nat.le_trans (asc_len (runS_ok WF wd).1 (runS_ok WF wd).2) WF.len
    refine bools_read (K := K) ((runS rows wd).map fun s => decide (s ∈ ends)) (by rw [zs_len, List.length_map]) gs nD (by rw [List.length_map]; omega) ?_ ?_
    · intro i x b H' R hx hb s' r
      obtain ⟨y, rfl, hy⟩ := natAt hx
      rw [List.getElem?_map, hy] at hb
      obtain rfl : decide (y ∈ ends) = b := Option.some.inj hb
      refine ⟨_, rfl, _, rfl, aa, C, adx, _, _, rfl, s' _ _ (s2 _ _ (hid_le _ _ ga)), TA.cl, TA.n2, auF_ends, ea, _, rfl, .inl ((hid_le.trans (s2.trans s')).seq gea), rfl, flat_ints _, ?_⟩
      rw [if_neg Bool.false_ne_true, inV_ints]
      have e : decide ((y : Int) ∈ zs ends) = decide (y ∈ ends) := decide_eq_decide.mpr (by
        rw [mem_zs]
        exact ⟨fun ⟨n, h, e⟩ => by rw [Int.ofNat.inj e]; exact h, fun h => ⟨y, h, rfl⟩⟩)
      rw [e]
      exact r
    · intro H3 s3 gD
      refine ⟨D, _, rfl, gD, ?_⟩
      rw [List.any_map]
      exact q H3 (s2.trans s3)
end
end Sk

set_option Elab.async false
set_option linter.all false
set_option maxRecDepth 100000
set_option maxHeartbeats 4000000
/-! Skewer, the walk: _law_walked. -/
namespace Sk
open PySem L2
theorem nat_in (y : Nat) (ns : List Nat) : decide ((y : Int) ∈ zs ns) = decide (y ∈ ns) := decide_eq_decide.mpr (by
  rw [mem_zs]
  exact ⟨fun ⟨n, h, e⟩ => by rw [Int.ofNat.inj e]; exact h, fun h => ⟨y, h, rfl⟩⟩)
theorem nodup_nat {l : List Nat} {m : Nat} (nd : l.Nodup) (b : ∀ s ∈ l, s < m) : l.length ≤ m := by
  have h := nodup_le m (zs l) (by
    unfold zs
    exact List.Pairwise.map _ (fun a b h e => h (Int.ofNat.inj e)) nd) fun x hx => by
    obtain ⟨n, hn, rfl⟩ := mem_zs.mp hx
    have := b n hn
    omega
  unfold zs at h
  rwa [List.length_map] at h
theorem outs_congr {α : Type} [DecidableEq α] (rows : List (List (α × Nat))) (a : α) {S S' : List Nat} (h : ∀ k, k ∈ S ↔ k ∈ S') (y : Nat) : y ∈ outs rows a S ↔ y ∈ outs rows a S' := by
  rw [mem_outs, mem_outs]
  exact ⟨fun ⟨s, h1, h2⟩ => ⟨s, (h s).mp h1, h2⟩, fun ⟨s, h1, h2⟩ => ⟨s, (h s).mpr h1, h2⟩⟩
theorem any_congr {S S' : List Nat} (h : ∀ k, k ∈ S ↔ k ∈ S') (f : Nat → Bool) : S.any f = S'.any f := by
  rw [Bool.eq_iff_iff, List.any_eq_true, List.any_eq_true]
  exact ⟨fun ⟨x, h1, h2⟩ => ⟨x, (h x).mp h1, h2⟩, fun ⟨x, h1, h2⟩ => ⟨x, (h x).mpr h1, h2⟩⟩
theorem int_zs_snoc (l : List Nat) (y : Nat) : (zs l).map V.int ++ [V.int (y : Int)] = (zs (l ++ [y])).map V.int := by
  unfold zs
  rw [List.map_append, List.map_append]
  rfl
/-- a list of places at La, each once, made since H0 -/
structure Once (La : Addr) (H0 H : Hp) (l : List Nat) : Prop where
  at_ : H La = some (.lst ((zs l).map V.int))
  nd : l.Nodup
  same : Same H0 H
section
variable {P : Program} {w : World} {K : PySem.W.Frag} {mg : Str → Option Value} {base : Heap} {f C : Addr} {fd : FuncData}
abbrev nWalked : List Str := ["_law_automaton", "_law_word", "_law_states", "_law_step_here", "_law_later", "_law_state", "_law_other", "_law_after"]
theorem scWalked : FnScope nWalked ["_law_automaton", "_law_word"] (defScope sWalked) := ⟨rfl, rfl, rfl, by decide +kernel, rfl, by decide +kernel, by decide +kernel⟩
theorem ok_walked {n ka : Nat} (F : Fun K "_law_walked" "_law_walked" sWalked f fd) (T : Txt K mg) (TA : AuTxt P w K mg base ka C) : FnOk P w K mg base CX0 (n + 1) f fd ["_law_automaton", "_law_word"] (spSpells K C) := by
  refine F.ok scWalked (fun vs H Q E h => ?_) (fun cdv A outer s H vs Q E hr h => ?_)
  · obtain ⟨Z, av, wv, rows, ends, wd, rfl, _⟩ := h
    rfl
  obtain ⟨Z, av, wv, rows, ends, wd, rfl, hZ, hA, hW, WF, q⟩ := h
  refine ⟨_, pss_cons (ps_set (i := 2) scWalked.nd rfl (.inl rfl) (pe_lst (pa_cons pe_int pa_nil)))
    (pss_cons (ps_for PassesOwn.never rfl (pi_list (pv 1)) (pg_name (i := 3) scWalked.nd rfl (.inl rfl))
      (pss_cons (ps_set (i := 4) scWalked.nd rfl (.inl rfl) (pe_lst pa_nil))
      (pss_cons (ps_for PassesOwn.never rfl (pi_list (pv 2)) (pg_name (i := 5) scWalked.nd rfl (.inl rfl))
        (pss_one (ps_for PassesOwn.never rfl (pi_list (pe_ix ix_list (pe_fld (pv 0) rfl) (pv 5) (fun _ _ => rfl))) (pg_tup rfl (pgs_cons (pg_name (i := 6) scWalked.nd rfl (.inl rfl)) (pgs_cons (pg_name (i := 7) scWalked.nd rfl (.inl rfl)) pgs_nil)))
          (pss_one (ps_if (PW.pt (pw_and (pt_cmpR (op_eqD hr.units) (pv 6) (pv 3) (nomark _)) (pw_and1 (pt_cmpR op_notIn_seq (pv 7) (pv 4) (by rfl)))))
            (pss_one (ps_expr (pe_bm PySem.F.plainAttrs_list PySem.F.slot_list_append PySem.F.type_list_append mt_append (pv 4) (pa_cons (pv 7) pa_nil)))) pss_nil)))))
      (pss_one (ps_set (i := 2) scWalked.nd rfl (.inl rfl) (pv 4))))))
    (pss_one (ps_ret (pe_callB (cr_any rfl) (by rfl) T.any (by decide +kernel) (pa_cons (pe_lc (own := [("_law_state", 5)]) (g := gName 5) (tt := tYes) (te := tOp (rIn K false) (tVar 5) (tFld K (tVar 0) "ends")) (by rfl) scWalked.nd (pi_list (pv 2))
      (blkOk_by (N := nWalked) (sc := defScope sWalked) (by decide +kernel)) (fun _ _ _ _ _ => pg_name (i := 5) scWalked.nd rfl (Or.inl rfl)) (fun _ _ _ _ _ => pts_nil) (fun _ _ _ _ _ => pe_cmpR op_in_seq (pv 5) (pe_fld (pv 0) (by rfl)) (by rfl))) pa_nil))))), ?_⟩
  obtain ⟨aa, adx, u1, u2, rfl, ga, d1, d2⟩ := hA.ex
  obtain ⟨wl, wxs, rfl, gwl, hwl⟩ := list_inv hW
  obtain ⟨ra, rxs, rfl, gra, hra⟩ := list_inv d1
  obtain ⟨ea, rfl, gea⟩ := intD_inv d2
  have lw := all_len hwl
  rw [List.length_map] at lw
  refine ⟨(by show 1 ≤ sizeLine; decide), fun s0 ns0 => ?_⟩
  have t0 := same_new (o := .lst [.int 0]) ns0
  refine ⟨_, rfl, wl, rfl, ⟨_, (hid_le.trans t0).seq gwl⟩, ?_⟩
  refine for_list (K := K) (a := wl) (xs := wxs) (fun i σ H2 => ∃ x3 x4 x5 x6 x7 sa S, σ = [some (.ref aa), some (.ref wl), some (.ref sa), x3, x4, x5, x6, x7] ∧ Once sa H H2 S ∧ ∀ k, k ∈ S ↔ k ∈ runS rows (wd.take i)) ?_ ?_ ?_ ?_
  · exact ⟨none, none, none, none, none, s0, [0], rfl, ⟨upd_same, by simp, t0⟩, fun k => Iff.rfl⟩
  · rintro i σ H2 _ ⟨_, _, _, _, _, _, _, _, g, _⟩
    exact (hid_le.trans g.same).seq gwl
  · rintro i xa σ H2 hi ⟨x3, x4, x5, x6, x7, sa, S, rfl, gS, mS⟩
    obtain ⟨d, hd1, hd2⟩ := all_get hwl hi
    rw [List.getElem?_map] at hd1
    obtain ⟨a, ha, rfl⟩ := Option.map_eq_some_iff.mp hd1
    obtain ⟨asc, lt⟩ := runS_ok WF (wd.take i)
    rw [runS_take ha]
    have ltS : ∀ k ∈ S, k < rows.length := fun k hk => lt k ((mS k).mp hk)
    have eS : ∀ k, k ∈ stepS rows a (runS rows (wd.take i)) ↔ k ∈ outs rows a S := fun k => by
      rw [mem_stepS WF]
      exact outs_congr rows a (fun k => (mS k).symm) k
    refine ⟨(by show 0 ≤ sizeLine; decide), fun La nL => ?_⟩
    have tL := same_new (o := .lst []) nL
    refine ⟨_, rfl, sa, rfl, ⟨_, .of (tL _ _ gS.at_)⟩, ?_⟩
    refine for_list (K := K) (a := sa) (xs := (zs S).map V.int) (fun n σ H3 => ∃ x5 x6 x7 l, σ = [some (.ref aa), some (.ref wl), some (.ref sa), some xa, some (.ref La), x5, x6, x7] ∧ Once La H2 H3 l ∧ ∀ k, k ∈ l ↔ k ∈ outs rows a (S.take n)) ?_ ?_ ?_ ?_
    · exact ⟨x5, x6, x7, [], rfl, ⟨upd_same, List.nodup_nil, tL⟩, fun k => by simp [outs]⟩
    · rintro n σ H3 _ ⟨_, _, _, _, _, g, _⟩
      exact .of (g.same _ _ gS.at_)
    · rintro n x σ H3 hx ⟨x5, x6, x7, l, rfl, g, ml⟩
      obtain ⟨st, rfl, hn⟩ := natAt hx
      have hst := ltS st (List.mem_of_getElem? hn)
      obtain ⟨hrow, hr63, hre⟩ := WF.rowOf hst
      obtain ⟨rv, hrv, drv⟩ := all_at hra (show (rows.map rowD)[st]? = some (rowD (rowOf rows st)) by rw [List.getElem?_map, hrow]; rfl)
      obtain ⟨rl, rys, rfl, grl, hrl⟩ := list_inv drv
      have s3 := gS.same.trans g.same
      refine ⟨_, rfl, aa, C, adx, _, _, rfl, s3 _ _ (hid_le _ _ ga), TA.cl, TA.n1, auF_rows, _, rfl, ra, rxs, _, _, rfl, rfl, (hid_le.trans s3).seq gra, atI_nat hrv, rl, rfl, ⟨_, (hid_le.trans s3).seq grl⟩, ?_⟩
      refine for_list (K := K) (a := rl) (xs := rys) (fun m σ H4 => ∃ x6 x7 l, σ = [some (.ref aa), some (.ref wl), some (.ref sa), some xa, some (.ref La), some (.int (st : Int)), x6, x7] ∧ Once La H2 H4 l ∧ ∀ k, k ∈ l ↔ k ∈ outs rows a (S.take n) ++ hits a ((rowOf rows st).take m)) ?_ ?_ ?_ ?_
      · exact ⟨x6, x7, l, rfl, g, fun k => by rw [ml k]; simp [hits]⟩
      · rintro m σ H4 _ ⟨_, _, _, _, g, _⟩
        exact (hid_le.trans (gS.same.trans g.same)).seq grl
      · rintro m y σ H4 hy ⟨x6, x7, l, rfl, g, ml⟩
        obtain ⟨d, hd1, hd2'⟩ := all_get hrl hy
        rw [List.getElem?_map] at hd1
        obtain ⟨e, he, rfl⟩ := Option.map_eq_some_iff.mp hd1
        obtain ⟨t, sv, rfl, gt, dsv⟩ := entD_inv hd2'
        have s4 := gS.same.trans g.same
        refine ⟨t, _, rfl, seqT (hid_le.trans s4) gt, rfl, _, _, rfl, _, _, rfl, rfl, ?_⟩
        refine ⟨_, rfl, _, rfl, stepD e.1, stepD a, Same.dp (hid_le.trans s4) dsv, Same.dp (hid_le.trans s4) hd2, stepD_shaped _, stepD_shaped _, _, rfl, ?_⟩
        rw [stepD_eqv]
        have same_l : (e.1 = a → e.2 ∈ l) → ∀ k, k ∈ l ↔ k ∈ outs rows a (S.take n) ++ hits a ((rowOf rows st).take (m + 1)) := fun h k => by
          rw [ml k, hits_take he, ← List.append_assoc]
          by_cases ea : e.1 = a
          · rw [if_pos ea, List.mem_append (t := [e.2]), List.mem_singleton]
            exact ⟨.inl, fun z => z.elim id fun z => by rw [z]; exact (ml _).mp (h ea)⟩
          · rw [if_neg ea, List.append_nil]
        refine ite2 (fun c => ?_) (fun c => ?_)
        · have ea : e.1 = a := of_decide_eq_true c
          refine ⟨_, rfl, _, rfl, La, _, rfl, .inl (.of g.at_), rfl, flat_ints _, _, rfl, ?_⟩
          rw [if_pos rfl, inV_ints, nat_in]
          by_cases hm : e.2 ∈ l
          · rw [decide_eq_true hm]
            refine iteF ?_
            exact ⟨some sv, some (.int (e.2 : Int)), l, rfl, g, same_l fun _ => hm⟩
          · rw [decide_eq_false hm]
            refine iteT ?_
            have l63 : l.length ≤ rows.length := nodup_nat g.nd fun k hk => by
              rcases List.mem_append.mp ((ml k).mp hk) with hk | hk
              · exact outs_lt WF hk
              · exact hre _ (List.mem_of_mem_take (mem_hits.mp hk))
            have := WF.len
            refine ⟨_, rfl, .inl ⟨rfl, _, .of g.at_⟩, _, rfl, La, _, _, rfl, rfl, g.at_, line60 (by rw [zs_len]; omega), ?_⟩
            refine ⟨some sv, some (.int (e.2 : Int)), l ++ [e.2], rfl, ⟨?_, ?_, same_put g.same nL⟩, fun k => ?_⟩
            · rw [upd_same, int_zs_snoc]
            · rw [List.nodup_append]
              exact ⟨g.nd, by simp, fun x hx y hy z => hm (by rw [← List.mem_singleton.mp hy, ← z]; exact hx)⟩
            · rw [List.mem_append, ml k, hits_take he, if_pos ea, ← List.append_assoc, List.mem_append (t := [e.2])]
        · have ea : ¬ e.1 = a := fun z => c (decide_eq_true z)
          refine iteF ?_
          exact ⟨some sv, some (.int (e.2 : Int)), l, rfl, g, same_l fun z => absurd z ea⟩
      · rintro σ H4 ⟨x6, x7, l, rfl, g, ml⟩
        have lr := all_len hrl
        rw [List.length_map] at lr
        rw [lr, List.take_length] at ml
        exact ⟨some (.int (st : Int)), x6, x7, l, rfl, g, fun k => by rw [ml k, outs_take hn]⟩
    · rintro σ H3 ⟨x5, x6, x7, l, rfl, g, ml⟩
      rw [zs_len, List.take_length] at ml
      exact ⟨_, rfl, some xa, some (.ref La), x5, x6, x7, La, l, rfl, ⟨g.at_, g.nd, gS.same.trans g.same⟩, fun k => (ml k).trans (eS k).symm⟩
  · rintro σ H2 ⟨x3, x4, x5, x6, x7, sa, S, rfl, g, mS⟩
    rw [lw, List.take_length] at mS
    refine ⟨_, rfl, sa, rfl, ⟨_, .of g.at_⟩, fun D nD => ?_⟩
    have lS : S.length ≤ rows.length := nodup_nat g.nd fun k hk => (runS_ok WF wd).2 k ((mS k).mp hk)
    have := WF.len
    refine bools_read (K := K) (S.map fun s => decide (s ∈ ends)) (by rw [zs_len, List.length_map]) (.of g.at_) nD (by rw [List.length_map]; omega) ?_ ?_
    · intro i x b H' R hx hb s' r
      obtain ⟨y, rfl, hy⟩ := natAt hx
      rw [List.getElem?_map, hy] at hb
      obtain rfl : decide (y ∈ ends) = b := Option.some.inj hb
      refine ⟨_, rfl, _, rfl, aa, C, adx, _, _, rfl, s' _ _ (g.same _ _ (hid_le _ _ ga)), TA.cl, TA.n2, auF_ends, ea, _, rfl, .inl ((hid_le.trans (g.same.trans s')).seq gea), rfl, flat_ints _, ?_⟩
      rw [if_neg Bool.false_ne_true, inV_ints, nat_in]
      exact r
    · intro H3 s3 gD
      refine ⟨D, _, rfl, gD, ?_⟩
      rw [List.any_map, any_congr mS]
      exact q H3 (g.same.trans s3)
end
end Sk

set_option Elab.async false
set_option linter.all false
/-! Skewer, the plain law: how far a program reads along a row, from place to place of the row. -/
namespace Sk
inductive RTC (R : Nat → Nat → Prop) : Nat → Nat → Prop where
  | refl (i : Nat) : RTC R i i
  | step {i k j : Nat} : R i k → RTC R k j → RTC R i j
section
variable {α : Type} (w : List α)
mutual
def Bh : Pg α → Nat → Nat → Prop
  | .st a, i, j => w[i]? = some a ∧ j = i + 1
  | .rest, i, j => j = i
  | .any p, i, j => RTC (Bh p) i j
  | .row ps, i, j => BhRow ps i j
  | .alt ps, i, j => BhAlt ps i j
def BhRow : List (Pg α) → Nat → Nat → Prop
  | [], i, j => j = i
  | p :: ps, i, j => ∃ k, Bh p i k ∧ BhRow ps k j
def BhAlt : List (Pg α) → Nat → Nat → Prop
  | [], _, _ => False
  | p :: ps, i, j => Bh p i j ∨ BhAlt ps i j
end
/-- u stands in w from i to j -/
def Seg (i : Nat) (u : List α) (j : Nat) : Prop := w.drop i = u ++ w.drop j ∧ j = i + u.length ∧ j ≤ w.length
theorem seg_nil {i : Nat} (h : i ≤ w.length) : Seg w i [] i := ⟨rfl, rfl, h⟩
theorem seg_app {i j k : Nat} {u v : List α} (a : Seg w i u k) (b : Seg w k v j) : Seg w i (u ++ v) j :=
  ⟨by rw [a.1, b.1, List.append_assoc], by rw [List.length_append, b.2.1, a.2.1, Nat.add_assoc], b.2.2⟩
theorem seg_cut {i j : Nat} {u v : List α} (h : Seg w i (u ++ v) j) : ∃ k, Seg w i u k ∧ Seg w k v j := by
  obtain ⟨h1, h2, h3⟩ := h
  rw [List.length_append] at h2
  have e : w.drop (i + u.length) = v ++ w.drop j := by
    rw [← List.drop_drop, h1, List.append_assoc, List.drop_left]
  exact ⟨i + u.length, ⟨by rw [e, h1, List.append_assoc], rfl, by omega⟩, ⟨e, by omega, h3⟩⟩
theorem seg_one {i j : Nat} {a : α} : Seg w i [a] j ↔ w[i]? = some a ∧ j = i + 1 := by
  constructor
  · rintro ⟨h1, h2, h3⟩
    refine ⟨?_, h2⟩
    have e : (w.drop i)[0]? = some a := by rw [h1]; rfl
    rwa [List.getElem?_drop, Nat.add_zero] at e
  · rintro ⟨h1, rfl⟩
    obtain ⟨hi, e⟩ := List.getElem?_eq_some_iff.mp h1
    exact ⟨by rw [List.drop_eq_getElem_cons hi, e]; rfl, rfl, hi⟩
theorem star_seg {L : List α → Prop} {R : Nat → Nat → Prop} (h : ∀ i j, i ≤ w.length → (R i j ↔ ∃ u, L u ∧ Seg w i u j)) {i j : Nat} (hi : i ≤ w.length) : RTC R i j ↔ ∃ u, Star L u ∧ Seg w i u j := by
  constructor
  · intro r
    induction r with
    | refl i => exact ⟨[], .nil, seg_nil w hi⟩
    | step r _ ih =>
      obtain ⟨u, hu, su⟩ := (h _ _ hi).mp r
      obtain ⟨v, hv, sv⟩ := ih su.2.2
      exact ⟨u ++ v, .cons hu hv, seg_app w su sv⟩
  · rintro ⟨u, s, sg⟩
    induction s generalizing i with
    | nil =>
      have e := sg.2.1
      rw [List.length_nil, Nat.add_zero] at e
      subst e
      exact .refl _
    | cons l _ ih =>
      obtain ⟨k, s1, s2⟩ := seg_cut w sg
      exact .step ((h _ _ hi).mpr ⟨_, l, s1⟩) (ih s1.2.2 s2)
mutual
theorem bh_iff : ∀ (p : Pg α) (i j : Nat), i ≤ w.length → (Bh w p i j ↔ ∃ u, Spl p u ∧ Seg w i u j)
  | .st a, i, j, hi => by
    simp only [Bh, Spl]
    rw [← seg_one]
    exact ⟨fun h => ⟨_, rfl, h⟩, fun ⟨u, e, h⟩ => by rw [e] at h; exact h⟩
  | .rest, i, j, hi => by
    simp only [Bh, Spl]
    constructor
    · rintro rfl; exact ⟨[], rfl, seg_nil w hi⟩
    · rintro ⟨u, rfl, _, h, _⟩; exact h
  | .any p, i, j, hi => by
    simp only [Bh, Spl]
    exact star_seg w (fun i j hi => bh_iff p i j hi) hi
  | .row ps, i, j, hi => by simp only [Bh, Spl]; exact bhRow_iff ps i j hi
  | .alt ps, i, j, hi => by simp only [Bh, Spl]; exact bhAlt_iff ps i j hi
theorem bhRow_iff : ∀ (ps : List (Pg α)) (i j : Nat), i ≤ w.length → (BhRow w ps i j ↔ ∃ u, SplRow ps u ∧ Seg w i u j)
  | [], i, j, hi => by
    simp only [BhRow, SplRow]
    constructor
    · rintro rfl; exact ⟨[], rfl, seg_nil w hi⟩
    · rintro ⟨u, rfl, _, h, _⟩; exact h
  | p :: ps, i, j, hi => by
    simp only [BhRow, SplRow]
    constructor
    · rintro ⟨k, h1, h2⟩
      obtain ⟨u, hu, su⟩ := (bh_iff p i k hi).mp h1
      obtain ⟨v, hv, sv⟩ := (bhRow_iff ps k j su.2.2).mp h2
      exact ⟨u ++ v, ⟨u, v, rfl, hu, hv⟩, seg_app w su sv⟩
    · rintro ⟨_, ⟨u, v, rfl, hu, hv⟩, s⟩
      obtain ⟨k, s1, s2⟩ := seg_cut w s
      exact ⟨k, (bh_iff p i k hi).mpr ⟨u, hu, s1⟩, (bhRow_iff ps k j s1.2.2).mpr ⟨v, hv, s2⟩⟩
theorem bhAlt_iff : ∀ (ps : List (Pg α)) (i j : Nat), i ≤ w.length → (BhAlt w ps i j ↔ ∃ u, SplAlt ps u ∧ Seg w i u j)
  | [], i, j, hi => by simp only [BhAlt, SplAlt]; exact ⟨False.elim, fun ⟨_, z, _⟩ => z⟩
  | p :: ps, i, j, hi => by
    simp only [BhAlt, SplAlt]
    rw [bh_iff p i j hi, bhAlt_iff ps i j hi]
    constructor
    · rintro (⟨u, h, s⟩ | ⟨u, h, s⟩)
      · exact ⟨u, .inl h, s⟩
      · exact ⟨u, .inr h, s⟩
    · rintro ⟨u, h | h, s⟩
      · exact .inl ⟨u, h, s⟩
      · exact .inr ⟨u, h, s⟩
end
theorem bh_le {p : Pg α} {i j : Nat} (hi : i ≤ w.length) (h : Bh w p i j) : i ≤ j ∧ j ≤ w.length := by
  obtain ⟨u, _, _, e, l⟩ := (bh_iff w p i j hi).mp h
  omega
theorem bh_whole {p : Pg α} : Bh w p 0 w.length ↔ Spl p w := by
  rw [bh_iff w p 0 _ (Nat.zero_le _)]
  constructor
  · rintro ⟨u, h, e, _, _⟩
    rw [List.drop_zero, List.drop_length, List.append_nil] at e
    rw [e]
    exact h
  · intro h
    exact ⟨w, h, by rw [List.drop_zero, List.drop_length, List.append_nil], by omega, Nat.le_refl _⟩
/-! ### again and again: what is found, the newest of it -/
structure AnyInv (p : Pg α) (S F N : List Nat) (t : Nat) : Prop where
  nF : F.Nodup
  nN : N.Nodup
  sub : ∀ k ∈ N, k ∈ F
  le : ∀ k ∈ F, k ≤ w.length
  start : ∀ k ∈ S, k ∈ F
  from_ : ∀ k ∈ F, ∃ i ∈ S, RTC (Bh w p) i k
  closed : ∀ k ∈ F, k ∉ N → ∀ j, Bh w p k j → j ∈ F
  late : ∀ k ∈ N, t ≤ k
theorem rtc_snoc {R : Nat → Nat → Prop} {i k j : Nat} (h : RTC R i k) (r : R k j) : RTC R i j := by
  induction h with
  | refl i => exact .step r (.refl _)
  | step a _ ih => exact .step a (ih r)
theorem AnyInv.first {p : Pg α} {S : List Nat} (nd : S.Nodup) (le : ∀ k ∈ S, k ≤ w.length) : AnyInv w p S S S 0 :=
  ⟨nd, nd, fun _ h => h, le, fun _ h => h, fun k h => ⟨k, h, .refl _⟩, fun _ h n => absurd h n, fun _ _ => Nat.zero_le _⟩
theorem AnyInv.next {p : Pg α} {S F N R : List Nat} {t : Nat} (I : AnyInv w p S F N t) (nR : R.Nodup) (hR : ∀ j, j ∈ R ↔ ∃ i ∈ N, Bh w p i j) : AnyInv w p S (F ++ R.filter fun k => decide (k ∉ F)) (R.filter fun k => decide (k ∉ F)) (t + 1) := by
  have mem : ∀ k, k ∈ R.filter (fun k => decide (k ∉ F)) ↔ (∃ i ∈ N, Bh w p i k) ∧ k ∉ F := fun k => by rw [List.mem_filter, hR, decide_eq_true_eq]
  have leN : ∀ k ∈ R.filter (fun k => decide (k ∉ F)), k ≤ w.length := fun k hk => by
    obtain ⟨⟨i, hi, b⟩, _⟩ := (mem k).mp hk
    exact (bh_le w (I.le i (I.sub i hi)) b).2
  refine ⟨?_, nR.filter _, fun k h => List.mem_append_right _ h, fun k h => (List.mem_append.mp h).elim (I.le k) (leN k), fun k h => List.mem_append_left _ (I.start k h), fun k h => ?_, fun k h n j b => ?_, fun k h => ?_⟩
  · rw [List.nodup_append]
    exact ⟨I.nF, nR.filter _, fun x hx y hy e => ((mem y).mp hy).2 (e ▸ hx)⟩
  · rcases List.mem_append.mp h with h | h
    · exact I.from_ k h
    · obtain ⟨⟨i, hi, b⟩, _⟩ := (mem k).mp h
      obtain ⟨s, hs, r⟩ := I.from_ i (I.sub i hi)
      exact ⟨s, hs, rtc_snoc r b⟩
  · have hF : k ∈ F := (List.mem_append.mp h).elim id fun z => absurd z n
    by_cases hN : k ∈ N
    · by_cases hj : j ∈ F
      · exact List.mem_append_left _ hj
      · exact List.mem_append_right _ ((mem j).mpr ⟨⟨k, hN, b⟩, hj⟩)
    · exact List.mem_append_left _ (I.closed k hF hN j b)
  · obtain ⟨⟨i, hi, b⟩, hn⟩ := (mem k).mp h
    have h1 := (bh_le w (I.le i (I.sub i hi)) b).1
    have h2 := I.late i hi
    have h3 : i ≠ k := fun e => hn (e ▸ I.sub i hi)
    omega
theorem AnyInv.done {p : Pg α} {S F N : List Nat} (I : AnyInv w p S F N (w.length + 1)) (j : Nat) : j ∈ F ↔ ∃ i ∈ S, RTC (Bh w p) i j := by
  have hN : ∀ k, k ∉ N := fun k h => by
    have h1 := I.late k h
    have h2 := I.le k (I.sub k h)
    omega
  constructor
  · exact I.from_ j
  · rintro ⟨i, hi, r⟩
    have key : ∀ i j, RTC (Bh w p) i j → i ∈ F → j ∈ F := fun i j r => by
      induction r with
      | refl i => exact id
      | step b _ ih => exact fun h => ih (I.closed _ h (hN _) _ b)
    exact key i j r (I.start i hi)
end
end Sk

set_option Elab.async false
set_option linter.all false
set_option maxRecDepth 100000
set_option maxHeartbeats 4000000
/-! Skewer, the walk: _law_behind, _law_spelled. -/
namespace Sk
open PySem L2
theorem natD_eq (ns : List Nat) : natD ns = .list ((zs ns).map PyData.int) := rfl
theorem natD_inv {K : PySem.W.Frag} {H : Hp} {v : V} {ns : List Nat} (h : Dp K H v (natD ns)) : ∃ a, v = .ref a ∧ SqL K H a ((zs ns).map V.int) := intD_inv h
theorem natD_new {K : PySem.W.Frag} {Z : List Addr} {H : Hp} {p : Addr} {ns : List Nat} (hZ : Dom Z H) (np : H p = none) : Dp K (hid Z (upd H p (.lst ((zs ns).map V.int)))) (.ref p) (natD ns) := dp_new hZ np (all_ints _)
/-- [f(k) for k in xs if ..]: ints, some of them, by a test and a value of your own; j the comprehension's slot -/
theorem pick_read {K : PySem.W.Frag} {a : Addr} {ns : List Nat} {j : Nat} {tt : TT} {te : TE} {σ : L2.St} {H1 : Hp} {Q : Addr → Hp → Prop} (p : Nat → Bool) (g : Nat → Nat) (ha : SqL K H1 a ((zs ns).map V.int)) (hb : ns.length ≤ 1000000)
    (htt : ∀ (k : Nat) (H : Hp) (R : Bool → Hp → Prop), k ∈ ns → Same H1 H → R (p k) H → tt ((wipe σ [j]).set j (some (.int (k : Int)))) H R)
    (hte : ∀ (k : Nat) (H : Hp) (R : VK), k ∈ ns → p k = true → Same H1 H → R (.int (g k : Nat)) H → te ((wipe σ [j]).set j (some (.int (k : Int)))) H R)
    (q : ∀ D H, H1 D = none → Same H1 H → H D = some (.lst ((zs ((ns.filter p).map g)).map V.int)) → Q D H) :
    ∀ D, H1 D = none → ∃ W : Nat → Nat → Hp → Prop, (∃ m, W 0 m (upd H1 D (.lst []))) ∧ ∀ i m H, W i m H →
      ((Itl K a).stop i H ∧ Q D H) ∨ ((Itl K a).go i H ∧ ∃ Nx : Hp → Prop, (∀ H', Nx H' → ∃ m', m' < m ∧ W (i + 1) m' H') ∧ ∀ x H', (Itl K a).yld i H x H' → gName j x (wipe σ [j]) H' fun σ2 H2 => wipe σ2 [j] = wipe σ [j] ∧ tt σ2 H2 fun b H3 =>
        if b = true then te σ2 H3 fun y H4 => ∃ acc, H4 D = some (.lst acc) ∧ acc.length < sizeLine ∧ Nx (upd H4 D (.lst (acc ++ [y]))) else Nx H3) := by
  intro D nD
  refine lc_list (K := K) (a := a) (xs := (zs ns).map V.int) (fun i H => Same H1 H ∧ H D = some (.lst ((zs (((ns.take i).filter p).map g)).map V.int))) ?_ ?_ ?_ ?_
  · exact ⟨same_new nD, upd_same⟩
  · rintro i H _ ⟨s, _⟩
    exact s.seq ha
  · rintro i x H hx ⟨s, e⟩
    obtain ⟨k, rfl, hk⟩ := natAt hx
    have mk : k ∈ ns := List.mem_of_getElem? hk
    refine ⟨?_, ?_⟩
    · show (((σ.set j none).set j (some (.int (k : Int)))).set j none) = σ.set j none
      rw [List.set_set, List.set_set]
    · refine htt k H _ mk s ?_
      have tk : (ns.take (i + 1)).filter p = (ns.take i).filter p ++ (if p k = true then [k] else []) := by
        rw [List.take_add_one, hk, List.filter_append]
        by_cases h : p k = true <;> simp [h]
      cases h : p k with
      | false =>
        rw [if_neg Bool.false_ne_true]
        rw [h, if_neg Bool.false_ne_true, List.append_nil] at tk
        rw [tk]
        exact ⟨s, e⟩
      | true =>
        rw [if_pos rfl]
        rw [h, if_pos rfl] at tk
        refine hte k H _ mk h s ⟨_, e, ?_, same_put s nD, ?_⟩
        · rw [zs_len, List.length_map]
          refine line60 (Nat.le_trans (List.length_filter_le ..) ?_)
          rw [List.length_take]
          omega
        · rw [upd_same, tk, List.map_append]
          exact congrArg (fun l => some (HO.lst l)) (int_zs_snoc _ _)
  · rintro H ⟨s, e⟩
    rw [zs_len, List.take_length] at e
    exact q D H nD s e
def spBehind (K : PySem.W.Frag) (n : Nat) : Sp := fun vs H Q _ => ∃ (Z : List Addr) (pv wv sv : V) (p : Prog) (w : List Step) (S : List Nat), vs = [pv, wv, sv] ∧ Dom Z H ∧ Dp K (hid Z H) pv (progD p) ∧ Dp K (hid Z H) wv (wordD w) ∧ Dp K (hid Z H) sv (natD S) ∧ S.Nodup ∧ (∀ k ∈ S, k ≤ w.length) ∧ w.length ≤ 10 ∧ depthP p ≤ n ∧
  ∀ H' v S', Same H H' → Dp K (hid Z H') v (natD S') → S'.Nodup → (∀ j, j ∈ S' ↔ ∃ i ∈ S, Bh w p i j) → Q v H'
theorem nodup_few {S : List Nat} {m : Nat} (nd : S.Nodup) (le : ∀ k ∈ S, k ≤ m) : S.length ≤ m + 1 := nodup_nat nd fun k hk => Nat.lt_succ_of_le (le k hk)
theorem bhRow_take {w : List Step} : ∀ (ps : List Prog) (i : Nat) (p : Prog) (a j : Nat), ps[i]? = some p → (BhRow w (ps.take (i + 1)) a j ↔ ∃ k, BhRow w (ps.take i) a k ∧ Bh w p k j)
  | [], i, p, a, j, h => by simp at h
  | q :: ps, 0, p, a, j, h => by
    simp at h
    subst h
    simp only [List.take_succ_cons, List.take_zero, BhRow]
    exact ⟨fun ⟨k, h1, h2⟩ => ⟨a, rfl, by rw [h2]; exact h1⟩, fun ⟨k, h1, h2⟩ => ⟨j, by rw [h1] at h2; exact h2, rfl⟩⟩
  | q :: ps, i + 1, p, a, j, h => by
    have ih := fun a => bhRow_take (w := w) ps i p a j (by simpa using h)
    simp only [List.take_succ_cons, BhRow]
    constructor
    · rintro ⟨k, h1, h2⟩
      obtain ⟨k', h3, h4⟩ := (ih k).mp h2
      exact ⟨k', ⟨k, h1, h3⟩, h4⟩
    · rintro ⟨k', ⟨k, h1, h3⟩, h4⟩
      exact ⟨k, h1, (ih k).mpr ⟨k', h3, h4⟩⟩
theorem bhAlt_take {w : List Step} : ∀ (ps : List Prog) (i : Nat) (p : Prog) (a j : Nat), ps[i]? = some p → (BhAlt w (ps.take (i + 1)) a j ↔ BhAlt w (ps.take i) a j ∨ Bh w p a j)
  | [], i, p, a, j, h => by simp at h
  | q :: ps, 0, p, a, j, h => by
    simp at h
    subst h
    simp only [List.take_succ_cons, List.take_zero, BhAlt]
    exact ⟨fun z => .inr (z.elim id False.elim), fun z => .inl (z.elim False.elim id)⟩
  | q :: ps, i + 1, p, a, j, h => by
    have ih := bhAlt_take (w := w) ps i p a j (by simpa using h)
    simp only [List.take_succ_cons, BhAlt, ih, or_assoc]
section
variable {P : Program} {w : World} {K : PySem.W.Frag} {mg : Str → Option Value} {base : Heap} {f : Addr} {fd : FuncData}
abbrev nBehind : List Str := ["_law_program", "_law_row", "_law_starts", "_law_kind", "_law_part_here", "_law_found", "_law_newest", "_law_turn", "_law_k"]
theorem scBehind : FnScope nBehind ["_law_program", "_law_row", "_law_starts"] (defScope sBehind) := ⟨rfl, rfl, rfl, by decide +kernel, rfl, by decide +kernel, by decide +kernel⟩
theorem ok_behind {j n : Nat} (F : Fun K "_law_behind" "_law_behind" sBehind f fd) (T : Txt K mg) (C : Callee P w K mg base j "_law_behind" ["_law_program", "_law_row", "_law_starts"] (spBehind K n)) : FnOk P w K mg base CX0 (j + 1) f fd ["_law_program", "_law_row", "_law_starts"] (spBehind K (n + 1)) := by
  refine F.ok scBehind (fun vs H Q E h => ?_) (fun cdv A outer s H vs Q E hr h => ?_)
  · obtain ⟨Z, pv, wv, sv, p, wd, S, rfl, _⟩ := h
    rfl
  obtain ⟨Z, pv, wv, sv, p, wd, S, rfl, hZ, hp, hw, hS, nS, lS, lw, hd, q⟩ := h
  refine ⟨_, pss_cons (ps_set (i := 3) scBehind.nd rfl (.inl rfl) (pe_ix ix_tup (L2.pv 0) pe_int (fun _ _ => rfl)))
    (pss_cons (ps_if (pt_cmpR op_eq (L2.pv 3) pe_str (nomark _)) (pss_one (ps_ret (pe_callTy call_list_of (by rfl) T.list (by decide +kernel) (pa_cons (L2.pv 2) pa_nil)))) pss_nil)
    (pss_cons (ps_if (pt_cmpR op_eq (L2.pv 3) pe_str (nomark _))
      (pss_cons (ps_for PassesOwn.never rfl (pi_list (pe_ix ix_tup (L2.pv 0) pe_int (fun _ _ => rfl))) (pg_name (i := 4) scBehind.nd rfl (.inl rfl))
        (pss_one (ps_set (i := 2) scBehind.nd rfl (.inl rfl) (pe_cal C hr (by rfl) (pa_cons (L2.pv 4) (pa_cons (L2.pv 1) (pa_cons (L2.pv 2) pa_nil)))))))
      (pss_one (ps_ret (L2.pv 2)))) pss_nil)
    (pss_cons (ps_set (i := 5) scBehind.nd rfl (.inr rfl) (pe_lst pa_nil))
    (pss_cons (ps_if (pt_cmpR op_eq (L2.pv 3) pe_str (nomark _))
      (pss_cons (ps_for PassesOwn.never rfl (pi_list (pe_ix ix_tup (L2.pv 0) pe_int (fun _ _ => rfl))) (pg_name (i := 4) scBehind.nd rfl (.inl rfl))
        (pss_one (ps_set (i := 5) scBehind.nd rfl (.inr rfl) (pe_op op_catL (L2.pv 5) (pe_lc (own := [("_law_k", 8)]) (g := gName 8) (tt := tTest (tOp (rIn K true) (tVar 8) (tVar 5))) (te := tVar 8) (by rfl) scBehind.nd (pi_list (pe_cal C hr (by rfl) (pa_cons (L2.pv 4) (pa_cons (L2.pv 1) (pa_cons (L2.pv 2) pa_nil)))))
          (blkOk_by (N := nBehind) (sc := defScope sBehind) (by decide +kernel)) (fun _ _ _ _ _ => pg_name (i := 8) scBehind.nd rfl (Or.inl rfl)) (fun _ _ _ _ _ => pts_one (pt_cmpR op_notIn_seq (L2.pv 8) (L2.pv 5) (by rfl))) (fun _ _ _ _ _ => L2.pv 8))))))
      (pss_one (ps_ret (L2.pv 5)))) pss_nil)
    (pss_cons (ps_if (pt_cmpR op_eq (L2.pv 3) pe_str (nomark _))
      (pss_cons (ps_set (i := 5) scBehind.nd rfl (.inr rfl) (pe_callTy call_list_of (by rfl) T.list (by decide +kernel) (pa_cons (L2.pv 2) pa_nil)))
      (pss_cons (ps_set (i := 6) scBehind.nd rfl (.inl rfl) (pe_callTy call_list_of (by rfl) T.list (by decide +kernel) (pa_cons (L2.pv 2) pa_nil)))
      (pss_cons (ps_for PassesOwn.never rfl (pi_range1 (by rfl) T.range (pa_cons (pe_op op_add (pe_callB call_len_seq (by rfl) T.len PySem.boot_len (pa_cons (L2.pv 1) pa_nil)) pe_int) pa_nil)) (pg_name (i := 7) scBehind.nd rfl (.inl rfl))
        (pss_cons (ps_setLc (i := 6) (own := [("_law_k", 8)]) (g := gName 8) (tt := tTest (tOp (rIn K true) (tVar 8) (tVar 5))) (te := tVar 8) (by rfl) scBehind.nd rfl rfl (sw_true rfl rfl rfl (by decide +kernel)) (pi_list (pe_cal C hr (by rfl) (pa_cons (pe_ix ix_tup (L2.pv 0) pe_int (fun _ _ => rfl)) (pa_cons (L2.pv 1) (pa_cons (L2.pv 6) pa_nil)))))
          (blkOk_by (N := nBehind) (sc := defScope sBehind) (by decide +kernel)) (fun _ _ _ _ _ => pg_name (i := 8) scBehind.nd rfl (Or.inl rfl)) (fun _ _ _ _ _ => pts_one (pt_cmpR op_notIn_seq (L2.pv 8) (L2.pv 5) (by rfl))) (fun _ _ _ _ _ => L2.pv 8))
        (pss_one (ps_set (i := 5) scBehind.nd rfl (.inr rfl) (pe_op op_catL (L2.pv 5) (L2.pv 6))))))
      (pss_one (ps_ret (L2.pv 5)))))) pss_nil)
    (pss_one (ps_ret (pe_lc (own := [("_law_k", 8)]) (g := gName 8) (tt := tAnd (tTest (tOp (rI0 fun i j => .bl (decide (i < j))) (tVar 8) (tCB (fun xs H Q => ∃ p ys, xs = [.ref p] ∧ (SqL K H p ys ∨ SqT K H p ys) ∧ Q (.int ys.length) H) (tCons (tVar 1) tNil)))) (tTest (tOp (rEqD K) (tOp (rIxL K) (tVar 1) (tVar 8)) (tVar 0)))) (te := tOp (rI0 fun i j => .int (i + j)) (tVar 8) (tC (.int 1))) (by rfl) scBehind.nd (pi_list (L2.pv 2))
      (blkOk_by (N := nBehind) (sc := defScope sBehind) (by decide +kernel)) (fun _ _ _ _ _ => pg_name (i := 8) scBehind.nd rfl (Or.inl rfl))
      (fun _ _ _ _ _ => pts_one (PW.pt (pw_and (pt_cmpR op_lt (L2.pv 8) (pe_callB call_len_seq (by rfl) T.len PySem.boot_len (pa_cons (L2.pv 1) pa_nil)) (nomark _)) (pw_and1 (pt_cmpR (op_eqD hr.units) (pe_ix ix_list (L2.pv 1) (L2.pv 8) (fun _ _ => rfl)) (L2.pv 0) (nomark _))))))
      (fun _ _ _ _ _ => pe_op op_add (L2.pv 8) pe_int))))))))), ?_⟩
  obtain ⟨sa, rfl, gsa⟩ := natD_inv hS
  obtain ⟨wl, wxs, rfl, gwl, hwl⟩ := list_inv hw
  have lwx := all_len hwl
  rw [List.length_map] at lwx
  -- the numbers of a call's answer that are not found yet
  have fresh : ∀ (H1 : Hp) (F R : List Nat) (fa ra : Addr) (σ : L2.St) (QQ : Addr → Hp → Prop), SqL K H1 fa ((zs F).map V.int) → SqL K H1 ra ((zs R).map V.int) → R.length ≤ 1000 → 8 < σ.length → (∀ x : V, ((wipe σ [8]).set 8 (some x))[5]? = some (some (.ref fa))) →
      (∀ D H, H1 D = none → Same H1 H → H D = some (.lst ((zs (R.filter fun k => decide (k ∉ F))).map V.int)) → QQ D H) →
      ∀ D, H1 D = none → ∃ W : Nat → Nat → Hp → Prop, (∃ m, W 0 m (upd H1 D (.lst []))) ∧ ∀ i m H, W i m H →
      ((Itl K ra).stop i H ∧ QQ D H) ∨ ((Itl K ra).go i H ∧ ∃ Nx : Hp → Prop, (∀ H', Nx H' → ∃ m', m' < m ∧ W (i + 1) m' H') ∧ ∀ x H', (Itl K ra).yld i H x H' → gName 8 x (wipe σ [8]) H' fun σ2 H2 => wipe σ2 [8] = wipe σ [8] ∧ tTest (tOp (rIn K true) (tVar 8) (tVar 5)) σ2 H2 fun b H3 =>
        if b = true then tVar 8 σ2 H3 fun y H4 => ∃ acc, H4 D = some (.lst acc) ∧ acc.length < sizeLine ∧ Nx (upd H4 D (.lst (acc ++ [y]))) else Nx H3) := by
    intro H1 F R fa ra σ QQ hF hR lR l8 h5 k
    have get8 : ∀ x : V, ((wipe σ [8]).set 8 (some x))[8]? = some (some x) := fun x => by
      show ((σ.set 8 none).set 8 (some x))[8]? = _
      rw [List.set_set, List.getElem?_set_self l8]
    refine pick_read (K := K) (fun k => decide (k ∉ F)) id hR (by omega) ?_ ?_ ?_
    · intro k H' RR _ s' r
      refine ⟨_, get8 _, _, h5 _, fa, _, rfl, .inl (s'.seq hF), rfl, flat_ints _, _, rfl, ?_⟩
      rw [if_pos rfl, inV_ints, nat_in, ← decide_not]
      exact r
    · intro k H' RR _ _ s' r
      exact ⟨_, get8 _, r⟩
    · intro D H' nD s' e
      rw [List.map_id] at e
      exact k D H' nD s' e
  rcases prog_cases hp with ⟨s1, a, rfl, rfl, hT⟩ | ⟨a, rfl, rfl, hT⟩ | ⟨p', a, x, rfl, rfl, hT, hx⟩ | ⟨kn, ps, a, l, xs, M⟩
  · -- a step
    refine ⟨_, rfl, a, _, _, _, rfl, rfl, seqT hid_le hT, at0, ?_⟩
    refine ⟨_, rfl, rfl, _, rfl, ite2 (fun c => absurd (of_decide_eq_true c) (fun e => kind_ne (s := s1) (x := "rest") (by decide +kernel) (V.str.inj e))) (fun _ => ?_)⟩
    refine ⟨_, rfl, rfl, _, rfl, ite2 (fun c => absurd (of_decide_eq_true c) (fun e => kind_ne (s := s1) (x := "row") (by decide +kernel) (V.str.inj e))) (fun _ => ?_)⟩
    refine ⟨(by show 0 ≤ sizeLine; decide), fun fo nf => ?_⟩
    have t1 := same_new (o := .lst []) nf
    refine ⟨_, rfl, rfl, _, rfl, ite2 (fun c => absurd (of_decide_eq_true c) (fun e => kind_ne (s := s1) (x := "either") (by decide +kernel) (V.str.inj e))) (fun _ => ?_)⟩
    refine ⟨_, rfl, rfl, _, rfl, ite2 (fun c => absurd (of_decide_eq_true c) (fun e => kind_ne (s := s1) (x := "any") (by decide +kernel) (V.str.inj e))) (fun _ => ?_)⟩
    refine ⟨_, rfl, sa, rfl, ⟨_, (hid_le.trans t1).seq gsa⟩, ?_⟩
    have lS1 := nodup_few nS lS
    refine pick_read (K := K) (fun k => decide (wd[k]? = some s1)) (fun k => k + 1) ((hid_le.trans t1).seq gsa) (by omega) ?_ ?_ ?_
    · intro k H' RR mk s' r
      have s2 := t1.trans s'
      refine ⟨_, rfl, _, rfl, wl, wxs, rfl, .inl ((hid_le.trans s2).seq gwl), _, _, rfl, rfl, _, rfl, ?_⟩
      refine ite2 (fun c => ?_) (fun c => ?_)
      · have hk : k < wd.length := by have := of_decide_eq_true c; omega
        have hwk : wd[k]? = some wd[k] := List.getElem?_eq_getElem hk
        obtain ⟨sv, hsv, dsv⟩ := all_at hwl (show (wd.map stepD)[k]? = some (stepD wd[k]) by rw [List.getElem?_map, hwk]; rfl)
        refine ⟨_, rfl, _, rfl, wl, wxs, _, sv, rfl, rfl, (hid_le.trans s2).seq gwl, atI_nat hsv, _, rfl, stepD wd[k], stepD s1, Same.dp (hid_le.trans s2) dsv, Same.dp (hid_le.trans s2) (stepD_of hT), stepD_shaped _, stepD_shaped _, _, rfl, ?_⟩
        rw [stepD_eqv]
        have e : decide (wd[k] = s1) = decide (wd[k]? = some s1) := decide_eq_decide.mpr (by rw [hwk]; exact ⟨fun z => by rw [z], fun z => Option.some.inj z⟩)
        rw [e]
        exact r
      · have hk : wd[k]? = none := List.getElem?_eq_none (by
          have z : ¬ (k : Int) < (wxs.length : Int) := fun z => c (decide_eq_true z)
          omega)
        have e : decide (wd[k]? = some s1) = false := decide_eq_false (by rw [hk]; exact fun z => (nomatch z))
        show RR false H'
        rw [← e]
        exact r
    · intro k H' RR _ _ s' r
      exact ⟨_, rfl, _, _, rfl, rfl, r⟩
    · intro D H' nD s' e
      refine q H' _ ((S.filter fun k => decide (wd[k]? = some s1)).map fun k => k + 1) (t1.trans s') (intD_of (.of (by rw [hid_out ((hZ.same t1).out nD)]; exact e))) ?_ ?_
      · exact List.Pairwise.map _ (fun a b h e => h (Nat.succ.inj e)) (nS.filter _)
      · intro j
        simp only [List.mem_map, List.mem_filter, decide_eq_true_eq, Bh]
        constructor
        · rintro ⟨k, ⟨h1, h2⟩, h3⟩; exact ⟨k, h1, h2, h3.symm⟩
        · rintro ⟨k, h1, h2, h3⟩; exact ⟨k, ⟨h1, h2⟩, h3.symm⟩
  · -- rest
    refine ⟨_, rfl, a, _, _, _, rfl, rfl, seqT hid_le hT, at0, ?_⟩
    refine ⟨_, rfl, rfl, _, rfl, ite2 (fun _ => ?_) (fun c => absurd (decide_eq_true rfl) c)⟩
    refine ⟨_, rfl, sa, _, rfl, .inl (hid_le.seq gsa), fun l nl => ?_⟩
    refine q _ _ S (same_new nl) (natD_new hZ nl) nS fun j => ?_
    simp only [Bh]
    exact ⟨fun h => ⟨j, h, rfl⟩, fun ⟨i, h, e⟩ => by rw [e]; exact h⟩
  · -- any
    simp only [depthP] at hd
    refine ⟨_, rfl, a, _, _, _, rfl, rfl, seqT hid_le hT, at0, ?_⟩
    refine ⟨_, rfl, rfl, _, rfl, ite2 (fun c => absurd (of_decide_eq_true c) (by decide +kernel)) (fun _ => ?_)⟩
    refine ⟨_, rfl, rfl, _, rfl, ite2 (fun c => absurd (of_decide_eq_true c) (by decide +kernel)) (fun _ => ?_)⟩
    refine ⟨(by show 0 ≤ sizeLine; decide), fun fo nf => ?_⟩
    have t1 := same_new (o := .lst []) nf
    refine ⟨_, rfl, rfl, _, rfl, ite2 (fun c => absurd (of_decide_eq_true c) (by decide +kernel)) (fun _ => ?_)⟩
    refine ⟨_, rfl, rfl, _, rfl, ite2 (fun _ => ?_) (fun c => absurd (decide_eq_true rfl) c)⟩
    refine ⟨_, rfl, sa, _, rfl, .inl ((hid_le.trans t1).seq gsa), fun l1 nl1 => ?_⟩
    have t2 := t1.trans (same_new (o := .lst ((zs S).map V.int)) nl1)
    refine ⟨_, rfl, sa, _, rfl, .inl ((hid_le.trans t2).seq gsa), fun l2 nl2 => ?_⟩
    have t3 := t2.trans (same_new (o := .lst ((zs S).map V.int)) nl2)
    have z1 := hZ.same t1
    have z2 := hZ.same t2
    refine ⟨_, rfl, wl, wxs, rfl, .inl ((hid_le.trans t3).seq gwl), _, 1, rfl, rfl, _, rfl, by omega, by omega, ?_⟩
    refine for_range (lo := 0) (n := ((wxs.length : Int) + 1).toNat) (fun t σ H2 => ∃ fv nv F N x7, σ = [some (.ref a), some (.ref wl), some (.ref sa), some (.str "any"), none, some fv, some nv, x7, none] ∧ Same H H2 ∧ Dp K (hid Z H2) fv (natD F) ∧ Dp K (hid Z H2) nv (natD N) ∧ AnyInv wd p' S F N t) ?_ ?_ ?_
    · exact ⟨.ref l1, .ref l2, S, S, none, rfl, t3, Same.dp (same_newZ nl2) (natD_new z1 nl1), natD_new z2 nl2, .first wd nS lS⟩
    · rintro t σ H2 ht ⟨fv, nv, F, N, x7, rfl, s2, dF, dN, I⟩
      have zH := hZ.same s2
      refine ⟨_, rfl, a, _, _, _, rfl, rfl, seqT (hid_le.trans s2) hT, at1, _, rfl, _, rfl, Z, x, .ref wl, nv, p', wd, N, rfl, zH, Same.dp (same_hid s2) hx, Same.dp (same_hid s2) hw, dN, I.nN, fun k hk => I.le k (I.sub k hk), lw, by omega, fun H3 r R s3 dR nR mR => ?_⟩
      obtain ⟨ra, rfl, gra⟩ := natD_inv dR
      obtain ⟨fa, rfl, gfa⟩ := natD_inv dF
      have lR := nodup_few nR fun k hk => by
        obtain ⟨i, hi, b⟩ := (mR k).mp hk
        exact (bh_le wd (I.le i (I.sub i hi)) b).2
      refine ⟨ra, rfl, ⟨_, hid_le.seq gra⟩, ?_⟩
      refine fresh H3 F R fa ra _ _ ((Same.trans (same_hid s3) hid_le).seq gfa) (hid_le.seq gra) (by omega) (by show 8 < 9; decide) (fun _ => rfl) ?_
      intro D H4 nD s4 e
      have z4 := (zH.same s3).same s4
      have I' := I.next wd nR mR
      have lF := nodup_few I.nF I.le
      have dN' : Dp K (hid Z H4) (.ref D) (natD (R.filter fun k => decide (k ∉ F))) := intD_of (.of (by rw [hid_out ((zH.same s3).out nD)]; exact e))
      refine ⟨_, rfl, _, rfl, ?_⟩
      refine cat_read (B := True) z4 (Same.dp (same_hid (s3.trans s4)) dF) dN' ?_ fun c nc H5 s5 z5 d5 => ?_
      · have l1 : (R.filter fun k => decide (k ∉ F)).length ≤ R.length := List.length_filter_le ..
        simp only [List.length_map, zs]
        omega
      · refine ⟨.ref c, .ref D, _, _, some (.int (0 + (t : Int))), rfl, s2.trans (s3.trans (s4.trans s5)), ?_, Same.dp (same_hid s5) dN', I'⟩
        rw [natD_app]
        exact d5
    · rintro σ H2 ⟨fv, nv, F, N, x7, rfl, s2, dF, dN, I⟩
      rw [show ((wxs.length : Int) + 1).toNat = wd.length + 1 by omega] at I
      refine ⟨_, rfl, q H2 fv F s2 dF I.nF fun j => ?_⟩
      simp only [Bh]
      exact I.done wd j
  · -- row, either
    rw [M.depth] at hd
    have head := M.v
    refine ⟨_, rfl, a, _, _, _, M.v, rfl, seqT hid_le M.t, at0, ?_⟩
    refine ⟨_, rfl, rfl, _, rfl, ite2 (fun c => absurd (of_decide_eq_true c) M.noRest) (fun _ => ?_)⟩
    rcases M.k with ⟨rfl, rfl⟩ | ⟨rfl, rfl⟩
    · refine ⟨_, rfl, rfl, _, rfl, ite2 (fun _ => ?_) (fun c => absurd (decide_eq_true rfl) c)⟩
      refine ⟨_, rfl, a, _, _, _, M.v, rfl, seqT hid_le M.t, at1, l, rfl, ⟨xs, hid_le.seq M.l⟩, ?_⟩
      refine for_list (K := K) (a := l) (xs := xs) (fun i σ H2 => ∃ x4 cv SS, σ = [some pv, some (.ref wl), some cv, some (.str "row"), x4, none, none, none, none] ∧ Same H H2 ∧ Dp K (hid Z H2) cv (natD SS) ∧ SS.Nodup ∧ ∀ j, j ∈ SS ↔ ∃ s ∈ S, BhRow wd (ps.take i) s j) ?_ ?_ ?_ ?_
      · refine ⟨none, .ref sa, S, rfl, Same.refl _, hS, nS, fun j => ?_⟩
        simp only [List.take_zero, BhRow]
        exact ⟨fun h => ⟨j, h, rfl⟩, fun ⟨i, h, e⟩ => by rw [e]; exact h⟩
      · rintro i σ H2 _ ⟨_, _, _, _, s2, _⟩
        exact (hid_le.trans s2).seq M.l
      · rintro i xv σ H2 hi ⟨x4, cv, SS, rfl, s2, dS, nSS, mS⟩
        obtain ⟨d, hd1, hd2⟩ := all_get M.d hi
        rw [List.getElem?_map] at hd1
        obtain ⟨p1, hp1, rfl⟩ := Option.map_eq_some_iff.mp hd1
        have d1 := depthL_mem (List.mem_of_getElem? hp1)
        have le : ∀ k ∈ SS, k ≤ wd.length := fun k hk => by
          obtain ⟨s, hs, b⟩ := (mS k).mp hk
          obtain ⟨u, _, sg⟩ := (bhRow_iff wd _ _ _ (lS s hs)).mp b
          exact sg.2.2
        refine ⟨_, rfl, _, rfl, _, rfl, Z, xv, .ref wl, cv, p1, wd, SS, rfl, hZ.same s2, Same.dp (same_hid s2) hd2, Same.dp (same_hid s2) hw, dS, nSS, le, lw, by omega, fun H3 r R s3 dR nR mR => ?_⟩
        refine ⟨some xv, r, R, rfl, s2.trans s3, dR, nR, fun j => ?_⟩
        rw [mR j]
        constructor
        · rintro ⟨k, hk, b⟩
          obtain ⟨s, hs, c⟩ := (mS k).mp hk
          exact ⟨s, hs, (bhRow_take ps i p1 s j hp1).mpr ⟨k, c, b⟩⟩
        · rintro ⟨s, hs, c⟩
          obtain ⟨k, c, b⟩ := (bhRow_take ps i p1 s j hp1).mp c
          exact ⟨k, (mS k).mpr ⟨s, hs, c⟩, b⟩
      · rintro σ H2 ⟨x4, cv, SS, rfl, s2, dS, nSS, mS⟩
        rw [show ps.take xs.length = ps from List.take_of_length_le (by have := all_len M.d; rw [List.length_map] at this; omega)] at mS
        refine ⟨_, rfl, q H2 cv SS s2 dS nSS fun j => ?_⟩
        simp only [Bh]
        exact mS j
    · refine ⟨_, rfl, rfl, _, rfl, ite2 (fun c => absurd (of_decide_eq_true c) (by decide +kernel)) (fun _ => ?_)⟩
      refine ⟨(by show 0 ≤ sizeLine; decide), fun fo nf => ?_⟩
      have t1 := same_new (o := .lst []) nf
      refine ⟨_, rfl, rfl, _, rfl, ite2 (fun _ => ?_) (fun c => absurd (decide_eq_true rfl) c)⟩
      refine ⟨_, rfl, a, _, _, _, M.v, rfl, seqT (hid_le.trans t1) M.t, at1, l, rfl, ⟨xs, (hid_le.trans t1).seq M.l⟩, ?_⟩
      refine for_list (K := K) (a := l) (xs := xs) (fun i σ H2 => ∃ x4 fv F, σ = [some pv, some (.ref wl), some (.ref sa), some (.str "either"), x4, some fv, none, none, none] ∧ Same H H2 ∧ Dp K (hid Z H2) fv (natD F) ∧ F.Nodup ∧ ∀ j, j ∈ F ↔ ∃ s ∈ S, BhAlt wd (ps.take i) s j) ?_ ?_ ?_ ?_
      · exact ⟨none, .ref fo, [], rfl, t1, natD_new (ns := []) hZ nf, List.nodup_nil, fun j => by simp [BhAlt]⟩
      · rintro i σ H2 _ ⟨_, _, _, _, s2, _⟩
        exact (hid_le.trans s2).seq M.l
      · rintro i xv σ H2 hi ⟨x4, fv, F, rfl, s2, dF, nF, mF⟩
        obtain ⟨d, hd1, hd2⟩ := all_get M.d hi
        rw [List.getElem?_map] at hd1
        obtain ⟨p1, hp1, rfl⟩ := Option.map_eq_some_iff.mp hd1
        have d1 := depthL_mem (List.mem_of_getElem? hp1)
        have le : ∀ k ∈ F, k ≤ wd.length := fun k hk => by
          obtain ⟨s, hs, b⟩ := (mF k).mp hk
          obtain ⟨u, _, sg⟩ := (bhAlt_iff wd _ _ _ (lS s hs)).mp b
          exact sg.2.2
        have zH := hZ.same s2
        refine ⟨_, rfl, _, rfl, _, rfl, _, rfl, Z, xv, .ref wl, .ref sa, p1, wd, S, rfl, zH, Same.dp (same_hid s2) hd2, Same.dp (same_hid s2) hw, Same.dp (same_hid s2) hS, nS, lS, lw, by omega, fun H3 r R s3 dR nR mR => ?_⟩
        obtain ⟨ra, rfl, gra⟩ := natD_inv dR
        obtain ⟨fa, rfl, gfa⟩ := natD_inv dF
        have lR := nodup_few nR fun k hk => by
          obtain ⟨i, hi, b⟩ := (mR k).mp hk
          exact (bh_le wd (lS i hi) b).2
        have lF := nodup_few nF le
        refine ⟨ra, rfl, ⟨_, hid_le.seq gra⟩, ?_⟩
        refine fresh H3 F R fa ra _ _ ((Same.trans (same_hid s3) hid_le).seq gfa) (hid_le.seq gra) (by omega) (by show 8 < 9; decide) (fun _ => rfl) ?_
        intro D H4 nD s4 e
        have z4 := (zH.same s3).same s4
        have dN' : Dp K (hid Z H4) (.ref D) (natD (R.filter fun k => decide (k ∉ F))) := intD_of (.of (by rw [hid_out ((zH.same s3).out nD)]; exact e))
        refine cat_read (B := True) z4 (Same.dp (same_hid (s3.trans s4)) dF) dN' ?_ fun c nc H5 s5 z5 d5 => ?_
        · have l1 : (R.filter fun k => decide (k ∉ F)).length ≤ R.length := List.length_filter_le ..
          simp only [List.length_map, zs]
          omega
        · refine ⟨some xv, .ref c, F ++ R.filter fun k => decide (k ∉ F), rfl, s2.trans (s3.trans (s4.trans s5)), by rw [natD_app]; exact d5, ?_, fun j => ?_⟩
          · rw [List.nodup_append]
            exact ⟨nF, nR.filter _, fun x hx y hy e => (of_decide_eq_true (List.mem_filter.mp hy).2) (e ▸ hx)⟩
          · rw [List.mem_append, List.mem_filter, decide_eq_true_eq, mR j]
            have mF := mF j
            constructor
            · rintro (hF | ⟨⟨s, hs, b⟩, _⟩)
              · obtain ⟨s, hs, b⟩ := mF.mp hF
                exact ⟨s, hs, (bhAlt_take ps i p1 s j hp1).mpr (.inl b)⟩
              · exact ⟨s, hs, (bhAlt_take ps i p1 s j hp1).mpr (.inr b)⟩
            · rintro ⟨s, hs, b⟩
              rcases (bhAlt_take ps i p1 s j hp1).mp b with b | b
              · exact .inl (mF.mpr ⟨s, hs, b⟩)
              · by_cases hj : j ∈ F
                · exact .inl hj
                · exact .inr ⟨⟨s, hs, b⟩, hj⟩
      · rintro σ H2 ⟨x4, fv, F, rfl, s2, dF, nF, mF⟩
        rw [show ps.take xs.length = ps from List.take_of_length_le (by have := all_len M.d; rw [List.length_map] at this; omega)] at mF
        refine ⟨_, rfl, q H2 fv F s2 dF nF fun j => ?_⟩
        simp only [Bh]
        exact mF j
/-! ### _law_spelled -/
def spSpelled (K : PySem.W.Frag) : Sp := fun vs H Q _ => ∃ (Z : List Addr) (pgv wv : V) (p : Prog) (w : List Step), vs = [pgv, wv] ∧ Dom Z H ∧ Dp K (hid Z H) pgv (progD p) ∧ Dp K (hid Z H) wv (wordD w) ∧ w.length ≤ 10 ∧ depthP p ≤ 6 ∧
  ∀ H' b, Same H H' → (b = true ↔ Spl p w) → Q (.bl b) H'
theorem scSpelled : FnScope ["_law_program", "_law_row"] ["_law_program", "_law_row"] (defScope sSpelled) := ⟨rfl, rfl, rfl, by decide +kernel, rfl, by decide +kernel, by decide +kernel⟩
theorem ok_spelled {j : Nat} (F : Fun K "_law_spelled" "_law_spelled" sSpelled f fd) (T : Txt K mg) (C : Callee P w K mg base j "_law_behind" ["_law_program", "_law_row", "_law_starts"] (spBehind K 6)) : FnOk P w K mg base CX0 (j + 1) f fd ["_law_program", "_law_row"] (spSpelled K) := by
  refine F.ok scSpelled (fun vs H Q E h => ?_) (fun cdv A outer s H vs Q E hr h => ?_)
  · obtain ⟨Z, pv, wv, p, wd, rfl, _⟩ := h
    rfl
  obtain ⟨Z, pgv, wv, p, wd, rfl, hZ, hp, hw, lw, hd, q⟩ := h
  refine ⟨_, pss_one (ps_ret (pe_cmpR op_in_seq (pe_callB call_len_seq (by rfl) T.len PySem.boot_len (pa_cons (pv 1) pa_nil)) (pe_cal C hr (by rfl) (pa_cons (pv 0) (pa_cons (pv 1) (pa_cons (pe_lst (pa_cons pe_int pa_nil)) pa_nil)))) (by rfl))), ?_⟩
  obtain ⟨wl, wxs, rfl, gwl, hwl⟩ := list_inv hw
  have lwx := all_len hwl
  rw [List.length_map] at lwx
  refine ⟨_, rfl, wl, wxs, rfl, .inl (hid_le.seq gwl), ?_⟩
  refine ⟨_, rfl, _, rfl, (by show 1 ≤ sizeLine; decide), fun l nl => ?_⟩
  have t1 := same_new (o := .lst [.int 0]) nl
  refine ⟨Z, pgv, .ref wl, .ref l, p, wd, [0], rfl, hZ.same t1, Same.dp (same_hid t1) hp, Same.dp (same_hid t1) hw, natD_new (ns := [0]) hZ nl, by simp, fun k hk => by rw [List.mem_singleton.mp hk]; exact Nat.zero_le _, lw, hd, fun H' v S' s' dS nS mS => ?_⟩
  obtain ⟨ra, rfl, gra⟩ := natD_inv dS
  refine ⟨ra, _, rfl, .inl (hid_le.seq gra), rfl, flat_ints _, ?_⟩
  rw [if_neg Bool.false_ne_true, inV_ints]
  refine q H' _ (t1.trans s') ?_
  rw [lwx, nat_in, decide_eq_true_eq, mS]
  constructor
  · rintro ⟨i, hi, b⟩
    rw [List.mem_singleton.mp hi] at b
    exact (bh_whole wd).mp b
  · intro h
    exact ⟨0, List.mem_singleton.mpr rfl, (bh_whole wd).mpr h⟩
end
end Sk

set_option Elab.async false
set_option linter.all false
set_option maxRecDepth 100000
set_option maxHeartbeats 4000000
/-! Skewer, the walk: _law_words. -/
namespace Sk
open PySem L2
abbrev rLen (K : PySem.W.Frag) : List V → Hp → VK → Prop := fun xs H Q => ∃ p ys, xs = [.ref p] ∧ (SqL K H p ys ∨ SqT K H p ys) ∧ Q (.int ys.length) H
/-- data that grows at D while numbers are drawn from R -/
structure GrowR (K : PySem.W.Frag) (Z : List Addr) (R : Addr) (m : Nat) (D : Addr) (H0 H : Hp) (ds : List PyData) : Prop where
  at_ : ∃ acc, H D = some (.lst acc) ∧ DpAll K (hid (D :: Z) H) acc ds
  but : But R H0 H
  row : RowAt H R m
section
variable {K : PySem.W.Frag} {Z : List Addr} {R D : Addr} {m : Nat} {H0 H H' : Hp} {ds : List PyData}
theorem ne_row (r : RowAt H0 R m) (nD : H0 D = none) : R ≠ D := fun e => r.dom (by rw [e]; exact nD)
theorem GrowR.start (nD : H0 D = none) (r : RowAt H0 R m) : GrowR K Z R m D H0 (upd H0 D (.lst [])) [] :=
  ⟨⟨[], upd_same, .nil⟩, But.put (Same.refl _) nD, r.put (ne_row r nD)⟩
theorem GrowR.dom (g : GrowR K Z R m D H0 H ds) (hZ : Dom Z H0) : Dom (D :: Z) H := let ⟨_, e, _⟩ := g.at_; (g.but.dom hZ g.row.dom).cons e
theorem GrowR.keep (g : GrowR K Z R m D H0 H ds) (hR : R ∈ Z) (RD : R ≠ D) (b : But R H H') (r : RowAt H' R m) : GrowR K Z R m D H0 H' ds :=
  let ⟨acc, e, a⟩ := g.at_
  ⟨⟨acc, b.get e RD.symm, Same.all (b.hid (List.mem_cons_of_mem _ hR)) a⟩, g.but.tr b, r⟩
theorem GrowR.put {N : Hp → Prop} {y : V} {d : PyData} (g : GrowR K Z R m D H0 H ds) (nD : H0 D = none) (RD : R ≠ D) (hd : Dp K (hid (D :: Z) H) y d) (hz : ds.length < sizeLine) (k : ∀ H', GrowR K Z R m D H0 H' (ds ++ [d]) → N H') : putL D y H N := by
  obtain ⟨acc, e, a⟩ := g.at_
  refine ⟨acc, e, by rw [all_len a]; exact hz, k _ ⟨⟨_, upd_same, ?_⟩, g.but.put nD, g.row.put RD⟩⟩
  rw [hid_upd (List.mem_cons_self ..)]
  exact all_snoc a hd
theorem GrowR.done (g : GrowR K Z R m D H0 H ds) (hZ : Dom Z H0) (nD : H0 D = none) : Dp K (hid Z H) (.ref D) (.list ds) := by
  obtain ⟨acc, e, a⟩ := g.at_
  exact .lst (.of (by rw [hid_out (hZ.out nD)]; exact e)) (Same.all hid_cons a)
end
/-- what stands apart from a new D -/
theorem apart {Z : List Addr} {R D : Addr} {H0 H : Hp} (hR : R ∈ Z) (nD : H0 D = none) (b : But R H0 H) : Same (hid Z H0) (hid (D :: Z) H) := fun c o e => by
  obtain ⟨e1, e2⟩ := hid_get e
  rw [hid_out fun z => (List.mem_cons.mp z).elim (ne_of_none e1 nD) e2]
  exact b.get e1 fun z => e2 (z ▸ hR)
def spWords (K : PySem.W.Frag) : Sp := fun vs H Q _ => ∃ (Z : List Addr) (R : Addr) (m : Nat) (v : V) (p : Prog), vs = [.ref R, v] ∧ Dom Z H ∧ R ∈ Z ∧ RowAt H R m ∧ Dp K (hid Z H) v (progD p) ∧ depthP p ≤ 6 ∧ nodesP p ≤ 1000 ∧
  ∀ (H' : Hp) (v : V) (ws : List (List Step)), But R H H' → RowAt H' R m → Dp K (hid Z H') v (.list (ws.map wordD)) → (∀ wd ∈ ws, wd.length ≤ 10) → Q v H'
section
variable {P : Program} {w : World} {K : PySem.W.Frag} {mg : Str → Option Value} {base : Heap} {f : Addr} {fd : FuncData}
abbrev nWords : List Str := ["_law_row", "_law_program", "_law_steps_here", "_law_words_here", "_law_k", "_law_j"]
theorem scWords : FnScope nWords ["_law_row", "_law_program"] (defScope sWords) := ⟨rfl, rfl, rfl, by decide +kernel, rfl, by decide +kernel, by decide +kernel⟩
theorem ok_words {j : Nat} (F : Fun K "_law_words" "_law_words" sWords f fd) (T : Txt K mg) (CT : Callee P w K mg base j "_law_take" ["_law_row", "_law_bound"] spTake) (CS : Callee P w K mg base j "_law_steps" ["_law_program"] (spSteps K 6)) : FnOk P w K mg base CX0 (j + 1) f fd ["_law_row", "_law_program"] (spWords K) := by
  refine F.ok scWords (fun vs H Q E h => ?_) (fun cdv A outer s H vs Q E hr h => ?_)
  · obtain ⟨Z, R, m, v, p, rfl, _⟩ := h
    rfl
  obtain ⟨Z, R, m, v, p, rfl, hZ, hRZ, hR, hp, hd, hn, q⟩ := h
  refine ⟨_, pss_cons (ps_set (i := 2) scWords.nd rfl (.inr rfl) (pe_op op_catL (pe_cal CS hr (by rfl) (pa_cons (pv 1) pa_nil)) (pe_lst (pa_cons (pe_tup (pa_cons pe_str pa_nil)) pa_nil))))
    (pss_cons (ps_set (i := 3) scWords.nd rfl (.inl rfl) (pe_lst (pa_cons (pe_lst pa_nil) pa_nil)))
    (pss_cons (ps_for PassesOwn.never rfl (pi_range1 (by rfl) T.range (pa_cons pe_int pa_nil)) (pg_name (i := 4) scWords.nd rfl (.inl rfl))
      (pss_one (ps_expr (pe_bm PySem.F.plainAttrs_list PySem.F.slot_list_append PySem.F.type_list_append mt_append (pv 3) (pa_cons
        (pe_lc (own := [("_law_j", 5)]) (g := gName 5) (tt := tYes) (te := tOp (rIxL K) (tVar 2) (tCall spTake [] E0 (tCons (tVar 0) (tCons (tCB (rLen K) (tCons (tVar 2) tNil)) tNil)))) (by rfl) scWords.nd (pi_range1 (by rfl) T.range (pa_cons (pe_cal CT hr (by rfl) (pa_cons (pv 0) (pa_cons pe_int pa_nil))) pa_nil))
          (blkOk_by (N := nWords) (sc := defScope sWords) (by decide +kernel)) (fun _ _ _ _ _ => pg_name (i := 5) scWords.nd rfl (Or.inl rfl)) (fun _ _ _ _ _ => pts_nil)
          (fun _ _ _ _ _ => pe_ix ix_list (pv 2) (pe_cal CT hr (by rfl) (pa_cons (pv 0) (pa_cons (pe_callB call_len_seq (by rfl) T.len PySem.boot_len (pa_cons (pv 2) pa_nil)) pa_nil))) (fun _ _ => rfl))) pa_nil)))))
    (pss_one (ps_ret (pv 3))))), ?_⟩
  -- the steps and one more
  refine ⟨_, rfl, Z, v, p, rfl, hZ, hp, hd, hn, fun H1 sv s1 hsv => ?_⟩
  have z1 := hZ.same s1
  refine ⟨(by show 1 ≤ sizeLine; decide), fun t nt => ⟨(by show 1 ≤ sizeLine; decide), fun l nl => ?_⟩⟩
  have u1 := same_new (o := .tup [.str "empty"]) nt
  have u2 := same_new (o := .lst [.ref t]) nl
  have z2 := z1.same u1
  have z3 := z2.same u2
  have e0 : ("empty" : Str) ∈ stepNames := by decide +kernel
  have dt : Dp K (hid Z (upd H1 t (.tup [.str "empty"]))) (.ref t) (stepD ⟨"empty", none, e0⟩) := step_one e0 z1 nt
  have dl : Dp K (hid Z (upd (upd H1 t (.tup [.str "empty"])) l (.lst [.ref t]))) (.ref l) (.list [stepD ⟨"empty", none, e0⟩]) := dp_new z2 nl (.cons dt .nil)
  have ls := steps_le p
  refine cat_read (B := True) z3 (Same.dp (same_hid (u1.trans u2)) hsv) dl (by simp only [List.length_map, List.length_cons, List.length_nil]; omega) fun sl nsl H2 s2 z4 d4 => ?_
  have sH : Same H H2 := s1.trans (u1.trans (u2.trans s2))
  have rH : RowAt H2 R m := by obtain ⟨ms, e, l⟩ := hR; exact ⟨ms, sH _ _ e, l⟩
  -- [[]]
  refine ⟨(by show 0 ≤ sizeLine; decide), fun l0 nl0 => ⟨(by show 1 ≤ sizeLine; decide), fun D nD => ?_⟩⟩
  have v1 := same_new (o := .lst []) nl0
  have z5 := z4.same v1
  have r5 := rH.new (o := .lst []) nl0
  have RD := ne_row r5 nD
  have d5 : Dp K (hid Z (upd H2 l0 (.lst []))) (.ref sl) (wordD (stepsP p ++ [⟨"empty", none, e0⟩])) := by
    unfold wordD
    rw [List.map_append]
    exact Same.dp (same_hid v1) d4
  have dl0 : Dp K (hid Z (upd H2 l0 (.lst []))) (.ref l0) (wordD []) := dp_new z4 nl0 .nil
  generalize upd H2 l0 (.lst []) = H5 at nD v1 z5 r5 d5 dl0
  have sH5 : Same H H5 := sH.trans v1
  obtain ⟨sl2, sxs, e, gsl, hsl⟩ := list_inv d5
  cases e
  have lsx := all_len hsl
  rw [List.length_map] at lsx
  have lpos : 0 < sxs.length := by rw [lsx, List.length_append]; exact Nat.succ_pos _
  refine ⟨12, rfl, by decide, by decide, ?_⟩
  refine for_range (lo := 0) (n := 12) (fun i σ H6 => ∃ (x4 : Option V) (ws : List (List Step)), σ = [some (.ref R), some v, some (.ref sl), some (.ref D), x4, none] ∧ GrowR K Z R m D H5 H6 (ws.map wordD) ∧ ws.length ≤ 1 + i ∧ ∀ wd ∈ ws, wd.length ≤ 10) ?_ ?_ ?_
  · refine ⟨none, [[]], rfl, ⟨⟨_, upd_same, ?_⟩, But.put (Same.refl _) nD, r5.put RD⟩, Nat.le_refl _, fun wd hwd => by rw [List.mem_singleton.mp hwd]; exact Nat.zero_le _⟩
    rw [hid_upd (List.mem_cons_self ..)]
    exact .cons (Same.dp (apart hRZ nD (Same.refl _)) dl0) .nil
  · rintro i σ H6 hi ⟨x4, ws, rfl, g, lws, hws⟩
    obtain ⟨acc6, ga6, _⟩ := g.at_
    refine ⟨_, rfl, .inl ⟨rfl, _, .of ga6⟩, _, rfl, R, m, 6, rfl, g.row, by decide, fun H7 k b7 r7 hk => ?_⟩
    have g7 := g.keep hRZ RD b7 r7
    have zD := g7.dom z5
    refine ⟨_, rfl, by omega, by omega, fun D2 nD2 => ?_⟩
    have RD2 := ne_row r7 nD2
    refine lc_range (lo := 0) (n := (k : Int).toNat) (fun j H8 => ∃ wd : List Step, GrowR K (D :: Z) R m D2 H7 H8 (wd.map stepD) ∧ wd.length = j) ?_ ?_ ?_
    · exact ⟨[], .start nD2 r7, rfl⟩
    · rintro j H8 hj ⟨wd, g8, lwd⟩
      have b8 : But R H5 H8 := g7.but.tr g8.but
      refine ⟨rfl, _, rfl, _, rfl, _, rfl, sl, sxs, rfl, .inl (hid_le.seq (Same.seq (b8.hid hRZ) gsl)), R, m, _, rfl, g8.row, by omega, fun H9 r b9 r9 hr9 => ?_⟩
      have b59 : But R H5 H9 := b8.tr b9
      have hr' : r < sxs.length := by omega
      have hx : sxs[r]? = some sxs[r] := List.getElem?_eq_getElem hr'
      obtain ⟨d, hd1, hd2⟩ := all_get hsl hx
      rw [List.getElem?_map] at hd1
      obtain ⟨st, hst, rfl⟩ := Option.map_eq_some_iff.mp hd1
      refine ⟨sl, sxs, _, _, rfl, rfl, hid_le.seq (Same.seq (b59.hid hRZ) gsl), atI_nat hx, ?_⟩
      have g9 := g8.keep (List.mem_cons_of_mem _ hRZ) RD2 b9 r9
      have dst : Dp K (hid (D2 :: D :: Z) H9) sxs[r] (stepD st) := by
        have h1 : Same (hid Z H5) (hid (D :: Z) H7) := apart hRZ nD g7.but
        have h2 : Same (hid (D :: Z) H7) (hid (D2 :: D :: Z) H9) := apart (List.mem_cons_of_mem _ hRZ) nD2 (g8.but.tr b9)
        exact Same.dp (h1.trans h2) hd2
      show putL D2 _ _ fun H' => ∃ wd : List Step, GrowR K (D :: Z) R m D2 H7 H' (wd.map stepD) ∧ wd.length = j + 1
      refine g9.put nD2 RD2 dst (line60 (by rw [List.length_map]; omega)) fun H' g' => ⟨wd ++ [st], by rw [List.map_append]; exact g', by rw [List.length_append, lwd]; rfl⟩
    · rintro H8 ⟨wd, g8, lwd⟩
      have d8 : Dp K (hid (D :: Z) H8) (.ref D2) (wordD wd) := g8.done zD nD2
      have g8' := g7.keep hRZ RD g8.but g8.row
      obtain ⟨acc8, ga8, da8⟩ := g8'.at_
      have la8 := all_len da8
      rw [List.length_map] at la8
      refine ⟨D, acc8, .ref D2, rfl, rfl, ga8, line60 (by omega), some (.int (0 + (i : Int))), ws ++ [wd], rfl, ⟨⟨_, upd_same, ?_⟩, g8'.but.put nD, g8'.row.put RD⟩, by rw [List.length_append, List.length_singleton]; omega, fun x hx => ?_⟩
      · rw [hid_upd (List.mem_cons_self ..), List.map_append]
        exact all_snoc da8 d8
      · rcases List.mem_append.mp hx with hx | hx
        · exact hws x hx
        · rw [List.mem_singleton.mp hx]
          omega
  · rintro σ H6 ⟨x4, ws, rfl, g, lws, hws⟩
    exact ⟨_, rfl, q H6 (.ref D) ws (But.tr (Same.but sH5) g.but) g.row (g.done z5 nD) hws⟩
end
end Sk

set_option Elab.async false
set_option linter.all false
set_option maxRecDepth 100000
set_option maxHeartbeats 4000000
/-! Skewer, the walk: _law_near. -/
namespace Sk
open PySem L2
theorem hid_sub {Z Z' : List Addr} {H : Hp} (h : ∀ b ∈ Z, b ∈ Z') : Same (hid Z' H) (hid Z H) := fun c o e => by
  obtain ⟨e1, e2⟩ := hid_get e
  rw [hid_out fun z => e2 (h c z)]
  exact e1
theorem zs_erase (l : List Nat) (j : Nat) : ((zs l).eraseIdx j).map V.int = (zs (l.eraseIdx j)).map V.int := by
  have key : ∀ (l : List Nat) (j : Nat), (zs l).eraseIdx j = zs (l.eraseIdx j) := fun l => by
    induction l with
    | nil => intro j; rfl
    | cons x r ih =>
      intro j
      cases j with
      | zero => rfl
      | succ j => exact congrArg (List.cons (x : Int)) (ih j)
  rw [key]
theorem first_ix {l : List Nat} {k : Nat} (h : k ∈ l) : ∃ j : Nat, l[j]? = some k ∧ ∀ m : Nat, m < j → l[m]? ≠ some k := by
  induction l with
  | nil => cases h
  | cons x r ih =>
    by_cases e : x = k
    · exact ⟨0, by simp [e], fun m hm => absurd hm (Nat.not_lt_zero _)⟩
    · obtain ⟨j, h1, h2⟩ := ih ((List.mem_cons.mp h).elim (fun z => absurd z.symm e) id)
      refine ⟨j + 1, by simpa using h1, fun m hm => ?_⟩
      cases m with
      | zero => simpa using e
      | succ m => simpa using h2 m (by omega)
/-- what is copied and then changed: the list of rows at RL, the rows rs, the ends at EL -/
structure NSt (K : PySem.W.Frag) (Z : List Addr) (R : Addr) (m : Nat) (RL EL : Addr) (H0 H : Hp) (rs : List Addr) (rows : List (List (Step × Nat))) (ends : List Nat) : Prop where
  rl : H RL = some (.lst (rs.map V.ref))
  el : H EL = some (.lst ((zs ends).map V.int))
  nd : (RL :: EL :: rs).Nodup
  new : ∀ b ∈ RL :: EL :: rs, H0 b = none
  len : rs.length = rows.length
  at_ : ∀ (i : Nat) (r : Addr) (row : List (Step × Nat)), rs[i]? = some r → rows[i]? = some row → ∃ es, H r = some (.lst es) ∧ DpAll K (hid (RL :: EL :: (rs ++ Z)) H) es (row.map entD)
  but : But R H0 H
  row : RowAt H R m
section
variable {K : PySem.W.Frag} {Z : List Addr} {R RL EL : Addr} {m : Nat} {H0 H H' : Hp} {rs : List Addr} {rows : List (List (Step × Nat))} {ends : List Nat}
abbrev zm (Z : List Addr) (RL EL : Addr) (rs : List Addr) : List Addr := RL :: EL :: (rs ++ Z)
theorem NSt.apart (N : NSt K Z R m RL EL H0 H rs rows ends) (hZ : Dom Z H0) : ∀ b ∈ RL :: EL :: rs, b ∉ Z := fun b hb => hZ.out (N.new b hb)
theorem NSt.neR (N : NSt K Z R m RL EL H0 H rs rows ends) (hZ : Dom Z H0) (hR : R ∈ Z) : ∀ b ∈ RL :: EL :: rs, b ≠ R := fun b hb e => N.apart hZ b hb (e ▸ hR)
theorem NSt.has (N : NSt K Z R m RL EL H0 H rs rows ends) : ∀ b ∈ RL :: EL :: rs, ∃ xs, H b = some (.lst xs) := fun b hb => by
  rcases List.mem_cons.mp hb with rfl | hb
  · exact ⟨_, N.rl⟩
  rcases List.mem_cons.mp hb with rfl | hb
  · exact ⟨_, N.el⟩
  obtain ⟨i, hi⟩ := List.getElem?_of_mem hb
  have h1 : i < rs.length := (List.getElem?_eq_some_iff.mp hi).1
  have h2 : i < rows.length := by rw [← N.len]; exact h1
  obtain ⟨es, e, _⟩ := N.at_ i b (rows[i]'h2) hi (List.getElem?_eq_getElem h2)
  exact ⟨es, e⟩
theorem NSt.dom (N : NSt K Z R m RL EL H0 H rs rows ends) (hZ : Dom Z H0) : Dom (zm Z RL EL rs) H := fun b hb => by
  have h : b ∈ RL :: EL :: rs ∨ b ∈ Z := by
    rcases List.mem_cons.mp hb with h | hb
    · exact .inl (h ▸ List.mem_cons_self ..)
    rcases List.mem_cons.mp hb with h | hb
    · exact .inl (h ▸ List.mem_cons_of_mem _ (List.mem_cons_self ..))
    rcases List.mem_append.mp hb with h | h
    · exact .inl (List.mem_cons_of_mem _ (List.mem_cons_of_mem _ h))
    · exact .inr h
  rcases h with h | h
  · obtain ⟨xs, e⟩ := N.has b h
    rw [e]
    exact fun z => (nomatch z)
  · exact N.but.dom hZ N.row.dom b h
theorem NSt.go (N : NSt K Z R m RL EL H0 H rs rows ends) (hZ : Dom Z H0) (hR : R ∈ Z) (b : But R H H') (r : RowAt H' R m) : NSt K Z R m RL EL H0 H' rs rows ends := by
  have ne := N.neR hZ hR
  have hRm : R ∈ zm Z RL EL rs := List.mem_cons_of_mem _ (List.mem_cons_of_mem _ (List.mem_append_right _ hR))
  refine ⟨b.get N.rl (ne RL (List.mem_cons_self ..)), b.get N.el (ne EL (List.mem_cons_of_mem _ (List.mem_cons_self ..))), N.nd, N.new, N.len, fun i r row h1 h2 => ?_, N.but.tr b, r⟩
  obtain ⟨es, e, d⟩ := N.at_ i r row h1 h2
  exact ⟨es, b.get e (ne r (List.mem_cons_of_mem _ (List.mem_cons_of_mem _ (List.mem_of_getElem? h1)))), Same.all (b.hid hRm) d⟩
theorem NSt.keep (N : NSt K Z R m RL EL H0 H rs rows ends) (hZ : Dom Z H0) (hR : R ∈ Z) (s : Same H H') : NSt K Z R m RL EL H0 H' rs rows ends :=
  N.go hZ hR (Same.but s) (let ⟨ms, e, l⟩ := N.row; ⟨ms, s _ _ e, l⟩)
/-- the rows and the ends as data -/
theorem NSt.rows_at (N : NSt K Z R m RL EL H0 H rs rows ends) (hZ : Dom Z H0) {Z' : List Addr} (hz : ∀ b ∈ Z', b = RL ∨ b = EL ∨ b ∈ Z) : DpAll K (hid Z' H) (rs.map V.ref) (rows.map rowD) := by
  have key : ∀ (as : List Addr) (bs : List (List (Step × Nat))), as.length = bs.length → (∀ (i : Nat) (r : Addr) (row : List (Step × Nat)), as[i]? = some r → bs[i]? = some row → Dp K (hid Z' H) (.ref r) (rowD row)) → DpAll K (hid Z' H) (as.map V.ref) (bs.map rowD) := by
    intro as
    induction as with
    | nil =>
      intro bs hl _
      cases bs with
      | nil => exact .nil
      | cons b bs => cases hl
    | cons a as ih =>
      intro bs hl h
      cases bs with
      | nil => cases hl
      | cons b bs => exact .cons (h 0 a b rfl rfl) (ih bs (Nat.succ.inj hl) fun i r row h1 h2 => h (i + 1) r row (by simpa using h1) (by simpa using h2))
  refine key rs rows N.len fun i r row h1 h2 => ?_
  obtain ⟨es, e, d⟩ := N.at_ i r row h1 h2
  have hr : r ∈ rs := List.mem_of_getElem? h1
  have nZ : r ∉ Z' := fun h => by
    rcases hz r h with e | e | e
    · exact (List.nodup_cons.mp N.nd).1 (by rw [← e]; exact List.mem_cons_of_mem _ hr)
    · exact (List.nodup_cons.mp (List.nodup_cons.mp N.nd).2).1 (by rw [← e]; exact hr)
    · exact N.apart hZ r (List.mem_cons_of_mem _ (List.mem_cons_of_mem _ hr)) e
  refine .lst (.of (by rw [hid_out nZ]; exact e)) (Same.all (hid_sub fun b hb => ?_) d)
  rcases hz b hb with e | e | e
  · rw [e]; exact List.mem_cons_self ..
  · rw [e]; exact List.mem_cons_of_mem _ (List.mem_cons_self ..)
  · exact List.mem_cons_of_mem _ (List.mem_cons_of_mem _ (List.mem_append_right _ e))
theorem NSt.done (N : NSt K Z R m RL EL H0 H rs rows ends) (hZ : Dom Z H0) : Dp K (hid Z H) (.ref RL) (rowsD rows) ∧ Dp K (hid Z H) (.ref EL) (natD ends) := by
  have a := N.apart hZ
  exact ⟨.lst (.of (by rw [hid_out (a RL (List.mem_cons_self ..))]; exact N.rl)) (N.rows_at hZ fun b hb => .inr (.inr hb)),
    intD_of (.of (by rw [hid_out (a EL (List.mem_cons_of_mem _ (List.mem_cons_self ..)))]; exact N.el))⟩
/-- one row is stored anew -/
theorem NSt.setRow {k : Nat} {r : Addr} {es : List V} {row : List (Step × Nat)} (N : NSt K Z R m RL EL H0 H rs rows ends) (hZ : Dom Z H0) (hR : R ∈ Z) (hk : rs[k]? = some r) (d : DpAll K (hid (zm Z RL EL rs) H) es (row.map entD)) : NSt K Z R m RL EL H0 (upd H r (.lst es)) rs (rows.set k row) ends := by
  have hr : r ∈ rs := List.mem_of_getElem? hk
  have mr : r ∈ zm Z RL EL rs := List.mem_cons_of_mem _ (List.mem_cons_of_mem _ (List.mem_append_left _ hr))
  have n1 : RL ≠ r := fun e => (List.nodup_cons.mp N.nd).1 (by rw [e]; exact List.mem_cons_of_mem _ hr)
  have n2 : EL ≠ r := fun e => (List.nodup_cons.mp (List.nodup_cons.mp N.nd).2).1 (by rw [e]; exact hr)
  have ndr := (List.nodup_cons.mp (List.nodup_cons.mp N.nd).2).2
  have rR : R ≠ r := fun e => N.neR hZ hR r (List.mem_cons_of_mem _ (List.mem_cons_of_mem _ hr)) e.symm
  refine ⟨by rw [upd_ne n1]; exact N.rl, by rw [upd_ne n2]; exact N.el, N.nd, N.new, by rw [List.length_set]; exact N.len, fun i q row' h1 h2 => ?_, N.but.put (N.new r (List.mem_cons_of_mem _ (List.mem_cons_of_mem _ hr))), N.row.put rR⟩
  rw [hid_upd mr]
  by_cases e : i = k
  · subst e
    rw [hk] at h1
    cases h1
    have h3 : i < rows.length := by
      have := (List.getElem?_eq_some_iff.mp h2).1
      rwa [List.length_set] at this
    rw [List.getElem?_set_self h3] at h2
    cases h2
    exact ⟨es, upd_same, d⟩
  · have nq : q ≠ r := fun z => e (nd_ix ndr h1 (z ▸ hk))
    rw [List.getElem?_set_ne (fun z => e z.symm)] at h2
    obtain ⟨es', e1, d1⟩ := N.at_ i q row' h1 h2
    exact ⟨es', by rw [upd_ne nq]; exact e1, d1⟩
/-- one row more -/
theorem NSt.addRow {pn : Addr} {es : List V} {row : List (Step × Nat)} (N : NSt K Z R m RL EL H0 H rs rows ends) (hZ : Dom Z H0) (hR : R ∈ Z) (n : H pn = none) (d : DpAll K (hid (zm Z RL EL rs) H) es (row.map entD)) :
    NSt K Z R m RL EL H0 (upd (upd H pn (.lst es)) RL (.lst ((rs ++ [pn]).map V.ref))) (rs ++ [pn]) (rows ++ [row]) ends := by
  have has := N.has
  have ne : ∀ b ∈ RL :: EL :: rs, b ≠ pn := fun b hb => by
    obtain ⟨xs, e⟩ := has b hb
    exact ne_of_none e n
  have neRL : ∀ b ∈ EL :: rs, b ≠ RL := fun b hb e => (List.nodup_cons.mp N.nd).1 (by rw [← e]; exact hb)
  have pRL : pn ≠ RL := (ne RL (List.mem_cons_self ..)).symm
  have lift : Same (hid (zm Z RL EL rs) H) (hid (zm Z RL EL (rs ++ [pn])) (upd (upd H pn (.lst es)) RL (.lst ((rs ++ [pn]).map V.ref)))) := fun c o e => by
    obtain ⟨q1, q2⟩ := hid_get e
    have cp : c ≠ pn := ne_of_none q1 n
    rw [hid_out fun z => ?_, upd_ne (fun z => q2 (by rw [z]; exact List.mem_cons_self ..)), upd_ne cp]
    · exact q1
    · rcases List.mem_cons.mp z with h | z
      · exact q2 (by rw [h]; exact List.mem_cons_self ..)
      rcases List.mem_cons.mp z with h | z
      · exact q2 (by rw [h]; exact List.mem_cons_of_mem _ (List.mem_cons_self ..))
      rcases List.mem_append.mp z with h | h
      · rcases List.mem_append.mp h with h | h
        · exact q2 (List.mem_cons_of_mem _ (List.mem_cons_of_mem _ (List.mem_append_left _ h)))
        · exact cp (List.mem_singleton.mp h)
      · exact q2 (List.mem_cons_of_mem _ (List.mem_cons_of_mem _ (List.mem_append_right _ h)))
  have RR : R ≠ RL := fun e => N.neR hZ hR RL (List.mem_cons_self ..) e.symm
  refine ⟨upd_same, ?_, ?_, ?_, ?_, ?_, ?_, ?_⟩
  · rw [upd_ne (neRL EL (List.mem_cons_self ..)), upd_ne (ne EL (List.mem_cons_of_mem _ (List.mem_cons_self ..)))]
    exact N.el
  · rw [← List.cons_append, ← List.cons_append, List.nodup_append]
    exact ⟨N.nd, by simp, fun x hx y hy => by rw [List.mem_singleton.mp hy]; exact ne x hx⟩
  · intro b hb
    rw [← List.cons_append, ← List.cons_append] at hb
    rcases List.mem_append.mp hb with h | h
    · exact N.new b h
    · rw [List.mem_singleton.mp h]
      exact N.but.free n N.row.dom
  · rw [List.length_append, List.length_append, N.len]
    rfl
  · intro i r row' h1 h2
    by_cases hi : i < rs.length
    · rw [List.getElem?_append_left hi] at h1
      rw [List.getElem?_append_left (by rw [← N.len]; exact hi)] at h2
      obtain ⟨es', e, d'⟩ := N.at_ i r row' h1 h2
      have hr := List.mem_of_getElem? h1
      exact ⟨es', by rw [upd_ne (neRL r (List.mem_cons_of_mem _ hr)), upd_ne (ne r (List.mem_cons_of_mem _ (List.mem_cons_of_mem _ hr)))]; exact e, Same.all lift d'⟩
    · have hi' : i = rs.length := by
        have := (List.getElem?_eq_some_iff.mp h1).1
        rw [List.length_append, List.length_singleton] at this
        omega
      subst hi'
      rw [List.getElem?_append_right (Nat.le_refl _), Nat.sub_self] at h1
      rw [N.len, List.getElem?_append_right (Nat.le_refl _), Nat.sub_self] at h2
      cases h1
      cases h2
      exact ⟨es, by rw [upd_ne pRL, upd_same], Same.all lift d⟩
  · exact (N.but.tr (Same.but (same_new n))).put (N.new RL (List.mem_cons_self ..))
  · obtain ⟨ms, e, l⟩ := N.row
    exact ⟨ms, by rw [upd_ne RR, upd_ne (ne_of_none e n)]; exact e, l⟩
theorem NSt.setEnds {ends' : List Nat} (N : NSt K Z R m RL EL H0 H rs rows ends) (hZ : Dom Z H0) (hR : R ∈ Z) : NSt K Z R m RL EL H0 (upd H EL (.lst ((zs ends').map V.int))) rs rows ends' := by
  have me : EL ∈ RL :: EL :: rs := List.mem_cons_of_mem _ (List.mem_cons_self ..)
  have mr : EL ∈ zm Z RL EL rs := List.mem_cons_of_mem _ (List.mem_cons_self ..)
  have n1 : RL ≠ EL := fun e => (List.nodup_cons.mp N.nd).1 (by rw [e]; exact List.mem_cons_self ..)
  refine ⟨by rw [upd_ne n1]; exact N.rl, upd_same, N.nd, N.new, N.len, fun i r row h1 h2 => ?_, N.but.put (N.new _ me), N.row.put fun e => N.neR hZ hR EL me e.symm⟩
  rw [hid_upd mr]
  obtain ⟨es, e, d⟩ := N.at_ i r row h1 h2
  have n2 : r ≠ EL := fun z => (List.nodup_cons.mp (List.nodup_cons.mp N.nd).2).1 (by rw [← z]; exact List.mem_of_getElem? h1)
  exact ⟨es, by rw [upd_ne n2]; exact e, d⟩
end
theorem all_set {K : PySem.W.Frag} {H : Hp} {v : V} {d : PyData} (q : Dp K H v d) : ∀ {vs : List V} {ds : List PyData} (j : Nat), DpAll K H vs ds → DpAll K H (vs.set j v) (ds.set j d)
  | vs, [], j, h => by rw [nil_inv h]; exact .nil
  | vs, e :: ds, j, h => by
    obtain ⟨x, r, rfl, h1, h2⟩ := cons_inv h
    cases j with
    | zero => exact .cons q h2
    | succ j => exact .cons h1 (all_set q j h2)
theorem all_erase {K : PySem.W.Frag} {H : Hp} : ∀ {vs : List V} {ds : List PyData} (j : Nat), DpAll K H vs ds → DpAll K H (vs.eraseIdx j) (ds.eraseIdx j)
  | vs, [], j, h => by rw [nil_inv h]; exact .nil
  | vs, e :: ds, j, h => by
    obtain ⟨x, r, rfl, h1, h2⟩ := cons_inv h
    cases j with
    | zero => exact h2
    | succ j => exact .cons h1 (all_erase j h2)
theorem map_erase {α β : Type} (f : α → β) : ∀ (l : List α) (j : Nat), (l.map f).eraseIdx j = (l.eraseIdx j).map f
  | [], j => rfl
  | x :: r, 0 => rfl
  | x :: r, j + 1 => congrArg (List.cons (f x)) (map_erase f r j)
theorem seq_ix {i n : Nat} (h : i < n) : seqIndex? (i : Int) n = some i := (ixN_seq (ix_nat h)).1
/-- not too large, with room for one more -/
structure WfB (rows : List (List (Step × Nat))) : Prop where
  pos : 0 < rows.length
  len : rows.length ≤ 60
  row : ∀ r ∈ rows, r.length ≤ 60 ∧ ∀ e ∈ r, e.2 < rows.length
theorem WfB.wf {rows : List (List (Step × Nat))} (w : WfB rows) : WfA rows := ⟨w.pos, by have := w.len; omega, fun r hr => ⟨by have := (w.row r hr).1; omega, (w.row r hr).2⟩⟩
theorem wf_set {rows : List (List (Step × Nat))} (w : WfB rows) {k : Nat} {row : List (Step × Nat)} (h1 : row.length ≤ 63) (h2 : ∀ e ∈ row, e.2 < rows.length) : WfA (rows.set k row) := by
  have wl := w.len
  refine ⟨by rw [List.length_set]; exact w.pos, by rw [List.length_set]; omega, fun r hr => ?_⟩
  rw [List.length_set]
  rcases List.mem_or_eq_of_mem_set hr with h | h
  · exact w.wf.row r h
  · rw [h]; exact ⟨h1, h2⟩
theorem zs_of {ns : List Int} (h : ∀ k ∈ ns, ∃ n : Nat, k = (n : Int)) : zs (ns.map Int.toNat) = ns := by
  unfold zs
  rw [List.map_map]
  have e : ∀ ns : List Int, (∀ k ∈ ns, ∃ n : Nat, k = (n : Int)) → ns.map ((fun n : Nat => (n : Int)) ∘ Int.toNat) = ns := fun ns => by
    induction ns with
    | nil => exact fun _ => rfl
    | cons x r ih =>
      intro h
      obtain ⟨n, rfl⟩ := h x (List.mem_cons_self ..)
      rw [List.map_cons, ih fun k hk => h k (List.mem_cons_of_mem _ hk)]
      rfl
  exact e ns h
def spNear (K : PySem.W.Frag) (C : Addr) : Sp := fun vs H Q _ => ∃ (Z : List Addr) (R : Addr) (m : Nat) (av pgv : V) (p : Prog) (rows : List (List (Step × Nat))) (ends : List Nat), vs = [.ref R, av, pgv] ∧ Dom Z H ∧ R ∈ Z ∧ RowAt H R m ∧ AutAt K C (hid Z H) av rows ends ∧ Dp K (hid Z H) pgv (progD p) ∧ depthP p ≤ 6 ∧ nodesP p ≤ 1000 ∧ WfB rows ∧ ends.length ≤ 1000 ∧
  ∀ (H' : Hp) (v : V) (rows' : List (List (Step × Nat))) (ends' : List Nat), But R H H' → RowAt H' R m → AutAt K C (hid Z H') v rows' ends' → WfA rows' → Q v H'
section
variable {P : Program} {w : World} {K : PySem.W.Frag} {mg : Str → Option Value} {base : Heap} {f C : Addr} {fd : FuncData}
abbrev nNear : List Str := ["_law_row", "_law_automaton", "_law_program", "_law_rows", "_law_ends", "_law_steps_here", "_law_k", "_law_turn", "_law_j", "_law_one", "_law_step_here", "_law_state"]
theorem scNear : FnScope nNear ["_law_row", "_law_automaton", "_law_program"] (defScope sNear) := ⟨rfl, rfl, rfl, by decide +kernel, rfl, by decide +kernel, by decide +kernel⟩
abbrev rListOf (K : PySem.W.Frag) : List V → Hp → VK → Prop := fun xs H Q => ∃ p ys, xs = [.ref p] ∧ (SqL K H p ys ∨ SqT K H p ys) ∧ ∀ l, H l = none → Q (.ref l) (upd H l (.lst ys))
theorem ok_near {j ka : Nat} (F : Fun K "_law_near" "_law_near" sNear f fd) (T : Txt K mg) (TA : AuTxt P w K mg base ka C) (hj : ka + 1 ≤ j) (CT : Callee P w K mg base j "_law_take" ["_law_row", "_law_bound"] spTake) (CS : Callee P w K mg base j "_law_steps" ["_law_program"] (spSteps K 6)) :
    FnOk P w K mg base CX0 (j + 1) f fd ["_law_row", "_law_automaton", "_law_program"] (spNear K C) := by
  refine F.ok scNear (fun vs H Q E h => ?_) (fun cdv A outer s H vs Q E hr h => ?_)
  · obtain ⟨Z, R, m, av, pgv, p, rows, ends, rfl, _⟩ := h
    rfl
  obtain ⟨Z, R, m, av, pgv, p, rows, ends, rfl, hZ, hRZ, hR, hA, hp, hd, hn, WB, lE, q⟩ := h
  have hr1 := hr.mono hj
  refine ⟨_, pss_cons (ps_set (i := 3) scNear.nd rfl (.inr rfl) (pe_lc (own := [("_law_one", 9)]) (g := gName 9) (tt := tYes) (te := tCB (rListOf K) (tCons (tVar 9) tNil)) (by rfl) scNear.nd (pi_list (pe_fld (pv 1) rfl))
      (blkOk_by (N := nNear) (sc := defScope sNear) (by decide +kernel)) (fun _ _ _ _ _ => pg_name (i := 9) scNear.nd rfl (Or.inl rfl)) (fun _ _ _ _ _ => pts_nil) (fun _ _ _ _ _ => pe_callTy call_list_of (by rfl) T.list (by decide +kernel) (pa_cons (pv 9) pa_nil))))
    (pss_cons (ps_set (i := 4) scNear.nd rfl (.inl rfl) (pe_callTy call_list_of (by rfl) T.list (by decide +kernel) (pa_cons (pe_fld (pv 1) rfl) pa_nil)))
    (pss_cons (ps_set (i := 5) scNear.nd rfl (.inl rfl) (pe_op op_catL (pe_cal CS hr (by rfl) (pa_cons (pv 2) pa_nil)) (pe_lst (pa_cons (pe_tup (pa_cons pe_str pa_nil)) pa_nil))))
    (pss_cons (ps_set (i := 6) scNear.nd rfl (.inr rfl) (pe_cal CT hr (by rfl) (pa_cons (pv 0) (pa_cons (pe_callB call_len_seq (by rfl) T.len PySem.boot_len (pa_cons (pv 3) pa_nil)) pa_nil))))
    (pss_cons (ps_set (i := 7) scNear.nd rfl (.inl rfl) (pe_cal CT hr (by rfl) (pa_cons (pv 0) (pa_cons pe_int pa_nil))))
    (pss_cons (ps_if (PW.pt (pw_and (pt_cmpR op_eq (pv 7) pe_int (nomark _)) (pw_and1 (pt_truth (pe_ix ix_list (pv 3) (pv 6) (fun _ _ => rfl)) (by intro _; rfl)))))
      (pss_one (ps_expr (pe_bm PySem.F.plainAttrs_list PySem.F.slot_list_pop PySem.F.type_list_pop mt_popAt (pe_ix ix_list (pv 3) (pv 6) (fun _ _ => rfl)) (pa_cons (pe_cal CT hr (by rfl) (pa_cons (pv 0) (pa_cons (pe_callB call_len_seq (by rfl) T.len PySem.boot_len (pa_cons (pe_ix ix_list (pv 3) (pv 6) (fun _ _ => rfl)) pa_nil)) pa_nil))) pa_nil)))) pss_nil)
    (pss_cons (ps_if (pt_cmpR op_eq (pv 7) pe_int (nomark _))
      (pss_one (ps_expr (pe_bm PySem.F.plainAttrs_list PySem.F.slot_list_append PySem.F.type_list_append mt_append (pe_ix ix_list (pv 3) (pv 6) (fun _ _ => rfl)) (pa_cons (pe_tup (pa_cons
        (pe_ix ix_list (pv 5) (pe_cal CT hr (by rfl) (pa_cons (pv 0) (pa_cons (pe_callB call_len_seq (by rfl) T.len PySem.boot_len (pa_cons (pv 5) pa_nil)) pa_nil))) (fun _ _ => rfl))
        (pa_cons (pe_cal CT hr (by rfl) (pa_cons (pv 0) (pa_cons (pe_callB call_len_seq (by rfl) T.len PySem.boot_len (pa_cons (pv 3) pa_nil)) pa_nil))) pa_nil))) pa_nil)))) pss_nil)
    (pss_cons (ps_if (PW.pt (pw_and (pt_cmpR op_eq (pv 7) pe_int (nomark _)) (pw_and1 (pt_cmpR op_in_seq (pv 6) (pv 4) (by rfl)))))
      (pss_one (ps_expr (pe_bm PySem.F.plainAttrs_list PySem.F.slot_list_remove PySem.F.type_list_remove mt_remove (pv 4) (pa_cons (pv 6) pa_nil))))
      (pss_one (ps_if (pt_cmpR op_eq (pv 7) pe_int (nomark _)) (pss_one (ps_set (i := 4) scNear.nd rfl (.inl rfl) (pe_callB cr_sortedI (by rfl) T.sorted (by decide +kernel) (pa_cons (pe_op op_catL (pv 4) (pe_lst (pa_cons (pv 6) pa_nil))) pa_nil)))) pss_nil)))
    (pss_cons (ps_if (pt_cmpR op_eq (pv 7) pe_int (nomark _))
      (pss_cons (ps_expr (pe_bm PySem.F.plainAttrs_list PySem.F.slot_list_append PySem.F.type_list_append mt_append (pv 3) (pa_cons (pe_callTy call_list_of (by rfl) T.list (by decide +kernel) (pa_cons (pe_ix ix_list (pv 3) (pv 6) (fun _ _ => rfl)) pa_nil)) pa_nil)))
      (pss_cons (ps_if (pt_cmpR op_in_seq (pv 6) (pv 4) (by rfl)) (pss_one (ps_expr (pe_bm PySem.F.plainAttrs_list PySem.F.slot_list_append PySem.F.type_list_append mt_append (pv 4) (pa_cons (pe_op op_sub (pe_callB call_len_seq (by rfl) T.len PySem.boot_len (pa_cons (pv 3) pa_nil)) pe_int) pa_nil)))) pss_nil)
      (pss_cons (ps_set (i := 8) scNear.nd rfl (.inl rfl) (pe_cal CT hr (by rfl) (pa_cons (pv 0) (pa_cons (pe_callB call_len_seq (by rfl) T.len PySem.boot_len (pa_cons (pv 3) pa_nil)) pa_nil))))
      (pss_one (ps_asg (pe_lc (own := [("_law_step_here", 10), ("_law_state", 11)]) (g := gTup K 2 (gCons (gName 10) (gCons (gName 11) gNil))) (tt := tYes)
          (te := tTup (tCons (tVar 10) (tCons (tOp (rIxL K) (tLst (tCons (tVar 11) (tCons (tOp (rI0 fun i j => .int (i - j)) (tCB (rLen K) (tCons (tVar 3) tNil)) (tC (.int 1))) tNil))) (tCB (fun xs H Q => (∃ i, xs = [.int i] ∧ Q (.int i) H) ∨ ∃ k, xs = [.bl k] ∧ Q (.int (if k then 1 else 0)) H) (tCons (tOp rEq (tVar 11) (tVar 6)) tNil))) tNil)))
          (by rfl) scNear.nd (pi_list (pe_ix ix_list (pv 3) (pv 8) (fun _ _ => rfl)))
          (blkOk_by (N := nNear) (sc := defScope sNear) (by decide +kernel)) (fun _ _ _ _ _ => pg_tup (by rfl) (pgs_cons (pg_name (i := 10) scNear.nd rfl (Or.inl rfl)) (pgs_cons (pg_name (i := 11) scNear.nd rfl (Or.inl rfl)) pgs_nil))) (fun _ _ _ _ _ => pts_nil)
          (fun _ _ _ _ _ => pe_tup (pa_cons (pv 10) (pa_cons (pe_ix ix_list (pe_lst (pa_cons (pv 11) (pa_cons (pe_op op_sub (pe_callB call_len_seq (by rfl) T.len PySem.boot_len (pa_cons (pv 3) pa_nil)) pe_int) pa_nil))) (pe_callTy call_int1 (by rfl) T.int (by decide +kernel) (pa_cons (pe_cmpR op_eq (pv 11) (pv 6) (nomark _)) pa_nil)) (fun _ _ => rfl)) pa_nil))))
        (pg_sub (pv 3) (pv 8) set_list)))))) pss_nil)
    (pss_one (ps_ret (pe_au TA hr1 (by rfl) (pa_cons (pv 3) (pa_cons (pv 4) pa_nil))))))))))))), ?_⟩
  obtain ⟨aa, adx, u1, u2, rfl, ga, d1, d2⟩ := hA.ex
  obtain ⟨ra, rxs, rfl, gra, hra⟩ := list_inv d1
  obtain ⟨ea, rfl, gea⟩ := natD_inv d2
  have lrx := all_len hra
  rw [List.length_map] at lrx
  -- the rows, copied
  refine ⟨_, rfl, aa, C, adx, _, _, rfl, hid_le _ _ ga, TA.cl, TA.n1, auF_rows, ra, rfl, ⟨rxs, hid_le.seq gra⟩, fun RL nRL => ?_⟩
  refine lc_list (K := K) (a := ra) (xs := rxs) (fun i H2 => ∃ rs : List Addr, H2 RL = some (.lst (rs.map V.ref)) ∧ rs.length = i ∧ (RL :: rs).Nodup ∧ (∀ r ∈ rs, H r = none) ∧ Same H H2 ∧
    ∀ (k : Nat) (r : Addr) (row : List (Step × Nat)), rs[k]? = some r → rows[k]? = some row → ∃ es, H2 r = some (.lst es) ∧ DpAll K (hid Z H) es (row.map entD)) ?_ ?_ ?_ ?_
  · exact ⟨[], upd_same, rfl, by simp, fun _ h => (nomatch h), same_new nRL, fun k r row h => by simp at h⟩
  · rintro i H2 _ ⟨_, _, _, _, _, s2, _⟩
    exact (hid_le.trans s2).seq gra
  · rintro i x H2 hi ⟨rs, e1, e2, e3, e4, s2, e5⟩
    obtain ⟨d, hd1, hd2⟩ := all_get hra hi
    rw [List.getElem?_map] at hd1
    obtain ⟨row, hrow, rfl⟩ := Option.map_eq_some_iff.mp hd1
    obtain ⟨b, es, rfl, gb, hes⟩ := list_inv hd2
    refine ⟨rfl, _, rfl, b, es, rfl, .inl ((hid_le.trans s2).seq gb), fun l nl => ?_⟩
    have lRL : RL ≠ l := ne_of_none e1 nl
    have lr : ∀ r ∈ rs, r ≠ l := fun r hr => by
      obtain ⟨k, hk⟩ := List.getElem?_of_mem hr
      have hk1 := (List.getElem?_eq_some_iff.mp hk).1
      have hk2 : k < rows.length := by
        have := (List.getElem?_eq_some_iff.mp hrow).1
        omega
      obtain ⟨es', e, _⟩ := e5 k r (rows[k]'hk2) hk (List.getElem?_eq_getElem hk2)
      exact ne_of_none e nl
    have li : i < rows.length := (List.getElem?_eq_some_iff.mp hrow).1
    have l60 := WB.len
    refine ⟨rs.map V.ref, by rw [upd_ne lRL]; exact e1, line60 (by rw [List.length_map]; omega), rs ++ [l], by rw [upd_same, List.map_append]; rfl, by rw [List.length_append, e2]; rfl, ?_, ?_, same_put (s2.trans (same_new nl)) nRL, ?_⟩
    · rw [← List.cons_append, List.nodup_append]
      exact ⟨e3, by simp, fun x hx y hy => by
        rw [List.mem_singleton.mp hy]
        rcases List.mem_cons.mp hx with e | hx
        · rw [e]; exact lRL
        · exact lr x hx⟩
    · intro r hr
      rcases List.mem_append.mp hr with h | h
      · exact e4 r h
      · rw [List.mem_singleton.mp h]
        exact s2.free nl
    · intro k r row' h1 h2
      by_cases hk : k < rs.length
      · rw [List.getElem?_append_left hk] at h1
        obtain ⟨es', e, d⟩ := e5 k r row' h1 h2
        have hr := List.mem_of_getElem? h1
        have nr : r ≠ RL := fun z => (List.nodup_cons.mp e3).1 (by rw [← z]; exact hr)
        exact ⟨es', by rw [upd_ne nr, upd_ne (lr r hr)]; exact e, d⟩
      · have hk' : k = rs.length := by
          have := (List.getElem?_eq_some_iff.mp h1).1
          rw [List.length_append, List.length_singleton] at this
          omega
        subst hk'
        rw [List.getElem?_append_right (Nat.le_refl _), Nat.sub_self] at h1
        have : r = l := (Option.some.inj h1).symm
        subst this
        rw [e2, hrow] at h2
        cases h2
        exact ⟨es, by rw [upd_ne lRL.symm, upd_same], hes⟩
  rintro H1 ⟨rs, e1, e2, e3, e4, s1, e5⟩
  rw [lrx] at e2
  -- the ends, copied
  refine ⟨_, rfl, aa, C, adx, _, _, rfl, s1 _ _ (hid_le _ _ ga), TA.cl, TA.n2, auF_ends, ea, _, rfl, .inl ((hid_le.trans s1).seq gea), fun EL nEL => ?_⟩
  have s2 : Same H (upd H1 EL (.lst ((zs ends).map V.int))) := s1.trans (same_new nEL)
  have nELH : H EL = none := s1.free nEL
  have RLne : RL ≠ EL := ne_of_none e1 nEL
  have rne : ∀ r ∈ rs, r ≠ EL := fun r hr => by
    obtain ⟨k, hk⟩ := List.getElem?_of_mem hr
    have hk1 := (List.getElem?_eq_some_iff.mp hk).1
    have hk2 : k < rows.length := by omega
    obtain ⟨es', e, _⟩ := e5 k r (rows[k]'hk2) hk (List.getElem?_eq_getElem hk2)
    exact ne_of_none e nEL
  have new : ∀ b ∈ RL :: EL :: rs, H b = none := fun b hb => by
    rcases List.mem_cons.mp hb with e | hb
    · rw [e]; exact nRL
    rcases List.mem_cons.mp hb with e | hb
    · rw [e]; exact nELH
    · exact e4 b hb
  have lift : Same (hid Z H) (hid (zm Z RL EL rs) (upd H1 EL (.lst ((zs ends).map V.int)))) := fun c o e => by
    obtain ⟨q1, q2⟩ := hid_get e
    rw [hid_out fun z => ?_]
    · exact s2 _ _ q1
    · have h : c ∈ RL :: EL :: rs ∨ c ∈ Z := by
        rcases List.mem_cons.mp z with h | z
        · exact .inl (h ▸ List.mem_cons_self ..)
        rcases List.mem_cons.mp z with h | z
        · exact .inl (h ▸ List.mem_cons_of_mem _ (List.mem_cons_self ..))
        exact (List.mem_append.mp z).imp (fun h => List.mem_cons_of_mem _ (List.mem_cons_of_mem _ h)) id
      rcases h with h | h
      · rw [new c h] at q1; cases q1
      · exact q2 h
  have N2 : NSt K Z R m RL EL H (upd H1 EL (.lst ((zs ends).map V.int))) rs rows ends := by
    refine ⟨by rw [upd_ne RLne]; exact e1, upd_same, ?_, new, e2, fun i r row h1 h2 => ?_, Same.but s2, ?_⟩
    · rw [List.nodup_cons, List.nodup_cons]
      exact ⟨fun h => (List.mem_cons.mp h).elim RLne (List.nodup_cons.mp e3).1, fun h => rne EL h rfl, (List.nodup_cons.mp e3).2⟩
    · obtain ⟨es, e, d⟩ := e5 i r row h1 h2
      exact ⟨es, by rw [upd_ne (rne r (List.mem_of_getElem? h1))]; exact e, Same.all lift d⟩
    · obtain ⟨ms, e, l⟩ := hR
      exact ⟨ms, s2 _ _ e, l⟩
  have dp2 := Same.dp lift hp
  generalize upd H1 EL (.lst ((zs ends).map V.int)) = H2 at N2 dp2 s2
  -- the steps and one more
  refine ⟨_, rfl, zm Z RL EL rs, pgv, p, rfl, N2.dom hZ, dp2, hd, hn, fun H3 sv s3 hsv => ?_⟩
  have z3 := (N2.dom hZ).same s3
  refine ⟨(by show 1 ≤ sizeLine; decide), fun t nt => ⟨(by show 1 ≤ sizeLine; decide), fun l nl => ?_⟩⟩
  have v1 := same_new (o := .tup [.str "empty"]) nt
  have v2 := same_new (o := .lst [.ref t]) nl
  have z4 := z3.same v1
  have z5 := z4.same v2
  have e0 : ("empty" : Str) ∈ stepNames := by decide +kernel
  have dt := step_one (K := K) (Z := zm Z RL EL rs) e0 z3 nt
  have dl := dp_new (Z := zm Z RL EL rs) z4 nl (.cons dt .nil)
  have ls := steps_le p
  refine cat_read (B := True) z5 (Same.dp (same_hid (v1.trans v2)) hsv) dl (by simp only [List.length_map, List.length_cons, List.length_nil]; omega) fun sl nsl H4 s4 _ d4 => ?_
  have N4 := N2.keep hZ hRZ (s3.trans (v1.trans (v2.trans s4)))
  have d4 : Dp K (hid (zm Z RL EL rs) H4) (.ref sl) (wordD (stepsP p ++ [⟨"empty", none, e0⟩])) := by
    unfold wordD
    rw [List.map_append]
    exact d4
  have hRm : R ∈ zm Z RL EL rs := List.mem_cons_of_mem _ (List.mem_cons_of_mem _ (List.mem_append_right _ hRZ))
  -- k, turn
  refine ⟨_, rfl, _, rfl, RL, _, rfl, .inl (.of N4.rl), R, m, _, rfl, N4.row, by rw [List.length_map, e2]; have := WB.pos; omega, fun H5 k b5 r5 hk => ?_⟩
  rw [List.length_map] at hk
  have hkl : k < rs.length := by omega
  have N5 := N4.go hZ hRZ b5 r5
  refine ⟨_, rfl, R, m, 5, rfl, r5, by decide, fun H6 tn b6 r6 htn => ?_⟩
  have N6 := N5.go hZ hRZ b6 r6
  have d6 := Same.dp ((b5.tr b6).hid hRm) d4
  have hkr : k < rows.length := by omega
  have hrk : rs[k]? = some rs[k] := List.getElem?_eq_getElem hkl
  have hrow : rows[k]? = some rows[k] := List.getElem?_eq_getElem hkr
  have atk : atI (rs.map V.ref) (k : Int) = some (.ref rs[k]) := atI_nat (by rw [List.getElem?_map, hrk]; rfl)
  obtain ⟨rk60, rkt⟩ := WB.row rows[k] (List.getElem_mem hkr)
  have l60 := WB.len
  -- what is left at the end: return Automaton(rows, ends)
  have fin : ∀ (ev : V) (x5 x6 x7 x8 x9 x10 x11 : Option V) (H' : Hp) (rows' : List (List (Step × Nat))) (ends' : List Nat), But R H H' → RowAt H' R m → Dp K (hid Z H') (.ref RL) (rowsD rows') → Dp K (hid Z H') ev (natD ends') → WfA rows' →
      (tRet (tMake C (spAu K C) [] E0 (tCons (tVar 3) (tCons (tVar 4) tNil)))) { nx := fun _ H' => Q .non H', rt := Q } [some (.ref R), some (.ref aa), some pgv, some (.ref RL), some ev, x5, x6, x7, x8, x9, x10, x11] H' := by
    intro ev x5 x6 x7 x8 x9 x10 x11 H' rows' ends' b r dR dE wf
    refine ⟨_, rfl, _, rfl, fun x dx nx nd ne => ?_⟩
    refine au_go nx nd ne (by rfl) (b.dom hZ r.dom) dR dE (by have := wf.len; omega) fun H7 s7 au => ⟨rfl, q H7 _ rows' ends' (b.tr (Same.but s7)) (let ⟨ms, e, l⟩ := r; ⟨ms, s7 _ _ e, l⟩) au wf⟩
  have wfA := WB.wf
  have t5 : tn = 0 ∨ tn = 1 ∨ tn = 2 ∨ tn = 3 ∨ tn = 4 := by omega
  obtain ⟨dR6, dE6⟩ := N6.done hZ
  rcases t5 with rfl | rfl | rfl | rfl | rfl
  · -- one pair less
    obtain ⟨es, ge, de⟩ := N6.at_ k _ _ hrk hrow
    have les := all_len de
    rw [List.length_map] at les
    refine ⟨_, rfl, rfl, _, rfl, ite2 (fun _ => ?_) (fun c => absurd (decide_eq_true rfl) c)⟩
    refine ⟨_, rfl, _, rfl, RL, _, _, _, rfl, rfl, .of N6.rl, atk, _, .inl ⟨es, .of ge, rfl⟩, ?_⟩
    by_cases hes : es = []
    · subst hes
      refine iteF ?_
      refine ⟨_, rfl, rfl, _, rfl, ite2 (fun c => absurd (of_decide_eq_true c) (by decide +kernel)) (fun _ => ?_)⟩
      refine ⟨_, rfl, rfl, _, rfl, ite2 (fun c => absurd (of_decide_eq_true c) (by decide +kernel)) (fun _ => iteF ?_)⟩
      refine ⟨_, rfl, rfl, _, rfl, ite2 (fun c => absurd (of_decide_eq_true c) (by decide +kernel)) (fun _ => ?_)⟩
      refine ⟨_, rfl, rfl, _, rfl, ite2 (fun c => absurd (of_decide_eq_true c) (by decide +kernel)) (fun _ => ?_)⟩
      exact fin _ _ _ _ _ _ _ _ H6 rows ends N6.but r6 dR6 dE6 wfA
    · have hpos : 0 < es.length := List.length_pos_iff.mpr hes
      have he : (!es.isEmpty) = true := by cases es <;> simp at hes ⊢
      rw [he]
      refine iteT ?_
      refine ⟨_, rfl, _, rfl, RL, _, _, _, rfl, rfl, .of N6.rl, atk, .inl ⟨rfl, _, .of ge⟩, _, rfl, _, rfl, _, rfl, RL, _, _, _, rfl, rfl, .of N6.rl, atk, rs[k], es, rfl, .inl (.of ge), R, m, _, rfl, r6, by omega, fun H7 i b7 r7 hi => ?_⟩
      have hil : i < es.length := by omega
      have N7 := N6.go hZ hRZ b7 r7
      have ne : rs[k] ≠ R := N6.neR hZ hRZ _ (List.mem_cons_of_mem _ (List.mem_cons_of_mem _ (List.getElem_mem hkl)))
      have N8 := N7.setRow (es := es.eraseIdx i) (row := rows[k].eraseIdx i) hZ hRZ hrk (by rw [← map_erase]; exact all_erase i (Same.all (b7.hid hRm) de))
      obtain ⟨dR8, dE8⟩ := N8.done hZ
      refine ⟨rs[k], es, (i : Int), i, es[i], rfl, rfl, b7.get ge ne, by omega, by omega, seq_ix hil, List.getElem?_eq_getElem hil, ?_⟩
      refine ⟨_, rfl, rfl, _, rfl, ite2 (fun c => absurd (of_decide_eq_true c) (by decide +kernel)) (fun _ => ?_)⟩
      refine ⟨_, rfl, rfl, _, rfl, ite2 (fun c => absurd (of_decide_eq_true c) (by decide +kernel)) (fun _ => iteF ?_)⟩
      refine ⟨_, rfl, rfl, _, rfl, ite2 (fun c => absurd (of_decide_eq_true c) (by decide +kernel)) (fun _ => ?_)⟩
      refine ⟨_, rfl, rfl, _, rfl, ite2 (fun c => absurd (of_decide_eq_true c) (by decide +kernel)) (fun _ => ?_)⟩
      refine fin _ _ _ _ _ _ _ _ _ _ ends N8.but N8.row dR8 dE8 (wf_set WB ?_ fun e he => rkt e (List.mem_of_mem_eraseIdx he))
      exact Nat.le_trans (List.length_eraseIdx_le ..) (by omega)
  · -- one pair more
    obtain ⟨es, ge, de⟩ := N6.at_ k _ _ hrk hrow
    have les := all_len de
    rw [List.length_map] at les
    obtain ⟨sl2, sxs, e, gsl, hsl⟩ := list_inv d6
    cases e
    have lsx := all_len hsl
    rw [List.length_map] at lsx
    have lpos : 0 < sxs.length := by rw [lsx, List.length_append]; exact Nat.succ_pos _
    refine ⟨_, rfl, rfl, _, rfl, ite2 (fun c => absurd (of_decide_eq_true c) (by decide +kernel)) (fun _ => iteF ?_)⟩
    refine ⟨_, rfl, rfl, _, rfl, ite2 (fun _ => ?_) (fun c => absurd (decide_eq_true rfl) c)⟩
    refine ⟨_, rfl, _, rfl, RL, _, _, _, rfl, rfl, .of N6.rl, atk, .inl ⟨rfl, _, .of ge⟩, _, rfl, _, rfl, _, rfl, sl, sxs, rfl, .inl (hid_le.seq gsl), R, m, _, rfl, r6, by omega, fun H7 i b7 r7 hi => ?_⟩
    have hil : i < sxs.length := by omega
    have hx : sxs[i]? = some sxs[i] := List.getElem?_eq_getElem hil
    obtain ⟨d, hd1, hd2⟩ := all_get hsl hx
    rw [List.getElem?_map] at hd1
    obtain ⟨st, hst, rfl⟩ := Option.map_eq_some_iff.mp hd1
    have N7 := N6.go hZ hRZ b7 r7
    refine ⟨sl, sxs, _, _, rfl, rfl, hid_le.seq (Same.seq (b7.hid hRm) gsl), atI_nat hx, ?_⟩
    refine ⟨_, rfl, _, rfl, RL, _, rfl, .inl (.of N7.rl), R, m, _, rfl, r7, by rw [List.length_map, e2]; have := WB.pos; omega, fun H8 y b8 r8 hy => ?_⟩
    rw [List.length_map] at hy
    refine ⟨(by show 2 ≤ sizeLine; decide), fun tp ntp => ?_⟩
    have N8 := N7.go hZ hRZ b8 r8
    have N9 := N8.keep hZ hRZ (same_new (o := .tup [sxs[i], .int (y : Int)]) ntp)
    have ne : rs[k] ≠ R := N6.neR hZ hRZ _ (List.mem_cons_of_mem _ (List.mem_cons_of_mem _ (List.getElem_mem hkl)))
    have g8 := (b7.tr b8).get ge ne
    have dtp : Dp K (hid (zm Z RL EL rs) (upd H8 tp (.tup [sxs[i], .int (y : Int)]))) (.ref tp) (entD (st, y)) := dp_newT (N8.dom hZ) ntp (.cons (Same.dp ((b7.tr b8).hid hRm) hd2) (.cons (.int _) .nil))
    have N10 := N9.setRow (es := es ++ [.ref tp]) (row := rows[k] ++ [(st, y)]) hZ hRZ hrk (by
      rw [List.map_append]
      exact all_snoc (Same.all (same_newZ ntp) (Same.all ((b7.tr b8).hid hRm) de)) dtp)
    obtain ⟨dR8, dE8⟩ := N10.done hZ
    refine ⟨rs[k], es, .ref tp, rfl, rfl, by rw [upd_ne (ne_of_none g8 ntp)]; exact g8, line60 (by omega), ?_⟩
    refine ⟨_, rfl, rfl, _, rfl, ite2 (fun c => absurd (of_decide_eq_true c) (by decide +kernel)) (fun _ => iteF ?_)⟩
    refine ⟨_, rfl, rfl, _, rfl, ite2 (fun c => absurd (of_decide_eq_true c) (by decide +kernel)) (fun _ => ?_)⟩
    refine ⟨_, rfl, rfl, _, rfl, ite2 (fun c => absurd (of_decide_eq_true c) (by decide +kernel)) (fun _ => ?_)⟩
    refine fin _ _ _ _ _ _ _ _ _ _ ends N10.but N10.row dR8 dE8 (wf_set WB ?_ fun e he => ?_)
    · rw [List.length_append, List.length_singleton]
      omega
    · rcases List.mem_append.mp he with h | h
      · exact rkt e h
      · rw [List.mem_singleton.mp h]
        show y < rows.length
        omega
  · -- the ends
    refine ⟨_, rfl, rfl, _, rfl, ite2 (fun c => absurd (of_decide_eq_true c) (by decide +kernel)) (fun _ => iteF ?_)⟩
    refine ⟨_, rfl, rfl, _, rfl, ite2 (fun c => absurd (of_decide_eq_true c) (by decide +kernel)) (fun _ => ?_)⟩
    refine ⟨_, rfl, rfl, _, rfl, ite2 (fun _ => ?_) (fun c => absurd (decide_eq_true rfl) c)⟩
    refine ⟨_, rfl, _, rfl, EL, _, rfl, .inl (.of N6.el), rfl, flat_ints _, _, rfl, ?_⟩
    rw [if_neg Bool.false_ne_true, inV_ints, nat_in]
    by_cases hin : k ∈ ends
    · rw [decide_eq_true hin]
      refine iteT ?_
      obtain ⟨jx, h1, h2⟩ := first_ix hin
      have N7 := N6.setEnds (ends' := ends.eraseIdx jx) hZ hRZ
      obtain ⟨dR7, dE7⟩ := N7.done hZ
      refine ⟨_, rfl, .inl ⟨rfl, _, .of N6.el⟩, _, rfl, EL, zs ends, (k : Int), jx, rfl, rfl, N6.el, ?_, ?_, ?_⟩
      · unfold zs
        rw [List.getElem?_map, h1]
        rfl
      · intro m hm e
        unfold zs at e
        rw [List.getElem?_map] at e
        obtain ⟨n, hn, e⟩ := Option.map_eq_some_iff.mp e
        exact h2 m hm (by rw [hn, Int.ofNat.inj e])
      · rw [zs_erase]
        refine ⟨_, rfl, rfl, _, rfl, ite2 (fun c => absurd (of_decide_eq_true c) (by decide +kernel)) (fun _ => ?_)⟩
        exact fin _ _ _ _ _ _ _ _ _ rows _ N7.but N7.row dR7 dE7 wfA
    · rw [decide_eq_false hin]
      refine iteF ?_
      refine ⟨_, rfl, rfl, _, rfl, ite2 (fun _ => ?_) (fun c => absurd (decide_eq_true rfl) c)⟩
      have z6 : Dom Z H6 := N6.but.dom hZ N6.row.dom
      refine ⟨_, rfl, _, rfl, (by show 1 ≤ sizeLine; decide), fun l nl => ?_⟩
      have w1 := same_new (o := .lst [.int (k : Int)]) nl
      have z7 := z6.same w1
      refine cat_read (B := True) z7 (Same.dp (same_hid w1) dE6) (natD_new (ns := [k]) z6 nl) (by simp only [List.length_map, zs, List.length_cons, List.length_nil]; omega) fun c nc H7 w2 z8 d7 => ?_
      rw [← natD_app] at d7
      obtain ⟨c', e, gc⟩ := natD_inv d7
      cases e
      refine ⟨c, _, rfl, hid_le.seq gc, fun ns' pe perm _ npe => ?_⟩
      have w3 := same_new (o := .lst (ns'.map V.int)) npe
      have ens : zs (ns'.map Int.toNat) = ns' := zs_of fun x hx => by
        obtain ⟨n, _, e⟩ := mem_zs.mp (perm.mem_iff.mp hx)
        exact ⟨n, e⟩
      have w123 := w1.trans (w2.trans w3)
      have r9 : RowAt _ R m := let ⟨ms, e, l⟩ := N6.row; ⟨ms, w123 _ _ e, l⟩
      refine ⟨_, rfl, rfl, _, rfl, ite2 (fun c => absurd (of_decide_eq_true c) (by decide +kernel)) (fun _ => ?_)⟩
      refine fin (.ref pe) _ _ _ _ _ _ _ _ rows (ns'.map Int.toNat) (N6.but.tr (Same.but w123)) r9 (Same.dp (same_hid w123) dR6) ?_ wfA
      unfold natD
      rw [ens]
      exact dp_new z8 npe (all_ints _)
  · -- one state more
    obtain ⟨es, ge, de⟩ := N6.at_ k _ _ hrk hrow
    have les := all_len de
    rw [List.length_map] at les
    have rest : ∀ (pn : Addr) (Hx : Hp) (ends' : List Nat), NSt K Z R m RL EL H Hx (rs ++ [pn]) (rows ++ [rows[k]]) ends' →
        (tSeq (tAsg (tCall spTake [] E0 (tCons (tVar 0) (tCons (tCB (rLen K) (tCons (tVar 3) tNil)) tNil))) (gName 8))
          (tAsg (tLc (iList K (tOp (rIxL K) (tVar 3) (tVar 8))) (gTup K 2 (gCons (gName 10) (gCons (gName 11) gNil))) tYes
            (tTup (tCons (tVar 10) (tCons (tOp (rIxL K) (tLst (tCons (tVar 11) (tCons (tOp (rI0 fun i j => .int (i - j)) (tCB (rLen K) (tCons (tVar 3) tNil)) (tC (.int 1))) tNil))) (tCB (fun xs H Q => (∃ i, xs = [.int i] ∧ Q (.int i) H) ∨ ∃ k, xs = [.bl k] ∧ Q (.int (if k then 1 else 0)) H) (tCons (tOp rEq (tVar 11) (tVar 6)) tNil))) tNil))) [10, 11]) (gSub (tVar 3) (tVar 8) L2.rSetL)))
          { nx := fun σ H' => tRet (tMake C (spAu K C) [] E0 (tCons (tVar 3) (tCons (tVar 4) tNil))) { nx := fun _ H' => Q .non H', rt := Q } σ H', rt := Q }
          [some (.ref R), some (.ref aa), some pgv, some (.ref RL), some (.ref EL), some (.ref sl), some (.int (k : Int)), some (.int 3), none, none, none, none] Hx := by
      intro pn Hx ends' N8
      have l61 : (rows ++ [rows[k]]).length = rows.length + 1 := by rw [List.length_append]; rfl
      have w7 : ∀ r ∈ rows ++ [rows[k]], r.length ≤ 60 ∧ ∀ e ∈ r, e.2 < rows.length := fun r hr => by
        rcases List.mem_append.mp hr with h | h
        · exact WB.row r h
        · rw [List.mem_singleton.mp h]; exact ⟨rk60, rkt⟩
      generalize rows ++ [rows[k]] = rows7 at l61 w7 N8
      generalize rs ++ [pn] = rs7 at N8
      have l8 := N8.len
      refine ⟨_, rfl, _, rfl, RL, _, rfl, .inl (.of N8.rl), R, m, _, rfl, N8.row, by rw [List.length_map, l8, l61]; omega, fun H9 j b9 r9 hj0 => ?_⟩
      rw [List.length_map] at hj0
      have hj : j < rs7.length := by omega
      have N9 := N8.go hZ hRZ b9 r9
      have hjr : j < rows7.length := by omega
      have hrj : rs7[j]? = some rs7[j] := List.getElem?_eq_getElem hj
      have hrowj : rows7[j]? = some rows7[j] := List.getElem?_eq_getElem hjr
      have atj : atI (rs7.map V.ref) (j : Int) = some (.ref rs7[j]) := atI_nat (by rw [List.getElem?_map, hrj]; rfl)
      obtain ⟨rj60, rjt⟩ := w7 rows7[j] (List.getElem_mem hjr)
      have zt : Dom (RL :: EL :: Z) H9 := ((N9.but.dom hZ N9.row.dom).cons N9.el).cons N9.rl
      have A := N9.rows_at hZ (Z' := RL :: EL :: Z) fun b hb => by
        rcases List.mem_cons.mp hb with h | hb
        · exact .inl h
        rcases List.mem_cons.mp hb with h | hb
        · exact .inr (.inl h)
        · exact .inr (.inr hb)
      obtain ⟨rv, hrv, drv⟩ := all_at A (show (rows7.map rowD)[j]? = some (rowD rows7[j]) by rw [List.getElem?_map, hrowj]; rfl)
      obtain ⟨rj, ej, rfl, gj, hej⟩ := list_inv drv
      rw [List.getElem?_map, hrj] at hrv
      have erj : rs7[j] = rj := V.ref.inj (Option.some.inj hrv)
      have lej := all_len hej
      rw [List.length_map] at lej
      rw [erj] at atj
      refine ⟨_, rfl, _, rfl, RL, _, _, _, rfl, rfl, .of N9.rl, atj, rj, rfl, ⟨_, hid_le.seq gj⟩, fun D nD => ?_⟩
      let nw : Step × Nat → Step × Nat := fun e => (e.1, if e.2 = k then rows.length else e.2)
      refine lc_list (K := K) (a := rj) (xs := ej) (fun i H2 => GrowAt K (RL :: EL :: Z) D H9 H2 ((((rows7[j]).map nw).take i).map entD)) ?_ ?_ ?_ ?_
      · exact .start nD
      · intro i H2 _ g
        exact (hid_le.trans g.same).seq gj
      · intro i x H2 hi g
        obtain ⟨d, hd1, hd2⟩ := all_get hej hi
        rw [List.getElem?_map] at hd1
        obtain ⟨e, he, rfl⟩ := Option.map_eq_some_iff.mp hd1
        obtain ⟨t, sv, rfl, gt, dsv⟩ := entD_inv hd2
        have s2 := g.same
        refine ⟨t, _, rfl, seqT (hid_le.trans s2) gt, rfl, _, _, rfl, _, _, rfl, rfl, ?_⟩
        refine ⟨rfl, ?_⟩
        refine ⟨_, rfl, _, rfl, _, rfl, RL, _, rfl, .inl (.of (s2 _ _ N9.rl)), _, _, rfl, rfl, (by show 2 ≤ sizeLine; decide), fun q nq => ?_⟩
        have g2 := g.keep (same_new (o := .lst [.int (e.2 : Int), .int (((rs7.map V.ref).length : Int) - 1)]) nq)
        have el : ((rs7.map V.ref).length : Int) - 1 = (rows.length : Int) := by rw [List.length_map, l8, l61]; omega
        refine ⟨_, rfl, _, rfl, rfl, .inr ⟨_, rfl, q, _, _, .int ((if e.2 = k then rows.length else e.2 : Nat) : Int), rfl, rfl, .of upd_same, ?_, (by show 2 ≤ sizeLine; decide), fun tp ntp => ?_⟩⟩
        · show atI [V.int (e.2 : Int), V.int (((rs7.map V.ref).length : Int) - 1)] _ = _
          rw [dec_int, el]
          by_cases c : e.2 = k
          · rw [if_pos c, c, show ((k : Int) == (k : Int)) = true from beq_self_eq_true _]
            exact atI_nat (j := 1) rfl
          · rw [if_neg c, show ((e.2 : Int) == (k : Int)) = false from beq_false_of_ne fun z => c (Int.ofNat.inj z)]
            exact atI_nat (j := 0) rfl
        · have zD := g2.dom zt
          have up : Same (hid (RL :: EL :: Z) H9) (hid (D :: RL :: EL :: Z) (upd H2 q (.lst [.int (e.2 : Int), .int (((rs7.map V.ref).length : Int) - 1)]))) := fun c o e => by
            obtain ⟨q1, q2⟩ := hid_get e
            rw [hid_out fun z => (List.mem_cons.mp z).elim (ne_of_none q1 nD) q2]
            exact g2.same _ _ q1
          show putL D _ _ fun H' => GrowAt K (RL :: EL :: Z) D H9 H' ((((rows7[j]).map nw).take (i + 1)).map entD)
          refine (g2.keep (same_new ntp)).put (d := entD (nw e)) nD (dp_newT zD ntp (.cons (Same.dp up dsv) (.cons (.int _) .nil))) ?_ fun H' g' => ?_
          · refine line60 ?_
            rw [List.length_map, List.length_take, List.length_map]
            omega
          · rw [List.take_add_one, List.getElem?_map, he, List.map_append]
            exact g'
      · intro H2 g
        have ltk : ((rows7[j]).map nw).take ej.length = (rows7[j]).map nw := List.take_of_length_le (by rw [List.length_map]; omega)
        rw [ltk] at g
        have dD := g.done zt nD
        have s2 := g.same
        refine ⟨_, rfl, _, rfl, RL, _, _, j, rfl, rfl, s2 _ _ N9.rl, ix_nat (by rw [List.length_map]; exact hj), ?_⟩
        have mRL : RL ∈ RL :: EL :: rs7 := List.mem_cons_self ..
        have mEL : EL ∈ RL :: EL :: rs7 := List.mem_cons_of_mem _ (List.mem_cons_self ..)
        have nRZ := N9.apart hZ RL mRL
        have nEZ := N9.apart hZ EL mEL
        have nER : EL ≠ RL := fun z => (List.nodup_cons.mp N9.nd).1 (by rw [z]; exact List.mem_cons_self ..)
        have nRR : R ≠ RL := (N9.neR hZ hRZ RL mRL).symm
        have all := all_set dD j (Same.all (same_hid s2) A)
        have r9' : RowAt (upd H2 RL (.lst ((rs7.map V.ref).set j (.ref D)))) R m := let ⟨ms, e, l⟩ := N9.row; ⟨ms, by rw [upd_ne nRR]; exact s2 _ _ e, l⟩
        refine fin _ _ _ _ _ _ _ _ _ (rows7.set j ((rows7[j]).map nw)) ends' ((N9.but.tr (Same.but s2)).put (N9.new RL mRL)) r9' ?_ ?_ ⟨?_, ?_, ?_⟩
        · refine .lst (.of (by rw [hid_out nRZ]; exact upd_same)) ?_
          rw [List.map_set]
          refine Same.all (fun c o e => ?_) all
          obtain ⟨q1, q2⟩ := hid_get e
          rw [hid_out fun z => q2 (List.mem_cons_of_mem _ (List.mem_cons_of_mem _ z)), upd_ne fun z => q2 (by rw [z]; exact List.mem_cons_self ..)]
          exact q1
        · exact intD_of (.of (by rw [hid_out nEZ, upd_ne nER]; exact s2 _ _ N9.el))
        · rw [List.length_set]; omega
        · rw [List.length_set]; omega
        · intro r hr
          rw [List.length_set, l61]
          rcases List.mem_or_eq_of_mem_set hr with h | h
          · obtain ⟨q1, q2⟩ := w7 r h
            exact ⟨by omega, fun e he => Nat.lt_succ_of_lt (q2 e he)⟩
          · rw [h, List.length_map]
            refine ⟨by omega, fun e he => ?_⟩
            obtain ⟨e', he', rfl⟩ := List.mem_map.mp he
            have := rjt e' he'
            show (if e'.2 = k then rows.length else e'.2) < rows.length + 1
            by_cases c : e'.2 = k
            · rw [if_pos c]; omega
            · rw [if_neg c]; omega
    refine ⟨_, rfl, rfl, _, rfl, ite2 (fun c => absurd (of_decide_eq_true c) (by decide +kernel)) (fun _ => iteF ?_)⟩
    refine ⟨_, rfl, rfl, _, rfl, ite2 (fun c => absurd (of_decide_eq_true c) (by decide +kernel)) (fun _ => ?_)⟩
    refine ⟨_, rfl, rfl, _, rfl, ite2 (fun c => absurd (of_decide_eq_true c) (by decide +kernel)) (fun _ => iteF ?_)⟩
    refine ⟨_, rfl, rfl, _, rfl, ite2 (fun c => absurd (of_decide_eq_true c) (by decide +kernel)) (fun _ => ?_)⟩
    refine ⟨_, rfl, rfl, _, rfl, ite2 (fun _ => ?_) (fun c => absurd (decide_eq_true rfl) c)⟩
    refine ⟨_, rfl, .inl ⟨rfl, _, .of N6.rl⟩, _, rfl, _, rfl, RL, _, _, _, rfl, rfl, .of N6.rl, atk, rs[k], es, rfl, .inl (.of ge), fun pn npn => ?_⟩
    have N7 := N6.addRow hZ hRZ npn de
    rw [List.map_append] at N7
    refine ⟨RL, _, .ref pn, rfl, rfl, by rw [upd_ne (ne_of_none N6.rl npn)]; exact N6.rl, line60 (by rw [List.length_map]; omega), ?_⟩
    refine ⟨_, rfl, _, rfl, EL, _, rfl, .inl (.of N7.el), rfl, flat_ints _, ?_⟩
    rw [if_neg Bool.false_ne_true, inV_ints, nat_in]
    by_cases hin : k ∈ ends
    · rw [decide_eq_true hin]
      have N8 := N7.setEnds (ends' := ends ++ [rows.length]) hZ hRZ
      refine ⟨_, rfl, ?_⟩
      refine ⟨_, rfl, .inl ⟨rfl, _, .of N7.el⟩, _, rfl, RL, _, rfl, .inl (.of N7.rl), _, _, rfl, rfl, EL, _, _, rfl, rfl, N7.el, line60 (by rw [zs_len]; omega), ?_⟩
      have el : (((rs ++ [pn]).map V.ref).length : Int) - 1 = (rows.length : Int) := by rw [List.length_map, List.length_append, e2]; show ((rows.length + 1 : Nat) : Int) - 1 = _; omega
      have eq : (zs ends).map V.int ++ [V.int ((((rs ++ [pn]).map V.ref).length : Int) - 1)] = (zs (ends ++ [rows.length])).map V.int := by
        rw [el]
        unfold zs
        rw [List.map_append, List.map_append]
        rfl
      have N8' := rest pn _ _ N8
      rw [← eq] at N8'
      exact N8'
    · rw [decide_eq_false hin]
      exact ⟨_, rfl, rest pn _ _ N7⟩
  · -- nothing
    refine ⟨_, rfl, rfl, _, rfl, ite2 (fun c => absurd (of_decide_eq_true c) (by decide +kernel)) (fun _ => iteF ?_)⟩
    refine ⟨_, rfl, rfl, _, rfl, ite2 (fun c => absurd (of_decide_eq_true c) (by decide +kernel)) (fun _ => ?_)⟩
    refine ⟨_, rfl, rfl, _, rfl, ite2 (fun c => absurd (of_decide_eq_true c) (by decide +kernel)) (fun _ => iteF ?_)⟩
    refine ⟨_, rfl, rfl, _, rfl, ite2 (fun c => absurd (of_decide_eq_true c) (by decide +kernel)) (fun _ => ?_)⟩
    refine ⟨_, rfl, rfl, _, rfl, ite2 (fun c => absurd (of_decide_eq_true c) (by decide +kernel)) (fun _ => ?_)⟩
    exact fin _ _ _ _ _ _ _ _ H6 rows ends N6.but r6 dR6 dE6 wfA
end
end Sk

set_option Elab.async false
set_option linter.all false
set_option maxRecDepth 100000
set_option maxHeartbeats 4000000
/-! Skewer, the walk: _law_ascends, _law_row_outline. -/
namespace Sk
open PySem L2
theorem at2 {a b c : V} {r : List V} : atI (a :: b :: c :: r) 2 = some c := atI_nat (j := 2) rfl
theorem at3 {a b c d : V} {r : List V} : atI (a :: b :: c :: d :: r) 3 = some d := atI_nat (j := 3) rfl
def spAsc (K : PySem.W.Frag) : Sp := fun vs H Q _ => ∃ (Z : List Addr) (v : V) (ns : List Nat), vs = [v] ∧ Dp K (hid Z H) v (natD ns) ∧ ns.length ≤ 1000 ∧ ns.Pairwise (· < ·) ∧ ∀ H', Same H H' → Q (.bl true) H'
/-- what a promise says of a program's outline -/
def outD (p : Ps) : PyData := if p.spells = true then .tuple [.bool p.emp, natD p.first, natD p.last, pairsD p.pairs] else .none
structure OutAt (K : PySem.W.Frag) (H : Hp) (v : V) (p : Ps) : Prop where
  ex : (p.spells = true ∧ ∃ a v1 v2 v3, v = .ref a ∧ SqT K H a [.bl p.emp, v1, v2, v3] ∧ Dp K H v1 (natD p.first) ∧ Dp K H v2 (natD p.last) ∧ Dp K H v3 (pairsD p.pairs)) ∨ (p.spells = false ∧ v = .non)
theorem OutAt.up {K : PySem.W.Frag} {H H' : Hp} {v : V} {p : Ps} (h : OutAt K H v p) (e : Same H H') : OutAt K H' v p := by
  rcases h.ex with ⟨h1, a, v1, v2, v3, h2, h3, h4, h5, h6⟩ | h
  · exact ⟨.inl ⟨h1, a, v1, v2, v3, h2, seqT e h3, Same.dp e h4, Same.dp e h5, Same.dp e h6⟩⟩
  · exact ⟨.inr h⟩
/-- a new outline -/
theorem outAt_new {K : PySem.W.Frag} {Z : List Addr} {H : Hp} {t : Addr} {v1 v2 v3 : V} {p : Ps} (hZ : Dom Z H) (nt : H t = none) (hs : p.spells = true) (d1 : Dp K (hid Z H) v1 (natD p.first)) (d2 : Dp K (hid Z H) v2 (natD p.last)) (d3 : Dp K (hid Z H) v3 (pairsD p.pairs)) :
    OutAt K (hid Z (upd H t (.tup [.bl p.emp, v1, v2, v3]))) (.ref t) p :=
  ⟨.inl ⟨hs, t, v1, v2, v3, rfl, .of (new_at hZ nt), Same.dp (same_newZ nt) d1, Same.dp (same_newZ nt) d2, Same.dp (same_newZ nt) d3⟩⟩
/-- [(x, y) for y in f] -/
theorem row_read {K : PySem.W.Frag} {Z : List Addr} {H1 : Hp} {b : Addr} {f : List Nat} {x : Nat} {σ : L2.St} {Q : Addr → Hp → Prop} {j : Nat} {te : TE} (hZ : Dom Z H1) (hb : SqL K H1 b ((zs f).map V.int)) (hsz : f.length ≤ 1000)
    (hte : ∀ (y : Nat) (H : Hp) (N : VK), (∀ p, H p = none → N (.ref p) (upd H p (.tup [.int (x : Int), .int (y : Int)]))) → te ((wipe σ [j]).set j (some (.int (y : Int)))) H N)
    (q : ∀ (D : Addr) (H : Hp), Same H1 H → Dp K (hid Z H) (.ref D) (pairsD (f.map fun y => (x, y))) → Q D H) :
    ∀ D, H1 D = none → ∃ W : Nat → Nat → Hp → Prop, (∃ m, W 0 m (upd H1 D (.lst []))) ∧ ∀ i m H, W i m H →
      ((Itl K b).stop i H ∧ Q D H) ∨ ((Itl K b).go i H ∧ ∃ Nx : Hp → Prop, (∀ H', Nx H' → ∃ m', m' < m ∧ W (i + 1) m' H') ∧ ∀ x H', (Itl K b).yld i H x H' → gName j x (wipe σ [j]) H' fun σ2 H2 => wipe σ2 [j] = wipe σ [j] ∧ tYes σ2 H2 fun b H3 =>
        if b = true then te σ2 H3 fun y H4 => ∃ acc, H4 D = some (.lst acc) ∧ acc.length < sizeLine ∧ Nx (upd H4 D (.lst (acc ++ [y]))) else Nx H3) := by
  intro D nD
  refine lc_list (K := K) (a := b) (xs := (zs f).map V.int) (fun i H => GrowAt K Z D H1 H (((f.take i).map fun y => (x, y)).map pairD)) ?_ ?_ ?_ ?_
  · exact .start nD
  · intro i H _ g
    exact g.same.seq hb
  · intro i v H hi g
    obtain ⟨y, rfl, hy⟩ := natAt hi
    refine ⟨?_, ?_⟩
    · show (((σ.set j none).set j (some (.int (y : Int)))).set j none) = σ.set j none
      rw [List.set_set, List.set_set]
    · refine hte y H _ fun t nt => ?_
      have zD := g.dom hZ
      show putL D _ _ fun H' => GrowAt K Z D H1 H' (((f.take (i + 1)).map fun y => (x, y)).map pairD)
      refine (g.keep (same_new nt)).put (d := pairD (x, y)) nD (dp_newT zD nt (.cons (.int _) (.cons (.int _) .nil))) ?_ fun H' g' => ?_
      · refine line60 ?_
        rw [List.length_map, List.length_map, List.length_take]
        omega
      · rw [List.take_add_one, hy, List.map_append, List.map_append]
        exact g'
  · intro H g
    rw [zs_len, List.take_length] at g
    exact q D H g.same (g.done hZ nD)
theorem asc_pair {ns : List Nat} (h : ns.Pairwise (· < ·)) {i a b : Nat} (ha : ns[i]? = some a) (hb : ns[i + 1]? = some b) : a < b := by
  obtain ⟨h1, e1⟩ := List.getElem?_eq_some_iff.mp ha
  obtain ⟨h2, e2⟩ := List.getElem?_eq_some_iff.mp hb
  rw [← e1, ← e2]
  exact (List.pairwise_iff_getElem.mp h) i (i + 1) h1 h2 (Nat.lt_succ_self _)
section
variable {P : Program} {w : World} {K : PySem.W.Frag} {mg : Str → Option Value} {base : Heap} {f C : Addr} {fd : FuncData}
abbrev nAsc : List Str := ["_law_numbers_here", "_law_k"]
theorem scAsc : FnScope nAsc ["_law_numbers_here"] (defScope sAscends) := ⟨rfl, rfl, rfl, by decide +kernel, rfl, by decide +kernel, by decide +kernel⟩
theorem ok_ascends {n : Nat} (F : Fun K "_law_ascends" "_law_ascends" sAscends f fd) (T : Txt K mg) : FnOk P w K mg base CX0 (n + 1) f fd ["_law_numbers_here"] (spAsc K) := by
  refine F.ok scAsc (fun vs H Q E h => ?_) (fun cdv A outer s H vs Q E hr h => ?_)
  · obtain ⟨Z, v, ns, rfl, _⟩ := h
    rfl
  obtain ⟨Z, v, ns, rfl, hv, hl, ha, q⟩ := h
  refine ⟨_, pss_one (ps_ret (pe_callB (cr_all rfl) (by rfl) T.all (by decide +kernel) (pa_cons (pe_lc (own := [("_law_k", 1)]) (g := gName 1) (tt := tYes)
      (te := tLt (tOp (rIxL K) (tVar 0) (tOp (rI0 fun i j => .int (i - j)) (tVar 1) (tC (.int 1)))) (tOp (rIxL K) (tVar 0) (tVar 1))) (by rfl) scAsc.nd
      (pi_range2 (by rfl) T.range (pa_cons pe_int (pa_cons (pe_callB call_len_seq (by rfl) T.len PySem.boot_len (pa_cons (pv 0) pa_nil)) pa_nil)))
      (blkOk_by (N := nAsc) (sc := defScope sAscends) (by decide +kernel)) (fun _ _ _ _ _ => pg_name (i := 1) scAsc.nd rfl (Or.inl rfl)) (fun _ _ _ _ _ => pts_nil)
      (fun _ _ _ _ _ => pe_cmp (pc_lt (pe_ix ix_list (pv 0) (pe_op op_sub (pv 1) pe_int) (fun _ _ => rfl)) (pe_ix ix_list (pv 0) (pv 1) (fun _ _ => rfl))))) pa_nil))), ?_⟩
  obtain ⟨a, rfl, ga⟩ := natD_inv hv
  refine ⟨_, rfl, a, _, rfl, .inl (hid_le.seq ga), 1, _, rfl, ⟨by omega, by omega, by omega, by rw [zs_len]; omega⟩, fun D nD => ?_⟩
  refine lc_range (lo := 1) (n := (((zs ns).map V.int).length - (1 : Int)).toNat) (fun i H2 => Same H H2 ∧ H2 D = some (.lst ((List.replicate i true).map V.bl))) ?_ ?_ ?_
  · exact ⟨same_new nD, upd_same⟩
  · rintro i H2 hi ⟨s2, e2⟩
    rw [zs_len] at hi
    have h1 : ns[i]? = some ns[i] := List.getElem?_eq_getElem (by omega)
    have h2 : ns[i + 1]? = some ns[i + 1] := List.getElem?_eq_getElem (by omega)
    have at1' : ∀ {j : Nat} {y : Nat}, ns[j]? = some y → atI ((zs ns).map V.int) (j : Int) = some (.int (y : Int)) := fun {j y} h => atI_nat (by unfold zs; rw [List.getElem?_map, List.getElem?_map, h]; rfl)
    have g2 := (hid_le.trans s2).seq ga
    have e1 : (1 + (i : Int)) - 1 = (i : Int) := by omega
    have e3 : (1 + (i : Int)) = ((i + 1 : Nat) : Int) := by omega
    refine ⟨rfl, _, rfl, _, rfl, _, _, rfl, rfl, a, _, _, _, rfl, rfl, g2, by rw [e1]; exact at1' h1, _, rfl, _, rfl, a, _, _, _, rfl, rfl, g2, by rw [e3]; exact at1' h2, _, _, rfl, rfl, ?_⟩
    have lt := asc_pair ha h1 h2
    show ∃ acc, H2 D = some (.lst acc) ∧ acc.length < sizeLine ∧ (Same H (upd H2 D (.lst (acc ++ [V.bl (decide (((ns[i] : Nat) : Int) < ((ns[i + 1] : Nat) : Int)))]))) ∧ (upd H2 D (.lst (acc ++ [V.bl (decide (((ns[i] : Nat) : Int) < ((ns[i + 1] : Nat) : Int)))]))) D = some (.lst ((List.replicate (i + 1) true).map V.bl)))
    rw [show decide (((ns[i] : Nat) : Int) < ((ns[i + 1] : Nat) : Int)) = true from decide_eq_true (by omega)]
    refine ⟨_, e2, line60 (by rw [List.length_map, List.length_replicate]; omega), same_put s2 nD, ?_⟩
    rw [upd_same, List.replicate_succ', List.map_append]
    rfl
  · rintro H2 ⟨s2, e2⟩
    refine ⟨D, _, rfl, .of e2, ?_⟩
    have e : (List.replicate (((zs ns).map V.int).length - (1 : Int)).toNat true).all id = true := by simp
    rw [e]
    exact q _ s2
def spRowOut (K : PySem.W.Frag) : Sp := fun vs H Q _ => ∃ (Z : List Addr) (a : Addr) (xs : List V) (ps : List Ps), vs = [.ref a] ∧ Dom Z H ∧ SqL K (hid Z H) a xs ∧ All2 (OutAt K (hid Z H)) xs ps ∧ Few ps ∧
  ∀ H' v, Same H H' → OutAt K (hid Z H') v (inOrder ps) → Q v H'
abbrev nRowOut : List Str := ["_law_parts", "_law_part_here", "_law_empty", "_law_firsts", "_law_lasts", "_law_pairs", "_law_last", "_law_first"]
theorem scRowOut : FnScope nRowOut ["_law_parts"] (defScope sRowOut) := ⟨rfl, rfl, rfl, by decide +kernel, rfl, by decide +kernel, by decide +kernel⟩
theorem ok_rowOut {n : Nat} (F : Fun K "_law_row_outline" "_law_row_outline" sRowOut f fd) (T : Txt K mg) : FnOk P w K mg base CX0 (n + 1) f fd ["_law_parts"] (spRowOut K) := by
  refine F.ok scRowOut (fun vs H Q E h => ?_) (fun cdv A outer s H vs Q E hr h => ?_)
  · obtain ⟨Z, a, xs, ps, rfl, _⟩ := h
    rfl
  obtain ⟨Z, a, xs, ps, rfl, hZ, ha, hp, hB, q⟩ := h
  refine ⟨_, pss_cons (ps_if (pt_val (pe_callB (cr_any rfl) (by rfl) T.any (by decide +kernel) (pa_cons (pe_lc (own := [("_law_part_here", 1)]) (g := gName 1) (tt := tYes) (te := tIsN (tVar 1)) (by rfl) scRowOut.nd (pi_list (pv 0))
      (blkOk_by (N := nRowOut) (sc := defScope sRowOut) (by decide +kernel)) (fun _ _ _ _ _ => pg_name (i := 1) scRowOut.nd rfl (Or.inl rfl)) (fun _ _ _ _ _ => pts_nil) (fun _ _ _ _ _ => pe_cmp (pc_isN (pv 1)))) pa_nil))) (pss_one (ps_ret pe_non)) pss_nil)
    (pss_cons (ps_asg (pe_tup (pa_cons pe_bl (pa_cons (pe_lst pa_nil) (pa_cons (pe_lst pa_nil) (pa_cons (pe_lst pa_nil) pa_nil))))) (pg_tup rfl (pgs_cons (pg_name (i := 2) scRowOut.nd rfl (.inl rfl)) (pgs_cons (pg_name (i := 3) scRowOut.nd rfl (.inl rfl)) (pgs_cons (pg_name (i := 4) scRowOut.nd rfl (.inl rfl)) (pgs_cons (pg_name (i := 5) scRowOut.nd rfl (.inl rfl)) pgs_nil))))))
    (pss_cons (ps_for PassesOwn.never rfl (pi_list (pv 0)) (pg_name (i := 1) scRowOut.nd rfl (.inl rfl))
      (pss_cons (ps_set (i := 5) scRowOut.nd rfl (.inl rfl) (pe_op op_catL (pv 5) (pe_ix ix_tup (pv 1) pe_int (fun _ _ => rfl))))
      (pss_cons (ps_for PassesOwn.never rfl (pi_list (pv 4)) (pg_name (i := 6) scRowOut.nd rfl (.inr rfl))
        (pss_one (ps_set (i := 5) scRowOut.nd rfl (.inl rfl) (pe_op op_catL (pv 5) (pe_lc (own := [("_law_first", 7)]) (g := gName 7) (tt := tYes) (te := tTup (tCons (tVar 6) (tCons (tVar 7) tNil))) (by rfl) scRowOut.nd (pi_list (pe_ix ix_tup (pv 1) pe_int (fun _ _ => rfl)))
          (blkOk_by (N := nRowOut) (sc := defScope sRowOut) (by decide +kernel)) (fun _ _ _ _ _ => pg_name (i := 7) scRowOut.nd rfl (Or.inl rfl)) (fun _ _ _ _ _ => pts_nil) (fun _ _ _ _ _ => pe_tup (pa_cons (pv 6) (pa_cons (pv 7) pa_nil))))))))
      (pss_cons (ps_if (pt_val (pv 2)) (pss_one (ps_set (i := 3) scRowOut.nd rfl (.inl rfl) (pe_op op_catL (pv 3) (pe_ix ix_tup (pv 1) pe_int (fun _ _ => rfl))))) pss_nil)
      (pss_cons (ps_if (pt_val (pe_ix ix_tup (pv 1) pe_int (fun _ _ => rfl))) (pss_one (ps_set (i := 4) scRowOut.nd rfl (.inl rfl) (pe_op op_catL (pv 4) (pe_ix ix_tup (pv 1) pe_int (fun _ _ => rfl))))) (pss_one (ps_set (i := 4) scRowOut.nd rfl (.inl rfl) (pe_ix ix_tup (pv 1) pe_int (fun _ _ => rfl)))))
      (pss_one (ps_set (i := 2) scRowOut.nd rfl (.inl rfl) (pe_and (pv 2) (pe_one (pe_ix ix_tup (pv 1) pe_int (fun _ _ => rfl)))))))))))
    (pss_one (ps_ret (pe_tup (pa_cons (pv 2) (pa_cons (pv 3) (pa_cons (pv 4) (pa_cons (pv 5) pa_nil))))))))), ?_⟩
  have lp := hp.len
  refine ⟨_, rfl, a, rfl, ⟨xs, hid_le.seq ha⟩, fun D nD => ?_⟩
  refine bools_read (K := K) (ps.map fun p => !p.spells) (by rw [List.length_map]; exact lp) (hid_le.seq ha) nD (by rw [List.length_map]; have := hB.n; omega) ?_ ?_
  · intro i x b H' R hx hb s r
    obtain ⟨p, hp1, hp2⟩ := hp.get hx
    rw [List.getElem?_map, hp1] at hb
    obtain rfl : (!p.spells) = b := Option.some.inj hb
    refine ⟨_, rfl, ?_⟩
    rcases hp2.ex with ⟨h1, a, v1, v2, v3, rfl, _⟩ | ⟨h1, rfl⟩
    · rw [h1] at r
      exact r
    · rw [h1] at r
      exact r
  intro H1 s1 hD
  refine ⟨D, _, rfl, hD, _, rfl, ?_⟩
  rw [List.any_map]
  have z1 := hZ.same s1
  have e : (ps.any (id ∘ fun p => !p.spells)) = !(ps.all (·.spells)) := by rw [List.not_all_eq_any_not]; rfl
  rw [e]
  by_cases hsp : ps.all (·.spells) = true
  rotate_left
  · rw [Bool.eq_false_iff.mpr hsp]
    refine iteT ?_
    refine q H1 _ s1 ⟨.inr ⟨?_, rfl⟩⟩
    unfold inOrder
    rw [if_neg hsp]
    rfl
  rw [hsp]
  refine iteF ?_
  have eg : inOrder ps = ps.foldl catP start := by unfold inOrder; rw [if_pos hsp]
  rw [eg] at q
  refine ⟨(by show 0 ≤ sizeLine; decide), fun a1 na1 => ⟨(by show 0 ≤ sizeLine; decide), fun a2 na2 => ⟨(by show 0 ≤ sizeLine; decide), fun a3 na3 => ⟨(by show 4 ≤ sizeLine; decide), fun t nt => ?_⟩⟩⟩⟩
  have t1 := same_new (o := .lst []) na1
  have t2 := same_new (o := .lst []) na2
  have t3 := same_new (o := .lst []) na3
  have t4 := same_new (o := .tup [.bl true, .ref a1, .ref a2, .ref a3]) nt
  have y1 := z1.same t1
  have y2 := y1.same t2
  have s2 : Same H _ := s1.trans ((t1.trans t2).trans (t3.trans t4))
  refine ⟨t, _, rfl, .of upd_same, rfl, _, _, rfl, _, _, rfl, _, _, rfl, _, _, rfl, rfl, ?_⟩
  refine ⟨_, rfl, a, rfl, ⟨xs, (hid_le.trans s2).seq ha⟩, ?_⟩
  refine for_list (K := K) (a := a) (xs := xs) (fun i σ H2 => ∃ x1 v3 v4 v5 x6, σ = [some (.ref a), x1, some (.bl ((ps.take i).foldl catP start).emp), some v3, some v4, some v5, x6, none] ∧ Same H H2 ∧ Dp K (hid Z H2) v3 (natD ((ps.take i).foldl catP start).first) ∧ Dp K (hid Z H2) v4 (natD ((ps.take i).foldl catP start).last) ∧ Dp K (hid Z H2) v5 (pairsD ((ps.take i).foldl catP start).pairs)) ?_ ?_ ?_ ?_
  · exact ⟨none, .ref a1, .ref a2, .ref a3, none, rfl, s2, Same.dp (same_hid (t2.trans (t3.trans t4))) (dp_new z1 na1 .nil), Same.dp (same_hid (t3.trans t4)) (dp_new y1 na2 .nil), Same.dp (same_hid t4) (dp_new y2 na3 .nil)⟩
  · rintro i σ H2 _ ⟨_, _, _, _, _, _, s3, _⟩
    exact (hid_le.trans s3).seq ha
  · rintro i xv σ H2 hi ⟨x1, v3, v4, v5, x6, rfl, s3, e3, e4, e5⟩
    obtain ⟨p, hpi, hP⟩ := hp.get hi
    have mem : p ∈ ps := List.mem_of_getElem? hpi
    have hps : p.spells = true := (List.all_eq_true.mp hsp) p mem
    have hP := hP.up (same_hid s3)
    obtain ⟨b1, b2, b3⟩ := hB.fold i
    have c1 := Nat.le_trans (sumF_mem mem) hB.f
    have c2 := Nat.le_trans (sumL_mem mem) hB.l
    have c3 := Nat.le_trans (sumP_mem mem) hB.p
    rw [fold_succ hpi]
    generalize (ps.take i).foldl catP start = W at e3 e4 e5 b1 b2 b3
    rcases hP.ex with ⟨_, pa, p1, p2, p3, rfl, gS, hp1, hp2, hp3⟩ | ⟨h1, _⟩
    rotate_left
    · rw [hps] at h1; cases h1
    have zH := hZ.same s3
    -- pairs
    refine ⟨_, rfl, _, rfl, pa, _, _, _, rfl, rfl, seqT hid_le gS, at3, ?_⟩
    refine cat_read (B := True) zH e5 hp3 (by rw [List.length_map, List.length_map]; omega) fun c nc H3 s4 z3 d3 => ?_
    obtain ⟨la, hla, gla⟩ := intD_inv e4
    subst hla
    obtain ⟨fa, hfa, gfa⟩ := intD_inv hp1
    subst hfa
    have hmul : W.last.length * p.first.length ≤ 1000 * 1000 := Nat.mul_le_mul b2 c1
    refine ⟨_, rfl, la, rfl, ⟨_, (hid_le.trans s4).seq gla⟩, ?_⟩
    refine for_list (K := K) (a := la) (xs := (zs W.last).map V.int) (fun j σ H4 => ∃ v5 x6, σ = [some (.ref a), some (.ref pa), some (.bl W.emp), some v3, some (.ref la), some v5, x6, none] ∧ Same H3 H4 ∧ Dp K (hid Z H4) v5 (pairsD (W.pairs ++ p.pairs ++ cross (W.last.take j) p.first))) ?_ ?_ ?_ ?_
    · refine ⟨.ref c, x6, rfl, Same.refl _, ?_⟩
      rw [show cross (W.last.take 0) p.first = [] by rw [List.take_zero]; rfl, List.append_nil, pairsD_app]
      exact d3
    · rintro j σ H4 _ ⟨_, _, _, s5, _⟩
      exact (hid_le.trans (s4.trans s5)).seq gla
    · rintro j yv σ H4 hj ⟨v5', x6', rfl, s5, d5⟩
      obtain ⟨y, rfl, hy⟩ := natAt hj
      have s45 := s4.trans s5
      have z4 := z3.same s5
      refine ⟨_, rfl, _, rfl, pa, _, _, _, rfl, rfl, seqT (hid_le.trans s45) gS, at1, fa, rfl, ⟨_, (hid_le.trans s45).seq gfa⟩, ?_⟩
      refine row_read (K := K) (Z := Z) (x := y) (f := p.first) (j := 7) z4 ((hid_le.trans s45).seq gfa) c1 ?_ ?_
      · intro y' H' N r
        exact ⟨_, rfl, _, rfl, (by show 2 ≤ sizeLine; decide), r⟩
      intro D' H5 s6 d6
      have lj : (cross (W.last.take j) p.first).length ≤ 1000 * 1000 := by
        rw [cross_len]
        exact Nat.le_trans (Nat.mul_le_mul (by rw [List.length_take]; omega) c1) (Nat.le_refl _)
      refine cat_read (B := True) (z4.same s6) (Same.dp (same_hid s6) d5) d6 (by rw [List.length_map, List.length_append, List.length_append, List.length_map, List.length_map]; omega) fun c' nc' H6 s7 z6 d7 => ?_
      refine ⟨.ref c', some (.int (y : Int)), rfl, s5.trans (s6.trans s7), ?_⟩
      rw [cross_succ hy, ← List.append_assoc, pairsD_app]
      exact d7
    rintro σ H5 ⟨v5', x6', rfl, s5, d5⟩
    rw [zs_len, List.take_length] at d5
    have s35 := s4.trans s5
    have z5 := z3.same s5
    have dP : Dp K (hid Z H5) v5' (pairsD (catP W p).pairs) := d5
    have eF : (catP W p).first = if W.emp then W.first ++ p.first else W.first := rfl
    have eL : (catP W p).last = if p.emp then W.last ++ p.last else p.last := rfl
    have eE : (catP W p).emp = (W.emp && p.emp) := rfl
    cases hwe : W.emp with
    | true =>
      refine ⟨_, rfl, _, rfl, iteT ?_⟩
      refine ⟨_, rfl, _, rfl, pa, _, _, _, rfl, rfl, seqT (hid_le.trans s35) gS, at1, ?_⟩
      refine cat_read (B := True) z5 (Same.dp (same_hid s35) e3) (Same.dp (same_hid s35) hp1) (by simp only [zs, List.length_map]; omega) fun c3 nc3 H6 s6 z6 d6 => ?_
      have s36 := s35.trans s6
      have d6 : Dp K (hid Z H6) (.ref c3) (natD (catP W p).first) := by
        rw [eF, hwe, if_pos rfl, natD_app]
        exact d6
      cases hpe : p.emp with
      | true =>
        rw [hpe] at gS
        refine ⟨_, rfl, pa, _, _, _, rfl, rfl, seqT (hid_le.trans s36) gS, at0, _, rfl, iteT ?_⟩
        refine ⟨_, rfl, _, rfl, pa, _, _, _, rfl, rfl, seqT (hid_le.trans s36) gS, at2, ?_⟩
        refine cat_read (B := True) z6 (Same.dp (same_hid s36) e4) (Same.dp (same_hid s36) hp2) (by simp only [zs, List.length_map]; omega) fun c4 nc4 H7 s7 z7 d7 => ?_
        have s37 := s36.trans s7
        refine ⟨_, rfl, _, rfl, iteT ⟨_, rfl, pa, _, _, _, rfl, rfl, seqT (hid_le.trans s37) gS, at0, ?_⟩⟩
        refine ⟨some (.ref pa), .ref c3, .ref c4, v5', x6', by rw [eE, hwe, hpe]; rfl, s3.trans s37, Same.dp (same_hid s7) d6, ?_, Same.dp (same_hid (s6.trans s7)) dP⟩
        rw [eL, hpe, if_pos rfl, natD_app]
        exact d7
      | false =>
        rw [hpe] at gS
        refine ⟨_, rfl, pa, _, _, _, rfl, rfl, seqT (hid_le.trans s36) gS, at0, _, rfl, iteF ?_⟩
        refine ⟨_, rfl, pa, _, _, _, rfl, rfl, seqT (hid_le.trans s36) gS, at2, ?_⟩
        refine ⟨_, rfl, _, rfl, iteT ⟨_, rfl, pa, _, _, _, rfl, rfl, seqT (hid_le.trans s36) gS, at0, ?_⟩⟩
        refine ⟨some (.ref pa), .ref c3, p2, v5', x6', by rw [eE, hwe, hpe]; rfl, s3.trans s36, d6, ?_, Same.dp (same_hid s6) dP⟩
        rw [eL, hpe]
        exact Same.dp (same_hid s36) hp2
    | false =>
      refine ⟨_, rfl, _, rfl, iteF ?_⟩
      have d6 : Dp K (hid Z H5) v3 (natD (catP W p).first) := by
        rw [eF, hwe]
        exact Same.dp (same_hid s35) e3
      cases hpe : p.emp with
      | true =>
        rw [hpe] at gS
        refine ⟨_, rfl, pa, _, _, _, rfl, rfl, seqT (hid_le.trans s35) gS, at0, _, rfl, iteT ?_⟩
        refine ⟨_, rfl, _, rfl, pa, _, _, _, rfl, rfl, seqT (hid_le.trans s35) gS, at2, ?_⟩
        refine cat_read (B := True) z5 (Same.dp (same_hid s35) e4) (Same.dp (same_hid s35) hp2) (by simp only [zs, List.length_map]; omega) fun c4 nc4 H7 s7 z7 d7 => ?_
        have s37 := s35.trans s7
        refine ⟨_, rfl, _, rfl, iteF ?_⟩
        refine ⟨some (.ref pa), v3, .ref c4, v5', x6', by rw [eE, hwe, hpe]; rfl, s3.trans s37, Same.dp (same_hid s7) d6, ?_, Same.dp (same_hid s7) dP⟩
        rw [eL, hpe, if_pos rfl, natD_app]
        exact d7
      | false =>
        rw [hpe] at gS
        refine ⟨_, rfl, pa, _, _, _, rfl, rfl, seqT (hid_le.trans s35) gS, at0, _, rfl, iteF ?_⟩
        refine ⟨_, rfl, pa, _, _, _, rfl, rfl, seqT (hid_le.trans s35) gS, at2, ?_⟩
        refine ⟨_, rfl, _, rfl, iteF ?_⟩
        refine ⟨some (.ref pa), v3, p2, v5', x6', by rw [eE, hwe, hpe]; rfl, s3.trans s35, d6, ?_, dP⟩
        rw [eL, hpe]
        exact Same.dp (same_hid s35) hp2
  · rintro σ H2 ⟨x1, v3, v4, v5, x6, rfl, s3, e3, e4, e5⟩
    rw [lp, List.take_length] at e3 e4 e5 ⊢
    have z3 := hZ.same s3
    refine ⟨_, rfl, _, rfl, _, rfl, _, rfl, (by show 4 ≤ sizeLine; decide), fun t nt => ?_⟩
    exact q _ _ (s3.trans (same_new nt)) (outAt_new z3 nt (spells_fold ps start rfl) e3 e4 e5)
end
end Sk

set_option Elab.async false
set_option linter.all false
set_option maxRecDepth 100000
set_option maxHeartbeats 4000000
/-! Skewer, the walk: _law_outline. -/
namespace Sk
open PySem L2
theorem depthAll_le {n : Nat} : ∀ xs : List PyData, (∀ d ∈ xs, d.depth ≤ n) → PyData.depthAll xs ≤ n
  | [], _ => Nat.zero_le _
  | d :: ds, h => by
    have h1 := h d (List.mem_cons_self ..)
    have h2 := depthAll_le ds fun e he => h e (List.mem_cons_of_mem _ he)
    simp only [PyData.depthAll]
    omega
theorem pairsD_lay (ps : List (Nat × Nat)) : (pairsD ps).canLay0 = true := by unfold pairsD; simp only [PyData.canLay0]; exact lay_map _ pairD_lay ps
theorem pairsD_depth (ps : List (Nat × Nat)) : (pairsD ps).depth ≤ 2 := by
  unfold pairsD
  have := depth_map pairD 1 pairD_depth ps
  simp only [PyData.depth]
  omega
theorem outD_lay (p : Ps) : (outD p).canLay0 = true := by
  unfold outD
  split
  · have h1 := intD_lay (zs p.first)
    have h2 := intD_lay (zs p.last)
    have h3 := pairsD_lay p.pairs
    simp only [PyData.canLay0, PyData.canLayAll0]
    unfold natD
    rw [h1, h2, h3]
    rfl
  · rfl
theorem outD_depth (p : Ps) : (outD p).depth ≤ 3 := by
  unfold outD
  split
  · have h1 := intD_depth (zs p.first)
    have h2 := intD_depth (zs p.last)
    have h3 := pairsD_depth p.pairs
    simp only [PyData.depth, PyData.depthAll]
    unfold natD
    omega
  · exact Nat.zero_le _
theorem OutAt.dp {K : PySem.W.Frag} {H : Hp} {v : V} {p : Ps} (h : OutAt K H v p) : Dp K H v (outD p) := by
  unfold outD
  rcases h.ex with ⟨h1, a, v1, v2, v3, rfl, h3, h4, h5, h6⟩ | ⟨h1, rfl⟩
  · rw [if_pos h1]
    exact .tup h3 (.cons (.bl _) (.cons h4 (.cons h5 (.cons h6 .nil))))
  · rw [if_neg (by rw [h1]; exact Bool.false_ne_true)]
    exact .non
theorem outs_dp {K : PySem.W.Frag} {H : Hp} : ∀ {vs : List V} {ps : List Ps}, All2 (OutAt K H) vs ps → DpAll K H vs (ps.map outD)
  | _, _, .nil => .nil
  | _, _, .cons h r => .cons h.dp (outs_dp r)
theorem outs_shaped (ps : List Ps) : SeqAt.shaped (.list (ps.map outD)) = true := shaped_of (by simp only [PyData.canLay0]; exact lay_map _ outD_lay ps) (by
  have := depth_map outD 3 outD_depth ps
  simp only [PyData.depth]
  omega)
theorem eqv_nil (ds : List PyData) : PyData.eqv (.list ds) (.list []) = ds.isEmpty := by
  cases ds with
  | nil => simp [PyData.eqv, PyData.eqvAll]
  | cons d r => simp [PyData.eqv, PyData.eqvAll]
/-! ### parts that spell none -/
theorem places_no {α : Type} (p : Pg α) (b : Nat) (h : (places p b).spells = false) : places p b = nothing := by
  cases p with
  | st a => simp [places] at h
  | rest => simp [places, start] at h
  | any p => simp [places] at h
  | row ps =>
    simp only [places] at h ⊢
    unfold inOrder at h ⊢
    split
    · rename_i c
      rw [if_pos c, spells_fold (placesL ps b) start rfl] at h
      cases h
    · rfl
  | alt ps =>
    simp only [places] at h ⊢
    unfold oneOf at h ⊢
    split
    · rename_i c
      rw [if_pos c] at h
      cases h
    · rfl
theorem placesL_no {α : Type} : ∀ (ps : List (Pg α)) (b : Nat), ∀ q ∈ placesL ps b, q.spells = false → q = nothing
  | [], b, q, h, _ => by simp [placesL] at h
  | p :: ps, b, q, h, e => by
    simp only [placesL, List.mem_cons] at h
    rcases h with rfl | h
    · exact places_no p b e
    · exact placesL_no ps _ q h e
theorem alt_filter : ∀ ps : List Ps, (∀ q ∈ ps, q.spells = false → q = nothing) → altP (ps.filter (·.spells)) = altP ps
  | [], _ => rfl
  | p :: ps, h => by
    have ih := alt_filter ps fun q hq => h q (List.mem_cons_of_mem _ hq)
    unfold altP at ih ⊢
    injection ih with i1 i2 i3 i4 i5
    cases e : p.spells with
    | true =>
      rw [List.filter_cons_of_pos (by simpa using e)]
      simp only [List.flatMap_cons, List.any_cons, i1, i2, i3, i4]
    | false =>
      rw [List.filter_cons_of_neg (by simp [e])]
      have z := h p (List.mem_cons_self ..) e
      subst z
      simp only [List.flatMap_cons, List.any_cons, i1, i2, i3, i4]
      rfl
theorem filter_any (ps : List Ps) : (ps.filter (·.spells)).isEmpty = !(ps.any (·.spells)) := by
  induction ps with
  | nil => rfl
  | cons p ps ih =>
    cases e : p.spells with
    | true => rw [List.filter_cons_of_pos (by simpa using e), List.any_cons, e]; rfl
    | false => rw [List.filter_cons_of_neg (by simp [e]), List.any_cons, e, ih]; rfl
theorem oneOf_eq {ps : List Ps} (h : ∀ q ∈ ps, q.spells = false → q = nothing) : oneOf ps = if (ps.filter (·.spells)).isEmpty = true then nothing else altP (ps.filter (·.spells)) := by
  rw [alt_filter ps h, filter_any]
  unfold oneOf
  cases ps.any (·.spells) <;> rfl
theorem filter_take {ps : List Ps} {i : Nat} {p : Ps} (h : ps[i]? = some p) : (ps.take (i + 1)).filter (·.spells) = (ps.take i).filter (·.spells) ++ if p.spells = true then [p] else [] := by
  rw [List.take_add_one, h, List.filter_append]
  cases e : p.spells <;> simp [e]
theorem few_filter (f : Ps → Bool) {ps : List Ps} (h : Few ps) : Few (ps.filter f) := by
  have key : ∀ ps : List Ps, sumF (ps.filter f) ≤ sumF ps ∧ sumL (ps.filter f) ≤ sumL ps ∧ sumP (ps.filter f) ≤ sumP ps := fun ps => by
    induction ps with
    | nil => exact ⟨Nat.le_refl _, Nat.le_refl _, Nat.le_refl _⟩
    | cons p ps ih =>
      obtain ⟨h1, h2, h3⟩ := ih
      cases e : f p with
      | true => rw [List.filter_cons_of_pos e]; simp only [sumF, sumL, sumP]; omega
      | false => rw [List.filter_cons_of_neg (by simp [e])]; simp only [sumF, sumL, sumP]; omega
  obtain ⟨h1, h2, h3⟩ := key ps
  exact ⟨Nat.le_trans h1 h.f, Nat.le_trans h2 h.l, Nat.le_trans h3 h.p, Nat.le_trans (List.length_filter_le ..) h.n⟩
def spOutline (K : PySem.W.Frag) (n : Nat) : Sp := fun vs H Q _ => ∃ (Z : List Addr) (v : V) (b : Nat) (p : Prog), vs = [v, .int ((b + 1 : Nat) : Int)] ∧ Dom Z H ∧ Dp K (hid Z H) v (progD p) ∧ depthP p ≤ n ∧ nodesP p ≤ 60 ∧
  ∀ H' r, Same H H' → OutAt K (hid Z H') r (places p b) → Q r H'
section
variable {P : Program} {w : World} {K : PySem.W.Frag} {mg : Str → Option Value} {base : Heap} {f C : Addr} {fd : FuncData}
abbrev nOut : List Str := ["_law_program", "_law_place", "_law_kind", "_law_inner", "_law_pairs", "_law_last", "_law_parts", "_law_part_here", "_law_found", "_law_whole", "_law_first"]
theorem scOut : FnScope nOut ["_law_program", "_law_place"] (defScope sOutline) := ⟨rfl, rfl, rfl, by decide +kernel, rfl, by decide +kernel, by decide +kernel⟩
theorem ok_outline {j n : Nat} (F : Fun K "_law_outline" "_law_outline" sOutline f fd) (T : Txt K mg)
    (CS : Callee P w K mg base j "_law_steps" ["_law_program"] (spSteps K n)) (CR : Callee P w K mg base j "_law_row_outline" ["_law_parts"] (spRowOut K))
    (CO : Callee P w K mg base j "_law_outline" ["_law_program", "_law_place"] (spOutline K n)) : FnOk P w K mg base CX0 (j + 1) f fd ["_law_program", "_law_place"] (spOutline K (n + 1)) := by
  refine F.ok scOut (fun vs H Q E h => ?_) (fun cdv A outer s H vs Q E hr h => ?_)
  · obtain ⟨Z, v, b, p, rfl, _⟩ := h
    rfl
  obtain ⟨Z, v, b, p, rfl, hZ, hp, hd, hn, q⟩ := h
  refine ⟨_, pss_cons (ps_set (i := 2) scOut.nd rfl (.inl rfl) (pe_ix ix_tup (pv 0) pe_int (fun _ _ => rfl)))
    (pss_cons (ps_if (pt_cmpR op_eq (pv 2) pe_str (nomark _)) (pss_one (ps_ret (pe_tup (pa_cons pe_bl (pa_cons (pe_lst pa_nil) (pa_cons (pe_lst pa_nil) (pa_cons (pe_lst pa_nil) pa_nil))))))) pss_nil)
    (pss_cons (ps_if (pt_cmpR op_eq (pv 2) pe_str (nomark _))
      (pss_cons (ps_set (i := 3) scOut.nd rfl (.inl rfl) (pe_cal CO hr (by rfl) (pa_cons (pe_ix ix_tup (pv 0) pe_int (fun _ _ => rfl)) (pa_cons (pv 1) pa_nil))))
      (pss_cons (ps_if (pt_cmp (pc_isN (pv 3))) (pss_one (ps_ret (pe_tup (pa_cons pe_bl (pa_cons (pe_lst pa_nil) (pa_cons (pe_lst pa_nil) (pa_cons (pe_lst pa_nil) pa_nil))))))) pss_nil)
      (pss_cons (ps_set (i := 4) scOut.nd rfl (.inl rfl) (pe_callTy call_list_of (by rfl) T.list (by decide +kernel) (pa_cons (pe_ix ix_tup (pv 3) pe_int (fun _ _ => rfl)) pa_nil)))
      (pss_cons (ps_for PassesOwn.never rfl (pi_list (pe_ix ix_tup (pv 3) pe_int (fun _ _ => rfl))) (pg_name (i := 5) scOut.nd rfl (.inr rfl))
        (pss_one (ps_set (i := 4) scOut.nd rfl (.inl rfl) (pe_op op_catL (pv 4) (pe_lc (own := [("_law_first", 10)]) (g := gName 10) (tt := tYes) (te := tTup (tCons (tVar 5) (tCons (tVar 10) tNil))) (by rfl) scOut.nd (pi_list (pe_ix ix_tup (pv 3) pe_int (fun _ _ => rfl)))
          (blkOk_by (N := nOut) (sc := defScope sOutline) (by decide +kernel)) (fun _ _ _ _ _ => pg_name (i := 10) scOut.nd rfl (Or.inl rfl)) (fun _ _ _ _ _ => pts_nil) (fun _ _ _ _ _ => pe_tup (pa_cons (pv 5) (pa_cons (pv 10) pa_nil))))))))
      (pss_one (ps_ret (pe_tup (pa_cons pe_bl (pa_cons (pe_ix ix_tup (pv 3) pe_int (fun _ _ => rfl)) (pa_cons (pe_ix ix_tup (pv 3) pe_int (fun _ _ => rfl)) (pa_cons (pv 4) pa_nil)))))))))))
      pss_nil)
    (pss_cons (ps_if (pt_cmpR op_notIn_seq (pv 2) (pe_lst (pa_cons pe_str (pa_cons pe_str pa_nil))) (by rfl)) (pss_one (ps_ret (pe_tup (pa_cons pe_bl (pa_cons (pe_lst (pa_cons (pv 1) pa_nil)) (pa_cons (pe_lst (pa_cons (pv 1) pa_nil)) (pa_cons (pe_lst pa_nil) pa_nil))))))) pss_nil)
    (pss_cons (ps_set (i := 6) scOut.nd rfl (.inl rfl) (pe_lst pa_nil))
    (pss_cons (ps_for PassesOwn.never rfl (pi_list (pe_ix ix_tup (pv 0) pe_int (fun _ _ => rfl))) (pg_name (i := 7) scOut.nd rfl (.inl rfl))
      (pss_cons (ps_expr (pe_bm PySem.F.plainAttrs_list PySem.F.slot_list_append PySem.F.type_list_append mt_append (pv 6) (pa_cons (pe_cal CO hr (by rfl) (pa_cons (pv 7) (pa_cons (pv 1) pa_nil))) pa_nil)))
      (pss_one (ps_set (i := 1) scOut.nd rfl (.inl rfl) (pe_op op_add (pv 1) (pe_callB call_len_seq (by rfl) T.len PySem.boot_len (pa_cons (pe_cal CS hr (by rfl) (pa_cons (pv 7) pa_nil)) pa_nil)))))))
    (pss_cons (ps_if (pt_cmpR op_eq (pv 2) pe_str (nomark _)) (pss_one (ps_ret (pe_cal CR hr (by rfl) (pa_cons (pv 6) pa_nil)))) pss_nil)
    (pss_cons (ps_setLc (i := 8) (own := [("_law_part_here", 7)]) (g := gName 7) (tt := tB (tNotN (tVar 7))) (te := tVar 7) (by rfl) scOut.nd rfl rfl (sw_true rfl rfl rfl (by decide +kernel)) (pi_list (pv 6))
      (blkOk_by (N := nOut) (sc := defScope sOutline) (by decide +kernel)) (fun _ _ _ _ _ => pg_name (i := 7) scOut.nd rfl (Or.inl rfl)) (fun _ _ _ _ _ => pts_one (pt_cmp (pc_notN (pv 7)))) (fun _ _ _ _ _ => pv 7))
    (pss_cons (ps_if (pt_cmpR (op_eqD hr.units) (pv 8) (pe_lst pa_nil) (nomark _)) (pss_one (ps_ret pe_non)) pss_nil)
    (pss_cons (ps_set (i := 9) scOut.nd rfl (.inl rfl) (pe_tup (pa_cons (pe_callB (cr_any rfl) (by rfl) T.any (by decide +kernel) (pa_cons (pe_lc (own := [("_law_part_here", 7)]) (g := gName 7) (tt := tYes) (te := tOp (rIxT K) (tVar 7) (tC (.int 0))) (by rfl) scOut.nd (pi_list (pv 8))
      (blkOk_by (N := nOut) (sc := defScope sOutline) (by decide +kernel)) (fun _ _ _ _ _ => pg_name (i := 7) scOut.nd rfl (Or.inl rfl)) (fun _ _ _ _ _ => pts_nil) (fun _ _ _ _ _ => pe_ix ix_tup (pv 7) pe_int (fun _ _ => rfl))) pa_nil))
      (pa_cons (pe_lst pa_nil) (pa_cons (pe_lst pa_nil) (pa_cons (pe_lst pa_nil) pa_nil))))))
    (pss_cons (ps_for PassesOwn.never rfl (pi_list (pv 8)) (pg_name (i := 7) scOut.nd rfl (.inl rfl))
      (pss_one (ps_set (i := 9) scOut.nd rfl (.inl rfl) (pe_tup (pa_cons (pe_ix ix_tup (pv 9) pe_int (fun _ _ => rfl))
        (pa_cons (pe_op op_catL (pe_ix ix_tup (pv 9) pe_int (fun _ _ => rfl)) (pe_ix ix_tup (pv 7) pe_int (fun _ _ => rfl)))
        (pa_cons (pe_op op_catL (pe_ix ix_tup (pv 9) pe_int (fun _ _ => rfl)) (pe_ix ix_tup (pv 7) pe_int (fun _ _ => rfl)))
        (pa_cons (pe_op op_catL (pe_ix ix_tup (pv 9) pe_int (fun _ _ => rfl)) (pe_ix ix_tup (pv 7) pe_int (fun _ _ => rfl))) pa_nil))))))))
    (pss_one (ps_ret (pv 9))))))))))))), ?_⟩
  have nil4 : ∀ {H1 : Hp} {e : Bool} {N : VK}, Same H H1 → (∀ H' r, Same H1 H' → OutAt K (hid Z H') r ⟨[], [], e, [], true⟩ → N r H') → (tTup (tCons (tC (.bl e)) (tCons (tLst tNil) (tCons (tLst tNil) (tCons (tLst tNil) tNil))))) [] H1 N := by
    intro H1 e N s1 k
    have z1 := hZ.same s1
    refine ⟨(by show 0 ≤ sizeLine; decide), fun a1 na1 => ⟨(by show 0 ≤ sizeLine; decide), fun a2 na2 => ⟨(by show 0 ≤ sizeLine; decide), fun a3 na3 => ⟨(by show 4 ≤ sizeLine; decide), fun t nt => ?_⟩⟩⟩⟩
    have t1 := same_new (o := .lst []) na1
    have t2 := same_new (o := .lst []) na2
    have t3 := same_new (o := .lst []) na3
    have y1 := z1.same t1
    have y2 := y1.same t2
    have y3 := y2.same t3
    refine k _ _ ((t1.trans t2).trans (t3.trans (same_new nt))) ?_
    exact outAt_new (p := ⟨[], [], e, [], true⟩) y3 nt rfl (Same.dp (same_hid (t2.trans t3)) (dp_new z1 na1 .nil)) (Same.dp (same_hid t3) (dp_new y1 na2 .nil)) (dp_new y2 na3 .nil)
  rcases prog_cases hp with ⟨st, a, rfl, rfl, hS⟩ | ⟨a, rfl, rfl, hS⟩ | ⟨p', a, x, rfl, rfl, hS, hx⟩ | ⟨kn, ps, a, l, xs, M⟩
  · -- a step
    have ne : ∀ x : Str, x ∉ stepNames → ¬ V.str st.nm = V.str x := fun x hx e => hx (by rw [← V.str.inj e]; exact st.ok)
    refine ⟨_, rfl, a, _, _, _, rfl, rfl, seqT hid_le hS, at0, ?_⟩
    refine ⟨_, rfl, rfl, _, rfl, ite2 (fun c => absurd (of_decide_eq_true c) (ne _ (by decide +kernel))) (fun _ => ?_)⟩
    refine ⟨_, rfl, rfl, _, rfl, ite2 (fun c => absurd (of_decide_eq_true c) (ne _ (by decide +kernel))) (fun _ => ?_)⟩
    refine ⟨_, rfl, (by show 2 ≤ sizeLine; decide), fun t nt => ?_⟩
    have s1 := same_new (o := .lst [.str "row", .str "either"]) nt
    have eIn : inV (V.str st.nm) [V.str "row", V.str "either"] = false := (inV_strs st.nm ["row", "either"]).trans (decide_eq_false fun z => by
      have := st.ok
      rcases List.mem_cons.mp z with e | z
      · rw [e] at this; exact absurd this (by decide +kernel)
      · rw [List.mem_singleton.mp z] at this; exact absurd this (by decide +kernel))
    refine ⟨t, _, rfl, .inl (.of upd_same), rfl, rfl, _, rfl, ite2 (fun _ => ?_) (fun c => absurd (by rw [if_pos rfl, eIn]; rfl) c)⟩
    refine ⟨_, rfl, (by show 1 ≤ sizeLine; decide), fun a1 na1 => ⟨_, rfl, (by show 1 ≤ sizeLine; decide), fun a2 na2 => ⟨(by show 0 ≤ sizeLine; decide), fun a3 na3 => ⟨(by show 4 ≤ sizeLine; decide), fun t nt => ?_⟩⟩⟩⟩
    have z1 := hZ.same s1
    have t1 := same_new (o := .lst [.int ((b + 1 : Nat) : Int)]) na1
    have t2 := same_new (o := .lst [.int ((b + 1 : Nat) : Int)]) na2
    have t3 := same_new (o := .lst []) na3
    have y1 := z1.same t1
    have y2 := y1.same t2
    have y3 := y2.same t3
    refine q _ _ (s1.trans ((t1.trans t2).trans (t3.trans (same_new nt)))) ?_
    simp only [places]
    exact outAt_new (p := ⟨[b + 1], [b + 1], false, [], true⟩) y3 nt rfl (Same.dp (same_hid (t2.trans t3)) (dp_new z1 na1 (.cons (.int _) .nil))) (Same.dp (same_hid t3) (dp_new y1 na2 (.cons (.int _) .nil))) (dp_new y2 na3 .nil)
  · -- rest
    refine ⟨_, rfl, a, _, _, _, rfl, rfl, seqT hid_le hS, at0, ?_⟩
    refine ⟨_, rfl, rfl, _, rfl, ite2 (fun _ => ?_) (fun c => absurd (decide_eq_true rfl) c)⟩
    refine nil4 (Same.refl _) fun H' r s' hr' => q H' r s' ?_
    simp only [places]
    exact hr'
  · -- any
    simp only [depthP] at hd
    simp only [nodesP] at hn
    refine ⟨_, rfl, a, _, _, _, rfl, rfl, seqT hid_le hS, at0, ?_⟩
    refine ⟨_, rfl, rfl, _, rfl, ite2 (fun c => absurd (of_decide_eq_true c) (by decide +kernel)) (fun _ => ?_)⟩
    refine ⟨_, rfl, rfl, _, rfl, ite2 (fun _ => ?_) (fun c => absurd (decide_eq_true rfl) c)⟩
    refine ⟨_, rfl, a, _, _, _, rfl, rfl, seqT hid_le hS, at1, _, rfl, ?_⟩
    refine ⟨Z, x, b, p', rfl, hZ, hx, by omega, by omega, fun H1 r s1 hr1 => ?_⟩
    have z1 := hZ.same s1
    obtain ⟨c1, c2, c3⟩ := places_size p' b
    have c4 := steps_le p'
    have c5 : (stepsP p').length * (stepsP p').length ≤ 60 * 60 := Nat.mul_le_mul (by omega) (by omega)
    have c6 : nodesP p' * ((stepsP p').length * (stepsP p').length) ≤ 60 * (60 * 60) := Nat.mul_le_mul (by omega) c5
    have c7 : (places p' b).last.length * (places p' b).first.length ≤ 60 * 60 := Nat.mul_le_mul (by omega) (by omega)
    rcases hr1.ex with ⟨h1, pa, p1, p2, p3, rfl, gS, hp1, hp2, hp3⟩ | ⟨h1, rfl⟩
    rotate_left
    · refine ⟨_, rfl, _, rfl, ite2 (fun _ => ?_) (fun c => absurd rfl c)⟩
      refine nil4 s1 fun H' r s' hr' => q H' r (s1.trans s') ?_
      simp only [places]
      rw [places_no p' b h1]
      exact hr'
    refine ⟨_, rfl, _, rfl, ite2 (fun c => absurd (show false = true from c) Bool.false_ne_true) (fun _ => ?_)⟩
    obtain ⟨ia, ixs, rfl, gia, hia⟩ := list_inv hp3
    refine ⟨_, rfl, pa, _, _, _, rfl, rfl, seqT hid_le gS, at3, ia, ixs, rfl, .inl (hid_le.seq gia), fun cp ncp => ?_⟩
    have u1 := same_new (o := .lst ixs) ncp
    have dcp : Dp K (hid Z (upd H1 cp (.lst ixs))) (.ref cp) (pairsD (places p' b).pairs) := dp_new z1 ncp hia
    have z2 := z1.same u1
    generalize upd H1 cp (.lst ixs) = H2 at u1 dcp z2
    obtain ⟨la, rfl, gla⟩ := intD_inv hp2
    obtain ⟨fa, rfl, gfa⟩ := intD_inv hp1
    refine ⟨_, rfl, pa, _, _, _, rfl, rfl, seqT (hid_le.trans u1) gS, at2, la, rfl, ⟨_, (hid_le.trans u1).seq gla⟩, ?_⟩
    refine for_list (K := K) (a := la) (xs := (zs (places p' b).last).map V.int) (fun j σ H4 => ∃ v4 x5, σ = [some (.ref a), some (.int ((b + 1 : Nat) : Int)), some (.str "any"), some (.ref pa), some v4, x5, none, none, none, none, none] ∧ Same H2 H4 ∧ Dp K (hid Z H4) v4 (pairsD ((places p' b).pairs ++ cross ((places p' b).last.take j) (places p' b).first))) ?_ ?_ ?_ ?_
    · refine ⟨.ref cp, none, rfl, Same.refl _, ?_⟩
      rw [show cross ((places p' b).last.take 0) (places p' b).first = [] by rw [List.take_zero]; rfl, List.append_nil]
      exact dcp
    · rintro j σ H4 _ ⟨_, _, _, s5, _⟩
      exact (hid_le.trans (u1.trans s5)).seq gla
    · rintro j yv σ H4 hj ⟨v4, x5, rfl, s5, d5⟩
      obtain ⟨y, rfl, hy⟩ := natAt hj
      have s45 := u1.trans s5
      have z4 := z2.same s5
      refine ⟨_, rfl, _, rfl, pa, _, _, _, rfl, rfl, seqT (hid_le.trans s45) gS, at1, fa, rfl, ⟨_, (hid_le.trans s45).seq gfa⟩, ?_⟩
      refine row_read (K := K) (Z := Z) (x := y) (f := (places p' b).first) (j := 10) z4 ((hid_le.trans s45).seq gfa) (by omega) ?_ ?_
      · intro y' H' N r
        exact ⟨_, rfl, _, rfl, (by show 2 ≤ sizeLine; decide), r⟩
      intro D' H5 s6 d6
      have lj : (cross ((places p' b).last.take j) (places p' b).first).length ≤ 60 * 60 := by
        rw [cross_len]
        exact Nat.le_trans (Nat.mul_le_mul_right _ (by rw [List.length_take]; omega)) c7
      refine cat_read (B := True) (z4.same s6) (Same.dp (same_hid s6) d5) d6 (by rw [List.length_map, List.length_append, List.length_map, List.length_map]; omega) fun c' nc' H6 s7 z6 d7 => ?_
      refine ⟨.ref c', some (.int (y : Int)), rfl, s5.trans (s6.trans s7), ?_⟩
      rw [cross_succ hy, ← List.append_assoc, pairsD_app]
      exact d7
    rintro σ H5 ⟨v4, x5, rfl, s5, d5⟩
    rw [zs_len, List.take_length] at d5
    have s15 := u1.trans s5
    have z5 := z2.same s5
    refine ⟨_, rfl, pa, _, _, _, rfl, rfl, seqT (hid_le.trans s15) gS, at1, _, rfl, pa, _, _, _, rfl, rfl, seqT (hid_le.trans s15) gS, at2, _, rfl, (by show 4 ≤ sizeLine; decide), fun t nt => ?_⟩
    refine q _ _ (s1.trans (s15.trans (same_new nt))) ?_
    simp only [places]
    exact outAt_new (p := ⟨(places p' b).first, (places p' b).last, true, (places p' b).pairs ++ cross (places p' b).last (places p' b).first, true⟩) z5 nt rfl (Same.dp (same_hid s15) hp1) (Same.dp (same_hid s15) hp2) d5
  · -- row, either
    rw [M.depth] at hd
    rw [M.nodes] at hn
    refine ⟨_, rfl, a, _, _, _, M.v, rfl, seqT hid_le M.t, at0, ?_⟩
    refine ⟨_, rfl, rfl, _, rfl, ite2 (fun c => absurd (of_decide_eq_true c) M.noRest) (fun _ => ?_)⟩
    refine ⟨_, rfl, rfl, _, rfl, ite2 (fun c => absurd (of_decide_eq_true c) M.noAny) (fun _ => ?_)⟩
    refine ⟨_, rfl, (by show 2 ≤ sizeLine; decide), fun t nt => ?_⟩
    have s0 := same_new (o := .lst [.str "row", .str "either"]) nt
    have eIn : inV (V.str kn) [V.str "row", V.str "either"] = true := (inV_strs kn ["row", "either"]).trans (decide_eq_true M.isMany)
    refine ⟨t, _, rfl, .inl (.of upd_same), rfl, rfl, _, rfl, ite2 (fun c => absurd c (by rw [if_pos rfl, eIn]; decide)) (fun _ => ?_)⟩
    generalize upd H t (.lst [.str "row", .str "either"]) = H0 at s0
    have z0 := hZ.same s0
    refine ⟨(by show 0 ≤ sizeLine; decide), fun D nD => ?_⟩
    have s1 := same_new (o := .lst []) nD
    refine ⟨_, rfl, a, _, _, _, M.v, rfl, seqT (hid_le.trans (s0.trans s1)) M.t, at1, l, rfl, ⟨xs, (hid_le.trans (s0.trans s1)).seq M.l⟩, ?_⟩
    refine for_list (K := K) (a := l) (xs := xs) (fun i σ H2 => ∃ x7 acc, σ = [some v, some (.int ((b + (stepsL (ps.take i)).length + 1 : Nat) : Int)), some (.str kn), none, none, none, some (.ref D), x7, none, none, none] ∧ Same H0 H2 ∧ H2 D = some (.lst acc) ∧ All2 (OutAt K (hid (D :: Z) H2)) acc (placesL (ps.take i) b)) ?_ ?_ ?_ ?_
    · exact ⟨none, [], rfl, s1, upd_same, .nil⟩
    · rintro i σ H2 _ ⟨_, _, _, s3, _⟩
      exact (hid_le.trans (s0.trans s3)).seq M.l
    · rintro i x σ H2 hi ⟨x7, acc, rfl, s3, gD, hA⟩
      obtain ⟨d, hd1, hd2⟩ := all_get M.d hi
      rw [List.getElem?_map] at hd1
      obtain ⟨p1, hp1, rfl⟩ := Option.map_eq_some_iff.mp hd1
      have mem : p1 ∈ ps := List.mem_of_getElem? hp1
      have d1 := depthL_mem mem
      have n1 := nodesL_mem mem
      have lA := hA.len
      rw [placesL_len, List.length_take] at lA
      have l60 := len_nodes ps
      have zD : Dom (D :: Z) H2 := (z0.same s3).cons gD
      have hd2 := Same.dp (same_hid s0) hd2
      have hx2 : Dp K (hid (D :: Z) H2) x (progD p1) := by
        refine Same.dp (fun c o e => ?_) hd2
        obtain ⟨e1, e2⟩ := hid_get e
        have ne : c ≠ D := ne_of_none e1 nD
        rw [hid_out (fun z => (List.mem_cons.mp z).elim ne e2)]
        exact s3 _ _ e1
      refine ⟨_, rfl, .inl ⟨rfl, _, .of gD⟩, _, rfl, _, rfl, D :: Z, x, b + (stepsL (ps.take i)).length, p1, rfl, zD, hx2, by omega, by omega, fun H3 r s4 hr3 => ?_⟩
      refine ⟨D, acc, r, rfl, rfl, s4 _ _ gD, lineB (by omega), ?_⟩
      have s5 : Same H0 (upd H3 D (.lst (acc ++ [r]))) := same_put (s3.trans s4) nD
      refine ⟨_, rfl, _, rfl, Z, x, p1, rfl, z0.same s5, Same.dp (same_hid s5) hd2, by omega, by omega, fun H6 r6 s6 hr6 => ?_⟩
      obtain ⟨b6, ys, rfl, hl6, ha6⟩ := list_inv hr6
      have z6 := all_len ha6
      rw [List.length_map] at z6
      refine ⟨b6, ys, rfl, .inl (hid_le.seq hl6), _, _, rfl, rfl, ?_⟩
      refine ⟨some x, acc ++ [r], ?_, s5.trans s6, s6 _ _ upd_same, ?_⟩
      · rw [z6, stepsL_take_succ ps i p1 hp1, List.length_append]
        rw [show ((b + ((stepsL (ps.take i)).length + (stepsP p1).length) + 1 : Nat) : Int) = ((b + (stepsL (ps.take i)).length + 1 : Nat) : Int) + ((stepsP p1).length : Int) by omega]
        rfl
      · rw [placesL_take ps b i p1 hp1]
        have e7 : Same (hid (D :: Z) H3) (hid (D :: Z) H6) := by
          have := same_hid (Z := D :: Z) s6
          rw [hid_upd (List.mem_cons_self ..)] at this
          exact this
        exact (hA.imp fun a b h => (h.up (same_hid s4)).up e7).snoc (hr3.up e7)
    rintro σ H2 ⟨x7, acc, rfl, s3, gD, hA⟩
    have e : ps.take xs.length = ps := List.take_of_length_le (by have := all_len M.d; rw [List.length_map] at this; omega)
    rw [e] at hA
    have DZ : D ∉ Z := z0.out nD
    have hA' : All2 (OutAt K (hid Z H2)) acc (placesL ps b) := hA.imp fun a b h => h.up hid_cons
    have hD : SqL K (hid Z H2) D acc := .of (by rw [hid_out DZ]; exact gD)
    have few := placesL_few (ps := ps) (by omega) b
    have z2 := z0.same s3
    have s02 := s0.trans s3
    refine ⟨_, rfl, rfl, _, rfl, ite2 (fun c => ?_) (fun c => ?_)⟩
    · refine ⟨_, rfl, Z, D, acc, _, rfl, z2, hD, hA', few, fun H' v s' hv => q H' v (s02.trans s') ?_⟩
      rcases M.k with ⟨_, rfl⟩ | ⟨rfl, _⟩
      · simp only [places]; exact hv
      · exact absurd (of_decide_eq_true c) (by decide +kernel)
    have eg : places p b = oneOf (placesL ps b) := by
      rcases M.k with ⟨rfl, _⟩ | ⟨_, rfl⟩
      · exact absurd (decide_eq_true rfl) c
      · simp only [places]
    rw [eg, oneOf_eq (placesL_no ps b)] at q
    have lA := hA'.len
    have l1000 := few.n
    refine ⟨_, rfl, D, rfl, ⟨_, .of gD⟩, fun D2 nD2 => ?_⟩
    refine lc_list (K := K) (a := D) (xs := acc) (fun i H3 => Same H2 H3 ∧ ∃ acc2, H3 D2 = some (.lst acc2) ∧ All2 (OutAt K (hid (D2 :: Z) H3)) acc2 (((placesL ps b).take i).filter (·.spells))) ?_ ?_ ?_ ?_
    · exact ⟨same_new nD2, [], upd_same, by rw [List.take_zero]; exact .nil⟩
    · rintro i H3 _ ⟨s4, _⟩
      exact s4.seq (.of gD)
    · rintro i x H3 hi ⟨s4, acc2, e2, a2⟩
      obtain ⟨q1, hq1, hq2⟩ := hA'.get hi
      rw [filter_take hq1]
      have l2 := a2.len
      have l3 : (((placesL ps b).take i).filter (·.spells)).length ≤ 1000 := Nat.le_trans (List.length_filter_le ..) (by rw [List.length_take]; omega)
      have up : Same (hid Z H2) (hid (D2 :: Z) H3) := fun c o e => by
        obtain ⟨q1, q2⟩ := hid_get e
        rw [hid_out fun z => (List.mem_cons.mp z).elim (ne_of_none q1 nD2) q2]
        exact s4 _ _ q1
      refine ⟨rfl, _, rfl, _, rfl, ?_⟩
      rcases hq2.ex with ⟨h1, pa, p1, p2, p3, rfl, _⟩ | ⟨h1, rfl⟩
      · refine ite2 (fun _ => ?_) (fun c => absurd rfl c)
        rw [if_pos h1]
        refine ⟨_, rfl, acc2, e2, line60 (by omega), same_put s4 nD2, _, upd_same, ?_⟩
        rw [hid_upd (List.mem_cons_self ..)]
        exact a2.snoc (hq2.up up)
      · refine ite2 (fun c => absurd (show false = true from c) Bool.false_ne_true) (fun _ => ?_)
        rw [if_neg (by rw [h1]; exact Bool.false_ne_true), List.append_nil]
        exact ⟨s4, acc2, e2, a2⟩
    rintro H3 ⟨s4, acc2, e2, a2⟩
    rw [lA, List.take_length] at a2
    have a3 : All2 (OutAt K (hid Z H3)) acc2 ((placesL ps b).filter (·.spells)) := a2.imp fun a b h => h.up hid_cons
    have fewL := few_filter (·.spells) few
    have allS : ∀ q ∈ (placesL ps b).filter (·.spells), q.spells = true := fun q hq => (List.mem_filter.mp hq).2
    generalize (placesL ps b).filter (·.spells) = L at a3 fewL allS q
    have z3 := z2.same s4
    have D2Z := z2.out nD2
    have s03 := s02.trans s4
    have gD2 : SqL K (hid Z H3) D2 acc2 := .of (by rw [hid_out D2Z]; exact e2)
    refine ⟨_, rfl, (by show 0 ≤ sizeLine; decide), fun e0 ne0 => ?_⟩
    have s5 := same_new (o := .lst []) ne0
    refine ⟨.list (L.map outD), .list [], Same.dp (hid_le.trans s5) (.lst gD2 (outs_dp a3)), .lst (.of upd_same) .nil, outs_shaped L, rfl, _, rfl, ?_⟩
    rw [eqv_nil, List.isEmpty_map]
    by_cases hL : L.isEmpty = true
    · rw [hL]
      refine iteT ?_
      refine q _ _ (s03.trans s5) ?_
      rw [if_pos hL]
      exact ⟨.inr ⟨rfl, rfl⟩⟩
    rw [if_neg hL] at q
    rw [Bool.eq_false_iff.mpr hL]
    refine iteF ?_
    have s05 := s03.trans s5
    have a5 := a3.imp fun a b h => h.up (same_hid (Z := Z) s5)
    have gD5 := (same_hid (Z := Z) s5).seq gD2
    have z5 := z3.same s5
    generalize upd H3 e0 (.lst []) = H5 at s05 a5 gD5 z5
    have l5 := a5.len
    have l6 := fewL.n
    refine ⟨_, rfl, D2, rfl, ⟨_, hid_le.seq gD5⟩, fun D3 nD3 => ?_⟩
    refine bools_read (K := K) (L.map (·.emp)) (by rw [List.length_map]; exact l5) (hid_le.seq gD5) nD3 (by rw [List.length_map]; omega) ?_ ?_
    · intro i x b' H' R hx hb s r
      obtain ⟨q1, hq1, hq2⟩ := a5.get hx
      rw [List.getElem?_map, hq1] at hb
      obtain rfl : q1.emp = b' := Option.some.inj hb
      rcases hq2.ex with ⟨h1, pa, p1, p2, p3, rfl, gS, _⟩ | ⟨h1, _⟩
      · exact ⟨_, rfl, pa, _, _, _, rfl, rfl, seqT (hid_le.trans s) gS, at0, r⟩
      · rw [allS q1 (List.mem_of_getElem? hq1)] at h1; cases h1
    intro H6 s6 hD3
    have z6 := z5.same s6
    refine ⟨D3, _, rfl, hD3, (by show 0 ≤ sizeLine; decide), fun a1 na1 => ⟨(by show 0 ≤ sizeLine; decide), fun a2 na2 => ⟨(by show 0 ≤ sizeLine; decide), fun a3 na3 => ⟨(by show 4 ≤ sizeLine; decide), fun t nt => ?_⟩⟩⟩⟩
    have t1 := same_new (o := .lst []) na1
    have t2 := same_new (o := .lst []) na2
    have t3 := same_new (o := .lst []) na3
    have y1 := z6.same t1
    have y2 := y1.same t2
    have y3 := y2.same t3
    have s7 : Same H5 _ := s6.trans ((t1.trans t2).trans (t3.trans (same_new (o := .tup [.bl ((L.map (·.emp)).any id), .ref a1, .ref a2, .ref a3]) nt)))
    have w0 := outAt_new (p := ⟨[], [], (L.map (·.emp)).any id, [], true⟩) y3 nt rfl (Same.dp (same_hid (t2.trans t3)) (dp_new z6 na1 .nil)) (Same.dp (same_hid t3) (dp_new y1 na2 .nil)) (dp_new (K := K) y2 na3 .nil)
    refine ⟨_, rfl, D2, rfl, ⟨_, (hid_le.trans s7).seq gD5⟩, ?_⟩
    refine for_list (K := K) (a := D2) (xs := acc2) (fun i σ H8 => ∃ x7 wv, σ = [some v, some (.int ((b + (stepsL (ps.take xs.length)).length + 1 : Nat) : Int)), some (.str kn), none, none, none, some (.ref D), x7, some (.ref D2), some wv, none] ∧ Same H5 H8 ∧ OutAt K (hid Z H8) wv ⟨(L.take i).flatMap (·.first), (L.take i).flatMap (·.last), L.any (·.emp), (L.take i).flatMap (·.pairs), true⟩) ?_ ?_ ?_ ?_
    · refine ⟨_, .ref t, rfl, s7, ?_⟩
      have ea : L.any (·.emp) = (L.map (·.emp)).any id := by rw [List.any_map]; rfl
      rw [List.take_zero, ea]
      exact w0
    · rintro i σ H8 _ ⟨_, _, _, s8, _⟩
      exact (hid_le.trans s8).seq gD5
    · rintro i xv σ H8 hi ⟨x7', wv, rfl, s8, hW⟩
      obtain ⟨p1, hpi, hP⟩ := a5.get hi
      have mem : p1 ∈ L := List.mem_of_getElem? hpi
      have hP := hP.up (same_hid (Z := Z) s8)
      have c1 := Nat.le_trans (sumF_mem mem) fewL.f
      have c2 := Nat.le_trans (sumL_mem mem) fewL.l
      have c3 := Nat.le_trans (sumP_mem mem) fewL.p
      have b1 := Nat.le_trans (sumF_take L i) fewL.f
      have b2 := Nat.le_trans (sumL_take L i) fewL.l
      have b3 := Nat.le_trans (sumP_take L i) fewL.p
      rw [← flatF] at b1
      rw [← flatL] at b2
      rw [← flatP] at b3
      rw [flat_take _ _ hpi, flat_take _ _ hpi, flat_take _ _ hpi]
      rcases hP.ex with ⟨_, pa, p1', p2, p3, rfl, gP, hp1, hp2, hp3⟩ | ⟨h1, _⟩
      rotate_left
      · rw [allS p1 mem] at h1; cases h1
      rcases hW.ex with ⟨_, wa, w1, w2, w3, rfl, gW, hw1, hw2, hw3⟩ | ⟨h1, _⟩
      rotate_left
      · cases h1
      have z8 := z5.same s8
      refine ⟨_, rfl, wa, _, _, _, rfl, rfl, seqT hid_le gW, at0, ?_⟩
      refine ⟨_, rfl, wa, _, _, _, rfl, rfl, seqT hid_le gW, at1, _, rfl, pa, _, _, _, rfl, rfl, seqT hid_le gP, at1, ?_⟩
      refine cat_read (B := True) z8 hw1 hp1 (by simp only [zs, List.length_map]; omega) fun c1 nc1 H9 u1 z9 d1 => ?_
      refine ⟨_, rfl, wa, _, _, _, rfl, rfl, seqT (hid_le.trans u1) gW, at2, _, rfl, pa, _, _, _, rfl, rfl, seqT (hid_le.trans u1) gP, at2, ?_⟩
      refine cat_read (B := True) z9 (Same.dp (same_hid u1) hw2) (Same.dp (same_hid u1) hp2) (by simp only [zs, List.length_map]; omega) fun c2 nc2 H10 u2 z10 d2 => ?_
      have u12 := u1.trans u2
      refine ⟨_, rfl, wa, _, _, _, rfl, rfl, seqT (hid_le.trans u12) gW, at3, _, rfl, pa, _, _, _, rfl, rfl, seqT (hid_le.trans u12) gP, at3, ?_⟩
      refine cat_read (B := True) z10 (Same.dp (same_hid u12) hw3) (Same.dp (same_hid u12) hp3) (by simp only [List.length_map]; omega) fun c3 nc3 H11 u3 z11 d3 => ?_
      refine ⟨(by show 4 ≤ sizeLine; decide), fun t nt => ?_⟩
      refine ⟨some (.ref pa), .ref t, rfl, s8.trans (u12.trans (u3.trans (same_new nt))), ?_⟩
      refine outAt_new (p := ⟨(L.take i).flatMap (·.first) ++ p1.first, (L.take i).flatMap (·.last) ++ p1.last, L.any (·.emp), (L.take i).flatMap (·.pairs) ++ p1.pairs, true⟩) z11 nt rfl ?_ ?_ ?_
      · rw [natD_app]
        exact Same.dp (same_hid (u2.trans u3)) d1
      · rw [natD_app]
        exact Same.dp (same_hid u3) d2
      · rw [pairsD_app]
        exact d3
    · rintro σ H8 ⟨x7', wv, rfl, s8, hW⟩
      rw [l5, List.take_length] at hW
      exact ⟨_, rfl, q _ _ (s05.trans s8) hW⟩
end
end Sk

set_option Elab.async false
set_option linter.all false
set_option maxRecDepth 100000
set_option maxHeartbeats 4000000
/-! Skewer, the walk: _law_due. -/
namespace Sk
open PySem L2
theorem join_if {c : Bool} {te : TE} {g : TG} {D : Ends} {σ : L2.St} {H : Hp} (N : L2.St → Hp → Prop) (h : ∀ D' : Ends, (∀ σ' H', N σ' H' → D'.nx σ' H') → if c = true then tAsg te g D' σ H else D'.nx σ H) (k : ∀ σ' H', N σ' H' → D.nx σ' H') :
    if c = true then tAsg te g D σ H else D.nx σ H := h D k
theorem range1_at {n k : Nat} (h : k < n) : (List.range' 1 n)[k]? = some (k + 1) := by
  rw [List.getElem?_range' h]
  congr 1
  omega
theorem mem_fols {pl : Ps} {n s y : Nat} (h : In pl 0 n) : (s, y) ∈ pl.first.map (fun y => (0, y)) ++ pl.pairs ↔ y ∈ fols pl s := by
  rw [List.mem_append]
  cases s with
  | zero =>
    constructor
    · rintro (q | q)
      · obtain ⟨z, hz, e⟩ := List.mem_map.mp q
        cases e
        exact hz
      · have := (h.p _ q).1.1
        omega
    · exact fun q => .inl (List.mem_map.mpr ⟨y, q, rfl⟩)
  | succ s =>
    show _ ↔ y ∈ colOf pl.pairs (s + 1)
    rw [mem_colOf]
    constructor
    · rintro (q | q)
      · obtain ⟨z, hz, e⟩ := List.mem_map.mp q
        cases e
      · exact q
    · exact .inr
theorem brow_step {α : Type} {xs : List α} {pl : Ps} {n k s : Nat} (h : k < n) (q : n ≤ xs.length) :
    (((List.range' 1 n).take (k + 1)).filter fun y => decide (y ∈ fols pl s)).filterMap (ent xs) = (((List.range' 1 n).take k).filter fun y => decide (y ∈ fols pl s)).filterMap (ent xs) ++ if k + 1 ∈ fols pl s then (ent xs (k + 1)).toList else [] := by
  rw [List.take_add_one, range1_at h, List.filter_append, List.filterMap_append]
  by_cases c : k + 1 ∈ fols pl s
  · rw [if_pos c]
    simp [c]
    cases e : ent xs (k + 1) <;> simp [e]
  · rw [if_neg c]
    simp [c]
theorem units65 {k : Nat} {A : Around} (r : Room k A) : A.units + 65 < cLine := by have := r.un; omega
def spDue (K : PySem.W.Frag) : Sp := fun vs H Q _ => ∃ (Z : List Addr) (v sv : V) (p : Prog), vs = [v, sv] ∧ Dom Z H ∧ Dp K (hid Z H) v (progD p) ∧ Dp K (hid Z H) sv (wordD (stepsP p)) ∧ depthP p ≤ 6 ∧ nodesP p ≤ 60 ∧
  ∀ H' r, Same H H' → Dp K (hid Z H') r (.tuple [rowsD (brows (stepsP p) (places p 0)), natD (bends (stepsP p) (places p 0))]) → Q r H'
section
variable {P : Program} {w : World} {K : PySem.W.Frag} {mg : Str → Option Value} {base : Heap} {f C : Addr} {fd : FuncData}
abbrev nDue : List Str := ["_law_program", "_law_steps_here", "_law_told", "_law_pairs", "_law_rows", "_law_state", "_law_ends", "_law_first", "_law_place"]
theorem scDue : FnScope nDue ["_law_program", "_law_steps_here"] (defScope sDue) := ⟨rfl, rfl, rfl, by decide +kernel, rfl, by decide +kernel, by decide +kernel⟩
theorem ok_due {j : Nat} (F : Fun K "_law_due" "_law_due" sDue f fd) (T : Txt K mg)
    (CO : Callee P w K mg base j "_law_outline" ["_law_program", "_law_place"] (spOutline K 6)) : FnOk P w K mg base CX0 (j + 1) f fd ["_law_program", "_law_steps_here"] (spDue K) := by
  refine F.ok scDue (fun vs H Q E h => ?_) (fun cdv A outer s H vs Q E hr h => ?_)
  · obtain ⟨Z, v, sv, p, rfl, _⟩ := h
    rfl
  obtain ⟨Z, v, sv, p, rfl, hZ, hp, hs, hd, hn, q⟩ := h
  refine ⟨_, pss_cons (ps_set (i := 2) scDue.nd rfl (.inr rfl) (pe_cal CO hr (by rfl) (pa_cons (pv 0) (pa_cons pe_int pa_nil))))
    (pss_cons (ps_if (pt_cmp (pc_isN (pv 2))) (pss_one (ps_set (i := 2) scDue.nd rfl (.inr rfl) (pe_tup (pa_cons pe_bl (pa_cons (pe_lst pa_nil) (pa_cons (pe_lst pa_nil) (pa_cons (pe_lst pa_nil) pa_nil))))))) pss_nil)
    (pss_cons (ps_set (i := 3) scDue.nd rfl (.inr rfl) (pe_op op_catL (pe_lc (own := [("_law_first", 7)]) (g := gName 7) (tt := tYes) (te := tTup (tCons (tC (.int 0)) (tCons (tVar 7) tNil))) (by rfl) scDue.nd (pi_list (pe_ix ix_tup (pv 2) pe_int (fun _ _ => rfl)))
        (blkOk_by (N := nDue) (sc := defScope sDue) (by decide +kernel)) (fun _ _ _ _ _ => pg_name (i := 7) scDue.nd rfl (Or.inl rfl)) (fun _ _ _ _ _ => pts_nil) (fun _ _ _ _ _ => pe_tup (pa_cons pe_int (pa_cons (pv 7) pa_nil))))
      (pe_ix ix_tup (pv 2) pe_int (fun _ _ => rfl))))
    (pss_cons (ps_set (i := 4) scDue.nd rfl (.inl rfl) (pe_lst pa_nil))
    (pss_cons (ps_for PassesOwn.never rfl (pi_range1 (by rfl) T.range (pa_cons (pe_op op_add (pe_callB call_len_seq (by rfl) T.len PySem.boot_len (pa_cons (pv 1) pa_nil)) pe_int) pa_nil)) (pg_name (i := 5) scDue.nd rfl (.inr rfl))
      (pss_one (ps_expr (pe_bm PySem.F.plainAttrs_list PySem.F.slot_list_append PySem.F.type_list_append mt_append (pv 4) (pa_cons
        (pe_lc (own := [("_law_place", 8)]) (g := gName 8) (tt := tTest (tOp (rInD K) (tTup (tCons (tVar 5) (tCons (tVar 8) tNil))) (tVar 3))) (te := tTup (tCons (tOp (rIxL K) (tVar 1) (tOp (rI0 fun i j => .int (i - j)) (tVar 8) (tC (.int 1)))) (tCons (tVar 8) tNil))) (by rfl) scDue.nd
          (pi_range2 (by rfl) T.range (pa_cons pe_int (pa_cons (pe_op op_add (pe_callB call_len_seq (by rfl) T.len PySem.boot_len (pa_cons (pv 1) pa_nil)) pe_int) pa_nil)))
          (blkOk_by (N := nDue) (sc := defScope sDue) (by decide +kernel)) (fun _ _ _ _ _ => pg_name (i := 8) scDue.nd rfl (Or.inl rfl))
          (fun _ _ _ _ _ => pts_one (pt_cmpR (op_inD (units65 hr)) (pe_tup (pa_cons (pv 5) (pa_cons (pv 8) pa_nil))) (pv 3) (by rfl)))
          (fun _ _ _ _ _ => pe_tup (pa_cons (pe_ix ix_list (pv 1) (pe_op op_sub (pv 8) pe_int) (fun _ _ => rfl)) (pa_cons (pv 8) pa_nil)))) pa_nil)))))
    (pss_cons (ps_setLc (i := 6) (own := [("_law_place", 8)]) (g := gName 8) (tt := tTest (tOp (rIn K false) (tVar 8) (tOp (rIxT K) (tVar 2) (tC (.int 2))))) (te := tVar 8) (by rfl) scDue.nd rfl rfl (sw_true rfl rfl rfl (by decide +kernel))
        (pi_range2 (by rfl) T.range (pa_cons pe_int (pa_cons (pe_op op_add (pe_callB call_len_seq (by rfl) T.len PySem.boot_len (pa_cons (pv 1) pa_nil)) pe_int) pa_nil)))
        (blkOk_by (N := nDue) (sc := defScope sDue) (by decide +kernel)) (fun _ _ _ _ _ => pg_name (i := 8) scDue.nd rfl (Or.inl rfl))
        (fun _ _ _ _ _ => pts_one (pt_cmpR op_in_seq (pv 8) (pe_ix ix_tup (pv 2) pe_int (fun _ _ => rfl)) (by rfl))) (fun _ _ _ _ _ => pv 8))
    (pss_one (ps_ret (pe_tup (pa_cons (pv 4) (pa_cons (pe_op op_catL (pe_slice sl_list (pe_lst (pa_cons pe_int pa_nil)) po_none (po_some (pe_callTy call_int1 (by rfl) T.int (by decide +kernel) (pa_cons (pe_ix ix_tup (pv 2) pe_int (fun _ _ => rfl)) pa_nil)))) (pv 6)) pa_nil)))))))))), ?_⟩
  obtain ⟨sa, sxs, rfl, gs, hsx⟩ := list_inv hs
  have ls := all_len hsx
  rw [List.length_map] at ls
  have n60 := steps_le p
  have hin := places_in0 p
  obtain ⟨c1, c2, c3⟩ := places_size p 0
  have c5 : (stepsP p).length * (stepsP p).length ≤ 60 * 60 := Nat.mul_le_mul (by omega) (by omega)
  have c6 : nodesP p * ((stepsP p).length * (stepsP p).length) ≤ 60 * (60 * 60) := Nat.mul_le_mul (by omega) c5
  have c7 : (places p 0).pairs.length ≤ 216000 := by omega
  have hno := places_no p 0
  -- told
  refine ⟨_, rfl, Z, v, 0, p, rfl, hZ, hp, hd, hn, fun H1 tv s1 ht => ?_⟩
  generalize hpl : places p 0 = pl at hin c1 c2 c7 q hno ht
  generalize hst : stepsP p = st at hs hsx ls n60 hin c1 c2 q
  have z1 := hZ.same s1
  refine ⟨_, rfl, _, rfl, ?_⟩
  refine join_if (N := fun σ' H' => ∃ ta v1 v2 v3, σ' = [some v, some (.ref sa), some (.ref ta), none, none, none, none, none, none] ∧ Same H H' ∧ SqT K (hid Z H') ta [.bl pl.emp, v1, v2, v3] ∧ Dp K (hid Z H') v1 (natD pl.first) ∧ Dp K (hid Z H') v2 (natD pl.last) ∧ Dp K (hid Z H') v3 (pairsD pl.pairs)) ?_ ?_
  · intro D' k'
    rcases ht.ex with ⟨h1, ta, v1, v2, v3, rfl, gS, e1, e2, e3⟩ | ⟨h1, rfl⟩
    · exact ite2 (fun c => absurd (show false = true from c) Bool.false_ne_true) (fun _ => k' _ _ ⟨ta, v1, v2, v3, rfl, s1, gS, e1, e2, e3⟩)
    · refine ite2 (fun _ => ?_) (fun c => absurd rfl c)
      refine ⟨(by show 0 ≤ sizeLine; decide), fun a1 na1 => ⟨(by show 0 ≤ sizeLine; decide), fun a2 na2 => ⟨(by show 0 ≤ sizeLine; decide), fun a3 na3 => ⟨(by show 4 ≤ sizeLine; decide), fun t nt => ?_⟩⟩⟩⟩
      have t1 := same_new (o := .lst []) na1
      have t2 := same_new (o := .lst []) na2
      have t3 := same_new (o := .lst []) na3
      have y1 := z1.same t1
      have y2 := y1.same t2
      have y3 := y2.same t3
      have t4 := same_new (o := .tup [.bl false, .ref a1, .ref a2, .ref a3]) nt
      rw [hno h1] at k'
      refine k' _ _ ⟨t, .ref a1, .ref a2, .ref a3, rfl, s1.trans ((t1.trans t2).trans (t3.trans t4)), .of (new_at y3 nt), ?_, ?_, ?_⟩
      · exact Same.dp (same_hid (t2.trans (t3.trans t4))) (dp_new z1 na1 .nil)
      · exact Same.dp (same_hid (t3.trans t4)) (dp_new y1 na2 .nil)
      · exact Same.dp (same_hid t4) (dp_new y2 na3 .nil)
  rintro σ' H2 ⟨ta, v1, v2, v3, rfl, s2, gT, e1, e2, e3⟩
  have z2 := hZ.same s2
  obtain ⟨fa, rfl, gfa⟩ := intD_inv e1
  obtain ⟨la, rfl, gla⟩ := intD_inv e2
  -- pairs
  refine ⟨_, rfl, ta, _, _, _, rfl, rfl, seqT hid_le gT, at1, fa, rfl, ⟨_, hid_le.seq gfa⟩, ?_⟩
  refine row_read (K := K) (Z := Z) (x := 0) (f := pl.first) (j := 7) z2 (hid_le.seq gfa) (by omega) ?_ ?_
  · intro y H' N r
    exact ⟨_, rfl, (by show 2 ≤ sizeLine; decide), r⟩
  intro D3 H3 s3 d3
  refine ⟨_, rfl, ta, _, _, _, rfl, rfl, seqT (hid_le.trans s3) gT, at3, ?_⟩
  refine cat_read (B := True) (z2.same s3) d3 (Same.dp (same_hid s3) e3) (by simp only [List.length_map]; omega) fun pc npc H4 s4 z4 d4 => ?_
  rw [← pairsD_app] at d4
  have hAP : ∀ s y, (s, y) ∈ pl.first.map (fun y => (0, y)) ++ pl.pairs ↔ y ∈ fols pl s := fun s y => mem_fols hin
  generalize pl.first.map (fun y => (0, y)) ++ pl.pairs = AP at hAP d4
  have s24 := s3.trans s4
  have s04 := s2.trans s24
  -- rows
  refine ⟨(by show 0 ≤ sizeLine; decide), fun RD nRD => ?_⟩
  have g0 : GrowAt K Z RD H4 (upd H4 RD (.lst [])) [] := .start nRD
  have lrow : (brows st pl).length = st.length + 1 := by unfold brows; rw [List.length_map, List.length_range]
  refine ⟨_, rfl, sa, sxs, rfl, .inl ((hid_le.trans (s04.trans g0.same)).seq gs), _, 1, rfl, rfl, _, rfl, by omega, by omega, ?_⟩
  refine for_range (lo := 0) (n := ((sxs.length : Int) + 1).toNat) (fun i σ H5 => ∃ x5, σ = [some v, some (.ref sa), some (.ref ta), some (.ref pc), some (.ref RD), x5, none, none, none] ∧ GrowAt K Z RD H4 H5 (((brows st pl).take i).map rowD)) ?_ ?_ ?_
  · exact ⟨none, rfl, g0⟩
  · rintro i σ H5 hi ⟨x5, rfl, g⟩
    rw [Int.zero_add]
    have hil : i < st.length + 1 := by omega
    have hrow : (brows st pl)[i]? = some (brow st pl i) := by
      unfold brows
      rw [List.getElem?_map, List.getElem?_range hil]
      rfl
    obtain ⟨acc, gR, dacc⟩ := g.at_
    have lacc := all_len dacc
    rw [List.length_map, List.length_take] at lacc
    have s05 := s04.trans g.same
    have zD := g.dom z4
    refine ⟨_, rfl, .inl ⟨rfl, _, .of gR⟩, _, rfl, sa, sxs, rfl, .inl ((hid_le.trans s05).seq gs), _, 1, rfl, rfl, 1, _, rfl, ⟨by omega, by omega, by omega, by omega⟩, fun D5 nD5 => ?_⟩
    refine lc_range (lo := 1) (n := ((sxs.length : Int) + 1 - 1).toNat) (fun k H6 => GrowAt K (RD :: Z) D5 H5 H6 (((((List.range' 1 st.length).take k).filter fun y => decide (y ∈ fols pl i)).filterMap (ent st)).map entD)) ?_ ?_ ?_
    · exact .start nD5
    · intro k H6 hk g3
      have hk' : k < st.length := by omega
      rw [show (1 + (k : Int)) = ((k + 1 : Nat) : Int) by omega]
      refine ⟨rfl, _, rfl, _, rfl, (by show 2 ≤ sizeLine; decide), fun tq ntq => ?_⟩
      have u1 := same_new (o := .tup [.int (i : Int), .int ((k + 1 : Nat) : Int)]) ntq
      refine ⟨_, rfl, pairD (i, k + 1), AP.map pairD, pairD_of (.of upd_same), Same.dp (hid_le.trans (g.same.trans (g3.same.trans u1))) d4, shaped_of (pairD_lay _) (Nat.le_trans (pairD_depth _) (by decide)), pairsD_shaped AP, _, rfl, ?_⟩
      rw [any_pair, show decide ((i, k + 1) ∈ AP) = decide (k + 1 ∈ fols pl i) from decide_eq_decide.mpr (hAP i (k + 1))]
      have g4 := g3.keep u1
      generalize upd H6 tq (.tup [.int (i : Int), .int ((k + 1 : Nat) : Int)]) = H7 at u1 g4
      rw [brow_step (xs := st) hk' (Nat.le_refl _)]
      refine ite2 (fun c => ?_) (fun c => ?_)
      · have c := of_decide_eq_true c
        rw [if_pos c]
        obtain ⟨y1, y2⟩ := fols_in hin c
        obtain ⟨a, ha1, ha2⟩ := ent_some (xs := st) y1 y2
        obtain ⟨sx, hsx1, dsx⟩ := all_at hsx (show (st.map stepD)[k + 1 - 1]? = some (stepD a) by rw [List.getElem?_map, ha1]; rfl)
        have s07 := s05.trans (g3.same.trans u1)
        have ey : (((k + 1 : Nat) : Int) - 1) = ((k + 1 - 1 : Nat) : Int) := by omega
        refine ⟨_, rfl, _, rfl, ((k + 1 : Nat) : Int), 1, rfl, rfl, sa, sxs, _, sx, rfl, rfl, (hid_le.trans s07).seq gs, at_of ey hsx1, _, rfl, (by show 2 ≤ sizeLine; decide), fun tp ntp => ?_⟩
        have zD3 := g4.dom zD
        have up : Same (hid Z H) (hid (D5 :: RD :: Z) H7) := fun c o e => by
          obtain ⟨q1, q2⟩ := hid_get e
          have n2 : c ≠ RD := ne_of_none (s04 _ _ q1) nRD
          have n3 : c ≠ D5 := ne_of_none (s05 _ _ q1) nD5
          rw [hid_out fun z => (List.mem_cons.mp z).elim n3 fun z => (List.mem_cons.mp z).elim n2 q2]
          exact s07 _ _ q1
        rw [ha2]
        show putL D5 _ _ fun H' => GrowAt K (RD :: Z) D5 H5 H' (((((List.range' 1 st.length).take k).filter fun y => decide (y ∈ fols pl i)).filterMap (ent st) ++ [(a, k + 1)]).map entD)
        refine (g4.keep (same_new ntp)).put (d := entD (a, k + 1)) nD5 (dp_newT zD3 ntp (.cons (Same.dp up dsx) (.cons (.int _) .nil))) ?_ fun H' g' => ?_
        · refine line60 ?_
          rw [List.length_map]
          exact Nat.le_trans (List.length_filterMap_le ..) (Nat.le_trans (List.length_filter_le ..) (by rw [List.length_take]; omega))
        · rw [List.map_append]
          exact g'
      · have c : ¬ (k + 1 ∈ fols pl i) := fun z => c (decide_eq_true z)
        rw [if_neg c, List.append_nil]
        exact g4
    · intro H6 g3
      rw [List.take_of_length_le (by rw [List.length_range']; omega)] at g3
      have d5 := g3.done zD nD5
      refine ⟨RD, acc, .ref D5, rfl, rfl, g3.same _ _ gR, line60 (by omega), ?_⟩
      refine ⟨some (.int (i : Int)), rfl, ⟨acc ++ [.ref D5], upd_same, ?_⟩, same_put (g.same.trans g3.same) nRD⟩
      rw [hid_upd (List.mem_cons_self ..), List.take_add_one, hrow, List.map_append]
      exact all_snoc (Same.all (same_hid g3.same) dacc) d5
  rintro σ H5 ⟨x5, rfl, g⟩
  rw [List.take_of_length_le (by omega)] at g
  have dR := g.done z4 nRD
  have s25 := s24.trans g.same
  have s05 := s2.trans s25
  have z5 := hZ.same s05
  -- ends
  refine ⟨_, rfl, sa, sxs, rfl, .inl ((hid_le.trans s05).seq gs), _, 1, rfl, rfl, 1, _, rfl, ⟨by omega, by omega, by omega, by omega⟩, fun D6 nD6 => ?_⟩
  refine lc_range (lo := 1) (n := ((sxs.length : Int) + 1 - 1).toNat) (fun k H6 => Same H5 H6 ∧ H6 D6 = some (.lst ((zs (((List.range' 1 st.length).take k).filter fun y => decide (y ∈ pl.last))).map V.int))) ?_ ?_ ?_
  · exact ⟨same_new nD6, upd_same⟩
  · rintro k H6 hk ⟨s6, e6⟩
    have hk' : k < st.length := by omega
    rw [show (1 + (k : Int)) = ((k + 1 : Nat) : Int) by omega]
    refine ⟨rfl, _, rfl, _, rfl, ta, _, _, _, rfl, rfl, seqT (hid_le.trans (s25.trans s6)) gT, at2, la, _, rfl, .inl ((hid_le.trans (s25.trans s6)).seq gla), rfl, flat_ints _, _, rfl, ?_⟩
    rw [if_neg Bool.false_ne_true, inV_ints, nat_in, List.take_add_one, range1_at hk', List.filter_append]
    have lk : (((List.range' 1 st.length).take k).filter fun y => decide (y ∈ pl.last)).length ≤ 60 := Nat.le_trans (List.length_filter_le ..) (by rw [List.length_take]; omega)
    refine ite2 (fun c => ?_) (fun c => ?_)
    · refine ⟨_, rfl, _, e6, line60 (by rw [zs_len]; omega), same_put s6 nD6, ?_⟩
      rw [upd_same]
      unfold zs
      rw [List.map_append, List.map_append]
      simp [of_decide_eq_true c]
    · have c : ¬ (k + 1 ∈ pl.last) := fun z => c (decide_eq_true z)
      refine ⟨s6, ?_⟩
      rw [e6]
      simp [c]
  rintro H6 ⟨s6, e6⟩
  rw [List.take_of_length_le (by rw [List.length_range']; omega)] at e6
  have z6 := z5.same s6
  have nD6Z := z5.out nD6
  have dE : Dp K (hid Z H6) (.ref D6) (natD ((List.range' 1 st.length).filter fun y => decide (y ∈ pl.last))) := intD_of (.of (by rw [hid_out nD6Z]; exact e6))
  have lE : ((List.range' 1 st.length).filter fun y => decide (y ∈ pl.last)).length ≤ 60 := Nat.le_trans (List.length_filter_le ..) (by rw [List.length_range']; omega)
  refine ⟨_, rfl, (by show 1 ≤ sizeLine; decide), fun ba nba => ?_⟩
  have u1 := same_new (o := .lst [.int 0]) nba
  have z7 := z6.same u1
  refine ⟨_, rfl, ta, _, _, _, rfl, rfl, seqT (hid_le.trans (s25.trans (s6.trans u1))) gT, at0, .inr ⟨_, rfl, _, rfl, ba, _, rfl, .of upd_same, fun cu ncu => ?_⟩⟩
  have ecut : cutV [.int 0] none (some (if pl.emp = true then 1 else 0)) = (zs (if pl.emp = true then [0] else [])).map V.int := by
    cases pl.emp <;> rfl
  rw [ecut]
  have u2 := same_new (o := .lst ((zs (if pl.emp = true then [0] else [])).map V.int)) ncu
  have dC : Dp K (hid Z _) (.ref cu) (natD (if pl.emp = true then [0] else [])) := dp_new z7 ncu (all_ints _)
  have u12 := u1.trans u2
  have lC : (if pl.emp = true then [0] else ([] : List Nat)).length ≤ 1 := by cases pl.emp <;> decide
  refine ⟨_, rfl, ?_⟩
  refine cat_read (B := True) (z7.same u2) dC (Same.dp (same_hid u12) dE) (by simp only [zs, List.length_map]; omega) fun ec nec H9 u3 z9 d9 => ?_
  refine ⟨(by show 2 ≤ sizeLine; decide), fun t nt => ?_⟩
  have u13 := u12.trans u3
  refine q _ _ (s05.trans (s6.trans (u13.trans (same_new nt)))) ?_
  rw [← natD_app] at d9
  exact dp_newT z9 nt (.cons (Same.dp (same_hid (s6.trans u13)) dR) (.cons d9 .nil))
end
end Sk

set_option Elab.async false
set_option linter.all false
/-! Skewer, the plain law: the built automaton spells the rows of the program. -/
namespace Sk
section
variable {α : Type} [DecidableEq α]
theorem mem_brow {xs : List α} {pl : Ps} {s : Nat} (h : In pl 0 xs.length) {e : α × Nat} : e ∈ brow xs pl s ↔ e.2 ∈ fols pl s ∧ xs[e.2 - 1]? = some e.1 := by
  unfold brow
  rw [List.mem_filterMap]
  constructor
  · rintro ⟨y, hy, he⟩
    have hy := (mem_follow h).mp hy
    unfold ent at he
    obtain ⟨a, ha, rfl⟩ := Option.map_eq_some_iff.mp he
    exact ⟨hy, ha⟩
  · rintro ⟨h1, h2⟩
    refine ⟨e.2, (mem_follow h).mpr h1, ?_⟩
    unfold ent
    rw [h2]
    rfl
theorem rowOf_brows {xs : List α} {pl : Ps} {s : Nat} (hs : s ≤ xs.length) : rowOf (brows xs pl) s = brow xs pl s := by
  unfold rowOf brows
  rw [List.getElem?_map, List.getElem?_range (by omega)]
  rfl
def Path (pl : Ps) : Nat → List Nat → Nat → Prop
  | s, [], t => s = t
  | s, y :: ys, t => y ∈ fols pl s ∧ Path pl y ys t
def nameAt (d : α) (xs : List α) (y : Nat) : α := (xs[y - 1]?).getD d
theorem name_at {d : α} {xs : List α} {y : Nat} {a : α} (h1 : 1 ≤ y) (h2 : y ≤ xs.length) : xs[y - 1]? = some a ↔ nameAt d xs y = a := by
  unfold nameAt
  rw [List.getElem?_eq_getElem (by omega)]
  simp
theorem names_at (d : α) (xs : List α) : Names (nameAt d xs) 0 xs := fun i a h => by
  unfold nameAt
  rw [show 0 + 1 + i - 1 = i by omega, h]
  rfl
theorem wf_brows {xs : List α} {pl : Ps} (h : In pl 0 xs.length) (hn : xs.length ≤ 59) : WfA (brows xs pl) := by
  have l : (brows xs pl).length = xs.length + 1 := by unfold brows; rw [List.length_map, List.length_range]
  refine ⟨by omega, by omega, fun r hr => ?_⟩
  unfold brows at hr
  obtain ⟨s, _, rfl⟩ := List.mem_map.mp hr
  refine ⟨?_, fun e he => ?_⟩
  · unfold brow
    have := List.length_filterMap_le (ent xs) (follow pl xs.length s)
    have l2 : (follow pl xs.length s).length ≤ xs.length := by
      unfold follow
      exact Nat.le_trans (List.length_filter_le ..) (Nat.le_of_eq (List.length_range' ..))
    omega
  · have := fols_in h ((mem_brow h).mp he).1
    omega
theorem brow_len {xs : List α} {pl : Ps} (s : Nat) : (brow xs pl s).length ≤ xs.length := by
  unfold brow
  have := List.length_filterMap_le (ent xs) (follow pl xs.length s)
  have l2 : (follow pl xs.length s).length ≤ xs.length := by
    unfold follow
    exact Nat.le_trans (List.length_filter_le ..) (Nat.le_of_eq (List.length_range' ..))
  omega
theorem mem_fold {d : α} {xs : List α} {pl : Ps} (h : In pl 0 xs.length) (hn : xs.length ≤ 59) : ∀ (w : List α) (S : List Nat), (∀ s ∈ S, s ≤ xs.length) → ∀ t : Nat,
    (t ∈ w.foldl (fun S a => stepS (brows xs pl) a S) S ↔ ∃ s ∈ S, ∃ u : List Nat, u.map (nameAt d xs) = w ∧ Path pl s u t)
  | [], S, hS, t => by
    constructor
    · exact fun q => ⟨t, q, [], rfl, rfl⟩
    · rintro ⟨s, hs, u, e, q⟩
      rw [List.map_eq_nil_iff] at e
      subst e
      have q : s = t := q
      rw [← q]
      exact hs
  | a :: w, S, hS, t => by
    have W := wf_brows h hn
    have mem : ∀ y, y ∈ stepS (brows xs pl) a S ↔ ∃ s ∈ S, y ∈ fols pl s ∧ nameAt d xs y = a := fun y => by
      rw [mem_stepS W, mem_outs]
      constructor
      · rintro ⟨s, hs, q⟩
        rw [rowOf_brows (hS s hs), mem_brow h] at q
        obtain ⟨y1, y2⟩ := fols_in h q.1
        exact ⟨s, hs, q.1, (name_at y1 y2).mp q.2⟩
      · rintro ⟨s, hs, q1, q2⟩
        obtain ⟨y1, y2⟩ := fols_in h q1
        refine ⟨s, hs, ?_⟩
        rw [rowOf_brows (hS s hs), mem_brow h]
        exact ⟨q1, (name_at y1 y2).mpr q2⟩
    rw [List.foldl_cons, mem_fold h hn w (stepS (brows xs pl) a S) (fun s hs => by
      obtain ⟨_, _, q, _⟩ := (mem s).mp hs
      exact (fols_in h q).2) t]
    constructor
    · rintro ⟨y, hy, u, e, q⟩
      obtain ⟨s, hs, q1, q2⟩ := (mem y).mp hy
      exact ⟨s, hs, y :: u, by rw [List.map_cons, q2, e], q1, q⟩
    · rintro ⟨s, hs, u, e, q⟩
      cases u with
      | nil => cases e
      | cons y u =>
        rw [List.map_cons] at e
        injection e with e1 e2
        exact ⟨y, (mem y).mpr ⟨s, hs, q.1, e1⟩, u, e2, q.2⟩
theorem path_pos {n : Nat} {pl : Ps} (h : In pl 0 n) : ∀ (u : List Nat) (x t : Nat), 1 ≤ x → Path pl x u t → 1 ≤ t
  | [], x, t, hx, q => by have q : x = t := q; omega
  | y :: u, x, t, hx, q => path_pos h u y t (fols_in h q.1).1 q.2
theorem path_runs {n : Nat} {pl : Ps} (h : In pl 0 n) : ∀ (u : List Nat) (x : Nat), 1 ≤ x → ((∃ t, Path pl x u t ∧ t ∈ pl.last) ↔ Runs pl x u)
  | [], x, hx => by
    constructor
    · rintro ⟨t, q, r⟩
      have q : x = t := q
      show x ∈ pl.last
      rw [q]
      exact r
    · exact fun r => ⟨x, rfl, r⟩
  | y :: u, x, hx => by
    obtain ⟨k, rfl⟩ : ∃ k, x = k + 1 := ⟨x - 1, by omega⟩
    have e : y ∈ fols pl (k + 1) ↔ (k + 1, y) ∈ pl.pairs := mem_colOf
    constructor
    · rintro ⟨t, ⟨q1, q2⟩, r⟩
      exact ⟨e.mp q1, (path_runs h u y (fols_in h q1).1).mp ⟨t, q2, r⟩⟩
    · rintro ⟨q1, q2⟩
      obtain ⟨t, q, r⟩ := (path_runs h u y (fols_in h (e.mpr q1)).1).mpr q2
      exact ⟨t, ⟨e.mpr q1, q⟩, r⟩
theorem mem_bends {xs : List α} {pl : Ps} (h : In pl 0 xs.length) {t : Nat} : t ∈ bends xs pl ↔ (t = 0 ∧ pl.emp = true) ∨ t ∈ pl.last := by
  unfold bends
  rw [List.mem_append, List.mem_filter, mem_range1, decide_eq_true_eq]
  constructor
  · rintro (q | q)
    · cases e : pl.emp with
      | true => rw [e] at q; exact .inl ⟨List.mem_singleton.mp q, rfl⟩
      | false => rw [e] at q; cases q
    · exact .inr q.2
  · rintro (⟨rfl, q⟩ | q)
    · rw [q]; exact .inl (List.mem_cons_self ..)
    · have := h.l t q
      exact .inr ⟨by omega, q⟩
theorem path_loc {xs : List α} {pl : Ps} (h : In pl 0 xs.length) (u : List Nat) : (∃ t, Path pl 0 u t ∧ t ∈ bends xs pl) ↔ Loc pl u := by
  cases u with
  | nil =>
    constructor
    · rintro ⟨t, q, r⟩
      have q : 0 = t := q
      subst q
      rcases (mem_bends h).mp r with ⟨_, e⟩ | e
      · exact e
      · have := h.l 0 e
        omega
    · exact fun e => ⟨0, rfl, (mem_bends h).mpr (.inl ⟨rfl, e⟩)⟩
  | cons x u =>
    constructor
    · rintro ⟨t, ⟨q1, q2⟩, r⟩
      have x1 := (fols_in h q1).1
      have t1 := path_pos h u x t x1 q2
      refine ⟨q1, (path_runs h u x x1).mp ⟨t, q2, ?_⟩⟩
      rcases (mem_bends h).mp r with ⟨e, _⟩ | e
      · omega
      · exact e
    · rintro ⟨q1, q2⟩
      have x1 : 1 ≤ x := (fols_in (s := 0) h q1).1
      obtain ⟨t, q, r⟩ := (path_runs h u x x1).mpr q2
      exact ⟨t, ⟨q1, q⟩, (mem_bends h).mpr (.inr r)⟩
/-- the built automaton spells the rows of the program, and no others -/
theorem built_spells (d : α) (p : Pg α) (hn : (stepsP p).length ≤ 59) (w : List α) : accB (brows (stepsP p) (places p 0)) (bends (stepsP p) (places p 0)) w = true ↔ Spl p w := by
  have h := places_in0 p
  rw [spl_places (nameAt d (stepsP p)) p 0 w (names_at d _)]
  unfold accB runS
  rw [List.any_eq_true]
  constructor
  · rintro ⟨t, ht, e⟩
    obtain ⟨s, hs, u, e1, q⟩ := (mem_fold (d := d) h hn w [0] (fun s hs => by rw [List.mem_singleton.mp hs]; exact Nat.zero_le _) t).mp ht
    rw [List.mem_singleton.mp hs] at q
    exact ⟨u, (loc_places p 0 u).mp ((path_loc h u).mp ⟨t, q, of_decide_eq_true e⟩), e1⟩
  · rintro ⟨u, hu, e⟩
    obtain ⟨t, q, r⟩ := (path_loc h u).mpr ((loc_places p 0 u).mpr hu)
    exact ⟨t, (mem_fold (d := d) h hn w [0] (fun s hs => by rw [List.mem_singleton.mp hs]; exact Nat.zero_le _) t).mpr ⟨0, List.mem_singleton.mpr rfl, u, e, q⟩, decide_eq_true r⟩
theorem bends_asc (xs : List α) (pl : Ps) : (bends xs pl).Pairwise (· < ·) := by
  unfold bends
  rw [List.pairwise_append]
  refine ⟨by cases pl.emp <;> simp, (range'_asc _ _).filter _, fun a ha b hb => ?_⟩
  have hb := mem_range1.mp (List.mem_filter.mp hb).1
  cases e : pl.emp with
  | true => rw [e] at ha; rw [List.mem_singleton.mp ha]; omega
  | false => rw [e] at ha; cases ha
theorem bends_len (xs : List α) (pl : Ps) : (bends xs pl).length ≤ xs.length + 1 := by
  unfold bends
  rw [List.length_append]
  have h1 : ((List.range' 1 xs.length).filter fun y => decide (y ∈ pl.last)).length ≤ xs.length := Nat.le_trans (List.length_filter_le ..) (Nat.le_of_eq (List.length_range' ..))
  have h2 : (if pl.emp = true then [0] else ([] : List Nat)).length ≤ 1 := by cases pl.emp <;> decide
  omega
theorem brow_states {xs : List α} {pl : Ps} (h : In pl 0 xs.length) (s : Nat) : (brow xs pl s).map (·.2) = follow pl xs.length s := by
  unfold brow
  have key : ∀ l : List Nat, (∀ y ∈ l, 1 ≤ y ∧ y ≤ xs.length) → (l.filterMap (ent xs)).map (·.2) = l := fun l => by
    induction l with
    | nil => exact fun _ => rfl
    | cons y l ih =>
      intro q
      obtain ⟨y1, y2⟩ := q y (List.mem_cons_self ..)
      obtain ⟨a, ha1, ha2⟩ := ent_some (xs := xs) y1 y2
      rw [List.filterMap_cons_some ha2, List.map_cons, ih fun z hz => q z (List.mem_cons_of_mem _ hz)]
  exact key _ fun y hy => fols_in h ((mem_follow h).mp hy)
theorem brow_asc {xs : List α} {pl : Ps} (h : In pl 0 xs.length) (s : Nat) : ((brow xs pl s).map (·.2)).Pairwise (· < ·) := by
  rw [brow_states h]
  exact follow_asc _ _ _
end
end Sk

set_option Elab.async false
set_option linter.all false
set_option maxRecDepth 100000
set_option maxHeartbeats 4000000
/-! Skewer, the walk: the law. -/
namespace Sk
open PySem L2
def spLaw (K : PySem.W.Frag) : Sp := fun vs H Q _ => ∃ (a : Addr) (ns : List Int), vs = [.ref a] ∧ SqL K H a (ns.map V.int) ∧ ns.length ≤ 63 ∧ ∀ H', Q (.bl true) H'
/-- all that the law calls, with room for j calls -/
structure All (P : Program) (w : World) (K : PySem.W.Frag) (mg : Str → Option Value) (base : Heap) (C : Addr) (j : Nat) : Prop where
  num : Callee P w K mg base j "_law_numbers" ["_law_script", "_law_count"] (spNumbers K)
  part : Callee P w K mg base j "_law_part" ["_law_row", "_law_depth", "_law_ways", "_law_kinds"] (spPart K 4)
  take : Callee P w K mg base j "_law_take" ["_law_row", "_law_bound"] spTake
  steps : Callee P w K mg base j "_law_steps" ["_law_program"] (spSteps K 6)
  stepsOf : Callee P w K mg base j "steps_of" ["program"] (spSteps K 6)
  build : Callee P w K mg base j "build_for" ["program"] (spBuild K C)
  asc : Callee P w K mg base j "_law_ascends" ["_law_numbers_here"] (spAsc K)
  due : Callee P w K mg base j "_law_due" ["_law_program", "_law_steps_here"] (spDue K)
  near : Callee P w K mg base j "_law_near" ["_law_row", "_law_automaton", "_law_program"] (spNear K C)
  words : Callee P w K mg base j "_law_words" ["_law_row", "_law_program"] (spWords K)
  spells : Callee P w K mg base j "spells" ["automaton", "row"] (spSpells K C)
  spelled : Callee P w K mg base j "_law_spelled" ["_law_program", "_law_row"] (spSpelled K)
  walked : Callee P w K mg base j "_law_walked" ["_law_automaton", "_law_word"] (spSpells K C)
section
variable {P : Program} {w : World} {K : PySem.W.Frag} {mg : Str → Option Value} {base : Heap} {f C : Addr} {fd : FuncData}
abbrev nLaw : List Str := ["_law_script", "_law_row", "_law_program", "_law_steps_here", "_law_automaton", "_law_pairs", "_law_states", "_law_other", "_law_word", "_law_step_here", "_law_state"]
theorem scLaw : FnScope nLaw ["_law_script"] (defScope sLaw) := ⟨rfl, rfl, rfl, by decide +kernel, rfl, by decide +kernel, by decide +kernel⟩
theorem ok_law {j ka : Nat} (F : Fun K "law" "law" sLaw f fd) (T : Txt K mg) (TA : AuTxt P w K mg base ka C) (A' : All P w K mg base C j) : FnOk P w K mg base CX0 (j + 1) f fd ["_law_script"] (spLaw K) := by
  refine F.ok scLaw (fun vs H Q E h => ?_) (fun cdv A outer s H vs Q E hr h => ?_)
  · obtain ⟨a, ns, rfl, _⟩ := h
    rfl
  obtain ⟨a, ns, rfl, hS, h63, q⟩ := h
  refine ⟨_, pss_cons (ps_set (i := 1) scLaw.nd rfl (.inl rfl) (pe_cal A'.num hr (by rfl) (pa_cons (pv 0) (pa_cons pe_int pa_nil))))
    (pss_cons (ps_set (i := 2) scLaw.nd rfl (.inl rfl) (pe_cal A'.part hr (by rfl) (pa_cons (pv 1) (pa_cons pe_int (pa_cons pe_int (pa_cons pe_int pa_nil))))))
    (pss_cons (ps_if (pt_cmpR op_gt (pe_cal A'.take hr (by rfl) (pa_cons (pv 1) (pa_cons pe_int pa_nil))) pe_int (nomark _))
      (pss_one (ps_set (i := 2) scLaw.nd rfl (.inl rfl) (pe_tup (pa_cons pe_str (pa_cons (pe_lst (pa_cons (pv 2) (pa_cons (pe_cal A'.part hr (by rfl) (pa_cons (pv 1) (pa_cons pe_int (pa_cons pe_int (pa_cons pe_int pa_nil))))) pa_nil))) pa_nil))))) pss_nil)
    (pss_cons (ps_set (i := 3) scLaw.nd rfl (.inr rfl) (pe_cal A'.steps hr (by rfl) (pa_cons (pv 2) pa_nil)))
    (pss_cons (ps_if (pt_cmpR (op_neD hr.units) (pe_cal A'.stepsOf hr (by rfl) (pa_cons (pv 2) pa_nil)) (pv 3) (nomark _)) (pss_one (ps_ret pe_bl)) pss_nil)
    (pss_cons (ps_set (i := 4) scLaw.nd rfl (.inl rfl) (pe_cal A'.build hr (by rfl) (pa_cons (pv 2) pa_nil)))
    (pss_cons (ps_if (PW.pt (pw_or (pt_cmpR op_ne (pe_callB call_len_seq (by rfl) T.len PySem.boot_len (pa_cons (pe_fld (pv 4) rfl) pa_nil)) (pe_op op_add (pe_callB call_len_seq (by rfl) T.len PySem.boot_len (pa_cons (pv 3) pa_nil)) pe_int) (nomark _))
        (pw_or1 (pt_not (pt_val (pe_cal A'.asc hr (by rfl) (pa_cons (pe_fld (pv 4) rfl) pa_nil))))))) (pss_one (ps_ret pe_bl)) pss_nil)
    (pss_cons (ps_for PassesOwn.never rfl (pi_list (pe_fld (pv 4) rfl)) (pg_name (i := 5) scLaw.nd rfl (.inl rfl))
      (pss_cons (ps_setLc (i := 6) (own := [("_law_step_here", 9), ("_law_state", 10)]) (g := gTup K 2 (gCons (gName 9) (gCons (gName 10) gNil))) (tt := tYes) (te := tVar 10) (by rfl) scLaw.nd rfl rfl (sw_true rfl rfl rfl (by decide +kernel)) (pi_list (pv 5))
        (blkOk_by (N := nLaw) (sc := defScope sLaw) (by decide +kernel)) (fun _ _ _ _ _ => pg_tup (by rfl) (pgs_cons (pg_name (i := 9) scLaw.nd rfl (Or.inl rfl)) (pgs_cons (pg_name (i := 10) scLaw.nd rfl (Or.inl rfl)) pgs_nil))) (fun _ _ _ _ _ => pts_nil) (fun _ _ _ _ _ => pv 10))
      (pss_one (ps_if (PW.pt (pw_or (pt_not (pt_val (pe_cal A'.asc hr (by rfl) (pa_cons (pv 6) pa_nil)))) (pw_or1 (pt_val (pe_callB (cr_any rfl) (by rfl) T.any (by decide +kernel) (pa_cons
          (pe_lc (own := [("_law_step_here", 9), ("_law_state", 10)]) (g := gTup K 2 (gCons (gName 9) (gCons (gName 10) gNil))) (tt := tYes)
            (te := tOrV (tOp (rNeD K) (tVar 9) (tOp (rIxL K) (tVar 3) (tOp (rI0 fun i j => .int (i - j)) (tVar 10) (tC (.int 1))))) (tLt (tVar 10) (tC (.int 1)))) (by rfl) scLaw.nd (pi_list (pv 5))
            (blkOk_by (N := nLaw) (sc := defScope sLaw) (by decide +kernel)) (fun _ _ _ _ _ => pg_tup (by rfl) (pgs_cons (pg_name (i := 9) scLaw.nd rfl (Or.inl rfl)) (pgs_cons (pg_name (i := 10) scLaw.nd rfl (Or.inl rfl)) pgs_nil))) (fun _ _ _ _ _ => pts_nil)
            (fun _ _ _ _ _ => pe_or (pe_cmpR (op_neD hr.units) (pv 9) (pe_ix ix_list (pv 3) (pe_op op_sub (pv 10) pe_int) (fun _ _ => rfl)) (nomark _)) (pe_one (pe_cmp (pc_lt (pv 10) pe_int))))) pa_nil)))))) (pss_one (ps_ret pe_bl)) pss_nil))))
    (pss_cons (ps_if (pt_cmpR (op_neD hr.units) (pe_tup (pa_cons (pe_fld (pv 4) rfl) (pa_cons (pe_fld (pv 4) rfl) pa_nil))) (pe_cal A'.due hr (by rfl) (pa_cons (pv 2) (pa_cons (pv 3) pa_nil))) (nomark _)) (pss_one (ps_ret pe_bl)) pss_nil)
    (pss_cons (ps_set (i := 7) scLaw.nd rfl (.inl rfl) (pe_cal A'.near hr (by rfl) (pa_cons (pv 1) (pa_cons (pv 4) (pa_cons (pv 2) pa_nil)))))
    (pss_cons (ps_for PassesOwn.never rfl (pi_list (pe_cal A'.words hr (by rfl) (pa_cons (pv 1) (pa_cons (pv 2) pa_nil)))) (pg_name (i := 8) scLaw.nd rfl (.inl rfl))
      (pss_cons (ps_if (pt_cmpR op_ne (pe_cal A'.spells hr (by rfl) (pa_cons (pv 4) (pa_cons (pe_callTy call_list_of (by rfl) T.list (by decide +kernel) (pa_cons (pv 8) pa_nil)) pa_nil))) (pe_cal A'.spelled hr (by rfl) (pa_cons (pv 2) (pa_cons (pv 8) pa_nil))) (nomark _)) (pss_one (ps_ret pe_bl)) pss_nil)
      (pss_one (ps_if (pt_cmpR op_ne (pe_cal A'.spells hr (by rfl) (pa_cons (pv 7) (pa_cons (pe_callTy call_list_of (by rfl) T.list (by decide +kernel) (pa_cons (pv 8) pa_nil)) pa_nil))) (pe_cal A'.walked hr (by rfl) (pa_cons (pv 7) (pa_cons (pv 8) pa_nil))) (nomark _)) (pss_one (ps_ret pe_bl)) pss_nil))))
    (pss_one (ps_ret (pe_cmpR (op_eqD hr.units) (pe_fld (pe_cal A'.build hr (by rfl) (pa_cons (pv 2) pa_nil)) rfl) (pe_fld (pv 4) rfl) (nomark _)))))))))))))), ?_⟩
  refine ⟨_, rfl, a, ns, rfl, hS, h63, fun R H1 s1 nR r1 => ?_⟩
  have z1 : Dom [R] H1 := fun b hb => by rw [List.mem_singleton.mp hb]; exact r1.dom
  have mR : R ∈ [R] := List.mem_cons_self ..
  have dom : ∀ {H' : Hp}, RowAt H' R 10000 → Dom [R] H' := fun r b hb => by rw [List.mem_singleton.mp hb]; exact r.dom
  have rowk : ∀ {H' H'' : Hp}, Same H' H'' → RowAt H' R 10000 → RowAt H'' R 10000 := fun s ⟨ms, e, l⟩ => ⟨ms, s _ _ e, l⟩
  refine ⟨_, rfl, [R], R, 10000, 3, 3, 2, rfl, z1, mR, r1, by decide, by decide, by decide, fun H2 v p b2 r2 dp hdp hnp => ?_⟩
  refine ⟨_, rfl, R, 10000, 3, rfl, r2, by decide, fun H3 k b3 r3 hk => ?_⟩
  refine ⟨_, _, rfl, rfl, _, rfl, ?_⟩
  refine join_if (N := fun σ' H' => ∃ pv p, σ' = [some (.ref a), some (.ref R), some pv, none, none, none, none, none, none, none, none] ∧ RowAt H' R 10000 ∧ Dp K (hid [R] H') pv (progD p) ∧ depthP p ≤ 6 ∧ nodesP p ≤ 54) ?_ ?_
  · intro D' k'
    have e3 : bnd 3 = 40 := rfl
    have e2 : bnd 2 = 13 := rfl
    refine ite2 (fun _ => ?_) (fun _ => k' _ _ ⟨v, p, rfl, r3, Same.dp b3 dp, by omega, by omega⟩)
    refine ⟨_, rfl, _, rfl, [R], R, 10000, 2, 3, 2, rfl, dom r3, mR, r3, by decide, by decide, by decide, fun H4 v2 p2 b4 r4 dp2 hd2 hn2 => ⟨(by show 2 ≤ sizeLine; decide), fun l nl => ⟨(by show 2 ≤ sizeLine; decide), fun t nt => ?_⟩⟩⟩
    have u1 := same_new (o := .lst [v, v2]) nl
    have u2 := same_new (o := .tup [.str "row", .ref l]) nt
    have z4 := dom r4
    have z5 := z4.same u1
    have dl := dp_new (K := K) z4 nl (.cons (Same.dp (b3.tr b4) dp) (.cons dp2 .nil))
    have dt := dp_newT (K := K) z5 nt (.cons (.str "row") (.cons dl .nil))
    refine k' _ _ ⟨.ref t, .row [p, p2], rfl, rowk (u1.trans u2) r4, ?_, ?_, ?_⟩
    · unfold progD progsD progsD progsD
      exact dt
    · simp only [depthP, depthL]
      omega
    · simp only [nodesP, nodesL]
      omega
  clear dp hdp hnp b2 b3 r2 r3 hk
  rintro σ' H4 ⟨pv, p, rfl, r4, dp4, hdp, hnp⟩
  have ls := steps_le p
  have hin := places_in0 p
  have spells_p := built_spells (⟨"go", none, by decide +kernel⟩ : Step) p (by omega)
  have l59 : (stepsP p).length ≤ 59 := by omega
  refine ⟨_, rfl, [R], pv, p, rfl, dom r4, dp4, by omega, by omega, fun H5 sv s5 dsv5 => ?_⟩
  have r5 := rowk s5 r4
  refine ⟨_, rfl, [R], pv, p, rfl, dom r5, Same.dp (same_hid s5) dp4, by omega, by omega, fun H6 sv2 s6 dsv6 => ?_⟩
  have r6 := rowk s6 r5
  refine ⟨_, rfl, wordD (stepsP p), wordD (stepsP p), Same.dp hid_le dsv6, Same.dp (hid_le.trans s6) dsv5, shaped_of (wordD_lay _) (Nat.le_trans (wordD_depth _) (by decide)), shaped_of (wordD_lay _) (Nat.le_trans (wordD_depth _) (by decide)), _, rfl, ?_⟩
  rw [SeqAt.eqv_refl _ (wordD_lay _)]
  refine iteF ?_
  refine ⟨_, rfl, [R], pv, p, rfl, dom r6, Same.dp (same_hid (s5.trans s6)) dp4, hdp, by omega, fun H7 au s7 hau => ?_⟩
  have r7 := rowk s7 r6
  have dp7 := Same.dp (same_hid (Z := [R]) (s5.trans (s6.trans s7))) dp4
  have dst7 := Same.dp (same_hid (Z := [R]) (s6.trans s7)) dsv5
  clear dsv5 dsv6 dp4
  have lrow : (brows (stepsP p) (places p 0)).length = (stepsP p).length + 1 := by unfold brows; rw [List.length_map, List.length_range]
  have hrow : ∀ {i : Nat} {r : List (Step × Nat)}, (brows (stepsP p) (places p 0))[i]? = some r → r = brow (stepsP p) (places p 0) i := fun {i r} h => by
    unfold brows at h
    rw [List.getElem?_map] at h
    obtain ⟨j', h1, h2⟩ := Option.map_eq_some_iff.mp h
    have := (List.getElem?_eq_some_iff.mp h1).2
    rw [List.getElem_range] at this
    rw [← h2, this]
  have wfB := wf_brows hin l59
  have hWB : WfB (brows (stepsP p) (places p 0)) := ⟨by omega, by omega, fun r hr => ⟨by
    obtain ⟨i, hi⟩ := List.getElem?_of_mem hr
    rw [hrow hi]
    have := brow_len (xs := stepsP p) (pl := places p 0) i
    omega, (wfB.row r hr).2⟩⟩
  have lends := bends_len (stepsP p) (places p 0)
  have aends := bends_asc (stepsP p) (places p 0)
  have hbr : ∀ i, ∀ e ∈ brow (stepsP p) (places p 0) i, 1 ≤ e.2 ∧ (stepsP p)[e.2 - 1]? = some e.1 := fun i e he => by
    have := (mem_brow hin).mp he
    exact ⟨(fols_in hin this.1).1, this.2⟩
  have habr := fun i => brow_asc (xs := stepsP p) hin i
  have lbr := fun i => brow_len (xs := stepsP p) (pl := places p 0) i
  generalize hrows : brows (stepsP p) (places p 0) = rows at hau lrow hrow wfB hWB spells_p
  generalize hends : bends (stepsP p) (places p 0) = ends at hau lends aends spells_p
  obtain ⟨sa, sxs, rfl, gs, hsx⟩ := list_inv dst7
  have lsx := all_len hsx
  rw [List.length_map] at lsx
  obtain ⟨aa, adx, u1, u2, rfl, ga, du1, du2⟩ := hau.ex
  obtain ⟨ra, rxs, rfl, gra, hra⟩ := list_inv du1
  obtain ⟨ea, rfl, gea⟩ := natD_inv du2
  have lrx := all_len hra
  rw [List.length_map] at lrx
  -- lengths; the ends ascend
  refine ⟨_, rfl, aa, C, adx, _, _, rfl, hid_le _ _ ga, TA.cl, TA.n1, auF_rows, ra, rxs, rfl, .inl (hid_le.seq gra), _, rfl, sa, sxs, rfl, .inl (hid_le.seq gs), _, 1, rfl, rfl, rfl, _, rfl, ?_⟩
  have elen : (rxs.length : Int) = (sxs.length : Int) + 1 := by omega
  refine ite2 (fun c => absurd c (by rw [elen]; simp)) (fun _ => ?_)
  refine ⟨_, rfl, aa, C, adx, _, _, rfl, hid_le _ _ ga, TA.cl, TA.n2, auF_ends, [R], _, ends, rfl, du2, by omega, aends, fun H8 s8 => ⟨_, rfl, ?_⟩⟩
  refine ite2 (fun c => absurd c (by decide)) (fun _ => ?_)
  have L8 : Same (hid [R] H7) H8 := hid_le.trans s8
  -- the rows
  refine ⟨_, rfl, aa, C, adx, _, _, rfl, L8 _ _ ga, TA.cl, TA.n1, auF_rows, ra, rfl, ⟨_, L8.seq gra⟩, ?_⟩
  refine for_list (K := K) (a := ra) (xs := rxs) (fun i σ H9 => ∃ x5 x6, σ = [some (.ref a), some (.ref R), some pv, some (.ref sa), some (.ref aa), x5, x6, none, none, none, none] ∧ Same H8 H9) ?_ ?_ ?_ ?_
  · exact ⟨none, none, rfl, Same.refl _⟩
  · rintro i σ H9 _ ⟨_, _, _, s9⟩
    exact (L8.trans s9).seq gra
  · rintro i xv σ H9 hi ⟨x5, x6, rfl, s9⟩
    have L9 : Same (hid [R] H7) H9 := L8.trans s9
    obtain ⟨d, hd1, hd2⟩ := all_get hra hi
    rw [List.getElem?_map] at hd1
    obtain ⟨row, hrowi, rfl⟩ := Option.map_eq_some_iff.mp hd1
    obtain ⟨b, ys, rfl, gb, hys⟩ := list_inv hd2
    have lys := all_len hys
    rw [List.length_map] at lys
    have erow := hrow hrowi
    have hb := hbr i
    have ha := habr i
    have lb := lbr i
    rw [← erow] at hb ha lb
    refine ⟨_, rfl, b, rfl, ⟨_, L9.seq gb⟩, fun D nD => ?_⟩
    refine lc_list (K := K) (a := b) (xs := ys) (fun m H' => Same H9 H' ∧ H' D = some (.lst ((zs ((row.take m).map (·.2))).map V.int))) ?_ ?_ ?_ ?_
    · exact ⟨same_new nD, upd_same⟩
    · rintro m H' _ ⟨s', _⟩
      exact (L9.trans s').seq gb
    · rintro m x H' hm ⟨s', e'⟩
      obtain ⟨d, hd1, hd2'⟩ := all_get hys hm
      rw [List.getElem?_map] at hd1
      obtain ⟨e, he, rfl⟩ := Option.map_eq_some_iff.mp hd1
      obtain ⟨t, sv, rfl, gt, dsv⟩ := entD_inv hd2'
      refine ⟨t, _, rfl, seqT (L9.trans s') gt, rfl, _, _, rfl, _, _, rfl, rfl, ?_⟩
      refine ⟨rfl, _, rfl, _, e', ?_, same_put s' nD, ?_⟩
      · refine line60 ?_
        rw [zs_len, List.length_map, List.length_take]
        omega
      · rw [upd_same, List.take_add_one, he, List.map_append]
        unfold zs
        rw [List.map_append, List.map_append]
        rfl
    rintro H10 ⟨s10, e10⟩
    rw [lys, List.take_length] at e10
    have L10 := L9.trans s10
    have r10 : RowAt H10 R 10000 := rowk (s8.trans (s9.trans s10)) r7
    have nDR : D ∉ [R] := fun h => by
      rw [List.mem_singleton.mp h] at nD
      exact (rowk (s8.trans s9) r7).dom nD
    refine ⟨_, rfl, [R], .ref D, row.map (·.2), rfl, intD_of (.of (by rw [hid_out nDR]; exact e10)), by rw [List.length_map]; omega, ha, fun H11 s11 => ⟨_, rfl, ?_⟩⟩
    refine ite2 (fun c => absurd c (by decide)) (fun _ => ?_)
    have L11 := L10.trans s11
    refine ⟨_, rfl, b, rfl, ⟨_, L11.seq gb⟩, fun D2 nD2 => ?_⟩
    refine lc_list (K := K) (a := b) (xs := ys) (fun m H' => Same H11 H' ∧ H' D2 = some (.lst ((List.replicate m false).map V.bl))) ?_ ?_ ?_ ?_
    · exact ⟨same_new nD2, upd_same⟩
    · rintro m H' _ ⟨s', _⟩
      exact (L11.trans s').seq gb
    · rintro m x H' hm ⟨s', e'⟩
      obtain ⟨d, hd1, hd2'⟩ := all_get hys hm
      rw [List.getElem?_map] at hd1
      obtain ⟨e, he, rfl⟩ := Option.map_eq_some_iff.mp hd1
      obtain ⟨t, sv, rfl, gt, dsv⟩ := entD_inv hd2'
      obtain ⟨he1, he2⟩ := hb e (List.mem_of_getElem? he)
      obtain ⟨sx, hsx1, dsx⟩ := all_at hsx (show ((stepsP p).map stepD)[e.2 - 1]? = some (stepD e.1) by rw [List.getElem?_map, he2]; rfl)
      have L' := L11.trans s'
      have hm' : m < row.length := (List.getElem?_eq_some_iff.mp he).1
      have ey : ((e.2 : Int) - 1) = ((e.2 - 1 : Nat) : Int) := by omega
      refine ⟨t, _, rfl, seqT L' gt, rfl, _, _, rfl, _, _, rfl, rfl, ?_⟩
      refine ⟨rfl, _, rfl, _, rfl, _, rfl, _, 1, rfl, rfl, sa, sxs, _, sx, rfl, rfl, L'.seq gs, at_of ey hsx1, stepD e.1, stepD e.1, Same.dp L' dsv, Same.dp L' dsx, stepD_shaped _, stepD_shaped _, _, rfl, ?_⟩
      rw [stepD_eqv]
      refine ite2 (fun c => absurd c (by simp)) (fun _ => ?_)
      refine ⟨_, rfl, _, 1, rfl, rfl, ?_⟩
      show ∃ acc, H' D2 = some (.lst acc) ∧ acc.length < sizeLine ∧ (Same H11 (upd H' D2 (.lst (acc ++ [V.bl (decide ((e.2 : Int) < 1))]))) ∧ (upd H' D2 (.lst (acc ++ [V.bl (decide ((e.2 : Int) < 1))]))) D2 = some (.lst ((List.replicate (m + 1) false).map V.bl)))
      rw [show decide ((e.2 : Int) < 1) = false from decide_eq_false (by omega)]
      refine ⟨_, e', line60 (by rw [List.length_map, List.length_replicate]; omega), same_put s' nD2, ?_⟩
      rw [upd_same, List.replicate_succ', List.map_append]
      rfl
    rintro H12 ⟨s12, e12⟩
    refine ⟨D2, _, rfl, .of e12, ?_⟩
    have ef : (List.replicate ys.length false).any id = false := by simp
    rw [ef]
    refine ⟨_, rfl, iteF ?_⟩
    exact ⟨_, _, rfl, s9.trans (s10.trans (s11.trans s12))⟩
  rintro σ H9 ⟨x5, x6, rfl, s9⟩
  have s79 := s8.trans s9
  have L9 : Same (hid [R] H7) H9 := hid_le.trans s79
  -- due
  refine ⟨_, rfl, aa, C, adx, _, _, rfl, L9 _ _ ga, TA.cl, TA.n1, auF_rows, _, rfl, aa, C, adx, _, _, rfl, L9 _ _ ga, TA.cl, TA.n2, auF_ends, (by show 2 ≤ sizeLine; decide), fun t nt => ?_⟩
  have w1 := same_new (o := .tup [.ref ra, .ref ea]) nt
  have s7a := s79.trans w1
  have ra' := rowk s7a r7
  refine ⟨_, rfl, _, rfl, [R], pv, .ref sa, p, rfl, dom ra', Same.dp (same_hid s7a) dp7, Same.dp (same_hid s7a) dst7, hdp, by omega, fun H10 rv s10 drv => ?_⟩
  rw [hrows, hends] at drv
  have dlay : (PyData.tuple [rowsD rows, natD ends]).canLay0 = true := by
    have h1 := rowsD_lay rows
    have h2 := intD_lay (zs ends)
    simp only [PyData.canLay0, PyData.canLayAll0]
    unfold natD
    rw [h1, h2]
    rfl
  have ddep : (PyData.tuple [rowsD rows, natD ends]).depth ≤ 64 := by
    have h1 := rowsD_depth rows
    have h2 := intD_depth (zs ends)
    simp only [PyData.depth, PyData.depthAll]
    unfold natD
    omega
  have dsh := shaped_of dlay ddep
  have dt : Dp K (hid [R] _) (.ref t) (.tuple [rowsD rows, natD ends]) := dp_newT (dom (rowk s79 r7)) nt (.cons (Same.dp (same_hid s79) du1) (.cons (Same.dp (same_hid s79) du2) .nil))
  refine ⟨.tuple [rowsD rows, natD ends], .tuple [rowsD rows, natD ends], Same.dp (hid_le.trans s10) dt, Same.dp hid_le drv, dsh, dsh, _, rfl, ?_⟩
  rw [SeqAt.eqv_refl _ dlay]
  refine iteF ?_
  have s7b := s7a.trans s10
  have r10 := rowk s7b r7
  -- near
  refine ⟨_, rfl, _, rfl, _, rfl, [R], R, 10000, .ref aa, pv, p, rows, ends, rfl, dom r10, mR, r10, hau.up (same_hid s7b), Same.dp (same_hid s7b) dp7, hdp, by omega, hWB, by omega, fun H11 ov rows' ends' b11 r11 aut' wf' => ?_⟩
  have b7 : But R H7 H11 := (Same.but s7b).tr b11
  -- words
  refine ⟨_, rfl, _, rfl, [R], R, 10000, pv, p, rfl, dom r11, mR, r11, Same.dp b7 dp7, hdp, by omega, fun H12 wv ws b12 r12 dws hws => ?_⟩
  have b712 := b7.tr b12
  obtain ⟨wa, wxs, rfl, gwa, hwa⟩ := list_inv dws
  refine ⟨wa, rfl, ⟨_, hid_le.seq gwa⟩, ?_⟩
  refine for_list (K := K) (a := wa) (xs := wxs) (fun i σ H13 => ∃ x8, σ = [some (.ref a), some (.ref R), some pv, some (.ref sa), some (.ref aa), x5, x6, some ov, x8, none, none] ∧ Same H12 H13) ?_ ?_ ?_ ?_
  · exact ⟨none, rfl, Same.refl _⟩
  · rintro i σ H13 _ ⟨_, _, s13⟩
    exact (hid_le.trans s13).seq gwa
  · rintro i xv σ H13 hi ⟨x8, rfl, s13⟩
    obtain ⟨d, hd1, hd2⟩ := all_get hwa hi
    rw [List.getElem?_map] at hd1
    obtain ⟨wd, hwd, rfl⟩ := Option.map_eq_some_iff.mp hd1
    have l10 := hws wd (List.mem_of_getElem? hwd)
    obtain ⟨wb, wys, rfl, gwb, hwb⟩ := list_inv hd2
    have b13 := b712.tr (Same.but s13)
    have r13 := rowk s13 r12
    refine ⟨_, rfl, _, rfl, wb, wys, rfl, .inl ((hid_le.trans s13).seq gwb), fun l nl => ?_⟩
    have v1 := same_new (o := .lst wys) nl
    have dl : Dp K (hid [R] (upd H13 l (.lst wys))) (.ref l) (wordD wd) := dp_new (dom r13) nl (Same.all (same_hid s13) hwb)
    refine ⟨[R], .ref aa, .ref l, rows, ends, wd, rfl, dom (rowk v1 r13), hau.up (b13.tr (Same.but v1)), dl, wfB, fun H14 s14 => ?_⟩
    have v2 := v1.trans s14
    have b14 := b13.tr (Same.but v2)
    have r14 := rowk v2 r13
    refine ⟨_, rfl, _, rfl, [R], pv, .ref wb, p, wd, rfl, dom r14, Same.dp b14 dp7, Same.dp (same_hid (s13.trans v2)) hd2, l10, hdp, fun H15 bb s15 hbb => ?_⟩
    have eb : accB rows ends wd = bb := Bool.eq_iff_iff.mpr ((spells_p wd).trans hbb.symm)
    refine ⟨rfl, _, rfl, ?_⟩
    rw [eb]
    refine ite2 (fun c => absurd c (by simp)) (fun _ => ?_)
    have v3 := v2.trans s15
    have r15 := rowk v3 r13
    have s125 := s13.trans v3
    -- the other one
    refine ⟨_, rfl, _, rfl, wb, wys, rfl, .inl ((hid_le.trans s125).seq gwb), fun l2 nl2 => ?_⟩
    have v4 := same_new (o := .lst wys) nl2
    have dl2 : Dp K (hid [R] (upd H15 l2 (.lst wys))) (.ref l2) (wordD wd) := dp_new (dom r15) nl2 (Same.all (same_hid s125) hwb)
    have b1215 : But R H11 H15 := b12.tr (Same.but s125)
    refine ⟨[R], ov, .ref l2, rows', ends', wd, rfl, dom (rowk v4 r15), aut'.up (b1215.tr (Same.but v4)), dl2, wf', fun H16 s16 => ?_⟩
    have v5 := v4.trans s16
    have r16 := rowk v5 r15
    refine ⟨_, rfl, _, rfl, [R], ov, .ref wb, rows', ends', wd, rfl, dom r16, aut'.up (b1215.tr (Same.but v5)), Same.dp (same_hid (s125.trans v5)) hd2, wf', fun H17 s17 => ?_⟩
    refine ⟨rfl, _, rfl, ?_⟩
    refine ite2 (fun c => absurd c (by simp)) (fun _ => ?_)
    exact ⟨_, rfl, s125.trans (v5.trans s17)⟩
  rintro σ H13 ⟨x8, rfl, s13⟩
  have b13 := b712.tr (Same.but s13)
  have r13 := rowk s13 r12
  refine ⟨_, rfl, [R], pv, p, rfl, dom r13, Same.dp b13 dp7, hdp, by omega, fun H14 r s14 aut2 => ?_⟩
  rw [hrows, hends] at aut2
  obtain ⟨aa2, adx2, t1, t2, rfl, ga2, dt1, dt2⟩ := aut2.ex
  have L14 : Same (hid [R] H7) H14 := (b13.tr (Same.but s14)).trans hid_le
  refine ⟨aa2, C, adx2, _, _, rfl, hid_le _ _ ga2, TA.cl, TA.n1, auF_rows, _, rfl, aa, C, adx, _, _, rfl, L14 _ _ ga, TA.cl, TA.n1, auF_rows, ?_⟩
  have rsh : SeqAt.shaped (rowsD rows) = true := shaped_of (rowsD_lay rows) (Nat.le_trans (rowsD_depth rows) (by decide))
  refine ⟨rowsD rows, rowsD rows, Same.dp hid_le dt1, Same.dp L14 du1, rsh, rsh, ?_⟩
  rw [SeqAt.eqv_refl _ (rowsD_lay rows)]
  exact q _
end
end Sk

set_option Elab.async false
set_option linter.all false
set_option maxRecDepth 100000
set_option maxHeartbeats 4000000
/-! Skewer, the walk: all defs together. -/
namespace Sk
open PySem L2
theorem depth_pos {α : Type} (p : Pg α) : 1 ≤ depthP p := by cases p <;> simp only [depthP] <;> omega
theorem FnOk.never {P : Program} {w : World} {K : PySem.W.Frag} {mg : Str → Option Value} {base : Heap} {j : Nat} {f : Addr} {fd : FuncData} {ps : List Str} {sp : Sp} (no : ∀ vs H Q E, ¬ sp vs H Q E) : FnOk P w K mg base CX0 j f fd ps sp :=
  ⟨fun vs H Q E h => absurd h (no vs H Q E), fun A outer s H args us vs Q E _ _ _ _ h => absurd h (no vs H Q E)⟩
/-- a def of the top, by its name -/
structure DefAt (K : PySem.W.Frag) (mg : Str → Option Value) (x : Str) (st : Stmt) : Prop where
  ex : ∃ f fd, Fun K x x st f fd ∧ mg x = some (.ref f)
abbrev BindsAll (x : Str) (st : Stmt) (ps : List Str) : Prop := ∀ (kV doc pm : Value) (an : Option Addr) (cdv ct : Value) (us : List Value), us.length = ps.length → bindArgs (PySem.W.fnOf x x (defArgs st) (defBody st) (defScope st) .none kV doc pm an cdv ct) ⟨us, []⟩ = pure (ps.zip us)
section
variable {P : Program} {w : World} {K : PySem.W.Frag} {mg : Str → Option Value} {base : Heap} {x : Str} {st : Stmt} {ps : List Str} {sp : Sp}
theorem def_mk {h : Heap} {f : Addr} {oc : Value} {od an : Option Addr} {sl : Array (Option Value)} {kV dc pm cd ct : Value} (X : K.In h) (G : h.Ns mainGlobals mg) (a : PySem.W.nsIn K mainGlobals x = some (some (.ref f)))
    (l : K.lookup f = some ⟨oc, od, .func (PySem.W.fnOf x x (defArgs st) (defBody st) (defScope st) .none kV dc pm an cd ct), sl⟩) (c : PySem.W.codeIn K cd x = true) (k : PySem.W.keepIn K (.ref f) = true) : DefAt K mg x st :=
  ⟨f, _, fun_mk l c k, PySem.W.mg_of X G a⟩
theorem Callee.mono {j k : Nat} (C : Callee P w K mg base j x ps sp) (h : j ≤ k) : Callee P w K mg base k x ps sp := by
  obtain ⟨f, fd, F, r⟩ := C.ex
  exact ⟨f, fd, F.mono h, r⟩
theorem callee {k : Nat} (D : DefAt K mg x st) (hb : BindsAll x st ps) (h : ∀ f fd, Fun K x x st f fd → FnOk P w K mg base CX0 k f fd ps sp) : Callee P w K mg base k x ps sp := by
  obtain ⟨f, fd, F, m⟩ := D.ex
  exact ⟨f, fd, h f fd F, F.binds hb, F.kp, m⟩
theorem recur (D : DefAt K mg x st) (hb : BindsAll x st ps) (spn : Nat → Sp) (j : Nat) (h0 : ∀ vs H Q E, ¬ spn 0 vs H Q E)
    (hs : ∀ (n : Nat) f fd, Fun K x x st f fd → Callee P w K mg base (j + n) x ps (spn n) → FnOk P w K mg base CX0 (j + n + 1) f fd ps (spn (n + 1))) (n : Nat) : Callee P w K mg base (j + n) x ps (spn n) := by
  obtain ⟨f, fd, F, m⟩ := D.ex
  have b := F.binds hb
  induction n with
  | zero => exact ⟨f, fd, FnOk.never h0, b, F.kp, m⟩
  | succ n ih => exact ⟨f, fd, hs n f fd F ih, b, F.kp, m⟩
end
/-- the defs of the top -/
structure Top (K : PySem.W.Frag) (mg : Str → Option Value) : Prop where
  d1 : DefAt K mg "steps_of" sStepsOf
  d2 : DefAt K mg "nothing" sNothing
  d3 : DefAt K mg "in_order" sInOrder
  d4 : DefAt K mg "one_of" sOneOf
  d5 : DefAt K mg "places" sPlaces
  d6 : DefAt K mg "build_for" sBuildFor
  d7 : DefAt K mg "spells" sSpells
  d8 : DefAt K mg "_law_mix" sMix
  d9 : DefAt K mg "_law_numbers" sNumbers
  d10 : DefAt K mg "_law_take" sTake
  d11 : DefAt K mg "_law_step" sStep
  d12 : DefAt K mg "_law_part" sPart
  d13 : DefAt K mg "_law_behind" sBehind
  d14 : DefAt K mg "_law_spelled" sSpelled
  d15 : DefAt K mg "_law_steps" sSteps
  d16 : DefAt K mg "_law_words" sWords
  d17 : DefAt K mg "_law_walked" sWalked
  d18 : DefAt K mg "_law_near" sNear
  d19 : DefAt K mg "_law_row_outline" sRowOut
  d20 : DefAt K mg "_law_outline" sOutline
  d21 : DefAt K mg "_law_due" sDue
  d22 : DefAt K mg "_law_ascends" sAscends
section
variable {P : Program} {w : World} {K : PySem.W.Frag} {mg : Str → Option Value} {base : Heap} {C CP : Addr}
theorem all_ok (D : Top K mg) (T : Txt K mg) (TP : PlTxt P w K mg base 1 CP) (TA : AuTxt P w K mg base 1 C) : All P w K mg base C 13 := by
  have cNo : Callee P w K mg base 3 "nothing" [] (spNothing K CP) := callee D.d2 (fun _ _ _ _ _ _ us hl => match us, hl with | [], _ => rfl) fun f fd F => ok_nothing F TP
  have cIn : Callee P w K mg base 4 "in_order" ["parts"] (spParts K CP inOrder) := callee D.d3 (fun _ _ _ _ _ _ us hl => match us, hl with | [_], _ => rfl) fun f fd F => ok_inOrder F T TP cNo
  have cOn : Callee P w K mg base 4 "one_of" ["parts"] (spParts K CP oneOf) := callee D.d4 (fun _ _ _ _ _ _ us hl => match us, hl with | [_], _ => rfl) fun f fd F => ok_oneOf F T TP cNo
  have no1 : ∀ vs H Q E, ¬ spSteps K 0 vs H Q E := fun vs H Q E h => by
    obtain ⟨Z, v, p, _, _, _, h1, _⟩ := h
    have := depth_pos p
    omega
  have cSO : ∀ n, Callee P w K mg base n "steps_of" ["program"] (spSteps K n) := fun n => by
    have := recur (base := base) (P := P) (w := w) (ps := ["program"]) D.d1 (fun _ _ _ _ _ _ us hl => match us, hl with | [_], _ => rfl) (spSteps K) 0 no1 (fun n f fd F c => by
      rw [Nat.zero_add] at c ⊢
      exact ok_stepsOf F T c) n
    rwa [Nat.zero_add] at this
  have cSt : ∀ n, Callee P w K mg base n "_law_steps" ["_law_program"] (spSteps K n) := fun n => by
    have := recur (base := base) (P := P) (w := w) (ps := ["_law_program"]) D.d15 (fun _ _ _ _ _ _ us hl => match us, hl with | [_], _ => rfl) (spSteps K) 0 no1 (fun n f fd F c => by
      rw [Nat.zero_add] at c ⊢
      exact ok_steps F c) n
    rwa [Nat.zero_add] at this
  have cPl : Callee P w K mg base 12 "places" ["program", "before"] (spPlaces K CP 6) := recur D.d5 (fun _ _ _ _ _ _ us hl => match us, hl with | [_, _], _ => rfl) (spPlaces K CP) 6 (fun vs H Q E h => by
    obtain ⟨Z, v, b, p, _, _, _, h1, _⟩ := h
    have := depth_pos p
    omega) (fun n f fd F c => ok_places F T TP (by omega) ((cSO n).mono (by omega)) (cIn.mono (by omega)) (cOn.mono (by omega)) c) 6
  have cBu : Callee P w K mg base 13 "build_for" ["program"] (spBuild K C) := callee D.d6 (fun _ _ _ _ _ _ us hl => match us, hl with | [_], _ => rfl) fun f fd F => ok_build F T TP TA (by decide) ((cSO 6).mono (by decide)) cPl
  have cSp : Callee P w K mg base 1 "spells" ["automaton", "row"] (spSpells K C) := callee D.d7 (fun _ _ _ _ _ _ us hl => match us, hl with | [_, _], _ => rfl) fun f fd F => ok_spells F T TA
  have cWa : Callee P w K mg base 1 "_law_walked" ["_law_automaton", "_law_word"] (spSpells K C) := callee D.d17 (fun _ _ _ _ _ _ us hl => match us, hl with | [_, _], _ => rfl) fun f fd F => ok_walked F T TA
  have cMi : Callee P w K mg base 1 "_law_mix" ["_law_number", "_law_k"] spMix := callee D.d8 (fun _ _ _ _ _ _ us hl => match us, hl with | [_, _], _ => rfl) fun f fd F => ok_mix F T
  have cNu : Callee P w K mg base 2 "_law_numbers" ["_law_script", "_law_count"] (spNumbers K) := callee D.d9 (fun _ _ _ _ _ _ us hl => match us, hl with | [_, _], _ => rfl) fun f fd F => ok_numbers F T cMi
  have cTa : Callee P w K mg base 1 "_law_take" ["_law_row", "_law_bound"] spTake := callee D.d10 (fun _ _ _ _ _ _ us hl => match us, hl with | [_, _], _ => rfl) fun f fd F => ok_take F T
  have cSe : Callee P w K mg base 2 "_law_step" ["_law_row", "_law_ways", "_law_kinds"] (spStep K) := callee D.d11 (fun _ _ _ _ _ _ us hl => match us, hl with | [_, _, _], _ => rfl) fun f fd F => ok_step F cTa
  have cPa : Callee P w K mg base 6 "_law_part" ["_law_row", "_law_depth", "_law_ways", "_law_kinds"] (spPart K 4) := recur D.d12 (fun _ _ _ _ _ _ us hl => match us, hl with | [_, _, _, _], _ => rfl) (spPart K) 2 (fun vs H Q E h => by
    obtain ⟨Z, R, m, d, a, b, _, _, _, _, _, _, h1, _⟩ := h
    omega) (fun n f fd F c => ok_part F T (cTa.mono (by omega)) (cSe.mono (by omega)) c) 4
  have cBe : Callee P w K mg base 6 "_law_behind" ["_law_program", "_law_row", "_law_starts"] (spBehind K 6) := by
    have := recur (base := base) (P := P) (w := w) (ps := ["_law_program", "_law_row", "_law_starts"]) D.d13 (fun _ _ _ _ _ _ us hl => match us, hl with | [_, _, _], _ => rfl) (spBehind K) 0 (fun vs H Q E h => by
      obtain ⟨Z, pv, wv, sv, p, w, S, _, _, _, _, _, _, _, _, h1, _⟩ := h
      have := depth_pos p
      omega) (fun n f fd F c => ok_behind F T c) 6
    rwa [Nat.zero_add] at this
  have cSd : Callee P w K mg base 7 "_law_spelled" ["_law_program", "_law_row"] (spSpelled K) := callee D.d14 (fun _ _ _ _ _ _ us hl => match us, hl with | [_, _], _ => rfl) fun f fd F => ok_spelled F T cBe
  have cWo : Callee P w K mg base 7 "_law_words" ["_law_row", "_law_program"] (spWords K) := callee D.d16 (fun _ _ _ _ _ _ us hl => match us, hl with | [_, _], _ => rfl) fun f fd F => ok_words F T (cTa.mono (by decide)) (cSt 6)
  have cNe : Callee P w K mg base 7 "_law_near" ["_law_row", "_law_automaton", "_law_program"] (spNear K C) := callee D.d18 (fun _ _ _ _ _ _ us hl => match us, hl with | [_, _, _], _ => rfl) fun f fd F => ok_near F T TA (by decide) (cTa.mono (by decide)) (cSt 6)
  have cRo : Callee P w K mg base 1 "_law_row_outline" ["_law_parts"] (spRowOut K) := callee D.d19 (fun _ _ _ _ _ _ us hl => match us, hl with | [_], _ => rfl) fun f fd F => ok_rowOut F T
  have cOu : Callee P w K mg base 12 "_law_outline" ["_law_program", "_law_place"] (spOutline K 6) := recur D.d20 (fun _ _ _ _ _ _ us hl => match us, hl with | [_, _], _ => rfl) (spOutline K) 6 (fun vs H Q E h => by
    obtain ⟨Z, v, b, p, _, _, _, h1, _⟩ := h
    have := depth_pos p
    omega) (fun n f fd F c => ok_outline F T ((cSt n).mono (by omega)) (cRo.mono (by omega)) c) 6
  have cDu : Callee P w K mg base 13 "_law_due" ["_law_program", "_law_steps_here"] (spDue K) := callee D.d21 (fun _ _ _ _ _ _ us hl => match us, hl with | [_, _], _ => rfl) fun f fd F => ok_due F T cOu
  have cAs : Callee P w K mg base 1 "_law_ascends" ["_law_numbers_here"] (spAsc K) := callee D.d22 (fun _ _ _ _ _ _ us hl => match us, hl with | [_], _ => rfl) fun f fd F => ok_ascends F T
  exact ⟨cNu.mono (by decide), cPa.mono (by decide), cTa.mono (by decide), (cSt 6).mono (by decide), (cSO 6).mono (by decide), cBu, cAs.mono (by decide), cDu, cNe.mono (by decide), cWo.mono (by decide), cSp.mono (by decide), cSd.mono (by decide), cWa.mono (by decide)⟩
end
/-! ### the classes -/
structure ClsTop (K : PySem.W.Frag) (C f : Addr) : Prop where
  cl : Cls K C
  make : Mk K C f
theorem pl_mk {P : Program} {w : World} {K : PySem.W.Frag} {mg : Str → Option Value} {base : Heap} {C f T : Addr} {oc tc : Value} {od an td : Option Addr} {sl tsl : Array (Option Value)} {kV dc pm cd ct : Value} {tn : Nat} (c : ClsTop K C f)
    (l : K.lookup f = some ⟨oc, od, .func (PySem.W.fnOf "__init__" "Places.__init__" (defArgs sPlaces0) (defBody sPlaces0) (defScope sPlaces0) (.ref T) kV dc pm an cd ct), sl⟩) (cc : PySem.W.codeIn K cd "Places.__init__" = true) (k : PySem.W.keepIn K (.ref f) = true)
    (lt : K.lookup T = some ⟨tc, td, .seq #[.bool true] tn, tsl⟩)
    (n1 : NoAttr K C "first") (n2 : NoAttr K C "last") (n3 : NoAttr K C "is_empty") (n4 : NoAttr K C "pairs") (n5 : NoAttr K C "spells_any") (m : mg "Places" = some (.ref C)) : PlTxt P w K mg base 1 C := by
  have F : FunD K "__init__" "Places.__init__" (defArgs sPlaces0) (defBody sPlaces0) (defScope sPlaces0) [.bl true] [] f _ := ⟨⟨oc, od, .ref T, kV, dc, pm, an, cd, ct, sl, rfl, l, cc, .inr ⟨List.cons_ne_nil _ _, T, _, [.bool true], tn, rfl, lt, rfl, .cons rfl .nil⟩, .inl rfl⟩, k⟩
  obtain ⟨ds0, v0, b0⟩ := F.binds1 (ps := plPs) 6 1 (List.cons_ne_nil _ _) rfl fun T kV doc pm an cdv ct us its hu hi => match us, hu, its, hi with | [_, _, _, _, _, _], _, [_], _ => ⟨_, rfl, rfl⟩
  obtain ⟨ds1, v1, b1⟩ := F.binds1 (ps := plPs) 5 0 (List.cons_ne_nil _ _) rfl fun T kV doc pm an cdv ct us its hu hi => match us, hu, its, hi with | [_, _, _, _, _], _, [_], _ => ⟨_, rfl, rfl⟩
  cases v0
  exact ⟨c.cl, n1, n2, n3, n4, n5, m, f, _, ds1, c.make, ok_pl F c.cl n1 n2 n3 n4 n5, b0, b1, v1⟩
end Sk

set_option Elab.async false
set_option linter.all false
set_option maxRecDepth 100000
set_option maxHeartbeats 4000000
/-! Skewer, the walk: what the top has written, and the law's own head. -/
namespace Sk
open PySem L2
def strsB : List Str → List Value → Bool
  | [], [] => true
  | x :: xs, .str y _ :: us => decide (x = y) && strsB xs us
  | _, _ => false
theorem strsB_ok : ∀ {xs : List Str} {us : List Value}, strsB xs us = true → Vals (xs.map V.str) us
  | [], [], _ => .nil
  | [], _ :: _, h => by cases h
  | _ :: _, [], h => by cases h
  | x :: xs, u :: us, h => by
    cases u with
    | str y t =>
      obtain ⟨h1, h2⟩ := Bool.and_eq_true_iff.mp (show (decide (x = y) && strsB xs us) = true from h)
      have e : x = y := of_decide_eq_true h1
      exact .cons ⟨t, by rw [e]⟩ (strsB_ok h2)
    | _ => cases h
theorem cls_mk {K : PySem.W.Frag} {C f : Addr} (i : PySem.W.findIn K (.ref C) "__init__" = some (some (.ref f))) (fn : PySem.W.isFn K (.ref f) = true)
    (pg : PySem.W.plainGet K C Str.empty = true) (hd : PySem.W.hasDictIn K C = true) (po : PySem.W.plainOver K C = true) (sa : PySem.W.findIn K (.ref C) "__setattr__" = some (some (.builtin "object.__setattr__"))) (mk : PySem.W.makesIn K C = true) (kc : PySem.W.keepIn K (.ref C) = true) : ClsTop K C f :=
  ⟨⟨pg, hd, po, sa⟩, ⟨mk, i, fn, kc⟩⟩
theorem all_mk {l : PySem.W.OpenLaw} {w : World} {K : PySem.W.Frag} {h : Heap} {mg : Str → Option Value} {fa f C fC CP fP T aS : Addr} (X : K.In h) (G : h.Ns mainGlobals mg) (hfa : mg "law" = some (.ref fa))
    {od an odC anC odP anP tdd sd : Option Addr} {sl slC slP tsl ssl : Array (Option Value)} {oc kV dc pm cd ct ocC kVC dcC pmC cdC ctC ocP kVP dcP pmP cdP ctP tc : Value} {tn sn : Nat} {its : Array Value} (D : Top K mg)
    (a0 : PySem.W.nsIn K mainGlobals "law" = some (some (.ref f))) (l0 : K.lookup f = some ⟨oc, od, .func (PySem.W.fnOf "law" "law" (defArgs sLaw) (defBody sLaw) (defScope sLaw) .none kV dc pm an cd ct), sl⟩) (c0 : PySem.W.codeIn K cd "law" = true) (k0 : PySem.W.keepIn K (.ref f) = true)
    (aC : PySem.W.nsIn K mainGlobals "Automaton" = some (some (.ref C))) (clC : ClsTop K C fC)
    (lC : K.lookup fC = some ⟨ocC, odC, .func (PySem.W.fnOf "__init__" "Automaton.__init__" (defArgs sAuto) (defBody sAuto) (defScope sAuto) .none kVC dcC pmC anC cdC ctC), slC⟩) (cC : PySem.W.codeIn K cdC "Automaton.__init__" = true) (kC : PySem.W.keepIn K (.ref fC) = true)
    (nR : PySem.W.findIn K (.ref C) "rows" = some none) (nE : PySem.W.findIn K (.ref C) "ends" = some none)
    (aP : PySem.W.nsIn K mainGlobals "Places" = some (some (.ref CP))) (clP : ClsTop K CP fP)
    (lP : K.lookup fP = some ⟨ocP, odP, .func (PySem.W.fnOf "__init__" "Places.__init__" (defArgs sPlaces0) (defBody sPlaces0) (defScope sPlaces0) (.ref T) kVP dcP pmP anP cdP ctP), slP⟩) (cP : PySem.W.codeIn K cdP "Places.__init__" = true) (kP : PySem.W.keepIn K (.ref fP) = true)
    (lT : K.lookup T = some ⟨tc, tdd, .seq #[.bool true] tn, tsl⟩)
    (n1 : PySem.W.findIn K (.ref CP) "first" = some none) (n2 : PySem.W.findIn K (.ref CP) "last" = some none) (n3 : PySem.W.findIn K (.ref CP) "is_empty" = some none) (n4 : PySem.W.findIn K (.ref CP) "pairs" = some none) (n5 : PySem.W.findIn K (.ref CP) "spells_any" = some none)
    (s1 : PySem.W.nsIn K mainGlobals "STEPS" = some (some (.ref aS))) (s2 : K.lookup aS = some ⟨.type "tuple", sd, .seq its sn, ssl⟩) (s3 : strsB stepNames its.toList = true) (s4 : Nat.ble its.size 1000 = true)
    (z1 : PySem.W.nsIn K mainGlobals "list" = some none) (z2 : PySem.W.nsIn K mainGlobals "all" = some none) (z3 : PySem.W.nsIn K mainGlobals "any" = some none) (z4 : PySem.W.nsIn K mainGlobals "len" = some none)
    (z5 : PySem.W.nsIn K mainGlobals "range" = some none) (z6 : PySem.W.nsIn K mainGlobals "int" = some none) (z7 : PySem.W.nsIn K mainGlobals "sorted" = some none) (z8 : PySem.W.nsIn K mainGlobals "set" = some none) :
    ∃ fd : FuncData, (∀ (s : Shared) (v : Value), BindsTo s fd ⟨[v], []⟩ [("_law_script", v)]) ∧ ∀ base : Heap, K.In base → base.Ns mainGlobals mg → FnOk l.prog w K mg base CX0 14 fa fd ["_law_script"] (spLaw K) := by
  have e := hfa.symm.trans (PySem.W.mg_of X G a0)
  cases e
  have F := fun_mk (st := sLaw) l0 c0 k0
  have FC := fun_mk (st := sAuto) lC cC kC
  have bC := FC.binds (ps := auPs) fun _ _ _ _ _ _ us hl => match us, hl with | [_, _, _], _ => rfl
  have TX : Txt K mg := ⟨PySem.W.mg_none_of X G z1, PySem.W.mg_none_of X G z2, PySem.W.mg_none_of X G z3, PySem.W.mg_none_of X G z4, PySem.W.mg_none_of X G z5, PySem.W.mg_none_of X G z6, PySem.W.mg_none_of X G z7, PySem.W.mg_none_of X G z8,
    aS, PySem.W.mg_of X G s1, fun H => .inr ⟨_, its, sn, s2, rfl, rfl, Nat.le_of_lt (line60 (Nat.le_trans (Nat.le_of_ble_eq_true s4) (by decide))), strsB_ok s3⟩⟩
  refine ⟨PySem.W.fnOf "law" "law" (defArgs sLaw) (defBody sLaw) (defScope sLaw) .none kV dc pm an cd ct, fun s v => .of_eq rfl, fun base _ _ => ?_⟩
  have TP : PlTxt l.prog w K mg base 1 CP := pl_mk clP lP cP kP lT n1 n2 n3 n4 n5 (PySem.W.mg_of X G aP)
  have TA : AuTxt l.prog w K mg base 1 C := ⟨clC.cl, nR, nE, PySem.W.mg_of X G aC, fC, _, clC.make, ok_au FC TX clC.cl nR nE, bC⟩
  exact ok_law F TX TA (all_ok D TX TP TA)
theorem walk {l : PySem.W.OpenLaw} {q : Program} {loose : List Str} {XP : (Str → Option Value) → Heap → Prop} {YP : World → Heap → Prop} {d : DefRec} {K : Params → PySem.W.Frag} (hn : l.most = some 63) (hdf : d.params.defaults = [])
    (hY : ∀ (w : World) (h : Heap), YP w h → (K w.params).In h)
    (F : ∀ (w : World) (mg : Str → Option Value) (fa : Addr) (h : Heap), (K w.params).In h → h.Ns mainGlobals mg → mg d.name = some (.ref fa) →
      ∃ fd : FuncData, (∀ (s : Shared) (u : Value), BindsTo s fd ⟨[u], []⟩ [("_law_script", u)]) ∧ ∀ base : Heap, (K w.params).In base → base.Ns mainGlobals mg → FnOk l.prog w (K w.params) mg base CX0 14 fa fd ["_law_script"] (spLaw (K w.params))) :
    PySem.W.WalkO q loose XP YP l.row.toRowW d [] (fun f vs => PySem.call f vs) :=
  L2.walk_of (n := 63) (k := 14) (x := "_law_script") (CX := fun _ => CX0) (sp := fun w => spLaw (K w.params)) hn (by decide) hdf ⟨rfl, by decide, by decide⟩ hY F (fun _ _ a ns hl _ hS => ⟨a, ns, rfl, hS, hl, fun _ => rfl⟩) fun _ _ _ _ _ z => z
end Sk
open PySem PySem.W PyProof.Rows
set_option maxRecDepth 100000 in
set_option maxHeartbeats 0 in
theorem PySem.Challenge.cw_skewer_k16_whole_built_automata_spell_holds : PySem.Challenge.rw_skewer_k16_whole_built_automata_spell.Holds := by
  w_on; o_law; k_head; (case hw => w_witness2)
  k_fill
  refine Sk.walk (l := PySem.Challenge.rw_skewer_k16_whole_built_automata_spell) rfl rfl (fun w h Y => PySem.W.kIn_of Y) ?F
  case F =>
    intro w mg fa h KX G hmg
    refine' Sk.all_mk KX G hmg ⟨?d1, ?d2, ?d3, ?d4, ?d5, ?d6, ?d7, ?d8, ?d9, ?d10, ?d11, ?d12, ?d13, ?d14, ?d15, ?d16, ?d17, ?d18, ?d19, ?d20, ?d21, ?d22⟩ ?a0 ?l0 ?c0 ?k0 ?aC ?clC ?lC ?cC ?kC ?nR ?nE ?aP ?clP ?lP ?cP ?kP ?lT ?n1 ?n2 ?n3 ?n4 ?n5 ?s1 ?s2 ?s3 ?s4 ?z1 ?z2 ?z3 ?z4 ?z5 ?z6 ?z7 ?z8
    (case d1 => (refine' Sk.def_mk KX G ?a ?l ?c ?k; (case a => k_is); (case l => k_is); (case c => k_is); (case k => k_is)))
    (case d2 => (refine' Sk.def_mk KX G ?a ?l ?c ?k; (case a => k_is); (case l => k_is); (case c => k_is); (case k => k_is)))
    (case d3 => (refine' Sk.def_mk KX G ?a ?l ?c ?k; (case a => k_is); (case l => k_is); (case c => k_is); (case k => k_is)))
    (case d4 => (refine' Sk.def_mk KX G ?a ?l ?c ?k; (case a => k_is); (case l => k_is); (case c => k_is); (case k => k_is)))
    (case d5 => (refine' Sk.def_mk KX G ?a ?l ?c ?k; (case a => k_is); (case l => k_is); (case c => k_is); (case k => k_is)))
    (case d6 => (refine' Sk.def_mk KX G ?a ?l ?c ?k; (case a => k_is); (case l => k_is); (case c => k_is); (case k => k_is)))
    (case d7 => (refine' Sk.def_mk KX G ?a ?l ?c ?k; (case a => k_is); (case l => k_is); (case c => k_is); (case k => k_is)))
    (case d8 => (refine' Sk.def_mk KX G ?a ?l ?c ?k; (case a => k_is); (case l => k_is); (case c => k_is); (case k => k_is)))
    (case d9 => (refine' Sk.def_mk KX G ?a ?l ?c ?k; (case a => k_is); (case l => k_is); (case c => k_is); (case k => k_is)))
    (case d10 => (refine' Sk.def_mk KX G ?a ?l ?c ?k; (case a => k_is); (case l => k_is); (case c => k_is); (case k => k_is)))
    (case d11 => (refine' Sk.def_mk KX G ?a ?l ?c ?k; (case a => k_is); (case l => k_is); (case c => k_is); (case k => k_is)))
    (case d12 => (refine' Sk.def_mk KX G ?a ?l ?c ?k; (case a => k_is); (case l => k_is); (case c => k_is); (case k => k_is)))
    (case d13 => (refine' Sk.def_mk KX G ?a ?l ?c ?k; (case a => k_is); (case l => k_is); (case c => k_is); (case k => k_is)))
    (case d14 => (refine' Sk.def_mk KX G ?a ?l ?c ?k; (case a => k_is); (case l => k_is); (case c => k_is); (case k => k_is)))
    (case d15 => (refine' Sk.def_mk KX G ?a ?l ?c ?k; (case a => k_is); (case l => k_is); (case c => k_is); (case k => k_is)))
    (case d16 => (refine' Sk.def_mk KX G ?a ?l ?c ?k; (case a => k_is); (case l => k_is); (case c => k_is); (case k => k_is)))
    (case d17 => (refine' Sk.def_mk KX G ?a ?l ?c ?k; (case a => k_is); (case l => k_is); (case c => k_is); (case k => k_is)))
    (case d18 => (refine' Sk.def_mk KX G ?a ?l ?c ?k; (case a => k_is); (case l => k_is); (case c => k_is); (case k => k_is)))
    (case d19 => (refine' Sk.def_mk KX G ?a ?l ?c ?k; (case a => k_is); (case l => k_is); (case c => k_is); (case k => k_is)))
    (case d20 => (refine' Sk.def_mk KX G ?a ?l ?c ?k; (case a => k_is); (case l => k_is); (case c => k_is); (case k => k_is)))
    (case d21 => (refine' Sk.def_mk KX G ?a ?l ?c ?k; (case a => k_is); (case l => k_is); (case c => k_is); (case k => k_is)))
    (case d22 => (refine' Sk.def_mk KX G ?a ?l ?c ?k; (case a => k_is); (case l => k_is); (case c => k_is); (case k => k_is)))
    (case a0 => k_is)
    (case l0 => k_is)
    (case c0 => k_is)
    (case k0 => k_is)
    (case aC => k_is)
    (case clC => (refine' Sk.cls_mk ?i ?fn ?pg ?hd ?po ?sa ?mk ?kc; (case i => k_is); (case fn => k_is); (case pg => k_is); (case hd => k_is); (case po => k_is); (case sa => k_is); (case mk => k_is); (case kc => k_is)))
    (case lC => k_is)
    (case cC => k_is)
    (case kC => k_is)
    (case nR => k_is)
    (case nE => k_is)
    (case aP => k_is)
    (case clP => (refine' Sk.cls_mk ?i ?fn ?pg ?hd ?po ?sa ?mk ?kc; (case i => k_is); (case fn => k_is); (case pg => k_is); (case hd => k_is); (case po => k_is); (case sa => k_is); (case mk => k_is); (case kc => k_is)))
    (case lP => k_is)
    (case cP => k_is)
    (case kP => k_is)
    (case lT => k_is)
    (case n1 => k_is)
    (case n2 => k_is)
    (case n3 => k_is)
    (case n4 => k_is)
    (case n5 => k_is)
    (case s1 => k_is)
    (case s2 => k_is)
    (case s3 => first | k_is | decide +kernel)
    (case s4 => first | k_is | decide +kernel)
    (case z1 => k_is)
    (case z2 => k_is)
    (case z3 => k_is)
    (case z4 => k_is)
    (case z5 => k_is)
    (case z6 => k_is)
    (case z7 => k_is)
    (case z8 => k_is)
