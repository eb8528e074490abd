import PyProof.Rows.All
import Wide.All
import OpenK.AllK
import Wide.FinOn
import HandS.ForMost
import HandS.SortOrd
import HandS.SortRule
import KE.KSortTupAny
import HandS.Zip
import HandS.SetKeys
import PyProof.Rows.SetFrom
import HandS.Walk
import KE.GoesMore
import HandS.Defaults
import HandS.IsInst
import HandS.DictComp
import HandS.More
import HandS.Flow
import HandS.TupAny
import HandS.Style
import HandS.Strs
import HandS.WordsDict
import HandS.Base
import HandS.Call
import HandS.Ends
import HandS.Words
import HandS.WordsExc
import HandS.Head0
import HandS.Head1
import HandS.Head2
import HandS.HeadEnd
import HandS.HeadHook1
import HandS.HeadHook2
import PySem.Challenge.RW_joinlags_k11_whole_other_names
set_option linter.all false
/-! Plain mathematics, first part: lists, orders, groups (no program here). -/
namespace JM
/-- a strict total order -/
structure Sto {α : Type} (lt : α → α → Prop) : Prop where
  irr : ∀ x, ¬ lt x x
  tr : ∀ x y z, lt x y → lt y z → lt x z
  tri : ∀ x y, lt x y ∨ x = y ∨ lt y x
section
variable {α β : Type} {lt : α → α → Prop}
theorem Sto.asym (O : Sto lt) {x y : α} (h : lt x y) : ¬ lt y x := fun k => O.irr x (O.tr x y x h k)
/-- two ascending lists with the same members are one -/
theorem asc_uniq (O : Sto lt) : ∀ {l m : List α}, l.Pairwise lt → m.Pairwise lt → (∀ x, x ∈ l ↔ x ∈ m) → l = m
  | [], [], _, _, _ => rfl
  | [], y :: m, _, _, h => absurd ((h y).mpr List.mem_cons_self) (by simp)
  | x :: l, [], _, _, h => absurd ((h x).mp List.mem_cons_self) (by simp)
  | x :: l, y :: m, hl, hm, h => by
    obtain ⟨hl1, hl2⟩ := List.pairwise_cons.mp hl
    obtain ⟨hm1, hm2⟩ := List.pairwise_cons.mp hm
    have e : x = y := by
      have a := (h x).mp List.mem_cons_self
      have b := (h y).mpr List.mem_cons_self
      rcases List.mem_cons.mp a with a | a
      · exact a
      rcases List.mem_cons.mp b with b | b
      · exact b.symm
      exact absurd (hm1 x a) (O.asym (hl1 y b))
    subst e
    have q : l = m := asc_uniq O hl2 hm2 fun z => by
      constructor
      · intro hz
        rcases List.mem_cons.mp ((h z).mp (List.mem_cons_of_mem _ hz)) with e | k
        · subst e
          exact absurd (hl1 z hz) (O.irr z)
        · exact k
      · intro hz
        rcases List.mem_cons.mp ((h z).mpr (List.mem_cons_of_mem _ hz)) with e | k
        · subst e
          exact absurd (hm1 z hz) (O.irr z)
        · exact k
    rw [q]
theorem asc_nodup (O : Sto lt) {l : List α} (h : l.Pairwise lt) : l.Nodup := h.imp fun {x y} k e => by
  subst e
  exact O.irr _ k
/-- sorted and without doubles: ascending -/
theorem asc_of (O : Sto lt) {l : List α} (h : l.Pairwise fun x y => ¬ lt y x) (n : l.Nodup) : l.Pairwise lt := by
  induction l with
  | nil => exact List.Pairwise.nil
  | cons x l ih =>
    obtain ⟨a, b⟩ := List.pairwise_cons.mp h
    obtain ⟨c, d⟩ := List.nodup_cons.mp n
    refine List.pairwise_cons.mpr ⟨fun y hy => ?_, ih b d⟩
    rcases O.tri x y with k | k | k
    · exact k
    · subst k
      exact absurd hy c
    · exact absurd k (a y hy)
/-- lists by their first difference -/
def lexlt (lt : α → α → Prop) : List α → List α → Prop
  | _, [] => False
  | [], _ :: _ => True
  | x :: l, y :: m => lt x y ∨ (x = y ∧ lexlt lt l m)
theorem lex_sto (O : Sto lt) : Sto (lexlt lt) := by
  refine ⟨fun l => ?_, fun l => ?_, fun l => ?_⟩
  · induction l with
    | nil => exact fun h => h
    | cons x l ih =>
      intro h
      rcases h with h | ⟨_, h⟩
      · exact O.irr x h
      · exact ih h
  · induction l with
    | nil =>
      intro m n h k
      cases m with
      | nil => exact h.elim
      | cons y m =>
        cases n with
        | nil => exact k.elim
        | cons z n => exact trivial
    | cons x l ih =>
      intro m n h k
      cases m with
      | nil => exact h.elim
      | cons y m =>
        cases n with
        | nil => exact k.elim
        | cons z n =>
          rcases h with h | ⟨e, h⟩
          · rcases k with k | ⟨e, k⟩
            · exact Or.inl (O.tr _ _ _ h k)
            · subst e
              exact Or.inl h
          · subst e
            rcases k with k | ⟨e, k⟩
            · exact Or.inl k
            · exact Or.inr ⟨e, ih _ _ h k⟩
  · induction l with
    | nil =>
      intro m
      cases m with
      | nil => exact Or.inr (Or.inl rfl)
      | cons y m => exact Or.inl trivial
    | cons x l ih =>
      intro m
      cases m with
      | nil => exact Or.inr (Or.inr trivial)
      | cons y m =>
        rcases O.tri x y with h | h | h
        · exact Or.inl (Or.inl h)
        · subst h
          rcases ih m with h | h | h
          · exact Or.inl (Or.inr ⟨rfl, h⟩)
          · exact Or.inr (Or.inl (by rw [h]))
          · exact Or.inr (Or.inr (Or.inr ⟨rfl, h⟩))
        · exact Or.inr (Or.inr (Or.inl h))
/-! ### what is reached -/
/-- E x y: a step leads from x to y -/
inductive Reach (E : α → α → Prop) (S : α → Prop) : α → Prop
  | base {x : α} : S x → Reach E S x
  | step {x y : α} : Reach E S x → E x y → Reach E S y
theorem Reach.mono {E E' : α → α → Prop} {S S' : α → Prop} (hE : ∀ x y, E x y → E' x y) (hS : ∀ x, S x → S' x) {x : α} (h : Reach E S x) : Reach E' S' x := by
  induction h with
  | base h => exact .base (hS _ h)
  | step _ e ih => exact .step ih (hE _ _ e)
theorem Reach.closed {E : α → α → Prop} {S P : α → Prop} (hS : ∀ x, S x → P x) (hE : ∀ x y, P x → E x y → P y) {x : α} (h : Reach E S x) : P x := by
  induction h with
  | base h => exact hS _ h
  | step _ e ih => exact hE _ _ ih e
theorem Reach.trans {E : α → α → Prop} {S : α → Prop} {x y : α} (h : Reach E S x) (k : Reach E (fun z => z = x) y) : Reach E S y := by
  induction k with
  | base h' => exact h' ▸ h
  | step _ e ih => exact .step ih e
theorem Reach.symm {E : α → α → Prop} (hE : ∀ x y, E x y → E y x) {x y : α} (h : Reach E (fun z => z = x) y) : Reach E (fun z => z = y) x := by
  induction h with
  | base h => subst h; exact .base rfl
  | step _ e ih => exact Reach.trans (.step (.base rfl) (hE _ _ e)) ih
/-- carried over a renaming -/
theorem Reach.map {E : α → α → Prop} {E' : β → β → Prop} {S : α → Prop} {S' : β → Prop} {ρ : α → β} (hS : ∀ x, S x → S' (ρ x)) (hE : ∀ x y, E x y → E' (ρ x) (ρ y)) {x : α} (h : Reach E S x) : Reach E' S' (ρ x) := by
  induction h with
  | base h => exact .base (hS _ h)
  | step _ e ih => exact .step ih (hE _ _ e)
/-! ### groups -/
/-- an equivalence on some workers -/
structure Eqv (ws : List α) (R : α → α → Prop) : Prop where
  refl : ∀ w ∈ ws, R w w
  sym : ∀ x y, R x y → R y x
  tr : ∀ x y z, R x y → R y z → R x z
  mem : ∀ x y, x ∈ ws → R x y → y ∈ ws
structure IsGroups (lt : α → α → Prop) (ws : List α) (R : α → α → Prop) (gs : List (List α)) : Prop where
  asc : gs.Pairwise (lexlt lt)
  each : ∀ g ∈ gs, g.Pairwise lt ∧ ∃ w ∈ ws, ∀ x, x ∈ g ↔ R w x
  all : ∀ w ∈ ws, ∃ g ∈ gs, w ∈ g
theorem groups_sub (O : Sto lt) {ws : List α} {R : α → α → Prop} (V : Eqv ws R) {gs hs : List (List α)} (h : IsGroups lt ws R gs) (k : IsGroups lt ws R hs) (g : List α) (hg : g ∈ gs) : g ∈ hs := by
  obtain ⟨ga, w, hw, gm⟩ := h.each g hg
  obtain ⟨g2, hg2, hw2⟩ := k.all w hw
  obtain ⟨ga2, w2, hw2', gm2⟩ := k.each g2 hg2
  have r := (gm2 w).mp hw2
  have e : g = g2 := asc_uniq O ga ga2 fun x => by
    rw [gm, gm2]
    exact ⟨fun q => V.tr _ _ _ r q, fun q => V.tr _ _ _ (V.sym _ _ r) q⟩
  rw [e]
  exact hg2
theorem groups_uniq (O : Sto lt) {ws : List α} {R : α → α → Prop} (V : Eqv ws R) {gs hs : List (List α)} (h : IsGroups lt ws R gs) (k : IsGroups lt ws R hs) : gs = hs :=
  asc_uniq (lex_sto O) h.asc k.asc fun g => ⟨groups_sub O V h k g, groups_sub O V k h g⟩
/-- what the loop over the workers has made of the first ones -/
structure GroupsTo (lt : α → α → Prop) (ws pre : List α) (R : α → α → Prop) (gs : List (List α)) : Prop where
  asc : gs.Pairwise (lexlt lt)
  each : ∀ g ∈ gs, g.Pairwise lt ∧ ∃ w ∈ pre, ∀ x, x ∈ g ↔ R w x
  all : ∀ w ∈ pre, ∃ g ∈ gs, w ∈ g
theorem GroupsTo.nil {ws : List α} {R : α → α → Prop} : GroupsTo lt ws [] R [] := ⟨List.Pairwise.nil, fun _ h => by simp at h, fun _ h => by simp at h⟩
theorem GroupsTo.skip {ws pre : List α} {R : α → α → Prop} {gs : List (List α)} {w : α} (h : GroupsTo lt ws pre R gs) (hw : ∃ g ∈ gs, w ∈ g) : GroupsTo lt ws (pre ++ [w]) R gs :=
  ⟨h.asc, fun g hg => let ⟨a, v, hv, m⟩ := h.each g hg; ⟨a, v, List.mem_append_left _ hv, m⟩, fun v hv => by
    rcases List.mem_append.mp hv with k | k
    · exact h.all v k
    · rw [List.mem_singleton.mp k]
      exact hw⟩
theorem head_least (O : Sto lt) {x : α} {l : List α} (h : (x :: l).Pairwise lt) {y : α} (hy : y ∈ x :: l) : y = x ∨ lt x y := by
  rcases List.mem_cons.mp hy with e | k
  · exact .inl e
  · exact .inr ((List.pairwise_cons.mp h).1 y k)
theorem GroupsTo.more (O : Sto lt) {ws pre post : List α} {R : α → α → Prop} (V : Eqv ws R) {gs : List (List α)} {w : α} {g : List α} (hws : ws = pre ++ w :: post) (ha : ws.Pairwise lt)
    (h : GroupsTo lt ws pre R gs) (hw : ¬ ∃ g ∈ gs, w ∈ g) (ga : g.Pairwise lt) (gm : ∀ x, x ∈ g ↔ R w x) : GroupsTo lt ws (pre ++ [w]) R (gs ++ [g]) := by
  have hww : w ∈ ws := by rw [hws]; simp
  have hpre : ∀ v ∈ pre, v ∈ ws := fun v hv => by rw [hws]; exact List.mem_append_left _ hv
  -- no member of g lies in pre
  have no : ∀ x ∈ g, x ∉ pre := fun x hx hp => by
    obtain ⟨g0, hg0, hx0⟩ := h.all x hp
    obtain ⟨_, v, hv, m0⟩ := h.each g0 hg0
    have r1 := (gm x).mp hx
    have r2 := (m0 x).mp hx0
    exact hw ⟨g0, hg0, (m0 w).mpr (V.tr _ _ _ r2 (V.sym _ _ r1))⟩
  have hwg : w ∈ g := (gm w).mpr (V.refl w hww)
  have hsp := ha
  rw [hws] at hsp
  obtain ⟨_, hp2, hp3⟩ := List.pairwise_append.mp hsp
  have ge : ∀ x ∈ g, x = w ∨ lt w x := fun x hx => by
    have hxw : x ∈ ws := V.mem w x hww ((gm x).mp hx)
    rw [hws] at hxw
    rcases List.mem_append.mp hxw with k | k
    · exact absurd k (no x hx)
    · exact head_least O hp2 k
  refine ⟨?_, fun g' hg' => ?_, fun v hv => ?_⟩
  · refine List.pairwise_append.mpr ⟨h.asc, List.pairwise_singleton _ _, fun g0 hg0 g1 hg1 => ?_⟩
    rw [List.mem_singleton.mp hg1]
    obtain ⟨a0, v, hv, m0⟩ := h.each g0 hg0
    have hv0 : v ∈ g0 := (m0 v).mpr (V.refl v (hpre v hv))
    cases g0 with
    | nil => simp at hv0
    | cons x0 t0 =>
      cases g with
      | nil => simp at hwg
      | cons x1 t1 =>
        have e1 : x1 = w := by
          rcases head_least O ga hwg with e | k
          · exact e.symm
          · rcases ge x1 List.mem_cons_self with e | q
            · exact e
            · exact absurd k (O.asym q)
        have l0 : lt v w := hp3 v hv w List.mem_cons_self
        refine Or.inl ?_
        rw [e1]
        rcases head_least O a0 hv0 with e | k
        · rw [← e]
          exact l0
        · exact O.tr _ _ _ k l0
  · rcases List.mem_append.mp hg' with k | k
    · obtain ⟨a, v, hv, m⟩ := h.each g' k
      exact ⟨a, v, List.mem_append_left _ hv, m⟩
    · rw [List.mem_singleton.mp k]
      exact ⟨ga, w, by simp, gm⟩
  · rcases List.mem_append.mp hv with k | k
    · obtain ⟨g0, hg0, q⟩ := h.all v k
      exact ⟨g0, List.mem_append_left _ hg0, q⟩
    · rw [List.mem_singleton.mp k]
      exact ⟨g, by simp, hwg⟩
theorem GroupsTo.done {ws : List α} {R : α → α → Prop} {gs : List (List α)} (h : GroupsTo lt ws ws R gs) : IsGroups lt ws R gs := ⟨h.asc, h.each, h.all⟩
/-- the groups under other names, each sorted, all sorted -/
theorem groups_map {lt' : β → β → Prop} (O : Sto lt) (O' : Sto lt') {ws : List α} {ws' : List β} {R : α → α → Prop} {R' : β → β → Prop} {ρ : α → β} (V : Eqv ws R) (V' : Eqv ws' R')
    (hin : ∀ x ∈ ws, ∀ y ∈ ws, ρ x = ρ y → x = y) (hws : ∀ y, y ∈ ws' ↔ ∃ x ∈ ws, ρ x = y) (hR : ∀ x ∈ ws, ∀ y ∈ ws, (R' (ρ x) (ρ y) ↔ R x y))
    {gs : List (List α)} (h : IsGroups lt ws R gs) {F : List α → List β} (hF : ∀ g ∈ gs, (F g).Perm (g.map ρ) ∧ (F g).Pairwise fun x y => ¬ lt' y x)
    {due : List (List β)} (hp : due.Perm (gs.map F)) (hs : due.Pairwise fun x y => ¬ lexlt lt' y x) : IsGroups lt' ws' R' due := by
  have inws : ∀ g ∈ gs, ∀ x ∈ g, x ∈ ws := fun g hg x hx => by
    obtain ⟨_, w, hw, m⟩ := h.each g hg
    exact V.mem w x hw ((m x).mp hx)
  have nd : ∀ g ∈ gs, (F g).Nodup := fun g hg => by
    refine (hF g hg).1.nodup_iff.mpr ?_
    have n := asc_nodup O (h.each g hg).1
    refine List.pairwise_map.mpr ?_
    refine List.Pairwise.imp_of_mem (fun {a b} ha hb hab e => hab ?_) n
    exact hin a (inws g hg a ha) b (inws g hg b hb) e
  have mF : ∀ g ∈ gs, ∀ x ∈ ws, (ρ x ∈ F g ↔ x ∈ g) := fun g hg x hx => by
    rw [(hF g hg).1.mem_iff]
    constructor
    · intro k
      obtain ⟨y, hy, e⟩ := List.mem_map.mp k
      rw [← hin y (inws g hg y hy) x hx e]
      exact hy
    · intro k
      exact List.mem_map.mpr ⟨x, k, rfl⟩
  have sF : ∀ g ∈ gs, ∀ y ∈ F g, ∃ x ∈ g, ρ x = y := fun g hg y hy => by
    rw [(hF g hg).1.mem_iff] at hy
    obtain ⟨x, hx, e⟩ := List.mem_map.mp hy
    exact ⟨x, hx, e⟩
  have ndue : due.Nodup := by
    refine hp.nodup_iff.mpr ?_
    refine List.pairwise_map.mpr ?_
    have n := asc_nodup (lex_sto O) h.asc
    refine List.Pairwise.imp_of_mem (fun {a b} ha hb hab e => hab ?_) n
    refine asc_uniq O (h.each a ha).1 (h.each b hb).1 fun x => ?_
    constructor
    · intro k
      have hx := inws a ha x k
      rw [← mF b hb x hx, ← e, mF a ha x hx]
      exact k
    · intro k
      have hx := inws b hb x k
      rw [← mF a ha x hx, e, mF b hb x hx]
      exact k
  refine ⟨asc_of (lex_sto O') hs ndue, fun d hd => ?_, fun y hy => ?_⟩
  · obtain ⟨g, hg, rfl⟩ := List.mem_map.mp (hp.mem_iff.mp hd)
    refine ⟨asc_of O' (hF g hg).2 (nd g hg), ?_⟩
    obtain ⟨_, w, hw, m⟩ := h.each g hg
    refine ⟨ρ w, (hws _).mpr ⟨w, hw, rfl⟩, fun y => ?_⟩
    constructor
    · intro k
      obtain ⟨x, hx, rfl⟩ := sF g hg y k
      exact (hR w hw x (inws g hg x hx)).mpr ((m x).mp hx)
    · intro k
      obtain ⟨x, hx, rfl⟩ := (hws y).mp (V'.mem _ _ ((hws _).mpr ⟨w, hw, rfl⟩) k)
      rw [mF g hg x hx, m]
      exact (hR w hw x hx).mp k
  · obtain ⟨x, hx, rfl⟩ := (hws y).mp hy
    obtain ⟨g, hg, k⟩ := h.all x hx
    exact ⟨F g, hp.mem_iff.mpr (List.mem_map.mpr ⟨g, hg, rfl⟩), (mF g hg x hx).mpr k⟩
end
end JM
set_option linter.all false
/-! Plain mathematics, second part: nets, steps, walks over steps, renamings. -/
namespace JM
/-- a QUEUE: name, start, end, room, notice -/
structure Row (α : Type) where
  q : α
  s : α
  e : α
  room : Int
  gap : Int
/-- a step: a queue, gone along (true) or against (false) -/
abbrev RB (α : Type) := Row α × Bool
section
variable {α β : Type}
def src (p : RB α) : α := if p.2 = true then p.1.s else p.1.e
def dst (p : RB α) : α := if p.2 = true then p.1.e else p.1.s
def cst (p : RB α) : Int := if p.2 = true then p.1.room else 1 - p.1.gap
def prc (p : RB α) : Int := if p.2 = true then p.1.room else 0
def arcs (qs : List (Row α)) : List (RB α) := qs.flatMap fun r => [(r, true), (r, false)]
theorem mem_arcs {qs : List (Row α)} {p : RB α} : p ∈ arcs qs ↔ p.1 ∈ qs := by
  unfold arcs
  rw [List.mem_flatMap]
  constructor
  · rintro ⟨r, hr, h⟩
    rcases List.mem_cons.mp h with h | h
    · rw [h]; exact hr
    · rw [List.mem_singleton.mp h]; exact hr
  · intro h
    refine ⟨p.1, h, ?_⟩
    obtain ⟨r, b⟩ := p
    cases b <;> simp
/-- a net as the law makes it -/
structure Net (lt : α → α → Prop) (ws : List α) (qs : List (Row α)) : Prop where
  asc : ws.Pairwise lt
  nd : (qs.map (·.q)).Nodup
  st : ∀ r ∈ qs, r.s ∈ ws
  en : ∀ r ∈ qs, r.e ∈ ws
  ne : ∀ r ∈ qs, r.s ≠ r.e
  gap : ∀ r ∈ qs, 1 ≤ r.gap ∧ r.gap ≤ r.room
theorem row_of_name {qs : List (Row α)} (n : (qs.map (·.q)).Nodup) : ∀ {r r' : Row α}, r ∈ qs → r' ∈ qs → r.q = r'.q → r = r' := by
  induction qs with
  | nil => intro r r' h; simp at h
  | cons a l ih =>
    intro r r' h h' e
    rw [List.map_cons] at n
    obtain ⟨n1, n2⟩ := List.nodup_cons.mp n
    rcases List.mem_cons.mp h with h | h
    · rcases List.mem_cons.mp h' with h' | h'
      · rw [h, h']
      · refine absurd (List.mem_map.mpr ⟨r', h', ?_⟩) n1
        rw [← e, h]
    · rcases List.mem_cons.mp h' with h' | h'
      · refine absurd (List.mem_map.mpr ⟨r, h, ?_⟩) n1
        rw [e, h']
      · exact ih n2 h h' e
theorem rows_nodup {qs : List (Row α)} (n : (qs.map (·.q)).Nodup) : qs.Nodup := by
  have := List.pairwise_map.mp n
  exact this.imp fun {a b} h e => h (by rw [e])
/-! ### walks over steps -/
def IsWalk (qs : List (Row α)) : α → List (RB α) → α → Prop
  | u, [], v => u = v
  | u, p :: l, v => p.1 ∈ qs ∧ src p = u ∧ IsWalk qs (dst p) l v
theorem walk_app {qs : List (Row α)} {u v w : α} {a b : List (RB α)} (h : IsWalk qs u a v) (k : IsWalk qs v b w) : IsWalk qs u (a ++ b) w := by
  induction a generalizing u with
  | nil => rw [show u = v from h]; exact k
  | cons p a ih => exact ⟨h.1, h.2.1, ih h.2.2⟩
theorem walk_split {qs : List (Row α)} {u w : α} {a b : List (RB α)} (h : IsWalk qs u (a ++ b) w) : ∃ v, IsWalk qs u a v ∧ IsWalk qs v b w := by
  induction a generalizing u with
  | nil => exact ⟨u, rfl, h⟩
  | cons p a ih =>
    obtain ⟨v, h1, h2⟩ := ih h.2.2
    exact ⟨v, ⟨h.1, h.2.1, h1⟩, h2⟩
theorem walk_rows {qs : List (Row α)} {u w : α} {a : List (RB α)} (h : IsWalk qs u a w) : ∀ p ∈ a, p.1 ∈ qs := by
  induction a generalizing u with
  | nil => intro p hp; simp at hp
  | cons p a ih =>
    intro x hx
    rcases List.mem_cons.mp hx with e | hx
    · rw [e]; exact h.1
    · exact ih h.2.2 x hx
theorem walk_end_eq {qs : List (Row α)} {u v w : α} {a : List (RB α)} (h : IsWalk qs u a v) (k : IsWalk qs u a w) : v = w := by
  induction a generalizing u with
  | nil => exact h.symm.trans k
  | cons p a ih => exact ih h.2.2 k.2.2
theorem walk_head {qs : List (Row α)} {u w : α} {p : RB α} {a : List (RB α)} (h : IsWalk qs u (p :: a) w) : src p = u := h.2.1
/-! ### renamings -/
def ren (ρ μ : α → β) (r : Row α) : Row β := ⟨μ r.q, ρ r.s, ρ r.e, r.room, r.gap⟩
def renb (ρ μ : α → β) (p : RB α) : RB β := (ren ρ μ p.1, p.2)
theorem src_ren {ρ μ : α → β} (p : RB α) : src (renb ρ μ p) = ρ (src p) := by
  obtain ⟨r, b⟩ := p
  cases b <;> rfl
theorem dst_ren {ρ μ : α → β} (p : RB α) : dst (renb ρ μ p) = ρ (dst p) := by
  obtain ⟨r, b⟩ := p
  cases b <;> rfl
theorem cst_ren {ρ μ : α → β} (p : RB α) : cst (renb ρ μ p) = cst p := by
  obtain ⟨r, b⟩ := p
  cases b <;> rfl
theorem prc_ren {ρ μ : α → β} (p : RB α) : prc (renb ρ μ p) = prc p := by
  obtain ⟨r, b⟩ := p
  cases b <;> rfl
/-- the second net is the first one with other names -/
structure Ren (ws : List α) (qs : List (Row α)) (ws' : List β) (qs' : List (Row β)) (ρ μ : α → β) : Prop where
  inj : ∀ x ∈ ws, ∀ y ∈ ws, ρ x = ρ y → x = y
  injq : ∀ r ∈ qs, ∀ r' ∈ qs, μ r.q = μ r'.q → r.q = r'.q
  pw : ws'.Perm (ws.map ρ)
  pq : qs'.Perm (qs.map (ren ρ μ))
theorem Ren.row {ws : List α} {qs : List (Row α)} {ws' : List β} {qs' : List (Row β)} {ρ μ : α → β} (h : Ren ws qs ws' qs' ρ μ) {r : Row α} (hr : r ∈ qs) : ren ρ μ r ∈ qs' := h.pq.mem_iff.mpr (List.mem_map.mpr ⟨r, hr, rfl⟩)
theorem Ren.back {ws : List α} {qs : List (Row α)} {ws' : List β} {qs' : List (Row β)} {ρ μ : α → β} (h : Ren ws qs ws' qs' ρ μ) {r' : Row β} (hr : r' ∈ qs') : ∃ r ∈ qs, ren ρ μ r = r' := List.mem_map.mp (h.pq.mem_iff.mp hr)
theorem Ren.wk {ws : List α} {qs : List (Row α)} {ws' : List β} {qs' : List (Row β)} {ρ μ : α → β} (h : Ren ws qs ws' qs' ρ μ) (y : β) : y ∈ ws' ↔ ∃ x ∈ ws, ρ x = y := by
  rw [h.pw.mem_iff, List.mem_map]
theorem Ren.len {ws : List α} {qs : List (Row α)} {ws' : List β} {qs' : List (Row β)} {ρ μ : α → β} (h : Ren ws qs ws' qs' ρ μ) : ws'.length = ws.length := by
  rw [h.pw.length_eq, List.length_map]
/-- the way back -/
theorem Ren.symm {lt : α → α → Prop} {ws : List α} {qs : List (Row α)} {ws' : List β} {qs' : List (Row β)} {ρ μ : α → β} (V : Net lt ws qs) (h : Ren ws qs ws' qs' ρ μ) (y0 : β → α) :
    ∃ ρ' μ' : β → α, Ren ws' qs' ws qs ρ' μ' ∧ (∀ x ∈ ws, ρ' (ρ x) = x) ∧ (∀ r ∈ qs, μ' (μ r.q) = r.q) ∧ ∀ r ∈ qs, ren ρ' μ' (ren ρ μ r) = r := by
  classical
  have ha : ∃ ρ' : β → α, ∀ x ∈ ws, ρ' (ρ x) = x := by
    refine ⟨fun y => if k : ∃ x ∈ ws, ρ x = y then k.choose else y0 y, fun x hx => ?_⟩
    have k : ∃ z ∈ ws, ρ z = ρ x := ⟨x, hx, rfl⟩
    show (if k : ∃ z ∈ ws, ρ z = ρ x then k.choose else y0 (ρ x)) = x
    rw [dif_pos k]
    exact h.inj _ k.choose_spec.1 _ hx k.choose_spec.2
  have hb : ∃ μ' : β → α, ∀ r ∈ qs, μ' (μ r.q) = r.q := by
    refine ⟨fun y => if k : ∃ r ∈ qs, μ r.q = y then k.choose.q else y0 y, fun r hr => ?_⟩
    have k : ∃ z ∈ qs, μ z.q = μ r.q := ⟨r, hr, rfl⟩
    show (if k : ∃ z ∈ qs, μ z.q = μ r.q then k.choose.q else y0 (μ r.q)) = r.q
    rw [dif_pos k]
    exact h.injq _ k.choose_spec.1 _ hr k.choose_spec.2
  obtain ⟨ρ', h1⟩ := ha
  obtain ⟨μ', h2⟩ := hb
  have h3 : ∀ r ∈ qs, ren ρ' μ' (ren ρ μ r) = r := fun r hr => by
    obtain ⟨q, s, e, m, g⟩ := r
    have a := h2 _ hr
    have b := h1 _ (V.st _ hr)
    have c := h1 _ (V.en _ hr)
    show (⟨μ' (μ q), ρ' (ρ s), ρ' (ρ e), m, g⟩ : Row α) = ⟨q, s, e, m, g⟩
    rw [show μ' (μ q) = q from a, show ρ' (ρ s) = s from b, show ρ' (ρ e) = e from c]
  refine ⟨ρ', μ', ⟨fun x hx y hy e => ?_, fun r hr r' hr' e => ?_, ?_, ?_⟩, h1, h2, h3⟩
  · obtain ⟨a, ha, rfl⟩ := (h.wk x).mp hx
    obtain ⟨b, hb, rfl⟩ := (h.wk y).mp hy
    rw [h1 a ha, h1 b hb] at e
    rw [e]
  · obtain ⟨a, ha, rfl⟩ := h.back hr
    obtain ⟨b, hb, rfl⟩ := h.back hr'
    have e' : μ' (μ a.q) = μ' (μ b.q) := e
    rw [h2 a ha, h2 b hb] at e'
    show μ a.q = μ b.q
    rw [e']
  · have p := h.pw.map ρ'
    rw [List.map_map] at p
    have e : ws.map (ρ' ∘ ρ) = ws := by
      conv => rhs; rw [← List.map_id ws]
      exact List.map_congr_left fun x hx => h1 x hx
    rw [e] at p
    exact p.symm
  · have p := h.pq.map (ren ρ' μ')
    rw [List.map_map] at p
    have e : qs.map (ren ρ' μ' ∘ ren ρ μ) = qs := by
      conv => rhs; rw [← List.map_id qs]
      exact List.map_congr_left fun x hx => h3 x hx
    rw [e] at p
    exact p.symm
theorem walk_ren {ws : List α} {qs : List (Row α)} {ws' : List β} {qs' : List (Row β)} {ρ μ : α → β} (h : Ren ws qs ws' qs' ρ μ) {u v : α} {l : List (RB α)} (k : IsWalk qs u l v) : IsWalk qs' (ρ u) (l.map (renb ρ μ)) (ρ v) := by
  induction l generalizing u with
  | nil => exact congrArg ρ k
  | cons p l ih =>
    refine ⟨h.row k.1, ?_, ?_⟩
    · rw [src_ren, k.2.1]
    · rw [dst_ren]
      exact ih k.2.2
end
/-! ### pigeonhole -/
section
variable {α : Type}
theorem nodup_len [DecidableEq α] : ∀ {l ws : List α}, l.Nodup → (∀ x ∈ l, x ∈ ws) → l.length ≤ ws.length
  | [], _, _, _ => Nat.zero_le _
  | a :: l, ws, h, k => by
    obtain ⟨h1, h2⟩ := List.nodup_cons.mp h
    have q : l.length ≤ (ws.erase a).length := nodup_len h2 fun x hx => by
      have e : x ≠ a := fun e => h1 (e ▸ hx)
      exact (List.mem_erase_of_ne e).mpr (k x (List.mem_cons_of_mem _ hx))
    rw [List.length_erase_of_mem (k a List.mem_cons_self)] at q
    have p : 0 < ws.length := List.length_pos_of_mem (k a List.mem_cons_self)
    rw [List.length_cons]
    omega
/-- among the first N + 1 of a row of members of a list of N, two are the same -/
theorem pigeon [DecidableEq α] {ws : List α} (f : Nat → α) (h : ∀ n, n ≤ ws.length → f n ∈ ws) : ∃ i j, i < j ∧ j ≤ ws.length ∧ f i = f j := by
  have hn : ¬ ((List.range (ws.length + 1)).map f).Nodup := fun n => by
    have q := nodup_len n (ws := ws) fun x hx => by
      obtain ⟨i, hi, e⟩ := List.mem_map.mp hx
      rw [← e]
      exact h i (by have := List.mem_range.mp hi; omega)
    rw [List.length_map, List.length_range] at q
    omega
  refine Classical.byContradiction fun hc => hn ?_
  refine List.pairwise_map.mpr ?_
  refine List.Pairwise.imp_of_mem ?_ (List.pairwise_lt_range (n := ws.length + 1))
  intro a b _ hb hab e
  exact hc ⟨a, b, hab, by have := List.mem_range.mp hb; omega, e⟩
/-- the same of a list -/
theorem pigeon_list [DecidableEq α] {l ws : List α} (h : ∀ x ∈ l, x ∈ ws) (hl : ws.length < l.length) : ∃ a x b c, l = a ++ x :: b ++ x :: c := by
  have hn : ¬ l.Nodup := fun n => by
    have := nodup_len n h
    omega
  clear h hl
  induction l with
  | nil => exact absurd List.nodup_nil hn
  | cons y l ih =>
    by_cases hy : y ∈ l
    · obtain ⟨b, c, e⟩ := List.append_of_mem hy
      exact ⟨[], y, b, c, by rw [e]; rfl⟩
    · have : ¬ l.Nodup := fun n => hn (List.nodup_cons.mpr ⟨hy, n⟩)
      obtain ⟨a, x, b, c, e⟩ := ih this
      exact ⟨y :: a, x, b, c, by rw [e]; rfl⟩
end
end JM
set_option linter.all false
/-! Plain mathematics, third part: rings, how they are found, how many there are, what they cost. -/
namespace JM
section
variable {α β : Type}
/-- a RING that begins at u, the least of its workers -/
structure Ring (lt : α → α → Prop) (qs : List (Row α)) (u : α) (l : List (RB α)) : Prop where
  wk : IsWalk qs u l u
  nw : (l.map src).Nodup
  nq : (l.map fun p => p.1.q).Nodup
  two : 2 ≤ l.length
  low : ∀ x ∈ l.map src, x = u ∨ lt u x
/-- a way on the pile: where it stands, its steps, the workers met -/
abbrev RS (α : Type) := α × List (RB α) × List α
variable [DecidableEq α]
def otherOf (at_ : α) (r : Row α) : α := if at_ = r.s then r.e else r.s
def stepOf (at_ : α) (r : Row α) : RB α := (r, decide (at_ = r.s))
/-- the queue closes the ring -/
def closes (first : α) (x : RS α) (r : Row α) : Bool := decide (otherOf x.1 r = first) && (decide (x.2.1 ≠ []) && decide (r.q ∉ x.2.1.map fun p => p.1.q))
variable (lt : α → α → Prop) [DecidableRel lt]
def extends_ (first : α) (x : RS α) (r : Row α) : Bool := decide (lt first (otherOf x.1 r)) && decide (otherOf x.1 r ∉ x.2.2)
def touches (x : RS α) (r : Row α) : Bool := decide (x.1 = r.s) || decide (x.1 = r.e)
def closeOf (first : α) (x : RS α) (r : Row α) : List (List (RB α)) := if touches x r = true then (if closes first x r = true then [x.2.1 ++ [stepOf x.1 r]] else []) else []
def extOf (first : α) (x : RS α) (r : Row α) : List (RS α) := if touches x r = true then (if closes first x r = true then [] else if extends_ lt first x r = true then [(otherOf x.1 r, x.2.1 ++ [stepOf x.1 r], x.2.2 ++ [otherOf x.1 r])] else []) else []
/-- all rings that begin with what stands on the pile -/
def rg (qs : List (Row α)) (first : α) : Nat → RS α → List (List (RB α))
  | 0, _ => []
  | n + 1, x => qs.flatMap fun r => closeOf first x r ++ (extOf lt first x r).flatMap (rg qs first n)
/-- how many turns of the while it costs -/
def tm (qs : List (Row α)) (first : α) : Nat → RS α → Nat
  | 0, _ => 1
  | n + 1, x => 1 + ((qs.flatMap (extOf lt first x)).map (tm qs first n)).sum
/-- all rings -/
def allRings (ws : List α) (qs : List (Row α)) : List (List (RB α)) := ws.flatMap fun u => rg lt qs u ws.length (u, [], [u])
theorem flatMap_perm {γ δ : Type} (l : List γ) (f g : γ → List δ) : (l.flatMap fun x => f x ++ g x).Perm (l.flatMap f ++ l.flatMap g) := by
  induction l with
  | nil => exact List.Perm.refl _
  | cons a l ih =>
    rw [List.flatMap_cons, List.flatMap_cons, List.flatMap_cons]
    have p1 : (f a ++ g a ++ l.flatMap fun x => f x ++ g x).Perm (f a ++ g a ++ (l.flatMap f ++ l.flatMap g)) := List.Perm.append_left _ ih
    refine p1.trans ?_
    have p2 : (g a ++ (l.flatMap f ++ l.flatMap g)).Perm (l.flatMap f ++ (g a ++ l.flatMap g)) := by
      rw [← List.append_assoc, ← List.append_assoc]
      exact List.Perm.append_right _ List.perm_append_comm
    have p3 := List.Perm.append_left (f a) p2
    simpa only [List.append_assoc] using p3
/-- one turn of the while: what is found and what is laid anew -/
theorem rg_turn (qs : List (Row α)) (first : α) (n : Nat) (x : RS α) : (rg lt qs first (n + 1) x).Perm (qs.flatMap (closeOf first x) ++ (qs.flatMap (extOf lt first x)).flatMap (rg lt qs first n)) := by
  show (qs.flatMap fun r => closeOf first x r ++ (extOf lt first x r).flatMap (rg lt qs first n)).Perm _
  refine (flatMap_perm qs _ _).trans ?_
  rw [List.flatMap_assoc]
/-! ### how many there can be -/
theorem ext_len (first : α) (x : RS α) (r : Row α) : (extOf lt first x r).length ≤ 1 := by
  unfold extOf
  repeat' split
  all_goals simp
theorem close_len (first : α) (x : RS α) (r : Row α) : (closeOf first x r).length ≤ 1 := by
  unfold closeOf
  repeat' split
  all_goals simp
theorem flatMap_len1 {γ δ : Type} {f : γ → List δ} (h : ∀ x, (f x).length ≤ 1) : ∀ l : List γ, (l.flatMap f).length ≤ l.length
  | [] => Nat.le_refl _
  | a :: l => by
    have := flatMap_len1 h l
    have := h a
    rw [List.flatMap_cons, List.length_append, List.length_cons]
    omega
theorem sum_le {γ : Type} {f : γ → Nat} {b : Nat} : ∀ {l : List γ}, (∀ x ∈ l, f x ≤ b) → (l.map f).sum ≤ l.length * b
  | [], _ => by simp
  | a :: l, h => by
    have h1 := sum_le (l := l) fun x hx => h x (List.mem_cons_of_mem _ hx)
    have h2 := h a List.mem_cons_self
    rw [List.map_cons, List.sum_cons, List.length_cons, Nat.succ_mul]
    omega
theorem flatMap_len {γ δ : Type} {f : γ → List δ} {b : Nat} {l : List γ} (h : ∀ x ∈ l, (f x).length ≤ b) : (l.flatMap f).length ≤ l.length * b := by
  rw [List.length_flatMap]
  exact sum_le h
theorem tm_le (qs : List (Row α)) (first : α) {k : Nat} (hk : qs.length ≤ k) : ∀ (n : Nat) (x : RS α), tm lt qs first n x ≤ (k + 1) ^ n
  | 0, _ => Nat.le_refl _
  | n + 1, x => by
    have h1 := flatMap_len1 (ext_len lt first x) qs
    have h2 : ((qs.flatMap (extOf lt first x)).map (tm lt qs first n)).sum ≤ (qs.flatMap (extOf lt first x)).length * (k + 1) ^ n := sum_le fun y _ => tm_le qs first hk n y
    have h3 : (qs.flatMap (extOf lt first x)).length * (k + 1) ^ n ≤ k * (k + 1) ^ n := Nat.mul_le_mul_right _ (Nat.le_trans h1 hk)
    have h4 : 1 ≤ (k + 1) ^ n := Nat.one_le_pow _ _ (by omega)
    show 1 + ((qs.flatMap (extOf lt first x)).map (tm lt qs first n)).sum ≤ (k + 1) ^ (n + 1)
    rw [Nat.pow_succ, Nat.mul_comm, Nat.succ_mul]
    omega
theorem rg_len (qs : List (Row α)) (first : α) {k : Nat} (hk : qs.length ≤ k) : ∀ (n : Nat) (x : RS α), (rg lt qs first n x).length ≤ (k + 1) ^ (n + 1)
  | 0, _ => Nat.zero_le _
  | n + 1, x => by
    have e := (rg_turn lt qs first n x).length_eq
    rw [List.length_append] at e
    have h0 := flatMap_len1 (close_len first x) qs
    have h1 := flatMap_len1 (ext_len lt first x) qs
    have h2 : ((qs.flatMap (extOf lt first x)).flatMap (rg lt qs first n)).length ≤ (qs.flatMap (extOf lt first x)).length * (k + 1) ^ (n + 1) := flatMap_len fun y _ => rg_len qs first hk n y
    have h3 : (qs.flatMap (extOf lt first x)).length * (k + 1) ^ (n + 1) ≤ k * (k + 1) ^ (n + 1) := Nat.mul_le_mul_right _ (Nat.le_trans h1 hk)
    have h4 : k + 1 ≤ (k + 1) ^ (n + 1) := by
      have : 1 ≤ (k + 1) ^ n := Nat.one_le_pow _ _ (by omega)
      rw [Nat.pow_succ]
      exact Nat.le_mul_of_pos_left _ this
    rw [Nat.pow_succ (k + 1) (n + 1), Nat.mul_comm, Nat.succ_mul]
    omega
/-! ### what is found is a ring -/
variable {lt}
/-- a way on the pile is as it should be -/
structure OnPile (qs : List (Row α)) (first : α) (x : RS α) : Prop where
  wk : IsWalk qs first x.2.1 x.1
  met : x.2.2 = x.2.1.map src ++ [x.1]
  nw : x.2.2.Nodup
  low : ∀ y ∈ x.2.2, y = first ∨ lt first y
  nq : (x.2.1.map fun p => p.1.q).Nodup
  ends : ∀ p ∈ x.2.1, p.1.s ∈ x.2.2 ∧ p.1.e ∈ x.2.2
theorem onPile_start (qs : List (Row α)) (u : α) : OnPile (lt := lt) qs u (u, [], [u]) := by
  refine ⟨rfl, rfl, by simp, fun y hy => .inl (List.mem_singleton.mp hy), by simp, fun p hp => by simp at hp⟩
theorem src_stepOf {at_ : α} {r : Row α} (h : at_ = r.s ∨ at_ = r.e) : src (stepOf at_ r) = at_ := by
  unfold src stepOf
  by_cases e : at_ = r.s
  · simp [e]
  · simp [e]
    rcases h with h | h
    · exact absurd h e
    · exact h.symm
theorem dst_stepOf {at_ : α} {r : Row α} : dst (stepOf at_ r) = otherOf at_ r := by
  unfold dst stepOf otherOf
  by_cases e : at_ = r.s
  · simp [e]
  · simp [e]
theorem touches_iff {x : RS α} {r : Row α} : touches x r = true ↔ x.1 = r.s ∨ x.1 = r.e := by
  unfold touches
  simp
theorem onPile_ext {ws : List α} {qs : List (Row α)} (V : Net lt ws qs) {first : α} {x y : RS α} {r : Row α} (hr : r ∈ qs) (h : OnPile (lt := lt) qs first x) (hy : y ∈ extOf lt first x r) : OnPile (lt := lt) qs first y ∧ y.2.2.length = x.2.2.length + 1 ∧ (∀ z ∈ y.2.2, z ∈ x.2.2 ∨ z ∈ ws) ∧ y.2.1 = x.2.1 ++ [stepOf x.1 r] := by
  unfold extOf at hy
  split at hy
  case isFalse => simp at hy
  rename_i ht
  split at hy
  · simp at hy
  split at hy
  case isFalse => simp at hy
  rename_i he
  rw [List.mem_singleton.mp hy]
  unfold extends_ at he
  rw [Bool.and_eq_true, decide_eq_true_eq, decide_eq_true_eq] at he
  have ht' := touches_iff.mp ht
  have hse : ∀ z, z = r.s ∨ z = r.e → z = x.1 ∨ z = otherOf x.1 r := fun z hz => by
    unfold otherOf
    by_cases e : x.1 = r.s
    · rw [if_pos e]
      rcases hz with hz | hz
      · exact .inl (hz.trans e.symm)
      · exact .inr hz
    · rw [if_neg e]
      rcases ht' with k | k
      · exact absurd k e
      · rcases hz with hz | hz
        · exact .inr hz
        · exact .inl (hz.trans k.symm)
  have hin : ∀ z, z = r.s ∨ z = r.e → z ∈ x.2.2 ++ [otherOf x.1 r] := fun z hz => by
    rcases hse z hz with e | e
    · rw [e, h.met]
      simp
    · rw [e]
      simp
  have how : otherOf x.1 r ∈ ws := by
    unfold otherOf
    split
    · exact V.en r hr
    · exact V.st r hr
  refine ⟨⟨?_, ?_, ?_, ?_, ?_, ?_⟩, by simp, ?_, rfl⟩
  · exact walk_app h.wk ⟨hr, src_stepOf ht', dst_stepOf⟩
  · show x.2.2 ++ [otherOf x.1 r] = (x.2.1 ++ [stepOf x.1 r]).map src ++ [otherOf x.1 r]
    rw [List.map_append, List.map_singleton, src_stepOf ht', ← h.met]
  · refine List.nodup_append.mpr ⟨h.nw, by simp, fun a ha b hb e => ?_⟩
    rw [List.mem_singleton.mp hb] at e
    rw [e] at ha
    exact he.2 ha
  · intro z hz
    rcases List.mem_append.mp hz with k | k
    · exact h.low z k
    · rw [List.mem_singleton.mp k]
      exact .inr he.1
  · show ((x.2.1 ++ [stepOf x.1 r]).map fun p => p.1.q).Nodup
    rw [List.map_append, List.map_singleton]
    refine List.nodup_append.mpr ⟨h.nq, by simp, fun a ha b hb e => ?_⟩
    rw [List.mem_singleton.mp hb] at e
    obtain ⟨p, hp, e'⟩ := List.mem_map.mp ha
    have er : p.1 = r := row_of_name V.nd (walk_rows h.wk p hp) hr (e'.trans e)
    have := h.ends p hp
    rw [er] at this
    refine he.2 ?_
    unfold otherOf
    split
    · exact this.2
    · exact this.1
  · intro p hp
    rcases List.mem_append.mp hp with k | k
    · have := h.ends p k
      exact ⟨List.mem_append_left _ this.1, List.mem_append_left _ this.2⟩
    · rw [List.mem_singleton.mp k]
      exact ⟨hin _ (.inl rfl), hin _ (.inr rfl)⟩
  · intro z hz
    rcases List.mem_append.mp hz with k | k
    · exact .inl k
    · rw [List.mem_singleton.mp k]
      exact .inr how
theorem close_ring {ws : List α} {qs : List (Row α)} (V : Net lt ws qs) {first : α} {x : RS α} {r : Row α} (hr : r ∈ qs) (h : OnPile (lt := lt) qs first x) {l : List (RB α)} (hl : l ∈ closeOf first x r) : l = x.2.1 ++ [stepOf x.1 r] ∧ Ring lt qs first l := by
  unfold closeOf at hl
  split at hl
  case isFalse => simp at hl
  rename_i ht
  split at hl
  case isFalse => simp at hl
  rename_i hc
  have e := List.mem_singleton.mp hl
  refine ⟨e, ?_⟩
  unfold closes at hc
  rw [Bool.and_eq_true, Bool.and_eq_true, decide_eq_true_eq, decide_eq_true_eq, decide_eq_true_eq] at hc
  obtain ⟨h1, h2, h3⟩ := hc
  have ht' := touches_iff.mp ht
  have es : l.map src = x.2.2 := by
    rw [e, List.map_append, List.map_singleton, src_stepOf ht', h.met]
  refine ⟨?_, by rw [es]; exact h.nw, ?_, ?_, by rw [es]; exact h.low⟩
  · rw [e]
    exact walk_app h.wk ⟨hr, src_stepOf ht', by rw [dst_stepOf]; exact h1⟩
  · rw [e, List.map_append, List.map_singleton]
    refine List.nodup_append.mpr ⟨h.nq, by simp, fun a ha b hb e => ?_⟩
    rw [List.mem_singleton.mp hb] at e
    rw [e] at ha
    exact h3 ha
  · rw [e, List.length_append]
    have : 0 < x.2.1.length := List.length_pos_iff.mpr h2
    simp
    omega
theorem rg_sound {ws : List α} {qs : List (Row α)} (V : Net lt ws qs) {first : α} : ∀ (n : Nat) (x : RS α), OnPile (lt := lt) qs first x → ∀ l ∈ rg lt qs first n x, Ring lt qs first l ∧ ∃ t, t ≠ [] ∧ l = x.2.1 ++ t
  | 0, _, _, l, hl => by simp [rg] at hl
  | n + 1, x, h, l, hl => by
    rw [rg, List.mem_flatMap] at hl
    obtain ⟨r, hr, hl⟩ := hl
    rcases List.mem_append.mp hl with k | k
    · obtain ⟨e, q⟩ := close_ring V hr h k
      exact ⟨q, _, by simp, e⟩
    · obtain ⟨y, hy, k⟩ := List.mem_flatMap.mp k
      obtain ⟨h', _, _, e⟩ := onPile_ext V hr h hy
      obtain ⟨q, t, ht, e2⟩ := rg_sound V n y h' l k
      refine ⟨q, stepOf x.1 r :: t, by simp, ?_⟩
      rw [e2, e, List.append_assoc]
      rfl
theorem stepOf_eq {p : RB α} (hne : p.1.s ≠ p.1.e) : stepOf (src p) p.1 = p := by
  obtain ⟨r, b⟩ := p
  unfold stepOf src
  cases b
  · simp
    exact fun e => hne e.symm
  · simp
theorem other_dst {p : RB α} (hne : p.1.s ≠ p.1.e) : otherOf (src p) p.1 = dst p := by
  rw [← dst_stepOf, stepOf_eq hne]
/-- every ring is found -/
theorem rg_complete {ws : List α} {qs : List (Row α)} (V : Net lt ws qs) (O : Sto lt) {first : α} : ∀ (n : Nat) (x : RS α) (t : List (RB α)), OnPile (lt := lt) qs first x → t ≠ [] → t.length ≤ n → Ring lt qs first (x.2.1 ++ t) → x.2.1 ++ t ∈ rg lt qs first n x
  | 0, _, t, _, h0, hl, _ => absurd (List.length_eq_zero_iff.mp (by omega)) h0
  | n + 1, x, [], _, h0, _, _ => absurd rfl h0
  | n + 1, x, p :: t, h, _, hl, R => by
    obtain ⟨v, w1, w2⟩ := walk_split R.wk
    have ev : v = x.1 := walk_end_eq w1 h.wk
    have hp : p.1 ∈ qs := w2.1
    have hs : src p = x.1 := w2.2.1.trans ev
    have hne := V.ne p.1 hp
    have hst : stepOf x.1 p.1 = p := by rw [← hs]; exact stepOf_eq hne
    have hot : otherOf x.1 p.1 = dst p := by rw [← hs]; exact other_dst hne
    have ht : touches x p.1 = true := touches_iff.mpr (by
      rw [← hs]
      unfold src
      split
      · exact .inl rfl
      · exact .inr rfl)
    rw [rg, List.mem_flatMap]
    refine ⟨p.1, hp, ?_⟩
    have nq := R.nq
    rw [List.map_append, List.map_cons] at nq
    have nw := R.nw
    rw [List.map_append, List.map_cons] at nw
    cases t with
    | nil =>
      refine List.mem_append_left _ ?_
      have hd : dst p = first := w2.2.2
      have hc : closes first x p.1 = true := by
        unfold closes
        rw [Bool.and_eq_true, Bool.and_eq_true, decide_eq_true_eq, decide_eq_true_eq, decide_eq_true_eq]
        refine ⟨hot.trans hd, fun e => ?_, fun k => ?_⟩
        · have := R.two
          rw [e] at this
          simp at this
        · exact (List.nodup_append.mp nq).2.2 _ k _ List.mem_cons_self rfl
      unfold closeOf
      rw [if_pos ht, if_pos hc, hst]
      exact List.mem_singleton.mpr rfl
    | cons p2 t =>
      refine List.mem_append_right _ ?_
      have hd2 : src p2 = dst p := w2.2.2.2.1
      have hall : (x.2.1.map src ++ [src p]).Nodup ∧ dst p ∉ x.2.1.map src ++ [src p] := by
        have e : x.2.1.map src ++ src p :: (p2 :: t).map src = (x.2.1.map src ++ [src p]) ++ (p2 :: t).map src := by simp
        rw [e] at nw
        obtain ⟨n1, _, n3⟩ := List.nodup_append.mp nw
        refine ⟨n1, fun k => n3 _ k (src p2) (by simp) hd2.symm⟩
      have hnf : dst p ≠ first := fun e => by
        refine hall.2 ?_
        rw [e]
        cases hx : x.2.1 with
        | nil =>
          have : first = x.1 := by
            have := h.wk
            rw [hx] at this
            exact this
          rw [← this] at hs
          rw [hs]
          simp
        | cons a b =>
          have := h.wk
          rw [hx] at this
          rw [← walk_head this]
          simp
      have hcl : closes first x p.1 = false := by
        unfold closes
        rw [hot, decide_eq_false hnf]
        rfl
      have hlow : lt first (dst p) := by
        rcases R.low (dst p) (by rw [← hd2]; simp) with e | k
        · exact absurd e hnf
        · exact k
      have hex : extends_ lt first x p.1 = true := by
        unfold extends_
        rw [Bool.and_eq_true, decide_eq_true_eq, decide_eq_true_eq, hot]
        refine ⟨hlow, ?_⟩
        rw [h.met, ← hs]
        exact hall.2
      have hy : (dst p, x.2.1 ++ [p], x.2.2 ++ [dst p]) ∈ extOf lt first x p.1 := by
        unfold extOf
        rw [if_pos ht, if_neg (by rw [hcl]; decide), if_pos hex, hst, hot]
        exact List.mem_singleton.mpr rfl
      refine List.mem_flatMap.mpr ⟨_, hy, ?_⟩
      have hP := (onPile_ext V hp h hy).1
      have e : x.2.1 ++ p :: p2 :: t = (x.2.1 ++ [p]) ++ (p2 :: t) := by simp
      rw [e] at R ⊢
      exact rg_complete V O n (dst p, x.2.1 ++ [p], x.2.2 ++ [dst p]) (p2 :: t) hP (by simp) (by simp at hl ⊢; omega) R
/-! ### none is found twice -/
theorem nodup_flatMap {γ δ : Type} {f : γ → List δ} : ∀ {l : List γ}, l.Nodup → (∀ x ∈ l, (f x).Nodup) → (∀ x ∈ l, ∀ y ∈ l, x ≠ y → ∀ z ∈ f x, z ∉ f y) → (l.flatMap f).Nodup
  | [], _, _, _ => by simp
  | a :: l, n, h1, h2 => by
    obtain ⟨n1, n2⟩ := List.nodup_cons.mp n
    rw [List.flatMap_cons]
    refine List.nodup_append.mpr ⟨h1 a List.mem_cons_self, nodup_flatMap n2 (fun x hx => h1 x (List.mem_cons_of_mem _ hx)) (fun x hx y hy => h2 x (List.mem_cons_of_mem _ hx) y (List.mem_cons_of_mem _ hy)), fun z hz w hw e => ?_⟩
    obtain ⟨y, hy, k⟩ := List.mem_flatMap.mp hw
    rw [← e] at k
    exact h2 a List.mem_cons_self y (List.mem_cons_of_mem _ hy) (fun e => n1 (e ▸ hy)) z hz k
theorem rg_nodup {ws : List α} {qs : List (Row α)} (V : Net lt ws qs) {first : α} : ∀ (n : Nat) (x : RS α), OnPile (lt := lt) qs first x → (rg lt qs first n x).Nodup
  | 0, _, _ => by simp [rg]
  | n + 1, x, h => by
    rw [rg]
    -- each one goes on by its own queue
    have key : ∀ r ∈ qs, ∀ l ∈ closeOf first x r ++ (extOf lt first x r).flatMap (rg lt qs first n), ∃ t, l = x.2.1 ++ stepOf x.1 r :: t := fun r hr l hl => by
      rcases List.mem_append.mp hl with k | k
      · exact ⟨[], (close_ring V hr h k).1⟩
      · obtain ⟨y, hy, k⟩ := List.mem_flatMap.mp k
        obtain ⟨h', _, _, e⟩ := onPile_ext V hr h hy
        obtain ⟨_, t, _, e2⟩ := rg_sound V n y h' l k
        exact ⟨t, by rw [e2, e, List.append_assoc]; rfl⟩
    refine nodup_flatMap (rows_nodup V.nd) (fun r hr => ?_) (fun r hr r' hr' hne z hz hz' => ?_)
    · refine List.nodup_append.mpr ⟨?_, ?_, ?_⟩
      · unfold closeOf
        repeat' split
        all_goals simp
      · unfold extOf
        repeat' split
        case isTrue.isFalse.isTrue ht hc he =>
          rw [List.flatMap_singleton]
          refine rg_nodup V n _ ?_
          refine (onPile_ext V hr h ?_).1
          unfold extOf
          rw [if_pos ht, if_neg hc, if_pos he]
          exact List.mem_singleton.mpr rfl
        all_goals simp
      · intro a ha b hb
        unfold closeOf at ha
        unfold extOf at hb
        by_cases ht : touches x r = true
        · rw [if_pos ht] at ha hb
          by_cases hc : closes first x r = true
          · rw [if_pos hc] at ha hb
            simp at hb
          · rw [if_neg hc] at ha
            simp at ha
        · rw [if_neg ht] at ha
          simp at ha
    · obtain ⟨t, e⟩ := key r hr z hz
      obtain ⟨t', e'⟩ := key r' hr' z hz'
      rw [e] at e'
      have q := List.append_cancel_left e'
      have q2 : stepOf x.1 r = stepOf x.1 r' := (List.cons.inj q).1
      exact hne (congrArg Prod.fst q2)
/-! ### all rings -/
omit [DecidableRel lt] in
theorem ring_len {ws : List α} {qs : List (Row α)} (V : Net lt ws qs) {u : α} {l : List (RB α)} (R : Ring lt qs u l) : l.length ≤ ws.length := by
  have := nodup_len R.nw (ws := ws) fun x hx => by
    obtain ⟨p, hp, e⟩ := List.mem_map.mp hx
    rw [← e]
    have := walk_rows R.wk p hp
    unfold src
    split
    · exact V.st _ this
    · exact V.en _ this
  rw [List.length_map] at this
  exact this
omit [DecidableRel lt] in
theorem ring_start {qs : List (Row α)} {u : α} {l : List (RB α)} (R : Ring lt qs u l) : ∃ p t, l = p :: t ∧ src p = u := by
  cases l with
  | nil => exact absurd R.two (by simp)
  | cons p t => exact ⟨p, t, rfl, walk_head R.wk⟩
theorem mem_allRings {ws : List α} {qs : List (Row α)} (V : Net lt ws qs) (O : Sto lt) {l : List (RB α)} : l ∈ allRings lt ws qs ↔ ∃ u ∈ ws, Ring lt qs u l := by
  unfold allRings
  rw [List.mem_flatMap]
  constructor
  · rintro ⟨u, hu, h⟩
    exact ⟨u, hu, (rg_sound V _ _ (onPile_start qs u) l h).1⟩
  · rintro ⟨u, hu, R⟩
    have hne : l ≠ [] := fun e => by
      have := R.two
      rw [e] at this
      simp at this
    exact ⟨u, hu, rg_complete V O ws.length (u, [], [u]) l (onPile_start qs u) hne (ring_len V R) R⟩
theorem nodup_allRings {ws : List α} {qs : List (Row α)} (V : Net lt ws qs) (O : Sto lt) : (allRings lt ws qs).Nodup := by
  unfold allRings
  refine nodup_flatMap (asc_nodup O V.asc) (fun u _ => rg_nodup V _ _ (onPile_start qs u)) fun u _ v _ hne z hz hz' => ?_
  have R := (rg_sound V _ _ (onPile_start qs u) z hz).1
  have R' := (rg_sound V _ _ (onPile_start qs v) z hz').1
  obtain ⟨p, t, e, h⟩ := ring_start R
  obtain ⟨p', t', e', h'⟩ := ring_start R'
  rw [e] at e'
  have q := (List.cons.inj e').1
  rw [← q] at h'
  exact hne (h.symm.trans h')
theorem allRings_len {ws : List α} {qs : List (Row α)} (hw : ws.length ≤ 5) (hq : qs.length ≤ 7) : (allRings lt ws qs).length ≤ 1310720 := by
  unfold allRings
  have h : ∀ u ∈ ws, (rg lt qs u ws.length (u, [], [u])).length ≤ 262144 := fun u _ => by
    refine Nat.le_trans (rg_len lt qs u hq ws.length _) ?_
    have : (7 + 1) ^ (ws.length + 1) ≤ (7 + 1) ^ 6 := Nat.pow_le_pow_right (by decide) (by omega)
    exact Nat.le_trans this (by decide)
  have := flatMap_len h
  have : ws.length * 262144 ≤ 5 * 262144 := Nat.mul_le_mul_right _ hw
  omega
/-! ### rings under other names: turned to their new least worker -/
theorem sum_perm {l m : List Int} (h : l.Perm m) : l.sum = m.sum := by
  induction h with
  | nil => rfl
  | cons x _ ih => rw [List.sum_cons, List.sum_cons, ih]
  | swap x y l => rw [List.sum_cons, List.sum_cons, List.sum_cons, List.sum_cons]; omega
  | trans _ _ a b => exact a.trans b
def cost (l : List (RB α)) : Int := (l.map cst).sum
def price (l : List (RB α)) : Int := (l.map prc).sum
theorem cost_perm {l m : List (RB α)} (h : l.Perm m) : cost l = cost m := sum_perm (h.map cst)
theorem price_perm {l m : List (RB α)} (h : l.Perm m) : price l = price m := sum_perm (h.map prc)
/-- l' is l, turned, under the new names -/
def Turned {γ : Type} (ρ μ : α → γ) (l : List (RB α)) (l' : List (RB γ)) : Prop := ∃ a b, l = a ++ b ∧ l' = (b ++ a).map (renb ρ μ)
omit [DecidableRel lt] in
theorem least_of (O : Sto lt) : ∀ (l : List α), l ≠ [] → ∃ m ∈ l, ∀ x ∈ l, x = m ∨ lt m x
  | [], h => absurd rfl h
  | [a], _ => ⟨a, by simp, fun x hx => .inl (List.mem_singleton.mp hx)⟩
  | a :: b :: l, _ => by
    obtain ⟨m, hm, h⟩ := least_of O (b :: l) (by simp)
    rcases O.tri a m with k | k | k
    · refine ⟨a, by simp, fun x hx => ?_⟩
      rcases List.mem_cons.mp hx with e | hx
      · exact .inl e
      · rcases h x hx with e | q
        · rw [e]; exact .inr k
        · exact .inr (O.tr _ _ _ k q)
    · refine ⟨m, List.mem_cons_of_mem _ hm, fun x hx => ?_⟩
      rcases List.mem_cons.mp hx with e | hx
      · exact .inl (e.trans k)
      · exact h x hx
    · refine ⟨m, List.mem_cons_of_mem _ hm, fun x hx => ?_⟩
      rcases List.mem_cons.mp hx with e | hx
      · rw [e]; exact .inr k
      · exact h x hx
end
section
variable {α β : Type} [DecidableEq α] [DecidableEq β] {lt : α → α → Prop} {lt' : β → β → Prop}
theorem src_mem {ws : List α} {qs : List (Row α)} (V : Net lt ws qs) {p : RB α} (h : p.1 ∈ qs) : src p ∈ ws := by
  unfold src
  split
  · exact V.st _ h
  · exact V.en _ h
theorem dst_mem {ws : List α} {qs : List (Row α)} (V : Net lt ws qs) {p : RB α} (h : p.1 ∈ qs) : dst p ∈ ws := by
  unfold dst
  split
  · exact V.en _ h
  · exact V.st _ h
theorem ring_turn {ws : List α} {qs : List (Row α)} {ws' : List β} {qs' : List (Row β)} {ρ μ : α → β} (O' : Sto lt') (V : Net lt ws qs) (h : Ren ws qs ws' qs' ρ μ) {u : α} {l : List (RB α)} (R : Ring lt qs u l) : ∃ u' ∈ ws', ∃ l', Ring lt' qs' u' l' ∧ Turned ρ μ l l' := by
  have hrow := walk_rows R.wk
  have hne : (l.map src).map ρ ≠ [] := fun e => by
    have := R.two
    have k : l = [] := List.map_eq_nil_iff.mp (List.map_eq_nil_iff.mp e)
    rw [k] at this
    simp at this
  obtain ⟨m, hm, hlow⟩ := least_of O' _ hne
  obtain ⟨x, hx, ex⟩ := List.mem_map.mp hm
  obtain ⟨p, hp, ep⟩ := List.mem_map.mp hx
  obtain ⟨a, b, e⟩ := List.append_of_mem hp
  refine ⟨m, ?_, ((p :: b) ++ a).map (renb ρ μ), ?_, a, p :: b, e, rfl⟩
  · rw [← ex, ← ep]
    exact (h.wk _).mpr ⟨src p, src_mem V (hrow p hp), rfl⟩
  · have pm : ((p :: b) ++ a).Perm l := by rw [e]; exact List.perm_append_comm
    have esrc : (((p :: b) ++ a).map (renb ρ μ)).map src = (((p :: b) ++ a).map src).map ρ := by
      rw [List.map_map, List.map_map]
      exact List.map_congr_left fun z _ => src_ren z
    have eq_ : (((p :: b) ++ a).map (renb ρ μ)).map (fun z => z.1.q) = (((p :: b) ++ a).map fun z => z.1.q).map μ := by
      rw [List.map_map, List.map_map]
      rfl
    have hmem : ∀ z, z ∈ (p :: b) ++ a → z.1 ∈ qs := fun z hz => hrow z (pm.mem_iff.mp hz)
    refine ⟨?_, ?_, ?_, ?_, ?_⟩
    · have w := R.wk
      rw [e] at w
      obtain ⟨v, w1, w2⟩ := walk_split w
      have ev : v = src p := (walk_head w2).symm
      have w3 := walk_ren h (walk_app w2 w1)
      rw [ev, ep, ex] at w3
      exact w3
    · rw [esrc]
      have n : (((p :: b) ++ a).map src).Nodup := (pm.map src).nodup_iff.mpr R.nw
      refine List.pairwise_map.mpr (List.Pairwise.imp_of_mem (fun {y z} hy hz hyz e => hyz ?_) n)
      obtain ⟨y', hy', rfl⟩ := List.mem_map.mp hy
      obtain ⟨z', hz', rfl⟩ := List.mem_map.mp hz
      exact h.inj _ (src_mem V (hmem _ hy')) _ (src_mem V (hmem _ hz')) e
    · rw [eq_]
      have n : (((p :: b) ++ a).map fun z => z.1.q).Nodup := (pm.map _).nodup_iff.mpr R.nq
      refine List.pairwise_map.mpr (List.Pairwise.imp_of_mem (fun {y z} hy hz hyz e => hyz ?_) n)
      obtain ⟨y', hy', rfl⟩ := List.mem_map.mp hy
      obtain ⟨z', hz', rfl⟩ := List.mem_map.mp hz
      exact h.injq _ (hmem _ hy') _ (hmem _ hz') e
    · rw [List.length_map, pm.length_eq]
      exact R.two
    · intro y hy
      rw [esrc] at hy
      exact hlow y (((pm.map src).map ρ).mem_iff.mp hy)
theorem turned_cost {ρ μ : α → β} {l : List (RB α)} {l' : List (RB β)} (h : Turned ρ μ l l') : cost l' = cost l := by
  obtain ⟨a, b, e, e'⟩ := h
  rw [e, e']
  have : cost ((b ++ a).map (renb ρ μ)) = cost (b ++ a) := by
    unfold cost
    rw [List.map_map]
    exact congrArg List.sum (List.map_congr_left fun z _ => cst_ren z)
  rw [this]
  exact cost_perm List.perm_append_comm
theorem turned_price {ρ μ : α → β} {l : List (RB α)} {l' : List (RB β)} (h : Turned ρ μ l l') : price l' = price l := by
  obtain ⟨a, b, e, e'⟩ := h
  rw [e, e']
  have : price ((b ++ a).map (renb ρ μ)) = price (b ++ a) := by
    unfold price
    rw [List.map_map]
    exact congrArg List.sum (List.map_congr_left fun z _ => prc_ren z)
  rw [this]
  exact price_perm List.perm_append_comm
/-- a list cut ahead of one step is cut so in one way only -/
theorem cut_uniq : ∀ {b1 b2 t1 t2 : List (RB α)} {p1 p2 : RB α}, b1 ++ p1 :: t1 = b2 ++ p2 :: t2 → ((b1 ++ p1 :: t1).map src).Nodup → src p1 = src p2 → b1 = b2 ∧ p1 :: t1 = p2 :: t2
  | [], [], _, _, _, _, e, _, _ => ⟨rfl, e⟩
  | [], y :: b2, t1, t2, p1, p2, e, n, h => by
    obtain ⟨e1, e2⟩ := List.cons.inj e
    rw [List.nil_append, List.map_cons] at n
    refine absurd ?_ (List.nodup_cons.mp n).1
    rw [e2, h]
    simp
  | y :: b1, [], t1, t2, p1, p2, e, n, h => by
    obtain ⟨e1, e2⟩ := List.cons.inj e
    rw [List.cons_append, List.map_cons] at n
    refine absurd ?_ (List.nodup_cons.mp n).1
    rw [e1, ← h]
    simp
  | y :: b1, z :: b2, t1, t2, p1, p2, e, n, h => by
    obtain ⟨e1, e2⟩ := List.cons.inj e
    rw [List.cons_append, List.map_cons] at n
    obtain ⟨k1, k2⟩ := cut_uniq e2 (List.nodup_cons.mp n).2 h
    exact ⟨by rw [e1, k1], k2⟩
theorem renb_inj {ws : List α} {qs : List (Row α)} (V : Net lt ws qs) {ρ μ : α → β} (hq : ∀ r ∈ qs, ∀ r' ∈ qs, μ r.q = μ r'.q → r.q = r'.q) : ∀ {l m : List (RB α)}, (∀ p ∈ l, p.1 ∈ qs) → (∀ p ∈ m, p.1 ∈ qs) → l.map (renb ρ μ) = m.map (renb ρ μ) → l = m
  | [], [], _, _, _ => rfl
  | [], _ :: _, _, _, e => by simp at e
  | _ :: _, [], _, _, e => by simp at e
  | x :: l, y :: m, hl, hm, e => by
    rw [List.map_cons, List.map_cons] at e
    obtain ⟨e1, e2⟩ := List.cons.inj e
    have r := renb_inj V hq (fun p hp => hl p (List.mem_cons_of_mem _ hp)) (fun p hp => hm p (List.mem_cons_of_mem _ hp)) e2
    have hx := hl x List.mem_cons_self
    have hy := hm y List.mem_cons_self
    obtain ⟨r1, b1⟩ := x
    obtain ⟨r2, b2⟩ := y
    have ea : ren ρ μ r1 = ren ρ μ r2 := congrArg Prod.fst e1
    have eb : b1 = b2 := congrArg Prod.snd e1
    have ec : μ r1.q = μ r2.q := congrArg Row.q ea
    have er : r1 = r2 := row_of_name V.nd hx hy (hq _ hx _ hy ec)
    rw [r, er, eb]
theorem low_same (O : Sto lt) {qs : List (Row α)} {u v : α} {l m : List (RB α)} (R : Ring lt qs u l) (S : Ring lt qs v m) (p : l.Perm m) : u = v := by
  obtain ⟨p1, t1, e1, h1⟩ := ring_start R
  obtain ⟨p2, t2, e2, h2⟩ := ring_start S
  have a : v ∈ l.map src := (p.map src).mem_iff.mpr (by rw [e2, ← h2]; simp)
  have b : u ∈ m.map src := (p.map src).mem_iff.mp (by rw [e1, ← h1]; simp)
  rcases R.low v a with k | k
  · exact k.symm
  · rcases S.low u b with q | q
    · exact q
    · exact absurd k (O.asym q)
/-- no two rings become one -/
theorem turned_uniq {ws : List α} {qs : List (Row α)} (O : Sto lt) (V : Net lt ws qs) {ρ μ : α → β} (hq : ∀ r ∈ qs, ∀ r' ∈ qs, μ r.q = μ r'.q → r.q = r'.q) {u v : α} {l m : List (RB α)} {l' : List (RB β)} (R : Ring lt qs u l) (S : Ring lt qs v m) (h : Turned ρ μ l l') (k : Turned ρ μ m l') : l = m := by
  -- the part that comes first may be taken not empty
  have norm : ∀ {w : α} {n : List (RB α)}, Ring lt qs w n → Turned ρ μ n l' → ∃ p a b, n = (p :: a) ++ b ∧ l' = (b ++ p :: a).map (renb ρ μ) := fun {w n} R h => by
    obtain ⟨a, b, e, e'⟩ := h
    cases a with
    | cons p a => exact ⟨p, a, b, e, e'⟩
    | nil =>
      obtain ⟨p, t, e1, _⟩ := ring_start R
      refine ⟨p, t, [], by rw [e1]; simp, ?_⟩
      rw [e', List.append_nil, ← e1, e]
      rfl
  obtain ⟨p1, a1, b1, e1, f1⟩ := norm R h
  obtain ⟨p2, a2, b2, e2, f2⟩ := norm S k
  have r1 := walk_rows R.wk
  have r2 := walk_rows S.wk
  have pm1 : (b1 ++ p1 :: a1).Perm l := by rw [e1]; exact List.perm_append_comm
  have pm2 : (b2 ++ p2 :: a2).Perm m := by rw [e2]; exact List.perm_append_comm
  have e : b1 ++ p1 :: a1 = b2 ++ p2 :: a2 := renb_inj V hq (fun p hp => r1 p (pm1.mem_iff.mp hp)) (fun p hp => r2 p (pm2.mem_iff.mp hp)) (f1.symm.trans f2)
  have pm : l.Perm m := pm1.symm.trans (by rw [e]; exact pm2)
  have huv := low_same O R S pm
  have s1 : src p1 = u := by
    have := R.wk
    rw [e1] at this
    exact walk_head this
  have s2 : src p2 = v := by
    have := S.wk
    rw [e2] at this
    exact walk_head this
  obtain ⟨q1, q2⟩ := cut_uniq e ((pm1.map src).nodup_iff.mpr R.nw) (by rw [s1, s2, huv])
  rw [e1, e2, q1, q2]
/-- a relation that sends each to another one, no two to the same -/
theorem rel_len {γ δ : Type} {P : γ → δ → Prop} [DecidableEq δ] : ∀ {L : List γ} {M : List δ}, L.Nodup → (∀ x ∈ L, ∃ y ∈ M, P x y) → (∀ x ∈ L, ∀ x' ∈ L, ∀ y, P x y → P x' y → x = x') → L.length ≤ M.length
  | [], _, _, _, _ => Nat.zero_le _
  | x :: L, M, n, h1, h2 => by
    obtain ⟨n1, n2⟩ := List.nodup_cons.mp n
    obtain ⟨y, hy, hp⟩ := h1 x List.mem_cons_self
    have q : L.length ≤ (M.erase y).length := rel_len n2 (fun z hz => by
      obtain ⟨w, hw, hq⟩ := h1 z (List.mem_cons_of_mem _ hz)
      refine ⟨w, (List.mem_erase_of_ne fun e => ?_).mpr hw, hq⟩
      subst e
      have := h2 x List.mem_cons_self z (List.mem_cons_of_mem _ hz) w hp hq
      exact n1 (this ▸ hz)) fun z hz z' hz' => h2 z (List.mem_cons_of_mem _ hz) z' (List.mem_cons_of_mem _ hz')
    rw [List.length_erase_of_mem hy] at q
    have := List.length_pos_of_mem hy
    rw [List.length_cons]
    omega
variable [DecidableRel lt] [DecidableRel lt']
theorem rings_le {ws : List α} {qs : List (Row α)} {ws' : List β} {qs' : List (Row β)} {ρ μ : α → β} (O : Sto lt) (O' : Sto lt') (V : Net lt ws qs) (V' : Net lt' ws' qs') (h : Ren ws qs ws' qs' ρ μ) : (allRings lt ws qs).length ≤ (allRings lt' ws' qs').length := by
  classical
  refine rel_len (P := fun l l' => Turned ρ μ l l') (nodup_allRings V O) (fun l hl => ?_) fun l hl m hm l' h1 h2 => ?_
  · obtain ⟨u, _, R⟩ := (mem_allRings V O).mp hl
    obtain ⟨u', hu', l', R', t⟩ := ring_turn O' V h R
    exact ⟨l', (mem_allRings V' O').mpr ⟨u', hu', R'⟩, t⟩
  · obtain ⟨u, _, R⟩ := (mem_allRings V O).mp hl
    obtain ⟨v, _, S⟩ := (mem_allRings V O).mp hm
    exact turned_uniq O V h.injq R S h1 h2
/-- for every ring there is one that costs the same -/
theorem rings_to {ws : List α} {qs : List (Row α)} {ws' : List β} {qs' : List (Row β)} {ρ μ : α → β} (O : Sto lt) (O' : Sto lt') (V : Net lt ws qs) (V' : Net lt' ws' qs') (h : Ren ws qs ws' qs' ρ μ) {l : List (RB α)} (hl : l ∈ allRings lt ws qs) : ∃ l' ∈ allRings lt' ws' qs', cost l' = cost l ∧ price l' = price l := by
  obtain ⟨u, _, R⟩ := (mem_allRings V O).mp hl
  obtain ⟨u', hu', l', R', t⟩ := ring_turn O' V h R
  exact ⟨l', (mem_allRings V' O').mpr ⟨u', hu', R'⟩, turned_cost t, turned_price t⟩
theorem rings_count {ws : List α} {qs : List (Row α)} {ws' : List β} {qs' : List (Row β)} {ρ μ : α → β} (O : Sto lt) (O' : Sto lt') (V : Net lt ws qs) (V' : Net lt' ws' qs') (h : Ren ws qs ws' qs' ρ μ) (y0 : β → α) : (allRings lt' ws' qs').length = (allRings lt ws qs).length := by
  obtain ⟨ρ', μ', h', _⟩ := h.symm V y0
  exact Nat.le_antisymm (rings_le O' O V' V h') (rings_le O O' V V' h)
/-- the least of some numbers, or none -/
def LeastIs (S : Int → Prop) : Option Int → Prop
  | none => ∀ c, ¬ S c
  | some m => S m ∧ ∀ c, S c → m ≤ c
theorem least_uniq {S T : Int → Prop} {a b : Option Int} (e : ∀ c, S c ↔ T c) (h : LeastIs S a) (k : LeastIs T b) : a = b := by
  cases a with
  | none =>
    cases b with
    | none => rfl
    | some y => exact absurd ((e y).mpr k.1) (h y)
  | some x =>
    cases b with
    | none => exact absurd ((e x).mp h.1) (k x)
    | some y =>
      have a1 := h.2 y ((e y).mpr k.1)
      have a2 := k.2 x ((e x).mp h.1)
      rw [show x = y by omega]
theorem costs_same {ws : List α} {qs : List (Row α)} {ws' : List β} {qs' : List (Row β)} {ρ μ : α → β} (O : Sto lt) (O' : Sto lt') (V : Net lt ws qs) (V' : Net lt' ws' qs') (h : Ren ws qs ws' qs' ρ μ) (y0 : β → α) (c : Int) :
    (∃ l ∈ allRings lt' ws' qs', cost l = c) ↔ ∃ l ∈ allRings lt ws qs, cost l = c := by
  obtain ⟨ρ', μ', h', _⟩ := h.symm V y0
  constructor
  · rintro ⟨l, hl, e⟩
    obtain ⟨l', hl', e', _⟩ := rings_to O' O V' V h' hl
    exact ⟨l', hl', e'.trans e⟩
  · rintro ⟨l, hl, e⟩
    obtain ⟨l', hl', e', _⟩ := rings_to O O' V V' h hl
    exact ⟨l', hl', e'.trans e⟩
theorem prices_same {ws : List α} {qs : List (Row α)} {ws' : List β} {qs' : List (Row β)} {ρ μ : α → β} (O : Sto lt) (O' : Sto lt') (V : Net lt ws qs) (V' : Net lt' ws' qs') (h : Ren ws qs ws' qs' ρ μ) (y0 : β → α) (c : Int) :
    (∃ l ∈ allRings lt' ws' qs', cost l ≤ 0 ∧ price l = c) ↔ ∃ l ∈ allRings lt ws qs, cost l ≤ 0 ∧ price l = c := by
  obtain ⟨ρ', μ', h', _⟩ := h.symm V y0
  constructor
  · rintro ⟨l, hl, k, e⟩
    obtain ⟨l', hl', e1, e2⟩ := rings_to O' O V' V h' hl
    exact ⟨l', hl', by omega, e2.trans e⟩
  · rintro ⟨l, hl, k, e⟩
    obtain ⟨l', hl', e1, e2⟩ := rings_to O O' V V' h hl
    exact ⟨l', hl', by omega, e2.trans e⟩
end
end JM
set_option linter.all false
/-! Plain mathematics, fourth part: lags (a potential), by rounds over all steps; the reasons kept on the way. -/
namespace JM
section
variable {α β : Type} [DecidableEq α]
/-- found, came, last -/
structure BF (α : Type) where
  f : α → Int
  c : α → Option (RB α)
  last : Option α
def set1 {γ : Type} (g : α → γ) (x : α) (v : γ) : α → γ := fun y => if y = x then v else g y
theorem set1_same {γ : Type} {g : α → γ} {x : α} {v : γ} : set1 g x v x = v := if_pos rfl
theorem set1_ne {γ : Type} {g : α → γ} {x y : α} {v : γ} (h : y ≠ x) : set1 g x v y = g y := if_neg h
/-- what a step weighs -/
def wt (parts : Int) (p : RB α) : Int := cst p * parts - 1
def bfStep (parts : Int) (S : BF α) (p : RB α) : BF α :=
  if S.f (dst p) + cst p * parts - 1 < S.f (src p) then ⟨set1 S.f (src p) (S.f (dst p) + cst p * parts - 1), set1 S.c (src p) (some p), some (src p)⟩ else S
def bfRound (as : List (RB α)) (parts : Int) (S : BF α) : BF α := as.foldl (bfStep parts) ⟨S.f, S.c, none⟩
def bf0 : BF α := ⟨fun _ => 0, fun _ => none, none⟩
def bfIter (as : List (RB α)) (parts : Int) : Nat → BF α
  | 0 => bf0
  | n + 1 => bfRound as parts (bfIter as parts n)
theorem step_le (parts : Int) (S : BF α) (p : RB α) (x : α) : (bfStep parts S p).f x ≤ S.f x := by
  unfold bfStep
  split
  · rename_i h
    show set1 S.f (src p) _ x ≤ S.f x
    by_cases e : x = src p
    · rw [e, set1_same]; omega
    · rw [set1_ne e]; omega
  · omega
theorem steps_le (parts : Int) : ∀ (l : List (RB α)) (S : BF α) (x : α), (l.foldl (bfStep parts) S).f x ≤ S.f x
  | [], _, _ => Int.le_refl _
  | p :: l, S, x => Int.le_trans (steps_le parts l (bfStep parts S p) x) (step_le parts S p x)
/-- after a round no step leads far below what stood ahead of it -/
theorem steps_relax (parts : Int) : ∀ (l : List (RB α)) (S : BF α) (p : RB α), p ∈ l → (l.foldl (bfStep parts) S).f (src p) ≤ S.f (dst p) + cst p * parts - 1
  | [], _, _, h => by simp at h
  | q :: l, S, p, h => by
    rcases List.mem_cons.mp h with e | h
    · rw [← e]
      refine Int.le_trans (steps_le parts l (bfStep parts S p) _) ?_
      unfold bfStep
      split
      · show set1 S.f (src p) _ (src p) ≤ _
        rw [set1_same]
        omega
      · omega
    · have a := steps_relax parts l (bfStep parts S q) p h
      have b := step_le parts S q (dst p)
      show (l.foldl (bfStep parts) (bfStep parts S q)).f (src p) ≤ _
      omega
theorem round_relax {as : List (RB α)} (parts : Int) (S : BF α) {p : RB α} (h : p ∈ as) : (bfRound as parts S).f (src p) ≤ S.f (dst p) + cst p * parts - 1 := steps_relax parts as ⟨S.f, S.c, none⟩ p h
theorem round_le {as : List (RB α)} (parts : Int) (S : BF α) (x : α) : (bfRound as parts S).f x ≤ S.f x := steps_le parts as ⟨S.f, S.c, none⟩ x
/-- last: who was changed; none: nothing was -/
theorem steps_last (parts : Int) : ∀ (l : List (RB α)) (S : BF α), (l.foldl (bfStep parts) S).last = S.last ∧ (l.foldl (bfStep parts) S) = S ∨ ∃ x, (l.foldl (bfStep parts) S).last = some x ∧ (l.foldl (bfStep parts) S).f x < S.f x
  | [], S => .inl ⟨rfl, rfl⟩
  | p :: l, S => by
    show _ ∧ l.foldl (bfStep parts) (bfStep parts S p) = S ∨ _
    rcases steps_last parts l (bfStep parts S p) with ⟨e1, e2⟩ | ⟨x, e1, e2⟩
    · by_cases h : S.f (dst p) + cst p * parts - 1 < S.f (src p)
      · refine .inr ⟨src p, ?_, ?_⟩
        · show (l.foldl (bfStep parts) (bfStep parts S p)).last = _
          rw [e1]
          unfold bfStep
          rw [if_pos h]
        · show (l.foldl (bfStep parts) (bfStep parts S p)).f _ < _
          rw [e2]
          unfold bfStep
          rw [if_pos h]
          show set1 S.f (src p) _ (src p) < _
          rw [set1_same]
          exact h
      · have e : bfStep parts S p = S := by
          unfold bfStep
          rw [if_neg h]
        refine .inl ⟨?_, ?_⟩
        · show (l.foldl (bfStep parts) (bfStep parts S p)).last = _
          rw [e1, e]
        · rw [e2, e]
    · refine .inr ⟨x, e1, ?_⟩
      have := step_le parts S p x
      show (l.foldl (bfStep parts) (bfStep parts S p)).f x < _
      omega
theorem round_none {as : List (RB α)} {parts : Int} {S : BF α} (h : (bfRound as parts S).last = none) : (bfRound as parts S).f = S.f := by
  rcases steps_last parts as ⟨S.f, S.c, none⟩ with ⟨_, e⟩ | ⟨x, e, _⟩
  · show (as.foldl (bfStep parts) ⟨S.f, S.c, none⟩).f = S.f
    rw [e]
  · exact absurd (h.symm.trans e) (by simp)
theorem round_some {as : List (RB α)} {parts : Int} {S : BF α} {x : α} (h : (bfRound as parts S).last = some x) : (bfRound as parts S).f x < S.f x := by
  rcases steps_last parts as ⟨S.f, S.c, none⟩ with ⟨e, _⟩ | ⟨y, e, k⟩
  · exact absurd (e.symm.trans h) (by simp)
  · have : some y = some x := e.symm.trans h
    have := Option.some.inj this
    rw [← this]
    exact k
/-- a potential -/
def Pot (qs : List (Row α)) (parts : Int) (g : α → Int) : Prop := ∀ p : RB α, p.1 ∈ qs → g (src p) ≤ g (dst p) + cst p * parts - 1
theorem pot_of_none {qs : List (Row α)} {parts : Int} {S : BF α} (h : (bfRound (arcs qs) parts S).last = none) : Pot qs parts (bfRound (arcs qs) parts S).f := fun p hp => by
  have := round_relax parts S (mem_arcs.mpr hp)
  rw [round_none h] at this ⊢
  exact this
/-! ### the weight of a walk -/
def wsum (parts : Int) (l : List (RB α)) : Int := (l.map (wt parts)).sum
theorem wsum_nil {parts : Int} : wsum parts ([] : List (RB α)) = 0 := rfl
theorem wsum_cons {parts : Int} {p : RB α} {l : List (RB α)} : wsum parts (p :: l) = wt parts p + wsum parts l := by
  unfold wsum
  rw [List.map_cons, List.sum_cons]
theorem wsum_app {parts : Int} {l m : List (RB α)} : wsum parts (l ++ m) = wsum parts l + wsum parts m := by
  unfold wsum
  rw [List.map_append, List.sum_append]
theorem pot_walk {qs : List (Row α)} {parts : Int} {g : α → Int} (h : Pot qs parts g) {u v : α} {l : List (RB α)} (k : IsWalk qs u l v) : g u - g v ≤ wsum parts l := by
  induction l generalizing u with
  | nil =>
    rw [show u = v from k, wsum_nil]
    omega
  | cons p l ih =>
    have a := h p k.1
    have b := ih k.2.2
    rw [k.2.1] at a
    rw [wsum_cons]
    unfold wt
    omega
/-- after n rounds nothing is above a walk of at most n steps -/
theorem iter_walk {qs : List (Row α)} {parts : Int} : ∀ (n : Nat) {u v : α} {l : List (RB α)}, IsWalk qs u l v → l.length ≤ n → (bfIter (arcs qs) parts n).f u ≤ wsum parts l
  | 0, u, v, [], _, _ => Int.le_refl _
  | 0, u, v, p :: l, _, h => by simp at h
  | n + 1, u, v, [], k, _ => Int.le_trans (round_le parts _ u) (iter_walk n (v := u) (l := []) rfl (Nat.zero_le _))
  | n + 1, u, v, p :: l, k, h => by
    have a := iter_walk (parts := parts) n k.2.2 (by simp at h; omega)
    have b := round_relax parts (bfIter (arcs qs) parts n) (mem_arcs.mpr k.1)
    rw [k.2.1] at b
    rw [wsum_cons]
    unfold wt
    show (bfRound (arcs qs) parts (bfIter (arcs qs) parts n)).f u ≤ _
    omega
/-! ### what is kept on the way -/
structure Kept (qs : List (Row α)) (parts : Int) (S : BF α) : Prop where
  none_ : ∀ x, S.c x = none → S.f x = 0
  some_ : ∀ x p, S.c x = some p → p.1 ∈ qs ∧ src p = x ∧ S.f (dst p) + cst p * parts - 1 ≤ S.f x
  walk : ∀ x, ∃ y l, IsWalk qs x l y ∧ S.f x = wsum parts l
theorem kept_step {ws : List α} {lt : α → α → Prop} {qs : List (Row α)} (V : Net lt ws qs) {parts : Int} {S : BF α} {p : RB α} (hp : p.1 ∈ qs) (h : Kept qs parts S) : Kept qs parts (bfStep parts S p) := by
  unfold bfStep
  split
  case isFalse => exact h
  rename_i hlt
  have hne : dst p ≠ src p := by
    have := V.ne _ hp
    unfold dst src
    split
    · exact fun e => this e.symm
    · exact this
  refine ⟨fun x hx => ?_, fun x q hx => ?_, fun x => ?_⟩
  · show set1 S.f (src p) _ x = 0
    by_cases e : x = src p
    · have : set1 S.c (src p) (some p) x = none := hx
      rw [e, set1_same] at this
      cases this
    · rw [set1_ne e]
      refine h.none_ x ?_
      have : set1 S.c (src p) (some p) x = none := hx
      rw [set1_ne e] at this
      exact this
  · have hx' : set1 S.c (src p) (some p) x = some q := hx
    show q.1 ∈ qs ∧ src q = x ∧ set1 S.f (src p) _ (dst q) + cst q * parts - 1 ≤ set1 S.f (src p) _ x
    by_cases e : x = src p
    · rw [e, set1_same] at hx'
      have eq := Option.some.inj hx'
      rw [← eq, e, set1_same, set1_ne hne]
      exact ⟨hp, rfl, Int.le_refl _⟩
    · rw [set1_ne e] at hx'
      obtain ⟨a, b, c⟩ := h.some_ x q hx'
      refine ⟨a, b, ?_⟩
      rw [set1_ne e]
      by_cases e2 : dst q = src p
      · rw [e2, set1_same]
        rw [e2] at c
        omega
      · rw [set1_ne e2]
        exact c
  · show ∃ y l, IsWalk qs x l y ∧ set1 S.f (src p) _ x = wsum parts l
    by_cases e : x = src p
    · obtain ⟨y, l, k, q⟩ := h.walk (dst p)
      refine ⟨y, p :: l, ⟨hp, e.symm, k⟩, ?_⟩
      rw [e, set1_same, wsum_cons, q]
      unfold wt
      omega
    · rw [set1_ne e]
      exact h.walk x
theorem kept_steps {ws : List α} {lt : α → α → Prop} {qs : List (Row α)} (V : Net lt ws qs) {parts : Int} : ∀ (l : List (RB α)) (S : BF α), (∀ p ∈ l, p.1 ∈ qs) → Kept qs parts S → Kept qs parts (l.foldl (bfStep parts) S)
  | [], _, _, h => h
  | p :: l, S, k, h => kept_steps V l (bfStep parts S p) (fun q hq => k q (List.mem_cons_of_mem _ hq)) (kept_step V (k p List.mem_cons_self) h)
theorem kept_iter {ws : List α} {lt : α → α → Prop} {qs : List (Row α)} (V : Net lt ws qs) {parts : Int} : ∀ n, Kept qs parts (bfIter (arcs qs) parts n)
  | 0 => ⟨fun _ _ => rfl, fun _ _ h => (by cases h), fun x => ⟨x, [], rfl, rfl⟩⟩
  | n + 1 => by
    have h := kept_iter V (parts := parts) n
    have h' : Kept qs parts ⟨(bfIter (arcs qs) parts n).f, (bfIter (arcs qs) parts n).c, none⟩ := ⟨h.none_, h.some_, h.walk⟩
    exact kept_steps V (arcs qs) _ (fun p hp => mem_arcs.mp hp) h'
theorem walk_mem {ws : List α} {lt : α → α → Prop} {qs : List (Row α)} (V : Net lt ws qs) {u v : α} {l : List (RB α)} (hu : u ∈ ws) (k : IsWalk qs u l v) : v ∈ ws ∧ ∀ p ∈ l, src p ∈ ws := by
  induction l generalizing u with
  | nil => exact ⟨(show u = v from k) ▸ hu, fun p hp => by simp at hp⟩
  | cons p l ih =>
    have hd : dst p ∈ ws := by
      unfold dst
      split
      · exact V.en _ k.1
      · exact V.st _ k.1
    obtain ⟨a, b⟩ := ih hd k.2.2
    refine ⟨a, fun q hq => ?_⟩
    rcases List.mem_cons.mp hq with e | hq
    · rw [e, k.2.1]; exact hu
    · exact b q hq
/-- with a potential a walk may be cut below as many steps as there are workers -/
theorem walk_cut {ws : List α} {lt : α → α → Prop} {qs : List (Row α)} (V : Net lt ws qs) {parts : Int} {g : α → Int} (hg : Pot qs parts g) : ∀ (n : Nat) {u v : α} {l : List (RB α)}, l.length ≤ n → u ∈ ws → IsWalk qs u l v → ∃ v' l', l'.length + 1 ≤ ws.length ∧ IsWalk qs u l' v' ∧ wsum parts l' ≤ wsum parts l
  | 0, u, v, l, hn, hu, k => by
    refine ⟨u, [], ?_, rfl, ?_⟩
    · exact List.length_pos_of_mem hu
    · rw [List.length_eq_zero_iff.mp (by omega : l.length = 0)]
      exact Int.le_refl _
  | n + 1, u, v, l, hn, hu, k => by
    by_cases hs : l.length + 1 ≤ ws.length
    · exact ⟨v, l, hs, k, Int.le_refl _⟩
    · -- a worker is met twice
      obtain ⟨hv, hm⟩ := walk_mem V hu k
      have hl : ws.length < (l.map src ++ [v]).length := by simp; omega
      obtain ⟨a, x, b, c, e⟩ := pigeon_list (l := l.map src ++ [v]) (ws := ws) (fun y hy => by
        rcases List.mem_append.mp hy with q | q
        · obtain ⟨p, hp, rfl⟩ := List.mem_map.mp q
          exact hm p hp
        · rw [List.mem_singleton.mp q]; exact hv) hl
      -- the walk is cut at the two places
      have cutat : ∀ (a : List α) (l : List (RB α)) (u : α) (x : α) (r : List α), IsWalk qs u l v → l.map src ++ [v] = a ++ x :: r → ∃ l1 l2, l = l1 ++ l2 ∧ l1.length = a.length ∧ IsWalk qs u l1 x ∧ IsWalk qs x l2 v ∧ l2.map src ++ [v] = x :: r := by
        intro a
        induction a with
        | nil =>
          intro l u x r k e
          refine ⟨[], l, rfl, rfl, ?_, ?_, e⟩
          · cases l with
            | nil =>
              have := (List.cons.inj e).1
              exact (show u = v from k).trans this
            | cons p l =>
              have := (List.cons.inj e).1
              exact k.2.1.symm.trans this
          · cases l with
            | nil =>
              have := (List.cons.inj e).1
              exact this.symm
            | cons p l =>
              have := (List.cons.inj e).1
              exact ⟨k.1, this, k.2.2⟩
        | cons y a ih =>
          intro l u x r k e
          cases l with
          | nil =>
            have := (List.cons.inj e).2
            simp at this
          | cons p l =>
            obtain ⟨l1, l2, e1, e2, k1, k2, e3⟩ := ih l (dst p) x r k.2.2 (List.cons.inj e).2
            exact ⟨p :: l1, l2, by rw [e1]; rfl, by simp [e2], ⟨k.1, k.2.1, k1⟩, k2, e3⟩
      have e' : l.map src ++ [v] = a ++ x :: (b ++ x :: c) := by rw [e]; simp
      obtain ⟨l1, l2, e1, _, k1, k2, e3⟩ := cutat a l u x _ k e'
      obtain ⟨l3, l4, e4, e5, k3, k4, _⟩ := cutat (x :: b) l2 x x c k2 (by rw [e3]; rfl)
      have h3 : l3.length ≠ 0 := by rw [e5]; simp
      have w3 := pot_walk hg k3
      obtain ⟨v', l', q1, q2, q3⟩ := walk_cut V hg n (l := l1 ++ l4) (by
        have : l.length = l1.length + (l3.length + l4.length) := by rw [e1, e4]; simp
        rw [List.length_append]
        omega) hu (walk_app k1 k4)
      refine ⟨v', l', q1, q2, Int.le_trans q3 ?_⟩
      rw [e1, e4, wsum_app, wsum_app, wsum_app]
      omega
/-- with a potential the rounds come to rest -/
theorem rounds_rest {ws : List α} {lt : α → α → Prop} {qs : List (Row α)} (V : Net lt ws qs) {parts : Int} {g : α → Int} (hg : Pot qs parts g) {n : Nat} (hn : ws.length ≤ n + 1) : (bfIter (arcs qs) parts (n + 1)).last = none := by
  cases e : (bfIter (arcs qs) parts (n + 1)).last with
  | none => rfl
  | some x =>
    have a := round_some (as := arcs qs) (parts := parts) (S := bfIter (arcs qs) parts n) e
    obtain ⟨y, l, k, q⟩ := (kept_iter V (parts := parts) (n + 1)).walk x
    have q' : (bfRound (arcs qs) parts (bfIter (arcs qs) parts n)).f x = wsum parts l := q
    by_cases hx : x ∈ ws
    · obtain ⟨v', l', c1, c2, c3⟩ := walk_cut V hg l.length (Nat.le_refl _) hx k
      have b := iter_walk (parts := parts) n c2 (by omega)
      omega
    · -- nobody but a worker is changed
      cases l with
      | nil =>
        have c : (bfIter (arcs qs) parts n).f x ≤ 0 := iter_walk (parts := parts) n (v := x) (l := []) rfl (Nat.zero_le _)
        rw [wsum_nil] at q'
        obtain ⟨y2, l2, k2, q2⟩ := (kept_iter V (parts := parts) n).walk x
        cases l2 with
        | nil =>
          rw [wsum_nil] at q2
          omega
        | cons p l2 =>
          refine absurd ?_ hx
          rw [← k2.2.1]
          unfold src
          split
          · exact V.st _ k2.1
          · exact V.en _ k2.1
      | cons p l =>
        refine absurd ?_ hx
        rw [← k.2.1]
        unfold src
        split
        · exact V.st _ k.1
        · exact V.en _ k.1
/-! ### the reasons lead into a ring -/
def nxt (c : α → Option (RB α)) (x : α) : α := match c x with
  | some p => dst p
  | none => x
def nxts (c : α → Option (RB α)) (x : α) : Nat → α
  | 0 => x
  | n + 1 => nxt c (nxts c x n)
theorem nxts_add (c : α → Option (RB α)) (x : α) (m : Nat) : ∀ n, nxts c x (m + n) = nxts c (nxts c x m) n
  | 0 => rfl
  | n + 1 => congrArg (nxt c) (nxts_add c x m n)
theorem nxts_same {c : α → Option (RB α)} {x : α} {i j : Nat} (h : nxts c x i = nxts c x j) (n : Nat) : nxts c x (i + n) = nxts c x (j + n) := by
  rw [nxts_add, nxts_add, h]
/-- the first without a reason, if there is one, is reached over different workers -/
theorem reasons {ws : List α} {lt : α → α → Prop} {qs : List (Row α)} (V : Net lt ws qs) {parts : Int} {n : Nat} (hn : ws.length ≤ n + 1) {x : α} (hx : (bfIter (arcs qs) parts (n + 1)).last = some x) : ∀ i, (bfIter (arcs qs) parts (n + 1)).c (nxts (bfIter (arcs qs) parts (n + 1)).c x i) ≠ none := by
  have K := kept_iter V (parts := parts) (n + 1)
  have hlt : (bfIter (arcs qs) parts (n + 1)).f x < (bfIter (arcs qs) parts n).f x := round_some (as := arcs qs) (parts := parts) (S := bfIter (arcs qs) parts n) hx
  generalize (bfIter (arcs qs) parts (n + 1)) = S at *
  intro i0 h0
  -- the least such place
  have least : ∃ m, S.c (nxts S.c x m) = none ∧ ∀ i, i < m → S.c (nxts S.c x i) ≠ none := by
    have : ∀ b : Nat, (∃ i, i ≤ b ∧ S.c (nxts S.c x i) = none) → ∃ m, S.c (nxts S.c x m) = none ∧ ∀ i, i < m → S.c (nxts S.c x i) ≠ none := by
      intro b
      induction b with
      | zero =>
        rintro ⟨i, hi, h⟩
        exact ⟨i, h, fun j hj => by omega⟩
      | succ b ih =>
        rintro ⟨i, hi, h⟩
        by_cases q : ∃ i, i ≤ b ∧ S.c (nxts S.c x i) = none
        · exact ih q
        · refine ⟨i, h, fun j hj e => q ⟨j, by omega, e⟩⟩
    exact this i0 ⟨i0, Nat.le_refl _, h0⟩
  obtain ⟨m, hm, hmin⟩ := least
  -- the way to it
  have path : ∀ k, k ≤ m → ∃ l, IsWalk qs x l (nxts S.c x k) ∧ l.length = k ∧ S.f (nxts S.c x k) + wsum parts l ≤ S.f x := by
    intro k
    induction k with
    | zero => exact fun _ => ⟨[], rfl, rfl, by rw [wsum_nil]; show S.f x + 0 ≤ _; omega⟩
    | succ k ih =>
      intro hk
      obtain ⟨l, w, hl, hs⟩ := ih (by omega)
      cases e : S.c (nxts S.c x k) with
      | none => exact absurd e (hmin k (by omega))
      | some p =>
        obtain ⟨a, b, c⟩ := K.some_ _ p e
        have en : nxts S.c x (k + 1) = dst p := by
          show nxt S.c (nxts S.c x k) = dst p
          unfold nxt
          rw [e]
        refine ⟨l ++ [p], ?_, by simp [hl], ?_⟩
        · rw [en]
          exact walk_app w ⟨a, b, rfl⟩
        · rw [en, wsum_app, wsum_cons, wsum_nil]
          unfold wt
          omega
  obtain ⟨l, w, hl, hs⟩ := path m (Nat.le_refl _)
  have hz := K.none_ _ hm
  -- few workers
  have hxw : x ∈ ws ∨ m = 0 := by
    cases m with
    | zero => exact .inr rfl
    | succ m =>
      refine .inl ?_
      cases e : S.c x with
      | none => exact absurd e (hmin 0 (by omega))
      | some p =>
        obtain ⟨a, b, _⟩ := K.some_ _ p e
        rw [← b]
        unfold src
        split
        · exact V.st _ a
        · exact V.en _ a
  have hmn : m ≤ n := by
    rcases hxw with hxw | e
    · refine Classical.byContradiction fun hc => ?_
      obtain ⟨i, j, hij, hj, e⟩ := pigeon (ws := ws) (fun k => if k ≤ m then nxts S.c x k else x) (fun k hk => by
        show (if k ≤ m then nxts S.c x k else x) ∈ ws
        rw [if_pos (by omega)]
        obtain ⟨l, w, _, _⟩ := path k (by omega)
        exact (walk_mem V hxw w).1)
      have e' : nxts S.c x i = nxts S.c x j := by
        have : (if i ≤ m then nxts S.c x i else x) = (if j ≤ m then nxts S.c x j else x) := e
        rw [if_pos (by omega), if_pos (by omega)] at this
        exact this
      have q := nxts_same e' (m - j)
      rw [show j + (m - j) = m by omega] at q
      refine hmin (i + (m - j)) (by omega) ?_
      rw [q]
      exact hm
    · omega
  have := iter_walk (parts := parts) n w (by omega)
  omega
/-! ### rings of reasons, for any such table -/
/-- a row that stays within d workers: behind d turns it is on a ring -/
theorem on_ring {D : List α} {f : Nat → α} (hD : ∀ i, f i ∈ D) (hs : ∀ i j, f i = f j → ∀ k, f (i + k) = f (j + k)) : ∃ m, 1 ≤ m ∧ m ≤ D.length ∧ f (D.length + m) = f D.length := by
  obtain ⟨i, j, hij, hj, e⟩ := pigeon (ws := D) f fun n _ => hD n
  refine ⟨j - i, by omega, by omega, ?_⟩
  have q := hs i j e (D.length - i)
  rw [show i + (D.length - i) = D.length by omega, show j + (D.length - i) = D.length + (j - i) by omega] at q
  exact q.symm
end
section
variable {α β : Type} [DecidableEq α]
/-- nobody is ever held: there is a potential -/
def Never (ws : List α) (qs : List (Row α)) : Prop := ∃ g : α → Int, Pot qs (ws.length : Int) g
theorem never_ren {ws : List α} {qs : List (Row α)} {ws' : List β} {qs' : List (Row β)} {ρ μ : α → β} [DecidableEq β] (h : Ren ws qs ws' qs' ρ μ) (k : Never ws' qs') : Never ws qs := by
  obtain ⟨g, hg⟩ := k
  refine ⟨fun x => g (ρ x), fun p hp => ?_⟩
  have a := hg (renb ρ μ p) (h.row hp)
  rw [src_ren, dst_ren, cst_ren, h.len] at a
  exact a
theorem never_same {lt : α → α → Prop} {ws : List α} {qs : List (Row α)} {ws' : List β} {qs' : List (Row β)} {ρ μ : α → β} [DecidableEq β] (V : Net lt ws qs) (h : Ren ws qs ws' qs' ρ μ) (y0 : β → α) : Never ws' qs' ↔ Never ws qs := by
  obtain ⟨ρ', μ', h', _⟩ := h.symm V y0
  exact ⟨never_ren h, never_ren h'⟩
end
end JM
set_option linter.all false
/-! Plain mathematics, fifth part: the earliest numbers: the least measure that falls along some step. -/
namespace JM
section
variable {α β : Type} [DecidableEq α]
/-- what one step makes of the needs -/
def lowStep (g : α → Option Int) (p : RB α) : α → Option Int := match g (dst p) with
  | none => g
  | some v => match g (src p) with
    | none => set1 g (src p) (some (max 0 (v + cst p)))
    | some u => if max 0 (v + cst p) < u then set1 g (src p) (some (max 0 (v + cst p))) else g
def lowRound (as : List (RB α)) (g : α → Option Int) : α → Option Int := as.foldl lowStep g
def lowIter (as : List (RB α)) (g : α → Option Int) : Nat → α → Option Int
  | 0 => g
  | n + 1 => lowRound as (lowIter as g n)
/-- not above; none is above all -/
def Le (a b : Option Int) : Prop := ∀ y, b = some y → ∃ x, a = some x ∧ x ≤ y
theorem Le.refl (a : Option Int) : Le a a := fun y h => ⟨y, h, Int.le_refl _⟩
theorem Le.trans {a b c : Option Int} (h : Le a b) (k : Le b c) : Le a c := fun y e => by
  obtain ⟨x, e1, h1⟩ := k y e
  obtain ⟨z, e2, h2⟩ := h x e1
  exact ⟨z, e2, by omega⟩
theorem Le.anti {a b : Option Int} (h : Le a b) (k : Le b a) : a = b := by
  cases a with
  | none =>
    cases b with
    | none => rfl
    | some y =>
      obtain ⟨x, e, _⟩ := h y rfl
      cases e
  | some x =>
    obtain ⟨y, e, h1⟩ := k x rfl
    obtain ⟨z, e2, h2⟩ := h y e
    have := Option.some.inj e2
    rw [e, show x = y by omega]
theorem Le.none (a : Option Int) : Le a none := fun y h => by cases h
/-- what a step offers to its start -/
def offer (g : α → Option Int) (p : RB α) : Option Int := (g (dst p)).map fun v => max 0 (v + cst p)
theorem lowStep_eq (g : α → Option Int) (p : RB α) (x : α) : lowStep g p x = g x ∨ (x = src p ∧ lowStep g p x = offer g p ∧ g (dst p) ≠ none) := by
  unfold lowStep offer
  cases e : g (dst p) with
  | none => exact .inl rfl
  | some v =>
    cases e2 : g (src p) with
    | none =>
      by_cases h : x = src p
      · refine .inr ⟨h, ?_, by simp⟩
        rw [h]
        exact set1_same
      · exact .inl (set1_ne h)
    | some u =>
      show (if max 0 (v + cst p) < u then set1 g (src p) (some (max 0 (v + cst p))) else g) x = g x ∨ (x = src p ∧ (if max 0 (v + cst p) < u then set1 g (src p) (some (max 0 (v + cst p))) else g) x = some (max 0 (v + cst p)) ∧ _)
      by_cases q : max 0 (v + cst p) < u
      · rw [if_pos q]
        by_cases h : x = src p
        · refine .inr ⟨h, ?_, by simp⟩
          rw [h]
          exact set1_same
        · exact .inl (set1_ne h)
      · rw [if_neg q]
        exact .inl rfl
theorem lowStep_le (g : α → Option Int) (p : RB α) (x : α) : Le (lowStep g p x) (g x) := by
  unfold lowStep
  cases e : g (dst p) with
  | none => exact Le.refl _
  | some v =>
    cases e2 : g (src p) with
    | none =>
      show Le (set1 g (src p) _ x) (g x)
      by_cases h : x = src p
      · rw [h, e2]
        exact Le.none _
      · rw [set1_ne h]
        exact Le.refl _
    | some u =>
      show Le ((if max 0 (v + cst p) < u then set1 g (src p) (some (max 0 (v + cst p))) else g) x) (g x)
      by_cases q : max 0 (v + cst p) < u
      · rw [if_pos q]
        by_cases h : x = src p
        · rw [h, e2, set1_same]
          intro y hy
          have := Option.some.inj hy
          exact ⟨_, rfl, by omega⟩
        · rw [set1_ne h]
          exact Le.refl _
      · rw [if_neg q]
        exact Le.refl _
theorem lowStep_offer (g : α → Option Int) (p : RB α) : Le (lowStep g p (src p)) (offer g p) := by
  unfold lowStep offer
  cases e : g (dst p) with
  | none => exact Le.none _
  | some v =>
    cases e2 : g (src p) with
    | none =>
      show Le (set1 g (src p) _ (src p)) _
      rw [set1_same]
      exact Le.refl _
    | some u =>
      show Le ((if max 0 (v + cst p) < u then set1 g (src p) (some (max 0 (v + cst p))) else g) (src p)) (some (max 0 (v + cst p)))
      by_cases q : max 0 (v + cst p) < u
      · rw [if_pos q, set1_same]
        exact Le.refl _
      · rw [if_neg q, e2]
        intro y hy
        have := Option.some.inj hy
        exact ⟨_, rfl, by omega⟩
theorem offer_mono {g h : α → Option Int} (H : ∀ x, Le (g x) (h x)) (p : RB α) : Le (offer g p) (offer h p) := by
  unfold offer
  intro y hy
  cases e : h (dst p) with
  | none =>
    rw [e] at hy
    cases hy
  | some v =>
    rw [e] at hy
    obtain ⟨x, ex, hx⟩ := H _ v e
    have h1 : max 0 (v + cst p) = y := Option.some.inj hy
    rw [ex]
    exact ⟨max 0 (x + cst p), rfl, by omega⟩
theorem lowStep_mono {g h : α → Option Int} (H : ∀ x, Le (g x) (h x)) (p : RB α) (x : α) : Le (lowStep g p x) (lowStep h p x) := by
  rcases lowStep_eq h p x with e | ⟨e1, e2, _⟩
  · rw [e]
    exact (lowStep_le g p x).trans (H x)
  · rw [e2, e1]
    exact (lowStep_offer g p).trans (offer_mono H p)
theorem lows_le : ∀ (l : List (RB α)) (g : α → Option Int) (x : α), Le (l.foldl lowStep g x) (g x)
  | [], _, _ => Le.refl _
  | p :: l, g, x => (lows_le l (lowStep g p) x).trans (lowStep_le g p x)
theorem lows_mono : ∀ (l : List (RB α)) {g h : α → Option Int}, (∀ x, Le (g x) (h x)) → ∀ x, Le (l.foldl lowStep g x) (l.foldl lowStep h x)
  | [], _, _, H, x => H x
  | p :: l, _, _, H, x => lows_mono l (lowStep_mono H p) x
theorem lows_offer : ∀ (l : List (RB α)) (g : α → Option Int) (p : RB α), p ∈ l → Le (l.foldl lowStep g (src p)) (offer g p)
  | [], _, _, h => by simp at h
  | q :: l, g, p, h => by
    rcases List.mem_cons.mp h with e | h
    · rw [← e]
      exact (lows_le l (lowStep g p) _).trans (lowStep_offer g p)
    · exact (lows_offer l (lowStep g q) p h).trans (offer_mono (fun x => lowStep_le g q x) p)
theorem iter_mono {as : List (RB α)} {g h : α → Option Int} (H : ∀ x, Le (g x) (h x)) : ∀ n x, Le (lowIter as g n x) (lowIter as h n x)
  | 0, x => H x
  | n + 1, x => lows_mono as (iter_mono H n) x
theorem iter_le {as : List (RB α)} {g : α → Option Int} {m : Nat} : ∀ n x, Le (lowIter as g (m + n) x) (lowIter as g m x)
  | 0, x => Le.refl _
  | n + 1, x => (lows_le as _ x).trans (iter_le n x)
/-! ### what is kept: each need is the first one, or a step leads to one that pays -/
structure LKept (qs : List (Row α)) (row g : α → Option Int) : Prop where
  why : ∀ x e, g x = some e → row x = some e ∨ ∃ p : RB α, p.1 ∈ qs ∧ src p = x ∧ ∃ v, g (dst p) = some v ∧ v + cst p ≤ e
  pos : ∀ x e, g x = some e → 0 ≤ e
theorem lkept_step {qs : List (Row α)} {row g : α → Option Int} {p : RB α} (hp : p.1 ∈ qs) (h : LKept qs row g) : LKept qs row (lowStep g p) := by
  have low : ∀ x v, g x = some v → ∃ v', lowStep g p x = some v' ∧ v' ≤ v := fun x v e => lowStep_le g p x v e
  refine ⟨fun x e hx => ?_, fun x e hx => ?_⟩
  · rcases lowStep_eq g p x with q | ⟨q1, q2, q3⟩
    · rw [q] at hx
      rcases h.why x e hx with k | ⟨p', a, b, v, c, d⟩
      · exact .inl k
      · obtain ⟨v', k1, k2⟩ := low _ v c
        exact .inr ⟨p', a, b, v', k1, by omega⟩
    · refine .inr ⟨p, hp, q1.symm, ?_⟩
      rw [q2] at hx
      unfold offer at hx
      cases ed : g (dst p) with
      | none => exact absurd ed q3
      | some v =>
        rw [ed] at hx
        have h1 : max 0 (v + cst p) = e := Option.some.inj hx
        obtain ⟨v', k1, k2⟩ := low _ v ed
        exact ⟨v', k1, by omega⟩
  · rcases lowStep_eq g p x with q | ⟨q1, q2, q3⟩
    · rw [q] at hx
      exact h.pos x e hx
    · rw [q2] at hx
      unfold offer at hx
      cases ed : g (dst p) with
      | none => exact absurd ed q3
      | some v =>
        rw [ed] at hx
        have h1 : max 0 (v + cst p) = e := Option.some.inj hx
        omega
theorem lkept_steps {qs : List (Row α)} {row : α → Option Int} : ∀ (l : List (RB α)) {g : α → Option Int}, (∀ p ∈ l, p.1 ∈ qs) → LKept qs row g → LKept qs row (l.foldl lowStep g)
  | [], _, _, h => h
  | p :: l, _, k, h => lkept_steps l (fun q hq => k q (List.mem_cons_of_mem _ hq)) (lkept_step (k p List.mem_cons_self) h)
theorem lkept_iter {qs : List (Row α)} {row : α → Option Int} (h0 : ∀ x e, row x = some e → 0 ≤ e) : ∀ n, LKept qs row (lowIter (arcs qs) row n)
  | 0 => ⟨fun _ _ h => .inl h, h0⟩
  | n + 1 => lkept_steps (arcs qs) (fun p hp => mem_arcs.mp hp) (lkept_iter h0 n)
/-! ### a chain of steps that pays -/
theorem chain_low {qs : List (Row α)} {row : α → Option Int} {h : Nat → α} {e : Nat → Int} (he : ∀ n, 0 ≤ e n) (hs : ∀ n, ∃ p : RB α, p.1 ∈ qs ∧ src p = h n ∧ dst p = h (n + 1) ∧ e (n + 1) + cst p ≤ e n) :
    ∀ (n a : Nat), (∃ y, row (h (a + n)) = some y ∧ y ≤ e (a + n)) → ∃ y, lowIter (arcs qs) row n (h a) = some y ∧ y ≤ e a
  | 0, a, k => k
  | n + 1, a, k => by
    obtain ⟨p, hp, h1, h2, h3⟩ := hs a
    obtain ⟨y, e1, e2⟩ := chain_low he hs n (a + 1) (by rw [show a + 1 + n = a + (n + 1) by omega]; exact k)
    have q := lows_offer (arcs qs) (lowIter (arcs qs) row n) p (mem_arcs.mpr hp)
    rw [h1] at q
    have o : offer (lowIter (arcs qs) row n) p = some (max 0 (y + cst p)) := by
      unfold offer
      rw [h2, e1]
      rfl
    obtain ⟨z, z1, z2⟩ := q _ o
    refine ⟨z, z1, ?_⟩
    have := he a
    omega
theorem chain_within {qs : List (Row α)} {row : α → Option Int} {h : Nat → α} {e : Nat → Int} (he : ∀ n, 0 ≤ e n) (hs : ∀ n, ∃ p : RB α, p.1 ∈ qs ∧ src p = h n ∧ dst p = h (n + 1) ∧ e (n + 1) + cst p ≤ e n)
    {n N a : Nat} (hn : n ≤ N) (k : ∃ y, row (h (a + n)) = some y ∧ y ≤ e (a + n)) : ∃ y, lowIter (arcs qs) row N (h a) = some y ∧ y ≤ e a := by
  obtain ⟨y, e1, e2⟩ := chain_low he hs n a k
  obtain ⟨z, z1, z2⟩ := iter_le (as := arcs qs) (g := row) (m := n) (N - n) (h a) y e1
  rw [show n + (N - n) = N by omega] at z1
  exact ⟨z, z1, by omega⟩
/-! ### measures -/
/-- a measure: wherever it is told, some step leads on that it can pay -/
structure Meas (qs : List (Row α)) (f : α → Option Int) : Prop where
  pos : ∀ x e, f x = some e → 0 ≤ e
  go : ∀ x e, f x = some e → ∃ p : RB α, p.1 ∈ qs ∧ src p = x ∧ ∃ v, f (dst p) = some v ∧ v + cst p ≤ e
/-- needs of one worker alone, of some workers -/
def only (x : α) : α → Option Int := fun y => if y = x then some 0 else none
def zeroAt (Z : α → Prop) [DecidablePred Z] : α → Option Int := fun y => if Z y then some 0 else none
/-- comes back with nothing lost -/
def Zero (ws : List α) (qs : List (Row α)) (x : α) : Prop := x ∈ ws ∧ ∃ p : RB α, p.1 ∈ qs ∧ src p = x ∧ ∃ v, lowIter (arcs qs) (only x) ws.length (dst p) = some v ∧ v + cst p ≤ 0
theorem meas_of {ws : List α} {qs : List (Row α)} {Z : α → Prop} [DecidablePred Z] (hZ : ∀ x, Z x ↔ Zero ws qs x) : Meas qs (lowIter (arcs qs) (zeroAt Z) ws.length) := by
  have h0 : ∀ x e, zeroAt Z x = some e → 0 ≤ e := fun x e h => by
    unfold zeroAt at h
    split at h
    · have := Option.some.inj h
      omega
    · cases h
  have K := lkept_iter (qs := qs) h0 ws.length
  refine ⟨K.pos, fun x e h => ?_⟩
  rcases K.why x e h with k | k
  · unfold zeroAt at k
    split at k
    case isFalse => cases k
    rename_i hz
    have e0 := Option.some.inj k
    obtain ⟨_, p, a, b, v, c, d⟩ := (hZ x).mp hz
    refine ⟨p, a, b, ?_⟩
    have mono : ∀ y, Le (zeroAt Z y) (only x y) := fun y => by
      unfold zeroAt only
      by_cases e : y = x
      · rw [if_pos e, e, if_pos hz]
        exact Le.refl _
      · rw [if_neg e]
        exact Le.none _
    obtain ⟨v', e1, e2⟩ := iter_mono (as := arcs qs) mono ws.length (dst p) v c
    exact ⟨v', e1, by omega⟩
  · exact k
/-- no measure tells less -/
theorem least_meas {ws : List α} {lt : α → α → Prop} {qs : List (Row α)} (V : Net lt ws qs) {Z : α → Prop} [DecidablePred Z] (hZ : ∀ x, Z x ↔ Zero ws qs x) {f : α → Option Int} (M : Meas qs f) (x : α) : Le (lowIter (arcs qs) (zeroAt Z) ws.length x) (f x) := by
  classical
  intro e0 h0
  -- the way that the measure shows
  let nx : α → α := fun y => if k : ∃ p : RB α, p.1 ∈ qs ∧ src p = y ∧ ∃ v, f (dst p) = some v ∧ ∀ e, f y = some e → v + cst p ≤ e then dst k.choose else y
  let h : Nat → α := fun n => Nat.rec x (fun _ y => nx y) n
  have hh : ∀ n, h (n + 1) = nx (h n) := fun _ => rfl
  have hx0 : h 0 = x := rfl
  have step : ∀ y e, f y = some e → ∃ p : RB α, p.1 ∈ qs ∧ src p = y ∧ dst p = nx y ∧ ∃ v, f (nx y) = some v ∧ v + cst p ≤ e := fun y e he => by
    have k : ∃ p : RB α, p.1 ∈ qs ∧ src p = y ∧ ∃ v, f (dst p) = some v ∧ ∀ e, f y = some e → v + cst p ≤ e := by
      obtain ⟨p, a, b, v, c, d⟩ := M.go y e he
      refine ⟨p, a, b, v, c, fun e' he' => ?_⟩
      rw [he] at he'
      have := Option.some.inj he'
      omega
    have en : nx y = dst k.choose := dif_pos k
    obtain ⟨a, b, v, c, d⟩ := k.choose_spec
    exact ⟨k.choose, a, b, en.symm, v, by rw [en]; exact c, d e he⟩
  have some_ : ∀ n, ∃ e, f (h n) = some e := fun n => by
    induction n with
    | zero => exact ⟨e0, h0⟩
    | succ n ih =>
      obtain ⟨e, he⟩ := ih
      obtain ⟨p, _, _, _, v, c, _⟩ := step _ e he
      exact ⟨v, by rw [hh]; exact c⟩
  let val : Nat → Int := fun n => (f (h n)).getD 0
  have hval : ∀ n, f (h n) = some (val n) := fun n => by
    obtain ⟨e, he⟩ := some_ n
    show f (h n) = some ((f (h n)).getD 0)
    rw [he]
    rfl
  have vpos : ∀ n, 0 ≤ val n := fun n => M.pos _ _ (hval n)
  have vs : ∀ n, ∃ p : RB α, p.1 ∈ qs ∧ src p = h n ∧ dst p = h (n + 1) ∧ val (n + 1) + cst p ≤ val n := fun n => by
    obtain ⟨p, a, b, c, v, d, e⟩ := step _ _ (hval n)
    refine ⟨p, a, b, c, ?_⟩
    have : f (h (n + 1)) = some v := d
    rw [hval (n + 1)] at this
    have := Option.some.inj this
    omega
  have hws : ∀ n, h n ∈ ws := fun n => by
    obtain ⟨p, a, b, _⟩ := vs n
    rw [← b]
    unfold src
    split
    · exact V.st _ a
    · exact V.en _ a
  obtain ⟨i, j, hij, hj, e⟩ := pigeon (ws := ws) h fun n _ => hws n
  have per : ∀ k, h (i + k) = h (j + k) := fun k => by
    induction k with
    | zero => exact e
    | succ k ih =>
      show nx (h (i + k)) = nx (h (j + k))
      rw [ih]
  -- the least value on the ring
  have min : ∃ k, i ≤ k ∧ k < j ∧ ∀ n, i ≤ n → n < j → val k ≤ val n := by
    have gen : ∀ m, i + m < j → ∃ k, i ≤ k ∧ k ≤ i + m ∧ ∀ n, i ≤ n → n ≤ i + m → val k ≤ val n := by
      intro m
      induction m with
      | zero =>
        intro _
        exact ⟨i, Nat.le_refl _, Nat.le_refl _, fun n h1 h2 => by rw [show n = i by omega]; exact Int.le_refl _⟩
      | succ m ih =>
        intro hm
        obtain ⟨k, k1, k2, k3⟩ := ih (by omega)
        by_cases q : val k ≤ val (i + (m + 1))
        · refine ⟨k, k1, by omega, fun n h1 h2 => ?_⟩
          by_cases r : n ≤ i + m
          · exact k3 n h1 r
          · rw [show n = i + (m + 1) by omega]
            exact q
        · refine ⟨i + (m + 1), by omega, Nat.le_refl _, fun n h1 h2 => ?_⟩
          by_cases r : n ≤ i + m
          · have := k3 n h1 r
            omega
          · rw [show n = i + (m + 1) by omega]
            exact Int.le_refl _
    obtain ⟨k, k1, k2, k3⟩ := gen (j - i - 1) (by omega)
    exact ⟨k, k1, by omega, fun n h1 h2 => k3 n h1 (by omega)⟩
  obtain ⟨k, k1, k2, k3⟩ := min
  -- behind k all are as great
  have vper : ∀ n, val (i + n) = val (j + n) := fun n => by
    show (f (h (i + n))).getD 0 = (f (h (j + n))).getD 0
    rw [per n]
  have low : ∀ n, i ≤ n → val k ≤ val n := by
    intro n
    induction n using Nat.strongRecOn with
    | ind n ih =>
      intro hn
      by_cases q : n < j
      · exact k3 n hn q
      · have a := vper (n - j)
        rw [show j + (n - j) = n by omega] at a
        have b := ih (i + (n - j)) (by omega) (by omega)
        omega
  -- the worker there is one of Z
  have hz : Z (h k) := by
    refine (hZ _).mpr ⟨hws k, ?_⟩
    obtain ⟨p, a, b, c, d⟩ := vs k
    refine ⟨p, a, b, ?_⟩
    have ek : h (k + (j - i)) = h k := by
      have q := per (k - i)
      rw [show i + (k - i) = k by omega, show j + (k - i) = k + (j - i) by omega] at q
      exact q.symm
    -- from the next one back to it
    have hs' : ∀ n, ∃ p : RB α, p.1 ∈ qs ∧ src p = h (k + n) ∧ dst p = h (k + (n + 1)) ∧ (val (k + (n + 1)) - val k) + cst p ≤ val (k + n) - val k := fun n => by
      obtain ⟨p, a, b, c, d⟩ := vs (k + n)
      refine ⟨p, a, b, c, ?_⟩
      have : val (k + n + 1) = val (k + (n + 1)) := rfl
      omega
    have row0 : ∃ y, only (h k) (h (k + (1 + (j - i - 1)))) = some y ∧ y ≤ val (k + (1 + (j - i - 1))) - val k := by
      refine ⟨0, ?_, ?_⟩
      · rw [show k + (1 + (j - i - 1)) = k + (j - i) by omega, ek]
        exact if_pos rfl
      · have := low (k + (1 + (j - i - 1))) (by omega)
        omega
    obtain ⟨y, y1, y2⟩ := chain_within (h := fun n => h (k + n)) (e := fun n => val (k + n) - val k) (qs := qs) (row := only (h k)) (fun n => by
      have := low (k + n) (by omega)
      show 0 ≤ val (k + n) - val k
      omega) hs' (n := j - i - 1) (N := ws.length) (a := 1) (by omega) row0
    refine ⟨y, ?_, ?_⟩
    · rw [c]
      exact y1
    · have : y ≤ val (k + 1) - val k := y2
      omega
  have row1 : ∃ y, zeroAt Z (h (0 + k)) = some y ∧ y ≤ val (0 + k) := by
    refine ⟨0, ?_, vpos _⟩
    rw [Nat.zero_add]
    exact if_pos hz
  obtain ⟨y, y1, y2⟩ := chain_within (h := h) (e := val) (qs := qs) (row := zeroAt Z) vpos vs (n := k) (N := ws.length) (a := 0) (by omega) row1
  refine ⟨y, y1, ?_⟩
  have : val 0 = e0 := by
    show (f x).getD 0 = e0
    rw [h0]
    rfl
  omega
end
section
variable {α β : Type} [DecidableEq α] [DecidableEq β]
theorem meas_ren {lt : α → α → Prop} {ws : List α} {qs : List (Row α)} {ws' : List β} {qs' : List (Row β)} {ρ μ : α → β} (V : Net lt ws qs) (h : Ren ws qs ws' qs' ρ μ) {f : β → Option Int} (M : Meas qs' f) : Meas qs (fun x => if x ∈ ws then f (ρ x) else none) := by
  refine ⟨fun x e he => ?_, fun x e he => ?_⟩
  · have he' : (if x ∈ ws then f (ρ x) else none) = some e := he
    split at he'
    · exact M.pos _ e he'
    · cases he'
  · have he' : (if x ∈ ws then f (ρ x) else none) = some e := he
    split at he'
    case isFalse => cases he'
    rename_i hx
    obtain ⟨p', a, b, v, c, d⟩ := M.go _ e he'
    obtain ⟨r, hr, er⟩ := h.back a
    have ep : p' = renb ρ μ (r, p'.2) := by
      obtain ⟨r', b'⟩ := p'
      show (r', b') = (ren ρ μ r, b')
      rw [er]
    rw [ep] at b c d
    rw [src_ren] at b
    rw [dst_ren] at c
    rw [cst_ren] at d
    have hs : src (r, p'.2) ∈ ws := by
      unfold src
      split
      · exact V.st _ hr
      · exact V.en _ hr
    have hd : dst (r, p'.2) ∈ ws := by
      unfold dst
      split
      · exact V.en _ hr
      · exact V.st _ hr
    refine ⟨(r, p'.2), hr, h.inj _ hs _ hx b, v, ?_, d⟩
    show (if dst (r, p'.2) ∈ ws then f (ρ (dst (r, p'.2))) else none) = some v
    rw [if_pos hd]
    exact c
/-- the earliest numbers go with their workers -/
theorem earliest_same {lt : α → α → Prop} {lt' : β → β → Prop} {ws : List α} {qs : List (Row α)} {ws' : List β} {qs' : List (Row β)} {ρ μ : α → β} (V : Net lt ws qs) (V' : Net lt' ws' qs') (h : Ren ws qs ws' qs' ρ μ) (y0 : β → α)
    {Z : α → Prop} [DecidablePred Z] (hZ : ∀ x, Z x ↔ Zero ws qs x) {Z' : β → Prop} [DecidablePred Z'] (hZ' : ∀ x, Z' x ↔ Zero ws' qs' x) {x : α} (hx : x ∈ ws) :
    lowIter (arcs qs') (zeroAt Z') ws'.length (ρ x) = lowIter (arcs qs) (zeroAt Z) ws.length x := by
  obtain ⟨ρ', μ', h', e1, _⟩ := h.symm V y0
  refine Le.anti ?_ ?_
  · have M := meas_ren V' h' (meas_of hZ)
    have a := least_meas V' hZ' M (ρ x)
    have b : (if ρ x ∈ ws' then lowIter (arcs qs) (zeroAt Z) ws.length (ρ' (ρ x)) else none) = lowIter (arcs qs) (zeroAt Z) ws.length x := by
      rw [if_pos ((h.wk _).mpr ⟨x, hx, rfl⟩), e1 x hx]
    rw [b] at a
    exact a
  · have M := meas_ren V h (meas_of hZ')
    have a := least_meas V hZ M x
    have b : (if x ∈ ws then lowIter (arcs qs') (zeroAt Z') ws'.length (ρ x) else none) = lowIter (arcs qs') (zeroAt Z') ws'.length (ρ x) := if_pos hx
    rw [b] at a
    exact a
end
end JM
set_option Elab.async false
set_option linter.all false
set_option maxRecDepth 100000
set_option maxHeartbeats 4000000
/-! Rules of my own for the layer: sorted of lists of tuples (flat ones of ints and texts; tuples of pairs of texts), any length. -/
namespace JB
open PySem PyProof.Rows
section
variable {α : Type}
/-- a strict total order by a Bool -/
structure Tot (lt : α → α → Bool) : Prop where
  irr : ∀ x, lt x x = false
  tr : ∀ x y z, lt x y = true → lt y z = true → lt x z = true
  tri : ∀ x y, lt x y = false → lt y x = false → x = y
theorem Tot.asym {lt : α → α → Bool} (O : Tot lt) {x y : α} (h : lt x y = true) : lt y x = false := by
  cases k : lt y x with
  | false => rfl
  | true =>
    have := O.tr x y x h k
    rw [O.irr] at this
    cases this
theorem Tot.swo {lt : α → α → Bool} (O : Tot lt) : SrtO.Swo lt := by
  refine ⟨fun x y h => O.asym h, fun x y z h1 h2 => ?_⟩
  cases k : lt z x with
  | false => rfl
  | true =>
    cases q : lt x y with
    | true =>
      have := O.tr z x y k q
      rw [h2] at this
      cases this
    | false =>
      have e := O.tri x y q h1
      rw [← e] at h2
      rw [h2] at k
      cases k
theorem Tot.swoOn {β : Type} {lt : α → α → Bool} (O : Tot lt) (k : β → α) : SrtO.Swo fun v u => lt (k v) (k u) :=
  ⟨fun x y h => O.swo.asym _ _ h, fun x y z h1 h2 => O.swo.tr _ _ _ h1 h2⟩
/-- by the first difference -/
def lexB (lt : α → α → Bool) [DecidableEq α] : List α → List α → Bool
  | _, [] => false
  | [], _ :: _ => true
  | x :: l, y :: m => if x = y then lexB lt l m else lt x y
theorem lexB_tot {lt : α → α → Bool} [DecidableEq α] (O : Tot lt) : Tot (lexB lt) := by
  refine ⟨fun l => ?_, fun l => ?_, fun l => ?_⟩
  · induction l with
    | nil => rfl
    | cons x l ih =>
      show (if x = x then lexB lt l l else lt x x) = false
      rw [if_pos rfl]
      exact ih
  · induction l with
    | nil =>
      intro m n h k
      cases m with
      | nil => cases h
      | cons y m =>
        cases n with
        | nil => cases k
        | cons z n => rfl
    | cons x l ih =>
      intro m n h k
      cases m with
      | nil => cases h
      | cons y m =>
        cases n with
        | nil => cases k
        | cons z n =>
          have h' : (if x = y then lexB lt l m else lt x y) = true := h
          have k' : (if y = z then lexB lt m n else lt y z) = true := k
          show (if x = z then lexB lt l n else lt x z) = true
          by_cases e1 : x = y
          · rw [if_pos e1] at h'
            by_cases e2 : y = z
            · rw [if_pos e2] at k'
              rw [if_pos (e1.trans e2)]
              exact ih _ _ h' k'
            · rw [if_neg e2] at k'
              rw [if_neg (fun e => e2 (e1.symm.trans e)), e1]
              exact k'
          · rw [if_neg e1] at h'
            by_cases e2 : y = z
            · rw [if_neg (fun e => e1 (e.trans e2.symm)), ← e2]
              exact h'
            · rw [if_neg e2] at k'
              have t := O.tr _ _ _ h' k'
              by_cases e3 : x = z
              · rw [e3, O.irr] at t
                cases t
              · rw [if_neg e3]
                exact t
  · induction l with
    | nil =>
      intro m h k
      cases m with
      | nil => rfl
      | cons y m => cases h
    | cons x l ih =>
      intro m h k
      cases m with
      | nil => cases k
      | cons y m =>
        have h' : (if x = y then lexB lt l m else lt x y) = false := h
        have k' : (if y = x then lexB lt m l else lt y x) = false := k
        by_cases e : x = y
        · rw [if_pos e] at h'
          rw [if_pos e.symm] at k'
          rw [e, ih _ h' k']
        · rw [if_neg e] at h'
          rw [if_neg (fun z => e z.symm)] at k'
          exact absurd (O.tri _ _ h' k') e
end
/-! ### texts, items -/
def sLt (x y : Str) : Bool := decide (x.cps.toList < y.cps.toList)
theorem sLt_tot : Tot sLt := by
  refine ⟨fun x => decide_eq_false (List.lt_irrefl _), fun x y z h k => decide_eq_true (List.lt_trans (of_decide_eq_true h) (of_decide_eq_true k)), fun x y h k => ?_⟩
  have h' := of_decide_eq_false h
  have k' := of_decide_eq_false k
  have e : x.cps.toList = y.cps.toList := List.le_antisymm (List.not_lt.mp k') (List.not_lt.mp h')
  cases x
  cases y
  have e2 := Array.toList_inj.mp e
  exact congrArg Str.mk e2
abbrev Item := Int ⊕ Str
def iLt : Item → Item → Bool
  | .inl a, .inl b => decide (a < b)
  | .inl _, .inr _ => true
  | .inr _, .inl _ => false
  | .inr a, .inr b => sLt a b
theorem iLt_tot : Tot iLt := by
  refine ⟨fun x => ?_, fun x y z h k => ?_, fun x y h k => ?_⟩
  · cases x with
    | inl a => exact decide_eq_false (Int.lt_irrefl a)
    | inr a => exact sLt_tot.irr a
  · cases x <;> cases y <;> cases z <;> first | rfl | (cases h; done) | (cases k; done) | skip
    · exact decide_eq_true (Int.lt_trans (of_decide_eq_true h) (of_decide_eq_true k))
    · exact sLt_tot.tr _ _ _ h k
  · cases x <;> cases y <;> first | (cases h; done) | (cases k; done) | skip
    · have h' := of_decide_eq_false h
      have k' := of_decide_eq_false k
      exact congrArg Sum.inl (by omega)
    · exact congrArg Sum.inr (sLt_tot.tri _ _ h k)
/-- a pair of texts -/
def pLt (p q : Str × Str) : Bool := lexB sLt [p.1, p.2] [q.1, q.2]
theorem pLt_tot : Tot pLt := by
  have O := lexB_tot sLt_tot
  refine ⟨fun x => O.irr _, fun x y z h k => O.tr _ _ _ h k, fun x y h k => ?_⟩
  have e := O.tri _ _ h k
  have e1 := (List.cons.inj e).1
  have e2 := (List.cons.inj (List.cons.inj e).2).1
  exact Prod.ext e1 e2
end JB

namespace JB
open PySem PyProof.Rows PySem.W
section
variable {prog : Program} {w : World} {A : Around} {E : Value → Shared → Prop} {s : Shared}
/-- a value is this item -/
def IsItem : Item → Value → Prop
  | .inl i, v => ∃ t, v = .int i t
  | .inr x, v => ∃ t, v = .str x t
/-- two items of one kind -/
def Kin : Item → Item → Prop
  | .inl _, .inl _ => True
  | .inr _, .inr _ => True
  | _, _ => False
def KinL : List Item → List Item → Prop
  | x :: l, y :: m => Kin x y ∧ KinL l m
  | _, _ => True
/-- the items of two tuples, from the left -/
theorem flat_lex {b fin : Bool} {Q : Bool → Shared → Prop} : ∀ (ps qs : List Value) (i : Nat) (as bs : List Item), Paired IsItem as ps → Paired IsItem bs qs → KinL as bs → fin = decide (ps.length < qs.length) → Q (lexB iLt as bs) s → KatLex prog w A b fin Q (ps.zip qs) i s
  | [], [], i, as, bs, ha, hb, _, hf, h => by
    cases ha
    cases hb
    have e : fin = false := by rw [hf]; rfl
    subst e
    exact kat_nil h
  | [], q :: qs, i, as, bs, ha, hb, _, hf, h => by
    cases ha
    cases hb
    have e : fin = true := by rw [hf]; exact decide_eq_true (Nat.succ_pos _)
    subst e
    exact kat_nil h
  | p :: ps, [], i, as, bs, ha, hb, _, hf, h => by
    cases ha
    cases hb
    have e : fin = false := by rw [hf]; exact decide_eq_false (Nat.not_lt_zero _)
    subst e
    exact kat_nil h
  | p :: ps, q :: qs, i, as, bs, ha, hb, hk, hf, h => by
    have hf' : fin = decide (ps.length < qs.length) := by
      rw [hf]; simp only [List.length_cons, Nat.add_lt_add_iff_right]
    cases ha with
    | cons ra ta =>
      cases hb with
      | cons rb tb =>
        rename_i x as' y bs'
        obtain ⟨k1, k2⟩ := hk
        have h' : Q (if x = y then lexB iLt as' bs' else iLt x y) s := h
        cases x with
        | inl n =>
          cases y with
          | inr m => exact k1.elim
          | inl m =>
            obtain ⟨t, rfl⟩ := ra
            obtain ⟨u, rfl⟩ := rb
            refine kat_cons (wpAny_eqBool_int ?_)
            refine kat_go (fun e => kat_yes ?_) (fun e => kat_no ?_)
            · have hnm : n = m := by simpa using e
              subst hnm
              rw [if_pos rfl] at h'
              exact flat_lex ps qs (i + 1) as' bs' ta tb k2 hf' h'
            · have hnm : ¬ n = m := by simpa using e
              rw [if_neg (fun z => hnm (Sum.inl.inj z))] at h'
              exact oneLt_any_int h'
        | inr n =>
          cases y with
          | inl m => exact k1.elim
          | inr m =>
            obtain ⟨t, rfl⟩ := ra
            obtain ⟨u, rfl⟩ := rb
            refine kat_cons (wpAny_eqBool_str ?_)
            refine kat_go (fun e => kat_yes ?_) (fun e => kat_no ?_)
            · have hnm : n = m := of_decide_eq_true e
              subst hnm
              rw [if_pos rfl] at h'
              exact flat_lex ps qs (i + 1) as' bs' ta tb k2 hf' h'
            · have hnm : ¬ n = m := of_decide_eq_false e
              rw [if_neg (fun z => hnm (Sum.inr.inj z))] at h'
              exact oneLt_any_str h'
/-- a tuple of these items stands there -/
def FlatAt (h : Heap) (v : Value) (l : List Item) : Prop := ∃ a xs, v = .ref a ∧ IsTup h a xs ∧ Paired IsItem l xs.toList
theorem FlatAt.keeps {h h' : Heap} {v : Value} {l : List Item} (f : FlatAt h v l) (k : ∀ b o, h.get? b = some o → o.cls = .type "tuple" → h'.get? b = some o) : FlatAt h' v l := by
  obtain ⟨a, xs, e, ⟨o, ho, hc, n, hd⟩, r⟩ := f
  exact ⟨a, xs, e, ⟨o, k a o ho hc, hc, n, hd⟩, r⟩
theorem flat_cmp {b : Bool} {vs : List Value} {k : Value → List Item} (hp : ∀ v ∈ vs, FlatAt s.heap v (k v)) (hk : ∀ v ∈ vs, ∀ u ∈ vs, KinL (k v) (k u)) : SrtO.Cmp prog w A s (tuples' b) (fun p => p.1 ∈ vs) (SrtO.lt2 fun v u => lexB iLt (k v) (k u)) := by
  intro p q hm hm'
  have kk := hk _ hm _ hm'
  have h1 := hp _ hm
  have h2 := hp _ hm'
  show wpAny (model prog w) A (keyLt' (tuples' b) p.1 q.1) (fun r s' => s' = s ∧ r = lexB iLt (k p.1) (k q.1)) (fun _ _ => False) s
  generalize k p.1 = as at *
  generalize k q.1 = bs at *
  obtain ⟨a, xs, e, ⟨o, ho, hc, n, hd⟩, r⟩ := h1
  obtain ⟨a', xs', e', ⟨o', ho', hc', n', hd'⟩, r'⟩ := h2
  rw [e, e']
  exact kat_lt ho hd ho' hd' (flat_lex xs.toList xs'.toList 0 as bs r r' kk (by rw [Array.length_toList, Array.length_toList]) ⟨rfl, rfl⟩)
/-- the first items -/
theorem flat_firsts {h : Heap} : ∀ {vs : List Value} {k : Value → List Item}, (∀ v ∈ vs, FlatAt h v (k v)) → (∀ v ∈ vs, k v ≠ []) → ∃ fs, KatTups h vs fs ∧ fs.length = vs.length ∧ ∀ f ∈ fs, ∃ v ∈ vs, ∃ it r, k v = it :: r ∧ IsItem it f
  | [], _, _, _ => ⟨[], KatTups.nil, rfl, fun _ h => by simp at h⟩
  | v :: vs, k, hp, hn => by
    obtain ⟨fs, a1, a2, a3⟩ := flat_firsts (fun u hu => hp u (List.mem_cons_of_mem _ hu)) fun u hu => hn u (List.mem_cons_of_mem _ hu)
    obtain ⟨a, xs, e, ⟨o, ho, hc, n, hd⟩, r⟩ := hp v List.mem_cons_self
    cases ek : k v with
    | nil => exact absurd ek (hn v List.mem_cons_self)
    | cons it l =>
      rw [ek] at r
      cases hx : xs.toList with
      | nil =>
        rw [hx] at r
        cases r
      | cons f r2 =>
        rw [hx] at r
        cases r with
        | cons r1 _ =>
          have hf : xs[0]? = some f := by
            rw [← Array.getElem?_toList, hx]
            rfl
          rw [e]
          refine ⟨f :: fs, KatTups.cons ho hc hd hf a1, by simp [a2], fun g hg => ?_⟩
          rcases List.mem_cons.mp hg with q | q
          · rw [q]
            exact ⟨.ref a, List.mem_cons_self, it, l, by rw [← e]; exact ek, r1⟩
          · obtain ⟨u, hu, z⟩ := a3 g q
            exact ⟨u, List.mem_cons_of_mem _ hu, z⟩
/-- what the first items are -/
theorem flat_sortable {a : Addr} {vs : List Value} {k : Value → List Item} (h2 : 2 ≤ vs.length) (hp : ∀ v ∈ vs, FlatAt s.heap v (k v)) (hn : ∀ v ∈ vs, k v ≠ []) (hk : ∀ v ∈ vs, ∀ u ∈ vs, KinL (k v) (k u)) (ha : ∀ o, s.heap.get? a = some o → o.cls ≠ .type "tuple") :
    SrtO.SortableO prog w A s a vs fun v u => lexB iLt (k v) (k u) := by
  intro h' keep
  have hp' : ∀ v ∈ vs, FlatAt h' v (k v) := fun v hm => (hp v hm).keeps fun b o e c => keep b o (fun z => by subst z; exact ha o e c) e
  obtain ⟨fs, h1, h3, h4⟩ := flat_firsts hp' hn
  refine ⟨tuples' true, fun Q E hq => ?_, flat_cmp hp' hk⟩
  -- all first items are of one kind
  obtain ⟨v0, hv0⟩ : ∃ v, v ∈ vs := by
    cases vs with
    | nil => exact absurd h2 (by simp)
    | cons v _ => exact ⟨v, List.mem_cons_self⟩
  cases e0 : k v0 with
  | nil => exact absurd e0 (hn v0 hv0)
  | cons it0 r0 =>
    cases it0 with
    | inl i0 =>
      refine kat_kind (T := .type "int") h1 (by omega) (fun f hm => ?_) (by rfl) ?_
      · obtain ⟨v, hv, it, r, e, hi⟩ := h4 f hm
        have q := hk v hv v0 hv0
        rw [e, e0] at q
        cases it with
        | inr x => exact q.1.elim
        | inl i =>
          obtain ⟨t, rfl⟩ := hi
          exact Looks.of_pure rfl
      · have e : (Value.type "int" != Value.type "tuple") = true := by first | decide +kernel | rfl | decide
        rw [e]
        exact hq
    | inr i0 =>
      refine kat_kind (T := .type "str") h1 (by omega) (fun f hm => ?_) (by rfl) ?_
      · obtain ⟨v, hv, it, r, e, hi⟩ := h4 f hm
        have q := hk v hv v0 hv0
        rw [e, e0] at q
        cases it with
        | inl x => exact q.1.elim
        | inr i =>
          obtain ⟨t, rfl⟩ := hi
          exact Looks.of_pure rfl
      · have e : (Value.type "str" != Value.type "tuple") = true := by first | decide +kernel | rfl | decide
        rw [e]
        exact hq
end
end JB
set_option Elab.async false
set_option linter.all false
set_option maxRecDepth 100000
set_option maxHeartbeats 4000000
/-! sorted of tuples of pairs of texts; both sorts as rules of the layer. -/
namespace JB
open PySem PyProof.Rows PySem.W
open PySem.AutoSeq1 (wpAny_loadPart')
open PySem.MeetsSeq PySem.MeetsSeq2 PySem.MeetsSeq3
theorem str_beq_dec (x y : Str) : (x == y) = decide (x = y) := by
  by_cases e : x = y
  · subst e
    simp
  · rw [decide_eq_false e]
    exact beq_eq_false_iff_ne.mpr e
theorem tuple_lt_pair (l b : Addr) (x1 x2 y1 y2 : Str) (t1 t2 u1 u2 : Tok) (n n2 : Nat) (dd dd2 : Option Addr) (sl sl2 : Array (Option Value)) :
    Meets (Builtin.«tuple.__lt__» ⟨[.ref l, .ref b], []⟩)
      (fun _ R s => s.heap.get? l = some { cls := .type "tuple", dict := dd, data := .seq #[.str x1 t1, .str x2 t2] n, slots := sl } ∧ s.heap.get? b = some { cls := .type "tuple", dict := dd2, data := .seq #[.str y1 u1, .str y2 u2] n2, slots := sl2 } ∧
        R (.ok (.ret (.bool (lexB sLt [x1, x2] [y1, y2])))) s) :=
  .of_wp fun prog w A R s h => by
    obtain ⟨hp, g, d, tk, os⟩ := s; obtain ⟨hl, hb, h⟩ := h
    have f2 := AutoSeq1.sub_tuple_tuple
    wp_walk using wpAny_loadPart' hl, wpAny_loadPart' hb, wpAny_forIn_list _ (fun rest b s' => b.1 = none ∧ s' = ⟨hp, g, d, tk, os⟩ ∧ ∃ (vs ws : List Value) (as bs : List Str), rest = vs.zip ws ∧ vs.length = ws.length ∧
      Paired (fun x v => ∃ t, v = Value.str x t) as vs ∧ Paired (fun x v => ∃ t, v = Value.str x t) bs ws ∧ R (.ok (.ret (.bool (lexB sLt as bs)))) ⟨hp, g, d, tk, os⟩) _
    case turn =>
      rintro ⟨y, x⟩ rest b s' ⟨hb', rfl, vs, ws, as, bs, hz, hlen, ha, hb2, hR⟩
      cases ha with
      | nil => rw [List.zip_nil_left] at hz; cases hz
      | cons r1 ta =>
        cases hb2 with
        | nil => rw [List.zip_nil_right] at hz; cases hz
        | cons r2 tb =>
          rename_i a va as' vs' c vb bs' ws'
          rw [List.zip_cons_cons] at hz
          injection hz with hyx hrest
          injection hyx with hy hx
          subst hy hx
          obtain ⟨t, rfl⟩ := r1
          obtain ⟨u, rfl⟩ := r2
          have hR' : R (.ok (.ret (.bool (if a = c then lexB sLt as' bs' else sLt a c)))) ⟨hp, g, d, tk, os⟩ := hR
          refine wpAny_bind (SeqAt.EqAt.str_str a t c u prog w _ _ ?_)
          by_cases e : a = c
          · rw [if_pos e] at hR'
            rw [show (a == c) = true by rw [e]; simp]
            wp_walk
            exact ⟨rfl, rfl, _, _, _, _, hrest, by simpa using hlen, ta, tb, hR'⟩
          · rw [if_neg e] at hR'
            rw [show (a == c) = false from beq_eq_false_iff_ne.mpr e]
            have hri : ∀ (E : Value → Shared → Prop) (Q : Value → Shared → Prop), Q (.bool (sLt a c)) ⟨hp, g, d, tk, os⟩ → wpAny (model prog w) A.in1 (richCompare .Lt (.str a t) (.str c u)) Q E ⟨hp, g, d, tk, os⟩ :=
              fun E Q hq => (PySem.P.lt_str hq : wpAny (model prog w) A.in1 (compareOp .Lt (.str a t) (.str c u)) Q E ⟨hp, g, d, tk, os⟩)
            wp_walk using hri
            exact ⟨_, rfl, by simpa using hR'⟩
    case fin =>
      rintro ⟨b1, b2⟩ s' ⟨hb', rfl, vs, ws, as, bs, hz, hlen, ha, hb2, hR⟩
      simp only at hb'
      subst hb'
      have hv : lexB sLt as bs = false := by
        cases ha with
        | nil =>
          cases hb2 with
          | nil => rfl
          | cons r2 tb => simp at hlen
        | cons r1 ta =>
          cases hb2 with
          | nil => rfl
          | cons r2 tb =>
            rw [List.zip_cons_cons] at hz
            cases hz
      rw [hv] at hR
      wp_walk
      exact ⟨_, rfl, by simpa [Builtin.Tuple.tupleCompareSizes] using hR⟩
    case h =>
      exact ⟨rfl, rfl, [.str x1 t1, .str x2 t2], [.str y1 u1, .str y2 u2], [x1, x2], [y1, y2], rfl, rfl, .cons ⟨_, rfl⟩ (.cons ⟨_, rfl⟩ .nil), .cons ⟨_, rfl⟩ (.cons ⟨_, rfl⟩ .nil), h⟩
section
variable {prog : Program} {w : World} {A : Around} {E : Value → Shared → Prop} {s : Shared}
/-- a pair of texts stands there -/
def PairAt (h : Heap) (p : Str × Str) (v : Value) : Prop := ∃ a t u, v = .ref a ∧ IsTup h a #[.str p.1 t, .str p.2 u]
theorem lt_pair {v u : Value} {p q : Str × Str} {Q : Value → Shared → Prop} (hv : PairAt s.heap p v) (hu : PairAt s.heap q u) (hA : A.units < cLine) (h : Q (.bool (pLt p q)) s) : wpAny (model prog w) A (compareOp .Lt v u) Q E s := by
  obtain ⟨l, t1, t2, rfl, ⟨⟨cls, dd, data, sl⟩, ho, hc, n, hd⟩⟩ := hv
  obtain ⟨b, u1, u2, rfl, ⟨⟨cls2, dd2, data2, sl2⟩, ho2, hc2, n2, hd2⟩⟩ := hu
  simp only at hc hd hc2 hd2
  subst hc hd hc2 hd2
  exact richCompare_meets_room (op := .Lt) ⟨_, ho, rfl⟩ ⟨_, ho2, rfl⟩ PySem.F.slot_tuple_lt PySem.F.entry_tuple_lt (PySem.F.args_tuple_lt_2 _ _) (tuple_lt_pair l b p.1 p.2 q.1 q.2 t1 t2 u1 u2 n n2 dd dd2 sl sl2)
    ⟨ho, ho2, show Value.bool (pLt p q) ≠ Value.notImplemented ∧ Q (.bool (pLt p q)) s from ⟨(fun x => nomatch x), h⟩⟩ hA
theorem isTup_inj {h : Heap} {a : Addr} {xs ys : Array Value} (h1 : IsTup h a xs) (h2 : IsTup h a ys) : xs = ys := by
  obtain ⟨o, ho, hc, n, hd⟩ := h1
  obtain ⟨o', ho', hc', n', hd'⟩ := h2
  rw [ho] at ho'
  have e := Option.some.inj ho'
  rw [← e, hd] at hd'
  injection hd'
theorem eq_pair {v u : Value} {p q : Str × Str} (hv : PairAt s.heap p v) (hu : PairAt s.heap q u) (hA : A.units < cLine) : SeqAt.EqAt A s v u (decide (p = q)) := by
  obtain ⟨l, t1, t2, rfl, T1⟩ := hv
  obtain ⟨b, u1, u2, rfl, T2⟩ := hu
  by_cases e : l = b
  · subst e
    have q0 := isTup_inj T1 T2
    have q1 : [Value.str p.1 t1, Value.str p.2 t2] = [Value.str q.1 u1, Value.str q.2 u2] := congrArg Array.toList q0
    have e1 : p.1 = q.1 := by
      have := (List.cons.inj q1).1
      injection this
    have e2 : p.2 = q.2 := by
      have := (List.cons.inj (List.cons.inj q1).2).1
      injection this
    rw [decide_eq_true (Prod.ext e1 e2)]
    exact SeqAt.EqAt.same _
  · have R : SeqAt.RcAt A s (.ref l) (.ref b) ((List.range (min 2 2)).all (fun j => if j = 0 then (p.1 == q.1) else (p.2 == q.2)) && (2 == 2)) :=
      SeqAt.RcAt.tuples (s := s) (items := #[.str p.1 t1, .str p.2 t2]) (items2 := #[.str q.1 u1, .str q.2 u2]) (e := fun j => if j = 0 then (p.1 == q.1) else (p.2 == q.2)) T1 T2 hA (fun j h1 h2 => by
        have hj : j = 0 ∨ j = 1 := by
          have : j < 2 := h1
          omega
        rcases hj with rfl | rfl
        · exact SeqAt.EqAt.str_str _ _ _ _
        · exact SeqAt.EqAt.str_str _ _ _ _)
    have eb : ((List.range (min 2 2)).all (fun j => if j = 0 then (p.1 == q.1) else (p.2 == q.2)) && (2 == 2)) = decide (p = q) := by
      show ((p.1 == q.1) && ((p.2 == q.2) && true) && true) = decide (p = q)
      rw [str_beq_dec, str_beq_dec, Bool.and_true, Bool.and_true, ← Bool.decide_and]
      congr 1
      exact propext ⟨fun z => Prod.ext z.1 z.2, fun z => by rw [z]; exact ⟨rfl, rfl⟩⟩
    rw [eb] at R
    exact SeqAt.EqAt.of_refs e R
/-- pairs, from the left -/
theorem nest_lex {fin : Bool} {Q : Bool → Shared → Prop} (hA : A.units < cLine) : ∀ (ps qs : List Value) (i : Nat) (as bs : List (Str × Str)), Paired (PairAt s.heap) as ps → Paired (PairAt s.heap) bs qs → fin = decide (ps.length < qs.length) → Q (lexB pLt as bs) s → KatLex prog w A false fin Q (ps.zip qs) i s
  | [], [], i, as, bs, ha, hb, hf, h => by
    cases ha
    cases hb
    have e : fin = false := by rw [hf]; rfl
    subst e
    exact kat_nil h
  | [], q :: qs, i, as, bs, ha, hb, hf, h => by
    cases ha
    cases hb
    have e : fin = true := by rw [hf]; exact decide_eq_true (Nat.succ_pos _)
    subst e
    exact kat_nil h
  | p :: ps, [], i, as, bs, ha, hb, hf, h => by
    cases ha
    cases hb
    have e : fin = false := by rw [hf]; exact decide_eq_false (Nat.not_lt_zero _)
    subst e
    exact kat_nil h
  | p :: ps, q :: qs, i, as, bs, ha, hb, hf, h => by
    have hf' : fin = decide (ps.length < qs.length) := by
      rw [hf]; simp only [List.length_cons, Nat.add_lt_add_iff_right]
    cases ha with
    | cons ra ta =>
      cases hb with
      | cons rb tb =>
        rename_i x as' y bs'
        have h' : Q (if x = y then lexB pLt as' bs' else pLt x y) s := h
        refine kat_cons (eq_pair ra rb hA prog w _ _ ?_)
        refine kat_go (fun e => kat_yes ?_) (fun e => kat_no ?_)
        · rw [if_pos (of_decide_eq_true e)] at h'
          exact nest_lex hA ps qs (i + 1) as' bs' ta tb hf' h'
        · rw [if_neg (of_decide_eq_false e)] at h'
          exact kat_one _ _ (lt_pair ra rb hA h')
/-- a tuple of pairs stands there -/
def NestAt (h : Heap) (v : Value) (l : List (Str × Str)) : Prop := ∃ a xs, v = .ref a ∧ IsTup h a xs ∧ Paired (PairAt h) l xs.toList
theorem PairAt.keeps {h h' : Heap} {p : Str × Str} {v : Value} (f : PairAt h p v) (k : ∀ b o, h.get? b = some o → o.cls = .type "tuple" → h'.get? b = some o) : PairAt h' p v := by
  obtain ⟨a, t, u, e, ⟨o, ho, hc, n, hd⟩⟩ := f
  exact ⟨a, t, u, e, ⟨o, k a o ho hc, hc, n, hd⟩⟩
theorem NestAt.keeps {h h' : Heap} {v : Value} {l : List (Str × Str)} (f : NestAt h v l) (k : ∀ b o, h.get? b = some o → o.cls = .type "tuple" → h'.get? b = some o) : NestAt h' v l := by
  obtain ⟨a, xs, e, ⟨o, ho, hc, n, hd⟩, r⟩ := f
  exact ⟨a, xs, e, ⟨o, k a o ho hc, hc, n, hd⟩, L2.Paired.mapP r fun p v z => z.keeps k⟩
theorem nest_cmp {vs : List Value} {k : Value → List (Str × Str)} (hA : A.units < cLine) (hp : ∀ v ∈ vs, NestAt s.heap v (k v)) : SrtO.Cmp prog w A s (tuples' false) (fun p => p.1 ∈ vs) (SrtO.lt2 fun v u => lexB pLt (k v) (k u)) := by
  intro p q hm hm'
  have h1 := hp _ hm
  have h2 := hp _ hm'
  show wpAny (model prog w) A (keyLt' (tuples' false) p.1 q.1) (fun r s' => s' = s ∧ r = lexB pLt (k p.1) (k q.1)) (fun _ _ => False) s
  generalize k p.1 = as at *
  generalize k q.1 = bs at *
  obtain ⟨a, xs, e, ⟨o, ho, hc, n, hd⟩, r⟩ := h1
  obtain ⟨a', xs', e', ⟨o', ho', hc', n', hd'⟩, r'⟩ := h2
  rw [e, e']
  exact kat_lt ho hd ho' hd' (nest_lex hA xs.toList xs'.toList 0 as bs r r' (by rw [Array.length_toList, Array.length_toList]) ⟨rfl, rfl⟩)
theorem nest_firsts {h : Heap} : ∀ {vs : List Value} {k : Value → List (Str × Str)}, (∀ v ∈ vs, NestAt h v (k v)) → (∀ v ∈ vs, k v ≠ []) → ∃ fs, KatTups h vs fs ∧ fs.length = vs.length ∧ ∀ f ∈ fs, ∃ p, PairAt h p f
  | [], _, _, _ => ⟨[], KatTups.nil, rfl, fun _ h => by simp at h⟩
  | v :: vs, k, hp, hn => by
    obtain ⟨fs, a1, a2, a3⟩ := nest_firsts (fun u hu => hp u (List.mem_cons_of_mem _ hu)) fun u hu => hn u (List.mem_cons_of_mem _ hu)
    obtain ⟨a, xs, e, ⟨o, ho, hc, n, hd⟩, r⟩ := hp v List.mem_cons_self
    cases ek : k v with
    | nil => exact absurd ek (hn v List.mem_cons_self)
    | cons it l =>
      rw [ek] at r
      cases hx : xs.toList with
      | nil =>
        rw [hx] at r
        cases r
      | cons f r2 =>
        rw [hx] at r
        cases r with
        | cons r1 _ =>
          have hf : xs[0]? = some f := by
            rw [← Array.getElem?_toList, hx]
            rfl
          rw [e]
          refine ⟨f :: fs, KatTups.cons ho hc hd hf a1, by simp [a2], fun g hg => ?_⟩
          rcases List.mem_cons.mp hg with q | q
          · rw [q]
            exact ⟨it, r1⟩
          · exact a3 g q
theorem nest_sortable {a : Addr} {vs : List Value} {k : Value → List (Str × Str)} (hA : A.units < cLine) (h2 : 2 ≤ vs.length) (hp : ∀ v ∈ vs, NestAt s.heap v (k v)) (hn : ∀ v ∈ vs, k v ≠ []) (ha : ∀ o, s.heap.get? a = some o → o.cls ≠ .type "tuple") :
    SrtO.SortableO prog w A s a vs fun v u => lexB pLt (k v) (k u) := by
  intro h' keep
  have hp' : ∀ v ∈ vs, NestAt h' v (k v) := fun v hm => (hp v hm).keeps fun b o e c => keep b o (fun z => by subst z; exact ha o e c) e
  obtain ⟨fs, h1, h3, h4⟩ := nest_firsts hp' hn
  refine ⟨tuples' false, fun Q E hq => ?_, nest_cmp (s := { s with heap := h' }) hA hp'⟩
  refine kat_kind (T := .type "tuple") h1 (by omega) (fun f hm => ?_) (by rfl) ?_
  · obtain ⟨p, b, t, u, rfl, ⟨o, ho, hc, _⟩⟩ := h4 f hm
    have L : Looks (model prog w) h' (typeOf (.ref b)) o.cls := (Looks.ld ho).andThen .now
    rw [hc] at L
    exact L
  · have e : (Value.type "tuple" != Value.type "tuple") = false := by first | decide +kernel | rfl | decide
    rw [e]
    exact hq
end
end JB

namespace L2
open PySem PySem.Spec PyProof.Rows JB
/-- an item as a value -/
def itV : Item → V
  | .inl i => .int i
  | .inr x => .str x
theorem paired_items : ∀ {l : List Item} {us : List Value}, Vals (l.map itV) us → Paired IsItem l us
  | [], _, r => by cases r; exact .nil
  | it :: l, _, r => by
    cases r with
    | cons r1 r2 =>
      refine .cons ?_ (paired_items r2)
      cases it with
      | inl i => exact r1
      | inr x => exact r1
/-- sorted(xs), xs a list of flat tuples (k says which), any two of one shape -/
def rSortedF (K : PySem.W.Frag) : List V → Hp → VK → Prop := fun vs H Q => ∃ (a : Addr) (xs : List V) (k : V → List Item), vs = [V.ref a] ∧ SqL K H a xs ∧ (∀ x ∈ xs, ∃ t, x = V.ref t ∧ H t = some (.tup ((k x).map itV))) ∧ (∀ x ∈ xs, k x ≠ []) ∧ (∀ x ∈ xs, ∀ y ∈ xs, KinL (k x) (k y)) ∧
  ∀ ys p, ys.Perm xs → ys.Pairwise (fun x y => lexB iLt (k y) (k x) = false) → H p = none → Q (.ref p) (upd H p (.lst ys))
/-- sorted(xs), xs a list of tuples of pairs of texts -/
def rSortedN (K : PySem.W.Frag) : List V → Hp → VK → Prop := fun vs H Q => ∃ (a : Addr) (xs : List V) (k : V → List (Str × Str)), vs = [V.ref a] ∧ SqL K H a xs ∧ (∀ x ∈ xs, ∃ t as, x = V.ref t ∧ H t = some (.tup (as.map V.ref)) ∧ Paired (fun (p : Str × Str) b => H b = some (.tup [.str p.1, .str p.2])) (k x) as) ∧ (∀ x ∈ xs, k x ≠ []) ∧
  ∀ ys p, ys.Perm xs → H p = none → Q (.ref p) (upd H p (.lst ys))
section
variable {X : Cx}
theorem cr_sortedF : CallR X (.builtin "sorted") (rSortedF X.K) := by
  intro pins s σ H vs us Q I r h
  obtain ⟨a, xs, k, rfl, hs, hx, hne, hk, q⟩ := h
  obtain ⟨its, rv, hl, hz⟩ := I.list hs
  obtain ⟨u, rfl, ru⟩ := vals1 r
  obtain rfl : u = Value.ref a := ru
  obtain ⟨e1, e2⟩ := refs_back rv fun x m => by
    obtain ⟨t, e, _⟩ := hx x m
    exact ⟨t, e⟩
  have mem : ∀ v ∈ its, backV v ∈ xs := fun v hv => by rw [e1]; exact List.mem_map.mpr ⟨_, hv, rfl⟩
  have flat : ∀ v ∈ its, FlatAt s.heap v (k (backV v)) := fun v hv => by
    have hm := mem v hv
    obtain ⟨t, rfl⟩ := e2 v hv
    obtain ⟨t', e, ht⟩ := hx _ hm
    obtain rfl : t = t' := by
      have : V.ref t = V.ref t' := e
      injection this
    obtain ⟨_, its2, r2, T⟩ := I.hok _ _ ht
    exact ⟨t, its2.toArray, rfl, T, by simpa using paired_items r2⟩
  refine SrtO.sorted_ord (ltv := fun v u => lexB iLt (k (backV v)) (k (backV u))) ((lexB_tot iLt_tot).swoOn fun v => k (backV v)) hl.isList (by rw [← rv.length]; exact hz) (fun h2 h₁ a' ha' kk => ?_) fun out h1 h2 => ?_
  · refine flat_sortable (s := { s with heap := h₁ }) h2 (fun v hv => (flat v hv).keeps fun b o e _ => (kk b o e).2) (fun v hv => hne _ (mem v hv)) (fun v hv u hu => hk _ (mem v hv) _ (mem u hu)) fun o e => ?_
    have e' : some o = some (seqObj "list" its.toArray 0) := e.symm.trans ha'
    cases e'
    intro c
    exact absurd (Value.type.inj c) (by decide)
  · have h3 : ∀ u ∈ out, ∃ a, u = Value.ref a := fun u hu => e2 u (h2.perm.mem_iff.mp hu)
    obtain ⟨ep, he'⟩ := PyProof.Rows.sortedAll_at s.heap its out.toArray
    have pm : (out.map backV).Perm xs := by
      rw [e1]
      exact h2.perm.map backV
    have hlen : (out.map backV).length ≤ sizeLine := by
      rw [pm.length_eq]
      exact hz
    exact ⟨.ref _, upd H (s.heap.objs.size + 1) (.lst (out.map backV)), I.laid (t' := s.toks) (fun _ _ => PyProof.Rows.sortedAll_old) (Nat.le_succ _) ⟨hlen, out, ep, vals_back h3, he'⟩, rfl, q _ _ pm (List.pairwise_map.mpr h1) (I.hok.fresh (Nat.le_succ _))⟩
theorem cr_sortedN (hu : X.A.units + 64 < cLine) : CallR X (.builtin "sorted") (rSortedN X.K) := by
  intro pins s σ H vs us Q I r h
  obtain ⟨a, xs, k, rfl, hs, hx, hne, q⟩ := h
  obtain ⟨its, rv, hl, hz⟩ := I.list hs
  obtain ⟨u, rfl, ru⟩ := vals1 r
  obtain rfl : u = Value.ref a := ru
  obtain ⟨e1, e2⟩ := refs_back rv fun x m => by
    obtain ⟨t, _, e, _⟩ := hx x m
    exact ⟨t, e⟩
  have mem : ∀ v ∈ its, backV v ∈ xs := fun v hv => by rw [e1]; exact List.mem_map.mpr ⟨_, hv, rfl⟩
  have pairs : ∀ {l : List (Str × Str)} {as : List Addr} {ws : List Value}, Paired (fun (p : Str × Str) b => H b = some (.tup [.str p.1, .str p.2])) l as → Vals (as.map V.ref) ws → Paired (PairAt s.heap) l ws := by
    intro l as ws hp
    induction hp generalizing ws with
    | nil => intro rr; cases rr; exact .nil
    | cons h1 _ ih =>
      intro rr
      cases rr with
      | cons r1 r2 =>
        refine .cons ?_ (ih r2)
        cases r1
        obtain ⟨_, its2, r3, T⟩ := I.hok _ _ h1
        cases r3 with
        | cons z1 z2 =>
          cases z2 with
          | cons z3 z4 =>
            cases z4
            obtain ⟨t1, rfl⟩ := z1
            obtain ⟨t2, rfl⟩ := z3
            exact ⟨_, t1, t2, rfl, T⟩
  have nest : ∀ v ∈ its, NestAt s.heap v (k (backV v)) := fun v hv => by
    have hm := mem v hv
    obtain ⟨t, rfl⟩ := e2 v hv
    obtain ⟨t', as, e, ht, hp⟩ := hx _ hm
    obtain rfl : t = t' := by
      have : V.ref t = V.ref t' := e
      injection this
    obtain ⟨_, its2, r2, T⟩ := I.hok _ _ ht
    exact ⟨t, its2.toArray, rfl, T, by simpa using pairs hp r2⟩
  refine SrtO.sorted_ord (ltv := fun v u => lexB pLt (k (backV v)) (k (backV u))) ((lexB_tot pLt_tot).swoOn fun v => k (backV v)) hl.isList (by rw [← rv.length]; exact hz) (fun h2 h₁ a' ha' kk => ?_) fun out h1 h2 => ?_
  · refine nest_sortable (s := { s with heap := h₁ }) ?_ h2 (fun v hv => (nest v hv).keeps fun b o e _ => (kk b o e).2) (fun v hv => hne _ (mem v hv)) fun o e => ?_
    · show X.A.units + 1 + 1 < cLine
      omega
    · have e' : some o = some (seqObj "list" its.toArray 0) := e.symm.trans ha'
      cases e'
      intro c
      exact absurd (Value.type.inj c) (by decide)
  · have h3 : ∀ u ∈ out, ∃ a, u = Value.ref a := fun u hu => e2 u (h2.perm.mem_iff.mp hu)
    obtain ⟨ep, he'⟩ := PyProof.Rows.sortedAll_at s.heap its out.toArray
    have pm : (out.map backV).Perm xs := by
      rw [e1]
      exact h2.perm.map backV
    have hlen : (out.map backV).length ≤ sizeLine := by
      rw [pm.length_eq]
      exact hz
    exact ⟨.ref _, upd H (s.heap.objs.size + 1) (.lst (out.map backV)), I.laid (t' := s.toks) (fun _ _ => PyProof.Rows.sortedAll_old) (Nat.le_succ _) ⟨hlen, out, ep, vals_back h3, he'⟩, rfl, q _ _ pm (I.hok.fresh (Nat.le_succ _))⟩
end
end L2
set_option Elab.async false
set_option linter.all false
set_option maxRecDepth 100000
set_option maxHeartbeats 4000000
/-! len(set(xs)) of texts, from a list and from a tuple. -/
namespace JB
open PySem PySem.Spec PyProof.Rows L2
/-- one more key -/
def memK (l : List Key) (k : Key) : Bool := l.any fun j => decide (j = k)
theorem memK_iff {l : List Key} {k : Key} : memK l k = true ↔ k ∈ l := by
  unfold memK
  rw [List.any_eq_true]
  constructor
  · rintro ⟨j, hj, e⟩
    rw [← of_decide_eq_true e]
    exact hj
  · intro h
    exact ⟨k, h, decide_eq_true rfl⟩
def stepK (acc : List Key) (k : Key) : List Key := if memK acc k = true then acc else acc ++ [k]
def metK (val : Nat → Key) (i : Nat) : List Key := ((List.range i).map val).foldl stepK []
theorem metK_succ (val : Nat → Key) (i : Nat) : metK val (i + 1) = stepK (metK val i) (val i) := by
  unfold metK
  rw [List.range_succ, List.map_append, List.foldl_append]
  rfl
theorem stepK_mem (acc : List Key) (k j : Key) : memK (stepK acc k) j = (memK acc j || decide (j = k)) := by
  unfold stepK
  by_cases h : memK acc k = true
  · rw [if_pos h]
    by_cases e : j = k
    · subst e
      rw [h]
      rfl
    · rw [decide_eq_false e, Bool.or_false]
  · rw [if_neg h]
    unfold memK
    rw [List.any_append]
    congr 1
    show (decide (k = j) || false) = decide (j = k)
    rw [Bool.or_false]
    by_cases e : j = k
    · rw [decide_eq_true e, decide_eq_true e.symm]
    · rw [decide_eq_false e, decide_eq_false fun z => e z.symm]
theorem stepK_len (acc : List Key) (k : Key) : (stepK acc k).length = if memK acc k = true then acc.length else acc.length + 1 := by
  unfold stepK
  by_cases h : memK acc k = true
  · rw [if_pos h, if_pos h]
  · rw [if_neg h, if_neg h]
    simp
theorem metK_len_le (val : Nat → Key) : ∀ i, (metK val i).length ≤ i
  | 0 => Nat.le_refl _
  | i + 1 => by
    have := metK_len_le val i
    rw [metK_succ, stepK_len]
    split <;> omega
theorem setOf_same {P : Program} {w : World} {h : Heap} {a : Addr} {S S' : Key → Bool} {n n' : Nat} (hS : h.SetOf (mixKind P w) a S n) (e : ∀ k, S k = S' k) (en : n = n') : h.SetOf (mixKind P w) a S' n' := by
  have : S = S' := funext e
  subst this; subst en; exact hS
theorem set_fresh {P : Program} {w : World} {h : Heap} {a : Addr} {led : Bool} (e : h.get? a = some { cls := .type "set", dict := none, data := .set #[] 0 (.fresh 0 0 led) }) : h.SetOf (mixKind P w) a (fun _ => false) 0 :=
  ⟨_, #[], 0, _, e, ⟨rfl, rfl, rfl⟩, rfl, (fun e he => by simp at he), (fun k => by simp), (by decide), (by rfl), rfl⟩
section
variable {prog : Program} {w : World} {A : Around} {R : Result → Shared → Prop} {I : Addr} {fp wr : List Addr} {G : Array GenState → Array GenState → Prop} {n : Nat} {P : Nat → Value → Prop} {St : Nat → Shared → Prop}
theorem set_update_loopK (W : WalksS prog w A.in1 I fp wr G n P St) (S : Addr) (hSf : S ∉ fp)
    (val : Nat → Key) (hval : ∀ i v, P i v → RelV (kV (val i)) v) (hb : n + 1 < scanBound) :
    ∀ (k i : Nat) (s : Shared), n - i = k → i ≤ n → St i s →
      s.heap.SetOf (mixKind prog w) S (fun k' => memK (metK val i) k') (metK val i).length →
      (∀ s', Moved (S :: wr) G s s' → s'.heap.SetOf (mixKind prog w) S (fun k' => memK (metK val n) k') (metK val n).length → R (.ok (.ret .none)) s') →
      codeAny (model prog w) A (.builtin "set.update.loop" ⟨[.ref S, .ref I], []⟩) R s := by
  have hSw : S ∉ wr := fun h => hSf (W.sub _ h)
  have hsub : ∀ b ∈ wr, b ∈ S :: wr := fun b hb => List.mem_cons_of_mem _ hb
  intro k
  induction k with
  | zero =>
    intro i s hk hi hst hS hR
    have hin : i = n := by omega
    subst hin
    refine codeAny_builtin PyProof.Rows.F.entry_set_update_loop ?_
    rw [Around.under_plainId PyProof.Rows.F.plain_set_update_loop _]
    show wpAny _ A.in1 (pyNext (.ref I) >>= _) _ _ s
    refine wpAny_bind (W.done s _ _ hst fun s' hm => ?_)
    show wpAny _ A.in1 (ret Value.none) _ _ s'
    exact wpAny_pure (hR s' (hm.mono hsub) (by
      obtain ⟨o, es, ep, t, ho, rest⟩ := hS
      exact ⟨o, es, ep, t, hm.heap S _ hSw ho, rest⟩))
  | succ k ih =>
    intro i s hk hi hst hS hR
    have hlt : i < n := by omega
    refine codeAny_builtin PyProof.Rows.F.entry_set_update_loop ?_
    rw [Around.under_plainId PyProof.Rows.F.plain_set_update_loop _]
    show wpAny _ A.in1 (pyNext (.ref I) >>= _) _ _ s
    refine wpAny_bind (W.item i s _ _ hlt hst fun v s' hP hst' hm => ?_)
    have hr := hval i v hP
    have hS' : s'.heap.SetOf (mixKind prog w) S (fun k' => memK (metK val i) k') (metK val i).length := by
      obtain ⟨o, es, ep, tb, ho, rest⟩ := hS
      exact ⟨o, es, ep, tb, hm.heap S _ hSw ho, rest⟩
    show wpAny _ A.in1 (holding [v] (setAdd S v) >>= _) _ _ s'
    refine wpAny_bind (wpAny_holding ?_)
    unfold setAdd
    refine wpAny_holding ?_
    refine wpAny_bind ((mixKind prog w).pyHash (k := val i) (kV_is hr) ?_)
    have hroom : (metK val i).length + 1 < scanBound := by have := metK_len_le val i; omega
    refine wpAny_setAddHashed_of (knd := mixKind prog w) (s := { s' with toks := s'.toks + 1 }) (kV_is hr) (key_scan hr) hS' hroom fun h' hsb hS2 => ?_
    have hSi : h'.SetOf (mixKind prog w) S (fun k' => memK (metK val (i + 1)) k') (metK val (i + 1)).length :=
      setOf_same hS2 (fun k' => by rw [metK_succ, stepK_mem]) (by rw [metK_succ, stepK_len])
    refine wpAny_pure ⟨plainId_quiet PyProof.Rows.F.plain_set_update_loop _, ih (i + 1) _ (by omega) hlt (W.frame _ s' _ _ hst' (Nat.le_succ _) fun b hb o e => ?_) hSi fun s'' hm'' hS'' => ?_⟩
    · rw [hsb.2 b (fun h : b = S => hSf (by rw [← h]; exact hb))]; exact e
    · refine hR s'' (Moved.trans W.gtrans ((hm.mono hsub).then_heap (Nat.le_succ _) fun b o hb e => ?_) hm'') hS''
      rw [hsb.2 b (fun h : b = S => hb (by rw [h]; exact List.mem_cons_self))]; exact e
end
section
variable {prog : Program} {w : World} {A : Around} {E : Value → Shared → Prop} {s : Shared}
theorem sub_tuple_set : isSubtype (.type "tuple") (.type "set") = pure false := by rw [isSubtype_type]; kernel_rfl
theorem sub_tuple_frozenset : isSubtype (.type "tuple") (.type "frozenset") = pure false := by rw [isSubtype_type]; kernel_rfl
/-- a text's key at a place -/
def keyAt (xs : List Str) (i : Nat) : Key := .inr (xs.getD i Str.empty)
set_option maxHeartbeats 6400000 in
theorem call_set_strs {l : Addr} {items : Array Value} {xs : List Str} {T : String} (hT : T = "list" ∨ T = "tuple") {Q : Value → Shared → Prop}
    (hh : A.handled = none) (hl : ∃ o n, s.heap.get? l = some o ∧ o.cls = .type T ∧ o.data = .seq items n) (hi : Vals (xs.map V.str) items.toList) (hb : items.size + 1 < scanBound)
    (h : ∀ (h' : Heap) (tk : Nat), h'.SetOf (mixKind prog w) s.heap.objs.size (fun k' => memK (metK (keyAt xs) items.size) k') (metK (keyAt xs) items.size).length →
      (∀ b o, b < s.heap.objs.size → s.heap.get? b = some o → h'.get? b = some o) → Q (.ref s.heap.objs.size) { s with heap := h', toks := tk }) :
    wpAny (model prog w) A (call (.type "set") [.ref l]) Q E s := by
  obtain ⟨c, tl, hmro⟩ := F.called_set.mro
  have hmade := F.called_set.made
  have hsub := F.called_set.sub
  refine wpAny_call (codeAny_of_tree ?_)
  show wpAny _ _ (callAny (.type "set") _) _ _ _
  refine wpAny_pure ⟨Code.quiet_builtin _ (by decide +kernel), codeAny_builtin F.entry_type_call ?_⟩
  rw [Around.under_plain (weight_type_call_type "set" [.ref l] []) rfl]
  have h1 := F.called_set.notType
  have h2 := F.called_set.canCreate
  have hct := F.typeCall_set_1 (.ref l)
  repeat (any_goals (first | assumption | wp_step))
  refine codeAny_mono (code_set_new_1 (.ref l) (E := E) (Q₁ := fun obj s₁ => ∃ led : Bool, obj = .ref s.heap.objs.size ∧ s₁ = { s with heap := s.heap.push { cls := .type "set", dict := none, data := .set #[] 0 (.fresh 0 0 led) } }) fun led => ⟨led, rfl, rfl⟩) fun r s₁ hr => ?_
  cases r with
  | error e => exact hr
  | ok fl =>
    cases fl with
    | ret obj =>
      obtain ⟨led, rfl, rfl⟩ := hr
      have hS : (s.heap.push { cls := .type "set", dict := none, data := .set #[] 0 (.fresh 0 0 led) }).get? s.heap.objs.size = some { cls := .type "set", dict := none, data := .set #[] 0 (.fresh 0 0 led) } := Heap.get?_push_size _ rfl
      have hTs : Shared.TypeIs { s with heap := s.heap.push { cls := .type "set", dict := none, data := .set #[] 0 (.fresh 0 0 led) } } (.ref s.heap.objs.size) "set" := ⟨_, hS, rfl⟩
      have hli := F.called_set.init.lookup
      have hbi := F.called_set.init.bind (.ref s.heap.objs.size)
      repeat (any_goals (first | assumption | wp_step))
      refine codeAny_mono (codeAny_call_builtin (R := wants (fun r s₂ => r = .none ∧ ∃ h' tk, s₂ = { s with heap := h', toks := tk } ∧
          h'.SetOf (mixKind prog w) s.heap.objs.size (fun k' => memK (metK (keyAt xs) items.size) k') (metK (keyAt xs) items.size).length ∧
          (∀ b o, b < s.heap.objs.size → s.heap.get? b = some o → h'.get? b = some o)) E) F.called_set.init.plain F.entry_set_init (check_set_init_1 hTs ?_)) fun r₂ s₂ hr₂ => ?_
      · obtain ⟨ol, nl, hol, hcl, hdl⟩ := hl
        obtain ⟨ocls, odict, odata, oslots⟩ := ol
        simp only at hcl hdl
        subst hcl; subst hdl
        have hol' : (s.heap.push { cls := .type "set", dict := none, data := .set #[] 0 (.fresh 0 0 led) }).get? l = some { cls := .type T, dict := odict, data := .seq items nl, slots := oslots } := Heap.get?_push_of_some _ hol
        have hlS : l < s.heap.objs.size := Heap.lt_size hol
        have hh3 : A.in1.in1.in1.handled = none := by simp [hh]
        have hneI : l ≠ (s.heap.push { cls := .type "set", dict := none, data := .set #[] 0 (.fresh 0 0 led) }).objs.size := by
          rw [Heap.size_push]; exact Nat.ne_of_lt (Nat.lt_succ_of_lt hlS)
        have hSf : s.heap.objs.size ∉ [(s.heap.push { cls := .type "set", dict := none, data := .set #[] 0 (.fresh 0 0 led) }).objs.size, l] := by
          rw [Heap.size_push]; simp only [List.mem_cons, List.mem_singleton, List.not_mem_nil, or_false, not_or]
          exact ⟨Nat.ne_of_lt (Nat.lt_succ_self _), Nat.ne_of_gt hlS⟩
        have hval : ∀ (i : Nat) (v : Value), items[i]? = some v → RelV (kV (keyAt xs i)) v := fun i v hv => by
          have hv' : items.toList[i]? = some v := by rw [Array.getElem?_toList]; exact hv
          have hlt : i < items.toList.length := (List.getElem?_eq_some_iff.mp hv').1
          have hl' := hi.length
          rw [List.length_map] at hl'
          have hx : (xs.map V.str)[i]? = some (V.str (xs.getD i Str.empty)) := by
            rw [List.getElem?_map, List.getElem?_eq_getElem (by omega), List.getD_eq_getElem?_getD, List.getElem?_eq_getElem (by omega)]
            rfl
          obtain ⟨u, hu, ru⟩ := hi.get hx
          rw [hv'] at hu
          rw [Option.some.inj hu]
          exact ru
        have fin : ∀ s' : Shared, Moved [s.heap.objs.size, (s.heap.push { cls := .type "set", dict := none, data := .set #[] 0 (.fresh 0 0 led) }).objs.size] (fun a b => b = a) { s with heap := (s.heap.push { cls := .type "set", dict := none, data := .set #[] 0 (.fresh 0 0 led) }).push { cls := .type (if T = "list" then "list_iterator" else "tuple_iterator"), data := .fields #[.ref l, .int 0 0] } } s' → s'.heap.SetOf (mixKind prog w) s.heap.objs.size (fun k' => memK (metK (keyAt xs) items.size) k') (metK (keyAt xs) items.size).length → ∃ h' tk, s' = { s with heap := h', toks := tk } ∧ h'.SetOf (mixKind prog w) s.heap.objs.size (fun k' => memK (metK (keyAt xs) items.size) k') (metK (keyAt xs) items.size).length ∧ (∀ b o, b < s.heap.objs.size → s.heap.get? b = some o → h'.get? b = some o) := by
          intro s' hm hS'
          obtain ⟨h', g', d', tk', os'⟩ := s'
          have eg : g' = s.gens := hm.gens
          have ed : d' = s.drawn := hm.drawn
          have eo : os' = s.os := hm.os
          subst eg; subst ed; subst eo
          refine ⟨h', tk', rfl, hS', fun b o hb e => ?_⟩
          have hb1 : b ≠ s.heap.objs.size := Nat.ne_of_lt hb
          have hb2 : b ≠ (s.heap.push { cls := .type "set", dict := none, data := .set #[] 0 (.fresh 0 0 led) }).objs.size := by
            rw [Heap.size_push]; exact Nat.ne_of_lt (Nat.lt_succ_of_lt hb)
          exact hm.heap b o (by simp only [List.mem_cons, List.mem_singleton, List.not_mem_nil, or_false, not_or]; exact ⟨hb1, hb2⟩) (Heap.get?_push_of_some _ (Heap.get?_push_of_some _ e))
        rcases hT with rfl | rfl
        · have hsls := F.sub_list_set
          have hslf := F.sub_list_frozenset
          have hne : (Value.type "list" == Value.type "dict") = false := by decide
          have hl1 : (s.heap.push { cls := .type "set", dict := none, data := .set #[] 0 (.fresh 0 0 led) }).IsList l items := ⟨_, hol', rfl, nl, rfl⟩
          unfold Builtin.«set.__init__» noKeywords Builtin.Frozenset.updateFrom
          generalize hPI : pyIter = PI
          wp_walk
          subst hPI
          refine wpAny_pyIter_list hl1 ?_
          refine wpAny_bind (wpAny_runValue ?_)
          refine set_update_loopK ((Walks.list hh3 _ l hneI items).toS) s.heap.objs.size hSf (keyAt xs) hval hb (items.size - 0) 0 _ (by omega) (Nat.zero_le _)
            ⟨⟨_, Heap.get?_push_size _ rfl, rfl, rfl⟩, (hl1.push _)⟩ ?hS0 ?hR
          case hS0 =>
            have hget : ((s.heap.push { cls := .type "set", dict := none, data := .set #[] 0 (.fresh 0 0 led) }).push { cls := .type "list_iterator", data := .fields #[.ref l, .int 0 0] }).get? s.heap.objs.size
                = some { cls := .type "set", dict := none, data := .set #[] 0 (.fresh 0 0 led) } := Heap.get?_push_of_some _ hS
            exact setOf_same (set_fresh hget) (fun k => rfl) rfl
          case hR =>
            intro s' hm hS'
            obtain ⟨h', tk', e1, e2, e3⟩ := fin s' hm hS'
            show wpAny _ _ _ _ _ _
            refine wpAny_pure ?_
            show wpAny _ _ (ret Value.none) _ _ _
            exact wpAny_pure ⟨rfl, h', tk', e1, e2, e3⟩
        · have hsls := sub_tuple_set
          have hslf := sub_tuple_frozenset
          have hne : (Value.type "tuple" == Value.type "dict") = false := by decide
          have hl1 : (s.heap.push { cls := .type "set", dict := none, data := .set #[] 0 (.fresh 0 0 led) }).IsTuple l items := ⟨_, hol', rfl, nl, rfl⟩
          have hl2 : ((s.heap.push { cls := .type "set", dict := none, data := .set #[] 0 (.fresh 0 0 led) }).push { cls := .type "tuple_iterator", data := .fields #[.ref l, .int 0 0] }).IsTuple l items := ⟨_, Heap.get?_push_of_some _ hol', rfl, nl, rfl⟩
          unfold Builtin.«set.__init__» noKeywords Builtin.Frozenset.updateFrom
          generalize hPI : pyIter = PI
          wp_walk
          subst hPI
          refine wpAny_pyIter_tuple hl1 ?_
          refine wpAny_bind (wpAny_runValue ?_)
          refine set_update_loopK ((Walks.tuple hh3 _ l hneI items).toS) s.heap.objs.size hSf (keyAt xs) hval hb (items.size - 0) 0 _ (by omega) (Nat.zero_le _)
            ⟨⟨_, Heap.get?_push_size _ rfl, rfl, rfl⟩, hl2⟩ ?hS0 ?hR
          case hS0 =>
            have hget : ((s.heap.push { cls := .type "set", dict := none, data := .set #[] 0 (.fresh 0 0 led) }).push { cls := .type "tuple_iterator", data := .fields #[.ref l, .int 0 0] }).get? s.heap.objs.size
                = some { cls := .type "set", dict := none, data := .set #[] 0 (.fresh 0 0 led) } := Heap.get?_push_of_some _ hS
            exact setOf_same (set_fresh hget) (fun k => rfl) rfl
          case hR =>
            intro s' hm hS'
            obtain ⟨h', tk', e1, e2, e3⟩ := fin s' hm hS'
            show wpAny _ _ _ _ _ _
            refine wpAny_pure ?_
            show wpAny _ _ (ret Value.none) _ _ _
            exact wpAny_pure ⟨rfl, h', tk', e1, e2, e3⟩
      · cases r₂ with
        | error e => exact hr₂
        | ok fl₂ =>
          cases fl₂ with
          | ret r =>
            obtain ⟨rfl, h', tk, rfl, hS', hk'⟩ := hr₂
            repeat (any_goals (first | assumption | wp_step))
            exact h _ _ hS' hk'
          | _ => exact hr₂.elim
    | _ => exact hr.elim
end
end JB
set_option Elab.async false
set_option linter.all false
set_option maxRecDepth 100000
set_option maxHeartbeats 4000000
/-! len(set(xs)) as a rule; enumerate over a tuple. -/
namespace L2
open PySem PySem.Spec PyProof.Rows JB
/-- how many different texts -/
def ndiff (xs : List Str) : Nat := (metK (keyAt xs) xs.length).length
def tLenSetS (K : PySem.W.Frag) (ta : TE) : TE := fun σ H Q => ta σ H fun x H1 => ∃ (l : Addr) (xs : List Str), x = .ref l ∧ (SqL K H1 l (xs.map V.str) ∨ SqT K H1 l (xs.map V.str)) ∧ xs.length ≤ 4000 ∧ Q (.int (ndiff xs : Nat)) H1
theorem pe_lenSetS {X : Cx} {a : Expr} {ta : TE} {p p2 q pos : Pos} (hg : Gl X "len") (hm : X.mg "len" = none) (hg2 : Gl X "set") (hm2 : X.mg "set" = none) (ha : PE X a ta) (hc : X.calm = true := by rfl)
    (na : starEach [a] X.env = (false, eval a X.env) :: starEach [] X.env := by rfl) : PE X (.Call (.Name "len" p) [.Call (.Name "set" p2) [a] [] q] [] pos) (tLenSetS X.K ta) := by
  refine ⟨fun pins s σ H Q I h => ?_⟩
  refine Call_ (ld_blt I hg hm boot_len ?_)
  refine PyProof.Rows.callWith_builtin1 (PyProof.Rows.args_cons ?_ rfl) rfl rfl
  refine Call_ (ld_blt I hg2 hm2 boot_set ?_)
  refine PyProof.Rows.callWith_type1 (PyProof.Rows.args_cons (thn (ha.run pins s σ H _ I h) fun v s1 ⟨x, H1, I1, r1, q1⟩ => PyProof.Rows.args_nil ?_) na) na rfl
  obtain ⟨l, xs, rfl, hq, hl, q1⟩ := q1
  cases r1
  have src : ∃ (T : String) (its : List Value), (T = "list" ∨ T = "tuple") ∧ Vals (xs.map V.str) its ∧ ∃ o n, s1.heap.get? l = some o ∧ o.cls = .type T ∧ o.data = .seq its.toArray n := by
    rcases hq with hq | hq
    · obtain ⟨its, r, pl, hz⟩ := I1.list hq
      obtain ⟨o, ho, hc', n, hd⟩ := pl.isList
      exact ⟨"list", its, .inl rfl, r, o, n, ho, hc', hd⟩
    · obtain ⟨its, r, pl, hz⟩ := I1.tuple hq
      obtain ⟨o, ho, hc', n, hd⟩ := id pl
      exact ⟨"tuple", its, .inr rfl, r, o, n, ho, hc', hd⟩
  obtain ⟨T, its, hT, r, hob⟩ := src
  have hlen : its.toArray.size = xs.length := by rw [List.size_toArray, ← r.length, List.length_map]
  refine call_set_strs hT (I1.ok.hd hc) hob (by simpa using r) (by rw [hlen]; unfold scanBound; omega) fun h' tk hS hk => ?_
  refine PyProof.Rows.args_nil ?_
  rw [hlen] at hS
  obtain ⟨o, es, ep, t, ho, hex, hd, _, _, _, hf, hn⟩ := hS
  have I2 : Inv X pins σ H1 { s1 with heap := h', toks := tk } := I1.kept fun b o e => hk b o (Heap.lt_size e) e
  have hle := metK_len_le (keyAt xs) xs.length
  exact call_len_set ho hex hd hf (by rw [hn]; omega) ⟨.int (ndiff xs : Nat), H1, I2.tok _, ⟨_, by rw [hn]; rfl⟩, q1⟩
/-! ### enumerate(tuple) -/
theorem meets_enumerate_newT (l : Addr) (items : Array Value) (n : Nat) (dct : Option Addr) (sl : Array (Option Value)) :
    Meets (Builtin.«enumerate.__new__» ⟨[.type "enumerate", .ref l], []⟩) (fun _ R s => s.heap.get? l = some { cls := .type "tuple", dict := dct, data := .seq items n, slots := sl } ∧
      R (.ok (.ret (.ref (s.heap.push { cls := .type "tuple_iterator", data := .fields #[.ref l, .int 0 0] }).objs.size)))
        { s with heap := (s.heap.push { cls := .type "tuple_iterator", data := .fields #[.ref l, .int 0 0] }).push { cls := .type "enumerate", data := .fields #[.none, .bool false, .ref s.heap.objs.size, rawInt 0, .none, .none] } }) :=
  .of_wp fun prog w A R s h => by
    obtain ⟨hp, g, d, tk, os⟩ := s; obtain ⟨hl, h⟩ := h
    have hsub := sub_enumerate
    have hL : Heap.IsTuple (Shared.heap ⟨hp, g, d, tk, os⟩) l items := ⟨_, hl, rfl, n, rfl⟩
    wp_walk using AutoSeq1.wpAny_loadPart' hl
    refine wpAny_stack_any fun st => wpAny_pure ?_
    split
    · rename_i c _ _ _ _ _
      cases (c == Value.type "enumerate")
      · wp_walk using AutoSeq1.wpAny_loadPart' hl, wpAny_pyIter_tuple hL
        exact ⟨_, rfl, h⟩
      · wp_walk using AutoSeq1.wpAny_loadPart' hl, wpAny_pyIter_tuple hL
        exact ⟨_, rfl, h⟩
    · wp_walk using AutoSeq1.wpAny_loadPart' hl, wpAny_pyIter_tuple hL
      exact ⟨_, rfl, h⟩
section
variable {prog : Program} {w : World} {A : Around} {E : Value → Shared → Prop} {s : Shared}
theorem call_enumerate_tuple {l : Addr} {items : Array Value} {Q : Value → Shared → Prop} (hL : s.heap.IsTuple l items)
    (h : ∀ h', IsEnum h' (s.heap.objs.size + 1) s.heap.objs.size 0 .none → h'.IsTupleIter s.heap.objs.size l 0 → h'.objs.size = s.heap.objs.size + 2 →
      (∀ b o, s.heap.get? b = some o → h'.get? b = some o) → Q (.ref (s.heap.objs.size + 1)) { s with heap := h' }) :
    wpAny (model prog w) A (call (.type "enumerate") [.ref l]) Q E s := by
  obtain ⟨⟨c, dct, dt, sl⟩, hl, hc, n, hd⟩ := hL
  replace hc : c = .type "tuple" := hc
  replace hd : dt = .seq items n := hd
  subst hc hd
  refine callType_new F.called_enumerate (by decide) (F.typeCall_enumerate_1 _) (F.newCall_enumerate_1 _) (fun obj => F.args_object_init_2 obj _) F.entry_enumerate_new
    (meets_enumerate_newT l items n dct sl) ⟨hl, ?_⟩
  have hz : (s.heap.push { cls := .type "tuple_iterator", data := .fields #[.ref l, .int 0 0] }).objs.size = s.heap.objs.size + 1 := Heap.size_push ..
  show _ ∧ _
  rw [hz]
  have he : IsEnum ((s.heap.push { cls := .type "tuple_iterator", data := .fields #[.ref l, .int 0 0] }).push
      { cls := .type "enumerate", data := .fields #[.none, .bool false, .ref s.heap.objs.size, rawInt 0, .none, .none] }) (s.heap.objs.size + 1) s.heap.objs.size 0 .none := by
    have := Heap.get?_push_size (s.heap.push { cls := .type "tuple_iterator", data := .fields #[.ref l, .int 0 0] })
      (o := { cls := .type "enumerate", data := .fields #[.none, .bool false, .ref s.heap.objs.size, rawInt 0, .none, .none] }) rfl
    rw [hz] at this; exact this
  refine ⟨⟨_, he, rfl⟩, h _ he ⟨_, Heap.get?_push_of_some _ (Heap.get?_push_size _ rfl), rfl, rfl⟩ (by rw [Heap.size_push, hz]) fun b o x => Heap.get?_push_of_some _ (Heap.get?_push_of_some _ x)⟩
theorem pyNext_enumT_end {e it l : Addr} {i : Nat} {items : Array Value} {old : Value} {Q : Option Value → Shared → Prop} (hh : A.handled = none)
    (he : IsEnum s.heap e it i old) (hit : s.heap.IsTupleIter it l i) (hl : s.heap.IsTuple l items) (hx : items[i]? = none)
    (hQ : ∀ h', Heap.ExtBut it s.heap h' → Q none { s with heap := h' }) : wpAny (model prog w) A (pyNext (.ref e)) Q E s := by
  have hT : s.TypeIs (.ref e) "enumerate" := ⟨_, he, rfl⟩
  unfold pyNext
  refine wpAny_bind (wpAny_attempt (wpAny_callSpecial?_slot (name := Str.ofString "__next__") hT F.slot_enumerate_next
    (wpAny_call_entry F.slot_enumerate_next hT F.entry_enumerate_next ?_ (F.args_enumerate_next_1 _))))
  show wpAny _ _ (field (.ref e) 2 >>= _) _ _ _
  refine wpAny_bind (wpAny_field he rfl (x := .ref it) rfl ?_)
  refine wpAny_bind (wpAny_nextOf_tuple_end hh hit hl hx fun h' x he' hx' => ?_)
  obtain ⟨o, ho, hc⟩ := hx'
  refine wpAny_bind (wpAny_isInstance (T := "StopIteration") (b := true) ⟨o, ho, hc⟩ isSubtype_stop ?_)
  exact wpAny_pure (hQ _ he')
end
/-- the tuple at a as it stands at each turn, each item in a new pair -/
def IteT (K : PySem.W.Frag) (a : Addr) : It :=
  ⟨fun i H => ∃ (xs : List V) (x : V), SqT K H a xs ∧ xs[i]? = some x, fun i H v H' => ∃ T x, v = .ref T ∧ H T = none ∧ H' = upd H T (.tup [.int (i : Nat), x]) ∧ ∀ xs, SqT K H a xs → xs[i]? = some x, fun i H => ∃ xs : List V, SqT K H a xs ∧ xs.length ≤ i⟩
theorem turn_enumT {P : Program} {w : World} {K : PySem.W.Frag} {elts : List Expr} {kk : Nat} {tpos : Pos} (a e it : Addr) (hne : a ≠ it) (hea : e ≠ a) :
    Turn P w K (.Tuple elts kk tpos) (IteT K a) [e, it] e (fun i h => (∃ old, IsEnum h e it ((i : Nat) : Int) old) ∧ h.IsTupleIter it a i ∧ e ≠ it) where
  mem := by simp
  obj := fun i h st b hb => by
    obtain ⟨⟨old, he⟩, ⟨o, ho, hc, hd⟩, _⟩ := st
    have e' : b = e ∨ b = it := by simpa using hb
    rcases e' with z | z
    · rw [z]; exact ⟨_, he, fun v q => nomatch q⟩
    · rw [z]; exact ⟨o, ho, fun v q => by rw [hd] at q; cases q⟩
  keep := fun i h h' st k => let ⟨⟨old, he⟩, hi, hne⟩ := st; ⟨⟨old, k e (by simp) _ he⟩, hi.at fun o q => k it (by simp) o q, hne⟩
  item := by
    intro X hP hw hK hc i pins s σ H E I hf st hg
    subst hP hw hK
    obtain ⟨⟨old, he⟩, hit, hei⟩ := st
    obtain ⟨xs, x, hq, hx⟩ := hg
    obtain ⟨its, rv, p, hz⟩ := I.tuple hq
    obtain ⟨u, hu, ru⟩ := rv.get hx
    have hel : e < s.heap.objs.size := Heap.lt_size he
    have hil : it < s.heap.objs.size := by obtain ⟨_, q, _⟩ := hit; exact Heap.lt_size q
    have hlt : i < its.toArray.size := by
      have := (List.getElem?_eq_some_iff.mp hu).1
      simpa using this
    refine wpAny_pyNext_enum_itemD (Draws.tuple (by have := I.ok.hd hc; simpa using this) it a hne its.toArray) he ⟨hit, (show s.heap.IsTuple a its.toArray from p)⟩ hlt hei (by simp; exact ⟨hei, hea⟩) fun u' h' tk hP' ho hst' hT hsz hk => ?_
    have eu : u' = u := by
      have h1 : its[i]? = some u' := by simpa using hP'
      rw [hu] at h1
      exact (Option.some.inj h1).symm
    subst eu
    refine ⟨_, rfl, wpAny_letOwnedTupleGo_enum (s := { s with heap := h', toks := tk + 1 }) ho fun h'' he' sb => ?_⟩
    have hT2 : h''.get? s.heap.objs.size = some { cls := .type "tuple", data := .seq #[.int i tk, u'] } := (sb.2 _ (Nat.ne_of_gt hel)).trans hT
    have new : ObjOk X.prog X.w (upd H s.heap.objs.size (.tup [.int (i : Nat), x])) h'' s.heap.objs.size (.tup [.int (i : Nat), x]) :=
      ⟨by show 2 ≤ sizeLine; decide, [.int i tk, u'], .cons ⟨_, rfl⟩ (.cons ru .nil), ⟨_, hT2, rfl, _, rfl⟩⟩
    have I1 : Inv X pins σ (upd H s.heap.objs.size (.tup [.int (i : Nat), x])) { s with heap := h'', toks := tk + 1 } :=
      I.turnedNew (ch := [e, it]) (fun b ob hb q => (sb.2 b (fun z => hb (by simp [z]))).trans (hk b ob (fun z => hb (by simp [z])) (fun z => hb (by simp [z])) q)) hf (Nat.le_refl _) new
    refine ⟨.ref s.heap.objs.size, _, I1, rfl, ⟨_, x, rfl, I.hok.fresh (Nat.le_refl _), rfl, fun ys hy => by rw [I.tuple_inj hy hq]; exact hx⟩, ⟨⟨u', ?_⟩, hst'.1.at fun o q => (sb.2 it (Ne.symm hei)).trans q, hei⟩, fun b hb => ?_⟩
    · have e1 : ((i + 1 : Nat) : Int) = (i : Int) + 1 := by omega
      rw [e1]; exact he'
    · have hb' : b < s.heap.objs.size := by
        have e' : b = e ∨ b = it := by simpa using hb
        rcases e' with z | z
        · rw [z]; exact hel
        · rw [z]; exact hil
      rw [upd_ne (Nat.ne_of_lt hb')]
      exact (hf b hb).1
  done := by
    intro X hP hw hK hc i pins s σ H E I hf st hg
    subst hP hw hK
    obtain ⟨⟨old, he⟩, hit, hei⟩ := st
    obtain ⟨xs, hq, hx⟩ := hg
    obtain ⟨its, rv, p, hz⟩ := I.tuple hq
    obtain ⟨f0, f1, f2, f3, f4, f5⟩ := hf it (by simp)
    have hl := rv.length
    exact pyNext_enumT_end (I.ok.hd hc) he hit (show s.heap.IsTuple a its.toArray from p) (by simp; omega) fun h' eb => ⟨rfl, I.turned (t' := s.toks) (fun b o hb q => eb b o hb q) f0 f1 f3 f4 f5⟩
  self := fun A i s Q E st h => let ⟨⟨_, he⟩, _⟩ := st; wpAny_pyIter_enum he h
def iEnumT (K : PySem.W.Frag) (ta : TA) : TI := fun σ H R => ta σ H fun vs H1 => ∃ a xs, vs = [.ref a] ∧ SqT K H1 a xs ∧ R (IteT K a) H1
theorem pi_enumT {X : Cx} {e : Expr} {ta : TA} {p pos tpos : Pos} {elts : List Expr} {kk : Nat} (hg : Gl X "enumerate") (hm : X.mg "enumerate" = none) (ha : PA X [e] ta) (hs : starEach [e] X.env = [(false, eval e X.env)] := by rfl) :
    PI X (.Tuple elts kk tpos) (.Call (.Name "enumerate" p) [e] [] pos) (iEnumT X.K ta) := by
  refine ⟨fun pins s σ H R I h => ?_⟩
  refine Call_ (ld_blt I hg hm boot_enumerate (PyProof.Rows.callWith_type1 (thn (ha.run pos pins s σ H _ I h) fun us s1 ⟨vs, H1, I1, r1, q1⟩ => ?_) hs rfl))
  obtain ⟨a, xs, ex, hq, q⟩ := q1
  subst ex
  cases r1 with
  | cons r rr =>
    cases rr
    cases r
    obtain ⟨its, rv, p', hz⟩ := I1.tuple hq
    obtain ⟨oa, hoa, _⟩ := id p'
    have hal : a < s1.heap.objs.size := Heap.lt_size hoa
    refine call_enumerate_tuple (show s1.heap.IsTuple a its.toArray from p') fun h' he hit hsz hk => wpAny_pyIter_enum he ?_
    have I2 : Inv X pins σ H1 { s1 with heap := h' } := I1.kept (t' := s1.toks) hk
    refine ⟨s1.heap.objs.size + 1, [s1.heap.objs.size + 1, s1.heap.objs.size], _, _, H1, rfl, I2, turn_enumT a (s1.heap.objs.size + 1) s1.heap.objs.size (Nat.ne_of_lt hal) (Nat.ne_of_gt (Nat.lt_succ_of_lt hal)), ⟨⟨.none, he⟩, hit, Nat.succ_ne_self _⟩, fun b hb => ?_, q⟩
    have e' : b = s1.heap.objs.size + 1 ∨ b = s1.heap.objs.size := by simpa using hb
    have hle : s1.heap.objs.size ≤ b := by
      rcases e' with z | z
      · rw [z]; exact Nat.le_add_right _ _
      · rw [z]; exact Nat.le_refl _
    exact I1.fpOk hle (I1.hok.fresh hle)
theorem walk_enumT {K : PySem.W.Frag} {a : Addr} {xs : List V} : Walk (IteT K a) xs.length (fun H => SqT K H a xs) (YPair (fun i => some (.int (i : Nat))) (fun i => xs[i]?)) := by
  refine ⟨fun i _ hi q => ⟨xs, xs[i], q, by simp [hi]⟩, fun _ q => ⟨xs, q, Nat.le_refl _⟩, fun i H v H' _ q y => ?_⟩
  obtain ⟨T, x, h1, h2, h3, h4⟩ := y
  exact ⟨T, .int (i : Nat), x, h1, h2, h3, rfl, h4 xs q⟩
theorem walk_zipT {K : PySem.W.Frag} {a b : Addr} {xs ys : List V} {n : Nat} (hn : n = min xs.length ys.length) : Walk (RZ.ItzT K a b) n (fun H => SqT K H a xs ∧ SqT K H b ys) (YPair (fun i => xs[i]?) (fun i => ys[i]?)) := by
  subst hn
  refine ⟨fun i _ hi q => ?_, fun _ q => ⟨xs, ys, q.1, q.2, by omega⟩, fun i H v H' _ q y => ?_⟩
  · have h1 : i < xs.length := by omega
    have h2 : i < ys.length := by omega
    exact ⟨xs, ys, xs[i], ys[i], q.1, q.2, by simp [h1], by simp [h2]⟩
  · obtain ⟨T, x, z, h1, h2, h3, h4, h5⟩ := y
    exact ⟨T, x, z, h1, h2, h3, h4 xs q.1, h5 ys q.2⟩
end L2
set_option Elab.async false
set_option linter.all false
set_option maxRecDepth 100000
set_option maxHeartbeats 4000000
/-! o.f = v as a target within a tuple target; a def of one's own by its name. -/
namespace L2
open PySem PySem.Spec PyProof.Rows JB
def gFld (K : PySem.W.Frag) (ta : TE) (f : Str) : TG := fun v σ H Q => ta σ H fun x H2 => ∃ a C dx fs, x = .ref a ∧ H2 a = some (.ins C dx fs) ∧ Cls K C ∧ NoAttr K C f ∧ fs.length < 1000 ∧ Q σ (upd H2 a (.ins C dx (putF f v fs)))
theorem pg_fld {X : Cx} {o : Expr} {ta : TE} {f : Str} {pos : Pos} (ho : PE X o ta) : PG X (.Attribute o f pos) (gFld X.K ta f) := by
  refine ⟨fun pins s σ H v u Q I r h => ?_⟩
  rw [assign_Attribute]
  refine wpAny_bind (wpAny_holding (thn (ho.run pins s σ H _ I h) fun ov s1 ⟨x, H1, I1, r1, a, C, dx, fs, ex, ea, c, n, l, q⟩ => ?_))
  subst ex
  obtain rfl : ov = Value.ref a := r1
  first
    | refine wpAny_bind (wpAny_standAt (wpAny_bind (wpAny_holding (setattr_ok I1 ea c n l r fun s2 I2 => ?_))))
      exact wpAny_release ⟨σ, _, I2, q⟩
    | refine wpAny_bind (wpAny_standAt (wpAny_holding (setattr_ok I1 ea c n l r fun s2 I2 => ?_)))
      exact ⟨σ, _, I2, q⟩
/-- the def of the module's name x keeps the promise sp -/
def Def (P : Program) (w : World) (K : PySem.W.Frag) (mg : Str → Option Value) (base : Heap) (k : Nat) (x : Str) (ps : List Str) (sp : Sp) : Prop :=
  ∃ f fd, FnOk P w K mg base CX0 k f fd ps sp ∧ mg x = some (.ref f) ∧ PySem.W.keepIn K (.ref f) = true ∧ Binds K fd ps []
theorem pe_own {X : Cx} {k j : Nat} {x : Str} {ps : List Str} {sp : Sp} {e : Expr} {es : List Expr} {t : TA} {p pos : Pos} (D : Def X.prog X.w X.K X.mg X.base k x ps sp) (hr : Room j X.A) (hk : k ≤ j) (ha : PA X (e :: es) t) (hg : Gl X x := by rfl)
    (hdb : (x == ("__debug__" : Str)) = false := by decide) (he : starEach (e :: es) X.env = (false, eval e X.env) :: starEach es X.env := by rfl) (hpl : (backTo pos (starEach es X.env)).any (·.1) = false := by rfl) : PE X (.Call (.Name x p) (e :: es) [] pos) (tCall sp [] E0 t) := by
  obtain ⟨f, fd, F, gm, kp, hb⟩ := D
  exact pe_call F (hr.mono hk) hg gm kp hb .nil pass0 ha (hdb := hdb) (he := he) (hpl := hpl)
theorem pe_own0 {X : Cx} {k j : Nat} {x : Str} {ps : List Str} {sp : Sp} {p pos : Pos} (D : Def X.prog X.w X.K X.mg X.base k x ps sp) (hr : Room j X.A) (hk : k ≤ j) (hg : Gl X x := by rfl) (hdb : (x == ("__debug__" : Str)) = false := by decide) : PE X (.Call (.Name x p) [] [] pos) (tCall sp [] E0 tNil) := by
  obtain ⟨f, fd, F, gm, kp, hb⟩ := D
  exact pe_call0 F (hr.mono hk) hg gm kp hb .nil pass0 (hdb := hdb)
theorem Def.mono {P : Program} {w : World} {K : PySem.W.Frag} {mg : Str → Option Value} {base : Heap} {j k : Nat} {x : Str} {ps : List Str} {sp : Sp} (D : Def P w K mg base j x ps sp) (h : j ≤ k) : Def P w K mg base k x ps sp := by
  obtain ⟨f, fd, F, r⟩ := D
  exact ⟨f, fd, F.mono h, r⟩
/-- the built-in names that no statement of the top binds -/
structure Free (mg : Str → Option Value) : Prop where
  len : mg "len" = none
  range : mg "range" = none
  tuple : mg "tuple" = none
  list : mg "list" = none
  dict : mg "dict" = none
  set : mg "set" = none
  sorted : mg "sorted" = none
  any : mg "any" = none
  all : mg "all" = none
  sum : mg "sum" = none
  min : mg "min" = none
  max : mg "max" = none
  abs : mg "abs" = none
  int : mg "int" = none
  isinstance : mg "isinstance" = none
  enumerate : mg "enumerate" = none
  zip : mg "zip" = none
  bool : mg "bool" = none
  str : mg "str" = none
theorem bt_tuple : bootBuiltins "tuple" = some (.type "tuple") := by decide +kernel
theorem bt_list : bootBuiltins "list" = some (.type "list") := by decide +kernel
theorem bt_dict : bootBuiltins "dict" = some (.type "dict") := by decide +kernel
theorem bt_int : bootBuiltins "int" = some (.type "int") := by decide +kernel
theorem bt_bool : bootBuiltins "bool" = some (.type "bool") := by decide +kernel
theorem bt_str : bootBuiltins "str" = some (.type "str") := by decide +kernel
theorem bt_len : bootBuiltins "len" = some (.builtin "len") := by decide +kernel
theorem bt_sorted : bootBuiltins "sorted" = some (.builtin "sorted") := by decide +kernel
theorem bt_any : bootBuiltins "any" = some (.builtin "any") := by decide +kernel
theorem bt_all : bootBuiltins "all" = some (.builtin "all") := by decide +kernel
theorem bt_sum : bootBuiltins "sum" = some (.builtin "sum") := by decide +kernel
theorem bt_min : bootBuiltins "min" = some (.builtin "min") := by decide +kernel
theorem bt_max : bootBuiltins "max" = some (.builtin "max") := by decide +kernel
theorem bt_abs : bootBuiltins "abs" = some (.builtin "abs") := by decide +kernel
theorem bt_isinstance : bootBuiltins "isinstance" = some (.builtin "isinstance") := by decide +kernel
end L2
set_option Elab.async false
set_option linter.all false
set_option maxRecDepth 100000
set_option maxHeartbeats 4000000
/-! The layer's rules with the written part K told outright (within a comprehension a reading must not lean on its block). -/
namespace L2
open PySem PySem.Spec PyProof.Rows JB
section
variable {X : Cx} (K : PySem.W.Frag)
theorem ix_tupK (h : X.K = K := by rfl) : IxR X (rIxT K) := by subst h; exact ix_tup
theorem ix_listK (h : X.K = K := by rfl) : IxR X (rIxL K) := by subst h; exact ix_list
theorem op_inK (h : X.K = K := by rfl) : OpR X (compareOp .In) (rIn K false) := by subst h; exact op_in_seq
theorem op_ninK (h : X.K = K := by rfl) : OpR X (compareOp .NotIn) (rIn K true) := by subst h; exact op_notIn_seq
def rLenS (K : PySem.W.Frag) : List V → Hp → VK → Prop := fun xs H Q => ∃ p ys, xs = [.ref p] ∧ (SqL K H p ys ∨ SqT K H p ys) ∧ Q (.int ys.length) H
theorem call_lenK (h : X.K = K := by rfl) : CallR X (.builtin "len") (rLenS K) := by subst h; exact call_len_seq
def rTupOf (K : PySem.W.Frag) : List V → Hp → VK → Prop := fun xs H Q => ∃ p ys, xs = [.ref p] ∧ ((SqL K H p ys ∧ ∀ l, H l = none → Q (.ref l) (upd H l (.tup ys))) ∨ (SqT K H p ys ∧ Q (.ref p) H))
theorem call_tupleK (h : X.K = K := by rfl) : CallR X (.type "tuple") (rTupOf K) := by subst h; exact call_tuple_of
def rLstOf (K : PySem.W.Frag) : List V → Hp → VK → Prop := fun xs H Q => ∃ p ys, xs = [.ref p] ∧ (SqL K H p ys ∨ SqT K H p ys) ∧ ∀ l, H l = none → Q (.ref l) (upd H l (.lst ys))
theorem call_listK (h : X.K = K := by rfl) : CallR X (.type "list") (rLstOf K) := by subst h; exact call_list_of
theorem cr_anyK (hc : X.calm = true) (h : X.K = K := by rfl) : CallR X (.builtin "any") (rAny K) := by subst h; exact cr_any hc
theorem cr_allK (hc : X.calm = true) (h : X.K = K := by rfl) : CallR X (.builtin "all") (rAll K) := by subst h; exact cr_all hc
theorem cr_sumK (hc : X.calm = true) (h : X.K = K := by rfl) : CallR X (.builtin "sum") (rSum K) := by subst h; exact cr_sum hc
theorem cr_minK_ (hc : X.calm = true) (h : X.K = K := by rfl) : CallR X (.builtin "min") (rMin K) := by subst h; exact cr_min hc
theorem op_eqDK (hu : X.A.units + 64 < cLine) (h : X.K = K := by rfl) : OpR X (compareOp .Eq) (rEqD K) := by subst h; exact op_eqD hu
theorem op_neDK (hu : X.A.units + 64 < cLine) (h : X.K = K := by rfl) : OpR X (compareOp .NotEq) (rNeD K) := by subst h; exact op_neD hu
theorem sl_listK (h : X.K = K := by rfl) : SlR X (rSlL K) := by subst h; exact sl_list
theorem sl_tupK (h : X.K = K := by rfl) : SlR X (rSlA K) := by subst h; exact sl_tupA
theorem op_catK (h : X.K = K := by rfl) : OpR X (binaryOp .Add) (rCatA K) := by subst h; exact op_catA
def rTupIx (K : PySem.W.Frag) : V → List V → Hp → VK → Prop := fun x xs H Q => ∃ p, ∃ ys : List Str, ∃ z j, x = .ref p ∧ xs = [.str z] ∧ SqT K H p (ys.map V.str) ∧ ys[j]? = some z ∧ (∀ m, m < j → ys[m]? ≠ some z) ∧ Q (.int (j : Nat)) H
theorem mt_tupIxK (h : X.K = K := by rfl) : MtR X "tuple.index" (rTupIx K) := by subst h; exact mt_tup_index
theorem call_isiK_ (h : X.K = K := by rfl) : CallR X (.builtin "isinstance") (rIsi K) := by subst h; exact call_isi
theorem call_isiTK (h : X.K = K := by rfl) : CallR X (.builtin "isinstance") (rIsiT K) := by subst h; exact call_isiT
theorem cr_sortedSK (h : X.K = K := by rfl) : CallR X (.builtin "sorted") (rSortedS K) := by subst h; exact cr_sortedS
theorem cr_sortedFK (h : X.K = K := by rfl) : CallR X (.builtin "sorted") (rSortedF K) := by subst h; exact cr_sortedF
theorem cr_sortedNK (hu : X.A.units + 64 < cLine) (h : X.K = K := by rfl) : CallR X (.builtin "sorted") (rSortedN K) := by subst h; exact cr_sortedN hu
theorem pi_tupK {tg l : Expr} {tl : TE} (hl : PE X l tl) (h : X.K = K := by rfl) : PI X tg l (iTup K tl) := by subst h; exact pi_tup hl
theorem pi_listK {tg l : Expr} {tl : TE} (hl : PE X l tl) (h : X.K = K := by rfl) : PI X tg l (iList K tl) := by subst h; exact pi_list hl
theorem pg_tupK {pos : Pos} {es : List Expr} {k : Nat} {t : TGs} {n : Nat} (hc : X.calm = true) (hp : PGs X es t)
    (hn : (assignEach es X.env).length = n := by rfl) (hst : (assignEach es X.env).findIdx? (·.1) = none := by rfl) (h : X.K = K := by rfl) : PG X (.Tuple es k pos) (gTup K n t) := by subst h; exact pg_tup hc hp hn hst
theorem pe_bmK {T name id : String} {r : V → List V → Hp → VK → Prop} {o e : Expr} {es : List Expr} {to : TE} {t : TA} {apos cpos : Pos} (pa : PlainAttrs T) (slot : Slot T name id) (hty : typeOf (.builtin id) = pure (.type "method_descriptor")) (hm : MtR X id r) (ho : PE X o to) (ha : PA X (e :: es) t)
    (hbase : attributeBase o name X.env (eval o X.env) = eval o X.env := by rfl)
    (hfew : ((backTo cpos (starEach (e :: es) X.env)).all (fun x => !x.1) && (backToKw cpos (keywordEach [] X.env)).all (fun x => x.1.isSome)
      && decide ((e :: es).length + ([] : List Keyword).length + (if ([] : List Keyword).isEmpty then 0 else 1) < 30)) = true := by rfl)
    (hline : (apos.endLine == cpos.line) = true := by rfl) (hs : starEach (e :: es) X.env = (false, eval e X.env) :: starEach es X.env := by rfl) (hplain : (backTo cpos (starEach es X.env)).any (·.1) = false := by rfl) (h : X.K = K := by rfl) :
    PE X (.Call (.Attribute o name apos) (e :: es) [] cpos) (tBM K T r to t) := by subst h; exact pe_bm pa slot hty hm ho ha hbase hfew hline hs hplain
theorem pe_bm0K_ {T name id : String} {r : V → List V → Hp → VK → Prop} {o : Expr} {to : TE} {apos cpos : Pos} (pa : PlainAttrs T) (slot : Slot T name id) (hty : typeOf (.builtin id) = pure (.type "method_descriptor")) (hm : MtR X id r) (ho : PE X o to)
    (hbase : attributeBase o name X.env (eval o X.env) = eval o X.env := by rfl) (hline : (apos.endLine == cpos.line) = true := by rfl) (h : X.K = K := by rfl) : PE X (.Call (.Attribute o name apos) [] [] cpos) (tBM0 K T r to) := by subst h; exact pe_bm0 pa slot hty hm ho hbase hline
theorem pe_orTK {a b : Expr} {rest : List Expr} {pos : Pos} {ta tb : TE} (ha : PE X a ta) (hb : PE X (.BoolOp .Or (b :: rest) pos) tb) (h : X.K = K := by rfl) : PE X (.BoolOp .Or (a :: b :: rest) pos) (tOrT K ta tb) := by subst h; exact pe_orT ha hb
theorem pi_enumK {e : Expr} {ta : TA} {p pos tpos : Pos} {elts : List Expr} {kk : Nat} (hg : Gl X "enumerate") (hm : X.mg "enumerate" = none) (ha : PA X [e] ta) (hs : starEach [e] X.env = [(false, eval e X.env)] := by rfl) (h : X.K = K := by rfl) :
    PI X (.Tuple elts kk tpos) (.Call (.Name "enumerate" p) [e] [] pos) (iEnum K ta) := by subst h; exact pi_enum hg hm ha hs
theorem pi_enumTK {e : Expr} {ta : TA} {p pos tpos : Pos} {elts : List Expr} {kk : Nat} (hg : Gl X "enumerate") (hm : X.mg "enumerate" = none) (ha : PA X [e] ta) (hs : starEach [e] X.env = [(false, eval e X.env)] := by rfl) (h : X.K = K := by rfl) :
    PI X (.Tuple elts kk tpos) (.Call (.Name "enumerate" p) [e] [] pos) (iEnumT K ta) := by subst h; exact pi_enumT hg hm ha hs
theorem pi_zipAK {e e2 : Expr} {ta : TA} {p pos tpos : Pos} {elts : List Expr} {kk : Nat} (hg : Gl X "zip") (hm : X.mg "zip" = none) (ha : PA X [e, e2] ta)
    (hs : starEach [e, e2] X.env = (false, eval e X.env) :: starEach [e2] X.env := by rfl) (hpl : (backTo pos (starEach [e2] X.env)).any (·.1) = false := by rfl) (h : X.K = K := by rfl) :
    PI X (.Tuple elts kk tpos) (.Call (.Name "zip" p) [e, e2] [] pos) (RZ.iZipA K ta) := by subst h; exact RZ.pi_zipA hg hm ha hs hpl
theorem pe_fldK {e : Expr} {f : Str} {pos : Pos} {ta : TE} (ha : PE X e ta) (hb : attributeBase e f X.env (eval e X.env) = eval e X.env := by rfl) (h : X.K = K := by rfl) : PE X (.Attribute e f pos) (tFld K ta f) := by subst h; exact pe_fld ha hb
theorem pg_fldK {o : Expr} {ta : TE} {f : Str} {pos : Pos} (ho : PE X o ta) (h : X.K = K := by rfl) : PG X (.Attribute o f pos) (gFld K ta f) := by subst h; exact pg_fld ho
theorem ps_fldK {o value : Expr} {f : Str} {pos pos' : Pos} {ta tv : TE} (ha : PE X o ta) (hv : PE X value tv) (hs : swapsWith value (some (.Attribute o f pos')) pos.line X.env = pure false) (h : X.K = K := by rfl) : PS X (.Assign [.Attribute o f pos'] value pos) (sFld K ta tv f) := by subst h; exact ps_fld ha hv hs
theorem pe_lenSetK {a : Expr} {ta : TE} {p p2 q pos : Pos} (hg : Gl X "len") (hm : X.mg "len" = none) (hg2 : Gl X "set") (hm2 : X.mg "set" = none) (ha : PE X a ta) (hc : X.calm = true := by rfl)
    (na : starEach [a] X.env = (false, eval a X.env) :: starEach [] X.env := by rfl) (h : X.K = K := by rfl) : PE X (.Call (.Name "len" p) [.Call (.Name "set" p2) [a] [] q] [] pos) (tLenSetS K ta) := by subst h; exact pe_lenSetS hg hm hg2 hm2 ha hc na
end

section
variable {X : Cx}
/-- name = {..} on one line, the name a local -/
theorem ps_setDc {i : Nat} {y : Str} {py : Pos} {kx vx tg iter : Expr} {ifs : List Expr} {scope : Scope} {own : List (Str × Nat)} {pos spos : Pos} {wi : TI} {g : TG} {tt : TT} {tk tv : TE} (hc : X.calm = true) (hN : X.N.Nodup) (hy : X.N[i]? = some y) (hyl : X.env.scope.names.lookup y = some .local)
    (hsw : swapsWith (.DictComp kx vx [⟨tg, iter, ifs, 0⟩] scope pos) (some (.Name y py)) spos.line X.env = pure true) (hi : PI X tg iter wi) (ok : BlkOk X.N X.env.scope scope own)
    (hg : ∀ (s : Shared) (H : Hp) (C : Addr) (cl : List (Str × Addr)) (fp : List Addr), PG (X.blk s H scope (compEnvC scope cl C X.env) fp) tg g) (ht : ∀ (s : Shared) (H : Hp) (C : Addr) (cl : List (Str × Addr)) (fp : List Addr), PTs (X.blk s H scope (compEnvC scope cl C X.env) fp) ifs tt)
    (hk : ∀ (s : Shared) (H : Hp) (C : Addr) (cl : List (Str × Addr)) (fp : List Addr), PE (X.blk s H scope (compEnvC scope cl C X.env) fp) kx tk)
    (he : ∀ (s : Shared) (H : Hp) (C : Addr) (cl : List (Str × Addr)) (fp : List Addr), PE (X.blk s H scope (compEnvC scope cl C X.env) fp) vx tv) (hs : ∀ x, foldedSetIterable iter X.env x = pure x := by intro _; rfl) :
    PS X (.Assign [.Name y py] (.DictComp kx vx [⟨tg, iter, ifs, 0⟩] scope pos) spos) (tAsg (tDc wi g tt tk tv (own.map (·.2))) (gName i)) := by
  refine ⟨fun pins s σ H D I h => ?_⟩
  rw [exec_Assign_Name_used _ _ _ _ hsw]
  refine wpAny_bind (wpAny_standAt (wpAny_bind ?_))
  show wpAny _ X.A (do let _ ← comprehension (.DictComp kx vx [⟨tg, iter, ifs, 0⟩] scope pos) scope X.env (firstIterPos [⟨tg, iter, ifs, 0⟩] pos) newDict false (eval iter X.env) (some (assign (.Name y py) X.env))) _ _ s
  have h : tDc wi g tt tk tv (own.map (·.2)) σ H (fun x H1 => gName i x σ H1 D.nx) := h
  refine wpAny_bind (thn (dc_core (Qf := fun _ s' => SP X pins D .next s') hc hN I hi ok hg ht hk he hs h fun L C s' m H' I' q hn f => ?_) fun _ s' hq => wpAny_pure (wpAny_pure hq))
  show wpAny _ _ (assign (.Name y py) X.env (.ref L)) _ _ _
  refine wpAny_assign_Name (store_ok2 (v := V.ref L) I' hN hy (.inl hyl) rfl (fun s2 I2 ⟨a, sb, ha⟩ => ?_) (.inr hyl))
  obtain ⟨f0, f1, f2, f3, f4, f5⟩ := f
  have haC : C ≠ a := by
    rcases ha with z | z
    · rw [z]; exact f1
    · exact fun e => f4 y a z e.symm
  refine ⟨m, hn.sameBut sb haC, fun h3 sb3 => ?_⟩
  exact ⟨_, H', I2.turned (t' := s2.toks) (fun b o hb e => (sb3.2 b hb).trans e) f0 f1 f3 f4 f5, q⟩
theorem sw_trueD {kx vx : Expr} {gs : List Comprehension} {scope : Scope} {pos py : Pos} {y : Str} {l : Nat} {env : Env} (hk : env.scope.kind = .function) (hy : env.scope.names.lookup y = some .local) (hl : (py.line == pos.line) = true)
    (ha : (scope.names.any fun (n, k) => n == y && (k == .local || k == .cell)) = false) : swapsWith (.DictComp kx vx gs scope pos) (some (.Name y py)) l env = pure true := by
  have ky : env.kindOf y = some .local := hy
  have hb : env.blockKind = .function := by unfold Env.blockKind; rw [hk]; rfl
  unfold swapsWith
  simp only [hb, ky, ha, Expr.pos, hl]
  rfl
end
/-- a statement whose ways meet behind it -/
def tCut (t u : TS) : TS := fun D σ H => ∃ Mid : L2.St → Hp → Prop, t { D with nx := Mid } σ H ∧ ∀ σ' H', Mid σ' H' → u D σ' H'
theorem pss_cut {X : Cx} {st : Stmt} {rest : List Stmt} {t u : TS} (h1 : PS X st t) (h2 : PSs X rest u) : PSs X (st :: rest) (tCut t u) := by
  refine ⟨fun pins s σ H D I h => ?_⟩
  obtain ⟨Mid, a, b⟩ := h
  refine wpAny_execs_cons (thn (h1.run pins s σ H { D with nx := Mid } I a) fun f s1 q => ?_)
  cases f with
  | next =>
    obtain ⟨σ', H', I', q'⟩ := q
    exact h2.run pins s1 σ' H' D I' (b σ' H' q')
  | _ => exact q
end L2
set_option Elab.async false
set_option linter.all false
set_option maxRecDepth 100000
set_option maxHeartbeats 4000000
/-! t.index(x) of a tuple of one's own: made by tuple(list) and kept as it was made. -/
namespace L2
open PySem PySem.Spec PyProof.Rows JB
/-- tuple(list), the new object pinned -/
def rTupZ (K : PySem.W.Frag) : List V → Hp → VK → Prop := fun xs H Q => ∃ p ys, xs = [.ref p] ∧ SqL K H p ys ∧ ∀ (l : Addr) (o : Obj), H l = none → o.cls = .type "tuple" → o.dict = none → Q (.ref l) (upd H l (.frz o (.tup ys)))
theorem call_tupleZ {X : Cx} : CallR X (.type "tuple") (rTupZ X.K) := by
  intro pins s σ H xs us Q I r h
  obtain ⟨p, ys, rfl, hq, q⟩ := h
  obtain ⟨u, rfl, rx⟩ := vals1 r
  cases rx
  obtain ⟨its, r', pl, hz⟩ := I.list hq
  have hlen := r'.length
  refine call_tuple_list pl.isList (fun h' kp => ?_) (by simp only [List.size_toArray] <;> omega)
  have I1 : Inv X pins σ H { s with heap := h' } := I.kept (t' := s.toks) kp
  have I2 : Inv X pins σ (upd H h'.objs.size (.frz { cls := .type "tuple", data := .seq its.toArray } (.tup ys))) { s with heap := h'.push { cls := .type "tuple", data := .seq its.toArray } } :=
    I1.laid (t' := s.toks) (fun b o e => Heap.get?_push_of_some _ e) (Nat.le_refl _) (show ObjOk X.prog X.w _ _ _ (.frz _ (.tup ys)) from ⟨Heap.get?_push_size _ rfl, hz, its, r', IsTup.new _ _⟩)
  exact ⟨.ref h'.objs.size, _, I2, rfl, q _ _ (I1.hok.fresh (Nat.le_refl _)) rfl rfl⟩
theorem call_tupleZK {X : Cx} (K : PySem.W.Frag) (h : X.K = K := by rfl) : CallR X (.type "tuple") (rTupZ K) := by subst h; exact call_tupleZ
/-- a tuple made so -/
def Zt (H : Hp) (p : Addr) (xs : List V) : Prop := ∃ o : Obj, H p = some (.frz o (.tup xs)) ∧ o.cls = .type "tuple" ∧ o.dict = none
theorem Zt.sq {K : PySem.W.Frag} {H : Hp} {p : Addr} {xs : List V} (h : Zt H p xs) : SqT K H p xs := by
  obtain ⟨o, h, _⟩ := h
  exact .inl (.inr ⟨o, h⟩)
def tBMZ (r : V → List V → Hp → VK → Prop) (to : TE) (t : TA) : TE := fun σ H Q => to σ H fun x H1 => (∃ p xs, x = .ref p ∧ Zt H1 p xs) ∧ t σ H1 fun xs H2 => r x xs H2 Q
theorem pe_bmZ {X : Cx} {name id : String} {r : V → List V → Hp → VK → Prop} {o e : Expr} {es : List Expr} {to : TE} {t : TA} {apos cpos : Pos} (pa : PlainAttrs "tuple") (slot : Slot "tuple" name id) (hty : typeOf (.builtin id) = pure (.type "method_descriptor")) (hm : MtR X id r) (ho : PE X o to) (ha : PA X (e :: es) t)
    (hbase : attributeBase o name X.env (eval o X.env) = eval o X.env := by rfl)
    (hfew : ((backTo cpos (starEach (e :: es) X.env)).all (fun x => !x.1) && (backToKw cpos (keywordEach [] X.env)).all (fun x => x.1.isSome)
      && decide ((e :: es).length + ([] : List Keyword).length + (if ([] : List Keyword).isEmpty then 0 else 1) < 30)) = true := by rfl)
    (hline : (apos.endLine == cpos.line) = true := by rfl) (hs : starEach (e :: es) X.env = (false, eval e X.env) :: starEach es X.env := by rfl) (hplain : (backTo cpos (starEach es X.env)).any (·.1) = false := by rfl) :
    PE X (.Call (.Attribute o name apos) (e :: es) [] cpos) (tBMZ r to t) := by
  refine ⟨fun pins s σ H Q I h => ?_⟩
  refine wpAny_Call_method_late hbase hfew hline rfl (thn (ho.run pins s σ H _ I h) fun v s1 ⟨x, H1, I1, r1, ty, q1⟩ => ?_)
  obtain ⟨p, xs0, rfl, ob, hp, hc, hd⟩ := ty
  have hg : s1.heap.get? p = some ob := (show ObjOk X.prog X.w H1 s1.heap p (.frz ob (.tup xs0)) from I1.hok p _ hp).1
  obtain rfl : v = Value.ref p := r1
  refine ⟨"tuple", id, pa, slot, hty, ⟨ob, hg, hc⟩, fun a e => ⟨ob, by cases e; exact hg, hd⟩, ?_⟩
  have hA := ha.run cpos pins s1 σ H1 _ I1 q1
  rw [hs] at hA ⊢
  refine Calls.callWith_builtin (by show (false || (backTo cpos (starEach es X.env)).any (·.1)) = false; rw [hplain] <;> rfl) (Calls.evalArgs_plain ?_)
  exact thn hA fun us s2 ⟨vs, H2, I2, r2, q2⟩ => hm pins s2 σ H2 (.ref p) vs _ us Q I2 rfl r2 q2
end L2
set_option Elab.async false
set_option linter.all false
set_option maxRecDepth 100000
set_option maxHeartbeats 4000000
/-! The text by places (printed by mk.py --text): each def, its slots. -/
namespace JL
open PySem PySem.Spec PyProof.Rows L2 JB
def topS (i : Nat) : Stmt := PySem.Challenge.pw_joinlags_k11_whole_other_names.main.body.getD i (.Pass ⟨0, 0, 0, 0⟩)
theorem units64 {k : Nat} {A : Around} (hr : Room k A) : A.units + 64 < cLine := hr.units
/-- the constants of the top -/
structure Cst (mg : Str → Option Value) : Prop where
  along : ∃ t, mg "ALONG" = some (.str "along" t)
  against : ∃ t, mg "AGAINST" = some (.str "against" t)
abbrev FnP (K : PySem.W.Frag) (x q : Str) (st : Stmt) (f : Addr) (fd : FuncData) : Prop := FunD K x q (defArgs st) (defBody st) (defScope st) [] [] f fd
abbrev s_plain : Stmt := topS 8
theorem sc_plain : FnScope ["matter", "part"] ["matter"] (defScope s_plain) := ⟨rfl, rfl, rfl, by decide +kernel, rfl, by decide +kernel, by decide +kernel⟩
theorem bd_plain {K : PySem.W.Frag} {f : Addr} {fd : FuncData} (F : FnP K "plain" "plain" s_plain f fd) : Binds K fd ["matter"] [] := FunD.bindsN F fun _ _ _ _ _ _ us hl => match us, hl with | [_], _ => rfl
abbrev s_reached : Stmt := topS 9
theorem sc_reached : FnScope ["net", "starts", "both", "found", "at", "part"] ["net", "starts", "both"] (defScope s_reached) := ⟨rfl, rfl, rfl, by decide +kernel, rfl, by decide +kernel, by decide +kernel⟩
theorem bd_reached {K : PySem.W.Frag} {f : Addr} {fd : FuncData} (F : FnP K "reached" "reached" s_reached f fd) : Binds K fd ["net", "starts", "both"] [] := FunD.bindsN F fun _ _ _ _ _ _ us hl => match us, hl with | [_, _, _], _ => rfl
abbrev s_groups : Stmt := topS 10
theorem sc_groups : FnScope ["net", "found", "worker", "group"] ["net"] (defScope s_groups) := ⟨rfl, rfl, rfl, by decide +kernel, rfl, by decide +kernel, by decide +kernel⟩
theorem bd_groups {K : PySem.W.Frag} {f : Addr} {fd : FuncData} (F : FnP K "groups" "groups" s_groups f fd) : Binds K fd ["net"] [] := FunD.bindsN F fun _ _ _ _ _ _ us hl => match us, hl with | [_], _ => rfl
abbrev s_idle : Stmt := topS 11
theorem sc_idle : FnScope ["net", "turning", "worker", "ends", "part"] ["net"] (defScope s_idle) := ⟨rfl, rfl, rfl, by decide +kernel, rfl, by decide +kernel, by decide +kernel⟩
theorem bd_idle {K : PySem.W.Frag} {f : Addr} {fd : FuncData} (F : FnP K "idle" "idle" s_idle f fd) : Binds K fd ["net"] [] := FunD.bindsN F fun _ _ _ _ _ _ us hl => match us, hl with | [_], _ => rfl
abbrev s_arcs : Stmt := topS 12
theorem sc_arcs : FnScope ["net", "found", "queue", "start", "end", "room", "notice"] ["net"] (defScope s_arcs) := ⟨rfl, rfl, rfl, by decide +kernel, rfl, by decide +kernel, by decide +kernel⟩
theorem bd_arcs {K : PySem.W.Frag} {f : Addr} {fd : FuncData} (F : FnP K "arcs" "arcs" s_arcs f fd) : Binds K fd ["net"] [] := FunD.bindsN F fun _ _ _ _ _ _ us hl => match us, hl with | [_], _ => rfl
abbrev s_steps_cost : Stmt := topS 13
theorem sc_steps_cost : FnScope ["net", "steps", "table", "total", "queue", "way", "part"] ["net", "steps"] (defScope s_steps_cost) := ⟨rfl, rfl, rfl, by decide +kernel, rfl, by decide +kernel, by decide +kernel⟩
theorem bd_steps_cost {K : PySem.W.Frag} {f : Addr} {fd : FuncData} (F : FnP K "steps_cost" "steps_cost" s_steps_cost f fd) : Binds K fd ["net", "steps"] [] := FunD.bindsN F fun _ _ _ _ _ _ us hl => match us, hl with | [_, _], _ => rfl
abbrev s_walked : Stmt := topS 14
theorem sc_walked : FnScope ["net", "start", "queues", "table", "steps", "stops", "place", "queue", "part"] ["net", "start", "queues"] (defScope s_walked) := ⟨rfl, rfl, rfl, by decide +kernel, rfl, by decide +kernel, by decide +kernel⟩
theorem bd_walked {K : PySem.W.Frag} {f : Addr} {fd : FuncData} (F : FnP K "walked" "walked" s_walked f fd) : Binds K fd ["net", "start", "queues"] [] := FunD.bindsN F fun _ _ _ _ _ _ us hl => match us, hl with | [_, _, _], _ => rfl
abbrev s_Way_init : Stmt := inClass (topS 15) 0
theorem sc_Way_init : FnScope ["self", "net", "start", "queues"] ["self", "net", "start", "queues"] (defScope s_Way_init) := ⟨rfl, rfl, rfl, by decide +kernel, rfl, by decide +kernel, by decide +kernel⟩
theorem bd_Way_init {K : PySem.W.Frag} {f : Addr} {fd : FuncData} (F : FnP K "__init__" "Way.__init__" s_Way_init f fd) : Binds K fd ["self", "net", "start", "queues"] [] := FunD.bindsN F fun _ _ _ _ _ _ us hl => match us, hl with | [_, _, _, _], _ => rfl
abbrev s_Way_cost : Stmt := inClass (topS 15) 3
theorem sc_Way_cost : FnScope ["self"] ["self"] (defScope s_Way_cost) := ⟨rfl, rfl, rfl, by decide +kernel, rfl, by decide +kernel, by decide +kernel⟩
theorem bd_Way_cost {K : PySem.W.Frag} {f : Addr} {fd : FuncData} (F : FnP K "cost" "Way.cost" s_Way_cost f fd) : Binds K fd ["self"] [] := FunD.bindsN F fun _ _ _ _ _ _ us hl => match us, hl with | [_], _ => rfl
abbrev s_Way_is_ring : Stmt := inClass (topS 15) 4
theorem sc_Way_is_ring : FnScope ["self", "names", "queue", "way"] ["self"] (defScope s_Way_is_ring) := ⟨rfl, rfl, rfl, by decide +kernel, rfl, by decide +kernel, by decide +kernel⟩
theorem bd_Way_is_ring {K : PySem.W.Frag} {f : Addr} {fd : FuncData} (F : FnP K "is_ring" "Way.is_ring" s_Way_is_ring f fd) : Binds K fd ["self"] [] := FunD.bindsN F fun _ _ _ _ _ _ us hl => match us, hl with | [_], _ => rfl
abbrev s_rings : Stmt := topS 16
theorem sc_rings : FnScope ["net", "found", "first", "rest", "at", "steps", "met", "queue", "start", "end", "room", "notice", "other", "step", "name", "way"] ["net"] (defScope s_rings) := ⟨rfl, rfl, rfl, by decide +kernel, rfl, by decide +kernel, by decide +kernel⟩
theorem bd_rings {K : PySem.W.Frag} {f : Addr} {fd : FuncData} (F : FnP K "rings" "rings" s_rings f fd) : Binds K fd ["net"] [] := FunD.bindsN F fun _ _ _ _ _ _ us hl => match us, hl with | [_], _ => rfl
abbrev s_slack : Stmt := topS 17
theorem sc_slack : FnScope ["net", "costs", "steps"] ["net"] (defScope s_slack) := ⟨rfl, rfl, rfl, by decide +kernel, rfl, by decide +kernel, by decide +kernel⟩
theorem bd_slack {K : PySem.W.Frag} {f : Addr} {fd : FuncData} (F : FnP K "slack" "slack" s_slack f fd) : Binds K fd ["net"] [] := FunD.bindsN F fun _ _ _ _ _ _ us hl => match us, hl with | [_], _ => rfl
abbrev s_lowered : Stmt := topS 19
theorem sc_lowered : FnScope ["net", "row", "needs", "turn", "worker", "other", "cost", "queue", "way", "value"] ["net", "row"] (defScope s_lowered) := ⟨rfl, rfl, rfl, by decide +kernel, rfl, by decide +kernel, by decide +kernel⟩
theorem bd_lowered {K : PySem.W.Frag} {f : Addr} {fd : FuncData} (F : FnP K "lowered" "lowered" s_lowered f fd) : Binds K fd ["net", "row"] [] := FunD.bindsN F fun _ _ _ _ _ _ us hl => match us, hl with | [_, _], _ => rfl
abbrev s_zeros : Stmt := topS 20
theorem sc_zeros : FnScope ["net", "found", "first", "needs", "worker", "other", "cost", "queue", "way"] ["net"] (defScope s_zeros) := ⟨rfl, rfl, rfl, by decide +kernel, rfl, by decide +kernel, by decide +kernel⟩
theorem bd_zeros {K : PySem.W.Frag} {f : Addr} {fd : FuncData} (F : FnP K "zeros" "zeros" s_zeros f fd) : Binds K fd ["net"] [] := FunD.bindsN F fun _ _ _ _ _ _ us hl => match us, hl with | [_], _ => rfl
abbrev s_earliest : Stmt := topS 21
theorem sc_earliest : FnScope ["net", "needs", "worker"] ["net"] (defScope s_earliest) := ⟨rfl, rfl, rfl, by decide +kernel, rfl, by decide +kernel, by decide +kernel⟩
theorem bd_earliest {K : PySem.W.Frag} {f : Addr} {fd : FuncData} (F : FnP K "earliest" "earliest" s_earliest f fd) : Binds K fd ["net"] [] := FunD.bindsN F fun _ _ _ _ _ _ us hl => match us, hl with | [_], _ => rfl
abbrev s_ring_at : Stmt := topS 23
theorem sc_ring_at : FnScope ["came", "worker", "at", "turn", "first", "steps"] ["came", "worker"] (defScope s_ring_at) := ⟨rfl, rfl, rfl, by decide +kernel, rfl, by decide +kernel, by decide +kernel⟩
theorem bd_ring_at {K : PySem.W.Frag} {f : Addr} {fd : FuncData} (F : FnP K "ring_at" "ring_at" s_ring_at f fd) : Binds K fd ["came", "worker"] [] := FunD.bindsN F fun _ _ _ _ _ _ us hl => match us, hl with | [_, _], _ => rfl
abbrev s_tried : Stmt := topS 24
theorem sc_tried : FnScope ["net", "parts", "found", "came", "last", "turn", "worker", "other", "cost", "queue", "way", "most"] ["net", "parts"] (defScope s_tried) := ⟨rfl, rfl, rfl, by decide +kernel, rfl, by decide +kernel, by decide +kernel⟩
theorem bd_tried {K : PySem.W.Frag} {f : Addr} {fd : FuncData} (F : FnP K "tried" "tried" s_tried f fd) : Binds K fd ["net", "parts"] [] := FunD.bindsN F fun _ _ _ _ _ _ us hl => match us, hl with | [_, _], _ => rfl
abbrev s_lags_in : Stmt := topS 25
theorem sc_lags_in : FnScope ["net", "parts"] ["net", "parts"] (defScope s_lags_in) := ⟨rfl, rfl, rfl, by decide +kernel, rfl, by decide +kernel, by decide +kernel⟩
theorem bd_lags_in {K : PySem.W.Frag} {f : Addr} {fd : FuncData} (F : FnP K "lags_in" "lags_in" s_lags_in f fd) : Binds K fd ["net", "parts"] [] := FunD.bindsN F fun _ _ _ _ _ _ us hl => match us, hl with | [_, _], _ => rfl
abbrev s_lags : Stmt := topS 26
theorem sc_lags : FnScope ["net"] ["net"] (defScope s_lags) := ⟨rfl, rfl, rfl, by decide +kernel, rfl, by decide +kernel, by decide +kernel⟩
theorem bd_lags {K : PySem.W.Frag} {f : Addr} {fd : FuncData} (F : FnP K "lags" "lags" s_lags f fd) : Binds K fd ["net"] [] := FunD.bindsN F fun _ _ _ _ _ _ us hl => match us, hl with | [_], _ => rfl
abbrev s_never_held : Stmt := topS 27
theorem sc_never_held : FnScope ["net"] ["net"] (defScope s_never_held) := ⟨rfl, rfl, rfl, by decide +kernel, rfl, by decide +kernel, by decide +kernel⟩
theorem bd_never_held {K : PySem.W.Frag} {f : Addr} {fd : FuncData} (F : FnP K "never_held" "never_held" s_never_held f fd) : Binds K fd ["net"] [] := FunD.bindsN F fun _ _ _ _ _ _ us hl => match us, hl with | [_], _ => rfl
abbrev s_price_of : Stmt := topS 28
theorem sc_price_of : FnScope ["net", "steps", "room", "part", "queue", "way"] ["net", "steps"] (defScope s_price_of) := ⟨rfl, rfl, rfl, by decide +kernel, rfl, by decide +kernel, by decide +kernel⟩
theorem bd_price_of {K : PySem.W.Frag} {f : Addr} {fd : FuncData} (F : FnP K "price_of" "price_of" s_price_of f fd) : Binds K fd ["net", "steps"] [] := FunD.bindsN F fun _ _ _ _ _ _ us hl => match us, hl with | [_, _], _ => rfl
abbrev s_cheapest_ring : Stmt := topS 29
theorem sc_cheapest_ring : FnScope ["net", "best", "steps"] ["net"] (defScope s_cheapest_ring) := ⟨rfl, rfl, rfl, by decide +kernel, rfl, by decide +kernel, by decide +kernel⟩
theorem bd_cheapest_ring {K : PySem.W.Frag} {f : Addr} {fd : FuncData} (F : FnP K "cheapest_ring" "cheapest_ring" s_cheapest_ring f fd) : Binds K fd ["net"] [] := FunD.bindsN F fun _ _ _ _ _ _ us hl => match us, hl with | [_], _ => rfl
abbrev s_fewest_drops : Stmt := topS 30
theorem sc_fewest_drops : FnScope ["net", "ring"] ["net"] (defScope s_fewest_drops) := ⟨rfl, rfl, rfl, by decide +kernel, rfl, by decide +kernel, by decide +kernel⟩
theorem bd_fewest_drops {K : PySem.W.Frag} {f : Addr} {fd : FuncData} (F : FnP K "fewest_drops" "fewest_drops" s_fewest_drops f fd) : Binds K fd ["net"] [] := FunD.bindsN F fun _ _ _ _ _ _ us hl => match us, hl with | [_], _ => rfl
abbrev s__law_box : Stmt := topS 32
theorem sc__law_box : FnScope ["_law_script", "_law_k", "_law_cell"] ["_law_script", "_law_k"] (defScope s__law_box) := ⟨rfl, rfl, rfl, by decide +kernel, rfl, by decide +kernel, by decide +kernel⟩
theorem bd__law_box {K : PySem.W.Frag} {f : Addr} {fd : FuncData} (F : FnP K "_law_box" "_law_box" s__law_box f fd) : Binds K fd ["_law_script", "_law_k"] [] := FunD.bindsN F fun _ _ _ _ _ _ us hl => match us, hl with | [_, _], _ => rfl
abbrev s__law_take : Stmt := topS 33
theorem sc__law_take : FnScope ["_law_box_here", "_law_below", "_law_drawn", "_law_once", "_law_far", "_law_twice"] ["_law_box_here", "_law_below"] (defScope s__law_take) := ⟨rfl, rfl, rfl, by decide +kernel, rfl, by decide +kernel, by decide +kernel⟩
theorem bd__law_take {K : PySem.W.Frag} {f : Addr} {fd : FuncData} (F : FnP K "_law_take" "_law_take" s__law_take f fd) : Binds K fd ["_law_box_here", "_law_below"] [] := FunD.bindsN F fun _ _ _ _ _ _ us hl => match us, hl with | [_, _], _ => rfl
abbrev s__law_cells : Stmt := topS 34
theorem sc__law_cells : FnScope ["_law_script", "_law_most", "_law_cells_here", "_law_k", "_law_cell", "_law_at_so"] ["_law_script", "_law_most"] (defScope s__law_cells) := ⟨rfl, rfl, rfl, by decide +kernel, rfl, by decide +kernel, by decide +kernel⟩
theorem bd__law_cells {K : PySem.W.Frag} {f : Addr} {fd : FuncData} (F : FnP K "_law_cells" "_law_cells" s__law_cells f fd) : Binds K fd ["_law_script", "_law_most"] [] := FunD.bindsN F fun _ _ _ _ _ _ us hl => match us, hl with | [_, _], _ => rfl
abbrev s__law_of : Stmt := topS 35
theorem sc__law_of : FnScope ["_law_box_here", "_law_some"] ["_law_box_here", "_law_some"] (defScope s__law_of) := ⟨rfl, rfl, rfl, by decide +kernel, rfl, by decide +kernel, by decide +kernel⟩
theorem bd__law_of {K : PySem.W.Frag} {f : Addr} {fd : FuncData} (F : FnP K "_law_of" "_law_of" s__law_of f fd) : Binds K fd ["_law_box_here", "_law_some"] [] := FunD.bindsN F fun _ _ _ _ _ _ us hl => match us, hl with | [_, _], _ => rfl
abbrev s__law_pick : Stmt := topS 36
theorem sc__law_pick : FnScope ["_law_box_here", "_law_pool", "_law_size_so", "_law_rest", "_law_some", "_law_turn"] ["_law_box_here", "_law_pool", "_law_size_so"] (defScope s__law_pick) := ⟨rfl, rfl, rfl, by decide +kernel, rfl, by decide +kernel, by decide +kernel⟩
theorem bd__law_pick {K : PySem.W.Frag} {f : Addr} {fd : FuncData} (F : FnP K "_law_pick" "_law_pick" s__law_pick f fd) : Binds K fd ["_law_box_here", "_law_pool", "_law_size_so"] [] := FunD.bindsN F fun _ _ _ _ _ _ us hl => match us, hl with | [_, _, _], _ => rfl
abbrev s__law_same : Stmt := topS 37
theorem sc__law_same : FnScope ["_law_got", "_law_due", "_law_mine", "_law_its"] ["_law_got", "_law_due"] (defScope s__law_same) := ⟨rfl, rfl, rfl, by decide +kernel, rfl, by decide +kernel, by decide +kernel⟩
theorem bd__law_same {K : PySem.W.Frag} {f : Addr} {fd : FuncData} (F : FnP K "_law_same" "_law_same" s__law_same f fd) : Binds K fd ["_law_got", "_law_due"] [] := FunD.bindsN F fun _ _ _ _ _ _ us hl => match us, hl with | [_, _], _ => rfl
abbrev s__law_web : Stmt := topS 38
theorem sc__law_web : FnScope ["_law_box_here", "_law_size_so", "_law_most", "_law_high", "_law_tags", "_law_marks", "_law_found", "_law_mark", "_law_one", "_law_two", "_law_space"] ["_law_box_here", "_law_size_so", "_law_most", "_law_high"] (defScope s__law_web) := ⟨rfl, rfl, rfl, by decide +kernel, rfl, by decide +kernel, by decide +kernel⟩
theorem bd__law_web {K : PySem.W.Frag} {f : Addr} {fd : FuncData} (F : FnP K "_law_web" "_law_web" s__law_web f fd) : Binds K fd ["_law_box_here", "_law_size_so", "_law_most", "_law_high"] [] := FunD.bindsN F fun _ _ _ _ _ _ us hl => match us, hl with | [_, _, _, _], _ => rfl
abbrev s__law_twin_web : Stmt := topS 39
theorem sc__law_twin_web : FnScope ["_law_box_here", "_law_high", "_law_size_so", "_law_tags", "_law_found", "_law_quiet", "_law_k", "_law_space", "_law_gap", "_law_least"] ["_law_box_here", "_law_high"] (defScope s__law_twin_web) := ⟨rfl, rfl, rfl, by decide +kernel, rfl, by decide +kernel, by decide +kernel⟩
theorem bd__law_twin_web {K : PySem.W.Frag} {f : Addr} {fd : FuncData} (F : FnP K "_law_twin_web" "_law_twin_web" s__law_twin_web f fd) : Binds K fd ["_law_box_here", "_law_high"] [] := FunD.bindsN F fun _ _ _ _ _ _ us hl => match us, hl with | [_, _], _ => rfl
abbrev s__law_renamed : Stmt := topS 40
theorem sc__law_renamed : FnScope ["_law_box_here", "_law_web_here", "_law_tags", "_law_marks", "_law_found", "_law_at_so", "_law_row"] ["_law_box_here", "_law_web_here"] (defScope s__law_renamed) := ⟨rfl, rfl, rfl, by decide +kernel, rfl, by decide +kernel, by decide +kernel⟩
theorem bd__law_renamed {K : PySem.W.Frag} {f : Addr} {fd : FuncData} (F : FnP K "_law_renamed" "_law_renamed" s__law_renamed f fd) : Binds K fd ["_law_box_here", "_law_web_here"] [] := FunD.bindsN F fun _ _ _ _ _ _ us hl => match us, hl with | [_, _], _ => rfl
abbrev s__law_led : Stmt := topS 41
theorem sc__law_led : FnScope ["_law_box_here", "_law_web_here", "_law_size_so", "_law_here", "_law_marks", "_law_first", "_law_turn", "_law_some", "_law_k", "_law_row"] ["_law_box_here", "_law_web_here", "_law_size_so"] (defScope s__law_led) := ⟨rfl, rfl, rfl, by decide +kernel, rfl, by decide +kernel, by decide +kernel⟩
theorem bd__law_led {K : PySem.W.Frag} {f : Addr} {fd : FuncData} (F : FnP K "_law_led" "_law_led" s__law_led f fd) : Binds K fd ["_law_box_here", "_law_web_here", "_law_size_so"] [] := FunD.bindsN F fun _ _ _ _ _ _ us hl => match us, hl with | [_, _, _], _ => rfl
abbrev s__law_hand_right : Stmt := topS 42
theorem sc__law_hand_right : FnScope ["_law_line", "_law_side", "_law_told"] [] (defScope s__law_hand_right) := ⟨rfl, rfl, rfl, by decide +kernel, rfl, by decide +kernel, by decide +kernel⟩
theorem bd__law_hand_right {K : PySem.W.Frag} {f : Addr} {fd : FuncData} (F : FnP K "_law_hand_right" "_law_hand_right" s__law_hand_right f fd) : Binds K fd [] [] := FunD.bindsN F fun _ _ _ _ _ _ us hl => match us, hl with | [], _ => rfl
abbrev s__law_right : Stmt := topS 43
theorem sc__law_right : FnScope ["_law_box_here", "_law_turn", "_law_web_here", "_law_other", "_law_tags", "_law_marks", "_law_due", "_law_told", "_law_ends_so", "_law_first", "_law_led_here", "_law_road", "_law_also", "_law_own", "_law_k", "_law_tag"] ["_law_box_here"] (defScope s__law_right) := ⟨rfl, rfl, rfl, by decide +kernel, rfl, by decide +kernel, by decide +kernel⟩
theorem bd__law_right {K : PySem.W.Frag} {f : Addr} {fd : FuncData} (F : FnP K "_law_right" "_law_right" s__law_right f fd) : Binds K fd ["_law_box_here"] [] := FunD.bindsN F fun _ _ _ _ _ _ us hl => match us, hl with | [_], _ => rfl
abbrev s_law : Stmt := topS 44
theorem sc_law : FnScope ["_law_script", "_law_cells_here", "_law_k"] ["_law_script"] (defScope s_law) := ⟨rfl, rfl, rfl, by decide +kernel, rfl, by decide +kernel, by decide +kernel⟩
theorem bd_law {K : PySem.W.Frag} {f : Addr} {fd : FuncData} (F : FnP K "law" "law" s_law f fd) : Binds K fd ["_law_script"] [] := FunD.bindsN F fun _ _ _ _ _ _ us hl => match us, hl with | [_], _ => rfl
end JL
set_option Elab.async false
set_option linter.all false
set_option maxRecDepth 100000
set_option maxHeartbeats 4000000
/-! How a net and its parts stand in the heap; short words for readings. -/
namespace JL
open PySem PySem.Spec PyProof.Rows L2 JB
/-- the order of texts -/
abbrev slt (x y : Str) : Prop := sLt x y = true
instance : DecidableRel slt := fun x y => inferInstanceAs (Decidable (sLt x y = true))
theorem slt_sto : JM.Sto slt := by
  refine ⟨fun x h => ?_, fun x y z h k => sLt_tot.tr x y z h k, fun x y => ?_⟩
  · have h' : sLt x x = true := h
    rw [sLt_tot.irr x] at h'
    cases h'
  · cases h : sLt x y with
    | true => exact Or.inl h
    | false =>
      cases k : sLt y x with
      | true => exact Or.inr (Or.inr k)
      | false => exact Or.inr (Or.inl (sLt_tot.tri x y h k))
theorem rising_pw : ∀ (p : Str) (l : List Str), risingS p l = true → (p :: l).Pairwise fun x y => ¬ slt y x
  | p, [], _ => List.pairwise_singleton _ _
  | p, x :: r, h => by
    have h' : (!ltCps x.cps.toList p.cps.toList && risingS x r) = true := h
    rw [Bool.and_eq_true, Bool.not_eq_true', ltCps_eq] at h'
    have ih := rising_pw x r h'.2
    refine List.pairwise_cons.mpr ⟨fun y hy => ?_, ih⟩
    have hx : ¬ slt x p := fun z => by
      have z' : decide (x.cps.toList < p.cps.toList) = true := z
      rw [h'.1] at z'
      cases z'
    rcases List.mem_cons.mp hy with e | hy
    · rw [e]
      exact hx
    · intro hyp
      have hyx := (List.pairwise_cons.mp ih).1 y hy
      rcases slt_sto.tri p x with k | k | k
      · exact hyx (slt_sto.tr _ _ _ hyp k)
      · rw [k] at hyp
        exact hyx hyp
      · exact hx k
theorem sortedS_pw {l : List Str} (h : sortedS l = true) : l.Pairwise fun x y => ¬ slt y x := by
  cases l with
  | nil => exact List.Pairwise.nil
  | cons p l => exact rising_pw p l h
/-- sorted, and no double: ascending -/
theorem sortedS_asc {l : List Str} (h : sortedS l = true) (n : l.Nodup) : l.Pairwise slt := JM.asc_of slt_sto (sortedS_pw h) n
/-! ### parts of a net in the heap -/
abbrev Rw := JM.Row Str
abbrev Rb := JM.RB Str
def rowV (r : Rw) : List V := [.str r.q, .str r.s, .str r.e, .int r.room, .int r.gap]
def RowAt (K : PySem.W.Frag) (H : Hp) (b : Addr) (r : Rw) : Prop := SqT K H b (rowV r)
/-- a net stands at a: its workers at aw, its queues at aq, row by row at bs -/
structure NetIn (K : PySem.W.Frag) (H : Hp) (a aw aq : Addr) (bs : List Addr) (ws : List Str) (qs : List Rw) : Prop where
  top : SqT K H a [.ref aw, .ref aq]
  wk : SqT K H aw (ws.map V.str)
  qu : SqT K H aq (bs.map V.ref)
  row : Paired (RowAt K H) bs qs
theorem Same.tup {K : PySem.W.Frag} {H H' : Hp} {a : Addr} {xs : List V} (e : Same H H') (h : SqT K H a xs) : SqT K H' a xs := by
  rcases h with (h | ⟨o, h⟩) | h
  · exact .inl (.inl (e _ _ h))
  · exact .inl (.inr ⟨o, e _ _ h⟩)
  · exact .inr h
theorem NetIn.same {K : PySem.W.Frag} {H H' : Hp} {a aw aq : Addr} {bs : List Addr} {ws : List Str} {qs : List Rw} (n : NetIn K H a aw aq bs ws qs) (e : Same H H') : NetIn K H' a aw aq bs ws qs :=
  ⟨Same.tup e n.top, Same.tup e n.wk, Same.tup e n.qu, Paired.mapP n.row fun _ _ h => Same.tup e h⟩
def NetAt (K : PySem.W.Frag) (H : Hp) (a : Addr) (ws : List Str) (qs : List Rw) : Prop := ∃ aw aq bs, NetIn K H a aw aq bs ws qs
theorem NetAt.same {K : PySem.W.Frag} {H H' : Hp} {a : Addr} {ws : List Str} {qs : List Rw} (n : NetAt K H a ws qs) (e : Same H H') : NetAt K H' a ws qs := by
  obtain ⟨aw, aq, bs, n⟩ := n
  exact ⟨aw, aq, bs, n.same e⟩
/-- a net of the law's sizes -/
structure NetOk (ws : List Str) (qs : List Rw) : Prop where
  net : JM.Net slt ws qs
  w5 : ws.length ≤ 5
  q7 : qs.length ≤ 7
  w1 : 1 ≤ ws.length
theorem paired_get {α β : Type} {F : α → β → Prop} : ∀ {l : List α} {m : List β} {i : Nat} {x : α}, Paired F l m → l[i]? = some x → ∃ y, m[i]? = some y ∧ F x y
  | _, _, _, _, .nil, e => by simp at e
  | _, _, 0, _, .cons r _, e => by simp at e; subst e; exact ⟨_, rfl, r⟩
  | _, _, i + 1, x, .cons _ t, e => by
    obtain ⟨y, h1, h2⟩ := paired_get (i := i) (x := x) t (by simpa using e)
    exact ⟨y, by simpa using h1, h2⟩
/-- the i-th queue of the walked tuple -/
theorem NetIn.at {K : PySem.W.Frag} {H : Hp} {a aw aq : Addr} {bs : List Addr} {ws : List Str} {qs : List Rw} (n : NetIn K H a aw aq bs ws qs) {i : Nat} {x : V} (h : (bs.map V.ref)[i]? = some x) : ∃ b r, x = .ref b ∧ qs[i]? = some r ∧ RowAt K H b r := by
  rw [List.getElem?_map] at h
  cases e : bs[i]? with
  | none =>
    rw [e] at h
    cases h
  | some b =>
    rw [e] at h
    obtain ⟨r, hr, q⟩ := paired_get n.row e
    exact ⟨b, r, (Option.some.inj h).symm, hr, q⟩
theorem NetIn.len {K : PySem.W.Frag} {H : Hp} {a aw aq : Addr} {bs : List Addr} {ws : List Str} {qs : List Rw} (n : NetIn K H a aw aq bs ws qs) : (bs.map V.ref).length = qs.length := by
  rw [List.length_map]
  exact Paired.length n.row
theorem str_at {xs : List Str} {i : Nat} {x : V} (h : (xs.map V.str)[i]? = some x) : ∃ w, xs[i]? = some w ∧ x = .str w := by
  rw [List.getElem?_map] at h
  cases e : xs[i]? with
  | none =>
    rw [e] at h
    cases h
  | some w =>
    rw [e] at h
    exact ⟨w, rfl, (Option.some.inj h).symm⟩
theorem take_next {α : Type} {l : List α} {i : Nat} {x : α} (h : l[i]? = some x) : l.take (i + 1) = l.take i ++ [x] := by
  rw [List.take_add_one, h]
  rfl
theorem mem_at {α : Type} {l : List α} {i : Nat} {x : α} (h : l[i]? = some x) : x ∈ l := List.mem_of_getElem? h
/-! ### flat items in lists of texts -/
theorem flat_strs (xs : List Str) : (xs.map V.str).all flatV = true := by
  rw [List.all_map, List.all_eq_true]
  intro _ _
  rfl
theorem inV_strs (x : Str) (xs : List Str) : inV (.str x) (xs.map V.str) = decide (x ∈ xs) := by
  unfold inV
  rw [List.any_map]
  cases h : xs.any ((fun y => eqV y (V.str x)) ∘ V.str) with
  | true =>
    obtain ⟨y, hy, e⟩ := List.any_eq_true.mp h
    have e' : (y == x) = true := e
    have : y = x := by simpa using e'
    rw [← this]
    exact (decide_eq_true hy).symm
  | false =>
    refine (decide_eq_false fun hx => ?_).symm
    have := List.any_eq_false.mp h x hx
    exact this (by show (x == x) = true; simp)
theorem same_new {H : Hp} {p : Addr} {o : HO} (h : H p = none) : Same H (upd H p o) := fun b x e => by
  rw [upd_ne (ne_of_none e h)]
  exact e
/-- what is changed stood not ahead -/
theorem same_mut {H H' : Hp} {p : Addr} {o : HO} (e : Same H H') (h : H p = none) : Same H (upd H' p o) := fun b x k => by
  rw [upd_ne (ne_of_none k h)]
  exact e b x k
theorem sqt {K : PySem.W.Frag} {H : Hp} {a : Addr} {xs : List V} (h : H a = some (.tup xs)) : SqT K H a xs := .inl (.inl h)
theorem sql {K : PySem.W.Frag} {H : Hp} {a : Addr} {xs : List V} (h : H a = some (.lst xs)) : SqL K H a xs := .inl (.inl h)
theorem sz {n : Nat} (h : n ≤ 4000000) : n ≤ sizeLine := Nat.le_trans h (by decide)
theorem szl {n : Nat} (h : n ≤ 4000000) : n < sizeLine := Nat.lt_of_le_of_lt h (by decide)
/-! ### readings, short -/
section
variable {K : PySem.W.Frag} {σ : L2.St} {H : Hp} {Q : VK} {i j k : Nat} {v w : V} {p : Addr} {xs : List V} {x y : Str}
theorem r_var (h : σ[i]? = some (some v)) (q : Q v H) : tVar i σ H Q := ⟨v, h, q⟩
/-- t[n] of a tuple in a slot -/
theorem r_ix {n : Int} (h : σ[i]? = some (some (.ref p))) (hp : SqT K H p xs) (ha : atI xs n = some v) (q : Q v H) : tOp (rIxT K) (tVar i) (tC (.int n)) σ H Q := ⟨_, h, p, xs, n, v, rfl, rfl, hp, ha, q⟩
/-- l[k] of lists in slots -/
theorem r_il (h : σ[i]? = some (some (.ref p))) (h2 : σ[j]? = some (some (.int (k : Nat)))) (hp : SqL K H p xs) (ha : xs[k]? = some v) (q : Q v H) : tOp (rIxL K) (tVar i) (tVar j) σ H Q := ⟨_, h, _, h2, p, xs, (k : Int), v, rfl, rfl, hp, atI_nat ha, q⟩
end
end JL
set_option Elab.async false
set_option linter.all false
set_option maxRecDepth 100000
set_option maxHeartbeats 4000000
/-! What stays in the heap; steps, arcs, dicts by texts. -/
namespace JL
open PySem PySem.Spec PyProof.Rows L2 JB
/-- every tuple stays -/
def TS_ (K : PySem.W.Frag) (H H' : Hp) : Prop := ∀ b xs, SqT K H b xs → SqT K H' b xs
theorem TS_.rfl {K : PySem.W.Frag} {H : Hp} : TS_ K H H := fun _ _ h => h
theorem TS_.trans {K : PySem.W.Frag} {H H' H'' : Hp} (h : TS_ K H H') (k : TS_ K H' H'') : TS_ K H H'' := fun b xs q => k b xs (h b xs q)
theorem TS_.of {K : PySem.W.Frag} {H H' : Hp} (h : Same H H') : TS_ K H H' := fun _ _ q => Same.tup h q
theorem TS_.new {K : PySem.W.Frag} {H : Hp} {p : Addr} {o : HO} (h : H p = none) : TS_ K H (upd H p o) := .of (same_new h)
theorem tup_ne {K : PySem.W.Frag} {H : Hp} {b f : Addr} {xs : List V} {o : HO} (h : SqT K H b xs) (n1 : ∀ ys, H f ≠ some (.tup ys)) (n2 : ∀ u ys, H f ≠ some (.frz u (.tup ys))) : SqT K (upd H f o) b xs := by
  rcases h with (h | ⟨u, h⟩) | h
  · exact .inl (.inl (by rw [upd_ne (fun e => by subst e; exact n1 xs h)]; exact h))
  · exact .inl (.inr ⟨u, by rw [upd_ne (fun e => by subst e; exact n2 u xs h)]; exact h⟩)
  · exact .inr h
theorem TS_.lst {K : PySem.W.Frag} {H : Hp} {f : Addr} {ys : List V} {o : HO} (hf : H f = some (.lst ys)) : TS_ K H (upd H f o) := fun b xs h => tup_ne h (fun _ e => by rw [hf] at e; cases e) (fun _ _ e => by rw [hf] at e; cases e)
theorem TS_.dk {K : PySem.W.Frag} {H : Hp} {f : Addr} {ys : List (Key × V)} {o : HO} (hf : H f = some (.dK ys)) : TS_ K H (upd H f o) := fun b xs h => tup_ne h (fun _ e => by rw [hf] at e; cases e) (fun _ _ e => by rw [hf] at e; cases e)
theorem Same.rfl {H : Hp} : Same H H := fun _ _ h => h
theorem Same.trans {H H' H'' : Hp} (h : Same H H') (k : Same H' H'') : Same H H'' := fun b o q => k b o (h b o q)
/-- a new object at p, the one at f stays -/
theorem new_keep {H : Hp} {p f : Addr} {o u : HO} (hp : H p = none) (hf : H f = some u) : upd H p o f = some u := by
  rw [upd_ne (ne_of_none hf hp)]
  exact hf
theorem same_free {H H' : Hp} {p : Addr} (h : Same H H') (hp : H' p = none) : H p = none := by
  cases e : H p with
  | none => rfl
  | some o =>
    rw [h p o e] at hp
    cases hp
theorem Same.new {H H' : Hp} {p : Addr} {o : HO} (h : Same H H') (hp : H' p = none) : Same H (upd H' p o) := h.trans (same_new hp)
theorem NetIn.ts {K : PySem.W.Frag} {H H' : Hp} {a aw aq : Addr} {bs : List Addr} {ws : List Str} {qs : List Rw} (n : NetIn K H a aw aq bs ws qs) (e : TS_ K H H') : NetIn K H' a aw aq bs ws qs :=
  ⟨e _ _ n.top, e _ _ n.wk, e _ _ n.qu, Paired.mapP n.row fun _ _ h => e _ _ h⟩
theorem NetAt.ts {K : PySem.W.Frag} {H H' : Hp} {a : Addr} {ws : List Str} {qs : List Rw} (n : NetAt K H a ws qs) (e : TS_ K H H') : NetAt K H' a ws qs := by
  obtain ⟨aw, aq, bs, n⟩ := n
  exact ⟨aw, aq, bs, n.ts e⟩
/-! ### steps and arcs -/
def wayS (b : Bool) : Str := if b = true then "along" else "against"
theorem wayS_inj {a b : Bool} (h : wayS a = wayS b) : a = b := by
  cases a <;> cases b <;> first | rfl | (exact absurd h (by decide))
theorem wayS_along {a : Bool} : wayS a = "along" ↔ a = true := by cases a <;> decide
def stepV (p : Rb) : List V := [.str p.1.q, .str (wayS p.2)]
def arcV (p : Rb) : List V := [.str (JM.src p), .str (JM.dst p), .int (JM.cst p), .str p.1.q, .str (wayS p.2)]
def StepAt (K : PySem.W.Frag) (H : Hp) (b : Addr) (p : Rb) : Prop := SqT K H b (stepV p)
def ArcAt (K : PySem.W.Frag) (H : Hp) (b : Addr) (p : Rb) : Prop := SqT K H b (arcV p)
/-- a tuple of steps at a -/
def StepsAt (K : PySem.W.Frag) (H : Hp) (a : Addr) (l : List Rb) : Prop := ∃ bs : List Addr, SqT K H a (bs.map V.ref) ∧ Paired (StepAt K H) bs l
theorem paired_ts {K : PySem.W.Frag} {H H' : Hp} {bs : List Addr} {l : List Rb} (h : Paired (StepAt K H) bs l) (e : TS_ K H H') : Paired (StepAt K H') bs l := Paired.mapP h fun _ _ q => e _ _ q
theorem parc_ts {K : PySem.W.Frag} {H H' : Hp} {bs : List Addr} {l : List Rb} (h : Paired (ArcAt K H) bs l) (e : TS_ K H H') : Paired (ArcAt K H') bs l := Paired.mapP h fun _ _ q => e _ _ q
theorem StepsAt.ts {K : PySem.W.Frag} {H H' : Hp} {a : Addr} {l : List Rb} (h : StepsAt K H a l) (e : TS_ K H H') : StepsAt K H' a l := by
  obtain ⟨bs, h1, h2⟩ := h
  exact ⟨bs, e _ _ h1, paired_ts h2 e⟩
/-- the i-th of a walked sequence of parts -/
theorem part_at {α : Type} {F : Addr → α → Prop} {bs : List Addr} {l : List α} {i : Nat} {x : V} (h : Paired F bs l) (hi : (bs.map V.ref)[i]? = some x) : ∃ b p, x = .ref b ∧ l[i]? = some p ∧ F b p := by
  rw [List.getElem?_map] at hi
  cases e : bs[i]? with
  | none =>
    rw [e] at hi
    cases hi
  | some b =>
    rw [e] at hi
    obtain ⟨r, hr, q⟩ := paired_get h e
    exact ⟨b, r, (Option.some.inj hi).symm, hr, q⟩
theorem part_len {α : Type} {F : Addr → α → Prop} {bs : List Addr} {l : List α} (h : Paired F bs l) : (bs.map V.ref).length = l.length := by
  rw [List.length_map]
  exact Paired.length h
theorem split_at {α : Type} {l : List α} {i : Nat} {x : α} (h : l[i]? = some x) : l = l.take i ++ x :: l.drop (i + 1) := by
  obtain ⟨hl, e⟩ := List.getElem?_eq_some_iff.mp h
  conv => lhs; rw [← List.take_append_drop i l]
  rw [List.drop_eq_getElem_cons hl, e]
theorem take_all {α : Type} {l : List α} {n : Nat} (h : n = l.length) : l.take n = l := by rw [h, List.take_length]
theorem arcs_take {qs : List Rw} {i : Nat} {r : Rw} (h : qs[i]? = some r) : JM.arcs (qs.take (i + 1)) = JM.arcs (qs.take i) ++ [(r, true), (r, false)] := by
  rw [take_next h]
  unfold JM.arcs
  rw [List.flatMap_append]
  rfl
theorem arcs_len {qs : List Rw} : (JM.arcs qs).length = 2 * qs.length := by
  induction qs with
  | nil => rfl
  | cons r t ih =>
    show (JM.arcs t).length + 1 + 1 = _
    rw [ih, List.length_cons]
    omega
/-! ### dicts by texts -/
/-- what the dict holds at a text -/
def dv (kvs : List (Key × V)) (x : Str) : Option V := valV kvs (.inr x)
theorem dv_nil {x : Str} : dv [] x = none := rfl
theorem dv_put {kvs : List (Key × V)} {x y : Str} {v : V} : dv (putK kvs (.inr x) v) y = if y = x then some v else dv kvs y := by
  unfold dv
  rw [valV_put]
  by_cases e : y = x
  · rw [if_pos (by rw [e]), if_pos e]
  · rw [if_neg (fun z => e (Sum.inr.inj z)), if_neg e]
theorem dv_same {kvs : List (Key × V)} {x : Str} {v : V} : dv (putK kvs (.inr x) v) x = some v := by rw [dv_put, if_pos rfl]
theorem dv_ne {kvs : List (Key × V)} {x y : Str} {v : V} (h : y ≠ x) : dv (putK kvs (.inr x) v) y = dv kvs y := by rw [dv_put, if_neg h]
theorem dget {H : Hp} {a : Addr} {kvs : List (Key × V)} {x : Str} {v : V} (e : H a = some (.dK kvs)) (h : dv kvs x = some v) : DGet H a (.str x) (some v) := by
  have := DGet.k (k := Sum.inr x) e
  unfold dv at h
  rw [h] at this
  exact this
theorem dget' {H : Hp} {a : Addr} {kvs : List (Key × V)} {x : Str} (e : H a = some (.dK kvs)) : DGet H a (.str x) (dv kvs x) := DGet.k (k := Sum.inr x) e
theorem dput {H : Hp} {a : Addr} {kvs : List (Key × V)} {x : Str} {v : V} (e : H a = some (.dK kvs)) (hl : kvs.length ≤ 4000000) : DPut H a (.str x) v (upd H a (.dK (putK kvs (.inr x) v))) := DPut.k (k := Sum.inr x) e (szl hl)
/-- a table of the rows by their names -/
theorem tab_next {bs : List Addr} {qs : List Rw} {kvs : List (Key × V)} {i : Nat} {r : Rw} {v : V} {f : Rw → Nat → V} (n : (qs.map (·.q)).Nodup) (hr : qs[i]? = some r) (hv : v = f r i)
    (h : ∀ j r', j < i → qs[j]? = some r' → dv kvs r'.q = some (f r' j)) : ∀ j r', j < i + 1 → qs[j]? = some r' → dv (putK kvs (.inr r.q) v) r'.q = some (f r' j) := fun j r' hj hr' => by
  by_cases e : j = i
  · subst e
    obtain rfl : r = r' := Option.some.inj (hr.symm.trans hr')
    rw [dv_same, hv]
  · rw [dv_ne]
    · exact h j r' (by omega) hr'
    · intro z
      have h1 : (qs.map (·.q))[j]? = some r.q := by rw [List.getElem?_map, hr', ← z]; rfl
      have h2 : (qs.map (·.q))[i]? = some r.q := by rw [List.getElem?_map, hr]; rfl
      obtain ⟨l1, e1⟩ := List.getElem?_eq_some_iff.mp h1
      obtain ⟨l2, e2⟩ := List.getElem?_eq_some_iff.mp h2
      exact e ((List.getElem_inj n).mp (e1.trans e2.symm))
/-! ### a test whose ways meet -/
def tMid (t : TT) : TT := fun σ H Q => ∃ Md : Bool → Hp → Prop, t σ H Md ∧ ∀ b H1, Md b H1 → Q b H1
theorem pt_mid {X : Cx} {e : Expr} {t : TT} (h : PT X e t) : PT X e (tMid t) := ⟨fun pins s σ H Q I q => by
  obtain ⟨Md, a, b⟩ := q
  exact thn (h.run pins s σ H Md I a) fun c s1 ⟨H1, I1, q⟩ => ⟨H1, I1, b _ _ q⟩⟩
def tMidE (t : TE) : TE := fun σ H Q => ∃ Md : V → Hp → Prop, t σ H Md ∧ ∀ b H1, Md b H1 → Q b H1
theorem pe_mid {X : Cx} {e : Expr} {t : TE} (h : PE X e t) : PE X e (tMidE t) := ⟨fun pins s σ H Q I q => by
  obtain ⟨Md, a, b⟩ := q
  exact thn (h.run pins s σ H Md I a) fun c s1 ⟨x, H1, I1, r, q⟩ => ⟨x, H1, I1, r, b _ _ q⟩⟩
/-! ### exact tuples -/
/-- every tuple of one's own stays -/
def TX (H H' : Hp) : Prop := ∀ b xs, H b = some (.tup xs) → H' b = some (.tup xs)
theorem TX.rfl {H : Hp} : TX H H := fun _ _ h => h
theorem TX.trans {H H' H'' : Hp} (h : TX H H') (k : TX H' H'') : TX H H'' := fun b xs q => k b xs (h b xs q)
theorem TX.of {H H' : Hp} (h : Same H H') : TX H H' := fun _ _ q => h _ _ q
theorem TX.new {H : Hp} {p : Addr} {o : HO} (h : H p = none) : TX H (upd H p o) := .of (same_new h)
theorem TX.lst {H : Hp} {f : Addr} {ys : List V} {o : HO} (hf : H f = some (.lst ys)) : TX H (upd H f o) := fun b xs h => by
  rw [upd_ne (fun e => by rw [e, hf] at h; cases h)]
  exact h
def StepX (H : Hp) (b : Addr) (p : Rb) : Prop := H b = some (.tup (stepV p))
def StepsX (H : Hp) (a : Addr) (l : List Rb) : Prop := ∃ bs : List Addr, H a = some (.tup (bs.map V.ref)) ∧ Paired (StepX H) bs l
theorem pstepx {H H' : Hp} {bs : List Addr} {l : List Rb} (h : Paired (StepX H) bs l) (e : TX H H') : Paired (StepX H') bs l := Paired.mapP h fun _ _ q => e _ _ q
theorem StepsX.tx {H H' : Hp} {a : Addr} {l : List Rb} (h : StepsX H a l) (e : TX H H') : StepsX H' a l := by
  obtain ⟨bs, h1, h2⟩ := h
  exact ⟨bs, e _ _ h1, pstepx h2 e⟩
theorem StepsX.at {K : PySem.W.Frag} {H : Hp} {a : Addr} {l : List Rb} (h : StepsX H a l) : StepsAt K H a l := by
  obtain ⟨bs, h1, h2⟩ := h
  exact ⟨bs, sqt h1, Paired.mapP h2 fun _ _ q => sqt q⟩
theorem paired_last {α β : Type} {F : α → β → Prop} : ∀ {l : List α} {t : α} {m : List β}, Paired F (l ++ [t]) m → ∃ m0 y, m = m0 ++ [y] ∧ Paired F l m0 ∧ F t y
  | [], _, _, h => by
    cases h with
    | cons r k =>
      cases k
      exact ⟨[], _, rfl, .nil, r⟩
  | _ :: l, _, _, h => by
    cases h with
    | cons r k =>
      obtain ⟨m0, y, e, h1, h2⟩ := paired_last (l := l) k
      exact ⟨_ :: m0, y, by rw [e]; rfl, .cons r h1, h2⟩
theorem paired_perm {α β : Type} {F : α → β → Prop} {l l' : List α} (p : l'.Perm l) : ∀ {m : List β}, Paired F l m → ∃ m', m'.Perm m ∧ Paired F l' m' := by
  induction p with
  | nil =>
    intro m h
    cases h
    exact ⟨[], .nil, .nil⟩
  | cons x _ ih =>
    intro m h
    cases h with
    | cons r k =>
      obtain ⟨m', p', h'⟩ := ih k
      exact ⟨_ :: m', p'.cons _, .cons r h'⟩
  | swap x y l =>
    intro m h
    cases h with
    | cons r k =>
      cases k with
      | cons r2 k2 => exact ⟨_, List.Perm.swap _ _ _, .cons r2 (.cons r k2)⟩
  | trans _ _ ih1 ih2 =>
    intro m h
    obtain ⟨m1, p1, h1⟩ := ih2 h
    obtain ⟨m2, p2, h2⟩ := ih1 h1
    exact ⟨m2, p2.trans p1, h2⟩
def unref : V → Addr
  | .ref a => a
  | _ => 0
/-- a list of references, in another order -/
theorem refs_perm {ys : List V} {bs : List Addr} (h : ys.Perm (bs.map V.ref)) : ∃ bs' : List Addr, ys = bs'.map V.ref ∧ bs'.Perm bs := by
  refine ⟨ys.map unref, ?_, ?_⟩
  · rw [List.map_map]
    conv => lhs; rw [← List.map_id ys]
    refine List.map_congr_left fun y hy => ?_
    obtain ⟨b, _, e⟩ := List.mem_map.mp (h.mem_iff.mp hy)
    rw [← e]
    rfl
  · have := h.map unref
    rw [List.map_map] at this
    have e : bs.map (unref ∘ V.ref) = bs := by
      conv => rhs; rw [← List.map_id bs]
      exact List.map_congr_left fun _ _ => rfl
    rw [e] at this
    exact this
end JL
set_option Elab.async false
set_option linter.all false
set_option maxRecDepth 100000
set_option maxHeartbeats 4000000
/-! reached -/
namespace JL
open PySem PySem.Spec PyProof.Rows L2 JB
/-- a queue leads from x to y (both: or the other way) -/
def Ed (qs : List Rw) (both : Bool) (x y : Str) : Prop := (∃ r ∈ qs, r.s = x ∧ r.e = y) ∨ (both = true ∧ ∃ r ∈ qs, r.e = x ∧ r.s = y)
def spReached (K : PySem.W.Frag) : Sp := fun vs H Q _ => ∃ (a l : Addr) (both : Bool) (ws : List Str) (qs : List Rw) (xs : List Str), vs = [.ref a, .ref l, .bl both] ∧ NetAt K H a ws qs ∧ NetOk ws qs ∧ SqL K H l (xs.map V.str) ∧ (∀ x ∈ xs, x ∈ ws) ∧ xs.length ≤ 10 ∧
  ∀ (H' : Hp) (p : Addr) (ys : List Str), Same H H' → H p = none → H' p = some (.lst (ys.map V.str)) → (∀ y, y ∈ ys ↔ JM.Reach (Ed qs both) (fun x => x ∈ xs) y) → (xs.Nodup → ys.Nodup) → ys.length ≤ 20 → (∀ y ∈ ys, y ∈ ws) → Q (.ref p) H'
/-- what holds between the turns: the first n workers found have given all that they lead to -/
structure RInv (ws : List Str) (qs : List Rw) (both : Bool) (xs : List Str) (n : Nat) (ys : List Str) : Prop where
  ex : ∃ zs, ys = xs ++ zs ∧ zs.Nodup ∧ (∀ z ∈ zs, z ∉ xs)
  sub : ∀ y ∈ ys, y ∈ ws ∧ JM.Reach (Ed qs both) (fun x => x ∈ xs) y
  done : ∀ i, i < n → ∀ x, ys[i]? = some x → ∀ z, Ed qs both x z → z ∈ ys
  le : n ≤ ys.length
/-- .. and of the next one the first m queues -/
def RRow (qs : List Rw) (both : Bool) (n m : Nat) (ys : List Str) : Prop := ∀ x, ys[n]? = some x → ∀ r ∈ qs.take m, (r.s = x → r.e ∈ ys) ∧ (both = true → r.e = x → r.s ∈ ys)
theorem RInv.len {ws : List Str} {qs : List Rw} {both : Bool} {xs ys : List Str} {n : Nat} (h : RInv ws qs both xs n ys) : ys.length ≤ xs.length + ws.length := by
  obtain ⟨zs, e, nz, _⟩ := h.ex
  have := JM.nodup_len nz (ws := ws) fun z hz => (h.sub z (by rw [e]; exact List.mem_append_right _ hz)).1
  rw [e, List.length_append]
  omega
theorem RInv.add {ws : List Str} {qs : List Rw} {both : Bool} {xs ys : List Str} {n : Nat} {x y : Str} (h : RInv ws qs both xs n ys) (hx : x ∈ ys) (he : Ed qs both x y) (hw : y ∈ ws) (hn : y ∉ ys) : RInv ws qs both xs n (ys ++ [y]) := by
  obtain ⟨zs, e, nz, dz⟩ := h.ex
  refine ⟨⟨zs ++ [y], by rw [e, List.append_assoc], ?_, ?_⟩, fun z hz => ?_, fun i hi u hu z hz => ?_, by rw [List.length_append]; have := h.le; omega⟩
  · refine List.nodup_append.mpr ⟨nz, by simp, fun a ha b hb q => hn ?_⟩
    rw [List.mem_singleton.mp hb] at q
    rw [← q, e]
    exact List.mem_append_right _ ha
  · intro z hz
    rcases List.mem_append.mp hz with k | k
    · exact dz z k
    · rw [List.mem_singleton.mp k]
      exact fun q => hn (by rw [e]; exact List.mem_append_left _ q)
  · rcases List.mem_append.mp hz with k | k
    · exact h.sub z k
    · rw [List.mem_singleton.mp k]
      exact ⟨hw, .step (h.sub x hx).2 he⟩
  · have hlt : i < ys.length := Nat.lt_of_lt_of_le hi h.le
    rw [List.getElem?_append_left hlt] at hu
    exact List.mem_append_left _ (h.done i hi u hu z hz)
theorem RRow.add {qs : List Rw} {both : Bool} {n m : Nat} {ys : List Str} {y : Str} (hn : n < ys.length) (h : RRow qs both n m ys) : RRow qs both n m (ys ++ [y]) := fun x hx r hr => by
  rw [List.getElem?_append_left hn] at hx
  obtain ⟨h1, h2⟩ := h x hx r hr
  exact ⟨fun e => List.mem_append_left _ (h1 e), fun b e => List.mem_append_left _ (h2 b e)⟩
section
variable {P : Program} {w : World} {K : PySem.W.Frag} {mg : Str → Option Value} {base : Heap}
theorem d_reached {f : Addr} {fd : FuncData} (F : FnP K "reached" "reached" s_reached f fd) (g : mg "reached" = some (.ref f)) (M : Free mg) : Def P w K mg base 1 "reached" ["net", "starts", "both"] (spReached K) := by
  refine ⟨f, fd, F.ok sc_reached (fun vs H Q E h => ?_) (fun cdv A outer s H vs Q E hr h => ?_), g, F.kp, bd_reached F⟩
  · obtain ⟨a, l, both, ws, qs, xs, rfl, _⟩ := h
    rfl
  · obtain ⟨a, l, both, ws, qs, xs, rfl, ⟨aw, aq, bs, N⟩, ok, hl, hxs, hx10, q⟩ := h
    have nd := sc_reached.nd
    have hu := hu_of hr
    refine ⟨_, PSs.nox (pss_cons (ps_set (i := 3) nd rfl (Or.inl rfl) (pe_callTy (call_listK K) rfl M.list bt_list (pa_cons (pv 1) pa_nil)))
 (pss_cons (ps_set (i := 4) nd rfl (Or.inl rfl) pe_int)
 (pss_cons (ps_while PassesOwn.never (pt_cmpR op_lt (pv 4) (pe_callB (call_lenK K) rfl M.len bt_len (pa_cons (pv 3) pa_nil)) (nomark _))
  (pss_cons (ps_for PassesOwn.never rfl (pi_tupK K (pe_ix (ix_tupK K) (pv 0) pe_int (fun _ _ => rfl))) (pg_name (i := 5) nd rfl (Or.inl rfl))
  (pss_cut (ps_if (PW.pt (pw_and (pt_cmpR op_eq (pe_ix (ix_tupK K) (pv 5) pe_int (fun _ _ => rfl)) (pe_ix (ix_listK K) (pv 3) (pv 4) (fun _ _ => rfl)) (nomark _)) (pw_and1 (pt_cmpR (op_ninK K) (pe_ix (ix_tupK K) (pv 5) pe_int (fun _ _ => rfl)) (pv 3) (by rfl)))))
  (pss_one (ps_expr (pe_bmK K PySem.F.plainAttrs_list PySem.F.slot_list_append PySem.F.type_list_append mt_append (pv 3) (pa_cons (pe_ix (ix_tupK K) (pv 5) pe_int (fun _ _ => rfl)) pa_nil))))
  pss_nil)
 (pss_one (ps_if (PW.pt (pw_and (pt_val (pv 2)) (pw_and (pt_cmpR op_eq (pe_ix (ix_tupK K) (pv 5) pe_int (fun _ _ => rfl)) (pe_ix (ix_listK K) (pv 3) (pv 4) (fun _ _ => rfl)) (nomark _)) (pw_and1 (pt_cmpR (op_ninK K) (pe_ix (ix_tupK K) (pv 5) pe_int (fun _ _ => rfl)) (pv 3) (by rfl))))))
  (pss_one (ps_expr (pe_bmK K PySem.F.plainAttrs_list PySem.F.slot_list_append PySem.F.type_list_append mt_append (pv 3) (pa_cons (pe_ix (ix_tupK K) (pv 5) pe_int (fun _ _ => rfl)) pa_nil))))
  pss_nil))))
 (pss_one (ps_aug (i := 4) nd rfl (Or.inl rfl) pe_int ip_add))))
 (pss_one (ps_ret (pv 3)))))), ?_⟩
    -- found = list(starts); at = 0
    refine ⟨.ref l, rfl, l, _, rfl, .inl hl, fun p np => ?_⟩
    show tSeq (tAsg (tC (.int 0)) (gName 4)) _ _ _ _
    refine ⟨fun m σ H' => ∃ (n : Nat) (ys : List Str) (v : Option V), σ = [some (.ref a), some (.ref l), some (.bl both), some (.ref p), some (.int (n : Nat)), v] ∧ Same H H' ∧ H' p = some (.lst (ys.map V.str)) ∧ RInv ws qs both xs n ys ∧ m + n = xs.length + ws.length,
      ⟨xs.length + ws.length, 0, xs, none, rfl, same_new np, upd_same, ⟨⟨[], by simp, by simp, by simp⟩, fun y hy => ⟨hxs y hy, .base hy⟩, fun i hi => by omega, Nat.zero_le _⟩, by omega⟩, ?_⟩
    rintro m σ H1 ⟨n, ys, v, rfl, sm, hp, R, hm⟩
    have hlen := R.len
    have N1 := N.same sm
    refine ⟨_, rfl, _, rfl, p, _, rfl, .inl (sql hp), _, _, rfl, rfl, _, rfl, ite2 (fun hc => ?_) (fun hc => ?_)⟩
    · have hn : n < ys.length := by
        have := of_decide_eq_true hc
        rw [List.length_map] at this
        omega
      have hxn : ys[n]? = some ys[n] := List.getElem?_eq_getElem hn
      generalize ys[n] = x at hxn
      refine ⟨fun σ' H' => ∃ (ys : List Str) (v : Option V), σ' = [some (.ref a), some (.ref l), some (.bl both), some (.ref p), some (.int ((n + 1 : Nat) : Int)), v] ∧ Same H H' ∧ H' p = some (.lst (ys.map V.str)) ∧ RInv ws qs both xs (n + 1) ys, ?_, ?_⟩
      · rintro σ' H' ⟨ys', v', rfl, sm', hp', R'⟩
        have := R'.len
        have := R'.le
        exact ⟨m - 1, by omega, n + 1, ys', v', rfl, sm', hp', R', by omega⟩
      · refine ⟨_, rfl, a, _, 1, _, rfl, rfl, N1.top, rfl, aq, rfl, ⟨_, N1.qu⟩, for_tup (K := K) (a := aq) (xs := bs.map V.ref) (fun i σ' H' => ∃ (ys : List Str) (v : Option V), σ' = [some (.ref a), some (.ref l), some (.bl both), some (.ref p), some (.int (n : Nat)), v] ∧ Same H H' ∧ H' p = some (.lst (ys.map V.str)) ∧ RInv ws qs both xs n ys ∧ ys[n]? = some x ∧ RRow qs both n i ys)
          ⟨ys, v, rfl, sm, hp, R, hxn, fun _ _ r hr => by simp at hr⟩ (fun i σ' H' _ ⟨_, _, _, s', _⟩ => (N.same s').qu) ?_ ?_⟩
        · clear hp R hxn N1 sm hlen hm hn hc
          rintro i y σ' H' hi ⟨ys, v, rfl, sm, hp, R, hxn, rr⟩
          obtain ⟨b, r, rfl, hri, hrow⟩ := (N.same sm).at hi
          have hrm : r ∈ qs := mem_at hri
          have hn : n < ys.length := (List.getElem?_eq_some_iff.mp hxn).1
          have hxv : (ys.map V.str)[n]? = some (.str x) := by rw [List.getElem?_map, hxn]; rfl
          have hl20 : ys.length ≤ 4000000 := by have := R.len; have := ok.w5; omega
          have hxm : x ∈ ys := mem_at hxn
          -- the first if
          refine ⟨fun σ2 H2 => ∃ (ys : List Str), σ2 = [some (.ref a), some (.ref l), some (.bl both), some (.ref p), some (.int (n : Nat)), some (.ref b)] ∧ Same H H2 ∧ H2 p = some (.lst (ys.map V.str)) ∧ RInv ws qs both xs n ys ∧ ys[n]? = some x ∧ RRow qs both n i ys ∧ (r.s = x → r.e ∈ ys), ?_, ?_⟩
          · refine ⟨_, rfl, b, _, 1, _, rfl, rfl, hrow, rfl, _, rfl, _, rfl, p, _, _, _, rfl, rfl, sql hp, atI_nat hxv, rfl, _, rfl, ite2 (fun h1 => ?_) (fun h1 => ?_)⟩
            · have e1 : r.s = x := V.str.inj (of_decide_eq_true h1)
              refine ⟨_, rfl, b, _, 2, _, rfl, rfl, hrow, rfl, _, rfl, p, _, rfl, .inl (sql hp), rfl, flat_strs _, _, rfl, ite2 (fun h2 => ?_) (fun h2 => ?_)⟩
              · have e2 : r.e ∉ ys := by
                  have h2' : (!inV (.str r.e) (ys.map V.str)) = true := h2
                  rw [inV_strs, Bool.not_eq_true'] at h2'
                  exact of_decide_eq_false h2'
                refine ⟨.ref p, rfl, .inl ⟨rfl, _, sql hp⟩, _, rfl, b, _, 2, _, rfl, rfl, hrow, rfl, p, _, _, rfl, rfl, hp, (by rw [List.length_map]; exact szl (by omega)), ys ++ [r.e], rfl, same_mut sm np, by rw [upd_same, List.map_append]; rfl, R.add hxm (.inl ⟨r, hrm, e1, rfl⟩) (ok.net.en r hrm) e2, ?_, rr.add hn, fun _ => by simp⟩
                rw [List.getElem?_append_left hn]
                exact hxn
              · have e2 : r.e ∈ ys := by
                  have h2' : ¬ (!inV (.str r.e) (ys.map V.str)) = true := h2
                  rw [inV_strs, Bool.not_eq_true', Bool.not_eq_false] at h2'
                  exact of_decide_eq_true h2'
                exact ⟨ys, rfl, sm, hp, R, hxn, rr, fun _ => e2⟩
            · have e1 : ¬ r.s = x := fun e => h1 (by rw [e]; exact decide_eq_true rfl)
              refine iteF ?_
              exact ⟨ys, rfl, sm, hp, R, hxn, rr, fun e => absurd e e1⟩
          · clear hp R hxn rr hl20 hxm hn hxv sm hrow
            rintro σ2 H2 ⟨ys, rfl, sm, hp, R, hxn, rr, hfst⟩
            obtain ⟨b', r', eb, hri', hrow⟩ := (N.same sm).at hi
            obtain rfl : b = b' := by injection eb
            obtain rfl : r = r' := Option.some.inj (hri.symm.trans hri')
            have hn : n < ys.length := (List.getElem?_eq_some_iff.mp hxn).1
            have hxv : (ys.map V.str)[n]? = some (.str x) := by rw [List.getElem?_map, hxn]; rfl
            have hl20 : ys.length ≤ 4000000 := by have := R.len; have := ok.w5; omega
            have hxm : x ∈ ys := mem_at hxn
            have fin : ∀ ys', RRow qs both n i ys' → (r.s = x → r.e ∈ ys') → (both = true → r.e = x → r.s ∈ ys') → ys'[n]? = some x → RRow qs both n (i + 1) ys' := fun ys' k1 k2 k3 k4 u hu r0 hr0 => by
              have eu : u = x := Option.some.inj (hu.symm.trans k4)
              rw [take_next hri] at hr0
              rcases List.mem_append.mp hr0 with k | k
              · exact k1 u hu r0 k
              · rw [List.mem_singleton.mp k, eu]
                exact ⟨k2, k3⟩
            refine ⟨_, rfl, _, rfl, ite2 (fun h0 => ?_) (fun h0 => ?_)⟩
            · refine ⟨_, rfl, b, _, 2, _, rfl, rfl, hrow, rfl, _, rfl, _, rfl, p, _, _, _, rfl, rfl, sql hp, atI_nat hxv, rfl, _, rfl, ite2 (fun h1 => ?_) (fun h1 => ?_)⟩
              · have e1 : r.e = x := V.str.inj (of_decide_eq_true h1)
                refine ⟨_, rfl, b, _, 1, _, rfl, rfl, hrow, rfl, _, rfl, p, _, rfl, .inl (sql hp), rfl, flat_strs _, _, rfl, ite2 (fun h2 => ?_) (fun h2 => ?_)⟩
                · have e2 : r.s ∉ ys := by
                    have h2' : (!inV (.str r.s) (ys.map V.str)) = true := h2
                    rw [inV_strs, Bool.not_eq_true'] at h2'
                    exact of_decide_eq_false h2'
                  have k4 : (ys ++ [r.s])[n]? = some x := by rw [List.getElem?_append_left hn]; exact hxn
                  exact ⟨.ref p, rfl, .inl ⟨rfl, _, sql hp⟩, _, rfl, b, _, 1, _, rfl, rfl, hrow, rfl, p, _, _, rfl, rfl, hp, (by rw [List.length_map]; exact szl (by omega)), ys ++ [r.s], some (.ref b), rfl, same_mut sm np, by rw [upd_same, List.map_append]; rfl, R.add hxm (.inr ⟨h0, r, hrm, e1, rfl⟩) (ok.net.st r hrm) e2, k4,
                    fin _ (rr.add hn) (fun e => List.mem_append_left _ (hfst e)) (fun _ _ => by simp) k4⟩
                · have e2 : r.s ∈ ys := by
                    have h2' : ¬ (!inV (.str r.s) (ys.map V.str)) = true := h2
                    rw [inV_strs, Bool.not_eq_true', Bool.not_eq_false] at h2'
                    exact of_decide_eq_true h2'
                  exact ⟨ys, _, rfl, sm, hp, R, hxn, fin _ rr hfst (fun _ _ => e2) hxn⟩
              · have e1 : ¬ r.e = x := fun e => h1 (by rw [e]; exact decide_eq_true rfl)
                refine iteF ?_
                exact ⟨ys, _, rfl, sm, hp, R, hxn, fin _ rr hfst (fun _ e => absurd e e1) hxn⟩
            · refine iteF ?_
              exact ⟨ys, _, rfl, sm, hp, R, hxn, fin _ rr hfst (fun e _ => absurd e h0) hxn⟩
        · rintro σ' H' ⟨ys', v', rfl, sm', hp', R', hx', rr⟩
          rw [N.len] at rr
          have rr2 : RRow qs both n qs.length ys' := rr
          have hn' : n < ys'.length := (List.getElem?_eq_some_iff.mp hx').1
          refine ⟨_, rfl, n, 1, rfl, rfl, ys', v', rfl, sm', hp', R'.ex, R'.sub, fun j hj u hu z hz => ?_, hn'⟩
          by_cases e : j < n
          · exact R'.done j e u hu z hz
          · have ej : j = n := by omega
            rw [ej] at hu
            rcases hz with ⟨r, hr, h1, h2⟩ | ⟨h0, r, hr, h1, h2⟩
            · have := (rr2 u hu r (by rw [List.take_length]; exact hr)).1 h1
              rw [← h2]
              exact this
            · have := (rr2 u hu r (by rw [List.take_length]; exact hr)).2 h0 h1
              rw [← h2]
              exact this
    · have hn : n = ys.length := by
        have h1 : ¬ (n : Int) < ((ys.map V.str).length : Int) := fun z => hc (decide_eq_true z)
        rw [List.length_map] at h1
        have := R.le
        omega
      obtain ⟨zs, ezs, nz, dz⟩ := R.ex
      refine ⟨_, rfl, q H1 p ys sm np hp (fun y => ⟨fun hy => (R.sub y hy).2, fun hy => ?_⟩) (fun nx => ?_) (by have := ok.w5; omega) fun y hy => (R.sub y hy).1⟩
      · refine JM.Reach.closed (P := fun y => y ∈ ys) (fun x hx => by rw [ezs]; exact List.mem_append_left _ hx) (fun x y hx e => ?_) hy
        obtain ⟨i, hi⟩ := List.mem_iff_getElem?.mp hx
        have hlt : i < ys.length := (List.getElem?_eq_some_iff.mp hi).1
        exact R.done i (by omega) x hi y e
      · rw [ezs]
        exact List.nodup_append.mpr ⟨nx, nz, fun a ha b hb e => dz b hb (e ▸ ha)⟩
end
end JL
set_option Elab.async false
set_option linter.all false
set_option maxRecDepth 100000
set_option maxHeartbeats 4000000
/-! arcs, steps_cost, price_of -/
namespace JL
open PySem PySem.Spec PyProof.Rows L2 JB
/-- a new list of arcs -/
def spArcs (K : PySem.W.Frag) : Sp := fun vs H Q _ => ∃ (a : Addr) (ws : List Str) (qs : List Rw), vs = [.ref a] ∧ NetAt K H a ws qs ∧ NetOk ws qs ∧
  ∀ (H' : Hp) (p : Addr) (bs : List Addr), Same H H' → H p = none → H' p = some (.lst (bs.map V.ref)) → Paired (ArcAt K H') bs (JM.arcs qs) → Q (.ref p) H'
def spStepsCost (K : PySem.W.Frag) : Sp := fun vs H Q _ => ∃ (a l : Addr) (ws : List Str) (qs : List Rw) (st : List Rb), vs = [.ref a, .ref l] ∧ NetAt K H a ws qs ∧ NetOk ws qs ∧ StepsAt K H l st ∧ (∀ p ∈ st, p.1 ∈ qs) ∧
  ∀ (H' : Hp), Same H H' → Q (.int (JM.cost st)) H'
def spPriceOf (K : PySem.W.Frag) : Sp := fun vs H Q _ => ∃ (a l : Addr) (ws : List Str) (qs : List Rw) (st : List Rb), vs = [.ref a, .ref l] ∧ NetAt K H a ws qs ∧ NetOk ws qs ∧ StepsAt K H l st ∧ (∀ p ∈ st, p.1 ∈ qs) ∧ st.length ≤ 100 ∧
  ∀ (H' : Hp), Same H H' → Q (.int (JM.price st)) H'
/-- the table of the rows: each row's name leads to what v tells of it -/
def Tab (qs : List Rw) (v : Rw → Nat → V) (i : Nat) (kvs : List (Key × V)) : Prop := kvs.length ≤ i ∧ ∀ j r, j < i → qs[j]? = some r → dv kvs r.q = some (v r j)
theorem Tab.nil {qs : List Rw} {v : Rw → Nat → V} : Tab qs v 0 [] := ⟨Nat.le_refl _, fun _ _ h => by omega⟩
theorem Tab.next {qs : List Rw} {v : Rw → Nat → V} {i : Nat} {kvs : List (Key × V)} {r : Rw} (n : (qs.map (·.q)).Nodup) (h : Tab qs v i kvs) (hr : qs[i]? = some r) : Tab qs v (i + 1) (putK kvs (.inr r.q) (v r i)) :=
  ⟨by have := length_putK kvs (.inr r.q) (v r i); have := h.1; omega, tab_next (bs := []) n hr rfl h.2⟩
theorem cost_take {l : List Rb} {i : Nat} {p : Rb} (h : l[i]? = some p) : JM.cost (l.take (i + 1)) = JM.cost (l.take i) + JM.cst p := by
  rw [take_next h]
  unfold JM.cost
  rw [List.map_append, List.sum_append]
  show _ + (JM.cst p + 0) = _
  omega
section
variable {P : Program} {w : World} {K : PySem.W.Frag} {mg : Str → Option Value} {base : Heap}
theorem d_arcs {f : Addr} {fd : FuncData} (F : FnP K "arcs" "arcs" s_arcs f fd) (g : mg "arcs" = some (.ref f)) (M : Free mg) (C : Cst mg) : Def P w K mg base 1 "arcs" ["net"] (spArcs K) := by
  refine ⟨f, fd, F.ok sc_arcs (fun vs H Q E h => ?_) (fun cdv A outer s H vs Q E hr h => ?_), g, F.kp, bd_arcs F⟩
  · obtain ⟨a, ws, qs, rfl, _⟩ := h
    rfl
  · obtain ⟨a, ws, qs, rfl, ⟨aw, aq, bs, N⟩, ok, q⟩ := h
    have nd := sc_arcs.nd
    have hu := hu_of hr
    refine ⟨_, PSs.nox (pss_cons (ps_set (i := 1) nd rfl (Or.inl rfl) (pe_lst pa_nil))
 (pss_cons (ps_for PassesOwn.never rfl (pi_tupK K (pe_ix (ix_tupK K) (pv 0) pe_int (fun _ _ => rfl))) (pg_tupK K (n := 5) rfl (pgs_cons (pg_name (i := 2) nd rfl (Or.inl rfl)) (pgs_cons (pg_name (i := 3) nd rfl (Or.inl rfl)) (pgs_cons (pg_name (i := 4) nd rfl (Or.inl rfl)) (pgs_cons (pg_name (i := 5) nd rfl (Or.inl rfl)) (pgs_cons (pg_name (i := 6) nd rfl (Or.inl rfl)) pgs_nil))))))
  (pss_cons (ps_expr (pe_bmK K PySem.F.plainAttrs_list PySem.F.slot_list_append PySem.F.type_list_append mt_append (pv 1) (pa_cons (pe_tup (pa_cons (pv 3) (pa_cons (pv 4) (pa_cons (pv 5) (pa_cons (pv 2) (pa_cons (pe_glob (v := .str "along") rfl C.along.choose_spec ⟨_, rfl⟩) pa_nil)))))) pa_nil)))
 (pss_one (ps_expr (pe_bmK K PySem.F.plainAttrs_list PySem.F.slot_list_append PySem.F.type_list_append mt_append (pv 1) (pa_cons (pe_tup (pa_cons (pv 4) (pa_cons (pv 3) (pa_cons (pe_op op_sub pe_int (pv 6)) (pa_cons (pv 2) (pa_cons (pe_glob (v := .str "against") rfl C.against.choose_spec ⟨_, rfl⟩) pa_nil)))))) pa_nil))))))
 (pss_one (ps_ret (pv 1))))), ?_⟩
    refine ⟨by decide, fun p np => ?_⟩
    have N1 := N.ts (TS_.new (o := .lst []) np)
    refine ⟨_, rfl, a, _, 1, _, rfl, rfl, N1.top, rfl, aq, rfl, ⟨_, N1.qu⟩, for_tup (K := K) (a := aq) (xs := bs.map V.ref) (fun i σ' H' => ∃ (cs : List Addr) (v1 v2 v3 v4 v5 : Option V), σ' = [some (.ref a), some (.ref p), v1, v2, v3, v4, v5] ∧ Same H H' ∧ H' p = some (.lst (cs.map V.ref)) ∧ Paired (ArcAt K H') cs (JM.arcs (qs.take i)))
      ⟨[], none, none, none, none, none, rfl, same_new np, upd_same, .nil⟩ (fun i σ' H' _ ⟨_, _, _, _, _, _, _, s', _⟩ => (N.same s').qu) ?_ ?_⟩
    · rintro i y σ' H' hi ⟨cs, v1, v2, v3, v4, v5, rfl, sm, hp, pr⟩
      obtain ⟨b, r, rfl, hri, hrow⟩ := (N.same sm).at hi
      have hl := Paired.length pr
      rw [arcs_len] at hl
      have hq := ok.q7
      have ht : (qs.take i).length ≤ 7 := by rw [List.length_take]; omega
      refine ⟨b, _, rfl, hrow, rfl, _, _, rfl, _, _, rfl, _, _, rfl, _, _, rfl, _, _, rfl, rfl, ?_⟩
      refine ⟨.ref p, rfl, .inl ⟨rfl, _, sql hp⟩, _, rfl, _, rfl, _, rfl, _, rfl, sz (by simp), fun t nt => ?_⟩
      refine ⟨p, _, _, rfl, rfl, new_keep nt hp, (by rw [List.length_map]; exact szl (by omega)), ?_⟩
      have s1 : Same H (upd H' t (.tup (arcV (r, true)))) := Same.new sm nt
      have e1 : upd (upd H' t (.tup (arcV (r, true)))) p (.lst (cs.map V.ref ++ [.ref t])) p = some (.lst ((cs ++ [t]).map V.ref)) := by rw [upd_same, List.map_append]; rfl
      have s2 : Same H (upd (upd H' t (.tup (arcV (r, true)))) p (.lst (cs.map V.ref ++ [.ref t]))) := same_mut s1 np
      have T2 : TS_ K H' (upd (upd H' t (.tup (arcV (r, true)))) p (.lst (cs.map V.ref ++ [.ref t]))) := (TS_.new nt).trans (TS_.lst (new_keep nt hp))
      have pr2 : Paired (ArcAt K (upd (upd H' t (.tup (arcV (r, true)))) p (.lst (cs.map V.ref ++ [.ref t])))) (cs ++ [t]) (JM.arcs (qs.take i) ++ [(r, true)]) := (parc_ts pr T2).snoc (TS_.lst (new_keep nt hp) _ _ (sqt upd_same))
      refine ⟨.ref p, rfl, .inl ⟨rfl, _, sql e1⟩, _, rfl, _, rfl, _, rfl, 1, r.gap, rfl, rfl, ?_⟩
      refine ⟨_, rfl, sz (by simp), fun u nu => ?_⟩
      refine ⟨p, _, _, rfl, rfl, new_keep nu e1, (by rw [List.length_map, List.length_append]; exact szl (by simp; omega)), ?_⟩
      refine ⟨cs ++ [t] ++ [u], _, _, _, _, _, rfl, same_mut (Same.new s2 nu) np, by rw [upd_same]; simp, ?_⟩
      rw [arcs_take hri, show [(r, true), (r, false)] = [((r, true) : Rb)] ++ [(r, false)] from rfl, ← List.append_assoc]
      exact (parc_ts pr2 ((TS_.new nu).trans (TS_.lst (new_keep nu e1)))).snoc (TS_.lst (new_keep nu e1) _ _ (sqt upd_same))
    · rintro σ' H' ⟨cs, v1, v2, v3, v4, v5, rfl, sm, hp, pr⟩
      rw [take_all N.len] at pr
      exact ⟨_, rfl, q H' p cs sm np hp pr⟩
theorem d_steps_cost {f : Addr} {fd : FuncData} (F : FnP K "steps_cost" "steps_cost" s_steps_cost f fd) (g : mg "steps_cost" = some (.ref f)) (M : Free mg) (C : Cst mg) : Def P w K mg base 1 "steps_cost" ["net", "steps"] (spStepsCost K) := by
  refine ⟨f, fd, F.ok sc_steps_cost (fun vs H Q E h => ?_) (fun cdv A outer s H vs Q E hr h => ?_), g, F.kp, bd_steps_cost F⟩
  · obtain ⟨a, l, ws, qs, st, rfl, _⟩ := h
    rfl
  · obtain ⟨a, l, ws, qs, st, rfl, ⟨aw, aq, bs, N⟩, ok, ⟨cs, hl, pl⟩, hst, q⟩ := h
    have nd := sc_steps_cost.nd
    have hu := hu_of hr
    have hq7 := ok.q7
    refine ⟨_, PSs.nox (pss_cons (ps_setDc (i := 2) (own := [("part", 6)]) (by rfl) nd rfl rfl (sw_trueD rfl rfl rfl (by decide +kernel)) (pi_tupK K (pe_ix (ix_tupK K) (pv 0) pe_int (fun _ _ => rfl))) (by exact blkOk_by (by kernel_rfl)) (fun _ _ _ _ _ => (pg_name (i := 6) nd rfl (Or.inl rfl))) (fun _ _ _ _ _ => pts_nil) (fun _ _ _ _ _ => (pe_ix (ix_tupK K) (pv 6) pe_int (fun _ _ => rfl))) (fun _ _ _ _ _ => (pv 6)))
 (pss_cons (ps_set (i := 3) nd rfl (Or.inl rfl) pe_int)
 (pss_cons (ps_for PassesOwn.never rfl (pi_tupK K (pv 1)) (pg_tupK K (n := 2) rfl (pgs_cons (pg_name (i := 4) nd rfl (Or.inl rfl)) (pgs_cons (pg_name (i := 5) nd rfl (Or.inl rfl)) pgs_nil)))
  (pss_one (ps_aug (i := 3) nd rfl (Or.inl rfl) (pe_ifExp (pt_cmpR op_eq (pv 5) (pe_glob (v := .str "along") rfl C.along.choose_spec ⟨_, rfl⟩) (nomark _)) (pe_ix (ix_tupK K) (pe_dget hu (pv 2) (pv 4) (fun _ _ => rfl)) pe_int (fun _ _ => rfl)) (pe_op op_sub pe_int (pe_ix (ix_tupK K) (pe_dget hu (pv 2) (pv 4) (fun _ _ => rfl)) pe_int (fun _ _ => rfl)))) ip_add)))
 (pss_one (ps_ret (pv 3)))))), ?_⟩
    refine ⟨_, rfl, a, _, 1, _, rfl, rfl, N.top, rfl, aq, rfl, ⟨_, N.qu⟩, fun p np => dc_tup (K := K) (a := aq) (xs := bs.map V.ref) (fun i H' => Same H H' ∧ ∃ kvs, H' p = some (.dK kvs) ∧ Tab qs (fun _ j => V.ref (bs.getD j 0)) i kvs)
      ⟨same_new np, [], upd_same, .nil⟩ (fun i H' _ ⟨s', _⟩ => (N.same s').qu) ?_ ?_⟩
    · rintro i y H' hi ⟨sm, kvs, hp, tb⟩
      obtain ⟨b, r, rfl, hri, hrow⟩ := (N.same sm).at hi
      have hb : bs[i]? = some b := by
        rw [List.getElem?_map] at hi
        cases e : bs[i]? with
        | none => rw [e] at hi; cases hi
        | some b' => rw [e] at hi; rw [V.ref.inj (Option.some.inj hi)]
      have hlt : i < qs.length := (List.getElem?_eq_some_iff.mp hri).1
      refine ⟨rfl, _, rfl, b, _, 0, _, rfl, rfl, hrow, rfl, _, rfl, kvs, .inr r.q, rfl, hp, szl (by have := tb.1; omega), same_mut sm np, _, upd_same, ?_⟩
      have := tb.next ok.net.nd hri
      rw [List.getD_eq_getElem?_getD, hb] at this
      exact this
    · rintro H1 ⟨sm, kvs, hp, tb⟩
      have tab : ∀ p' : Rb, p'.1 ∈ qs → ∃ b, dv kvs p'.1.q = some (.ref b) ∧ SqT K H1 b (rowV p'.1) := fun p' hp' => by
        obtain ⟨j, hj⟩ := List.mem_iff_getElem?.mp hp'
        have hjl : j < qs.length := (List.getElem?_eq_some_iff.mp hj).1
        have hbl : j < bs.length := by have := N.len; rw [List.length_map] at this; omega
        obtain ⟨b, r, e, hr', hrow⟩ := (N.same sm).at (i := j) (by rw [List.getElem?_map, List.getElem?_eq_getElem hbl]; rfl)
        rw [hj] at hr'
        obtain rfl := Option.some.inj hr'
        have h2 : dv kvs p'.1.q = some (V.ref (bs.getD j 0)) := tb.2 j p'.1 (by rw [List.length_map]; exact hbl) hj
        rw [List.getD_eq_getElem?_getD, List.getElem?_eq_getElem hbl] at h2
        have e' : V.ref bs[j] = V.ref b := e
        have h2' : dv kvs p'.1.q = some (V.ref bs[j]) := h2
        rw [e'] at h2'
        exact ⟨b, h2', hrow⟩
      refine ⟨_, rfl, l, rfl, ⟨_, Same.tup sm hl⟩, for_tup (K := K) (a := l) (xs := cs.map V.ref) (fun i σ' H' => H' = H1 ∧ ∃ (v1 v2 : Option V), σ' = [some (.ref a), some (.ref l), some (.ref p), some (.int (JM.cost (st.take i))), v1, v2, none])
        ⟨rfl, none, none, rfl⟩ (fun i σ' H' _ ⟨e, _⟩ => by rw [e]; exact Same.tup sm hl) ?_ ?_⟩
      · rintro i y σ' H' hi ⟨rfl, v1, v2, rfl⟩
        obtain ⟨b, p', rfl, hpi, hstep⟩ := part_at pl hi
        obtain ⟨d, hd, hrow⟩ := tab p' (hst p' (mem_at hpi))
        refine ⟨b, _, rfl, Same.tup sm hstep, rfl, _, _, rfl, _, _, rfl, rfl, ?_⟩
        refine ⟨_, rfl, _, rfl, rfl, _, rfl, ite2 (fun h1 => ?_) (fun h1 => ?_)⟩
        · have e1 : p'.2 = true := wayS_along.mp (V.str.inj (of_decide_eq_true h1))
          refine ⟨_, rfl, _, rfl, p, _, rfl, dget hp hd, d, _, 3, _, rfl, rfl, hrow, rfl, _, _, rfl, rfl, rfl, some (.str p'.1.q), some (.str (wayS p'.2)), ?_⟩
          rw [cost_take hpi, JM.cst, if_pos e1]
          rfl
        · have e1 : p'.2 ≠ true := fun e => h1 (by rw [wayS, if_pos e]; exact decide_eq_true rfl)
          refine ⟨_, rfl, _, rfl, p, _, rfl, dget hp hd, d, _, 4, _, rfl, rfl, hrow, rfl, 1, _, rfl, rfl, _, _, rfl, rfl, rfl, some (.str p'.1.q), some (.str (wayS p'.2)), ?_⟩
          rw [cost_take hpi, JM.cst, if_neg e1]
          rfl
      · rintro σ' H' ⟨rfl, v1, v2, rfl⟩
        rw [take_all (part_len pl)]
        exact ⟨_, rfl, q _ sm⟩
end
theorem price_take {l : List Rb} {i : Nat} {p : Rb} (h : l[i]? = some p) : JM.price (l.take (i + 1)) = JM.price (l.take i) + JM.prc p := by
  rw [take_next h]
  unfold JM.price
  rw [List.map_append, List.sum_append]
  show _ + (JM.prc p + 0) = _
  omega
section
variable {P : Program} {w : World} {K : PySem.W.Frag} {mg : Str → Option Value} {base : Heap}
theorem d_price_of {f : Addr} {fd : FuncData} (F : FnP K "price_of" "price_of" s_price_of f fd) (g : mg "price_of" = some (.ref f)) (M : Free mg) (C : Cst mg) : Def P w K mg base 1 "price_of" ["net", "steps"] (spPriceOf K) := by
  refine ⟨f, fd, F.ok sc_price_of (fun vs H Q E h => ?_) (fun cdv A outer s H vs Q E hr h => ?_), g, F.kp, bd_price_of F⟩
  · obtain ⟨a, l, ws, qs, st, rfl, _⟩ := h
    rfl
  · obtain ⟨a, l, ws, qs, st, rfl, ⟨aw, aq, bs, N⟩, ok, ⟨cs, hl, pl⟩, hst, h100, q⟩ := h
    have nd := sc_price_of.nd
    have hu := hu_of hr
    have hq7 := ok.q7
    refine ⟨_, PSs.nox (pss_cons (ps_set (i := 2) nd rfl (Or.inr rfl) (pe_dc (own := [("part", 3)]) (by rfl) nd (pi_tupK K (pe_ix (ix_tupK K) (pv 0) pe_int (fun _ _ => rfl))) (by exact blkOk_by (by kernel_rfl)) (fun _ _ _ _ _ => (pg_name (i := 3) nd rfl (Or.inl rfl))) (fun _ _ _ _ _ => pts_nil) (fun _ _ _ _ _ => (pe_ix (ix_tupK K) (pv 3) pe_int (fun _ _ => rfl))) (fun _ _ _ _ _ => (pe_ix (ix_tupK K) (pv 3) pe_int (fun _ _ => rfl)))))
 (pss_one (ps_ret (pe_callB (cr_sumK K rfl) rfl M.sum bt_sum (pa_cons (pe_lc (own := [("queue", 4), ("way", 5)]) (by rfl) nd (pi_tupK K (pv 1)) (by exact blkOk_by (by kernel_rfl)) (fun _ _ _ _ _ => (pg_tupK K (n := 2) rfl (pgs_cons (pg_name (i := 4) nd rfl (Or.inl rfl)) (pgs_cons (pg_name (i := 5) nd rfl (Or.inl rfl)) pgs_nil)))) (fun _ _ _ _ _ => pts_one (pt_cmpR op_eq (pv 5) (pe_glob (v := .str "along") rfl C.along.choose_spec ⟨_, rfl⟩) (nomark _))) (fun _ _ _ _ _ => (pe_dget hu (pv 2) (pv 4) (fun _ _ => rfl)))) pa_nil))))), ?_⟩
    refine ⟨_, rfl, a, _, 1, _, rfl, rfl, N.top, rfl, aq, rfl, ⟨_, N.qu⟩, fun p np => dc_tup (K := K) (a := aq) (xs := bs.map V.ref) (fun i H' => Same H H' ∧ ∃ kvs, H' p = some (.dK kvs) ∧ Tab qs (fun r _ => V.int r.room) i kvs)
      ⟨same_new np, [], upd_same, .nil⟩ (fun i H' _ ⟨s', _⟩ => (N.same s').qu) ?_ ?_⟩
    · rintro i y H' hi ⟨sm, kvs, hp, tb⟩
      obtain ⟨b, r, rfl, hri, hrow⟩ := (N.same sm).at hi
      have hlt : i < qs.length := (List.getElem?_eq_some_iff.mp hri).1
      exact ⟨rfl, _, rfl, b, _, 0, _, rfl, rfl, hrow, rfl, _, rfl, b, _, 3, _, rfl, rfl, hrow, rfl, kvs, .inr r.q, rfl, hp, szl (by have := tb.1; omega), same_mut sm np, _, upd_same, tb.next ok.net.nd hri⟩
    · rintro H1 ⟨sm, kvs, hp, tb⟩
      have tab : ∀ p' : Rb, p'.1 ∈ qs → dv kvs p'.1.q = some (.int p'.1.room) := fun p' hp' => by
        obtain ⟨j, hj⟩ := List.mem_iff_getElem?.mp hp'
        have hjl : j < qs.length := (List.getElem?_eq_some_iff.mp hj).1
        have := N.len
        exact tb.2 j p'.1 (by omega) hj
      refine ⟨_, rfl, l, rfl, ⟨_, Same.tup sm hl⟩, fun D nD => lc_tup (K := K) (a := l) (xs := cs.map V.ref) (fun i H' => Same H1 H' ∧ ∃ ns : List Int, H' D = some (.lst (ns.map V.int)) ∧ ns.length ≤ i ∧ ns.sum = JM.price (st.take i))
        ⟨same_new nD, [], upd_same, Nat.le_refl _, rfl⟩ (fun i H' _ ⟨s', _⟩ => Same.tup s' (Same.tup sm hl)) ?_ ?_⟩
      · rintro i y H' hi ⟨sm2, ns, hD, hn, hs⟩
        obtain ⟨b, p', rfl, hpi, hstep⟩ := part_at pl hi
        have hlt : i < st.length := (List.getElem?_eq_some_iff.mp hpi).1
        refine ⟨b, _, rfl, Same.tup sm2 (Same.tup sm hstep), rfl, _, _, rfl, _, _, rfl, rfl, rfl, ?_⟩
        refine ⟨_, rfl, rfl, _, rfl, ite2 (fun h1 => ?_) (fun h1 => ?_)⟩
        · have e1 : p'.2 = true := wayS_along.mp (V.str.inj (of_decide_eq_true h1))
          refine ⟨_, rfl, _, rfl, p, _, rfl, dget (sm2 _ _ hp) (tab p' (hst p' (mem_at hpi))), _, hD, szl (by rw [List.length_map]; omega), same_mut sm2 nD, ns ++ [p'.1.room], by rw [upd_same, List.map_append]; rfl, by rw [List.length_append]; simp; omega, ?_⟩
          rw [List.sum_append, hs, price_take hpi, JM.prc, if_pos e1]
          simp
        · have e1 : p'.2 ≠ true := fun e => h1 (by rw [wayS, if_pos e]; exact decide_eq_true rfl)
          refine ⟨sm2, ns, hD, by omega, ?_⟩
          rw [hs, price_take hpi, JM.prc, if_neg e1]
          omega
      · rintro H2 ⟨sm2, ns, hD, hn, hs⟩
        rw [take_all (part_len pl)] at hs
        refine ⟨D, ns, rfl, sql hD, ?_⟩
        rw [hs]
        exact q H2 (sm.trans sm2)
end
end JL
set_option Elab.async false
set_option linter.all false
set_option maxRecDepth 100000
set_option maxHeartbeats 4000000
/-! groups, idle -/
namespace JL
open PySem PySem.Spec PyProof.Rows L2 JB
def Together (qs : List Rw) (x y : Str) : Prop := JM.Reach (Ed qs true) (fun z => z = x) y
def TxtAt (K : PySem.W.Frag) (H : Hp) (b : Addr) (g : List Str) : Prop := SqT K H b (g.map V.str)
def spGroups (K : PySem.W.Frag) : Sp := fun vs H Q _ => ∃ (a : Addr) (ws : List Str) (qs : List Rw), vs = [.ref a] ∧ NetAt K H a ws qs ∧ NetOk ws qs ∧
  ∀ (H' : Hp) (p : Addr) (bs : List Addr) (gs : List (List Str)), Same H H' → H p = none → H' p = some (.lst (bs.map V.ref)) → Paired (TxtAt K H') bs gs → JM.IsGroups slt ws (Together qs) gs → gs.length ≤ 5 → Q (.ref p) H'
/-- it lies on a turn -/
def Turning (ws : List Str) (qs : List Rw) (x : Str) : Prop := x ∈ ws ∧ JM.Reach (Ed qs false) (fun z => ∃ r ∈ qs, r.s = x ∧ r.e = z) x
def spIdle (K : PySem.W.Frag) : Sp := fun vs H Q _ => ∃ (a : Addr) (ws : List Str) (qs : List Rw), vs = [.ref a] ∧ NetAt K H a ws qs ∧ NetOk ws qs ∧
  ∀ (H' : Hp) (p : Addr) (ys : List Str), Same H H' → H' p = some (.tup (ys.map V.str)) → ys.Pairwise slt → (∀ y, y ∈ ys ↔ JM.Reach (Ed qs false) (Turning ws qs) y) → (∀ y ∈ ys, y ∈ ws) → Q (.ref p) H'
theorem ed_mem {ws : List Str} {qs : List Rw} (V : JM.Net slt ws qs) {both : Bool} {x y : Str} (h : Ed qs both x y) : x ∈ ws ∧ y ∈ ws := by
  rcases h with ⟨r, hr, h1, h2⟩ | ⟨_, r, hr, h1, h2⟩
  · rw [← h1, ← h2]
    exact ⟨V.st r hr, V.en r hr⟩
  · rw [← h1, ← h2]
    exact ⟨V.en r hr, V.st r hr⟩
theorem ed_symm {qs : List Rw} {x y : Str} (h : Ed qs true x y) : Ed qs true y x := by
  rcases h with ⟨r, hr, h1, h2⟩ | ⟨_, r, hr, h1, h2⟩
  · exact .inr ⟨rfl, r, hr, h2, h1⟩
  · exact .inl ⟨r, hr, h2, h1⟩
theorem together_eqv {ws : List Str} {qs : List Rw} (V : JM.Net slt ws qs) : JM.Eqv ws (Together qs) where
  refl := fun w _ => .base rfl
  sym := fun x y h => JM.Reach.symm (fun _ _ => ed_symm) h
  tr := fun x y z h k => JM.Reach.trans h k
  mem := fun x y hx h => JM.Reach.closed (P := fun z => z ∈ ws) (fun z e => by rw [e]; exact hx) (fun z u _ e => (ed_mem V e).2) h
theorem any_dec {gs : List (List Str)} {x : Str} : ((gs.map fun g => decide (x ∈ g)).any id) = true ↔ ∃ g ∈ gs, x ∈ g := by
  rw [List.any_map, List.any_eq_true]
  exact ⟨fun ⟨g, hg, h⟩ => ⟨g, hg, of_decide_eq_true h⟩, fun ⟨g, hg, h⟩ => ⟨g, hg, decide_eq_true h⟩⟩
theorem ptx_ts {K : PySem.W.Frag} {H H' : Hp} {bs : List Addr} {l : List (List Str)} (h : Paired (TxtAt K H) bs l) (e : TS_ K H H') : Paired (TxtAt K H') bs l := Paired.mapP h fun _ _ q => e _ _ q
section
variable {P : Program} {w : World} {K : PySem.W.Frag} {mg : Str → Option Value} {base : Heap}
theorem d_groups {f : Addr} {fd : FuncData} (F : FnP K "groups" "groups" s_groups f fd) (g : mg "groups" = some (.ref f)) (M : Free mg) (d_reached : Def P w K mg base 1 "reached" ["net", "starts", "both"] (spReached K)) : Def P w K mg base 2 "groups" ["net"] (spGroups K) := by
  refine ⟨f, fd, F.ok sc_groups (fun vs H Q E h => ?_) (fun cdv A outer s H vs Q E hr h => ?_), g, F.kp, bd_groups F⟩
  · obtain ⟨a, ws, qs, rfl, _⟩ := h
    rfl
  · obtain ⟨a, ws, qs, rfl, ⟨aw, aq, bs, N⟩, ok, q⟩ := h
    have nd := sc_groups.nd
    have hu := hu_of hr
    have hw5 := ok.w5
    refine ⟨_, PSs.nox (pss_cons (ps_set (i := 1) nd rfl (Or.inl rfl) (pe_lst pa_nil))
 (pss_cons (ps_for PassesOwn.never rfl (pi_tupK K (pe_ix (ix_tupK K) (pv 0) pe_int (fun _ _ => rfl))) (pg_name (i := 2) nd rfl (Or.inr rfl))
  (pss_one (ps_if (pt_not (pt_val (pe_callB (cr_anyK K rfl) rfl M.any bt_any (pa_cons (pe_lc (own := [("group", 3)]) (by rfl) nd (pi_listK K (pv 1)) (by exact blkOk_by (by kernel_rfl)) (fun _ _ _ _ _ => (pg_name (i := 3) nd rfl (Or.inl rfl))) (fun _ _ _ _ _ => pts_nil) (fun _ _ _ _ _ => (pe_cmpR (op_inK K) (pv 2) (pv 3) (by rfl)))) pa_nil))))
  (pss_one (ps_expr (pe_bmK K PySem.F.plainAttrs_list PySem.F.slot_list_append PySem.F.type_list_append mt_append (pv 1) (pa_cons (pe_callTy (call_tupleK K) rfl M.tuple bt_tuple (pa_cons (pe_callB (cr_sortedSK K) rfl M.sorted bt_sorted (pa_cons (pe_own d_reached hr (by decide) (pa_cons (pv 0) (pa_cons (pe_lst (pa_cons (pv 2) pa_nil)) (pa_cons pe_bl pa_nil)))) pa_nil)) pa_nil)) pa_nil))))
  pss_nil)))
 (pss_one (ps_ret (pv 1))))), ?_⟩
    refine ⟨sz (by simp), fun p np => ?_⟩
    have N1 := N.ts (TS_.new (o := .lst []) np)
    refine ⟨_, rfl, a, _, 0, _, rfl, rfl, N1.top, rfl, aw, rfl, ⟨_, N1.wk⟩, for_tup (K := K) (a := aw) (xs := ws.map V.str) (fun i σ' H' => ∃ (cs : List Addr) (gs : List (List Str)) (v1 : Option V), σ' = [some (.ref a), some (.ref p), v1, none] ∧ Same H H' ∧ H' p = some (.lst (cs.map V.ref)) ∧ Paired (TxtAt K H') cs gs ∧ JM.GroupsTo slt ws (ws.take i) (Together qs) gs ∧ gs.length ≤ i)
      ⟨[], [], none, rfl, same_new np, upd_same, .nil, .nil, Nat.le_refl _⟩ (fun i σ' H' _ ⟨_, _, _, _, s', _⟩ => (N.same s').wk) ?_ ?_⟩
    · rintro i y σ' H' hi ⟨cs, gs, v1, rfl, sm, hp, pr, gt, hgl⟩
      obtain ⟨x, hx, rfl⟩ := str_at hi
      have hxw : x ∈ ws := mem_at hx
      have hil : i < ws.length := (List.getElem?_eq_some_iff.mp hx).1
      have hlen := Paired.length pr
      refine ⟨.ref p, rfl, p, rfl, ⟨_, sql hp⟩, fun D nD => lc_list (K := K) (a := p) (xs := cs.map V.ref) (fun j H2 => Same H' H2 ∧ H2 D = some (.lst (((gs.take j).map fun g => decide (x ∈ g)).map V.bl)))
        ⟨same_new nD, upd_same⟩ (fun j H2 _ ⟨s', _⟩ => sql (s' _ _ hp)) ?_ ?_⟩
      · rintro j z H2 hj ⟨s2, hD⟩
        obtain ⟨b, gj, rfl, hgj, hb⟩ := part_at pr hj
        have hjl : j < gs.length := (List.getElem?_eq_some_iff.mp hgj).1
        refine ⟨rfl, _, rfl, _, rfl, b, _, rfl, .inr (Same.tup s2 hb), rfl, flat_strs _, _, hD, szl (by simp; omega), same_mut s2 nD, ?_⟩
        rw [upd_same, take_next hgj, inV_strs]
        simp
      · rintro H2 ⟨s2, hD⟩
        rw [take_all (part_len pr)] at hD
        refine ⟨D, _, rfl, sql hD, _, rfl, ite2 (fun h0 => ?_) (fun h0 => ?_)⟩
        · have no : ¬ ∃ g ∈ gs, x ∈ g := fun z => by
            have := any_dec.mpr z
            rw [this] at h0
            cases h0
          have sm2 : Same H H2 := sm.trans s2
          refine ⟨.ref p, rfl, .inl ⟨rfl, _, sql (s2 _ _ hp)⟩, _, rfl, _, rfl, sz (by simp), fun l nl => ?_⟩
          have sm3 : Same H (upd H2 l (.lst [.str x])) := Same.new sm2 nl
          refine ⟨a, l, true, ws, qs, [x], rfl, ⟨aw, aq, bs, N.same sm3⟩, ok, sql upd_same, fun y hy => by rw [List.mem_singleton.mp hy]; exact hxw, by simp, fun H3 p3 ys s3 np3 hp3 hys hnd hy20 hyw => ?_⟩
          refine ⟨p3, ys, rfl, sql hp3, by omega, fun zs p4 pz sz4 np4 => ?_⟩
          refine ⟨p4, _, rfl, .inl ⟨sql upd_same, fun p5 np5 => ?_⟩⟩
          have hp2 := s2 _ _ hp
          have hpl := new_keep (o := .lst [.str x]) nl hp2
          have hpl3 := s3 _ _ hpl
          have hpl4 := new_keep (o := .lst (zs.map V.str)) np4 hpl3
          have hpl5 := new_keep (o := .tup (zs.map V.str)) np5 hpl4
          have T : TS_ K H' (upd (upd H3 p4 (.lst (zs.map V.str))) p5 (.tup (zs.map V.str))) := (TS_.of s2).trans ((TS_.new nl).trans ((TS_.of s3).trans ((TS_.new np4).trans (TS_.new np5))))
          have hzn : zs.Nodup := (pz.nodup_iff).mpr (hnd (by simp))
          refine ⟨p, _, _, rfl, rfl, hpl5, szl (by simp; omega), cs ++ [p5], gs ++ [zs], _, rfl, same_mut (Same.new (Same.new (sm3.trans s3) np4) np5) np, by rw [upd_same]; simp, (ptx_ts pr (T.trans (TS_.lst hpl5))).snoc (TS_.lst hpl5 _ _ (sqt upd_same)), ?_, by simp; omega⟩
          rw [take_next hx]
          refine gt.more slt_sto (together_eqv ok.net) (split_at hx) ok.net.asc no (sortedS_asc sz4 hzn) fun y => ?_
          rw [pz.mem_iff, hys]
          exact ⟨fun k => JM.Reach.mono (fun _ _ h => h) (fun u hu => List.mem_singleton.mp hu) k, fun k => JM.Reach.mono (fun _ _ h => h) (fun u hu => List.mem_singleton.mpr hu) k⟩
        · have yes : ∃ g ∈ gs, x ∈ g := any_dec.mp (by
            have h0' : ¬ (!((gs.map fun g => decide (x ∈ g)).any id)) = true := h0
            rw [Bool.not_eq_true', Bool.not_eq_false] at h0'
            exact h0')
          refine ⟨cs, gs, _, rfl, sm.trans s2, s2 _ _ hp, ptx_ts pr (TS_.of s2), ?_, by omega⟩
          rw [take_next hx]
          exact gt.skip yes
    · rintro σ' H' ⟨cs, gs, v1, rfl, sm, hp, pr, gt, hgl⟩
      rw [take_all (List.length_map _)] at gt
      exact ⟨_, rfl, q H' p cs gs sm np hp pr gt.done (by rw [List.length_map] at hgl; omega)⟩
theorem d_idle {f : Addr} {fd : FuncData} (F : FnP K "idle" "idle" s_idle f fd) (g : mg "idle" = some (.ref f)) (M : Free mg) (d_reached : Def P w K mg base 1 "reached" ["net", "starts", "both"] (spReached K)) : Def P w K mg base 2 "idle" ["net"] (spIdle K) := by
  refine ⟨f, fd, F.ok sc_idle (fun vs H Q E h => ?_) (fun cdv A outer s H vs Q E hr h => ?_), g, F.kp, bd_idle F⟩
  · obtain ⟨a, ws, qs, rfl, _⟩ := h
    rfl
  · obtain ⟨a, ws, qs, rfl, ⟨aw, aq, bs, N⟩, ok, q⟩ := h
    have nd := sc_idle.nd
    have hu := hu_of hr
    have hw5 := ok.w5
    have hq7 := ok.q7
    refine ⟨_, PSs.nox (pss_cons (ps_set (i := 1) nd rfl (Or.inl rfl) (pe_lst pa_nil))
 (pss_cons (ps_for PassesOwn.never rfl (pi_tupK K (pe_ix (ix_tupK K) (pv 0) pe_int (fun _ _ => rfl))) (pg_name (i := 2) nd rfl (Or.inr rfl))
  (pss_cons (ps_setLc (i := 3) (own := [("part", 4)]) (by rfl) nd rfl rfl (sw_true rfl rfl rfl (by decide +kernel)) (pi_tupK K (pe_ix (ix_tupK K) (pv 0) pe_int (fun _ _ => rfl))) (by exact blkOk_by (by kernel_rfl)) (fun _ _ _ _ _ => (pg_name (i := 4) nd rfl (Or.inl rfl))) (fun _ _ _ _ _ => pts_one (pt_cmpR op_eq (pe_ix (ix_tupK K) (pv 4) pe_int (fun _ _ => rfl)) (pv 2) (nomark _))) (fun _ _ _ _ _ => (pe_ix (ix_tupK K) (pv 4) pe_int (fun _ _ => rfl))))
 (pss_one (ps_if (pt_cmpR (op_inK K) (pv 2) (pe_own d_reached hr (by decide) (pa_cons (pv 0) (pa_cons (pv 3) (pa_cons pe_bl pa_nil)))) (by rfl))
  (pss_one (ps_expr (pe_bmK K PySem.F.plainAttrs_list PySem.F.slot_list_append PySem.F.type_list_append mt_append (pv 1) (pa_cons (pv 2) pa_nil))))
  pss_nil))))
 (pss_one (ps_ret (pe_callTy (call_tupleK K) rfl M.tuple bt_tuple (pa_cons (pe_callB (cr_sortedSK K) rfl M.sorted bt_sorted (pa_cons (pe_own d_reached hr (by decide) (pa_cons (pv 0) (pa_cons (pv 1) (pa_cons pe_bl pa_nil)))) pa_nil)) pa_nil)))))), ?_⟩
    refine ⟨sz (by simp), fun p np => ?_⟩
    have N1 := N.ts (TS_.new (o := .lst []) np)
    refine ⟨_, rfl, a, _, 0, _, rfl, rfl, N1.top, rfl, aw, rfl, ⟨_, N1.wk⟩, for_tup (K := K) (a := aw) (xs := ws.map V.str) (fun i σ' H' => ∃ (ts : List Str) (v1 v2 : Option V), σ' = [some (.ref a), some (.ref p), v1, v2, none] ∧ Same H H' ∧ H' p = some (.lst (ts.map V.str)) ∧ (∀ x, x ∈ ts ↔ x ∈ ws.take i ∧ Turning ws qs x) ∧ ts.Nodup ∧ ts.length ≤ i)
      ⟨[], none, none, rfl, same_new np, upd_same, fun x => by simp, List.nodup_nil, Nat.le_refl _⟩ (fun i σ' H' _ ⟨_, _, _, _, s', _⟩ => (N.same s').wk) ?_ ?_⟩
    · rintro i y σ' H' hi ⟨ts, v1, v2, rfl, sm, hp, ht, tn, htl⟩
      obtain ⟨x, hx, rfl⟩ := str_at hi
      have hxw : x ∈ ws := mem_at hx
      have hil : i < ws.length := (List.getElem?_eq_some_iff.mp hx).1
      have N2 := N.same sm
      refine ⟨_, rfl, a, _, 1, _, rfl, rfl, N2.top, rfl, aq, rfl, ⟨_, N2.qu⟩, fun D nD => lc_tup (K := K) (a := aq) (xs := bs.map V.ref) (fun j H2 => Same H' H2 ∧ ∃ es : List Str, H2 D = some (.lst (es.map V.str)) ∧ es.length ≤ j ∧ ∀ z, z ∈ es ↔ ∃ r ∈ qs.take j, r.s = x ∧ r.e = z)
        ⟨same_new nD, [], upd_same, Nat.le_refl _, fun z => by simp⟩ (fun j H2 _ ⟨s', _⟩ => (N2.same s').qu) ?_ ?_⟩
      · rintro j z H2 hj ⟨s2, es, hD, hel, he⟩
        obtain ⟨b, r, rfl, hri, hrow⟩ := (N2.same s2).at hj
        have hjl : j < qs.length := (List.getElem?_eq_some_iff.mp hri).1
        refine ⟨rfl, _, rfl, b, _, 1, _, rfl, rfl, hrow, rfl, _, rfl, rfl, _, rfl, ite2 (fun h1 => ?_) (fun h1 => ?_)⟩
        · have e1 : r.s = x := V.str.inj (of_decide_eq_true h1)
          refine ⟨_, rfl, b, _, 2, _, rfl, rfl, hrow, rfl, _, hD, szl (by simp; omega), same_mut s2 nD, es ++ [r.e], by rw [upd_same]; simp, by simp; omega, fun u => ?_⟩
          rw [take_next hri, List.mem_append, he]
          constructor
          · rintro (⟨r', h, k⟩ | h)
            · exact ⟨r', List.mem_append_left _ h, k⟩
            · exact ⟨r, by simp, e1, (List.mem_singleton.mp h).symm⟩
          · rintro ⟨r', h, k⟩
            rcases List.mem_append.mp h with h | h
            · exact .inl ⟨r', h, k⟩
            · rw [List.mem_singleton.mp h] at k
              exact .inr (by rw [k.2]; simp)
        · have e1 : ¬ r.s = x := fun e => h1 (by rw [e]; exact decide_eq_true rfl)
          refine ⟨s2, es, hD, by omega, fun u => ?_⟩
          rw [take_next hri, he]
          constructor
          · rintro ⟨r', h, k⟩
            exact ⟨r', List.mem_append_left _ h, k⟩
          · rintro ⟨r', h, k⟩
            rcases List.mem_append.mp h with h | h
            · exact ⟨r', h, k⟩
            · rw [List.mem_singleton.mp h] at k
              exact absurd k.1 e1
      · rintro H2 ⟨s2, es, hD, hel, he⟩
        rw [take_all N2.len] at he
        rw [N2.len] at hel
        have sm2 := sm.trans s2
        have hp2 := s2 _ _ hp
        refine ⟨_, rfl, _, rfl, _, rfl, a, D, false, ws, qs, es, rfl, ⟨aw, aq, bs, N.same sm2⟩, ok, sql hD, fun z hz => ?_, by omega, fun H3 p3 ys s3 np3 hp3 hys hnd hy20 hyw => ?_⟩
        · obtain ⟨r, hr, _, e⟩ := (he z).mp hz
          rw [← e]
          exact ok.net.en r hr
        · have tur : x ∈ ys ↔ Turning ws qs x := by
            rw [hys]
            unfold Turning
            exact ⟨fun k => ⟨hxw, JM.Reach.mono (fun _ _ h => h) (fun u hu => (he u).mp hu) k⟩, fun k => JM.Reach.mono (fun _ _ h => h) (fun u hu => (he u).mpr hu) k.2⟩
          have sm3 := sm2.trans s3
          have hpp3 := s3 _ _ hp2
          refine ⟨p3, _, rfl, .inl (sql hp3), rfl, flat_strs _, _, rfl, ite2 (fun h1 => ?_) (fun h1 => ?_)⟩
          · have h1' : inV (.str x) (ys.map V.str) = true := h1
            rw [inV_strs] at h1'
            have tx := tur.mp (of_decide_eq_true h1')
            have nx : x ∉ ts := fun z => by
              have h2 := ((ht x).mp z).1
              have asc := ok.net.asc
              rw [split_at hx] at asc
              exact slt_sto.irr x ((List.pairwise_append.mp asc).2.2 x h2 x (List.mem_cons_self ..))
            refine ⟨.ref p, rfl, .inl ⟨rfl, _, sql hpp3⟩, _, rfl, p, _, _, rfl, rfl, hpp3, szl (by simp; omega), ts ++ [x], _, _, rfl, same_mut sm3 np, by rw [upd_same]; simp, fun u => ?_, ?_, by simp; omega⟩
            · rw [take_next hx, List.mem_append, List.mem_append, ht]
              constructor
              · rintro (h | h)
                · exact ⟨.inl h.1, h.2⟩
                · rw [List.mem_singleton.mp h]
                  exact ⟨.inr (by simp), tx⟩
              · rintro ⟨h | h, k⟩
                · exact .inl ⟨h, k⟩
                · exact .inr h
            · exact List.nodup_append.mpr ⟨tn, by simp, fun u hu v hv e => nx (by rw [← List.mem_singleton.mp hv, ← e]; exact hu)⟩
          · have tx : ¬ Turning ws qs x := fun z => h1 (by
              show inV (.str x) (ys.map V.str) = true
              rw [inV_strs]
              exact decide_eq_true (tur.mpr z))
            refine ⟨ts, _, _, rfl, sm3, hpp3, fun u => ?_, tn, by omega⟩
            rw [take_next hx, List.mem_append, ht]
            constructor
            · rintro h
              exact ⟨.inl h.1, h.2⟩
            · rintro ⟨h | h, k⟩
              · exact ⟨h, k⟩
              · rw [List.mem_singleton.mp h] at k
                exact absurd k tx
    · rintro σ' H' ⟨ts, v1, v2, rfl, sm, hp, ht, tn, htl⟩
      rw [take_all (List.length_map _)] at ht
      rw [List.length_map] at htl
      refine ⟨_, rfl, _, rfl, a, p, false, ws, qs, ts, rfl, ⟨aw, aq, bs, N.same sm⟩, ok, sql hp, fun z hz => ((ht z).mp hz).1, by omega, fun H3 p3 ys s3 np3 hp3 hys hnd hy20 hyw => ?_⟩
      refine ⟨p3, ys, rfl, sql hp3, by omega, fun zs p4 pz sz4 np4 => ?_⟩
      refine ⟨p4, _, rfl, .inl ⟨sql upd_same, fun p5 np5 => ?_⟩⟩
      refine q _ p5 zs (Same.new (Same.new (sm.trans s3) np4) np5) upd_same (sortedS_asc sz4 (pz.nodup_iff.mpr (hnd tn))) (fun y => ?_) fun y hy => hyw y (pz.mem_iff.mp hy)
      rw [pz.mem_iff, hys]
      exact ⟨fun k => JM.Reach.mono (fun _ _ h => h) (fun u hu => ((ht u).mp hu).2) k, fun k => JM.Reach.mono (fun _ _ h => h) (fun u hu => (ht u).mpr ⟨hu.1, hu⟩) k⟩
end
end JL
set_option Elab.async false
set_option linter.all false
set_option maxRecDepth 100000
set_option maxHeartbeats 8000000
/-! rings -/
namespace JL
open PySem PySem.Spec PyProof.Rows L2 JB
abbrev RSs := JM.RS Str
def PileX (H : Hp) (t : Addr) (y : Nat × RSs) : Prop := ∃ s m, H t = some (.tup [.str y.2.1, .ref s, .ref m]) ∧ StepsX H s y.2.2.1 ∧ H m = some (.tup (y.2.2.2.map V.str))
theorem PileX.tx {H H' : Hp} {t : Addr} {y : Nat × RSs} (h : PileX H t y) (e : TX H H') : PileX H' t y := by
  obtain ⟨s, m, h1, h2, h3⟩ := h
  exact ⟨s, m, e _ _ h1, h2.tx e, e _ _ h3⟩
/-- the heap of the search: found at p, the pile at q -/
structure RgH (H H' : Hp) (p q : Addr) (cs : List Addr) (L : List (List Rb)) (rs : List Addr) (R : List (Nat × RSs)) : Prop where
  sm : Same H H'
  np : H p = none
  nq : H q = none
  ne : p ≠ q
  fp : H' p = some (.lst (cs.map V.ref))
  fl : Paired (StepsX H') cs L
  rp : H' q = some (.lst (rs.map V.ref))
  rl : Paired (PileX H') rs R
theorem RgH.new {H H' : Hp} {p q t : Addr} {cs rs : List Addr} {L : List (List Rb)} {R : List (Nat × RSs)} {o : HO} (h : RgH H H' p q cs L rs R) (nt : H' t = none) : RgH H (upd H' t o) p q cs L rs R :=
  ⟨Same.new h.sm nt, h.np, h.nq, h.ne, new_keep nt h.fp, Paired.mapP h.fl fun _ _ k => k.tx (TX.new nt), new_keep nt h.rp, Paired.mapP h.rl fun _ _ k => k.tx (TX.new nt)⟩
theorem RgH.found {H H' : Hp} {p q : Addr} {cs rs : List Addr} {L : List (List Rb)} {R : List (Nat × RSs)} {t : Addr} {l : List Rb} (h : RgH H H' p q cs L rs R) (ht : StepsX H' t l) : RgH H (upd H' p (.lst (cs.map V.ref ++ [.ref t]))) p q (cs ++ [t]) (L ++ [l]) rs R :=
  ⟨same_mut h.sm h.np, h.np, h.nq, h.ne, by rw [upd_same]; simp, (Paired.mapP h.fl fun _ _ k => k.tx (TX.lst h.fp)).snoc (ht.tx (TX.lst h.fp)), by rw [upd_ne (Ne.symm h.ne)]; exact h.rp, Paired.mapP h.rl fun _ _ k => k.tx (TX.lst h.fp)⟩
theorem RgH.push {H H' : Hp} {p q : Addr} {cs rs : List Addr} {L : List (List Rb)} {R : List (Nat × RSs)} {t : Addr} {y : Nat × RSs} (h : RgH H H' p q cs L rs R) (ht : PileX H' t y) : RgH H (upd H' q (.lst (rs.map V.ref ++ [.ref t]))) p q cs L (rs ++ [t]) (R ++ [y]) :=
  ⟨same_mut h.sm h.nq, h.np, h.nq, h.ne, by rw [upd_ne h.ne]; exact h.fp, Paired.mapP h.fl fun _ _ k => k.tx (TX.lst h.rp), by rw [upd_same]; simp, (Paired.mapP h.rl fun _ _ k => k.tx (TX.lst h.rp)).snoc (ht.tx (TX.lst h.rp))⟩
theorem RgH.pop {H H' : Hp} {p q : Addr} {cs rs : List Addr} {L : List (List Rb)} {R : List (Nat × RSs)} {t : Addr} {y : Nat × RSs} (h : RgH H H' p q cs L (rs ++ [t]) (R ++ [y])) (k : Paired (PileX H') rs R) : RgH H (upd H' q (.lst (rs.map V.ref))) p q cs L rs R :=
  ⟨same_mut h.sm h.nq, h.np, h.nq, h.ne, by rw [upd_ne h.ne]; exact h.fp, Paired.mapP h.fl fun _ _ k => k.tx (TX.lst h.rp), by rw [upd_same], Paired.mapP k fun _ _ k => k.tx (TX.lst h.rp)⟩
theorem RgH.txn {H H' : Hp} {p q : Addr} {cs rs : List Addr} {L : List (List Rb)} {R : List (Nat × RSs)} (h : RgH H H' p q cs L rs R) {o : HO} : TX H' (upd H' p o) ∧ TX H' (upd H' q o) := ⟨TX.lst h.fp, TX.lst h.rp⟩
/-- all rings, in whatever order -/
def spRings (K : PySem.W.Frag) : Sp := fun vs H Q _ => ∃ (a : Addr) (ws : List Str) (qs : List Rw), vs = [.ref a] ∧ NetAt K H a ws qs ∧ NetOk ws qs ∧
  ∀ (H' : Hp) (p : Addr) (bs : List Addr) (L : List (List Rb)), Same H H' → H p = none → H' p = some (.lst (bs.map V.ref)) → Paired (StepsAt K H') bs L → L.Perm (JM.allRings slt ws qs) → Q (.ref p) H'
/-- how far the search is -/
abbrev rgs (ws : List Str) (qs : List Rw) (u : Str) : List (List Rb) := JM.rg slt qs u ws.length (u, [], [u])
abbrev tms (qs : List Rw) (u : Str) (R : List (Nat × RSs)) : Nat := (R.map fun y => JM.tm slt qs u y.1 y.2).sum
abbrev outs (qs : List Rw) (u : Str) (R : List (Nat × RSs)) : List (List Rb) := R.flatMap fun y => JM.rg slt qs u y.1 y.2
structure RgOk (ws : List Str) (qs : List Rw) (u : Str) (y : Nat × RSs) : Prop where
  on : JM.OnPile (lt := slt) qs u y.2
  n : y.2.2.2.length + y.1 = ws.length + 1
  sub : ∀ z ∈ y.2.2.2, z ∈ ws
theorem RgOk.pos {ws : List Str} {qs : List Rw} {u : Str} {y : Nat × RSs} (h : RgOk ws qs u y) : ∃ n, y.1 = n + 1 := by
  have := JM.nodup_len h.on.nw h.sub
  have := h.n
  exact ⟨y.1 - 1, by omega⟩
theorem tm_pos {qs : List Rw} {u : Str} (n : Nat) (x : RSs) : 1 ≤ JM.tm slt qs u n x := by
  cases n with
  | zero => exact Nat.le_refl 1
  | succ n => exact Nat.le_add_right 1 _
theorem tms_len {qs : List Rw} {u : Str} (R : List (Nat × RSs)) : R.length ≤ tms qs u R := by
  induction R with
  | nil => exact Nat.le_refl _
  | cons y R ih =>
    have := tm_pos (qs := qs) (u := u) y.1 y.2
    show R.length + 1 ≤ JM.tm slt qs u y.1 y.2 + tms qs u R
    omega
theorem stepV_stepOf {at_ : Str} {r : Rw} : stepV (JM.stepOf at_ r) = [.str r.q, .str (wayS (decide (at_ = r.s)))] := rfl
theorem names_next {l : List Rb} {i : Nat} {p : Rb} (h : l[i]? = some p) : (l.take (i + 1)).map (fun p => p.1.q) = (l.take i).map (fun p => p.1.q) ++ [p.1.q] := by
  rw [take_next h, List.map_append]
  rfl
/-- what one queue does to the pile and to the rings found -/
structure RgTurn (ws : List Str) (qs : List Rw) (u : Str) (x : RSs) (n i : Nat) (L0 L : List (List Rb)) (R0 R : List (Nat × RSs)) : Prop where
  l : L = L0 ++ (qs.take i).flatMap (JM.closeOf u x)
  r : R = R0 ++ ((qs.take i).flatMap (JM.extOf slt u x)).map fun y => (n, y)
theorem RgTurn.len {ws : List Str} {qs : List Rw} {u : Str} {x : RSs} {n i : Nat} {L0 L : List (List Rb)} {R0 R : List (Nat × RSs)} (h : RgTurn ws qs u x n i L0 L R0 R) (hq : qs.length ≤ 7) : L.length ≤ L0.length + 7 ∧ R.length ≤ R0.length + 7 := by
  have ht : (qs.take i).length ≤ 7 := by rw [List.length_take]; omega
  have h1 := JM.flatMap_len1 (JM.close_len u x) (qs.take i)
  have h2 := JM.flatMap_len1 (JM.ext_len (lt := slt) u x) (qs.take i)
  rw [h.l, h.r, List.length_append, List.length_append, List.length_map]
  omega
theorem fm_next {α β : Type} {qs : List α} {i : Nat} {r : α} (f : α → List β) (h : qs[i]? = some r) : (qs.take (i + 1)).flatMap f = (qs.take i).flatMap f ++ f r := by
  rw [take_next h, List.flatMap_append]
  simp
theorem RgTurn.idle {ws : List Str} {qs : List Rw} {u : Str} {x : RSs} {n i : Nat} {L0 L : List (List Rb)} {R0 R : List (Nat × RSs)} {r : Rw} (h : RgTurn ws qs u x n i L0 L R0 R) (hr : qs[i]? = some r) (h1 : JM.closeOf u x r = []) (h2 : JM.extOf slt u x r = []) : RgTurn ws qs u x n (i + 1) L0 L R0 R :=
  ⟨by rw [fm_next _ hr, h1, List.append_nil]; exact h.l, by rw [fm_next _ hr, h2, List.append_nil]; exact h.r⟩
theorem RgTurn.close {ws : List Str} {qs : List Rw} {u : Str} {x : RSs} {n i : Nat} {L0 L : List (List Rb)} {R0 R : List (Nat × RSs)} {r : Rw} {l : List Rb} (h : RgTurn ws qs u x n i L0 L R0 R) (hr : qs[i]? = some r) (h1 : JM.closeOf u x r = [l]) (h2 : JM.extOf slt u x r = []) : RgTurn ws qs u x n (i + 1) L0 (L ++ [l]) R0 R :=
  ⟨by rw [fm_next _ hr, h1, h.l, List.append_assoc], by rw [fm_next _ hr, h2, List.append_nil]; exact h.r⟩
theorem RgTurn.ext {ws : List Str} {qs : List Rw} {u : Str} {x : RSs} {n i : Nat} {L0 L : List (List Rb)} {R0 R : List (Nat × RSs)} {r : Rw} {y : RSs} (h : RgTurn ws qs u x n i L0 L R0 R) (hr : qs[i]? = some r) (h1 : JM.closeOf u x r = []) (h2 : JM.extOf slt u x r = [y]) : RgTurn ws qs u x n (i + 1) L0 L R0 (R ++ [(n, y)]) :=
  ⟨by rw [fm_next _ hr, h1, List.append_nil]; exact h.l, by rw [fm_next _ hr, h2, h.r, List.map_append, List.append_assoc]; rfl⟩
/-- a whole turn of the while keeps what is still to come -/
theorem RgTurn.all {ws : List Str} {qs : List Rw} {u : Str} {x : RSs} {n : Nat} {L0 L G : List (List Rb)} {R0 R : List (Nat × RSs)} (h : RgTurn ws qs u x n qs.length L0 L R0 R) (V : JM.Net slt ws qs) (k : (L0 ++ outs qs u (R0 ++ [(n + 1, x)])).Perm G) (ok : RgOk ws qs u (n + 1, x)) (oks : ∀ y ∈ R0, RgOk ws qs u y) :
    (L ++ outs qs u R).Perm G ∧ (∀ y ∈ R, RgOk ws qs u y) ∧ tms qs u R < tms qs u (R0 ++ [(n + 1, x)]) := by
  have hl := h.l
  have hr := h.r
  rw [List.take_length] at hl hr
  have eo : outs qs u (((qs.flatMap (JM.extOf slt u x)).map fun y => (n, y))) = (qs.flatMap (JM.extOf slt u x)).flatMap (JM.rg slt qs u n) := by
    unfold outs
    rw [List.flatMap_map]
  have et : tms qs u (((qs.flatMap (JM.extOf slt u x)).map fun y => (n, y))) = ((qs.flatMap (JM.extOf slt u x)).map (JM.tm slt qs u n)).sum := by
    unfold tms
    rw [List.map_map]
    rfl
  refine ⟨?_, ?_, ?_⟩
  · refine List.Perm.trans ?_ k
    rw [hl, hr]
    unfold outs at eo ⊢
    rw [List.flatMap_append, List.flatMap_append, eo, List.append_assoc]
    refine List.Perm.append_left _ ?_
    have e1 : ([(n + 1, x)] : List (Nat × RSs)).flatMap (fun y => JM.rg slt qs u y.1 y.2) = JM.rg slt qs u (n + 1) x := by simp
    rw [e1]
    refine List.Perm.trans ?_ (List.Perm.append_left _ (JM.rg_turn (lt := slt) qs u n x).symm)
    rw [← List.append_assoc, ← List.append_assoc]
    exact List.Perm.append_right _ List.perm_append_comm
  · intro y hy
    rw [hr] at hy
    rcases List.mem_append.mp hy with hy | hy
    · exact oks y hy
    · obtain ⟨z, hz, rfl⟩ := List.mem_map.mp hy
      obtain ⟨r, hrq, hz⟩ := List.mem_flatMap.mp hz
      obtain ⟨a1, a2, a3, _⟩ := JM.onPile_ext V hrq ok.on hz
      have hn : x.2.2.length + (n + 1) = ws.length + 1 := ok.n
      have a2' : z.2.2.length = x.2.2.length + 1 := a2
      exact ⟨a1, by show z.2.2.length + n = _; omega, fun v hv => (a3 v hv).elim (ok.sub v) id⟩
  · rw [hr]
    unfold tms at et ⊢
    rw [List.map_append, List.sum_append, et, List.map_append, List.sum_append]
    have e1 : (([(n + 1, x)] : List (Nat × RSs)).map fun y => JM.tm slt qs u y.1 y.2).sum = 1 + ((qs.flatMap (JM.extOf slt u x)).map (JM.tm slt qs u n)).sum := by
      show JM.tm slt qs u (n + 1) x + 0 = _
      rw [JM.tm]
      omega
    rw [e1]
    omega
section
variable {P : Program} {w : World} {K : PySem.W.Frag} {mg : Str → Option Value} {base : Heap}
theorem d_rings {f : Addr} {fd : FuncData} (F : FnP K "rings" "rings" s_rings f fd) (g : mg "rings" = some (.ref f)) (M : Free mg) (C : Cst mg) : Def P w K mg base 1 "rings" ["net"] (spRings K) := by
  refine ⟨f, fd, F.ok sc_rings (fun vs H Q E h => ?_) (fun cdv A outer s H vs Q E hr h => ?_), g, F.kp, bd_rings F⟩
  · obtain ⟨a, ws, qs, rfl, _⟩ := h
    rfl
  · obtain ⟨a, ws, qs, rfl, ⟨aw, aq, bs, N⟩, ok, q⟩ := h
    have nd := sc_rings.nd
    have hu := hu_of hr
    have hw5 := ok.w5
    have hq7 := ok.q7
    have hall := JM.allRings_len (lt := slt) (qs := qs) hw5 hq7
    refine ⟨_, PSs.nox (pss_cons (ps_set (i := 1) nd rfl (Or.inl rfl) (pe_lst pa_nil))
 (pss_cons (ps_for PassesOwn.never rfl (pi_tupK K (pe_ix (ix_tupK K) (pv 0) pe_int (fun _ _ => rfl))) (pg_name (i := 2) nd rfl (Or.inl rfl))
  (pss_cons (ps_set (i := 3) nd rfl (Or.inl rfl) (pe_lst (pa_cons (pe_tup (pa_cons (pv 2) (pa_cons (pe_tup pa_nil) (pa_cons (pe_tup (pa_cons (pv 2) pa_nil)) pa_nil)))) pa_nil)))
 (pss_one (ps_while PassesOwn.never (pt_cmpR op_gt (pe_callB (call_lenK K) rfl M.len bt_len (pa_cons (pv 3) pa_nil)) pe_int (nomark _))
  (pss_cons (ps_asg (pe_bm0K_ K PySem.F.plainAttrs_list PySem.F.slot_list_pop PySem.F.type_list_pop mt_pop (pv 3)) (pg_tupK K (n := 3) rfl (pgs_cons (pg_name (i := 4) nd rfl (Or.inl rfl)) (pgs_cons (pg_name (i := 5) nd rfl (Or.inl rfl)) (pgs_cons (pg_name (i := 6) nd rfl (Or.inl rfl)) pgs_nil)))))
 (pss_one (ps_for PassesOwn.never rfl (pi_tupK K (pe_ix (ix_tupK K) (pv 0) pe_int (fun _ _ => rfl))) (pg_tupK K (n := 5) rfl (pgs_cons (pg_name (i := 7) nd rfl (Or.inl rfl)) (pgs_cons (pg_name (i := 8) nd rfl (Or.inl rfl)) (pgs_cons (pg_name (i := 9) nd rfl (Or.inl rfl)) (pgs_cons (pg_name (i := 10) nd rfl (Or.inl rfl)) (pgs_cons (pg_name (i := 11) nd rfl (Or.inl rfl)) pgs_nil))))))
  (pss_cons (ps_if (pt_mid (PW.pt (pw_and (pt_cmpR op_ne (pv 4) (pv 8) (nomark _)) (pw_and1 (pt_cmpR op_ne (pv 4) (pv 9) (nomark _))))))
  (pss_one ps_continue)
  pss_nil)
 (pss_cons (ps_asg (pe_mid (pe_ifExp (pt_cmpR op_eq (pv 4) (pv 8) (nomark _)) (pe_tup (pa_cons (pv 9) (pa_cons (pe_tup (pa_cons (pv 7) (pa_cons (pe_glob (v := .str "along") rfl C.along.choose_spec ⟨_, rfl⟩) pa_nil))) pa_nil))) (pe_tup (pa_cons (pv 8) (pa_cons (pe_tup (pa_cons (pv 7) (pa_cons (pe_glob (v := .str "against") rfl C.against.choose_spec ⟨_, rfl⟩) pa_nil))) pa_nil))))) (pg_tupK K (n := 2) rfl (pgs_cons (pg_name (i := 12) nd rfl (Or.inl rfl)) (pgs_cons (pg_name (i := 13) nd rfl (Or.inl rfl)) pgs_nil))))
 (pss_one (ps_if (pt_mid (PW.pt (pw_and (pt_cmpR op_eq (pv 12) (pv 2) (nomark _)) (pw_and (pt_cmpR op_gt (pe_callB (call_lenK K) rfl M.len bt_len (pa_cons (pv 5) pa_nil)) pe_int (nomark _)) (pw_and1 (pt_cmpR (op_ninK K) (pv 7) (pe_lc (own := [("name", 14), ("way", 15)]) (by rfl) nd (pi_tupK K (pv 5)) (by exact blkOk_by (by kernel_rfl)) (fun _ _ _ _ _ => (pg_tupK K (n := 2) rfl (pgs_cons (pg_name (i := 14) nd rfl (Or.inl rfl)) (pgs_cons (pg_name (i := 15) nd rfl (Or.inl rfl)) pgs_nil)))) (fun _ _ _ _ _ => pts_nil) (fun _ _ _ _ _ => (pv 14))) (by rfl)))))))
  (pss_one (ps_expr (pe_bmK K PySem.F.plainAttrs_list PySem.F.slot_list_append PySem.F.type_list_append mt_append (pv 1) (pa_cons (pe_op (op_catK K) (pv 5) (pe_tup (pa_cons (pv 13) pa_nil))) pa_nil))))
  (pss_one (ps_if (pt_mid (PW.pt (pw_and (pt_cmpR op_gt_str (pv 12) (pv 2) (nomark _)) (pw_and1 (pt_cmpR (op_ninK K) (pv 12) (pv 6) (by rfl))))))
  (pss_one (ps_expr (pe_bmK K PySem.F.plainAttrs_list PySem.F.slot_list_append PySem.F.type_list_append mt_append (pv 3) (pa_cons (pe_tup (pa_cons (pv 12) (pa_cons (pe_op (op_catK K) (pv 5) (pe_tup (pa_cons (pv 13) pa_nil))) (pa_cons (pe_op (op_catK K) (pv 6) (pe_tup (pa_cons (pv 12) pa_nil))) pa_nil)))) pa_nil))))
  pss_nil)))))))))))))
 (pss_one (ps_ret (pe_callB (cr_sortedNK K (units64 hr)) rfl M.sorted bt_sorted (pa_cons (pv 1) pa_nil)))))), ?_⟩
    refine ⟨sz (by simp), fun p np => ?_⟩
    have N1 := N.ts (TS_.new (o := .lst []) np)
    refine ⟨_, rfl, a, _, 0, _, rfl, rfl, N1.top, rfl, aw, rfl, ⟨_, N1.wk⟩, for_tup (K := K) (a := aw) (xs := ws.map V.str) (fun i σ' H' => ∃ (cs : List Addr) (L : List (List Rb)) (v2 v3 v4 v5 v6 v7 v8 v9 v10 v11 v12 v13 : Option V), σ' = [some (.ref a), some (.ref p), v2, v3, v4, v5, v6, v7, v8, v9, v10, v11, v12, v13, none, none] ∧ Same H H' ∧ H' p = some (.lst (cs.map V.ref)) ∧ Paired (StepsX H') cs L ∧ L.Perm ((ws.take i).flatMap (rgs ws qs)))
      ⟨[], [], none, none, none, none, none, none, none, none, none, none, none, none, rfl, same_new np, upd_same, .nil, .nil⟩ (fun i σ' H' _ ⟨_, _, _, _, _, _, _, _, _, _, _, _, _, _, _, s', _⟩ => (N.same s').wk) ?_ ?_⟩
    · rintro i y σ' H' hi ⟨cs, L, v2, v3, v4, v5, v6, v7, v8, v9, v10, v11, v12, v13, rfl, sm, hp, pr, pe⟩
      obtain ⟨u, hx, rfl⟩ := str_at hi
      have huw : u ∈ ws := mem_at hx
      -- rest = [(first, (), (first,))]
      refine ⟨_, rfl, sz (by simp), fun e ne => ?_⟩
      refine ⟨_, rfl, sz (by simp), fun m nm => ?_⟩
      refine ⟨sz (by simp), fun t nt => ⟨sz (by simp), fun rq nrq => ?_⟩⟩
      have hpq : p ≠ rq := fun z => by
        have := new_keep (o := .tup [.str u, .ref e, .ref m]) nt (new_keep (o := .tup [.str u]) nm (new_keep (o := .tup []) ne hp))
        rw [z, nrq] at this
        cases this
      have g0 : RgH H (upd (upd (upd (upd H' e (.tup [])) m (.tup [.str u])) t (.tup [.str u, .ref e, .ref m])) rq (.lst [.ref t])) p rq cs L [t] [(ws.length, u, [], [u])] := by
        have hT : TX H' (upd (upd (upd (upd H' e (.tup [])) m (.tup [.str u])) t (.tup [.str u, .ref e, .ref m])) rq (.lst [.ref t])) := (TX.new ne).trans ((TX.new nm).trans ((TX.new nt).trans (TX.new nrq)))
        refine ⟨Same.new (Same.new (Same.new (Same.new sm ne) nm) nt) nrq, np, same_free (Same.new (Same.new (Same.new sm ne) nm) nt) nrq, hpq, new_keep nrq (new_keep nt (new_keep nm (new_keep ne hp))), Paired.mapP pr fun _ _ k => k.tx hT, upd_same, ?_⟩
        exact .cons ⟨e, m, new_keep nrq upd_same, ⟨[], new_keep nrq (new_keep nt (new_keep nm upd_same)), .nil⟩, new_keep nrq (new_keep nt upd_same)⟩ .nil
      generalize upd (upd (upd (upd H' e (.tup [])) m (.tup [.str u])) t (.tup [.str u, .ref e, .ref m])) rq (.lst [.ref t]) = H0 at g0
      clear pr sm hp ne nm nt nrq
      have tm0 : tms qs u [(ws.length, u, [], [u])] ≤ 32768 := by
        have h1 := JM.tm_le (lt := slt) qs u hq7 ws.length (u, [], [u])
        have h2 : (7 + 1) ^ ws.length ≤ (7 + 1) ^ 5 := Nat.pow_le_pow_right (by decide) hw5
        show JM.tm slt qs u ws.length (u, [], [u]) + 0 ≤ _
        have h3 : (7 + 1) ^ 5 = 32768 := by decide
        omega
      have hGl : ((ws.take i).flatMap (rgs ws qs) ++ rgs ws qs u).length ≤ 1310720 := by
        refine Nat.le_trans ?_ hall
        unfold JM.allRings
        conv => rhs; rw [split_at hx]
        rw [List.flatMap_append, List.flatMap_cons, List.length_append, List.length_append, List.length_append]
        unfold rgs
        simp only [List.length_append, List.length_take, List.length_cons, List.length_drop]
        have : min i ws.length + (ws.length - (i + 1) + 1) = ws.length := by
          have := (List.getElem?_eq_some_iff.mp hx).1
          omega
        rw [this]
        omega
      refine ⟨fun m σ H' => ∃ (cs rs : List Addr) (L : List (List Rb)) (R : List (Nat × RSs)) (v4 v5 v6 v7 v8 v9 v10 v11 v12 v13 : Option V), σ = [some (.ref a), some (.ref p), some (.str u), some (.ref rq), v4, v5, v6, v7, v8, v9, v10, v11, v12, v13, none, none] ∧ RgH H H' p rq cs L rs R ∧
          (L ++ outs qs u R).Perm ((ws.take i).flatMap (rgs ws qs) ++ rgs ws qs u) ∧ (∀ y ∈ R, RgOk ws qs u y) ∧ m = tms qs u R ∧ m ≤ 32768,
        ⟨_, cs, [t], L, [(ws.length, u, [], [u])], _, _, _, _, _, _, _, _, _, _, rfl, g0, ?_, ?_, rfl, tm0⟩, ?_⟩
      · have e1 : outs qs u [(ws.length, u, [], [u])] = rgs ws qs u := by unfold outs rgs; simp
        rw [e1]
        exact List.Perm.append_right _ pe
      · intro y hy
        rw [List.mem_singleton.mp hy]
        exact ⟨JM.onPile_start qs u, by show 1 + ws.length = _; omega, fun z hz => by rw [List.mem_singleton.mp hz]; exact huw⟩
      · clear g0 tm0 hpq pe v4 v5 v6 v7 v8 v9 v10 v11 v12 v13 cs L H0
        rintro mm σ H1 ⟨cs, rs, L, R, v4, v5, v6, v7, v8, v9, v10, v11, v12, v13, rfl, g, pe, oks, hm, hm2⟩
        refine ⟨_, rfl, rq, _, rfl, .inl (sql g.rp), _, _, rfl, rfl, _, rfl, ite2 (fun hc => ?_) (fun hc => ?_)⟩
        · rcases List.eq_nil_or_concat rs with e | ⟨rs0, t1, e⟩
          · rw [e] at hc
            exact absurd hc (by decide)
          · rw [List.concat_eq_append] at e
            subst e
            obtain ⟨R0, ⟨n1, x⟩, rfl, hR0, sa, ma, ht1, hsa, hma⟩ := paired_last g.rl
            obtain ⟨n, en⟩ := (oks (n1, x) (by simp)).pos
            have en : n1 = n + 1 := en
            subst en
            have hxok := oks (n + 1, x) (by simp)
            have hLl : L.length ≤ 1310720 := by
              have := pe.length_eq
              rw [List.length_append] at this
              omega
            have hRl : (R0 ++ [(n + 1, x)]).length ≤ 32768 := by
              have := tms_len (qs := qs) (u := u) (R0 ++ [(n + 1, x)])
              omega
            rw [List.length_append] at hRl
            have g1 := g.pop hR0
            have tx1 : TX H1 (upd H1 rq (.lst (rs0.map V.ref))) := TX.lst g.rp
            refine ⟨_, fun _ _ h => h, ?_⟩
            refine ⟨.ref rq, rfl, .inl ⟨rfl, _, sql g.rp⟩, rq, _, .ref t1, rfl, rfl, g.rp, by simp, ?_⟩
            rw [show (List.map V.ref (rs0 ++ [t1])).dropLast = rs0.map V.ref by simp]
            have ht1' := tx1 _ _ ht1
            have hsa' := hsa.tx tx1
            have hma' := tx1 _ _ hma
            generalize upd H1 rq (.lst (rs0.map V.ref)) = H2 at g1 tx1 ht1' hsa' hma'
            clear g ht1 hsa hma tx1 hR0
            refine ⟨t1, _, rfl, sqt ht1', rfl, _, _, rfl, _, _, rfl, _, _, rfl, rfl, ?_⟩
            have N2 := N.same g1.sm
            refine ⟨_, rfl, a, _, 1, _, rfl, rfl, N2.top, rfl, aq, rfl, ⟨_, N2.qu⟩, for_tup (K := K) (a := aq) (xs := bs.map V.ref) (fun j σ' H' => ∃ (cs rs : List Addr) (L1 : List (List Rb)) (R1 : List (Nat × RSs)) (v7 v8 v9 v10 v11 v12 v13 : Option V), σ' = [some (.ref a), some (.ref p), some (.str u), some (.ref rq), some (.str x.1), some (.ref sa), some (.ref ma), v7, v8, v9, v10, v11, v12, v13, none, none] ∧ RgH H H' p rq cs L1 rs R1 ∧
                StepsX H' sa x.2.1 ∧ H' ma = some (.tup (x.2.2.map V.str)) ∧ RgTurn ws qs u x n j L L1 R0 R1)
              ⟨cs, rs0, L, R0, _, _, _, _, _, _, _, rfl, g1, hsa', hma', by simp, by simp⟩ (fun j σ' H' _ ⟨_, _, _, _, _, _, _, _, _, _, _, _, g', _⟩ => (N.same g'.sm).qu) ?_ ?_⟩
            · clear g1 ht1' hsa' hma' N2 v7 v8 v9 v10 v11 v12 v13 hc
              rintro j y σ' H3 hj ⟨cs, rs, L1, R1, v7, v8, v9, v10, v11, v12, v13, rfl, g, hsa, hma, tn⟩
              obtain ⟨b, r, rfl, hri, hrow⟩ := (N.same g.sm).at hj
              have hlens := tn.len hq7
              have hcl := Paired.length g.fl
              have hrl := Paired.length g.rl
              have hms5 : x.2.2.length ≤ 6 := by have := hxok.n; have : x.2.2.length + (n + 1) = ws.length + 1 := this; omega
              have hst6 : x.2.1.length ≤ 6 := by
                have := congrArg List.length hxok.on.met
                have : x.2.2.length = (x.2.1.map JM.src ++ [x.1]).length := this
                rw [List.length_append, List.length_map] at this
                simp at this
                omega
              refine ⟨b, _, rfl, hrow, rfl, _, _, rfl, _, _, rfl, _, _, rfl, _, _, rfl, _, _, rfl, rfl, ?_⟩
              refine ⟨fun c H' => H' = H3 ∧ c = !JM.touches x r, ?_, ?_⟩
              · refine ⟨_, rfl, _, rfl, rfl, _, rfl, ite2 (fun h1 => ?_) (fun h1 => ?_)⟩
                · refine ⟨_, rfl, _, rfl, rfl, _, rfl, rfl, ?_⟩
                  have h1' : ¬ x.1 = r.s := fun e => by
                    have h1'' : (!decide (V.str x.1 = V.str r.s)) = true := h1
                    rw [e] at h1''
                    simp at h1''
                  show (!decide (V.str x.1 = V.str r.e)) = !JM.touches x r
                  unfold JM.touches
                  rw [decide_eq_false h1', Bool.false_or]
                  by_cases e : x.1 = r.e
                  · rw [decide_eq_true e, e]; simp
                  · rw [decide_eq_false e, decide_eq_false (fun z => e (V.str.inj z))]
                · have h1' : x.1 = r.s := by
                    have h1'' : ¬ (!decide (V.str x.1 = V.str r.s)) = true := h1
                    rw [Bool.not_eq_true', Bool.not_eq_false] at h1''
                    exact V.str.inj (of_decide_eq_true h1'')
                  refine ⟨rfl, ?_⟩
                  unfold JM.touches
                  rw [decide_eq_true h1']
                  rfl
              · rintro c H' ⟨rfl, rfl⟩
                refine ite2 (fun h1 => ?_) (fun h1 => ?_)
                · have h1' : JM.touches x r = false := by
                    rw [Bool.not_eq_true'] at h1
                    exact h1
                  refine ⟨cs, rs, L1, R1, _, _, _, _, _, _, _, rfl, g, hsa, hma, tn.idle hri ?_ ?_⟩
                  · unfold JM.closeOf
                    rw [h1', if_neg Bool.false_ne_true]
                  · unfold JM.extOf
                    rw [h1', if_neg Bool.false_ne_true]
                · have htch : JM.touches x r = true := by
                    rw [Bool.not_eq_true', Bool.not_eq_false] at h1
                    exact h1
                  have hor := JM.touches_iff.mp htch
                  clear h1
                  -- other, step = ..
                  refine ⟨fun v H4 => ∃ T t, v = .ref T ∧ H4 T = some (.tup [.str (JM.otherOf x.1 r), .ref t]) ∧ H4 t = some (.tup (stepV (JM.stepOf x.1 r))) ∧ RgH H H4 p rq cs L1 rs R1 ∧ StepsX H4 sa x.2.1 ∧ H4 ma = some (.tup (x.2.2.map V.str)), ?_, ?_⟩
                  · refine ⟨_, rfl, _, rfl, rfl, _, rfl, ite2 (fun h1 => ?_) (fun h1 => ?_)⟩
                    · have e1 : x.1 = r.s := V.str.inj (of_decide_eq_true h1)
                      refine ⟨_, rfl, _, rfl, sz (by simp), fun t nt => ⟨sz (by simp), fun T nT => ?_⟩⟩
                      refine ⟨T, t, rfl, ?_, ?_, (g.new nt).new nT, (hsa.tx (TX.new nt)).tx (TX.new nT), TX.new nT _ _ (TX.new nt _ _ hma)⟩
                      · rw [upd_same, JM.otherOf, if_pos e1]
                      · rw [new_keep nT upd_same, stepV_stepOf, decide_eq_true e1]
                        rfl
                    · have e1 : ¬ x.1 = r.s := fun e => h1 (by rw [e]; exact decide_eq_true rfl)
                      refine ⟨_, rfl, _, rfl, sz (by simp), fun t nt => ⟨sz (by simp), fun T nT => ?_⟩⟩
                      refine ⟨T, t, rfl, ?_, ?_, (g.new nt).new nT, (hsa.tx (TX.new nt)).tx (TX.new nT), TX.new nT _ _ (TX.new nt _ _ hma)⟩
                      · rw [upd_same, JM.otherOf, if_neg e1]
                      · rw [new_keep nT upd_same, stepV_stepOf, decide_eq_false e1]
                        rfl
                  · clear g hsa hma hrow
                    rintro v H4 ⟨T, t, rfl, hT, ht, g, hsa, hma⟩
                    refine ⟨T, _, rfl, sqt hT, rfl, _, _, rfl, _, _, rfl, rfl, ?_⟩
                    -- if other == first and ..
                    refine ⟨fun c H5 => c = JM.closes u x r ∧ H5 t = some (.tup (stepV (JM.stepOf x.1 r))) ∧ RgH H H5 p rq cs L1 rs R1 ∧ StepsX H5 sa x.2.1 ∧ H5 ma = some (.tup (x.2.2.map V.str)), ?_, ?_⟩
                    · refine ⟨_, rfl, _, rfl, rfl, _, rfl, ite2 (fun h1 => ?_) (fun h1 => ?_)⟩
                      · have e1 : JM.otherOf x.1 r = u := V.str.inj (of_decide_eq_true h1)
                        obtain ⟨ss, hss, pss⟩ := hsa
                        have hsl := Paired.length pss
                        refine ⟨_, rfl, sa, _, rfl, .inr (sqt hss), _, _, rfl, rfl, _, rfl, ite2 (fun h2 => ?_) (fun h2 => ?_)⟩
                        · have e2 : x.2.1 ≠ [] := fun e => by
                            rw [e] at hsl
                            rw [List.length_eq_zero_iff.mp hsl] at h2
                            exact absurd h2 (by decide)
                          refine ⟨_, rfl, _, rfl, sa, rfl, ⟨_, sqt hss⟩, fun D nD => lc_tup (K := K) (a := sa) (xs := ss.map V.ref) (fun k H5 => Same H4 H5 ∧ H5 D = some (.lst (((x.2.1.take k).map fun p => p.1.q).map V.str)))
                            ⟨same_new nD, upd_same⟩ (fun k H5 _ ⟨s', _⟩ => sqt (s' _ _ hss)) ?_ ?_⟩
                          · rintro k z H5 hk ⟨s5, hD⟩
                            obtain ⟨b5, p5, rfl, hp5, hb5⟩ := part_at pss hk
                            have hkl : k < x.2.1.length := (List.getElem?_eq_some_iff.mp hp5).1
                            refine ⟨b5, _, rfl, sqt (s5 _ _ hb5), rfl, _, _, rfl, _, _, rfl, rfl, rfl, _, rfl, _, hD, szl (by simp; omega), same_mut s5 nD, ?_⟩
                            rw [upd_same, names_next hp5]
                            simp
                          · rintro H5 ⟨s5, hD⟩
                            rw [take_all (part_len pss)] at hD
                            refine ⟨D, _, rfl, .inl (sql hD), rfl, flat_strs _, _, rfl, ?_, s5 _ _ ht, ?_, ⟨ss, s5 _ _ hss, pstepx pss (TX.of s5)⟩, s5 _ _ hma⟩
                            · show (!inV (V.str r.q) _) = _
                              rw [inV_strs]
                              unfold JM.closes
                              rw [decide_eq_true e1, decide_eq_true e2, Bool.true_and, Bool.true_and]
                              by_cases e : r.q ∈ x.2.1.map fun p => p.1.q
                              · rw [decide_eq_true e, decide_eq_false (fun z => z e)]; rfl
                              · rw [decide_eq_false e, decide_eq_true e]; rfl
                            · exact ⟨g.sm.trans s5, g.np, g.nq, g.ne, s5 _ _ g.fp, Paired.mapP g.fl fun _ _ k => k.tx (TX.of s5), s5 _ _ g.rp, Paired.mapP g.rl fun _ _ k => k.tx (TX.of s5)⟩
                        · have e2 : x.2.1 = [] := by
                            rcases Nat.eq_zero_or_pos x.2.1.length with e | e
                            · exact List.length_eq_zero_iff.mp e
                            · refine absurd (decide_eq_true ?_) h2
                              show (0 : Int) < ((ss.map V.ref).length : Int)
                              rw [List.length_map]
                              omega
                          refine ⟨?_, ht, g, ⟨ss, hss, pss⟩, hma⟩
                          unfold JM.closes
                          rw [decide_eq_false (p := x.2.1 ≠ []) (fun z => z e2), Bool.false_and, Bool.and_false]
                      · have e1 : ¬ JM.otherOf x.1 r = u := fun e => h1 (by rw [e]; exact decide_eq_true rfl)
                        refine ⟨?_, ht, g, hsa, hma⟩
                        unfold JM.closes
                        rw [decide_eq_false e1, Bool.false_and]
                    · clear g hsa hma ht hT
                      rintro c H5 ⟨rfl, ht, g, ⟨ss, hss, pss⟩, hma⟩
                      have hsl := Paired.length pss
                      have htS := sqt (K := K) ht
                      refine ite2 (fun h1 => ?_) (fun h1 => ?_)
                      · -- found.append(steps + (step,))
                        have e2 : x.2.1 ≠ [] := fun e => by
                          unfold JM.closes at h1
                          rw [e] at h1
                          simp at h1
                        have e2' : ss.map V.ref ≠ [] := fun e => by
                          rw [List.map_eq_nil_iff.mp e] at hsl
                          exact e2 (List.length_eq_zero_iff.mp hsl.symm)
                        refine ⟨.ref p, rfl, .inl ⟨rfl, _, sql g.fp⟩, _, rfl, _, rfl, sz (by simp), fun o no => ?_⟩
                        refine ⟨sa, o, _, _, rfl, rfl, sqt (new_keep no hss), sqt upd_same, sz (by simp; omega), fun e => absurd e e2', fun _ e => absurd e (by simp), fun _ _ z nz => ?_⟩
                        have g2 := (g.new (o := .tup [.ref t]) no).new (o := .tup (ss.map V.ref ++ [.ref t])) nz
                        refine ⟨p, _, _, rfl, rfl, g2.fp, szl (by simp; omega), ?_⟩
                        have hz : StepsX (upd (upd H5 o (.tup [.ref t])) z (.tup (ss.map V.ref ++ [.ref t]))) z (x.2.1 ++ [JM.stepOf x.1 r]) := ⟨ss ++ [t], by rw [upd_same]; simp, (pstepx pss ((TX.new no).trans (TX.new nz))).snoc (new_keep nz (new_keep no ht))⟩
                        have g3 := g2.found hz
                        refine ⟨_, _, _, _, _, _, _, _, _, _, _, rfl, g3, ⟨ss, TX.lst g2.fp _ _ (new_keep nz (new_keep no hss)), pstepx pss ((TX.new no).trans ((TX.new nz).trans (TX.lst g2.fp)))⟩, TX.lst g2.fp _ _ (new_keep nz (new_keep no hma)), tn.close hri ?_ ?_⟩
                        · unfold JM.closeOf
                          rw [if_pos htch, if_pos h1]
                        · unfold JM.extOf
                          rw [if_pos htch, if_pos h1]
                      · -- elif other > first and other not in met
                        have h1' : JM.closes u x r = false := by
                          rw [Bool.not_eq_true] at h1
                          exact h1
                        have hclo : JM.closeOf u x r = [] := by
                          unfold JM.closeOf
                          rw [if_pos htch, h1', if_neg Bool.false_ne_true]
                        refine ⟨fun c H' => H' = H5 ∧ c = JM.extends_ slt u x r, ?_, ?_⟩
                        · refine ⟨_, rfl, _, rfl, ?_⟩
                          refine ⟨_, _, rfl, rfl, _, rfl, ite2 (fun h2 => ?_) (fun h2 => ?_)⟩
                          · refine ⟨_, rfl, _, rfl, ma, _, rfl, .inr (sqt hma), rfl, flat_strs _, _, rfl, rfl, ?_⟩
                            have e2 : slt u (JM.otherOf x.1 r) := h2
                            show (!inV (V.str (JM.otherOf x.1 r)) _) = _
                            rw [inV_strs]
                            unfold JM.extends_
                            rw [decide_eq_true e2, Bool.true_and]
                            by_cases e : JM.otherOf x.1 r ∈ x.2.2
                            · rw [decide_eq_true e, decide_eq_false (fun z => z e)]; rfl
                            · rw [decide_eq_false e, decide_eq_true e]; rfl
                          · have e2 : ¬ slt u (JM.otherOf x.1 r) := h2
                            refine ⟨rfl, ?_⟩
                            unfold JM.extends_
                            rw [decide_eq_false e2, Bool.false_and]
                        · rintro c H' ⟨rfl, rfl⟩
                          refine ite2 (fun h2 => ?_) (fun h2 => ?_)
                          · have hext : JM.extOf slt u x r = [(JM.otherOf x.1 r, x.2.1 ++ [JM.stepOf x.1 r], x.2.2 ++ [JM.otherOf x.1 r])] := by
                              unfold JM.extOf
                              rw [if_pos htch, h1', if_neg Bool.false_ne_true, if_pos h2]
                            have hmne : x.2.2.map V.str ≠ [] := by
                              rw [hxok.on.met]
                              simp
                            -- a new steps tuple at z (it may be the one new tuple itself)
                            have fin : ∀ (H6 : Hp) (z : Addr), RgH H H6 p rq cs L1 rs R1 → TX H' H6 → StepsX H6 z (x.2.1 ++ [JM.stepOf x.1 r]) →
                                ∀ o, H6 o = none → ∀ m2, (upd H6 o (.tup [.str (JM.otherOf x.1 r)])) m2 = none → ∀ t2, (upd (upd H6 o (.tup [.str (JM.otherOf x.1 r)])) m2 (.tup (x.2.2.map V.str ++ [.str (JM.otherOf x.1 r)]))) t2 = none →
                                RgH H (upd (upd (upd (upd H6 o (.tup [.str (JM.otherOf x.1 r)])) m2 (.tup (x.2.2.map V.str ++ [.str (JM.otherOf x.1 r)]))) t2 (.tup [.str (JM.otherOf x.1 r), .ref z, .ref m2])) rq (.lst (rs.map V.ref ++ [.ref t2]))) p rq cs L1 (rs ++ [t2]) (R1 ++ [(n, JM.otherOf x.1 r, x.2.1 ++ [JM.stepOf x.1 r], x.2.2 ++ [JM.otherOf x.1 r])]) ∧
                                TX H' (upd (upd (upd (upd H6 o (.tup [.str (JM.otherOf x.1 r)])) m2 (.tup (x.2.2.map V.str ++ [.str (JM.otherOf x.1 r)]))) t2 (.tup [.str (JM.otherOf x.1 r), .ref z, .ref m2])) rq (.lst (rs.map V.ref ++ [.ref t2]))) := fun H6 z g6 tx hz o no m2 nm2 t2 nt2 => by
                              have g7 := ((g6.new (o := .tup [.str (JM.otherOf x.1 r)]) no).new (o := .tup (x.2.2.map V.str ++ [.str (JM.otherOf x.1 r)])) nm2).new (o := .tup [.str (JM.otherOf x.1 r), .ref z, .ref m2]) nt2
                              refine ⟨g7.push ⟨z, m2, upd_same, ((hz.tx (TX.new no)).tx (TX.new nm2)).tx (TX.new nt2), ?_⟩, tx.trans ((TX.new no).trans ((TX.new nm2).trans ((TX.new nt2).trans (TX.lst g7.rp))))⟩
                              rw [new_keep nt2 upd_same]
                              simp
                            refine ⟨.ref rq, rfl, .inl ⟨rfl, _, sql g.rp⟩, _, rfl, _, rfl, _, rfl, sz (by simp), fun o no => ?_⟩
                            by_cases e2 : x.2.1 = []
                            · have e2' : ss = [] := List.length_eq_zero_iff.mp (by rw [hsl, e2]; rfl)
                              subst e2'
                              refine ⟨sa, o, _, _, rfl, rfl, sqt (new_keep no hss), sqt upd_same, sz (by simp), fun _ => ?_, fun e => absurd rfl e, fun e => absurd rfl e⟩
                              have hz : StepsX (upd H' o (.tup [.ref t])) o (x.2.1 ++ [JM.stepOf x.1 r]) := by
                                rw [e2]
                                exact ⟨[t], upd_same, .cons (new_keep no ht) .nil⟩
                              refine ⟨_, rfl, _, rfl, sz (by simp), fun o2 no2 => ?_⟩
                              refine ⟨ma, o2, _, _, rfl, rfl, sqt (new_keep no2 (new_keep no hma)), sqt upd_same, sz (by simp; omega), fun e => absurd e hmne, fun _ e => absurd e (by simp), fun _ _ m2 nm2 => ?_⟩
                              refine ⟨sz (by simp), fun t2 nt2 => ?_⟩
                              obtain ⟨g9, tx9⟩ := fin _ o (g.new (o := .tup [.ref t]) no) (TX.new no) hz o2 no2 m2 nm2 t2 nt2
                              refine ⟨rq, _, _, rfl, rfl, new_keep nt2 (new_keep nm2 (new_keep no2 (new_keep no g.rp))), szl (by simp; omega), ?_⟩
                              exact ⟨_, _, _, _, _, _, _, _, _, _, _, rfl, g9, ⟨[], tx9 _ _ hss, pstepx pss tx9⟩, tx9 _ _ hma, tn.ext hri hclo hext⟩
                            · have e2' : ss.map V.ref ≠ [] := fun e => by
                                rw [List.map_eq_nil_iff.mp e] at hsl
                                exact e2 (List.length_eq_zero_iff.mp hsl.symm)
                              refine ⟨sa, o, _, _, rfl, rfl, sqt (new_keep no hss), sqt upd_same, sz (by simp; omega), fun e => absurd e e2', fun _ e => absurd e (by simp), fun _ _ z nz => ?_⟩
                              have hz : StepsX (upd (upd H' o (.tup [.ref t])) z (.tup (ss.map V.ref ++ [.ref t]))) z (x.2.1 ++ [JM.stepOf x.1 r]) := ⟨ss ++ [t], by rw [upd_same]; simp, (pstepx pss ((TX.new no).trans (TX.new nz))).snoc (new_keep nz (new_keep no ht))⟩
                              refine ⟨_, rfl, _, rfl, sz (by simp), fun o2 no2 => ?_⟩
                              refine ⟨ma, o2, _, _, rfl, rfl, sqt (new_keep no2 (new_keep nz (new_keep no hma))), sqt upd_same, sz (by simp; omega), fun e => absurd e hmne, fun _ e => absurd e (by simp), fun _ _ m2 nm2 => ?_⟩
                              refine ⟨sz (by simp), fun t2 nt2 => ?_⟩
                              obtain ⟨g9, tx9⟩ := fin _ z ((g.new (o := .tup [.ref t]) no).new (o := .tup (ss.map V.ref ++ [.ref t])) nz) ((TX.new no).trans (TX.new nz)) hz o2 no2 m2 nm2 t2 nt2
                              refine ⟨rq, _, _, rfl, rfl, new_keep nt2 (new_keep nm2 (new_keep no2 (new_keep nz (new_keep no g.rp)))), szl (by simp; omega), ?_⟩
                              exact ⟨_, _, _, _, _, _, _, _, _, _, _, rfl, g9, ⟨ss, tx9 _ _ hss, pstepx pss tx9⟩, tx9 _ _ hma, tn.ext hri hclo hext⟩
                          · refine ⟨cs, rs, L1, R1, _, _, _, _, _, _, _, rfl, g, ⟨ss, hss, pss⟩, hma, tn.idle hri hclo ?_⟩
                            unfold JM.extOf
                            rw [if_pos htch, h1', if_neg Bool.false_ne_true, if_neg h2]
            · rintro σ' H' ⟨cs, rs, L1, R1, v7, v8, v9, v10, v11, v12, v13, rfl, g, hsa, hma, tn⟩
              rw [N.len] at tn
              obtain ⟨p1, p2, p3⟩ := tn.all ok.net pe hxok (fun y hy => oks y (by simp [hy]))
              exact ⟨_, by omega, cs, rs, L1, R1, _, _, _, _, _, _, _, _, _, _, rfl, g, p1, p2, rfl, by omega⟩
        · have e : rs = [] := by
            rcases Nat.eq_zero_or_pos rs.length with e | e
            · exact List.length_eq_zero_iff.mp e
            · refine absurd (decide_eq_true ?_) hc
              show (0 : Int) < ((rs.map V.ref).length : Int)
              rw [List.length_map]
              omega
          subst e
          have hR : R = [] := by
            have := g.rl
            cases this
            rfl
          subst hR
          refine ⟨cs, L, _, _, _, _, _, _, _, _, _, _, _, _, rfl, g.sm, g.fp, g.fl, ?_⟩
          rw [fm_next _ hx]
          have : outs qs u [] = [] := rfl
          rw [this, List.append_nil] at pe
          exact pe
    · rintro σ' H' ⟨cs, L, v2, v3, v4, v5, v6, v7, v8, v9, v10, v11, v12, v13, rfl, sm, hp, pr, pe⟩
      rw [take_all (List.length_map _)] at pe
      have pe' : L.Perm (JM.allRings slt ws qs) := pe
      have hL2 : ∀ l ∈ L, 2 ≤ l.length := fun l hl => by
        obtain ⟨u, _, R⟩ := (JM.mem_allRings ok.net slt_sto).mp (pe'.mem_iff.mp hl)
        exact R.two
      have key : ∀ x ∈ cs.map V.ref, ∃ k : List (Str × Str), k ≠ [] ∧ ∃ t as, x = V.ref t ∧ H' t = some (.tup (as.map V.ref)) ∧ Paired (fun (p : Str × Str) b => H' b = some (.tup [.str p.1, .str p.2])) k as := fun x hx => by
        obtain ⟨i, hi⟩ := List.mem_iff_getElem?.mp hx
        obtain ⟨t, l, rfl, hl, as, h1, h2⟩ := part_at pr hi
        refine ⟨l.map fun p => (p.1.q, wayS p.2), fun e => ?_, t, as, rfl, h1, ?_⟩
        · have := hL2 l (mem_at hl)
          rw [List.map_eq_nil_iff.mp e] at this
          simp at this
        · clear h1 hl hi hx
          induction h2 with
          | nil => exact .nil
          | cons r _ ih => exact .cons r ih
      refine ⟨_, rfl, p, cs.map V.ref, fun x => (if hx : x ∈ cs.map V.ref then (key x hx).choose else []), rfl, sql hp, fun x hx => ?_, fun x hx => ?_, fun ys p2 py np2 => ?_⟩
      · obtain ⟨_, t, as, h1, h2, h3⟩ := (key x hx).choose_spec
        refine ⟨t, as, h1, h2, ?_⟩
        simp only [dif_pos hx]
        exact h3
      · simp only [dif_pos hx]
        exact (key x hx).choose_spec.1
      · obtain ⟨bs', rfl, pb⟩ := refs_perm py
        obtain ⟨L', pL, hL'⟩ := paired_perm pb pr
        exact q _ p2 bs' L' (Same.new sm np2) (same_free sm np2) upd_same (Paired.mapP hL' fun _ _ k => (k.tx (TX.new np2)).at) (pL.trans pe')
end
end JL
set_option Elab.async false
set_option linter.all false
set_option maxRecDepth 100000
set_option maxHeartbeats 4000000
/-! slack, cheapest_ring, fewest_drops -/
namespace JL
open PySem PySem.Spec PyProof.Rows L2 JB
def optV : Option Int → V
  | none => .non
  | some i => .int i
def spSlack (K : PySem.W.Frag) : Sp := fun vs H Q _ => ∃ (a : Addr) (ws : List Str) (qs : List Rw), vs = [.ref a] ∧ NetAt K H a ws qs ∧ NetOk ws qs ∧
  ∀ (H' : Hp) (o : Option Int), Same H H' → JM.LeastIs (fun c => ∃ l ∈ JM.allRings slt ws qs, JM.cost l = c) o → Q (optV o) H'
/-- the best of some rings -/
def Best (K : PySem.W.Frag) (H : Hp) (qs : List Rw) (S L : List (List Rb)) (v : V) : Prop :=
  (v = .non ∧ ∀ l ∈ S, ¬ JM.cost l ≤ 0) ∨ ∃ t l, v = .ref t ∧ StepsAt K H t l ∧ l ∈ L ∧ JM.cost l ≤ 0 ∧ ∀ l' ∈ S, JM.cost l' ≤ 0 → JM.price l ≤ JM.price l'
def spCheapest (K : PySem.W.Frag) : Sp := fun vs H Q _ => ∃ (a : Addr) (ws : List Str) (qs : List Rw), vs = [.ref a] ∧ NetAt K H a ws qs ∧ NetOk ws qs ∧
  ∀ (H' : Hp) (v : V), Same H H' → Best K H' qs (JM.allRings slt ws qs) (JM.allRings slt ws qs) v → Q v H'
def spFewest (K : PySem.W.Frag) : Sp := fun vs H Q _ => ∃ (a : Addr) (ws : List Str) (qs : List Rw), vs = [.ref a] ∧ NetAt K H a ws qs ∧ NetOk ws qs ∧
  ∀ (H' : Hp) (o : Option Int), Same H H' → JM.LeastIs (fun c => ∃ l ∈ JM.allRings slt ws qs, JM.cost l ≤ 0 ∧ JM.price l = c) o → Q (optV o) H'
theorem psteps_ts {K : PySem.W.Frag} {H H' : Hp} {bs : List Addr} {l : List (List Rb)} (h : Paired (StepsAt K H) bs l) (e : TS_ K H H') : Paired (StepsAt K H') bs l := Paired.mapP h fun _ _ q => q.ts e
theorem ring_rows {ws : List Str} {qs : List Rw} (V : JM.Net slt ws qs) {l : List Rb} (h : l ∈ JM.allRings slt ws qs) : (∀ p ∈ l, p.1 ∈ qs) ∧ l.length ≤ ws.length := by
  obtain ⟨u, _, R⟩ := (JM.mem_allRings V slt_sto).mp h
  exact ⟨JM.walk_rows R.wk, JM.ring_len V R⟩
section
variable {P : Program} {w : World} {K : PySem.W.Frag} {mg : Str → Option Value} {base : Heap}
theorem d_slack {f : Addr} {fd : FuncData} (F : FnP K "slack" "slack" s_slack f fd) (g : mg "slack" = some (.ref f)) (M : Free mg) (d_rings : Def P w K mg base 1 "rings" ["net"] (spRings K)) (d_steps_cost : Def P w K mg base 1 "steps_cost" ["net", "steps"] (spStepsCost K)) : Def P w K mg base 2 "slack" ["net"] (spSlack K) := by
  refine ⟨f, fd, F.ok sc_slack (fun vs H Q E h => ?_) (fun cdv A outer s H vs Q E hr h => ?_), g, F.kp, bd_slack F⟩
  · obtain ⟨a, ws, qs, rfl, _⟩ := h
    rfl
  · obtain ⟨a, ws, qs, rfl, N, ok, q⟩ := h
    have nd := sc_slack.nd
    have hu := hu_of hr
    refine ⟨_, PSs.nox (pss_cons (ps_setLc (i := 1) (own := [("steps", 2)]) (by rfl) nd rfl rfl (sw_true rfl rfl rfl (by decide +kernel)) (pi_listK K (pe_own d_rings hr (by decide) (pa_cons (pv 0) pa_nil))) (by exact blkOk_by (by kernel_rfl)) (fun _ _ _ _ _ => (pg_name (i := 2) nd rfl (Or.inl rfl))) (fun _ _ _ _ _ => pts_nil) (fun _ _ _ _ _ => (pe_own d_steps_cost hr (by decide) (pa_cons (pv 0) (pa_cons (pv 2) pa_nil)))))
 (pss_one (ps_ret (pe_ifExp (pt_cmpR op_gt (pe_callB (call_lenK K) rfl M.len bt_len (pa_cons (pv 1) pa_nil)) pe_int (nomark _)) (pe_callB (cr_minK_ K rfl) rfl M.min bt_min (pa_cons (pv 1) pa_nil)) pe_non)))), ?_⟩
    refine ⟨_, rfl, a, ws, qs, rfl, N, ok, fun H1 p bs L s1 np hp pL pe => ?_⟩
    have N1 := N.same s1
    have hLl : L.length ≤ 1310720 := by
      rw [pe.length_eq]
      exact JM.allRings_len ok.w5 ok.q7
    refine ⟨p, rfl, ⟨_, sql hp⟩, fun D nD => lc_list (K := K) (a := p) (xs := bs.map V.ref) (fun i H' => Same H1 H' ∧ H' D = some (.lst (((L.take i).map JM.cost).map V.int)))
      ⟨same_new nD, upd_same⟩ (fun i H' _ ⟨s', _⟩ => sql (s' _ _ hp)) ?_ ?_⟩
    · rintro i y H' hi ⟨sm, hD⟩
      obtain ⟨b, l, rfl, hl, hb⟩ := part_at pL hi
      have hil : i < L.length := (List.getElem?_eq_some_iff.mp hl).1
      have hla := pe.mem_iff.mp (mem_at hl)
      refine ⟨rfl, _, rfl, _, rfl, a, b, ws, qs, l, rfl, N1.same sm, ok, hb.ts (TS_.of sm), (ring_rows ok.net hla).1, fun H2 s2 => ?_⟩
      refine ⟨_, s2 _ _ hD, szl (by simp; omega), same_mut (sm.trans s2) nD, ?_⟩
      rw [upd_same, take_next hl]
      simp
    · rintro H2 ⟨sm, hD⟩
      rw [take_all (part_len pL)] at hD
      refine ⟨_, rfl, D, _, rfl, .inl (sql hD), _, _, rfl, rfl, _, rfl, ite2 (fun hc => ?_) (fun hc => ?_)⟩
      · refine ⟨_, rfl, D, L.map JM.cost, rfl, sql hD, ?_, fun m hm hle => q H2 (some m) (s1.trans sm) ⟨?_, ?_⟩⟩
        · have := of_decide_eq_true hc
          simp at this ⊢
          omega
        · obtain ⟨l, hl, e⟩ := List.mem_map.mp hm
          exact ⟨l, pe.mem_iff.mp hl, e⟩
        · rintro c ⟨l, hl, rfl⟩
          exact hle _ (List.mem_map.mpr ⟨l, pe.mem_iff.mpr hl, rfl⟩)
      · refine q H2 none (s1.trans sm) ?_
        rintro c ⟨l, hl, rfl⟩
        refine hc (decide_eq_true ?_)
        have := List.length_pos_of_mem (pe.mem_iff.mpr hl)
        simp
        exact this
theorem d_cheapest_ring {f : Addr} {fd : FuncData} (F : FnP K "cheapest_ring" "cheapest_ring" s_cheapest_ring f fd) (g : mg "cheapest_ring" = some (.ref f)) (M : Free mg) (d_rings : Def P w K mg base 1 "rings" ["net"] (spRings K)) (d_steps_cost : Def P w K mg base 1 "steps_cost" ["net", "steps"] (spStepsCost K)) (d_price_of : Def P w K mg base 1 "price_of" ["net", "steps"] (spPriceOf K)) : Def P w K mg base 2 "cheapest_ring" ["net"] (spCheapest K) := by
  refine ⟨f, fd, F.ok sc_cheapest_ring (fun vs H Q E h => ?_) (fun cdv A outer s H vs Q E hr h => ?_), g, F.kp, bd_cheapest_ring F⟩
  · obtain ⟨a, ws, qs, rfl, _⟩ := h
    rfl
  · obtain ⟨a, ws, qs, rfl, N, ok, q⟩ := h
    have nd := sc_cheapest_ring.nd
    have hu := hu_of hr
    refine ⟨_, PSs.nox (pss_cons (ps_set (i := 1) nd rfl (Or.inl rfl) pe_non)
 (pss_cons (ps_for PassesOwn.never rfl (pi_listK K (pe_own d_rings hr (by decide) (pa_cons (pv 0) pa_nil))) (pg_name (i := 2) nd rfl (Or.inl rfl))
  (pss_one (ps_if (PW.pt (pw_and (pt_cmpR op_le (pe_own d_steps_cost hr (by decide) (pa_cons (pv 0) (pa_cons (pv 2) pa_nil))) pe_int (nomark _)) (pw_and1 (PW.pt (pw_or (pt_cmpR op_isN (pv 1) pe_non (nomark _)) (pw_or1 (pt_cmpR op_lt (pe_own d_price_of hr (by decide) (pa_cons (pv 0) (pa_cons (pv 2) pa_nil))) (pe_own d_price_of hr (by decide) (pa_cons (pv 0) (pa_cons (pv 1) pa_nil))) (nomark _))))))))
  (pss_one (ps_set (i := 1) nd rfl (Or.inl rfl) (pv 2)))
  pss_nil)))
 (pss_one (ps_ret (pv 1))))), ?_⟩
    refine ⟨_, rfl, a, ws, qs, rfl, N, ok, fun H1 p bs L s1 np hp pL pe => ?_⟩
    have N1 := N.same s1
    refine ⟨p, rfl, ⟨_, sql hp⟩, for_list (K := K) (a := p) (xs := bs.map V.ref) (fun i σ' H' => ∃ (v v2 : _), σ' = [some (.ref a), some v, v2] ∧ Same H1 H' ∧ Best K H' qs (L.take i) L v)
      ⟨.non, none, rfl, Same.rfl, .inl ⟨rfl, fun _ h => by simp at h⟩⟩ (fun i σ' H' _ ⟨_, _, _, s', _⟩ => sql (s' _ _ hp)) ?_ ?_⟩
    · rintro i y σ' H' hi ⟨v, v2, rfl, sm, hb⟩
      obtain ⟨b, x, rfl, hx, hbx⟩ := part_at pL hi
      have hxa := pe.mem_iff.mp (mem_at hx)
      have hx5 := (ring_rows ok.net hxa).2
      have hw5 := ok.w5
      refine ⟨_, rfl, _, rfl, a, b, ws, qs, x, rfl, N1.same sm, ok, hbx.ts (TS_.of sm), (ring_rows ok.net hxa).1, fun H2 s2 => ?_⟩
      have sm2 := sm.trans s2
      refine ⟨_, _, rfl, rfl, _, rfl, ite2 (fun h1 => ?_) (fun h1 => ?_)⟩
      · have e1 : JM.cost x ≤ 0 := of_decide_eq_true h1
        rcases hb with ⟨rfl, hno⟩ | ⟨t, l, rfl, hl, hlL, hlc, hbest⟩
        · refine ⟨_, rfl, rfl, _, rfl, ?_⟩
          refine ⟨_, rfl, _, _, rfl, sm2, .inr ⟨b, x, rfl, hbx.ts (TS_.of sm2), mem_at hx, e1, fun l' hl' hc => ?_⟩⟩
          rw [take_next hx] at hl'
          rcases List.mem_append.mp hl' with k | k
          · exact absurd hc (hno _ k)
          · rw [List.mem_singleton.mp k]
            exact Int.le_refl _
        · have hla := pe.mem_iff.mp hlL
          have hl5 := (ring_rows ok.net hla).2
          refine ⟨_, rfl, rfl, _, rfl, ?_⟩
          refine ⟨_, rfl, _, rfl, a, b, ws, qs, x, rfl, N1.same sm2, ok, hbx.ts (TS_.of sm2), (ring_rows ok.net hxa).1, by omega, fun H3 s3 => ?_⟩
          have sm3 := sm2.trans s3
          refine ⟨_, rfl, _, rfl, a, t, ws, qs, l, rfl, N1.same sm3, ok, hl.ts (TS_.of (s2.trans s3)), (ring_rows ok.net hla).1, by omega, fun H4 s4 => ?_⟩
          have sm4 := sm3.trans s4
          refine ⟨_, _, rfl, rfl, _, rfl, ite2 (fun h2 => ?_) (fun h2 => ?_)⟩
          · have e2 : JM.price x < JM.price l := of_decide_eq_true h2
            refine ⟨_, rfl, _, _, rfl, sm4, .inr ⟨b, x, rfl, hbx.ts (TS_.of sm4), mem_at hx, e1, fun l' hl' hc => ?_⟩⟩
            rw [take_next hx] at hl'
            rcases List.mem_append.mp hl' with k | k
            · have := hbest _ k hc
              omega
            · rw [List.mem_singleton.mp k]
              exact Int.le_refl _
          · have e2 : ¬ JM.price x < JM.price l := fun z => h2 (decide_eq_true z)
            refine ⟨_, _, rfl, sm4, .inr ⟨t, l, rfl, hl.ts (TS_.of ((s2.trans s3).trans s4)), hlL, hlc, fun l' hl' hc => ?_⟩⟩
            rw [take_next hx] at hl'
            rcases List.mem_append.mp hl' with k | k
            · exact hbest _ k hc
            · rw [List.mem_singleton.mp k]
              omega
      · have e1 : ¬ JM.cost x ≤ 0 := fun z => h1 (decide_eq_true z)
        refine iteF ?_
        refine ⟨_, _, rfl, sm2, ?_⟩
        rcases hb with ⟨rfl, hno⟩ | ⟨t, l, rfl, hl, hlL, hlc, hbest⟩
        · refine .inl ⟨rfl, fun l' hl' => ?_⟩
          rw [take_next hx] at hl'
          rcases List.mem_append.mp hl' with k | k
          · exact hno _ k
          · rw [List.mem_singleton.mp k]
            exact e1
        · refine .inr ⟨t, l, rfl, hl.ts (TS_.of s2), hlL, hlc, fun l' hl' hc => ?_⟩
          rw [take_next hx] at hl'
          rcases List.mem_append.mp hl' with k | k
          · exact hbest _ k hc
          · rw [List.mem_singleton.mp k] at hc
            exact absurd hc e1
    · rintro σ' H' ⟨v, v2, rfl, sm, hb⟩
      rw [take_all (part_len pL)] at hb
      refine ⟨_, rfl, q H' v (s1.trans sm) ?_⟩
      rcases hb with ⟨rfl, hno⟩ | ⟨t, l, rfl, hl, hlL, hlc, hbest⟩
      · exact .inl ⟨rfl, fun l' hl' => hno l' (pe.mem_iff.mpr hl')⟩
      · exact .inr ⟨t, l, rfl, hl, pe.mem_iff.mp hlL, hlc, fun l' hl' => hbest l' (pe.mem_iff.mpr hl')⟩
theorem d_fewest_drops {f : Addr} {fd : FuncData} (F : FnP K "fewest_drops" "fewest_drops" s_fewest_drops f fd) (g : mg "fewest_drops" = some (.ref f)) (M : Free mg) (d_cheapest_ring : Def P w K mg base 2 "cheapest_ring" ["net"] (spCheapest K)) (d_price_of : Def P w K mg base 1 "price_of" ["net", "steps"] (spPriceOf K)) : Def P w K mg base 3 "fewest_drops" ["net"] (spFewest K) := by
  refine ⟨f, fd, F.ok sc_fewest_drops (fun vs H Q E h => ?_) (fun cdv A outer s H vs Q E hr h => ?_), g, F.kp, bd_fewest_drops F⟩
  · obtain ⟨a, ws, qs, rfl, _⟩ := h
    rfl
  · obtain ⟨a, ws, qs, rfl, N, ok, q⟩ := h
    have nd := sc_fewest_drops.nd
    have hu := hu_of hr
    refine ⟨_, PSs.nox (pss_cons (ps_set (i := 1) nd rfl (Or.inl rfl) (pe_own d_cheapest_ring hr (by decide) (pa_cons (pv 0) pa_nil)))
 (pss_one (ps_ret (pe_ifExp (pt_cmpR op_isN (pv 1) pe_non (nomark _)) pe_non (pe_own d_price_of hr (by decide) (pa_cons (pv 0) (pa_cons (pv 1) pa_nil))))))), ?_⟩
    refine ⟨_, rfl, a, ws, qs, rfl, N, ok, fun H1 v s1 hb => ?_⟩
    have hw5 := ok.w5
    rcases hb with ⟨rfl, hno⟩ | ⟨t, l, rfl, hl, hlL, hlc, hbest⟩
    · refine ⟨_, rfl, rfl, _, rfl, ?_⟩
      refine q H1 none s1 ?_
      rintro c ⟨l, hl, h0, _⟩
      exact hno l hl h0
    · refine ⟨_, rfl, rfl, _, rfl, ?_⟩
      have := (ring_rows ok.net hlL).2
      refine ⟨_, rfl, _, rfl, a, t, ws, qs, l, rfl, N.same s1, ok, hl, (ring_rows ok.net hlL).1, by omega, fun H2 s2 => ?_⟩
      refine q H2 (some (JM.price l)) (s1.trans s2) ⟨⟨l, hlL, hlc, rfl⟩, ?_⟩
      rintro c ⟨l', hl', h0, rfl⟩
      exact hbest l' hl' h0
end
end JL
set_option Elab.async false
set_option linter.all false
set_option maxRecDepth 100000
set_option maxHeartbeats 4000000
/-! lowered, zeros, earliest -/
namespace JL
open PySem PySem.Spec PyProof.Rows L2 JB
/-- the dict's numbers -/
def Nd (kvs : List (Key × V)) (g : Str → Option Int) : Prop := ∀ x, dv kvs x = (g x).map V.int
theorem Nd.put {kvs : List (Key × V)} {g : Str → Option Int} {x : Str} {v : Int} (h : Nd kvs g) : Nd (putK kvs (.inr x) (.int v)) (JM.set1 g x (some v)) := fun y => by
  rw [dv_put]
  unfold JM.set1
  by_cases e : y = x
  · rw [if_pos e, if_pos e]
    rfl
  · rw [if_neg e, if_neg e, h y]
theorem dc_list {K : PySem.W.Frag} {a : Addr} {xs : List V} {g : TG} {tt : TT} {tk tv : TE} {vs : List Nat} {σ : L2.St} {H1 : Hp} {D : Addr} {Qd : Hp → Prop} (Pv : Nat → Hp → Prop) (h0 : Pv 0 (upd H1 D (.dK []))) (hl : ∀ i H, i ≤ xs.length → Pv i H → SqL K H a xs)
    (hs : ∀ i x H, xs[i]? = some x → Pv i H → g x (wipe σ vs) H fun σ2 H2 => wipe σ2 vs = wipe σ vs ∧ tt σ2 H2 fun b H3 =>
      if b = true then tk σ2 H3 fun y H4 => tv σ2 H4 fun z H5 => ∃ kvs k, y = kV k ∧ H5 D = some (.dK kvs) ∧ kvs.length < sizeLine ∧ Pv (i + 1) (upd H5 D (.dK (putK kvs k z))) else Pv (i + 1) H3) (hd : ∀ H, Pv xs.length H → Qd H) :
    ∃ W : Nat → Nat → Hp → Prop, (∃ m, W 0 m (upd H1 D (.dK []))) ∧ ∀ i m H, W i m H →
      ((Itl K a).stop i H ∧ Qd H) ∨ ((Itl K a).go i H ∧ ∃ Nx : Hp → Prop, (∀ H', Nx H' → ∃ m', m' < m ∧ W (i + 1) m' H') ∧ ∀ x H', (Itl K a).yld i H x H' → g x (wipe σ vs) H' fun σ2 H2 => wipe σ2 vs = wipe σ vs ∧ tt σ2 H2 fun b H3 =>
        if b = true then tk σ2 H3 fun y H4 => tv σ2 H4 fun z H5 => ∃ kvs k, y = kV k ∧ H5 D = some (.dK kvs) ∧ kvs.length < sizeLine ∧ Nx (upd H5 D (.dK (putK kvs k z))) else Nx H3) := by
  refine ⟨fun i m H => m = xs.length - i ∧ i ≤ xs.length ∧ Pv i H, ⟨xs.length, by simp, Nat.zero_le _, h0⟩, ?_⟩
  rintro i m H ⟨rfl, hi, p⟩
  have q := hl i H hi p
  by_cases hlt : i < xs.length
  · refine .inr ⟨⟨xs, xs[i], q, by simp [hlt]⟩, Pv (i + 1), fun H' p' => ⟨xs.length - (i + 1), by omega, rfl, hlt, p'⟩, fun x H' y => ?_⟩
    obtain ⟨e, y⟩ := y
    subst e
    exact hs i x _ (y xs q) p
  · have e : i = xs.length := by omega
    subst e
    exact .inl ⟨⟨xs, q, Nat.le_refl _⟩, hd H p⟩
def spLowered (K : PySem.W.Frag) : Sp := fun vs H Q _ => ∃ (a d : Addr) (ws : List Str) (qs : List Rw) (kvs : List (Key × V)) (g : Str → Option Int), vs = [.ref a, .ref d] ∧ NetAt K H a ws qs ∧ NetOk ws qs ∧ H d = some (.dK kvs) ∧ Nd kvs g ∧ kvs.length ≤ 100 ∧
  ∀ (H' : Hp) (p : Addr) (kvs' : List (Key × V)), Same H H' → H p = none → H' p = some (.dK kvs') → Nd kvs' (JM.lowIter (JM.arcs qs) g ws.length) → Q (.ref p) H'
def spZeros (K : PySem.W.Frag) : Sp := fun vs H Q _ => ∃ (a : Addr) (ws : List Str) (qs : List Rw), vs = [.ref a] ∧ NetAt K H a ws qs ∧ NetOk ws qs ∧
  ∀ (H' : Hp) (p : Addr) (zs : List Str), Same H H' → H p = none → H' p = some (.lst (zs.map V.str)) → (∀ x, x ∈ zs ↔ JM.Zero ws qs x) → zs.length ≤ 5 → Q (.ref p) H'
def IsEarliest (ws : List Str) (qs : List Rw) (f : Str → Option Int) : Prop := ∃ (Z : Str → Prop) (_ : DecidablePred Z), (∀ x, Z x ↔ JM.Zero ws qs x) ∧ f = JM.lowIter (JM.arcs qs) (JM.zeroAt Z) ws.length
def spEarliest (K : PySem.W.Frag) : Sp := fun vs H Q _ => ∃ (a : Addr) (ws : List Str) (qs : List Rw), vs = [.ref a] ∧ NetAt K H a ws qs ∧ NetOk ws qs ∧
  ∀ (H' : Hp) (p : Addr) (f : Str → Option Int), Same H H' → H' p = some (.tup (ws.map fun x => optV (f x))) → IsEarliest ws qs f → Q (.ref p) H'
theorem arcs_mem_take {qs : List Rw} {i : Nat} {p : Rb} (h : (JM.arcs qs)[i]? = some p) : p.1 ∈ qs := JM.mem_arcs.mp (mem_at h)
section
variable {P : Program} {w : World} {K : PySem.W.Frag} {mg : Str → Option Value} {base : Heap}
theorem d_lowered {f : Addr} {fd : FuncData} (F : FnP K "lowered" "lowered" s_lowered f fd) (g : mg "lowered" = some (.ref f)) (M : Free mg) (d_arcs : Def P w K mg base 1 "arcs" ["net"] (spArcs K)) : Def P w K mg base 2 "lowered" ["net", "row"] (spLowered K) := by
  refine ⟨f, fd, F.ok sc_lowered (fun vs H Q E h => ?_) (fun cdv A outer s H vs Q E hr h => ?_), g, F.kp, bd_lowered F⟩
  · obtain ⟨a, d, ws, qs, kvs, g, rfl, _⟩ := h
    rfl
  · obtain ⟨a, d, ws, qs, kvs0, g0, rfl, ⟨aw, aq, bs, N⟩, ok, hd, hg0, hk0, q⟩ := h
    have nd := sc_lowered.nd
    have hu := hu_of hr
    have hw5 := ok.w5
    have hq7 := ok.q7
    refine ⟨_, PSs.nox (pss_cons (ps_set (i := 2) nd rfl (Or.inl rfl) (pe_callTy call_dictD rfl M.dict bt_dict (pa_cons (pv 1) pa_nil)))
 (pss_cons (ps_for PassesOwn.never rfl (pi_tupK K (pe_ix (ix_tupK K) (pv 0) pe_int (fun _ _ => rfl))) (pg_name (i := 3) nd rfl (Or.inl rfl))
  (pss_one (ps_for PassesOwn.never rfl (pi_listK K (pe_own d_arcs hr (by decide) (pa_cons (pv 0) pa_nil))) (pg_tupK K (n := 5) rfl (pgs_cons (pg_name (i := 4) nd rfl (Or.inl rfl)) (pgs_cons (pg_name (i := 5) nd rfl (Or.inl rfl)) (pgs_cons (pg_name (i := 6) nd rfl (Or.inl rfl)) (pgs_cons (pg_name (i := 7) nd rfl (Or.inl rfl)) (pgs_cons (pg_name (i := 8) nd rfl (Or.inl rfl)) pgs_nil))))))
  (pss_cons (ps_if (pt_cmp (pc_dnotin hu (pv 5) (pv 2)))
  (pss_one ps_continue)
  pss_nil)
 (pss_cons (ps_set (i := 9) nd rfl (Or.inl rfl) (pe_callB (call_max2 rfl) rfl M.max bt_max (pa_cons pe_int (pa_cons (pe_op op_add (pe_dget hu (pv 2) (pv 5) (fun _ _ => rfl)) (pv 6)) pa_nil))))
 (pss_one (ps_if (pt_mid (PW.pt (pw_or (pt_cmp (pc_dnotin hu (pv 4) (pv 2))) (pw_or1 (pt_cmpR op_lt (pv 9) (pe_dget hu (pv 2) (pv 4) (fun _ _ => rfl)) (nomark _))))))
  (pss_one (ps_dput hu (pv 2) (pv 4) (pv 9) rfl))
  pss_nil)))))))
 (pss_one (ps_ret (pv 2))))), ?_⟩
    refine ⟨_, rfl, d, kvs0, rfl, .inl hd, fun p np => ?_⟩
    have N1 := N.same (same_new (o := .dK kvs0) np)
    refine ⟨_, rfl, a, _, 0, _, rfl, rfl, N1.top, rfl, aw, rfl, ⟨_, N1.wk⟩, for_tup (K := K) (a := aw) (xs := ws.map V.str) (fun i σ' H' => ∃ (kvs : List (Key × V)) (v3 v4 v5 v6 v7 v8 v9 : Option V), σ' = [some (.ref a), some (.ref d), some (.ref p), v3, v4, v5, v6, v7, v8, v9] ∧ Same H H' ∧ H' p = some (.dK kvs) ∧ Nd kvs (JM.lowIter (JM.arcs qs) g0 i) ∧ kvs.length ≤ 100 + 14 * i)
      ⟨kvs0, none, none, none, none, none, none, none, rfl, same_new np, upd_same, hg0, by omega⟩ (fun i σ' H' _ ⟨_, _, _, _, _, _, _, _, _, s', _⟩ => (N.same s').wk) ?_ ?_⟩
    · rintro i y σ' H' hi ⟨kvs, v3, v4, v5, v6, v7, v8, v9, rfl, sm, hp, hn, hl⟩
      have hil : i < ws.length := by
        have := (List.getElem?_eq_some_iff.mp hi).1
        rw [List.length_map] at this
        exact this
      refine ⟨_, rfl, a, ws, qs, rfl, ⟨aw, aq, bs, N.same sm⟩, ok, fun H1 l cs s1 nl hpl pa => ?_⟩
      have sm1 := sm.trans s1
      refine ⟨l, rfl, ⟨_, sql hpl⟩, for_list (K := K) (a := l) (xs := cs.map V.ref) (fun j σ' H2 => ∃ (kvs : List (Key × V)) (v4 v5 v6 v7 v8 v9 : Option V), σ' = [some (.ref a), some (.ref d), some (.ref p), some y, v4, v5, v6, v7, v8, v9] ∧ Same H H2 ∧ H2 l = some (.lst (cs.map V.ref)) ∧ Paired (ArcAt K H2) cs (JM.arcs qs) ∧ H2 p = some (.dK kvs) ∧ Nd kvs (((JM.arcs qs).take j).foldl JM.lowStep (JM.lowIter (JM.arcs qs) g0 i)) ∧ kvs.length ≤ 100 + 14 * i + j)
        ⟨kvs, _, _, _, _, _, _, rfl, sm1, hpl, pa, s1 _ _ hp, hn, by omega⟩ (fun j σ' H2 _ ⟨_, _, _, _, _, _, _, _, _, hpl', _⟩ => sql hpl') ?_ ?_⟩
      · clear pa hpl hn hl hp s1
        rintro j z σ' H2 hj ⟨kvs, v4, v5, v6, v7, v8, v9, rfl, sm, hpl, pa, hp, hn, hl⟩
        obtain ⟨b, e, rfl, he, hb⟩ := part_at pa hj
        have hjl : j < 14 := by
          have := (List.getElem?_eq_some_iff.mp he).1
          rw [arcs_len] at this
          omega
        have ft : ((JM.arcs qs).take (j + 1)).foldl JM.lowStep (JM.lowIter (JM.arcs qs) g0 i) = JM.lowStep (((JM.arcs qs).take j).foldl JM.lowStep (JM.lowIter (JM.arcs qs) g0 i)) e := by
          rw [take_next he, List.foldl_append]
          rfl
        rw [ft]
        generalize ((JM.arcs qs).take j).foldl JM.lowStep (JM.lowIter (JM.arcs qs) g0 i) = gg at hn
        refine ⟨b, _, rfl, hb, rfl, _, _, rfl, _, _, rfl, _, _, rfl, _, _, rfl, _, _, rfl, rfl, ?_⟩
        refine ⟨_, rfl, _, rfl, p, _, rfl, dget' hp, _, rfl, ?_⟩
        cases eg : gg (JM.dst e) with
        | none =>
          rw [hn, eg]
          refine ⟨kvs, _, _, _, _, _, _, rfl, sm, hpl, pa, hp, ?_, by omega⟩
          unfold JM.lowStep
          rw [eg]
          exact hn
        | some v =>
          rw [hn, eg]
          refine ⟨_, rfl, _, rfl, p, .int v, rfl, dget hp (by rw [hn, eg]; rfl), _, rfl, v, JM.cst e, rfl, rfl, 0, v + JM.cst e, rfl, ?_⟩
          have emax : (if v + JM.cst e > 0 then v + JM.cst e else 0) = max 0 (v + JM.cst e) := by
            by_cases h : v + JM.cst e > 0
            · rw [if_pos h]; omega
            · rw [if_neg h]; omega
          rw [emax]
          have estep : JM.lowStep gg e = match gg (JM.src e) with
            | none => JM.set1 gg (JM.src e) (some (max 0 (v + JM.cst e)))
            | some u => if max 0 (v + JM.cst e) < u then JM.set1 gg (JM.src e) (some (max 0 (v + JM.cst e))) else gg := by
            unfold JM.lowStep
            rw [eg] <;> rfl
          have hput := dput (v := .int (max 0 (v + JM.cst e))) (x := JM.src e) hp (by omega)
          have hnew : Nd (putK kvs (.inr (JM.src e)) (.int (max 0 (v + JM.cst e)))) (JM.set1 gg (JM.src e) (some (max 0 (v + JM.cst e)))) := hn.put
          have hlen := length_putK kvs (.inr (JM.src e)) (V.int (max 0 (v + JM.cst e)))
          have hpla : upd H2 p (.dK (putK kvs (.inr (JM.src e)) (.int (max 0 (v + JM.cst e))))) l = some (.lst (cs.map V.ref)) := by
            rw [upd_ne (fun e => by rw [e, hp] at hpl; cases hpl)]
            exact hpl
          have hpa2 : Paired (ArcAt K (upd H2 p (.dK (putK kvs (.inr (JM.src e)) (.int (max 0 (v + JM.cst e))))))) cs (JM.arcs qs) := parc_ts pa (TS_.dk hp)
          refine ⟨fun c H' => H' = H2 ∧ c = match gg (JM.src e) with
            | none => true
            | some u => decide (max 0 (v + JM.cst e) < u), ?_, ?_⟩
          · cases es : gg (JM.src e) with
            | none =>
              refine ⟨_, rfl, _, rfl, p, _, rfl, dget' hp, _, rfl, ?_⟩
              rw [hn, es]
              exact ⟨rfl, rfl⟩
            | some u =>
              refine ⟨_, rfl, _, rfl, p, _, rfl, dget' hp, _, rfl, ?_⟩
              rw [hn, es]
              exact ⟨_, rfl, _, rfl, _, rfl, p, .int u, rfl, dget hp (by rw [hn, es]; rfl), _, _, rfl, rfl, _, rfl, rfl, rfl⟩
          · rintro c H' ⟨rfl, rfl⟩
            cases es : gg (JM.src e) with
            | none =>
              exact ⟨_, rfl, _, rfl, _, rfl, p, _, rfl, hput, _, _, _, _, _, _, _, rfl, same_mut sm np, hpla, hpa2, upd_same, by rw [estep, es]; exact hnew, by omega⟩
            | some u =>
              refine ite2 (fun h1 => ?_) (fun h1 => ?_)
              · have e4 : JM.lowStep gg e = JM.set1 gg (JM.src e) (some (max 0 (v + JM.cst e))) := by
                  rw [estep, es]
                  exact if_pos (of_decide_eq_true h1)
                exact ⟨_, rfl, _, rfl, _, rfl, p, _, rfl, hput, _, _, _, _, _, _, _, rfl, same_mut sm np, hpla, hpa2, upd_same, by rw [e4]; exact hnew, by omega⟩
              · have e4 : JM.lowStep gg e = gg := by
                  rw [estep, es]
                  exact if_neg (fun z => h1 (decide_eq_true z))
                exact ⟨kvs, _, _, _, _, _, _, rfl, sm, hpl, pa, hp, by rw [e4]; exact hn, by omega⟩
      · rintro σ' H2 ⟨kvs, v4, v5, v6, v7, v8, v9, rfl, sm, hpl, pa, hp, hn, hl⟩
        rw [take_all (part_len pa)] at hn
        have h14 : (cs.map V.ref).length ≤ 14 := by rw [part_len pa, arcs_len]; omega
        exact ⟨kvs, _, _, _, _, _, _, _, rfl, sm, hp, hn, by omega⟩
    · rintro σ' H' ⟨kvs, v3, v4, v5, v6, v7, v8, v9, rfl, sm, hp, hn, hl⟩
      rw [List.length_map] at hn
      exact ⟨_, rfl, q H' p kvs sm np hp hn⟩
theorem d_zeros {f : Addr} {fd : FuncData} (F : FnP K "zeros" "zeros" s_zeros f fd) (g : mg "zeros" = some (.ref f)) (M : Free mg) (d_arcs : Def P w K mg base 1 "arcs" ["net"] (spArcs K)) (d_lowered : Def P w K mg base 2 "lowered" ["net", "row"] (spLowered K)) : Def P w K mg base 3 "zeros" ["net"] (spZeros K) := by
  refine ⟨f, fd, F.ok sc_zeros (fun vs H Q E h => ?_) (fun cdv A outer s H vs Q E hr h => ?_), g, F.kp, bd_zeros F⟩
  · obtain ⟨a, ws, qs, rfl, _⟩ := h
    rfl
  · obtain ⟨a, ws, qs, rfl, ⟨aw, aq, bs, N⟩, ok, q⟩ := h
    have nd := sc_zeros.nd
    have hu := hu_of hr
    have hw5 := ok.w5
    have hq7 := ok.q7
    refine ⟨_, PSs.nox (pss_cons (ps_set (i := 1) nd rfl (Or.inl rfl) (pe_lst pa_nil))
 (pss_cons (ps_for PassesOwn.never rfl (pi_tupK K (pe_ix (ix_tupK K) (pv 0) pe_int (fun _ _ => rfl))) (pg_name (i := 2) nd rfl (Or.inl rfl))
  (pss_cons (ps_set (i := 3) nd rfl (Or.inl rfl) (pe_own d_lowered hr (by decide) (pa_cons (pv 0) (pa_cons (pe_disp (pps_cons (pv 2) pe_int pps_nil) (by rfl) (by rfl) (fun z => by cases z) (by decide)) pa_nil))))
 (pss_one (ps_for PassesOwn.never rfl (pi_listK K (pe_own d_arcs hr (by decide) (pa_cons (pv 0) pa_nil))) (pg_tupK K (n := 5) rfl (pgs_cons (pg_name (i := 4) nd rfl (Or.inl rfl)) (pgs_cons (pg_name (i := 5) nd rfl (Or.inl rfl)) (pgs_cons (pg_name (i := 6) nd rfl (Or.inl rfl)) (pgs_cons (pg_name (i := 7) nd rfl (Or.inl rfl)) (pgs_cons (pg_name (i := 8) nd rfl (Or.inl rfl)) pgs_nil))))))
  (pss_one (ps_if (pt_mid (PW.pt (pw_and (pt_cmpR op_eq (pv 4) (pv 2) (nomark _)) (pw_and (pt_cmpR (op_ninK K) (pv 2) (pv 1) (by rfl)) (pw_and (pt_cmp (pc_din hu (pv 5) (pv 3))) (pw_and1 (pt_cmpR op_le (pe_op op_add (pe_dget hu (pv 3) (pv 5) (fun _ _ => rfl)) (pv 6)) pe_int (nomark _))))))))
  (pss_one (ps_expr (pe_bmK K PySem.F.plainAttrs_list PySem.F.slot_list_append PySem.F.type_list_append mt_append (pv 1) (pa_cons (pv 2) pa_nil))))
  pss_nil))))))
 (pss_one (ps_ret (pv 1))))), ?_⟩
    refine ⟨sz (by simp), fun p np => ?_⟩
    have N1 := N.same (same_new (o := .lst []) np)
    refine ⟨_, rfl, a, _, 0, _, rfl, rfl, N1.top, rfl, aw, rfl, ⟨_, N1.wk⟩, for_tup (K := K) (a := aw) (xs := ws.map V.str) (fun i σ' H' => ∃ (zs : List Str) (v2 v3 v4 v5 v6 v7 v8 : Option V), σ' = [some (.ref a), some (.ref p), v2, v3, v4, v5, v6, v7, v8] ∧ Same H H' ∧ H' p = some (.lst (zs.map V.str)) ∧ (∀ x, x ∈ zs ↔ x ∈ ws.take i ∧ JM.Zero ws qs x) ∧ zs.length ≤ i)
      ⟨[], none, none, none, none, none, none, none, rfl, same_new np, upd_same, fun x => by simp, Nat.le_refl _⟩ (fun i σ' H' _ ⟨_, _, _, _, _, _, _, _, _, s', _⟩ => (N.same s').wk) ?_ ?_⟩
    · rintro i y σ' H' hi ⟨zs, v2, v3, v4, v5, v6, v7, v8, rfl, sm, hp, hz, hzl⟩
      obtain ⟨x, hx, rfl⟩ := str_at hi
      have hxw : x ∈ ws := mem_at hx
      have hil : i < ws.length := (List.getElem?_eq_some_iff.mp hx).1
      have nx : x ∉ zs := fun z => by
        have h2 := ((hz x).mp z).1
        have asc := ok.net.asc
        rw [split_at hx] at asc
        exact slt_sto.irr x ((List.pairwise_append.mp asc).2.2 x h2 x (List.mem_cons_self ..))
      refine ⟨_, rfl, fun d0 nd0 => ⟨_, rfl, upd_same, [(.inr x, .int 0)], rfl, by simp, ?_⟩⟩
      have ed : upd (upd H' d0 (.dK [])) d0 (.dK (mergeK [] [(.inr x, .int 0)])) = upd H' d0 (.dK [(.inr x, .int 0)]) := by
        funext z
        by_cases e : z = d0
        · rw [e, upd_same, upd_same]; rfl
        · rw [upd_ne e, upd_ne e, upd_ne e]
      rw [ed]
      have sm1 : Same H (upd H' d0 (.dK [(.inr x, .int 0)])) := Same.new sm nd0
      have hp1 := new_keep (o := .dK [(.inr x, .int 0)]) nd0 hp
      refine ⟨a, d0, ws, qs, [(.inr x, .int 0)], JM.only x, rfl, ⟨aw, aq, bs, N.same sm1⟩, ok, upd_same, fun y => ?_, by simp, fun H2 d2 kvs s2 nd2 hd2 hn => ?_⟩
      · unfold dv JM.only
        by_cases e : y = x
        · rw [if_pos e, valV_pos (by rw [e])]; rfl
        · rw [if_neg e, valV_neg (fun z => e (Sum.inr.inj z).symm), valV_nil]; rfl
      have sm2 := sm1.trans s2
      refine ⟨_, rfl, a, ws, qs, rfl, ⟨aw, aq, bs, N.same sm2⟩, ok, fun H3 l cs s3 nl hpl pa => ?_⟩
      have sm3 := sm2.trans s3
      have hp3 := s3 _ _ (s2 _ _ hp1)
      have hd3 := s3 _ _ hd2
      have hpl3 : p ≠ l := fun e => by
        have := s2 _ _ hp1
        rw [e, nl] at this
        cases this
      have hpd : p ≠ d2 := fun e => by
        rw [e, nd2] at hp1
        cases hp1
      refine ⟨l, rfl, ⟨_, sql hpl⟩, for_list (K := K) (a := l) (xs := cs.map V.ref) (fun j σ' H4 => ∃ (zs' : List Str) (v4 v5 v6 v7 v8 : Option V), σ' = [some (.ref a), some (.ref p), some (.str x), some (.ref d2), v4, v5, v6, v7, v8] ∧ Same H H4 ∧ H4 l = some (.lst (cs.map V.ref)) ∧ Paired (ArcAt K H4) cs (JM.arcs qs) ∧ H4 d2 = some (.dK kvs) ∧ H4 p = some (.lst (zs'.map V.str)) ∧
          ((zs' = zs ∧ ∀ e ∈ (JM.arcs qs).take j, ¬ (JM.src e = x ∧ ∃ v, JM.lowIter (JM.arcs qs) (JM.only x) ws.length (JM.dst e) = some v ∧ v + JM.cst e ≤ 0)) ∨ (zs' = zs ++ [x] ∧ JM.Zero ws qs x)))
        ⟨zs, _, _, _, _, _, rfl, sm3, hpl, pa, hd3, hp3, .inl ⟨rfl, fun e he => by simp at he⟩⟩ (fun j σ' H4 _ ⟨_, _, _, _, _, _, _, _, hpl', _⟩ => sql hpl') ?_ ?_⟩
      · clear hp3 hd3 sm3 sm2 sm1 hp1 hp s2 s3 hpl pa sm hd2
        rintro j z σ' H4 hj ⟨zs', v4, v5, v6, v7, v8, rfl, sm, hpl, pa, hd, hp, hor⟩
        obtain ⟨b, e, rfl, he, hb⟩ := part_at pa hj
        have heq := arcs_mem_take he
        have hzl' : zs'.length ≤ zs.length + 1 := by
          rcases hor with ⟨rfl, _⟩ | ⟨rfl, _⟩
          · omega
          · simp
        refine ⟨b, _, rfl, hb, rfl, _, _, rfl, _, _, rfl, _, _, rfl, _, _, rfl, _, _, rfl, rfl, ?_⟩
        refine ⟨fun c H' => H' = H4 ∧ (c = true ↔ JM.src e = x ∧ x ∉ zs' ∧ ∃ v, JM.lowIter (JM.arcs qs) (JM.only x) ws.length (JM.dst e) = some v ∧ v + JM.cst e ≤ 0), ?_, ?_⟩
        · refine ⟨_, rfl, _, rfl, rfl, _, rfl, ite2 (fun h1 => ?_) (fun h1 => ?_)⟩
          · have e1 : JM.src e = x := V.str.inj (of_decide_eq_true h1)
            refine ⟨_, rfl, _, rfl, p, _, rfl, .inl (sql hp), rfl, flat_strs _, _, rfl, ite2 (fun h2 => ?_) (fun h2 => ?_)⟩
            · have e2 : x ∉ zs' := by
                have h2' : (!inV (.str x) (zs'.map V.str)) = true := h2
                rw [inV_strs, Bool.not_eq_true'] at h2'
                exact of_decide_eq_false h2'
              refine ⟨_, rfl, _, rfl, d2, _, rfl, dget' hd, _, rfl, ?_⟩
              rw [hn]
              cases eg : JM.lowIter (JM.arcs qs) (JM.only x) ws.length (JM.dst e) with
              | none =>
                refine ⟨rfl, ?_⟩
                exact ⟨fun z => (by cases z), fun ⟨_, _, v, hv, _⟩ => by cases hv⟩
              | some v =>
                refine ⟨_, rfl, _, rfl, d2, .int v, rfl, dget hd (by rw [hn, eg]; rfl), _, rfl, v, JM.cst e, rfl, rfl, _, _, rfl, rfl, _, rfl, rfl, ?_⟩
                show decide (v + JM.cst e ≤ 0) = true ↔ _
                rw [decide_eq_true_iff]
                exact ⟨fun k => ⟨e1, e2, v, rfl, k⟩, fun ⟨_, _, v', hv, k⟩ => by rw [Option.some.inj hv]; exact k⟩
            · refine ⟨rfl, ?_⟩
              have e2 : x ∈ zs' := by
                have h2' : ¬ (!inV (.str x) (zs'.map V.str)) = true := h2
                rw [inV_strs, Bool.not_eq_true', Bool.not_eq_false] at h2'
                exact of_decide_eq_true h2'
              exact ⟨fun z => (by cases z), fun ⟨_, k, _⟩ => absurd e2 k⟩
          · refine ⟨rfl, ?_⟩
            have e1 : ¬ JM.src e = x := fun z => h1 (by rw [z]; exact decide_eq_true rfl)
            exact ⟨fun z => (by cases z), fun ⟨k, _⟩ => absurd k e1⟩
        · rintro c H' ⟨rfl, hc⟩
          refine ite2 (fun h1 => ?_) (fun h1 => ?_)
          · obtain ⟨e1, e2, v, hv, hle⟩ := hc.mp h1
            have hzero : JM.Zero ws qs x := ⟨hxw, e, heq, e1, v, hv, hle⟩
            rcases hor with ⟨rfl, hno⟩ | ⟨rfl, _⟩
            · exact ⟨.ref p, rfl, .inl ⟨rfl, _, sql hp⟩, _, rfl, p, _, _, rfl, rfl, hp, szl (by simp; omega), zs' ++ [x], _, _, _, _, _, rfl, same_mut sm np, by rw [upd_ne (Ne.symm hpl3)]; exact hpl, parc_ts pa (TS_.lst hp), by rw [upd_ne (Ne.symm hpd)]; exact hd, by rw [upd_same]; simp, .inr ⟨rfl, hzero⟩⟩
            · exact absurd (by simp) e2
          · refine ⟨zs', _, _, _, _, _, rfl, sm, hpl, pa, hd, hp, ?_⟩
            rcases hor with ⟨rfl, hno⟩ | k
            · refine .inl ⟨rfl, fun e' he' hcc => ?_⟩
              rw [take_next he] at he'
              rcases List.mem_append.mp he' with k | k
              · exact hno e' k hcc
              · rw [List.mem_singleton.mp k] at hcc
                exact h1 (hc.mpr ⟨hcc.1, nx, hcc.2⟩)
            · exact .inr k
      · rintro σ' H4 ⟨zs', v4, v5, v6, v7, v8, rfl, sm, hpl, pa, hd, hp, hor⟩
        rw [take_all (part_len pa)] at hor
        refine ⟨zs', _, _, _, _, _, _, _, rfl, sm, hp, fun y => ?_, ?_⟩
        · rw [take_next hx, List.mem_append]
          rcases hor with ⟨rfl, hno⟩ | ⟨rfl, hzero⟩
          · rw [hz]
            constructor
            · rintro h
              exact ⟨.inl h.1, h.2⟩
            · rintro ⟨h | h, k⟩
              · exact ⟨h, k⟩
              · rw [List.mem_singleton.mp h] at k
                obtain ⟨_, e, he, e1, v, hv, hle⟩ := k
                exact absurd ⟨e1, v, hv, hle⟩ (hno e (JM.mem_arcs.mpr he))
          · rw [List.mem_append, hz]
            constructor
            · rintro (h | h)
              · exact ⟨.inl h.1, h.2⟩
              · exact ⟨.inr h, by rw [List.mem_singleton.mp h]; exact hzero⟩
            · rintro ⟨h | h, k⟩
              · exact .inl ⟨h, k⟩
              · exact .inr h
        · rcases hor with ⟨rfl, _⟩ | ⟨rfl, _⟩
          · omega
          · simp; omega
    · rintro σ' H' ⟨zs, v2, v3, v4, v5, v6, v7, v8, rfl, sm, hp, hz, hzl⟩
      rw [take_all (List.length_map _)] at hz
      rw [List.length_map] at hzl
      exact ⟨_, rfl, q H' p zs sm np hp (fun x => ⟨fun h => ((hz x).mp h).2, fun h => (hz x).mpr ⟨h.1, h⟩⟩) (by omega)⟩
theorem d_earliest {f : Addr} {fd : FuncData} (F : FnP K "earliest" "earliest" s_earliest f fd) (g : mg "earliest" = some (.ref f)) (M : Free mg) (d_zeros : Def P w K mg base 3 "zeros" ["net"] (spZeros K)) (d_lowered : Def P w K mg base 2 "lowered" ["net", "row"] (spLowered K)) : Def P w K mg base 4 "earliest" ["net"] (spEarliest K) := by
  refine ⟨f, fd, F.ok sc_earliest (fun vs H Q E h => ?_) (fun cdv A outer s H vs Q E hr h => ?_), g, F.kp, bd_earliest F⟩
  · obtain ⟨a, ws, qs, rfl, _⟩ := h
    rfl
  · obtain ⟨a, ws, qs, rfl, ⟨aw, aq, bs, N⟩, ok, q⟩ := h
    have nd := sc_earliest.nd
    have hu := hu_of hr
    have hw5 := ok.w5
    refine ⟨_, PSs.nox (pss_cons (ps_set (i := 1) nd rfl (Or.inr rfl) (pe_own d_lowered hr (by decide) (pa_cons (pv 0) (pa_cons (pe_dc (own := [("worker", 2)]) (by rfl) nd (pi_listK K (pe_own d_zeros hr (by decide) (pa_cons (pv 0) pa_nil))) (by exact blkOk_by (by kernel_rfl)) (fun _ _ _ _ _ => (pg_name (i := 2) nd rfl (Or.inl rfl))) (fun _ _ _ _ _ => pts_nil) (fun _ _ _ _ _ => (pv 2)) (fun _ _ _ _ _ => pe_int)) pa_nil))))
 (pss_one (ps_ret (pe_callTy (call_tupleK K) rfl M.tuple bt_tuple (pa_cons (pe_lc (own := [("worker", 2)]) (by rfl) nd (pi_tupK K (pe_ix (ix_tupK K) (pv 0) pe_int (fun _ _ => rfl))) (by exact blkOk_by (by kernel_rfl)) (fun _ _ _ _ _ => (pg_name (i := 2) nd rfl (Or.inl rfl))) (fun _ _ _ _ _ => pts_nil) (fun _ _ _ _ _ => (pe_ifExp (pt_cmp (pc_din hu (pv 2) (pv 1))) (pe_dget hu (pv 1) (pv 2) (fun _ _ => rfl)) pe_non))) pa_nil))))), ?_⟩
    refine ⟨_, rfl, _, rfl, a, ws, qs, rfl, ⟨aw, aq, bs, N⟩, ok, fun H1 p zs s1 np hp hz hzl => ?_⟩
    refine ⟨p, rfl, ⟨_, sql hp⟩, fun D nD => dc_list (K := K) (a := p) (xs := zs.map V.str) (fun i H' => Same H1 H' ∧ ∃ kvs, H' D = some (.dK kvs) ∧ Nd kvs (JM.zeroAt fun x => x ∈ zs.take i) ∧ kvs.length ≤ i)
      ⟨same_new nD, [], upd_same, fun x => by simp [dv_nil, JM.zeroAt], Nat.le_refl _⟩ (fun i H' _ ⟨s', _⟩ => sql (s' _ _ hp)) ?_ ?_⟩
    · rintro i y H' hi ⟨sm, kvs, hD, hn, hl⟩
      obtain ⟨x, hx, rfl⟩ := str_at hi
      have hil : i < zs.length := (List.getElem?_eq_some_iff.mp hx).1
      have := length_putK kvs (.inr x) (V.int 0)
      refine ⟨rfl, _, rfl, kvs, .inr x, rfl, hD, szl (by omega), same_mut sm nD, _, upd_same, fun y => ?_, by omega⟩
      rw [Nd.put hn y]
      unfold JM.set1 JM.zeroAt
      rw [take_next hx]
      by_cases e : y = x
      · rw [if_pos e, if_pos (by rw [e]; simp)]
      · rw [if_neg e]
        by_cases h : y ∈ zs.take i
        · rw [if_pos h, if_pos (List.mem_append_left _ h)]
        · rw [if_neg h, if_neg (fun z => (List.mem_append.mp z).elim h fun k => e (List.mem_singleton.mp k))]
    · rintro H2 ⟨sm, kvs, hD, hn, hl⟩
      rw [take_all (List.length_map _)] at hn
      rw [List.length_map] at hl
      have s2 := s1.trans sm
      refine ⟨a, D, ws, qs, kvs, _, rfl, ⟨aw, aq, bs, N.same s2⟩, ok, hD, hn, by omega, fun H3 d kvs3 s3 nd3 hd3 hn3 => ?_⟩
      have sm3 := s2.trans s3
      have N3 := N.same sm3
      refine ⟨_, rfl, a, _, 0, _, rfl, rfl, N3.top, rfl, aw, rfl, ⟨_, N3.wk⟩, fun R nR => lc_tup (K := K) (a := aw) (xs := ws.map V.str) (fun i H' => Same H3 H' ∧ H' R = some (.lst ((ws.take i).map fun x => optV (JM.lowIter (JM.arcs qs) (JM.zeroAt fun x => x ∈ zs) ws.length x))))
        ⟨same_new nR, upd_same⟩ (fun i H' _ ⟨s', _⟩ => (N3.same s').wk) ?_ ?_⟩
      · rintro i y H' hi ⟨s4, hR⟩
        obtain ⟨x, hx, rfl⟩ := str_at hi
        have hil : i < ws.length := (List.getElem?_eq_some_iff.mp hx).1
        have hd4 := s4 _ _ hd3
        refine ⟨rfl, _, rfl, _, rfl, d, _, rfl, dget' hd4, _, rfl, ?_⟩
        rw [hn3]
        cases eg : JM.lowIter (JM.arcs qs) (JM.zeroAt fun x => x ∈ zs) ws.length x with
        | none =>
          refine ⟨_, hR, szl (by simp; omega), same_mut s4 nR, ?_⟩
          rw [upd_same, take_next hx, List.map_append]
          simp only [List.map_cons, List.map_nil, eg, optV]
        | some v =>
          refine ⟨_, rfl, _, rfl, d, .int v, rfl, dget hd4 (by rw [hn3, eg]; rfl), _, hR, szl (by simp; omega), same_mut s4 nR, ?_⟩
          rw [upd_same, take_next hx, List.map_append]
          simp only [List.map_cons, List.map_nil, eg, optV]
      · rintro H4 ⟨s4, hR⟩
        rw [take_all (List.length_map _)] at hR
        refine ⟨R, _, rfl, .inl ⟨sql hR, fun t nt => ?_⟩⟩
        exact q _ t (JM.lowIter (JM.arcs qs) (JM.zeroAt fun x => x ∈ zs) ws.length) (Same.new (sm3.trans s4) nt) upd_same ⟨fun x => x ∈ zs, inferInstance, hz, rfl⟩
end
end JL
set_option Elab.async false
set_option linter.all false
set_option maxRecDepth 100000
set_option maxHeartbeats 4000000
/-! ring_at, tried, lags_in, lags, never_held -/
namespace JL
open PySem PySem.Spec PyProof.Rows L2 JB
/-- the reasons kept in a dict -/
def Cm (K : PySem.W.Frag) (H : Hp) (kvs : List (Key × V)) (c : Str → Option Rb) : Prop :=
  (∀ x, c x = none → dv kvs x = none) ∧ ∀ x p, c x = some p → ∃ t u, dv kvs x = some (.ref t) ∧ SqT K H t [.str (JM.dst p), .ref u] ∧ StepAt K H u p
theorem Cm.ts {K : PySem.W.Frag} {H H' : Hp} {kvs : List (Key × V)} {c : Str → Option Rb} (h : Cm K H kvs c) (e : TS_ K H H') : Cm K H' kvs c :=
  ⟨h.1, fun x p hp => let ⟨t, u, h1, h2, h3⟩ := h.2 x p hp; ⟨t, u, h1, e _ _ h2, e _ _ h3⟩⟩
theorem Cm.put {K : PySem.W.Frag} {H : Hp} {kvs : List (Key × V)} {c : Str → Option Rb} {x : Str} {p : Rb} {t u : Addr} (h : Cm K H kvs c) (h2 : SqT K H t [.str (JM.dst p), .ref u]) (h3 : StepAt K H u p) : Cm K H (putK kvs (.inr x) (.ref t)) (JM.set1 c x (some p)) := by
  refine ⟨fun y hy => ?_, fun y p' hp => ?_⟩
  · unfold JM.set1 at hy
    by_cases e : y = x
    · rw [if_pos e] at hy
      cases hy
    · rw [if_neg e] at hy
      rw [dv_ne e]
      exact h.1 y hy
  · unfold JM.set1 at hp
    by_cases e : y = x
    · rw [if_pos e] at hp
      obtain rfl := Option.some.inj hp
      rw [e]
      exact ⟨t, u, dv_same, h2, h3⟩
    · rw [if_neg e] at hp
      rw [dv_ne e]
      exact h.2 y p' hp
def spRingAt (K : PySem.W.Frag) : Sp := fun vs H Q _ => ∃ (d : Addr) (x : Str) (kvs : List (Key × V)) (c : Str → Option Rb), vs = [.ref d, .str x] ∧ H d = some (.dK kvs) ∧ Cm K H kvs c ∧ kvs.length ≤ 100 ∧ (∀ i, c (JM.nxts c x i) ≠ none) ∧
  ∀ (H' : Hp) (p : Addr), Same H H' → Q (.ref p) H'
def spTried (K : PySem.W.Frag) : Sp := fun vs H Q _ => ∃ (a : Addr) (ws : List Str) (qs : List Rw), vs = [.ref a, .int (ws.length : Nat)] ∧ NetAt K H a ws qs ∧ NetOk ws qs ∧
  ∀ (H' : Hp) (p : Addr) (v1 v2 : V), Same H H' → SqT K H' p [v1, v2] → ((JM.Never ws qs ∧ ∃ u, v1 = .ref u) ∨ (¬ JM.Never ws qs ∧ v1 = .non)) → Q (.ref p) H'
def spLagsIn (K : PySem.W.Frag) : Sp := fun vs H Q _ => ∃ (a : Addr) (ws : List Str) (qs : List Rw), vs = [.ref a, .int (ws.length : Nat)] ∧ NetAt K H a ws qs ∧ NetOk ws qs ∧
  ∀ (H' : Hp) (v1 : V), Same H H' → ((JM.Never ws qs ∧ ∃ u, v1 = .ref u) ∨ (¬ JM.Never ws qs ∧ v1 = .non)) → Q v1 H'
def spLags (K : PySem.W.Frag) : Sp := fun vs H Q _ => ∃ (a : Addr) (ws : List Str) (qs : List Rw), vs = [.ref a] ∧ NetAt K H a ws qs ∧ NetOk ws qs ∧
  ∀ (H' : Hp) (v1 : V), Same H H' → ((JM.Never ws qs ∧ ∃ u, v1 = .ref u) ∨ (¬ JM.Never ws qs ∧ v1 = .non)) → Q v1 H'
def spNever (K : PySem.W.Frag) : Sp := fun vs H Q _ => ∃ (a : Addr) (ws : List Str) (qs : List Rw), vs = [.ref a] ∧ NetAt K H a ws qs ∧ NetOk ws qs ∧
  ∀ (H' : Hp) (b : Bool), Same H H' → (b = true ↔ JM.Never ws qs) → Q (.bl b) H'
/-- found at fa, came at ca -/
structure TrH (K : PySem.W.Frag) (H H' : Hp) (fa ca : Addr) (ws : List Str) (S : JM.BF Str) (n : Nat) : Prop where
  sm : Same H H'
  nf : H fa = none
  nc : H ca = none
  ne : fa ≠ ca
  f : ∃ kvs, H' fa = some (.dK kvs) ∧ (∀ x ∈ ws, dv kvs x = some (.int (S.f x))) ∧ kvs.length ≤ 5 + n
  c : ∃ kvs, H' ca = some (.dK kvs) ∧ Cm K H' kvs S.c ∧ kvs.length ≤ n
theorem TrH.same {K : PySem.W.Frag} {H H' H2 : Hp} {fa ca : Addr} {ws : List Str} {S : JM.BF Str} {n : Nat} (h : TrH K H H' fa ca ws S n) (e : Same H' H2) : TrH K H H2 fa ca ws S n := by
  obtain ⟨k1, a1, a2, a3⟩ := h.f
  obtain ⟨k2, b1, b2, b3⟩ := h.c
  exact ⟨h.sm.trans e, h.nf, h.nc, h.ne, ⟨k1, e _ _ a1, a2, a3⟩, ⟨k2, e _ _ b1, b2.ts (TS_.of e), b3⟩⟩
def lastV : Option Str → V
  | none => .non
  | some x => .str x
section
variable {P : Program} {w : World} {K : PySem.W.Frag} {mg : Str → Option Value} {base : Heap}
theorem d_ring_at {f : Addr} {fd : FuncData} (F : FnP K "ring_at" "ring_at" s_ring_at f fd) (g : mg "ring_at" = some (.ref f)) (M : Free mg) : Def P w K mg base 1 "ring_at" ["came", "worker"] (spRingAt K) := by
  refine ⟨f, fd, F.ok sc_ring_at (fun vs H Q E h => ?_) (fun cdv A outer s H vs Q E hr h => ?_), g, F.kp, bd_ring_at F⟩
  · obtain ⟨d, x, kvs, c, rfl, _⟩ := h
    rfl
  · obtain ⟨d, x, kvs, c, rfl, hd, hc, hk, hn, q⟩ := h
    have nd := sc_ring_at.nd
    have hu := hu_of hr
    -- what stands at the i-th
    have stp : ∀ i H', Same H H' → ∃ t u, DGet H' d (.str (JM.nxts c x i)) (some (.ref t)) ∧ SqT K H' t [.str (JM.nxts c x (i + 1)), .ref u] := fun i H' sm => by
      cases e : c (JM.nxts c x i) with
      | none => exact absurd e (hn i)
      | some p =>
        obtain ⟨t, u, h1, h2, h3⟩ := hc.2 _ p e
        refine ⟨t, u, dget (sm _ _ hd) h1, Same.tup sm ?_⟩
        have : JM.nxts c x (i + 1) = JM.dst p := by
          show JM.nxt c (JM.nxts c x i) = _
          unfold JM.nxt
          rw [e]
        rw [this]
        exact h2
    obtain ⟨m, hm1, hm2, hm⟩ : ∃ m, 1 ≤ m ∧ m ≤ kvs.length ∧ JM.nxts c x (kvs.length + m) = JM.nxts c x kvs.length := by
      have := JM.on_ring (D := kvs.map (·.1)) (f := fun i => (Sum.inr (JM.nxts c x i) : Key)) (fun i => ?_) (fun i j e k => ?_)
      · obtain ⟨m, h1, h2, h3⟩ := this
        rw [List.length_map] at h2 h3
        exact ⟨m, h1, h2, Sum.inr.inj h3⟩
      · cases e : c (JM.nxts c x i) with
        | none => exact absurd e (hn i)
        | some p =>
          obtain ⟨t, u, h1, _⟩ := hc.2 _ p e
          exact valV_in h1
      · exact congrArg Sum.inr (JM.nxts_same (Sum.inr.inj e) k)
    refine ⟨_, PSs.nox (pss_cons (ps_set (i := 2) nd rfl (Or.inl rfl) (pv 1))
 (pss_cons (ps_for PassesOwn.never rfl (pi_range1 rfl M.range (pa_cons (pe_callB call_lenD rfl M.len bt_len (pa_cons (pv 0) pa_nil)) pa_nil)) (pg_name (i := 3) nd rfl (Or.inl rfl))
  (pss_one (ps_set (i := 2) nd rfl (Or.inl rfl) (pe_ix (ix_tupK K) (pe_dget hu (pv 0) (pv 2) (fun _ _ => rfl)) pe_int (fun _ _ => rfl)))))
 (pss_cons (ps_par (i := 4) (j := 5) rfl nd rfl rfl (by decide) rfl rfl (pa_cons (pv 2) (pa_cons (pe_lst (pa_cons (pe_ix (ix_tupK K) (pe_dget hu (pv 0) (pv 2) (fun _ _ => rfl)) pe_int (fun _ _ => rfl)) pa_nil)) pa_nil)) (by rfl))
 (pss_cons (ps_set (i := 2) nd rfl (Or.inl rfl) (pe_ix (ix_tupK K) (pe_dget hu (pv 0) (pv 2) (fun _ _ => rfl)) pe_int (fun _ _ => rfl)))
 (pss_cons (ps_while PassesOwn.never (pt_cmpR op_ne (pv 2) (pv 4) (nomark _))
  (pss_cons (ps_expr (pe_bmK K PySem.F.plainAttrs_list PySem.F.slot_list_append PySem.F.type_list_append mt_append (pv 5) (pa_cons (pe_ix (ix_tupK K) (pe_dget hu (pv 0) (pv 2) (fun _ _ => rfl)) pe_int (fun _ _ => rfl)) pa_nil)))
 (pss_one (ps_set (i := 2) nd rfl (Or.inl rfl) (pe_ix (ix_tupK K) (pe_dget hu (pv 0) (pv 2) (fun _ _ => rfl)) pe_int (fun _ _ => rfl))))))
 (pss_one (ps_ret (pe_callTy (call_tupleK K) rfl M.tuple bt_tuple (pa_cons (pv 5) pa_nil))))))))), ?_⟩
    refine ⟨_, rfl, ?_⟩
    refine ⟨_, rfl, d, kvs, rfl, hd, (kvs.length : Nat), rfl, by omega, by omega, for_range (lo := 0) (n := kvs.length) (fun i σ' H' => H' = H ∧ ∃ v3, σ' = [some (.ref d), some (.str x), some (.str (JM.nxts c x i)), v3, none, none])
      ⟨rfl, none, rfl⟩ ?_ ?_⟩
    · rintro i σ' H' hi ⟨rfl, v3, rfl⟩
      obtain ⟨t, u, h1, h2⟩ := stp i H' Same.rfl
      exact ⟨_, rfl, _, rfl, d, _, rfl, h1, t, _, 0, _, rfl, rfl, h2, rfl, rfl, _, rfl⟩
    · rintro σ' H' ⟨rfl, v3, rfl⟩
      obtain ⟨t, u, h1, h2⟩ := stp kvs.length H' Same.rfl
      refine ⟨_, rfl, _, rfl, _, rfl, d, _, rfl, h1, t, _, 1, _, rfl, rfl, h2, rfl, sz (by simp), fun p np => ⟨_, _, rfl, ?_⟩⟩
      obtain ⟨t2, u2, h3, h4⟩ := stp kvs.length (upd H' p (.lst [.ref u])) (same_new np)
      refine ⟨_, rfl, _, rfl, d, _, rfl, h3, t2, _, 0, _, rfl, rfl, h4, rfl, ?_⟩
      refine ⟨fun m' σ H2 => ∃ (j : Nat) (zs : List V), σ = [some (.ref d), some (.str x), some (.str (JM.nxts c x (kvs.length + 1 + j))), v3, some (.str (JM.nxts c x kvs.length)), some (.ref p)] ∧ Same H' H2 ∧ H2 p = some (.lst zs) ∧ zs.length ≤ j + 1 ∧ m' + (j + 1) = m,
        ⟨m - 1, 0, [.ref u], rfl, same_new np, upd_same, Nat.le_refl _, by omega⟩, ?_⟩
      rintro m' σ H2 ⟨j, zs, rfl, sm, hp, hz, hj⟩
      refine ⟨_, rfl, _, rfl, rfl, _, rfl, ite2 (fun h => ?_) (fun h => ?_)⟩
      · have hne : m' ≠ 0 := fun e => by
          have e2 : kvs.length + 1 + j = kvs.length + m := by omega
          rw [e2, hm] at h
          simp at h
        obtain ⟨t3, u3, h5, h6⟩ := stp (kvs.length + 1 + j) H2 sm
        refine ⟨_, fun _ _ h => h, ?_⟩
        refine ⟨.ref p, rfl, .inl ⟨rfl, _, sql hp⟩, _, rfl, _, rfl, d, _, rfl, h5, t3, _, 1, _, rfl, rfl, h6, rfl, p, _, _, rfl, rfl, hp, szl (by omega), ?_⟩
        have sm2 : Same H' (upd H2 p (.lst (zs ++ [.ref u3]))) := same_mut sm np
        obtain ⟨t4, u4, h7, h8⟩ := stp (kvs.length + 1 + j) _ sm2
        exact ⟨_, rfl, _, rfl, d, _, rfl, h7, t4, _, 0, _, rfl, rfl, h8, rfl, m' - 1, by omega, j + 1, _, rfl, sm2, upd_same, by simp; omega, by omega⟩
      · exact ⟨_, rfl, p, _, rfl, .inl ⟨sql hp, fun r nr => q _ r (Same.new sm nr)⟩⟩
end
end JL
set_option Elab.async false
set_option linter.all false
set_option maxRecDepth 100000
set_option maxHeartbeats 4000000
/-! tried, lags_in, lags, never_held -/
namespace JL
open PySem PySem.Spec PyProof.Rows L2 JB
/-- one step found better -/
theorem TrH.better {K : PySem.W.Frag} {H H' : Hp} {fa ca : Addr} {ws : List Str} {S : JM.BF Str} {n : Nat} {parts : Int} {e : Rb} {kf kc : List (Key × V)} {u t : Addr} (h : TrH K H H' fa ca ws S n) (hlt : S.f (JM.dst e) + JM.cst e * parts - 1 < S.f (JM.src e))
    (hf : H' fa = some (.dK kf)) (hc : H' ca = some (.dK kc)) (nu : upd H' fa (.dK (putK kf (.inr (JM.src e)) (.int (S.f (JM.dst e) + JM.cst e * parts - 1)))) u = none)
    (nt : upd (upd H' fa (.dK (putK kf (.inr (JM.src e)) (.int (S.f (JM.dst e) + JM.cst e * parts - 1))))) u (.tup (stepV e)) t = none) :
    TrH K H (upd (upd (upd (upd H' fa (.dK (putK kf (.inr (JM.src e)) (.int (S.f (JM.dst e) + JM.cst e * parts - 1))))) u (.tup (stepV e))) t (.tup [.str (JM.dst e), .ref u])) ca (.dK (putK kc (.inr (JM.src e)) (.ref t)))) fa ca ws (JM.bfStep parts S e) (n + 1) ∧
    TS_ K H' (upd (upd (upd (upd H' fa (.dK (putK kf (.inr (JM.src e)) (.int (S.f (JM.dst e) + JM.cst e * parts - 1))))) u (.tup (stepV e))) t (.tup [.str (JM.dst e), .ref u])) ca (.dK (putK kc (.inr (JM.src e)) (.ref t)))) ∧
    (upd (upd (upd H' fa (.dK (putK kf (.inr (JM.src e)) (.int (S.f (JM.dst e) + JM.cst e * parts - 1))))) u (.tup (stepV e))) t (.tup [.str (JM.dst e), .ref u])) ca = some (.dK kc) := by
  obtain ⟨kf', a1, a2, a3⟩ := h.f
  obtain rfl : kf = kf' := by rw [hf] at a1; injection a1 with a1; injection a1
  obtain ⟨kc', b1, b2, b3⟩ := h.c
  obtain rfl : kc = kc' := by rw [hc] at b1; injection b1 with b1; injection b1
  have hc1 : upd H' fa (.dK (putK kf (.inr (JM.src e)) (.int (S.f (JM.dst e) + JM.cst e * parts - 1)))) ca = some (.dK kc) := by rw [upd_ne (Ne.symm h.ne)]; exact hc
  have hc3 := new_keep (o := .tup [.str (JM.dst e), .ref u]) nt (new_keep (o := .tup (stepV e)) nu hc1)
  have T1 : TS_ K H' (upd H' fa (.dK (putK kf (.inr (JM.src e)) (.int (S.f (JM.dst e) + JM.cst e * parts - 1))))) := TS_.dk hf
  have T4 := (TS_.new (K := K) (o := .tup (stepV e)) nu).trans ((TS_.new (K := K) (o := .tup [.str (JM.dst e), .ref u]) nt).trans (TS_.dk (o := .dK (putK kc (.inr (JM.src e)) (.ref t))) hc3))
  have es : JM.bfStep parts S e = ⟨JM.set1 S.f (JM.src e) (S.f (JM.dst e) + JM.cst e * parts - 1), JM.set1 S.c (JM.src e) (some e), some (JM.src e)⟩ := by
    unfold JM.bfStep
    rw [if_pos hlt]
  refine ⟨⟨same_mut (Same.new (Same.new (same_mut h.sm h.nf) nu) nt) h.nc, h.nf, h.nc, h.ne, ?_, ?_⟩, T1.trans T4, hc3⟩
  · refine ⟨_, by rw [upd_ne h.ne]; exact new_keep nt (new_keep nu upd_same), fun x hx => ?_, ?_⟩
    · rw [dv_put, es]
      show _ = some (V.int (JM.set1 S.f (JM.src e) _ x))
      unfold JM.set1
      by_cases z : x = JM.src e
      · rw [if_pos z, if_pos z]
      · rw [if_neg z, if_neg z]
        exact a2 x hx
    · have := length_putK kf (.inr (JM.src e)) (V.int (S.f (JM.dst e) + JM.cst e * parts - 1))
      omega
  · refine ⟨_, upd_same, ?_, ?_⟩
    · rw [es]
      refine Cm.put ((b2.ts T1).ts T4) (TS_.dk hc3 _ _ (sqt upd_same)) (TS_.dk hc3 _ _ (sqt (new_keep nt upd_same)))
    · have := length_putK kc (.inr (JM.src e)) (V.ref t)
      omega
section
variable {P : Program} {w : World} {K : PySem.W.Frag} {mg : Str → Option Value} {base : Heap}
theorem d_tried {f : Addr} {fd : FuncData} (F : FnP K "tried" "tried" s_tried f fd) (g : mg "tried" = some (.ref f)) (M : Free mg) (d_arcs : Def P w K mg base 1 "arcs" ["net"] (spArcs K)) (d_ring_at : Def P w K mg base 1 "ring_at" ["came", "worker"] (spRingAt K)) : Def P w K mg base 2 "tried" ["net", "parts"] (spTried K) := by
  refine ⟨f, fd, F.ok sc_tried (fun vs H Q E h => ?_) (fun cdv A outer s H vs Q E hr h => ?_), g, F.kp, bd_tried F⟩
  · obtain ⟨a, ws, qs, rfl, _⟩ := h
    rfl
  · obtain ⟨a, ws, qs, rfl, ⟨aw, aq, bs, N⟩, ok, q⟩ := h
    have nd := sc_tried.nd
    have hu := hu_of hr
    have hw5 := ok.w5
    have hq7 := ok.q7
    refine ⟨_, PSs.nox (pss_cons (ps_set (i := 2) nd rfl (Or.inr rfl) (pe_dc (own := [("worker", 6)]) (by rfl) nd (pi_tupK K (pe_ix (ix_tupK K) (pv 0) pe_int (fun _ _ => rfl))) (by exact blkOk_by (by kernel_rfl)) (fun _ _ _ _ _ => (pg_name (i := 6) nd rfl (Or.inl rfl))) (fun _ _ _ _ _ => pts_nil) (fun _ _ _ _ _ => (pv 6)) (fun _ _ _ _ _ => pe_int)))
 (pss_cons (ps_set (i := 3) nd rfl (Or.inl rfl) pe_dnewK)
 (pss_cons (ps_set (i := 4) nd rfl (Or.inl rfl) pe_non)
 (pss_cons (ps_for PassesOwn.never rfl (pi_range1 rfl M.range (pa_cons (pe_callB (call_lenK K) rfl M.len bt_len (pa_cons (pe_ix (ix_tupK K) (pv 0) pe_int (fun _ _ => rfl)) pa_nil)) pa_nil)) (pg_name (i := 5) nd rfl (Or.inl rfl))
  (pss_cons (ps_set (i := 4) nd rfl (Or.inl rfl) pe_non)
 (pss_cons (ps_for PassesOwn.never rfl (pi_listK K (pe_own d_arcs hr (by decide) (pa_cons (pv 0) pa_nil))) (pg_tupK K (n := 5) rfl (pgs_cons (pg_name (i := 6) nd rfl (Or.inl rfl)) (pgs_cons (pg_name (i := 7) nd rfl (Or.inl rfl)) (pgs_cons (pg_name (i := 8) nd rfl (Or.inl rfl)) (pgs_cons (pg_name (i := 9) nd rfl (Or.inl rfl)) (pgs_cons (pg_name (i := 10) nd rfl (Or.inl rfl)) pgs_nil))))))
  (pss_cons (ps_set (i := 11) nd rfl (Or.inl rfl) (pe_op op_sub (pe_op op_add (pe_dget hu (pv 2) (pv 7) (fun _ _ => rfl)) (pe_op op_mul (pv 8) (pv 1))) pe_int))
 (pss_one (ps_if (pt_cmpR op_gt (pe_dget hu (pv 2) (pv 6) (fun _ _ => rfl)) (pv 11) (nomark _))
  (pss_cons (ps_dput hu (pv 2) (pv 6) (pv 11) rfl)
 (pss_cons (ps_dput hu (pv 3) (pv 6) (pe_tup (pa_cons (pv 7) (pa_cons (pe_tup (pa_cons (pv 9) (pa_cons (pv 10) pa_nil))) pa_nil))) rfl)
 (pss_one (ps_set (i := 4) nd rfl (Or.inl rfl) (pv 6)))))
  pss_nil))))
 (pss_one (ps_if (pt_cmpR op_isN (pv 4) pe_non (nomark _))
  (pss_one (ps_ret (pe_tup (pa_cons (pe_callTy (call_tupleK K) rfl M.tuple bt_tuple (pa_cons (pe_lc (own := [("worker", 6)]) (by rfl) nd (pi_tupK K (pe_ix (ix_tupK K) (pv 0) pe_int (fun _ _ => rfl))) (by exact blkOk_by (by kernel_rfl)) (fun _ _ _ _ _ => (pg_name (i := 6) nd rfl (Or.inl rfl))) (fun _ _ _ _ _ => pts_nil) (fun _ _ _ _ _ => (pe_dget hu (pv 2) (pv 6) (fun _ _ => rfl)))) pa_nil)) (pa_cons pe_non pa_nil)))))
  pss_nil)))))
 (pss_one (ps_ret (pe_tup (pa_cons pe_non (pa_cons (pe_own d_ring_at hr (by decide) (pa_cons (pv 3) (pa_cons (pv 4) pa_nil))) pa_nil))))))))), ?_⟩
    refine ⟨_, rfl, a, _, 0, _, rfl, rfl, N.top, rfl, aw, rfl, ⟨_, N.wk⟩, fun fa nf => dc_tup (K := K) (a := aw) (xs := ws.map V.str) (fun i H' => Same H H' ∧ ∃ kvs, H' fa = some (.dK kvs) ∧ (∀ x ∈ ws.take i, dv kvs x = some (.int 0)) ∧ kvs.length ≤ i)
      ⟨same_new nf, [], upd_same, fun x hx => by simp at hx, Nat.le_refl _⟩ (fun i H' _ ⟨s', _⟩ => (N.same s').wk) ?_ ?_⟩
    · rintro i y H' hi ⟨sm, kvs, hp, hv, hl⟩
      obtain ⟨x, hx, rfl⟩ := str_at hi
      have hil : i < ws.length := (List.getElem?_eq_some_iff.mp hx).1
      have := length_putK kvs (.inr x) (V.int 0)
      refine ⟨rfl, _, rfl, kvs, .inr x, rfl, hp, szl (by omega), same_mut sm nf, _, upd_same, fun z hz => ?_, by omega⟩
      rw [take_next hx] at hz
      rw [dv_put]
      by_cases e : z = x
      · rw [if_pos e]
      · rw [if_neg e]
        rcases List.mem_append.mp hz with k | k
        · exact hv z k
        · exact absurd (List.mem_singleton.mp k) e
    · rintro H1 ⟨sm1, kf0, hf1, hv1, hl1⟩
      rw [take_all (List.length_map _)] at hv1
      rw [List.length_map] at hl1
      intro ca nc
      have hne : fa ≠ ca := fun e => by
        rw [e, nc] at hf1
        cases hf1
      have T0 : TrH K H (upd H1 ca (.dK [])) fa ca ws JM.bf0 0 := ⟨Same.new sm1 nc, nf, same_free sm1 nc, hne, ⟨kf0, new_keep nc hf1, hv1, by omega⟩, ⟨[], upd_same, ⟨fun x _ => rfl, fun x p h => by cases h⟩, Nat.le_refl _⟩⟩
      generalize upd H1 ca (.dK []) = H2 at T0
      have N2 := N.same T0.sm
      refine ⟨_, rfl, a, _, 0, _, rfl, rfl, N2.top, rfl, aw, _, rfl, .inr N2.wk, ((ws.map V.str).length : Nat), rfl, by omega, by simp; omega, for_range (lo := 0) (n := (ws.map V.str).length) (fun i σ' H' => ∃ v5 v6 v7 v8 v9 v10 v11, σ' = [some (.ref a), some (.int (ws.length : Nat)), some (.ref fa), some (.ref ca), some (lastV (JM.bfIter (JM.arcs qs) (ws.length : Nat) i).last), v5, v6, v7, v8, v9, v10, v11] ∧ TrH K H H' fa ca ws (JM.bfIter (JM.arcs qs) (ws.length : Nat) i) (14 * i) ∧ (i = 0 ∨ (JM.bfIter (JM.arcs qs) (ws.length : Nat) i).last ≠ none))
        ⟨none, none, none, none, none, none, none, rfl, T0, .inl rfl⟩ ?_ ?_⟩
      · clear T0 N2 nc hne hv1 hf1 sm1 hl1
        rintro i σ' H' hi ⟨v5, v6, v7, v8, v9, v10, v11, rfl, T, _⟩
        rw [List.length_map] at hi
        refine ⟨_, rfl, a, ws, qs, rfl, ⟨aw, aq, bs, N.same T.sm⟩, ok, fun H3 l cs s3 nl hpl pa => ?_⟩
        have hlf : l ≠ fa := fun e => by
          obtain ⟨k, h1, _⟩ := T.f
          rw [← e, nl] at h1
          cases h1
        have hlc : l ≠ ca := fun e => by
          obtain ⟨k, h1, _⟩ := T.c
          rw [← e, nl] at h1
          cases h1
        refine ⟨l, rfl, ⟨_, sql hpl⟩, for_list (K := K) (a := l) (xs := cs.map V.ref) (fun j σ' H4 => ∃ vl v6 v7 v8 v9 v10 v11, σ' = [some (.ref a), some (.int (ws.length : Nat)), some (.ref fa), some (.ref ca), some vl, some (.int (0 + (i : Nat))), v6, v7, v8, v9, v10, v11] ∧ vl = lastV (((JM.arcs qs).take j).foldl (JM.bfStep (ws.length : Nat)) ⟨(JM.bfIter (JM.arcs qs) (ws.length : Nat) i).f, (JM.bfIter (JM.arcs qs) (ws.length : Nat) i).c, none⟩).last ∧
            TrH K H H4 fa ca ws (((JM.arcs qs).take j).foldl (JM.bfStep (ws.length : Nat)) ⟨(JM.bfIter (JM.arcs qs) (ws.length : Nat) i).f, (JM.bfIter (JM.arcs qs) (ws.length : Nat) i).c, none⟩) (14 * i + j) ∧ H4 l = some (.lst (cs.map V.ref)) ∧ Paired (ArcAt K H4) cs (JM.arcs qs))
          ⟨.non, _, _, _, _, _, _, rfl, rfl, ⟨T.sm.trans s3, T.nf, T.nc, T.ne, (T.same s3).f, (T.same s3).c⟩, hpl, pa⟩ (fun j σ' H4 _ ⟨_, _, _, _, _, _, _, _, _, _, hpl', _⟩ => sql hpl') ?_ ?_⟩
        · clear T hpl pa s3 nl
          rintro j z σ' H4 hj ⟨vl, v6, v7, v8, v9, v10, v11, rfl, hvl, T, hpl, pa⟩
          obtain ⟨b, e, rfl, he, hb⟩ := part_at pa hj
          have heq := arcs_mem_take he
          have hjl : j < 14 := by
            have := (List.getElem?_eq_some_iff.mp he).1
            rw [arcs_len] at this
            omega
          have ft : ((JM.arcs qs).take (j + 1)).foldl (JM.bfStep (ws.length : Nat)) ⟨(JM.bfIter (JM.arcs qs) (ws.length : Nat) i).f, (JM.bfIter (JM.arcs qs) (ws.length : Nat) i).c, none⟩ = JM.bfStep (ws.length : Nat) (((JM.arcs qs).take j).foldl (JM.bfStep (ws.length : Nat)) ⟨(JM.bfIter (JM.arcs qs) (ws.length : Nat) i).f, (JM.bfIter (JM.arcs qs) (ws.length : Nat) i).c, none⟩) e := by
            rw [take_next he, List.foldl_append]
            rfl
          rw [ft]
          clear ft
          generalize ((JM.arcs qs).take j).foldl (JM.bfStep (ws.length : Nat)) ⟨(JM.bfIter (JM.arcs qs) (ws.length : Nat) i).f, (JM.bfIter (JM.arcs qs) (ws.length : Nat) i).c, none⟩ = S at T hvl
          obtain ⟨kf, hf, hfv, hfl⟩ := T.f
          obtain ⟨kc, hc, hcm, hcl⟩ := T.c
          have hsv := hfv _ (JM.src_mem ok.net heq)
          have hdv := hfv _ (JM.dst_mem ok.net heq)
          refine ⟨b, _, rfl, hb, rfl, _, _, rfl, _, _, rfl, _, _, rfl, _, _, rfl, _, _, rfl, rfl, ?_⟩
          refine ⟨_, rfl, _, rfl, fa, _, rfl, dget hf hdv, _, rfl, _, rfl, JM.cst e, (ws.length : Nat), rfl, rfl, .inr (by omega), S.f (JM.dst e), _, rfl, rfl, _, 1, rfl, rfl, ?_⟩
          refine ⟨_, rfl, _, rfl, fa, _, rfl, dget hf hsv, _, rfl, _, _, rfl, rfl, _, rfl, ite2 (fun h1 => ?_) (fun h1 => ?_)⟩
          · have e1 : S.f (JM.dst e) + JM.cst e * (ws.length : Nat) - 1 < S.f (JM.src e) := of_decide_eq_true h1
            refine ⟨_, rfl, _, rfl, _, rfl, fa, _, rfl, dput hf (by omega), ?_⟩
            refine ⟨_, rfl, _, rfl, _, rfl, sz (by simp), fun u nu => ⟨sz (by simp), fun t nt => ?_⟩⟩
            obtain ⟨T', ts, hca⟩ := T.better e1 hf hc nu nt
            refine ⟨_, rfl, _, rfl, ca, _, rfl, dput hca (by omega), _, rfl, _, _, _, _, _, _, _, rfl, ?_, T', ?_, parc_ts pa ts⟩
            · have es : (JM.bfStep (ws.length : Nat) S e).last = some (JM.src e) := by
                unfold JM.bfStep
                rw [if_pos e1]
              rw [es]
              rfl
            · rw [upd_ne hlc]
              exact new_keep nt (new_keep nu (by rw [upd_ne hlf]; exact hpl))
          · have e1 : ¬ S.f (JM.dst e) + JM.cst e * (ws.length : Nat) - 1 < S.f (JM.src e) := fun z => h1 (decide_eq_true z)
            have es : JM.bfStep (ws.length : Nat) S e = S := by
              unfold JM.bfStep
              rw [if_neg e1]
            refine ⟨_, _, _, _, _, _, _, rfl, by rw [es]; exact hvl, by rw [es]; exact ⟨T.sm, T.nf, T.nc, T.ne, ⟨kf, hf, hfv, by omega⟩, ⟨kc, hc, hcm, by omega⟩⟩, hpl, pa⟩
        · rintro σ' H4 ⟨vl, v6, v7, v8, v9, v10, v11, rfl, hvl, T, hpl, pa⟩
          have h14 : (cs.map V.ref).length ≤ 14 := by rw [part_len pa, arcs_len]; omega
          rw [take_all (part_len pa)] at T hvl
          have er : (JM.arcs qs).foldl (JM.bfStep (ws.length : Nat)) ⟨(JM.bfIter (JM.arcs qs) (ws.length : Nat) i).f, (JM.bfIter (JM.arcs qs) (ws.length : Nat) i).c, none⟩ = JM.bfIter (JM.arcs qs) (ws.length : Nat) (i + 1) := rfl
          rw [er] at T hvl
          subst hvl
          obtain ⟨kf, hf, hfv, hfl⟩ := T.f
          obtain ⟨kc, hc, hcm, hcl⟩ := T.c
          refine ⟨_, rfl, rfl, _, rfl, ite2 (fun h1 => ?_) (fun h1 => ?_)⟩
          · have hnone : (JM.bfIter (JM.arcs qs) (ws.length : Nat) (i + 1)).last = none := by
              cases e : (JM.bfIter (JM.arcs qs) (ws.length : Nat) (i + 1)).last with
              | none => rfl
              | some x =>
                rw [e] at h1
                exact absurd h1 (by simp [lastV])
            have hnev : JM.Never ws qs := ⟨_, JM.pot_of_none (S := JM.bfIter (JM.arcs qs) (ws.length : Nat) i) hnone⟩
            have N4 := N.same T.sm
            refine ⟨_, rfl, a, _, 0, _, rfl, rfl, N4.top, rfl, aw, rfl, ⟨_, N4.wk⟩, fun D nD => lc_tup (K := K) (a := aw) (xs := ws.map V.str) (fun k H5 => Same H4 H5 ∧ ∃ zs, H5 D = some (.lst zs) ∧ zs.length ≤ k)
              ⟨same_new nD, [], upd_same, Nat.le_refl _⟩ (fun k H5 _ ⟨s', _⟩ => (N4.same s').wk) ?_ ?_⟩
            · rintro k y H5 hk ⟨s5, zs, hD, hzl⟩
              obtain ⟨x, hx, rfl⟩ := str_at hk
              have hkl : k < ws.length := (List.getElem?_eq_some_iff.mp hx).1
              exact ⟨rfl, _, rfl, _, rfl, fa, _, rfl, dget (s5 _ _ hf) (hfv x (mem_at hx)), _, hD, szl (by omega), same_mut s5 nD, _, upd_same, by simp; omega⟩
            · rintro H5 ⟨s5, zs, hD, hzl⟩
              refine ⟨D, _, rfl, .inl ⟨sql hD, fun t nt => ⟨sz (by simp), fun r nr => ?_⟩⟩⟩
              exact q _ r (.ref t) .non (Same.new (Same.new (T.sm.trans s5) nt) nr) (sqt upd_same) (.inl ⟨hnev, t, rfl⟩)
          · refine ⟨_, _, _, _, _, _, _, rfl, ⟨T.sm, T.nf, T.nc, T.ne, ⟨kf, hf, hfv, by omega⟩, ⟨kc, hc, hcm, by omega⟩⟩, .inr fun e => h1 ?_⟩
            rw [e]
            rfl
      · rintro σ' H' ⟨v5, v6, v7, v8, v9, v10, v11, rfl, T, hlast⟩
        rw [List.length_map] at T hlast ⊢
        have hw1 := ok.w1
        obtain ⟨n, hn⟩ : ∃ n, ws.length = n + 1 := ⟨ws.length - 1, by omega⟩
        obtain ⟨kc, hc, hcm, hcl⟩ := T.c
        cases e : (JM.bfIter (JM.arcs qs) (ws.length : Nat) ws.length).last with
        | none => exact absurd e (hlast.elim (fun z => by omega) id)
        | some x =>
          have hnn : ¬ JM.Never ws qs := fun ⟨gp, hg⟩ => by
            have := JM.rounds_rest ok.net hg (n := n) (by omega)
            rw [← hn] at this
            rw [this] at e
            cases e
          have hreas : ∀ i, (JM.bfIter (JM.arcs qs) (ws.length : Nat) ws.length).c (JM.nxts (JM.bfIter (JM.arcs qs) (ws.length : Nat) ws.length).c x i) ≠ none := by
            have e2 : (JM.bfIter (JM.arcs qs) (ws.length : Nat) (n + 1)).last = some x := by rw [← hn]; exact e
            have := JM.reasons ok.net (by omega) e2
            rw [← hn] at this
            exact this
          refine ⟨_, rfl, _, rfl, ca, x, kc, _, rfl, hc, hcm, by omega, hreas, fun H5 r s5 => ⟨sz (by simp), fun t nt => ?_⟩⟩
          exact q _ t .non (.ref r) (Same.new (T.sm.trans s5) nt) (sqt upd_same) (.inr ⟨hnn, rfl⟩)
theorem d_lags_in {f : Addr} {fd : FuncData} (F : FnP K "lags_in" "lags_in" s_lags_in f fd) (g : mg "lags_in" = some (.ref f)) (M : Free mg) (d_tried : Def P w K mg base 2 "tried" ["net", "parts"] (spTried K)) : Def P w K mg base 3 "lags_in" ["net", "parts"] (spLagsIn K) := by
  refine ⟨f, fd, F.ok sc_lags_in (fun vs H Q E h => ?_) (fun cdv A outer s H vs Q E hr h => ?_), g, F.kp, bd_lags_in F⟩
  · obtain ⟨a, ws, qs, rfl, _⟩ := h
    rfl
  · obtain ⟨a, ws, qs, rfl, N, ok, q⟩ := h
    have nd := sc_lags_in.nd
    have hu := hu_of hr
    refine ⟨_, PSs.nox (pss_one (ps_ret (pe_ix (ix_tupK K) (pe_own d_tried hr (by decide) (pa_cons (pv 0) (pa_cons (pv 1) pa_nil))) pe_int (fun _ _ => rfl)))), ?_⟩
    exact ⟨_, rfl, _, rfl, a, ws, qs, rfl, N, ok, fun H' p v1 v2 sm ht hv => ⟨p, _, 0, _, rfl, rfl, ht, rfl, q H' v1 sm hv⟩⟩
theorem d_lags {f : Addr} {fd : FuncData} (F : FnP K "lags" "lags" s_lags f fd) (g : mg "lags" = some (.ref f)) (M : Free mg) (d_lags_in : Def P w K mg base 3 "lags_in" ["net", "parts"] (spLagsIn K)) : Def P w K mg base 4 "lags" ["net"] (spLags K) := by
  refine ⟨f, fd, F.ok sc_lags (fun vs H Q E h => ?_) (fun cdv A outer s H vs Q E hr h => ?_), g, F.kp, bd_lags F⟩
  · obtain ⟨a, ws, qs, rfl, _⟩ := h
    rfl
  · obtain ⟨a, ws, qs, rfl, ⟨aw, aq, bs, N⟩, ok, q⟩ := h
    have nd := sc_lags.nd
    have hu := hu_of hr
    refine ⟨_, PSs.nox (pss_one (ps_ret (pe_own d_lags_in hr (by decide) (pa_cons (pv 0) (pa_cons (pe_callB (call_lenK K) rfl M.len bt_len (pa_cons (pe_ix (ix_tupK K) (pv 0) pe_int (fun _ _ => rfl)) pa_nil)) pa_nil))))), ?_⟩
    exact ⟨_, rfl, _, rfl, a, _, 0, _, rfl, rfl, N.top, rfl, aw, _, rfl, .inr N.wk, a, ws, qs, by rw [List.length_map]; rfl, ⟨aw, aq, bs, N⟩, ok, q⟩
theorem d_never_held {f : Addr} {fd : FuncData} (F : FnP K "never_held" "never_held" s_never_held f fd) (g : mg "never_held" = some (.ref f)) (M : Free mg) (d_lags : Def P w K mg base 4 "lags" ["net"] (spLags K)) : Def P w K mg base 5 "never_held" ["net"] (spNever K) := by
  refine ⟨f, fd, F.ok sc_never_held (fun vs H Q E h => ?_) (fun cdv A outer s H vs Q E hr h => ?_), g, F.kp, bd_never_held F⟩
  · obtain ⟨a, ws, qs, rfl, _⟩ := h
    rfl
  · obtain ⟨a, ws, qs, rfl, N, ok, q⟩ := h
    have nd := sc_never_held.nd
    have hu := hu_of hr
    refine ⟨_, PSs.nox (pss_one (ps_ret (pe_cmpR op_notN (pe_own d_lags hr (by decide) (pa_cons (pv 0) pa_nil)) pe_non (nomark _)))), ?_⟩
    refine ⟨_, rfl, a, ws, qs, rfl, N, ok, fun H' v1 sm hv => ⟨rfl, q H' _ sm ?_⟩⟩
    rcases hv with ⟨h, u, rfl⟩ | ⟨h, rfl⟩
    · exact ⟨fun _ => h, fun _ => rfl⟩
    · exact ⟨fun z => by simp at z, fun z => absurd z h⟩
end
end JL
set_option Elab.async false
set_option linter.all false
set_option maxRecDepth 100000
set_option maxHeartbeats 4000000
/-! data as it is told; plain -/
namespace JL
open PySem PySem.Spec PyProof.Rows L2 JB
inductive T where
  | n
  | b (x : Bool)
  | i (x : Int)
  | s (x : Str)
  | l (xs : List T)
  | t (xs : List T)
/-- what stands at v is d (to a depth) -/
def DatN (K : PySem.W.Frag) (H : Hp) : Nat → V → T → Prop
  | _, v, .n => v = .non
  | _, v, .b x => v = .bl x
  | _, v, .i x => v = .int x
  | _, v, .s x => v = .str x
  | 0, _, .l _ => False
  | 0, _, .t _ => False
  | n + 1, v, .l xs => ∃ p vs, v = .ref p ∧ SqL K H p vs ∧ Paired (DatN K H n) vs xs
  | n + 1, v, .t xs => ∃ p vs, v = .ref p ∧ SqT K H p vs ∧ Paired (DatN K H n) vs xs
theorem Same.lst {K : PySem.W.Frag} {H H' : Hp} {a : Addr} {xs : List V} (e : Same H H') (h : SqL K H a xs) : SqL K H' a xs := by
  rcases h with (h | ⟨o, h⟩) | h
  · exact .inl (.inl (e _ _ h))
  · exact .inl (.inr ⟨o, e _ _ h⟩)
  · exact .inr h
theorem DatN.same {K : PySem.W.Frag} {H H' : Hp} (e : Same H H') : ∀ (n : Nat) (v : V) (d : T), DatN K H n v d → DatN K H' n v d
  | 0, _, .n, h => h
  | 0, _, .b _, h => h
  | 0, _, .i _, h => h
  | 0, _, .s _, h => h
  | 0, _, .l _, h => h
  | 0, _, .t _, h => h
  | _ + 1, _, .n, h => h
  | _ + 1, _, .b _, h => h
  | _ + 1, _, .i _, h => h
  | _ + 1, _, .s _, h => h
  | n + 1, _, .l _, h => let ⟨p, vs, h1, h2, h3⟩ := h; ⟨p, vs, h1, Same.lst e h2, Paired.mapP h3 fun v d k => DatN.same e n v d k⟩
  | n + 1, _, .t _, h => let ⟨p, vs, h1, h2, h3⟩ := h; ⟨p, vs, h1, Same.tup e h2, Paired.mapP h3 fun v d k => DatN.same e n v d k⟩
/-- no list in it -/
def noL : Nat → T → Bool
  | _, .l _ => false
  | n + 1, .t xs => xs.all (noL n)
  | _, _ => true
theorem tyT {K : PySem.W.Frag} {H : Hp} {p : Addr} {vs : List V} (h : SqT K H p vs) : TyX K H (.ref p) (.type "tuple") := by
  rcases h with (h | ⟨o, h⟩) | ⟨o, _, _, h, c, _⟩
  · exact .base (.tup h)
  · exact .fTuple h
  · exact .kTuple h c
theorem tyL {K : PySem.W.Frag} {H : Hp} {p : Addr} {vs : List V} (h : SqL K H p vs) : TyX K H (.ref p) (.type "list") := by
  rcases h with (h | ⟨o, h⟩) | ⟨o, _, _, h, c, _⟩
  · exact .base (.lst h)
  · exact .base (.frz h)
  · exact .kList h c
/-- the type's name of a datum -/
def tyD : T → String
  | .n => "NoneType"
  | .b _ => "bool"
  | .i _ => "int"
  | .s _ => "str"
  | .l _ => "list"
  | .t _ => "tuple"
theorem tyOf {K : PySem.W.Frag} {H : Hp} : ∀ {n : Nat} {v : V} {d : T}, DatN K H n v d → TyX K H v (.type (tyD d))
  | 0, _, .n, h => by obtain rfl := h; exact .base .non
  | 0, _, .b _, h => by obtain rfl := h; exact .base (.bl _)
  | 0, _, .i _, h => by obtain rfl := h; exact .base (.int _)
  | 0, _, .s _, h => by obtain rfl := h; exact .base (.str _)
  | 0, _, .l _, h => h.elim
  | 0, _, .t _, h => h.elim
  | _ + 1, _, .n, h => by obtain rfl := h; exact .base .non
  | _ + 1, _, .b _, h => by obtain rfl := h; exact .base (.bl _)
  | _ + 1, _, .i _, h => by obtain rfl := h; exact .base (.int _)
  | _ + 1, _, .s _, h => by obtain rfl := h; exact .base (.str _)
  | n + 1, _, .l _, h => by obtain ⟨p, vs, rfl, h2, h3⟩ := h; exact tyL h2
  | n + 1, _, .t _, h => by obtain ⟨p, vs, rfl, h2, h3⟩ := h; exact tyT h2
def isSeq : T → Bool
  | .l _ => true
  | .t _ => true
  | _ => false
theorem kit_seq {K : PySem.W.Frag} (d : T) : PySem.W.kitAny K (.type (tyD d)) [.type "list", .type "tuple"] = some (isSeq d) := by
  cases d <;> rfl
theorem kit_bs {K : PySem.W.Frag} (d : T) : PySem.W.kitAny K (.type (tyD d)) [.type "bool", .type "str"] = some (match d with | .b _ => true | .s _ => true | _ => false) := by
  cases d <;> rfl
theorem kit_list {K : PySem.W.Frag} (d : T) : PySem.W.kitOne K (.type (tyD d)) (.type "list") = some (match d with | .l _ => true | _ => false) := by
  cases d <;> rfl
theorem kit_tuple {K : PySem.W.Frag} (d : T) : PySem.W.kitOne K (.type (tyD d)) (.type "tuple") = some (match d with | .t _ => true | _ => false) := by
  cases d <;> rfl
theorem kit_bool {K : PySem.W.Frag} (d : T) : PySem.W.kitOne K (.type (tyD d)) (.type "bool") = some (match d with | .b _ => true | _ => false) := by
  cases d <;> rfl
theorem kit_int {K : PySem.W.Frag} (d : T) : PySem.W.kitOne K (.type (tyD d)) (.type "int") = some (match d with | .b _ => true | .i _ => true | _ => false) := by
  cases d <;> rfl
end JL
set_option Elab.async false
set_option linter.all false
set_option maxRecDepth 100000
set_option maxHeartbeats 4000000
/-! plain, walked -/
namespace JL
open PySem PySem.Spec PyProof.Rows L2 JB
/-- tuples of texts and numbers only, small -/
def net0 : Nat → T → Bool
  | _, .l _ => false
  | _, .n => false
  | _, .b _ => false
  | _, .i _ => true
  | _, .s _ => true
  | 0, .t _ => false
  | n + 1, .t xs => decide (xs.length ≤ 100) && xs.all (net0 n)
theorem DatN.ts {K : PySem.W.Frag} {H H' : Hp} (e : TS_ K H H') : ∀ (n : Nat) (v : V) (d : T), net0 n d = true → DatN K H n v d → DatN K H' n v d
  | _, _, .n, k, _ => by cases (show false = true by simpa [net0] using k)
  | _, _, .b _, k, _ => by cases (show false = true by simpa [net0] using k)
  | _, _, .l _, k, _ => by cases (show false = true by simpa [net0] using k)
  | 0, _, .i _, _, h => h
  | 0, _, .s _, _, h => h
  | _ + 1, _, .i _, _, h => h
  | _ + 1, _, .s _, _, h => h
  | 0, _, .t _, _, h => h
  | n + 1, _, .t xs, k, h => by
    obtain ⟨p, vs, h1, h2, h3⟩ := h
    have k' : (decide (xs.length ≤ 100) && xs.all (net0 n)) = true := by simpa [net0] using k
    rw [Bool.and_eq_true, List.all_eq_true] at k'
    refine ⟨p, vs, h1, e _ _ h2, ?_⟩
    have k2 := k'.2
    clear k' k h2
    induction h3 with
    | nil => exact .nil
    | cons r _ ih => exact .cons (DatN.ts e n _ _ (k2 _ (List.mem_cons_self ..)) r) (ih fun x hx => k2 x (List.mem_cons_of_mem _ hx))
def rowT (r : Rw) : T := .t [.s r.q, .s r.s, .s r.e, .i r.room, .i r.gap]
def netT (ws : List Str) (qs : List Rw) : T := .t [.t (ws.map T.s), .t (qs.map rowT)]
theorem paired_map {α : Type} {F : V → T → Prop} (f : α → V) (g : α → T) (h : ∀ x, F (f x) (g x)) : ∀ l : List α, Paired F (l.map f) (l.map g)
  | [] => .nil
  | x :: l => .cons (h x) (paired_map f g h l)
theorem net_dat {K : PySem.W.Frag} {H : Hp} {a : Addr} {ws : List Str} {qs : List Rw} (N : NetAt K H a ws qs) : DatN K H 3 (.ref a) (netT ws qs) := by
  obtain ⟨aw, aq, bs, N⟩ := N
  refine ⟨a, _, rfl, N.top, .cons ⟨aw, _, rfl, N.wk, paired_map _ _ (fun _ => rfl) ws⟩ (.cons ⟨aq, _, rfl, N.qu, ?_⟩ .nil)⟩
  have h := N.row
  clear N
  induction h with
  | nil => exact .nil
  | cons r _ ih => exact .cons ⟨_, _, rfl, r, .cons rfl (.cons rfl (.cons rfl (.cons rfl (.cons rfl .nil))))⟩ ih
theorem net0_net {ws : List Str} {qs : List Rw} (hw : ws.length ≤ 100) (hq : qs.length ≤ 100) : net0 3 (netT ws qs) = true := by
  have h1 : net0 2 (.t (ws.map T.s)) = true := by
    show (decide ((ws.map T.s).length ≤ 100) && (ws.map T.s).all (net0 1)) = true
    rw [Bool.and_eq_true, List.all_eq_true]
    refine ⟨decide_eq_true (by simpa using hw), fun x hx => ?_⟩
    obtain ⟨y, _, rfl⟩ := List.mem_map.mp hx
    rfl
  have h2 : net0 2 (.t (qs.map rowT)) = true := by
    show (decide ((qs.map rowT).length ≤ 100) && (qs.map rowT).all (net0 1)) = true
    rw [Bool.and_eq_true, List.all_eq_true]
    refine ⟨decide_eq_true (by simpa using hq), fun x hx => ?_⟩
    obtain ⟨y, _, rfl⟩ := List.mem_map.mp hx
    rfl
  show (decide (2 ≤ 100) && [T.t (ws.map T.s), T.t (qs.map rowT)].all (net0 2)) = true
  simp [h1, h2]
theorem strs_back {K : PySem.W.Frag} {H : Hp} {n : Nat} : ∀ {vs : List V} {ws : List Str}, Paired (DatN K H n) vs (ws.map T.s) → vs = ws.map V.str
  | [], [], _ => rfl
  | [], _ :: _, h => by cases h
  | _ :: _, [], h => by cases h
  | v :: vs, x :: ws, h => by
    cases h with
    | cons r k =>
      have e : v = .str x := by cases n <;> exact r
      rw [e, strs_back k]
      rfl
theorem row_back {K : PySem.W.Frag} {H : Hp} {v : V} {r : Rw} (h : DatN K H 1 v (rowT r)) : ∃ b, v = .ref b ∧ RowAt K H b r := by
  obtain ⟨b, vs, rfl, h1, h2⟩ := h
  cases h2 with
  | cons r1 h2 => cases h2 with
    | cons r2 h2 => cases h2 with
      | cons r3 h2 => cases h2 with
        | cons r4 h2 => cases h2 with
          | cons r5 h2 =>
            cases h2
            obtain rfl := r1
            obtain rfl := r2
            obtain rfl := r3
            obtain rfl := r4
            obtain rfl := r5
            exact ⟨b, rfl, h1⟩
theorem rows_back {K : PySem.W.Frag} {H : Hp} : ∀ {vs : List V} {qs : List Rw}, Paired (DatN K H 1) vs (qs.map rowT) → ∃ bs : List Addr, vs = bs.map V.ref ∧ Paired (RowAt K H) bs qs
  | [], [], _ => ⟨[], rfl, .nil⟩
  | [], _ :: _, h => by cases h
  | _ :: _, [], h => by cases h
  | v :: vs, r :: qs, h => by
    cases h with
    | cons r1 k =>
      obtain ⟨b, e, h1⟩ := row_back r1
      obtain ⟨bs, e2, h2⟩ := rows_back k
      exact ⟨b :: bs, by rw [e, e2]; rfl, .cons h1 h2⟩
theorem net_back {K : PySem.W.Frag} {H : Hp} {v : V} {ws : List Str} {qs : List Rw} (h : DatN K H 3 v (netT ws qs)) : ∃ a, v = .ref a ∧ NetAt K H a ws qs := by
  obtain ⟨a, vs, rfl, h1, h2⟩ := h
  cases h2 with
  | cons r1 h2 => cases h2 with
    | cons r2 h2 =>
      cases h2
      obtain ⟨aw, us, rfl, h3, h4⟩ := r1
      obtain ⟨aq, us2, rfl, h5, h6⟩ := r2
      have e := strs_back h4
      obtain ⟨bs, e2, h7⟩ := rows_back h6
      subst e e2
      exact ⟨a, rfl, aw, aq, bs, h1, h3, h5, h7⟩
def spPlain (K : PySem.W.Frag) (n : Nat) : Sp := fun vs H Q _ => ∃ (v : V) (d : T), vs = [v] ∧ DatN K H n v d ∧ net0 n d = true ∧ ∀ (H' : Hp) (v' : V), Same H H' → DatN K H' n v' d → Q v' H'
section
variable {P : Program} {w : World} {K : PySem.W.Frag} {mg : Str → Option Value} {base : Heap}
theorem plain_step {sp : Sp} {k n : Nat} {f : Addr} {fd : FuncData} (F : FnP K "plain" "plain" s_plain f fd) (g : mg "plain" = some (.ref f)) (M : Free mg) (d_plain : Def P w K mg base k "plain" ["matter"] sp) (hsp : ∀ m, n = m + 1 → sp = spPlain K m) : Def P w K mg base (k + 1) "plain" ["matter"] (spPlain K n) := by
  refine ⟨f, fd, F.ok sc_plain (fun vs H Q E h => ?_) (fun cdv A outer s H vs Q E hr h => ?_), g, F.kp, bd_plain F⟩
  · obtain ⟨v, d, rfl, _⟩ := h
    rfl
  · obtain ⟨v, d, rfl, hv, hd, q⟩ := h
    have nd := sc_plain.nd
    have hu := hu_of hr
    have hkk : k ≤ k := Nat.le_refl k
    refine ⟨_, PSs.nox (pss_one (ps_ret (pe_ifExp (pt_val (pe_callB (call_isiTK K) rfl M.isinstance bt_isinstance (pa_cons (pv 0) (pa_cons (pe_tup (pa_cons (pe_bltn (v := .ty "list") rfl M.list bt_list rfl) (pa_cons (pe_bltn (v := .ty "tuple") rfl M.tuple bt_tuple rfl) pa_nil))) pa_nil)))) (pe_callTy (call_tupleK K) rfl M.tuple bt_tuple (pa_cons (pe_lc (own := [("part", 1)]) (by rfl) nd (pi_tupK K (pv 0)) (by exact blkOk_by (by kernel_rfl)) (fun _ _ _ _ _ => (pg_name (i := 1) nd rfl (Or.inl rfl))) (fun _ _ _ _ _ => pts_nil) (fun _ _ _ _ _ => (pe_own d_plain hr hkk (pa_cons (pv 1) pa_nil)))) pa_nil)) (pv 0)))), ?_⟩
    refine ⟨_, rfl, sz (by simp), fun tp ntp => ?_⟩
    have hv2 := DatN.same (same_new (o := .tup [.ty "list", .ty "tuple"]) ntp) n v d hv
    refine ⟨v, tp, _, _, [.type "list", .type "tuple"], _, rfl, upd_same, .cons (.ty _) (.cons (.ty _) .nil), tyOf hv2, kit_seq d, _, rfl, ite2 (fun h1 => ?_) (fun h1 => ?_)⟩
    · cases d with
      | t xs =>
        cases n with
        | zero => exact hv.elim
        | succ m =>
          obtain rfl := hsp m rfl
          obtain ⟨p, vs, rfl, h2, h3⟩ := hv2
          have hd' : (decide (xs.length ≤ 100) && xs.all (net0 m)) = true := hd
          rw [Bool.and_eq_true, List.all_eq_true] at hd'
          have h100 := of_decide_eq_true hd'.1
          have hlen := Paired.length h3
          refine ⟨_, rfl, p, rfl, ⟨_, h2⟩, fun D nD => lc_tup (K := K) (a := p) (xs := vs) (fun i H' => Same (upd H tp (.tup [.ty "list", .ty "tuple"])) H' ∧ ∃ us, H' D = some (.lst us) ∧ Paired (DatN K H' m) us (xs.take i))
            ⟨same_new nD, [], upd_same, .nil⟩ (fun i H' _ ⟨s', _⟩ => Same.tup s' h2) ?_ ?_⟩
          · rintro i y H' hi ⟨sm, us, hD, pu⟩
            obtain ⟨d', hd2, hy⟩ := paired_get h3 hi
            have hil : i < vs.length := (List.getElem?_eq_some_iff.mp hi).1
            have hul := Paired.length pu
            rw [List.length_take] at hul
            refine ⟨rfl, _, rfl, y, d', rfl, DatN.same sm m y d' hy, hd'.2 d' (mem_at hd2), fun H2 v' s2 hv' => ?_⟩
            have hD2 := s2 _ _ hD
            refine ⟨_, hD2, szl (by omega), same_mut (sm.trans s2) nD, _, upd_same, ?_⟩
            rw [take_next hd2]
            have hm : ∀ d ∈ xs.take i, net0 m d = true := fun d hdd => hd'.2 d (List.mem_of_mem_take hdd)
            refine Paired.snoc ?_ (DatN.ts (TS_.lst hD2) m v' d' (hd'.2 d' (mem_at hd2)) hv')
            have pu2 := Paired.mapP pu fun v d k => DatN.same s2 m v d k
            clear pu hul
            revert hm
            generalize xs.take i = l at pu2
            intro hm
            have T := TS_.lst (K := K) (o := .lst (us ++ [v'])) hD2
            generalize upd H2 D (.lst (us ++ [v'])) = H9 at T
            clear hD hD2
            induction pu2 with
            | nil => exact .nil
            | cons r _ ih => exact .cons (DatN.ts T m _ _ (hm _ (List.mem_cons_self ..)) r) (ih fun x hx => hm x (List.mem_cons_of_mem _ hx))
          · rintro H2 ⟨sm, us, hD, pu⟩
            rw [take_all hlen] at pu
            refine ⟨D, us, rfl, .inl ⟨sql hD, fun t nt => ?_⟩⟩
            exact q _ (.ref t) (((same_new ntp).trans sm).trans (same_new nt)) ⟨t, us, rfl, sqt upd_same, Paired.mapP pu fun v d k => DatN.same (same_new nt) m v d k⟩
      | l xs => cases n <;> cases hd
      | n => cases h1
      | b _ => cases h1
      | i _ => cases h1
      | s _ => cases h1
    · exact ⟨_, rfl, q _ v (same_new ntp) hv2⟩
theorem d_plain_no {f : Addr} {fd : FuncData} (F : FnP K "plain" "plain" s_plain f fd) (g : mg "plain" = some (.ref f)) : Def P w K mg base 1 "plain" ["matter"] (fun _ _ _ _ => False) :=
  ⟨f, fd, F.ok sc_plain (fun vs H Q E h => h.elim) (fun cdv A outer s H vs Q E hr h => h.elim), g, F.kp, bd_plain F⟩
theorem d_plain {f : Addr} {fd : FuncData} (F : FnP K "plain" "plain" s_plain f fd) (g : mg "plain" = some (.ref f)) (M : Free mg) : ∀ n, Def P w K mg base (n + 2) "plain" ["matter"] (spPlain K n)
  | 0 => plain_step F g M (d_plain_no F g) fun m e => by cases e
  | n + 1 => plain_step F g M (d_plain F g M n) fun m e => by rw [Nat.succ.inj e]
end
end JL
set_option Elab.async false
set_option linter.all false
set_option maxRecDepth 100000
set_option maxHeartbeats 4000000
/-! walked -/
namespace JL
open PySem PySem.Spec PyProof.Rows L2 JB
/-- a walk along queues: its steps, its stops -/
def wkS : Str → List Rw → List Rb
  | _, [] => []
  | v, r :: l => JM.stepOf v r :: wkS (JM.otherOf v r) l
def wkP : Str → List Rw → List Str
  | _, [] => []
  | v, r :: l => JM.otherOf v r :: wkP (JM.otherOf v r) l
def wkOk : Str → List Rw → Prop
  | _, [] => True
  | v, r :: l => (v = r.s ∨ v = r.e) ∧ wkOk (JM.otherOf v r) l
def spWalked (K : PySem.W.Frag) : Sp := fun vs H Q _ => ∃ (a l : Addr) (ws : List Str) (qs rs : List Rw) (u : Str), vs = [.ref a, .str u, .ref l] ∧ NetAt K H a ws qs ∧ NetOk ws qs ∧ SqL K H l (rs.map fun r => V.str r.q) ∧ (∀ r ∈ rs, r ∈ qs) ∧ wkOk u rs ∧ rs.length ≤ 10 ∧
  ∀ (H' : Hp) (t t1 t2 : Addr), Same H H' → SqT K H' t [.ref t1, .ref t2] → StepsAt K H' t1 (wkS u rs) → SqT K H' t2 ((u :: wkP u rs).map V.str) → Q (.ref t) H'
theorem drop_at {α : Type} {l : List α} {i : Nat} {x : α} (h : l[i]? = some x) : l.drop i = x :: l.drop (i + 1) := by
  obtain ⟨hl, e⟩ := List.getElem?_eq_some_iff.mp h
  rw [List.drop_eq_getElem_cons hl, e]
section
variable {P : Program} {w : World} {K : PySem.W.Frag} {mg : Str → Option Value} {base : Heap}
theorem d_walked {f : Addr} {fd : FuncData} (F : FnP K "walked" "walked" s_walked f fd) (g : mg "walked" = some (.ref f)) (M : Free mg) (C : Cst mg) : Def P w K mg base 1 "walked" ["net", "start", "queues"] (spWalked K) := by
  refine ⟨f, fd, F.ok sc_walked (fun vs H Q E h => ?_) (fun cdv A outer s H vs Q E hr h => ?_), g, F.kp, bd_walked F⟩
  · obtain ⟨a, l, ws, qs, rs, u, rfl, _⟩ := h
    rfl
  · obtain ⟨a, l, ws, qs, rs, u, rfl, ⟨aw, aq, bs, N⟩, ok, hl, hrs, hwk, hr10, q⟩ := h
    have nd := sc_walked.nd
    have hu := hu_of hr
    have hq7 := ok.q7
    refine ⟨_, PSs.nox (pss_cons (ps_setDc (i := 3) (own := [("part", 8)]) (by rfl) nd rfl rfl (sw_trueD rfl rfl rfl (by decide +kernel)) (pi_tupK K (pe_ix (ix_tupK K) (pv 0) pe_int (fun _ _ => rfl))) (by exact blkOk_by (by kernel_rfl)) (fun _ _ _ _ _ => (pg_name (i := 8) nd rfl (Or.inl rfl))) (fun _ _ _ _ _ => pts_nil) (fun _ _ _ _ _ => (pe_ix (ix_tupK K) (pv 8) pe_int (fun _ _ => rfl))) (fun _ _ _ _ _ => (pv 8)))
 (pss_cons (ps_set (i := 4) nd rfl (Or.inl rfl) (pe_lst pa_nil))
 (pss_cons (ps_set (i := 5) nd rfl (Or.inl rfl) (pe_lst (pa_cons (pv 1) pa_nil)))
 (pss_cons (ps_for PassesOwn.never rfl (pi_enumK K rfl M.enumerate (pa_cons (pv 2) pa_nil)) (pg_tupK K (n := 2) rfl (pgs_cons (pg_name (i := 6) nd rfl (Or.inl rfl)) (pgs_cons (pg_name (i := 7) nd rfl (Or.inl rfl)) pgs_nil)))
  (pss_cons (ps_if (pt_cmp (pc_dnotin hu (pv 7) (pv 3)))
  (pss_one ps_never)
  pss_nil)
 (pss_one (ps_if (pt_cmpR op_eq (pe_ix (ix_tupK K) (pe_dget hu (pv 3) (pv 7) (fun _ _ => rfl)) pe_int (fun _ _ => rfl)) (pe_ix (ix_listK K) (pv 5) (pe_un un_neg pe_int) (fun _ _ => rfl)) (nomark _))
  (pss_cons (ps_expr (pe_bmK K PySem.F.plainAttrs_list PySem.F.slot_list_append PySem.F.type_list_append mt_append (pv 4) (pa_cons (pe_tup (pa_cons (pv 7) (pa_cons (pe_glob (v := .str "along") rfl C.along.choose_spec ⟨_, rfl⟩) pa_nil))) pa_nil)))
 (pss_one (ps_expr (pe_bmK K PySem.F.plainAttrs_list PySem.F.slot_list_append PySem.F.type_list_append mt_append (pv 5) (pa_cons (pe_ix (ix_tupK K) (pe_dget hu (pv 3) (pv 7) (fun _ _ => rfl)) pe_int (fun _ _ => rfl)) pa_nil)))))
  (pss_one (ps_if (pt_cmpR op_eq (pe_ix (ix_tupK K) (pe_dget hu (pv 3) (pv 7) (fun _ _ => rfl)) pe_int (fun _ _ => rfl)) (pe_ix (ix_listK K) (pv 5) (pe_un un_neg pe_int) (fun _ _ => rfl)) (nomark _))
  (pss_cons (ps_expr (pe_bmK K PySem.F.plainAttrs_list PySem.F.slot_list_append PySem.F.type_list_append mt_append (pv 4) (pa_cons (pe_tup (pa_cons (pv 7) (pa_cons (pe_glob (v := .str "against") rfl C.against.choose_spec ⟨_, rfl⟩) pa_nil))) pa_nil)))
 (pss_one (ps_expr (pe_bmK K PySem.F.plainAttrs_list PySem.F.slot_list_append PySem.F.type_list_append mt_append (pv 5) (pa_cons (pe_ix (ix_tupK K) (pe_dget hu (pv 3) (pv 7) (fun _ _ => rfl)) pe_int (fun _ _ => rfl)) pa_nil)))))
  (pss_one ps_never)))))))
 (pss_one (ps_ret (pe_tup (pa_cons (pe_callTy (call_tupleK K) rfl M.tuple bt_tuple (pa_cons (pv 4) pa_nil)) (pa_cons (pe_callTy (call_tupleK K) rfl M.tuple bt_tuple (pa_cons (pv 5) pa_nil)) pa_nil))))))))), ?_⟩
    refine ⟨_, rfl, a, _, 1, _, rfl, rfl, N.top, rfl, aq, rfl, ⟨_, N.qu⟩, fun p np => dc_tup (K := K) (a := aq) (xs := bs.map V.ref) (fun i H' => Same H H' ∧ ∃ kvs, H' p = some (.dK kvs) ∧ Tab qs (fun _ j => V.ref (bs.getD j 0)) i kvs)
      ⟨same_new np, [], upd_same, .nil⟩ (fun i H' _ ⟨s', _⟩ => (N.same s').qu) ?_ ?_⟩
    · rintro i y H' hi ⟨sm, kvs, hp, tb⟩
      obtain ⟨b, r, rfl, hri, hrow⟩ := (N.same sm).at hi
      have hb : bs[i]? = some b := by
        rw [List.getElem?_map] at hi
        cases e : bs[i]? with
        | none => rw [e] at hi; cases hi
        | some b' => rw [e] at hi; rw [V.ref.inj (Option.some.inj hi)]
      have hlt : i < qs.length := (List.getElem?_eq_some_iff.mp hri).1
      refine ⟨rfl, _, rfl, b, _, 0, _, rfl, rfl, hrow, rfl, _, rfl, kvs, .inr r.q, rfl, hp, szl (by have := tb.1; omega), same_mut sm np, _, upd_same, ?_⟩
      have := tb.next ok.net.nd hri
      rw [List.getD_eq_getElem?_getD, hb] at this
      exact this
    · rintro H1 ⟨sm, kvs, hp, tb⟩
      have tab : ∀ r ∈ qs, ∃ b, dv kvs r.q = some (.ref b) ∧ SqT K H1 b (rowV r) := fun r' hp' => by
        obtain ⟨j, hj⟩ := List.mem_iff_getElem?.mp hp'
        have hjl : j < qs.length := (List.getElem?_eq_some_iff.mp hj).1
        have hbl : j < bs.length := by have := N.len; rw [List.length_map] at this; omega
        obtain ⟨b, r, e, hr', hrow⟩ := (N.same sm).at (i := j) (by rw [List.getElem?_map, List.getElem?_eq_getElem hbl]; rfl)
        rw [hj] at hr'
        obtain rfl := Option.some.inj hr'
        have h2 : dv kvs r'.q = some (V.ref (bs.getD j 0)) := tb.2 j r' (by rw [List.length_map]; exact hbl) hj
        rw [List.getD_eq_getElem?_getD, List.getElem?_eq_getElem hbl] at h2
        have e' : V.ref bs[j] = V.ref b := e
        have h2' : dv kvs r'.q = some (V.ref bs[j]) := h2
        rw [e'] at h2'
        exact ⟨b, h2', hrow⟩
      refine ⟨sz (by simp), fun st nst => ?_⟩
      refine ⟨_, rfl, sz (by simp), fun sp nsp => ?_⟩
      have hp1 := new_keep (o := .lst [.str u]) nsp (new_keep (o := .lst []) nst hp)
      have hne : st ≠ sp := fun e => by
        rw [← e, upd_same] at nsp
        cases nsp
      have sm1 : Same H1 (upd (upd H1 st (.lst [])) sp (.lst [.str u])) := (same_new nst).trans (same_new nsp)
      refine ⟨_, rfl, l, _, rfl, Same.lst sm1 (Same.lst sm hl), for_it walk_enum (fun i σ' H' => ∃ (cs : List Addr) (S : List Rb) (P0 : List Str) (v : Str) (v6 v7 : Option V), σ' = [some (.ref a), some (.str u), some (.ref l), some (.ref p), some (.ref st), some (.ref sp), v6, v7, none] ∧ Same H1 H' ∧ H' st = some (.lst (cs.map V.ref)) ∧ Paired (StepAt K H') cs S ∧ H' sp = some (.lst ((P0 ++ [v]).map V.str)) ∧
          S ++ wkS v (rs.drop i) = wkS u rs ∧ P0 ++ v :: wkP v (rs.drop i) = u :: wkP u rs ∧ wkOk v (rs.drop i) ∧ S.length ≤ i ∧ P0.length ≤ i)
        ⟨[], [], [], u, none, none, rfl, sm1, new_keep nsp upd_same, .nil, upd_same, rfl, rfl, hwk, Nat.le_refl _, Nat.le_refl _⟩ (fun i σ' H' _ ⟨_, _, _, _, _, _, _, s', _⟩ => Same.lst s' (Same.lst sm hl)) ?_ ?_⟩
      · clear hp1 sm1
        rintro i x σ' H2 H3 hi ⟨cs, S, P0, v, v6, v7, rfl, sm2, hst, pS, hsp, eS, eP, hok, lS, lP⟩ ⟨T0, x0, y0, rfl, nT, rfl, ex, ey⟩
        obtain rfl := Option.some.inj ex
        have ey : (List.map (fun r => V.str r.q) rs)[i]? = some y0 := ey
        rw [List.getElem?_map] at ey
        rw [List.length_map] at hi
        obtain ⟨r, hri⟩ : ∃ r, rs[i]? = some r := ⟨rs[i], List.getElem?_eq_getElem hi⟩
        rw [hri] at ey
        obtain rfl := (Option.some.inj ey).symm
        have hrq := hrs r (mem_at hri)
        rw [drop_at hri] at eS eP hok
        obtain ⟨hse, hok2⟩ := hok
        obtain ⟨d, hd, hrow⟩ := tab r hrq
        have sm3 : Same H1 (upd H2 T0 (.tup [.int (i : Nat), .str r.q])) := Same.new sm2 nT
        have hst3 := new_keep (o := .tup [.int (i : Nat), .str r.q]) nT hst
        have hsp3 := new_keep (o := .tup [.int (i : Nat), .str r.q]) nT hsp
        have pS3 := paired_ts pS (TS_.new (o := .tup [.int (i : Nat), .str r.q]) nT)
        have hcl := Paired.length pS
        refine ⟨T0, _, rfl, sqt upd_same, rfl, _, _, rfl, _, _, rfl, rfl, ?_⟩
        generalize upd H2 T0 (.tup [.int (i : Nat), .str r.q]) = H4 at sm3 hst3 hsp3 pS3
        clear pS hst hsp nT sm2
        have hp4 := sm3 _ _ hp
        have hrow4 := Same.tup sm3 hrow
        refine ⟨_, rfl, _, rfl, p, _, rfl, dget' hp4, _, rfl, ?_⟩
        rw [hd]
        have n1 : H st = none := same_free sm nst
        have n2 : H sp = none := same_free (sm.trans (same_new nst)) nsp
        have sfree : H1 st = none := nst
        have pfree : H1 sp = none := by
          cases e : H1 sp with
          | none => rfl
          | some o =>
            rw [same_new nst _ _ e] at nsp
            cases nsp
        refine ⟨_, rfl, _, rfl, p, _, rfl, dget hp4 hd, d, _, 1, _, rfl, rfl, hrow4, rfl, _, rfl, 1, rfl, sp, _, -1, .str v, rfl, rfl, sql hsp3, by rw [List.map_append]; exact atI_last _ _, rfl, _, rfl, ite2 (fun h1 => ?_) (fun h1 => ?_)⟩
        · have e1 : v = r.s := (V.str.inj (of_decide_eq_true h1)).symm
          refine ⟨.ref st, rfl, .inl ⟨rfl, _, sql hst3⟩, _, rfl, sz (by simp), fun t nt => ?_⟩
          refine ⟨st, _, _, rfl, rfl, new_keep nt hst3, szl (by simp; omega), ?_⟩
          have hst5 := new_keep (o := .tup [.str r.q, .str "along"]) nt hst3
          have hsp5 : upd (upd H4 t (.tup [.str r.q, .str "along"])) st (.lst (cs.map V.ref ++ [.ref t])) sp = some (.lst ((P0 ++ [v]).map V.str)) := by
            rw [upd_ne (Ne.symm hne)]
            exact new_keep nt hsp3
          have sm5 : Same H1 (upd (upd H4 t (.tup [.str r.q, .str "along"])) st (.lst (cs.map V.ref ++ [.ref t]))) := same_mut (Same.new sm3 nt) sfree
          have e2 : JM.stepOf v r = (r, true) := by unfold JM.stepOf; rw [decide_eq_true e1]
          have e3 : JM.otherOf v r = r.e := by unfold JM.otherOf; rw [if_pos e1]
          have hstep : StepAt K (upd (upd H4 t (.tup [.str r.q, .str "along"])) st (.lst (cs.map V.ref ++ [.ref t]))) t (JM.stepOf v r) := by
            rw [e2]
            exact TS_.lst hst5 t _ (sqt upd_same)
          have pS5 := (paired_ts pS3 ((TS_.new (o := .tup [.str r.q, .str "along"]) nt).trans (TS_.lst (o := .lst (cs.map V.ref ++ [.ref t])) hst5))).snoc hstep
          refine ⟨.ref sp, rfl, .inl ⟨rfl, _, sql hsp5⟩, _, rfl, _, rfl, p, _, rfl, dget (sm5 _ _ hp) hd, d, _, 2, _, rfl, rfl, Same.tup sm5 hrow, rfl, sp, _, _, rfl, rfl, hsp5, szl (by simp; omega), ?_⟩
          refine ⟨cs ++ [t], S ++ [JM.stepOf v r], P0 ++ [v], r.e, _, _, rfl, same_mut sm5 pfree, by rw [upd_ne hne, upd_same]; simp, paired_ts pS5 (TS_.lst hsp5), by rw [upd_same]; simp, ?_, ?_, ?_, by simp; omega, by simp; omega⟩
          · rw [← eS, wkS, e3, List.append_assoc]; rfl
          · rw [← eP, wkP, e3, List.append_assoc]; rfl
          · rw [← e3]; exact hok2
        · have e1 : ¬ v = r.s := fun e => h1 (by rw [e]; exact decide_eq_true rfl)
          have e1' : v = r.e := hse.elim (fun e => absurd e e1) id
          refine ⟨_, rfl, _, rfl, p, _, rfl, dget hp4 hd, d, _, 2, _, rfl, rfl, hrow4, rfl, _, rfl, 1, rfl, sp, _, -1, .str v, rfl, rfl, sql hsp3, by rw [List.map_append]; exact atI_last _ _, rfl, _, rfl, ite2 (fun h2 => ?_) (fun h2 => absurd (by rw [e1']; exact decide_eq_true rfl) h2)⟩
          refine ⟨.ref st, rfl, .inl ⟨rfl, _, sql hst3⟩, _, rfl, sz (by simp), fun t nt => ?_⟩
          refine ⟨st, _, _, rfl, rfl, new_keep nt hst3, szl (by simp; omega), ?_⟩
          have hst5 := new_keep (o := .tup [.str r.q, .str "against"]) nt hst3
          have hsp5 : upd (upd H4 t (.tup [.str r.q, .str "against"])) st (.lst (cs.map V.ref ++ [.ref t])) sp = some (.lst ((P0 ++ [v]).map V.str)) := by
            rw [upd_ne (Ne.symm hne)]
            exact new_keep nt hsp3
          have sm5 : Same H1 (upd (upd H4 t (.tup [.str r.q, .str "against"])) st (.lst (cs.map V.ref ++ [.ref t]))) := same_mut (Same.new sm3 nt) sfree
          have e2 : JM.stepOf v r = (r, false) := by unfold JM.stepOf; rw [decide_eq_false e1]
          have e3 : JM.otherOf v r = r.s := by unfold JM.otherOf; rw [if_neg e1]
          have hstep : StepAt K (upd (upd H4 t (.tup [.str r.q, .str "against"])) st (.lst (cs.map V.ref ++ [.ref t]))) t (JM.stepOf v r) := by
            rw [e2]
            exact TS_.lst hst5 t _ (sqt upd_same)
          have pS5 := (paired_ts pS3 ((TS_.new (o := .tup [.str r.q, .str "against"]) nt).trans (TS_.lst (o := .lst (cs.map V.ref ++ [.ref t])) hst5))).snoc hstep
          refine ⟨.ref sp, rfl, .inl ⟨rfl, _, sql hsp5⟩, _, rfl, _, rfl, p, _, rfl, dget (sm5 _ _ hp) hd, d, _, 1, _, rfl, rfl, Same.tup sm5 hrow, rfl, sp, _, _, rfl, rfl, hsp5, szl (by simp; omega), ?_⟩
          refine ⟨cs ++ [t], S ++ [JM.stepOf v r], P0 ++ [v], r.s, _, _, rfl, same_mut sm5 pfree, by rw [upd_ne hne, upd_same]; simp, paired_ts pS5 (TS_.lst hsp5), by rw [upd_same]; simp, ?_, ?_, ?_, by simp; omega, by simp; omega⟩
          · rw [← eS, wkS, e3, List.append_assoc]; rfl
          · rw [← eP, wkP, e3, List.append_assoc]; rfl
          · rw [← e3]; exact hok2
      · rintro σ' H' ⟨cs, S, P0, v, v6, v7, rfl, sm2, hst, pS, hsp, eS, eP, hok, lS, lP⟩
        rw [List.length_map, List.drop_length] at eS eP
        have eS' : S = wkS u rs := by rw [← eS]; simp [wkS]
        have eP' : P0 ++ [v] = u :: wkP u rs := by rw [← eP]; rfl
        subst eS'
        rw [eP'] at hsp
        refine ⟨_, rfl, st, _, rfl, .inl ⟨sql hst, fun t1 n1 => ?_⟩⟩
        refine ⟨_, rfl, sp, _, rfl, .inl ⟨sql (new_keep n1 hsp), fun t2 n2 => ⟨sz (by simp), fun t nt => ?_⟩⟩⟩
        exact q _ t t1 t2 (Same.new (Same.new (Same.new (sm.trans sm2) n1) n2) nt) (sqt upd_same) ⟨cs, sqt (new_keep nt (new_keep n2 upd_same)), paired_ts pS ((TS_.new n1).trans ((TS_.new n2).trans (TS_.new nt)))⟩ (sqt (new_keep nt upd_same))
end
end JL
set_option Elab.async false
set_option linter.all false
set_option maxRecDepth 100000
set_option maxHeartbeats 4000000
/-! the class Way -/
namespace JL
open PySem PySem.Spec PyProof.Rows L2 JB
theorem TS_.ins {K : PySem.W.Frag} {H : Hp} {f C dx : Addr} {fs : List (Str × V)} {o : HO} (hf : H f = some (.ins C dx fs)) : TS_ K H (upd H f o) := fun b xs h => tup_ne h (fun _ e => by rw [hf] at e; cases e) (fun _ _ e => by rw [hf] at e; cases e)
theorem lst_ins {K : PySem.W.Frag} {H : Hp} {f b C dx : Addr} {fs : List (Str × V)} {o : HO} {xs : List V} (hf : H f = some (.ins C dx fs)) (h : SqL K H b xs) : SqL K (upd H f o) b xs := by
  rcases h with (h | ⟨u, h⟩) | h
  · exact .inl (.inl (by rw [upd_ne (fun e => by rw [e, hf] at h; cases h)]; exact h))
  · exact .inl (.inr ⟨u, by rw [upd_ne (fun e => by rw [e, hf] at h; cases h)]; exact h⟩)
  · exact .inr h
/-- a way as its fields tell it -/
structure WayIn (K : PySem.W.Frag) (H : Hp) (fs : List (Str × V)) (ws : List Str) (qs : List Rw) (st : List Rb) (ps : List Str) : Prop where
  net : ∃ a, fs.lookup ("own_net" : Str) = some (.ref a) ∧ NetAt K H a ws qs
  taken : ∃ t, fs.lookup ("taken" : Str) = some (.ref t) ∧ StepsAt K H t st
  stops : ∃ p, fs.lookup ("stops" : Str) = some (.ref p) ∧ SqT K H p (ps.map V.str)
  c : fs.lookup ("cost" : Str) = none
  r : fs.lookup ("is_ring" : Str) = none
theorem WayIn.same {K : PySem.W.Frag} {H H' : Hp} {fs : List (Str × V)} {ws : List Str} {qs : List Rw} {st : List Rb} {ps : List Str} (h : WayIn K H fs ws qs st ps) (e : Same H H') : WayIn K H' fs ws qs st ps := by
  obtain ⟨⟨a, a1, a2⟩, ⟨t, t1, t2⟩, ⟨p, p1, p2⟩, c, r⟩ := h
  exact ⟨⟨a, a1, a2.same e⟩, ⟨t, t1, t2.ts (TS_.of e)⟩, ⟨p, p1, Same.tup e p2⟩, c, r⟩
def WayAt (K : PySem.W.Frag) (C : Addr) (H : Hp) (x : Addr) (ws : List Str) (qs : List Rw) (st : List Rb) (ps : List Str) : Prop := ∃ dx fs, H x = some (.ins C dx fs) ∧ WayIn K H fs ws qs st ps
theorem WayAt.same {K : PySem.W.Frag} {C : Addr} {H H' : Hp} {x : Addr} {ws : List Str} {qs : List Rw} {st : List Rb} {ps : List Str} (h : WayAt K C H x ws qs st ps) (e : Same H H') : WayAt K C H' x ws qs st ps := by
  obtain ⟨dx, fs, h1, h2⟩ := h
  exact ⟨dx, fs, e _ _ h1, h2.same e⟩
def spInit (K : PySem.W.Frag) (C : Addr) : Sp := fun vs H Q _ => ∃ (x a l dx : Addr) (ws : List Str) (qs rs : List Rw) (u : Str), vs = [.ref x, .ref a, .str u, .ref l] ∧ H x = some (.ins C dx []) ∧ NetAt K H a ws qs ∧ NetOk ws qs ∧ u ∈ ws ∧ SqL K H l (rs.map fun r => V.str r.q) ∧ (∀ r ∈ rs, r ∈ qs) ∧ wkOk u rs ∧ rs.length ≤ 10 ∧
  ∀ (H' : Hp), (∀ b o, b ≠ x → H b = some o → H' b = some o) → WayAt K C H' x ws qs (wkS u rs) (u :: wkP u rs) → Q .non H'
def spCost (K : PySem.W.Frag) (C : Addr) : Sp := fun vs H Q _ => ∃ (x : Addr) (ws : List Str) (qs : List Rw) (st : List Rb) (ps : List Str), vs = [.ref x] ∧ WayAt K C H x ws qs st ps ∧ NetOk ws qs ∧ (∀ p ∈ st, p.1 ∈ qs) ∧ ∀ (H' : Hp), Same H H' → Q (.int (JM.cost st)) H'
def ringB (names ps : List Str) : Bool := !(decide (names.length < 2) || !decide (ps.head? = ps.getLast?)) && (decide (ndiff names = names.length) && decide (ndiff ps = names.length))
def spIsRing (K : PySem.W.Frag) (C : Addr) : Sp := fun vs H Q _ => ∃ (x : Addr) (ws : List Str) (qs : List Rw) (st : List Rb) (u : Str) (ps : List Str), vs = [.ref x] ∧ WayAt K C H x ws qs st (u :: ps) ∧ st.length ≤ 100 ∧ ps.length ≤ 100 ∧ ∀ (H' : Hp), Same H H' → Q (.bl (ringB (st.map fun p => p.1.q) (u :: ps))) H'
/-- the class's facts -/
structure WayC (K : PySem.W.Frag) (C : Addr) : Prop where
  cl : Cls K C
  n1 : NoAttr K C "own_net"
  n2 : NoAttr K C "taken"
  n3 : NoAttr K C "stops"
structure WayD (P : Program) (w : World) (K : PySem.W.Frag) (mg : Str → Option Value) (base : Heap) where
  {Cw : Addr}
  {fi : Addr}
  {fc : Addr}
  {fr : Addr}
  {di : FuncData}
  {dc : FuncData}
  {dr : FuncData}
  g : mg "Way" = some (.ref Cw)
  wc : WayC K Cw
  mk_ : Mk K Cw fi
  f_init : FnOk P w K mg base CX0 6 fi di ["self", "net", "start", "queues"] (spInit K Cw)
  b_init : Binds K di ["self", "net", "start", "queues"] []
  m_cost : Meth K Cw "cost" fc
  f_cost : FnOk P w K mg base CX0 2 fc dc ["self"] (spCost K Cw)
  b_cost : Binds K dc ["self"] []
  m_is_ring : Meth K Cw "is_ring" fr
  f_is_ring : FnOk P w K mg base CX0 1 fr dr ["self"] (spIsRing K Cw)
  b_is_ring : Binds K dr ["self"] []
theorem WayD.cl {P : Program} {w : World} {K : PySem.W.Frag} {mg : Str → Option Value} {base : Heap} (W : WayD P w K mg base) : Cls K W.Cw := W.wc.cl
theorem net_mem {K : PySem.W.Frag} {H : Hp} {a aw aq : Addr} {bs : List Addr} {ws : List Str} {qs : List Rw} (N : NetIn K H a aw aq bs ws qs) : True := trivial
theorem last_split {α : Type} : ∀ (x : α) (l : List α), ∃ (P : List α) (v : α), x :: l = P ++ [v]
  | x, [] => ⟨[], x, rfl⟩
  | x, y :: l => let ⟨P, v, e⟩ := last_split y l; ⟨x :: P, v, by rw [e]; rfl⟩
section
variable {P : Program} {w : World} {K : PySem.W.Frag} {mg : Str → Option Value} {base : Heap}
theorem d_way_init {C f : Addr} {fd : FuncData} (F : FnP K "__init__" "Way.__init__" s_Way_init f fd) (W : WayC K C) (d_plain : Def P w K mg base 5 "plain" ["matter"] (spPlain K 3)) (d_walked : Def P w K mg base 1 "walked" ["net", "start", "queues"] (spWalked K)) : FnOk P w K mg base CX0 6 f fd ["self", "net", "start", "queues"] (spInit K C) := by
  refine F.ok sc_Way_init (fun vs H Q E h => ?_) (fun cdv A outer s H vs Q E hr h => ?_)
  · obtain ⟨x, a, l, dx, ws, qs, rs, u, rfl, _⟩ := h
    rfl
  · obtain ⟨x, a, l, dx, ws, qs, rs, u, rfl, hx, ⟨aw, aq, bs, N⟩, ok, huw, hl, hrs, hwk, hr10, q⟩ := h
    have nd := sc_Way_init.nd
    have hu := hu_of hr
    refine ⟨_, PSs.nox (pss_cons (ps_if (pt_cmpR (op_ninK K) (pv 2) (pe_ix (ix_tupK K) (pv 1) pe_int (fun _ _ => rfl)) (by rfl))
  (pss_one ps_never)
  pss_nil)
 (pss_cons (ps_fldK K (pv 0) (pe_own d_plain hr (by decide) (pa_cons (pv 1) pa_nil)) rfl)
 (pss_one (ps_asg (pe_own d_walked hr (by decide) (pa_cons (pe_fldK K (pv 0)) (pa_cons (pv 2) (pa_cons (pv 3) pa_nil)))) (pg_tupK K (n := 2) rfl (pgs_cons (pg_fldK K (pv 0)) (pgs_cons (pg_fldK K (pv 0)) pgs_nil))))))), ?_⟩
    refine ⟨_, rfl, _, rfl, a, _, 0, _, rfl, rfl, N.top, rfl, aw, _, rfl, .inr N.wk, rfl, flat_strs _, _, rfl, ite2 (fun h1 => ?_) (fun h1 => ?_)⟩
    · have h1' : (!inV (.str u) (ws.map V.str)) = true := h1
      rw [inV_strs, decide_eq_true huw] at h1'
      cases h1'
    · refine ⟨_, rfl, .ref a, netT ws qs, rfl, net_dat ⟨aw, aq, bs, N⟩, net0_net (by have := ok.w5; omega) (by have := ok.q7; omega), fun H1 v1 s1 hv1 => ?_⟩
      obtain ⟨a1, rfl, N1⟩ := net_back hv1
      have hx1 := s1 _ _ hx
      refine ⟨_, rfl, x, C, dx, [], rfl, hx1, W.cl, W.n1, by simp, ?_⟩
      have N2 := N1.ts (TS_.ins (o := .ins C dx (putF "own_net" (.ref a1) [])) hx1)
      have hl2 := lst_ins (o := .ins C dx (putF "own_net" (.ref a1) [])) hx1 (Same.lst s1 hl)
      refine ⟨_, rfl, x, C, dx, _, .ref a1, rfl, upd_same, W.cl, W.n1, rfl, _, rfl, _, rfl, a1, l, ws, qs, rs, u, rfl, N2, ok, hl2, hrs, hwk, hr10, fun H2 t t1 t2 s2 ht ht1 ht2 => ?_⟩
      have hx2 : H2 x = some (.ins C dx (putF "own_net" (.ref a1) [])) := s2 _ _ upd_same
      refine ⟨t, _, rfl, ht, rfl, _, _, rfl, ?_⟩
      refine ⟨_, rfl, x, C, dx, _, rfl, hx2, W.cl, W.n2, by have := length_putF "own_net" (V.ref a1) []; simp at this; omega, ?_⟩
      refine ⟨_, _, rfl, ?_⟩
      refine ⟨_, rfl, x, C, dx, _, rfl, upd_same, W.cl, W.n3, by have := length_putF "own_net" (V.ref a1) []; have := length_putF "taken" (V.ref t1) (putF "own_net" (V.ref a1) []); simp at *; omega, rfl, ?_⟩
      have T2 : TS_ K H2 (upd (upd H2 x (.ins C dx (putF "taken" (.ref t1) (putF "own_net" (.ref a1) [])))) x (.ins C dx (putF "stops" (.ref t2) (putF "taken" (.ref t1) (putF "own_net" (.ref a1) []))))) := (TS_.ins hx2).trans (TS_.ins upd_same)
      refine q _ (fun b o hb ho => ?_) ⟨dx, _, upd_same, ⟨a1, rfl, (N2.same s2).ts T2⟩, ⟨t1, rfl, ht1.ts T2⟩, ⟨t2, rfl, T2 _ _ ht2⟩, rfl, rfl⟩
      rw [upd_ne hb, upd_ne hb]
      exact s2 _ _ (by rw [upd_ne hb]; exact s1 _ _ ho)
theorem d_way_cost {C f : Addr} {fd : FuncData} (F : FnP K "cost" "Way.cost" s_Way_cost f fd) (W : WayC K C) (d_steps_cost : Def P w K mg base 1 "steps_cost" ["net", "steps"] (spStepsCost K)) : FnOk P w K mg base CX0 2 f fd ["self"] (spCost K C) := by
  refine F.ok sc_Way_cost (fun vs H Q E h => ?_) (fun cdv A outer s H vs Q E hr h => ?_)
  · obtain ⟨x, ws, qs, st, ps, rfl, _⟩ := h
    rfl
  · obtain ⟨x, ws, qs, st, ps, rfl, ⟨dx, fs, hx, ⟨a, ha, N⟩, ⟨t, ht, hst⟩, _, _, _⟩, ok, hrs, q⟩ := h
    have nd := sc_Way_cost.nd
    have hu := hu_of hr
    refine ⟨_, PSs.nox (pss_one (ps_ret (pe_own d_steps_cost hr (by decide) (pa_cons (pe_fldK K (pv 0)) (pa_cons (pe_fldK K (pv 0)) pa_nil))))), ?_⟩
    exact ⟨_, rfl, x, C, dx, fs, _, rfl, hx, W.cl, W.n1, ha, _, rfl, x, C, dx, fs, _, rfl, hx, W.cl, W.n2, ht, a, t, ws, qs, st, rfl, N, ok, hst, hrs, q⟩
theorem d_way_is_ring {C f : Addr} {fd : FuncData} (F : FnP K "is_ring" "Way.is_ring" s_Way_is_ring f fd) (W : WayC K C) (M : Free mg) : FnOk P w K mg base CX0 1 f fd ["self"] (spIsRing K C) := by
  refine F.ok sc_Way_is_ring (fun vs H Q E h => ?_) (fun cdv A outer s H vs Q E hr h => ?_)
  · obtain ⟨x, ws, qs, st, u, ps, rfl, _⟩ := h
    rfl
  · obtain ⟨x, ws, qs, st, u, ps, rfl, ⟨dx, fs, hx, _, ⟨t, ht, cs, hst, pst⟩, ⟨p, hp, hps⟩, _, _⟩, l1, l2, q⟩ := h
    have nd := sc_Way_is_ring.nd
    have hu := hu_of hr
    refine ⟨_, PSs.nox (pss_cons (ps_setLc (i := 1) (own := [("queue", 2), ("way", 3)]) (by rfl) nd rfl rfl (sw_true rfl rfl rfl (by decide +kernel)) (pi_tupK K (pe_fldK K (pv 0))) (by exact blkOk_by (by kernel_rfl)) (fun _ _ _ _ _ => (pg_tupK K (n := 2) rfl (pgs_cons (pg_name (i := 2) nd rfl (Or.inl rfl)) (pgs_cons (pg_name (i := 3) nd rfl (Or.inl rfl)) pgs_nil)))) (fun _ _ _ _ _ => pts_nil) (fun _ _ _ _ _ => (pv 2)))
 (pss_cons (ps_if (PW.pt (pw_or (pt_cmpR op_lt (pe_callB (call_lenK K) rfl M.len bt_len (pa_cons (pv 1) pa_nil)) pe_int (nomark _)) (pw_or1 (pt_cmpR op_ne (pe_ix (ix_tupK K) (pe_fldK K (pv 0)) pe_int (fun _ _ => rfl)) (pe_ix (ix_tupK K) (pe_fldK K (pv 0)) (pe_un un_neg pe_int) (fun _ _ => rfl)) (nomark _)))))
  (pss_one (ps_ret pe_bl))
  pss_nil)
 (pss_one (ps_ret (pe_and (pe_cmpR op_eq (pe_lenSetK K rfl M.len rfl M.set (pv 1)) (pe_callB (call_lenK K) rfl M.len bt_len (pa_cons (pv 1) pa_nil)) (nomark _)) (pe_one (pe_cmpR op_eq (pe_lenSetK K rfl M.len rfl M.set (pe_fldK K (pv 0))) (pe_callB (call_lenK K) rfl M.len bt_len (pa_cons (pv 1) pa_nil)) (nomark _)))))))), ?_⟩
    refine ⟨_, rfl, x, C, dx, fs, _, rfl, hx, W.cl, W.n2, ht, t, rfl, ⟨_, hst⟩, fun D nD => lc_tup (K := K) (a := t) (xs := cs.map V.ref) (fun k H5 => Same H H5 ∧ H5 D = some (.lst (((st.take k).map fun p => p.1.q).map V.str)))
      ⟨same_new nD, upd_same⟩ (fun k H5 _ ⟨s', _⟩ => Same.tup s' hst) ?_ ?_⟩
    · rintro k z H5 hk ⟨s5, hD⟩
      obtain ⟨b5, p5, rfl, hp5, hb5⟩ := part_at pst hk
      have hkl : k < st.length := (List.getElem?_eq_some_iff.mp hp5).1
      refine ⟨b5, _, rfl, Same.tup s5 hb5, rfl, _, _, rfl, _, _, rfl, rfl, rfl, _, rfl, _, hD, szl (by simp; omega), same_mut s5 nD, ?_⟩
      rw [upd_same, names_next hp5]
      simp
    · rintro H2 ⟨s2, hD⟩
      rw [take_all (part_len pst)] at hD
      obtain ⟨P0, v, eP⟩ := last_split u ps
      have hx2 := s2 _ _ hx
      have hps2 := Same.tup s2 hps
      have hlast : (u :: ps).getLast? = some v := by rw [eP]; simp
      have qf : ∀ b, b = ringB (st.map fun p => p.1.q) (u :: ps) → Q (.bl b) H2 := fun b e => by rw [e]; exact q H2 s2
      clear q
      have lN : (st.map fun p => p.1.q).length ≤ 100 := by rw [List.length_map]; exact l1
      generalize (st.map fun p => p.1.q) = names at hD qf lN
      have h0 : atI ((u :: ps).map V.str) 0 = some (.str u) := atI_nat (j := 0) rfl
      have h9 : atI ((u :: ps).map V.str) (-1) = some (.str v) := by rw [eP, List.map_append]; exact atI_last _ _
      have rest : ∀ (b : Bool), (decide (names.length < 2) || !decide ((u :: ps).head? = (u :: ps).getLast?)) = b → (b = true → ringB names (u :: ps) = false) ∧ (b = false → ringB names (u :: ps) = (decide (ndiff names = names.length) && decide (ndiff (u :: ps) = names.length))) := fun b hb => by
        unfold ringB
        rw [hb]
        exact ⟨fun e => by rw [e]; rfl, fun e => by rw [e]; rfl⟩
      have fin : (decide (names.length < 2) || !decide ((u :: ps).head? = (u :: ps).getLast?)) = false → ∀ (D' : Ends), D'.rt = Q → tRet (tAndV (tOp rEq (tLenSetS K (tVar 1)) (tCB (rLenS K) (tCons (tVar 1) tNil))) (tOp rEq (tLenSetS K (tFld K (tVar 0) "stops")) (tCB (rLenS K) (tCons (tVar 1) tNil)))) D' [some (.ref x), some (.ref D), none, none] H2 := fun e0 D' eD => by
        have er := (rest _ e0).2 rfl
        refine ⟨_, rfl, D, names, rfl, .inl (sql hD), by omega, _, rfl, D, _, rfl, .inl (sql hD), rfl, _, rfl, ite2 (fun h1 => ?_) (fun h1 => ?_)⟩
        · refine ⟨_, rfl, x, C, dx, fs, _, rfl, hx2, W.cl, W.n3, hp, p, u :: ps, rfl, .inr hps2, by simp; omega, _, rfl, D, _, rfl, .inl (sql hD), rfl, ?_⟩
          rw [eD]
          refine qf _ ?_
          rw [er]
          have h1' := V.int.inj (of_decide_eq_true h1)
          rw [List.length_map] at h1' ⊢
          rw [decide_eq_true (p := ndiff names = names.length) (by omega), Bool.true_and]
          by_cases e : ndiff (u :: ps) = names.length
          · rw [e, decide_eq_true rfl, decide_eq_true rfl]
          · rw [decide_eq_false e, decide_eq_false (fun z => e (by have := V.int.inj z; omega))]
        · rw [eD]
          refine qf _ ?_
          rw [er, decide_eq_false (p := ndiff names = names.length) (fun e => h1 (by rw [e, List.length_map]; exact decide_eq_true rfl)), Bool.false_and]
      refine ⟨_, rfl, D, _, rfl, .inl (sql hD), _, _, rfl, rfl, _, rfl, ite2 (fun h1 => ?_) (fun h1 => ?_)⟩
      · have h1' : names.length < 2 := by
          have := of_decide_eq_true h1
          rw [List.length_map] at this
          omega
        exact qf _ ((rest true (by rw [decide_eq_true h1']; rfl)).1 rfl).symm
      · have h1' : ¬ names.length < 2 := fun z => h1 (decide_eq_true (by rw [List.length_map]; omega))
        refine ⟨_, rfl, x, C, dx, fs, _, rfl, hx2, W.cl, W.n3, hp, p, _, 0, _, rfl, rfl, hps2, h0, _, rfl, x, C, dx, fs, _, rfl, hx2, W.cl, W.n3, hp, 1, rfl, p, _, -1, _, rfl, rfl, hps2, h9, rfl, _, rfl, ite2 (fun h2 => ?_) (fun h2 => ?_)⟩
        · refine qf _ ((rest true ?_).1 rfl).symm
          have e : u ≠ v := fun e => by
            rw [e] at h2
            have h2' : (!decide (V.str v = V.str v)) = true := h2
            simp at h2'
          rw [hlast]
          simp [h1', e]
        · refine fin ?_ _ rfl
          have e : u = v := by
            have h2' : ¬ (!decide (V.str u = V.str v)) = true := h2
            rw [Bool.not_eq_true', Bool.not_eq_false] at h2'
            exact V.str.inj (of_decide_eq_true h2')
          rw [hlast]
          simp [h1', e]
end
end JL
set_option Elab.async false
set_option linter.all false
set_option maxRecDepth 100000
set_option maxHeartbeats 4000000
/-! the law's draws: box, take, of, pick, cells -/
namespace JL
open PySem PySem.Spec PyProof.Rows L2 JB
/-- what stood stays, but for b -/
def Gt (b : Addr) (H H' : Hp) : Prop := ∀ c o, c ≠ b → H c = some o → H' c = some o
/-- a box of draws; n: how often it was asked -/
def Box (H : Hp) (b : Addr) (n : Nat) : Prop := ∃ x y z : Int, H b = some (.lst [.int x, .int y, .int z]) ∧ 0 ≤ x ∧ 0 ≤ z ∧ z ≤ n
theorem Gt.rfl {b : Addr} {H : Hp} : Gt b H H := fun _ _ _ h => h
theorem Gt.trans {b : Addr} {H H' H'' : Hp} (h : Gt b H H') (k : Gt b H' H'') : Gt b H H'' := fun c o n q => k c o n (h c o n q)
theorem Gt.of {b : Addr} {H H' : Hp} (h : Same H H') : Gt b H H' := fun c o _ q => h c o q
theorem Gt.new {b : Addr} {H H' : Hp} {p : Addr} {o : HO} (h : Gt b H H') (hp : H' p = none) : Gt b H (upd H' p o) := h.trans (.of (same_new hp))
theorem Box.same {b : Addr} {H H' : Hp} {n : Nat} (h : Box H b n) (e : Same H H') : Box H' b n := by
  obtain ⟨x, y, z, h1, h2⟩ := h
  exact ⟨x, y, z, e _ _ h1, h2⟩
theorem Box.new {b : Addr} {H : Hp} {n : Nat} {p : Addr} {o : HO} (h : Box H b n) (hp : H p = none) : Box (upd H p o) b n := h.same (same_new hp)
theorem Box.some {b : Addr} {H : Hp} {n : Nat} (h : Box H b n) : ∃ xs, H b = some (.lst xs) := by
  obtain ⟨x, y, z, h1, h2⟩ := h
  exact ⟨_, h1⟩
theorem Box.ne {b : Addr} {H : Hp} {n : Nat} {p : Addr} (h : Box H b n) (hp : H p = none) : p ≠ b := fun e => by
  obtain ⟨xs, k⟩ := h.some
  rw [← e, hp] at k
  cases k
theorem Box.mut {b : Addr} {H : Hp} {n : Nat} {p : Addr} {o : HO} (h : Box H b n) (hp : p ≠ b) : Box (upd H p o) b n := by
  obtain ⟨x, y, z, h1, h2⟩ := h
  exact ⟨x, y, z, by rw [upd_ne (Ne.symm hp)]; exact h1, h2⟩
theorem Box.mono {b : Addr} {H : Hp} {n m : Nat} (h : Box H b n) (hm : n ≤ m) : Box H b m := by
  obtain ⟨x, y, z, h1, h2, h3, h4⟩ := h
  exact ⟨x, y, z, h1, h2, h3, by omega⟩
theorem Gt.ts {K : PySem.W.Frag} {b : Addr} {H H' : Hp} {n : Nat} (h : Gt b H H') (k : Box H b n) : TS_ K H H' := fun c xs q => by
  obtain ⟨ys, kb⟩ := k.some
  rcases q with (q | ⟨u, q⟩) | q
  · exact .inl (.inl (h c _ (fun e => by rw [e, kb] at q; cases q) q))
  · exact .inl (.inr ⟨u, h c _ (fun e => by rw [e, kb] at q; cases q) q⟩)
  · exact .inr q
theorem Gt.lst {K : PySem.W.Frag} {b c : Addr} {H H' : Hp} {xs : List V} (h : Gt b H H') (hc : c ≠ b) (q : SqL K H c xs) : SqL K H' c xs := by
  rcases q with (q | ⟨u, q⟩) | q
  · exact .inl (.inl (h c _ hc q))
  · exact .inl (.inr ⟨u, h c _ hc q⟩)
  · exact .inr q
theorem Gt.free {b p : Addr} {H H' : Hp} {n : Nat} (h : Gt b H H') (k : Box H' b n) (hp : H' p = none) : H p = none := by
  cases e : H p with
  | none => rfl
  | some o =>
    have := h p o (k.ne hp) e
    rw [hp] at this
    cases this
/-- a change of what stood not ahead -/
theorem Gt.mut {b p : Addr} {H H' : Hp} {o : HO} (h : Gt b H H') (hp : H p = none) : Gt b H (upd H' p o) := fun c u hc q => by
  rw [upd_ne (ne_of_none q hp)]
  exact h c u hc q
def spBox (K : PySem.W.Frag) : Sp := fun vs H Q _ => ∃ (l : Addr) (ns : List Int) (k : Nat), vs = [.ref l, .int (k : Nat)] ∧ SqL K H l (ns.map V.int) ∧ k ≤ 1000 ∧ ∀ (H' : Hp) (p : Addr), Same H H' → H p = none → Box H' p 0 → Q (.ref p) H'
def spTake (K : PySem.W.Frag) : Sp := fun vs H Q _ => ∃ (b : Addr) (m : Int) (n : Nat), vs = [.ref b, .int m] ∧ Box H b n ∧ n ≤ 1000000 ∧ 1 ≤ m ∧ m ≤ 1000 ∧ ∀ (H' : Hp) (r : Nat), Gt b H H' → (∀ p, H' p = none → H p = none) → Box H' b (n + 1) → (r : Int) < m → Q (.int r) H'
def spOf (K : PySem.W.Frag) : Sp := fun vs H Q _ => ∃ (b l : Addr) (xs : List V) (n : Nat), vs = [.ref b, .ref l] ∧ Box H b n ∧ n ≤ 1000000 ∧ SqL K H l xs ∧ l ≠ b ∧ xs ≠ [] ∧ xs.length ≤ 100 ∧ ∀ (H' : Hp) (x : V), Gt b H H' → (∀ p, H' p = none → H p = none) → Box H' b (n + 1) → x ∈ xs → Q x H'
def spPick (K : PySem.W.Frag) : Sp := fun vs H Q _ => ∃ (b l : Addr) (xs : List Str) (k n : Nat), vs = [.ref b, .ref l, .int (k : Nat)] ∧ Box H b n ∧ n ≤ 100000 ∧ SqL K H l (xs.map V.str) ∧ l ≠ b ∧ xs.Nodup ∧ xs.length ≤ 100 ∧ k ≤ 100 ∧
  ∀ (H' : Hp) (p : Addr) (ys : List Str), Gt b H H' → H p = none → H' p = some (.lst (ys.map V.str)) → Box H' b (n + ys.length) → ys.Nodup → (∀ y ∈ ys, y ∈ xs) → ys.length = min k xs.length → Q (.ref p) H'
def spCells (K : PySem.W.Frag) : Sp := fun vs H Q _ => ∃ (l : Addr) (ns : List Int), vs = [.ref l, .int 3] ∧ SqL K H l (ns.map V.int) ∧ ∀ (H' : Hp) (p : Addr) (ms : List Int), Same H H' → H p = none → H' p = some (.lst (ms.map V.int)) → 1 ≤ ms.length → ms.length ≤ 3 → Q (.ref p) H'
section
variable {P : Program} {w : World} {K : PySem.W.Frag} {mg : Str → Option Value} {base : Heap}
theorem d_law_box {f : Addr} {fd : FuncData} (F : FnP K "_law_box" "_law_box" s__law_box f fd) (g : mg "_law_box" = some (.ref f)) (M : Free mg) : Def P w K mg base 1 "_law_box" ["_law_script", "_law_k"] (spBox K) := by
  refine ⟨f, fd, F.ok sc__law_box (fun vs H Q E h => ?_) (fun cdv A outer s H vs Q E hr h => ?_), g, F.kp, bd__law_box F⟩
  · obtain ⟨l, ns, k, rfl, _⟩ := h
    rfl
  · obtain ⟨l, ns, k, rfl, hl, hk, q⟩ := h
    have nd := sc__law_box.nd
    have hu := hu_of hr
    refine ⟨_, PSs.nox (pss_cons (ps_set (i := 2) nd rfl (Or.inl rfl) (pe_ifExp (pt_cmpR op_lt (pv 1) (pe_callB (call_lenK K) rfl M.len bt_len (pa_cons (pv 0) pa_nil)) (nomark _)) (pe_ix (ix_listK K) (pv 0) (pv 1) (fun _ _ => rfl)) pe_int))
 (pss_one (ps_ret (pe_lst (pa_cons (pe_op op_mul (pe_callB call_abs rfl M.abs bt_abs (pa_cons (pv 2) pa_nil)) (pe_callTy call_int1 rfl M.int bt_int (pa_cons (pe_cmpR op_ge (pe_callB call_abs rfl M.abs bt_abs (pa_cons (pv 2) pa_nil)) (pe_op op_pow pe_int pe_int) (nomark _)) pa_nil))) (pa_cons (pe_op op_add (pe_op op_add (pe_op op_modN (pe_callTy call_int1 rfl M.int bt_int (pa_cons (pv 2) pa_nil)) pe_int) (pe_op op_mul pe_int (pv 1))) pe_int) (pa_cons pe_int pa_nil))))))), ?_⟩
    have fin : ∀ c : Int, tRet (tLst (tCons (tOp (rI CMul fun i j => .int (i * j)) (tCB (fun xs H Q => ∃ i, xs = [.int i] ∧ Q (.int (if i < 0 then -i else i)) H) (tCons (tVar 2) tNil)) (tCB (fun xs H Q => (∃ i, xs = [.int i] ∧ Q (.int i) H) ∨ ∃ k, xs = [.bl k] ∧ Q (.int (if k then 1 else 0)) H) (tCons (tOp (rI0 fun i j => .bl (decide (j ≤ i))) (tCB (fun xs H Q => ∃ i, xs = [.int i] ∧ Q (.int (if i < 0 then -i else i)) H) (tCons (tVar 2) tNil)) (tOp (rI CPow fun i j => .int (i ^ j.toNat)) (tC (.int 10)) (tC (.int 18)))) tNil)))
        (tCons (tOp (rI0 fun i j => .int (i + j)) (tOp (rI0 fun i j => .int (i + j)) (tOp (rI (fun _ j => j ≠ 0) fun i j => .int (i.fmod j)) (tCB (fun xs H Q => (∃ i, xs = [.int i] ∧ Q (.int i) H) ∨ ∃ k, xs = [.bl k] ∧ Q (.int (if k then 1 else 0)) H) (tCons (tVar 2) tNil)) (tC (.int 2305843009213693951))) (tOp (rI CMul fun i j => .int (i * j)) (tC (.int 39373)) (tVar 1))) (tC (.int 307))) (tCons (tC (.int 0)) tNil)))) { nx := fun _ H' => Q .non H', rt := Q } [some (.ref l), some (.int (k : Nat)), some (.int c)] H := fun c => by
      refine ⟨_, rfl, c, rfl, _, rfl, c, rfl, _, _, rfl, rfl, ⟨by decide, by decide, by decide⟩, _, _, rfl, rfl, .inr ⟨_, rfl, _, _, rfl, rfl, ?_, ?_⟩⟩
      · refine .inr ?_
        cases decide ((10 : Int) ^ (18 : Int).toNat ≤ if c < 0 then -c else c) <;> decide
      · refine ⟨_, rfl, .inl ⟨c, rfl, c, _, rfl, rfl, by simp, _, rfl, _, _, rfl, rfl, .inl (by simp), _, _, rfl, rfl, _, _, rfl, rfl, sz (by simp), fun p np => ?_⟩⟩
        refine q _ p (same_new np) np ⟨_, _, _, upd_same, ?_, by omega, by omega⟩
        have h1 : (0 : Int) ≤ if c < 0 then -c else c := by by_cases h : c < 0 <;> simp [h] <;> omega
        refine Int.mul_nonneg h1 ?_
        cases decide ((10 : Int) ^ (18 : Int).toNat ≤ if c < 0 then -c else c) <;> decide
    refine ⟨_, rfl, _, rfl, l, _, rfl, .inl hl, _, _, rfl, rfl, _, rfl, ite2 (fun h1 => ?_) (fun h1 => fin 0)⟩
    have hkl : k < ns.length := by
      have := of_decide_eq_true h1
      rw [List.length_map] at this
      omega
    exact ⟨_, rfl, _, rfl, l, _, _, .int ns[k], rfl, rfl, hl, atI_nat (by simp [hkl]), fin _⟩
theorem d_law_take {f : Addr} {fd : FuncData} (F : FnP K "_law_take" "_law_take" s__law_take f fd) (g : mg "_law_take" = some (.ref f)) (M : Free mg) : Def P w K mg base 1 "_law_take" ["_law_box_here", "_law_below"] (spTake K) := by
  refine ⟨f, fd, F.ok sc__law_take (fun vs H Q E h => ?_) (fun cdv A outer s H vs Q E hr h => ?_), g, F.kp, bd__law_take F⟩
  · obtain ⟨b, m, n, rfl, _⟩ := h
    rfl
  · obtain ⟨b, m, n, rfl, ⟨x, y, z, hb, hx, hz, hz2⟩, hn, hm1, hm2, q⟩ := h
    have nd := sc__law_take.nd
    have hu := hu_of hr
    have q' : ∀ (x' z' r : Int), 0 ≤ x' → 0 ≤ z' → z' ≤ (n : Int) + 1 → 0 ≤ r → r < m → Q (.int r) (upd H b (.lst [.int x', .int y, .int z'])) := fun x' z' r h1 h2 h3 h4 h5 => by
      obtain ⟨k, rfl⟩ := Int.eq_ofNat_of_zero_le h4
      refine q _ k (fun c o hc e => by rw [upd_ne hc]; exact e) (fun p hp => ?_) ⟨x', y, z', upd_same, h1, h2, by omega⟩ h5
      by_cases e : p = b
      · rw [e, upd_same] at hp
        cases hp
      · rw [upd_ne e] at hp
        exact hp
    refine ⟨_, PSs.nox (pss_cons (ps_if (pt_cmpR op_gt (pe_ix (ix_listK K) (pv 0) pe_int (fun _ _ => rfl)) pe_int (nomark _))
  (pss_cons (ps_set (i := 2) nd rfl (Or.inl rfl) (pe_op op_modN (pe_callTy call_int1 rfl M.int bt_int (pa_cons (pe_ix (ix_listK K) (pv 0) pe_int (fun _ _ => rfl)) pa_nil)) (pv 1)))
 (pss_cons (ps_asg (pe_op op_fdivN (pe_ix (ix_listK K) (pv 0) pe_int (fun _ _ => rfl)) (pv 1)) (pg_sub (pv 0) pe_int set_list))
 (pss_one (ps_ret (pv 2)))))
  pss_nil)
 (pss_cons (ps_asg (pe_op op_add (pe_ix (ix_listK K) (pv 0) pe_int (fun _ _ => rfl)) pe_int) (pg_sub (pv 0) pe_int set_list))
 (pss_cons (ps_set (i := 3) nd rfl (Or.inl rfl) (pe_op op_modN (pe_callTy call_int1 rfl M.int bt_int (pa_cons (pe_op op_mul (pe_op op_add (pe_ix (ix_listK K) (pv 0) pe_int (fun _ _ => rfl)) (pe_op op_mul pe_int (pe_ix (ix_listK K) (pv 0) pe_int (fun _ _ => rfl)))) (pe_op op_add pe_int (pe_ix (ix_listK K) (pv 0) pe_int (fun _ _ => rfl)))) pa_nil)) pe_int))
 (pss_cons (ps_set (i := 4) nd rfl (Or.inl rfl) (pe_op op_add (pe_op op_modN (pe_callTy call_int1 rfl M.int bt_int (pa_cons (pv 3) pa_nil)) pe_int) pe_int))
 (pss_cons (ps_set (i := 5) nd rfl (Or.inl rfl) (pe_op op_modN (pe_callTy call_int1 rfl M.int bt_int (pa_cons (pe_op op_mul (pe_op op_add (pe_op op_add (pv 3) (pe_ix (ix_listK K) (pv 0) pe_int (fun _ _ => rfl))) (pe_op op_fdivN (pe_ix (ix_listK K) (pv 0) pe_int (fun _ _ => rfl)) pe_int)) (pv 4)) pa_nil)) pe_int))
 (pss_one (ps_ret (pe_op op_modN (pe_callTy call_int1 rfl M.int bt_int (pa_cons (pe_op op_fdivN (pe_op op_modN (pe_callTy call_int1 rfl M.int bt_int (pa_cons (pe_op op_add (pe_op op_mul (pv 5) pe_int) (pv 3)) pa_nil)) pe_int) pe_int) pa_nil)) (pv 1))))))))), ?_⟩
    have i0 : atI [V.int x, .int y, .int z] 0 = some (.int x) := rfl
    refine ⟨_, rfl, b, _, 0, _, rfl, rfl, sql hb, i0, _, _, rfl, rfl, _, rfl, ite2 (fun h1 => ?_) (fun h1 => ?_)⟩
    · refine ⟨_, rfl, b, _, 0, _, rfl, rfl, sql hb, i0, .inl ⟨_, rfl, _, rfl, x, m, rfl, rfl, by omega, ?_⟩⟩
      refine ⟨_, rfl, b, _, 0, _, rfl, rfl, sql hb, i0, _, rfl, x, m, rfl, rfl, ⟨by omega, by omega⟩, _, rfl, b, _, 0, 0, rfl, rfl, hb, rfl, _, rfl, ?_⟩
      refine q' (x.fdiv m) z (x.fmod m) ?_ hz (by omega) ?_ ?_
      · rw [Int.fdiv_eq_ediv_of_nonneg _ (by omega)]
        exact Int.ediv_nonneg hx (by omega)
      · exact Int.fmod_nonneg_of_pos _ (by omega)
      · exact Int.fmod_lt_of_pos _ (by omega)
    · have fm : ∀ (i j : Int), 0 < j → 0 ≤ i.fmod j ∧ i.fmod j < j := fun i j hj => ⟨Int.fmod_nonneg_of_pos _ hj, Int.fmod_lt_of_pos _ hj⟩
      refine ⟨_, rfl, b, _, 2, _, rfl, rfl, sql hb, rfl, _, _, rfl, rfl, _, rfl, b, _, 2, 2, rfl, rfl, hb, rfl, ?_⟩
      have hb1 : upd H b (.lst [.int x, .int y, .int (z + 1)]) b = some (.lst [.int x, .int y, .int (z + 1)]) := upd_same
      have q1 := q' x (z + 1)
      clear q q' hb
      have e9 : ([V.int x, .int y, .int z].set 2 (.int (z + 1))) = [V.int x, .int y, .int (z + 1)] := rfl
      show tSeq _ _ _ _ (upd H b (.lst [V.int x, .int y, .int (z + 1)]))
      generalize upd H b (.lst [V.int x, .int y, .int (z + 1)]) = H1 at hb1 q1
      have i1 : atI [V.int x, .int y, .int (z + 1)] 1 = some (.int y) := rfl
      have i2 : atI [V.int x, .int y, .int (z + 1)] 2 = some (.int (z + 1)) := rfl
      refine ⟨_, rfl, b, _, 1, _, rfl, rfl, sql hb1, i1, _, rfl, b, _, 2, _, rfl, rfl, sql hb1, i2, _, _, rfl, rfl, .inl (by decide), _, _, rfl, rfl, _, rfl, b, _, 2, _, rfl, rfl, sql hb1, i2, _, _, rfl, rfl, _, _, rfl, rfl, .inr (by omega), .inl ⟨_, rfl, _, _, rfl, rfl, by simp, ?_⟩⟩
      refine ⟨_, rfl, .inl ⟨_, rfl, _, _, rfl, rfl, by simp, _, _, rfl, rfl, ?_⟩⟩
      have hfar := fm (((y + 48271 * (z + 1)) * (39373 + (z + 1))).fmod 2147483647) 40009 (by decide)
      refine ⟨_, rfl, _, rfl, b, _, 2, _, rfl, rfl, sql hb1, i2, _, _, rfl, rfl, _, rfl, b, _, 1, _, rfl, rfl, sql hb1, i1, _, _, rfl, rfl, ⟨by decide, by decide⟩, _, _, rfl, rfl, _, rfl, _, _, rfl, rfl, .inr (by omega), .inl ⟨_, rfl, _, _, rfl, rfl, by simp, ?_⟩⟩
      refine ⟨_, rfl, _, _, rfl, rfl, .inr (by decide), _, rfl, _, _, rfl, rfl, .inl ⟨_, rfl, _, _, rfl, rfl, by simp, _, _, rfl, rfl, ⟨by decide, by decide⟩, .inl ⟨_, rfl, _, rfl, _, m, rfl, rfl, by omega, ?_⟩⟩⟩
      exact q1 _ hx (by omega) (by omega) (fm _ m (by omega)).1 (fm _ m (by omega)).2
end
end JL
set_option Elab.async false
set_option linter.all false
set_option maxRecDepth 100000
set_option maxHeartbeats 4000000
/-! the law's draws: of, pick, cells -/
namespace JL
open PySem PySem.Spec PyProof.Rows L2 JB
theorem seqIx {r n : Nat} (h : r < n) : seqIndex? (r : Nat) n = some r := by
  unfold seqIndex?
  have h1 : ¬ ((r : Int) < 0) := by omega
  simp only [if_neg h1]
  rw [if_pos (by simp; omega), Int.toNat_natCast]
theorem ixNn {j n : Nat} (h : j < n) : ixN n (j : Nat) = some j := by
  unfold ixN
  rw [if_pos (by omega), if_pos (by omega), Int.toNat_natCast]
theorem erase_map {xs : List Str} : ∀ {k : Nat}, (xs.map V.str).eraseIdx k = (xs.eraseIdx k).map V.str := by
  induction xs with
  | nil => intro k; rfl
  | cons x xs ih =>
    intro k
    cases k with
    | zero => rfl
    | succ k => exact congrArg (V.str x :: ·) ih
theorem erase_perm {α : Type} : ∀ {l : List α} {k : Nat} (h : k < l.length), (l[k] :: l.eraseIdx k).Perm l
  | [], _, h => absurd h (by simp)
  | x :: l, 0, _ => List.Perm.refl _
  | x :: l, k + 1, h => by
    have ih := erase_perm (l := l) (k := k) (by simpa using h)
    exact (List.Perm.swap x (l[k]'(by simpa using h)) (l.eraseIdx k)).trans (ih.cons x)
theorem cut_to {ns : List Int} {k : Nat} : cutV (ns.map V.int) none (some (k : Nat)) = (ns.take k).map V.int := by
  unfold cutV
  rw [HT.sIx_none, HT.sIx_nat, List.drop_zero, Nat.sub_zero, List.length_map, List.map_take, List.take_eq_take_iff]
  simp
theorem cut_from {ns : List Int} {j k : Nat} : ∃ es : List Int, cutV (ns.map V.int) (some (j : Nat)) (some (k : Nat)) = es.map V.int ∧ (es ≠ [] → j < ns.length) ∧ es.length ≤ k := by
  unfold cutV
  rw [HT.sIx_nat, HT.sIx_nat, List.length_map]
  refine ⟨(ns.drop (min j ns.length)).take (min k ns.length - min j ns.length), by rw [List.map_take, List.map_drop], fun h => ?_, ?_⟩
  · have := List.length_pos_iff.mpr h
    rw [List.length_take, List.length_drop] at this
    omega
  · rw [List.length_take]
    omega
section
variable {P : Program} {w : World} {K : PySem.W.Frag} {mg : Str → Option Value} {base : Heap}
theorem d_law_of {f : Addr} {fd : FuncData} (F : FnP K "_law_of" "_law_of" s__law_of f fd) (g : mg "_law_of" = some (.ref f)) (M : Free mg) (d__law_take : Def P w K mg base 1 "_law_take" ["_law_box_here", "_law_below"] (spTake K)) : Def P w K mg base 2 "_law_of" ["_law_box_here", "_law_some"] (spOf K) := by
  refine ⟨f, fd, F.ok sc__law_of (fun vs H Q E h => ?_) (fun cdv A outer s H vs Q E hr h => ?_), g, F.kp, bd__law_of F⟩
  · obtain ⟨b, l, xs, n, rfl, _⟩ := h
    rfl
  · obtain ⟨b, l, xs, n, rfl, hb, hn, hl, hne, hx, hx100, q⟩ := h
    have nd := sc__law_of.nd
    have hu := hu_of hr
    refine ⟨_, PSs.nox (pss_one (ps_ret (pe_ix (ix_listK K) (pv 1) (pe_own d__law_take hr (by decide) (pa_cons (pv 0) (pa_cons (pe_callB (call_lenK K) rfl M.len bt_len (pa_cons (pv 1) pa_nil)) pa_nil))) (fun _ _ => rfl)))), ?_⟩
    have := List.length_pos_iff.mpr hx
    refine ⟨_, rfl, _, rfl, _, rfl, l, xs, rfl, .inl hl, b, (xs.length : Nat), n, rfl, hb, hn, by omega, by omega, fun H' r gt fr bx hr => ?_⟩
    have hr' : r < xs.length := by omega
    exact ⟨l, xs, (r : Nat), xs[r], rfl, rfl, gt.lst hne hl, atI_nat (by simp [hr']), q H' _ gt fr bx (List.getElem_mem _)⟩
theorem d_law_pick {f : Addr} {fd : FuncData} (F : FnP K "_law_pick" "_law_pick" s__law_pick f fd) (g : mg "_law_pick" = some (.ref f)) (M : Free mg) (d__law_take : Def P w K mg base 1 "_law_take" ["_law_box_here", "_law_below"] (spTake K)) : Def P w K mg base 2 "_law_pick" ["_law_box_here", "_law_pool", "_law_size_so"] (spPick K) := by
  refine ⟨f, fd, F.ok sc__law_pick (fun vs H Q E h => ?_) (fun cdv A outer s H vs Q E hr h => ?_), g, F.kp, bd__law_pick F⟩
  · obtain ⟨b, l, xs, k, n, rfl, _⟩ := h
    rfl
  · obtain ⟨b, l, xs, k, n, rfl, hb, hn, hl, hne, hnd, hx100, hk, q⟩ := h
    have nd := sc__law_pick.nd
    have hu := hu_of hr
    refine ⟨_, PSs.nox (pss_cons (ps_par (i := 3) (j := 4) rfl nd rfl rfl (by decide) rfl rfl (pa_cons (pe_callTy (call_listK K) rfl M.list bt_list (pa_cons (pv 1) pa_nil)) (pa_cons (pe_lst pa_nil) pa_nil)) (by rfl))
 (pss_cons (ps_for PassesOwn.never rfl (pi_range1 rfl M.range (pa_cons (pe_callB (call_min2 rfl) rfl M.min bt_min (pa_cons (pv 2) (pa_cons (pe_callB (call_lenK K) rfl M.len bt_len (pa_cons (pv 3) pa_nil)) pa_nil))) pa_nil)) (pg_name (i := 5) nd rfl (Or.inl rfl))
  (pss_one (ps_expr (pe_bmK K PySem.F.plainAttrs_list PySem.F.slot_list_append PySem.F.type_list_append mt_append (pv 4) (pa_cons (pe_bmK K PySem.F.plainAttrs_list PySem.F.slot_list_pop PySem.F.type_list_pop mt_popAt (pv 3) (pa_cons (pe_own d__law_take hr (by decide) (pa_cons (pv 0) (pa_cons (pe_callB (call_lenK K) rfl M.len bt_len (pa_cons (pv 3) pa_nil)) pa_nil))) pa_nil)) pa_nil)))))
 (pss_one (ps_ret (pv 4))))), ?_⟩
    refine ⟨_, rfl, l, _, rfl, .inl hl, fun rl nr => ⟨sz (by simp), fun sl ns => ⟨_, _, rfl, ?_⟩⟩⟩
    have hrs : rl ≠ sl := fun e => by
      rw [← e, upd_same] at ns
      cases ns
    have hb1 := (hb.new (o := .lst (xs.map V.str)) nr).new (o := .lst []) ns
    have hrb : rl ≠ b := hb.ne nr
    have hsb : sl ≠ b := (hb.new (o := .lst (xs.map V.str)) nr).ne ns
    have g1 : Gt b H (upd (upd H rl (.lst (xs.map V.str))) sl (.lst [])) := (Gt.rfl.new nr).new ns
    have hr1 := new_keep (o := .lst []) ns (upd_same (H := H) (a := rl) (o := .lst (xs.map V.str)))
    refine ⟨_, rfl, _, rfl, rl, _, rfl, .inl (sql hr1), (k : Nat), (xs.map V.str).length, rfl, _, rfl, ?_⟩
    have emin : (if ((xs.map V.str).length : Int) < (k : Nat) then ((xs.map V.str).length : Int) else (k : Nat)) = ((min k xs.length : Nat) : Int) := by
      rw [List.length_map]
      by_cases h : xs.length < k
      · rw [if_pos (by omega)]; omega
      · rw [if_neg (by omega)]; omega
    rw [emin]
    refine ⟨by omega, by omega, for_range (lo := 0) (n := min k xs.length) (fun i σ' H' => ∃ (R S : List Str) (v5 : Option V), σ' = [some (.ref b), some (.ref l), some (.int (k : Nat)), some (.ref rl), some (.ref sl), v5] ∧ Gt b H H' ∧ Box H' b (n + i) ∧ H' rl = some (.lst (R.map V.str)) ∧ H' sl = some (.lst (S.map V.str)) ∧ (S ++ R).Perm xs ∧ S.length = i)
      ⟨xs, [], none, rfl, g1, hb1, hr1, upd_same, List.Perm.refl _, rfl⟩ ?_ ?_⟩
    · rintro i σ' H' hi ⟨R, S, v5, rfl, gt, bx, hR, hS, pm, hSl⟩
      have hlen := pm.length_eq
      rw [List.length_append] at hlen
      have fr : H rl = none := nr
      have fs : H sl = none := by
        cases e : H sl with
        | none => rfl
        | some o =>
          rw [same_new nr _ _ e] at ns
          cases ns
      refine ⟨.ref sl, rfl, .inl ⟨rfl, _, sql hS⟩, .ref rl, rfl, .inl ⟨rfl, _, sql hR⟩, _, rfl, _, rfl, rl, _, rfl, .inl (sql hR), b, _, n + i, rfl, bx, by omega, by rw [List.length_map]; omega, by rw [List.length_map]; omega, fun H2 r gt2 fr2 bx2 hr2 => ?_⟩
      rw [List.length_map] at hr2
      have hrR : r < R.length := by omega
      have hR2 := gt2 _ _ hrb hR
      have hS2 := gt2 _ _ hsb hS
      refine ⟨rl, _, (r : Nat), r, .str R[r], rfl, rfl, hR2, by omega, by omega, by rw [List.length_map]; exact seqIx hrR, by simp [hrR], ?_⟩
      rw [erase_map]
      refine ⟨sl, _, _, rfl, rfl, by rw [upd_ne (Ne.symm hrs)]; exact hS2, szl (by simp; omega), R.eraseIdx r, S ++ [R[r]], _, rfl, ((gt.trans gt2).mut fr).mut fs, (bx2.mut hrb).mut hsb, by rw [upd_ne hrs, upd_same], by rw [upd_same]; simp, ?_, by simp; omega⟩
      refine List.Perm.trans ?_ pm
      rw [List.append_assoc]
      exact List.Perm.append_left _ (erase_perm hrR)
    · rintro σ' H' ⟨R, S, v5, rfl, gt, bx, hR, hS, pm, hSl⟩
      have hnd2 := pm.nodup_iff.mpr hnd
      have fs : H sl = none := by
        cases e : H sl with
        | none => rfl
        | some o =>
          rw [same_new nr _ _ e] at ns
          cases ns
      exact ⟨_, rfl, q H' sl S gt fs hS (by rw [hSl]; exact bx) (List.nodup_append.mp hnd2).1 (fun y hy => pm.mem_iff.mp (List.mem_append_left _ hy)) hSl⟩
theorem d_law_cells {f : Addr} {fd : FuncData} (F : FnP K "_law_cells" "_law_cells" s__law_cells f fd) (g : mg "_law_cells" = some (.ref f)) (M : Free mg) : Def P w K mg base 1 "_law_cells" ["_law_script", "_law_most"] (spCells K) := by
  refine ⟨f, fd, F.ok sc__law_cells (fun vs H Q E h => ?_) (fun cdv A outer s H vs Q E hr h => ?_), g, F.kp, bd__law_cells F⟩
  · obtain ⟨l, ns, rfl, _⟩ := h
    rfl
  · obtain ⟨l, ns, rfl, hl, q⟩ := h
    have nd := sc__law_cells.nd
    have hu := hu_of hr
    refine ⟨_, PSs.nox (pss_cons (ps_set (i := 2) nd rfl (Or.inl rfl) (pe_orTK K (pe_callTy (call_listK K) rfl M.list bt_list (pa_cons (pe_slice (sl_listK K) (pv 0) po_none (po_some (pv 1))) pa_nil)) (pe_one (pe_lst (pa_cons pe_int pa_nil)))))
 (pss_cons (ps_for PassesOwn.never rfl (pi_enumK K rfl M.enumerate (pa_cons (pe_slice (sl_listK K) (pv 0) (po_some (pv 1)) (po_some pe_int)) pa_nil)) (pg_tupK K (n := 2) rfl (pgs_cons (pg_name (i := 3) nd rfl (Or.inl rfl)) (pgs_cons (pg_name (i := 4) nd rfl (Or.inl rfl)) pgs_nil)))
  (pss_cons (ps_set (i := 5) nd rfl (Or.inl rfl) (pe_op op_modN (pe_callTy call_int1 rfl M.int bt_int (pa_cons (pv 3) pa_nil)) (pv 1)))
 (pss_one (ps_asg (pe_op op_add (pe_ix (ix_listK K) (pv 2) (pv 5) (fun _ _ => rfl)) (pe_op op_mul (pv 4) (pe_op op_add (pv 3) pe_int))) (pg_sub (pv 2) (pv 5) set_list)))))
 (pss_one (ps_ret (pv 2))))), ?_⟩
    have fin : ∀ (H1 : Hp) (c : Addr) (ms : List Int), Same H H1 → H c = none → H1 c = some (.lst (ms.map V.int)) → 1 ≤ ms.length → ms.length ≤ 3 → (3 < ns.length → ms.length = 3) →
        tSeq (tFor (iEnum K (tCons (tSl (rSlL K) (tVar 0) (tPart (tVar 1)) (tPart (tC (.int 63)))) tNil)) (gTup K 2 (gCons (gName 3) (gCons (gName 4) gNil)))
          (tSeq (tAsg (tOp (rI (fun _ j => j ≠ 0) fun i j => .int (i.fmod j)) (tCB (fun xs H Q => (∃ i, xs = [.int i] ∧ Q (.int i) H) ∨ ∃ k, xs = [.bl k] ∧ Q (.int (if k then 1 else 0)) H) (tCons (tVar 3) tNil)) (tVar 1)) (gName 5))
            (tAsg (tOp (rI0 fun i j => .int (i + j)) (tOp (rIxL K) (tVar 2) (tVar 5)) (tOp (rI CMul fun i j => .int (i * j)) (tVar 4) (tOp (rI0 fun i j => .int (i + j)) (tVar 3) (tC (.int 2))))) (gSub (tVar 2) (tVar 5) rSetL))))
          (tRet (tVar 2)) { nx := fun _ H' => Q .non H', rt := Q } [some (.ref l), some (.int 3), some (.ref c), none, none, none] H1 := fun H1 c ms sm nc hc l1 l3 l33 => by
      obtain ⟨es, ee, he, hel⟩ := cut_from (ns := ns) (j := 3) (k := 63)
      refine ⟨_, rfl, _, rfl, 3, rfl, 63, rfl, l, _, rfl, Same.lst sm hl, fun e ne => ?_⟩
      have ee' : cutV (ns.map V.int) (some 3) (some 63) = es.map V.int := ee
      rw [ee']
      have hee : e ≠ c := fun z => by
        rw [z, hc] at ne
        cases ne
      have fe : H e = none := same_free sm ne
      refine ⟨e, _, rfl, sql upd_same, for_it walk_enum (fun i σ' H' => ∃ (ms : List Int) (v3 v4 v5 : Option V), σ' = [some (.ref l), some (.int 3), some (.ref c), v3, v4, v5] ∧ Same H H' ∧ H' e = some (.lst (es.map V.int)) ∧ H' c = some (.lst (ms.map V.int)) ∧ 1 ≤ ms.length ∧ ms.length ≤ 3 ∧ (3 < ns.length → ms.length = 3))
        ⟨ms, none, none, none, rfl, Same.new sm ne, upd_same, new_keep ne hc, l1, l3, l33⟩ (fun i σ' H' _ ⟨_, _, _, _, _, _, he', _⟩ => sql he') ?_ ?_⟩
      · clear hc l1 l3 l33 ms sm ne
        rintro i x σ' H2 H3 hi ⟨ms, v3, v4, v5, rfl, sm, he', hc, l1, l3, l33⟩ ⟨T0, x0, y0, rfl, nT, rfl, ex, ey⟩
        obtain rfl := Option.some.inj ex
        have ey' : (es.map V.int)[i]? = some y0 := ey
        rw [List.length_map] at hi
        rw [List.getElem?_map, List.getElem?_eq_getElem hi] at ey'
        obtain rfl := (Option.some.inj ey').symm
        have h3 := l33 (he (fun z => by rw [z] at hi; exact absurd hi (by simp)))
        have hfm : ((i : Nat) : Int).fmod 3 = ((i % 3 : Nat) : Int) := by
          rw [Int.fmod_eq_emod_of_nonneg _ (by decide)]
          rfl
        have hlt : i % 3 < ms.length := by rw [h3]; exact Nat.mod_lt _ (by decide)
        refine ⟨T0, _, rfl, sqt upd_same, rfl, _, _, rfl, _, _, rfl, rfl, ?_⟩
        refine ⟨_, rfl, .inl ⟨_, rfl, _, rfl, _, 3, rfl, rfl, by simp, ?_⟩⟩
        have hc2 := new_keep (o := .tup [.int (i : Nat), .int es[i]]) nT hc
        refine ⟨_, rfl, _, rfl, c, _, _, .int ms[i % 3], rfl, rfl, sql hc2, by show atI _ (((i : Nat) : Int).fmod 3) = _; rw [hfm]; exact atI_nat (by simp [hlt]), _, rfl, _, rfl, _, _, rfl, rfl, _, _, rfl, rfl, .inr (by omega), _, _, rfl, rfl, _, rfl, _, rfl, c, _, _, i % 3, rfl, rfl, hc2, by show ixN _ (((i : Nat) : Int).fmod 3) = _; rw [hfm, List.length_map]; exact ixNn hlt, ?_⟩
        refine ⟨ms.set (i % 3) (ms[i % 3] + es[i] * ((i : Nat) + 2)), _, _, _, rfl, same_mut (Same.new sm nT) nc, by rw [upd_ne hee]; exact new_keep nT he', by rw [upd_same, List.map_set], by simp; omega, by simp; omega, fun z => by simp; exact l33 z⟩
      · rintro σ' H' ⟨ms, v3, v4, v5, rfl, sm, he', hc, l1, l3, l33⟩
        exact ⟨_, rfl, q H' c ms sm nc hc l1 l3⟩
    refine ⟨_, rfl, _, rfl, 3, rfl, l, _, rfl, hl, fun p np => ?_⟩
    have ec : cutV (ns.map V.int) none (some 3) = (ns.take 3).map V.int := cut_to (k := 3)
    rw [ec]
    refine ⟨p, _, rfl, .inl (sql upd_same), fun c nc => ?_⟩
    have fc : H c = none := same_free (same_new np) nc
    refine ⟨!((ns.take 3).map V.int).isEmpty, .inl ⟨_, sql upd_same, rfl⟩, ite2 (fun h => ?_) (fun h => ?_)⟩
    · refine fin _ c (ns.take 3) ((same_new np).trans (same_new nc)) fc upd_same ?_ (by rw [List.length_take]; omega) (fun z => by rw [List.length_take]; omega)
      cases e : ns.take 3 with
      | nil => rw [e] at h; exact absurd h (by decide)
      | cons a b => simp
    · refine ⟨sz (by simp), fun c2 nc2 => ?_⟩
      have fc2 : H c2 = none := same_free ((same_new np).trans (same_new nc)) nc2
      refine fin _ c2 [0] (((same_new np).trans (same_new nc)).trans (same_new nc2)) fc2 upd_same (by simp) (by simp) (fun z => ?_)
      exfalso
      refine h ?_
      have : ns.take 3 ≠ [] := fun e => by
        have := congrArg List.length e
        rw [List.length_take, List.length_nil] at this
        omega
      cases e : ns.take 3 with
      | nil => exact absurd e this
      | cons a b => rfl
end
end JL
set_option Elab.async false
set_option linter.all false
set_option maxRecDepth 100000
set_option maxHeartbeats 4000000
/-! _law_same of equal data -/
namespace JL
open PySem PySem.Spec PyProof.Rows L2 JB
/-- no long sequence in it -/
def small : Nat → T → Bool
  | n + 1, .l xs => decide (xs.length ≤ 1000) && xs.all (small n)
  | n + 1, .t xs => decide (xs.length ≤ 1000) && xs.all (small n)
  | _, _ => true
def spSame (K : PySem.W.Frag) (n : Nat) : Sp := fun vs H Q _ => ∃ (v w : V) (d : T), vs = [v, w] ∧ DatN K H n v d ∧ DatN K H n w d ∧ small n d = true ∧ ∀ (H' : Hp), Same H H' → Q (.bl true) H'
/-- the leaf's value -/
def leafV : T → V
  | .n => .non
  | .b x => .bl x
  | .i x => .int x
  | .s x => .str x
  | _ => .non
theorem leaf_of {K : PySem.W.Frag} {H : Hp} : ∀ {n : Nat} {v : V} {d : T}, DatN K H n v d → isSeq d = false → v = leafV d
  | 0, _, .n, h, _ => h
  | 0, _, .b _, h, _ => h
  | 0, _, .i _, h, _ => h
  | 0, _, .s _, h, _ => h
  | 0, _, .l _, h, _ => h.elim
  | 0, _, .t _, h, _ => h.elim
  | _ + 1, _, .n, h, _ => h
  | _ + 1, _, .b _, h, _ => h
  | _ + 1, _, .i _, h, _ => h
  | _ + 1, _, .s _, h, _ => h
  | _ + 1, _, .l _, _, k => by cases k
  | _ + 1, _, .t _, _, k => by cases k
theorem bl_ne_self (b : Bool) : (!decide (V.bl b = V.bl b)) = false := by rw [decide_eq_true rfl]; rfl
theorem all_true : ∀ n : Nat, ((List.replicate n true).all id) = true
  | 0 => rfl
  | n + 1 => by rw [List.replicate_succ, List.all_cons, all_true n]; rfl
section
variable {P : Program} {w : World} {K : PySem.W.Frag} {mg : Str → Option Value} {base : Heap}
theorem same_step {sp : Sp} {k n : Nat} {f : Addr} {fd : FuncData} (F : FnP K "_law_same" "_law_same" s__law_same f fd) (g : mg "_law_same" = some (.ref f)) (M : Free mg) (d__law_same : Def P w K mg base k "_law_same" ["_law_got", "_law_due"] sp) (hsp : ∀ m, n = m + 1 → sp = spSame K m) : Def P w K mg base (k + 1) "_law_same" ["_law_got", "_law_due"] (spSame K n) := by
  refine ⟨f, fd, F.ok sc__law_same (fun vs H Q E h => ?_) (fun cdv A outer s H vs Q E hr h => ?_), g, F.kp, bd__law_same F⟩
  · obtain ⟨v, w, d, rfl, _⟩ := h
    rfl
  · obtain ⟨v, w, d, rfl, hv, hw, hd, q⟩ := h
    have nd := sc__law_same.nd
    have hu := hu_of hr
    have hkk : k ≤ k := Nat.le_refl k
    refine ⟨_, PSs.nox (pss_cons (ps_if (pt_val (pe_callB (call_isiTK K) rfl M.isinstance bt_isinstance (pa_cons (pv 1) (pa_cons (pe_tup (pa_cons (pe_bltn (v := .ty "list") rfl M.list bt_list rfl) (pa_cons (pe_bltn (v := .ty "tuple") rfl M.tuple bt_tuple rfl) pa_nil))) pa_nil))))
  (pss_cons (ps_if (PW.pt (pw_or (pt_cmpR op_ne (pe_callB (call_isiK_ K) rfl M.isinstance bt_isinstance (pa_cons (pv 0) (pa_cons (pe_bltn (v := .ty "list") rfl M.list bt_list rfl) pa_nil))) (pe_callB (call_isiK_ K) rfl M.isinstance bt_isinstance (pa_cons (pv 1) (pa_cons (pe_bltn (v := .ty "list") rfl M.list bt_list rfl) pa_nil))) (nomark _)) (pw_or1 (pt_cmpR op_ne (pe_callB (call_isiK_ K) rfl M.isinstance bt_isinstance (pa_cons (pv 0) (pa_cons (pe_bltn (v := .ty "tuple") rfl M.tuple bt_tuple rfl) pa_nil))) (pe_callB (call_isiK_ K) rfl M.isinstance bt_isinstance (pa_cons (pv 1) (pa_cons (pe_bltn (v := .ty "tuple") rfl M.tuple bt_tuple rfl) pa_nil))) (nomark _)))))
  (pss_one (ps_ret pe_bl))
  pss_nil)
 (pss_one (ps_ret (pe_and (pe_cmpR op_eq (pe_callB (call_lenK K) rfl M.len bt_len (pa_cons (pv 0) pa_nil)) (pe_callB (call_lenK K) rfl M.len bt_len (pa_cons (pv 1) pa_nil)) (nomark _)) (pe_one (pe_callB (cr_allK K rfl) rfl M.all bt_all (pa_cons (pe_lc (own := [("_law_mine", 2), ("_law_its", 3)]) (by rfl) nd (pi_zipAK K rfl M.zip (pa_cons (pv 0) (pa_cons (pv 1) pa_nil))) (by exact blkOk_by (by kernel_rfl)) (fun _ _ _ _ _ => (pg_tupK K (n := 2) rfl (pgs_cons (pg_name (i := 2) nd rfl (Or.inl rfl)) (pgs_cons (pg_name (i := 3) nd rfl (Or.inl rfl)) pgs_nil)))) (fun _ _ _ _ _ => pts_nil) (fun _ _ _ _ _ => (pe_own d__law_same hr hkk (pa_cons (pv 2) (pa_cons (pv 3) pa_nil))))) pa_nil)))))))
  pss_nil)
 (pss_cons (ps_if (PW.pt (pw_or (pt_cmpR op_isN (pv 1) pe_non (nomark _)) (pw_or1 (pt_val (pe_callB (call_isiTK K) rfl M.isinstance bt_isinstance (pa_cons (pv 1) (pa_cons (pe_tup (pa_cons (pe_bltn (v := .ty "bool") rfl M.bool bt_bool rfl) (pa_cons (pe_bltn (v := .ty "str") rfl M.str bt_str rfl) pa_nil))) pa_nil)))))))
  (pss_one (ps_ret (pe_and (pe_cmpR op_eq (pv 0) (pv 1) (nomark _)) (pe_and (pe_cmpR op_eq (pe_callB (call_isiK_ K) rfl M.isinstance bt_isinstance (pa_cons (pv 0) (pa_cons (pe_bltn (v := .ty "bool") rfl M.bool bt_bool rfl) pa_nil))) (pe_callB (call_isiK_ K) rfl M.isinstance bt_isinstance (pa_cons (pv 1) (pa_cons (pe_bltn (v := .ty "bool") rfl M.bool bt_bool rfl) pa_nil))) (nomark _)) (pe_one (pe_cmpR op_eq (pe_cmpR op_isN (pv 0) pe_non (nomark _)) (pe_cmpR op_isN (pv 1) pe_non (nomark _)) (nomark _)))))))
  pss_nil)
 (pss_one (ps_ret (pe_and (pe_callB (call_isiK_ K) rfl M.isinstance bt_isinstance (pa_cons (pv 0) (pa_cons (pe_bltn (v := .ty "int") rfl M.int bt_int rfl) pa_nil))) (pe_and (pe_not (pe_callB (call_isiK_ K) rfl M.isinstance bt_isinstance (pa_cons (pv 0) (pa_cons (pe_bltn (v := .ty "bool") rfl M.bool bt_bool rfl) pa_nil)))) (pe_one (pe_cmpR op_eq (pv 0) (pv 1) (nomark _))))))))), ?_⟩
    refine ⟨_, rfl, sz (by simp), fun tp ntp => ?_⟩
    have s1 : Same H (upd H tp (.tup [.ty "list", .ty "tuple"])) := same_new ntp
    have hw1 := DatN.same s1 n w d hw
    have hv1 := DatN.same s1 n v d hv
    refine ⟨w, tp, _, _, [.type "list", .type "tuple"], _, rfl, upd_same, .cons (.ty _) (.cons (.ty _) .nil), tyOf hw1, kit_seq d, _, rfl, ite2 (fun h1 => ?_) (fun h1 => ?_)⟩
    · refine ⟨_, rfl, v, _, _, _, _, rfl, .ty _, tyOf hv1, kit_list d, _, rfl, w, _, _, _, _, rfl, .ty _, tyOf hw1, kit_list d, rfl, _, rfl, ?_⟩
      rw [bl_ne_self]
      refine iteF ?_
      refine ⟨_, rfl, v, _, _, _, _, rfl, .ty _, tyOf hv1, kit_tuple d, _, rfl, w, _, _, _, _, rfl, .ty _, tyOf hw1, kit_tuple d, rfl, _, rfl, ?_⟩
      rw [bl_ne_self]
      refine iteF ?_
      have go : ∀ (m : Nat) (xs : List T) (p1 p2 : Addr) (vs us : List V) (J : It) (G : Hp → Prop), n = m + 1 → v = .ref p1 → w = .ref p2 → (SqL K (upd H tp (.tup [.ty "list", .ty "tuple"])) p1 vs ∨ SqT K (upd H tp (.tup [.ty "list", .ty "tuple"])) p1 vs) → (SqL K (upd H tp (.tup [.ty "list", .ty "tuple"])) p2 us ∨ SqT K (upd H tp (.tup [.ty "list", .ty "tuple"])) p2 us) → Paired (DatN K (upd H tp (.tup [.ty "list", .ty "tuple"])) m) vs xs → Paired (DatN K (upd H tp (.tup [.ty "list", .ty "tuple"])) m) us xs → (decide (xs.length ≤ 1000) && xs.all (small m)) = true →
          Walk J (min vs.length us.length) G (YPair (fun i => vs[i]?) (fun i => us[i]?)) → (∀ H', Same (upd H tp (.tup [.ty "list", .ty "tuple"])) H' → G H') →
          (∀ (R : It → Hp → Prop), R J (upd H tp (.tup [.ty "list", .ty "tuple"])) → (RZ.iZipA K (tCons (tVar 0) (tCons (tVar 1) tNil))) [some v, some w, none, none] (upd H tp (.tup [.ty "list", .ty "tuple"])) R) →
          tRet (tAndV (tOp rEq (tCB (rLenS K) (tCons (tVar 0) tNil)) (tCB (rLenS K) (tCons (tVar 1) tNil))) (tCB (rAll K) (tCons (tLc (RZ.iZipA K (tCons (tVar 0) (tCons (tVar 1) tNil))) (gTup K 2 (gCons (gName 2) (gCons (gName 3) gNil))) tYes (tCall sp [] E0 (tCons (tVar 2) (tCons (tVar 3) tNil))) [2, 3]) tNil))) { nx := fun _ H' => Q .non H', rt := Q } [some v, some w, none, none] (upd H tp (.tup [.ty "list", .ty "tuple"])) := fun m xs p1 p2 vs us J G em ev ew h1 h2 a1 a2 hsm W hG hJ => by
        subst ev ew
        obtain rfl := hsp m em
        have l1 := Paired.length a1
        have l2 := Paired.length a2
        rw [Bool.and_eq_true, List.all_eq_true] at hsm
        have h1000 := of_decide_eq_true hsm.1
        refine ⟨_, rfl, p1, vs, rfl, h1, _, rfl, p2, us, rfl, h2, rfl, _, rfl, ?_⟩
        rw [l1, l2, decide_eq_true rfl]
        refine iteT ?_
        delta tCB tLc
        delta tCons
        refine hJ _ ?_
        intro D nD
        refine lc_it W (fun i H' => Same (upd H tp (.tup [.ty "list", .ty "tuple"])) H' ∧ H' D = some (.lst ((List.replicate i true).map V.bl))) ⟨same_new nD, upd_same⟩ (fun i H' _ ⟨s', _⟩ => hG H' s') ?_ ?_
        · rintro i x H2 H3 hi ⟨s2, hD⟩ ⟨T0, x0, y0, rfl, nT, rfl, ex, ey⟩
          have ex' : vs[i]? = some x0 := ex
          have ey' : us[i]? = some y0 := ey
          obtain ⟨d1, e1, f1⟩ := paired_get a1 ex'
          obtain ⟨d2, e2, f2⟩ := paired_get a2 ey'
          obtain rfl := Option.some.inj (e1.symm.trans e2)
          have s3 : Same (upd H tp (.tup [.ty "list", .ty "tuple"])) (upd H2 T0 (.tup [x0, y0])) := Same.new s2 nT
          have hil : i < xs.length := (List.getElem?_eq_some_iff.mp e1).1
          refine ⟨T0, _, rfl, sqt upd_same, rfl, _, _, rfl, _, _, rfl, rfl, rfl, _, rfl, _, rfl, x0, y0, d1, rfl, DatN.same s3 m _ _ f1, DatN.same s3 m _ _ f2, hsm.2 _ (mem_at e1), fun H4 s4 => ?_⟩
          refine ⟨_, s4 _ _ (new_keep nT hD), szl (by simp; omega), same_mut (s3.trans s4) nD, ?_⟩
          rw [upd_same, List.replicate_succ']
          simp
        · rintro H2 ⟨s2, hD⟩
          refine ⟨D, _, rfl, sql hD, ?_⟩
          rw [all_true]
          exact q H2 (s1.trans s2)
      cases d with
      | l xs =>
        cases n with
        | zero => exact hv.elim
        | succ m =>
          obtain ⟨p1, vs, rfl, h1, a1⟩ := hv1
          obtain ⟨p2, us, rfl, h2, a2⟩ := hw1
          exact go m xs p1 p2 vs us _ _ rfl rfl rfl (.inl h1) (.inl h2) a1 a2 hd (walk_zip rfl) (fun H' s' => ⟨Same.lst s' h1, Same.lst s' h2⟩) fun R hR => ⟨_, rfl, _, rfl, p1, p2, vs, us, rfl, .inl ⟨h1, h2, hR⟩⟩
      | t xs =>
        cases n with
        | zero => exact hv.elim
        | succ m =>
          obtain ⟨p1, vs, rfl, h1, a1⟩ := hv1
          obtain ⟨p2, us, rfl, h2, a2⟩ := hw1
          exact go m xs p1 p2 vs us _ _ rfl rfl rfl (.inr h1) (.inr h2) a1 a2 hd (walk_zipT rfl) (fun H' s' => ⟨Same.tup s' h1, Same.tup s' h2⟩) fun R hR => ⟨_, rfl, _, rfl, p1, p2, vs, us, rfl, .inr ⟨h1, h2, hR⟩⟩
      | n => cases h1
      | b _ => cases h1
      | i _ => cases h1
      | s _ => cases h1
    · have hns : isSeq d = false := by
        cases e : isSeq d with
        | false => rfl
        | true => exact absurd e h1
      have ev := leaf_of hv hns
      have ew := leaf_of hw hns
      subst ev ew
      have sc : scal (leafV d) (leafV d) = true := by cases d <;> rfl
      have eqb : ∀ b : Bool, decide (V.bl b = V.bl b) = true := fun b => decide_eq_true rfl
      have ret1 : ∀ (H2 : Hp), Same (upd H tp (.tup [.ty "list", .ty "tuple"])) H2 → tRet (tAndV (tOp rEq (tVar 0) (tVar 1)) (tAndV (tOp rEq (tCB (rIsi K) (tCons (tVar 0) (tCons (tC (.ty "bool")) tNil))) (tCB (rIsi K) (tCons (tVar 1) (tCons (tC (.ty "bool")) tNil)))) (tOp rEq (tOp (fun x y H Q => y = .non ∧ Q (.bl (decide (x = .non))) H) (tVar 0) (tC .non)) (tOp (fun x y H Q => y = .non ∧ Q (.bl (decide (x = .non))) H) (tVar 1) (tC .non)))))
          { nx := fun _ H' => Q .non H', rt := Q } [some (leafV d), some (leafV d), none, none] H2 := fun H2 s2 => by
        have hv2 := DatN.same s2 n _ d hv1
        refine ⟨_, rfl, _, rfl, sc, _, rfl, ?_⟩
        rw [decide_eq_true rfl]
        refine iteT ?_
        refine ⟨_, rfl, _, _, _, _, _, rfl, .ty _, tyOf hv2, kit_bool d, _, rfl, _, _, _, _, _, rfl, .ty _, tyOf hv2, kit_bool d, rfl, _, rfl, ?_⟩
        rw [eqb]
        refine iteT ?_
        refine ⟨_, rfl, rfl, _, rfl, rfl, rfl, ?_⟩
        rw [eqb]
        exact q H2 (s1.trans s2)
      cases d with
      | n => exact ⟨_, rfl, rfl, _, rfl, ret1 _ Same.rfl⟩
      | b x =>
        refine ⟨_, rfl, rfl, _, rfl, ?_⟩
        refine iteF ⟨_, rfl, sz (by simp), fun t2 n2 => ⟨_, t2, _, _, [.type "bool", .type "str"], _, rfl, upd_same, .cons (.ty _) (.cons (.ty _) .nil), tyOf (DatN.same (same_new n2) n _ _ hw1), kit_bs (.b x), _, rfl, ret1 _ (same_new n2)⟩⟩
      | s x =>
        refine ⟨_, rfl, rfl, _, rfl, ?_⟩
        refine iteF ⟨_, rfl, sz (by simp), fun t2 n2 => ⟨_, t2, _, _, [.type "bool", .type "str"], _, rfl, upd_same, .cons (.ty _) (.cons (.ty _) .nil), tyOf (DatN.same (same_new n2) n _ _ hw1), kit_bs (.s x), _, rfl, ret1 _ (same_new n2)⟩⟩
      | i x =>
        refine ⟨_, rfl, rfl, _, rfl, ?_⟩
        refine iteF ⟨_, rfl, sz (by simp), fun t2 n2 => ⟨_, t2, _, _, [.type "bool", .type "str"], _, rfl, upd_same, .cons (.ty _) (.cons (.ty _) .nil), tyOf (DatN.same (same_new n2) n _ _ hw1), kit_bs (.i x), _, rfl, ?_⟩⟩
        have hv2 := DatN.same (same_new (o := .tup [.ty "bool", .ty "str"]) n2) n _ _ hv1
        refine iteF ⟨_, rfl, _, _, _, _, _, rfl, .ty _, tyOf hv2, kit_int (.i x), _, rfl, ?_⟩
        refine iteT ⟨_, rfl, _, _, _, _, _, rfl, .ty _, tyOf hv2, kit_bool (.i x), _, rfl, _, rfl, ?_⟩
        refine iteT ⟨_, rfl, _, rfl, rfl, ?_⟩
        rw [decide_eq_true rfl]
        exact q _ (s1.trans (same_new n2))
      | l _ => cases hns
      | t _ => cases hns
theorem d_same_no {f : Addr} {fd : FuncData} (F : FnP K "_law_same" "_law_same" s__law_same f fd) (g : mg "_law_same" = some (.ref f)) : Def P w K mg base 1 "_law_same" ["_law_got", "_law_due"] (fun _ _ _ _ => False) :=
  ⟨f, fd, F.ok sc__law_same (fun vs H Q E h => h.elim) (fun cdv A outer s H vs Q E hr h => h.elim), g, F.kp, bd__law_same F⟩
theorem d_same {f : Addr} {fd : FuncData} (F : FnP K "_law_same" "_law_same" s__law_same f fd) (g : mg "_law_same" = some (.ref f)) (M : Free mg) : ∀ n, Def P w K mg base (n + 2) "_law_same" ["_law_got", "_law_due"] (spSame K n)
  | 0 => same_step F g M (d_same_no F g) fun m e => by cases e
  | n + 1 => same_step F g M (d_same F g M n) fun m e => by rw [Nat.succ.inj e]
end
end JL
set_option Elab.async false
set_option linter.all false
set_option maxRecDepth 100000
set_option maxHeartbeats 4000000
/-! _law_web -/
namespace JL
open PySem PySem.Spec PyProof.Rows L2 JB
theorem _root_.L2.Zt.gt {H H' : Hp} {b p : Addr} {n : Nat} {xs : List V} (h : Zt H p xs) (g : Gt b H H') (k : Box H b n) : Zt H' p xs := by
  obtain ⟨o, h1, h2⟩ := h
  obtain ⟨ys, kb⟩ := k.some
  exact ⟨o, g p _ (fun e => by rw [e, kb] at h1; cases h1) h1, h2⟩
theorem _root_.L2.Zt.same {H H' : Hp} {p : Addr} {xs : List V} (h : Zt H p xs) (g : Same H H') : Zt H' p xs := by
  obtain ⟨o, h1, h2⟩ := h
  exact ⟨o, g _ _ h1, h2⟩
/-- a net of the law's own, its workers' tuple as it was made -/
def NetZ (K : PySem.W.Frag) (H : Hp) (a : Addr) (ws : List Str) (qs : List Rw) : Prop := ∃ aw aq bs, NetIn K H a aw aq bs ws qs ∧ Zt H aw (ws.map V.str)
theorem NetZ.at {K : PySem.W.Frag} {H : Hp} {a : Addr} {ws : List Str} {qs : List Rw} (h : NetZ K H a ws qs) : NetAt K H a ws qs := by
  obtain ⟨aw, aq, bs, h, _⟩ := h
  exact ⟨aw, aq, bs, h⟩
theorem NetZ.same {K : PySem.W.Frag} {H H' : Hp} {a : Addr} {ws : List Str} {qs : List Rw} (h : NetZ K H a ws qs) (e : Same H H') : NetZ K H' a ws qs := by
  obtain ⟨aw, aq, bs, h, z⟩ := h
  exact ⟨aw, aq, bs, h.same e, z.same e⟩
theorem NetZ.gt {K : PySem.W.Frag} {H H' : Hp} {a b : Addr} {n : Nat} {ws : List Str} {qs : List Rw} (h : NetZ K H a ws qs) (e : Gt b H H') (k : Box H b n) : NetZ K H' a ws qs := by
  obtain ⟨aw, aq, bs, h, z⟩ := h
  exact ⟨aw, aq, bs, h.ts (e.ts k), z.gt e k⟩
def spWeb (K : PySem.W.Frag) : Sp := fun vs H Q _ => ∃ (b : Addr) (n : Nat), vs = [.ref b, .int 5, .int 7, .int 4] ∧ Box H b n ∧ n ≤ 10000 ∧
  ∀ (H' : Hp) (a : Addr) (ws : List Str) (qs : List Rw), Gt b H H' → Box H' b (n + 100) → NetZ K H' a ws qs → NetOk ws qs → Q (.ref a) H'
/-- a row of the web: of these tags, sound -/
structure RowOk (ts : List Str) (r : Rw) : Prop where
  s : r.s ∈ ts
  e : r.e ∈ ts
  ne : r.s ≠ r.e
  gap : 1 ≤ r.gap ∧ r.gap ≤ r.room
theorem prow_ts {K : PySem.W.Frag} {H H' : Hp} {bs : List Addr} {l : List Rw} (h : Paired (RowAt K H) bs l) (e : TS_ K H H') : Paired (RowAt K H') bs l := Paired.mapP h fun _ _ q => e _ _ q
theorem cut_n {xs : List V} {k : Nat} : cutV xs none (some (k : Nat)) = xs.take k := by
  unfold cutV
  rw [HT.sIx_none, HT.sIx_nat, List.drop_zero, Nat.sub_zero, List.take_eq_take_iff]
  simp
theorem mod_ne {i t n : Nat} (hi : i < n) (ht : t + 1 < n) : (i + 1 + t) % n ≠ i := fun e => by
  rcases Nat.lt_or_ge (i + 1 + t) n with h | h
  · rw [Nat.mod_eq_of_lt h] at e
    omega
  · rw [Nat.mod_eq_sub_mod h, Nat.mod_eq_of_lt (by omega)] at e
    omega
section
variable {P : Program} {w : World} {K : PySem.W.Frag} {mg : Str → Option Value} {base : Heap}
theorem d_law_web {f : Addr} {fd : FuncData} (F : FnP K "_law_web" "_law_web" s__law_web f fd) (g : mg "_law_web" = some (.ref f)) (M : Free mg) (d__law_take : Def P w K mg base 1 "_law_take" ["_law_box_here", "_law_below"] (spTake K)) (d__law_pick : Def P w K mg base 2 "_law_pick" ["_law_box_here", "_law_pool", "_law_size_so"] (spPick K)) : Def P w K mg base 3 "_law_web" ["_law_box_here", "_law_size_so", "_law_most", "_law_high"] (spWeb K) := by
  refine ⟨f, fd, F.ok sc__law_web (fun vs H Q E h => ?_) (fun cdv A outer s H vs Q E hr h => ?_), g, F.kp, bd__law_web F⟩
  · obtain ⟨b, n, rfl, _⟩ := h
    rfl
  · obtain ⟨b, n, rfl, bx, hn, q⟩ := h
    have nd := sc__law_web.nd
    have hu := hu_of hr
    refine ⟨_, PSs.nox (pss_cons (ps_set (i := 4) nd rfl (Or.inl rfl) (pe_own d__law_pick hr (by decide) (pa_cons (pv 0) (pa_cons (pe_lst (pa_cons pe_str (pa_cons pe_str (pa_cons pe_str (pa_cons pe_str (pa_cons pe_str (pa_cons pe_str (pa_cons pe_str (pa_cons pe_str (pa_cons pe_str (pa_cons pe_str pa_nil))))))))))) (pa_cons (pe_op op_add pe_int (pe_own d__law_take hr (by decide) (pa_cons (pv 0) (pa_cons (pe_op op_sub (pv 1) pe_int) pa_nil)))) pa_nil)))))
 (pss_cons (ps_set (i := 5) nd rfl (Or.inl rfl) (pe_callB (cr_sortedSK K) rfl M.sorted bt_sorted (pa_cons (pe_own d__law_pick hr (by decide) (pa_cons (pv 0) (pa_cons (pe_lst (pa_cons pe_str (pa_cons pe_str (pa_cons pe_str (pa_cons pe_str (pa_cons pe_str (pa_cons pe_str (pa_cons pe_str (pa_cons pe_str (pa_cons pe_str (pa_cons pe_str (pa_cons pe_str (pa_cons pe_str (pa_cons pe_str (pa_cons pe_str pa_nil))))))))))))))) (pa_cons (pv 2) pa_nil)))) pa_nil)))
 (pss_cons (ps_set (i := 6) nd rfl (Or.inl rfl) (pe_lst pa_nil))
 (pss_cons (ps_for PassesOwn.never rfl (pi_listK K (pe_slice (sl_listK K) (pv 5) po_none (po_some (pe_op op_add pe_int (pe_own d__law_take hr (by decide) (pa_cons (pv 0) (pa_cons (pv 2) pa_nil))))))) (pg_name (i := 7) nd rfl (Or.inl rfl))
  (pss_cons (ps_set (i := 8) nd rfl (Or.inl rfl) (pe_own d__law_take hr (by decide) (pa_cons (pv 0) (pa_cons (pe_callB (call_lenK K) rfl M.len bt_len (pa_cons (pv 4) pa_nil)) pa_nil))))
 (pss_cons (ps_set (i := 9) nd rfl (Or.inl rfl) (pe_op op_modN (pe_callTy call_int1 rfl M.int bt_int (pa_cons (pe_op op_add (pe_op op_add (pv 8) pe_int) (pe_own d__law_take hr (by decide) (pa_cons (pv 0) (pa_cons (pe_op op_sub (pe_callB (call_lenK K) rfl M.len bt_len (pa_cons (pv 4) pa_nil)) pe_int) pa_nil)))) pa_nil)) (pe_callB (call_lenK K) rfl M.len bt_len (pa_cons (pv 4) pa_nil))))
 (pss_cut (ps_if (pt_mid (PW.pt (pw_and (pt_cmpR op_gt (pv 8) (pv 9) (nomark _)) (pw_and1 (pt_cmpR op_gt (pe_own d__law_take hr (by decide) (pa_cons (pv 0) (pa_cons pe_int pa_nil))) pe_int (nomark _))))))
  (pss_one (ps_par (i := 8) (j := 9) rfl nd rfl rfl (by decide) rfl rfl (pa_cons (pv 9) (pa_cons (pv 8) pa_nil)) (by rfl)))
  pss_nil)
 (pss_cons (ps_set (i := 10) nd rfl (Or.inl rfl) (pe_op op_add pe_int (pe_own d__law_take hr (by decide) (pa_cons (pv 0) (pa_cons (pv 3) pa_nil)))))
 (pss_one (ps_expr (pe_bmK K PySem.F.plainAttrs_list PySem.F.slot_list_append PySem.F.type_list_append mt_append (pv 6) (pa_cons (pe_tup (pa_cons (pv 7) (pa_cons (pe_ix (ix_listK K) (pv 4) (pv 8) (fun _ _ => rfl)) (pa_cons (pe_ix (ix_listK K) (pv 4) (pv 9) (fun _ _ => rfl)) (pa_cons (pv 10) (pa_cons (pe_op op_add pe_int (pe_own d__law_take hr (by decide) (pa_cons (pv 0) (pa_cons (pv 10) pa_nil)))) pa_nil)))))) pa_nil)))))))))
 (pss_one (ps_ret (pe_tup (pa_cons (pe_callTy (call_tupleZK K) rfl M.tuple bt_tuple (pa_cons (pe_callB (cr_sortedSK K) rfl M.sorted bt_sorted (pa_cons (pv 4) pa_nil)) pa_nil)) (pa_cons (pe_callTy (call_tupleK K) rfl M.tuple bt_tuple (pa_cons (pv 6) pa_nil)) pa_nil))))))))), ?_⟩
    -- tags
    refine ⟨_, rfl, sz (by simp), fun l1 n1 => ?_⟩
    have bx1 := bx.new (o := .lst [.str "a", .str "b", .str "c.x", .str "d2", .str "k", .str "node", .str "s", .str "t", .str "w.1", .str "z"]) n1
    refine ⟨_, rfl, _, rfl, 5, 1, rfl, rfl, b, 4, n, rfl, bx1, by omega, by decide, by decide, fun H2 r g2 f2 bx2 hr2 => ⟨2, (r : Nat), rfl, rfl, ?_⟩⟩
    have hl1 : l1 ≠ b := bx.ne n1
    have hk : (2 : Int) + (r : Nat) = ((2 + r : Nat) : Int) := by omega
    refine ⟨b, l1, ["a", "b", "c.x", "d2", "k", "node", "s", "t", "w.1", "z"], 2 + r, n + 1, by show [V.ref b, V.ref l1, V.int (2 + (r : Int))] = _; rw [hk], bx2, by omega, g2.lst hl1 (sql upd_same), hl1, by decide +kernel, by decide, by omega, fun H3 tl tags g3 nt ht bx3 tnd tin tlen => ?_⟩
    have hT : tags.length = 2 + r := by rw [tlen]; simp; omega
    have g03 : Gt b H H3 := (Gt.rfl.new n1).trans (g2.trans g3)
    have htb : tl ≠ b := bx2.ne nt
    -- marks
    refine ⟨_, rfl, sz (by simp), fun l2 n2 => ?_⟩
    have hl2 : l2 ≠ b := bx3.ne n2
    have bx4 := bx3.new (o := .lst [.str "a", .str "d2", .str "e", .str "f1", .str "in.a", .str "k", .str "m", .str "out", .str "p", .str "q", .str "s", .str "v", .str "x", .str "z"]) n2
    refine ⟨_, rfl, b, l2, ["a", "d2", "e", "f1", "in.a", "k", "m", "out", "p", "q", "s", "v", "x", "z"], 7, n + 1 + tags.length, rfl, bx4, by omega, sql upd_same, hl2, by decide +kernel, by decide, by omega, fun H5 ml0 marks0 g5 nm hm0 bx5 mnd0 min0 mlen0 => ?_⟩
    have hmb0 : ml0 ≠ b := bx4.ne nm
    have hM0 : marks0.length = 7 := by rw [mlen0]; rfl
    refine ⟨ml0, marks0, rfl, sql hm0, by omega, fun marks ml pm sm_ nml => ?_⟩
    have hM : marks.length = 7 := by rw [pm.length_eq]; exact hM0
    have mnd : marks.Nodup := pm.nodup_iff.mpr mnd0
    have bx6 := bx5.new (o := .lst (marks.map V.str)) nml
    have hmb : ml ≠ b := bx5.ne nml
    have g36 : Gt b H3 (upd H5 ml (.lst (marks.map V.str))) := ((Gt.rfl.new n2).trans g5).new nml
    have ht6 : upd H5 ml (.lst (marks.map V.str)) tl = some (.lst (tags.map V.str)) := g36 _ _ htb ht
    have g06 := g03.trans g36
    have hm6 : upd H5 ml (.lst (marks.map V.str)) ml = some (.lst (marks.map V.str)) := upd_same
    generalize upd H5 ml (.lst (marks.map V.str)) = H6 at bx6 g06 ht6 hm6
    -- found
    refine ⟨sz (by simp), fun fl nf => ?_⟩
    have bx7 := bx6.new (o := .lst []) nf
    have g07 := g06.new (o := .lst []) nf
    have hfb : fl ≠ b := bx6.ne nf
    have ht7 := new_keep (o := .lst []) nf ht6
    have hm7 := new_keep (o := .lst []) nf hm6
    have hf7 : upd H6 fl (.lst []) fl = some (.lst []) := upd_same
    have htf : tl ≠ fl := fun e => by rw [e, nf] at ht6; cases ht6
    generalize upd H6 fl (.lst []) = H7 at bx7 g07 ht7 hm7 hf7
    have ff : H fl = none := g06.free bx6 nf
    -- the loop's list
    refine ⟨_, rfl, _, rfl, _, rfl, b, 7, n + 1 + tags.length + marks0.length, rfl, bx7, by omega, by decide, by decide, fun H8 r8 g8 f8 bx8 hr8 => ⟨1, (r8 : Nat), rfl, rfl, _, rfl, ml, _, rfl, sql (g8 _ _ hmb hm7), fun cl ncl => ?_⟩⟩
    have ek : (1 : Int) + (r8 : Nat) = ((1 + r8 : Nat) : Int) := by omega
    have ec : cutV (marks.map V.str) none (some (1 + (r8 : Nat))) = (marks.take (1 + r8)).map V.str := by rw [ek, cut_n, List.map_take]
    have ec' : cutV (marks.map V.str) none (some ((fun (i j : Int) => i + j) 1 (r8 : Nat))) = (marks.take (1 + r8)).map V.str := ec
    have hcb : cl ≠ b := bx8.ne ncl
    have msn : (marks.take (1 + r8)).Nodup := mnd.sublist (List.take_sublist _ _)
    have msl : (marks.take (1 + r8)).length ≤ 7 := by rw [List.length_take]; omega
    rw [ec]
    generalize marks.take (1 + r8) = ms at msn msl
    have hcf : cl ≠ fl := fun e => by
      have := g8 _ _ hfb hf7
      rw [← e, ncl] at this
      cases this
    refine ⟨cl, rfl, ⟨_, sql upd_same⟩, for_list (K := K) (a := cl) (xs := ms.map V.str) (fun i σ' H' => ∃ (cs : List Addr) (rows : List Rw) (v7 v8 v9 v10 : Option V), σ' = [some (.ref b), some (.int 5), some (.int 7), some (.int 4), some (.ref tl), some (.ref ml), some (.ref fl), v7, v8, v9, v10] ∧ Gt b H H' ∧ Box H' b (n + 16 + 5 * i) ∧ H' cl = some (.lst (ms.map V.str)) ∧ H' tl = some (.lst (tags.map V.str)) ∧ H' fl = some (.lst (cs.map V.ref)) ∧ Paired (RowAt K H') cs rows ∧ rows.map (·.q) = ms.take i ∧ ∀ r ∈ rows, RowOk tags r)
      ⟨[], [], none, none, none, none, rfl, (g07.trans g8).new ncl, (bx8.new ncl).mono (by omega), upd_same, new_keep ncl (g8 _ _ htb ht7), new_keep ncl (g8 _ _ hfb hf7), .nil, rfl, fun r hr => by simp at hr⟩ (fun i σ' H' _ ⟨_, _, _, _, _, _, _, _, _, hc', _⟩ => sql hc') ?_ ?_⟩
    · clear bx7 bx8 bx6 bx5 bx4 bx3 bx2 bx1 g07 ht7 hm7 hf7 ec ec' g8 f8 g06 ht6 hm6
      rintro i y σ' H1 hi ⟨cs, rows, v7, v8, v9, v10, rfl, gt, bx1, hc, ht, hf, pr, eq, ro⟩
      obtain ⟨mk, hmk, rfl⟩ := str_at hi
      have hil : i < ms.length := (List.getElem?_eq_some_iff.mp hmk).1
      have hcs : cs.length = i := by
        rw [Paired.length pr, ← List.length_map (f := fun r : Rw => r.q), eq, List.length_take]
        omega
      -- one
      refine ⟨_, rfl, _, rfl, tl, _, rfl, .inl (sql ht), b, _, n + 16 + 5 * i, rfl, bx1, by omega, by rw [List.length_map]; omega, by rw [List.length_map]; omega, fun H2 r1 g2 f2 bx2 h1 => ?_⟩
      rw [List.length_map] at h1
      have ht2 := g2 _ _ htb ht
      -- two
      refine ⟨_, rfl, _, _, rfl, rfl, _, rfl, _, rfl, tl, _, rfl, .inl (sql ht2), _, 1, rfl, rfl, b, _, n + 16 + 5 * i + 1, rfl, bx2, by omega, by rw [List.length_map]; omega, by rw [List.length_map]; omega, fun H3 r2 g3 f3 bx3 h2 => ?_⟩
      rw [List.length_map] at h2
      have ht3 := g3 _ _ htb ht2
      refine ⟨_, _, rfl, rfl, .inl ⟨_, rfl, _, rfl, tl, _, rfl, .inl (sql ht3), _, _, rfl, rfl, by rw [List.length_map]; omega, ?_⟩⟩
      have e2 : ((r1 : Int) + 1 + (r2 : Nat)).fmod (((tags.map V.str).length : Nat) : Int) = (((r1 + 1 + r2) % tags.length : Nat) : Int) := by
        rw [List.length_map, Int.fmod_eq_emod_of_nonneg _ (by omega)]
        have : (r1 : Int) + 1 + (r2 : Nat) = ((r1 + 1 + r2 : Nat) : Int) := by omega
        rw [this]
        rfl
      have hne : (r1 + 1 + r2) % tags.length ≠ r1 := mod_ne (by omega) (by omega)
      have hlt : (r1 + 1 + r2) % tags.length < tags.length := Nat.mod_lt _ (by omega)
      -- swapped or not
      refine ⟨fun σ' H' => ∃ (i1 j1 : Nat), i1 < tags.length ∧ j1 < tags.length ∧ i1 ≠ j1 ∧ σ' = [some (.ref b), some (.int 5), some (.int 7), some (.int 4), some (.ref tl), some (.ref ml), some (.ref fl), some (.str mk), some (.int (i1 : Nat)), some (.int (j1 : Nat)), v10] ∧ Gt b H3 H' ∧ Box H' b (n + 16 + 5 * i + 3), ?_, ?_⟩
      · refine ⟨fun c H' => Gt b H3 H' ∧ Box H' b (n + 16 + 5 * i + 3), ?_, ?_⟩
        · refine ⟨_, rfl, _, rfl, _, _, rfl, rfl, _, rfl, ite2 (fun _ => ?_) (fun _ => ⟨Gt.rfl, bx3.mono (by omega)⟩)⟩
          exact ⟨_, rfl, b, 8, n + 16 + 5 * i + 2, rfl, bx3.mono (by omega), by omega, by decide, by decide, fun H4 r3 g4 f4 bx4 h3 => ⟨_, _, rfl, rfl, _, rfl, g4, bx4⟩⟩
        · rintro c H' ⟨g4, bx4⟩
          refine ite2 (fun _ => ?_) (fun _ => ?_)
          · exact ⟨_, rfl, _, rfl, _, _, rfl, _, r1, hlt, by omega, hne, by rw [← e2]; rfl, g4, bx4⟩
          · exact ⟨r1, _, by omega, hlt, hne.symm, by rw [← e2]; rfl, g4, bx4⟩
      · rintro σ' H4 ⟨i1, j1, hi1, hj1, hij, rfl, g4, bx4⟩
        have ht4 := g4 _ _ htb ht3
        -- space
        refine ⟨_, rfl, _, rfl, b, 4, n + 16 + 5 * i + 3, rfl, bx4, by omega, by decide, by decide, fun H5 r4 g5 f5 bx5 h4 => ⟨1, (r4 : Nat), rfl, rfl, ?_⟩⟩
        have ht5 := g5 _ _ htb ht4
        have g15 := g2.trans (g3.trans (g4.trans g5))
        have hf5 := g15 _ _ hfb hf
        refine ⟨.ref fl, rfl, .inl ⟨rfl, _, sql hf5⟩, _, rfl, _, rfl, _, rfl, tl, _, _, .str tags[i1], rfl, rfl, sql ht5, atI_nat (by simp [hi1]), _, rfl, _, rfl, tl, _, _, .str tags[j1], rfl, rfl, sql ht5, atI_nat (by simp [hj1]), _, rfl, _, rfl, _, rfl, b, _, n + 16 + 5 * i + 4, rfl, bx5, by omega, by omega, by omega, fun H6 r5 g6 f6 bx6 h5 => ⟨1, (r5 : Nat), rfl, rfl, sz (by simp), fun t nt => ?_⟩⟩
        have g16 := g15.trans g6
        have hf6 := new_keep (o := .tup [.str mk, .str tags[i1], .str tags[j1], .int (1 + (r4 : Nat)), .int (1 + (r5 : Nat))]) nt (g16 _ _ hfb hf)
        have T : TS_ K H1 (upd H6 t (.tup [.str mk, .str tags[i1], .str tags[j1], .int (1 + (r4 : Nat)), .int (1 + (r5 : Nat))])) := (g16.ts bx1).trans (TS_.new nt)
        refine ⟨fl, _, _, rfl, rfl, hf6, szl (by simp; omega), cs ++ [t], rows ++ [⟨mk, tags[i1], tags[j1], 1 + (r4 : Nat), 1 + (r5 : Nat)⟩], _, _, _, _, rfl, ((gt.trans g16).new nt).mut ff, ((bx6.new nt).mut hfb).mono (by omega), ?_, ?_, by rw [upd_same]; simp, (prow_ts pr (T.trans (TS_.lst hf6))).snoc (TS_.lst hf6 _ _ (sqt upd_same)), ?_, fun r hr => ?_⟩
        · rw [upd_ne hcf]
          exact new_keep nt (g16 _ _ hcb hc)
        · rw [upd_ne htf]
          exact new_keep nt (g16 _ _ htb ht)
        · rw [List.map_append, eq, take_next hmk]
          rfl
        · rcases List.mem_append.mp hr with h | h
          · exact ro r h
          · rw [List.mem_singleton.mp h]
            refine ⟨List.getElem_mem _, List.getElem_mem _, fun e => hij ((List.getElem_inj tnd).mp e), by show (1 : Int) ≤ 1 + (r5 : Nat); omega, by show (1 : Int) + (r5 : Nat) ≤ 1 + (r4 : Nat); omega⟩
    · rintro σ' H1 ⟨cs, rows, v7, v8, v9, v10, rfl, gt, bx1, hc, ht, hf, pr, eq, ro⟩
      rw [take_all (List.length_map _)] at eq
      refine ⟨_, rfl, tl, tags, rfl, sql ht, by omega, fun ws wl pw sw nw => ?_⟩
      have wnd : ws.Nodup := pw.nodup_iff.mpr tnd
      refine ⟨wl, _, rfl, sql upd_same, fun aw o na oc od => ?_⟩
      have hf2 := new_keep (o := .frz o (.tup (ws.map V.str))) na (new_keep (o := .lst (ws.map V.str)) nw hf)
      refine ⟨_, rfl, fl, _, rfl, .inl ⟨sql hf2, fun aq nq => ⟨sz (by simp), fun a nt => ?_⟩⟩⟩
      rw [List.length_map] at bx1
      have T : TS_ K H1 (upd (upd (upd (upd H1 wl (.lst (ws.map V.str))) aw (.frz o (.tup (ws.map V.str)))) aq (.tup (cs.map V.ref))) a (.tup [.ref aw, .ref aq])) := (TS_.new nw).trans ((TS_.new na).trans ((TS_.new nq).trans (TS_.new nt)))
      have hz : (upd (upd (upd (upd H1 wl (.lst (ws.map V.str))) aw (.frz o (.tup (ws.map V.str)))) aq (.tup (cs.map V.ref))) a (.tup [.ref aw, .ref aq])) aw = some (.frz o (.tup (ws.map V.str))) := new_keep nt (new_keep nq upd_same)
      have rl : rows.length ≤ 7 := by
        have := congrArg List.length eq
        rw [List.length_map] at this
        omega
      have hwl : ws.length = tags.length := pw.length_eq
      refine q _ a ws rows ((((gt.new nw).new na).new nq).new nt) (((((bx1.new nw).new na).new nq).new nt).mono (by omega)) ⟨aw, aq, cs, ⟨sqt upd_same, Zt.sq ⟨o, hz, oc, od⟩, sqt (new_keep nt upd_same), prow_ts pr T⟩, ⟨o, hz, oc, od⟩⟩ ⟨⟨sortedS_asc sw wnd, by rw [eq]; exact msn, fun r hr => pw.mem_iff.mpr (ro r hr).s, fun r hr => pw.mem_iff.mpr (ro r hr).e, fun r hr => (ro r hr).ne, fun r hr => (ro r hr).gap⟩, by omega, rl, by omega⟩
end
end JL
set_option Elab.async false
set_option linter.all false
set_option maxRecDepth 100000
set_option maxHeartbeats 4000000
/-! _law_twin_web -/
namespace JL
open PySem PySem.Spec PyProof.Rows L2 JB
def RowX (H : Hp) (b : Addr) (r : Rw) : Prop := H b = some (.tup (rowV r))
theorem prowx {H H' : Hp} {bs : List Addr} {l : List Rw} (h : Paired (RowX H) bs l) (e : TX H H') : Paired (RowX H') bs l := Paired.mapP h fun _ _ q => e _ _ q
theorem prow_of {K : PySem.W.Frag} {H : Hp} {bs : List Addr} {l : List Rw} (h : Paired (RowX H) bs l) : Paired (RowAt K H) bs l := Paired.mapP h fun _ _ q => sqt q
theorem Gt.tx {b : Addr} {H H' : Hp} {n : Nat} (h : Gt b H H') (k : Box H b n) : TX H H' := fun c xs q => by
  obtain ⟨ys, kb⟩ := k.some
  exact h c _ (fun e => by rw [e, kb] at q; cases q) q
def rowI (r : Rw) : List Item := [.inr r.q, .inr r.s, .inr r.e, .inl r.room, .inl r.gap]
theorem sortedF_key {H : Hp} {cs : List Addr} {rows : List Rw} (pr : Paired (RowX H) cs rows) : ∃ k : V → List Item, (∀ x ∈ cs.map V.ref, ∃ t, x = V.ref t ∧ H t = some (.tup ((k x).map itV))) ∧ (∀ x ∈ cs.map V.ref, k x ≠ []) ∧ (∀ x ∈ cs.map V.ref, ∀ y ∈ cs.map V.ref, KinL (k x) (k y)) := by
  have key : ∀ x ∈ cs.map V.ref, ∃ r : Rw, ∃ t, x = V.ref t ∧ H t = some (.tup ((rowI r).map itV)) := fun x hx => by
    obtain ⟨i, hi⟩ := List.mem_iff_getElem?.mp hx
    obtain ⟨t, r, rfl, hr, h⟩ := part_at pr hi
    exact ⟨r, t, rfl, h⟩
  refine ⟨fun x => (if hx : x ∈ cs.map V.ref then rowI (key x hx).choose else []), fun x hx => ?_, fun x hx => ?_, fun x hx y hy => ?_⟩
  · simp only [dif_pos hx]
    exact (key x hx).choose_spec
  · simp only [dif_pos hx]
    exact fun e => by cases e
  · simp only [dif_pos hx, dif_pos hy]
    exact ⟨trivial, trivial, trivial, trivial, trivial, trivial⟩
theorem sortedF_perm {H : Hp} {cs : List Addr} {rows : List Rw} (pr : Paired (RowX H) cs rows) {ys : List V} (py : ys.Perm (cs.map V.ref)) : ∃ (cs' : List Addr) (rows' : List Rw), ys = cs'.map V.ref ∧ rows'.Perm rows ∧ Paired (RowX H) cs' rows' := by
  obtain ⟨bs', rfl, pb⟩ := refs_perm py
  obtain ⟨L', pL, hL'⟩ := paired_perm pb pr
  exact ⟨bs', L', rfl, pL, hL'⟩
def nmL : List Str := ["m", "q1", "s"]
def tgL : List Str := ["s", "m", "n", "o", "t"]
def wkL (s : Nat) : List Str := "t" :: tgL.take s
structure TwinRow (k j : Nat) (r : Rw) : Prop where
  q : nmL[j]? = some r.q
  s : tgL[j]? = some r.s
  e : (if j + 1 < k then tgL[j + 1]? else some "t") = some r.e
  gap : 1 ≤ r.gap ∧ r.gap ≤ r.room
theorem twin_net {s : Nat} {rows qs : List Rw} {ws : List Str} {least gap : Int} (hs : s = 1 ∨ s = 2 ∨ s = 3) (hl : rows.length = s) (h : ∀ (j : Nat) (r : Rw), rows[j]? = some r → TwinRow s j r) (pw : ws.Perm (wkL s)) (sw : sortedS ws = true)
    (pq : qs.Perm (rows ++ [⟨"r", "s", "t", least, gap⟩])) (hg : 1 ≤ gap ∧ gap ≤ least) : NetOk ws qs := by
  have wnd : ws.Nodup := pw.nodup_iff.mpr (by rcases hs with rfl | rfl | rfl <;> decide +kernel)
  have main : ((rows ++ [(⟨"r", "s", "t", least, gap⟩ : Rw)]).map (·.q)).Nodup ∧ ∀ r ∈ rows ++ [(⟨"r", "s", "t", least, gap⟩ : Rw)], r.s ∈ wkL s ∧ r.e ∈ wkL s ∧ r.s ≠ r.e ∧ 1 ≤ r.gap ∧ r.gap ≤ r.room := by
    have lastOk : (("s" : Str) ∈ wkL s) ∧ ("t" : Str) ∈ wkL s ∧ ("s" : Str) ≠ "t" := by rcases hs with rfl | rfl | rfl <;> decide +kernel
    have each : ∀ (j : Nat) (r : Rw), rows[j]? = some r → r.s ∈ wkL s ∧ r.e ∈ wkL s ∧ r.s ≠ r.e := fun j r hr => by
      have T := h j r hr
      have hj : j < s := by rw [← hl]; exact (List.getElem?_eq_some_iff.mp hr).1
      have a := T.s
      have b := T.e
      have dec : ∀ s : Nat, s = 1 ∨ s = 2 ∨ s = 3 → ∀ j, j < s → ∀ x y : Str, tgL[j]? = some x → (if j + 1 < s then tgL[j + 1]? else some "t") = some y → x ∈ wkL s ∧ y ∈ wkL s ∧ x ≠ y := fun s hs j hj x y hx hy => by
        have : (j = 0 ∧ s = 1) ∨ (j = 0 ∧ s = 2) ∨ (j = 1 ∧ s = 2) ∨ (j = 0 ∧ s = 3) ∨ (j = 1 ∧ s = 3) ∨ (j = 2 ∧ s = 3) := by omega
        rcases this with ⟨rfl, rfl⟩ | ⟨rfl, rfl⟩ | ⟨rfl, rfl⟩ | ⟨rfl, rfl⟩ | ⟨rfl, rfl⟩ | ⟨rfl, rfl⟩ <;> (obtain rfl := Option.some.inj hx; obtain rfl := Option.some.inj hy; decide +kernel)
      exact dec s hs j hj _ _ a b
    constructor
    · have en : rows.map (·.q) = nmL.take s := by
        refine List.ext_getElem? fun j => ?_
        rw [List.getElem?_map, List.getElem?_take]
        by_cases hj : j < s
        · rw [if_pos hj, List.getElem?_eq_getElem (by omega)]
          exact (h j _ (List.getElem?_eq_getElem (by omega))).q.symm
        · rw [if_neg hj, List.getElem?_eq_none (by omega)]
          rfl
      rw [List.map_append, en]
      show (nmL.take s ++ [("r" : Str)]).Nodup
      rcases hs with rfl | rfl | rfl <;> decide +kernel
    · intro r hr
      rcases List.mem_append.mp hr with k | k
      · obtain ⟨j, hj⟩ := List.mem_iff_getElem?.mp k
        obtain ⟨a, b, c⟩ := each j r hj
        exact ⟨a, b, c, (h j r hj).gap⟩
      · rw [List.mem_singleton.mp k]
        exact ⟨lastOk.1, lastOk.2.1, lastOk.2.2, hg⟩
  have mr : ∀ r ∈ qs, r ∈ rows ++ [(⟨"r", "s", "t", least, gap⟩ : Rw)] := fun r hr => pq.mem_iff.mp hr
  have lw := pw.length_eq
  have lq := pq.length_eq
  have lt : (tgL.take s).length = s := by rcases hs with rfl | rfl | rfl <;> rfl
  have lw2 : (wkL s).length = s + 1 := by show (tgL.take s).length + 1 = _; rw [lt]
  rw [lw2] at lw
  rw [List.length_append, hl] at lq
  refine ⟨⟨sortedS_asc sw wnd, (pq.map _).nodup_iff.mpr main.1, fun r hr => pw.mem_iff.mpr (main.2 r (mr r hr)).1, fun r hr => pw.mem_iff.mpr (main.2 r (mr r hr)).2.1, fun r hr => (main.2 r (mr r hr)).2.2.1, fun r hr => (main.2 r (mr r hr)).2.2.2⟩, by omega, ?_, by omega⟩
  have : ([⟨"r", "s", "t", least, gap⟩] : List Rw).length = 1 := rfl
  omega
def spTwin (K : PySem.W.Frag) : Sp := fun vs H Q _ => ∃ (b : Addr) (n : Nat), vs = [.ref b, .int 5] ∧ Box H b n ∧ n ≤ 10000 ∧
  ∀ (H' : Hp) (a : Addr) (ws : List Str) (qs : List Rw), Gt b H H' → Box H' b (n + 100) → NetZ K H' a ws qs → NetOk ws qs → Q (.ref a) H'
section
variable {P : Program} {w : World} {K : PySem.W.Frag} {mg : Str → Option Value} {base : Heap}
theorem d_law_twin_web {f : Addr} {fd : FuncData} (F : FnP K "_law_twin_web" "_law_twin_web" s__law_twin_web f fd) (g : mg "_law_twin_web" = some (.ref f)) (M : Free mg) (d__law_take : Def P w K mg base 1 "_law_take" ["_law_box_here", "_law_below"] (spTake K)) : Def P w K mg base 2 "_law_twin_web" ["_law_box_here", "_law_high"] (spTwin K) := by
  refine ⟨f, fd, F.ok sc__law_twin_web (fun vs H Q E h => ?_) (fun cdv A outer s H vs Q E hr h => ?_), g, F.kp, bd__law_twin_web F⟩
  · obtain ⟨b, n, rfl, _⟩ := h
    rfl
  · obtain ⟨b, n, rfl, bx, hn, q⟩ := h
    have nd := sc__law_twin_web.nd
    have hu := hu_of hr
    refine ⟨_, PSs.nox (pss_cons (ps_par (i := 2) (j := 3) rfl nd rfl rfl (by decide) rfl rfl (pa_cons (pe_op op_add pe_int (pe_own d__law_take hr (by decide) (pa_cons (pv 0) (pa_cons pe_int pa_nil)))) (pa_cons (pe_lst (pa_cons pe_str (pa_cons pe_str (pa_cons pe_str (pa_cons pe_str (pa_cons pe_str pa_nil)))))) pa_nil)) (by rfl))
 (pss_cons (ps_par (i := 4) (j := 5) rfl nd rfl rfl (by decide) rfl rfl (pa_cons (pe_lst pa_nil) (pa_cons pe_int pa_nil)) (by rfl))
 (pss_cons (ps_for PassesOwn.never rfl (pi_range1 rfl M.range (pa_cons (pv 2) pa_nil)) (pg_name (i := 6) nd rfl (Or.inl rfl))
  (pss_cons (ps_set (i := 7) nd rfl (Or.inl rfl) (pe_op op_add pe_int (pe_own d__law_take hr (by decide) (pa_cons (pv 0) (pa_cons (pv 1) pa_nil)))))
 (pss_cons (ps_set (i := 8) nd rfl (Or.inl rfl) (pe_op op_add pe_int (pe_own d__law_take hr (by decide) (pa_cons (pv 0) (pa_cons (pv 7) pa_nil)))))
 (pss_cons (ps_set (i := 5) nd rfl (Or.inl rfl) (pe_op op_sub (pe_op op_add (pv 5) (pv 8)) pe_int))
 (pss_one (ps_expr (pe_bmK K PySem.F.plainAttrs_list PySem.F.slot_list_append PySem.F.type_list_append mt_append (pv 4) (pa_cons (pe_tup (pa_cons (pe_ix (ix_listK K) (pe_lst (pa_cons pe_str (pa_cons pe_str (pa_cons pe_str pa_nil)))) (pv 6) (fun _ _ => rfl)) (pa_cons (pe_ix (ix_listK K) (pv 3) (pv 6) (fun _ _ => rfl)) (pa_cons (pe_ifExp (pt_cmpR op_lt (pe_op op_add (pv 6) pe_int) (pv 2) (nomark _)) (pe_ix (ix_listK K) (pv 3) (pe_op op_add (pv 6) pe_int) (fun _ _ => rfl)) pe_str) (pa_cons (pv 7) (pa_cons (pv 8) pa_nil)))))) pa_nil))))))))
 (pss_cons (ps_set (i := 9) nd rfl (Or.inl rfl) (pe_callB (call_max2 rfl) rfl M.max bt_max (pa_cons pe_int (pa_cons (pe_op op_sub (pe_op op_add (pv 5) (pe_own d__law_take hr (by decide) (pa_cons (pv 0) (pa_cons pe_int pa_nil)))) pe_int) pa_nil))))
 (pss_cons (ps_expr (pe_bmK K PySem.F.plainAttrs_list PySem.F.slot_list_append PySem.F.type_list_append mt_append (pv 4) (pa_cons (pe_tup (pa_cons pe_str (pa_cons pe_str (pa_cons pe_str (pa_cons (pv 9) (pa_cons (pe_op op_add pe_int (pe_own d__law_take hr (by decide) (pa_cons (pv 0) (pa_cons (pv 9) pa_nil)))) pa_nil)))))) pa_nil)))
 (pss_one (ps_ret (pe_tup (pa_cons (pe_callTy (call_tupleZK K) rfl M.tuple bt_tuple (pa_cons (pe_callB (cr_sortedSK K) rfl M.sorted bt_sorted (pa_cons (pe_op op_cat (pe_lst (pa_cons pe_str pa_nil)) (pe_slice (sl_listK K) (pv 3) po_none (po_some (pv 2)))) pa_nil)) pa_nil)) (pa_cons (pe_callTy (call_tupleK K) rfl M.tuple bt_tuple (pa_cons (pe_callB (cr_sortedFK K) rfl M.sorted bt_sorted (pa_cons (pv 4) pa_nil)) pa_nil)) pa_nil)))))))))), ?_⟩
    refine ⟨_, rfl, b, 3, n, rfl, bx, by omega, by decide, by decide, fun H1 r g1 f1 bx1 hr1 => ⟨1, (r : Nat), rfl, rfl, sz (by simp), fun tl nt => ⟨_, _, rfl, ?_⟩⟩⟩
    refine ⟨sz (by simp), fun fl nf => ⟨_, _, rfl, ?_⟩⟩
    have es : (1 : Int) + (r : Nat) = ((1 + r : Nat) : Int) := by omega
    have hs : 1 + r = 1 ∨ 1 + r = 2 ∨ 1 + r = 3 := by omega
    have htb : tl ≠ b := bx1.ne nt
    have bx2 := bx1.new (o := .lst (tgL.map V.str)) nt
    have hfb : fl ≠ b := bx2.ne nf
    have bx3 := bx2.new (o := .lst []) nf
    have g03 := (g1.new (o := .lst (tgL.map V.str)) nt).new (o := .lst []) nf
    have htf : tl ≠ fl := fun e => by
      rw [← e] at nf
      have : upd H1 tl (.lst (tgL.map V.str)) tl = none := nf
      rw [upd_same] at this
      cases this
    have ff : H fl = none := (g1.new (o := .lst (tgL.map V.str)) nt).free bx2 nf
    have ht3 : upd (upd H1 tl (.lst (tgL.map V.str))) fl (.lst []) tl = some (.lst (tgL.map V.str)) := new_keep nf upd_same
    have hf3 : upd (upd H1 tl (.lst (tgL.map V.str))) fl (.lst []) fl = some (.lst []) := upd_same
    refine ⟨_, rfl, ((1 + r : Nat) : Int), by show [V.int (1 + (r : Int))] = _; rw [es], by omega, by omega, ?_⟩
    have e3 : (upd (upd H1 tl (HO.lst [V.str "s", V.str "m", V.str "n", V.str "o", V.str "t"])) fl (HO.lst [])) = upd (upd H1 tl (.lst (tgL.map V.str))) fl (.lst []) := rfl
    rw [e3]
    clear e3
    generalize upd (upd H1 tl (.lst (tgL.map V.str))) fl (.lst []) = H3 at bx3 g03 ht3 hf3
    have hsz : (.int ((fun (i j : Int) => i + j) 1 (r : Nat)) : V) = .int ((1 + r : Nat) : Int) := by show V.int (1 + (r : Int)) = _; rw [es]
    refine for_range (lo := 0) (n := 1 + r) (fun i σ' H' => ∃ (cs : List Addr) (rows : List Rw) (qu : Int) (v6 v7 v8 : Option V), σ' = [some (.ref b), some (.int 5), some (.int (1 + (r : Nat))), some (.ref tl), some (.ref fl), some (.int qu), v6, v7, v8, none] ∧ Gt b H H' ∧ Box H' b (n + 1 + 2 * i) ∧ H' tl = some (.lst (tgL.map V.str)) ∧ H' fl = some (.lst (cs.map V.ref)) ∧ Paired (RowX H') cs rows ∧ rows.length = i ∧ 0 ≤ qu ∧ qu ≤ 4 * i ∧ ∀ j r', rows[j]? = some r' → TwinRow (1 + r) j r')
      ⟨[], [], 0, none, none, none, rfl, g03, bx3, ht3, hf3, .nil, rfl, by omega, by omega, fun j r' h => by simp at h⟩ ?_ ?_
    · clear ht3 hf3 g03 bx3
      rintro i σ' H4 hi ⟨cs, rows, qu, v6, v7, v8, rfl, gt, bx4, ht, hf, pr, rl, q0, q1, tr⟩
      have hcs : cs.length = i := by rw [Paired.length pr, rl]
      refine ⟨_, rfl, _, rfl, b, 5, n + 1 + 2 * i, rfl, bx4, by omega, by decide, by decide, fun H5 r1 g5 f5 bx5 h1 => ⟨1, (r1 : Nat), rfl, rfl, ?_⟩⟩
      refine ⟨_, rfl, _, rfl, b, (1 + (r1 : Nat)), n + 1 + 2 * i + 1, rfl, bx5, by omega, by omega, by omega, fun H6 r2 g6 f6 bx6 h2 => ⟨1, (r2 : Nat), rfl, rfl, ?_⟩⟩
      refine ⟨_, rfl, _, rfl, _, _, rfl, rfl, _, _, rfl, rfl, ?_⟩
      have g46 := g5.trans g6
      have ht6 := g46 _ _ htb ht
      have hf6 := g46 _ _ hfb hf
      have ei : (0 : Int) + (i : Nat) = (i : Nat) := by omega
      have hnm : i < nmL.length := by show i < 3; omega
      have htg : i + 1 < tgL.length := by show i + 1 < 5; omega
      refine ⟨.ref fl, rfl, .inl ⟨rfl, _, sql hf6⟩, sz (by simp), fun ll nl => ?_⟩
      have ht7 := new_keep (o := .lst (nmL.map V.str)) nl ht6
      have hf7 := new_keep (o := .lst (nmL.map V.str)) nl hf6
      have bx7 := bx6.new (o := .lst (nmL.map V.str)) nl
      have g47 := g46.new (o := .lst (nmL.map V.str)) nl
      have hl7 : upd H6 ll (.lst (nmL.map V.str)) ll = some (.lst (nmL.map V.str)) := upd_same
      refine ⟨_, rfl, ll, _, _, .str nmL[i], rfl, rfl, sql hl7, by rw [ei]; exact atI_nat (by simp [hnm]), _, rfl, _, rfl, tl, _, _, .str tgL[i], rfl, rfl, sql ht7, by rw [ei]; exact atI_nat (by rw [List.getElem?_map, List.getElem?_eq_getElem (by omega)]; rfl), ?_⟩
      have tail : ∀ (ev : Str), (if i + 1 < 1 + r then tgL[i + 1]? else some "t") = some ev → ∀ (t : Addr), (upd H6 ll (.lst (nmL.map V.str))) t = none →
          ∃ (cs' : List Addr) (rows' : List Rw) (qu' : Int) (v6 v7 v8 : Option V), ([some (.ref b), some (.int 5), some (.int (1 + (r : Nat))), some (.ref tl), some (.ref fl), some (.int (qu + (1 + (r2 : Nat)) - 1)), some (.int (0 + (i : Nat))), some (.int (1 + (r1 : Nat))), some (.int (1 + (r2 : Nat))), none] : L2.St) = [some (.ref b), some (.int 5), some (.int (1 + (r : Nat))), some (.ref tl), some (.ref fl), some (.int qu'), v6, v7, v8, none] ∧
            Gt b H (upd (upd (upd H6 ll (.lst (nmL.map V.str))) t (.tup [.str nmL[i], .str tgL[i], .str ev, .int (1 + (r1 : Nat)), .int (1 + (r2 : Nat))])) fl (.lst (cs.map V.ref ++ [.ref t]))) ∧ Box (upd (upd (upd H6 ll (.lst (nmL.map V.str))) t (.tup [.str nmL[i], .str tgL[i], .str ev, .int (1 + (r1 : Nat)), .int (1 + (r2 : Nat))])) fl (.lst (cs.map V.ref ++ [.ref t]))) b (n + 1 + 2 * (i + 1)) ∧
            (upd (upd (upd H6 ll (.lst (nmL.map V.str))) t (.tup [.str nmL[i], .str tgL[i], .str ev, .int (1 + (r1 : Nat)), .int (1 + (r2 : Nat))])) fl (.lst (cs.map V.ref ++ [.ref t]))) tl = some (.lst (tgL.map V.str)) ∧ (upd (upd (upd H6 ll (.lst (nmL.map V.str))) t (.tup [.str nmL[i], .str tgL[i], .str ev, .int (1 + (r1 : Nat)), .int (1 + (r2 : Nat))])) fl (.lst (cs.map V.ref ++ [.ref t]))) fl = some (.lst (cs'.map V.ref)) ∧
            Paired (RowX (upd (upd (upd H6 ll (.lst (nmL.map V.str))) t (.tup [.str nmL[i], .str tgL[i], .str ev, .int (1 + (r1 : Nat)), .int (1 + (r2 : Nat))])) fl (.lst (cs.map V.ref ++ [.ref t])))) cs' rows' ∧ rows'.length = i + 1 ∧ 0 ≤ qu' ∧ qu' ≤ 4 * ((i + 1 : Nat) : Int) ∧ ∀ j r', rows'[j]? = some r' → TwinRow (1 + r) j r' := fun ev hev t nt => by
        have hf8 := new_keep (o := .tup [.str nmL[i], .str tgL[i], .str ev, .int (1 + (r1 : Nat)), .int (1 + (r2 : Nat))]) nt hf7
        have Tx : TX H4 (upd (upd (upd H6 ll (.lst (nmL.map V.str))) t (.tup [.str nmL[i], .str tgL[i], .str ev, .int (1 + (r1 : Nat)), .int (1 + (r2 : Nat))])) fl (.lst (cs.map V.ref ++ [.ref t]))) := (g47.tx bx4).trans ((TX.new nt).trans (TX.lst hf8))
        refine ⟨cs ++ [t], rows ++ [⟨nmL[i], tgL[i], ev, 1 + (r1 : Nat), 1 + (r2 : Nat)⟩], _, _, _, _, rfl, ((gt.trans g47).new nt).mut ff, ((bx7.new nt).mut hfb).mono (by omega), by rw [upd_ne htf]; exact new_keep nt ht7, by rw [upd_same]; simp, (prowx pr Tx).snoc (TX.lst hf8 _ _ upd_same), by simp; omega, by omega, by omega, fun j r' hj => ?_⟩
        rcases Nat.lt_or_ge j rows.length with h | h
        · rw [List.getElem?_append_left h] at hj
          exact tr j r' hj
        · rw [List.getElem?_append_right h] at hj
          have e : j = rows.length := by
            have := (List.getElem?_eq_some_iff.mp hj).1
            simp at this
            omega
          subst e
          rw [Nat.sub_self] at hj
          obtain rfl := (Option.some.inj hj).symm
          exact ⟨by rw [rl]; exact List.getElem?_eq_getElem hnm, by rw [rl]; exact List.getElem?_eq_getElem (by omega), by rw [rl]; exact hev, by show (1 : Int) ≤ 1 + (r2 : Nat); omega, by show (1 : Int) + (r2 : Nat) ≤ 1 + (r1 : Nat); omega⟩
      refine ⟨_, rfl, _, _, rfl, rfl, _, rfl, _, _, rfl, rfl, _, rfl, ite2 (fun h3 => ?_) (fun h3 => ?_)⟩
      · have h3' : i + 1 < 1 + r := by
          have := of_decide_eq_true h3
          omega
        have ei1 : (0 : Int) + (i : Nat) + 1 = ((i + 1 : Nat) : Int) := by omega
        refine ⟨_, rfl, _, rfl, _, _, rfl, rfl, tl, _, _, .str tgL[i + 1], rfl, rfl, sql ht7, by show atI _ ((0 : Int) + (i : Nat) + 1) = _; rw [ei1]; exact atI_nat (by rw [List.getElem?_map, List.getElem?_eq_getElem htg]; rfl), _, rfl, _, rfl, sz (by simp), fun t nt => ⟨fl, _, _, rfl, rfl, new_keep nt hf7, szl (by simp; omega), ?_⟩⟩
        exact tail tgL[i + 1] (by rw [if_pos h3', List.getElem?_eq_getElem htg]) t nt
      · have h3' : ¬ i + 1 < 1 + r := fun z => h3 (decide_eq_true (by show (0 : Int) + (i : Nat) + 1 < 1 + (r : Nat); omega))
        refine ⟨_, rfl, _, rfl, sz (by simp), fun t nt => ⟨fl, _, _, rfl, rfl, new_keep nt hf7, szl (by simp; omega), ?_⟩⟩
        exact tail "t" (by rw [if_neg h3']) t nt
    · rintro σ' H4 ⟨cs, rows, qu, v6, v7, v8, rfl, gt, bx4, ht, hf, pr, rl, q0, q1, tr⟩
      have hcs : cs.length = 1 + r := by rw [Paired.length pr, rl]
      refine ⟨_, rfl, _, rfl, b, 3, n + 1 + 2 * (1 + r), rfl, bx4, by omega, by decide, by decide, fun H5 r1 g5 f5 bx5 h1 => ⟨_, _, rfl, rfl, _, _, rfl, rfl, 1, _, rfl, ?_⟩⟩
      have hleast : ∃ ls : Int, (if qu + (r1 : Nat) - 1 > 1 then qu + (r1 : Nat) - 1 else 1) = ls ∧ 1 ≤ ls ∧ ls ≤ 20 := by
        refine ⟨_, rfl, ?_⟩
        by_cases h : qu + (r1 : Nat) - 1 > 1
        · rw [if_pos h]; omega
        · rw [if_neg h]; omega
      obtain ⟨ls, els, l1, l2⟩ := hleast
      show gName 9 (.int (if qu + (r1 : Nat) - 1 > 1 then qu + (r1 : Nat) - 1 else 1)) _ _ _
      rw [els]
      have hf5 := g5 _ _ hfb hf
      refine ⟨.ref fl, rfl, .inl ⟨rfl, _, sql hf5⟩, _, rfl, _, rfl, _, rfl, b, ls, n + 1 + 2 * (1 + r) + 1, rfl, bx5, by omega, l1, by omega, fun H6 r2 g6 f6 bx6 h2 => ⟨1, (r2 : Nat), rfl, rfl, sz (by simp), fun t ntt => ?_⟩⟩
      have g46 := g5.trans g6
      have hf6 := new_keep (o := .tup [.str "r", .str "s", .str "t", .int ls, .int (1 + (r2 : Nat))]) ntt (g46 _ _ hfb hf)
      have ht6 := new_keep (o := .tup [.str "r", .str "s", .str "t", .int ls, .int (1 + (r2 : Nat))]) ntt (g46 _ _ htb ht)
      refine ⟨fl, _, _, rfl, rfl, hf6, szl (by simp; omega), ?_⟩
      have g7 := ((gt.trans g46).new (o := .tup [.str "r", .str "s", .str "t", .int ls, .int (1 + (r2 : Nat))]) ntt).mut (o := .lst (cs.map V.ref ++ [.ref t])) ff
      have bx7 := (bx6.new (o := .tup [.str "r", .str "s", .str "t", .int ls, .int (1 + (r2 : Nat))]) ntt).mut (o := .lst (cs.map V.ref ++ [.ref t])) hfb
      have Tx : TX H4 (upd (upd H6 t (.tup [.str "r", .str "s", .str "t", .int ls, .int (1 + (r2 : Nat))])) fl (.lst (cs.map V.ref ++ [.ref t]))) := (g46.tx bx4).trans ((TX.new ntt).trans (TX.lst hf6))
      have hrt : RowX (upd (upd H6 t (.tup [.str "r", .str "s", .str "t", .int ls, .int (1 + (r2 : Nat))])) fl (.lst (cs.map V.ref ++ [.ref t]))) t ⟨"r", "s", "t", ls, 1 + (r2 : Nat)⟩ := by
        have h9 := TX.lst (o := .lst (cs.map V.ref ++ [V.ref t])) hf6 t _ upd_same
        exact h9
      have pr7 := (prowx pr Tx).snoc hrt
      have ht7 : (upd (upd H6 t (.tup [.str "r", .str "s", .str "t", .int ls, .int (1 + (r2 : Nat))])) fl (.lst (cs.map V.ref ++ [.ref t]))) tl = some (.lst (tgL.map V.str)) := by rw [upd_ne htf]; exact ht6
      have hf7 : (upd (upd H6 t (.tup [.str "r", .str "s", .str "t", .int ls, .int (1 + (r2 : Nat))])) fl (.lst (cs.map V.ref ++ [.ref t]))) fl = some (.lst ((cs ++ [t]).map V.ref)) := by rw [upd_same]; simp
      refine ⟨sz (by simp), fun l1 n1 => ?_⟩
      have ht8 := new_keep (o := .lst [.str "t"]) n1 ht7
      refine ⟨_, rfl, _, rfl, _, rfl, tl, _, rfl, sql ht8, fun l2 n2 => ?_⟩
      have ec : cutV (tgL.map V.str) none (some ((1 : Int) + (r : Nat))) = (tgL.take (1 + r)).map V.str := by rw [es, cut_n, List.map_take]
      have hl1 : upd (upd (upd (upd H6 t (.tup [.str "r", .str "s", .str "t", .int ls, .int (1 + (r2 : Nat))])) fl (.lst (cs.map V.ref ++ [.ref t]))) l1 (.lst [.str "t"])) l2 (.lst (cutV (tgL.map V.str) none (some ((1 : Int) + (r : Nat))))) l1 = some (.lst [.str "t"]) := new_keep n2 upd_same
      have hl2 : upd (upd (upd (upd H6 t (.tup [.str "r", .str "s", .str "t", .int ls, .int (1 + (r2 : Nat))])) fl (.lst (cs.map V.ref ++ [.ref t]))) l1 (.lst [.str "t"])) l2 (.lst (cutV (tgL.map V.str) none (some ((1 : Int) + (r : Nat))))) l2 = some (.lst ((tgL.take (1 + r)).map V.str)) := by rw [upd_same, ec]
      have tl3 : (tgL.take (1 + r)).length ≤ 3 := by rw [List.length_take]; omega
      refine ⟨l1, l2, _, _, rfl, rfl, hl1, hl2, sz (by rw [List.length_map]; show 1 + _ ≤ _; omega), fun l3 n3 => ?_⟩
      refine ⟨l3, wkL (1 + r), rfl, sql upd_same, by show (tgL.take (1 + r)).length + 1 < 64; omega, fun ws wl pw sw nw => ?_⟩
      refine ⟨wl, _, rfl, sql upd_same, fun aw o na oc od => ?_⟩
      have sA := (same_new (o := .lst [.str "t"]) n1).trans ((same_new n2).trans ((same_new n3).trans ((same_new nw).trans (same_new (o := .frz o (.tup (ws.map V.str))) na))))
      have hf9 := sA _ _ hf7
      have pr9 := prowx pr7 (TX.of sA)
      obtain ⟨kk, k1, k2, k3⟩ := sortedF_key pr9
      refine ⟨_, rfl, fl, _, kk, rfl, sql hf9, k1, k2, k3, fun ys sl py _ ns => ?_⟩
      obtain ⟨cs', rows', rfl, prm, pr8⟩ := sortedF_perm pr9 py
      refine ⟨sl, _, rfl, .inl ⟨sql upd_same, fun aq nq => ⟨sz (by simp), fun a nta => ?_⟩⟩⟩
      have hz := new_keep (o := .tup [.ref aw, .ref aq]) nta (new_keep (o := .tup (cs'.map V.ref)) nq (new_keep (o := .lst (cs'.map V.ref)) ns (upd_same (a := aw) (o := .frz o (.tup (ws.map V.str))))))
      have s3 := (same_new (o := .lst (cs'.map V.ref)) ns).trans ((same_new (o := .tup (cs'.map V.ref)) nq).trans (same_new (o := .tup [.ref aw, .ref aq]) nta))
      refine q _ a ws rows' (g7.trans (.of (sA.trans s3))) (((bx7.same sA).same s3).mono (by omega)) ⟨aw, aq, cs', ⟨sqt upd_same, Zt.sq ⟨o, hz, oc, od⟩, sqt (new_keep nta upd_same), prow_of (prowx pr8 (TX.of s3))⟩, ⟨o, hz, oc, od⟩⟩ ?_
      exact twin_net hs rl tr pw sw prm ⟨by omega, by omega⟩
end
end JL
set_option Elab.async false
set_option linter.all false
set_option maxRecDepth 100000
set_option maxHeartbeats 4000000
/-! _law_renamed -/
namespace JL
open PySem PySem.Spec PyProof.Rows L2 JB
/-- the first place of x -/
def posOf (x : Str) : List Str → Nat
  | [] => 0
  | y :: l => if y = x then 0 else posOf x l + 1
theorem posOf_get {x : Str} : ∀ {l : List Str}, x ∈ l → l[posOf x l]? = some x
  | [], h => by simp at h
  | y :: l, h => by
    unfold posOf
    by_cases e : y = x
    · rw [if_pos e, e]; rfl
    · rw [if_neg e]
      have : x ∈ l := (List.mem_cons.mp h).elim (fun z => absurd z.symm e) id
      simpa using posOf_get this
theorem posOf_first {x : Str} : ∀ {l : List Str} {m : Nat}, m < posOf x l → l[m]? ≠ some x
  | [], m, h => by simp [posOf] at h
  | y :: l, m, h => by
    unfold posOf at h
    by_cases e : y = x
    · rw [if_pos e] at h
      omega
    · rw [if_neg e] at h
      cases m with
      | zero => simpa using e
      | succ m => simpa using posOf_first (l := l) (m := m) (by omega)
theorem posOf_at {x : Str} : ∀ {l : List Str} {i : Nat}, l.Nodup → l[i]? = some x → posOf x l = i
  | [], i, _, h => by simp at h
  | y :: l, 0, _, h => by
    have : y = x := by simpa using h
    unfold posOf
    rw [if_pos this]
  | y :: l, i + 1, n, h => by
    have h' : l[i]? = some x := by simpa using h
    have e : y ≠ x := fun e => (List.nodup_cons.mp n).1 (e ▸ mem_at h')
    unfold posOf
    rw [if_neg e, posOf_at (List.nodup_cons.mp n).2 h']
theorem posOf_lt {x : Str} {l : List Str} (h : x ∈ l) : posOf x l < l.length := (List.getElem?_eq_some_iff.mp (posOf_get h)).1
/-- a renaming by places -/
def rhoOf (ws ts : List Str) (x : Str) : Str := ts.getD (posOf x ws) ""
theorem rho_at {ws ts : List Str} {i : Nat} {x y : Str} (n : ws.Nodup) (h : ws[i]? = some x) (k : ts[i]? = some y) : rhoOf ws ts x = y := by
  unfold rhoOf
  rw [posOf_at n h, List.getD_eq_getElem?_getD, k]
  rfl
theorem rho_get {ws ts : List Str} {x : Str} (hl : ts.length = ws.length) (h : x ∈ ws) : ts[posOf x ws]? = some (rhoOf ws ts x) := by
  have hlt : posOf x ws < ts.length := by rw [hl]; exact posOf_lt h
  unfold rhoOf
  rw [List.getD_eq_getElem?_getD, List.getElem?_eq_getElem hlt]
  rfl
theorem rho_map {ws ts : List Str} (n : ws.Nodup) (hl : ts.length = ws.length) : ws.map (rhoOf ws ts) = ts := by
  refine List.ext_getElem? fun i => ?_
  rw [List.getElem?_map]
  rcases Nat.lt_or_ge i ws.length with h | h
  · rw [List.getElem?_eq_getElem h, List.getElem?_eq_getElem (by omega)]
    show some (rhoOf ws ts ws[i]) = _
    rw [rho_at n (List.getElem?_eq_getElem h) (List.getElem?_eq_getElem (by omega))]
  · rw [List.getElem?_eq_none h, List.getElem?_eq_none (by omega)]
    rfl
theorem rho_inj {ws ts : List Str} (nt : ts.Nodup) (hl : ts.length = ws.length) {x y : Str} (hx : x ∈ ws) (hy : y ∈ ws) (e : rhoOf ws ts x = rhoOf ws ts y) : x = y := by
  have h1 := rho_get hl hx
  have h2 := rho_get hl hy
  rw [e] at h1
  have e2 : posOf x ws = posOf y ws := by
    obtain ⟨l1, q1⟩ := List.getElem?_eq_some_iff.mp h1
    obtain ⟨l2, q2⟩ := List.getElem?_eq_some_iff.mp h2
    exact (List.getElem_inj nt).mp (q1.trans q2.symm)
  have a := posOf_get hx
  have b := posOf_get hy
  rw [e2, b] at a
  exact (Option.some.inj a).symm
/-- the names of the queues -/
def qnames (qs : List Rw) : List Str := qs.map (·.q)
theorem qnames_len {qs : List Rw} : (qnames qs).length = qs.length := List.length_map _
theorem qnames_nd {ws : List Str} {qs : List Rw} (V : JM.Net slt ws qs) : (qnames qs).Nodup := V.nd
theorem ren_of {ws ws2 tags marks : List Str} {qs qs2 : List Rw} (ok : NetOk ws qs) (lt : tags.length = ws.length) (lm : marks.length = qs.length) (nt : tags.Nodup) (nm : marks.Nodup) (pw : ws2.Perm tags) (pq : qs2.Perm (qs.map (JM.ren (rhoOf ws tags) (rhoOf (qnames qs) marks)))) :
    JM.Ren ws qs ws2 qs2 (rhoOf ws tags) (rhoOf (qnames qs) marks) where
  inj := fun x hx y hy e => rho_inj nt lt hx hy e
  injq := fun r hr r' hr' e => rho_inj (ws := qnames qs) nm (by rw [qnames_len]; exact lm) (List.mem_map.mpr ⟨r, hr, rfl⟩) (List.mem_map.mpr ⟨r', hr', rfl⟩) e
  pw := by rw [rho_map (JM.asc_nodup slt_sto ok.net.asc) lt]; exact pw
  pq := pq
theorem ren_netok {ws ws2 tags marks : List Str} {qs qs2 : List Rw} (ok : NetOk ws qs) (lt : tags.length = ws.length) (lm : marks.length = qs.length) (nt : tags.Nodup) (nm : marks.Nodup) (pw : ws2.Perm tags) (sw : sortedS ws2 = true) (pq : qs2.Perm (qs.map (JM.ren (rhoOf ws tags) (rhoOf (qnames qs) marks)))) : NetOk ws2 qs2 := by
  have R := ren_of ok lt lm nt nm pw pq
  have wnd : ws2.Nodup := pw.nodup_iff.mpr nt
  have lw := pw.length_eq
  have lq := pq.length_eq
  rw [List.length_map] at lq
  have h5 := ok.w5
  have h7 := ok.q7
  have h1 := ok.w1
  have mem : ∀ x ∈ ws, rhoOf ws tags x ∈ ws2 := fun x hx => pw.mem_iff.mpr (mem_at (rho_get lt hx))
  refine ⟨⟨sortedS_asc sw wnd, ?_, fun r hr => ?_, fun r hr => ?_, fun r hr => ?_, fun r hr => ?_⟩, by omega, by omega, by omega⟩
  · rw [(pq.map _).nodup_iff, List.map_map]
    have : (qs.map ((fun x : Rw => x.q) ∘ JM.ren (rhoOf ws tags) (rhoOf (qnames qs) marks))) = (qnames qs).map (rhoOf (qnames qs) marks) := by
      unfold qnames
      rw [List.map_map]
      rfl
    rw [this, rho_map (qnames_nd ok.net) (by rw [qnames_len]; exact lm)]
    exact nm
  · obtain ⟨r0, h0, rfl⟩ := R.back hr
    exact mem _ (ok.net.st r0 h0)
  · obtain ⟨r0, h0, rfl⟩ := R.back hr
    exact mem _ (ok.net.en r0 h0)
  · obtain ⟨r0, h0, rfl⟩ := R.back hr
    exact fun e => ok.net.ne r0 h0 (R.inj _ (ok.net.st r0 h0) _ (ok.net.en r0 h0) e)
  · obtain ⟨r0, h0, rfl⟩ := R.back hr
    exact ok.net.gap r0 h0
def spRenamed (K : PySem.W.Frag) : Sp := fun vs H Q _ => ∃ (b a : Addr) (n : Nat) (ws : List Str) (qs : List Rw), vs = [.ref b, .ref a] ∧ Box H b n ∧ n ≤ 10000 ∧ NetZ K H a ws qs ∧ NetOk ws qs ∧
  ∀ (H' : Hp) (t a2 tl ml : Addr) (ws2 tags marks : List Str) (qs2 : List Rw), Gt b H H' → Box H' b (n + 20) → SqT K H' t [.ref a2, .ref tl, .ref ml] → NetZ K H' a2 ws2 qs2 → H' tl = some (.lst (tags.map V.str)) → H' ml = some (.lst (marks.map V.str)) → tl ≠ b → ml ≠ b →
    tags.length = ws.length → marks.length = qs.length → tags.Nodup → marks.Nodup → ws2.Perm tags → sortedS ws2 = true → qs2.Perm (qs.map (JM.ren (rhoOf ws tags) (rhoOf (qnames qs) marks))) → Q (.ref t) H'
section
variable {P : Program} {w : World} {K : PySem.W.Frag} {mg : Str → Option Value} {base : Heap}
theorem d_law_renamed {f : Addr} {fd : FuncData} (F : FnP K "_law_renamed" "_law_renamed" s__law_renamed f fd) (g : mg "_law_renamed" = some (.ref f)) (M : Free mg) (d__law_pick : Def P w K mg base 2 "_law_pick" ["_law_box_here", "_law_pool", "_law_size_so"] (spPick K)) : Def P w K mg base 3 "_law_renamed" ["_law_box_here", "_law_web_here"] (spRenamed K) := by
  refine ⟨f, fd, F.ok sc__law_renamed (fun vs H Q E h => ?_) (fun cdv A outer s H vs Q E hr h => ?_), g, F.kp, bd__law_renamed F⟩
  · obtain ⟨b, a, n, ws, qs, rfl, _⟩ := h
    rfl
  · obtain ⟨b, a, n, ws, qs, rfl, bx, hn, ⟨aw, aq, bs, N, Z⟩, ok, q⟩ := h
    have nd := sc__law_renamed.nd
    have hu := hu_of hr
    have hw5 := ok.w5
    have hq7 := ok.q7
    have wnd := JM.asc_nodup slt_sto ok.net.asc
    refine ⟨_, PSs.nox (pss_cons (ps_set (i := 2) nd rfl (Or.inl rfl) (pe_own d__law_pick hr (by decide) (pa_cons (pv 0) (pa_cons (pe_lst (pa_cons pe_str (pa_cons pe_str (pa_cons pe_str (pa_cons pe_str (pa_cons pe_str (pa_cons pe_str (pa_cons pe_str (pa_cons pe_str (pa_cons pe_str (pa_cons pe_str pa_nil))))))))))) (pa_cons (pe_callB (call_lenK K) rfl M.len bt_len (pa_cons (pe_ix (ix_tupK K) (pv 1) pe_int (fun _ _ => rfl)) pa_nil)) pa_nil)))))
 (pss_cons (ps_set (i := 3) nd rfl (Or.inl rfl) (pe_own d__law_pick hr (by decide) (pa_cons (pv 0) (pa_cons (pe_lst (pa_cons pe_str (pa_cons pe_str (pa_cons pe_str (pa_cons pe_str (pa_cons pe_str (pa_cons pe_str (pa_cons pe_str (pa_cons pe_str (pa_cons pe_str (pa_cons pe_str (pa_cons pe_str (pa_cons pe_str pa_nil))))))))))))) (pa_cons (pe_callB (call_lenK K) rfl M.len bt_len (pa_cons (pe_ix (ix_tupK K) (pv 1) pe_int (fun _ _ => rfl)) pa_nil)) pa_nil)))))
 (pss_cons (ps_set (i := 4) nd rfl (Or.inl rfl) (pe_lst pa_nil))
 (pss_cons (ps_for PassesOwn.never rfl (pi_enumTK K rfl M.enumerate (pa_cons (pe_ix (ix_tupK K) (pv 1) pe_int (fun _ _ => rfl)) pa_nil)) (pg_tupK K (n := 2) rfl (pgs_cons (pg_name (i := 5) nd rfl (Or.inl rfl)) (pgs_cons (pg_name (i := 6) nd rfl (Or.inl rfl)) pgs_nil)))
  (pss_one (ps_expr (pe_bmK K PySem.F.plainAttrs_list PySem.F.slot_list_append PySem.F.type_list_append mt_append (pv 4) (pa_cons (pe_tup (pa_cons (pe_ix (ix_listK K) (pv 3) (pv 5) (fun _ _ => rfl)) (pa_cons (pe_ix (ix_listK K) (pv 2) (pe_bmZ PySem.F.plainAttrs_tuple PySem.F.slot_tuple_index PySem.F.type_tuple_index (mt_tupIxK K) (pe_ix (ix_tupK K) (pv 1) pe_int (fun _ _ => rfl)) (pa_cons (pe_ix (ix_tupK K) (pv 6) pe_int (fun _ _ => rfl)) pa_nil)) (fun _ _ => rfl)) (pa_cons (pe_ix (ix_listK K) (pv 2) (pe_bmZ PySem.F.plainAttrs_tuple PySem.F.slot_tuple_index PySem.F.type_tuple_index (mt_tupIxK K) (pe_ix (ix_tupK K) (pv 1) pe_int (fun _ _ => rfl)) (pa_cons (pe_ix (ix_tupK K) (pv 6) pe_int (fun _ _ => rfl)) pa_nil)) (fun _ _ => rfl)) (pa_cons (pe_ix (ix_tupK K) (pv 6) pe_int (fun _ _ => rfl)) (pa_cons (pe_ix (ix_tupK K) (pv 6) pe_int (fun _ _ => rfl)) pa_nil)))))) pa_nil)))))
 (pss_one (ps_ret (pe_tup (pa_cons (pe_tup (pa_cons (pe_callTy (call_tupleZK K) rfl M.tuple bt_tuple (pa_cons (pe_callB (cr_sortedSK K) rfl M.sorted bt_sorted (pa_cons (pv 2) pa_nil)) pa_nil)) (pa_cons (pe_callTy (call_tupleK K) rfl M.tuple bt_tuple (pa_cons (pe_callB (cr_sortedFK K) rfl M.sorted bt_sorted (pa_cons (pv 4) pa_nil)) pa_nil)) pa_nil))) (pa_cons (pv 2) (pa_cons (pv 3) pa_nil)))))))))), ?_⟩
    -- tags
    refine ⟨_, rfl, sz (by simp), fun l1 n1 => ?_⟩
    have bx1 := bx.new (o := .lst [.str "b.2", .str "c", .str "e1", .str "h", .str "m", .str "o.o", .str "r3", .str "u", .str "x", .str "y9"]) n1
    have N1 := N.ts (TS_.new (o := .lst [.str "b.2", .str "c", .str "e1", .str "h", .str "m", .str "o.o", .str "r3", .str "u", .str "x", .str "y9"]) n1)
    refine ⟨_, rfl, a, _, 0, _, rfl, rfl, N1.top, rfl, aw, _, rfl, .inr N1.wk, b, l1, ["b.2", "c", "e1", "h", "m", "o.o", "r3", "u", "x", "y9"], (ws.map V.str).length, n, rfl, bx1, by omega, sql upd_same, bx.ne n1, by decide +kernel, by decide, by simp; omega, fun H2 tl tags g2 nt ht bx2 tnd tin tlen => ?_⟩
    have hT : tags.length = ws.length := by rw [tlen, List.length_map]; show min _ 10 = _; omega
    have g02 : Gt b H H2 := (Gt.rfl.new n1).trans g2
    have htb : tl ≠ b := bx1.ne nt
    have N2 := N.ts (g02.ts bx)
    -- marks
    refine ⟨_, rfl, sz (by simp), fun l2 n2 => ?_⟩
    have bx3 := bx2.new (o := .lst [.str "aa", .str "b1", .str "c", .str "d.d", .str "g", .str "i2", .str "k", .str "l", .str "n", .str "s.1", .str "t", .str "w"]) n2
    have N3 := N2.ts (TS_.new (o := .lst [.str "aa", .str "b1", .str "c", .str "d.d", .str "g", .str "i2", .str "k", .str "l", .str "n", .str "s.1", .str "t", .str "w"]) n2)
    refine ⟨_, rfl, a, _, 1, _, rfl, rfl, N3.top, rfl, aq, _, rfl, .inr N3.qu, b, l2, ["aa", "b1", "c", "d.d", "g", "i2", "k", "l", "n", "s.1", "t", "w"], (bs.map V.ref).length, n + tags.length, rfl, bx3, by omega, sql upd_same, bx2.ne n2, by decide +kernel, by decide, by rw [N.len]; omega, fun H4 ml marks g4 nm hm bx4 mnd min_ mlen => ?_⟩
    have hM : marks.length = qs.length := by rw [mlen, N.len]; show min _ 12 = _; omega
    have g24 : Gt b H2 H4 := (Gt.rfl.new n2).trans g4
    have hmb : ml ≠ b := bx3.ne nm
    have g04 := g02.trans g24
    have ht4 := g24 _ _ htb ht
    -- found
    refine ⟨sz (by simp), fun fl nf => ?_⟩
    have bx5 := bx4.new (o := .lst []) nf
    have hfb : fl ≠ b := bx4.ne nf
    have g05 := g04.new (o := .lst []) nf
    have ht5 := new_keep (o := .lst []) nf ht4
    have hm5 := new_keep (o := .lst []) nf hm
    have hf5 : upd H4 fl (.lst []) fl = some (.lst []) := upd_same
    have ff : H fl = none := g04.free bx4 nf
    have htf : tl ≠ fl := fun e => by rw [e, nf] at ht4; cases ht4
    have hmf : ml ≠ fl := fun e => by rw [e, nf] at hm; cases hm
    have N5 := N.ts (g05.ts bx)
    refine ⟨_, rfl, a, _, 1, _, rfl, rfl, N5.top, rfl, aq, _, rfl, N5.qu, ?_⟩
    generalize upd H4 fl (.lst []) = H5 at bx5 g05 ht5 hm5 hf5 N5
    refine for_it (walk_enumT (K := K) (a := aq) (xs := bs.map V.ref)) (fun i σ' H' => ∃ (cs : List Addr) (v5 v6 : Option V), σ' = [some (.ref b), some (.ref a), some (.ref tl), some (.ref ml), some (.ref fl), v5, v6] ∧ Gt b H H' ∧ Box H' b (n + tags.length + marks.length) ∧ H' tl = some (.lst (tags.map V.str)) ∧ H' ml = some (.lst (marks.map V.str)) ∧ H' fl = some (.lst (cs.map V.ref)) ∧ Paired (RowX H') cs ((qs.take i).map (JM.ren (rhoOf ws tags) (rhoOf (qnames qs) marks))))
      ⟨[], none, none, rfl, g05, bx5, ht5, hm5, hf5, .nil⟩ (fun i σ' H' _ ⟨_, _, _, _, g', _⟩ => (N.ts (g'.ts bx)).qu) ?_ ?_
    · clear bx5 g05 ht5 hm5 hf5 N5
      rintro i x σ' H6 H7 hi ⟨cs, v5, v6, rfl, gt, bx6, ht, hm, hf, pr⟩ ⟨T0, x0, y0, rfl, nT, rfl, ex, ey⟩
      obtain rfl := Option.some.inj ex
      have ey' : (bs.map V.ref)[i]? = some y0 := ey
      have g7 := gt.new (o := .tup [.int (i : Nat), y0]) nT
      have N7 := N.ts (g7.ts bx)
      obtain ⟨c, r, rfl, hri, hrow⟩ := N7.at ey'
      have hrq := mem_at hri
      have hil : i < qs.length := (List.getElem?_eq_some_iff.mp hri).1
      have hcs : cs.length ≤ i := by rw [Paired.length pr, List.length_map, List.length_take]; omega
      have ht7 := new_keep (o := .tup [.int (i : Nat), .ref c]) nT ht
      have hm7 := new_keep (o := .tup [.int (i : Nat), .ref c]) nT hm
      have hf7 := new_keep (o := .tup [.int (i : Nat), .ref c]) nT hf
      have Z7 := Z.gt g7 bx
      have hs := ok.net.st r hrq
      have he := ok.net.en r hrq
      have hmk : marks[i]? = some (rhoOf (qnames qs) marks r.q) := by
        have h1 : (qnames qs)[i]? = some r.q := by unfold qnames; rw [List.getElem?_map, hri]; rfl
        have h2 := rho_get (ts := marks) (by rw [qnames_len]; exact hM) (mem_at h1)
        rw [posOf_at (qnames_nd ok.net) h1] at h2
        exact h2
      refine ⟨T0, _, rfl, sqt upd_same, rfl, _, _, rfl, _, _, rfl, rfl, ?_⟩
      refine ⟨.ref fl, rfl, .inl ⟨rfl, _, sql hf7⟩, _, rfl, _, rfl, ml, _, _, .str (rhoOf (qnames qs) marks r.q), rfl, rfl, sql hm7, atI_nat (by rw [List.getElem?_map, hmk]; rfl), ?_⟩
      refine ⟨_, rfl, _, rfl, a, _, 0, _, rfl, rfl, N7.top, rfl, ⟨aw, _, rfl, Z7⟩, _, rfl, c, _, 1, _, rfl, rfl, hrow, rfl, aw, ws, r.s, posOf r.s ws, rfl, rfl, N7.wk, posOf_get hs, fun m h => posOf_first h, tl, _, _, .str (rhoOf ws tags r.s), rfl, rfl, sql ht7, atI_nat (by rw [List.getElem?_map, rho_get hT hs]; rfl), ?_⟩
      refine ⟨_, rfl, _, rfl, a, _, 0, _, rfl, rfl, N7.top, rfl, ⟨aw, _, rfl, Z7⟩, _, rfl, c, _, 2, _, rfl, rfl, hrow, rfl, aw, ws, r.e, posOf r.e ws, rfl, rfl, N7.wk, posOf_get he, fun m h => posOf_first h, tl, _, _, .str (rhoOf ws tags r.e), rfl, rfl, sql ht7, atI_nat (by rw [List.getElem?_map, rho_get hT he]; rfl), ?_⟩
      refine ⟨_, rfl, c, _, 3, _, rfl, rfl, hrow, rfl, _, rfl, c, _, 4, _, rfl, rfl, hrow, rfl, sz (by simp), fun t nt2 => ?_⟩
      have hf8 := new_keep (o := .tup [.str (rhoOf (qnames qs) marks r.q), .str (rhoOf ws tags r.s), .str (rhoOf ws tags r.e), .int r.room, .int r.gap]) nt2 hf7
      have Tx : TX H6 (upd (upd (upd H6 T0 (.tup [.int (i : Nat), .ref c])) t (.tup [.str (rhoOf (qnames qs) marks r.q), .str (rhoOf ws tags r.s), .str (rhoOf ws tags r.e), .int r.room, .int r.gap])) fl (.lst (cs.map V.ref ++ [.ref t]))) := (TX.new nT).trans ((TX.new nt2).trans (TX.lst hf8))
      refine ⟨fl, _, _, rfl, rfl, hf8, szl (by simp; omega), cs ++ [t], _, _, rfl, (g7.new nt2).mut ff, (((bx6.new nT).new nt2).mut hfb), by rw [upd_ne htf]; exact new_keep nt2 ht7, by rw [upd_ne hmf]; exact new_keep nt2 hm7, by rw [upd_same]; simp, ?_⟩
      rw [take_next hri, List.map_append]
      refine (prowx pr Tx).snoc ?_
      have h9 := TX.lst (o := .lst (cs.map V.ref ++ [V.ref t])) hf8 t _ upd_same
      exact h9
    · rintro σ' H6 ⟨cs, v5, v6, rfl, gt, bx6, ht, hm, hf, pr⟩
      rw [take_all N.len] at pr
      refine ⟨_, rfl, tl, tags, rfl, sql ht, by omega, fun ws2 wl pw sw nw => ?_⟩
      refine ⟨wl, _, rfl, sql upd_same, fun aw2 o na oc od => ?_⟩
      have sA := (same_new (o := .lst (ws2.map V.str)) nw).trans (same_new (o := .frz o (.tup (ws2.map V.str))) na)
      have pr9 := prowx pr (TX.of sA)
      obtain ⟨kk, k1, k2, k3⟩ := sortedF_key pr9
      refine ⟨_, rfl, fl, _, kk, rfl, sql (sA _ _ hf), k1, k2, k3, fun ys sl py _ ns => ?_⟩
      obtain ⟨cs', rows', rfl, prm, pr8⟩ := sortedF_perm pr9 py
      refine ⟨sl, _, rfl, .inl ⟨sql upd_same, fun aq2 nq => ⟨sz (by simp), fun a2 nta => ?_⟩⟩⟩
      refine ⟨_, rfl, _, rfl, sz (by simp), fun t nt3 => ?_⟩
      have hz := new_keep (o := .tup [.ref a2, .ref tl, .ref ml]) nt3 (new_keep (o := .tup [.ref aw2, .ref aq2]) nta (new_keep (o := .tup (cs'.map V.ref)) nq (new_keep (o := .lst (cs'.map V.ref)) ns (upd_same (a := aw2) (o := .frz o (.tup (ws2.map V.str)))))))
      have s3 := (same_new (o := .lst (cs'.map V.ref)) ns).trans ((same_new (o := .tup (cs'.map V.ref)) nq).trans ((same_new (o := .tup [.ref aw2, .ref aq2]) nta).trans (same_new (o := .tup [.ref a2, .ref tl, .ref ml]) nt3)))
      exact q _ t a2 tl ml ws2 tags marks rows' (gt.trans (.of (sA.trans s3))) (((bx6.same sA).same s3).mono (by omega)) (sqt upd_same) ⟨aw2, aq2, cs', ⟨sqt (new_keep nt3 upd_same), Zt.sq ⟨o, hz, oc, od⟩, sqt (new_keep nt3 (new_keep nta upd_same)), prow_of (prowx pr8 (TX.of s3))⟩, ⟨o, hz, oc, od⟩⟩ (s3 _ _ (sA _ _ ht)) (s3 _ _ (sA _ _ hm)) htb hmb hT hM tnd mnd pw sw prm
end
end JL
set_option Elab.async false
set_option linter.all false
set_option maxRecDepth 100000
set_option maxHeartbeats 4000000
/-! _law_led -/
namespace JL
open PySem PySem.Spec PyProof.Rows L2 JB
def wkEnd : Str → List Rw → Str
  | v, [] => v
  | v, r :: l => wkEnd (JM.otherOf v r) l
theorem wkEnd_snoc {r : Rw} : ∀ {v : Str} {l : List Rw}, wkEnd v (l ++ [r]) = JM.otherOf (wkEnd v l) r
  | _, [] => rfl
  | v, x :: l => wkEnd_snoc (v := JM.otherOf v x) (l := l)
theorem wkOk_snoc {r : Rw} : ∀ {v : Str} {l : List Rw}, wkOk v l → (wkEnd v l = r.s ∨ wkEnd v l = r.e) → wkOk v (l ++ [r])
  | _, [], _, h => ⟨h, trivial⟩
  | v, x :: l, h, k => ⟨h.1, wkOk_snoc (v := JM.otherOf v x) (l := l) h.2 k⟩
theorem other_mem {ws : List Str} {qs : List Rw} (V : JM.Net slt ws qs) {v : Str} {r : Rw} (h : r ∈ qs) : JM.otherOf v r ∈ ws := by
  unfold JM.otherOf
  by_cases e : v = r.s
  · rw [if_pos e]; exact V.en r h
  · rw [if_neg e]; exact V.st r h
theorem ints_lay : ∀ ns : List Nat, PyData.canLayAll0 (ns.map fun n => PyData.int (n : Nat)) = true
  | [] => by simp [PyData.canLayAll0]
  | z :: zs => by simp [PyData.canLayAll0, PyData.canLay0, ints_lay zs]
theorem ints_depth : ∀ ns : List Nat, PyData.depthAll (ns.map fun n => PyData.int (n : Nat)) = 0
  | [] => by simp [PyData.depthAll]
  | z :: zs => by simp [PyData.depthAll, PyData.depth, ints_depth zs]
theorem ints_shaped (ns : List Nat) : SeqAt.shaped (.list (ns.map fun n => PyData.int (n : Nat))) = true := by
  show (PyData.canLay0 (.list _) && decide (PyData.depth (.list _) ≤ 64)) = true
  rw [Bool.and_eq_true]
  exact ⟨by simp only [PyData.canLay0]; exact ints_lay ns, decide_eq_true (by simp only [PyData.depth]; rw [ints_depth]; decide)⟩
theorem ints_dp {K : PySem.W.Frag} {H : Hp} : ∀ ns : List Nat, DpAll K H (ns.map fun n => V.int (n : Nat)) (ns.map fun n => PyData.int (n : Nat))
  | [] => .nil
  | n :: ns => .cons (.int _) (ints_dp ns)
theorem eqv_nil {ns : List Nat} : PyData.eqv (.list (ns.map fun n => PyData.int (n : Nat))) (.list []) = decide (ns = []) := by
  cases ns with
  | nil => simp [PyData.eqv, PyData.eqvAll]
  | cons n ns => simp [PyData.eqv, PyData.eqvAll]
def spLed (K : PySem.W.Frag) : Sp := fun vs H Q _ => ∃ (b a : Addr) (n : Nat) (ws : List Str) (qs : List Rw), vs = [.ref b, .ref a, .int 5] ∧ Box H b n ∧ n ≤ 10000 ∧ NetZ K H a ws qs ∧ NetOk ws qs ∧
  ∀ (H' : Hp) (t ml : Addr) (h0 : Nat) (u : Str) (ks : List Nat) (rs : List Rw), Gt b H H' → Box H' b (n + 10) → SqT K H' t [.int (h0 : Nat), .ref ml] → H' ml = some (.lst (ks.map fun k => V.int (k : Nat))) → ml ≠ b → ws[h0]? = some u → wkOk u rs → ks.map (fun k => qs[k]?) = rs.map some → rs.length ≤ 5 → Q (.ref t) H'
section
variable {P : Program} {w : World} {K : PySem.W.Frag} {mg : Str → Option Value} {base : Heap}
theorem d_law_led {f : Addr} {fd : FuncData} (F : FnP K "_law_led" "_law_led" s__law_led f fd) (g : mg "_law_led" = some (.ref f)) (M : Free mg) (d__law_take : Def P w K mg base 1 "_law_take" ["_law_box_here", "_law_below"] (spTake K)) (d__law_of : Def P w K mg base 2 "_law_of" ["_law_box_here", "_law_some"] (spOf K)) : Def P w K mg base 3 "_law_led" ["_law_box_here", "_law_web_here", "_law_size_so"] (spLed K) := by
  refine ⟨f, fd, F.ok sc__law_led (fun vs H Q E h => ?_) (fun cdv A outer s H vs Q E hr h => ?_), g, F.kp, bd__law_led F⟩
  · obtain ⟨b, a, n, ws, qs, rfl, _⟩ := h
    rfl
  · obtain ⟨b, a, n, ws, qs, rfl, bx, hn, ⟨aw, aq, bs, N, Z⟩, ok, q⟩ := h
    have nd := sc__law_led.nd
    have hu := hu_of hr
    have hw5 := ok.w5
    have hw1 := ok.w1
    have hq7 := ok.q7
    have wnd := JM.asc_nodup slt_sto ok.net.asc
    refine ⟨_, PSs.nox (pss_cons (ps_asg (pe_tup (pa_cons (pe_own d__law_take hr (by decide) (pa_cons (pv 0) (pa_cons (pe_callB (call_lenK K) rfl M.len bt_len (pa_cons (pe_ix (ix_tupK K) (pv 1) pe_int (fun _ _ => rfl)) pa_nil)) pa_nil))) (pa_cons (pe_lst pa_nil) pa_nil))) (pg_tupK K (n := 2) rfl (pgs_cons (pg_name (i := 3) nd rfl (Or.inr rfl)) (pgs_cons (pg_name (i := 4) nd rfl (Or.inl rfl)) pgs_nil))))
 (pss_cons (ps_set (i := 5) nd rfl (Or.inl rfl) (pv 3))
 (pss_cons (ps_for PassesOwn.never rfl (pi_range1 rfl M.range (pa_cons (pv 2) pa_nil)) (pg_name (i := 6) nd rfl (Or.inl rfl))
  (pss_cons (ps_setLc (i := 7) (own := [("_law_k", 8), ("_law_row", 9)]) (by rfl) nd rfl rfl (sw_true rfl rfl rfl (by decide +kernel)) (pi_enumTK K rfl M.enumerate (pa_cons (pe_ix (ix_tupK K) (pv 1) pe_int (fun _ _ => rfl)) pa_nil)) (by exact blkOk_by (by kernel_rfl)) (fun _ _ _ _ _ => (pg_tupK K (n := 2) rfl (pgs_cons (pg_name (i := 8) nd rfl (Or.inl rfl)) (pgs_cons (pg_name (i := 9) nd rfl (Or.inl rfl)) pgs_nil)))) (fun _ _ _ _ _ => pts_one (PW.pt (pw_or (pt_cmpR op_eq (pe_ix (ix_tupK K) (pe_ix (ix_tupK K) (pv 1) pe_int (fun _ _ => rfl)) (pv 3) (fun _ _ => rfl)) (pe_ix (ix_tupK K) (pv 9) pe_int (fun _ _ => rfl)) (nomark _)) (pw_or1 (pt_cmpR op_eq (pe_ix (ix_tupK K) (pe_ix (ix_tupK K) (pv 1) pe_int (fun _ _ => rfl)) (pv 3) (fun _ _ => rfl)) (pe_ix (ix_tupK K) (pv 9) pe_int (fun _ _ => rfl)) (nomark _)))))) (fun _ _ _ _ _ => (pv 8)))
 (pss_one (ps_if (pt_cmpR (op_neDK K (units64 hr)) (pv 7) (pe_lst pa_nil) (nomark _))
  (pss_cons (ps_set (i := 8) nd rfl (Or.inl rfl) (pe_own d__law_of hr (by decide) (pa_cons (pv 0) (pa_cons (pv 7) pa_nil))))
 (pss_cons (ps_expr (pe_bmK K PySem.F.plainAttrs_list PySem.F.slot_list_append PySem.F.type_list_append mt_append (pv 4) (pa_cons (pv 8) pa_nil)))
 (pss_cons (ps_set (i := 9) nd rfl (Or.inl rfl) (pe_ix (ix_tupK K) (pe_ix (ix_tupK K) (pv 1) pe_int (fun _ _ => rfl)) (pv 8) (fun _ _ => rfl)))
 (pss_one (ps_set (i := 3) nd rfl (Or.inr rfl) (pe_bmZ PySem.F.plainAttrs_tuple PySem.F.slot_tuple_index PySem.F.type_tuple_index (mt_tupIxK K) (pe_ix (ix_tupK K) (pv 1) pe_int (fun _ _ => rfl)) (pa_cons (pe_ifExp (pt_cmpR op_eq (pe_ix (ix_tupK K) (pe_ix (ix_tupK K) (pv 1) pe_int (fun _ _ => rfl)) (pv 3) (fun _ _ => rfl)) (pe_ix (ix_tupK K) (pv 9) pe_int (fun _ _ => rfl)) (nomark _)) (pe_ix (ix_tupK K) (pv 9) pe_int (fun _ _ => rfl)) (pe_ix (ix_tupK K) (pv 9) pe_int (fun _ _ => rfl))) pa_nil)))))))
  pss_nil))))
 (pss_one (ps_ret (pe_tup (pa_cons (pv 5) (pa_cons (pv 4) pa_nil)))))))), ?_⟩
    refine ⟨_, rfl, _, rfl, a, _, 0, _, rfl, rfl, N.top, rfl, aw, _, rfl, .inr N.wk, b, (ws.map V.str).length, n, rfl, bx, by omega, by rw [List.length_map]; omega, by rw [List.length_map]; omega, fun H1 h0 g1 f1 bx1 hh0 => ⟨sz (by simp), fun ml nm => ⟨sz (by simp), fun tp ntp => ?_⟩⟩⟩
    rw [List.length_map] at hh0
    have hh : h0 < ws.length := by omega
    have hmb : ml ≠ b := bx1.ne nm
    have bx2 := (bx1.new (o := .lst []) nm).new (o := .tup [.int (h0 : Nat), .ref ml]) ntp
    have g2 := (g1.new (o := .lst []) nm).new (o := .tup [.int (h0 : Nat), .ref ml]) ntp
    have hm2 : upd (upd H1 ml (.lst [])) tp (.tup [.int (h0 : Nat), .ref ml]) ml = some (.lst []) := new_keep ntp upd_same
    have fm : H ml = none := g1.free bx1 nm
    refine ⟨tp, _, rfl, sqt upd_same, rfl, _, _, rfl, _, _, rfl, rfl, _, rfl, ?_⟩
    refine ⟨_, rfl, 5, rfl, by decide, by decide, for_range (lo := 0) (n := 5) (fun i σ' H' => ∃ (j : Nat) (v : Str) (ks : List Nat) (rs : List Rw) (v6 v7 v8 v9 : Option V), σ' = [some (.ref b), some (.ref a), some (.int 5), some (.int (j : Nat)), some (.ref ml), some (.int (h0 : Nat)), v6, v7, v8, v9] ∧ Gt b H H' ∧ Box H' b (n + 1 + i) ∧ H' ml = some (.lst (ks.map fun k => V.int (k : Nat))) ∧ ws[j]? = some v ∧ wkOk ws[h0] rs ∧ wkEnd ws[h0] rs = v ∧ ks.map (fun k => qs[k]?) = rs.map some ∧ rs.length ≤ i)
      ⟨h0, ws[h0], [], [], none, none, none, none, rfl, g2, bx2, hm2, List.getElem?_eq_getElem hh, trivial, rfl, rfl, Nat.le_refl _⟩ ?_ ?_⟩
    · clear bx2 g2 hm2 bx1 g1 f1
      rintro i σ' H2 hi ⟨j, v, ks, rs, v6, v7, v8, v9, rfl, gt, bx2, hm, hj, wo, we, kr, rl⟩
      have N2 := N.ts (gt.ts bx)
      have hkl : ks.length = rs.length := by
        have := congrArg List.length kr
        rw [List.length_map, List.length_map] at this
        exact this
      have wj : atI (ws.map V.str) ((j : Nat) : Int) = some (.str v) := atI_nat (by rw [List.getElem?_map, hj]; rfl)
      -- some = [..]
      refine ⟨_, rfl, a, _, 1, _, rfl, rfl, N2.top, rfl, aq, _, rfl, N2.qu, fun D nD => lc_it (walk_enumT (K := K) (a := aq) (xs := bs.map V.ref)) (fun k H3 => Same H2 H3 ∧ ∃ xs : List Nat, H3 D = some (.lst (xs.map fun x => V.int (x : Nat))) ∧ (∀ x ∈ xs, ∃ r, qs[x]? = some r ∧ (v = r.s ∨ v = r.e)) ∧ xs.length ≤ k)
        ⟨same_new nD, [], upd_same, fun x hx => by simp at hx, Nat.le_refl _⟩ (fun k H3 _ ⟨s', _⟩ => (N2.same s').qu) ?_ ?_⟩
      · rintro k x H3 H4 hk ⟨s3, xs, hD, hx, hxl⟩ ⟨T0, x0, y0, rfl, nT, rfl, ex, ey⟩
        obtain rfl := Option.some.inj ex
        have ey' : (bs.map V.ref)[k]? = some y0 := ey
        have s4 := Same.new (o := .tup [.int (k : Nat), y0]) s3 nT
        have N4 := N2.same s4
        obtain ⟨c, r, rfl, hri, hrow⟩ := N4.at ey'
        have hkq : k < qs.length := (List.getElem?_eq_some_iff.mp hri).1
        have hD4 := new_keep (o := .tup [.int (k : Nat), .ref c]) nT hD
        have yes : (v = r.s ∨ v = r.e) → ∃ acc, upd H3 T0 (.tup [.int (k : Nat), .ref c]) D = some (.lst acc) ∧ acc.length < sizeLine ∧ (Same H2 (upd (upd H3 T0 (.tup [.int (k : Nat), .ref c])) D (.lst (acc ++ [.int (k : Nat)]))) ∧ ∃ xs : List Nat, upd (upd H3 T0 (.tup [.int (k : Nat), .ref c])) D (.lst (acc ++ [.int (k : Nat)])) D = some (.lst (xs.map fun x => V.int (x : Nat))) ∧ (∀ x ∈ xs, ∃ r, qs[x]? = some r ∧ (v = r.s ∨ v = r.e)) ∧ xs.length ≤ k + 1) := fun hv => by
          refine ⟨_, hD4, szl (by simp; omega), same_mut s4 nD, xs ++ [k], by rw [upd_same]; simp, fun x hx' => ?_, by simp; omega⟩
          rcases List.mem_append.mp hx' with h | h
          · exact hx x h
          · rw [List.mem_singleton.mp h]
            exact ⟨r, hri, hv⟩
        refine ⟨T0, _, rfl, sqt upd_same, rfl, _, _, rfl, _, _, rfl, rfl, rfl, ?_⟩
        refine ⟨_, rfl, a, _, 0, _, rfl, rfl, N4.top, rfl, _, rfl, aw, _, _, _, rfl, rfl, N4.wk, wj, _, rfl, c, _, 1, _, rfl, rfl, hrow, rfl, rfl, _, rfl, ite2 (fun h1 => ?_) (fun h1 => ?_)⟩
        · exact iteT ⟨_, rfl, yes (.inl (V.str.inj (of_decide_eq_true h1)))⟩
        · refine ⟨_, rfl, a, _, 0, _, rfl, rfl, N4.top, rfl, _, rfl, aw, _, _, _, rfl, rfl, N4.wk, wj, _, rfl, c, _, 2, _, rfl, rfl, hrow, rfl, rfl, _, rfl, ite2 (fun h2 => ?_) (fun h2 => ?_)⟩
          · exact ⟨_, rfl, yes (.inr (V.str.inj (of_decide_eq_true h2)))⟩
          · exact ⟨s4, xs, hD4, hx, by omega⟩
      · rintro H3 ⟨s3, xs, hD, hx, hxl⟩
        rw [N.len] at hxl
        have g3 := gt.trans (.of s3)
        have bx3 := bx2.same s3
        have hDb : D ≠ b := bx2.ne nD
        refine ⟨_, rfl, sz (by simp), fun e ne => ?_⟩
        have hD4 := new_keep (o := .lst []) ne hD
        have g4 := g3.new (o := .lst []) ne
        have bx4 := bx3.new (o := .lst []) ne
        have hm4 := new_keep (o := .lst []) ne (s3 _ _ hm)
        refine ⟨_, _, .lst (sql hD4) (ints_dp xs), .lst (sql upd_same) .nil, ints_shaped xs, by decide +kernel, _, rfl, ?_⟩
        rw [eqv_nil]
        refine ite2 (fun h1 => ?_) (fun h1 => ?_)
        · have hne : xs ≠ [] := by
            intro z
            rw [z] at h1
            cases h1
          have hxp := List.length_pos_iff.mpr hne
          refine ⟨_, rfl, _, rfl, b, D, _, n + 1 + i, rfl, bx4, by omega, sql hD4, hDb, fun z => hne (List.map_eq_nil_iff.mp z), by simp; omega, fun H5 x g5 f5 bx5 hxm => ?_⟩
          obtain ⟨m, hm', rfl⟩ := List.mem_map.mp hxm
          obtain ⟨r, hri, hv⟩ := hx m hm'
          have hrq := mem_at hri
          have g45 := g4.trans g5
          have hm5 := g5 _ _ hmb hm4
          refine ⟨.ref ml, rfl, .inl ⟨rfl, _, sql hm5⟩, _, rfl, ml, _, _, rfl, rfl, hm5, szl (by simp; omega), ?_⟩
          have g6 := g45.mut (o := .lst (ks.map (fun k => V.int (k : Nat)) ++ [.int (m : Nat)])) fm
          have bx6 := bx5.mut (o := .lst (ks.map (fun k => V.int (k : Nat)) ++ [.int (m : Nat)])) hmb
          have N6 := N.ts (g6.ts bx)
          have Z6 := Z.gt g6 bx
          have hml : m < bs.length := by
            have h1 := (List.getElem?_eq_some_iff.mp hri).1
            have h2 := N.len
            rw [List.length_map] at h2
            omega
          obtain ⟨c, r', ec, hri', hrow⟩ := N6.at (i := m) (x := .ref bs[m]) (by rw [List.getElem?_map, List.getElem?_eq_getElem hml]; rfl)
          rw [hri] at hri'
          obtain rfl := Option.some.inj hri'
          obtain rfl : bs[m] = c := V.ref.inj ec
          refine ⟨_, rfl, a, _, 1, _, rfl, rfl, N6.top, rfl, _, rfl, aq, _, _, .ref bs[m], rfl, rfl, N6.qu, atI_nat (by rw [List.getElem?_map, List.getElem?_eq_getElem hml]; rfl), ?_⟩
          refine ⟨_, rfl, a, _, 0, _, rfl, rfl, N6.top, rfl, ⟨aw, _, rfl, Z6⟩, _, rfl, a, _, 0, _, rfl, rfl, N6.top, rfl, _, rfl, aw, _, _, _, rfl, rfl, N6.wk, wj, _, rfl, bs[m], _, 1, _, rfl, rfl, hrow, rfl, rfl, _, rfl, ?_⟩
          have fin : ∀ z, z = JM.otherOf v r → ∃ (j : Nat) (v : Str) (ks' : List Nat) (rs : List Rw) (v6 v7 v8 v9 : Option V), ([some (.ref b), some (.ref a), some (.int 5), some (.int (posOf z ws : Nat)), some (.ref ml), some (.int (h0 : Nat)), some (.int (0 + (i : Nat))), some (.ref D), some (.int (m : Nat)), some (.ref bs[m])] : L2.St) = [some (.ref b), some (.ref a), some (.int 5), some (.int (j : Nat)), some (.ref ml), some (.int (h0 : Nat)), v6, v7, v8, v9] ∧ Gt b H (upd H5 ml (.lst (ks.map (fun k => V.int (k : Nat)) ++ [.int (m : Nat)]))) ∧ Box (upd H5 ml (.lst (ks.map (fun k => V.int (k : Nat)) ++ [.int (m : Nat)]))) b (n + 1 + (i + 1)) ∧ upd H5 ml (.lst (ks.map (fun k => V.int (k : Nat)) ++ [.int (m : Nat)])) ml = some (.lst (ks'.map fun k => V.int (k : Nat))) ∧ ws[j]? = some v ∧ wkOk ws[h0] rs ∧ wkEnd ws[h0] rs = v ∧ ks'.map (fun k => qs[k]?) = rs.map some ∧ rs.length ≤ i + 1 := fun z hz => by
            subst hz
            refine ⟨_, JM.otherOf v r, ks ++ [m], rs ++ [r], _, _, _, _, rfl, g6, bx6, by rw [upd_same]; simp, posOf_get (other_mem ok.net hrq), wkOk_snoc wo (by rw [we]; exact hv), by rw [wkEnd_snoc, we], by rw [List.map_append, List.map_append, kr]; simp [hri], by simp; omega⟩
          refine ite2 (fun h2 => ?_) (fun h2 => ?_)
          · have e2 : v = r.s := V.str.inj (of_decide_eq_true h2)
            refine ⟨_, rfl, bs[m], _, 2, _, rfl, rfl, hrow, rfl, aw, ws, r.e, posOf r.e ws, rfl, rfl, N6.wk, posOf_get (ok.net.en r hrq), fun m h => posOf_first h, ?_⟩
            exact fin r.e (by unfold JM.otherOf; rw [if_pos e2])
          · have e2 : ¬ v = r.s := fun e => h2 (by rw [e]; exact decide_eq_true rfl)
            refine ⟨_, rfl, bs[m], _, 1, _, rfl, rfl, hrow, rfl, aw, ws, r.s, posOf r.s ws, rfl, rfl, N6.wk, posOf_get (ok.net.st r hrq), fun m h => posOf_first h, ?_⟩
            exact fin r.s (by unfold JM.otherOf; rw [if_neg e2])
        · exact ⟨j, v, ks, rs, _, _, _, _, rfl, g4, bx4.mono (by omega), hm4, hj, wo, we, kr, by omega⟩
    · rintro σ' H2 ⟨j, v, ks, rs, v6, v7, v8, v9, rfl, gt, bx2, hm, hj, wo, we, kr, rl⟩
      refine ⟨_, rfl, _, rfl, sz (by simp), fun t nt => ?_⟩
      exact q _ t ml h0 ws[h0] ks rs (gt.new nt) ((bx2.new nt).mono (by omega)) (sqt upd_same) (new_keep nt hm) hmb (List.getElem?_eq_getElem hh) wo kr rl
end
end JL
set_option Elab.async false
set_option linter.all false
set_option maxRecDepth 100000
set_option maxHeartbeats 4000000
/-! _law_hand_right -/
namespace JL
open PySem PySem.Spec PyProof.Rows L2 JB
def lineW : List Str := ["a", "b", "c"]
def lineQ : List Rw := [⟨"p", "c", "a", 2, 1⟩, ⟨"q", "a", "b", 1, 1⟩]
def sideW : List Str := ["a", "b"]
def sideQ : List Rw := [⟨"p", "a", "b", 5, 1⟩, ⟨"q", "a", "b", 5, 1⟩, ⟨"r", "a", "b", 5, 1⟩, ⟨"s", "a", "b", 1, 1⟩]
theorem net_dec {ws : List Str} {qs : List Rw} (h1 : ws.Pairwise slt) (h2 : (qs.map (·.q)).Nodup) (h3 : ∀ r ∈ qs, r.s ∈ ws ∧ r.e ∈ ws ∧ r.s ≠ r.e ∧ 1 ≤ r.gap ∧ r.gap ≤ r.room) (h4 : ws.length ≤ 5 ∧ qs.length ≤ 7 ∧ 1 ≤ ws.length) : NetOk ws qs :=
  ⟨⟨h1, h2, fun r hr => (h3 r hr).1, fun r hr => (h3 r hr).2.1, fun r hr => (h3 r hr).2.2.1, fun r hr => (h3 r hr).2.2.2⟩, h4.1, h4.2.1, h4.2.2⟩
theorem line_ok : NetOk lineW lineQ := net_dec (by decide +kernel) (by decide +kernel) (by decide +kernel) (by decide +kernel)
theorem side_ok : NetOk sideW sideQ := net_dec (by decide +kernel) (by decide +kernel) (by decide +kernel) (by decide +kernel)
theorem line_groups {gs : List (List Str)} (h : JM.IsGroups slt lineW (Together lineQ) gs) : gs = [lineW] := by
  refine JM.groups_uniq slt_sto (together_eqv line_ok.net) h ⟨List.pairwise_singleton _ _, fun g hg => ?_, fun w hw => ⟨_, List.mem_singleton.mpr rfl, hw⟩⟩
  rw [List.mem_singleton.mp hg]
  refine ⟨line_ok.net.asc, "a", by decide +kernel, fun x => ⟨fun hx => ?_, fun hx => ?_⟩⟩
  · have e1 : Ed lineQ true "a" "b" := .inl ⟨⟨"q", "a", "b", 1, 1⟩, by simp [lineQ], rfl, rfl⟩
    have e2 : Ed lineQ true "a" "c" := .inr ⟨rfl, ⟨"p", "c", "a", 2, 1⟩, by simp [lineQ], rfl, rfl⟩
    rcases List.mem_cons.mp hx with rfl | hx
    · exact .base rfl
    · rcases List.mem_cons.mp hx with rfl | hx
      · exact .step (.base rfl) e1
      · rw [List.mem_singleton.mp hx]
        exact .step (.base rfl) e2
  · exact (together_eqv line_ok.net).mem "a" x (by decide +kernel) hx
theorem side_groups {gs : List (List Str)} (h : JM.IsGroups slt sideW (Together sideQ) gs) : gs = [sideW] := by
  refine JM.groups_uniq slt_sto (together_eqv side_ok.net) h ⟨List.pairwise_singleton _ _, fun g hg => ?_, fun w hw => ⟨_, List.mem_singleton.mpr rfl, hw⟩⟩
  rw [List.mem_singleton.mp hg]
  refine ⟨side_ok.net.asc, "a", by decide +kernel, fun x => ⟨fun hx => ?_, fun hx => ?_⟩⟩
  · have e1 : Ed sideQ true "a" "b" := .inl ⟨⟨"q", "a", "b", 5, 1⟩, by simp [sideQ], rfl, rfl⟩
    rcases List.mem_cons.mp hx with rfl | hx
    · exact .base rfl
    · rw [List.mem_singleton.mp hx]
      exact .step (.base rfl) e1
  · exact (together_eqv side_ok.net).mem "a" x (by decide +kernel) hx
def rank (x : Str) : Nat := if x = "c" then 0 else if x = "a" then 1 else 2
theorem line_rank : ∀ r ∈ lineQ, rank r.s < rank r.e := by decide +kernel
theorem line_idle {ys : List Str} (h : ∀ y, y ∈ ys ↔ JM.Reach (Ed lineQ false) (Turning lineW lineQ) y) : ys = [] := by
  have no : ∀ x, ¬ Turning lineW lineQ x := fun x hx => by
    have := JM.Reach.closed (P := fun y => rank x < rank y) (fun z ⟨r, hr, h1, h2⟩ => by rw [← h1, ← h2]; exact line_rank r hr) (fun y z hy e => by
      rcases e with ⟨r, hr, h1, h2⟩ | ⟨h0, _⟩
      · have := line_rank r hr
        rw [h1, h2] at this
        exact Nat.lt_trans hy this
      · cases h0) hx.2
    exact Nat.lt_irrefl _ this
  cases ys with
  | nil => rfl
  | cons y l =>
    have := (h y).mp (List.mem_cons_self ..)
    exact (JM.Reach.closed (P := fun _ => False) (fun x hx => no x hx) (fun _ _ h _ => h) this).elim
theorem line_rings : (JM.allRings slt lineW lineQ).length = 0 := by decide +kernel
theorem side_count : (JM.allRings slt sideW sideQ).length = 12 := by decide +kernel
theorem side_least : (JM.allRings slt sideW sideQ).all (fun l => decide (1 ≤ JM.cost l)) = true := by decide +kernel
theorem side_has : (JM.allRings slt sideW sideQ).any (fun l => decide (JM.cost l = 1)) = true := by decide +kernel
theorem line_slack {o : Option Int} (h : JM.LeastIs (fun c => ∃ l ∈ JM.allRings slt lineW lineQ, JM.cost l = c) o) : o = none := by
  refine JM.least_uniq (fun _ => Iff.rfl) h ?_
  rintro c ⟨l, hl, _⟩
  rw [List.length_eq_zero_iff.mp line_rings] at hl
  simp at hl
theorem side_slack {o : Option Int} (h : JM.LeastIs (fun c => ∃ l ∈ JM.allRings slt sideW sideQ, JM.cost l = c) o) : o = some 1 := by
  refine JM.least_uniq (fun _ => Iff.rfl) h ⟨?_, ?_⟩
  · obtain ⟨l, hl, e⟩ := List.any_eq_true.mp side_has
    exact ⟨l, hl, of_decide_eq_true e⟩
  · rintro c ⟨l, hl, rfl⟩
    exact of_decide_eq_true (List.all_eq_true.mp side_least l hl)
theorem side_never : JM.Never sideW sideQ := by
  refine ⟨fun x => if x = "a" then 0 else -1, fun p hp => ?_⟩
  have key : ∀ r ∈ sideQ, ∀ b : Bool, (fun x : Str => if x = "a" then (0 : Int) else -1) (JM.src (r, b)) ≤ (fun x : Str => if x = "a" then (0 : Int) else -1) (JM.dst (r, b)) + JM.cst (r, b) * (sideW.length : Nat) - 1 := by decide +kernel
  exact key p.1 hp p.2
theorem groups_dat {K : PySem.W.Frag} {H : Hp} {p : Addr} {bs : List Addr} {gs : List (List Str)} (n : Nat) (hp : SqL K H p (bs.map V.ref)) (pr : Paired (TxtAt K H) bs gs) : DatN K H (n + 2) (.ref p) (.l (gs.map fun g => .t (g.map T.s))) := by
  refine ⟨p, _, rfl, hp, ?_⟩
  clear hp
  induction pr with
  | nil => exact .nil
  | cons r _ ih => exact .cons ⟨_, _, rfl, r, paired_map _ _ (fun x => by cases n <;> rfl) _⟩ ih
theorem optV_dat {K : PySem.W.Frag} {H : Hp} (n : Nat) (o : Option Int) : DatN K H n (optV o) (match o with | none => .n | some i => .i i) := by
  cases o <;> cases n <;> rfl
def spHand : Sp := fun vs H Q _ => vs = [] ∧ ∀ (H' : Hp), Same H H' → Q (.bl true) H'
section
variable {P : Program} {w : World} {K : PySem.W.Frag} {mg : Str → Option Value} {base : Heap}
theorem d_law_hand_right {f : Addr} {fd : FuncData} (F : FnP K "_law_hand_right" "_law_hand_right" s__law_hand_right f fd) (g : mg "_law_hand_right" = some (.ref f)) (M : Free mg) (d_groups : Def P w K mg base 2 "groups" ["net"] (spGroups K)) (d_idle : Def P w K mg base 2 "idle" ["net"] (spIdle K)) (d_slack : Def P w K mg base 2 "slack" ["net"] (spSlack K)) (d_rings : Def P w K mg base 1 "rings" ["net"] (spRings K)) (d_never_held : Def P w K mg base 5 "never_held" ["net"] (spNever K)) (d__law_same : Def P w K mg base 5 "_law_same" ["_law_got", "_law_due"] (spSame K 3)) : Def P w K mg base 6 "_law_hand_right" [] spHand := by
  refine ⟨f, fd, F.ok sc__law_hand_right (fun vs H Q E h => ?_) (fun cdv A outer s H vs Q E hr h => ?_), g, F.kp, bd__law_hand_right F⟩
  · obtain ⟨rfl, _⟩ := h
    rfl
  · obtain ⟨rfl, q⟩ := h
    have nd := sc__law_hand_right.nd
    have hu := hu_of hr
    refine ⟨_, PSs.nox (pss_cons (ps_set (i := 0) nd rfl (Or.inl rfl) (pe_tup (pa_cons (pe_tup (pa_cons pe_str (pa_cons pe_str (pa_cons pe_str pa_nil)))) (pa_cons (pe_tup (pa_cons (pe_tup (pa_cons pe_str (pa_cons pe_str (pa_cons pe_str (pa_cons pe_int (pa_cons pe_int pa_nil)))))) (pa_cons (pe_tup (pa_cons pe_str (pa_cons pe_str (pa_cons pe_str (pa_cons pe_int (pa_cons pe_int pa_nil)))))) pa_nil))) pa_nil))))
 (pss_cons (ps_set (i := 1) nd rfl (Or.inl rfl) (pe_tup (pa_cons (pe_tup (pa_cons pe_str (pa_cons pe_str pa_nil))) (pa_cons (pe_tup (pa_cons (pe_tup (pa_cons pe_str (pa_cons pe_str (pa_cons pe_str (pa_cons pe_int (pa_cons pe_int pa_nil)))))) (pa_cons (pe_tup (pa_cons pe_str (pa_cons pe_str (pa_cons pe_str (pa_cons pe_int (pa_cons pe_int pa_nil)))))) (pa_cons (pe_tup (pa_cons pe_str (pa_cons pe_str (pa_cons pe_str (pa_cons pe_int (pa_cons pe_int pa_nil)))))) (pa_cons (pe_tup (pa_cons pe_str (pa_cons pe_str (pa_cons pe_str (pa_cons pe_int (pa_cons pe_int pa_nil)))))) pa_nil))))) pa_nil))))
 (pss_cons (ps_set (i := 2) nd rfl (Or.inl rfl) (pe_lst (pa_cons (pe_own d_groups hr (by decide) (pa_cons (pv 0) pa_nil)) (pa_cons (pe_own d_idle hr (by decide) (pa_cons (pv 0) pa_nil)) (pa_cons (pe_own d_slack hr (by decide) (pa_cons (pv 0) pa_nil)) (pa_cons (pe_own d_groups hr (by decide) (pa_cons (pv 1) pa_nil)) (pa_cons (pe_own d_slack hr (by decide) (pa_cons (pv 1) pa_nil)) (pa_cons (pe_callB (call_lenK K) rfl M.len bt_len (pa_cons (pe_own d_rings hr (by decide) (pa_cons (pv 1) pa_nil)) pa_nil)) (pa_cons (pe_own d_never_held hr (by decide) (pa_cons (pv 1) pa_nil)) pa_nil)))))))))
 (pss_one (ps_ret (pe_own d__law_same hr (by decide) (pa_cons (pv 2) (pa_cons (pe_lst (pa_cons (pe_lst (pa_cons (pe_tup (pa_cons pe_str (pa_cons pe_str (pa_cons pe_str pa_nil)))) pa_nil)) (pa_cons (pe_tup pa_nil) (pa_cons pe_non (pa_cons (pe_lst (pa_cons (pe_tup (pa_cons pe_str (pa_cons pe_str pa_nil))) pa_nil)) (pa_cons pe_int (pa_cons pe_int (pa_cons pe_bl pa_nil)))))))) pa_nil)))))))), ?_⟩
    -- the line
    refine ⟨sz (by simp), fun aw n1 => ⟨sz (by simp), fun b1 n2 => ⟨sz (by simp), fun b2 n3 => ⟨sz (by simp), fun aq n4 => ⟨sz (by simp), fun a n5 => ?_⟩⟩⟩⟩⟩
    have NL : NetAt K (upd (upd (upd (upd (upd H aw (.tup [.str "a", .str "b", .str "c"])) b1 (.tup [.str "p", .str "c", .str "a", .int 2, .int 1])) b2 (.tup [.str "q", .str "a", .str "b", .int 1, .int 1])) aq (.tup [.ref b1, .ref b2])) a (.tup [.ref aw, .ref aq])) a lineW lineQ :=
      ⟨aw, aq, [b1, b2], sqt upd_same, sqt (new_keep n5 (new_keep n4 (new_keep n3 (new_keep n2 upd_same)))), sqt (new_keep n5 upd_same), .cons (sqt (new_keep n5 (new_keep n4 (new_keep n3 upd_same)))) (.cons (sqt (new_keep n5 (new_keep n4 upd_same))) .nil)⟩
    have SL : Same H (upd (upd (upd (upd (upd H aw (.tup [.str "a", .str "b", .str "c"])) b1 (.tup [.str "p", .str "c", .str "a", .int 2, .int 1])) b2 (.tup [.str "q", .str "a", .str "b", .int 1, .int 1])) aq (.tup [.ref b1, .ref b2])) a (.tup [.ref aw, .ref aq])) := Same.new (Same.new (Same.new (Same.new (same_new n1) n2) n3) n4) n5
    show tSeq _ _ _ _ (upd (upd (upd (upd (upd H aw (.tup [.str "a", .str "b", .str "c"])) b1 (.tup [.str "p", .str "c", .str "a", .int 2, .int 1])) b2 (.tup [.str "q", .str "a", .str "b", .int 1, .int 1])) aq (.tup [.ref b1, .ref b2])) a (.tup [.ref aw, .ref aq]))
    generalize (upd (upd (upd (upd (upd H aw (.tup [.str "a", .str "b", .str "c"])) b1 (.tup [.str "p", .str "c", .str "a", .int 2, .int 1])) b2 (.tup [.str "q", .str "a", .str "b", .int 1, .int 1])) aq (.tup [.ref b1, .ref b2])) a (.tup [.ref aw, .ref aq])) = H0 at NL SL
    clear n1 n2 n3 n4 n5
    -- the side
    refine ⟨sz (by simp), fun ew n1 => ⟨sz (by simp), fun c1 n2 => ⟨sz (by simp), fun c2 n3 => ⟨sz (by simp), fun c3 n4 => ⟨sz (by simp), fun c4 n5 => ⟨sz (by simp), fun eq n6 => ⟨sz (by simp), fun e n7 => ?_⟩⟩⟩⟩⟩⟩⟩
    have NS : NetAt K (upd (upd (upd (upd (upd (upd (upd H0 ew (.tup [.str "a", .str "b"])) c1 (.tup [.str "p", .str "a", .str "b", .int 5, .int 1])) c2 (.tup [.str "q", .str "a", .str "b", .int 5, .int 1])) c3 (.tup [.str "r", .str "a", .str "b", .int 5, .int 1])) c4 (.tup [.str "s", .str "a", .str "b", .int 1, .int 1])) eq (.tup [.ref c1, .ref c2, .ref c3, .ref c4])) e (.tup [.ref ew, .ref eq])) e sideW sideQ :=
      ⟨ew, eq, [c1, c2, c3, c4], sqt upd_same, sqt (new_keep n7 (new_keep n6 (new_keep n5 (new_keep n4 (new_keep n3 (new_keep n2 upd_same)))))), sqt (new_keep n7 upd_same), .cons (sqt (new_keep n7 (new_keep n6 (new_keep n5 (new_keep n4 (new_keep n3 upd_same)))))) (.cons (sqt (new_keep n7 (new_keep n6 (new_keep n5 (new_keep n4 upd_same))))) (.cons (sqt (new_keep n7 (new_keep n6 (new_keep n5 upd_same)))) (.cons (sqt (new_keep n7 (new_keep n6 upd_same))) .nil)))⟩
    have SS : Same H0 (upd (upd (upd (upd (upd (upd (upd H0 ew (.tup [.str "a", .str "b"])) c1 (.tup [.str "p", .str "a", .str "b", .int 5, .int 1])) c2 (.tup [.str "q", .str "a", .str "b", .int 5, .int 1])) c3 (.tup [.str "r", .str "a", .str "b", .int 5, .int 1])) c4 (.tup [.str "s", .str "a", .str "b", .int 1, .int 1])) eq (.tup [.ref c1, .ref c2, .ref c3, .ref c4])) e (.tup [.ref ew, .ref eq])) := Same.new (Same.new (Same.new (Same.new (Same.new (Same.new (same_new n1) n2) n3) n4) n5) n6) n7
    show tSeq _ _ _ _ (upd (upd (upd (upd (upd (upd (upd H0 ew (.tup [.str "a", .str "b"])) c1 (.tup [.str "p", .str "a", .str "b", .int 5, .int 1])) c2 (.tup [.str "q", .str "a", .str "b", .int 5, .int 1])) c3 (.tup [.str "r", .str "a", .str "b", .int 5, .int 1])) c4 (.tup [.str "s", .str "a", .str "b", .int 1, .int 1])) eq (.tup [.ref c1, .ref c2, .ref c3, .ref c4])) e (.tup [.ref ew, .ref eq]))
    generalize (upd (upd (upd (upd (upd (upd (upd H0 ew (.tup [.str "a", .str "b"])) c1 (.tup [.str "p", .str "a", .str "b", .int 5, .int 1])) c2 (.tup [.str "q", .str "a", .str "b", .int 5, .int 1])) c3 (.tup [.str "r", .str "a", .str "b", .int 5, .int 1])) c4 (.tup [.str "s", .str "a", .str "b", .int 1, .int 1])) eq (.tup [.ref c1, .ref c2, .ref c3, .ref c4])) e (.tup [.ref ew, .ref eq])) = H1 at NS SS
    clear n1 n2 n3 n4 n5 n6 n7
    have NL1 := NL.same SS
    refine ⟨_, rfl, a, lineW, lineQ, rfl, NL1, line_ok, fun H2 p2 bs2 gs2 s2 _ hp2 pr2 ig2 _ => ?_⟩
    obtain rfl := line_groups ig2
    refine ⟨_, rfl, a, lineW, lineQ, rfl, NL1.same s2, line_ok, fun H3 p3 ys3 s3 hp3 _ hy3 _ => ?_⟩
    obtain rfl := line_idle hy3
    refine ⟨_, rfl, a, lineW, lineQ, rfl, (NL1.same s2).same s3, line_ok, fun H4 o4 s4 ho4 => ?_⟩
    obtain rfl := line_slack ho4
    have NS4 := ((NS.same s2).same s3).same s4
    refine ⟨_, rfl, e, sideW, sideQ, rfl, NS4, side_ok, fun H5 p5 bs5 gs5 s5 _ hp5 pr5 ig5 _ => ?_⟩
    obtain rfl := side_groups ig5
    refine ⟨_, rfl, e, sideW, sideQ, rfl, NS4.same s5, side_ok, fun H6 o6 s6 ho6 => ?_⟩
    obtain rfl := side_slack ho6
    refine ⟨_, rfl, e, sideW, sideQ, rfl, (NS4.same s5).same s6, side_ok, fun H7 p7 bs7 L7 s7 _ hp7 pr7 pe7 => ?_⟩
    refine ⟨p7, _, rfl, .inl (sql hp7), ?_⟩
    have h12 : (bs7.map V.ref).length = 12 := by rw [part_len pr7, pe7.length_eq]; exact side_count
    rw [h12]
    refine ⟨_, rfl, e, sideW, sideQ, rfl, ((NS4.same s5).same s6).same s7, side_ok, fun H8 b8 s8 hb8 => ?_⟩
    obtain rfl := hb8.mpr side_never
    refine ⟨sz (by simp), fun l nl => ?_⟩
    have t8 := s8.trans (same_new (o := .lst [.ref p2, .ref p3, optV none, .ref p5, optV (some 1), .int (12 : Nat), .bl true]) nl)
    refine ⟨_, rfl, sz (by simp), fun t1 n1 => ⟨sz (by simp), fun l1 n2 => ⟨sz (by simp), fun t2 n3 => ⟨sz (by simp), fun t3 n4 => ⟨sz (by simp), fun l3 n5 => ⟨sz (by simp), fun l4 n6 => ?_⟩⟩⟩⟩⟩⟩
    have u6 := same_new (o := .lst [.ref l1, .ref t2, .non, .ref l3, .int 1, .int 12, .bl true]) n6
    have u5 := (same_new (o := .lst [.ref t3]) n5).trans u6
    have u4 := (same_new (o := .tup [.str "a", .str "b"]) n4).trans u5
    have u3 := (same_new (o := .tup []) n3).trans u4
    have u2 := (same_new (o := .lst [.ref t1]) n2).trans u3
    have u1 := (same_new (o := .tup [.str "a", .str "b", .str "c"]) n1).trans u2
    have d8 := t8.trans u1
    have d7 := s7.trans d8
    have d6 := s6.trans d7
    have d5 := s5.trans d6
    have d4 := s4.trans d5
    have d3 := s3.trans d4
    have d2 := s2.trans d3
    refine ⟨.ref l, .ref l4, .l [.l [.t (lineW.map T.s)], .t [], .n, .l [.t (sideW.map T.s)], .i 1, .i 12, .b true], rfl, ?_, ?_, by decide +kernel, fun H9 s9 => q H9 (SL.trans (SS.trans (d2.trans s9)))⟩
    · refine ⟨l, _, rfl, sql (u1 _ _ upd_same), .cons ?_ (.cons ⟨p3, _, rfl, sqt (d4 _ _ hp3), .nil⟩ (.cons rfl (.cons ?_ (.cons rfl (.cons rfl (.cons rfl .nil))))))⟩
      · exact DatN.same d3 2 _ _ (groups_dat 0 (sql hp2) pr2)
      · exact DatN.same d6 2 _ _ (groups_dat 0 (sql hp5) pr5)
    · refine ⟨l4, _, rfl, sql upd_same, .cons ⟨l1, _, rfl, sql (u3 _ _ upd_same), .cons ⟨t1, _, rfl, sqt (u2 _ _ upd_same), .cons rfl (.cons rfl (.cons rfl .nil))⟩ .nil⟩ (.cons ⟨t2, _, rfl, sqt (u4 _ _ upd_same), .nil⟩ (.cons rfl (.cons ⟨l3, _, rfl, sql (u6 _ _ upd_same), .cons ⟨t3, _, rfl, sqt (u5 _ _ upd_same), .cons rfl (.cons rfl .nil)⟩ .nil⟩ (.cons rfl (.cons rfl (.cons rfl .nil))))))⟩
end
end JL
set_option Elab.async false
set_option linter.all false
set_option maxRecDepth 100000
set_option maxHeartbeats 4000000
/-! what a renaming keeps, in the words of the walk -/
namespace JL
open PySem PySem.Spec PyProof.Rows L2 JB
section
variable {ws ws2 : List Str} {qs qs2 : List Rw} {ρ μ : Str → Str}
theorem ed_ren (R : JM.Ren ws qs ws2 qs2 ρ μ) {both : Bool} {x y : Str} (h : Ed qs both x y) : Ed qs2 both (ρ x) (ρ y) := by
  rcases h with ⟨r, hr, h1, h2⟩ | ⟨h0, r, hr, h1, h2⟩
  · exact .inl ⟨_, R.row hr, by rw [← h1]; rfl, by rw [← h2]; rfl⟩
  · exact .inr ⟨h0, _, R.row hr, by rw [← h1]; rfl, by rw [← h2]; rfl⟩
theorem together_ren (V : JM.Net slt ws qs) (R : JM.Ren ws qs ws2 qs2 ρ μ) {x y : Str} (hx : x ∈ ws) (hy : y ∈ ws) : Together qs2 (ρ x) (ρ y) ↔ Together qs x y := by
  constructor
  · intro h
    obtain ⟨ρ', μ', R', e1, _⟩ := R.symm V id
    have := JM.Reach.map (ρ := ρ') (S' := fun z => z = ρ' (ρ x)) (fun z e => by rw [e]) (fun a b e => ed_ren R' e) h
    rw [e1 x hx, e1 y hy] at this
    exact this
  · intro h
    exact JM.Reach.map (ρ := ρ) (S' := fun z => z = ρ x) (fun z e => by rw [e]) (fun a b e => ed_ren R e) h
theorem turning_ren (R : JM.Ren ws qs ws2 qs2 ρ μ) {x : Str} (h : Turning ws qs x) : Turning ws2 qs2 (ρ x) := by
  refine ⟨(R.wk _).mpr ⟨x, h.1, rfl⟩, JM.Reach.map (ρ := ρ) (fun z ⟨r, hr, h1, h2⟩ => ⟨_, R.row hr, by rw [← h1]; rfl, by rw [← h2]; rfl⟩) (fun a b e => ed_ren R e) h.2⟩
theorem idle_ren (V : JM.Net slt ws qs) (V2 : JM.Net slt ws2 qs2) (R : JM.Ren ws qs ws2 qs2 ρ μ) {y : Str} : JM.Reach (Ed qs2 false) (Turning ws2 qs2) y ↔ ∃ x, x ∈ ws ∧ JM.Reach (Ed qs false) (Turning ws qs) x ∧ ρ x = y := by
  constructor
  · intro h
    obtain ⟨ρ', μ', R', e1, e2⟩ := R.symm V id
    have hy : y ∈ ws2 := JM.Reach.closed (P := fun z => z ∈ ws2) (fun z hz => hz.1) (fun a b _ e => (ed_mem V2 e).2) h
    obtain ⟨x, hx, rfl⟩ := (R.wk y).mp hy
    have := JM.Reach.map (ρ := ρ') (S' := Turning ws qs) (fun z hz => turning_ren R' hz) (fun a b e => ed_ren R' e) h
    rw [e1 x hx] at this
    exact ⟨x, hx, this, rfl⟩
  · rintro ⟨x, _, h, rfl⟩
    exact JM.Reach.map (ρ := ρ) (S' := Turning ws2 qs2) (fun z hz => turning_ren R hz) (fun a b e => ed_ren R e) h
/-! ### walks -/
def RnOk (ws : List Str) (qs rs : List Rw) : Prop := ∀ r ∈ rs, r ∈ qs
theorem step_ren (V : JM.Net slt ws qs) (R : JM.Ren ws qs ws2 qs2 ρ μ) {v : Str} {r : Rw} (hv : v ∈ ws) (hr : r ∈ qs) : JM.stepOf (ρ v) (JM.ren ρ μ r) = JM.renb ρ μ (JM.stepOf v r) ∧ JM.otherOf (ρ v) (JM.ren ρ μ r) = ρ (JM.otherOf v r) := by
  have e : (ρ v = ρ r.s) ↔ v = r.s := ⟨fun h => R.inj v hv _ (V.st r hr) h, fun h => by rw [h]⟩
  unfold JM.stepOf JM.otherOf JM.renb JM.ren
  by_cases h : v = r.s
  · have h' : ρ v = ρ r.s := e.mpr h
    simp [h]
  · have h' : ¬ ρ v = ρ r.s := fun z => h (e.mp z)
    simp [h, h']
theorem wkS_ren (V : JM.Net slt ws qs) (R : JM.Ren ws qs ws2 qs2 ρ μ) : ∀ {v : Str} {rs : List Rw}, v ∈ ws → (∀ r ∈ rs, r ∈ qs) → wkS (ρ v) (rs.map (JM.ren ρ μ)) = (wkS v rs).map (JM.renb ρ μ)
  | _, [], _, _ => rfl
  | v, r :: rs, hv, hr => by
    obtain ⟨h1, h2⟩ := step_ren V R hv (hr r (List.mem_cons_self ..))
    have ih := wkS_ren V R (v := JM.otherOf v r) (rs := rs) (other_mem V (hr r (List.mem_cons_self ..))) (fun x hx => hr x (List.mem_cons_of_mem _ hx))
    show JM.stepOf (ρ v) (JM.ren ρ μ r) :: wkS (JM.otherOf (ρ v) (JM.ren ρ μ r)) (rs.map (JM.ren ρ μ)) = JM.renb ρ μ (JM.stepOf v r) :: (wkS (JM.otherOf v r) rs).map (JM.renb ρ μ)
    rw [h1, h2, ih]
theorem wkP_ren (V : JM.Net slt ws qs) (R : JM.Ren ws qs ws2 qs2 ρ μ) : ∀ {v : Str} {rs : List Rw}, v ∈ ws → (∀ r ∈ rs, r ∈ qs) → wkP (ρ v) (rs.map (JM.ren ρ μ)) = (wkP v rs).map ρ
  | _, [], _, _ => rfl
  | v, r :: rs, hv, hr => by
    obtain ⟨h1, h2⟩ := step_ren V R hv (hr r (List.mem_cons_self ..))
    have ih := wkP_ren V R (v := JM.otherOf v r) (rs := rs) (other_mem V (hr r (List.mem_cons_self ..))) (fun x hx => hr x (List.mem_cons_of_mem _ hx))
    show JM.otherOf (ρ v) (JM.ren ρ μ r) :: wkP (JM.otherOf (ρ v) (JM.ren ρ μ r)) (rs.map (JM.ren ρ μ)) = ρ (JM.otherOf v r) :: (wkP (JM.otherOf v r) rs).map ρ
    rw [h2, ih]
theorem wkOk_ren (V : JM.Net slt ws qs) (R : JM.Ren ws qs ws2 qs2 ρ μ) : ∀ {v : Str} {rs : List Rw}, v ∈ ws → (∀ r ∈ rs, r ∈ qs) → wkOk v rs → wkOk (ρ v) (rs.map (JM.ren ρ μ))
  | _, [], _, _, _ => trivial
  | v, r :: rs, hv, hr, h => by
    obtain ⟨h1, h2⟩ := step_ren V R hv (hr r (List.mem_cons_self ..))
    have ih := wkOk_ren V R (v := JM.otherOf v r) (rs := rs) (other_mem V (hr r (List.mem_cons_self ..))) (fun x hx => hr x (List.mem_cons_of_mem _ hx)) h.2
    refine ⟨h.1.elim (fun e => .inl (by rw [e]; rfl)) (fun e => .inr (by rw [e]; rfl)), ?_⟩
    rw [h2]
    exact ih
theorem wkP_mem (V : JM.Net slt ws qs) : ∀ {v : Str} {rs : List Rw}, (∀ r ∈ rs, r ∈ qs) → ∀ x ∈ wkP v rs, x ∈ ws
  | _, [], _, x, hx => by simp [wkP] at hx
  | v, r :: rs, hr, x, hx => by
    rcases List.mem_cons.mp hx with e | h
    · rw [e]
      exact other_mem V (hr r (List.mem_cons_self ..))
    · exact wkP_mem V (fun x hx => hr x (List.mem_cons_of_mem _ hx)) x h
theorem wkS_names : ∀ {v : Str} {rs : List Rw}, (wkS v rs).map (fun p => p.1.q) = rs.map (·.q)
  | _, [] => rfl
  | v, r :: rs => congrArg (r.q :: ·) wkS_names
theorem wkS_rows : ∀ {v : Str} {rs : List Rw}, ∀ p ∈ wkS v rs, p.1 ∈ rs
  | _, [], p, hp => by simp [wkS] at hp
  | v, r :: rs, p, hp => by
    rcases List.mem_cons.mp hp with e | h
    · rw [e]
      exact List.mem_cons_self ..
    · exact List.mem_cons_of_mem _ (wkS_rows p h)
theorem wkS_len : ∀ {v : Str} {rs : List Rw}, (wkS v rs).length = rs.length
  | _, [] => rfl
  | v, r :: rs => congrArg (· + 1) wkS_len
theorem wkP_len : ∀ {v : Str} {rs : List Rw}, (wkP v rs).length = rs.length
  | _, [] => rfl
  | v, r :: rs => congrArg (· + 1) wkP_len
theorem cost_ren {l : List Rb} : JM.cost (l.map (JM.renb ρ μ)) = JM.cost l := by
  unfold JM.cost
  rw [List.map_map]
  refine congrArg List.sum (List.map_congr_left fun p _ => ?_)
  exact JM.cst_ren p
/-! ### how many different texts -/
def stepS (acc : List Str) (x : Str) : List Str := if x ∈ acc then acc else acc ++ [x]
theorem fold_inr : ∀ (l acc : List Str), (l.map (Sum.inr : Str → Key)).foldl JB.stepK (acc.map Sum.inr) = (l.foldl stepS acc).map Sum.inr
  | [], _ => rfl
  | x :: l, acc => by
    have e : JB.stepK (acc.map (Sum.inr : Str → Key)) (.inr x) = (stepS acc x).map Sum.inr := by
      unfold JB.stepK stepS
      by_cases h : x ∈ acc
      · rw [if_pos h, if_pos (memK_iff.mpr (List.mem_map.mpr ⟨x, h, rfl⟩))]
      · rw [if_neg h, if_neg (fun z => by
          obtain ⟨y, hy, e⟩ := List.mem_map.mp (memK_iff.mp z)
          exact h (Sum.inr.inj e ▸ hy))]
        simp
    show (l.map (Sum.inr : Str → Key)).foldl JB.stepK (JB.stepK (acc.map Sum.inr) (.inr x)) = _
    rw [e, fold_inr l (stepS acc x)]
    rfl
theorem fold_map {f : Str → Str} : ∀ (l acc : List Str), (∀ x ∈ l ++ acc, ∀ y ∈ l ++ acc, f x = f y → x = y) → (l.map f).foldl stepS (acc.map f) = (l.foldl stepS acc).map f
  | [], _, _ => rfl
  | x :: l, acc, h => by
    have e : stepS (acc.map f) (f x) = (stepS acc x).map f := by
      unfold stepS
      by_cases k : x ∈ acc
      · rw [if_pos k, if_pos (List.mem_map.mpr ⟨x, k, rfl⟩)]
      · rw [if_neg k, if_neg (fun z => by
          obtain ⟨y, hy, e⟩ := List.mem_map.mp z
          have := h y (by simp [hy]) x (by simp) e
          exact k (this ▸ hy))]
        simp
    show (l.map f).foldl stepS (stepS (acc.map f) (f x)) = _
    rw [e, fold_map l (stepS acc x) fun a ha b hb => h a ?_ b ?_]
    · rfl
    · rcases List.mem_append.mp ha with z | z
      · simp [z]
      · unfold stepS at z
        by_cases k : x ∈ acc
        · rw [if_pos k] at z; simp [z]
        · rw [if_neg k] at z
          rcases List.mem_append.mp z with z | z
          · simp [z]
          · rw [List.mem_singleton.mp z]; simp
    · rcases List.mem_append.mp hb with z | z
      · simp [z]
      · unfold stepS at z
        by_cases k : x ∈ acc
        · rw [if_pos k] at z; simp [z]
        · rw [if_neg k] at z
          rcases List.mem_append.mp z with z | z
          · simp [z]
          · rw [List.mem_singleton.mp z]; simp
theorem ndiff_eq (xs : List Str) : ndiff xs = (xs.foldl stepS []).length := by
  unfold ndiff metK
  have e : (List.range xs.length).map (keyAt xs) = xs.map Sum.inr := by
    refine List.ext_getElem (by simp) fun i h1 h2 => ?_
    simp at h1 h2
    simp [keyAt, h2]
  rw [e]
  have := fold_inr xs []
  rw [List.map_nil] at this
  rw [this, List.length_map]
theorem ndiff_map {f : Str → Str} {xs : List Str} (h : ∀ x ∈ xs, ∀ y ∈ xs, f x = f y → x = y) : ndiff (xs.map f) = ndiff xs := by
  rw [ndiff_eq, ndiff_eq]
  have := fold_map (f := f) xs [] (by simpa using h)
  rw [List.map_nil] at this
  rw [this, List.length_map]
theorem ringB_map {f g : Str → Str} {names ps : List Str} (hf : ∀ x ∈ names, ∀ y ∈ names, f x = f y → x = y) (hg : ∀ x ∈ ps, ∀ y ∈ ps, g x = g y → x = y) : ringB (names.map f) (ps.map g) = ringB names ps := by
  unfold ringB
  rw [ndiff_map hf, ndiff_map hg, List.length_map, List.head?_map, List.getLast?_map]
  have e : decide (Option.map g ps.head? = Option.map g ps.getLast?) = decide (ps.head? = ps.getLast?) := by
    cases h1 : ps.head? with
    | none =>
      have : ps = [] := List.head?_eq_none_iff.mp h1
      subst this
      simp
    | some u =>
      cases h2 : ps.getLast? with
      | none =>
        have : ps = [] := List.getLast?_eq_none_iff.mp h2
        subst this
        cases h1
      | some v =>
        have hu : u ∈ ps := List.mem_of_head? h1
        have hv : v ∈ ps := List.mem_of_getLast? h2
        by_cases e : u = v
        · subst e; simp
        · have : g u ≠ g v := fun z => e (hg u hu v hv z)
          simp [e, this]
  rw [e]
end
end JL
set_option Elab.async false
set_option linter.all false
set_option maxRecDepth 100000
set_option maxHeartbeats 4000000
/-! parts of _law_right -/
namespace JL
open PySem PySem.Spec PyProof.Rows L2 JB
def TxtX (H : Hp) (b : Addr) (g : List Str) : Prop := H b = some (.tup (g.map V.str))
theorem ptxtx {H H' : Hp} {bs : List Addr} {l : List (List Str)} (h : Paired (TxtX H) bs l) (e : TX H H') : Paired (TxtX H') bs l := Paired.mapP h fun _ _ q => e _ _ q
theorem ptxt_of {K : PySem.W.Frag} {H : Hp} {bs : List Addr} {l : List (List Str)} (h : Paired (TxtX H) bs l) : Paired (TxtAt K H) bs l := Paired.mapP h fun _ _ q => sqt q
theorem map_str_inj : ∀ {l m : List Str}, l.map V.str = m.map V.str → l = m
  | [], [], _ => rfl
  | [], _ :: _, h => by cases h
  | _ :: _, [], h => by cases h
  | x :: l, y :: m, h => by
    rw [List.map_cons, List.map_cons] at h
    injection h with h1 h2
    rw [V.str.inj h1, map_str_inj h2]
theorem kin_strs : ∀ (l m : List Str), KinL (l.map Sum.inr) (m.map Sum.inr)
  | [], _ => by cases ‹List Str› <;> trivial
  | _ :: _, [] => trivial
  | _ :: l, _ :: m => ⟨trivial, kin_strs l m⟩
theorem lexB_strs : ∀ {l m : List Str}, lexB iLt (l.map (Sum.inr : Str → Item)) (m.map Sum.inr) = false → ¬ JM.lexlt slt l m
  | [], [], _, h => h.elim
  | [], _ :: _, h, _ => by cases h
  | _ :: _, [], _, h => h.elim
  | x :: l, y :: m, h, k => by
    have h' : (if (Sum.inr x : Item) = Sum.inr y then lexB iLt (l.map Sum.inr) (m.map Sum.inr) else iLt (.inr x) (.inr y)) = false := h
    rcases k with k | ⟨e, k⟩
    · by_cases e : x = y
      · rw [e] at k
        exact slt_sto.irr y k
      · rw [if_neg (fun z => e (Sum.inr.inj z))] at h'
        have : sLt x y = true := k
        have h2 : sLt x y = false := h'
        rw [this] at h2
        cases h2
    · rw [if_pos (by rw [e])] at h'
      exact lexB_strs h' k
theorem sortedT {H : Hp} {cs : List Addr} {ds : List (List Str)} (pr : Paired (TxtX H) cs ds) (hne : ∀ d ∈ ds, d ≠ []) : ∃ k : V → List Item, (∀ x ∈ cs.map V.ref, ∃ t, x = V.ref t ∧ H t = some (.tup ((k x).map itV))) ∧ (∀ x ∈ cs.map V.ref, k x ≠ []) ∧ (∀ x ∈ cs.map V.ref, ∀ y ∈ cs.map V.ref, KinL (k x) (k y)) ∧
    ∀ ys : List V, ys.Perm (cs.map V.ref) → ys.Pairwise (fun x y => lexB iLt (k y) (k x) = false) → ∃ (cs' : List Addr) (ds' : List (List Str)), ys = cs'.map V.ref ∧ ds'.Perm ds ∧ Paired (TxtX H) cs' ds' ∧ ds'.Pairwise (fun x y => ¬ JM.lexlt slt y x) := by
  have e1 : ∀ d : List Str, ((d.map (Sum.inr : Str → Item)).map itV) = d.map V.str := fun d => by rw [List.map_map]; rfl
  have key : ∀ x ∈ cs.map V.ref, ∃ d : List Str, d ≠ [] ∧ ∃ t, x = V.ref t ∧ H t = some (.tup (d.map V.str)) := fun x hx => by
    obtain ⟨i, hi⟩ := List.mem_iff_getElem?.mp hx
    obtain ⟨t, d, rfl, hd, h⟩ := part_at pr hi
    exact ⟨d, hne d (mem_at hd), t, rfl, h⟩
  refine ⟨fun x => (if hx : x ∈ cs.map V.ref then (key x hx).choose.map Sum.inr else []), fun x hx => ?_, fun x hx => ?_, fun x hx y hy => ?_, fun ys py pw => ?_⟩
  · simp only [dif_pos hx]
    rw [e1]
    exact (key x hx).choose_spec.2
  · simp only [dif_pos hx]
    exact fun e => (key x hx).choose_spec.1 (List.map_eq_nil_iff.mp e)
  · simp only [dif_pos hx, dif_pos hy]
    exact kin_strs _ _
  · obtain ⟨cs', rfl, pb⟩ := refs_perm py
    obtain ⟨ds', pL, hL'⟩ := paired_perm pb pr
    refine ⟨cs', ds', rfl, pL, hL', ?_⟩
    have hm : ∀ c ∈ cs', V.ref c ∈ cs.map V.ref := fun c hc => List.mem_map.mpr ⟨c, pb.mem_iff.mp hc, rfl⟩
    have kx : ∀ c ∈ cs', ∀ d, TxtX H c d → (if hx : V.ref c ∈ cs.map V.ref then (key (V.ref c) hx).choose.map (Sum.inr : Str → Item) else []) = d.map Sum.inr := fun c hc d hd => by
      simp only [dif_pos (hm c hc)]
      obtain ⟨_, t, e, ht⟩ := (key (V.ref c) (hm c hc)).choose_spec
      obtain rfl : c = t := V.ref.inj e
      have hd' : H c = some (.tup (d.map V.str)) := hd
      rw [hd'] at ht
      injection ht with ht
      injection ht with ht
      rw [map_str_inj ht]
    clear py pb pL hm
    induction hL' with
    | nil => exact List.Pairwise.nil
    | @cons c d cl dl r t ih =>
      rw [List.map_cons] at pw
      obtain ⟨p1, p2⟩ := List.pairwise_cons.mp pw
      refine List.pairwise_cons.mpr ⟨fun d2 hd2 => ?_, ih p2 fun c hc d hd => kx c (List.mem_cons_of_mem _ hc) d hd⟩
      obtain ⟨j, hj⟩ := List.mem_iff_getElem?.mp hd2
      have hjl : j < cl.length := by
        have := (List.getElem?_eq_some_iff.mp hj).1
        rw [Paired.length t]
        exact this
      obtain ⟨d3, h3, h4⟩ := paired_get t (List.getElem?_eq_getElem hjl)
      obtain rfl : d2 = d3 := Option.some.inj (hj.symm.trans h3)
      have a := p1 (.ref cl[j]) (List.mem_map.mpr ⟨_, List.getElem_mem hjl, rfl⟩)
      have b1 := kx c (List.mem_cons_self ..) d r
      have b2 := kx cl[j] (List.mem_cons_of_mem _ (List.getElem_mem hjl)) d2 h4
      have a' : lexB iLt (if hx : V.ref cl[j] ∈ cs.map V.ref then (key (V.ref cl[j]) hx).choose.map (Sum.inr : Str → Item) else []) (if hx : V.ref c ∈ cs.map V.ref then (key (V.ref c) hx).choose.map (Sum.inr : Str → Item) else []) = false := a
      rw [b1, b2] at a'
      exact lexB_strs a'
theorem fun_of {α β : Type} {R : β → α → Prop} : ∀ {ds : List β} {gs : List α} [Inhabited β], Paired R ds gs → gs.Nodup → ∃ F : α → β, ds = gs.map F ∧ ∀ g ∈ gs, R (F g) g
  | [], _, _, h, _ => by cases h; exact ⟨fun _ => default, rfl, fun g hg => by simp at hg⟩
  | d :: ds, [], _, h, _ => by cases h
  | d :: ds, g :: gs, _, h, n => by
    classical
    cases h with
    | cons r t =>
      obtain ⟨F, h1, h2⟩ := fun_of t (List.nodup_cons.mp n).2
      have ng := (List.nodup_cons.mp n).1
      refine ⟨fun x => if x = g then d else F x, ?_, fun x hx => ?_⟩
      · rw [List.map_cons, if_pos rfl, h1]
        refine congrArg (d :: ·) (List.map_congr_left fun x hx => ?_)
        rw [if_neg (fun e : x = g => ng (by rw [← e]; exact hx))]
      · rcases List.mem_cons.mp hx with e | k
        · show R (if x = g then d else F x) x
          rw [if_pos e, e]
          exact r
        · show R (if x = g then d else F x) x
          rw [if_neg (fun e : x = g => ng (by rw [← e]; exact k))]
          exact h2 x k
/-- what stands while one turn of the law goes on -/
structure Rt (K : PySem.W.Frag) (H : Hp) (b : Addr) (n : Nat) (a a2 tl ml : Addr) (ws ws2 tags marks : List Str) (qs qs2 : List Rw) : Prop where
  bx : Box H b n
  z : NetZ K H a ws qs
  z2 : NetZ K H a2 ws2 qs2
  t : H tl = some (.lst (tags.map V.str))
  m : H ml = some (.lst (marks.map V.str))
theorem Rt.same {K : PySem.W.Frag} {H H' : Hp} {b : Addr} {n : Nat} {a a2 tl ml : Addr} {ws ws2 tags marks : List Str} {qs qs2 : List Rw} (h : Rt K H b n a a2 tl ml ws ws2 tags marks qs qs2) (e : Same H H') : Rt K H' b n a a2 tl ml ws ws2 tags marks qs qs2 :=
  ⟨h.bx.same e, h.z.same e, h.z2.same e, e _ _ h.t, e _ _ h.m⟩
theorem Rt.gt {K : PySem.W.Frag} {H H' : Hp} {b : Addr} {n m : Nat} {a a2 tl ml : Addr} {ws ws2 tags marks : List Str} {qs qs2 : List Rw} (h : Rt K H b n a a2 tl ml ws ws2 tags marks qs qs2) (e : Gt b H H') (k : Box H' b m) (ht : tl ≠ b) (hm : ml ≠ b) : Rt K H' b m a a2 tl ml ws ws2 tags marks qs qs2 :=
  ⟨k, h.z.gt e h.bx, h.z2.gt e h.bx, e _ _ ht h.t, e _ _ hm h.m⟩
/-- the two nets, one the other renamed -/
structure Tw (ws ws2 tags marks : List Str) (qs qs2 : List Rw) : Prop where
  ok : NetOk ws qs
  ok2 : NetOk ws2 qs2
  R : JM.Ren ws qs ws2 qs2 (rhoOf ws tags) (rhoOf (qnames qs) marks)
  lt : tags.length = ws.length
  lm : marks.length = qs.length
  nt : tags.Nodup
  nm : marks.Nodup
  pw : ws2.Perm tags
/-- [tags[web[0].index(tag)] for tag in ..] -/
theorem lc_tags {K : PySem.W.Frag} {H1 : Hp} {b : Addr} {n : Nat} {a a2 tl ml c D : Addr} {ws ws2 tags marks g : List Str} {qs qs2 : List Rw} {Qd : Hp → Prop} {s0 s1 s3 s5 s6 s7 s8 s9 s10 s11 s12 s13 s14 s15 : Option V} (E : Rt K H1 b n a a2 tl ml ws ws2 tags marks qs qs2) (hl : tags.length = ws.length)
    (hc : SqT K H1 c (g.map V.str)) (hg : ∀ x ∈ g, x ∈ ws) (hgl : g.length ≤ 1000) (nD : H1 D = none) (q : ∀ H2, Same H1 H2 → H2 D = some (.lst ((g.map (rhoOf ws tags)).map V.str)) → Qd H2) :
    ∃ W : Nat → Nat → Hp → Prop, (∃ m, W 0 m (upd H1 D (.lst []))) ∧ ∀ i m H, W i m H →
      ((Itt K c).stop i H ∧ Qd H) ∨ ((Itt K c).go i H ∧ ∃ Nx : Hp → Prop, (∀ H', Nx H' → ∃ m', m' < m ∧ W (i + 1) m' H') ∧ ∀ x H', (Itt K c).yld i H x H' → gName 15 x (wipe [s0, s1, some (.ref a), s3, some (.ref tl), s5, s6, s7, s8, s9, s10, s11, s12, s13, s14, s15] [15]) H' fun σ2 H2 => wipe σ2 [15] = wipe [s0, s1, some (.ref a), s3, some (.ref tl), s5, s6, s7, s8, s9, s10, s11, s12, s13, s14, s15] [15] ∧ tYes σ2 H2 fun b H3 =>
        if b = true then (tOp (rIxL K) (tVar 4) (tBMZ (rTupIx K) (tOp (rIxT K) (tVar 2) (tC (.int 0))) (tCons (tVar 15) tNil))) σ2 H3 fun y H4 => ∃ acc, H4 D = some (.lst acc) ∧ acc.length < sizeLine ∧ Nx (upd H4 D (.lst (acc ++ [y]))) else Nx H3) := by
  refine lc_tup (K := K) (a := c) (xs := g.map V.str) (fun i H' => Same H1 H' ∧ H' D = some (.lst (((g.take i).map (rhoOf ws tags)).map V.str))) ⟨same_new nD, upd_same⟩ (fun i H' _ ⟨s', _⟩ => Same.tup s' hc) ?_ ?_
  · rintro i y H' hi ⟨sm, hD⟩
    obtain ⟨x, hx, rfl⟩ := str_at hi
    have hxw := hg x (mem_at hx)
    have hil : i < g.length := (List.getElem?_eq_some_iff.mp hx).1
    have E' := E.same sm
    obtain ⟨aw, aq, bs, N, Z⟩ := E'.z
    refine ⟨rfl, _, rfl, _, rfl, a, _, 0, _, rfl, rfl, N.top, rfl, ⟨aw, _, rfl, Z⟩, _, rfl, aw, ws, x, posOf x ws, rfl, rfl, N.wk, posOf_get hxw, fun m h => posOf_first h, tl, _, _, .str (rhoOf ws tags x), rfl, rfl, sql E'.t, atI_nat (by rw [List.getElem?_map, rho_get hl hxw]; rfl), _, hD, szl (by simp; omega), same_mut sm nD, ?_⟩
    rw [upd_same, take_next hx]
    simp
  · rintro H2 ⟨sm, hD⟩
    rw [take_all (List.length_map _)] at hD
    exact q H2 sm hD
end JL
set_option Elab.async false
set_option linter.all false
set_option maxRecDepth 100000
set_option maxHeartbeats 8000000
/-! _law_right -/
namespace JL
open PySem PySem.Spec PyProof.Rows L2 JB
def spRight (K : PySem.W.Frag) : Sp := fun vs H Q _ => ∃ (b : Addr), vs = [.ref b] ∧ Box H b 0 ∧ ∀ (H' : Hp), Gt b H H' → Q (.bl true) H'
theorem getP {α : Type} {l : List α} {i : Nat} {x : α} (h : l[i]? = some x) : i < l.length := (List.getElem?_eq_some_iff.mp h).1
def oT : Option Int → T
  | none => .n
  | some i => .i i
theorem oT_dat {K : PySem.W.Frag} {H : Hp} (n : Nat) (o : Option Int) : DatN K H n (optV o) (oT o) := by
  cases o <;> cases n <;> rfl
theorem small_strs (n : Nat) {g : List Str} (h : g.length ≤ 1000) : small (n + 1) (.t (g.map T.s)) = true := by
  show (decide ((g.map T.s).length ≤ 1000) && (g.map T.s).all (small n)) = true
  rw [Bool.and_eq_true, List.all_eq_true]
  refine ⟨decide_eq_true (by simpa using h), fun x hx => ?_⟩
  obtain ⟨y, _, rfl⟩ := List.mem_map.mp hx
  cases n <;> rfl
theorem small_groups (n : Nat) {gs : List (List Str)} (h : gs.length ≤ 1000) (k : ∀ g ∈ gs, g.length ≤ 1000) : small (n + 2) (.l (gs.map fun g => .t (g.map T.s))) = true := by
  show (decide ((gs.map fun g => T.t (g.map T.s)).length ≤ 1000) && (gs.map fun g => T.t (g.map T.s)).all (small (n + 1))) = true
  rw [Bool.and_eq_true, List.all_eq_true]
  refine ⟨decide_eq_true (by simpa using h), fun x hx => ?_⟩
  obtain ⟨g, hg, rfl⟩ := List.mem_map.mp hx
  exact small_strs n (k g hg)
theorem small_leaf (n : Nat) {l : List T} (h : l.length ≤ 1000) (k : ∀ x ∈ l, isSeq x = false) : small (n + 1) (.l l) = true := by
  show (decide (l.length ≤ 1000) && l.all (small n)) = true
  rw [Bool.and_eq_true, List.all_eq_true]
  refine ⟨decide_eq_true h, fun x hx => ?_⟩
  have := k x hx
  cases x <;> cases n <;> first | rfl | cases this
theorem oT_leaf (o : Option Int) : isSeq (oT o) = false := by cases o <;> rfl
theorem pmap_opt {K : PySem.W.Frag} {H : Hp} (n : Nat) (f : Str → Option Int) : ∀ l : List Str, Paired (DatN K H n) (l.map fun x => optV (f x)) (l.map fun x => oT (f x))
  | [] => .nil
  | x :: l => .cons (oT_dat n _) (pmap_opt n f l)
theorem group_in {ws : List Str} {qs : List Rw} (ok : NetOk ws qs) {gs : List (List Str)} (ig : JM.IsGroups slt ws (Together qs) gs) {g : List Str} (hg : g ∈ gs) : (∀ x ∈ g, x ∈ ws) ∧ g ≠ [] ∧ g.length ≤ 5 := by
  obtain ⟨asc, v, hv, m⟩ := ig.each g hg
  have sub : ∀ x ∈ g, x ∈ ws := fun x hx => (together_eqv ok.net).mem v x hv ((m x).mp hx)
  refine ⟨sub, fun e => ?_, ?_⟩
  · have := (m v).mpr (.base rfl)
    rw [e] at this
    simp at this
  · have := JM.nodup_len (JM.asc_nodup slt_sto asc) sub
    have := ok.w5
    omega
theorem idle_same {ws ws2 tags marks zs ys ys2 : List Str} {qs qs2 : List Rw} (T : Tw ws ws2 tags marks qs qs2) (pz : zs.Perm (ys.map (rhoOf ws tags))) (sz : sortedS zs = true) (a1 : ys.Pairwise slt) (h1 : ∀ y, y ∈ ys ↔ JM.Reach (Ed qs false) (Turning ws qs) y) (m1 : ∀ y ∈ ys, y ∈ ws)
    (a2 : ys2.Pairwise slt) (h2 : ∀ y, y ∈ ys2 ↔ JM.Reach (Ed qs2 false) (Turning ws2 qs2) y) : zs = ys2 := by
  have nz : zs.Nodup := by
    refine pz.nodup_iff.mpr (List.pairwise_map.mpr ?_)
    refine List.Pairwise.imp_of_mem (fun {a b} ha hb hab e => hab ?_) (JM.asc_nodup slt_sto a1)
    exact T.R.inj a (m1 a ha) b (m1 b hb) e
  refine JM.asc_uniq slt_sto (sortedS_asc sz nz) a2 fun y => ?_
  rw [pz.mem_iff, h2, idle_ren T.ok.net T.ok2.net T.R, List.mem_map]
  constructor
  · rintro ⟨x, hx, rfl⟩
    exact ⟨x, m1 x hx, (h1 x).mp hx, rfl⟩
  · rintro ⟨x, hx, hr, rfl⟩
    exact ⟨x, (h1 x).mpr hr, rfl⟩
theorem bool_iff {a b : Bool} (h : a = true ↔ b = true) : a = b := by
  cases a <;> cases b <;> simp_all
theorem early_same {ws ws2 tags marks : List Str} {qs qs2 : List Rw} (T : Tw ws ws2 tags marks qs qs2) {f f2 : Str → Option Int} (h : IsEarliest ws qs f) (h2 : IsEarliest ws2 qs2 f2) : tags.map (fun x => oT (f2 x)) = ws.map fun x => oT (f x) := by
  obtain ⟨Z, dz, hZ, rfl⟩ := h
  obtain ⟨Z2, dz2, hZ2, rfl⟩ := h2
  have e : tags = ws.map (rhoOf ws tags) := (rho_map (JM.asc_nodup slt_sto T.ok.net.asc) T.lt).symm
  conv => lhs; rw [e]
  rw [List.map_map]
  refine List.map_congr_left fun x hx => ?_
  show oT _ = oT _
  rw [JM.earliest_same T.ok.net T.ok2.net T.R id hZ hZ2 hx]
section
variable {P : Program} {w : World} {K : PySem.W.Frag} {mg : Str → Option Value} {base : Heap}
theorem d_law_right {f : Addr} {fd : FuncData} (F : FnP K "_law_right" "_law_right" s__law_right f fd) (g : mg "_law_right" = some (.ref f)) (M : Free mg) (W : WayD P w K mg base) (d__law_hand_right : Def P w K mg base 6 "_law_hand_right" [] spHand)
    (d_groups : Def P w K mg base 2 "groups" ["net"] (spGroups K)) (d_idle : Def P w K mg base 2 "idle" ["net"] (spIdle K)) (d_slack : Def P w K mg base 2 "slack" ["net"] (spSlack K)) (d_rings : Def P w K mg base 1 "rings" ["net"] (spRings K)) (d_never_held : Def P w K mg base 5 "never_held" ["net"] (spNever K)) (d_fewest_drops : Def P w K mg base 3 "fewest_drops" ["net"] (spFewest K)) (d_earliest : Def P w K mg base 4 "earliest" ["net"] (spEarliest K))
    (d__law_take : Def P w K mg base 1 "_law_take" ["_law_box_here", "_law_below"] (spTake K)) (d__law_web : Def P w K mg base 3 "_law_web" ["_law_box_here", "_law_size_so", "_law_most", "_law_high"] (spWeb K)) (d__law_twin_web : Def P w K mg base 2 "_law_twin_web" ["_law_box_here", "_law_high"] (spTwin K)) (d__law_renamed : Def P w K mg base 3 "_law_renamed" ["_law_box_here", "_law_web_here"] (spRenamed K)) (d__law_led : Def P w K mg base 3 "_law_led" ["_law_box_here", "_law_web_here", "_law_size_so"] (spLed K))
    (d__law_same : Def P w K mg base 5 "_law_same" ["_law_got", "_law_due"] (spSame K 3)) : Def P w K mg base 8 "_law_right" ["_law_box_here"] (spRight K) := by
  refine ⟨f, fd, F.ok sc__law_right (fun vs H Q E h => ?_) (fun cdv A outer s H vs Q E hr h => ?_), g, F.kp, bd__law_right F⟩
  · obtain ⟨b, rfl, _⟩ := h
    rfl
  · obtain ⟨b, rfl, bx, q⟩ := h
    have nd := sc__law_right.nd
    have hu := hu_of hr
    refine ⟨_, PSs.nox (pss_cons (ps_if (pt_not (pt_val (pe_own0 d__law_hand_right hr (by decide))))
  (pss_one (ps_ret pe_bl))
  pss_nil)
 (pss_cons (ps_for PassesOwn.never rfl (pi_range1 rfl M.range (pa_cons pe_int pa_nil)) (pg_name (i := 1) nd rfl (Or.inl rfl))
  (pss_cons (ps_set (i := 2) nd rfl (Or.inr rfl) (pe_mid (pe_ifExp (pt_cmpR op_eq (pe_own d__law_take hr (by decide) (pa_cons (pv 0) (pa_cons pe_int pa_nil))) pe_int (nomark _)) (pe_own d__law_twin_web hr (by decide) (pa_cons (pv 0) (pa_cons pe_int pa_nil))) (pe_own d__law_web hr (by decide) (pa_cons (pv 0) (pa_cons pe_int (pa_cons pe_int (pa_cons pe_int pa_nil))))))))
 (pss_cons (ps_asg (pe_own d__law_renamed hr (by decide) (pa_cons (pv 0) (pa_cons (pv 2) pa_nil))) (pg_tupK K (n := 3) rfl (pgs_cons (pg_name (i := 3) nd rfl (Or.inr rfl)) (pgs_cons (pg_name (i := 4) nd rfl (Or.inr rfl)) (pgs_cons (pg_name (i := 5) nd rfl (Or.inr rfl)) pgs_nil)))))
 (pss_cons (ps_set (i := 6) nd rfl (Or.inl rfl) (pe_callB (cr_sortedFK K) rfl M.sorted bt_sorted (pa_cons (pe_lc (own := [("_law_own", 13)]) (by rfl) nd (pi_listK K (pe_own d_groups hr (by decide) (pa_cons (pv 2) pa_nil))) (by exact blkOk_by (by kernel_rfl)) (fun _ _ _ _ _ => (pg_name (i := 13) nd rfl (Or.inl rfl))) (fun _ _ _ _ _ => pts_nil) (fun _ _ _ _ _ => (pe_callTy (call_tupleK K) rfl M.tuple bt_tuple (pa_cons (pe_callB (cr_sortedSK K) rfl M.sorted bt_sorted (pa_cons (pe_lc (own := [("_law_tag", 15)]) (by rfl) nd (pi_tupK K (pv 13)) (by exact blkOk_by (by kernel_rfl)) (fun _ _ _ _ _ => (pg_name (i := 15) nd rfl (Or.inl rfl))) (fun _ _ _ _ _ => pts_nil) (fun _ _ _ _ _ => (pe_ix (ix_listK K) (pv 4) (pe_bmZ PySem.F.plainAttrs_tuple PySem.F.slot_tuple_index PySem.F.type_tuple_index (mt_tupIxK K) (pe_ix (ix_tupK K) (pv 2) pe_int (fun _ _ => rfl)) (pa_cons (pv 15) pa_nil)) (fun _ _ => rfl)))) pa_nil)) pa_nil)))) pa_nil)))
 (pss_cons (ps_if (pt_not (pt_val (pe_own d__law_same hr (by decide) (pa_cons (pe_own d_groups hr (by decide) (pa_cons (pv 3) pa_nil)) (pa_cons (pv 6) pa_nil)))))
  (pss_one (ps_ret pe_bl))
  pss_nil)
 (pss_cons (ps_if (pt_not (pt_val (pe_own d__law_same hr (by decide) (pa_cons (pe_own d_idle hr (by decide) (pa_cons (pv 3) pa_nil)) (pa_cons (pe_callTy (call_tupleK K) rfl M.tuple bt_tuple (pa_cons (pe_callB (cr_sortedSK K) rfl M.sorted bt_sorted (pa_cons (pe_lc (own := [("_law_tag", 15)]) (by rfl) nd (pi_tupK K (pe_own d_idle hr (by decide) (pa_cons (pv 2) pa_nil))) (by exact blkOk_by (by kernel_rfl)) (fun _ _ _ _ _ => (pg_name (i := 15) nd rfl (Or.inl rfl))) (fun _ _ _ _ _ => pts_nil) (fun _ _ _ _ _ => (pe_ix (ix_listK K) (pv 4) (pe_bmZ PySem.F.plainAttrs_tuple PySem.F.slot_tuple_index PySem.F.type_tuple_index (mt_tupIxK K) (pe_ix (ix_tupK K) (pv 2) pe_int (fun _ _ => rfl)) (pa_cons (pv 15) pa_nil)) (fun _ _ => rfl)))) pa_nil)) pa_nil)) pa_nil)))))
  (pss_one (ps_ret pe_bl))
  pss_nil)
 (pss_cons (ps_set (i := 7) nd rfl (Or.inl rfl) (pe_lst (pa_cons (pe_own d_slack hr (by decide) (pa_cons (pv 3) pa_nil)) (pa_cons (pe_own d_never_held hr (by decide) (pa_cons (pv 3) pa_nil)) (pa_cons (pe_own d_fewest_drops hr (by decide) (pa_cons (pv 3) pa_nil)) (pa_cons (pe_callB (call_lenK K) rfl M.len bt_len (pa_cons (pe_own d_rings hr (by decide) (pa_cons (pv 3) pa_nil)) pa_nil)) pa_nil))))))
 (pss_cons (ps_if (pt_not (pt_val (pe_own d__law_same hr (by decide) (pa_cons (pv 7) (pa_cons (pe_lst (pa_cons (pe_own d_slack hr (by decide) (pa_cons (pv 2) pa_nil)) (pa_cons (pe_own d_never_held hr (by decide) (pa_cons (pv 2) pa_nil)) (pa_cons (pe_own d_fewest_drops hr (by decide) (pa_cons (pv 2) pa_nil)) (pa_cons (pe_callB (call_lenK K) rfl M.len bt_len (pa_cons (pe_own d_rings hr (by decide) (pa_cons (pv 2) pa_nil)) pa_nil)) pa_nil))))) pa_nil)))))
  (pss_one (ps_ret pe_bl))
  pss_nil)
 (pss_cons (ps_set (i := 8) nd rfl (Or.inr rfl) (pe_own d_earliest hr (by decide) (pa_cons (pv 3) pa_nil)))
 (pss_cons (ps_if (pt_not (pt_val (pe_own d__law_same hr (by decide) (pa_cons (pe_lc (own := [("_law_tag", 15)]) (by rfl) nd (pi_listK K (pv 4)) (by exact blkOk_by (by kernel_rfl)) (fun _ _ _ _ _ => (pg_name (i := 15) nd rfl (Or.inl rfl))) (fun _ _ _ _ _ => pts_nil) (fun _ _ _ _ _ => (pe_ix (ix_tupK K) (pv 8) (pe_bmZ PySem.F.plainAttrs_tuple PySem.F.slot_tuple_index PySem.F.type_tuple_index (mt_tupIxK K) (pe_ix (ix_tupK K) (pv 3) pe_int (fun _ _ => rfl)) (pa_cons (pv 15) pa_nil)) (fun _ _ => rfl)))) (pa_cons (pe_callTy (call_listK K) rfl M.list bt_list (pa_cons (pe_own d_earliest hr (by decide) (pa_cons (pv 2) pa_nil)) pa_nil)) pa_nil)))))
  (pss_one (ps_ret pe_bl))
  pss_nil)
 (pss_cons (ps_asg (pe_own d__law_led hr (by decide) (pa_cons (pv 0) (pa_cons (pv 2) (pa_cons pe_int pa_nil)))) (pg_tupK K (n := 2) rfl (pgs_cons (pg_name (i := 9) nd rfl (Or.inl rfl)) (pgs_cons (pg_name (i := 10) nd rfl (Or.inl rfl)) pgs_nil))))
 (pss_cons (ps_set (i := 11) nd rfl (Or.inl rfl) (pe_make W.mk_ W.f_init (hr.mono (by decide)) rfl W.g W.b_init .nil pass0 (pa_cons (pv 2) (pa_cons (pe_ix (ix_tupK K) (pe_ix (ix_tupK K) (pv 2) pe_int (fun _ _ => rfl)) (pv 9) (fun _ _ => rfl)) (pa_cons (pe_lc (own := [("_law_k", 14)]) (by rfl) nd (pi_listK K (pv 10)) (by exact blkOk_by (by kernel_rfl)) (fun _ _ _ _ _ => (pg_name (i := 14) nd rfl (Or.inl rfl))) (fun _ _ _ _ _ => pts_nil) (fun _ _ _ _ _ => (pe_ix (ix_tupK K) (pe_ix (ix_tupK K) (pe_ix (ix_tupK K) (pv 2) pe_int (fun _ _ => rfl)) (pv 14) (fun _ _ => rfl)) pe_int (fun _ _ => rfl)))) pa_nil)))))
 (pss_cons (ps_set (i := 12) nd rfl (Or.inl rfl) (pe_make W.mk_ W.f_init (hr.mono (by decide)) rfl W.g W.b_init .nil pass0 (pa_cons (pv 3) (pa_cons (pe_ix (ix_listK K) (pv 4) (pv 9) (fun _ _ => rfl)) (pa_cons (pe_lc (own := [("_law_k", 14)]) (by rfl) nd (pi_listK K (pv 10)) (by exact blkOk_by (by kernel_rfl)) (fun _ _ _ _ _ => (pg_name (i := 14) nd rfl (Or.inl rfl))) (fun _ _ _ _ _ => pts_nil) (fun _ _ _ _ _ => (pe_ix (ix_listK K) (pv 5) (pv 14) (fun _ _ => rfl)))) pa_nil)))))
 (pss_one (ps_if (pt_not (pt_val (pe_own d__law_same hr (by decide) (pa_cons (pe_lst (pa_cons (pe_meth0 (pv 12) W.cl W.m_cost W.f_cost (hr.mono (by decide)) W.b_cost .nil pass0) (pa_cons (pe_meth0 (pv 12) W.cl W.m_is_ring W.f_is_ring (hr.mono (by decide)) W.b_is_ring .nil pass0) pa_nil))) (pa_cons (pe_lst (pa_cons (pe_meth0 (pv 11) W.cl W.m_cost W.f_cost (hr.mono (by decide)) W.b_cost .nil pass0) (pa_cons (pe_meth0 (pv 11) W.cl W.m_is_ring W.f_is_ring (hr.mono (by decide)) W.b_is_ring .nil pass0) pa_nil))) pa_nil)))))
  (pss_one (ps_ret pe_bl))
  pss_nil)))))))))))))))
 (pss_one (ps_ret pe_bl)))), ?_⟩
    refine ⟨rfl, fun H0 s0 => ⟨_, rfl, iteF ?_⟩⟩
    refine ⟨5, rfl, by decide, by decide, for_range (lo := 0) (n := 5) (fun i σ' H' => ∃ (v1 v2 v3 v4 v5 v6 v7 v8 v9 v10 v11 v12 : Option V), σ' = [some (.ref b), v1, v2, v3, v4, v5, v6, v7, v8, v9, v10, v11, v12, none, none, none] ∧ Gt b H H' ∧ Box H' b (200 * i))
      ⟨none, none, none, none, none, none, none, none, none, none, none, none, rfl, .of s0, bx.same s0⟩ ?_ ?_⟩
    · rintro i σ' H1 hi ⟨v1, v2, v3, v4, v5, v6, v7, v8, v9, v10, v11, v12, rfl, gt, bx1⟩
      -- web
      refine ⟨fun v H' => ∃ (a : Addr) (ws : List Str) (qs : List Rw), v = .ref a ∧ Gt b H1 H' ∧ Box H' b (200 * i + 101) ∧ NetZ K H' a ws qs ∧ NetOk ws qs, ?_, ?_⟩
      · refine ⟨_, rfl, b, 3, 200 * i, rfl, bx1, by omega, by decide, by decide, fun H2 r g2 f2 bx2 h2 => ⟨rfl, _, rfl, ite2 (fun _ => ?_) (fun _ => ?_)⟩⟩
        · exact ⟨_, rfl, b, 200 * i + 1, rfl, bx2, by omega, fun H3 a ws qs g3 bx3 z ok => ⟨a, ws, qs, rfl, g2.trans g3, bx3.mono (by omega), z, ok⟩⟩
        · exact ⟨_, rfl, b, 200 * i + 1, rfl, bx2, by omega, fun H3 a ws qs g3 bx3 z ok => ⟨a, ws, qs, rfl, g2.trans g3, bx3.mono (by omega), z, ok⟩⟩
      · rintro v H2 ⟨a, ws, qs, rfl, g2, bx2, z2, ok⟩
        refine ⟨_, rfl, _, rfl, b, a, 200 * i + 101, ws, qs, rfl, bx2, by omega, z2, ok, fun H3 t a2 tl ml ws2 tags marks qs2 g3 bx3 ht z3 htl hml htb hmb lt lm nt nm pw sw pq => ?_⟩
        have Twn : Tw ws ws2 tags marks qs qs2 := ⟨ok, ren_netok ok lt lm nt nm pw sw pq, ren_of ok lt lm nt nm pw pq, lt, lm, nt, nm, pw⟩
        have E3 : Rt K H3 b (200 * i + 121) a a2 tl ml ws ws2 tags marks qs qs2 := ⟨bx3.mono (by omega), z2.gt g3 bx2, z3, htl, hml⟩
        have g13 : Gt b H H3 := gt.trans (g2.trans g3)
        refine ⟨t, _, rfl, ht, rfl, _, _, rfl, _, _, rfl, _, _, rfl, rfl, ?_⟩
        clear z2 z3 htl hml sw pq bx2 bx3 g2 g3 ht bx1 gt
        obtain ⟨ok, ok2, R, -, -, -, -, -⟩ := id Twn
        -- due
        refine ⟨_, rfl, a, ws, qs, rfl, E3.z.at, ok, fun H4 p4 bs4 gs s4 _ hp4 pr4 ig gl5 => ?_⟩
        have E4 := E3.same s4
        refine ⟨p4, rfl, ⟨_, sql hp4⟩, fun D nD => lc_list (K := K) (a := p4) (xs := bs4.map V.ref) (fun j H5 => Same H4 H5 ∧ ∃ (cs : List Addr) (ds : List (List Str)), H5 D = some (.lst (cs.map V.ref)) ∧ Paired (TxtX H5) cs ds ∧ Paired (fun (d g : List Str) => d.Perm (g.map (rhoOf ws tags)) ∧ sortedS d = true) ds (gs.take j))
          ⟨same_new nD, [], [], upd_same, .nil, .nil⟩ (fun j H5 _ ⟨s', _⟩ => sql (s' _ _ hp4)) ?_ ?_⟩
        · rintro j y H5 hj ⟨s5, cs, ds, hD, pX, pG⟩
          obtain ⟨c, gg, rfl, hg, hc⟩ := part_at pr4 hj
          have hjl := getP hg
          obtain ⟨gi, gne, g5⟩ := group_in ok ig (mem_at hg)
          have hc5 : SqT K H5 c (gg.map V.str) := Same.tup s5 hc
          have l1 := Paired.length pX
          have l2 := Paired.length pG
          rw [List.length_take] at l2
          refine ⟨rfl, ?_⟩
          refine ⟨_, rfl, c, rfl, ⟨_, hc5⟩, fun D2 nD2 => lc_tags (E4.same s5) lt hc5 gi (by omega) nD2 fun H6 s6 hD2 => ?_⟩
          refine ⟨D2, gg.map (rhoOf ws tags), rfl, sql hD2, by simp; omega, fun d p2 pd sd np2 => ?_⟩
          refine ⟨p2, _, rfl, .inl ⟨sql upd_same, fun t nt => ?_⟩⟩
          have s7 := s6.trans ((same_new (o := .lst (d.map V.str)) np2).trans (same_new (o := .tup (d.map V.str)) nt))
          have hD7 := s7 _ _ hD
          refine ⟨_, hD7, szl (by simp; omega), same_mut (s5.trans s7) nD, cs ++ [t], ds ++ [d], by rw [upd_same]; simp, (ptxtx pX ((TX.of s7).trans (TX.lst hD7))).snoc ?_, ?_⟩
          · have h9 := TX.lst (o := .lst (cs.map V.ref ++ [V.ref t])) hD7 t _ upd_same
            exact h9
          · rw [take_next hg]
            exact pG.snoc ⟨pd, sd⟩
        · rintro H5 ⟨s5, cs, ds, hD, pX, pG⟩
          rw [take_all (part_len pr4)] at pG
          obtain ⟨Fn, eF, hF⟩ := fun_of pG (JM.asc_nodup (JM.lex_sto slt_sto) ig.asc)
          have hne : ∀ d ∈ ds, d ≠ [] := fun d hd => by
            rw [eF] at hd
            obtain ⟨g, hg, rfl⟩ := List.mem_map.mp hd
            intro e
            have := (hF g hg).1.length_eq
            rw [e, List.length_map] at this
            exact (group_in ok ig hg).2.1 (List.length_eq_zero_iff.mp this.symm)
          obtain ⟨kk, k1, k2, k3, kp⟩ := sortedT pX hne
          refine ⟨D, _, kk, rfl, sql hD, k1, k2, k3, fun ys p6 py pys np6 => ?_⟩
          obtain ⟨cs', due, rfl, pdue, pX', pw'⟩ := kp ys py pys
          have igd : JM.IsGroups slt ws2 (Together qs2) due := JM.groups_map slt_sto slt_sto (together_eqv ok.net) (together_eqv ok2.net) R.inj R.wk (fun x hx y hy => together_ren ok.net R hx hy) ig (F := Fn) (fun g hg => ⟨(hF g hg).1, sortedS_pw (hF g hg).2⟩) (by rw [← eF]; exact pdue) pw'
          have s6 := s5.trans (same_new (o := .lst (cs'.map V.ref)) np6)
          have E6 := E4.same s6
          have g16 : Gt b H (upd H5 p6 (.lst (cs'.map V.ref))) := g13.trans (.of (s4.trans s6))
          have pX6 := ptxtx pX' (TX.new (o := .lst (cs'.map V.ref)) np6)
          have hp6 : upd H5 p6 (.lst (cs'.map V.ref)) p6 = some (.lst (cs'.map V.ref)) := upd_same
          -- the groups
          refine ⟨_, rfl, a2, ws2, qs2, rfl, E6.z2.at, ok2, fun H7 p7 bs7 gs2 s7 _ hp7 pr7 ig2 gl2 => ?_⟩
          obtain rfl : gs2 = due := JM.groups_uniq slt_sto (together_eqv ok2.net) ig2 igd
          refine ⟨_, rfl, .ref p7, .ref p6, .l (gs2.map fun g => .t (g.map T.s)), rfl, groups_dat 1 (sql hp7) pr7, DatN.same s7 3 _ _ (groups_dat 1 (sql hp6) (ptxt_of pX6)), small_groups 1 (by omega) (fun g hg => by have := (group_in ok2 ig2 hg).2.2; omega), fun H8 s8 => ⟨_, rfl, iteF ?_⟩⟩
          have E8 := (E6.same s7).same s8
          have g8 : Gt b H H8 := g16.trans (.of (s7.trans s8))
          clear hp6 pX6 g16 E6 s6 igd kp hne hF eF pG pX hD s5 E4 hp4 pr4 E3 g13 pX' pw' k1 k2 k3 pys py pdue
          -- idle
          refine ⟨_, rfl, a2, ws2, qs2, rfl, E8.z2.at, ok2, fun H9 p9 ys2 s9 hp9 asc2 hy2 hm2 => ?_⟩
          have E9 := E8.same s9
          refine ⟨_, rfl, a, ws, qs, rfl, E9.z.at, ok, fun H10 p10 ys s10 hp10 asc1 hy1 hm1 => ?_⟩
          have E10 := E9.same s10
          have yl := JM.nodup_len (JM.asc_nodup slt_sto asc1) hm1
          have yl2 := JM.nodup_len (JM.asc_nodup slt_sto asc2) hm2
          have hw5 := ok.w5
          have hw52 := ok2.w5
          refine ⟨p10, rfl, ⟨_, sqt hp10⟩, fun D nD => lc_tags E10 lt (sqt hp10) hm1 (by omega) nD fun H11 s11 hD => ?_⟩
          refine ⟨D, ys.map (rhoOf ws tags), rfl, sql hD, by simp; omega, fun zs p12 pz sz4 np12 => ⟨p12, _, rfl, .inl ⟨sql upd_same, fun t nt => ?_⟩⟩⟩
          obtain rfl : zs = ys2 := idle_same Twn pz sz4 asc1 hy1 hm1 asc2 hy2
          have s12 := s10.trans (s11.trans ((same_new (o := .lst (zs.map V.str)) np12).trans (same_new (o := .tup (zs.map V.str)) nt)))
          refine ⟨.ref p9, .ref t, .t (zs.map T.s), rfl, ⟨p9, _, rfl, sqt (s12 _ _ hp9), paired_map _ _ (fun _ => rfl) _⟩, ⟨t, _, rfl, sqt upd_same, paired_map _ _ (fun _ => rfl) _⟩, small_strs 2 (by omega), fun H13 s13 => ⟨_, rfl, iteF ?_⟩⟩
          have E13 := (E9.same s12).same s13
          have g13 : Gt b H H13 := g8.trans (.of (s9.trans (s12.trans s13)))
          clear E10 E9 E8 g8 hp9 hp10 hD s12 s13
          -- told
          refine ⟨_, rfl, a2, ws2, qs2, rfl, E13.z2.at, ok2, fun Ha o1 sa ho1 => ?_⟩
          have Ea := E13.same sa
          refine ⟨_, rfl, a2, ws2, qs2, rfl, Ea.z2.at, ok2, fun Hb b1 sb hb1 => ?_⟩
          have Eb := Ea.same sb
          refine ⟨_, rfl, a2, ws2, qs2, rfl, Eb.z2.at, ok2, fun Hc o2 sc ho2 => ?_⟩
          have Ec := Eb.same sc
          refine ⟨_, rfl, a2, ws2, qs2, rfl, Ec.z2.at, ok2, fun Hd pd bd Ld sd _ hpd prd ped => ⟨pd, _, rfl, .inl (sql hpd), sz (by simp), fun l1 n1 => ?_⟩⟩
          have eld : (bd.map V.ref).length = (JM.allRings slt ws2 qs2).length := by rw [part_len prd, ped.length_eq]
          have sl1 := same_new (o := .lst [optV o1, .bl b1, optV o2, .int ((bd.map V.ref).length : Nat)]) n1
          have Ed' := (Ec.same sd).same sl1
          have hl1 : upd Hd l1 (.lst [optV o1, .bl b1, optV o2, .int ((bd.map V.ref).length : Nat)]) l1 = some (.lst [optV o1, .bl b1, optV o2, .int ((bd.map V.ref).length : Nat)]) := upd_same
          have gd : Gt b H (upd Hd l1 (.lst [optV o1, .bl b1, optV o2, .int ((bd.map V.ref).length : Nat)])) := g13.trans (.of (sa.trans (sb.trans (sc.trans (sd.trans sl1)))))
          clear E13 Ea Eb Ec g13
          refine ⟨_, rfl, _, rfl, a, ws, qs, rfl, Ed'.z.at, ok, fun He o3 se ho3 => ?_⟩
          have Ee := Ed'.same se
          refine ⟨_, rfl, a, ws, qs, rfl, Ee.z.at, ok, fun Hf b2 sf hb2 => ?_⟩
          have Ef := Ee.same sf
          refine ⟨_, rfl, a, ws, qs, rfl, Ef.z.at, ok, fun Hg o4 sg ho4 => ?_⟩
          have Eg := Ef.same sg
          refine ⟨_, rfl, a, ws, qs, rfl, Eg.z.at, ok, fun Hh ph bh Lh sh _ hph prh peh => ⟨ph, _, rfl, .inl (sql hph), sz (by simp), fun l2 n2 => ?_⟩⟩
          have elh : (bh.map V.ref).length = (bd.map V.ref).length := by rw [eld, part_len prh, peh.length_eq, JM.rings_count slt_sto slt_sto ok.net ok2.net R id]
          obtain rfl : o3 = o1 := (JM.least_uniq (JM.costs_same slt_sto slt_sto ok.net ok2.net R id) ho1 ho3).symm
          obtain rfl : o4 = o2 := (JM.least_uniq (JM.prices_same slt_sto slt_sto ok.net ok2.net R id) ho2 ho4).symm
          obtain rfl : b2 = b1 := bool_iff (hb2.trans ((JM.never_same ok.net R id).symm.trans hb1.symm))
          rw [elh]
          have sl2 := same_new (o := .lst [optV o3, .bl b2, optV o4, .int ((bd.map V.ref).length : Nat)]) n2
          have sE := se.trans (sf.trans (sg.trans (sh.trans sl2)))
          refine ⟨.ref l1, .ref l2, .l [oT o3, .b b2, oT o4, .i ((bd.map V.ref).length : Nat)], rfl, ⟨l1, _, rfl, sql (sE _ _ hl1), .cons (oT_dat 2 _) (.cons rfl (.cons (oT_dat 2 _) (.cons rfl .nil)))⟩, ⟨l2, _, rfl, sql upd_same, .cons (oT_dat 2 _) (.cons rfl (.cons (oT_dat 2 _) (.cons rfl .nil)))⟩,
            small_leaf 2 (by simp) (fun x hx => by simp at hx; rcases hx with rfl | rfl | rfl | rfl <;> first | exact oT_leaf _ | rfl), fun Hi si => ⟨_, rfl, iteF ?_⟩⟩
          have Ei := (Ed'.same sE).same si
          have gi : Gt b H Hi := gd.trans (.of (sE.trans si))
          clear Ed' Ee Ef Eg gd sE si hl1 sl1 sl2 se sf sg sh sa sb sc sd
          -- earliest
          refine ⟨_, rfl, a2, ws2, qs2, rfl, Ei.z2.at, ok2, fun Hj pj f2 sj hpj ief2 => ?_⟩
          have Ej := Ei.same sj
          refine ⟨_, rfl, tl, rfl, ⟨_, sql Ej.t⟩, fun D nD => lc_list (K := K) (a := tl) (xs := tags.map V.str) (fun k H' => Same Hj H' ∧ H' D = some (.lst ((tags.take k).map fun x => optV (f2 x))))
            ⟨same_new nD, upd_same⟩ (fun k H' _ ⟨s', _⟩ => sql (s' _ _ Ej.t)) ?_ ?_⟩
          · rintro k y H' hk ⟨sm, hD⟩
            obtain ⟨x, hx, rfl⟩ := str_at hk
            have hxw : x ∈ ws2 := Twn.pw.mem_iff.mpr (mem_at hx)
            have hkl := getP hx
            have hw5' : tags.length ≤ 5 := by rw [lt]; exact ok.w5
            obtain ⟨aw, aq, bs, N, Z⟩ := (Ej.same sm).z2
            refine ⟨rfl, _, rfl, _, rfl, a2, _, 0, _, rfl, rfl, N.top, rfl, ⟨aw, _, rfl, Z⟩, _, rfl, aw, ws2, x, posOf x ws2, rfl, rfl, N.wk, posOf_get hxw, fun m h => posOf_first h, pj, _, _, optV (f2 x), rfl, rfl, sqt (sm _ _ hpj), atI_nat (by rw [List.getElem?_map, posOf_get hxw]; rfl), _, hD, szl (by simp; omega), same_mut sm nD, ?_⟩
            rw [upd_same, take_next hx]
            simp
          · rintro Hk ⟨sk, hD⟩
            rw [take_all (List.length_map _)] at hD
            have Ek := Ej.same sk
            refine ⟨_, rfl, a, ws, qs, rfl, Ek.z.at, ok, fun Hl pl f1 sl hpl ief1 => ⟨pl, _, rfl, .inr (sqt hpl), fun l3 n3 => ?_⟩⟩
            have hw5 := ok.w5
            have sn := same_new (o := .lst (ws.map fun x => optV (f1 x))) n3
            refine ⟨.ref D, .ref l3, .l (tags.map fun x => oT (f2 x)), rfl, ⟨D, _, rfl, sql (sn _ _ (sl _ _ hD)), pmap_opt 2 f2 tags⟩, ⟨l3, _, rfl, sql upd_same, by rw [early_same Twn ief1 ief2]; exact pmap_opt 2 f1 ws⟩, small_leaf 2 (by simp; omega) (fun x hx => by obtain ⟨y, _, rfl⟩ := List.mem_map.mp hx; exact oT_leaf _), fun Hm sm => ⟨_, rfl, iteF ?_⟩⟩
            have Em := (Ek.same sl).same (sn.trans sm)
            have gm : Gt b H Hm := gi.trans (.of (sj.trans (sk.trans (sl.trans (sn.trans sm)))))
            clear Ei Ej Ek gi sj sk sl sn sm hD hpj hpl ief1 ief2
            -- led
            refine ⟨_, rfl, _, rfl, b, a, 200 * i + 121, ws, qs, rfl, Em.bx, by omega, Em.z, ok, fun Hn t kl h0 u ks rs gn bxn htn hkl hklb hu0 wo kr rl => ?_⟩
            have En := Em.gt gn bxn htb hmb
            have gN : Gt b H Hn := gm.trans gn
            have hrs : ∀ r ∈ rs, r ∈ qs := fun r hr => by
              obtain ⟨j, hj⟩ := List.mem_iff_getElem?.mp hr
              have h1 : (rs.map some)[j]? = some (some r) := by rw [List.getElem?_map, hj]; rfl
              rw [← kr, List.getElem?_map] at h1
              obtain ⟨k, _, e⟩ := Option.map_eq_some_iff.mp h1
              exact mem_at e
            have ksAt : ∀ (j : Nat) (x : V), (ks.map fun k => V.int (k : Nat))[j]? = some x → ∃ k r, x = .int (k : Nat) ∧ rs[j]? = some r ∧ qs[k]? = some r := fun j x hx => by
              rw [List.getElem?_map] at hx
              obtain ⟨k, hk, rfl⟩ := Option.map_eq_some_iff.mp hx
              have h1 : (ks.map fun k => qs[k]?)[j]? = some qs[k]? := by rw [List.getElem?_map, hk]; rfl
              rw [kr, List.getElem?_map] at h1
              obtain ⟨r, hr, e⟩ := Option.map_eq_some_iff.mp h1
              exact ⟨k, r, rfl, hr, e.symm⟩
            have hkl' : ks.length = rs.length := by
              have := congrArg List.length kr
              rw [List.length_map, List.length_map] at this
              exact this
            have huw : u ∈ ws := mem_at hu0
            clear Em gm gn bxn
            refine ⟨t, _, rfl, htn, rfl, _, _, rfl, _, _, rfl, rfl, ?_⟩
            -- road
            obtain ⟨aw, aq, bs, N, Z⟩ := id En.z
            refine ⟨_, rfl, _, rfl, a, _, 0, _, rfl, rfl, N.top, rfl, _, rfl, aw, _, _, .str u, rfl, rfl, N.wk, atI_nat (by rw [List.getElem?_map, hu0]; rfl), ?_⟩
            refine ⟨_, rfl, kl, rfl, ⟨_, sql hkl⟩, fun D nD => lc_list (K := K) (a := kl) (xs := ks.map fun k => V.int (k : Nat)) (fun k H' => Same Hn H' ∧ H' D = some (.lst ((rs.take k).map fun r => V.str r.q)))
              ⟨same_new nD, upd_same⟩ (fun k H' _ ⟨s', _⟩ => sql (s' _ _ hkl)) ?_ ?_⟩
            · rintro k y H' hk ⟨sm, hD⟩
              obtain ⟨m, r, rfl, hr, hq⟩ := ksAt k y hk
              have hkr := getP hr
              have N' := N.same sm
              have hml : m < bs.length := by
                have h1 := getP hq
                have h2 := N.len
                rw [List.length_map] at h2
                omega
              have hbm : (bs.map V.ref)[m]? = some (.ref bs[m]) := by rw [List.getElem?_map, List.getElem?_eq_getElem hml]; rfl
              obtain ⟨c, r', ec, hri', hrow⟩ := N'.at hbm
              rw [hq] at hri'
              obtain rfl := Option.some.inj hri'
              obtain rfl : bs[m] = c := V.ref.inj ec
              refine ⟨rfl, _, rfl, a, _, 1, _, rfl, rfl, N'.top, rfl, _, rfl, aq, _, _, .ref bs[m], rfl, rfl, N'.qu, atI_nat hbm, bs[m], _, 0, _, rfl, rfl, hrow, rfl, _, hD, szl (by simp; omega), same_mut sm nD, ?_⟩
              rw [upd_same, take_next hr]
              simp
            · rintro Ho ⟨so, hD⟩
              rw [take_all (by rw [List.length_map]; exact hkl')] at hD
              have Eo := En.same so
              intro x dx nx ndx hne
              have sI : Same Ho (upd (upd Ho dx (.own x)) x (.ins W.Cw dx [])) := (same_new ndx).trans (same_new (by rw [upd_ne (Ne.symm hne)]; exact nx))
              refine ⟨x, a, D, dx, ws, qs, rs, u, rfl, upd_same, (Eo.same sI).z.at, ok, huw, sql (sI _ _ hD), hrs, wo, by omega, fun Hp hsm way => ⟨rfl, ?_⟩⟩
              have sp : Same Ho Hp := fun c o hc => hsm c o (ne_of_none hc nx) (sI _ _ hc)
              have Ep := Eo.same sp
              have hklp := sp _ _ (so _ _ hkl)
              have gP : Gt b H Hp := gN.trans (.of (so.trans sp))
              clear Eo sI hD hsm nD
              -- also
              refine ⟨_, rfl, _, rfl, _, rfl, tl, _, _, .str (rhoOf ws tags u), rfl, rfl, sql Ep.t, atI_nat (by
                have h1 := rho_get lt huw
                rw [posOf_at (JM.asc_nodup slt_sto ok.net.asc) hu0] at h1
                rw [List.getElem?_map, h1]; rfl), ?_⟩
              refine ⟨_, rfl, kl, rfl, ⟨_, sql hklp⟩, fun D2 nD2 => lc_list (K := K) (a := kl) (xs := ks.map fun k => V.int (k : Nat)) (fun k H' => Same Hp H' ∧ H' D2 = some (.lst (((rs.map (JM.ren (rhoOf ws tags) (rhoOf (qnames qs) marks))).take k).map fun r => V.str r.q)))
                ⟨same_new nD2, upd_same⟩ (fun k H' _ ⟨s', _⟩ => sql (s' _ _ hklp)) ?_ ?_⟩
              · rintro k y H' hk ⟨sm, hD⟩
                obtain ⟨m, r, rfl, hr, hq⟩ := ksAt k y hk
                have hkr := getP hr
                have h1 : (qnames qs)[m]? = some r.q := by unfold qnames; rw [List.getElem?_map, hq]; rfl
                have h2 := rho_get (ts := marks) (by rw [qnames_len]; exact lm) (mem_at h1)
                rw [posOf_at (qnames_nd ok.net) h1] at h2
                refine ⟨rfl, _, rfl, _, rfl, ml, _, _, .str (rhoOf (qnames qs) marks r.q), rfl, rfl, sql (sm _ _ Ep.m), atI_nat (by rw [List.getElem?_map, h2]; rfl), _, hD, szl (by simp; omega), same_mut sm nD2, ?_⟩
                have hr2 : (rs.map (JM.ren (rhoOf ws tags) (rhoOf (qnames qs) marks)))[k]? = some (JM.ren (rhoOf ws tags) (rhoOf (qnames qs) marks) r) := by rw [List.getElem?_map, hr]; rfl
                rw [upd_same, take_next hr2]
                simp
                rfl
              · rintro Hq ⟨sq, hD⟩
                rw [take_all (by rw [List.length_map, List.length_map]; exact hkl')] at hD
                have Eq' := Ep.same sq
                intro x2 dx2 nx2 ndx2 hne2
                have sI : Same Hq (upd (upd Hq dx2 (.own x2)) x2 (.ins W.Cw dx2 [])) := (same_new ndx2).trans (same_new (by rw [upd_ne (Ne.symm hne2)]; exact nx2))
                have hrs2 : ∀ r ∈ rs.map (JM.ren (rhoOf ws tags) (rhoOf (qnames qs) marks)), r ∈ qs2 := fun r hr => by
                  obtain ⟨r0, h0, rfl⟩ := List.mem_map.mp hr
                  exact R.row (hrs r0 h0)
                refine ⟨x2, a2, D2, dx2, ws2, qs2, rs.map (JM.ren (rhoOf ws tags) (rhoOf (qnames qs) marks)), rhoOf ws tags u, rfl, upd_same, (Eq'.same sI).z2.at, ok2, (R.wk _).mpr ⟨u, huw, rfl⟩, sql (sI _ _ hD), hrs2, wkOk_ren ok.net R huw hrs wo, by rw [List.length_map]; omega, fun Hr hsm2 way2 => ⟨rfl, ?_⟩⟩
                have sr : Same Hq Hr := fun c o hc => hsm2 c o (ne_of_none hc nx2) (sI _ _ hc)
                have Er := Eq'.same sr
                have gR : Gt b H Hr := gP.trans (.of (sq.trans sr))
                have wayR := way.same (sq.trans sr)
                have lw1 : (wkS u rs).length ≤ 100 := by rw [wkS_len]; omega
                have lw2 : (wkP u rs).length ≤ 100 := by rw [wkP_len]; omega
                have lw3 : (wkS (rhoOf ws tags u) (rs.map (JM.ren (rhoOf ws tags) (rhoOf (qnames qs) marks)))).length ≤ 100 := by rw [wkS_len, List.length_map]; omega
                have lw4 : (wkP (rhoOf ws tags u) (rs.map (JM.ren (rhoOf ws tags) (rhoOf (qnames qs) marks)))).length ≤ 100 := by rw [wkP_len, List.length_map]; omega
                have ecost : JM.cost (wkS (rhoOf ws tags u) (rs.map (JM.ren (rhoOf ws tags) (rhoOf (qnames qs) marks)))) = JM.cost (wkS u rs) := by rw [wkS_ren ok.net R huw hrs, cost_ren]
                have ering : ringB ((wkS (rhoOf ws tags u) (rs.map (JM.ren (rhoOf ws tags) (rhoOf (qnames qs) marks)))).map fun p => p.1.q) (rhoOf ws tags u :: wkP (rhoOf ws tags u) (rs.map (JM.ren (rhoOf ws tags) (rhoOf (qnames qs) marks)))) = ringB ((wkS u rs).map fun p => p.1.q) (u :: wkP u rs) := by
                  rw [wkS_names, wkS_names, wkP_ren ok.net R huw hrs]
                  have e1 : (rs.map (JM.ren (rhoOf ws tags) (rhoOf (qnames qs) marks))).map (fun r : Rw => r.q) = (rs.map fun r : Rw => r.q).map (rhoOf (qnames qs) marks) := by
                    rw [List.map_map, List.map_map]
                    rfl
                  have e2 : rhoOf ws tags u :: (wkP u rs).map (rhoOf ws tags) = (u :: wkP u rs).map (rhoOf ws tags) := rfl
                  rw [e1, e2]
                  refine ringB_map (fun x hx y hy e => ?_) (fun x hx y hy e => ?_)
                  · obtain ⟨r1, h1, rfl⟩ := List.mem_map.mp hx
                    obtain ⟨r2, h2, rfl⟩ := List.mem_map.mp hy
                    exact R.injq _ (hrs r1 h1) _ (hrs r2 h2) e
                  · have hin : ∀ z ∈ u :: wkP u rs, z ∈ ws := fun z hz => (List.mem_cons.mp hz).elim (fun e => e ▸ huw) (fun h => wkP_mem ok.net hrs z h)
                    exact R.inj x (hin x hx) y (hin y hy) e
                clear Eq' Ep En sI hsm2 hD nD2
                -- costs, rings
                obtain ⟨dy, fy, hy, wy⟩ := id way2
                refine ⟨_, rfl, x2, dy, fy, rfl, hy, wy.c, x2, ws2, qs2, _, _, rfl, way2, ok2, fun p hp => hrs2 _ (wkS_rows p hp), fun Hs ss => ?_⟩
                refine ⟨_, rfl, x2, dy, fy, rfl, ss _ _ hy, wy.r, x2, ws2, qs2, _, _, _, rfl, way2.same ss, lw3, lw4, fun Ht st => ⟨sz (by simp), fun l1 n1 => ?_⟩⟩
                have s1 := (ss.trans st).trans (same_new (o := .lst [.int (JM.cost (wkS (rhoOf ws tags u) (rs.map (JM.ren (rhoOf ws tags) (rhoOf (qnames qs) marks))))), .bl (ringB ((wkS (rhoOf ws tags u) (rs.map (JM.ren (rhoOf ws tags) (rhoOf (qnames qs) marks)))).map fun p => p.1.q) (rhoOf ws tags u :: wkP (rhoOf ws tags u) (rs.map (JM.ren (rhoOf ws tags) (rhoOf (qnames qs) marks)))))]) n1)
                have wayS := wayR.same s1
                obtain ⟨dz, fz, hz, wz⟩ := id wayS
                refine ⟨_, rfl, x, dz, fz, rfl, hz, wz.c, x, ws, qs, _, _, rfl, wayS, ok, fun p hp => hrs _ (wkS_rows p hp), fun Hu su => ?_⟩
                refine ⟨_, rfl, x, dz, fz, rfl, su _ _ hz, wz.r, x, ws, qs, _, _, _, rfl, wayS.same su, lw1, lw2, fun Hv sv => ⟨sz (by simp), fun l2 n2 => ?_⟩⟩
                have sn := su.trans (sv.trans (same_new (o := .lst [.int (JM.cost (wkS u rs)), .bl (ringB ((wkS u rs).map fun p => p.1.q) (u :: wkP u rs))]) n2))
                refine ⟨.ref l1, .ref l2, .l [.i (JM.cost (wkS u rs)), .b (ringB ((wkS u rs).map fun p : Rb => p.1.q) (u :: wkP u rs))], rfl, ⟨l1, _, rfl, sql (sn _ _ upd_same), .cons ?_ (.cons ?_ .nil)⟩, ⟨l2, _, rfl, sql upd_same, .cons rfl (.cons rfl .nil)⟩, small_leaf 2 (by simp) (fun x hx => by simp at hx; rcases hx with rfl | rfl <;> rfl), fun Hw sw => ⟨_, rfl, iteF ?_⟩⟩
                · show V.int _ = V.int _
                  rw [ecost]
                · show V.bl _ = V.bl _
                  rw [ering]
                · have sfin := s1.trans (sn.trans sw)
                  exact ⟨_, _, _, _, _, _, _, _, _, _, _, _, rfl, gR.trans (.of sfin), (Er.same sfin).bx.mono (by omega)⟩
    · rintro σ' H1 ⟨v1, v2, v3, v4, v5, v6, v7, v8, v9, v10, v11, v12, rfl, gt, bx1⟩
      exact q H1 gt
end
end JL
set_option Elab.async false
set_option linter.all false
set_option maxRecDepth 100000
set_option maxHeartbeats 4000000
/-! the law -/
namespace JL
open PySem PySem.Spec PyProof.Rows L2 JB
def spLaw (K : PySem.W.Frag) : Sp := fun vs H Q _ => ∃ (l : Addr) (ns : List Int), vs = [.ref l] ∧ SqL K H l (ns.map V.int) ∧ ∀ (H' : Hp), Q (.bl true) H'
section
variable {P : Program} {w : World} {K : PySem.W.Frag} {mg : Str → Option Value} {base : Heap}
theorem ok_law {f : Addr} {fd : FuncData} (F : FnP K "law" "law" s_law f fd) (M : Free mg) (d__law_cells : Def P w K mg base 1 "_law_cells" ["_law_script", "_law_most"] (spCells K)) (d__law_box : Def P w K mg base 1 "_law_box" ["_law_script", "_law_k"] (spBox K))
    (d__law_right : Def P w K mg base 8 "_law_right" ["_law_box_here"] (spRight K)) : FnOk P w K mg base CX0 9 f fd ["_law_script"] (spLaw K) := by
  refine F.ok sc_law (fun vs H Q E h => ?_) (fun cdv A outer s H vs Q E hr h => ?_)
  · obtain ⟨l, ns, rfl, _⟩ := h
    rfl
  · obtain ⟨l, ns, rfl, hl, q⟩ := h
    have nd := sc_law.nd
    have hu := hu_of hr
    refine ⟨_, PSs.nox (pss_cons (ps_set (i := 1) nd rfl (Or.inr rfl) (pe_own d__law_cells hr (by decide) (pa_cons (pv 0) (pa_cons pe_int pa_nil))))
 (pss_one (ps_ret (pe_callB (cr_allK K rfl) rfl M.all bt_all (pa_cons (pe_lc (own := [("_law_k", 2)]) (by rfl) nd (pi_range1 rfl M.range (pa_cons (pe_callB (call_lenK K) rfl M.len bt_len (pa_cons (pv 1) pa_nil)) pa_nil)) (by exact blkOk_by (by kernel_rfl)) (fun _ _ _ _ _ => (pg_name (i := 2) nd rfl (Or.inl rfl))) (fun _ _ _ _ _ => pts_nil) (fun _ _ _ _ _ => (pe_own d__law_right hr (by decide) (pa_cons (pe_own d__law_box hr (by decide) (pa_cons (pv 1) (pa_cons (pv 2) pa_nil))) pa_nil)))) pa_nil))))), ?_⟩
    refine ⟨_, rfl, l, ns, rfl, hl, fun H1 c ms s1 nc hc m1 m3 => ?_⟩
    refine ⟨_, rfl, c, _, rfl, .inl (sql hc), _, rfl, by omega, by rw [List.length_map]; omega, fun D nD => ?_⟩
    refine lc_range (lo := 0) (n := (ms.map V.int).length) (fun k H' => H' c = some (.lst (ms.map V.int)) ∧ H' D = some (.lst ((List.replicate k true).map V.bl))) ⟨new_keep nD hc, upd_same⟩ ?_ ?_
    · rintro k H' hk ⟨hc', hD⟩
      rw [List.length_map] at hk
      refine ⟨rfl, _, rfl, _, rfl, c, ms, k, by rw [Int.zero_add]; rfl, sql hc', by omega, fun H1 p s np bx => ⟨p, rfl, bx, fun H4 gt => ?_⟩⟩
      have hcp : c ≠ p := ne_of_none hc' np
      have hDp : D ≠ p := ne_of_none hD np
      have hcD : c ≠ D := ne_of_none hc nD
      have hD4 := gt _ _ hDp (s _ _ hD)
      have hc4 := gt _ _ hcp (s _ _ hc')
      refine ⟨_, hD4, szl (by simp; omega), by rw [upd_ne hcD]; exact hc4, ?_⟩
      rw [upd_same, List.replicate_succ', List.map_append]
      rfl
    · rintro H' ⟨hc', hD⟩
      exact ⟨D, _, rfl, sql hD, by rw [all_true]; exact q _⟩
end
end JL
set_option Elab.async false
set_option linter.all false
set_option maxRecDepth 100000
set_option maxHeartbeats 0

/-! the head: facts by names, the run (printed by mkhead.py) -/
namespace JL
open PySem PySem.Spec PyProof.Rows L2 JB
def hd_plain : He.DefD := ⟨("plain", none), "plain", "plain", defArgs s_plain, defBody s_plain, defScope s_plain, [], []⟩
def hd_reached : He.DefD := ⟨("reached", none), "reached", "reached", defArgs s_reached, defBody s_reached, defScope s_reached, [], []⟩
def hd_groups : He.DefD := ⟨("groups", none), "groups", "groups", defArgs s_groups, defBody s_groups, defScope s_groups, [], []⟩
def hd_idle : He.DefD := ⟨("idle", none), "idle", "idle", defArgs s_idle, defBody s_idle, defScope s_idle, [], []⟩
def hd_arcs : He.DefD := ⟨("arcs", none), "arcs", "arcs", defArgs s_arcs, defBody s_arcs, defScope s_arcs, [], []⟩
def hd_steps_cost : He.DefD := ⟨("steps_cost", none), "steps_cost", "steps_cost", defArgs s_steps_cost, defBody s_steps_cost, defScope s_steps_cost, [], []⟩
def hd_walked : He.DefD := ⟨("walked", none), "walked", "walked", defArgs s_walked, defBody s_walked, defScope s_walked, [], []⟩
def hd_Way_init : He.DefD := ⟨("Way", some "__init__"), "__init__", "Way.__init__", defArgs s_Way_init, defBody s_Way_init, defScope s_Way_init, [], []⟩
def hd_Way_cost : He.DefD := ⟨("Way", some "cost"), "cost", "Way.cost", defArgs s_Way_cost, defBody s_Way_cost, defScope s_Way_cost, [], []⟩
def hd_Way_is_ring : He.DefD := ⟨("Way", some "is_ring"), "is_ring", "Way.is_ring", defArgs s_Way_is_ring, defBody s_Way_is_ring, defScope s_Way_is_ring, [], []⟩
def hd_rings : He.DefD := ⟨("rings", none), "rings", "rings", defArgs s_rings, defBody s_rings, defScope s_rings, [], []⟩
def hd_slack : He.DefD := ⟨("slack", none), "slack", "slack", defArgs s_slack, defBody s_slack, defScope s_slack, [], []⟩
def hd_lowered : He.DefD := ⟨("lowered", none), "lowered", "lowered", defArgs s_lowered, defBody s_lowered, defScope s_lowered, [], []⟩
def hd_zeros : He.DefD := ⟨("zeros", none), "zeros", "zeros", defArgs s_zeros, defBody s_zeros, defScope s_zeros, [], []⟩
def hd_earliest : He.DefD := ⟨("earliest", none), "earliest", "earliest", defArgs s_earliest, defBody s_earliest, defScope s_earliest, [], []⟩
def hd_ring_at : He.DefD := ⟨("ring_at", none), "ring_at", "ring_at", defArgs s_ring_at, defBody s_ring_at, defScope s_ring_at, [], []⟩
def hd_tried : He.DefD := ⟨("tried", none), "tried", "tried", defArgs s_tried, defBody s_tried, defScope s_tried, [], []⟩
def hd_lags_in : He.DefD := ⟨("lags_in", none), "lags_in", "lags_in", defArgs s_lags_in, defBody s_lags_in, defScope s_lags_in, [], []⟩
def hd_lags : He.DefD := ⟨("lags", none), "lags", "lags", defArgs s_lags, defBody s_lags, defScope s_lags, [], []⟩
def hd_never_held : He.DefD := ⟨("never_held", none), "never_held", "never_held", defArgs s_never_held, defBody s_never_held, defScope s_never_held, [], []⟩
def hd_price_of : He.DefD := ⟨("price_of", none), "price_of", "price_of", defArgs s_price_of, defBody s_price_of, defScope s_price_of, [], []⟩
def hd_cheapest_ring : He.DefD := ⟨("cheapest_ring", none), "cheapest_ring", "cheapest_ring", defArgs s_cheapest_ring, defBody s_cheapest_ring, defScope s_cheapest_ring, [], []⟩
def hd_fewest_drops : He.DefD := ⟨("fewest_drops", none), "fewest_drops", "fewest_drops", defArgs s_fewest_drops, defBody s_fewest_drops, defScope s_fewest_drops, [], []⟩
def hd__law_box : He.DefD := ⟨("_law_box", none), "_law_box", "_law_box", defArgs s__law_box, defBody s__law_box, defScope s__law_box, [], []⟩
def hd__law_take : He.DefD := ⟨("_law_take", none), "_law_take", "_law_take", defArgs s__law_take, defBody s__law_take, defScope s__law_take, [], []⟩
def hd__law_cells : He.DefD := ⟨("_law_cells", none), "_law_cells", "_law_cells", defArgs s__law_cells, defBody s__law_cells, defScope s__law_cells, [], []⟩
def hd__law_of : He.DefD := ⟨("_law_of", none), "_law_of", "_law_of", defArgs s__law_of, defBody s__law_of, defScope s__law_of, [], []⟩
def hd__law_pick : He.DefD := ⟨("_law_pick", none), "_law_pick", "_law_pick", defArgs s__law_pick, defBody s__law_pick, defScope s__law_pick, [], []⟩
def hd__law_same : He.DefD := ⟨("_law_same", none), "_law_same", "_law_same", defArgs s__law_same, defBody s__law_same, defScope s__law_same, [], []⟩
def hd__law_web : He.DefD := ⟨("_law_web", none), "_law_web", "_law_web", defArgs s__law_web, defBody s__law_web, defScope s__law_web, [], []⟩
def hd__law_twin_web : He.DefD := ⟨("_law_twin_web", none), "_law_twin_web", "_law_twin_web", defArgs s__law_twin_web, defBody s__law_twin_web, defScope s__law_twin_web, [], []⟩
def hd__law_renamed : He.DefD := ⟨("_law_renamed", none), "_law_renamed", "_law_renamed", defArgs s__law_renamed, defBody s__law_renamed, defScope s__law_renamed, [], []⟩
def hd__law_led : He.DefD := ⟨("_law_led", none), "_law_led", "_law_led", defArgs s__law_led, defBody s__law_led, defScope s__law_led, [], []⟩
def hd__law_hand_right : He.DefD := ⟨("_law_hand_right", none), "_law_hand_right", "_law_hand_right", defArgs s__law_hand_right, defBody s__law_hand_right, defScope s__law_hand_right, [], []⟩
def hd__law_right : He.DefD := ⟨("_law_right", none), "_law_right", "_law_right", defArgs s__law_right, defBody s__law_right, defScope s__law_right, [], []⟩
def hd_law : He.DefD := ⟨("law", none), "law", "law", defArgs s_law, defBody s_law, defScope s_law, [], []⟩
def hfn0 : List He.DefD := [hd_plain, hd_reached, hd_groups, hd_idle, hd_arcs, hd_steps_cost, hd_walked, hd_Way_init, hd_Way_cost, hd_Way_is_ring, hd_rings, hd_slack, hd_lowered, hd_zeros, hd_earliest, hd_ring_at, hd_tried, hd_lags_in, hd_lags, hd_never_held, hd_price_of, hd_cheapest_ring, hd_fewest_drops, hd__law_box, hd__law_take, hd__law_cells, hd__law_of, hd__law_pick, hd__law_same, hd__law_web]
def hfn1 : List He.DefD := [hd__law_twin_web, hd__law_renamed, hd__law_led, hd__law_hand_right, hd__law_right, hd_law]
def hfn : List He.DefD := hfn0 ++ hfn1
def hfa0 : List He.Fa := [.glo "plain", .glo "reached", .glo "groups", .glo "idle", .glo "arcs", .glo "steps_cost", .glo "walked", .glo "rings", .glo "slack", .glo "lowered", .glo "zeros", .glo "earliest", .glo "ring_at", .glo "tried", .glo "lags_in", .glo "lags", .glo "never_held", .glo "price_of", .glo "cheapest_ring", .glo "fewest_drops", .glo "_law_box", .glo "_law_take", .glo "_law_cells", .glo "_law_of", .glo "_law_pick", .glo "_law_same", .glo "_law_web", .glo "_law_twin_web", .glo "_law_renamed", .glo "_law_led"]
def hfa1 : List He.Fa := [.glo "_law_hand_right", .glo "_law_right", .glo "law", .glo "Way", .free "len", .free "range", .free "tuple", .free "list", .free "dict", .free "set", .free "sorted", .free "any", .free "all", .free "sum", .free "min", .free "max", .free "abs", .free "int", .free "isinstance", .free "enumerate", .free "zip", .free "bool", .free "str", .str "ALONG" "along", .str "AGAINST" "against", .cls "Way", .noat "Way" "own_net", .noat "Way" "taken", .noat "Way" "stops", .mkr "Way"]
def hfa2 : List He.Fa := [.meth "Way" "cost", .meth "Way" "is_ring"]
def hfa : List He.Fa := hfa0 ++ hfa1 ++ hfa2
def hloose0 : List PySem.Str := ["_wall", "NoWorker", "NoQueue", "NoStep", "ALONG", "AGAINST", "plain", "reached", "groups", "idle", "arcs", "steps_cost", "walked", "Way", "rings", "slack", "lowered", "zeros", "earliest", "ring_at", "tried", "lags_in", "lags", "never_held", "price_of", "cheapest_ring", "fewest_drops", "_law_box", "_law_take", "_law_cells"]
def hloose1 : List PySem.Str := ["_law_of", "_law_pick", "_law_same", "_law_web", "_law_twin_web", "_law_renamed", "_law_led", "_law_hand_right", "_law_right"]
def hloose : List PySem.Str := hloose0 ++ hloose1
abbrev R : PySem.W.OpenRow := PySem.W.OpenLaw.row PySem.Challenge.rw_joinlags_k11_whole_other_names
abbrev hk : PySem.W.Hook := He.hookD 4 hfa hfn
def hob (s : PySem.W.SharedT) : He.AlD := He.obsDG 4 hfa hfn (HandSHeadRun.getT s)
theorem hob_eq (s : PySem.W.SharedT) : hob s = hk.obs s.abs := He.obsDG_eq (HandSHeadRun.getT_eq s)
theorem run (w : World) : HandSHeadRun.RunEq R (PySem.W.view R.prog [44]) hk hob 4000 hloose w := by
  intro os
  kernel_rfl
end JL
set_option Elab.async false
set_option linter.all false
set_option maxRecDepth 100000
set_option maxHeartbeats 0

/-! the whole chain (printed by mkhead.py) -/
namespace JL
open PySem PySem.Spec PyProof.Rows L2 JB
theorem facts {P : Program} {w : World} {K : PySem.W.Frag} {h : Heap} {mg : Str → Option Value} {f : Addr} (X : K.In h) (G : h.Ns mainGlobals mg) (hlaw : mg ("law" : Str) = some (.ref f)) (c : He.SaysD hfa hfn K) :
    ∃ fd : FuncData, (∀ (s : Shared) (v : Value), BindsTo s fd ⟨[v], []⟩ [("_law_script", v)]) ∧ ∀ base : Heap, K.In base → base.Ns mainGlobals mg → FnOk P w K mg base CX0 9 f fd ["_law_script"] (spLaw K) := by
  obtain ⟨fd_plain, F_plain⟩ := c.def_ 0 (d := hd_plain) rfl
  obtain ⟨fd_reached, F_reached⟩ := c.def_ 1 (d := hd_reached) rfl
  obtain ⟨fd_groups, F_groups⟩ := c.def_ 2 (d := hd_groups) rfl
  obtain ⟨fd_idle, F_idle⟩ := c.def_ 3 (d := hd_idle) rfl
  obtain ⟨fd_arcs, F_arcs⟩ := c.def_ 4 (d := hd_arcs) rfl
  obtain ⟨fd_steps_cost, F_steps_cost⟩ := c.def_ 5 (d := hd_steps_cost) rfl
  obtain ⟨fd_walked, F_walked⟩ := c.def_ 6 (d := hd_walked) rfl
  obtain ⟨fd_Way_init, F_Way_init⟩ := c.def_ 7 (d := hd_Way_init) rfl
  obtain ⟨fd_Way_cost, F_Way_cost⟩ := c.def_ 8 (d := hd_Way_cost) rfl
  obtain ⟨fd_Way_is_ring, F_Way_is_ring⟩ := c.def_ 9 (d := hd_Way_is_ring) rfl
  obtain ⟨fd_rings, F_rings⟩ := c.def_ 10 (d := hd_rings) rfl
  obtain ⟨fd_slack, F_slack⟩ := c.def_ 11 (d := hd_slack) rfl
  obtain ⟨fd_lowered, F_lowered⟩ := c.def_ 12 (d := hd_lowered) rfl
  obtain ⟨fd_zeros, F_zeros⟩ := c.def_ 13 (d := hd_zeros) rfl
  obtain ⟨fd_earliest, F_earliest⟩ := c.def_ 14 (d := hd_earliest) rfl
  obtain ⟨fd_ring_at, F_ring_at⟩ := c.def_ 15 (d := hd_ring_at) rfl
  obtain ⟨fd_tried, F_tried⟩ := c.def_ 16 (d := hd_tried) rfl
  obtain ⟨fd_lags_in, F_lags_in⟩ := c.def_ 17 (d := hd_lags_in) rfl
  obtain ⟨fd_lags, F_lags⟩ := c.def_ 18 (d := hd_lags) rfl
  obtain ⟨fd_never_held, F_never_held⟩ := c.def_ 19 (d := hd_never_held) rfl
  obtain ⟨fd_price_of, F_price_of⟩ := c.def_ 20 (d := hd_price_of) rfl
  obtain ⟨fd_cheapest_ring, F_cheapest_ring⟩ := c.def_ 21 (d := hd_cheapest_ring) rfl
  obtain ⟨fd_fewest_drops, F_fewest_drops⟩ := c.def_ 22 (d := hd_fewest_drops) rfl
  obtain ⟨fd__law_box, F__law_box⟩ := c.def_ 23 (d := hd__law_box) rfl
  obtain ⟨fd__law_take, F__law_take⟩ := c.def_ 24 (d := hd__law_take) rfl
  obtain ⟨fd__law_cells, F__law_cells⟩ := c.def_ 25 (d := hd__law_cells) rfl
  obtain ⟨fd__law_of, F__law_of⟩ := c.def_ 26 (d := hd__law_of) rfl
  obtain ⟨fd__law_pick, F__law_pick⟩ := c.def_ 27 (d := hd__law_pick) rfl
  obtain ⟨fd__law_same, F__law_same⟩ := c.def_ 28 (d := hd__law_same) rfl
  obtain ⟨fd__law_web, F__law_web⟩ := c.def_ 29 (d := hd__law_web) rfl
  obtain ⟨fd__law_twin_web, F__law_twin_web⟩ := c.def_ 30 (d := hd__law_twin_web) rfl
  obtain ⟨fd__law_renamed, F__law_renamed⟩ := c.def_ 31 (d := hd__law_renamed) rfl
  obtain ⟨fd__law_led, F__law_led⟩ := c.def_ 32 (d := hd__law_led) rfl
  obtain ⟨fd__law_hand_right, F__law_hand_right⟩ := c.def_ 33 (d := hd__law_hand_right) rfl
  obtain ⟨fd__law_right, F__law_right⟩ := c.def_ 34 (d := hd__law_right) rfl
  obtain ⟨fd_law, F_law⟩ := c.def_ 35 (d := hd_law) rfl
  have e := hlaw.symm.trans (He.glo_ok X G (c.fact 32 (f := .glo "law") rfl))
  cases e
  have b := FunD.bindsA (ps := ["_law_script"]) F_law fun _ _ _ _ _ _ us hl => match us, hl with | [_], _ => rfl
  have M : Free mg := ⟨He.free_ok X G (c.fact 34 (f := .free "len") rfl), He.free_ok X G (c.fact 35 (f := .free "range") rfl), He.free_ok X G (c.fact 36 (f := .free "tuple") rfl), He.free_ok X G (c.fact 37 (f := .free "list") rfl), He.free_ok X G (c.fact 38 (f := .free "dict") rfl), He.free_ok X G (c.fact 39 (f := .free "set") rfl), He.free_ok X G (c.fact 40 (f := .free "sorted") rfl), He.free_ok X G (c.fact 41 (f := .free "any") rfl), He.free_ok X G (c.fact 42 (f := .free "all") rfl), He.free_ok X G (c.fact 43 (f := .free "sum") rfl), He.free_ok X G (c.fact 44 (f := .free "min") rfl), He.free_ok X G (c.fact 45 (f := .free "max") rfl), He.free_ok X G (c.fact 46 (f := .free "abs") rfl), He.free_ok X G (c.fact 47 (f := .free "int") rfl), He.free_ok X G (c.fact 48 (f := .free "isinstance") rfl), He.free_ok X G (c.fact 49 (f := .free "enumerate") rfl), He.free_ok X G (c.fact 50 (f := .free "zip") rfl), He.free_ok X G (c.fact 51 (f := .free "bool") rfl), He.free_ok X G (c.fact 52 (f := .free "str") rfl)⟩
  have C : Cst mg := ⟨He.str_ok X G (c.fact 53 (f := .str "ALONG" "along") rfl), He.str_ok X G (c.fact 54 (f := .str "AGAINST" "against") rfl)⟩
  have wc : WayC K (He.ga K "Way") := ⟨He.cls_ok (c.fact 55 (f := .cls "Way") rfl), He.noat_ok (c.fact 56 (f := .noat "Way" "own_net") rfl), He.noat_ok (c.fact 57 (f := .noat "Way" "taken") rfl), He.noat_ok (c.fact 58 (f := .noat "Way" "stops") rfl)⟩
  refine ⟨fd_law, fun s v => b s [v] rfl, fun base _ _ => ?_⟩
  have d_reached := d_reached (P := P) (w := w) (K := K) (mg := mg) (base := base) F_reached (He.glo_ok X G (c.fact 1 (f := .glo "reached") rfl)) M
  have d_arcs := d_arcs (P := P) (w := w) (K := K) (mg := mg) (base := base) F_arcs (He.glo_ok X G (c.fact 4 (f := .glo "arcs") rfl)) M C
  have d_steps_cost := d_steps_cost (P := P) (w := w) (K := K) (mg := mg) (base := base) F_steps_cost (He.glo_ok X G (c.fact 5 (f := .glo "steps_cost") rfl)) M C
  have d_price_of := d_price_of (P := P) (w := w) (K := K) (mg := mg) (base := base) F_price_of (He.glo_ok X G (c.fact 17 (f := .glo "price_of") rfl)) M C
  have d_groups := d_groups (P := P) (w := w) (K := K) (mg := mg) (base := base) F_groups (He.glo_ok X G (c.fact 2 (f := .glo "groups") rfl)) M d_reached
  have d_idle := d_idle (P := P) (w := w) (K := K) (mg := mg) (base := base) F_idle (He.glo_ok X G (c.fact 3 (f := .glo "idle") rfl)) M d_reached
  have d_rings := d_rings (P := P) (w := w) (K := K) (mg := mg) (base := base) F_rings (He.glo_ok X G (c.fact 7 (f := .glo "rings") rfl)) M C
  have d_slack := d_slack (P := P) (w := w) (K := K) (mg := mg) (base := base) F_slack (He.glo_ok X G (c.fact 8 (f := .glo "slack") rfl)) M d_rings d_steps_cost
  have d_cheapest_ring := d_cheapest_ring (P := P) (w := w) (K := K) (mg := mg) (base := base) F_cheapest_ring (He.glo_ok X G (c.fact 18 (f := .glo "cheapest_ring") rfl)) M d_rings d_steps_cost d_price_of
  have d_fewest_drops := d_fewest_drops (P := P) (w := w) (K := K) (mg := mg) (base := base) F_fewest_drops (He.glo_ok X G (c.fact 19 (f := .glo "fewest_drops") rfl)) M d_cheapest_ring d_price_of
  have d_lowered := d_lowered (P := P) (w := w) (K := K) (mg := mg) (base := base) F_lowered (He.glo_ok X G (c.fact 9 (f := .glo "lowered") rfl)) M d_arcs
  have d_zeros := d_zeros (P := P) (w := w) (K := K) (mg := mg) (base := base) F_zeros (He.glo_ok X G (c.fact 10 (f := .glo "zeros") rfl)) M d_arcs d_lowered
  have d_earliest := d_earliest (P := P) (w := w) (K := K) (mg := mg) (base := base) F_earliest (He.glo_ok X G (c.fact 11 (f := .glo "earliest") rfl)) M d_zeros d_lowered
  have d_ring_at := d_ring_at (P := P) (w := w) (K := K) (mg := mg) (base := base) F_ring_at (He.glo_ok X G (c.fact 12 (f := .glo "ring_at") rfl)) M
  have d_tried := d_tried (P := P) (w := w) (K := K) (mg := mg) (base := base) F_tried (He.glo_ok X G (c.fact 13 (f := .glo "tried") rfl)) M d_arcs d_ring_at
  have d_lags_in := d_lags_in (P := P) (w := w) (K := K) (mg := mg) (base := base) F_lags_in (He.glo_ok X G (c.fact 14 (f := .glo "lags_in") rfl)) M d_tried
  have d_lags := d_lags (P := P) (w := w) (K := K) (mg := mg) (base := base) F_lags (He.glo_ok X G (c.fact 15 (f := .glo "lags") rfl)) M d_lags_in
  have d_never_held := d_never_held (P := P) (w := w) (K := K) (mg := mg) (base := base) F_never_held (He.glo_ok X G (c.fact 16 (f := .glo "never_held") rfl)) M d_lags
  have d_plain := d_plain (P := P) (w := w) (K := K) (mg := mg) (base := base) F_plain (He.glo_ok X G (c.fact 0 (f := .glo "plain") rfl)) M 3
  have d_walked := d_walked (P := P) (w := w) (K := K) (mg := mg) (base := base) F_walked (He.glo_ok X G (c.fact 6 (f := .glo "walked") rfl)) M C
  have d__law_box := d_law_box (P := P) (w := w) (K := K) (mg := mg) (base := base) F__law_box (He.glo_ok X G (c.fact 20 (f := .glo "_law_box") rfl)) M
  have d__law_take := d_law_take (P := P) (w := w) (K := K) (mg := mg) (base := base) F__law_take (He.glo_ok X G (c.fact 21 (f := .glo "_law_take") rfl)) M
  have d__law_of := d_law_of (P := P) (w := w) (K := K) (mg := mg) (base := base) F__law_of (He.glo_ok X G (c.fact 23 (f := .glo "_law_of") rfl)) M d__law_take
  have d__law_pick := d_law_pick (P := P) (w := w) (K := K) (mg := mg) (base := base) F__law_pick (He.glo_ok X G (c.fact 24 (f := .glo "_law_pick") rfl)) M d__law_take
  have d__law_cells := d_law_cells (P := P) (w := w) (K := K) (mg := mg) (base := base) F__law_cells (He.glo_ok X G (c.fact 22 (f := .glo "_law_cells") rfl)) M
  have d__law_same := d_same (P := P) (w := w) (K := K) (mg := mg) (base := base) F__law_same (He.glo_ok X G (c.fact 25 (f := .glo "_law_same") rfl)) M 3
  have d__law_web := d_law_web (P := P) (w := w) (K := K) (mg := mg) (base := base) F__law_web (He.glo_ok X G (c.fact 26 (f := .glo "_law_web") rfl)) M d__law_take d__law_pick
  have d__law_twin_web := d_law_twin_web (P := P) (w := w) (K := K) (mg := mg) (base := base) F__law_twin_web (He.glo_ok X G (c.fact 27 (f := .glo "_law_twin_web") rfl)) M d__law_take
  have d__law_renamed := d_law_renamed (P := P) (w := w) (K := K) (mg := mg) (base := base) F__law_renamed (He.glo_ok X G (c.fact 28 (f := .glo "_law_renamed") rfl)) M d__law_pick
  have d__law_led := d_law_led (P := P) (w := w) (K := K) (mg := mg) (base := base) F__law_led (He.glo_ok X G (c.fact 29 (f := .glo "_law_led") rfl)) M d__law_take d__law_of
  have d__law_hand_right := d_law_hand_right (P := P) (w := w) (K := K) (mg := mg) (base := base) F__law_hand_right (He.glo_ok X G (c.fact 30 (f := .glo "_law_hand_right") rfl)) M d_groups d_idle d_slack d_rings d_never_held d__law_same
  have k_init := d_way_init (P := P) (w := w) (mg := mg) (base := base) F_Way_init wc d_plain d_walked
  have k_cost := d_way_cost (P := P) (w := w) (mg := mg) (base := base) F_Way_cost wc d_steps_cost
  have k_is_ring := d_way_is_ring (P := P) (w := w) (mg := mg) (base := base) F_Way_is_ring wc M
  have Wd : WayD P w K mg base := ⟨He.glo_ok X G (c.fact 33 (f := .glo "Way") rfl), wc, He.mkr_ok (c.fact 59 (f := .mkr "Way") rfl), k_init, bd_Way_init F_Way_init, He.meth_ok (c.fact 60 (f := .meth "Way" "cost") rfl), k_cost, bd_Way_cost F_Way_cost, He.meth_ok (c.fact 61 (f := .meth "Way" "is_ring") rfl), k_is_ring, bd_Way_is_ring F_Way_is_ring⟩
  have d__law_right := d_law_right (P := P) (w := w) (K := K) (mg := mg) (base := base) F__law_right (He.glo_ok X G (c.fact 31 (f := .glo "_law_right") rfl)) M Wd d__law_hand_right d_groups d_idle d_slack d_rings d_never_held d_fewest_drops d_earliest d__law_take d__law_web d__law_twin_web d__law_renamed d__law_led d__law_same
  exact ok_law F_law M d__law_cells d__law_box d__law_right
end JL
open PySem PySem.W PySem.Calls PyProof.Rows
theorem PySem.Challenge.cw_joinlags_k11_whole_other_names_holds : PySem.Challenge.rw_joinlags_k11_whole_other_names.Holds := by
  w_on; o_law
  refine HandSHeadRun.head_any (r := OpenLaw.row PySem.Challenge.rw_joinlags_k11_whole_other_names) (q := view (OpenLaw.row PySem.Challenge.rw_joinlags_k11_whole_other_names).prog [44]) (H := JL.hk) (ob := JL.hob) (M := 4000) (loose := JL.hloose) (d := HandSHeadRun.topDef (OpenLaw.row PySem.Challenge.rw_joinlags_k11_whole_other_names).prog 44) (kwd := []) JL.hob_eq
    (by kernel_rfl) (fun s => by kernel_rfl) JL.run (by kernel_rfl) (by kernel_rfl) (by kernel_rfl) (by rfl) (by first | assumption | decide +kernel) (by decide +kernel) ⟨rfl, rfl, rfl, rfl, rfl, by decide +kernel⟩ ?hw ?hc
  case hw => w_witness2
  case hc =>
    refine L2.walk_ofE (l := PySem.Challenge.rw_joinlags_k11_whole_other_names) (n := 63) (k := 9) (x := "_law_script") (CX := L2.CX0) rfl (by decide) (by kernel_rfl) ⟨rfl, by decide, by decide⟩ ?F (fun _ _ _ _ z => z)
    intro w mg fa h Y G hmg0
    obtain ⟨K, KX, c⟩ := Y
    have hmg : mg ("law" : PySem.Str) = some (.ref fa) := by
      have e : (HandSHeadRun.topDef (OpenLaw.row PySem.Challenge.rw_joinlags_k11_whole_other_names).prog 44).name = ("law" : PySem.Str) := by kernel_rfl
      rw [← e]
      exact hmg0
    obtain ⟨fd, hb, hF⟩ := JL.facts (P := (PySem.Challenge.rw_joinlags_k11_whole_other_names).prog) (w := w) KX G hmg c
    exact ⟨K, fd, JL.spLaw K, KX, hb, fun H a ns hl _ hS => ⟨a, ns, rfl, hS, fun _ => rfl⟩, hF⟩
