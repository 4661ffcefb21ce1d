import PyProof.Rows.All
import Wide.All
import OpenK.AllK
import Wide.FinOn
import HandS.ForMost
import HandS.Evl
import HandS.Star
import HandS.Zip
import HandS.TupAny
import HandS.Style
import HandS.IsInst
import HandS.SortInts
import HandS.SortRule
import HandS.Conv
import HandS.Deep
import HandS.Walk
import HandS.Codes
import HandS.SetFor
import HandS.MakeKwOnly
import KE.DataMinMax
import KE.GoesMore
import KE.GoesEnum
import KE.KDictZip
import PyProof.ReprRoads
import PyProof.P3In
import PySem.Challenge.RW_givesifgets_k27_whole_every_beginning
set_option Elab.async false
set_option linter.all false
set_option maxRecDepth 100000
set_option maxHeartbeats 8000000
/-! Plain mathematics: alternating ways, the search's state and its blossoms. -/
namespace Gv

def flat (L : List (Nat × Nat)) : List Nat := L.flatMap fun p => [p.1, p.2]
theorem flat_nil : flat [] = [] := rfl
theorem flat_cons (p : Nat × Nat) (L : List (Nat × Nat)) : flat (p :: L) = p.1 :: p.2 :: flat L := rfl
theorem flat_app (L M : List (Nat × Nat)) : flat (L ++ M) = flat L ++ flat M := by
  unfold flat; rw [List.flatMap_append]
theorem mem_flat {L : List (Nat × Nat)} {x : Nat} : x ∈ flat L ↔ ∃ p ∈ L, x = p.1 ∨ x = p.2 := by
  unfold flat
  rw [List.mem_flatMap]
  constructor
  · rintro ⟨p, hp, hx⟩
    refine ⟨p, hp, ?_⟩
    simpa using hx
  · rintro ⟨p, hp, hx⟩
    exact ⟨p, hp, by simpa using hx⟩
theorem mem_flat1 {L : List (Nat × Nat)} {p : Nat × Nat} (h : p ∈ L) : p.1 ∈ flat L := mem_flat.mpr ⟨p, h, .inl rfl⟩
theorem mem_flat2 {L : List (Nat × Nat)} {p : Nat × Nat} (h : p ∈ L) : p.2 ∈ flat L := mem_flat.mpr ⟨p, h, .inr rfl⟩

/-- v, its mate, that one's back, .. to t -/
inductive Alt (mate back : Nat → Option Nat) : Nat → List (Nat × Nat) → Nat → Prop
  | nil (v : Nat) : Alt mate back v [] v
  | step {v w u t : Nat} {L : List (Nat × Nat)} : mate v = some w → back w = some u → Alt mate back u L t → Alt mate back v ((v, w) :: L) t

section
variable {mate back back' : Nat → Option Nat} {v w u t x : Nat} {L M : List (Nat × Nat)}
theorem Alt.app (h : Alt mate back v L x) (k : Alt mate back x M t) : Alt mate back v (L ++ M) t := by
  induction h with
  | nil _ => exact k
  | step a b _ ih => exact .step a b (ih k)
theorem Alt.mates (h : Alt mate back v L t) : ∀ p ∈ L, mate p.1 = some p.2 := by
  induction h with
  | nil _ => intro p hp; cases hp
  | step a b _ ih =>
    intro p hp
    rcases List.mem_cons.mp hp with rfl | hp
    · exact a
    · exact ih p hp
theorem Alt.backs (h : Alt mate back v L t) : ∀ p ∈ L, ∃ u, back p.2 = some u := by
  induction h with
  | nil _ => intro p hp; cases hp
  | step a b _ ih =>
    intro p hp
    rcases List.mem_cons.mp hp with rfl | hp
    · exact ⟨_, b⟩
    · exact ih p hp
theorem Alt.congr (h : Alt mate back v L t) (e : ∀ p ∈ L, back' p.2 = back p.2) : Alt mate back' v L t := by
  induction h with
  | nil _ => exact .nil _
  | step a b _ ih => exact .step a ((e _ List.mem_cons_self).trans b) (ih fun p hp => e p (List.mem_cons_of_mem _ hp))
theorem Alt.head (h : Alt mate back v L t) : v ∈ flat L ++ [t] := by
  cases h with
  | nil _ => simp [flat_nil]
  | step a b _ => simp [flat_cons]
theorem Alt.split {La Lb : List (Nat × Nat)} {p : Nat × Nat} : ∀ {v}, Alt mate back v (La ++ p :: Lb) t → Alt mate back v La p.1 ∧ Alt mate back p.1 (p :: Lb) t := by
  induction La with
  | nil =>
    intro v h
    cases h with
    | step a b c => exact ⟨.nil _, .step a b c⟩
  | cons q La ih =>
    intro v h
    cases h with
    | step a b c =>
      obtain ⟨h1, h2⟩ := ih c
      exact ⟨.step a b h1, h2⟩
theorem Alt.nil_inv (h : Alt mate back v [] t) : v = t := by cases h; rfl
end

/-- how the backs are set along one side of a ring -/
def upd (f : Nat → Option Nat) (a : Nat) (b : Option Nat) : Nat → Option Nat := fun x => if x = a then b else f x
theorem upd_same {f : Nat → Option Nat} {a : Nat} {b : Option Nat} : upd f a b a = b := by unfold upd; rw [if_pos rfl]
theorem upd_ne {f : Nat → Option Nat} {a x : Nat} {b : Option Nat} (h : x ≠ a) : upd f a b x = f x := by unfold upd; rw [if_neg h]
def setBack (back : Nat → Option Nat) (behind : Nat) : List (Nat × Nat) → (Nat → Option Nat)
  | [] => back
  | (v, w) :: L => setBack (upd back v (some behind)) w L
/-- the backs lead back along the side -/
def Ret (back : Nat → Option Nat) (behind : Nat) : List (Nat × Nat) → Prop
  | [] => True
  | (v, w) :: L => back v = some behind ∧ Ret back w L

theorem setBack_off : ∀ {L : List (Nat × Nat)} {back : Nat → Option Nat} {behind x : Nat}, (∀ p ∈ L, x ≠ p.1) → setBack back behind L x = back x
  | [], _, _, _, _ => rfl
  | (v, w) :: L, back, behind, x, h => by
    show setBack (upd back v (some behind)) w L x = back x
    rw [setBack_off fun p hp => h p (List.mem_cons_of_mem _ hp)]
    exact upd_ne (h _ List.mem_cons_self)
theorem Ret.congr : ∀ {L : List (Nat × Nat)} {back back' : Nat → Option Nat} {behind : Nat}, Ret back behind L → (∀ p ∈ L, back' p.1 = back p.1) → Ret back' behind L
  | [], _, _, _, _, _ => trivial
  | (v, w) :: L, back, back', behind, h, e => ⟨(e _ List.mem_cons_self).trans h.1, Ret.congr h.2 fun p hp => e p (List.mem_cons_of_mem _ hp)⟩
theorem setBack_ret : ∀ {L : List (Nat × Nat)} {back : Nat → Option Nat} {behind : Nat}, (L.map (·.1)).Nodup → Ret (setBack back behind L) behind L
  | [], _, _, _ => trivial
  | (v, w) :: L, back, behind, h => by
    have hn : (v :: L.map (·.1)).Nodup := h
    rw [List.nodup_cons] at hn
    refine ⟨?_, setBack_ret hn.2⟩
    show setBack (upd back v (some behind)) w L v = some behind
    rw [setBack_off fun p hp e => hn.1 (by rw [e]; exact List.mem_map_of_mem hp)]
    exact upd_same
theorem setBack_some : ∀ {L : List (Nat × Nat)} {back : Nat → Option Nat} {behind x : Nat}, back x ≠ none → setBack back behind L x ≠ none
  | [], _, _, _, h => h
  | (v, w) :: L, back, behind, x, h => by
    show setBack (upd back v (some behind)) w L x ≠ none
    refine setBack_some ?_
    unfold upd
    split
    · exact fun q => nomatch q
    · exact h
/-- what a side's backs are made of -/
theorem setBack_cases : ∀ {L : List (Nat × Nat)} {back : Nat → Option Nat} {behind x y : Nat}, setBack back behind L x = some y →
    back x = some y ∨ (∃ q L', L = (x, q) :: L' ∧ y = behind) ∨ (∃ La a b Lb q, L = La ++ (a, b) :: (x, q) :: Lb ∧ y = b)
  | [], _, _, _, _, h => .inl h
  | (v, w) :: L, back, behind, x, y, h => by
    have h' : setBack (upd back v (some behind)) w L x = some y := h
    rcases setBack_cases h' with h1 | ⟨q, L', e, e2⟩ | ⟨La, a, b, Lb, q, e, e2⟩
    · by_cases hx : x = v
      · subst hx
        rw [upd_same] at h1
        exact .inr (.inl ⟨w, L, rfl, (Option.some.inj h1).symm⟩)
      · rw [upd_ne hx] at h1
        exact .inl h1
    · subst e
      exact .inr (.inr ⟨[], v, w, L', q, rfl, e2⟩)
    · subst e
      exact .inr (.inr ⟨(v, w) :: La, a, b, Lb, q, rfl, e2⟩)

/-- the way back from a second one of a side -/
theorem Ret.alt {mate : Nat → Option Nat} : ∀ {L : List (Nat × Nat)} {back : Nat → Option Nat} {behind : Nat}, Ret back behind L → (∀ p ∈ L, mate p.2 = some p.1) → (flat L).Nodup → ∀ p ∈ L,
    ∃ R, Alt mate back p.2 R behind ∧ (∀ x ∈ flat R, x ∈ flat L) ∧ (flat R).Nodup
  | [], _, _, _, _, _, p, hp => nomatch hp
  | (v, w) :: L, back, behind, h, hm, hn, p, hp => by
    rw [flat_cons, List.nodup_cons, List.nodup_cons] at hn
    have hvw : v ≠ w := fun e => hn.1 (by rw [e]; exact List.mem_cons_self)
    have base : Alt mate back w [(w, v)] behind := .step (hm _ List.mem_cons_self) h.1 (.nil _)
    rcases List.mem_cons.mp hp with rfl | hp
    · refine ⟨[(w, v)], base, fun x hx => ?_, ?_⟩
      · rw [flat_cons, flat_nil] at hx
        rw [flat_cons]
        simp at hx ⊢
        rcases hx with rfl | rfl
        · exact .inr (.inl rfl)
        · exact .inl rfl
      · simp [flat_cons, flat_nil, Ne.symm hvw]
    · obtain ⟨R, a, s, n⟩ := Ret.alt h.2 (fun q hq => hm q (List.mem_cons_of_mem _ hq)) hn.2.2 p hp
      refine ⟨R ++ [(w, v)], a.app base, fun x hx => ?_, ?_⟩
      · rw [flat_app, List.mem_append] at hx
        rw [flat_cons]
        rcases hx with hx | hx
        · exact List.mem_cons_of_mem _ (List.mem_cons_of_mem _ (s x hx))
        · simp [flat_cons, flat_nil] at hx
          rcases hx with rfl | rfl
          · exact List.mem_cons_of_mem _ List.mem_cons_self
          · exact List.mem_cons_self
      · rw [flat_app, List.nodup_append]
        refine ⟨n, by simp [flat_cons, flat_nil, Ne.symm hvw], fun x hx y hy e => ?_⟩
        subst e
        have hx' := s x hx
        simp [flat_cons, flat_nil] at hy
        rcases hy with rfl | rfl
        · exact hn.2.1 hx'
        · exact hn.1 (List.mem_cons_of_mem _ hx')

/-! ### the search's state -/
structure SS where
  back : Nat → Option Nat
  base : Nat → Nat
  even : Nat → Bool

structure SI (n : Nat) (adj : Nat → Nat → Prop) (mate : Nat → Option Nat) (root : Nat) (rk : Nat → Nat) (s : SS) : Prop where
  root_even : s.even root = true
  root_base : s.base root = root
  odd_base : ∀ v, s.even v = false → s.base v = v
  ev_even : ∀ v, s.even v = true → s.even (s.base v) = true
  ev_base : ∀ v, s.base (s.base v) = s.base v
  inner : ∀ v, s.even v = true → s.base v ≠ v → ∃ w, mate v = some w ∧ s.even w = true ∧ s.base w = s.base v
  stem : ∀ b, s.even b = true → s.base b = b → b ≠ root → ∃ x y, mate b = some x ∧ s.even x = false ∧ s.back x = some y ∧ s.even y = true ∧ rk (s.base y) < rk b
  cw : ∀ v, s.even v = true → ∃ Q, Alt mate s.back v Q (s.base v) ∧ (flat Q ++ [s.base v]).Nodup ∧ ∀ x ∈ flat Q, s.base x = s.base v
  edge : ∀ w u, s.back w = some u → adj w u ∧ mate w ≠ some u
  lab : ∀ x y, s.even x = false → s.back x = some y → ∃ b, mate x = some b ∧ s.even b = true ∧ s.base b = b
  ev_lt : ∀ v, s.even v = true → v < n

/-- what is known of a graph and a matching of it -/
structure Mt (n : Nat) (adj : Nat → Nat → Prop) (f : Nat → Option Nat) : Prop where
  sym : ∀ u v, f u = some v → f v = some u
  adj : ∀ u v, f u = some v → adj u v
structure Gr (n : Nat) (adj : Nat → Nat → Prop) : Prop where
  sym : ∀ u v, adj u v → adj v u
  irr : ∀ u, ¬ adj u u
  lt : ∀ u v, adj u v → u < n
theorem Mt.inj {n : Nat} {adj : Nat → Nat → Prop} {f : Nat → Option Nat} (m : Mt n adj f) {u v w : Nat} (h : f u = some w) (h' : f v = some w) : u = v := by
  have a := m.sym _ _ h
  have b := m.sym _ _ h'
  rw [a] at b
  exact Option.some.inj b

section
variable {n : Nat} {adj : Nat → Nat → Prop} {mate : Nat → Option Nat} {root : Nat} {rk : Nat → Nat} {s : SS}

/-- from an even one up to the class of top; the bases of the classes below it -/
inductive Climb (mate : Nat → Option Nat) (rk : Nat → Nat) (s : SS) (top : Nat) : Nat → List (Nat × Nat) → Nat → List Nat → Prop
  | here {v : Nat} : s.even v = true → s.base v = top → Climb mate rk s top v [] v []
  | up {v x y e : Nat} {Q L : List (Nat × Nat)} {bs : List Nat} : s.even v = true → s.base v ≠ top → Alt mate s.back v Q (s.base v) → (flat Q ++ [s.base v]).Nodup → (∀ z ∈ flat Q, s.base z = s.base v) →
      mate (s.base v) = some x → s.even x = false → s.back x = some y → rk (s.base y) < rk (s.base v) → Climb mate rk s top y L e bs → Climb mate rk s top v (Q ++ (s.base v, x) :: L) e (s.base v :: bs)

theorem Climb.alt {top v e : Nat} {L : List (Nat × Nat)} {bs : List Nat} (h : Climb mate rk s top v L e bs) : Alt mate s.back v L e := by
  induction h with
  | here _ _ => exact .nil _
  | up _ _ a _ _ m _ b _ _ ih => exact a.app (.step m b ih)
theorem Climb.top {top v e : Nat} {L : List (Nat × Nat)} {bs : List Nat} (h : Climb mate rk s top v L e bs) : s.base e = top ∧ s.even e = true := by
  induction h with
  | here h1 h2 => exact ⟨h2, h1⟩
  | up _ _ _ _ _ _ _ _ _ _ ih => exact ih
theorem Climb.ev {top v e : Nat} {L : List (Nat × Nat)} {bs : List Nat} (h : Climb mate rk s top v L e bs) : s.even v = true := by
  cases h with
  | here h1 h2 => exact h1
  | up h1 _ _ _ _ _ _ _ _ _ => exact h1
theorem Climb.rk_le {top v e : Nat} {L : List (Nat × Nat)} {bs : List Nat} (h : Climb mate rk s top v L e bs) : rk top ≤ rk (s.base v) := by
  induction h with
  | here _ h2 => rw [h2]; exact Nat.le_refl _
  | up _ _ _ _ _ _ _ _ r _ ih => omega
theorem Climb.bs_ok (I : SI n adj mate root rk s) {top v e : Nat} {L : List (Nat × Nat)} {bs : List Nat} (h : Climb mate rk s top v L e bs) :
    ∀ b ∈ bs, s.even b = true ∧ s.base b = b ∧ rk top < rk b ∧ rk b ≤ rk (s.base v) ∧ b ≠ top ∧ (∃ x, (b, x) ∈ L ∧ s.even x = false) := by
  induction h with
  | here _ _ => intro b hb; cases hb
  | @up v x y e Q L bs h1 h2 a nd hb m ox k r c ih =>
    intro b hb
    have hr := c.rk_le
    rcases List.mem_cons.mp hb with rfl | hb
    · exact ⟨I.ev_even _ h1, I.ev_base _, by omega, Nat.le_refl _, h2, x, List.mem_append_right _ List.mem_cons_self, ox⟩
    · obtain ⟨q1, q2, q3, q4, q5, z, q6, q7⟩ := ih b hb
      exact ⟨q1, q2, q3, by omega, q5, z, List.mem_append_right _ (List.mem_cons_of_mem _ q6), q7⟩
theorem Climb.mem (I : SI n adj mate root rk s) {top v e : Nat} {L : List (Nat × Nat)} {bs : List Nat} (h : Climb mate rk s top v L e bs) :
    ∀ z ∈ flat L, s.base z ∈ bs ∨ (s.even z = false ∧ ∃ b ∈ bs, mate b = some z) := by
  induction h with
  | here _ _ => intro z hz; cases hz
  | @up v x y e Q L bs h1 h2 a nd hb m ox k r c ih =>
    intro z hz
    rw [flat_app, flat_cons, List.mem_append] at hz
    rcases hz with hz | hz
    · exact .inl (by rw [hb z hz]; exact List.mem_cons_self)
    · rcases List.mem_cons.mp hz with rfl | hz
      · exact .inl (by rw [I.ev_base]; exact List.mem_cons_self)
      · rcases List.mem_cons.mp hz with rfl | hz
        · exact .inr ⟨ox, _, List.mem_cons_self, m⟩
        · rcases ih z hz with q | ⟨q, b, q2, q3⟩
          · exact .inl (List.mem_cons_of_mem _ q)
          · exact .inr ⟨q, b, List.mem_cons_of_mem _ q2, q3⟩
/-- an element's kind: even ones have their base among bs -/
theorem Climb.ev_mem (I : SI n adj mate root rk s) {top v e : Nat} {L : List (Nat × Nat)} {bs : List Nat} (h : Climb mate rk s top v L e bs) {z : Nat} (hz : z ∈ flat L) (he : s.even z = true) : s.base z ∈ bs := by
  rcases h.mem I z hz with q | ⟨q, _⟩
  · exact q
  · rw [he] at q; cases q
theorem Climb.odd_mem (I : SI n adj mate root rk s) {top v e : Nat} {L : List (Nat × Nat)} {bs : List Nat} (h : Climb mate rk s top v L e bs) {z : Nat} (hz : z ∈ flat L) (ho : s.even z = false) : ∃ b ∈ bs, mate b = some z := by
  rcases h.mem I z hz with q | ⟨_, q⟩
  · have e1 := (h.bs_ok I _ q).1
    rw [I.odd_base z ho, ho] at e1
    cases e1
  · exact q
theorem Climb.nodup (M : Mt n adj mate) (I : SI n adj mate root rk s) {top v e : Nat} {L : List (Nat × Nat)} {bs : List Nat} (h : Climb mate rk s top v L e bs) : (flat L).Nodup := by
  induction h with
  | here _ _ => exact List.nodup_nil
  | @up v x y e Q L bs h1 h2 a nd hb m ox k r c ih =>
    have evb := I.ev_even _ h1
    have low : ∀ b ∈ bs, b ≠ s.base v := fun b q e => by
      have := (c.bs_ok I b q).2.2.2.1
      rw [e] at this
      omega
    have xL : x ∉ flat L := fun hx => by
      obtain ⟨b, q1, q2⟩ := c.odd_mem I hx ox
      exact low b q1 (M.inj q2 m)
    have bx : s.base v ≠ x := fun e => by rw [e, ox] at evb; cases evb
    have cls : ∀ z, s.base z = s.base v → s.even z = true → z ∉ flat L := fun z e1 e2 hz => low _ (c.ev_mem I hz e2) e1
    have nd2 := List.nodup_append.mp nd
    have qev : ∀ z ∈ flat Q, s.even z = true := fun z hz => by
      cases q : s.even z with
      | true => rfl
      | false =>
        have e1 := I.odd_base z q
        rw [hb z hz] at e1
        rw [e1, q] at evb
        cases evb
    rw [flat_app, flat_cons, List.nodup_append]
    refine ⟨nd2.1, ?_, fun z hz u hu e => ?_⟩
    · rw [List.nodup_cons, List.nodup_cons]
      refine ⟨fun q => ?_, xL, ih⟩
      rcases List.mem_cons.mp q with q | q
      · exact bx q
      · exact cls _ (I.ev_base _) evb q
    · subst e
      rcases List.mem_cons.mp hu with q | q
      · exact nd2.2.2 z hz (s.base v) (List.mem_singleton.mpr rfl) q
      · rcases List.mem_cons.mp q with q | q
        · have := qev z hz
          rw [q, ox] at this
          cases this
        · exact cls z (hb z hz) (qev z hz) q
/-- parents of classes -/
def Par (mate : Nat → Option Nat) (s : SS) (b c : Nat) : Prop := ∃ x y, mate b = some x ∧ s.back x = some y ∧ s.base y = c
inductive Ch (P : Nat → Nat → Prop) : Nat → List Nat → Nat → Prop
  | nil (b : Nat) : Ch P b [] b
  | cons {b c t : Nat} {bs : List Nat} : P b c → Ch P c bs t → Ch P b (b :: bs) t
theorem Ch.snoc {P : Nat → Nat → Prop} {b c t : Nat} {bs : List Nat} (h : Ch P b bs c) (p : P c t) : Ch P b (bs ++ [c]) t := by
  induction h with
  | nil _ => exact .cons p (.nil _)
  | cons q _ ih => exact .cons q (ih p)
theorem Ch.cut {P : Nat → Nat → Prop} {b t : Nat} {bs : List Nat} (h : Ch P b bs t) : ∀ c ∈ bs ++ [t], ∃ bs', Ch P b bs' c ∧ ∀ z ∈ bs', z ∈ bs ++ [t] := by
  induction h with
  | nil b =>
    intro c hc
    have e : c = b := by simpa using hc
    subst e
    exact ⟨[], .nil _, fun z hz => nomatch hz⟩
  | @cons b c' t bs p k ih =>
    intro c hc
    rcases List.mem_cons.mp hc with e | hc
    · subst e
      exact ⟨[], .nil _, fun z hz => nomatch hz⟩
    · obtain ⟨bs', q1, q2⟩ := ih c hc
      refine ⟨b :: bs', .cons p q1, fun z hz => ?_⟩
      rcases List.mem_cons.mp hz with e | hz
      · rw [e]; exact List.mem_cons_self
      · exact List.mem_cons_of_mem _ (q2 z hz)
theorem par_of (I : SI n adj mate root rk s) {b : Nat} (h1 : s.even b = true) (h2 : s.base b = b) (h3 : b ≠ root) : ∃ c, Par mate s b c ∧ s.even c = true ∧ s.base c = c ∧ rk c < rk b := by
  obtain ⟨x, y, m, _, k, e, r⟩ := I.stem b h1 h2 h3
  exact ⟨s.base y, ⟨x, y, m, k, rfl⟩, I.ev_even _ e, I.ev_base _, r⟩
theorem climb_of (I : SI n adj mate root rk s) {top : Nat} (M0 : mate root = none) {bs : List Nat} : ∀ {v : Nat}, s.even v = true → Ch (Par mate s) (s.base v) bs top → top ∉ bs → ∃ L e, Climb mate rk s top v L e bs := by
  induction bs with
  | nil =>
    intro v h1 h2 _
    generalize hb : s.base v = b at h2
    cases h2
    exact ⟨[], v, .here h1 hb⟩
  | cons b bs ih =>
    intro v h1 h2 h3
    generalize hb : s.base v = b' at h2
    cases h2 with
    | @cons _ c _ _ p k =>
      subst hb
      obtain ⟨x, y, m, bk, e⟩ := p
      have ne : s.base v ≠ root := fun q => by rw [q, M0] at m; cases m
      obtain ⟨x', y', m', ox, bk', ey, r⟩ := I.stem _ (I.ev_even _ h1) (I.ev_base _) ne
      rw [m] at m'
      cases m'
      rw [bk] at bk'
      cases bk'
      rw [← e] at k
      obtain ⟨L, e', c⟩ := ih ey k fun q => h3 (List.mem_cons_of_mem _ q)
      obtain ⟨Q, q1, q2, q3⟩ := I.cw v h1
      exact ⟨_, _, .up h1 (fun q => h3 (by rw [q]; exact List.mem_cons_self)) q1 q2 q3 m ox bk r c⟩
theorem chain_root (I : SI n adj mate root rk s) : ∀ (k : Nat) {b : Nat}, rk b < k → s.even b = true → s.base b = b → ∃ bs, Ch (Par mate s) b bs root ∧ root ∉ bs := by
  intro k
  induction k with
  | zero => intro b h; omega
  | succ k ih =>
    intro b h h1 h2
    by_cases h3 : b = root
    · subst h3
      exact ⟨[], .nil _, fun q => nomatch q⟩
    · obtain ⟨c, p, q1, q2, q3⟩ := par_of I h1 h2 h3
      obtain ⟨bs, c1, c2⟩ := ih (by omega) q1 q2
      refine ⟨b :: bs, .cons p c1, fun q => ?_⟩
      rcases List.mem_cons.mp q with q | q
      · exact h3 q.symm
      · exact c2 q
/-- the whole way of an even one -/
theorem full_way (M : Mt n adj mate) (M0 : mate root = none) (I : SI n adj mate root rk s) {v : Nat} (h : s.even v = true) : ∃ L, Alt mate s.back v L root ∧ (flat L ++ [root]).Nodup := by
  obtain ⟨bs, c1, c2⟩ := chain_root I _ (Nat.lt_succ_self _) (I.ev_even _ h) (I.ev_base _)
  obtain ⟨L, e, c⟩ := climb_of I M0 h c1 c2
  obtain ⟨Q, q1, q2, q3⟩ := I.cw e c.top.2
  rw [c.top.1] at q1 q2 q3
  refine ⟨L ++ Q, c.alt.app q1, ?_⟩
  rw [flat_app, List.append_assoc, List.nodup_append]
  refine ⟨c.nodup M I, q2, fun z hz u hu e => ?_⟩
  subst e
  have hb : s.base z = root := by
    rcases List.mem_append.mp hu with q | q
    · exact q3 z q
    · have e : z = root := by simpa using q
      rw [e]; exact I.root_base
  have hev : s.even z = true := by
    cases q : s.even z with
    | true => rfl
    | false =>
      have := I.odd_base z q
      rw [hb] at this
      rw [← this, I.root_even] at q
      cases q
  exact c2 (hb ▸ c.ev_mem I hz hev)
end
end Gv
/-! Plain mathematics: a new label, a ring put together, the search's beginning. -/
namespace Gv
section
variable {n : Nat} {adj : Nat → Nat → Prop} {mate : Nat → Option Nat} {root : Nat} {rk : Nat → Nat} {s : SS}

theorem base_even (I : SI n adj mate root rk s) {v b : Nat} (h : s.base v = b) (hb : s.even b = true) : s.even v = true := by
  cases q : s.even v with
  | true => rfl
  | false =>
    have := I.odd_base v q
    rw [h] at this
    rw [this, q] at hb
    cases hb
/-- the members of one side -/
structure Side (mate : Nat → Option Nat) (s : SS) (top : Nat) (v : Nat) (L : List (Nat × Nat)) (e : Nat) (bs : List Nat) : Prop where
  alt : Alt mate s.back v L e
  base_e : s.base e = top
  even_e : s.even e = true
  ev : s.even v = true
  nd : (flat L).Nodup
  bsok : ∀ b ∈ bs, s.even b = true ∧ s.base b = b ∧ b ≠ top ∧ ∃ x, (b, x) ∈ L ∧ s.even x = false
  kind : ∀ z ∈ flat L, (s.even z = true ∧ s.base z ∈ bs) ∨ (s.even z = false ∧ ∃ b ∈ bs, mate b = some z)
theorem Climb.side (M : Mt n adj mate) (I : SI n adj mate root rk s) {top v e : Nat} {L : List (Nat × Nat)} {bs : List Nat} (h : Climb mate rk s top v L e bs) : Side mate s top v L e bs := by
  refine ⟨h.alt, h.top.1, h.top.2, h.ev, h.nodup M I, fun b hb => ?_, fun z hz => ?_⟩
  · obtain ⟨a, b, _, _, c, d⟩ := h.bs_ok I b hb
    exact ⟨a, b, c, d⟩
  · rcases h.mem I z hz with q | q
    · exact .inl ⟨base_even I rfl (h.bs_ok I _ q).1, q⟩
    · exact .inr q

def within (s : SS) (L1 L2 : List (Nat × Nat)) : List Nat := (flat L1).map s.base ++ (flat L2).map s.base
def shr (s : SS) (one other top : Nat) (L1 L2 : List (Nat × Nat)) : SS where
  back := setBack (setBack s.back other L1) one L2
  base := fun x => if s.base x ∈ within s L1 L2 then top else s.base x
  even := fun x => s.even x || decide (s.base x ∈ within s L1 L2)

/-- what stands in the ring, told by classes -/
theorem Side.within (I : SI n adj mate root rk s) {top v e : Nat} {L : List (Nat × Nat)} {bs : List Nat} (S : Side mate s top v L e bs) {z : Nat} :
    s.base z ∈ (flat L).map s.base ↔ (s.even z = true ∧ s.base z ∈ bs) ∨ (s.even z = false ∧ z ∈ flat L) := by
  constructor
  · intro h
    obtain ⟨u, hu, e⟩ := List.mem_map.mp h
    cases q : s.even z with
    | true =>
      refine .inl ⟨rfl, ?_⟩
      rcases S.kind u hu with ⟨_, k⟩ | ⟨k, _⟩
      · rw [← e]; exact k
      · have e1 := I.odd_base u k
        rw [e] at e1
        have := I.ev_even z q
        rw [e1, k] at this
        cases this
    | false =>
      refine .inr ⟨rfl, ?_⟩
      have e1 := I.odd_base z q
      rcases S.kind u hu with ⟨k, _⟩ | ⟨k, _⟩
      · have := I.ev_even u k
        rw [e, e1, q] at this
        cases this
      · have e2 := I.odd_base u k
        rw [e2, e1] at e
        rw [← e]; exact hu
  · rintro (⟨h1, h2⟩ | ⟨h1, h2⟩)
    · obtain ⟨_, hb, _, x, hx, _⟩ := S.bsok _ h2
      exact List.mem_map.mpr ⟨s.base z, mem_flat1 hx, hb⟩
    · exact List.mem_map_of_mem h2

theorem or_true {a b : Bool} (h : a = true) : (a || b) = true := by rw [h]; rfl

/-- walking an old way within a class until it meets a side -/
theorem hit {back : Nat → Option Nat} {L : List (Nat × Nat)} (M : Mt n adj mate) (hL : ∀ p ∈ L, mate p.1 = some p.2) : ∀ {Q : List (Nat × Nat)} {v b : Nat}, Alt mate back v Q b → b ∈ flat L →
    ∃ Q1 Q2 x, Q = Q1 ++ Q2 ∧ Alt mate back v Q1 x ∧ x ∈ flat L ∧ ∀ z ∈ flat Q1, z ∉ flat L := by
  intro Q
  induction Q with
  | nil =>
    intro v b h hb
    have e := h.nil_inv
    subst e
    exact ⟨[], [], v, rfl, .nil _, hb, fun z hz => nomatch hz⟩
  | cons p Q ih =>
    intro v b h hb
    by_cases hv : v ∈ flat L
    · exact ⟨[], p :: Q, v, rfl, .nil _, hv, fun z hz => nomatch hz⟩
    · cases h with
      | @step _ w u _ _ a c d =>
        obtain ⟨Q1, Q2, x, e, q1, q2, q3⟩ := ih d hb
        refine ⟨(v, w) :: Q1, Q2, x, by rw [e]; rfl, .step a c q1, q2, fun z hz hm => ?_⟩
        rw [flat_cons] at hz
        rcases List.mem_cons.mp hz with e | hz
        · rw [e] at hm; exact hv hm
        · rcases List.mem_cons.mp hz with e | hz
          · rw [e] at hm
            obtain ⟨p, hp, e2 | e2⟩ := mem_flat.mp hm
            · have e2' : w = p.1 := e2
              have m1 := hL p hp
              rw [← e2', M.sym _ _ a] at m1
              have e3 : v = p.2 := Option.some.inj m1
              exact hv (by rw [e3]; exact mem_flat2 hp)
            · have e2' : w = p.2 := e2
              have m1 := M.sym _ _ (hL p hp)
              rw [← e2', M.sym _ _ a] at m1
              have e3 : v = p.1 := Option.some.inj m1
              exact hv (by rw [e3]; exact mem_flat1 hp)
          · exact q3 z hz hm

/-- the new way of one of a side -/
theorem side_way (M : Mt n adj mate) (I : SI n adj mate root rk s) {top one other e1 e2 : Nat} {L1 L2 : List (Nat × Nat)} {bs1 bs2 : List Nat} {back' : Nat → Option Nat}
    (S1 : Side mate s top one L1 e1 bs1) (S2 : Side mate s top other L2 e2 bs2) (dis : ∀ z ∈ flat L1, s.base z ∉ (flat L2).map s.base)
    (ret : Ret back' other L1) (off : ∀ x, (∀ p ∈ L1, x ≠ p.1) → (∀ p ∈ L2, x ≠ p.1) → back' x = s.back x) (htop : s.base top = top) (htev : s.even top = true)
    {v : Nat} (hv : s.base v ∈ (flat L1).map s.base) :
    ∃ Q, Alt mate back' v Q top ∧ (flat Q ++ [top]).Nodup ∧ ∀ x ∈ flat Q, s.base x ∈ (flat L1).map s.base ∨ s.base x ∈ (flat L2).map s.base ∨ s.base x = top := by
  have m1 := S1.alt.mates
  have m2 := S2.alt.mates
  have fst_in : ∀ {L : List (Nat × Nat)} {x : Nat}, x ∉ flat L → ∀ p ∈ L, x ≠ p.1 := fun h p hp e => h (by rw [e]; exact mem_flat1 hp)
  have nb : ∀ {L : List (Nat × Nat)} {x : Nat}, s.base x ∉ (flat L).map s.base → x ∉ flat L := fun h q => h (List.mem_map_of_mem q)
  have top1 : top ∉ (flat L1).map s.base := fun q => by
    have q' : s.base top ∈ (flat L1).map s.base := by rw [htop]; exact q
    rcases (S1.within I).mp q' with ⟨_, k⟩ | ⟨k, _⟩
    · rw [htop] at k
      exact (S1.bsok _ k).2.2.1 rfl
    · rw [htev] at k; cases k
  have top2 : top ∉ (flat L2).map s.base := fun q => by
    have q' : s.base top ∈ (flat L2).map s.base := by rw [htop]; exact q
    rcases (S2.within I).mp q' with ⟨_, k⟩ | ⟨k, _⟩
    · rw [htop] at k
      exact (S2.bsok _ k).2.2.1 rfl
    · rw [htev] at k; cases k
  have dis' : ∀ z, s.base z ∈ (flat L2).map s.base → s.base z ∉ (flat L1).map s.base := fun z h q => by
    obtain ⟨u, hu, e⟩ := List.mem_map.mp q
    exact dis u hu (e ▸ h)
  -- the ways within top's class stay
  have stay : ∀ e, s.base e = top → s.even e = true → ∃ Q, Alt mate back' e Q top ∧ (flat Q ++ [top]).Nodup ∧ ∀ x ∈ flat Q, s.base x = top := fun e h1 h2 => by
    obtain ⟨Q, q1, q2, q3⟩ := I.cw e h2
    rw [h1] at q1 q2 q3
    refine ⟨Q, q1.congr fun p hp => ?_, q2, q3⟩
    have hb := q3 _ (mem_flat2 hp)
    exact off _ (fst_in (nb (by rw [hb]; exact top1))) (fst_in (nb (by rw [hb]; exact top2)))
  -- along side 2 to top
  have snd_ne : ∀ {L : List (Nat × Nat)}, (flat L).Nodup → ∀ {p q : Nat × Nat}, p ∈ L → q ∈ L → p.2 ≠ q.1 := by
    intro L
    induction L with
    | nil => intro _ p q hp; cases hp
    | cons a L ih =>
      intro h p q hp hq e
      rw [flat_cons, List.nodup_cons, List.nodup_cons] at h
      rcases List.mem_cons.mp hp with ep | hp1
      · rcases List.mem_cons.mp hq with eq | hq1
        · subst ep
          exact h.1 (by rw [eq] at e; rw [← e]; exact List.mem_cons_self)
        · subst ep
          exact h.2.1 (by rw [e]; exact mem_flat1 hq1)
      · rcases List.mem_cons.mp hq with eq | hq1
        · rw [eq] at e
          exact h.1 (by rw [← e]; exact List.mem_cons_of_mem _ (mem_flat2 hp1))
        · exact ih h.2.2 hp1 hq1 e
  have along2 : Alt mate back' other L2 e2 := S2.alt.congr fun p hp => by
    refine off _ (fun q hq e => ?_) (fun q hq => snd_ne S2.nd hp hq)
    exact dis q.1 (mem_flat1 hq) (by rw [← e]; exact List.mem_map_of_mem (mem_flat2 hp))
  obtain ⟨T2, t21, t22, t23⟩ := stay e2 S2.base_e S2.even_e
  obtain ⟨T1, t11, t12, t13⟩ := stay e1 S1.base_e S1.even_e
  -- the two continuations
  have contF : ∀ p ∈ L1, ∃ Q, Alt mate back' p.1 Q top ∧ (flat Q ++ [top]).Nodup ∧ (∀ x ∈ flat Q, x ∈ flat L1 ∨ s.base x ∈ (flat L2).map s.base ∨ s.base x = top) := fun p hp => by
    obtain ⟨La, Lb, e⟩ := List.append_of_mem hp
    have k := S1.alt
    rw [e] at k
    have nd := S1.nd
    rw [e, flat_app, List.nodup_append] at nd
    have k2 : Alt mate back' p.1 (p :: Lb) e1 := k.split.2.congr fun q hq => by
      have hq1 : q ∈ L1 := by rw [e]; exact List.mem_append_right _ hq
      refine off _ (fun r hr => snd_ne S1.nd hq1 hr) (fun r hr e => ?_)
      exact dis q.2 (mem_flat2 hq1) (by rw [e]; exact List.mem_map_of_mem (mem_flat1 hr))
    refine ⟨(p :: Lb) ++ T1, k2.app t11, ?_, fun x hx => ?_⟩
    · rw [flat_app, List.append_assoc, List.nodup_append]
      refine ⟨nd.2.1, t12, fun z hz u hu e2 => ?_⟩
      subst e2
      have hz1 : z ∈ flat L1 := by rw [e, flat_app]; exact List.mem_append_right _ hz
      have hb : s.base z = top := by
        rcases List.mem_append.mp hu with q | q
        · exact t13 z q
        · have e3 : z = top := by simpa using q
          rw [e3]; exact htop
      exact top1 (hb ▸ List.mem_map_of_mem hz1)
    · rw [flat_app, List.mem_append] at hx
      rcases hx with hx | hx
      · exact .inl (by rw [e, flat_app]; exact List.mem_append_right _ hx)
      · exact .inr (.inr (t13 x hx))
  have contB : ∀ p ∈ L1, ∃ Q, Alt mate back' p.2 Q top ∧ (flat Q ++ [top]).Nodup ∧ (∀ x ∈ flat Q, x ∈ flat L1 ∨ s.base x ∈ (flat L2).map s.base ∨ s.base x = top) := fun p hp => by
    obtain ⟨R, r1, r2, r3⟩ := ret.alt (fun q hq => M.sym _ _ (m1 q hq)) S1.nd p hp
    refine ⟨R ++ (L2 ++ T2), r1.app (along2.app t21), ?_, fun x hx => ?_⟩
    · rw [flat_app, flat_app, List.append_assoc, List.append_assoc, List.nodup_append]
      refine ⟨r3, ?_, fun z hz u hu e2 => ?_⟩
      · rw [List.nodup_append]
        refine ⟨S2.nd, t22, fun z hz u hu e2 => ?_⟩
        subst e2
        have hb : s.base z = top := by
          rcases List.mem_append.mp hu with q | q
          · exact t23 z q
          · have e3 : z = top := by simpa using q
            rw [e3]; exact htop
        exact top2 (hb ▸ List.mem_map_of_mem hz)
      · subst e2
        have hz1 := r2 z hz
        rcases List.mem_append.mp hu with q | q
        · exact dis z hz1 (List.mem_map_of_mem q)
        · have hb : s.base z = top := by
            rcases List.mem_append.mp q with q | q
            · exact t23 z q
            · have e3 : z = top := by simpa using q
              rw [e3]; exact htop
          exact top1 (hb ▸ List.mem_map_of_mem hz1)
    · rw [flat_app, flat_app, List.mem_append, List.mem_append] at hx
      rcases hx with hx | hx | hx
      · exact .inl (r2 x hx)
      · exact .inr (.inl (List.mem_map_of_mem hx))
      · exact .inr (.inr (t23 x hx))
  have cont : ∀ x ∈ flat L1, ∃ Q, Alt mate back' x Q top ∧ (flat Q ++ [top]).Nodup ∧ (∀ x ∈ flat Q, x ∈ flat L1 ∨ s.base x ∈ (flat L2).map s.base ∨ s.base x = top) := fun x hx => by
    obtain ⟨p, hp, e | e⟩ := mem_flat.mp hx
    · rw [e]; exact contF p hp
    · rw [e]; exact contB p hp
  rcases (S1.within I).mp hv with ⟨h1, h2⟩ | ⟨h1, h2⟩
  · -- an even one: its old way within its class, until it meets the side
    obtain ⟨Q, q1, q2, q3⟩ := I.cw v h1
    obtain ⟨_, _, _, x0, hx0, _⟩ := S1.bsok _ h2
    have hbL : s.base v ∈ flat L1 := mem_flat1 hx0
    obtain ⟨Q1, Q2, x, eQ, a1, a2, a3⟩ := hit M m1 q1 hbL
    have hQ1 : ∀ z ∈ flat Q1, s.base z = s.base v := fun z hz => q3 z (by rw [eQ, flat_app]; exact List.mem_append_left _ hz)
    have a1' : Alt mate back' v Q1 x := a1.congr fun p hp => by
      refine off _ (fst_in (a3 _ (mem_flat2 hp))) (fst_in (nb fun q => ?_))
      have := hQ1 _ (mem_flat2 hp)
      exact dis' _ q (by rw [this]; exact (S1.within I).mpr (.inl ⟨h1, h2⟩))
    obtain ⟨Q3, b1, b2, b3⟩ := cont x a2
    refine ⟨Q1 ++ Q3, a1'.app b1, ?_, fun z hz => ?_⟩
    · rw [flat_app, List.append_assoc, List.nodup_append]
      have ndQ1 : (flat Q1).Nodup := by
        rw [eQ, flat_app, List.append_assoc, List.nodup_append] at q2
        exact q2.1
      refine ⟨ndQ1, b2, fun z hz u hu e2 => ?_⟩
      subst e2
      have hb := hQ1 z hz
      have hin : s.base z ∈ (flat L1).map s.base := by rw [hb]; exact hv
      rcases List.mem_append.mp hu with q | q
      · rcases b3 z q with q | q | q
        · exact a3 z hz q
        · exact dis' z q hin
        · rw [q] at hin; exact top1 hin
      · have e3 : z = top := by simpa using q
        rw [e3, htop] at hin
        exact top1 hin
    · rw [flat_app, List.mem_append] at hz
      rcases hz with hz | hz
      · exact .inl (by rw [hQ1 z hz]; exact hv)
      · rcases b3 z hz with q | q | q
        · exact .inl (List.mem_map_of_mem q)
        · exact .inr (.inl q)
        · exact .inr (.inr q)
  · obtain ⟨Q, a, b, c⟩ := cont v h2
    refine ⟨Q, a, b, fun x hx => ?_⟩
    rcases c x hx with q | q | q
    · exact .inl (List.mem_map_of_mem q)
    · exact .inr (.inl q)
    · exact .inr (.inr q)

theorem fst_nodup : ∀ {L : List (Nat × Nat)}, (flat L).Nodup → (L.map (·.1)).Nodup
  | [], _ => List.nodup_nil
  | p :: L, h => by
    rw [flat_cons, List.nodup_cons, List.nodup_cons] at h
    rw [List.map_cons, List.nodup_cons]
    refine ⟨fun q => ?_, fst_nodup h.2.2⟩
    obtain ⟨r, hr, e⟩ := List.mem_map.mp q
    exact h.1 (by rw [← e]; exact List.mem_cons_of_mem _ (mem_flat1 hr))

theorem no_swap : ∀ {L : List (Nat × Nat)}, (flat L).Nodup → ∀ {a c : Nat}, (a, c) ∈ L → (c, a) ∈ L → False := by
  intro L
  induction L with
  | nil => intro _ a c h; cases h
  | cons q L ih =>
    intro nd a c h1 h2
    rw [flat_cons, List.nodup_cons, List.nodup_cons] at nd
    rcases List.mem_cons.mp h1 with k1 | k1
    · subst k1
      rcases List.mem_cons.mp h2 with k2 | k2
      · injection k2 with k2 k3
        subst k2
        exact nd.1 List.mem_cons_self
      · exact nd.1 (List.mem_cons_of_mem _ (mem_flat2 k2))
    · rcases List.mem_cons.mp h2 with k2 | k2
      · subst k2
        exact nd.1 (List.mem_cons_of_mem _ (mem_flat2 k1))
      · exact ih nd.2.2 k1 k2
/-- THE RING: the state behind it is as it should be -/
theorem shrink_ok (g : Gr n adj) (M : Mt n adj mate) (M0 : mate root = none) (I : SI n adj mate root rk s) {one other top e1 e2 : Nat} {L1 L2 : List (Nat × Nat)} {bs1 bs2 : List Nat}
    (ha : adj one other) (hm : mate one ≠ some other)
    (C1 : Climb mate rk s top one L1 e1 bs1) (C2 : Climb mate rk s top other L2 e2 bs2) (dis : ∀ b ∈ bs1, b ∉ bs2) : SI n adj mate root rk (shr s one other top L1 L2) := by
  have S1 := C1.side M I
  have S2 := C2.side M I
  have htev : s.even top = true := by rw [← S1.base_e]; exact I.ev_even _ S1.even_e
  have htop : s.base top = top := by rw [← S1.base_e]; exact I.ev_base _
  have dz : ∀ z ∈ flat L1, s.base z ∉ (flat L2).map s.base := fun z hz q => by
    rcases (S2.within I).mp q with ⟨k1, k2⟩ | ⟨k1, k2⟩
    · exact dis _ (C1.ev_mem I hz k1) k2
    · obtain ⟨b, b1, b2⟩ := C1.odd_mem I hz k1
      obtain ⟨c, c1, c2⟩ := C2.odd_mem I k2 k1
      have e := M.inj b2 c2
      subst e
      exact dis _ b1 c1
  have dz' : ∀ z ∈ flat L2, s.base z ∉ (flat L1).map s.base := fun z hz q => by
    obtain ⟨u, hu, e⟩ := List.mem_map.mp q
    exact dz u hu (by rw [e]; exact List.mem_map_of_mem hz)
  have wm : ∀ x, x ∈ within s L1 L2 ↔ x ∈ (flat L1).map s.base ∨ x ∈ (flat L2).map s.base := fun x => List.mem_append
  have topW : top ∉ within s L1 L2 := fun q => by
    rcases (wm _).mp q with q | q
    · have q' : s.base top ∈ (flat L1).map s.base := by rw [htop]; exact q
      rcases (S1.within I).mp q' with ⟨_, k⟩ | ⟨k, _⟩
      · rw [htop] at k; exact (S1.bsok _ k).2.2.1 rfl
      · rw [htev] at k; cases k
    · have q' : s.base top ∈ (flat L2).map s.base := by rw [htop]; exact q
      rcases (S2.within I).mp q' with ⟨_, k⟩ | ⟨k, _⟩
      · rw [htop] at k; exact (S2.bsok _ k).2.2.1 rfl
      · rw [htev] at k; cases k
  have bY : ∀ {x}, s.base x ∈ within s L1 L2 → (shr s one other top L1 L2).base x = top := fun h => if_pos h
  have bN : ∀ {x}, s.base x ∉ within s L1 L2 → (shr s one other top L1 L2).base x = s.base x := fun h => if_neg h
  have eY : ∀ {x}, s.base x ∈ within s L1 L2 → (shr s one other top L1 L2).even x = true := fun {x} h => by
    show (s.even x || decide (s.base x ∈ within s L1 L2)) = true
    rw [decide_eq_true h, Bool.or_true]
  have eN : ∀ {x}, s.base x ∉ within s L1 L2 → (shr s one other top L1 L2).even x = s.even x := fun {x} h => by
    show (s.even x || decide (s.base x ∈ within s L1 L2)) = s.even x
    rw [decide_eq_false h, Bool.or_false]
  have eM : ∀ {x}, s.even x = true → (shr s one other top L1 L2).even x = true := fun {x} h => or_true h
  have bTop : ∀ {x}, s.base x = top → (shr s one other top L1 L2).base x = top := fun {x} h => by
    rw [bN (by rw [h]; exact topW), h]
  have bT : ∀ {x}, s.base x ∈ within s L1 L2 ∨ s.base x = top → (shr s one other top L1 L2).base x = top := fun h => h.elim bY bTop
  -- the backs
  have bd : (shr s one other top L1 L2).back = setBack (setBack s.back other L1) one L2 := rfl
  have f1 : (L1.map (·.1)).Nodup := fst_nodup S1.nd
  have f2 : (L2.map (·.1)).Nodup := fst_nodup S2.nd
  have f12 : ∀ p ∈ L1, ∀ q ∈ L2, p.1 ≠ q.1 := fun p hp q hq e => dz p.1 (mem_flat1 hp) (by rw [e]; exact List.mem_map_of_mem (mem_flat1 hq))
  have ret2 : Ret (shr s one other top L1 L2).back one L2 := setBack_ret f2
  have ret1 : Ret (shr s one other top L1 L2).back other L1 := (setBack_ret (back := s.back) (behind := other) f1).congr fun p hp => setBack_off fun q hq => f12 p hp q hq
  have off : ∀ x, (∀ p ∈ L1, x ≠ p.1) → (∀ p ∈ L2, x ≠ p.1) → (shr s one other top L1 L2).back x = s.back x := fun x h1 h2 => (setBack_off h2).trans (setBack_off h1)
  have oddfst1 : ∀ x, s.even x = false → ∀ p ∈ L1, x ≠ p.1 := fun x hx p hp e => by
    obtain ⟨La, Lb, eL⟩ := List.append_of_mem hp
    rcases S1.kind p.1 (mem_flat1 hp) with ⟨k, _⟩ | ⟨k, b, hb, mb⟩
    · rw [← e, hx] at k; cases k
    · -- an odd one is second: its mate b is a first one, so p.2 = b; the way meets b twice
      obtain ⟨_, _, _, x', hx', _⟩ := S1.bsok b hb
      have e1 : p.2 = b := by
        have a1 := S1.alt.mates p hp
        rw [M.sym _ _ mb] at a1
        exact (Option.some.inj a1).symm
      have e2 : x' = p.1 := by
        have a1 := S1.alt.mates (b, x') hx'
        rw [show (b, x').1 = b from rfl, mb] at a1
        exact (Option.some.inj a1).symm
      refine no_swap S1.nd (a := b) (c := p.1) (by rw [← e2]; exact hx') ?_
      rw [← e1]
      exact hp
  have oddfst2 : ∀ x, s.even x = false → ∀ p ∈ L2, x ≠ p.1 := fun x hx p hp e => by
    rcases S2.kind p.1 (mem_flat1 hp) with ⟨k, _⟩ | ⟨k, b, hb, mb⟩
    · rw [← e, hx] at k; cases k
    · obtain ⟨_, _, _, x', hx', _⟩ := S2.bsok b hb
      have e1 : p.2 = b := by
        have a1 := S2.alt.mates p hp
        rw [M.sym _ _ mb] at a1
        exact (Option.some.inj a1).symm
      have e2 : x' = p.1 := by
        have a1 := S2.alt.mates (b, x') hx'
        rw [show (b, x').1 = b from rfl, mb] at a1
        exact (Option.some.inj a1).symm
      refine no_swap S2.nd (a := b) (c := p.1) (by rw [← e2]; exact hx') ?_
      rw [← e1]
      exact hp
  -- the mate of one in the ring is in it, unless the one is top
  have mateW : ∀ v, s.base v ∈ within s L1 L2 → ∃ w, mate v = some w ∧ s.base w ∈ within s L1 L2 := fun v hv => by
    have one_side : ∀ {top v₀ e₀ : Nat} {L : List (Nat × Nat)} {bs : List Nat}, Side mate s top v₀ L e₀ bs → s.base v ∈ (flat L).map s.base → ∃ w, mate v = some w ∧ s.base w ∈ (flat L).map s.base := by
      intro top v₀ e₀ L bs S hv
      rcases (S.within I).mp hv with ⟨k1, k2⟩ | ⟨k1, k2⟩
      · by_cases hb : s.base v = v
        · obtain ⟨_, _, _, x, hx, _⟩ := S.bsok _ k2
          rw [hb] at hx
          exact ⟨x, S.alt.mates _ hx, List.mem_map_of_mem (mem_flat2 hx)⟩
        · obtain ⟨w, a, b, c⟩ := I.inner v k1 hb
          exact ⟨w, a, by rw [c]; exact hv⟩
      · obtain ⟨p, hp, e | e⟩ := mem_flat.mp k2
        · exact ⟨p.2, by rw [e]; exact S.alt.mates p hp, List.mem_map_of_mem (mem_flat2 hp)⟩
        · exact ⟨p.1, by rw [e]; exact M.sym _ _ (S.alt.mates p hp), List.mem_map_of_mem (mem_flat1 hp)⟩
    rcases (wm _).mp hv with q | q
    · obtain ⟨w, a, b⟩ := one_side S1 q
      exact ⟨w, a, (wm _).mpr (.inl b)⟩
    · obtain ⟨w, a, b⟩ := one_side S2 q
      exact ⟨w, a, (wm _).mpr (.inr b)⟩
  have rootW : s.base root ∉ within s L1 L2 := fun q => by
    obtain ⟨w, a, _⟩ := mateW root q
    rw [M0] at a; cases a
  refine ⟨eM I.root_even, ?_, ?_, ?_, ?_, ?_, ?_, ?_, ?_, ?_, ?_⟩
  · rw [bN rootW]; exact I.root_base
  · intro v hv
    by_cases h : s.base v ∈ within s L1 L2
    · rw [eY h] at hv; cases hv
    · rw [bN h]
      rw [eN h] at hv
      exact I.odd_base v hv
  · intro v hv
    by_cases h : s.base v ∈ within s L1 L2
    · rw [bY h]; exact eM htev
    · rw [bN h]
      rw [eN h] at hv
      exact eM (I.ev_even v hv)
  · intro v
    by_cases h : s.base v ∈ within s L1 L2
    · rw [bY h]; exact bTop htop
    · rw [bN h, bN (by rw [I.ev_base]; exact h)]
      exact I.ev_base v
  · -- inner
    intro v hv hb
    by_cases h : s.base v ∈ within s L1 L2
    · obtain ⟨w, a, b⟩ := mateW v h
      exact ⟨w, a, eY b, by rw [bY b, bY h]⟩
    · rw [bN h] at hb ⊢
      rw [eN h] at hv
      obtain ⟨w, a, b, c⟩ := I.inner v hv hb
      exact ⟨w, a, eM b, by rw [bN (by rw [c]; exact h)]; exact c⟩
  · -- stem
    intro b hb hbb hr
    have hW : s.base b ∉ within s L1 L2 := fun q => by
      have e := bY q
      rw [hbb] at e
      rw [e, htop] at q
      exact topW q
    rw [bN hW] at hbb
    rw [eN hW] at hb
    obtain ⟨x, y, a, ox, k, ey, r⟩ := I.stem b hb hbb hr
    have xW : s.base x ∉ within s L1 L2 := fun q => by
      obtain ⟨w, a', q2⟩ := mateW x q
      rw [M.sym _ _ a] at a'
      cases a'
      exact hW q2
    refine ⟨x, y, a, by rw [eN xW]; exact ox, ?_, eM ey, ?_⟩
    · rw [off x (oddfst1 x ox) (oddfst2 x ox)]; exact k
    · by_cases hy : s.base y ∈ within s L1 L2
      · rw [bY hy]
        rcases (wm _).mp hy with q | q
        · rcases (S1.within I).mp q with ⟨_, q2⟩ | ⟨q2, _⟩
          · have := (C1.bs_ok I _ q2).2.2.1
            omega
          · rw [ey] at q2; cases q2
        · rcases (S2.within I).mp q with ⟨_, q2⟩ | ⟨q2, _⟩
          · have := (C2.bs_ok I _ q2).2.2.1
            omega
          · rw [ey] at q2; cases q2
      · rw [bN hy]; exact r
  · -- ways within the classes
    intro v hv
    by_cases h : s.base v ∈ within s L1 L2
    · rw [bY h]
      rcases (wm _).mp h with q | q
      · obtain ⟨Q, a, b, c⟩ := side_way M I S1 S2 dz ret1 off htop htev q
        refine ⟨Q, a, b, fun x hx => bT ?_⟩
        rcases c x hx with z | z | z
        · exact .inl ((wm _).mpr (.inl z))
        · exact .inl ((wm _).mpr (.inr z))
        · exact .inr z
      · obtain ⟨Q, a, b, c⟩ := side_way M I S2 S1 dz' ret2 (fun x h1 h2 => off x h2 h1) htop htev q
        refine ⟨Q, a, b, fun x hx => bT ?_⟩
        rcases c x hx with z | z | z
        · exact .inl ((wm _).mpr (.inr z))
        · exact .inl ((wm _).mpr (.inl z))
        · exact .inr z
    · rw [bN h]
      rw [eN h] at hv
      obtain ⟨Q, a, b, c⟩ := I.cw v hv
      refine ⟨Q, a.congr fun p hp => ?_, b, fun x hx => by rw [bN (by rw [c x hx]; exact h)]; exact c x hx⟩
      have hp2 := c _ (mem_flat2 hp)
      refine off _ (fun q hq e => h ?_) (fun q hq e => h ?_)
      · rw [← hp2, e]
        exact (wm _).mpr (.inl (List.mem_map_of_mem (mem_flat1 hq)))
      · rw [← hp2, e]
        exact (wm _).mpr (.inr (List.mem_map_of_mem (mem_flat1 hq)))
  · -- edges
    intro w u h
    have nx : ∀ {v₀ e₀ : Nat} {L : List (Nat × Nat)}, Alt mate s.back v₀ L e₀ → ∀ {La Lb : List (Nat × Nat)} {a b x q : Nat}, L = La ++ (a, b) :: (x, q) :: Lb → adj x b ∧ mate x ≠ some b := by
      intro v₀ e₀ L k La Lb a b x q e
      rw [e] at k
      have k2 := k.split.2
      cases k2 with
      | step m1 b1 k3 =>
        cases k3 with
        | step m2 b2 k4 =>
          obtain ⟨z1, z2⟩ := I.edge _ _ b1
          exact ⟨g.sym _ _ z1, fun z => z2 (M.sym _ _ z)⟩
    rcases setBack_cases (show setBack (setBack s.back other L1) one L2 w = some u from h) with h | ⟨q, L', e, e2⟩ | ⟨La, a, b, Lb, q, e, e2⟩
    · rcases setBack_cases h with h | ⟨q, L', e, e2⟩ | ⟨La, a, b, Lb, q, e, e2⟩
      · exact I.edge w u h
      · have k := S1.alt
        rw [e] at k
        cases k with
        | step m1 b1 k3 =>
          subst e2
          exact ⟨ha, hm⟩
      · subst e2
        exact nx S1.alt e
    · have k := S2.alt
      rw [e] at k
      cases k with
      | step m1 b1 k3 =>
        subst e2
        exact ⟨g.sym _ _ ha, fun z => hm (M.sym _ _ z)⟩
    · subst e2
      exact nx S2.alt e
  · -- labels
    intro x y hx hk
    have hW : s.base x ∉ within s L1 L2 := fun q => by rw [eY q] at hx; cases hx
    rw [eN hW] at hx
    rw [off x (oddfst1 x hx) (oddfst2 x hx)] at hk
    obtain ⟨b, b1, b2, b3⟩ := I.lab x y hx hk
    refine ⟨b, b1, eM b2, ?_⟩
    rw [bN (fun q => ?_)]
    · exact b3
    · obtain ⟨w, a', q2⟩ := mateW b q
      rw [M.sym _ _ b1] at a'
      cases a'
      exact hW q2
  · intro v hv
    by_cases h : s.base v ∈ within s L1 L2
    · obtain ⟨w, a, _⟩ := mateW v h
      exact g.lt _ _ (M.adj _ _ a)
    · rw [eN h] at hv
      exact I.ev_lt v hv
end
end Gv
/-! Plain mathematics: the search's steps and its end. -/
namespace Gv

/-! ### counting -/
theorem pig {R : Nat → Nat → Prop} : ∀ {B B' : List Nat}, B.Nodup → (∀ b ∈ B, ∃ c ∈ B', R b c) → (∀ b₁ ∈ B, ∀ b₂ ∈ B, ∀ c, R b₁ c → R b₂ c → b₁ = b₂) → B.length ≤ B'.length
  | [], _, _, _, _ => Nat.zero_le _
  | b :: B, B', nd, tot, inj => by
    rw [List.nodup_cons] at nd
    obtain ⟨c, hc, r⟩ := tot b List.mem_cons_self
    have k : B.length ≤ (B'.erase c).length := by
      refine pig nd.2 (fun b' hb' => ?_) fun b₁ h₁ b₂ h₂ c r₁ r₂ => inj b₁ (List.mem_cons_of_mem _ h₁) b₂ (List.mem_cons_of_mem _ h₂) c r₁ r₂
      obtain ⟨c', hc', r'⟩ := tot b' (List.mem_cons_of_mem _ hb')
      refine ⟨c', (List.mem_erase_of_ne ?_).mpr hc', r'⟩
      intro e
      subst e
      have := inj b List.mem_cons_self b' (List.mem_cons_of_mem _ hb') _ r r'
      subst this
      exact nd.1 hb'
    rw [List.length_erase_of_mem hc] at k
    have : 0 < B'.length := List.length_pos_of_mem hc
    rw [List.length_cons]
    omega
theorem nodup_le {B B' : List Nat} (nd : B.Nodup) (h : ∀ b ∈ B, b ∈ B') : B.length ≤ B'.length :=
  pig (R := fun a b => a = b) nd (fun b hb => ⟨b, h b hb, rfl⟩) fun b₁ _ b₂ _ c e₁ e₂ => e₁.trans e₂.symm

theorem nodup_erase_ne {l : List Nat} (nd : l.Nodup) {x y : Nat} (h : x ∈ l.erase y) : x ≠ y := by
  intro e
  subst e
  exact (List.Nodup.not_mem_erase nd) h
/-- who are paired among themselves are of even number -/
theorem even_len {h : Nat → Option Nat} (sym : ∀ u v, h u = some v → h v = some u) (irr : ∀ u, h u ≠ some u) : ∀ (k : Nat) (l : List Nat), l.length ≤ k → l.Nodup → (∀ x ∈ l, ∃ y ∈ l, h x = some y) → l.length % 2 = 0 := by
  intro k
  induction k with
  | zero =>
    intro l hl _ _
    have : l.length = 0 := by omega
    omega
  | succ k ih =>
    intro l hl nd hh
    cases l with
    | nil => rfl
    | cons x r =>
      rw [List.nodup_cons] at nd
      obtain ⟨y, hy, e⟩ := hh x List.mem_cons_self
      have yx : y ≠ x := fun q => irr x (by rw [e, q])
      have hy' : y ∈ r := by
        rcases List.mem_cons.mp hy with q | q
        · exact absurd q yx
        · exact q
      have le : (r.erase y).length = r.length - 1 := List.length_erase_of_mem hy'
      have pos : 0 < r.length := List.length_pos_of_mem hy'
      have k2 := ih (r.erase y) (by rw [le]; rw [List.length_cons] at hl; omega) (nd.2.erase y) (fun z hz => by
        have hzr : z ∈ r := List.mem_of_mem_erase hz
        have hzy : z ≠ y := nodup_erase_ne nd.2 hz
        obtain ⟨z', hz', e'⟩ := hh z (List.mem_cons_of_mem _ hzr)
        refine ⟨z', (List.mem_erase_of_ne ?_).mpr ?_, e'⟩
        · intro q
          rw [q] at e'
          have a := sym _ _ e'
          rw [sym _ _ e] at a
          exact nd.1 (by rw [Option.some.inj a]; exact hzr)
        · rcases List.mem_cons.mp hz' with q | q
          · rw [q] at e'
            have a := sym _ _ e'
            rw [e] at a
            exact absurd (Option.some.inj a).symm hzy
          · exact q)
      rw [List.length_cons]
      omega

section
variable {n : Nat} {adj : Nat → Nat → Prop} {mate : Nat → Option Nat} {root : Nat} {rk : Nat → Nat} {s : SS}

theorem Mt.irr {n : Nat} {adj : Nat → Nat → Prop} {f : Nat → Option Nat} (g : Gr n adj) (m : Mt n adj f) (u : Nat) : f u ≠ some u := fun h => g.irr u (m.adj _ _ h)

/-- in each class somebody is given a partner outside of it -/
theorem leaves (g : Gr n adj) (M : Mt n adj mate) (M0 : mate root = none) (I : SI n adj mate root rk s) {h : Nat → Option Nat} (N : Mt n adj h) (hc : ∀ v, s.even v = true → h v ≠ none) {b : Nat} (hb : s.even b = true) (hbb : s.base b = b) :
    ∃ c x, s.even c = true ∧ s.base c = b ∧ h c = some x ∧ s.base x ≠ b := by
  refine Classical.byContradiction fun no => ?_
  have evc : ∀ c, s.base c = b → s.even c = true := fun c e => base_even I e hb
  have cls : ∀ x, x ∈ (List.range n).filter (fun c => decide (s.base c = b)) ↔ s.base x = b := fun x => by
    rw [List.mem_filter, List.mem_range, decide_eq_true_iff]
    exact ⟨fun k => k.2, fun k => ⟨I.ev_lt _ (evc x k), k⟩⟩
  have nd : ((List.range n).filter (fun c => decide (s.base c = b))).Nodup := List.Nodup.sublist List.filter_sublist List.nodup_range
  generalize (List.range n).filter (fun c => decide (s.base c = b)) = C at cls nd
  have e1 := even_len N.sym (N.irr g) C.length C (Nat.le_refl _) nd fun x hx => by
    have hx' := (cls x).mp hx
    cases q : h x with
    | none => exact absurd q (hc x (evc x hx'))
    | some y =>
      refine ⟨y, (cls y).mpr ?_, rfl⟩
      refine Classical.byContradiction fun ny => no ⟨x, y, evc x hx', hx', q, ny⟩
  have hbC : b ∈ C := (cls b).mpr hbb
  have e2 := even_len M.sym (M.irr g) (C.erase b).length (C.erase b) (Nat.le_refl _) (nd.erase b) fun x hx => by
    have hx' := (cls x).mp (List.mem_of_mem_erase hx)
    have xb : x ≠ b := nodup_erase_ne nd hx
    obtain ⟨w, a, c, d⟩ := I.inner x (evc x hx') (by rw [hx']; exact Ne.symm xb)
    refine ⟨w, (List.mem_erase_of_ne ?_).mpr ((cls w).mpr (d.trans hx')), a⟩
    intro q
    subst q
    -- w = b is the base: its mate is x, of its own class
    have a' := M.sym _ _ a
    by_cases hr : w = root
    · rw [hr, M0] at a'
      cases a'
    · obtain ⟨x', y', k1, k2, _⟩ := I.stem w hb hbb hr
      rw [a'] at k1
      cases k1
      rw [evc x hx'] at k2
      cases k2
  rw [List.length_erase_of_mem hbC] at e2
  have : 0 < C.length := List.length_pos_of_mem hbC
  omega

/-- THE BARRIER: a finished search shows that nobody serves all of its even ones -/
theorem barrier (g : Gr n adj) (M : Mt n adj mate) (M0 : mate root = none) (I : SI n adj mate root rk s)
    (c1 : ∀ u z, s.even u = true → adj u z → s.even z = false → s.back z ≠ none) (c2 : ∀ u z, s.even u = true → s.even z = true → adj u z → s.base u = s.base z ∨ mate u = some z)
    {h : Nat → Option Nat} (N : Mt n adj h) (hc : ∀ v, s.even v = true → h v ≠ none) : False := by
  have key : ∀ b, s.even b = true → s.base b = b → ∃ b', (s.even b' = true ∧ s.base b' = b' ∧ b' ≠ root) ∧ ∃ c x, s.base c = b ∧ h c = some x ∧ mate x = some b' := fun b hb hbb => by
    obtain ⟨c, x, k1, k2, k3, k4⟩ := leaves g M M0 I N hc hb hbb
    have ax := N.adj _ _ k3
    have ox : s.even x = false := by
      cases q : s.even x with
      | false => rfl
      | true =>
        exfalso
        rcases c2 c x k1 q ax with z | z
        · exact k4 (z.symm.trans k2)
        · by_cases hcb : s.base c = c
          · by_cases hr : c = root
            · rw [hr, M0] at z; cases z
            · obtain ⟨x', y', l1, l2, _⟩ := I.stem c k1 hcb hr
              rw [z] at l1
              cases l1
              rw [q] at l2
              cases l2
          · obtain ⟨w, l1, l2, l3⟩ := I.inner c k1 hcb
            rw [z] at l1
            cases l1
            exact k4 (l3.trans k2)
    cases q : s.back x with
    | none => exact absurd q (c1 c x k1 ax ox)
    | some y =>
      obtain ⟨b', l1, l2, l3⟩ := I.lab x y ox q
      refine ⟨b', ⟨l2, l3, fun e => ?_⟩, c, x, k2, k3, l1⟩
      rw [e] at l1
      have := M.sym _ _ l1
      rw [M0] at this
      cases this
  have mem : ∀ x, x ∈ (List.range n).filter (fun b => s.even b && decide (s.base b = b)) ↔ s.even x = true ∧ s.base x = x := fun x => by
    rw [List.mem_filter, List.mem_range, Bool.and_eq_true, decide_eq_true_iff]
    exact ⟨fun k => k.2, fun k => ⟨I.ev_lt _ k.1, k⟩⟩
  have nd : ((List.range n).filter (fun b => s.even b && decide (s.base b = b))).Nodup := List.Nodup.sublist List.filter_sublist List.nodup_range
  generalize (List.range n).filter (fun b => s.even b && decide (s.base b = b)) = B at mem nd
  have hr : root ∈ B := (mem root).mpr ⟨I.root_even, I.root_base⟩
  have le := pig (R := fun b b' => ∃ c x, s.base c = b ∧ h c = some x ∧ mate x = some b') (B := B) (B' := B.erase root) nd (fun b hb => by
    obtain ⟨k1, k2⟩ := (mem b).mp hb
    obtain ⟨b', ⟨l1, l2, l3⟩, r⟩ := key b k1 k2
    exact ⟨b', (List.mem_erase_of_ne l3).mpr ((mem b').mpr ⟨l1, l2⟩), r⟩) (fun b₁ _ b₂ _ c r₁ r₂ => by
    obtain ⟨u, x, p1, p2, p3⟩ := r₁
    obtain ⟨u', x', q1, q2, q3⟩ := r₂
    have e := M.inj p3 q3
    subst e
    have e := N.inj p2 q2
    subst e
    exact p1.symm.trans q1)
  rw [List.length_erase_of_mem hr] at le
  have : 0 < B.length := List.length_pos_of_mem hr
  omega

/-! ### a new label -/
def grw (mate : Nat → Option Nat) (s : SS) (one other m : Nat) : SS where
  back := upd s.back other (some one)
  base := s.base
  even := fun x => s.even x || decide (x = m)
theorem grow_ok (g : Gr n adj) (M : Mt n adj mate) (M0 : mate root = none) (I : SI n adj mate root rk s) {one other m : Nat} (h1 : s.even one = true) (ha : adj one other) (hm : mate one ≠ some other)
    (h2 : s.even other = false) (h3 : s.back other = none) (h4 : mate other = some m) : s.even m = false ∧ m ≠ other ∧ ∃ rk', SI n adj mate root rk' (grw mate s one other m) := by
  have hm' : mate m = some other := M.sym _ _ h4
  have om : s.even m = false := by
    cases q : s.even m with
    | false => rfl
    | true =>
      exfalso
      by_cases hb : s.base m = m
      · have hr : m ≠ root := fun e => by rw [e, M0] at hm'; cases hm'
        obtain ⟨x, y, k1, k2, k3, _⟩ := I.stem m q hb hr
        rw [hm'] at k1
        cases k1
        rw [h3] at k3
        cases k3
      · obtain ⟨w, k1, k2, _⟩ := I.inner m q hb
        rw [hm'] at k1
        cases k1
        rw [h2] at k2
        cases k2
  have mo : m ≠ other := fun e => by rw [e] at h4; exact M.irr g other h4
  have bm : s.base m = m := I.odd_base m om
  have eq : ∀ x, (grw mate s one other m).even x = true ↔ s.even x = true ∨ x = m := fun x => by
    show (s.even x || decide (x = m)) = true ↔ _
    rw [Bool.or_eq_true, decide_eq_true_iff]
  have eF : ∀ x, (grw mate s one other m).even x = false ↔ s.even x = false ∧ x ≠ m := fun x => by
    show (s.even x || decide (x = m)) = false ↔ _
    rw [Bool.or_eq_false_iff, decide_eq_false_iff_not]
  have nm : ∀ v, s.even v = true → v ≠ m := fun v hv e => by rw [e, om] at hv; cases hv
  have nmb : ∀ v, s.even v = true → s.base v ≠ m := fun v hv e => by
    have := I.ev_even v hv
    rw [e, om] at this
    cases this
  have keep : ∀ x, x ≠ other → (grw mate s one other m).back x = s.back x := fun x hx => upd_ne hx
  refine ⟨om, mo, fun x => if x = m then rk (s.base one) + 1 else rk x, ?_⟩
  refine ⟨(eq _).mpr (.inl I.root_even), I.root_base, fun v hv => I.odd_base v ((eF v).mp hv).1, fun v hv => ?_, I.ev_base, fun v hv hb => ?_, fun b hb hbb hr => ?_, fun v hv => ?_, fun w u hk => ?_, fun x y hx hk => ?_, fun v hv => ?_⟩
  · rcases (eq v).mp hv with q | q
    · exact (eq _).mpr (.inl (I.ev_even v q))
    · subst q
      exact (eq _).mpr (.inr bm)
  · rcases (eq v).mp hv with q | q
    · obtain ⟨w, k1, k2, k3⟩ := I.inner v q hb
      exact ⟨w, k1, (eq _).mpr (.inl k2), k3⟩
    · subst q
      exact absurd bm hb
  · rcases (eq b).mp hb with q | q
    · obtain ⟨x, y, k1, k2, k3, k4, k5⟩ := I.stem b q hbb hr
      have xm : x ≠ m := fun e => by
        subst e
        have := M.sym _ _ k1
        rw [hm'] at this
        cases this
        rw [h2] at q
        cases q
      have xo : x ≠ other := fun e => by rw [e, h3] at k3; cases k3
      refine ⟨x, y, k1, (eF x).mpr ⟨k2, xm⟩, by rw [keep x xo]; exact k3, (eq y).mpr (.inl k4), ?_⟩
      show (if s.base y = m then _ else _) < (if b = m then _ else _)
      rw [if_neg (nmb y k4), if_neg (nm b q)]
      exact k5
    · subst q
      refine ⟨other, one, hm', (eF _).mpr ⟨h2, Ne.symm mo⟩, upd_same, (eq _).mpr (.inl h1), ?_⟩
      show (if s.base one = b then _ else _) < (if b = b then _ else _)
      rw [if_neg (nmb one h1), if_pos rfl]
      exact Nat.lt_succ_self _
  · rcases (eq v).mp hv with q | q
    · obtain ⟨Q, k1, k2, k3⟩ := I.cw v q
      refine ⟨Q, k1.congr fun p hp => keep _ fun e => ?_, k2, k3⟩
      obtain ⟨u, hu⟩ := k1.backs p hp
      rw [e, h3] at hu
      cases hu
    · subst q
      refine ⟨[], by rw [show (grw mate s one other v).base v = v from bm]; exact .nil _, ?_, fun x hx => nomatch hx⟩
      simp [flat_nil]
  · by_cases hw : w = other
    · subst hw
      have e : one = u := Option.some.inj ((upd_same (f := s.back) (a := w) (b := some one)).symm.trans hk)
      subst e
      exact ⟨g.sym _ _ ha, fun z => hm (M.sym _ _ z)⟩
    · rw [keep w hw] at hk
      exact I.edge w u hk
  · obtain ⟨q1, q2⟩ := (eF x).mp hx
    by_cases hw : x = other
    · subst hw
      exact ⟨m, h4, (eq _).mpr (.inr rfl), bm⟩
    · rw [keep x hw] at hk
      obtain ⟨b, k1, k2, k3⟩ := I.lab x y q1 hk
      exact ⟨b, k1, (eq b).mpr (.inl k2), k3⟩
  · rcases (eq v).mp hv with q | q
    · exact I.ev_lt v q
    · subst q
      exact g.lt _ _ (M.adj _ _ hm')

/-! ### the beginning -/
def ini (root : Nat) : SS where
  back := fun _ => none
  base := fun x => x
  even := fun x => decide (x = root)
theorem ini_ok (hr : root < n) : SI n adj mate root (fun _ => 0) (ini root) := by
  have eq : ∀ x, (ini root).even x = true ↔ x = root := fun x => decide_eq_true_iff
  refine ⟨(eq _).mpr rfl, rfl, fun _ _ => rfl, fun v hv => hv, fun _ => rfl, fun v _ hb => absurd rfl hb, fun b hb _ hr => absurd ((eq b).mp hb) hr, fun v _ => ⟨[], .nil _, by simp [flat_nil], fun x hx => nomatch hx⟩, fun w u h => (nomatch h), fun x y _ h => (nomatch h), fun v hv => ?_⟩
  rw [(eq v).mp hv]
  exact hr

/-! ### what holds while the search runs -/
/-- left: the even ones in the order in which they came; k of them are done; done: those next to the k-th that were looked at -/
structure RI (n : Nat) (adj : Nat → Nat → Prop) (mate : Nat → Option Nat) (root : Nat) (s : SS) (left : List Nat) (k : Nat) : Prop where
  si : ∃ rk, SI n adj mate root rk s
  nd : left.Nodup
  mem : ∀ v, v ∈ left ↔ s.even v = true
  le : k ≤ left.length
  clo1 : ∀ u ∈ left.take k, ∀ z, adj u z → s.even z = false → s.back z ≠ none ∧ mate z ≠ none
  clo2 : ∀ u ∈ left.take k, ∀ z ∈ left.take k, adj u z → s.base u = s.base z ∨ mate u = some z
structure Cur (mate : Nat → Option Nat) (s : SS) (left : List Nat) (k one : Nat) (done : List Nat) : Prop where
  at_ : left[k]? = some one
  cur1 : ∀ z ∈ done, s.even z = false → s.back z ≠ none ∧ mate z ≠ none
  cur2 : ∀ z ∈ done, z ∈ left.take (k + 1) → s.base one = s.base z ∨ mate one = some z
structure Mono (s s' : SS) : Prop where
  ev : ∀ v, s.even v = true → s'.even v = true
  base : ∀ u v, s.base u = s.base v → s'.base u = s'.base v
  back : ∀ v, s.back v ≠ none → s'.back v ≠ none
theorem odd_of {s s' : SS} (m : Mono s s') {v : Nat} (h : s'.even v = false) : s.even v = false := by
  cases q : s.even v with
  | false => rfl
  | true => rw [m.ev v q] at h; cases h
theorem RI.ini (hr : root < n) : RI n adj mate root (Gv.ini root) [root] 0 :=
  ⟨⟨_, ini_ok hr⟩, by simp, fun v => by rw [List.mem_singleton]; exact (decide_eq_true_iff (p := v = root)).symm, Nat.zero_le _, fun u hu => by simp at hu, fun u hu => by simp at hu⟩
theorem take_app {l m : List Nat} {k : Nat} (h : k ≤ l.length) : (l ++ m).take k = l.take k := List.take_append_of_le_length h
theorem RI.mono {left new : List Nat} {k : Nat} {s' : SS} (R : RI n adj mate root s left k) (m : Mono s s') (si : ∃ rk, SI n adj mate root rk s') (nd : (left ++ new).Nodup) (mem : ∀ v, v ∈ left ++ new ↔ s'.even v = true) : RI n adj mate root s' (left ++ new) k := by
  refine ⟨si, nd, mem, ?_, ?_, ?_⟩
  · rw [List.length_append]
    exact Nat.le_trans R.le (Nat.le_add_right _ _)
  · rw [take_app R.le]
    intro u hu z ha hz
    obtain ⟨a, b⟩ := R.clo1 u hu z ha (odd_of m hz)
    exact ⟨m.back _ a, b⟩
  · rw [take_app R.le]
    intro u hu z hz ha
    rcases R.clo2 u hu z hz ha with q | q
    · exact .inl (m.base _ _ q)
    · exact .inr q
theorem Cur.lt {left done : List Nat} {k one : Nat} (C : Cur mate s left k one done) : k < left.length := (List.getElem?_eq_some_iff.mp C.at_).1
theorem Cur.mono {left new done : List Nat} {k one : Nat} {s' : SS} (C : Cur mate s left k one done) (m : Mono s s') : Cur mate s' (left ++ new) k one done := by
  have hk := C.lt
  refine ⟨by rw [List.getElem?_append_left hk]; exact C.at_, fun z hz ho => ?_, ?_⟩
  · obtain ⟨a, b⟩ := C.cur1 z hz (odd_of m ho)
    exact ⟨m.back _ a, b⟩
  · rw [take_app hk]
    intro z hz ht
    rcases C.cur2 z hz ht with q | q
    · exact .inl (m.base _ _ q)
    · exact .inr q
theorem Cur.snoc {left done : List Nat} {k one z : Nat} (C : Cur mate s left k one done) (h1 : s.even z = false → s.back z ≠ none ∧ mate z ≠ none) (h2 : z ∈ left.take (k + 1) → s.base one = s.base z ∨ mate one = some z) : Cur mate s left k one (done ++ [z]) := by
  refine ⟨C.at_, fun y hy => ?_, fun y hy => ?_⟩
  · rcases List.mem_append.mp hy with q | q
    · exact C.cur1 y q
    · rw [List.mem_singleton] at q
      subst q
      exact h1
  · rcases List.mem_append.mp hy with q | q
    · exact C.cur2 y q
    · rw [List.mem_singleton] at q
      subst q
      exact h2
theorem Cur.one_even {left done : List Nat} {k one : Nat} (R : RI n adj mate root s left k) (C : Cur mate s left k one done) : s.even one = true := (R.mem _).mp (List.mem_of_getElem? C.at_)
/-- all next to one are looked at: one more is done -/
theorem RI.next (M : Mt n adj mate) (g : Gr n adj) {left done : List Nat} {k one : Nat} (R : RI n adj mate root s left k) (C : Cur mate s left k one done) (all : ∀ z, adj one z → z ∈ done) : RI n adj mate root s left (k + 1) := by
  have e : left.take (k + 1) = left.take k ++ [one] := by rw [List.take_add_one, C.at_] <;> rfl
  refine ⟨R.si, R.nd, R.mem, C.lt, fun u hu z ha hz => ?_, fun u hu z hz ha => ?_⟩
  · rw [e] at hu
    rcases List.mem_append.mp hu with q | q
    · exact R.clo1 u q z ha hz
    · rw [List.mem_singleton] at q
      subst q
      exact C.cur1 z (all z ha) hz
  · rw [e] at hu
    rcases List.mem_append.mp hu with q | q
    · rw [e] at hz
      rcases List.mem_append.mp hz with q2 | q2
      · exact R.clo2 u q z q2 ha
      · rw [List.mem_singleton] at q2
        subst q2
        rcases C.cur2 u (all u (g.sym _ _ ha)) (by rw [e]; exact List.mem_append_left _ q) with w | w
        · exact .inl w.symm
        · exact .inr (M.sym _ _ w)
    · rw [List.mem_singleton] at q
      subst q
      exact C.cur2 z (all z ha) hz
/-- one looks at another: nothing to do -/
theorem Cur.skip (M : Mt n adj mate) (M0 : mate root = none) {left done : List Nat} {k one other : Nat} (R : RI n adj mate root s left k) (C : Cur mate s left k one done) (h : s.base one = s.base other ∨ mate one = some other) : Cur mate s left k one (done ++ [other]) := by
  refine C.snoc (fun ho => ?_) fun _ => h
  have h1 := C.one_even R
  obtain ⟨rk, I⟩ := R.si
  rcases h with q | q
  · have e := I.odd_base other ho
    have := I.ev_even one h1
    rw [q, e, ho] at this
    cases this
  · by_cases hb : s.base one = one
    · have hr : one ≠ root := fun e => by rw [e, M0] at q; cases q
      obtain ⟨x, y, k1, k2, k3, _⟩ := I.stem one h1 hb hr
      rw [q] at k1
      cases k1
      exact ⟨by rw [k3]; exact (fun z => nomatch z), by rw [M.sym _ _ q]; exact (fun z => nomatch z)⟩
    · obtain ⟨w, k1, k2, _⟩ := I.inner one h1 hb
      rw [q] at k1
      cases k1
      rw [ho] at k2
      cases k2
theorem Cur.seen {left done : List Nat} {k one other : Nat} (R : RI n adj mate root s left k) (C : Cur mate s left k one done) (h1 : s.even other = false) (h2 : s.back other ≠ none) (h3 : mate other ≠ none) : Cur mate s left k one (done ++ [other]) := by
  refine C.snoc (fun _ => ⟨h2, h3⟩) fun ht => ?_
  have := (R.mem other).mp (List.mem_of_mem_take ht)
  rw [h1] at this
  cases this
theorem step_grow (g : Gr n adj) (M : Mt n adj mate) (M0 : mate root = none) {left done : List Nat} {k one other m : Nat} (R : RI n adj mate root s left k) (C : Cur mate s left k one done)
    (ha : adj one other) (hm : mate one ≠ some other) (h2 : s.even other = false) (h3 : s.back other = none) (h4 : mate other = some m) :
    RI n adj mate root (grw mate s one other m) (left ++ [m]) k ∧ Cur mate (grw mate s one other m) (left ++ [m]) k one (done ++ [other]) := by
  obtain ⟨rk, I⟩ := R.si
  obtain ⟨om, mo, si⟩ := grow_ok g M M0 I (C.one_even R) ha hm h2 h3 h4
  have mon : Mono s (grw mate s one other m) := ⟨fun v hv => or_true hv, fun _ _ e => e, fun v hv => by
    show upd s.back other (some one) v ≠ none
    unfold upd
    split
    · exact fun z => nomatch z
    · exact hv⟩
  have mem : ∀ v, v ∈ left ++ [m] ↔ (grw mate s one other m).even v = true := fun v => by
    show _ ↔ (s.even v || decide (v = m)) = true
    rw [List.mem_append, R.mem, List.mem_singleton, Bool.or_eq_true, decide_eq_true_iff]
  have R' := R.mono mon si (new := [m]) (by
    rw [List.nodup_append]
    refine ⟨R.nd, by simp, fun a h b h' e => ?_⟩
    rw [List.mem_singleton] at h'
    subst e
    rw [h', R.mem, om] at h
    cases h) mem
  refine ⟨R', (C.mono mon).seen R' ?_ ?_ ?_⟩
  · show (s.even other || decide (other = m)) = false
    rw [h2, decide_eq_false (Ne.symm mo)]
    rfl
  · show upd s.back other (some one) other ≠ none
    rw [upd_same]
    exact fun z => nomatch z
  · rw [h4]
    exact fun z => nomatch z
/-- the new even ones, in order -/
def newEven (n : Nat) (s : SS) (W : List Nat) : List Nat := (List.range n).filter fun x => decide (s.base x ∈ W) && !s.even x
theorem step_shrink (g : Gr n adj) (M : Mt n adj mate) (M0 : mate root = none) {left done : List Nat} {k one other top e1 e2 : Nat} {L1 L2 : List (Nat × Nat)} {bs1 bs2 : List Nat} (R : RI n adj mate root s left k) (C : Cur mate s left k one done)
    (I : SI n adj mate root rk s) (ha : adj one other) (hm : mate one ≠ some other)
    (C1 : Climb mate rk s top one L1 e1 bs1) (C2 : Climb mate rk s top other L2 e2 bs2) (dis : ∀ b ∈ bs1, b ∉ bs2) :
    RI n adj mate root (shr s one other top L1 L2) (left ++ newEven n s (within s L1 L2)) k ∧ Cur mate (shr s one other top L1 L2) (left ++ newEven n s (within s L1 L2)) k one (done ++ [other]) := by
  have I' := shrink_ok g M M0 I ha hm C1 C2 dis
  have mon : Mono s (shr s one other top L1 L2) := ⟨fun v hv => or_true hv, fun u v e => by
    show (if s.base u ∈ within s L1 L2 then top else s.base u) = (if s.base v ∈ within s L1 L2 then top else s.base v)
    rw [e], fun v hv => setBack_some (setBack_some hv)⟩
  have mem : ∀ v, v ∈ left ++ newEven n s (within s L1 L2) ↔ (shr s one other top L1 L2).even v = true := fun v => by
    constructor
    · intro h
      rcases List.mem_append.mp h with q | q
      · exact or_true ((R.mem v).mp q)
      · have q2 := (List.mem_filter.mp q).2
        rw [Bool.and_eq_true] at q2
        show (s.even v || decide (s.base v ∈ within s L1 L2)) = true
        rw [q2.1, Bool.or_true]
    · intro h
      rw [List.mem_append, R.mem]
      cases q : s.even v with
      | true => exact .inl rfl
      | false =>
        refine .inr (List.mem_filter.mpr ⟨List.mem_range.mpr (I'.ev_lt v h), ?_⟩)
        have h' : (s.even v || decide (s.base v ∈ within s L1 L2)) = true := h
        rw [q, Bool.false_or] at h'
        rw [h', q]
        rfl
  have R' := R.mono mon ⟨rk, I'⟩ (new := newEven n s (within s L1 L2)) (by
    rw [List.nodup_append]
    refine ⟨R.nd, List.Nodup.sublist List.filter_sublist List.nodup_range, fun a h b h' e => ?_⟩
    subst e
    have q2 := (List.mem_filter.mp h').2
    rw [Bool.and_eq_true, (R.mem _).mp h] at q2
    cases q2.2) mem
  have bt : ∀ {v e : Nat} {L : List (Nat × Nat)} {bs : List Nat}, Climb mate rk s top v L e bs → (∀ x ∈ (flat L).map s.base, x ∈ within s L1 L2) → (shr s one other top L1 L2).base v = top := by
    intro v e L bs c sub
    show (if s.base v ∈ within s L1 L2 then top else s.base v) = top
    by_cases h : s.base v ∈ within s L1 L2
    · rw [if_pos h]
    · rw [if_neg h]
      cases c with
      | here _ h2 => exact h2
      | up a b al nd hb m ox kk r c' =>
        exfalso
        refine h (sub _ ?_)
        rw [flat_app, flat_cons, List.map_append]
        refine List.mem_append_right _ ?_
        rw [List.map_cons, I.ev_base]
        exact List.mem_cons_self
  have b1 := bt C1 fun x hx => List.mem_append_left _ hx
  have b2 := bt C2 fun x hx => List.mem_append_right _ hx
  refine ⟨R', (C.mono mon).snoc (fun ho => ?_) fun _ => .inl (b1.trans b2.symm)⟩
  have := mon.ev _ C2.ev
  rw [this] at ho
  cases ho
/-- the search has ended without an answer: the closing facts -/
theorem RI.ends {left : List Nat} (R : RI n adj mate root s left left.length) :
    (∀ u z, s.even u = true → adj u z → s.even z = false → s.back z ≠ none) ∧ (∀ u z, s.even u = true → s.even z = true → adj u z → s.base u = s.base z ∨ mate u = some z) := by
  have e : left.take left.length = left := List.take_length
  refine ⟨fun u z hu ha hz => (R.clo1 u (by rw [e]; exact (R.mem u).mpr hu) z ha hz).1, fun u z hu hz ha => R.clo2 u (by rw [e]; exact (R.mem u).mpr hu) z (by rw [e]; exact (R.mem z).mpr hz) ha⟩
end
end Gv
/-! Plain mathematics: turning a plan along a way; plans as lists of pairs; the exchange. -/
namespace Gv
/-! ### ways from the root's side -/
inductive Pth (adj : Nat → Nat → Prop) (f : Nat → Option Nat) : Nat → List Nat → Nat → Prop
  | nil (u : Nat) : Pth adj f u [] u
  | step {u a b e : Nat} {r : List Nat} : adj u a → f u ≠ some a → f a = some b → Pth adj f b r e → Pth adj f u (a :: b :: r) e
theorem Pth.snoc {adj : Nat → Nat → Prop} {f : Nat → Option Nat} {u e a b : Nat} {r : List Nat} (h : Pth adj f u r e) (h1 : adj e a) (h2 : f e ≠ some a) (h3 : f a = some b) : Pth adj f u (r ++ [a, b]) b := by
  induction h with
  | nil _ => exact .step h1 h2 h3 (.nil _)
  | step a1 a2 a3 _ ih => exact .step a1 a2 a3 (ih h1 h2)
theorem Alt.pth {n : Nat} {adj : Nat → Nat → Prop} {mate back : Nat → Option Nat} (g : Gr n adj) (M : Mt n adj mate) (he : ∀ w u, back w = some u → adj w u ∧ mate w ≠ some u) {v t : Nat} {L : List (Nat × Nat)} (h : Alt mate back v L t) :
    Pth adj mate t (flat L).reverse v := by
  induction h with
  | nil _ => exact .nil _
  | @step v w u t L a b _ ih =>
    rw [flat_cons, List.reverse_cons, List.reverse_cons, List.append_assoc]
    obtain ⟨e1, e2⟩ := he _ _ b
    exact ih.snoc (g.sym _ _ e1) (fun z => e2 (M.sym _ _ z)) (M.sym _ _ a)

def nrm (u v : Nat) : Nat × Nat := (min u v, max u v)
theorem nrm_comm (u v : Nat) : nrm u v = nrm v u := by
  unfold nrm; rw [Nat.min_comm, Nat.max_comm]
theorem nrm_lt {u v : Nat} (h : u < v) : nrm u v = (u, v) := by
  unfold nrm; rw [Nat.min_eq_left (Nat.le_of_lt h), Nat.max_eq_right (Nat.le_of_lt h)]
theorem nrm_cases (u v : Nat) : nrm u v = (u, v) ∨ nrm u v = (v, u) := by
  unfold nrm
  rcases Nat.le_total u v with h | h
  · left; rw [Nat.min_eq_left h, Nat.max_eq_right h]
  · right; rw [Nat.min_eq_right h, Nat.max_eq_left h]
theorem nrm_eq {a b c d : Nat} (h : nrm a b = nrm c d) : (a = c ∧ b = d) ∨ (a = d ∧ b = c) := by
  rcases nrm_cases a b with e | e <;> rcases nrm_cases c d with e' | e' <;> rw [e, e'] at h <;> injection h with h1 h2
  · exact .inl ⟨h1, h2⟩
  · exact .inr ⟨h1, h2⟩
  · exact .inr ⟨h2, h1⟩
  · exact .inl ⟨h2, h1⟩
/-- the pairs of a way as it goes -/
def stp : List Nat → List (Nat × Nat)
  | u :: a :: r => nrm u a :: stp (a :: r)
  | _ => []
theorem stp_mem : ∀ {l : List Nat} {q : Nat × Nat}, q ∈ stp l → q.1 ∈ l ∧ q.2 ∈ l
  | [], q, h => nomatch h
  | [_], q, h => nomatch h
  | u :: a :: r, q, h => by
    rcases List.mem_cons.mp (show q ∈ nrm u a :: stp (a :: r) from h) with e | h
    · subst e
      rcases nrm_cases u a with e | e <;> rw [e] <;> simp
    · obtain ⟨h1, h2⟩ := stp_mem h
      exact ⟨List.mem_cons_of_mem _ h1, List.mem_cons_of_mem _ h2⟩
/-- the pairs P are those of the partners f -/
structure Pl (P : Nat × Nat → Prop) (f : Nat → Option Nat) : Prop where
  lt : ∀ q, P q → q.1 < q.2
  iff : ∀ u v, u ≠ v → (P (nrm u v) ↔ f u = some v)
theorem Pl.congr {P P' : Nat × Nat → Prop} {f : Nat → Option Nat} (h : Pl P f) (e : ∀ q, P' q ↔ P q) : Pl P' f :=
  ⟨fun q k => h.lt q ((e q).mp k), fun u v n => (e _).trans (h.iff u v n)⟩
def flp (f : Nat → Option Nat) (u a b : Nat) : Nat → Option Nat := fun x => if x = u then some a else if x = a then some u else if x = b then none else f x
def Tnd (P : Nat × Nat → Prop) (S : List (Nat × Nat)) (q : Nat × Nat) : Prop := (P q ∧ q ∉ S) ∨ (q ∈ S ∧ ¬ P q)

section
variable {n : Nat} {adj : Nat → Nat → Prop}
/-- one more pair between two that are free -/
def pr (f : Nat → Option Nat) (u v : Nat) : Nat → Option Nat := fun x => if x = u then some v else if x = v then some u else f x
theorem pr_u {f : Nat → Option Nat} {u v : Nat} : pr f u v u = some v := by unfold pr; rw [if_pos rfl]
theorem pr_v {f : Nat → Option Nat} {u v : Nat} (h : v ≠ u) : pr f u v v = some u := by unfold pr; rw [if_neg h, if_pos rfl]
theorem pr_ne {f : Nat → Option Nat} {u v x : Nat} (h1 : x ≠ u) (h2 : x ≠ v) : pr f u v x = f x := by unfold pr; rw [if_neg h1, if_neg h2]
theorem pr_mt (g : Gr n adj) {f : Nat → Option Nat} (M : Mt n adj f) {u v : Nat} (ha : adj u v) (hu : f u = none) (hv : f v = none) : Mt n adj (pr f u v) := by
  have uv : v ≠ u := fun e => by subst e; exact g.irr _ ha
  refine ⟨fun x y h => ?_, fun x y h => ?_⟩
  · by_cases e1 : x = u
    · subst e1
      rw [pr_u] at h
      cases h
      exact pr_v uv
    · by_cases e2 : x = v
      · subst e2
        rw [pr_v uv] at h
        cases h
        exact pr_u
      · rw [pr_ne e1 e2] at h
        have k := M.sym _ _ h
        rw [pr_ne ?_ ?_]
        · exact k
        · intro e; rw [e, hu] at k; cases k
        · intro e; rw [e, hv] at k; cases k
  · by_cases e1 : x = u
    · subst e1
      rw [pr_u] at h
      cases h
      exact ha
    · by_cases e2 : x = v
      · subst e2
        rw [pr_v uv] at h
        cases h
        exact g.sym _ _ ha
      · rw [pr_ne e1 e2] at h
        exact M.adj _ _ h
theorem pr_some {f : Nat → Option Nat} {u v x : Nat} (h : f x ≠ none ∨ x = u ∨ x = v) : pr f u v x ≠ none := by
  unfold pr
  split
  · exact fun z => nomatch z
  · split
    · exact fun z => nomatch z
    · rename_i h1 h2
      rcases h with h | h | h
      · exact h
      · exact absurd h h1
      · exact absurd h h2
/-- a pair is given up -/
def cut (f : Nat → Option Nat) (u v : Nat) : Nat → Option Nat := fun x => if x = u ∨ x = v then none else f x
theorem cut_no {f : Nat → Option Nat} {u v x : Nat} (h : x = u ∨ x = v) : cut f u v x = none := if_pos h
theorem cut_ne {f : Nat → Option Nat} {u v x : Nat} (h1 : x ≠ u) (h2 : x ≠ v) : cut f u v x = f x := if_neg fun z => z.elim h1 h2
theorem cut_mt {f : Nat → Option Nat} (M : Mt n adj f) {u v : Nat} (h : f u = some v) : Mt n adj (cut f u v) := by
  have k := M.sym _ _ h
  refine ⟨fun x y e => ?_, fun x y e => ?_⟩
  · by_cases e1 : x = u ∨ x = v
    · rw [cut_no e1] at e; cases e
    · have f1 : x ≠ u := fun z => e1 (.inl z)
      have f2 : x ≠ v := fun z => e1 (.inr z)
      rw [cut_ne f1 f2] at e
      rw [cut_ne ?_ ?_]
      · exact M.sym _ _ e
      · intro z; rw [z] at e; exact f2 (M.inj e k)
      · intro z; rw [z] at e; exact f1 (M.inj e h)
  · by_cases e1 : x = u ∨ x = v
    · rw [cut_no e1] at e; cases e
    · rw [cut_ne (fun z => e1 (.inl z)) (fun z => e1 (.inr z))] at e
      exact M.adj _ _ e
theorem cut_of {f : Nat → Option Nat} {u v x : Nat} (h : cut f u v x ≠ none) : f x ≠ none ∧ x ≠ u ∧ x ≠ v := by
  by_cases e1 : x = u ∨ x = v
  · exact absurd (cut_no e1) h
  · have f1 : x ≠ u := fun z => e1 (.inl z)
    have f2 : x ≠ v := fun z => e1 (.inr z)
    rw [cut_ne f1 f2] at h
    exact ⟨h, f1, f2⟩

theorem Pl.pr {P : Nat × Nat → Prop} {f : Nat → Option Nat} (h : Pl P f) {u v : Nat} (uv : u ≠ v) (hu : f u = none) (hv : f v = none) (sym : ∀ x y, f x = some y → f y = some x) : Pl (fun q => P q ∨ q = nrm u v) (Gv.pr f u v) := by
  have nlt : ∀ a b : Nat, a ≠ b → (nrm a b).1 < (nrm a b).2 := fun a b ne => by
    unfold nrm
    show min a b < max a b
    omega
  refine ⟨fun q k => ?_, fun x y ne => ?_⟩
  · rcases k with k | k
    · exact h.lt q k
    · subst k; exact nlt u v uv
  · constructor
    · rintro (k | k)
      · have e := (h.iff x y ne).mp k
        have e' := sym _ _ e
        rw [pr_ne ?_ ?_]
        · exact e
        · intro z; rw [z, hu] at e; cases e
        · intro z; rw [z, hv] at e; cases e
      · rcases nrm_eq k with ⟨e1, e2⟩ | ⟨e1, e2⟩
        · subst e1; subst e2; exact pr_u
        · subst e1; subst e2; exact pr_v ne
    · intro k
      by_cases e1 : x = u
      · subst e1
        rw [pr_u] at k
        cases k
        exact .inr rfl
      · by_cases e2 : x = v
        · subst e2
          rw [pr_v e1] at k
          cases k
          exact .inr (nrm_comm _ _)
        · rw [pr_ne e1 e2] at k
          exact .inl ((h.iff x y ne).mpr k)
theorem Pl.cut {P : Nat × Nat → Prop} {f : Nat → Option Nat} (h : Pl P f) {u v : Nat} (e : f u = some v) (sym : ∀ x y, f x = some y → f y = some x) : Pl (fun q => P q ∧ q ≠ nrm u v) (Gv.cut f u v) := by
  refine ⟨fun q k => h.lt q k.1, fun x y ne => ?_⟩
  constructor
  · rintro ⟨k1, k2⟩
    have e1 := (h.iff x y ne).mp k1
    rw [cut_ne ?_ ?_]
    · exact e1
    · intro z
      rw [z, e] at e1
      cases e1
      exact k2 (by rw [z])
    · intro z
      rw [z, sym _ _ e] at e1
      cases e1
      exact k2 (by rw [z, nrm_comm])
  · intro k
    have hk : Gv.cut f u v x ≠ none := by rw [k]; exact fun z => nomatch z
    obtain ⟨_, k2, k3⟩ := cut_of hk
    rw [cut_ne k2 k3] at k
    refine ⟨(h.iff x y ne).mpr k, fun z => ?_⟩
    rcases nrm_eq z with ⟨e1, _⟩ | ⟨e1, _⟩
    · exact k2 e1
    · exact k3 e1

/-- TURNING along a way from one who is not served -/
theorem flip (g : Gr n adj) : ∀ {r : List Nat} {P : Nat × Nat → Prop} {f : Nat → Option Nat} {u e : Nat}, Mt n adj f → Pl P f → f u = none → Pth adj f u r e → (u :: r).Nodup →
    ∃ f', Mt n adj f' ∧ Pl (Tnd P (stp (u :: r))) f' ∧ f' e = none ∧ (∀ x, x ≠ e → (x = u ∨ f x ≠ none) → f' x ≠ none) ∧ (∀ x, x ∉ u :: r → f' x = f x) := by
  intro r
  induction hk : r.length using Nat.strongRecOn generalizing r with
  | _ k ih =>
  intro P f u e M h hu p nd
  cases p with
  | nil _ =>
    refine ⟨f, M, h.congr fun q => ?_, hu, fun x hx hx' => ?_, fun x _ => rfl⟩
    · show (P q ∧ q ∉ ([] : List (Nat × Nat))) ∨ (q ∈ ([] : List (Nat × Nat)) ∧ ¬ P q) ↔ P q
      simp
    · rcases hx' with q | q
      · exact absurd q hx
      · exact q
  | @step _ a b _ r a1 a2 a3 p' =>
    have hb := M.sym _ _ a3
    rw [List.nodup_cons, List.nodup_cons] at nd
    obtain ⟨n1, n2, n3⟩ := nd
    have ua : u ≠ a := fun z => n1 (by rw [z]; exact List.mem_cons_self)
    have ub : u ≠ b := fun z => n1 (by rw [z]; exact List.mem_cons_of_mem _ List.mem_cons_self)
    have ur : u ∉ r := fun z => n1 (List.mem_cons_of_mem _ (List.mem_cons_of_mem _ z))
    have ab : a ≠ b := fun z => n2 (by rw [z]; exact List.mem_cons_self)
    have ar : a ∉ r := fun z => n2 (List.mem_cons_of_mem _ z)
    have br : b ∉ r := (List.nodup_cons.mp n3).1
    -- the first two pairs turned
    have M1 := cut_mt M a3
    have hu1 : cut f a b u = none := by rw [cut_ne ua ub]; exact hu
    have ha1 : cut f a b a = none := cut_no (.inl rfl)
    have M2 := pr_mt g M1 a1 hu1 ha1
    have h1 := h.cut a3 M.sym
    have h2 := h1.pr ua hu1 ha1 M1.sym
    have fb : pr (cut f a b) u a b = none := by rw [pr_ne (Ne.symm ub) (Ne.symm ab)]; exact cut_no (.inr rfl)
    have far : ∀ x ∈ r, pr (cut f a b) u a x = f x := fun x hx => by
      have xu : x ≠ u := fun z => ur (by rw [← z]; exact hx)
      have xa : x ≠ a := fun z => ar (by rw [← z]; exact hx)
      have xb : x ≠ b := fun z => br (by rw [← z]; exact hx)
      rw [pr_ne xu xa, cut_ne xa xb]
    have pcong : ∀ {r' : List Nat} {w e : Nat}, Pth adj f w r' e → (∀ x ∈ r', pr (cut f a b) u a x = f x) → (pr (cut f a b) u a w = f w ∨ pr (cut f a b) u a w = none) → Pth adj (pr (cut f a b) u a) w r' e := by
      intro r' w e q
      induction q with
      | nil _ => intro _ _; exact .nil _
      | @step w c d e r' q1 q2 q3 _ ihq =>
        intro k1 k2
        refine .step q1 ?_ ?_ (ihq (fun x hx => k1 x (List.mem_cons_of_mem _ (List.mem_cons_of_mem _ hx))) (.inl (k1 d (List.mem_cons_of_mem _ List.mem_cons_self))))
        · rcases k2 with k2 | k2
          · rw [k2]; exact q2
          · rw [k2]; exact fun z => nomatch z
        · rw [k1 c List.mem_cons_self]; exact q3
    obtain ⟨f', F1, F2, F3, F4, F5⟩ := ih r.length (by rw [← hk]; exact Nat.lt_of_lt_of_le (Nat.lt_succ_self _) (Nat.le_succ _)) rfl M2 h2 fb (pcong p' far (.inr fb)) n3
    refine ⟨f', F1, F2.congr fun q => ?_, F3, fun x hx hx' => ?_, fun x hx => ?_⟩
    · -- the pairs
      have nua : nrm u a ∉ stp (b :: r) := fun z => by
        have := stp_mem z
        rcases nrm_cases u a with e | e <;> rw [e] at this
        · rcases List.mem_cons.mp this.1 with w | w
          · exact ub w
          · exact ur w
        · rcases List.mem_cons.mp this.2 with w | w
          · exact ub w
          · exact ur w
      have nab : nrm a b ∉ stp (b :: r) := fun z => by
        have := stp_mem z
        rcases nrm_cases a b with e | e <;> rw [e] at this
        · rcases List.mem_cons.mp this.1 with w | w
          · exact ab w
          · exact ar w
        · rcases List.mem_cons.mp this.2 with w | w
          · exact ab w
          · exact ar w
      have pua : ¬ P (nrm u a) := fun z => a2 ((h.iff u a ua).mp z)
      have pab : P (nrm a b) := (h.iff a b ab).mpr a3
      have ne : nrm u a ≠ nrm a b := fun z => by rw [z] at pua; exact pua pab
      show (P q ∧ q ∉ nrm u a :: nrm a b :: stp (b :: r)) ∨ (q ∈ nrm u a :: nrm a b :: stp (b :: r) ∧ ¬ P q) ↔ (((P q ∧ q ≠ nrm a b) ∨ q = nrm u a) ∧ q ∉ stp (b :: r)) ∨ (q ∈ stp (b :: r) ∧ ¬ ((P q ∧ q ≠ nrm a b) ∨ q = nrm u a))
      by_cases q1 : q = nrm u a
      · subst q1
        simp [nua, pua]
      · by_cases q2 : q = nrm a b
        · subst q2
          simp [nab, pab, Ne.symm ne]
        · simp [q1, q2]
    · refine F4 x hx ?_
      by_cases q : x = b
      · exact .inl q
      · refine .inr (pr_some ?_)
        by_cases q2 : x = u
        · exact .inr (.inl q2)
        · by_cases q3 : x = a
          · exact .inr (.inr q3)
          · rcases hx' with w | w
            · exact absurd w q2
            · exact .inl (by rw [cut_ne q3 q]; exact w)
    · have x1 : x ∉ b :: r := fun z => hx (List.mem_cons_of_mem _ (List.mem_cons_of_mem _ z))
      rw [F5 x x1, pr_ne (fun z => hx (by rw [z]; exact List.mem_cons_self)) (fun z => hx (by rw [z]; exact List.mem_cons_of_mem _ List.mem_cons_self)), cut_ne (fun z => hx (by rw [z]; exact List.mem_cons_of_mem _ List.mem_cons_self)) (fun z => x1 (by rw [z]; exact List.mem_cons_self))]
theorem stp_snoc : ∀ {l : List Nat} {e z : Nat}, stp (l ++ [e, z]) = stp (l ++ [e]) ++ [nrm e z]
  | [], _, _ => rfl
  | [a], e, z => rfl
  | a :: b :: l, e, z => by
    show nrm a b :: stp (b :: l ++ [e, z]) = nrm a b :: stp (b :: l ++ [e]) ++ [nrm e z]
    rw [stp_snoc (l := b :: l)]
    rfl
theorem Pth.last {f : Nat → Option Nat} {u e : Nat} {r : List Nat} (h : Pth adj f u r e) : ∃ l, u :: r = l ++ [e] := by
  induction h with
  | nil u => exact ⟨[], rfl⟩
  | @step u a b e r _ _ _ _ ih =>
    obtain ⟨l, h⟩ := ih
    exact ⟨u :: a :: l, by rw [h]; rfl⟩
/-- .. and one more, who is not served either, at its end -/
theorem flip_last (g : Gr n adj) {r : List Nat} {P : Nat × Nat → Prop} {f : Nat → Option Nat} {u e z : Nat} (M : Mt n adj f) (h : Pl P f) (hu : f u = none) (p : Pth adj f u r e) (nd : (u :: r).Nodup)
    (hz : f z = none) (zr : z ∉ u :: r) (ez : adj e z) :
    ∃ f', Mt n adj f' ∧ Pl (Tnd P (stp (u :: r ++ [z]))) f' ∧ (∀ x, (x = u ∨ x = z ∨ f x ≠ none) → f' x ≠ none) := by
  obtain ⟨f', F1, F2, F3, F4, F5⟩ := flip g M h hu p nd
  have hz' : f' z = none := by rw [F5 z zr]; exact hz
  have ne : e ≠ z := fun q => g.irr z (q ▸ ez)
  refine ⟨pr f' e z, pr_mt g F1 ez F3 hz', (F2.pr ne F3 hz' F1.sym).congr fun q => ?_, fun x hx => pr_some ?_⟩
  · obtain ⟨l, hl⟩ := p.last
    have el : u :: r ++ [z] = l ++ [e, z] := by rw [hl, List.append_assoc]; rfl
    rw [el, stp_snoc, ← hl]
    have pz : ¬ P (nrm e z) := fun q => by
      have := M.sym _ _ ((h.iff e z ne).mp q)
      rw [hz] at this
      cases this
    have sz : nrm e z ∉ stp (u :: r) := fun q => by
      have := stp_mem q
      rcases nrm_cases e z with w | w <;> rw [w] at this
      · exact zr this.2
      · exact zr this.1
    unfold Tnd
    by_cases q1 : q = nrm e z
    · subst q1
      simp [pz, sz]
    · simp [q1]
  · by_cases q : x = e
    · exact .inr (.inl q)
    · rcases hx with w | w | w
      · exact .inl (F4 x q (.inl w))
      · exact .inr (.inr w)
      · exact .inl (F4 x q (.inr w))

/-! ### the exchange -/
/-- from f a plan can be had that serves a, too, and is changed at b besides -/
def Gd (n : Nat) (adj : Nat → Nat → Prop) (f g : Nat → Option Nat) (a b : Nat) : Prop := b ≠ a ∧ ((f b = none ∧ g b ≠ none) ∨ (f b ≠ none ∧ g b = none)) ∧
  ∃ f', Mt n adj f' ∧ ∀ x, f' x ≠ none ↔ (if x = a then True else if x = b then f x = none else f x ≠ none)
/-- whom g serves and f does not: each has an end of his own -/
theorem strand (gr : Gr n adj) : ∀ (k : Nat) {f g : Nat → Option Nat} {V : List Nat}, V.length ≤ k → Mt n adj f → Mt n adj g → (∀ v, g v ≠ none → v ∈ V) →
    ∃ p : Nat → Nat, (∀ a, f a = none → g a ≠ none → Gd n adj f g a (p a)) ∧
      (∀ a b, f a = none → g a ≠ none → f b = none → g b ≠ none → p a = p b → a = b) := by
  intro k
  induction k with
  | zero =>
    intro f g V hV _ _ hg
    have : V = [] := List.eq_nil_of_length_eq_zero (Nat.le_zero.mp hV)
    subst this
    exact ⟨fun x => x, fun a _ h => absurd (hg a h) (by simp), fun a b _ h => absurd (hg a h) (by simp)⟩
  | succ k ih =>
    intro f g V hV F G hg
    by_cases hA : ∃ a, f a = none ∧ g a ≠ none
    · obtain ⟨a0, fa, ga⟩ := hA
      cases hx : g a0 with
      | none => exact absurd hx ga
      | some x =>
        have gx := G.sym _ _ hx
        have adjx := G.adj _ _ hx
        have xa : x ≠ a0 := fun e => by rw [e] at adjx; exact gr.irr _ adjx
        have G1 := cut_mt G hx
        have V1 : (V.erase a0).length ≤ k := by
          rw [List.length_erase_of_mem (hg a0 ga)]
          have := List.length_pos_of_mem (hg a0 ga)
          omega
        have hg1 : ∀ v, cut g a0 x v ≠ none → v ∈ V.erase a0 := fun v hv => by
          obtain ⟨h1, h2, h3⟩ := cut_of hv
          exact (List.mem_erase_of_ne h2).mpr (hg v h1)
        have g1 : ∀ v, v ≠ a0 → v ≠ x → cut g a0 x v = g v := fun v h1 h2 => cut_ne h1 h2
        have g1a : cut g a0 x a0 = none := cut_no (.inl rfl)
        have g1x : cut g a0 x x = none := cut_no (.inr rfl)
        cases fx : f x with
        | none =>
          obtain ⟨p, P1, P2⟩ := ih V1 F G1 hg1
          have inA : ∀ a, f a = none → g a ≠ none → a ≠ a0 → a ≠ x → cut g a0 x a ≠ none := fun a _ h2 h3 h4 => by rw [g1 a h3 h4]; exact h2
          have pin : ∀ a, f a = none → g a ≠ none → a ≠ a0 → a ≠ x → p a ≠ a0 ∧ p a ≠ x := fun a h1 h2 h3 h4 => by
            obtain ⟨_, q, _⟩ := P1 a h1 (inA a h1 h2 h3 h4)
            refine ⟨fun e => ?_, fun e => ?_⟩ <;> rw [e] at q
            · rcases q with ⟨_, q⟩ | ⟨q, _⟩
              · exact q g1a
              · exact q fa
            · rcases q with ⟨_, q⟩ | ⟨q, _⟩
              · exact q g1x
              · exact q fx
          refine ⟨fun a => if a = a0 then x else if a = x then a0 else p a, fun a h1 h2 => ?_, fun a b h1 h2 h3 h4 e => ?_⟩
          · dsimp only
            by_cases e1 : a = a0
            · subst e1
              rw [if_pos rfl]
              refine ⟨xa, .inl ⟨fx, by rw [gx]; exact fun z => nomatch z⟩, pr f a x, pr_mt gr F adjx fa fx, fun y => ?_⟩
              by_cases y1 : y = a
              · subst y1
                rw [if_pos rfl, pr_u]
                simp
              · by_cases y2 : y = x
                · subst y2
                  rw [if_neg y1, if_pos rfl, pr_v y1]
                  simp [fx]
                · rw [if_neg y1, if_neg y2, pr_ne y1 y2]
            · by_cases e2 : a = x
              · subst e2
                rw [if_neg e1, if_pos rfl]
                refine ⟨Ne.symm e1, .inl ⟨fa, ga⟩, pr f a0 a, pr_mt gr F adjx fa fx, fun y => ?_⟩
                by_cases y1 : y = a
                · subst y1
                  rw [if_pos rfl, pr_v e1]
                  simp
                · by_cases y2 : y = a0
                  · subst y2
                    rw [if_neg y1, if_pos rfl, pr_u]
                    simp [fa]
                  · rw [if_neg y1, if_neg y2, pr_ne y2 y1]
              · rw [if_neg e1, if_neg e2]
                obtain ⟨q1, q2, q3⟩ := P1 a h1 (inA a h1 h2 e1 e2)
                obtain ⟨r1, r2⟩ := pin a h1 h2 e1 e2
                rw [g1 _ r1 r2] at q2
                exact ⟨q1, q2, q3⟩
          · have e' : (if a = a0 then x else if a = x then a0 else p a) = (if b = a0 then x else if b = x then a0 else p b) := e
            by_cases e1 : a = a0
            · rw [if_pos e1] at e'
              by_cases f1 : b = a0
              · rw [e1, f1]
              · rw [if_neg f1] at e'
                by_cases f2 : b = x
                · rw [if_pos f2] at e'
                  exact absurd e' xa
                · rw [if_neg f2] at e'
                  exact absurd e'.symm (pin b h3 h4 f1 f2).2
            · rw [if_neg e1] at e'
              by_cases e2 : a = x
              · rw [if_pos e2] at e'
                by_cases f1 : b = a0
                · rw [if_pos f1] at e'
                  exact absurd e'.symm xa
                · rw [if_neg f1] at e'
                  by_cases f2 : b = x
                  · rw [e2, f2]
                  · rw [if_neg f2] at e'
                    exact absurd e'.symm (pin b h3 h4 f1 f2).1
              · rw [if_neg e2] at e'
                by_cases f1 : b = a0
                · rw [if_pos f1] at e'
                  exact absurd e' (pin a h1 h2 e1 e2).2
                · rw [if_neg f1] at e'
                  by_cases f2 : b = x
                  · rw [if_pos f2] at e'
                    exact absurd e' (pin a h1 h2 e1 e2).1
                  · rw [if_neg f2] at e'
                    exact P2 a b h1 (inA a h1 h2 e1 e2) h3 (inA b h3 h4 f1 f2) e'
        | some y =>
          have fy := F.sym _ _ fx
          have ya : y ≠ a0 := fun e => by rw [e, fa] at fy; cases fy
          have yx : y ≠ x := fun e => by have := F.adj _ _ fx; rw [e] at this; exact gr.irr _ this
          have F1 := cut_mt F fx
          have f1x : cut f x y x = none := cut_no (.inl rfl)
          have f1y : cut f x y y = none := cut_no (.inr rfl)
          have f1a : cut f x y a0 = none := by rw [cut_ne (Ne.symm xa) (Ne.symm ya)]; exact fa
          have f1 : ∀ v, v ≠ x → v ≠ y → cut f x y v = f v := fun v h1 h2 => cut_ne h1 h2
          obtain ⟨p, P1, P2⟩ := ih V1 F1 G1 hg1
          have axy := F.adj _ _ fx
          -- members of the lesser world
          have up : ∀ a, f a = none → g a ≠ none → a ≠ a0 → cut f x y a = none ∧ cut g a0 x a ≠ none := fun a h1 h2 h3 => by
            have ax : a ≠ x := fun e => by rw [e, fx] at h1; cases h1
            have ay : a ≠ y := fun e => by rw [e, fy] at h1; cases h1
            exact ⟨by rw [f1 a ax ay]; exact h1, by rw [g1 a h3 ax]; exact h2⟩
          have pin : ∀ a, cut f x y a = none → cut g a0 x a ≠ none → p a ≠ a0 ∧ p a ≠ x := fun a h1 h2 => by
            obtain ⟨_, q, _⟩ := P1 a h1 h2
            refine ⟨fun e => ?_, fun e => ?_⟩ <;> rw [e] at q
            · rcases q with ⟨_, q⟩ | ⟨q, _⟩
              · exact q g1a
              · exact q f1a
            · rcases q with ⟨_, q⟩ | ⟨q, _⟩
              · exact q g1x
              · exact q f1x
          cases gy : g y with
          | none =>
            -- y is an end
            have py : ∀ a, cut f x y a = none → cut g a0 x a ≠ none → p a ≠ y := fun a h1 h2 e => by
              obtain ⟨_, q, _⟩ := P1 a h1 h2
              rw [e] at q
              rcases q with ⟨_, q⟩ | ⟨q, _⟩
              · exact q (by rw [g1 y ya yx]; exact gy)
              · exact q f1y
            refine ⟨fun a => if a = a0 then y else p a, fun a h1 h2 => ?_, fun a b h1 h2 h3 h4 e => ?_⟩
            · dsimp only
              by_cases e1 : a = a0
              · subst e1
                rw [if_pos rfl]
                refine ⟨ya, .inr ⟨by rw [fy]; exact (fun z => by cases z), gy⟩, pr (cut f x y) a x, pr_mt gr F1 adjx f1a f1x, fun z => ?_⟩
                by_cases z1 : z = a
                · subst z1
                  rw [if_pos rfl, pr_u]
                  simp
                · by_cases z2 : z = y
                  · subst z2
                    rw [if_neg z1, if_pos rfl, pr_ne z1 yx, f1y]
                    simp [fy]
                  · by_cases z3 : z = x
                    · subst z3
                      rw [if_neg z1, if_neg z2, pr_v z1]
                      simp [fx]
                    · rw [if_neg z1, if_neg z2, pr_ne z1 z3, f1 z z3 z2]
              · rw [if_neg e1]
                obtain ⟨u1, u2⟩ := up a h1 h2 e1
                obtain ⟨q1, q2, f', q3, q4⟩ := P1 a u1 u2
                obtain ⟨r1, r2⟩ := pin a u1 u2
                have r3 := py a u1 u2
                have ax : a ≠ x := fun e => by rw [e, fx] at h1; cases h1
                have ay : a ≠ y := fun e => by rw [e, fy] at h1; cases h1
                rw [g1 _ r1 r2, f1 _ r2 r3] at q2
                have nx : f' x = none := by
                  cases w : f' x with
                  | none => rfl
                  | some z =>
                    have := (q4 x).mp (by rw [w]; exact fun z => nomatch z)
                    rw [if_neg (Ne.symm ax), if_neg (Ne.symm r2)] at this
                    exact absurd f1x this
                have ny : f' y = none := by
                  cases w : f' y with
                  | none => rfl
                  | some z =>
                    have := (q4 y).mp (by rw [w]; exact fun z => nomatch z)
                    rw [if_neg (Ne.symm ay), if_neg (Ne.symm r3)] at this
                    exact absurd f1y this
                refine ⟨q1, q2, pr f' x y, pr_mt gr q3 axy nx ny, fun z => ?_⟩
                by_cases z1 : z = x
                · subst z1
                  rw [if_neg (Ne.symm ax), if_neg (Ne.symm r2), pr_u]
                  simp [fx]
                · by_cases z2 : z = y
                  · subst z2
                    rw [if_neg (Ne.symm ay), if_neg (Ne.symm r3), pr_v yx]
                    simp [fy]
                  · rw [pr_ne z1 z2, q4 z, f1 z z1 z2]
            · have e' : (if a = a0 then y else p a) = (if b = a0 then y else p b) := e
              by_cases e1 : a = a0
              · by_cases e2 : b = a0
                · rw [e1, e2]
                · rw [if_pos e1, if_neg e2] at e'
                  obtain ⟨u1, u2⟩ := up b h3 h4 e2
                  exact absurd e'.symm (py b u1 u2)
              · by_cases e2 : b = a0
                · rw [if_neg e1, if_pos e2] at e'
                  obtain ⟨u1, u2⟩ := up a h1 h2 e1
                  exact absurd e' (py a u1 u2)
                · rw [if_neg e1, if_neg e2] at e'
                  obtain ⟨u1, u2⟩ := up a h1 h2 e1
                  obtain ⟨v1, v2⟩ := up b h3 h4 e2
                  exact P2 a b u1 u2 v1 v2 e'
          | some y' =>
            have yA1 : cut f x y y = none := f1y
            have yA2 : cut g a0 x y ≠ none := by rw [g1 y ya yx, gy]; exact fun z => nomatch z
            obtain ⟨Y1, Y2, fY, Y3, Y4⟩ := P1 y yA1 yA2
            obtain ⟨py0, pyx⟩ := pin y yA1 yA2
            refine ⟨fun a => if a = a0 then p y else if p a = y then a0 else p a, fun a h1 h2 => ?_, fun a b h1 h2 h3 h4 e => ?_⟩
            · dsimp only
              by_cases e1 : a = a0
              · subst e1
                rw [if_pos rfl]
                rw [g1 _ py0 pyx, f1 _ pyx Y1] at Y2
                have nx : fY x = none := by
                  cases w : fY x with
                  | none => rfl
                  | some z =>
                    have := (Y4 x).mp (by rw [w]; exact fun z => nomatch z)
                    rw [if_neg (Ne.symm yx), if_neg (Ne.symm pyx)] at this
                    exact absurd f1x this
                have na : fY a = none := by
                  cases w : fY a with
                  | none => rfl
                  | some z =>
                    have := (Y4 a).mp (by rw [w]; exact fun z => nomatch z)
                    rw [if_neg (Ne.symm ya), if_neg (Ne.symm py0)] at this
                    exact absurd f1a this
                refine ⟨py0, Y2, pr fY a x, pr_mt gr Y3 adjx na nx, fun z => ?_⟩
                by_cases z1 : z = a
                · subst z1
                  rw [if_pos rfl, pr_u]
                  simp
                · by_cases z2 : z = x
                  · subst z2
                    rw [if_neg z1, if_neg (Ne.symm pyx), pr_v z1]
                    simp [fx]
                  · rw [if_neg z1, pr_ne z1 z2, Y4 z]
                    by_cases z3 : z = y
                    · subst z3
                      rw [if_pos rfl, if_neg (Ne.symm Y1)]
                      simp [fy]
                    · rw [if_neg z3, f1 z z2 z3]
              · rw [if_neg e1]
                obtain ⟨u1, u2⟩ := up a h1 h2 e1
                obtain ⟨q1, q2, f', q3, q4⟩ := P1 a u1 u2
                obtain ⟨r1, r2⟩ := pin a u1 u2
                have ax : a ≠ x := fun e => by rw [e, fx] at h1; cases h1
                have ay : a ≠ y := fun e => by rw [e, fy] at h1; cases h1
                have nx : f' x = none := by
                  cases w : f' x with
                  | none => rfl
                  | some z =>
                    have := (q4 x).mp (by rw [w]; exact fun z => nomatch z)
                    rw [if_neg (Ne.symm ax), if_neg (Ne.symm r2)] at this
                    exact absurd f1x this
                by_cases r3 : p a = y
                · rw [if_pos r3]
                  have na : f' a0 = none := by
                    cases w : f' a0 with
                    | none => rfl
                    | some z =>
                      have := (q4 a0).mp (by rw [w]; exact fun z => nomatch z)
                      rw [if_neg (Ne.symm e1), if_neg (Ne.symm r1)] at this
                      exact absurd f1a this
                  refine ⟨Ne.symm e1, .inl ⟨fa, ga⟩, pr f' a0 x, pr_mt gr q3 adjx na nx, fun z => ?_⟩
                  by_cases z1 : z = a0
                  · subst z1
                    rw [if_neg (Ne.symm e1), if_pos rfl, pr_u]
                    simp [fa]
                  · by_cases z2 : z = x
                    · subst z2
                      rw [if_neg (Ne.symm ax), if_neg z1, pr_v z1]
                      simp [fx]
                    · rw [pr_ne z1 z2, q4 z, if_neg z1, r3]
                      by_cases z4 : z = a
                      · rw [if_pos z4, if_pos z4]
                      · rw [if_neg z4, if_neg z4]
                        by_cases z3 : z = y
                        · subst z3
                          rw [if_pos rfl]
                          simp [fy, f1y]
                        · rw [if_neg z3, f1 z z2 z3]
                · rw [if_neg r3]
                  rw [g1 _ r1 r2, f1 _ r2 r3] at q2
                  have ny : f' y = none := by
                    cases w : f' y with
                    | none => rfl
                    | some z =>
                      have := (q4 y).mp (by rw [w]; exact fun z => nomatch z)
                      rw [if_neg (Ne.symm ay), if_neg (Ne.symm r3)] at this
                      exact absurd f1y this
                  refine ⟨q1, q2, pr f' x y, pr_mt gr q3 axy nx ny, fun z => ?_⟩
                  by_cases z1 : z = x
                  · subst z1
                    rw [if_neg (Ne.symm ax), if_neg (Ne.symm r2), pr_u]
                    simp [fx]
                  · by_cases z2 : z = y
                    · subst z2
                      rw [if_neg (Ne.symm ay), if_neg (Ne.symm r3), pr_v yx]
                      simp [fy]
                    · rw [pr_ne z1 z2, q4 z, f1 z z1 z2]
            · have e' : (if a = a0 then p y else if p a = y then a0 else p a) = (if b = a0 then p y else if p b = y then a0 else p b) := e
              have one : ∀ c, f c = none → g c ≠ none → c ≠ a0 → p y ≠ (if p c = y then a0 else p c) := fun c k1 k2 k3 q => by
                obtain ⟨u1, u2⟩ := up c k1 k2 k3
                by_cases r : p c = y
                · rw [if_pos r] at q
                  exact py0 q
                · rw [if_neg r] at q
                  have := P2 y c yA1 yA2 u1 u2 q
                  rw [← this, fy] at k1
                  cases k1
              by_cases e1 : a = a0
              · by_cases e2 : b = a0
                · rw [e1, e2]
                · rw [if_pos e1, if_neg e2] at e'
                  exact absurd e' (one b h3 h4 e2)
              · by_cases e2 : b = a0
                · rw [if_neg e1, if_pos e2] at e'
                  exact absurd e'.symm (one a h1 h2 e1)
                · rw [if_neg e1, if_neg e2] at e'
                  obtain ⟨u1, u2⟩ := up a h1 h2 e1
                  obtain ⟨v1, v2⟩ := up b h3 h4 e2
                  have : p a = p b := by
                    by_cases r : p a = y
                    · by_cases t : p b = y
                      · rw [r, t]
                      · rw [if_pos r, if_neg t] at e'
                        exact absurd e'.symm (pin b v1 v2).1
                    · by_cases t : p b = y
                      · rw [if_neg r, if_pos t] at e'
                        exact absurd e' (pin a u1 u2).1
                      · rw [if_neg r, if_neg t] at e'
                        exact e'
                  exact P2 a b u1 u2 v1 v2 this
    · refine ⟨fun x => x, fun a h1 h2 => absurd ⟨a, h1, h2⟩ hA, fun a b h1 h2 => absurd ⟨a, h1, h2⟩ hA⟩

/-- a lot can be served -/
def Serv (n : Nat) (adj : Nat → Nat → Prop) (S : List Nat) : Prop := ∃ f, Mt n adj f ∧ ∀ v ∈ S, f v ≠ none
theorem Serv.sub {S T : List Nat} (h : Serv n adj S) (k : ∀ v ∈ T, v ∈ S) : Serv n adj T := by
  obtain ⟨f, a, b⟩ := h
  exact ⟨f, a, fun v hv => b v (k v hv)⟩
theorem Serv.nil : Serv n adj [] := ⟨fun _ => none, ⟨fun _ _ h => (nomatch h), fun _ _ h => (nomatch h)⟩, fun _ h => (nomatch h)⟩
theorem filter_len (p : Nat → Bool) : ∀ l : List Nat, l.length = (l.filter p).length + (l.filter fun x => !p x).length
  | [] => rfl
  | a :: l => by
    have := filter_len p l
    cases h : p a <;> simp [List.filter_cons, h] <;> omega
theorem exchange (gr : Gr n adj) {I J : List Nat} (hI : Serv n adj I) (hJ : Serv n adj J) (nI : I.Nodup) (nJ : J.Nodup) (hl : I.length < J.length) : ∃ j ∈ J, j ∉ I ∧ Serv n adj (j :: I) := by
  refine Classical.byContradiction fun no => ?_
  obtain ⟨f, F, fI⟩ := hI
  obtain ⟨g, G, gJ⟩ := hJ
  have bad : ∀ j ∈ J, j ∉ I → ∀ f', Mt n adj f' → (∀ v ∈ j :: I, f' v ≠ none) → False := fun j h1 h2 f' h3 h4 => no ⟨j, h1, h2, f', h3, h4⟩
  obtain ⟨p, P1, P2⟩ := strand gr (List.range n).length (Nat.le_refl _) F G (fun v hv => by
    cases q : g v with
    | none => exact absurd q hv
    | some w => exact List.mem_range.mpr (gr.lt _ _ (G.adj _ _ q)))
  have key : ∀ j ∈ J, j ∉ I → f j = none ∧ g j ≠ none ∧ p j ∈ I ∧ p j ∉ J := fun j h1 h2 => by
    have gj := gJ j h1
    have fj : f j = none := by
      cases q : f j with
      | none => rfl
      | some w =>
        refine (bad j h1 h2 f F fun v hv => ?_).elim
        rcases List.mem_cons.mp hv with e | hv
        · rw [e, q]; exact fun z => nomatch z
        · exact fI v hv
    obtain ⟨q1, q2, f', q3, q4⟩ := P1 j fj gj
    have pI : p j ∈ I := Classical.byContradiction fun ni => by
      refine bad j h1 h2 f' q3 fun v hv => (q4 v).mpr ?_
      by_cases e : v = j
      · rw [if_pos e]; trivial
      · rcases List.mem_cons.mp hv with w | w
        · exact absurd w e
        · have e2 : v ≠ p j := fun e2 => ni (by rw [← e2]; exact w)
          rw [if_neg e, if_neg e2]
          exact fI v w
    refine ⟨fj, gj, pI, fun pJ => ?_⟩
    rcases q2 with ⟨r, _⟩ | ⟨_, r⟩
    · exact fI _ pI r
    · exact gJ _ pJ r
  have le := pig (R := fun a b => p a = b) (B := J.filter fun x => !decide (x ∈ I)) (B' := I.filter fun x => !decide (x ∈ J)) (List.Nodup.sublist List.filter_sublist nJ) (fun j hj => by
    obtain ⟨h1, h2⟩ := List.mem_filter.mp hj
    have h2' : j ∉ I := by simpa using h2
    obtain ⟨_, _, q1, q2⟩ := key j h1 h2'
    exact ⟨p j, List.mem_filter.mpr ⟨q1, by simpa using q2⟩, rfl⟩) (fun a ha b hb c e1 e2 => by
    obtain ⟨a1, a2⟩ := List.mem_filter.mp ha
    obtain ⟨b1, b2⟩ := List.mem_filter.mp hb
    obtain ⟨u1, u2, _⟩ := key a a1 (by simpa using a2)
    obtain ⟨v1, v2, _⟩ := key b b1 (by simpa using b2)
    exact P2 a b u1 u2 v1 v2 (e1.trans e2.symm))
  have e1 := filter_len (fun x => decide (x ∈ I)) J
  have e2 := filter_len (fun x => decide (x ∈ J)) I
  have e3 : (J.filter fun x => decide (x ∈ I)).length ≤ (I.filter fun x => decide (x ∈ J)).length := nodup_le (List.Nodup.sublist List.filter_sublist nJ) fun b hb => by
    obtain ⟨h1, h2⟩ := List.mem_filter.mp hb
    exact List.mem_filter.mpr ⟨by simpa using h2, by simpa using h1⟩
  omega
end
end Gv
/-! A layer over HandS: what a reading gives, told by data that never change (Dn). -/
namespace Gw
open PySem L2 Evl

/-! ### data that never change -/
mutual
inductive Dn (H : Hp) : V → PyData → Prop
  | non : Dn H .non .none
  | bl (b : Bool) : Dn H (.bl b) (.bool b)
  | int (i : Int) : Dn H (.int i) (.int i)
  | str (x : Str) : Dn H (.str x) (.str x)
  | tup {a : Addr} {xs : List V} {ds : List PyData} : H a = some (.tup xs) → DnL H xs ds → Dn H (.ref a) (.tuple ds)
inductive DnL (H : Hp) : List V → List PyData → Prop
  | nil : DnL H [] []
  | cons {v : V} {vs : List V} {d : PyData} {ds : List PyData} : Dn H v d → DnL H vs ds → DnL H (v :: vs) (d :: ds)
end
/-- tuples stay -/
def Tx (H H' : Hp) : Prop := ∀ a xs, H a = some (.tup xs) → H' a = some (.tup xs)
theorem Tx.refl (H : Hp) : Tx H H := fun _ _ h => h
theorem Tx.trans {H H1 H2 : Hp} (a : Tx H H1) (b : Tx H1 H2) : Tx H H2 := fun x xs h => b x xs (a x xs h)
theorem Tx.of {H H' : Hp} (e : Ex H H') : Tx H H' := fun a _ h => e a _ h
theorem Tx.new {H : Hp} {p : Addr} {o : HO} (h : H p = none) : Tx H (upd H p o) := Tx.of (Ex.new h)
/-- a list, an instance, a dict is changed -/
theorem Tx.mut {H : Hp} {p : Addr} {o u : HO} (h : H p = some u) (hu : ∀ xs, u ≠ .tup xs) : Tx H (upd H p o) := fun a xs e => by
  rw [upd_ne (ne_of e h (Ne.symm (hu xs)))]
  exact e
mutual
theorem Dn.tx {H H' : Hp} (t : Tx H H') : ∀ {d : PyData} {v : V}, Dn H v d → Dn H' v d
  | .none, _, h => by cases h; exact .non
  | .bool b, _, h => by cases h; exact .bl b
  | .int i, _, h => by cases h; exact .int i
  | .str x, _, h => by cases h; exact .str x
  | .list ds, _, h => nomatch h
  | .tuple ds, _, h => by
    cases h with
    | tup ha hl => exact .tup (t _ _ ha) (DnL.tx t hl)
  | .dict kvs, _, h => nomatch h
theorem DnL.tx {H H' : Hp} (t : Tx H H') : ∀ {ds : List PyData} {vs : List V}, DnL H vs ds → DnL H' vs ds
  | [], _, h => by cases h; exact .nil
  | d :: ds, _, h => by
    cases h with
    | cons hd hl => exact .cons (Dn.tx t hd) (DnL.tx t hl)
end
mutual
theorem Dn.dp {K : PySem.W.Frag} {H : Hp} : ∀ {d : PyData} {v : V}, Dn H v d → Dp K H v d
  | .none, _, h => by cases h; exact .non
  | .bool b, _, h => by cases h; exact .bl b
  | .int i, _, h => by cases h; exact .int i
  | .str x, _, h => by cases h; exact .str x
  | .list ds, _, h => nomatch h
  | .tuple ds, _, h => by
    cases h with
    | tup ha hl => exact .tup (SqT.of ha) (DnL.dp hl)
  | .dict kvs, _, h => nomatch h
theorem DnL.dp {K : PySem.W.Frag} {H : Hp} : ∀ {ds : List PyData} {vs : List V}, DnL H vs ds → DpAll K H vs ds
  | [], _, h => by cases h; exact .nil
  | d :: ds, _, h => by
    cases h with
    | cons hd hl => exact .cons (Dn.dp hd) (DnL.dp hl)
end
section
variable {H H' : Hp} {v : V} {vs ws : List V} {d : PyData} {ds es : List PyData}
theorem Dn.ex (e : Ex H H') (h : Dn H v d) : Dn H' v d := h.tx (Tx.of e)
theorem DnL.ex (e : Ex H H') (h : DnL H vs ds) : DnL H' vs ds := h.tx (Tx.of e)
theorem Dn.int_inv {i : Int} (h : Dn H v (.int i)) : v = .int i := by cases h; rfl
theorem Dn.bl_inv {b : Bool} (h : Dn H v (.bool b)) : v = .bl b := by cases h; rfl
theorem Dn.str_inv {x : Str} (h : Dn H v (.str x)) : v = .str x := by cases h; rfl
theorem Dn.non_inv (h : Dn H v .none) : v = .non := by cases h; rfl
theorem Dn.tup_inv (h : Dn H v (.tuple ds)) : ∃ a xs, v = .ref a ∧ H a = some (.tup xs) ∧ DnL H xs ds := by
  cases h with
  | tup ha hl => exact ⟨_, _, rfl, ha, hl⟩
theorem DnL.nil_inv (h : DnL H vs []) : vs = [] := by cases h; rfl
theorem DnL.cons_inv (h : DnL H vs (d :: ds)) : ∃ v ws, vs = v :: ws ∧ Dn H v d ∧ DnL H ws ds := by
  cases h with
  | cons hd hl => exact ⟨_, _, rfl, hd, hl⟩
theorem DnL.length : ∀ {vs : List V} {ds : List PyData}, DnL H vs ds → vs.length = ds.length
  | _, _, .nil => rfl
  | _, _, .cons _ h => by rw [List.length_cons, List.length_cons, DnL.length h]
theorem DnL.get : ∀ {vs : List V} {ds : List PyData} {i : Nat} {d : PyData}, DnL H vs ds → ds[i]? = some d → ∃ v, vs[i]? = some v ∧ Dn H v d
  | _, _, _, _, .nil, e => by simp at e
  | _, _, 0, _, .cons h _, e => by simp at e; subst e; exact ⟨_, rfl, h⟩
  | _, _, i + 1, d, .cons _ h, e => by
    obtain ⟨v, h1, h2⟩ := DnL.get (i := i) (d := d) h (by simpa using e)
    exact ⟨v, by simpa using h1, h2⟩
theorem DnL.get' : ∀ {vs : List V} {ds : List PyData} {i : Nat} {v : V}, DnL H vs ds → vs[i]? = some v → ∃ d, ds[i]? = some d ∧ Dn H v d
  | _, _, _, _, .nil, e => by simp at e
  | _, _, 0, _, .cons h _, e => by simp at e; subst e; exact ⟨_, rfl, h⟩
  | _, _, i + 1, v, .cons _ h, e => by
    obtain ⟨d, h1, h2⟩ := DnL.get' (i := i) (v := v) h (by simpa using e)
    exact ⟨d, by simpa using h1, h2⟩
theorem DnL.append : ∀ {vs ws : List V} {ds es : List PyData}, DnL H vs ds → DnL H ws es → DnL H (vs ++ ws) (ds ++ es)
  | _, _, _, _, .nil, s => s
  | _, _, _, _, .cons r t, s => .cons r (DnL.append t s)
theorem DnL.take : ∀ {vs : List V} {ds : List PyData} (n : Nat), DnL H vs ds → DnL H (vs.take n) (ds.take n)
  | _, _, 0, _ => by simp; exact .nil
  | _, _, _ + 1, .nil => .nil
  | _, _, n + 1, .cons r t => .cons r (DnL.take n t)
theorem DnL.drop : ∀ {vs : List V} {ds : List PyData} (n : Nat), DnL H vs ds → DnL H (vs.drop n) (ds.drop n)
  | _, _, 0, r => r
  | _, _, _ + 1, .nil => .nil
  | _, _, n + 1, .cons _ t => DnL.drop n t
theorem DnL.reverse : ∀ {vs : List V} {ds : List PyData}, DnL H vs ds → DnL H vs.reverse ds.reverse
  | _, _, .nil => .nil
  | _, _, .cons r t => by
    rw [List.reverse_cons, List.reverse_cons]
    exact (DnL.reverse t).append (.cons r .nil)
theorem DnL.snoc (h : DnL H vs ds) (k : Dn H v d) : DnL H (vs ++ [v]) (ds ++ [d]) := h.append (.cons k .nil)
theorem dnl_ints : ∀ {ns : List Int}, DnL H (ns.map V.int) (ns.map PyData.int)
  | [] => .nil
  | _ :: _ => .cons (.int _) dnl_ints
theorem dnl_ints_inv : ∀ {ns : List Int} {vs : List V}, DnL H vs (ns.map PyData.int) → vs = ns.map V.int
  | [], _, h => h.nil_inv
  | n :: ns, _, h => by
    obtain ⟨v, ws, e, h1, h2⟩ := h.cons_inv
    rw [e, h1.int_inv, dnl_ints_inv h2]
    rfl
theorem dnl_bls_inv : ∀ {bs : List Bool} {vs : List V}, DnL H vs (bs.map PyData.bool) → vs = bs.map V.bl
  | [], _, h => h.nil_inv
  | n :: ns, _, h => by
    obtain ⟨v, ws, e, h1, h2⟩ := h.cons_inv
    rw [e, h1.bl_inv, dnl_bls_inv h2]
    rfl
end

/-! ### what a reading gives -/
/-- unchanging data d; a new list of data; any fixed value is Evl.Ev -/
def ED (te : TE) (σ : L2.St) (H : Hp) (d : PyData) : Prop := ∀ H1, Ex H H1 → ∀ Q : VK, (∀ v H2, Ex H1 H2 → Dn H2 v d → Q v H2) → te σ H1 Q
def EL (te : TE) (σ : L2.St) (H : Hp) (ds : List PyData) : Prop := ∀ H1, Ex H H1 → ∀ Q : VK, (∀ p vs H2, H1 p = none → Ex H1 H2 → H2 p = some (.lst vs) → DnL H2 vs ds → Q (.ref p) H2) → te σ H1 Q
def EDA (ta : TA) (σ : L2.St) (H : Hp) (ds : List PyData) : Prop := ∀ H1, Ex H H1 → ∀ Q : List V → Hp → Prop, (∀ vs H2, Ex H1 H2 → DnL H2 vs ds → Q vs H2) → ta σ H1 Q
section
variable {K : PySem.W.Frag} {σ : L2.St} {H H' : Hp} {ta tb te tl : TE} {t u : TT} {v x y : V} {d e f : PyData} {ds es : List PyData} {i j : Int} {b c : Bool} {tr : TA}
theorem ED.mono (k : Ex H H') (h : ED te σ H d) : ED te σ H' d := fun H1 a Q q => h H1 (k.trans a) Q q
theorem EL.mono (k : Ex H H') (h : EL te σ H ds) : EL te σ H' ds := fun H1 a Q q => h H1 (k.trans a) Q q
theorem EDA.mono (k : Ex H H') (h : EDA tr σ H ds) : EDA tr σ H' ds := fun H1 a Q q => h H1 (k.trans a) Q q
theorem ED.now (h : ED te σ H d) {Q : VK} (q : ∀ v H2, Ex H H2 → Dn H2 v d → Q v H2) : te σ H Q := h H (Ex.refl H) Q q
theorem EL.now (h : EL te σ H ds) {Q : VK} (q : ∀ p vs H2, H p = none → Ex H H2 → H2 p = some (.lst vs) → DnL H2 vs ds → Q (.ref p) H2) : te σ H Q := h H (Ex.refl H) Q q
theorem EvT_now {b : Bool} (h : EvT t σ H b) {Q : Bool → Hp → Prop} (q : ∀ H2, Ex H H2 → Q b H2) : t σ H Q := h H (Ex.refl H) Q q
theorem Ev_now (h : Ev te σ H v) {Q : VK} (q : ∀ H2, Ex H H2 → Q v H2) : te σ H Q := h H (Ex.refl H) Q q
theorem EDA.now (h : EDA tr σ H ds) {Q : List V → Hp → Prop} (q : ∀ vs H2, Ex H H2 → DnL H2 vs ds → Q vs H2) : tr σ H Q := h H (Ex.refl H) Q q
theorem ED.is (h : ED te σ H d) (k : d = e) : ED te σ H e := k ▸ h
theorem EL.is (h : EL te σ H ds) (k : ds = es) : EL te σ H es := k ▸ h
theorem ED.ev_int (h : ED te σ H (.int i)) : Ev te σ H (.int i) := fun H1 a Q q => h H1 a Q fun v H2 k k2 => by rw [k2.int_inv]; exact q H2 k
theorem ED.ev_bl (h : ED te σ H (.bool b)) : Ev te σ H (.bl b) := fun H1 a Q q => h H1 a Q fun v H2 k k2 => by rw [k2.bl_inv]; exact q H2 k
theorem ed_ev (h : Ev te σ H v) (k : Dn H v d) : ED te σ H d := fun H1 a Q q => h H1 a Q fun H2 k2 => q v H2 k2 ((k.ex a).ex k2)
theorem ed_evInt (h : Ev te σ H (.int i)) : ED te σ H (.int i) := ed_ev h (.int i)
theorem ed_evBl (h : Ev te σ H (.bl b)) : ED te σ H (.bool b) := ed_ev h (.bl b)
theorem ed_var {i : Nat} (h : σ[i]? = some (some v)) (k : Dn H v d) : ED (tVar i) σ H d := fun H1 a Q q => ⟨v, h, q v H1 (Ex.refl H1) (k.ex a)⟩
theorem ed_int : ED (tC (.int i)) σ H (.int i) := fun H1 _ Q q => q _ H1 (Ex.refl H1) (.int i)
theorem ed_str {x : Str} : ED (tC (.str x)) σ H (.str x) := fun H1 _ Q q => q _ H1 (Ex.refl H1) (.str x)
theorem ed_bl : ED (tC (.bl b)) σ H (.bool b) := fun H1 _ Q q => q _ H1 (Ex.refl H1) (.bl b)
theorem ed_non : ED (tC .non) σ H .none := fun H1 _ Q q => q _ H1 (Ex.refl H1) .non
theorem ed_add (h : ED ta σ H (.int i)) (k : ED tb σ H (.int j)) : ED (tOp (rI0 fun i j => .int (i + j)) ta tb) σ H (.int (i + j)) := ed_evInt (ev_op h.ev_int k.ev_int rv_I0)
theorem ed_sub (h : ED ta σ H (.int i)) (k : ED tb σ H (.int j)) : ED (tOp (rI0 fun i j => .int (i - j)) ta tb) σ H (.int (i - j)) := ed_evInt (ev_op h.ev_int k.ev_int rv_I0)
theorem ed_lt (h : ED ta σ H (.int i)) (k : ED tb σ H (.int j)) : ED (tOp (rI0 fun i j => .bl (decide (i < j))) ta tb) σ H (.bool (decide (i < j))) := ed_evBl (ev_op h.ev_int k.ev_int rv_I0)
theorem ed_le (h : ED ta σ H (.int i)) (k : ED tb σ H (.int j)) : ED (tOp (rI0 fun i j => .bl (decide (i ≤ j))) ta tb) σ H (.bool (decide (i ≤ j))) := ed_evBl (ev_op h.ev_int k.ev_int rv_I0)
theorem ed_gt (h : ED ta σ H (.int i)) (k : ED tb σ H (.int j)) : ED (tOp (rI0 fun i j => .bl (decide (j < i))) ta tb) σ H (.bool (decide (j < i))) := ed_evBl (ev_op h.ev_int k.ev_int rv_I0)
theorem ed_ge (h : ED ta σ H (.int i)) (k : ED tb σ H (.int j)) : ED (tOp (rI0 fun i j => .bl (decide (j ≤ i))) ta tb) σ H (.bool (decide (j ≤ i))) := ed_evBl (ev_op h.ev_int k.ev_int rv_I0)
theorem ed_eqI (h : ED ta σ H (.int i)) (k : ED tb σ H (.int j)) : ED (tOp rEq ta tb) σ H (.bool (decide (i = j))) := ed_evBl ((ev_op h.ev_int k.ev_int (rv_eq rfl)).mono (Ex.refl H) |> fun z => ev_is z (by simp))
theorem ed_neI (h : ED ta σ H (.int i)) (k : ED tb σ H (.int j)) : ED (tOp rNe ta tb) σ H (.bool (!decide (i = j))) := ed_evBl ((ev_op h.ev_int k.ev_int (rv_ne rfl)).mono (Ex.refl H) |> fun z => ev_is z (by simp))
theorem ed_eqB (h : ED ta σ H (.bool b)) (k : ED tb σ H (.bool c)) : ED (tOp rEq ta tb) σ H (.bool (decide (b = c))) := ed_evBl ((ev_op h.ev_bl k.ev_bl (rv_eq rfl)).mono (Ex.refl H) |> fun z => ev_is z (by simp))
theorem ed_neB (h : ED ta σ H (.bool b)) (k : ED tb σ H (.bool c)) : ED (tOp rNe ta tb) σ H (.bool (!decide (b = c))) := ed_evBl ((ev_op h.ev_bl k.ev_bl (rv_ne rfl)).mono (Ex.refl H) |> fun z => ev_is z (by simp))
theorem ED.ev_str {x : Str} (h : ED te σ H (.str x)) : Ev te σ H (.str x) := fun H1 a Q q => h H1 a Q fun v H2 k k2 => by rw [k2.str_inv]; exact q H2 k
theorem ed_eqS {x y : Str} (h : ED ta σ H (.str x)) (k : ED tb σ H (.str y)) : ED (tOp rEq ta tb) σ H (.bool (decide (x = y))) := ed_evBl ((ev_op h.ev_str k.ev_str (rv_eq rfl)).mono (Ex.refl H) |> fun z => ev_is z (by simp))
theorem ed_isN (h : ED ta σ H d) : ED (tOp (fun x y H Q => y = .non ∧ Q (.bl (decide (x = .non))) H) ta (tC .non)) σ H (.bool (match d with | .none => true | _ => false)) := fun H1 a Q q =>
  h H1 a _ fun v H2 k k2 => ⟨rfl, q _ H2 k (by
    cases k2 with
    | non => exact .bl true
    | bl _ => exact .bl false
    | int _ => exact .bl false
    | str _ => exact .bl false
    | tup _ _ => exact .bl false)⟩
/-- t[i] -/
theorem ed_ixT (h : ED ta σ H (.tuple ds)) (k : ED tb σ H (.int i)) (g : atI ds i = some d) : ED (tOp (rIxT K) ta tb) σ H d := fun H1 a Q q =>
  h H1 a _ fun v H2 k1 k2 => k H2 (a.trans k1) _ fun w H3 l1 l2 => by
    obtain ⟨p, xs, e1, e2, e3⟩ := k2.tup_inv
    subst e1
    rw [l2.int_inv]
    have hl := e3.length
    obtain ⟨j, g1, g2⟩ : ∃ j, ixN ds.length i = some j ∧ ds[j]? = some d := by
      unfold atI at g
      cases hj : ixN ds.length i with
      | none => rw [hj] at g; cases g
      | some j => rw [hj] at g; exact ⟨j, rfl, g⟩
    obtain ⟨z, z1, z2⟩ := e3.get g2
    refine ⟨p, xs, i, z, rfl, rfl, SqT.of (l1 _ _ e2), ?_, q z H3 (k1.trans l1) (z2.ex l1)⟩
    unfold atI
    rw [hl, g1]
    exact z1
theorem atI_of {α : Type} {xs : List α} {n : Nat} {x : α} (h : xs[n]? = some x) : (ixN xs.length (n : Int)).bind (fun j => xs[j]?) = some x := by
  have hlt : n < xs.length := (List.getElem?_eq_some_iff.mp h).1
  have : ixN xs.length (n : Int) = some n := by
    unfold ixN
    first
      | (rw [if_pos (by omega)]; simp [hlt])
      | simp [hlt]
      | (split <;> simp_all <;> omega)
  rw [this]
  exact h
end
end Gw
/-! The layer, further: arguments, displays, calls, sequences, comprehensions, loops. -/
namespace Gw
open PySem L2 Evl
section
variable {K : PySem.W.Frag} {σ : L2.St} {H H' : Hp} {ta tb te tl : TE} {t u : TT} {v x y : V} {d e f : PyData} {ds es : List PyData} {i j : Int} {b c : Bool} {tr : TA}
/-! ### arguments, displays, calls -/
theorem eda_nil : EDA tNil σ H [] := fun H1 _ Q q => q [] H1 (Ex.refl H1) .nil
theorem eda_cons (h : ED ta σ H d) (k : EDA tr σ H ds) : EDA (tCons ta tr) σ H (d :: ds) := fun H1 a Q q =>
  h H1 a _ fun v H2 k1 k2 => k H2 (a.trans k1) _ fun vs H3 l1 l2 => q (v :: vs) H3 (k1.trans l1) (.cons (k2.ex l1) l2)
theorem eda_star (h : ED ta σ H (.tuple es)) (k : EDA tr σ H ds) : EDA (StX.tStar K ta tr) σ H (es ++ ds) := fun H1 a Q q =>
  h H1 a _ fun v H2 k1 k2 => by
    obtain ⟨p, xs, e1, e2, e3⟩ := k2.tup_inv
    exact ⟨p, xs, e1, .inl (SqT.of e2), k H2 (a.trans k1) _ fun vs H3 l1 l2 => q (xs ++ vs) H3 (k1.trans l1) ((e3.ex l1).append l2)⟩
theorem ed_tup (h : EDA tr σ H ds) (z : ds.length ≤ 100000) : ED (tTup tr) σ H (.tuple ds) := fun H1 a Q q =>
  h H1 a _ fun vs H2 k1 k2 => ⟨by rw [k2.length]; exact sz_of z, fun p hp => q _ _ (k1.trans (Ex.new hp)) (.tup upd_same (k2.ex (Ex.new hp)))⟩
theorem el_lst (h : EDA tr σ H ds) (z : ds.length ≤ 100000) : EL (tLst tr) σ H ds := fun H1 a Q q =>
  h H1 a _ fun vs H2 k1 k2 => ⟨by rw [k2.length]; exact sz_of z, fun p hp => q p vs _ (fresh_back k1 hp) (k1.trans (Ex.new hp)) upd_same (k2.ex (Ex.new hp))⟩
/-- a def over data: P ds d says what it gives -/
def SpD (P : List PyData → PyData → Prop) : Sp := fun vs H Q _ => ∃ ds d, DnL H vs ds ∧ P ds d ∧ ∀ v H', Ex H H' → Dn H' v d → Q v H'
def SpL (P : List PyData → List PyData → Prop) : Sp := fun vs H Q _ => ∃ ds es, DnL H vs ds ∧ P ds es ∧ ∀ p ws H', H p = none → Ex H H' → H' p = some (.lst ws) → DnL H' ws es → Q (.ref p) H'
theorem spd_len {P : List PyData → PyData → Prop} {n : Nat} (hP : ∀ ds d, P ds d → ds.length = n) : ∀ vs H Q E, SpD P vs H Q E → vs.length = n := fun vs H Q E h => by
  obtain ⟨ds, d, h1, h2, _⟩ := h
  rw [h1.length]
  exact hP ds d h2
theorem spl_len {P : List PyData → List PyData → Prop} {n : Nat} (hP : ∀ ds d, P ds d → ds.length = n) : ∀ vs H Q E, SpL P vs H Q E → vs.length = n := fun vs H Q E h => by
  obtain ⟨ds, d, h1, h2, _⟩ := h
  rw [h1.length]
  exact hP ds d h2
theorem ed_call {P : List PyData → PyData → Prop} {E : XK} (h : EDA tr σ H ds) (p : P ds d) : ED (tCall (SpD P) [] E tr) σ H d := fun H1 a Q q =>
  h H1 a _ fun vs H2 k1 k2 => by
    show SpD P (vs ++ []) H2 Q E
    rw [List.append_nil]
    exact ⟨ds, d, k2, p, fun v H3 l1 l2 => q v H3 (k1.trans l1) l2⟩
theorem el_call {P : List PyData → List PyData → Prop} {E : XK} (h : EDA tr σ H ds) (p : P ds es) : EL (tCall (SpL P) [] E tr) σ H es := fun H1 a Q q =>
  h H1 a _ fun vs H2 k1 k2 => by
    show SpL P (vs ++ []) H2 Q E
    rw [List.append_nil]
    exact ⟨ds, es, k2, p, fun r ws H3 l0 l1 l2 l3 => q r ws H3 (fresh_back k1 l0) (k1.trans l1) l2 l3⟩

/-! ### len, tuple, list -/
theorem ed_lenT (h : ED ta σ H (.tuple ds)) : ED (tCB (rLenS K) (tCons ta tNil)) σ H (.int (ds.length : Int)) := fun H1 a Q q =>
  h H1 a _ fun v H2 k1 k2 => by
    obtain ⟨p, xs, e1, e2, e3⟩ := k2.tup_inv
    exact ⟨p, xs, by rw [e1], .inr (SqT.of e2), by rw [e3.length]; exact q _ H2 k1 (.int _)⟩
theorem ed_lenL (h : EL ta σ H ds) : ED (tCB (rLenS K) (tCons ta tNil)) σ H (.int (ds.length : Int)) := fun H1 a Q q =>
  h H1 a _ fun p xs H2 k0 k1 k2 k3 => ⟨p, xs, rfl, .inl (SqL.of k2), by rw [k3.length]; exact q _ H2 k1 (.int _)⟩
def rTupS (K : PySem.W.Frag) : List V → Hp → VK → Prop := fun xs H Q => ∃ p ys, xs = [.ref p] ∧ ((SqL K H p ys ∧ ∀ l, H l = none → Q (.ref l) (upd H l (.tup ys))) ∨ (SqT K H p ys ∧ Q (.ref p) H))
theorem ed_tupleL (h : EL ta σ H ds) : ED (tCB (rTupS K) (tCons ta tNil)) σ H (.tuple ds) := fun H1 a Q q =>
  h H1 a _ fun p xs H2 k0 k1 k2 k3 => ⟨p, xs, rfl, .inl ⟨SqL.of k2, fun l hl => q _ _ (k1.trans (Ex.new hl)) (.tup upd_same (k3.ex (Ex.new hl)))⟩⟩
theorem el_listT (h : ED ta σ H (.tuple ds)) : EL (tCB (rListS K) (tCons ta tNil)) σ H ds := fun H1 a Q q =>
  h H1 a _ fun v H2 k1 k2 => by
    obtain ⟨p, xs, e1, e2, e3⟩ := k2.tup_inv
    exact ⟨p, xs, by rw [e1], .inr (SqT.of e2), fun l hl => q l xs _ (fresh_back k1 hl) (k1.trans (Ex.new hl)) upd_same (e3.ex (Ex.new hl))⟩
theorem el_listL (h : EL ta σ H ds) : EL (tCB (rListS K) (tCons ta tNil)) σ H ds := fun H1 a Q q =>
  h H1 a _ fun p xs H2 k0 k1 k2 k3 => ⟨p, xs, rfl, .inl (SqL.of k2), fun l hl => q l xs _ (fresh_back k1 hl) (k1.trans (Ex.new hl)) upd_same (k3.ex (Ex.new hl))⟩
/-! ### slices, sums of tuples -/
def cutD (ds : List PyData) (lo hi : Option Int) : List PyData := (ds.drop (HT.sIx ds.length 0 lo)).take (HT.sIx ds.length ds.length hi - HT.sIx ds.length 0 lo)
theorem ed_slT {tlo thi : TO} {lo hi : Option Int} (h : ED te σ H (.tuple ds)) (h1 : EvO tlo σ H lo) (h2 : EvO thi σ H hi) : ED (tSl (rSlA K) te tlo thi) σ H (.tuple (cutD ds lo hi)) := fun H1 a Q q =>
  h H1 a _ fun v H2 k1 k2 => h1 H2 (a.trans k1) _ fun H3 k3 => h2 H3 ((a.trans k1).trans k3) _ fun H4 k4 => by
    obtain ⟨p, xs, e1, e2, e3⟩ := k2.tup_inv
    have hl := e3.length
    have e4 := (k3.trans k4) _ _ e2
    have e5 := e3.ex (k3.trans k4)
    refine ⟨p, xs, e1, SqT.of e4, fun hw => ?_, fun hw r hr => ?_⟩
    · refine q _ H4 ((k1.trans k3).trans k4) ?_
      have : cutD ds lo hi = ds := by
        unfold cutD
        rw [hl] at hw
        rw [hw.1, hw.2, List.drop_zero, Nat.sub_zero, List.take_length]
      rw [this]
      exact .tup e4 e5
    · refine q _ _ (((k1.trans k3).trans k4).trans (Ex.new hr)) (.tup upd_same ?_)
      unfold cutV cutD
      rw [hl]
      exact ((e5.drop _).take _).ex (Ex.new hr)
theorem el_slL {tlo thi : TO} {lo hi : Option Int} {a : Addr} {vs : List V} (h : Ev te σ H (.ref a)) (h1 : EvO tlo σ H lo) (h2 : EvO thi σ H hi) (hs : H a = some (.lst vs)) (hd : DnL H vs ds) : EL (tSl (rSlL K) te tlo thi) σ H (cutD ds lo hi) := fun H1 a' Q q =>
  el_sl h h1 h2 (SqL.of hs) H1 a' Q fun p H2 k0 k1 k2 => q p _ H2 k0 k1 k2 (by
    unfold cutV cutD
    rw [hd.length]
    exact (((hd.ex a').ex k1).drop _).take _)
theorem el_revL (h : EL te σ H ds) : EL (tRevL K te) σ H ds.reverse := fun H1 a Q q =>
  h H1 a _ fun p vs H2 k0 k1 k2 k3 => ⟨p, vs, rfl, SqL.of k2, fun r hr => q r _ _ (fresh_back k1 hr) (k1.trans (Ex.new hr)) upd_same (k3.reverse.ex (Ex.new hr))⟩
theorem ed_catT (h : ED ta σ H (.tuple ds)) (k : ED tb σ H (.tuple es)) (z : ds.length + es.length ≤ 100000) : ED (tOp (rCatA K) ta tb) σ H (.tuple (ds ++ es)) := fun H1 a Q q =>
  h H1 a _ fun v H2 k1 k2 => k H2 (a.trans k1) _ fun w H3 l1 l2 => by
    obtain ⟨p, xs, e1, e2, e3⟩ := k2.tup_inv
    obtain ⟨r, ys, f1, f2, f3⟩ := l2.tup_inv
    have e2' := l1 _ _ e2
    have e3' := e3.ex l1
    refine ⟨p, r, xs, ys, e1, f1, SqT.of e2', SqT.of f2, by rw [e3.length, f3.length]; exact sz_of z, fun hx => ?_, fun _ hy => ?_, fun _ _ m hm => ?_⟩
    · subst hx
      have : ds = [] := by have := e3.length; simpa using this.symm
      subst this
      exact q _ H3 (k1.trans l1) (.tup f2 f3)
    · subst hy
      have : es = [] := by have := f3.length; simpa using this.symm
      subst this
      have e0 : ds ++ ([] : List PyData) = ds := List.append_nil ds
      exact q _ H3 (k1.trans l1) (by rw [e0]; exact .tup e2' e3')
    · exact q _ _ ((k1.trans l1).trans (Ex.new hm)) (.tup upd_same ((e3'.append f3).ex (Ex.new hm)))
theorem el_cat (h : EL ta σ H ds) (k : EL tb σ H es) (z : ds.length + es.length ≤ 100000) : EL (tOp rCat ta tb) σ H (ds ++ es) := fun H1 a Q q =>
  h H1 a _ fun p xs H2 k0 k1 k2 k3 => k H2 (a.trans k1) _ fun r ys H3 l0 l1 l2 l3 =>
    ⟨p, r, xs, ys, rfl, rfl, l1 _ _ k2, l2, by rw [k3.length, l3.length]; exact sz_of z, fun m hm => q m _ _ (fresh_back (k1.trans l1) hm) ((k1.trans l1).trans (Ex.new hm)) upd_same (((k3.ex l1).append l3).ex (Ex.new hm))⟩
/-- a list that stands in H -/
theorem el_at {a : Addr} {vs : List V} (h : Ev te σ H (.ref a)) (hs : H a = some (.lst vs)) (hd : DnL H vs ds) : ∀ H1, Ex H H1 → ∀ Q : VK, (∀ H2, Ex H1 H2 → H2 a = some (.lst vs) → DnL H2 vs ds → Q (.ref a) H2) → te σ H1 Q := fun H1 a' Q q =>
  h H1 a' Q fun H2 k => q H2 k (k _ _ (a' _ _ hs)) ((hd.ex a').ex k)

/-! ### in -/
theorem inV_ints {i : Int} {ns : List Int} : inV (.int i) (ns.map V.int) = decide (i ∈ ns) := by
  unfold inV
  induction ns with
  | nil => rfl
  | cons n ns ih =>
    rw [List.map_cons, List.any_cons, ih]
    have : eqV (.int n) (.int i) = decide (i = n) := by
      show decide _ = _ <;> by_cases h : i = n <;> simp [h, eq_comm]
    rw [this]
    by_cases h : i = n <;> simp [h]
theorem flat_ints {ns : List Int} : (ns.map V.int).all flatV = true := by
  rw [List.all_eq_true]
  intro x hx
  obtain ⟨n, _, e⟩ := List.mem_map.mp hx
  rw [← e]
  rfl
theorem ed_inT {ns : List Int} (h : ED ta σ H (.int i)) (k : ED tb σ H (.tuple (ns.map PyData.int))) : ED (tOp (rIn K false) ta tb) σ H (.bool (decide (i ∈ ns))) := fun H1 a Q q =>
  h H1 a _ fun v H2 k1 k2 => k H2 (a.trans k1) _ fun w H3 l1 l2 => by
    obtain ⟨r, ys, f1, f2, f3⟩ := l2.tup_inv
    rw [k2.int_inv]
    have := dnl_ints_inv f3
    subst this
    refine ⟨r, _, f1, .inr (SqT.of f2), rfl, flat_ints, ?_⟩
    show Q (V.bl (inV (.int i) (ns.map V.int))) H3
    rw [inV_ints]
    exact q _ H3 (k1.trans l1) (.bl _)
theorem ed_niT {ns : List Int} (h : ED ta σ H (.int i)) (k : ED tb σ H (.tuple (ns.map PyData.int))) : ED (tOp (rIn K true) ta tb) σ H (.bool (!decide (i ∈ ns))) := fun H1 a Q q =>
  h H1 a _ fun v H2 k1 k2 => k H2 (a.trans k1) _ fun w H3 l1 l2 => by
    obtain ⟨r, ys, f1, f2, f3⟩ := l2.tup_inv
    rw [k2.int_inv]
    have := dnl_ints_inv f3
    subst this
    refine ⟨r, _, f1, .inr (SqT.of f2), rfl, flat_ints, ?_⟩
    show Q (V.bl (!inV (.int i) (ns.map V.int))) H3
    rw [inV_ints]
    exact q _ H3 (k1.trans l1) (.bl _)
/-- .. in a list that stands in H -/
theorem ed_inL {a : Addr} {ns : List Int} (h : ED ta σ H (.int i)) (k : Ev tb σ H (.ref a)) (hs : H a = some (.lst (ns.map V.int))) : ED (tOp (rIn K false) ta tb) σ H (.bool (decide (i ∈ ns))) :=
  ed_evBl (ev_is (ev_op h.ev_int k (rv_isL (SqL.of hs) rfl flat_ints)) (by rw [inV_ints]))
theorem ed_niL {a : Addr} {ns : List Int} (h : ED ta σ H (.int i)) (k : Ev tb σ H (.ref a)) (hs : H a = some (.lst (ns.map V.int))) : ED (tOp (rIn K true) ta tb) σ H (.bool (!decide (i ∈ ns))) :=
  ed_evBl (ev_is (ev_op h.ev_int k (rv_niL (SqL.of hs) rfl flat_ints)) (by rw [inV_ints]))

/-! ### tests, and, or, not, if -/
theorem et_ed (h : ED te σ H (.bool b)) : EvT (tTest te) σ H b := et_test h.ev_bl
theorem et_edB (h : ED te σ H (.bool b)) : EvT (tB te) σ H b := et_B h.ev_bl
theorem et_yes : EvT tYes σ H true := fun H1 _ Q q => q H1 (Ex.refl H1)
theorem ed_and (h : ED ta σ H (.bool b)) (k : b = true → ED tb σ H (.bool c)) : ED (tAndV ta tb) σ H (.bool (b && c)) := ed_evBl (ev_andV h.ev_bl fun e => (k e).ev_bl)
theorem ed_or (h : ED ta σ H (.bool b)) (k : b = false → ED tb σ H (.bool c)) : ED (tOrV ta tb) σ H (.bool (b || c)) := ed_evBl (ev_orV h.ev_bl fun e => (k e).ev_bl)
theorem ed_not (h : ED ta σ H (.bool b)) : ED (tNotV ta) σ H (.bool (!b)) := ed_evBl (ev_notV h.ev_bl)
theorem ed_if (h : EvT t σ H b) (k : b = true → ED ta σ H d) (l : b = false → ED tb σ H d) : ED (tIf t ta tb) σ H d := fun H1 a Q q => h H1 a _ fun H2 e2 => by
  cases b with
  | true =>
    show ta σ H2 Q
    exact k rfl H2 (a.trans e2) Q fun v H3 e3 q3 => q v H3 (e2.trans e3) q3
  | false =>
    show tb σ H2 Q
    exact l rfl H2 (a.trans e2) Q fun v H3 e3 q3 => q v H3 (e2.trans e3) q3

/-! ### all, any -/
theorem ed_all {bs : List Bool} (h : EL ta σ H (bs.map PyData.bool)) : ED (tCB (rAll K) (tCons ta tNil)) σ H (.bool (bs.all id)) := fun H1 a Q q =>
  h H1 a _ fun p vs H2 k0 k1 k2 k3 => by
    rw [dnl_bls_inv k3] at k2
    exact ⟨p, bs, rfl, SqL.of k2, q _ H2 k1 (.bl _)⟩
theorem ed_any {bs : List Bool} (h : EL ta σ H (bs.map PyData.bool)) : ED (tCB (rAny K) (tCons ta tNil)) σ H (.bool (bs.any id)) := fun H1 a Q q =>
  h H1 a _ fun p vs H2 k0 k1 k2 k3 => by
    rw [dnl_bls_inv k3] at k2
    exact ⟨p, bs, rfl, SqL.of k2, q _ H2 k1 (.bl _)⟩

/-! ### what is walked -/
structure Src (J : It) (G : Hp → Prop) (ds : List PyData) : Prop where
  go : ∀ i H, G H → i < ds.length → J.go i H
  stop : ∀ H, G H → J.stop ds.length H
  yld : ∀ i d H x H', ds[i]? = some d → G H → J.yld i H x H' → Ex H H' ∧ Dn H' x d
/-- stands while tuples stand -/
def ET (wi : TI) (σ : L2.St) (H : Hp) (ds : List PyData) : Prop := ∀ H1, Ex H H1 → ∀ R : It → Hp → Prop, (∀ J H2, Ex H1 H2 → Src J (Tx H2) ds → R J H2) → wi σ H1 R
/-- stands while all stands -/
def ES (wi : TI) (σ : L2.St) (H : Hp) (ds : List PyData) : Prop := ∀ H1, Ex H H1 → ∀ R : It → Hp → Prop, (∀ J H2, Ex H1 H2 → Src J (Ex H2) ds → R J H2) → wi σ H1 R
theorem Src.weak {J : It} {G G' : Hp → Prop} (S : Src J G ds) (h : ∀ H, G' H → G H) : Src J G' ds := ⟨fun i H g => S.go i H (h H g), fun H g => S.stop H (h H g), fun i d H x H' e g => S.yld i d H x H' e (h H g)⟩
theorem ET.s {wi : TI} (h : ET wi σ H ds) : ES wi σ H ds := fun H1 a R r => h H1 a R fun J H2 k S => r J H2 k (S.weak fun _ e => Tx.of e)
theorem et_tup (h : ED tl σ H (.tuple ds)) : ET (iTup K tl) σ H ds := fun H1 a R r =>
  h H1 a _ fun v H2 k1 k2 => by
    obtain ⟨p, xs, e1, e2, e3⟩ := k2.tup_inv
    refine ⟨p, e1, ⟨xs, SqT.of e2⟩, r _ H2 k1 ⟨fun i H3 t hi => ?_, fun H3 t => ?_, fun i d H3 x H4 ed t y => ?_⟩⟩
    · have hl := e3.length
      exact (walk_tup (xs := xs)).goes i H3 (by omega) (SqT.of (t _ _ e2))
    · rw [← e3.length]
      exact (walk_tup (xs := xs)).stops H3 (SqT.of (t _ _ e2))
    · obtain ⟨z, z1, z2⟩ := e3.get ed
      obtain ⟨f1, f2⟩ := (walk_tup (xs := xs)).yields i H3 x H4 (List.getElem?_eq_some_iff.mp z1).1 (SqT.of (t _ _ e2)) y
      subst f1
      rw [z1] at f2
      cases f2
      exact ⟨Ex.refl _, z2.tx t⟩
theorem src_list {p : Addr} {xs : List V} (e2 : H p = some (.lst xs)) (e3 : DnL H xs ds) : Src (Itl K p) (fun H' => Tx H H' ∧ H' p = some (.lst xs)) ds := by
  refine ⟨fun i H3 t hi => ?_, fun H3 t => ?_, fun i d H3 x H4 ed t y => ?_⟩
  · have hl := e3.length
    exact (walk_list (xs := xs)).goes i H3 (by omega) (SqL.of t.2)
  · rw [← e3.length]
    exact (walk_list (xs := xs)).stops H3 (SqL.of t.2)
  · obtain ⟨z, z1, z2⟩ := e3.get ed
    obtain ⟨f1, f2⟩ := (walk_list (xs := xs)).yields i H3 x H4 (List.getElem?_eq_some_iff.mp z1).1 (SqL.of t.2) y
    subst f1
    rw [z1] at f2
    cases f2
    exact ⟨Ex.refl _, z2.tx t.1⟩
theorem es_list (h : EL tl σ H ds) : ES (iList K tl) σ H ds := fun H1 a R r =>
  h H1 a _ fun p vs H2 k0 k1 k2 k3 => ⟨p, rfl, ⟨vs, SqL.of k2⟩, r _ H2 k1 ((src_list k2 k3).weak fun H3 e => ⟨Tx.of e, e _ _ k2⟩)⟩
theorem es_listAt {a : Addr} {vs : List V} (h : Ev tl σ H (.ref a)) (hs : H a = some (.lst vs)) (hd : DnL H vs ds) : ES (iList K tl) σ H ds := fun H1 a' R r =>
  h H1 a' _ fun H2 k1 => ⟨a, rfl, ⟨vs, SqL.of ((a'.trans k1) _ _ hs)⟩, r _ H2 k1 ((src_list ((a'.trans k1) _ _ hs) (hd.ex (a'.trans k1))).weak fun H3 e => ⟨Tx.of e, (a'.trans k1).trans e _ _ hs⟩)⟩
theorem src_range {lo : Int} {n : Nat} {G : Hp → Prop} : Src (Itr lo n) G ((List.range n).map fun i : Nat => PyData.int (lo + (i : Int))) := by
  refine ⟨fun i H3 _ hi => ?_, fun H3 _ => ?_, fun i d H3 x H4 ed _ y => ?_⟩
  · rw [List.length_map, List.length_range] at hi
    exact hi
  · rw [List.length_map, List.length_range]
    exact Nat.le_refl n
  · obtain ⟨f1, f2⟩ := y
    subst f1
    subst f2
    rw [List.getElem?_map] at ed
    cases q : (List.range n)[i]? with
    | none => rw [q] at ed; cases ed
    | some k =>
      rw [q] at ed
      have e1 : k = i := by
        have := List.getElem?_eq_some_iff.mp q
        obtain ⟨w1, w2⟩ := this
        rw [List.getElem_range] at w2
        exact w2.symm
      subst e1
      cases ed
      exact ⟨Ex.refl _, .int _⟩
theorem et_range1 {n : Nat} (h : ED ta σ H (.int (n : Int))) (z : n ≤ 100000) : ET (iRng1 (tCons ta tNil)) σ H ((List.range n).map fun i : Nat => PyData.int (i : Int)) := fun H1 a R r =>
  h H1 a _ fun v H2 k1 k2 => ⟨n, by rw [k2.int_inv], by omega, by omega, r _ H2 k1 (by
    have := src_range (lo := 0) (n := n) (G := Tx H2)
    have e : (fun i : Nat => PyData.int (0 + (i : Int))) = fun i : Nat => PyData.int (i : Int) := by
      funext i
      rw [Int.zero_add]
    rw [e] at this
    rw [Int.toNat_natCast]
    exact this)⟩
theorem el_lc {α : Type} {enc : α → PyData} {xs : List α} {b : α → Bool} {f : α → PyData} {wi : TI} {g : TG} {tt : TT} {vs : List Nat} (h : ES wi σ H (xs.map enc)) (z : xs.length < 100000)
    (hb : ∀ a ∈ xs, ∀ x H', Ex H H' → Dn H' x (enc a) → ∃ σ2, (∀ Q : L2.St → Hp → Prop, Q σ2 H' → g x (wipe σ vs) H' Q) ∧ wipe σ2 vs = wipe σ vs ∧ EvT tt σ2 H' (b a) ∧ (b a = true → ED te σ2 H' (f a))) :
    EL (tLc wi g tt te vs) σ H ((xs.filter b).map f) := fun H1 a Q q =>
  h H1 a _ fun J H2 k S D hD => by
    refine ⟨fun i m H' => m = xs.length - i ∧ i ≤ xs.length ∧ Ex H2 H' ∧ ∃ acc, H' D = some (.lst acc) ∧ DnL H' acc (((xs.take i).filter b).map f),
      ⟨xs.length, rfl, Nat.zero_le _, Ex.new hD, [], upd_same, .nil⟩, ?_⟩
    rintro i m H' ⟨rfl, hi, e, acc, hacc, hd⟩
    by_cases hlt : i < xs.length
    · have hx : xs[i]? = some xs[i] := List.getElem?_eq_getElem hlt
      have hm : (xs.map enc)[i]? = some (enc xs[i]) := by rw [List.getElem?_map, hx]; rfl
      refine .inr ⟨S.go i H' e (by rw [List.length_map]; exact hlt), fun H3 => Ex H2 H3 ∧ ∃ acc, H3 D = some (.lst acc) ∧ DnL H3 acc (((xs.take (i + 1)).filter b).map f), fun H3 ⟨n1, n2⟩ => ⟨xs.length - (i + 1), by omega, rfl, hlt, n1, n2⟩, fun x H3 y => ?_⟩
      obtain ⟨e3, dx⟩ := S.yld i _ H' x H3 hm e y
      obtain ⟨σ2, s1, s2, s3, s4⟩ := hb xs[i] (List.getElem_mem hlt) x H3 (((a.trans k).trans e).trans e3) dx
      refine s1 _ ⟨s2, s3.mono (Ex.refl H3) H3 (Ex.refl H3) _ fun H4 e4 => ?_⟩
      have acc4 : H4 D = some (.lst acc) := e4 _ _ (e3 _ _ hacc)
      have d4 := (hd.ex e3).ex e4
      have tk : xs.take (i + 1) = xs.take i ++ [xs[i]] := by rw [List.take_add_one, hx] <;> rfl
      have lacc : acc.length ≤ xs.length := by
        rw [hd.length, List.length_map]
        exact Nat.le_trans (List.length_filter_le _ _) (by rw [List.length_take]; omega)
      cases hbb : b xs[i] with
      | false =>
        show Ex H2 H4 ∧ _
        refine ⟨(e.trans e3).trans e4, acc, acc4, ?_⟩
        rw [tk, List.filter_append, List.filter_cons, hbb]
        simpa using d4
      | true =>
        refine s4 hbb H4 e4 _ fun w H5 e5 dw => ⟨acc, e5 _ _ acc4, sz_lt (by omega), ?_, acc ++ [w], upd_same, ?_⟩
        · exact (((e.trans e3).trans e4).trans e5).mut hD
        · have nt : Tx H5 (upd H5 D (.lst (acc ++ [w]))) := Tx.mut (e5 _ _ acc4) fun _ q => nomatch q
          rw [tk, List.filter_append, List.filter_cons, hbb, List.map_append]
          exact ((d4.ex e5).tx nt).append (.cons (dw.tx nt) .nil)
    · have e1 : i = xs.length := by omega
      subst e1
      refine .inl ⟨by have := S.stop H' e; rw [List.length_map] at this; exact this, ?_⟩
      rw [List.take_length] at hd
      exact q D acc H' (fresh_back k hD) (k.trans e) hacc hd
/-- without tests -/
theorem el_lcAll {α : Type} {enc : α → PyData} {xs : List α} {f : α → PyData} {wi : TI} {g : TG} {vs : List Nat} (h : ES wi σ H (xs.map enc)) (z : xs.length < 100000)
    (hb : ∀ a ∈ xs, ∀ x H', Ex H H' → Dn H' x (enc a) → ∃ σ2, (∀ Q : L2.St → Hp → Prop, Q σ2 H' → g x (wipe σ vs) H' Q) ∧ wipe σ2 vs = wipe σ vs ∧ ED te σ2 H' (f a)) :
    EL (tLc wi g tYes te vs) σ H (xs.map f) := by
  have := el_lc (b := fun _ => true) (tt := tYes) (te := te) (f := f) h z fun a ha x H' e dx => by
    obtain ⟨σ2, s1, s2, s3⟩ := hb a ha x H' e dx
    exact ⟨σ2, s1, s2, et_yes, fun _ => s3⟩
  have e0 : xs.filter (fun _ => true) = xs := List.filter_eq_self.mpr fun _ _ => rfl
  rw [e0] at this
  exact this
/-- a for over a source -/
theorem for_src {J : It} {G : Hp → Prop} (S : Src J G ds) {g : TG} {tb : TS} {D : Ends} {σ : L2.St} {H : Hp} (Pv : Nat → L2.St → Hp → Prop) (h0 : Pv 0 σ H) (hG : ∀ i σ H, Pv i σ H → G H)
    (hs : ∀ i d x σ H H', ds[i]? = some d → Pv i σ H → Ex H H' → Dn H' x d → g x σ H' fun σ2 H2 => tb { D with nx := Pv (i + 1), ct := Pv (i + 1), bk := D.nx } σ2 H2) (hd : ∀ σ H, Pv ds.length σ H → D.nx σ H) :
    ∃ W : Nat → Nat → L2.St → Hp → Prop, (∃ m, W 0 m σ H) ∧ ∀ i m σ H, W i m σ H →
      (J.stop i H ∧ D.nx σ H) ∨ (J.go i H ∧ ∃ N : L2.St → Hp → Prop, (∀ σ' H', N σ' H' → ∃ m', m' < m ∧ W (i + 1) m' σ' H') ∧ ∀ x H', J.yld i H x H' → g x σ H' fun σ2 H2 => tb { D with nx := N, ct := N, bk := D.nx } σ2 H2) := by
  refine ⟨fun i m σ H => m = ds.length - i ∧ i ≤ ds.length ∧ Pv i σ H, ⟨ds.length, by simp, Nat.zero_le _, h0⟩, ?_⟩
  rintro i m σ H ⟨rfl, hi, p⟩
  have q := hG i σ H p
  by_cases hlt : i < ds.length
  · refine .inr ⟨S.go i H q hlt, Pv (i + 1), fun σ' H' p' => ⟨ds.length - (i + 1), by omega, rfl, hlt, p'⟩, fun x H' y => ?_⟩
    have hx : ds[i]? = some ds[i] := List.getElem?_eq_getElem hlt
    obtain ⟨e3, dx⟩ := S.yld i _ H x H' hx q y
    exact hs i _ x σ H H' hx p e3 dx
  · have e : i = ds.length := by omega
    subst e
    exact .inl ⟨S.stop H q, hd σ H p⟩
/-- targets -/
theorem g_name {i : Nat} {x : V} {σ : L2.St} {H : Hp} : ∀ Q : L2.St → Hp → Prop, Q (σ.set i (some x)) H → gName i x σ H Q := fun _ q => q
theorem g_pair {i j : Nat} {x : V} {d1 d2 : PyData} {σ : L2.St} {H : Hp} (h : Dn H x (.tuple [d1, d2])) : ∃ v1 v2, Dn H v1 d1 ∧ Dn H v2 d2 ∧ ∀ Q : L2.St → Hp → Prop, Q ((σ.set i (some v1)).set j (some v2)) H → gTup K 2 (gCons (gName i) (gCons (gName j) gNil)) x σ H Q := by
  obtain ⟨p, xs, e1, e2, e3⟩ := h.tup_inv
  obtain ⟨v1, r1, q1, q2, q3⟩ := e3.cons_inv
  obtain ⟨v2, r2, q4, q5, q6⟩ := q3.cons_inv
  have q7 := q6.nil_inv
  subst q7 q4 q1
  exact ⟨v1, v2, q2, q5, fun Q q => ⟨p, _, e1, SqT.of e2, rfl, v1, [v2], rfl, v2, [], rfl, rfl, q⟩⟩
end
end Gw
/-! Rules that the modules do not hold: in a tuple of data, min, max and sorted of tuples, repr of a tuple, len(set(tuple)). -/
namespace Gw
open PySem PySem.Spec PySem.W PyProof.Rows L2 Evl
section
variable {X : Cx}
/-- x in t, t a tuple of data of any depth -/
def rInT (K : PySem.W.Frag) (neg : Bool) : R2 := fun x y H Q => ∃ d ds, Dp K H x d ∧ Dp K H y (.tuple ds) ∧ d.canLay0 = true ∧ PyData.canLayAll0 ds = true ∧ d.depth ≤ 60 ∧ PyData.depthAll ds ≤ 60 ∧
  Q (.bl (if neg then !ds.any (fun z => PyData.eqv z d) else ds.any fun z => PyData.eqv z d)) H
theorem op_inT (hu : X.A.units + 64 < cLine) : OpR X (compareOp .In) (rInT X.K false) := by
  rintro pins s σ H x y v u Q I rx ry ⟨d, ds, hd, he, c1, c2, z1, z2, q⟩
  obtain ⟨as, r1⟩ := Dp.reads I d x v hd rx
  obtain ⟨bs, r2⟩ := Dp.reads I (.tuple ds) y u he ry
  exact SeqAt.in_tuple_reads r2 r1 c2 c1 (by omega) ⟨.bl _, H, I, rfl, q⟩
theorem op_notInT (hu : X.A.units + 64 < cLine) : OpR X (compareOp .NotIn) (rInT X.K true) := by
  rintro pins s σ H x y v u Q I rx ry ⟨d, ds, hd, he, c1, c2, z1, z2, q⟩
  obtain ⟨as, r1⟩ := Dp.reads I d x v hd rx
  obtain ⟨bs, r2⟩ := Dp.reads I (.tuple ds) y u he ry
  exact SeqAt.notIn_tuple_reads r2 r1 c2 c1 (by omega) ⟨.bl _, H, I, rfl, q⟩
theorem vals_one {x : V} {us : List Value} (r : Vals [x] us) : ∃ u, us = [u] ∧ RelV x u := by
  cases r with
  | cons a b =>
    cases b
    exact ⟨_, rfl, a⟩
/-- min(t), max(t) of a pair of ints -/
def rMin2T : List V → Hp → VK → Prop := fun vs H Q => ∃ (a : Addr) (i j : Int), vs = [.ref a] ∧ H a = some (.tup [.int i, .int j]) ∧ Q (.int (min i j)) H
def rMax2T : List V → Hp → VK → Prop := fun vs H Q => ∃ (a : Addr) (i j : Int), vs = [.ref a] ∧ H a = some (.tup [.int i, .int j]) ∧ Q (.int (max i j)) H

theorem alike2 (i j : Int) : AlikeAll [PyData.int i, PyData.int j] := by
  constructor
  · intro x hx y hy
    simp at hx hy
    rcases hx with rfl | rfl <;> rcases hy with rfl | rfl <;> rfl
  · intro x hx
    simp at hx
    rcases hx with rfl | rfl <;> exact fun q => nomatch q
theorem depth2 (i j : Int) : PyData.depthAll [PyData.int i, PyData.int j] ≤ 1 := by
  simp [PyData.depthAll, PyData.depth]
theorem cr_min2T (hc : X.calm = true) (hu : X.A.units + 64 < cLine) : CallR X (.builtin "min") rMin2T := by
  rintro pins s σ H vs us Q I r ⟨a, i, j, rfl, ha, q⟩
  obtain ⟨u, rfl, ru⟩ := vals_one r
  cases ru
  obtain ⟨its, rv, pt, hz⟩ := I.tuple (SqT.of ha)
  obtain ⟨as, hr⟩ := Dp.readsAll I [PyData.int i, PyData.int j] _ its (.cons (.int i) (.cons (.int j) .nil)) rv
  have hd := depth2 i j
  refine min_tuple_data (I.ok.hd hc) (show s.heap.IsTuple a its.toArray from pt) (by simpa using hr) (alike2 i j) (by omega) fun k v h' tk bs hv hrd hk => ?_
  have e : minD (.int i) [PyData.int j] = .int (min i j) := by
    have := minD_ints i [j]
    simpa using this
  rw [e] at hrd
  obtain ⟨t, rfl⟩ : ∃ t, v = Value.int (min i j) t := by
    cases hrd
    exact ⟨_, rfl⟩
  exact ⟨.int _, H, I.kept hk, ⟨_, rfl⟩, q⟩
theorem cr_max2T (hc : X.calm = true) (hu : X.A.units + 64 < cLine) : CallR X (.builtin "max") rMax2T := by
  rintro pins s σ H vs us Q I r ⟨a, i, j, rfl, ha, q⟩
  obtain ⟨u, rfl, ru⟩ := vals_one r
  cases ru
  obtain ⟨its, rv, pt, hz⟩ := I.tuple (SqT.of ha)
  obtain ⟨as, hr⟩ := Dp.readsAll I [PyData.int i, PyData.int j] _ its (.cons (.int i) (.cons (.int j) .nil)) rv
  have hd := depth2 i j
  refine max_tuple_data (I.ok.hd hc) (show s.heap.IsTuple a its.toArray from pt) (by simpa using hr) (alike2 i j) (by omega) fun k v h' tk bs hv hrd hk => ?_
  have e : maxD (.int i) [PyData.int j] = .int (max i j) := by
    have := maxD_ints i [j]
    simpa using this
  rw [e] at hrd
  obtain ⟨t, rfl⟩ : ∃ t, v = Value.int (max i j) t := by
    cases hrd
    exact ⟨_, rfl⟩
  exact ⟨.int _, H, I.kept hk, ⟨_, rfl⟩, q⟩

/-- sorted(t), t a tuple of ints -/
def rSortT : List V → Hp → VK → Prop := fun vs H Q => ∃ (a : Addr) (ns : List Int), vs = [.ref a] ∧ H a = some (.tup (ns.map V.int)) ∧
  ∀ (ns' : List Int) (p : Addr), ns'.Perm ns → ns'.Pairwise (· ≤ ·) → H p = none → Q (.ref p) (upd H p (.lst (ns'.map V.int)))
theorem cr_sortT1 : CallR X (.builtin "sorted") rSortT := by
  rintro pins s σ H vs us Q I r ⟨a, ns, rfl, ha, q⟩
  obtain ⟨u, rfl, ru⟩ := vals_one r
  cases ru
  obtain ⟨its, rv, pt, hz⟩ := I.tuple (SqT.of ha)
  obtain ⟨o, ho, hcl, n, hdt⟩ := id pt
  have hi : IntsAre its ns := rv.ints
  have hzl : its.length ≤ sizeLine := by rw [← rv.length]; exact hz
  refine Calls.call_function_entry kind_sorted plain_sorted entry_sorted (args_sorted1 _) ?_
  unfold Builtin.«sorted»
  refine wpAny_bind (m := checkCount "sorted" 1 1 _) (wpAny_pure ?_)
  refine wpAny_bind (wpAny_collect_seq a (.inr rfl) ho hcl hdt (fun h1 hk => ?_) (by simpa using hzl))
  rw [show its.toArray.toList = its by simp]
  refine wpAny_bind (wpAny_newList ?_ hzl)
  have hnew : (h1.push (seqObj "list" its.toArray 0)).get? h1.objs.size = some (seqObj "list" its.toArray 0) := Heap.get?_push_size _ rfl
  have old : ∀ b o', s.heap.get? b = some o' → b ≠ h1.objs.size ∧ (h1.push (seqObj "list" its.toArray 0)).get? b = some o' := fun b o' e =>
    ⟨Nat.ne_of_lt (Heap.lt_size (hk b o' e)), Heap.get?_push_of_some _ (hk b o' e)⟩
  refine wpAny_bind (wpAny_holding (wpAny_call_entry slot_list_sort ⟨_, hnew, rfl⟩ entry_list_sort
    (SrtO.list_sort_ord (s := { s with heap := h1.push (seqObj "list" its.toArray 0) }) SrtO.swo_int hnew hzl (fun h2 => SrtO.ints_sortable hi h2) fun out k1 k2 => ⟨_, rfl, ?_⟩) (args_list_sort _)))
  obtain ⟨m1, m2, m3⟩ := SrtO.ints_out hi k1 k2
  refine wpAny_pure ⟨_, rfl, ?_⟩
  have g0 : (h1.push (seqObj "list" its.toArray 0)).get? h1.objs.size = some (seqObj "list" its.toArray 0) := hnew
  have g1 : ((h1.push (seqObj "list" its.toArray 0)).update h1.objs.size (Obj.mapSeq fun _ => #[])).get? h1.objs.size = some _ := get?_update_seq g0 (fun _ => #[])
  have g2 := Heap.get?_push_of_some (seqObj "list" #[] 0) (Heap.get?_push_of_some (seqObj "tuple" its.toArray 0) g1)
  obtain ⟨ep, g3⟩ : ∃ ep, (sortedHeap (h1.push (seqObj "list" its.toArray 0)) h1.objs.size its out.toArray).get? h1.objs.size = some (seqObj "list" out.toArray ep) := ⟨_, get?_update_seq g2 (fun _ => out.toArray)⟩
  have kp : ∀ b o', h1.get? b = some o' → (sortedHeap (h1.push (seqObj "list" its.toArray 0)) h1.objs.size its out.toArray).get? b = some o' := fun b o' e => by
    have n1 : b ≠ h1.objs.size := Nat.ne_of_lt (Heap.lt_size e)
    unfold sortedHeap
    rw [Heap.get?_update_ne _ _ _ _ n1]
    refine Heap.get?_push_of_some _ (Heap.get?_push_of_some _ ?_)
    rw [Heap.get?_update_ne _ _ _ _ n1]
    exact Heap.get?_push_of_some _ e
  have I1 : Inv X pins σ H { s with heap := h1 } := I.kept (t' := s.toks) hk
  have hlen : ((out.map SrtO.iv).map V.int).length ≤ sizeLine := by
    rw [List.length_map, m2.length_eq, ← List.length_map V.int]
    exact hz
  exact ⟨.ref h1.objs.size, upd H h1.objs.size (.lst ((out.map SrtO.iv).map V.int)), I1.laid (t' := s.toks) kp (Nat.le_refl _) ⟨hlen, out, ep, vals_of_ints m1, g3⟩, rfl, q _ _ m2 m3 (I1.hok.fresh (Nat.le_refl _))⟩
/-- repr(t), t a tuple of ints -/
def shownT (ns : List Int) : Str := (PyData.tuple (ns.map PyData.int)).shown
def rReprT : List V → Hp → VK → Prop := fun vs H Q => ∃ (a : Addr) (ns : List Int), vs = [.ref a] ∧ H a = some (.tup (ns.map V.int)) ∧ (shownT ns).length ≤ sizeLine ∧ (PyData.tuple (ns.map PyData.int)).showable = true ∧ Q (.str (shownT ns)) H
theorem depth_ints : ∀ ns : List Int, PyData.depthAll (ns.map PyData.int) ≤ 1
  | [] => by simp [PyData.depthAll]
  | n :: ns => by
    have := depth_ints ns
    simp only [List.map_cons, PyData.depthAll, PyData.depth]
    omega
theorem nodict_ints : ∀ ns : List Int, (PyData.tuple (ns.map PyData.int)).hasDict = false := by
  intro ns
  have : ∀ ns : List Int, PyData.hasDictAll (ns.map PyData.int) = false := by
    intro ns
    induction ns with
    | nil => simp [PyData.hasDictAll]
    | cons n ns ih => simp [PyData.hasDictAll, PyData.hasDict, ih]
  simp only [PyData.hasDict]
  exact this ns
theorem dp_ints {K : PySem.W.Frag} {H : Hp} : ∀ ns : List Int, DpAll K H (ns.map V.int) (ns.map PyData.int)
  | [] => .nil
  | n :: ns => .cons (.int n) (dp_ints ns)
theorem cr_reprT (hg : X.A.guards = some []) (hu : X.A.units + 64 < cLine) : CallR X (.builtin "repr") rReprT := by
  rintro pins s σ H vs us Q I r ⟨a, ns, rfl, ha, hz, hsh, q⟩
  obtain ⟨u, rfl, ru⟩ := vals_one r
  cases ru
  have hd : Dp X.K H (.ref a) (.tuple (ns.map PyData.int)) := .tup (SqT.of ha) (dp_ints ns)
  obtain ⟨as, r1⟩ := Dp.reads I _ _ _ hd rfl
  have hdp := depth_ints ns
  refine repr_of_reads' r1 hsh (fun k => by rw [nodict_ints] at k; cases k) hg (by simp only [PyData.depth]; omega) (fun _ _ e => e) (fun h' u tk hk => ?_) hz
  exact ⟨.str (shownT ns), H, I.kept hk, ⟨_, rfl⟩, q⟩
end
end Gw
/-! Walks that the modules do not hold: enumerate of a tuple; zip of a tuple and a list; zip of two tuples into one name. -/
namespace Gw
open PySem PySem.Spec PySem.W PyProof.Rows L2 Evl

/-! ### enumerate of a tuple -/
def IteT (K : PySem.W.Frag) (a : Addr) : It :=
  ⟨fun i H => ∃ (xs : List V) (x : V), SqT K H a xs ∧ xs[i]? = some x,
   fun i H v H' => ∃ T x, v = .ref T ∧ H T = none ∧ H' = upd H T (.tup [.int (i : Nat), x]) ∧ ∀ xs, SqT K H a xs → xs[i]? = some x,
   fun i H => ∃ xs : List V, SqT K H a xs ∧ xs.length = i⟩
theorem turn_enumT {P : Program} {w : World} {K : PySem.W.Frag} {elts : List Expr} {kk : Nat} {tpos : Pos} (a e it : Addr) :
    Turn P w K (.Tuple elts kk tpos) (IteT K a) [e, it] e (fun i h => (∃ old, IsEnum h e it ((i : Nat) : Int) old) ∧ h.IsTupleIter it a i ∧ e ≠ it ∧ a ≠ it ∧ a ≠ e) := by
  refine ⟨by simp, fun i h st b hb => ?_, fun i h h' st k => ?_, ?_, ?_, fun A i s Q E st h => ?_⟩
  · obtain ⟨⟨old, he⟩, ⟨o, ho, hc, hd⟩, _⟩ := st
    rcases List.mem_cons.mp hb with z | z
    · subst z
      exact ⟨_, he, fun v q => nomatch q⟩
    · rw [List.mem_singleton] at z
      exact ⟨o, by rw [z]; exact ho, fun v q => by rw [hd] at q; cases q⟩
  · obtain ⟨⟨old, he⟩, hi, hr⟩ := st
    exact ⟨⟨old, k e (by simp) _ he⟩, hi.at fun o q => k it (by simp) o q, hr⟩
  · rintro X rfl rfl rfl hc i pins s σ H E I hf ⟨⟨old, he⟩, hit, h1, h2, h3⟩ ⟨xs, x, hq, hx⟩
    obtain ⟨its, rv, p, hz⟩ := I.tuple hq
    obtain ⟨u, hu, ru⟩ := rv.get hx
    have hel : e < s.heap.objs.size := Heap.lt_size he
    have hil : it < s.heap.objs.size := by
      obtain ⟨_, q, _⟩ := hit
      exact Heap.lt_size q
    have hlt : i < its.toArray.size := by simpa using (List.getElem?_eq_some_iff.mp hu).1
    have D := Draws.tuple (prog := X.prog) (w := X.w) (A := X.A.in1) (I.ok.hd hc) it a h2 its.toArray
    refine wpAny_pyNext_enum_itemD D he ⟨hit, p⟩ hlt h1 (by simp [h1, Ne.symm h3]) fun y h' tk hy ho st' hT hsz hk => ?_
    have ey : y = u := by
      have : its[i]? = some y := by simpa using hy
      rw [hu] at this
      exact (Option.some.inj this).symm
    subst ey
    refine ⟨_, rfl, wpAny_letOwnedTupleGo_enum (s := { s with heap := h', toks := tk + 1 }) ho fun h'' he' sb => ?_⟩
    have hT2 := (sb.2 _ (Nat.ne_of_gt hel)).trans hT
    have new : ObjOk X.prog X.w (L2.upd H s.heap.objs.size (.tup [.int (i : Nat), x])) h'' s.heap.objs.size (.tup [.int (i : Nat), x]) :=
      ⟨by show 2 ≤ sizeLine; decide, [.int i tk, y], .cons ⟨_, rfl⟩ (.cons ru .nil), ⟨_, hT2, rfl, _, rfl⟩⟩
    have I1 : Inv X pins σ (L2.upd H s.heap.objs.size (.tup [.int (i : Nat), x])) { s with heap := h'', toks := tk + 1 } :=
      I.turnedNew (ch := [e, it]) (fun b ob hb q => by
        have hb1 : b ≠ e := fun z => hb (by simp [z])
        have hb2 : b ≠ it := fun z => hb (by simp [z])
        exact (sb.2 b hb1).trans (hk b ob hb1 hb2 q)) hf (Nat.le_refl _) new
    refine ⟨.ref s.heap.objs.size, _, I1, rfl, ⟨_, x, rfl, I.hok.fresh (Nat.le_refl _), rfl, fun ys hy => by rw [I.tuple_inj hy hq]; exact hx⟩, ⟨⟨y, ?_⟩, st'.1.at fun o q => (sb.2 it (Ne.symm h1)).trans q, h1, h2, h3⟩, fun b hb => ?_⟩
    · have e1 : ((i + 1 : Nat) : Int) = (i : Int) + 1 := by omega
      rw [e1]
      exact he'
    · have hb' : b < s.heap.objs.size := by
        rcases List.mem_cons.mp hb with z | z
        · rw [z]; exact hel
        · rw [List.mem_singleton] at z
          rw [z]; exact hil
      rw [upd_ne (Nat.ne_of_lt hb')]
      exact (hf b hb).1
  · rintro X rfl rfl rfl hc i pins s σ H E I hf ⟨⟨old, he⟩, hit, h1, h2, h3⟩ ⟨xs, hq, hx⟩
    obtain ⟨its, rv, p, hz⟩ := I.tuple hq
    have hl : its.toArray.size = i := by rw [List.size_toArray, ← rv.length]; exact hx
    have D := Draws.tuple (prog := X.prog) (w := X.w) (A := X.A.in1) (I.ok.hd hc) it a h2 its.toArray
    obtain ⟨f0, f1, f2, f3, f4, f5⟩ := hf it (by simp)
    exact wpAny_pyNext_enum_endD D he (by rw [hl]; exact ⟨hit, p⟩) fun h' eb => ⟨rfl, I.turned (t' := s.toks) (fun b o hb q => eb b o hb q) f0 f1 f3 f4 f5⟩
  · obtain ⟨⟨_, he⟩, _⟩ := st
    exact wpAny_pyIter_enum he h

theorem meets_enum_tup (t : Addr) (items : Array Value) :
    Meets (Builtin.«enumerate.__new__» ⟨[.type "enumerate", .ref t], []⟩) (fun _ R s => s.heap.IsTuple t items ∧
      R (.ok (.ret (.ref (s.heap.push { cls := .type "tuple_iterator", data := .fields #[.ref t, .int 0 0] }).objs.size)))
        { s with heap := (s.heap.push { cls := .type "tuple_iterator", data := .fields #[.ref t, .int 0 0] }).push { cls := .type "enumerate", data := .fields #[.none, .bool false, .ref s.heap.objs.size, rawInt 0, .none, .none] } }) :=
  .of_wp fun prog w A R s h => by
    obtain ⟨hp, g, d, tk, os⟩ := s
    obtain ⟨hl, h⟩ := h
    have hsub := sub_enumerate
    have hT : Heap.IsTuple (Shared.heap ⟨hp, g, d, tk, os⟩) t items := hl
    wp_walk using wpAny_pyIter_tuple hT
    refine wpAny_stack_any fun st => wpAny_pure ?_
    split
    · rename_i c _ _ _ _ _
      cases (c == Value.type "enumerate") <;> (wp_walk using wpAny_pyIter_tuple hT; exact ⟨_, rfl, h⟩)
    · wp_walk using wpAny_pyIter_tuple hT
      exact ⟨_, rfl, h⟩
section
variable {prog : Program} {w : World} {A : Around} {E : Value → Shared → Prop} {s : Shared}
theorem call_enum_tup {t : Addr} {items : Array Value} {Q : Value → Shared → Prop} (hL : s.heap.IsTuple t items)
    (h : ∀ h', IsEnum h' (s.heap.objs.size + 1) s.heap.objs.size 0 .none → h'.IsTupleIter s.heap.objs.size t 0 → (∀ b o, s.heap.get? b = some o → h'.get? b = some o) → Q (.ref (s.heap.objs.size + 1)) { s with heap := h' }) :
    wpAny (model prog w) A (call (.type "enumerate") [.ref t]) Q E s := by
  refine callType_new F.called_enumerate (by decide) (F.typeCall_enumerate_1 _) (F.newCall_enumerate_1 _) (fun obj => F.args_object_init_2 obj _) F.entry_enumerate_new (meets_enum_tup t items) ⟨hL, ?_⟩
  have hz : (s.heap.push { cls := .type "tuple_iterator", data := .fields #[.ref t, .int 0 0] }).objs.size = s.heap.objs.size + 1 := Heap.size_push ..
  have he : ((s.heap.push { cls := .type "tuple_iterator", data := .fields #[.ref t, .int 0 0] }).push
      { cls := .type "enumerate", data := .fields #[.none, .bool false, .ref s.heap.objs.size, rawInt 0, .none, .none] }).get? (s.heap.push { cls := .type "tuple_iterator", data := .fields #[.ref t, .int 0 0] }).objs.size = some _ := Heap.get?_push_size _ rfl
  rw [hz] at he
  show _ ∧ _
  rw [hz]
  exact ⟨⟨_, he, rfl⟩, h _ he ⟨_, Heap.get?_push_of_some _ (Heap.get?_push_size _ rfl), rfl, rfl⟩ fun b o x => Heap.get?_push_of_some _ (Heap.get?_push_of_some _ x)⟩
end
def iEnumT (K : PySem.W.Frag) (ta : TA) : TI := fun σ H R => ta σ H fun vs H1 => ∃ a xs, vs = [.ref a] ∧ SqT K H1 a xs ∧ R (IteT K a) H1
theorem pi_enumT {X : Cx} {e : Expr} {ta : TA} {p pos tpos : Pos} {elts : List Expr} {kk : Nat} (hg : Gl X "enumerate") (hm : X.mg "enumerate" = none) (ha : PA X [e] ta) (hs : starEach [e] X.env = [(false, eval e X.env)] := by rfl) :
    PI X (.Tuple elts kk tpos) (.Call (.Name "enumerate" p) [e] [] pos) (iEnumT X.K ta) := by
  constructor
  intro pins s σ H R I h
  refine Call_ (ld_blt I hg hm boot_enumerate (PyProof.Rows.callWith_type1 (thn (ha.run pos pins s σ H _ I h) fun us s1 ⟨vs, H1, I1, r1, q1⟩ => ?_) hs rfl))
  obtain ⟨a, xs, rfl, hq, q⟩ := q1
  obtain ⟨u, rfl, ru⟩ := vals_one r1
  cases ru
  obtain ⟨its, rv, p', hz⟩ := I1.tuple hq
  obtain ⟨oa, hoa, _⟩ := id p'
  have hal : a < s1.heap.objs.size := Heap.lt_size hoa
  refine call_enum_tup p' fun h' he hit hk => wpAny_pyIter_enum he ?_
  have I2 : Inv X pins σ H1 { s1 with heap := h' } := I1.kept (t' := s1.toks) hk
  refine ⟨s1.heap.objs.size + 1, [s1.heap.objs.size + 1, s1.heap.objs.size], _, _, H1, rfl, I2, turn_enumT a (s1.heap.objs.size + 1) s1.heap.objs.size,
    ⟨⟨.none, he⟩, hit, Nat.succ_ne_self _, Nat.ne_of_lt hal, Nat.ne_of_lt (Nat.lt_succ_of_lt hal)⟩, fun b hb => ?_, q⟩
  have hle : s1.heap.objs.size ≤ b := by
    rcases List.mem_cons.mp hb with z | z
    · rw [z]; exact Nat.le_add_right _ _
    · rw [List.mem_singleton] at z
      rw [z]; exact Nat.le_refl _
  exact I1.fpOk hle (I1.hok.fresh hle)

/-! ### zip of a tuple and a list, into two names -/
def ItzM (K : PySem.W.Frag) (a b : Addr) : It :=
  ⟨fun i H => ∃ (xs ys : List V) (x y : V), SqT K H a xs ∧ SqL K H b ys ∧ xs[i]? = some x ∧ ys[i]? = some y,
   fun i H v H' => ∃ T x y, v = .ref T ∧ H T = none ∧ H' = upd H T (.tup [x, y]) ∧ (∀ xs, SqT K H a xs → xs[i]? = some x) ∧ ∀ ys, SqL K H b ys → ys[i]? = some y,
   fun i H => ∃ xs ys : List V, SqT K H a xs ∧ SqL K H b ys ∧ i = min xs.length ys.length⟩
structure Five (z TI TO i1 i2 a b : Addr) : Prop where
  sep : ZipSep2 z TI TO i1 i2 [i1, a] [i2, b]
  a1 : a ≠ i1
  b2 : b ≠ i2
theorem five_new {N a b : Nat} (ha : a < N) (hb : b < N) : Five (N + 4) (N + 2) (N + 3) N (N + 1) a b :=
  ⟨zip_sep2 (fp1 := [a]) (fp2 := [b]) (fun x hx => by rw [List.mem_singleton] at hx; rw [hx]; exact ha) (fun x hx => by rw [List.mem_singleton] at hx; rw [hx]; exact hb), Nat.ne_of_lt ha, Nat.ne_of_lt (Nat.lt_succ_of_lt hb)⟩
theorem turn_zipM {P : Program} {w : World} {K : PySem.W.Frag} {elts : List Expr} {kk : Nat} {tpos : Pos} {a b z TI TO i1 i2 : Addr} (D : Five z TI TO i1 i2 a b) :
    Turn P w K (.Tuple elts kk tpos) (ItzM K a b) [z, TI, TO, i1, i2] z (fun i h => IsZip h z TI TO .none ∧ IsTupOf2 h TI (.ref i1) (.ref i2) ∧ (∃ x y, IsTupOf2 h TO x y) ∧ h.IsTupleIter i1 a i ∧ h.IsListIter i2 b i) := by
  have five : ∀ {c : Addr}, c ∈ [z, TI, TO, i1, i2] → c = z ∨ c = TI ∨ c = TO ∨ c = i1 ∨ c = i2 := fun h => by simpa using h
  refine ⟨by simp, fun i h st c hc => ?_, fun i h h' st k => ?_, ?_, ?_, fun A i s Q E st h => wpAny_pyIter_zip st.1 h⟩
  · obtain ⟨hz, hTI, ⟨x, y, hTO⟩, ⟨o1, e1, _, d1⟩, ⟨o2, e2, _, d2⟩⟩ := st
    rcases five hc with q | q | q | q | q <;> subst q
    · exact ⟨_, hz, fun v q => nomatch q⟩
    · exact ⟨_, hTI, fun v q => nomatch q⟩
    · exact ⟨_, hTO, fun v q => nomatch q⟩
    · exact ⟨o1, e1, fun v q => by rw [d1] at q; cases q⟩
    · exact ⟨o2, e2, fun v q => by rw [d2] at q; cases q⟩
  · obtain ⟨hz, hTI, ⟨x, y, hTO⟩, h1, h2⟩ := st
    exact ⟨k z (by simp) _ hz, k TI (by simp) _ hTI, ⟨x, y, k TO (by simp) _ hTO⟩, h1.at fun o q => k i1 (by simp) o q, h2.at fun o q => k i2 (by simp) o q⟩
  · rintro X rfl rfl rfl hc i pins s σ H E I hf ⟨hz, hTI, ⟨x0, y0, hTO⟩, h1, h2⟩ ⟨xs, ys, x, y, hqx, hqy, hx, hy⟩
    obtain ⟨its, rv, p, _⟩ := I.tuple hqx
    obtain ⟨its2, rv2, p2, _⟩ := I.list hqy
    obtain ⟨u, hu, ru⟩ := rv.get hx
    obtain ⟨u2, hu2, ru2⟩ := rv2.get hy
    have hd := I.ok.hd hc
    have D1 := Draws.tuple (prog := X.prog) (w := X.w) (A := X.A.in1) hd i1 a D.a1 its.toArray
    have D2 := Draws.list (prog := X.prog) (w := X.w) (A := X.A.in1) hd i2 b D.b2 its2.toArray
    have l1 : i < its.toArray.size := by simpa using (List.getElem?_eq_some_iff.mp hu).1
    have l2 : i < its2.toArray.size := by simpa using (List.getElem?_eq_some_iff.mp hu2).1
    refine wpAny_pyNext_zipD2_item D.sep D1 D2 hz hTI hTO ⟨h1, p⟩ ⟨h2, p2.isList⟩ l1 l2 fun v1 v2 h' tk e1 e2 z' TO' s1' s2' hT hsz hk => ?_
    have f1 : v1 = u := by
      have : its[i]? = some v1 := by simpa using e1
      rw [hu] at this
      exact (Option.some.inj this).symm
    have f2 : v2 = u2 := by
      have : its2[i]? = some v2 := by simpa using e2
      rw [hu2] at this
      exact (Option.some.inj this).symm
    subst f1 f2
    have hzl : z < s.heap.objs.size := Heap.lt_size hz
    refine ⟨_, rfl, wpAny_letOwnedTupleGo_zip (s := { s with heap := h', toks := tk }) z' fun h'' z'' sb => ?_⟩
    have hT2 := (sb.2 _ (Nat.ne_of_gt hzl)).trans hT
    have new : ObjOk X.prog X.w (L2.upd H s.heap.objs.size (.tup [x, y])) h'' s.heap.objs.size (.tup [x, y]) :=
      ⟨by show 2 ≤ sizeLine; decide, [v1, v2], .cons ru (.cons ru2 .nil), ⟨_, hT2, rfl, _, rfl⟩⟩
    have I1 : Inv X pins σ (L2.upd H s.heap.objs.size (.tup [x, y])) { s with heap := h'', toks := tk } :=
      I.turnedNew (ch := [z, TI, TO, i1, i2]) (fun c o hb q => by
        have c1 : c ≠ z := fun q' => hb (by simp [q'])
        exact (sb.2 c c1).trans (hk c o c1 (fun q' => hb (by simp [q'])) (fun q' => hb (by simp [q'])) (fun q' => hb (by simp [q'])) q)) hf (Nat.le_refl _) new
    refine ⟨.ref s.heap.objs.size, _, I1, rfl, ⟨_, x, y, rfl, I.hok.fresh (Nat.le_refl _), rfl, fun l hl => by rw [I.tuple_inj hl hqx]; exact hx, fun l hl => by rw [I.list_inj hl hqy]; exact hy⟩, ⟨z'', ?_, ⟨v1, v2, ?_⟩, ?_, ?_⟩, fun c hcm => ?_⟩
    · exact (sb.2 _ D.sep.TIz).trans (hk _ _ D.sep.TIz D.sep.TITO D.sep.TIi1 D.sep.TIi2 hTI)
    · exact (sb.2 _ D.sep.TOz).trans TO'
    · exact s1'.1.at fun o q => (sb.2 _ (Ne.symm D.sep.zi1)).trans q
    · exact s2'.1.at fun o q => (sb.2 _ (Ne.symm D.sep.zi2)).trans q
    · have hlt : c < s.heap.objs.size := by
        rcases five hcm with q | q | q | q | q <;> rw [q]
        · exact hzl
        · exact Heap.lt_size hTI
        · exact Heap.lt_size hTO
        · obtain ⟨_, e1, _⟩ := h1; exact Heap.lt_size e1
        · obtain ⟨_, e2, _⟩ := h2; exact Heap.lt_size e2
      rw [upd_ne (Nat.ne_of_lt hlt)]
      exact (hf c hcm).1
  · rintro X rfl rfl rfl hc i pins s σ H E I hf ⟨hz, hTI, ⟨x0, y0, hTO⟩, h1, h2⟩ ⟨xs, ys, hqx, hqy, hend⟩
    obtain ⟨its, rv, p, _⟩ := I.tuple hqx
    obtain ⟨its2, rv2, p2, _⟩ := I.list hqy
    have hd := I.ok.hd hc
    have D1 := Draws.tuple (prog := X.prog) (w := X.w) (A := X.A.in1) hd i1 a D.a1 its.toArray
    have D2 := Draws.list (prog := X.prog) (w := X.w) (A := X.A.in1) hd i2 b D.b2 its2.toArray
    have e1 : its.toArray.size = xs.length := by rw [List.size_toArray, ← rv.length]
    have e2 : its2.toArray.size = ys.length := by rw [List.size_toArray, ← rv2.length]
    exact wpAny_pyNext_zipD2_end D.sep D1 D2 hz hTI hTO ⟨h1, p⟩ ⟨h2, p2.isList⟩ (by omega) (by omega) (by omega) fun h' tk hk => ⟨rfl, I.turnedL (ch := [z, TI, TO, i1, i2]) (fun c o hb q =>
      hk c o (fun q' => hb (by simp [q'])) (fun q' => hb (by simp [q'])) (fun q' => hb (by simp [q'])) (fun q' => hb (by simp [q'])) q) hf⟩
theorem zip_fresh {X : Cx} {pins : List (Addr × Obj)} {σ : L2.St} {H : Hp} {s : Shared} (I : Inv X pins σ H s) : ∀ c ∈ [s.heap.objs.size + 4, s.heap.objs.size + 2, s.heap.objs.size + 3, s.heap.objs.size, s.heap.objs.size + 1], FpOk X pins H c := fun c hcm => by
  have hle : s.heap.objs.size ≤ c := by
    have e : c = s.heap.objs.size + 4 ∨ c = s.heap.objs.size + 2 ∨ c = s.heap.objs.size + 3 ∨ c = s.heap.objs.size ∨ c = s.heap.objs.size + 1 := by simpa using hcm
    omega
  exact I.fpOk hle (I.hok.fresh hle)
def iZipM (K : PySem.W.Frag) (ta : TA) : TI := fun σ H R => ta σ H fun vs H1 => ∃ a b xs ys, vs = [.ref a, .ref b] ∧ SqT K H1 a xs ∧ SqL K H1 b ys ∧ R (ItzM K a b) H1
theorem vals_two {x y : V} {us : List Value} (r : Vals [x, y] us) : ∃ u v, us = [u, v] ∧ RelV x u ∧ RelV y v := by
  cases r with
  | cons a b =>
    obtain ⟨v, rfl, c⟩ := vals_one b
    exact ⟨_, v, rfl, a, c⟩
theorem pi_zipM {X : Cx} {e e2 : Expr} {ta : TA} {p pos tpos : Pos} {elts : List Expr} {kk : Nat} (hg : Gl X "zip") (hm : X.mg "zip" = none) (ha : PA X [e, e2] ta)
    (hs : starEach [e, e2] X.env = (false, eval e X.env) :: starEach [e2] X.env := by rfl) (hpl : (backTo pos (starEach [e2] X.env)).any (·.1) = false := by rfl) :
    PI X (.Tuple elts kk tpos) (.Call (.Name "zip" p) [e, e2] [] pos) (iZipM X.K ta) := by
  constructor
  intro pins s σ H R I h
  refine Call_ (ld_blt I hg hm PyProof.Rows.boot_zip (PyProof.Rows.callWith_type1 (thn (ha.run pos pins s σ H _ I h) fun us s1 ⟨vs, H1, I1, r1, q1⟩ => ?_) hs hpl))
  obtain ⟨a, b, xs, ys, rfl, hqx, hqy, q⟩ := q1
  obtain ⟨u, v, rfl, ru, rv'⟩ := vals_two r1
  cases ru
  cases rv'
  obtain ⟨its, rv, p1, _⟩ := I1.tuple hqx
  obtain ⟨its2, rv2, p2, _⟩ := I1.list hqy
  obtain ⟨o1, ho1, _⟩ := id p1
  obtain ⟨o2, n2, ho2, _⟩ := id p2
  refine zip_begins2 (begins_tuple a its.toArray) (begins_list b its2.toArray) p1 p2.isList fun h' hz hTI hTO g1 g2 hsz hk => wpAny_pyIter_zip hz ?_
  have I2 : Inv X pins σ H1 { s1 with heap := h' } := I1.kept (t' := s1.toks) hk
  exact ⟨s1.heap.objs.size + 4, _, _, _, H1, rfl, I2, turn_zipM (five_new (Heap.lt_size ho1) (Heap.lt_size ho2)), ⟨hz, hTI, ⟨_, _, hTO⟩, ⟨_, g1, rfl, rfl⟩, ⟨_, g2, rfl, rfl⟩⟩, zip_fresh I1, q⟩
end Gw
/-! zip of two tuples into ONE name: the pair given out before may still be held. -/
namespace Gw
open PySem PySem.Spec PySem.W PyProof.Rows L2 Evl

abbrev ZR (h : Heap) (z TI TO : Addr) (ow : Value) (fl : Bool) : Prop := h.get? z = some { cls := .type "zip", data := .fields #[ow, .bool fl, .bool false, .ref TI, .ref TO] }
def OwOk (ow : Value) : Prop := ow = .none ∨ ∃ T : Addr, ow = rawInt (T : Int)
section
variable {prog : Program} {w : World} {A : Around} {E : Value → Shared → Prop} {s : Shared} {z TI TO i1 i2 : Addr} {fp1 fp2 : List Addr} {n1 n2 i : Nat} {P1 P2 : Nat → Value → Prop} {St1 St2 : Nat → Heap → Prop} {a1 a2 ow : Value} {fl : Bool}
theorem alive_any {a : Addr} {Q : Option Obj → Shared → Prop} (h : Q (s.heap.get? a) s) : wpAny (model prog w) A (loadIfAlive a) Q E s := fun _ _ _ => h
theorem zr_free {Q : Bool → Shared → Prop} (hz : ZR s.heap z TI TO ow fl) (ho : OwOk ow) (hY : Q true s) (hN : ∀ h', ZR h' z TI TO ow true → Heap.SameBut z s.heap h' → Q false { s with heap := h' }) :
    wpAny (model prog w) A (Builtin.SmallTypes.ownedTupleIsFree (.ref z)) Q E s := by
  unfold Builtin.SmallTypes.ownedTupleIsFree
  refine wpAny_bind (wpAny_field hz rfl (x := ow) rfl ?_)
  rcases ho with rfl | ⟨T, rfl⟩
  · exact wpAny_pure hY
  · show wpAny _ _ (loadIfAlive ((T : Int).toNat) >>= _) _ _ _
    rw [Int.toNat_natCast]
    refine wpAny_bind (alive_any ?_)
    cases hT : s.heap.get? T with
    | none => exact wpAny_pure hY
    | some oT =>
      simp only [Option.isNone_some, Bool.false_eq_true, if_false]
      refine wpAny_bind (wpAny_field hz rfl (x := .bool fl) rfl ?_)
      cases fl with
      | true =>
        rw [if_neg (show ¬ ((Value.bool true != Value.bool true) = true) from Bool.false_ne_true)]
        exact wpAny_pure (hN s.heap hz (Heap.SameBut.refl _ _))
      | false =>
        rw [if_pos (show (Value.bool false != Value.bool true) = true from rfl)]
        exact wpAny_bind (wpAny_setField_rec hz (by simp) fun g hg hs => wpAny_pure (hN g hg hs))

theorem zn_item {Q : Value → Shared → Prop} (S : ZipSep2 z TI TO i1 i2 fp1 fp2) (D1 : Draws prog w A i1 fp1 n1 P1 St1) (D2 : Draws prog w A i2 fp2 n2 P2 St2)
    (hz : ZR s.heap z TI TO ow fl) (ho : OwOk ow) (hTI : IsTupOf2 s.heap TI (.ref i1) (.ref i2)) (hTO : IsTupOf2 s.heap TO a1 a2) (st1 : St1 i s.heap) (st2 : St2 i s.heap) (hlt1 : i < n1) (hlt2 : i < n2)
    (hQ : ∀ x1 x2 h' tk, P1 i x1 → P2 i x2 → (∃ ow' fl', ZR h' z TI TO ow' fl' ∧ OwOk ow') → (∃ b1 b2, IsTupOf2 h' TO b1 b2) → St1 (i + 1) h' → St2 (i + 1) h' → IsTupOf2 h' s.heap.objs.size x1 x2 →
      (∀ c o, c ≠ z → c ≠ TO → c ≠ i1 → c ≠ i2 → s.heap.get? c = some o → h'.get? c = some o) → Q (.ref s.heap.objs.size) { s with heap := h', toks := tk }) :
    wpAny (model prog w) A (Builtin.«zip.__next__» ⟨[.ref z], []⟩) (fun fin s' => ∃ v, fin = .done (.ret v) ∧ Q v s') E s := by
  obtain ⟨hp, g, d, tk0, os⟩ := s
  show wpAny _ _ (field (.ref z) 2 >>= _) _ _ _
  refine wpAny_bind (wpAny_field hz rfl (x := .bool false) rfl ?_)
  show wpAny _ _ (field (.ref z) 3 >>= _) _ _ _
  refine wpAny_bind (wpAny_field hz rfl (x := .ref TI) rfl ?_)
  refine wpAny_bind (wpAny_seqItems hTI rfl ?_)
  show wpAny _ _ (Builtin.SmallTypes.ownedTupleIsFree (.ref z) >>= _) _ _ _
  refine wpAny_bind (zr_free hz ho ?_ fun f0 hz0 hs0 => ?_)
  · -- the owned tuple is free: it is filled, a copy is given out
    simp only [if_true]
    refine wpAny_bind (wpAny_rule (wpAny_bind (wpAny_field hz rfl (x := .ref TO) rfl ?_)))
    refine wpAny_bind (wpAny_setField_rec hz (by simp) fun g0 hz0 hs0 => ?_)
    replace hz0 : ZR g0 z TI TO .ellipsis fl := hz0
    replace hs0 : Heap.SameBut z hp g0 := hs0
    refine wpAny_bind ?_
    simp only [List.zipIdx_cons, List.zipIdx_nil, List.forIn_cons, List.forIn_nil]
    refine wpAny_bind (wpAny_bind (wpAny_onRaise ?_))
    show wpAny _ _ (Builtin.SmallTypes.nextOf (.ref i1) >>= _) _ _ ⟨g0, g, d, tk0, os⟩
    refine wpAny_bind (D1.item i _ _ _ hlt1 (D1.over st1 hs0 S.zf1) fun x1 p1 tk1 hx1 sn1 hp1 => wpAny_pure ?_)
    replace hp1 : Heap.SameBut i1 g0 p1 := hp1
    have hU1 : IsTupOf2 p1 TO a1 a2 := hp1.extBut _ _ S.Ti1 (hs0.extBut _ _ S.TOz hTO)
    refine wpAny_bind (wpAny_seqItems (s := ⟨p1, g, d, tk1, os⟩) hU1 rfl ?_)
    refine wpAny_bind (updateSeq_IsTupOf2 (s := ⟨p1, g, d, tk1, os⟩) hU1 fun g1 hT1 hs1 => ?_)
    replace hT1 : IsTupOf2 g1 TO x1 a2 := hT1
    replace hs1 : Heap.SameBut TO p1 g1 := hs1
    refine wpAny_bind (wpAny_letGo (wpAny_pure ?_))
    refine wpAny_bind (wpAny_bind (wpAny_onRaise ?_))
    show wpAny _ _ (Builtin.SmallTypes.nextOf (.ref i2) >>= _) _ _ ⟨g1, g, d, tk1, os⟩
    refine wpAny_bind (D2.item i _ _ _ hlt2 (D2.over (D2.over (D2.over st2 hs0 S.zf2) hp1 S.sep1_2) hs1 S.Tf2) fun x2 p2 tk2 hx2 sn2 hp2 => wpAny_pure ?_)
    replace hp2 : Heap.SameBut i2 g1 p2 := hp2
    have hU2 : IsTupOf2 p2 TO x1 a2 := hp2.extBut _ _ S.Ti2 hT1
    refine wpAny_bind (wpAny_seqItems (s := ⟨p2, g, d, tk2, os⟩) hU2 rfl ?_)
    refine wpAny_bind (updateSeq_IsTupOf2 (s := ⟨p2, g, d, tk2, os⟩) hU2 fun g2 hT2 hs2 => ?_)
    replace hT2 : IsTupOf2 g2 TO x1 x2 := hT2
    replace hs2 : Heap.SameBut TO p2 g2 := hs2
    refine wpAny_bind (wpAny_letGo (wpAny_pure (wpAny_pure ?_)))
    refine wpAny_bind (wpAny_seqItems (s := ⟨g2, g, d, tk2, os⟩) hT2 rfl ?_)
    refine wpAny_bind (wpAny_newTuple ?_)
    have hsz : g2.objs.size = hp.objs.size := by rw [hs2.1, hp2.1, hs1.1, hp1.1, hs0.1]
    have hzz : ZR g2 z TI TO .ellipsis fl := hs2.extBut _ _ S.TOz.symm (hp2.extBut _ _ S.zi2 (hs1.extBut _ _ S.TOz.symm (hp1.extBut _ _ S.zi1 hz0)))
    have hkk : ∀ c o, c ≠ z → c ≠ TO → c ≠ i1 → c ≠ i2 → hp.get? c = some o → g2.get? c = some o := fun c o cz cT c1 c2 e =>
      hs2.extBut _ _ cT (hp2.extBut _ _ c2 (hs1.extBut _ _ cT (hp1.extBut _ _ c1 (hs0.extBut _ _ cz e))))
    have hj1 : St1 (i + 1) g2 := D1.over (D1.over (D1.over sn1 hs1 S.Tf1) hp2 S.sep2_1) hs2 S.Tf1
    have hj2 : St2 (i + 1) g2 := D2.over sn2 hs2 S.Tf2
    have hzlt : z < g2.objs.size := Heap.lt_size hzz
    show wpAny _ _ (Builtin.SmallTypes.ownedTupleHandOut (.ref z) (.ref g2.objs.size) >>= _) _ _ ⟨g2.push { cls := .type "tuple", data := .seq #[x1, x2] }, g, d, tk2, os⟩
    refine wpAny_bind ?_
    unfold Builtin.SmallTypes.ownedTupleHandOut
    have hz6 : ZR (g2.push { cls := .type "tuple", data := .seq #[x1, x2] }) z TI TO .ellipsis fl := Heap.get?_push_of_some _ hzz
    refine wpAny_bind (wpAny_setField_rec hz6 (by simp) fun h7 hz7 hs7 => ?_)
    replace hz7 : ZR h7 z TI TO (rawInt g2.objs.size) fl := hz7
    refine wpAny_setField_rec hz7 (by simp) fun h8 hz8 hs8 => ?_
    replace hz8 : ZR h8 z TI TO (rawInt g2.objs.size) false := hz8
    replace hs7 : Heap.SameBut z (g2.push { cls := .type "tuple", data := .seq #[x1, x2] }) h7 := hs7
    replace hs8 : Heap.SameBut z h7 h8 := hs8
    have up : ∀ c o, c ≠ z → g2.get? c = some o → h8.get? c = some o := fun c o c1 e => hs8.extBut _ _ c1 (hs7.extBut _ _ c1 (Heap.get?_push_of_some _ e))
    have hT8 : IsTupOf2 h8 g2.objs.size x1 x2 := hs8.extBut _ _ (Nat.ne_of_gt hzlt) (hs7.extBut _ _ (Nat.ne_of_gt hzlt) (Heap.get?_push_size _ rfl))
    rw [hsz] at hz8 hT8
    refine wpAny_pure ⟨_, rfl, ?_⟩
    show Q (.ref g2.objs.size) ⟨h8, g, d, tk2, os⟩
    rw [hsz]
    exact hQ x1 x2 h8 tk2 hx1 hx2 ⟨_, _, hz8, .inr ⟨_, rfl⟩⟩ ⟨_, _, up _ _ S.TOz hT2⟩ (D1.frame _ _ _ hj1 fun b hb o e => up b o (fun q => S.zf1 (q ▸ hb)) e) (D2.frame _ _ _ hj2 fun b hb o e => up b o (fun q => S.zf2 (q ▸ hb)) e) hT8
      fun c o cz cT c1 c2 e => up c o cz (hkk c o cz cT c1 c2 e)
  · -- it is held: a new one
    replace hs0 : Heap.SameBut z hp f0 := hs0
    simp only [Bool.false_eq_true, if_false]
    refine wpAny_bind ?_
    rw [← Array.forIn_toList]
    simp only [List.forIn_cons, List.forIn_nil]
    refine wpAny_bind (wpAny_bind (wpAny_holding ?_))
    show wpAny _ _ (Builtin.SmallTypes.nextOf (.ref i1) >>= _) _ _ ⟨f0, g, d, tk0, os⟩
    refine wpAny_bind (D1.item i _ _ _ hlt1 (D1.over st1 hs0 S.zf1) fun x1 p1 tk1 hx1 sn1 hp1 => wpAny_pure ?_)
    replace hp1 : Heap.SameBut i1 f0 p1 := hp1
    refine wpAny_pure ?_
    refine wpAny_bind (wpAny_bind (wpAny_holding ?_))
    show wpAny _ _ (Builtin.SmallTypes.nextOf (.ref i2) >>= _) _ _ ⟨p1, g, d, tk1, os⟩
    refine wpAny_bind (D2.item i _ _ _ hlt2 (D2.over (D2.over st2 hs0 S.zf2) hp1 S.sep1_2) fun x2 p2 tk2 hx2 sn2 hp2 => wpAny_pure ?_)
    replace hp2 : Heap.SameBut i2 p1 p2 := hp2
    refine wpAny_pure (wpAny_pure ?_)
    show wpAny _ _ (newTuple [x1, x2] >>= _) _ _ ⟨p2, g, d, tk2, os⟩
    refine wpAny_bind (wpAny_newTuple ?_)
    have hsz : p2.objs.size = hp.objs.size := by rw [hp2.1, hp1.1, hs0.1]
    have hzz : ZR p2 z TI TO ow true := hp2.extBut _ _ S.zi2 (hp1.extBut _ _ S.zi1 hz0)
    have hTT : IsTupOf2 p2 TO a1 a2 := hp2.extBut _ _ S.Ti2 (hp1.extBut _ _ S.Ti1 (hs0.extBut _ _ S.TOz hTO))
    have hkk : ∀ c o, c ≠ z → c ≠ TO → c ≠ i1 → c ≠ i2 → hp.get? c = some o → p2.get? c = some o := fun c o cz cT c1 c2 e => hp2.extBut _ _ c2 (hp1.extBut _ _ c1 (hs0.extBut _ _ cz e))
    have up : ∀ c o, p2.get? c = some o → (p2.push { cls := .type "tuple", data := .seq #[x1, x2] }).get? c = some o := fun c o e => Heap.get?_push_of_some _ e
    have hT8 : IsTupOf2 (p2.push { cls := .type "tuple", data := .seq #[x1, x2] }) p2.objs.size x1 x2 := Heap.get?_push_size _ rfl
    rw [hsz] at hT8
    refine wpAny_pure ⟨_, rfl, ?_⟩
    show Q (.ref p2.objs.size) ⟨p2.push { cls := .type "tuple", data := .seq #[x1, x2] }, g, d, tk2, os⟩
    rw [hsz]
    exact hQ x1 x2 _ tk2 hx1 hx2 ⟨_, _, up _ _ hzz, ho⟩ ⟨_, _, up _ _ hTT⟩ (D1.frame _ _ _ (D1.over sn1 hp2 S.sep2_1) fun b hb o e => up b o e) (D2.frame _ _ _ sn2 fun b hb o e => up b o e) hT8
      fun c o cz cT c1 c2 e => up c o (hkk c o cz cT c1 c2 e)
theorem zn_end {Q : Fin → Shared → Prop} (S : ZipSep2 z TI TO i1 i2 fp1 fp2) (D1 : Draws prog w A i1 fp1 n1 P1 St1) 
    (hz : ZR s.heap z TI TO ow fl) (ho : OwOk ow) (hTI : IsTupOf2 s.heap TI (.ref i1) (.ref i2)) (st1 : St1 n1 s.heap)
    (hE : ∀ h' e, (∀ c o, c ≠ z → c ≠ TO → c ≠ i1 → c ≠ i2 → s.heap.get? c = some o → h'.get? c = some o) → (∃ o, h'.get? e = some o ∧ o.cls = .type "StopIteration") → E (.ref e) { s with heap := h' }) :
    wpAny (model prog w) A (Builtin.«zip.__next__» ⟨[.ref z], []⟩) Q E s := by
  obtain ⟨hp, g, d, tk0, os⟩ := s
  show wpAny _ _ (field (.ref z) 2 >>= _) _ _ _
  refine wpAny_bind (wpAny_field hz rfl (x := .bool false) rfl ?_)
  show wpAny _ _ (field (.ref z) 3 >>= _) _ _ _
  refine wpAny_bind (wpAny_field hz rfl (x := .ref TI) rfl ?_)
  refine wpAny_bind (wpAny_seqItems hTI rfl ?_)
  show wpAny _ _ (Builtin.SmallTypes.ownedTupleIsFree (.ref z) >>= _) _ _ _
  refine wpAny_bind (zr_free hz ho ?_ fun f0 hz0 hs0 => ?_)
  · simp only [if_true]
    refine wpAny_bind (wpAny_rule (wpAny_bind (wpAny_field hz rfl (x := .ref TO) rfl ?_)))
    refine wpAny_bind (wpAny_setField_rec hz (by simp) fun g0 hz0 hs0 => ?_)
    replace hz0 : ZR g0 z TI TO .ellipsis fl := hz0
    replace hs0 : Heap.SameBut z hp g0 := hs0
    refine wpAny_bind ?_
    simp only [List.zipIdx_cons, List.zipIdx_nil, List.forIn_cons, List.forIn_nil]
    refine wpAny_bind (wpAny_bind (wpAny_onRaise ?_))
    show wpAny _ _ (Builtin.SmallTypes.nextOf (.ref i1) >>= _) _ _ ⟨g0, g, d, tk0, os⟩
    refine wpAny_bind (D1.done _ _ _ (D1.over st1 hs0 S.zf1) fun p1 e hp1 he => ?_)
    replace hp1 : Heap.ExtBut i1 g0 p1 := hp1
    obtain ⟨oe, hoe, hce⟩ := he
    have hz1 : ZR p1 z TI TO .ellipsis fl := hp1 _ _ S.zi1 hz0
    have hez : e ≠ z := fun q => by
      subst q
      rw [hz1] at hoe
      cases hoe
      simp at hce
    refine wpAny_setField_rec hz1 (by simp) fun p2 _ hs2 => hE p2 e (fun c o cz cT c1 c2 x => ?_) ⟨oe, hs2.extBut _ _ hez hoe, hce⟩
    exact hs2.extBut _ _ cz (hp1 _ _ c1 (hs0.extBut _ _ cz x))
  · replace hs0 : Heap.SameBut z hp f0 := hs0
    simp only [Bool.false_eq_true, if_false]
    refine wpAny_bind ?_
    rw [← Array.forIn_toList]
    simp only [List.forIn_cons, List.forIn_nil]
    refine wpAny_bind (wpAny_bind (wpAny_holding ?_))
    show wpAny _ _ (Builtin.SmallTypes.nextOf (.ref i1) >>= _) _ _ ⟨f0, g, d, tk0, os⟩
    refine wpAny_bind (D1.done _ _ _ (D1.over st1 hs0 S.zf1) fun p1 e hp1 he => ?_)
    replace hp1 : Heap.ExtBut i1 f0 p1 := hp1
    exact hE p1 e (fun c o cz cT c1 c2 x => hp1 _ _ c1 (hs0.extBut _ _ cz x)) he

/-- the second one ends first -/
theorem zn_end2 {Q : Fin → Shared → Prop} (S : ZipSep2 z TI TO i1 i2 fp1 fp2) (D1 : Draws prog w A i1 fp1 n1 P1 St1) (D2 : Draws prog w A i2 fp2 n2 P2 St2)
    (hz : ZR s.heap z TI TO ow fl) (ho : OwOk ow) (hTI : IsTupOf2 s.heap TI (.ref i1) (.ref i2)) (hTO : IsTupOf2 s.heap TO a1 a2) (st1 : St1 n2 s.heap) (st2 : St2 n2 s.heap) (hlt : n2 < n1)
    (hE : ∀ h' tk e, (∀ c o, c ≠ z → c ≠ TO → c ≠ i1 → c ≠ i2 → s.heap.get? c = some o → h'.get? c = some o) → (∃ o, h'.get? e = some o ∧ o.cls = .type "StopIteration") → E (.ref e) { s with heap := h', toks := tk }) :
    wpAny (model prog w) A (Builtin.«zip.__next__» ⟨[.ref z], []⟩) Q E s := by
  obtain ⟨hp, g, d, tk0, os⟩ := s
  show wpAny _ _ (field (.ref z) 2 >>= _) _ _ _
  refine wpAny_bind (wpAny_field hz rfl (x := .bool false) rfl ?_)
  show wpAny _ _ (field (.ref z) 3 >>= _) _ _ _
  refine wpAny_bind (wpAny_field hz rfl (x := .ref TI) rfl ?_)
  refine wpAny_bind (wpAny_seqItems hTI rfl ?_)
  show wpAny _ _ (Builtin.SmallTypes.ownedTupleIsFree (.ref z) >>= _) _ _ _
  refine wpAny_bind (zr_free hz ho ?_ fun f0 hz0 hs0 => ?_)
  · simp only [if_true]
    refine wpAny_bind (wpAny_rule (wpAny_bind (wpAny_field hz rfl (x := .ref TO) rfl ?_)))
    refine wpAny_bind (wpAny_setField_rec hz (by simp) fun g0 hz0 hs0 => ?_)
    replace hz0 : ZR g0 z TI TO .ellipsis fl := hz0
    replace hs0 : Heap.SameBut z hp g0 := hs0
    refine wpAny_bind ?_
    simp only [List.zipIdx_cons, List.zipIdx_nil, List.forIn_cons, List.forIn_nil]
    refine wpAny_bind (wpAny_bind (wpAny_onRaise ?_))
    show wpAny _ _ (Builtin.SmallTypes.nextOf (.ref i1) >>= _) _ _ ⟨g0, g, d, tk0, os⟩
    refine wpAny_bind (D1.item n2 _ _ _ hlt (D1.over st1 hs0 S.zf1) fun x1 p1 tk1 hx1 sn1 hp1 => wpAny_pure ?_)
    replace hp1 : Heap.SameBut i1 g0 p1 := hp1
    have hU1 : IsTupOf2 p1 TO a1 a2 := hp1.extBut _ _ S.Ti1 (hs0.extBut _ _ S.TOz hTO)
    refine wpAny_bind (wpAny_seqItems (s := ⟨p1, g, d, tk1, os⟩) hU1 rfl ?_)
    refine wpAny_bind (updateSeq_IsTupOf2 (s := ⟨p1, g, d, tk1, os⟩) hU1 fun g1 hT1 hs1 => ?_)
    replace hs1 : Heap.SameBut TO p1 g1 := hs1
    refine wpAny_bind (wpAny_letGo (wpAny_pure ?_))
    refine wpAny_bind (wpAny_bind (wpAny_onRaise ?_))
    show wpAny _ _ (Builtin.SmallTypes.nextOf (.ref i2) >>= _) _ _ ⟨g1, g, d, tk1, os⟩
    refine wpAny_bind (D2.done _ _ _ (D2.over (D2.over (D2.over st2 hs0 S.zf2) hp1 S.sep1_2) hs1 S.Tf2) fun p2 e hp2 he => ?_)
    replace hp2 : Heap.ExtBut i2 g1 p2 := hp2
    obtain ⟨oe, hoe, hce⟩ := he
    have hz1 : ZR p2 z TI TO .ellipsis fl := hp2 _ _ S.zi2 (hs1.extBut _ _ S.TOz.symm (hp1.extBut _ _ S.zi1 hz0))
    have hez : e ≠ z := fun q => by
      subst q
      rw [hz1] at hoe
      cases hoe
      simp at hce
    refine wpAny_setField_rec hz1 (by simp) fun p3 _ hs3 => hE p3 tk1 e (fun c o cz cT c1 c2 x => ?_) ⟨oe, hs3.extBut _ _ hez hoe, hce⟩
    exact hs3.extBut _ _ cz (hp2 _ _ c2 (hs1.extBut _ _ cT (hp1.extBut _ _ c1 (hs0.extBut _ _ cz x))))
  · replace hs0 : Heap.SameBut z hp f0 := hs0
    simp only [Bool.false_eq_true, if_false]
    refine wpAny_bind ?_
    rw [← Array.forIn_toList]
    simp only [List.forIn_cons, List.forIn_nil]
    refine wpAny_bind (wpAny_bind (wpAny_holding ?_))
    show wpAny _ _ (Builtin.SmallTypes.nextOf (.ref i1) >>= _) _ _ ⟨f0, g, d, tk0, os⟩
    refine wpAny_bind (D1.item n2 _ _ _ hlt (D1.over st1 hs0 S.zf1) fun x1 p1 tk1 hx1 sn1 hp1 => wpAny_pure ?_)
    replace hp1 : Heap.SameBut i1 f0 p1 := hp1
    refine wpAny_pure ?_
    refine wpAny_bind (wpAny_bind (wpAny_holding ?_))
    show wpAny _ _ (Builtin.SmallTypes.nextOf (.ref i2) >>= _) _ _ ⟨p1, g, d, tk1, os⟩
    refine wpAny_bind (D2.done _ _ _ (D2.over (D2.over st2 hs0 S.zf2) hp1 S.sep1_2) fun p2 e hp2 he => ?_)
    replace hp2 : Heap.ExtBut i2 p1 p2 := hp2
    exact hE p2 tk1 e (fun c o cz cT c1 c2 x => hp2 _ _ c2 (hp1.extBut _ _ c1 (hs0.extBut _ _ cz x))) he
theorem zn_next {Q : Option Value → Shared → Prop} (S : ZipSep2 z TI TO i1 i2 fp1 fp2) (D1 : Draws prog w A.in1 i1 fp1 n1 P1 St1) (D2 : Draws prog w A.in1 i2 fp2 n2 P2 St2)
    (hz : ZR s.heap z TI TO ow fl) (ho : OwOk ow) (hTI : IsTupOf2 s.heap TI (.ref i1) (.ref i2)) (hTO : IsTupOf2 s.heap TO a1 a2) (st1 : St1 i s.heap) (st2 : St2 i s.heap) (hlt1 : i < n1) (hlt2 : i < n2)
    (hQ : ∀ x1 x2 h' tk, P1 i x1 → P2 i x2 → (∃ ow' fl', ZR h' z TI TO ow' fl' ∧ OwOk ow') → (∃ b1 b2, IsTupOf2 h' TO b1 b2) → St1 (i + 1) h' → St2 (i + 1) h' → IsTupOf2 h' s.heap.objs.size x1 x2 →
      (∀ c o, c ≠ z → c ≠ TO → c ≠ i1 → c ≠ i2 → s.heap.get? c = some o → h'.get? c = some o) → Q (some (.ref s.heap.objs.size)) { s with heap := h', toks := tk }) :
    wpAny (model prog w) A (pyNext (.ref z)) Q E s := by
  have hT : s.TypeIs (.ref z) "zip" := ⟨_, hz, rfl⟩
  unfold pyNext
  exact wpAny_bind (wpAny_attempt (wpAny_callSpecial?_slot (name := Str.ofString "__next__") hT F.slot_zip_next (wpAny_call_entry F.slot_zip_next hT F.entry_zip_next
    (zn_item S D1 D2 hz ho hTI hTO st1 st2 hlt1 hlt2 fun x1 x2 h' tk b1 b2 b3 b4 b5 b6 b7 b8 => wpAny_pure (hQ x1 x2 h' tk b1 b2 b3 b4 b5 b6 b7 b8)) (F.args_zip_next_1 _))))
theorem zn_stop {Q : Option Value → Shared → Prop} (S : ZipSep2 z TI TO i1 i2 fp1 fp2) (D1 : Draws prog w A.in1 i1 fp1 n1 P1 St1) (D2 : Draws prog w A.in1 i2 fp2 n2 P2 St2)
    (hz : ZR s.heap z TI TO ow fl) (ho : OwOk ow) (hTI : IsTupOf2 s.heap TI (.ref i1) (.ref i2)) (hTO : IsTupOf2 s.heap TO a1 a2) (st1 : St1 i s.heap) (st2 : St2 i s.heap) (hi : i = min n1 n2)
    (hQ : ∀ h' tk, (∀ c o, c ≠ z → c ≠ TO → c ≠ i1 → c ≠ i2 → s.heap.get? c = some o → h'.get? c = some o) → Q none { s with heap := h', toks := tk }) : wpAny (model prog w) A (pyNext (.ref z)) Q E s := by
  have hT : s.TypeIs (.ref z) "zip" := ⟨_, hz, rfl⟩
  have fin : ∀ h' tk e, (∀ c o, c ≠ z → c ≠ TO → c ≠ i1 → c ≠ i2 → s.heap.get? c = some o → h'.get? c = some o) → (∃ o, h'.get? e = some o ∧ o.cls = .type "StopIteration") →
      wpAny (model prog w) A (do
        if ← isInstance (.ref e) (.type "StopIteration") then pure none else throw (.ref e)) Q E { s with heap := h', toks := tk } := fun h' tk e hk ⟨o, h1, h2⟩ =>
    wpAny_bind (wpAny_isInstance (T := "StopIteration") (b := true) ⟨o, h1, h2⟩ isSubtype_stop (wpAny_pure (hQ _ tk hk)))
  unfold pyNext
  refine wpAny_bind (wpAny_attempt (wpAny_callSpecial?_slot (name := Str.ofString "__next__") hT F.slot_zip_next (wpAny_call_entry F.slot_zip_next hT F.entry_zip_next ?_ (F.args_zip_next_1 _))))
  by_cases h : n1 ≤ n2
  · have e1 : i = n1 := by omega
    subst e1
    exact zn_end S D1 hz ho hTI st1 fun h' e hk he => fin h' _ e hk he
  · have e1 : i = n2 := by omega
    subst e1
    exact zn_end2 S D1 D2 hz ho hTI hTO st1 st2 (by omega) fun h' tk e hk he => fin h' tk e hk he
end
/-- the tuples at a and b, the items in new pairs, which go into one name -/
def ItzN (K : PySem.W.Frag) (a b : Addr) : It :=
  ⟨fun i H => ∃ (xs ys : List V) (x y : V), SqT K H a xs ∧ SqT K H b ys ∧ xs[i]? = some x ∧ ys[i]? = some y,
   fun i H v H' => ∃ T x y, v = .ref T ∧ H T = none ∧ H' = L2.upd H T (.tup [x, y]) ∧ (∀ xs, SqT K H a xs → xs[i]? = some x) ∧ ∀ ys, SqT K H b ys → ys[i]? = some y,
   fun i H => ∃ xs ys : List V, SqT K H a xs ∧ SqT K H b ys ∧ i = min xs.length ys.length⟩
theorem turn_zipN {P : Program} {w : World} {K : PySem.W.Frag} {x : Str} {tpos : Pos} {a b z TI TO i1 i2 : Addr} (D : Five z TI TO i1 i2 a b) :
    Turn P w K (.Name x tpos) (ItzN K a b) [z, TI, TO, i1, i2] z (fun i h => (∃ ow fl, ZR h z TI TO ow fl ∧ OwOk ow) ∧ IsTupOf2 h TI (.ref i1) (.ref i2) ∧ (∃ x y, IsTupOf2 h TO x y) ∧ h.IsTupleIter i1 a i ∧ h.IsTupleIter i2 b i) := by
  have five : ∀ {c : Addr}, c ∈ [z, TI, TO, i1, i2] → c = z ∨ c = TI ∨ c = TO ∨ c = i1 ∨ c = i2 := fun h => by simpa using h
  refine ⟨by simp, fun i h st c hc => ?_, fun i h h' st k => ?_, ?_, ?_, fun A i s Q E st h => ?_⟩
  · obtain ⟨⟨ow, fl, hz, ho⟩, hTI, ⟨x, y, hTO⟩, ⟨o1, e1, _, d1⟩, ⟨o2, e2, _, d2⟩⟩ := st
    rcases five hc with q | q | q | q | q <;> subst q
    · exact ⟨_, hz, fun v q => nomatch q⟩
    · exact ⟨_, hTI, fun v q => nomatch q⟩
    · exact ⟨_, hTO, fun v q => nomatch q⟩
    · exact ⟨o1, e1, fun v q => by rw [d1] at q; cases q⟩
    · exact ⟨o2, e2, fun v q => by rw [d2] at q; cases q⟩
  · obtain ⟨⟨ow, fl, hz, ho⟩, hTI, ⟨x, y, hTO⟩, h1, h2⟩ := st
    exact ⟨⟨ow, fl, k z (by simp) _ hz, ho⟩, k TI (by simp) _ hTI, ⟨x, y, k TO (by simp) _ hTO⟩, h1.at fun o q => k i1 (by simp) o q, h2.at fun o q => k i2 (by simp) o q⟩
  · rintro X rfl rfl rfl hc i pins s σ H E I hf ⟨⟨ow, fl, hz, ho⟩, hTI, ⟨x0, y0, hTO⟩, h1, h2⟩ ⟨xs, ys, x, y, hqx, hqy, hx, hy⟩
    obtain ⟨its, rv, p, _⟩ := I.tuple hqx
    obtain ⟨its2, rv2, p2, _⟩ := I.tuple hqy
    obtain ⟨u, hu, ru⟩ := rv.get hx
    obtain ⟨u2, hu2, ru2⟩ := rv2.get hy
    have hd := I.ok.hd hc
    have D1 := Draws.tuple (prog := X.prog) (w := X.w) (A := X.A.in1) hd i1 a D.a1 its.toArray
    have D2 := Draws.tuple (prog := X.prog) (w := X.w) (A := X.A.in1) hd i2 b D.b2 its2.toArray
    have l1 : i < its.toArray.size := by simpa using (List.getElem?_eq_some_iff.mp hu).1
    have l2 : i < its2.toArray.size := by simpa using (List.getElem?_eq_some_iff.mp hu2).1
    refine zn_next D.sep D1 D2 hz ho hTI hTO ⟨h1, p⟩ ⟨h2, p2⟩ l1 l2 fun v1 v2 h' tk e1 e2 z' TO' s1' s2' hT hk => ?_
    have f1 : v1 = u := by
      have : its[i]? = some v1 := by simpa using e1
      rw [hu] at this
      exact (Option.some.inj this).symm
    have f2 : v2 = u2 := by
      have : its2[i]? = some v2 := by simpa using e2
      rw [hu2] at this
      exact (Option.some.inj this).symm
    subst f1 f2
    refine ⟨_, rfl, ?_⟩
    show wpAny _ _ (pure ()) _ _ _
    refine wpAny_pure ?_
    have new : ObjOk X.prog X.w (L2.upd H s.heap.objs.size (.tup [x, y])) h' s.heap.objs.size (.tup [x, y]) :=
      ⟨by show 2 ≤ sizeLine; decide, [v1, v2], .cons ru (.cons ru2 .nil), ⟨_, hT, rfl, _, rfl⟩⟩
    have I1 : Inv X pins σ (L2.upd H s.heap.objs.size (.tup [x, y])) { s with heap := h', toks := tk } :=
      I.turnedNew (ch := [z, TI, TO, i1, i2]) (fun c o hb q => hk c o (fun q' => hb (by simp [q'])) (fun q' => hb (by simp [q'])) (fun q' => hb (by simp [q'])) (fun q' => hb (by simp [q'])) q) hf (Nat.le_refl _) new
    refine ⟨.ref s.heap.objs.size, _, I1, rfl, ⟨_, x, y, rfl, I.hok.fresh (Nat.le_refl _), rfl, fun l hl => by rw [I.tuple_inj hl hqx]; exact hx, fun l hl => by rw [I.tuple_inj hl hqy]; exact hy⟩,
      ⟨z', hk _ _ D.sep.TIz D.sep.TITO D.sep.TIi1 D.sep.TIi2 hTI, TO', s1'.1, s2'.1⟩, fun c hcm => ?_⟩
    have hlt : c < s.heap.objs.size := by
      rcases five hcm with q | q | q | q | q <;> rw [q]
      · exact Heap.lt_size hz
      · exact Heap.lt_size hTI
      · exact Heap.lt_size hTO
      · obtain ⟨_, e1, _⟩ := h1; exact Heap.lt_size e1
      · obtain ⟨_, e2, _⟩ := h2; exact Heap.lt_size e2
    rw [upd_ne (Nat.ne_of_lt hlt)]
    exact (hf c hcm).1
  · rintro X rfl rfl rfl hc i pins s σ H E I hf ⟨⟨ow, fl, hz, ho⟩, hTI, ⟨x0, y0, hTO⟩, h1, h2⟩ ⟨xs, ys, hqx, hqy, hend⟩
    obtain ⟨its, rv, p, _⟩ := I.tuple hqx
    obtain ⟨its2, rv2, p2, _⟩ := I.tuple hqy
    have hd := I.ok.hd hc
    have D1 := Draws.tuple (prog := X.prog) (w := X.w) (A := X.A.in1) hd i1 a D.a1 its.toArray
    have D2 := Draws.tuple (prog := X.prog) (w := X.w) (A := X.A.in1) hd i2 b D.b2 its2.toArray
    have e1 : its.toArray.size = xs.length := by rw [List.size_toArray, ← rv.length]
    have e2 : its2.toArray.size = ys.length := by rw [List.size_toArray, ← rv2.length]
    exact zn_stop D.sep D1 D2 hz ho hTI hTO ⟨h1, p⟩ ⟨h2, p2⟩ (by rw [e1, e2]; exact hend) fun h' tk hk => ⟨rfl, I.turnedL (ch := [z, TI, TO, i1, i2]) (fun c o hb q =>
      hk c o (fun q' => hb (by simp [q'])) (fun q' => hb (by simp [q'])) (fun q' => hb (by simp [q'])) (fun q' => hb (by simp [q'])) q) hf⟩
  · obtain ⟨⟨ow, fl, hz, ho⟩, _⟩ := st
    have hT : s.TypeIs (.ref z) "zip" := ⟨_, hz, rfl⟩
    refine wpAny_pyIter_slot hT F.slot_zip_iter (wpAny_call_entry F.slot_zip_iter hT F.entry_zip_iter ?_ (F.args_zip_iter_1 _))
    show wpAny _ _ (ret (.ref z)) _ _ s
    exact wpAny_pure ⟨_, rfl, "zip", _, hT, F.slot_zip_next.lookup, h⟩
def iZipN (K : PySem.W.Frag) (ta : TA) : TI := fun σ H R => ta σ H fun vs H1 => ∃ a b xs ys, vs = [.ref a, .ref b] ∧ SqT K H1 a xs ∧ SqT K H1 b ys ∧ R (ItzN K a b) H1
theorem pi_zipN {X : Cx} {e e2 : Expr} {ta : TA} {p pos tpos : Pos} {x : Str} (hg : Gl X "zip") (hm : X.mg "zip" = none) (ha : PA X [e, e2] ta)
    (hs : starEach [e, e2] X.env = (false, eval e X.env) :: starEach [e2] X.env := by rfl) (hpl : (backTo pos (starEach [e2] X.env)).any (·.1) = false := by rfl) :
    PI X (.Name x tpos) (.Call (.Name "zip" p) [e, e2] [] pos) (iZipN X.K ta) := by
  constructor
  intro pins s σ H R I h
  refine Call_ (ld_blt I hg hm PyProof.Rows.boot_zip (PyProof.Rows.callWith_type1 (thn (ha.run pos pins s σ H _ I h) fun us s1 ⟨vs, H1, I1, r1, q1⟩ => ?_) hs hpl))
  obtain ⟨a, b, xs, ys, rfl, hqx, hqy, q⟩ := q1
  obtain ⟨u, v, rfl, ru, rv'⟩ := vals_two r1
  cases ru
  cases rv'
  obtain ⟨its, rv, p1, _⟩ := I1.tuple hqx
  obtain ⟨its2, rv2, p2, _⟩ := I1.tuple hqy
  obtain ⟨o1, ho1, _⟩ := id p1
  obtain ⟨o2, ho2, _⟩ := id p2
  refine zip_begins2 (begins_tuple a its.toArray) (begins_tuple b its2.toArray) p1 p2 fun h' hz hTI hTO g1 g2 hsz hk => wpAny_pyIter_zip hz ?_
  have I2 : Inv X pins σ H1 { s1 with heap := h' } := I1.kept (t' := s1.toks) hk
  exact ⟨s1.heap.objs.size + 4, _, _, _, H1, rfl, I2, turn_zipN (five_new (Heap.lt_size ho1) (Heap.lt_size ho2)), ⟨⟨_, _, hz, .inl rfl⟩, hTI, ⟨_, _, hTO⟩, ⟨_, g1, rfl, rfl⟩, ⟨_, g2, rfl, rfl⟩⟩, zip_fresh I1, q⟩
end Gw
/-! Whole numbers, pairs, plans, webs as data; further rules. -/
namespace Gw
open PySem PySem.Spec PySem.W PyProof.Rows L2 Evl

/-! ### data -/
abbrev nI (n : Nat) : PyData := .int (n : Int)
abbrev nT (l : List Nat) : PyData := .tuple (l.map nI)
abbrev nP (p : Nat × Nat) : PyData := .tuple [nI p.1, nI p.2]
abbrev nPs (l : List (Nat × Nat)) : PyData := .tuple (l.map nP)
abbrev nW (n : Nat) (l : List (Nat × Nat)) : PyData := .tuple [nI n, nPs l]
theorem nI_map (l : List Nat) : l.map nI = (l.map fun n : Nat => (n : Int)).map PyData.int := by
  rw [List.map_map]
  rfl
theorem dnl_nats {H : Hp} (l : List Nat) : DnL H (l.map fun n : Nat => V.int (n : Int)) (l.map nI) := by
  have := dnl_ints (H := H) (ns := l.map fun n : Nat => (n : Int))
  rw [List.map_map] at this
  rw [nI_map]
  exact this
theorem dnl_nats_inv {H : Hp} {l : List Nat} {vs : List V} (h : DnL H vs (l.map nI)) : vs = l.map fun n : Nat => V.int (n : Int) := by
  rw [nI_map] at h
  have := dnl_ints_inv h
  rw [List.map_map] at this
  exact this
theorem dnl_nats_inv' {H : Hp} {l : List Nat} {vs : List V} (h : DnL H vs (l.map nI)) : vs = (l.map fun n : Nat => (n : Int)).map V.int := by
  rw [nI_map] at h
  exact dnl_ints_inv h
theorem mem_cast {i : Nat} {l : List Nat} : (i : Int) ∈ l.map (fun n : Nat => (n : Int)) ↔ i ∈ l := by
  rw [List.mem_map]
  constructor
  · rintro ⟨a, h, e⟩
    have : a = i := by omega
    exact this ▸ h
  · exact fun h => ⟨i, h, rfl⟩
theorem eqv_pair (a b : Nat × Nat) : PyData.eqv (nP a) (nP b) = decide (a = b) := by
  obtain ⟨a1, a2⟩ := a
  obtain ⟨b1, b2⟩ := b
  simp only [nP, PyData.eqv, PyData.eqvAll, Bool.and_true]
  by_cases h1 : a1 = b1 <;> by_cases h2 : a2 = b2 <;> simp [h1, h2] <;> omega
theorem eqv_ints : ∀ a b : List Int, PyData.eqvAll (a.map PyData.int) (b.map PyData.int) = decide (a = b)
  | [], [] => by simp [PyData.eqvAll]
  | _ :: _, [] => by simp [PyData.eqvAll]
  | [], _ :: _ => by simp [PyData.eqvAll]
  | x :: a, y :: b => by
    have := eqv_ints a b
    simp only [List.map_cons, PyData.eqvAll, PyData.eqv, this]
    by_cases h1 : x = y <;> by_cases h2 : a = b <;> simp [h1, h2]
theorem any_pair (p : Nat × Nat) (l : List (Nat × Nat)) : ((l.map nP).any fun z => PyData.eqv z (nP p)) = decide (p ∈ l) := by
  induction l with
  | nil => rfl
  | cons a l ih =>
    rw [List.map_cons, List.any_cons, ih, eqv_pair]
    by_cases h : a = p <;> by_cases h2 : p ∈ l <;> simp [h, h2]
    exact fun e => h e.symm
theorem lay_pair (p : Nat × Nat) : (nP p).canLay0 = true := by simp [nP, PyData.canLay0, PyData.canLayAll0]
theorem lay_pairs (l : List (Nat × Nat)) : PyData.canLayAll0 (l.map nP) = true := by
  induction l with
  | nil => simp [PyData.canLayAll0]
  | cons a l ih =>
    simp only [List.map_cons, PyData.canLayAll0, ih, Bool.and_true]
    exact lay_pair a
theorem dep_pair (p : Nat × Nat) : (nP p).depth ≤ 1 := by simp [nP, PyData.depth, PyData.depthAll]
theorem dep_pairs (l : List (Nat × Nat)) : PyData.depthAll (l.map nP) ≤ 1 := by
  induction l with
  | nil => simp [PyData.depthAll]
  | cons a l ih =>
    have := dep_pair a
    simp only [List.map_cons, PyData.depthAll]
    omega
theorem lay_ints (l : List Int) : PyData.canLayAll0 (l.map PyData.int) = true := by
  induction l with
  | nil => simp [PyData.canLayAll0]
  | cons a l ih => simp [PyData.canLayAll0, PyData.canLay0, ih]

/-! ### names of the builtins -/
theorem bt_len : bootBuiltins "len" = some (.builtin "len") := by decide +kernel
theorem bt_isi : bootBuiltins "isinstance" = some (.builtin "isinstance") := by decide +kernel
theorem bt_all : bootBuiltins "all" = some (.builtin "all") := by decide +kernel
theorem bt_any : bootBuiltins "any" = some (.builtin "any") := by decide +kernel
theorem bt_min : bootBuiltins "min" = some (.builtin "min") := by decide +kernel
theorem bt_max : bootBuiltins "max" = some (.builtin "max") := by decide +kernel
theorem bt_abs : bootBuiltins "abs" = some (.builtin "abs") := by decide +kernel
theorem bt_sorted : bootBuiltins "sorted" = some (.builtin "sorted") := by decide +kernel
theorem bt_repr : bootBuiltins "repr" = some (.builtin "repr") := by decide +kernel
theorem bt_int : bootBuiltins "int" = some (.type "int") := by decide +kernel
theorem bt_bool : bootBuiltins "bool" = some (.type "bool") := by decide +kernel
theorem bt_str : bootBuiltins "str" = some (.type "str") := by decide +kernel
theorem bt_tuple : bootBuiltins "tuple" = some (.type "tuple") := by decide +kernel
theorem bt_list : bootBuiltins "list" = some (.type "list") := by decide +kernel
theorem bt_set : bootBuiltins "set" = some (.type "set") := by decide +kernel
/-- none of them is shadowed -/
structure Nb (mg : Str → Option Value) : Prop where
  len : mg "len" = none
  isinstance : mg "isinstance" = none
  all : mg "all" = none
  any : mg "any" = none
  min : mg "min" = none
  max : mg "max" = none
  abs : mg "abs" = none
  sorted : mg "sorted" = none
  repr : mg "repr" = none
  int : mg "int" = none
  bool : mg "bool" = none
  str : mg "str" = none
  tuple : mg "tuple" = none
  list : mg "list" = none
  set : mg "set" = none
  range : mg "range" = none
  zip : mg "zip" = none
  enumerate : mg "enumerate" = none

/-- a def by its name: how it stands, what is proved of it -/
structure Df (K : PySem.W.Frag) (mg : Str → Option Value) (x : Str) (st : Stmt) (ps : List Str) : Prop where
  ex : ∃ f fd, Fun K x x st f fd ∧ mg x = some (.ref f) ∧ Binds K fd ps []
theorem Df.cal {P : Program} {w : World} {K : PySem.W.Frag} {mg : Str → Option Value} {base : Heap} {x : Str} {st : Stmt} {N ps : List Str} {k : Nat} {sp : Sp} (F : Df K mg x st ps) (S : FnScope N ps (defScope st)) (len : ∀ vs H Q E, sp vs H Q E → vs.length = ps.length)
    (hbody : ∀ (f : Addr) (cdv : Value) (A : Around) (outer : List Env) (s : Shared) (H : Hp) (vs : List V) (Q : VK) (E : XK), Room k (A.deeper (envOfC x (defScope st) s.heap.objs.size f cdv)) → sp vs H Q E →
      ∃ t, PSs (cxOf CX0 P w K mg base N x (defScope st) f cdv A outer s H E).nox (defBody st) t ∧ t { nx := fun _ H' => Q .non H', rt := Q } (start N vs) H) : C8.Cal P w K mg base (k + 1) x sp [] := by
  obtain ⟨f, fd, F1, m1, b1⟩ := F.ex
  exact ⟨f, fd, ps, [], F1.ok S len fun cdv A outer s H vs Q E hr h => hbody f cdv A outer s H vs Q E hr h, m1, F1.kp, b1, .nil⟩
theorem units64 {k : Nat} {A : Around} (r : Room k A) : A.units + 64 < cLine := by
  have := r.un
  omega

section
variable {K : PySem.W.Frag} {σ : L2.St} {H H' : Hp} {ta tb te tl : TE} {t u : TT} {v x y : V} {d e f : PyData} {ds es : List PyData} {i j : Int} {b c : Bool} {tr : TA} {a m n : Nat} {l l' : List Nat} {p q : Nat × Nat} {ps : List (Nat × Nat)}
/-! ### numbers -/
theorem ed_eqN (h : ED ta σ H (nI m)) (k : ED tb σ H (nI n)) : ED (tOp rEq ta tb) σ H (.bool (decide (m = n))) := (ed_eqI h k).is (by congr 2; exact propext (by omega))
theorem ed_neN (h : ED ta σ H (nI m)) (k : ED tb σ H (nI n)) : ED (tOp rNe ta tb) σ H (.bool (!decide (m = n))) := (ed_neI h k).is (by congr 3; exact propext (by omega))
theorem ed_inN (h : ED ta σ H (nI m)) (k : ED tb σ H (nT l)) : ED (tOp (rIn K false) ta tb) σ H (.bool (decide (m ∈ l))) := by
  rw [nT, nI_map] at k
  exact (ed_inT h k).is (by simp only [mem_cast])
theorem ed_niN (h : ED ta σ H (nI m)) (k : ED tb σ H (nT l)) : ED (tOp (rIn K true) ta tb) σ H (.bool (!decide (m ∈ l))) := by
  rw [nT, nI_map] at k
  exact (ed_niT h k).is (by simp only [mem_cast])
/-- t[i] of a tuple of numbers -/
theorem ed_ixN (h : ED ta σ H (nT l)) (k : ED tb σ H (nI m)) (g : l[m]? = some n) : ED (tOp (rIxT K) ta tb) σ H (nI n) := ed_ixT h k (atI_of (by rw [List.getElem?_map, g]; rfl))
/-- p in l, pairs -/
theorem ed_inP (h : ED ta σ H (nP p)) (k : ED tb σ H (nPs ps)) : ED (tOp (rInT K false) ta tb) σ H (.bool (decide (p ∈ ps))) := fun H1 a Q q =>
  h H1 a _ fun v H2 k1 k2 => k H2 (a.trans k1) _ fun w H3 l1 l2 => by
    have d1 := dep_pair p
    have d2 := dep_pairs ps
    refine ⟨_, _, (k2.ex l1).dp, l2.dp, lay_pair p, lay_pairs ps, by omega, by omega, ?_⟩
    show Q (.bl ((ps.map nP).any fun z => PyData.eqv z (nP p))) H3
    rw [any_pair]
    exact q _ H3 (k1.trans l1) (.bl _)
theorem ed_niP (h : ED ta σ H (nP p)) (k : ED tb σ H (nPs ps)) : ED (tOp (rInT K true) ta tb) σ H (.bool (!decide (p ∈ ps))) := fun H1 a Q q =>
  h H1 a _ fun v H2 k1 k2 => k H2 (a.trans k1) _ fun w H3 l1 l2 => by
    have d1 := dep_pair p
    have d2 := dep_pairs ps
    refine ⟨_, _, (k2.ex l1).dp, l2.dp, lay_pair p, lay_pairs ps, by omega, by omega, ?_⟩
    show Q (.bl (!(ps.map nP).any fun z => PyData.eqv z (nP p))) H3
    rw [any_pair]
    exact q _ H3 (k1.trans l1) (.bl _)
/-- .. in a list of pairs that stands in H -/
def rInL (K : PySem.W.Frag) (neg : Bool) : R2 := fun x y H Q => ∃ d ds, Dp K H x d ∧ Dp K H y (.list ds) ∧ d.canLay0 = true ∧ PyData.canLayAll0 ds = true ∧ d.depth ≤ 60 ∧ PyData.depthAll ds ≤ 60 ∧
  Q (.bl (if neg then !ds.any (fun z => PyData.eqv z d) else ds.any fun z => PyData.eqv z d)) H
theorem op_inL {X : Cx} (hu : X.A.units + 64 < cLine) : OpR X (compareOp .In) (rInL X.K false) := by
  rintro pins s σ H x y v u Q I rx ry ⟨d, ds, hd, he, c1, c2, z1, z2, q⟩
  obtain ⟨as, r1⟩ := Dp.reads I d x v hd rx
  obtain ⟨bs, r2⟩ := Dp.reads I (.list ds) y u he ry
  exact SeqAt.in_list_reads r2 r1 c2 c1 (by omega) ⟨.bl _, H, I, rfl, q⟩
theorem op_notInL {X : Cx} (hu : X.A.units + 64 < cLine) : OpR X (compareOp .NotIn) (rInL X.K true) := by
  rintro pins s σ H x y v u Q I rx ry ⟨d, ds, hd, he, c1, c2, z1, z2, q⟩
  obtain ⟨as, r1⟩ := Dp.reads I d x v hd rx
  obtain ⟨bs, r2⟩ := Dp.reads I (.list ds) y u he ry
  exact SeqAt.notIn_list_reads r2 r1 c2 c1 (by omega) ⟨.bl _, H, I, rfl, q⟩
theorem ed_niPL {a : Addr} {vs : List V} (h : ED ta σ H (nP p)) (k : Ev tb σ H (.ref a)) (hs : H a = some (.lst vs)) (hd : DnL H vs (ps.map nP)) : ED (tOp (rInL K true) ta tb) σ H (.bool (!decide (p ∈ ps))) := fun H1 a' Q q =>
  h H1 a' _ fun v H2 k1 k2 => k H2 (a'.trans k1) _ fun H3 l1 => by
    have d1 := dep_pair p
    have d2 := dep_pairs ps
    have e3 := (a'.trans k1).trans l1
    refine ⟨_, _, (k2.ex l1).dp, .lst (SqL.of (e3 _ _ hs)) (hd.ex e3).dp, lay_pair p, lay_pairs ps, by omega, by omega, ?_⟩
    show Q (.bl (!(ps.map nP).any fun z => PyData.eqv z (nP p))) H3
    rw [any_pair]
    exact q _ H3 (k1.trans l1) (.bl _)
/-! ### pairs -/
theorem ed_min2 (h : ED ta σ H (nP p)) : ED (tCB rMin2T (tCons ta tNil)) σ H (nI (min p.1 p.2)) := fun H1 a Q q =>
  h H1 a _ fun v H2 k1 k2 => by
    obtain ⟨r, xs, e1, e2, e3⟩ := k2.tup_inv
    have := dnl_ints_inv (ns := [(p.1 : Int), (p.2 : Int)]) e3
    subst this
    refine ⟨r, p.1, p.2, by rw [e1], e2, ?_⟩
    have : (min (p.1 : Int) (p.2 : Int)) = ((min p.1 p.2 : Nat) : Int) := by omega
    rw [this]
    exact q _ H2 k1 (.int _)
theorem ed_max2 (h : ED ta σ H (nP p)) : ED (tCB rMax2T (tCons ta tNil)) σ H (nI (max p.1 p.2)) := fun H1 a Q q =>
  h H1 a _ fun v H2 k1 k2 => by
    obtain ⟨r, xs, e1, e2, e3⟩ := k2.tup_inv
    have := dnl_ints_inv (ns := [(p.1 : Int), (p.2 : Int)]) e3
    subst this
    refine ⟨r, p.1, p.2, by rw [e1], e2, ?_⟩
    have : (max (p.1 : Int) (p.2 : Int)) = ((max p.1 p.2 : Nat) : Int) := by omega
    rw [this]
    exact q _ H2 k1 (.int _)
theorem ed_pair (h : ED ta σ H (nI m)) (k : ED tb σ H (nI n)) : ED (tTup (tCons ta (tCons tb tNil))) σ H (nP (m, n)) := ed_tup (eda_cons h (eda_cons k eda_nil)) (show 2 ≤ 100000 by decide)
theorem ed_fst (h : ED ta σ H (nP p)) : ED (tOp (rIxT K) ta (tC (.int 0))) σ H (nI p.1) := ed_ixT h ed_int rfl
theorem ed_snd (h : ED ta σ H (nP p)) : ED (tOp (rIxT K) ta (tC (.int 1))) σ H (nI p.2) := ed_ixT h ed_int rfl
/-! ### sorting -/
theorem perm_sorted {ns ms : List Int} (hp : ns.Perm ms) (h1 : ns.Pairwise (· ≤ ·)) (h2 : ms.Pairwise (· ≤ ·)) : ns = ms := by
  induction ns generalizing ms with
  | nil => exact (List.Perm.nil_eq hp)
  | cons x ns ih =>
    cases ms with
    | nil => exact absurd hp.symm (by intro z; cases (List.Perm.nil_eq z))
    | cons y ms =>
      have hx : x ∈ y :: ms := hp.subset (List.mem_cons_self ..)
      have hy : y ∈ x :: ns := hp.symm.subset (List.mem_cons_self ..)
      rw [List.pairwise_cons] at h1 h2
      have e : x = y := by
        rcases List.mem_cons.mp hx with e | e
        · exact e
        · rcases List.mem_cons.mp hy with f | f
          · exact f.symm
          · have a1 := h1.1 _ f
            have a2 := h2.1 _ e
            omega
      subst e
      rw [ih (List.Perm.cons_inv hp) h1.2 h2.2]
def srt (l : List Nat) : List Nat := l.mergeSort (fun a b => decide (a ≤ b))
theorem srt_perm (l : List Nat) : (srt l).Perm l := List.mergeSort_perm l _
theorem srt_sorted (l : List Nat) : (srt l).Pairwise (· ≤ ·) := by
  have := List.pairwise_mergeSort (le := fun a b : Nat => decide (a ≤ b)) (fun a b c h1 h2 => by simp at *; omega) (fun a b => by simp; omega) l
  exact this.imp fun h => by simpa using h
theorem srt_is {ns : List Int} (hp : ns.Perm (l.map fun n : Nat => (n : Int))) (h1 : ns.Pairwise (· ≤ ·)) : ns = (srt l).map fun n : Nat => (n : Int) :=
  perm_sorted (hp.trans ((srt_perm l).symm.map _)) h1 (by
    rw [List.pairwise_map]
    exact (srt_sorted l).imp fun h => by omega)
theorem el_sortT (h : ED ta σ H (nT l)) : EL (tCB rSortT (tCons ta tNil)) σ H ((srt l).map nI) := fun H1 a Q q =>
  h H1 a _ fun v H2 k1 k2 => by
    obtain ⟨r, xs, e1, e2, e3⟩ := k2.tup_inv
    have := dnl_nats_inv' e3
    subst this
    refine ⟨r, _, by rw [e1], e2, fun ns' w hp hs hw => ?_⟩
    have := srt_is hp hs
    subst this
    refine q w _ _ (fresh_back k1 hw) (k1.trans (Ex.new hw)) upd_same ?_
    rw [nI_map]
    exact dnl_ints
theorem el_sortL (h : EL ta σ H (l.map nI)) : EL (tCB (rSortedI K) (tCons ta tNil)) σ H ((srt l).map nI) := fun H1 a Q q =>
  h H1 a _ fun r xs H2 k0 k1 k2 k3 => by
    have := dnl_nats_inv' k3
    subst this
    refine ⟨r, _, rfl, SqL.of k2, fun ns' w hp hs hw => ?_⟩
    have := srt_is hp hs
    subst this
    refine q w _ _ (fresh_back k1 hw) (k1.trans (Ex.new hw)) upd_same ?_
    rw [nI_map]
    exact dnl_ints
/-- len(set(t)) of a tuple of different numbers -/
def tLenSetT (ta : TE) : TE := fun σ H Q => ta σ H fun x H1 => ∃ (a : Addr) (ns : List Int), x = .ref a ∧ H1 a = some (.tup (ns.map V.int)) ∧ ns.Nodup ∧ ns.length ≤ 1000 ∧ Q (.int (ns.length : Nat)) H1
theorem pe_lenSetT {X : Cx} {a : Expr} {ta : TE} {p p2 q pos : Pos} (hg : Gl X "len") (hm : X.mg "len" = none) (hg2 : Gl X "set") (hm2 : X.mg "set" = none) (ha : PE X a ta) (hc : X.calm = true := by rfl)
    (na : starEach [a] X.env = (false, eval a X.env) :: starEach [] X.env := by rfl) : PE X (.Call (.Name "len" p) [.Call (.Name "set" p2) [a] [] q] [] pos) (tLenSetT ta) := by
  refine ⟨fun pins s σ H Q I h => ?_⟩
  refine Call_ (ld_blt I hg hm bt_len ?_)
  refine callWith_builtin1 (args_cons ?_ rfl) rfl rfl
  refine Call_ (ld_blt I hg2 hm2 bt_set ?_)
  refine callWith_type1 (args_cons (thn (ha.run pins s σ H _ I h) fun v s1 ⟨x, H1, I1, r1, q1⟩ => args_nil ?_) na) na rfl
  obtain ⟨l, ns, rfl, hq, hnd, hl, q1⟩ := q1
  cases r1
  obtain ⟨its, r, pl, _⟩ := I1.tuple (SqT.of hq)
  refine call_set_tupI ns (I1.ok.hd hc) pl (by simpa using RZ.intsAre_vals r) (by unfold scanBound; omega) fun h' tk c hS hcl hk => ?_
  refine args_nil ?_
  obtain ⟨o, es, ep, t, ho, hex, hd, hg1, hn1, hm1, hs1, hf, hsz, _⟩ := hS
  have I2 : Inv X pins σ H1 { s1 with heap := h', toks := tk } := I1.kept fun b o e => hk b o e
  have hlen : es.size = ns.length := by
    have pm : (es.toList.map keyOf).Perm ns := (List.perm_ext_iff_of_nodup hn1 hnd).mpr fun k => by
      rw [← hm1 k, decide_eq_true_eq]
    have := pm.length_eq
    rw [List.length_map, Array.length_toList] at this
    exact this
  exact call_len_set ho hex hd hf (by omega) ⟨.int ns.length, H1, I2.tok _, ⟨_, by rw [hlen]⟩, q1⟩
theorem nodup_cast {l : List Nat} (h : l.Nodup) : (l.map fun n : Nat => (n : Int)).Nodup := by
  show List.Pairwise _ _
  rw [List.pairwise_map]
  exact h.imp fun z e => z (by omega)
theorem ed_lenSet (h : ED ta σ H (nT l)) (hn : l.Nodup) (hz : l.length ≤ 1000) : ED (tLenSetT ta) σ H (nI l.length) := fun H1 a Q q =>
  h H1 a _ fun v H2 k1 k2 => by
    obtain ⟨r, xs, e1, e2, e3⟩ := k2.tup_inv
    have := dnl_nats_inv' e3
    subst this
    refine ⟨r, _, e1, e2, nodup_cast hn, by simpa using hz, ?_⟩
    rw [List.length_map]
    exact q _ H2 k1 (.int _)
/-! ### sources -/
/-- pairs that are made at each turn -/
theorem ed_new2 {H : Hp} {T : Addr} {x y : V} {d e : PyData} (hT : H T = none) (h1 : Dn H x d) (h2 : Dn H y e) : Ex H (upd H T (.tup [x, y])) ∧ Dn (upd H T (.tup [x, y])) (.ref T) (.tuple [d, e]) :=
  ⟨Ex.new hT, .tup upd_same (.cons (h1.ex (Ex.new hT)) (.cons (h2.ex (Ex.new hT)) .nil))⟩
theorem src_enumT {p : Addr} {xs : List V} (e2 : H p = some (.tup xs)) (e3 : DnL H xs ds) : Src (IteT K p) (Tx H) ((List.range ds.length).map fun i => PyData.tuple [nI i, ds.getD i .none]) := by
  have hl := e3.length
  refine ⟨fun i H3 t hi => ?_, fun H3 t => ?_, fun i d H3 x H4 ed t y => ?_⟩
  · rw [List.length_map, List.length_range] at hi
    exact ⟨xs, xs[i]'(by omega), SqT.of (t _ _ e2), by simp [hl, hi]⟩
  · rw [List.length_map, List.length_range]
    exact ⟨xs, SqT.of (t _ _ e2), by omega⟩
  · obtain ⟨T, x1, f1, f2, f3, f4⟩ := y
    subst f1 f3
    have g := f4 _ (SqT.of (t _ _ e2))
    obtain ⟨d1, g1, g2⟩ := e3.get' g
    rw [List.getElem?_map] at ed
    have hi : i < ds.length := (List.getElem?_eq_some_iff.mp g1).1
    rw [List.getElem?_range hi] at ed
    cases ed
    have : ds.getD i .none = d1 := by rw [List.getD_eq_getElem?_getD, g1]; rfl
    have z := ed_new2 f2 (.int ((i : Nat) : Int)) (g2.tx t)
    rw [← this] at z
    exact z
theorem src_enumL {p : Addr} {xs : List V} (e2 : H p = some (.lst xs)) (e3 : DnL H xs ds) : Src (Ite K p) (fun H' => Tx H H' ∧ H' p = some (.lst xs)) ((List.range ds.length).map fun i => PyData.tuple [nI i, ds.getD i .none]) := by
  have hl := e3.length
  refine ⟨fun i H3 t hi => ?_, fun H3 t => ?_, fun i d H3 x H4 ed t y => ?_⟩
  · rw [List.length_map, List.length_range] at hi
    exact ⟨xs, xs[i]'(by omega), SqL.of t.2, by simp [hl, hi]⟩
  · rw [List.length_map, List.length_range]
    exact ⟨xs, SqL.of t.2, by omega⟩
  · obtain ⟨T, x1, f1, f2, f3, f4⟩ := y
    subst f1 f3
    have g := f4 _ (SqL.of t.2)
    obtain ⟨d1, g1, g2⟩ := e3.get' g
    rw [List.getElem?_map] at ed
    have hi : i < ds.length := (List.getElem?_eq_some_iff.mp g1).1
    rw [List.getElem?_range hi] at ed
    cases ed
    have : ds.getD i .none = d1 := by rw [List.getD_eq_getElem?_getD, g1]; rfl
    have z := ed_new2 f2 (.int ((i : Nat) : Int)) (g2.tx t.1)
    rw [← this] at z
    exact z
theorem et_enumT (h : ED ta σ H (.tuple ds)) : ET (iEnumT K (tCons ta tNil)) σ H ((List.range ds.length).map fun i => PyData.tuple [nI i, ds.getD i .none]) := fun H1 a R r =>
  h H1 a _ fun v H2 k1 k2 => by
    obtain ⟨p, xs, e1, e2, e3⟩ := k2.tup_inv
    exact ⟨p, xs, by rw [e1], SqT.of e2, r _ H2 k1 (src_enumT e2 e3)⟩
theorem es_enumL {a : Addr} {vs : List V} (h : Ev ta σ H (.ref a)) (hs : H a = some (.lst vs)) (hd : DnL H vs ds) : ES (iEnum K (tCons ta tNil)) σ H ((List.range ds.length).map fun i => PyData.tuple [nI i, ds.getD i .none]) := fun H1 a' R r =>
  h H1 a' _ fun H2 k1 => ⟨a, vs, rfl, SqL.of ((a'.trans k1) _ _ hs), r _ H2 k1 ((src_enumL ((a'.trans k1) _ _ hs) (hd.ex (a'.trans k1))).weak fun H3 e => ⟨Tx.of e, e _ _ ((a'.trans k1) _ _ hs)⟩)⟩
/-- what zip hands out -/
def zipD (ds es : List PyData) : List PyData := (ds.zip es).map fun p => PyData.tuple [p.1, p.2]
theorem zip_get {ds es : List PyData} {i : Nat} {d : PyData} (h : (zipD ds es)[i]? = some d) : ∃ d1 d2, ds[i]? = some d1 ∧ es[i]? = some d2 ∧ d = .tuple [d1, d2] := by
  unfold zipD at h
  rw [List.getElem?_map] at h
  cases q : (ds.zip es)[i]? with
  | none => rw [q] at h; cases h
  | some p =>
    rw [q] at h
    cases h
    rw [List.getElem?_zip_eq_some] at q
    exact ⟨_, _, q.1, q.2, rfl⟩
theorem zip_len {ds es : List PyData} : (zipD ds es).length = min ds.length es.length := by
  unfold zipD
  rw [List.length_map, List.length_zip]
theorem src_zipN {p q : Addr} {xs ys : List V} (e1 : H p = some (.tup xs)) (e2 : H q = some (.tup ys)) (d1 : DnL H xs ds) (d2 : DnL H ys es) : Src (ItzN K p q) (Tx H) (zipD ds es) := by
  have l1 := d1.length
  have l2 := d2.length
  refine ⟨fun i H3 t hi => ?_, fun H3 t => ?_, fun i d H3 x H4 ed t y => ?_⟩
  · rw [zip_len] at hi
    exact ⟨xs, ys, xs[i]'(by omega), ys[i]'(by omega), SqT.of (t _ _ e1), SqT.of (t _ _ e2), by simp, by simp⟩
  · rw [zip_len]
    exact ⟨xs, ys, SqT.of (t _ _ e1), SqT.of (t _ _ e2), by omega⟩
  · obtain ⟨T, x1, y1, f1, f2, f3, f4, f5⟩ := y
    subst f1 f3
    obtain ⟨a1, a2, g1, g2, e⟩ := zip_get ed
    subst e
    obtain ⟨u1, h1, h2⟩ := d1.get g1
    obtain ⟨u2, h3, h4⟩ := d2.get g2
    rw [f4 _ (SqT.of (t _ _ e1))] at h1
    rw [f5 _ (SqT.of (t _ _ e2))] at h3
    cases h1
    cases h3
    exact ed_new2 f2 (h2.tx t) (h4.tx t)
theorem et_zipN (h : ED ta σ H (.tuple ds)) (k : ED tb σ H (.tuple es)) : ET (iZipN K (tCons ta (tCons tb tNil))) σ H (zipD ds es) := fun H1 a R r =>
  h H1 a _ fun v H2 k1 k2 => k H2 (a.trans k1) _ fun w H3 l1 l2 => by
    obtain ⟨p, xs, e1, e2, e3⟩ := k2.tup_inv
    obtain ⟨q, ys, f1, f2, f3⟩ := l2.tup_inv
    exact ⟨p, q, xs, ys, by rw [e1, f1], SqT.of (l1 _ _ e2), SqT.of f2, r _ H3 (k1.trans l1) (src_zipN (l1 _ _ e2) f2 (e3.ex l1) f3)⟩
theorem src_zipM {p q : Addr} {xs ys : List V} (e1 : H p = some (.tup xs)) (e2 : H q = some (.lst ys)) (d1 : DnL H xs ds) (d2 : DnL H ys es) : Src (ItzM K p q) (fun H' => Tx H H' ∧ H' q = some (.lst ys)) (zipD ds es) := by
  have l1 := d1.length
  have l2 := d2.length
  refine ⟨fun i H3 t hi => ?_, fun H3 t => ?_, fun i d H3 x H4 ed t y => ?_⟩
  · rw [zip_len] at hi
    exact ⟨xs, ys, xs[i]'(by omega), ys[i]'(by omega), SqT.of (t.1 _ _ e1), SqL.of t.2, by simp, by simp⟩
  · rw [zip_len]
    exact ⟨xs, ys, SqT.of (t.1 _ _ e1), SqL.of t.2, by omega⟩
  · obtain ⟨T, x1, y1, f1, f2, f3, f4, f5⟩ := y
    subst f1 f3
    obtain ⟨a1, a2, g1, g2, e⟩ := zip_get ed
    subst e
    obtain ⟨u1, h1, h2⟩ := d1.get g1
    obtain ⟨u2, h3, h4⟩ := d2.get g2
    rw [f4 _ (SqT.of (t.1 _ _ e1))] at h1
    rw [f5 _ (SqL.of t.2)] at h3
    cases h1
    cases h3
    exact ed_new2 f2 (h2.tx t.1) (h4.tx t.1)
theorem es_zipM {b : Addr} {vs : List V} (h : ED ta σ H (.tuple ds)) (k : Ev tb σ H (.ref b)) (hs : H b = some (.lst vs)) (hd : DnL H vs es) : ES (iZipM K (tCons ta (tCons tb tNil))) σ H (zipD ds es) := fun H1 a R r =>
  h H1 a _ fun v H2 k1 k2 => k H2 (a.trans k1) _ fun H3 l1 => by
    obtain ⟨p, xs, e1, e2, e3⟩ := k2.tup_inv
    have e4 := (a.trans k1).trans l1
    exact ⟨p, b, xs, vs, by rw [e1], SqT.of (l1 _ _ e2), SqL.of (e4 _ _ hs), r _ H3 (k1.trans l1) ((src_zipM (l1 _ _ e2) (e4 _ _ hs) (e3.ex l1) (hd.ex e4)).weak fun H5 e => ⟨Tx.of e, e _ _ (e4 _ _ hs)⟩)⟩
theorem src_zipL {p q : Addr} {xs ys : List V} (e1 : H p = some (.lst xs)) (e2 : H q = some (.lst ys)) (d1 : DnL H xs ds) (d2 : DnL H ys es) : Src (Itz K p q) (Ex H) (zipD ds es) := by
  have l1 := d1.length
  have l2 := d2.length
  refine ⟨fun i H3 t hi => ?_, fun H3 t => ?_, fun i d H3 x H4 ed t y => ?_⟩
  · rw [zip_len] at hi
    exact ⟨xs, ys, xs[i]'(by omega), ys[i]'(by omega), SqL.of (t _ _ e1), SqL.of (t _ _ e2), by simp, by simp⟩
  · rw [zip_len]
    by_cases h : xs.length ≤ ys.length
    · exact ⟨xs, ys, SqL.of (t _ _ e1), SqL.of (t _ _ e2), by omega⟩
    · exact ⟨xs, ys, SqL.of (t _ _ e1), SqL.of (t _ _ e2), by omega⟩
  · obtain ⟨T, x1, y1, f1, f2, f3, f4, f5⟩ := y
    subst f1 f3
    obtain ⟨a1, a2, g1, g2, e⟩ := zip_get ed
    subst e
    obtain ⟨u1, h1, h2⟩ := d1.get g1
    obtain ⟨u2, h3, h4⟩ := d2.get g2
    rw [f4 _ (SqL.of (t _ _ e1))] at h1
    rw [f5 _ (SqL.of (t _ _ e2))] at h3
    cases h1
    cases h3
    exact ed_new2 f2 (h2.ex t) (h4.ex t)
theorem es_zipL {a b : Addr} {us vs : List V} (h : Ev ta σ H (.ref a)) (k : Ev tb σ H (.ref b)) (hs1 : H a = some (.lst us)) (hd1 : DnL H us ds) (hs : H b = some (.lst vs)) (hd : DnL H vs es) : ES (iZip K (tCons ta (tCons tb tNil))) σ H (zipD ds es) := fun H1 a' R r =>
  h H1 a' _ fun H2 k1 => k H2 (a'.trans k1) _ fun H3 l1 => by
    have e4 := (a'.trans k1).trans l1
    exact ⟨a, b, us, vs, rfl, SqL.of (e4 _ _ hs1), SqL.of (e4 _ _ hs), r _ H3 (k1.trans l1) (src_zipL (e4 _ _ hs1) (e4 _ _ hs) (hd1.ex e4) (hd.ex e4))⟩
/-! ### list(range(n)) -/
theorem el_listRg (h : ED ta σ H (nI n)) (hn : n ≤ 100000) : EL (tLstRg (tRg1 ta)) σ H ((List.range n).map nI) := fun H1 a Q q =>
  h H1 a _ fun v H2 k1 k2 => by
    have e := k2.int_inv
    refine ⟨_, e, RgOk.of_le (by omega) (by omega) (by omega) (by omega), fun r hr => ?_⟩
    refine q r _ _ (fresh_back k1 hr) (k1.trans (Ex.new hr)) upd_same ?_
    have : rgV 0 (n : Int) = (List.range n).map fun n : Nat => V.int (n : Int) := by
      unfold rgV
      simp
    rw [this]
    exact dnl_nats _
/-! ### [e for a in xs for b in ys] -/
theorem el_lc2 {α β : Type} {enc : α → PyData} {encB : β → PyData} {xs : List α} {fs : α → List β} {f : β → PyData} {wi wi1 : TI} {g g1 : TG} {vs vs1 : List Nat} (h : ES wi σ H (xs.map enc)) (z : (xs.flatMap fs).length < 100000)
    (hb : ∀ a ∈ xs, ∀ x H', Ex H H' → Dn H' x (enc a) → ∃ σ2, (∀ Q : L2.St → Hp → Prop, Q σ2 H' → g x (wipe σ vs) H' Q) ∧ wipe σ2 vs = wipe σ vs ∧ ET wi1 σ2 H' ((fs a).map encB) ∧
      ∀ b ∈ fs a, ∀ y H2, Ex H H2 → Tx H' H2 → Dn H2 y (encB b) → ∃ σ3, (∀ Q : L2.St → Hp → Prop, Q σ3 H2 → g1 y (wipe σ2 vs1) H2 Q) ∧ wipe σ3 vs1 = wipe σ2 vs1 ∧ ED te σ3 H2 (f b)) :
    EL (tLc2 wi g tYes wi1 g1 tYes te vs vs1) σ H ((xs.flatMap fs).map f) := fun H1 a Q q =>
  h H1 a _ fun J H2 k S D hD => by
    refine ⟨fun i m H' => m = xs.length - i ∧ i ≤ xs.length ∧ Ex H2 H' ∧ ∃ acc, H' D = some (.lst acc) ∧ DnL H' acc (((xs.take i).flatMap fs).map f),
      ⟨xs.length, rfl, Nat.zero_le _, Ex.new hD, [], upd_same, .nil⟩, ?_⟩
    rintro i m H' ⟨rfl, hi, e, acc, hacc, hd⟩
    by_cases hlt : i < xs.length
    · have hx : xs[i]? = some xs[i] := List.getElem?_eq_getElem hlt
      have hm : (xs.map enc)[i]? = some (enc xs[i]) := by rw [List.getElem?_map, hx]; rfl
      have tk : xs.take (i + 1) = xs.take i ++ [xs[i]] := by rw [List.take_add_one, hx] <;> rfl
      have ltot : ((xs.take i).flatMap fs).length + (fs xs[i]).length ≤ (xs.flatMap fs).length := by
        have e1 : xs.flatMap fs = (xs.take (i + 1)).flatMap fs ++ (xs.drop (i + 1)).flatMap fs := by rw [← List.flatMap_append, List.take_append_drop]
        rw [e1, tk, List.flatMap_append, List.length_append, List.length_append]
        simp
      refine .inr ⟨S.go i H' e (by rw [List.length_map]; exact hlt), fun H3 => Ex H2 H3 ∧ ∃ acc, H3 D = some (.lst acc) ∧ DnL H3 acc (((xs.take (i + 1)).flatMap fs).map f), fun H3 ⟨n1, n2⟩ => ⟨xs.length - (i + 1), by omega, rfl, hlt, n1, n2⟩, fun x H3 y => ?_⟩
      obtain ⟨e3, dx⟩ := S.yld i _ H' x H3 hm e y
      obtain ⟨σ2, s1, s2, s3, s4⟩ := hb xs[i] (List.getElem_mem hlt) x H3 (((a.trans k).trans e).trans e3) dx
      refine s1 _ ⟨s2, ?_⟩
      show wi1 σ2 H3 _
      refine s3 H3 (Ex.refl _) _ fun J1 H4 k4 S1 => ?_
      have e4 := (e.trans e3).trans k4
      refine ⟨fun j m H' => m = (fs xs[i]).length - j ∧ j ≤ (fs xs[i]).length ∧ Tx H4 H' ∧ Ex H2 H' ∧ ∃ acc, H' D = some (.lst acc) ∧ DnL H' acc (((xs.take i).flatMap fs ++ (fs xs[i]).take j).map f),
        ⟨(fs xs[i]).length, rfl, Nat.zero_le _, Tx.refl _, e4, acc, k4 _ _ (e3 _ _ hacc), by rw [List.take_zero, List.append_nil]; exact (hd.ex e3).ex k4⟩, ?_⟩
      rintro j m H5 ⟨rfl, hj, t5, e5, acc5, hacc5, hd5⟩
      by_cases hjl : j < (fs xs[i]).length
      · have hy : (fs xs[i])[j]? = some (fs xs[i])[j] := List.getElem?_eq_getElem hjl
        have hmy : ((fs xs[i]).map encB)[j]? = some (encB (fs xs[i])[j]) := by rw [List.getElem?_map, hy]; rfl
        have tkj : (fs xs[i]).take (j + 1) = (fs xs[i]).take j ++ [(fs xs[i])[j]] := by rw [List.take_add_one, hy] <;> rfl
        refine .inr ⟨S1.go j H5 t5 (by rw [List.length_map]; exact hjl), fun H6 => Tx H4 H6 ∧ Ex H2 H6 ∧ ∃ acc, H6 D = some (.lst acc) ∧ DnL H6 acc (((xs.take i).flatMap fs ++ (fs xs[i]).take (j + 1)).map f),
          fun H6 ⟨n1, n2, n3⟩ => ⟨(fs xs[i]).length - (j + 1), by omega, rfl, hjl, n1, n2, n3⟩, fun y H6 yy => ?_⟩
        obtain ⟨e6, dy⟩ := S1.yld j _ H5 y H6 hmy t5 yy
        have t6 : Tx H4 H6 := t5.trans (Tx.of e6)
        obtain ⟨σ3, w1, w2, w3⟩ := s4 _ (List.getElem_mem hjl) y H6 ((a.trans k).trans (e5.trans e6)) ((Tx.of k4).trans t6) dy
        refine w1 _ ⟨w2, ?_⟩
        show te σ3 H6 _
        refine w3 H6 (Ex.refl _) _ fun w H7 e7 dw => ?_
        have acc7 : H7 D = some (.lst acc5) := e7 _ _ (e6 _ _ hacc5)
        have d7 := (hd5.ex e6).ex e7
        have nt : Tx H7 (upd H7 D (.lst (acc5 ++ [w]))) := Tx.mut acc7 fun _ q => nomatch q
        refine ⟨acc5, acc7, sz_lt ?_, t6.trans ((Tx.of e7).trans nt), ((e5.trans e6).trans e7).mut hD, acc5 ++ [w], upd_same, ?_⟩
        · have := hd5.length
          rw [List.length_map, List.length_append, List.length_take] at this
          omega
        · rw [tkj, ← List.append_assoc, List.map_append]
          exact (d7.tx nt).append (.cons (dw.tx nt) .nil)
      · have ej : j = (fs xs[i]).length := by omega
        subst ej
        refine .inl ⟨by have := S1.stop H5 t5; rw [List.length_map] at this; exact this, e5, acc5, hacc5, ?_⟩
        rw [List.take_length] at hd5
        rw [tk, List.flatMap_append]
        simpa using hd5
    · have e1 : i = xs.length := by omega
      subst e1
      refine .inl ⟨by have := S.stop H' e; rw [List.length_map] at this; exact this, ?_⟩
      rw [List.take_length] at hd
      exact q D acc H' (fresh_back k hD) (k.trans e) hacc hd
end
end Gw
/-! Statements, read; isinstance; the promise's arguments. -/
namespace Gw
open PySem L2 Evl
section
variable {K : PySem.W.Frag} {σ : L2.St} {H H' : Hp} {ta tb te tl : TE} {t u : TT} {v x y : V} {d e f d1 d2 d3 d4 : PyData} {ds es : List PyData} {i j : Int} {b c : Bool} {tr : TA} {D : Ends} {s1 s2 : TS} {vs : List V}
theorem r_ret (h : ED te σ H d) (q : ∀ v H2, Ex H H2 → Dn H2 v d → D.rt v H2) : tRet te D σ H := h.now q
theorem r_retL (h : EL te σ H ds) (q : ∀ p vs H2, H p = none → Ex H H2 → H2 p = some (.lst vs) → DnL H2 vs ds → D.rt (.ref p) H2) : tRet te D σ H := h.now q
theorem r_set {i : Nat} (h : ED te σ H d) (q : ∀ v H2, Ex H H2 → Dn H2 v d → D.nx (σ.set i (some v)) H2) : tAsg te (gName i) D σ H := h.now q
theorem r_setL {i : Nat} (h : EL te σ H ds) (q : ∀ p vs H2, H p = none → Ex H H2 → H2 p = some (.lst vs) → DnL H2 vs ds → D.nx (σ.set i (some (.ref p))) H2) : tAsg te (gName i) D σ H := h.now q
theorem r_seq (h : s1 { D with nx := s2 D } σ H) : tSeq s1 s2 D σ H := h
theorem r_if (h : EvT t σ H b) (q1 : b = true → ∀ H2, Ex H H2 → s1 D σ H2) (q2 : b = false → ∀ H2, Ex H H2 → s2 D σ H2) : tIfS t s1 s2 D σ H := by
  refine EvT_now h fun H2 e => ?_
  cases b with
  | true =>
    show s1 D σ H2
    exact q1 rfl H2 e
  | false =>
    show s2 D σ H2
    exact q2 rfl H2 e
/-- a for over a source; Pv: turn, frame, heap -/
theorem r_for {wi : TI} {g : TG} {tb : TS} (h : ES wi σ H ds) (hz : ∀ H2, Ex H H2 → ∃ Pv : Nat → L2.St → Hp → Prop, Pv 0 σ H2 ∧ (∀ i σ' H', Pv i σ' H' → Ex H2 H') ∧
      (∀ i d x σ' H3 H4, ds[i]? = some d → Pv i σ' H3 → Ex H3 H4 → Dn H4 x d → g x σ' H4 fun σ2 H5 => tb { D with nx := Pv (i + 1), ct := Pv (i + 1), bk := D.nx } σ2 H5) ∧ ∀ σ' H', Pv ds.length σ' H' → D.nx σ' H') : tFor wi g tb D σ H := by
  refine h H (Ex.refl H) _ fun J H2 k S => ?_
  obtain ⟨Pv, p0, pe, ps, pd⟩ := hz H2 k
  exact for_src S (tb := tb) Pv p0 pe (fun i d x σ' H3 H4 hd p e dn => ps i d x σ' H3 H4 hd p e dn) pd
/-- .. whose objects change: only tuples stand -/
theorem r_forT {wi : TI} {g : TG} {tb : TS} (h : ET wi σ H ds) (hz : ∀ H2, Ex H H2 → ∃ Pv : Nat → L2.St → Hp → Prop, Pv 0 σ H2 ∧ (∀ i σ' H', Pv i σ' H' → Gw.Tx H2 H') ∧
      (∀ i d x σ' H3 H4, ds[i]? = some d → Pv i σ' H3 → Ex H3 H4 → Dn H4 x d → g x σ' H4 fun σ2 H5 => tb { D with nx := Pv (i + 1), ct := Pv (i + 1), bk := D.nx } σ2 H5) ∧ ∀ σ' H', Pv ds.length σ' H' → D.nx σ' H') : tFor wi g tb D σ H := by
  refine h H (Ex.refl H) _ fun J H2 k S => ?_
  obtain ⟨Pv, p0, pe, ps, pd⟩ := hz H2 k
  exact for_src S (tb := tb) Pv p0 pe (fun i d x σ' H3 H4 hd p e dn => ps i d x σ' H3 H4 hd p e dn) pd

theorem r_seqD {i : Nat} (h : ED te σ H d) (q : ∀ v H2, Ex H H2 → Dn H2 v d → s2 D (σ.set i (some v)) H2) : tSeq (tAsg te (gName i)) s2 D σ H := h.now q
theorem r_seqL {i : Nat} (h : EL te σ H ds) (q : ∀ p vs H2, H p = none → Ex H H2 → H2 p = some (.lst vs) → DnL H2 vs ds → s2 D (σ.set i (some (.ref p))) H2) : tSeq (tAsg te (gName i)) s2 D σ H := h.now q
/-- if .. : return, then the rest -/
theorem r_seqIf (h : EvT t σ H b) (q1 : b = true → ∀ H2, Ex H H2 → s1 { D with nx := s2 D } σ H2) (q2 : b = false → ∀ H2, Ex H H2 → s2 D σ H2) : tSeq (tIfS t s1 tNext) s2 D σ H := r_if h q1 q2
theorem cutD_from {n : Nat} : cutD ds (some (n : Int)) none = ds.drop n := by
  unfold cutD
  rw [HT.sIx_nat, HT.sIx_none]
  by_cases h : n ≤ ds.length
  · rw [Nat.min_eq_left h]
    exact List.take_of_length_le (by rw [List.length_drop]; omega)
  · rw [Nat.min_eq_right (by omega), List.drop_length, List.drop_of_length_le (by omega)]
    simp
theorem cutD_to {n : Nat} : cutD ds none (some (n : Int)) = ds.take n := by
  unfold cutD
  rw [HT.sIx_nat, HT.sIx_none, List.drop_zero, Nat.sub_zero]
  by_cases h : n ≤ ds.length
  · rw [Nat.min_eq_left h]
  · rw [Nat.min_eq_right (by omega), List.take_of_length_le (Nat.le_refl _), List.take_of_length_le (by omega)]
theorem eo_int (h : ED te σ H (.int i)) : EvO (tPart te) σ H (some i) := fun H1 a Q q => h H1 a _ fun v H2 k1 k2 => ⟨i, k2.int_inv, q H2 k1⟩
/-! ### a list that stands -/
theorem ed_ixL {a : Addr} {ws : List V} (h : Ev ta σ H (.ref a)) (hs : H a = some (.lst ws)) (hd : DnL H ws ds) (k : ED tb σ H (.int i)) (g : atI ds i = some d) : ED (tOp (rIxL K) ta tb) σ H d := fun H1 a' Q q =>
  h H1 a' _ fun H2 k1 => k H2 (a'.trans k1) _ fun w H3 l1 l2 => by
    rw [l2.int_inv]
    have e3 := (a'.trans k1).trans l1
    have hl := hd.length
    obtain ⟨j, g1, g2⟩ : ∃ j, ixN ds.length i = some j ∧ ds[j]? = some d := by
      unfold atI at g
      cases hj : ixN ds.length i with
      | none => rw [hj] at g; cases g
      | some j => rw [hj] at g; exact ⟨j, rfl, g⟩
    obtain ⟨z, z1, z2⟩ := hd.get g2
    refine ⟨a, ws, i, z, rfl, rfl, SqL.of (e3 _ _ hs), ?_, q z H3 (k1.trans l1) (z2.ex e3)⟩
    unfold atI
    rw [hl, g1]
    exact z1
theorem ed_lenAt {a : Addr} {ws : List V} (h : Ev ta σ H (.ref a)) (hs : H a = some (.lst ws)) (hd : DnL H ws ds) : ED (tCB (rLenS K) (tCons ta tNil)) σ H (.int (ds.length : Int)) := fun H1 a' Q q =>
  h H1 a' _ fun H2 k1 => ⟨a, ws, rfl, .inl (SqL.of ((a'.trans k1) _ _ hs)), by rw [hd.length]; exact q _ H2 k1 (.int _)⟩
theorem ed_lenN {l : List Nat} (h : ED ta σ H (nT l)) : ED (tCB (rLenS K) (tCons ta tNil)) σ H (nI l.length) := (ed_lenT h).is (by rw [List.length_map])
theorem ed_neg (h : ED ta σ H (.int i)) : ED (tUn (rU fun i => .int (-i)) ta) σ H (.int (-i)) := fun H1 a Q q =>
  h H1 a _ fun v H2 k1 k2 => ⟨i, k2.int_inv, q _ H2 k1 (.int _)⟩
theorem at_last (h : ds[ds.length - 1]? = some d) : atI ds (-1) = some d := by
  have hlt : ds.length - 1 < ds.length := (List.getElem?_eq_some_iff.mp h).1
  have : ixN ds.length (-1) = some (ds.length - 1) := by
    unfold ixN
    have : ((-1 : Int) + (ds.length : Int)).toNat = ds.length - 1 := by omega
    first
      | (simp; omega)
      | (rw [if_pos (by decide)]; simp; omega)
      | (split <;> simp_all <;> omega)
  unfold atI
  rw [this]
  exact h
theorem at_nat {n : Nat} (h : ds[n]? = some d) : atI ds (n : Int) = some d := atI_of h
/-! ### sorted: pairs -/
def ELP (te : TE) (σ : L2.St) (H : Hp) (l : List (Nat × Nat)) : Prop := ∀ H1, Ex H H1 → ∀ Q : VK, (∀ (l' : List (Nat × Nat)) p vs H2, l'.Perm l → H1 p = none → Ex H1 H2 → H2 p = some (.lst vs) → DnL H2 vs (l'.map nP) → Q (.ref p) H2) → te σ H1 Q
def EDP (te : TE) (σ : L2.St) (H : Hp) (l : List (Nat × Nat)) : Prop := ∀ H1, Ex H H1 → ∀ Q : VK, (∀ (l' : List (Nat × Nat)) v H2, l'.Perm l → Ex H1 H2 → Dn H2 v (nPs l') → Q v H2) → te σ H1 Q
theorem perm_dn {H : Hp} {ys xs : List V} (hp : ys.Perm xs) : ∀ {l : List (Nat × Nat)}, DnL H xs (l.map nP) → ∃ l' : List (Nat × Nat), l'.Perm l ∧ DnL H ys (l'.map nP) := by
  induction hp with
  | nil => intro l h; exact ⟨l, .refl _, h⟩
  | @cons x ys xs _ ih =>
    intro l h
    cases l with
    | nil => exact absurd h.nil_inv (by simp)
    | cons p l =>
      obtain ⟨v, ws, e, h1, h2⟩ := h.cons_inv
      cases e
      obtain ⟨l', a, b⟩ := ih h2
      exact ⟨p :: l', a.cons p, .cons h1 b⟩
  | swap x y xs =>
    intro l h
    match l, h with
    | [], h => exact absurd h.nil_inv (by simp)
    | [p], h =>
      obtain ⟨v, ws, e, h1, h2⟩ := h.cons_inv
      cases e
      exact absurd h2.nil_inv (by simp)
    | p :: q :: l, h =>
      obtain ⟨v, ws, e, h1, h2⟩ := h.cons_inv
      cases e
      obtain ⟨v2, ws2, e2, h3, h4⟩ := h2.cons_inv
      cases e2
      exact ⟨q :: p :: l, .swap _ _ _, .cons h3 (.cons h1 h4)⟩
  | trans _ _ ih1 ih2 =>
    intro l h
    obtain ⟨l1, a, b⟩ := ih2 h
    obtain ⟨l2, c, d⟩ := ih1 b
    exact ⟨l2, c.trans a, d⟩
theorem elp_sort {l : List (Nat × Nat)} (h : EL ta σ H (l.map nP)) : ELP (tCB (rSortedPO K) (tCons ta tNil)) σ H l := fun H1 a Q q =>
  h H1 a _ fun r xs H2 k0 k1 k2 k3 => by
    refine ⟨r, xs, fun x => match x with | .ref t => (match H2 t with | some (.tup [.int i, .int j]) => (i, j) | _ => (0, 0)) | _ => (0, 0), rfl, SqL.of k2, fun x hx => ?_, fun ys p _ hs hp => ?_⟩
    · obtain ⟨i, hi⟩ := List.mem_iff_getElem?.mp hx
      obtain ⟨d, e1, e2⟩ := k3.get' hi
      rw [List.getElem?_map] at e1
      cases hl : l[i]? with
      | none => rw [hl] at e1; cases e1
      | some pq =>
        rw [hl] at e1
        cases e1
        obtain ⟨t, zs, f1, f2, f3⟩ := e2.tup_inv
        have := dnl_ints_inv (ns := [(pq.1 : Int), (pq.2 : Int)]) f3
        subst this f1
        refine ⟨t, rfl, ?_⟩
        have f2' : H2 t = some (.tup [.int (pq.1 : Int), .int (pq.2 : Int)]) := f2
        simp only [f2']
    · obtain ⟨l', a1, a2⟩ := perm_dn hs.perm k3
      exact q l' p ys _ a1 (fresh_back k1 hp) (k1.trans (Ex.new hp)) upd_same (a2.ex (Ex.new hp))
theorem edp_tuple {l : List (Nat × Nat)} (h : ELP ta σ H l) : EDP (tCB (rTupS K) (tCons ta tNil)) σ H l := fun H1 a Q q =>
  h H1 a _ fun l' p xs H2 k9 k0 k1 k2 k3 => ⟨p, xs, rfl, .inl ⟨SqL.of k2, fun r hr => q l' _ _ k9 (k1.trans (Ex.new hr)) (.tup upd_same (k3.ex (Ex.new hr)))⟩⟩
/-! ### arguments -/
theorem a1 (h : DnL H vs [d]) : ∃ v, vs = [v] ∧ Dn H v d := by
  obtain ⟨v, ws, e, h1, h2⟩ := h.cons_inv
  exact ⟨v, by rw [e, h2.nil_inv], h1⟩
theorem a2 (h : DnL H vs [d1, d2]) : ∃ v w, vs = [v, w] ∧ Dn H v d1 ∧ Dn H w d2 := by
  obtain ⟨v, ws, e, h1, h2⟩ := h.cons_inv
  obtain ⟨w, e2, h3⟩ := a1 h2
  exact ⟨v, w, by rw [e, e2], h1, h3⟩
theorem a3 (h : DnL H vs [d1, d2, d3]) : ∃ v w z, vs = [v, w, z] ∧ Dn H v d1 ∧ Dn H w d2 ∧ Dn H z d3 := by
  obtain ⟨v, ws, e, h1, h2⟩ := h.cons_inv
  obtain ⟨w, z, e2, h3, h4⟩ := a2 h2
  exact ⟨v, w, z, by rw [e, e2], h1, h3, h4⟩
/-! ### isinstance -/
theorem ed_isi {t c : String} {V1 : V → Prop} (h : ED ta σ H d) (ht : ∀ H2 v, Dn H2 v d → L2.TyX K H2 v (.type t)) (hk : PySem.W.kitOne K (.type t) (.type c) = some b) : ED (tCB (rIsi K) (tCons ta (tCons (tC (.ty c)) tNil))) σ H (.bool b) := fun H1 a Q q =>
  h H1 a _ fun v H2 k1 k2 => ⟨v, .ty c, .type t, .type c, b, rfl, .ty c, ht H2 v k2, hk, q _ H2 k1 (.bl b)⟩
theorem kit_self {t : String} : PySem.W.kitOne K (.type t) (.type t) = some true := by
  unfold PySem.W.kitOne
  rw [if_pos (beq_self_eq_true _)]
end
theorem ty_int {K : PySem.W.Frag} {H : Hp} {v : V} {i : Int} (h : Dn H v (.int i)) : L2.TyX K H v (.type "int") := by
  rw [h.int_inv]
  exact .base (.int i)
theorem ty_str {K : PySem.W.Frag} {H : Hp} {v : V} {x : Str} (h : Dn H v (.str x)) : L2.TyX K H v (.type "str") := by
  rw [h.str_inv]
  exact .base (.str x)
theorem ty_tup {K : PySem.W.Frag} {H : Hp} {v : V} {ds : List PyData} (h : Dn H v (.tuple ds)) : L2.TyX K H v (.type "tuple") := by
  obtain ⟨a, xs, e, h1, _⟩ := h.tup_inv
  rw [e]
  exact .base (.tup h1)
/-- what stands in the written part -/
structure Txt (K : PySem.W.Frag) (mg : Str → Option Value) : Prop where
  nb : Nb mg
  ki : ∃ kd, mg "KINDS" = some (.ref kd) ∧ ∀ H, SqT K H kd [.str "way", .str "ring"]
end Gw
/-! The program's text by places. -/
namespace Gx
open PySem L2 Evl Gw
def top (i : Nat) : Stmt := PySem.Challenge.pw_givesifgets_k27_whole_every_beginning.main.body.getD i (.Pass ⟨0, 0, 0, 0⟩)
abbrev s_is_integer : Stmt := top 5
abbrev s_is_number : Stmt := top 6
abbrev s_is_index : Stmt := top 7
abbrev s_is_row_of : Stmt := top 8
abbrev s_is_word_of : Stmt := top 9
abbrev s_served : Stmt := top 11
abbrev s_partner : Stmt := top 12
abbrev s_steps_of : Stmt := top 15
abbrev s_are_people : Stmt := top 16
abbrev s_is_turn : Stmt := top 17
abbrev s_turned : Stmt := top 18
abbrev s_neighbours : Stmt := top 20
abbrev s_near_of : Stmt := top 22
abbrev s_S_init : Stmt := inClass (top 23) 0
abbrev s_S_run : Stmt := inClass (top 23) 1
abbrev s_S_meeting : Stmt := inClass (top 23) 2
abbrev s_S_shrink : Stmt := inClass (top 23) 3
abbrev s_S_way : Stmt := inClass (top 23) 4
abbrev s_S_reached : Stmt := inClass (top 23) 5
abbrev s_told_search : Stmt := top 25
abbrev s_served_more : Stmt := top 26
abbrev s_kept_of : Stmt := top 27
abbrev s_kept_lot : Stmt := top 29
abbrev s_places : Stmt := top 30
abbrev s_beginnings : Stmt := top 32
abbrev s_l_draw : Stmt := top 34
abbrev s_l_any : Stmt := top 35
abbrev s_l_mixed : Stmt := top 37
abbrev s_l_web : Stmt := top 38
abbrev s_l_served : Stmt := top 39
abbrev s_l_all_plans : Stmt := top 40
abbrev s_l_servable : Stmt := top 41
abbrev s_l_kept : Stmt := top 42
abbrev s_l_order : Stmt := top 43
abbrev s_l_counts : Stmt := top 44
abbrev s_law : Stmt := top 45
abbrev N_is_integer : List Str := ["value"]
theorem sc_is_integer : FnScope N_is_integer ["value"] (defScope s_is_integer) := ⟨rfl, rfl, rfl, by decide +kernel, rfl, by decide +kernel, by decide +kernel⟩
abbrev N_is_number : List Str := ["value"]
theorem sc_is_number : FnScope N_is_number ["value"] (defScope s_is_number) := ⟨rfl, rfl, rfl, by decide +kernel, rfl, by decide +kernel, by decide +kernel⟩
abbrev N_is_index : List Str := ["value", "many"]
theorem sc_is_index : FnScope N_is_index ["value", "many"] (defScope s_is_index) := ⟨rfl, rfl, rfl, by decide +kernel, rfl, by decide +kernel, by decide +kernel⟩
abbrev N_is_row_of : List Str := ["value", "sizes"]
theorem sc_is_row_of : FnScope N_is_row_of ["value", "sizes"] (defScope s_is_row_of) := ⟨rfl, rfl, rfl, by decide +kernel, rfl, by decide +kernel, by decide +kernel⟩
abbrev N_is_word_of : List Str := ["value", "words"]
theorem sc_is_word_of : FnScope N_is_word_of ["value", "words"] (defScope s_is_word_of) := ⟨rfl, rfl, rfl, by decide +kernel, rfl, by decide +kernel, by decide +kernel⟩
abbrev N_served : List Str := ["plan", "pair", "person"]
theorem sc_served : FnScope N_served ["plan"] (defScope s_served) := ⟨rfl, rfl, rfl, by decide +kernel, rfl, by decide +kernel, by decide +kernel⟩
abbrev N_partner : List Str := ["plan", "person", "one", "other"]
theorem sc_partner : FnScope N_partner ["plan", "person"] (defScope s_partner) := ⟨rfl, rfl, rfl, by decide +kernel, rfl, by decide +kernel, by decide +kernel⟩
abbrev N_steps_of : List Str := ["turn", "people", "later", "pair"]
theorem sc_steps_of : FnScope N_steps_of ["turn"] (defScope s_steps_of) := ⟨rfl, rfl, rfl, by decide +kernel, rfl, by decide +kernel, by decide +kernel⟩
abbrev N_are_people : List Str := ["web", "value", "least", "one"]
theorem sc_are_people : FnScope N_are_people ["web", "value", "least"] (defScope s_are_people) := ⟨rfl, rfl, rfl, by decide +kernel, rfl, by decide +kernel, by decide +kernel⟩
abbrev N_is_turn : List Str := ["web", "plan", "value", "steps", "told", "known", "step", "at"]
theorem sc_is_turn : FnScope N_is_turn ["web", "plan", "value"] (defScope s_is_turn) := ⟨rfl, rfl, rfl, by decide +kernel, rfl, by decide +kernel, by decide +kernel⟩
abbrev N_turned : List Str := ["web", "plan", "turn", "steps", "pair", "step"]
theorem sc_turned : FnScope N_turned ["web", "plan", "turn"] (defScope s_turned) := ⟨rfl, rfl, rfl, by decide +kernel, rfl, by decide +kernel, by decide +kernel⟩
abbrev N_neighbours : List Str := ["web", "person", "one", "other"]
theorem sc_neighbours : FnScope N_neighbours ["web", "person"] (defScope s_neighbours) := ⟨rfl, rfl, rfl, by decide +kernel, rfl, by decide +kernel, by decide +kernel⟩
abbrev N_near_of : List Str := ["web", "person"]
theorem sc_near_of : FnScope N_near_of ["web"] (defScope s_near_of) := ⟨rfl, rfl, rfl, by decide +kernel, rfl, by decide +kernel, by decide +kernel⟩
abbrev N_S_init : List Str := ["self", "near", "plan", "root", "one", "other", "person"]
theorem sc_S_init : FnScope N_S_init ["self", "near", "plan", "root"] (defScope s_S_init) := ⟨rfl, rfl, rfl, by decide +kernel, rfl, by decide +kernel, by decide +kernel⟩
abbrev N_S_run : List Str := ["self", "is_growing", "at", "one", "other"]
theorem sc_S_run : FnScope N_S_run ["self", "is_growing"] (defScope s_S_run) := ⟨rfl, rfl, rfl, by decide +kernel, rfl, by decide +kernel, by decide +kernel⟩
abbrev N_S_meeting : List Str := ["self", "one", "other", "met", "found"]
theorem sc_S_meeting : FnScope N_S_meeting ["self", "one", "other"] (defScope s_S_meeting) := ⟨rfl, rfl, rfl, by decide +kernel, rfl, by decide +kernel, by decide +kernel⟩
abbrev N_S_shrink : List Str := ["self", "one", "other", "top", "within", "person", "behind", "mate"]
theorem sc_S_shrink : FnScope N_S_shrink ["self", "one", "other"] (defScope s_S_shrink) := ⟨rfl, rfl, rfl, by decide +kernel, rfl, by decide +kernel, by decide +kernel⟩
abbrev N_S_way : List Str := ["self", "person", "found", "mate"]
theorem sc_S_way : FnScope N_S_way ["self", "person"] (defScope s_S_way) := ⟨rfl, rfl, rfl, by decide +kernel, rfl, by decide +kernel, by decide +kernel⟩
abbrev N_S_reached : List Str := ["self", "person", "told"]
theorem sc_S_reached : FnScope N_S_reached ["self"] (defScope s_S_reached) := ⟨rfl, rfl, rfl, by decide +kernel, rfl, by decide +kernel, by decide +kernel⟩
abbrev N_told_search : List Str := ["near", "plan", "person", "search"]
theorem sc_told_search : FnScope N_told_search ["near", "plan", "person"] (defScope s_told_search) := ⟨rfl, rfl, rfl, by decide +kernel, rfl, by decide +kernel, by decide +kernel⟩
abbrev N_served_more : List Str := ["web", "near", "plan", "lot", "person", "search", "last", "other"]
theorem sc_served_more : FnScope N_served_more ["web", "near", "plan", "lot", "person"] (defScope s_served_more) := ⟨rfl, rfl, rfl, by decide +kernel, rfl, by decide +kernel, by decide +kernel⟩
abbrev N_kept_of : List Str := ["web", "lot", "near", "plan", "kept", "person", "more"]
theorem sc_kept_of : FnScope N_kept_of ["web", "lot"] (defScope s_kept_of) := ⟨rfl, rfl, rfl, by decide +kernel, rfl, by decide +kernel, by decide +kernel⟩
abbrev N_kept_lot : List Str := ["web", "order"]
theorem sc_kept_lot : FnScope N_kept_lot ["web", "order"] (defScope s_kept_lot) := ⟨rfl, rfl, rfl, by decide +kernel, rfl, by decide +kernel, by decide +kernel⟩
abbrev N_places : List Str := ["order", "lot", "at", "person"]
theorem sc_places : FnScope N_places ["order", "lot"] (defScope s_places) := ⟨rfl, rfl, rfl, by decide +kernel, rfl, by decide +kernel, by decide +kernel⟩
abbrev N_beginnings : List Str := ["web", "order", "lot", "many", "one"]
theorem sc_beginnings : FnScope N_beginnings ["web", "order"] (defScope s_beginnings) := ⟨rfl, rfl, rfl, by decide +kernel, rfl, by decide +kernel, by decide +kernel⟩
abbrev N_l_draw : List Str := ["_law_script", "_law_salt", "_law_cells", "_law_blend", "_law_cell"]
theorem sc_l_draw : FnScope N_l_draw ["_law_script", "_law_salt"] (defScope s_l_draw) := ⟨rfl, rfl, rfl, by decide +kernel, rfl, by decide +kernel, by decide +kernel⟩
abbrev N_l_any : List Str := ["_law_deal", "_law_bound", "_law_rest"]
theorem sc_l_any : FnScope N_l_any ["_law_deal", "_law_bound"] (defScope s_l_any) := ⟨rfl, rfl, rfl, by decide +kernel, rfl, by decide +kernel, by decide +kernel⟩
abbrev N_l_mixed : List Str := ["_law_deal", "_law_some", "_law_left", "_law_found"]
theorem sc_l_mixed : FnScope N_l_mixed ["_law_deal", "_law_some"] (defScope s_l_mixed) := ⟨rfl, rfl, rfl, by decide +kernel, rfl, by decide +kernel, by decide +kernel⟩
abbrev N_l_web : List Str := ["_law_deal", "_law_most", "_law_n", "_law_form", "_law_names", "_law_pairs", "_law_high", "_law_low", "_law_near"]
theorem sc_l_web : FnScope N_l_web ["_law_deal", "_law_most"] (defScope s_l_web) := ⟨rfl, rfl, rfl, by decide +kernel, rfl, by decide +kernel, by decide +kernel⟩
abbrev N_l_served : List Str := ["_law_plan", "_law_found", "_law_pair"]
theorem sc_l_served : FnScope N_l_served ["_law_plan"] (defScope s_l_served) := ⟨rfl, rfl, rfl, by decide +kernel, rfl, by decide +kernel, by decide +kernel⟩
abbrev N_l_all_plans : List Str := ["_law_web_here", "_law_found", "_law_pair", "_law_more", "_law_plan", "_law_one"]
theorem sc_l_all_plans : FnScope N_l_all_plans ["_law_web_here"] (defScope s_l_all_plans) := ⟨rfl, rfl, rfl, by decide +kernel, rfl, by decide +kernel, by decide +kernel⟩
abbrev N_l_servable : List Str := ["_law_web_here", "_law_found", "_law_plan", "_law_met", "_law_left", "_law_lot", "_law_at", "_law_less"]
theorem sc_l_servable : FnScope N_l_servable ["_law_web_here"] (defScope s_l_servable) := ⟨rfl, rfl, rfl, by decide +kernel, rfl, by decide +kernel, by decide +kernel⟩
abbrev N_l_kept : List Str := ["_law_servable_here", "_law_order_here", "_law_found", "_law_person", "_law_more"]
theorem sc_l_kept : FnScope N_l_kept ["_law_servable_here", "_law_order_here"] (defScope s_l_kept) := ⟨rfl, rfl, rfl, by decide +kernel, rfl, by decide +kernel, by decide +kernel⟩
abbrev N_l_order : List Str := ["_law_deal", "_law_web_here"]
theorem sc_l_order : FnScope N_l_order ["_law_deal", "_law_web_here"] (defScope s_l_order) := ⟨rfl, rfl, rfl, by decide +kernel, rfl, by decide +kernel, by decide +kernel⟩
abbrev N_l_counts : List Str := ["_law_order_here", "_law_lot", "_law_found", "_law_person"]
theorem sc_l_counts : FnScope N_l_counts ["_law_order_here", "_law_lot"] (defScope s_l_counts) := ⟨rfl, rfl, rfl, by decide +kernel, rfl, by decide +kernel, by decide +kernel⟩
abbrev N_law : List Str := ["_law_script", "_law_deal", "_law_turn", "_law_web_here", "_law_servable_here", "_law_again", "_law_order_here", "_law_most", "_law_lot", "_law_kept_here", "_law_own", "_law_counts_here", "_law_here", "_law_one", "_law_other", "_law_at", "_law_first", "_law_second"]
theorem sc_law : FnScope N_law ["_law_script"] (defScope s_law) := ⟨rfl, rfl, rfl, by decide +kernel, rfl, by decide +kernel, by decide +kernel⟩
end Gx
namespace Gx
open PySem L2 Evl Gw
section
variable {P : Program} {w : World} {K : PySem.W.Frag} {mg : Str → Option Value} {base : Heap}
def pIsInt (ds : List PyData) (d : PyData) : Prop := ∃ i, ds = [.int i] ∧ d = .bool true
theorem ok_is_integer (T : Txt K mg) (D : Df K mg "is_integer" s_is_integer ["value"]) : C8.Cal P w K mg base 1 "is_integer" (SpD pIsInt) [] := by
  refine D.cal sc_is_integer (spd_len fun ds d h => by obtain ⟨i, rfl, _⟩ := h; rfl) (fun f cdv A outer s H vs Q E hr h => ?_)
  obtain ⟨ds, d, hds, hp, q⟩ := h
  obtain ⟨i, rfl, rfl⟩ := hp
  obtain ⟨v, rfl, hv⟩ := a1 hds
  · have nd := sc_is_integer.nd
    refine ⟨_, (pss_one (ps_ret (pe_and (pe_callB (r := rIsi K) call_isi (by rfl) T.nb.isinstance bt_isi (pa_cons (pv 0) (pa_cons (pe_bltn (v := .ty "int") (by rfl) T.nb.int bt_int rfl) pa_nil))) (pe_one (pe_not (pe_callB (r := rIsi K) call_isi (by rfl) T.nb.isinstance bt_isi (pa_cons (pv 0) (pa_cons (pe_bltn (v := .ty "bool") (by rfl) T.nb.bool bt_bool rfl) pa_nil)))))))), ?_⟩
    have e0 : ED (tVar 0) (start N_is_integer [v]) H (.int i) := ed_var rfl hv
    exact r_ret (ed_and (ed_isi (V1 := fun _ => True) e0 (fun _ _ => ty_int) kit_self) fun _ => ed_not (ed_isi (V1 := fun _ => True) e0 (fun _ _ => ty_int) (b := false) (L2.kit_ty (by decide +kernel)))) fun v H2 k1 k2 => q v H2 k1 k2
def pIsNum (ds : List PyData) (d : PyData) : Prop := ∃ i : Int, ds = [.int i] ∧ d = .bool (decide (0 ≤ i))
theorem ok_is_number (T : Txt K mg) (D : Df K mg "is_number" s_is_number ["value"]) (C_is_integer : C8.Cal P w K mg base 1 "is_integer" (SpD pIsInt) []) : C8.Cal P w K mg base 2 "is_number" (SpD pIsNum) [] := by
  refine D.cal sc_is_number (spd_len fun ds d h => by obtain ⟨i, rfl, _⟩ := h; rfl) (fun f cdv A outer s H vs Q E hr h => ?_)
  obtain ⟨ds, d, hds, hp, q⟩ := h
  obtain ⟨i, rfl, rfl⟩ := hp
  obtain ⟨v, rfl, hv⟩ := a1 hds
  · have nd := sc_is_number.nd
    refine ⟨_, (pss_one (ps_ret (pe_and (C8.pe_c C_is_integer hr (by decide) (by rfl) (pa_cons (pv 0) pa_nil)) (pe_one (pe_cmpR op_ge (pv 0) pe_int (nomark _)))))), ?_⟩
    have e0 : ED (tVar 0) (start N_is_number [v]) H (.int i) := ed_var rfl hv
    exact r_ret (ed_and (ed_call (eda_cons e0 eda_nil) ⟨i, rfl, rfl⟩) fun _ => ed_ge e0 ed_int) fun v H2 k1 k2 => q v H2 k1 k2
def pIsIdx (ds : List PyData) (d : PyData) : Prop := ∃ i n : Int, ds = [.int i, .int n] ∧ d = .bool (decide (0 ≤ i) && decide (i < n))
theorem ok_is_index (T : Txt K mg) (D : Df K mg "is_index" s_is_index ["value", "many"]) (C_is_number : C8.Cal P w K mg base 2 "is_number" (SpD pIsNum) []) : C8.Cal P w K mg base 3 "is_index" (SpD pIsIdx) [] := by
  refine D.cal sc_is_index (spd_len fun ds d h => by obtain ⟨i, n, rfl, _⟩ := h; rfl) (fun f cdv A outer s H vs Q E hr h => ?_)
  obtain ⟨ds, d, hds, hp, q⟩ := h
  obtain ⟨i, n, rfl, rfl⟩ := hp
  obtain ⟨v, w', rfl, hv, hw⟩ := a2 hds
  · have nd := sc_is_index.nd
    refine ⟨_, (pss_one (ps_ret (pe_and (C8.pe_c C_is_number hr (by decide) (by rfl) (pa_cons (pv 0) pa_nil)) (pe_one (pe_cmpR op_lt (pv 0) (pv 1) (nomark _)))))), ?_⟩
    have e0 : ED (tVar 0) (start N_is_index [v, w']) H (.int i) := ed_var rfl hv
    have e1 : ED (tVar 1) (start N_is_index [v, w']) H (.int n) := ed_var rfl hw
    exact r_ret (ed_and (ed_call (eda_cons e0 eda_nil) ⟨i, rfl, rfl⟩) fun _ => ed_lt e0 e1) fun v H2 k1 k2 => q v H2 k1 k2
def pIsRow (ds : List PyData) (d : PyData) : Prop := ∃ es ns, ds = [.tuple es, nT ns] ∧ d = .bool (decide (es.length ∈ ns))
theorem ok_is_row_of (T : Txt K mg) (D : Df K mg "is_row_of" s_is_row_of ["value", "sizes"]) : C8.Cal P w K mg base 1 "is_row_of" (SpD pIsRow) [] := by
  refine D.cal sc_is_row_of (spd_len fun ds d h => by obtain ⟨i, n, rfl, _⟩ := h; rfl) (fun f cdv A outer s H vs Q E hr h => ?_)
  obtain ⟨ds, d, hds, hp, q⟩ := h
  obtain ⟨es, ns, rfl, rfl⟩ := hp
  obtain ⟨v, w', rfl, hv, hw⟩ := a2 hds
  · have nd := sc_is_row_of.nd
    refine ⟨_, (pss_one (ps_ret (pe_and (pe_callB (r := rIsi K) call_isi (by rfl) T.nb.isinstance bt_isi (pa_cons (pv 0) (pa_cons (pe_bltn (v := .ty "tuple") (by rfl) T.nb.tuple bt_tuple rfl) pa_nil))) (pe_one (pe_cmpR (r := rIn K false) op_in_seq (pe_callB (r := rLenS K) call_len_seq (by rfl) T.nb.len bt_len (pa_cons (pv 0) pa_nil)) (pv 1) rfl))))), ?_⟩
    have e0 : ED (tVar 0) (start N_is_row_of [v, w']) H (.tuple es) := ed_var rfl hv
    have e1 : ED (tVar 1) (start N_is_row_of [v, w']) H (nT ns) := ed_var rfl hw
    exact r_ret ((ed_and (ed_isi (V1 := fun _ => True) e0 (fun _ _ => ty_tup) kit_self) fun _ => ed_inN (ed_lenT e0) e1).is (by rw [Bool.true_and])) fun v H2 k1 k2 => q v H2 k1 k2
/-- words: a tuple of texts that stands in the written part -/
def spWord (K : PySem.W.Frag) : Sp := fun vs H Q _ => ∃ (x : Str) (a : Addr) (ws : List Str), vs = [.str x, .ref a] ∧ SqT K H a (ws.map V.str) ∧ ∀ H', Ex H H' → Q (.bl (inV (.str x) (ws.map V.str))) H'
theorem flat_strs {ws : List Str} : (ws.map V.str).all flatV = true := by
  rw [List.all_eq_true]
  intro x hx
  obtain ⟨n, _, e⟩ := List.mem_map.mp hx
  rw [← e]
  rfl
theorem ok_is_word_of (T : Txt K mg) (D : Df K mg "is_word_of" s_is_word_of ["value", "words"]) : C8.Cal P w K mg base 1 "is_word_of" (spWord K) [] := by
  refine D.cal sc_is_word_of (fun vs H Q E h => by obtain ⟨x, a, ws, rfl, _⟩ := h; rfl) (fun f cdv A outer s H vs Q E hr h => ?_)
  obtain ⟨x, a, ws, rfl, hs, q⟩ := h
  · have nd := sc_is_word_of.nd
    refine ⟨_, (pss_one (ps_ret (pe_and (pe_callB (r := rIsi K) call_isi (by rfl) T.nb.isinstance bt_isi (pa_cons (pv 0) (pa_cons (pe_bltn (v := .ty "str") (by rfl) T.nb.str bt_str rfl) pa_nil))) (pe_one (pe_cmpR (r := rIn K false) op_in_seq (pv 0) (pv 1) rfl))))), ?_⟩
    have e0 : ED (tVar 0) (start N_is_word_of [.str x, .ref a]) H (.str x) := ed_var rfl (.str x)
    refine r_ret (ed_and (c := inV (.str x) (ws.map V.str)) (ed_isi (V1 := fun _ => True) e0 (fun _ _ => ty_str) kit_self) fun _ => ed_evBl (ev_op (y := .ref a) e0.ev_str (ev_var rfl) (rv_isT hs rfl flat_strs))) fun v H2 k1 k2 => ?_
    rw [k2.bl_inv, Bool.true_and]
    exact q H2 k1
end
end Gx
namespace Gx
open PySem L2 Evl Gw
section
variable {P : Program} {w : World} {K : PySem.W.Frag} {mg : Str → Option Value} {base : Heap}
/-! ### served -/
def kn (ps : List (Nat × Nat)) : List Nat := srt (Gv.flat ps)
def pServed (ds : List PyData) (d : PyData) : Prop := ∃ ps, ps.length ≤ 2000 ∧ ds = [nPs ps] ∧ d = nT (kn ps)
theorem flat_map (ps : List (Nat × Nat)) : Gv.flat ps = ps.flatMap fun p => [p.1, p.2] := rfl
theorem flat_len (ps : List (Nat × Nat)) : (ps.flatMap fun p => [p.1, p.2]).length = 2 * ps.length := by
  induction ps with
  | nil => rfl
  | cons a l ih => rw [List.flatMap_cons, List.length_append, ih, List.length_cons]; simp; omega
theorem ok_served (T : Txt K mg) (D : Df K mg "served" s_served ["plan"]) : C8.Cal P w K mg base 1 "served" (SpD pServed) [] := by
  refine D.cal sc_served (spd_len fun ds d h => by obtain ⟨i, _, rfl, _⟩ := h; rfl) (fun f cdv A outer s H vs Q E hr h => ?_)
  obtain ⟨ds, d, hds, hp, q⟩ := h
  obtain ⟨ps, hl, rfl, rfl⟩ := hp
  obtain ⟨v, rfl, hv⟩ := a1 hds
  · have nd := sc_served.nd
    refine ⟨_, (pss_one (ps_ret (pe_callTy (r := rTupS K) call_tuple_of (by rfl) T.nb.tuple bt_tuple (pa_cons (pe_callB (r := rSortedI K) cr_sortedI (by rfl) T.nb.sorted bt_sorted (pa_cons (pe_lc2 (own := [("pair", 1), ("person", 2)]) (vs1 := [2]) (wi1 := iTup K (tVar 1)) (g := (gName 1)) (tt := tYes) (g1 := (gName 2)) (tt1 := tYes) rfl nd (pi_tup (pv 0)) (blkOk_by (own := [("pair", 1), ("person", 2)]) (N := N_served) (sc := (defScope s_served)) (by decide +kernel)) (by decide) (fun _ _ _ _ _ => (pg_name (i := 1) nd rfl (by first | exact .inl rfl | exact .inr rfl))) (fun _ _ _ _ _ => pts_nil) (fun _ _ _ _ _ => (pi_tup (pv 1))) (fun _ _ _ _ _ => (pg_name (i := 2) nd rfl (by first | exact .inl rfl | exact .inr rfl))) (fun _ _ _ _ _ => pts_nil) (fun _ _ _ _ _ => (pv 2))) pa_nil)) pa_nil)))), ?_⟩
    have e0 : ED (tVar 0) (start N_served [v]) H (nPs ps) := ed_var rfl hv
    refine r_ret (d := nT (kn ps)) (ed_tupleL (el_sortL (l := Gv.flat ps) (el_lc2 (enc := nP) (encB := nI) (xs := ps) (fs := fun p => [p.1, p.2]) (f := nI) (et_tup e0).s (by rw [flat_len]; omega) fun p hp x H' k dx => ?_))) fun v H2 k1 k2 => q v H2 k1 k2
    refine ⟨_, fun Q q => g_name Q q, rfl, et_tup (ed_var rfl dx), fun b hb y H2 k2 t2 dy => ⟨_, fun Q q => g_name Q q, rfl, ed_var rfl dy⟩⟩
/-! ### partner -/
def pnr : List (Nat × Nat) → Nat → Option Nat
  | [], _ => none
  | p :: r, x => if x = p.1 ∨ x = p.2 then some (if x = p.1 then p.2 else p.1) else pnr r x
def oI : Option Nat → PyData
  | none => .none
  | some n => nI n
def pPartner (ds : List PyData) (d : PyData) : Prop := ∃ ps x, ds = [nPs ps, nI x] ∧ d = oI (pnr ps x)
theorem ok_partner (T : Txt K mg) (D : Df K mg "partner" s_partner ["plan", "person"]) : C8.Cal P w K mg base 1 "partner" (SpD pPartner) [] := by
  refine D.cal sc_partner (spd_len fun ds d h => by obtain ⟨i, _, rfl, _⟩ := h; rfl) (fun f cdv A outer s H vs Q E hr h => ?_)
  obtain ⟨ds, d, hds, hp, q⟩ := h
  obtain ⟨ps, x, rfl, rfl⟩ := hp
  obtain ⟨v, w', rfl, hv, hw⟩ := a2 hds
  · have nd := sc_partner.nd
    refine ⟨_, (pss_cons (ps_for PassesOwn.never rfl (pi_tup (pv 0)) (pg_tup rfl (pgs_cons (pg_name (i := 2) nd rfl (by first | exact .inl rfl | exact .inr rfl)) (pgs_cons (pg_name (i := 3) nd rfl (by first | exact .inl rfl | exact .inr rfl)) pgs_nil))) (pss_one (ps_if (pt_cmpR (r := rIn K false) op_in_seq (pv 1) (pe_tup (pa_cons (pv 2) (pa_cons (pv 3) pa_nil))) rfl) (pss_one (ps_ret (pe_ifExp (pt_cmpR op_eq (pv 1) (pv 2) (nomark _)) (pv 3) (pv 2)))) pss_nil)))
      (pss_one (ps_ret pe_non))), ?_⟩
    have e0 : ED (tVar 0) (start N_partner [v, w']) H (nPs ps) := ed_var rfl hv
    refine r_seq (r_for (et_tup e0).s fun H2 k2 => ⟨fun i σ' H' => Ex H2 H' ∧ (∃ o1 o2, σ' = [some v, some w', o1, o2]) ∧ pnr ps x = pnr (ps.drop i) x, ⟨Ex.refl _, ⟨none, none, rfl⟩, rfl⟩, fun i σ' H' h => h.1, ?_, ?_⟩)
    · rintro i d y σ' H3 H4 hd ⟨k3, ⟨o1, o2, rfl⟩, hpn⟩ k4 dy
      rw [List.getElem?_map] at hd
      cases hi : ps[i]? with
      | none => rw [hi] at hd; cases hd
      | some p =>
        rw [hi] at hd
        cases hd
        obtain ⟨v1, v2, dv1, dv2, g⟩ := g_pair (K := K) (i := 2) (j := 3) (σ := [some v, some w', o1, o2]) dy
        refine g _ ?_
        have kx := (k2.trans k3).trans k4
        have e1 : ED (tVar 1) [some v, some w', some v1, some v2] H4 (nI x) := ed_var rfl (hw.ex kx)
        have e2 : ED (tVar 2) [some v, some w', some v1, some v2] H4 (nI p.1) := ed_var rfl dv1
        have e3 : ED (tVar 3) [some v, some w', some v1, some v2] H4 (nI p.2) := ed_var rfl dv2
        have hdr : ps.drop i = p :: ps.drop (i + 1) := by
          obtain ⟨h1, h2⟩ := List.getElem?_eq_some_iff.mp hi
          rw [← h2]
          exact List.drop_eq_getElem_cons h1
        rw [hdr] at hpn
        refine r_if (et_ed (ed_inN (l := [p.1, p.2]) e1 (ed_tup (eda_cons e2 (eda_cons e3 eda_nil)) (show 2 ≤ 100000 by decide)))) (fun hb H5 k5 => ?_) (fun hb H5 k5 => ?_)
        · have hb : x ∈ [p.1, p.2] := of_decide_eq_true hb
          refine r_ret (d := oI (pnr ps x)) ?_ fun v H6 k6 dv => q v H6 ((kx.trans k5).trans k6) dv
          have : pnr ps x = some (if x = p.1 then p.2 else p.1) := by
            rw [hpn]
            exact if_pos (by simpa using hb)
          rw [this]
          exact ed_if (d := nI (if x = p.1 then p.2 else p.1)) (et_ed (ed_eqN (e1.mono k5) (e2.mono k5))) (fun hc => (e3.mono k5).is (by rw [if_pos (of_decide_eq_true hc)])) fun hc => (e2.mono k5).is (by rw [if_neg (of_decide_eq_false hc)])
        · refine ⟨((k3.trans k4).trans k5), ⟨_, _, rfl⟩, ?_⟩
          have hb : ¬ x ∈ [p.1, p.2] := of_decide_eq_false hb
          rw [hpn]
          exact if_neg (by simpa using hb)
    · rintro σ' H' ⟨k3, ⟨o1, o2, rfl⟩, hpn⟩
      have e : pnr ps x = none := by
        rw [hpn, List.length_map, List.drop_length]
        rfl
      rw [e] at q
      exact q .non H' (k2.trans k3) .non
/-! ### steps_of -/
def way : Str := "way"
abbrev nWay (l : List Nat) : PyData := .tuple [.str way, nT l]
theorem stp_zip : ∀ l : List Nat, (l.zip (l.drop 1)).map (fun p => Gv.nrm p.1 p.2) = Gv.stp l
  | [] => rfl
  | [_] => rfl
  | u :: a :: r => by
    have := stp_zip (a :: r)
    show Gv.nrm u a :: ((a :: r).zip ((a :: r).drop 1)).map (fun p => Gv.nrm p.1 p.2) = _
    rw [this]
    rfl
theorem stp_len : ∀ l : List Nat, (Gv.stp l).length = l.length - 1
  | [] => rfl
  | [_] => rfl
  | u :: a :: r => by
    have := stp_len (a :: r)
    show (Gv.stp (a :: r)).length + 1 = _
    rw [this]
    simp
theorem zip_nats (l m : List Nat) : zipD (l.map nI) (m.map nI) = (l.zip m).map nP := by
  unfold zipD
  rw [List.zip_map, List.map_map]
  rfl
def pSteps (ds : List PyData) (es : List PyData) : Prop := ∃ l, l.length ≤ 1000 ∧ ds = [nWay l] ∧ es = (Gv.stp l).map nP
theorem ok_steps_of (T : Txt K mg) (D : Df K mg "steps_of" s_steps_of ["turn"]) : C8.Cal P w K mg base 1 "steps_of" (SpL pSteps) [] := by
  refine D.cal sc_steps_of (spl_len fun ds d h => by obtain ⟨i, _, rfl, _⟩ := h; rfl) (fun f cdv A outer s H vs Q E hr h => ?_)
  obtain ⟨ds, d, hds, hp, q⟩ := h
  obtain ⟨l, hl, rfl, rfl⟩ := hp
  obtain ⟨v, rfl, hv⟩ := a1 hds
  · have nd := sc_steps_of.nd
    refine ⟨_, (pss_cons (ps_set (i := 1) nd rfl (by first | exact .inl rfl | exact .inr rfl) (pe_ix (r := rIxT K) ix_tup (pv 0) pe_int (fun _ _ => rfl)))
      (pss_cons (ps_set (i := 2) nd rfl (by first | exact .inl rfl | exact .inr rfl) (pe_op (r := rCatA K) op_catA (pe_slice (r := rSlA K) sl_tupA (pv 1) (po_some pe_int) po_none) (pe_ifExp (pt_cmpR op_eq (pe_ix (r := rIxT K) ix_tup (pv 0) pe_int (fun _ _ => rfl)) pe_str (nomark _)) (pe_slice (r := rSlA K) sl_tupA (pv 1) po_none (po_some pe_int)) (pe_tup pa_nil))))
      (pss_one (ps_ret (pe_lc (own := [("pair", 3)]) (g := (gName 3)) (tt := tYes) rfl nd (pi_zipN (by rfl) T.nb.zip (pa_cons (pv 1) (pa_cons (pv 2) pa_nil))) (blkOk_by (own := [("pair", 3)]) (N := N_steps_of) (sc := (defScope s_steps_of)) (by decide +kernel)) (fun _ _ _ _ _ => (pg_name (i := 3) nd rfl (by first | exact .inl rfl | exact .inr rfl))) (fun _ _ _ _ _ => pts_nil) (fun _ _ _ _ _ => (pe_tup (pa_cons (pe_callB (cr_min2T rfl (units64 hr)) (by rfl) T.nb.min bt_min (pa_cons (pv 3) pa_nil)) (pa_cons (pe_callB (cr_max2T rfl (units64 hr)) (by rfl) T.nb.max bt_max (pa_cons (pv 3) pa_nil)) pa_nil))))))))), ?_⟩
    have e0 : ED (tVar 0) (start N_steps_of [v]) H (nWay l) := ed_var rfl hv
    refine r_seqD (d := nT l) (ed_ixT e0 ed_int rfl) fun v1 H1 k1 d1 => ?_
    have f0 : ED (tVar 0) [some v, some v1, none, none] H1 (nWay l) := ed_var rfl (hv.ex k1)
    have f1 : ED (tVar 1) [some v, some v1, none, none] H1 (nT l) := ed_var rfl d1
    refine r_seqD (d := nT (l.drop 1)) ?_ fun v2 H2 k2 d2 => ?_
    · have c1 := ed_slT (K := K) f1 (eo_int (i := ((1 : Nat) : Int)) ed_int) eo_none
      rw [cutD_from] at c1
      refine (ed_catT (es := []) c1 (ed_if (b := false) (et_ed ((ed_eqS (x := way) (y := "ring") (ed_ixT f0 ed_int rfl) ed_str).is ?_)) (fun z => nomatch z) fun _ => ed_tup eda_nil (by decide)) ?_).is ?_
      · exact congrArg PyData.bool (by decide +kernel)
      · simp; omega
      · rw [List.append_nil, ← List.map_drop]
    have g1 : ED (tVar 1) [some v, some v1, some v2, none] H2 (nT l) := ed_var rfl (d1.ex k2)
    have g2 : ED (tVar 2) [some v, some v1, some v2, none] H2 (nT (l.drop 1)) := ed_var rfl d2
    have z := et_zipN (K := K) g1 g2
    rw [zip_nats] at z
    refine r_retL ((el_lcAll (xs := l.zip (l.drop 1)) (f := fun p => nP (Gv.nrm p.1 p.2)) z.s ?_ fun p hp x H' k dx => ⟨_, fun Q q => g_name Q q, rfl, ?_⟩).is ?_) fun p ws H3 k0 k3 h3 d3 => q p ws H3 (fresh_back (k1.trans k2) k0) ((k1.trans k2).trans k3) h3 d3
    · rw [List.length_zip]; omega
    · have ex : ED (tVar 3) [some v, some v1, some v2, some x] H' (nP p) := ed_var rfl dx
      exact ed_pair (ed_min2 ex) (ed_max2 ex)
    · rw [← stp_zip, List.map_map]
      rfl
end
end Gx
namespace Gx
open PySem L2 Evl Gw
section
variable {P : Program} {w : World} {K : PySem.W.Frag} {mg : Str → Option Value} {base : Heap}
/-! ### are_people -/
def pPeople (ds : List PyData) (d : PyData) : Prop := ∃ n E l k, ds = [nW n E, nT l, nI k] ∧ l.Nodup ∧ (∀ x ∈ l, x < n) ∧ k ≤ l.length ∧ l.length ≤ 1000 ∧ d = .bool true
theorem ok_are_people (T : Txt K mg) (D : Df K mg "are_people" s_are_people ["web", "value", "least"]) (C_is_index : C8.Cal P w K mg base 3 "is_index" (SpD pIsIdx) []) : C8.Cal P w K mg base 4 "are_people" (SpD pPeople) [] := by
  refine D.cal sc_are_people (spd_len fun ds d h => by obtain ⟨n, E, l, k, rfl, _⟩ := h; rfl) (fun f cdv A outer s H vs Q E hr h => ?_)
  obtain ⟨ds, d, hds, hp, q⟩ := h
  obtain ⟨n, ed, l, k, rfl, hnd, hlt, hk, hz, rfl⟩ := hp
  obtain ⟨v, w', z, rfl, hv, hw, hzv⟩ := a3 hds
  · have nd := sc_are_people.nd
    refine ⟨_, (pss_cons (ps_if ((pw_or (pt_not (pt_val (pe_callB (r := rIsi K) call_isi (by rfl) T.nb.isinstance bt_isi (pa_cons (pv 1) (pa_cons (pe_bltn (v := .ty "tuple") (by rfl) T.nb.tuple bt_tuple rfl) pa_nil))))) (pw_or (pt_cmpR op_lt (pe_callB (r := rLenS K) call_len_seq (by rfl) T.nb.len bt_len (pa_cons (pv 1) pa_nil)) (pv 2) (nomark _)) (pw_or1 (pt_not (pt_val (pe_callB (r := rAll K) (cr_all rfl) (by rfl) T.nb.all bt_all (pa_cons (pe_lc (own := [("one", 3)]) (g := (gName 3)) (tt := tYes) rfl nd (pi_tup (pv 1)) (blkOk_by (own := [("one", 3)]) (N := N_are_people) (sc := (defScope s_are_people)) (by decide +kernel)) (fun _ _ _ _ _ => (pg_name (i := 3) nd rfl (by first | exact .inl rfl | exact .inr rfl))) (fun _ _ _ _ _ => pts_nil) (fun _ _ _ _ _ => (C8.pe_c C_is_index hr (by decide) (by rfl) (pa_cons (pv 3) (pa_cons (pe_ix (r := rIxT K) ix_tup (pv 0) pe_int (fun _ _ => rfl)) pa_nil))))) pa_nil))))))).pt) (pss_one (ps_ret pe_bl)) pss_nil)
      (pss_one (ps_ret (pe_cmpR op_eq (pe_lenSetT (by rfl) T.nb.len (by rfl) T.nb.set (pv 1)) (pe_callB (r := rLenS K) call_len_seq (by rfl) T.nb.len bt_len (pa_cons (pv 1) pa_nil)) (nomark _))))), ?_⟩
    have e0 : ED (tVar 0) (start N_are_people [v, w', z]) H (nW n ed) := ed_var rfl hv
    have e1 : ED (tVar 1) (start N_are_people [v, w', z]) H (nT l) := ed_var rfl hw
    have e2 : ED (tVar 2) (start N_are_people [v, w', z]) H (nI k) := ed_var rfl hzv
    refine r_seqIf (b := false) (et_is (et_or (a := false) (b := false) (et_is (et_not (a := true) (et_edB (ed_isi (V1 := fun _ => True) e1 (fun _ _ => ty_tup) kit_self))) rfl) fun _ =>
      et_is (et_or (a := false) (b := false) (et_ed ((ed_lt (ed_lenT e1) e2).is ?_)) fun _ => et_is (et_not (a := true) (et_edB ((ed_all (bs := l.map fun x => decide (x < n)) ?_).is ?_))) rfl) rfl) rfl) (fun hb => nomatch hb) fun _ H2 k2 => ?_
    · refine congrArg PyData.bool (decide_eq_false ?_)
      rw [List.length_map]
      omega
    · refine (el_lcAll (xs := l) (enc := nI) (f := fun x => PyData.bool (decide (x < n))) (et_tup e1).s (by omega) fun a ha x H' kx dx => ⟨_, fun Q q => g_name Q q, rfl, ?_⟩).is (by rw [List.map_map] <;> rfl)
      have g0 : ED (tVar 0) [some v, some w', some z, some x] H' (nW n ed) := ed_var rfl (hv.ex kx)
      have g3 : ED (tVar 3) [some v, some w', some z, some x] H' (nI a) := ed_var rfl dx
      exact (ed_call (eda_cons g3 (eda_cons (ed_ixT (d := nI n) g0 ed_int rfl) eda_nil)) ⟨a, n, rfl, rfl⟩).is (congrArg PyData.bool (by
        have : (0 : Int) ≤ (a : Int) := by omega
        simp [this]))
    · refine congrArg PyData.bool ?_
      rw [List.all_eq_true]
      intro b hb
      obtain ⟨x, hx, e⟩ := List.mem_map.mp hb
      rw [← e]
      exact decide_eq_true (hlt x hx)
    have f1 := e1.mono k2
    refine r_ret ((ed_eqN (ed_lenSet f1 hnd hz) (ed_lenN f1)).is ?_) fun v H3 k3 dv => q v H3 (k2.trans k3) dv
    exact congrArg PyData.bool (decide_eq_true rfl)
/-! ### is_turn, for ways that are fit -/
structure TurnOk (n : Nat) (E ps : List (Nat × Nat)) (l : List Nat) : Prop where
  len : 2 ≤ l.length
  nd : l.Nodup
  lt : ∀ x ∈ l, x < n
  edge : ∀ s ∈ Gv.stp l, s ∈ E
  alt : ∀ i, i + 1 < (Gv.stp l).length → decide ((Gv.stp l).getD i (0, 0) ∈ ps) ≠ decide ((Gv.stp l).getD (i + 1) (0, 0) ∈ ps)
  fst : (Gv.stp l).getD 0 (0, 0) ∈ ps ∨ l.getD 0 0 ∉ Gv.flat ps
  lst : (Gv.stp l).getD ((Gv.stp l).length - 1) (0, 0) ∈ ps ∨ l.getD (l.length - 1) 0 ∉ Gv.flat ps
def pTurn (ds : List PyData) (d : PyData) : Prop := ∃ n E ps l, ds = [nW n E, nPs ps, nWay l] ∧ TurnOk n E ps l ∧ l.length ≤ 1000 ∧ ps.length ≤ 2000 ∧ d = .bool true
theorem mem_kn {ps : List (Nat × Nat)} {x : Nat} : x ∈ kn ps ↔ x ∈ Gv.flat ps := (srt_perm _).mem_iff
theorem getD_map {α β : Type} (f : α → β) (l : List α) {i : Nat} (d : α) (h : i < l.length) : (l.map f)[i]? = some (f (l.getD i d)) := by
  rw [List.getElem?_map, List.getElem?_eq_getElem h, List.getD_eq_getElem?_getD, List.getElem?_eq_getElem h]
  rfl
theorem ok_is_turn (T : Txt K mg) (D : Df K mg "is_turn" s_is_turn ["web", "plan", "value"]) (C_is_row_of : C8.Cal P w K mg base 1 "is_row_of" (SpD pIsRow) []) (C_is_word_of : C8.Cal P w K mg base 1 "is_word_of" (spWord K) [])
    (C_are_people : C8.Cal P w K mg base 4 "are_people" (SpD pPeople) []) (C_steps_of : C8.Cal P w K mg base 1 "steps_of" (SpL pSteps) []) (C_served : C8.Cal P w K mg base 1 "served" (SpD pServed) []) : C8.Cal P w K mg base 5 "is_turn" (SpD pTurn) [] := by
  obtain ⟨kd, hkd, hks⟩ := T.ki
  refine D.cal sc_is_turn (spd_len fun ds d h => by obtain ⟨n, E, l, k, rfl, _⟩ := h; rfl) (fun f cdv A outer s H vs Q E hr h => ?_)
  obtain ⟨ds, d, hds, hp, q⟩ := h
  obtain ⟨n, ed, ps, l, rfl, ok, hz, hz2, rfl⟩ := hp
  obtain ⟨v, w', z, rfl, hv, hw, hzv⟩ := a3 hds
  · have nd := sc_is_turn.nd
    refine ⟨_, (pss_cons (ps_if ((pw_or (pt_not (pt_val (C8.pe_c C_is_row_of hr (by decide) (by rfl) (pa_cons (pv 2) (pa_cons (pe_tup (pa_cons pe_int pa_nil)) pa_nil))))) (pw_or1 (pt_not (pt_val (C8.pe_c C_is_word_of hr (by decide) (by rfl) (pa_cons (pe_ix (r := rIxT K) ix_tup (pv 2) pe_int (fun _ _ => rfl)) (pa_cons (pe_glob (v := .ref kd) (by rfl) hkd rfl) pa_nil))))))).pt) (pss_one (ps_ret pe_bl)) pss_nil)
      (pss_cons (ps_if (pt_not (pt_val (C8.pe_c C_are_people hr (by decide) (by rfl) (pa_cons (pv 0) (pa_cons (pe_ix (r := rIxT K) ix_tup (pv 2) pe_int (fun _ _ => rfl)) (pa_cons (pe_ifExp (pt_cmpR op_eq (pe_ix (r := rIxT K) ix_tup (pv 2) pe_int (fun _ _ => rfl)) pe_str (nomark _)) pe_int pe_int) pa_nil)))))) (pss_one (ps_ret pe_bl)) pss_nil)
      (pss_cons (ps_set (i := 3) nd rfl (by first | exact .inl rfl | exact .inr rfl) (C8.pe_c C_steps_of hr (by decide) (by rfl) (pa_cons (pv 2) pa_nil)))
      (pss_cons (ps_set (i := 4) nd rfl (by first | exact .inl rfl | exact .inr rfl) (pe_lc (own := [("step", 6)]) (g := (gName 6)) (tt := tYes) rfl nd (pi_list (pv 3)) (blkOk_by (own := [("step", 6)]) (N := N_is_turn) (sc := (defScope s_is_turn)) (by decide +kernel)) (fun _ _ _ _ _ => (pg_name (i := 6) nd rfl (by first | exact .inl rfl | exact .inr rfl))) (fun _ _ _ _ _ => pts_nil) (fun _ _ _ _ _ => (pe_cmpR (r := rInT K false) (op_inT (units64 hr)) (pv 6) (pv 1) rfl))))
      (pss_cons (ps_if ((pw_or (pt_not (pt_val (pe_callB (r := rAll K) (cr_all rfl) (by rfl) T.nb.all bt_all (pa_cons (pe_lc (own := [("step", 6)]) (g := (gName 6)) (tt := tYes) rfl nd (pi_list (pv 3)) (blkOk_by (own := [("step", 6)]) (N := N_is_turn) (sc := (defScope s_is_turn)) (by decide +kernel)) (fun _ _ _ _ _ => (pg_name (i := 6) nd rfl (by first | exact .inl rfl | exact .inr rfl))) (fun _ _ _ _ _ => pts_nil) (fun _ _ _ _ _ => (pe_cmpR (r := rInT K false) (op_inT (units64 hr)) (pv 6) (pe_ix (r := rIxT K) ix_tup (pv 0) pe_int (fun _ _ => rfl)) rfl))) pa_nil)))) (pw_or1 (pt_val (pe_callB (r := rAny K) (cr_any rfl) (by rfl) T.nb.any bt_any (pa_cons (pe_lc (own := [("at", 7)]) (g := (gName 7)) (tt := tYes) rfl nd (pi_range1 (by rfl) T.nb.range (pa_cons (pe_op op_sub (pe_callB (r := rLenS K) call_len_seq (by rfl) T.nb.len bt_len (pa_cons (pv 4) pa_nil)) pe_int) pa_nil)) (blkOk_by (own := [("at", 7)]) (N := N_is_turn) (sc := (defScope s_is_turn)) (by decide +kernel)) (fun _ _ _ _ _ => (pg_name (i := 7) nd rfl (by first | exact .inl rfl | exact .inr rfl))) (fun _ _ _ _ _ => pts_nil) (fun _ _ _ _ _ => (pe_cmpR op_eq (pe_ix (r := rIxL K) ix_list (pv 4) (pv 7) (fun _ _ => rfl)) (pe_ix (r := rIxL K) ix_list (pv 4) (pe_op op_add (pv 7) pe_int) (fun _ _ => rfl)) (nomark _)))) pa_nil))))).pt) (pss_one (ps_ret pe_bl)) pss_nil)
      (pss_cons (ps_if (pt_cmpR op_eq (pe_ix (r := rIxT K) ix_tup (pv 2) pe_int (fun _ _ => rfl)) pe_str (nomark _)) (pss_one (ps_ret (pe_cmpR op_ne (pe_ix (r := rIxL K) ix_list (pv 4) pe_int (fun _ _ => rfl)) (pe_ix (r := rIxL K) ix_list (pv 4) (pe_un un_neg pe_int) (fun _ _ => rfl)) (nomark _)))) pss_nil)
      (pss_cons (ps_set (i := 5) nd rfl (by first | exact .inl rfl | exact .inr rfl) (C8.pe_c C_served hr (by decide) (by rfl) (pa_cons (pv 1) pa_nil)))
      (pss_one (ps_ret (pe_and (pe_or (pe_ix (r := rIxL K) ix_list (pv 4) pe_int (fun _ _ => rfl)) (pe_one (pe_cmpR (r := rIn K true) op_notIn_seq (pe_ix (r := rIxT K) ix_tup (pe_ix (r := rIxT K) ix_tup (pv 2) pe_int (fun _ _ => rfl)) pe_int (fun _ _ => rfl)) (pv 5) rfl))) (pe_one (pe_or (pe_ix (r := rIxL K) ix_list (pv 4) (pe_un un_neg pe_int) (fun _ _ => rfl)) (pe_one (pe_cmpR (r := rIn K true) op_notIn_seq (pe_ix (r := rIxT K) ix_tup (pe_ix (r := rIxT K) ix_tup (pv 2) pe_int (fun _ _ => rfl)) (pe_un un_neg pe_int) (fun _ _ => rfl)) (pv 5) rfl)))))))))))))), ?_⟩
    have e0 : ED (tVar 0) (start N_is_turn [v, w', z]) H (nW n ed) := ed_var rfl hv
    have e1 : ED (tVar 1) (start N_is_turn [v, w', z]) H (nPs ps) := ed_var rfl hw
    have e2 : ED (tVar 2) (start N_is_turn [v, w', z]) H (nWay l) := ed_var rfl hzv
    have hsl := stp_len l
    have hlen := ok.len
    -- the form
    refine r_seqIf (b := false) (et_is (et_or (a := false) (b := false) (et_is (et_not (a := true) (et_edB ((ed_call (eda_cons e2 (eda_cons (ed_tup (ds := [nI 2]) (eda_cons ed_int eda_nil) (show 1 ≤ 100000 by decide)) eda_nil)) ⟨_, [2], rfl, rfl⟩).is rfl))) rfl) fun _ =>
      et_is (et_not (a := true) (et_edB ?_)) rfl) rfl) (fun hb => nomatch hb) fun _ H2 k2 => ?_
    · have z1 : ED (tOp (rIxT K) (tVar 2) (tC (.int 0))) (start N_is_turn [v, w', z]) H (.str way) := ed_ixT e2 ed_int rfl
      intro H1 a Q q
      refine z1 H1 a _ fun v1 H2 k1 d1 => ?_
      rw [d1.str_inv]
      refine ⟨way, kd, [way, "ring"], rfl, hks H2, fun H3 k3 => ?_⟩
      have : inV (.str way) ([way, "ring"].map V.str) = true := by decide +kernel
      rw [this]
      exact q _ H3 (k1.trans k3) (.bl true)
    have f0 := e0.mono k2
    have f1 := e1.mono k2
    have f2 := e2.mono k2
    -- the people
    refine r_seqIf (b := false) (et_is (et_not (a := true) (et_edB (ed_call (eda_cons f0 (eda_cons (ed_ixT (d := nT l) f2 ed_int rfl) (eda_cons (ed_if (b := true) (d := nI 2) (et_ed ((ed_eqS (x := way) (y := "way") (ed_ixT f2 ed_int rfl) ed_str).is (congrArg PyData.bool (decide_eq_true rfl)))) (fun _ => ed_int) (fun hb => nomatch hb)) eda_nil)))
      ⟨n, ed, l, 2, rfl, ok.nd, ok.lt, ok.len, hz, rfl⟩))) rfl) (fun hb => nomatch hb) fun _ H3 k3 => ?_
    have g0 := f0.mono k3
    have g1 := f1.mono k3
    have g2 := f2.mono k3
    -- steps
    refine r_seqL (el_call (eda_cons g2 eda_nil) ⟨l, hz, rfl, rfl⟩) fun p4 ws4 H4 n4 k4 h4 d4 => ?_
    have k04 := (k2.trans k3).trans k4
    -- told
    refine r_seqL ((el_lcAll (xs := Gv.stp l) (enc := nP) (f := fun s => PyData.bool (decide (s ∈ ps))) (es_listAt (a := p4) (ev_var rfl) h4 d4) (by omega) fun a ha x H' kx dx => ⟨_, fun Q q => g_name Q q, rfl, ?_⟩).is (es := ((Gv.stp l).map fun s => decide (s ∈ ps)).map PyData.bool) (by rw [List.map_map] <;> rfl)) fun p5 ws5 H5 n5 k5 h5 d5 => ?_
    · exact ed_inP (p := a) (ps := ps) (ed_var rfl dx) (ed_var rfl (hw.ex (k04.trans kx)))
    have k05 := k04.trans k5
    have h45 := k5 _ _ h4
    have d45 := d4.ex k5
    have u0 : ED (tVar 0) [some v, some w', some z, some (V.ref p4), some (V.ref p5), none, none, none] H5 (nW n ed) := ed_var rfl (hv.ex k05)
    have u1 : ED (tVar 1) [some v, some w', some z, some (V.ref p4), some (V.ref p5), none, none, none] H5 (nPs ps) := ed_var rfl (hw.ex k05)
    have u2 : ED (tVar 2) [some v, some w', some z, some (V.ref p4), some (V.ref p5), none, none, none] H5 (nWay l) := ed_var rfl (hzv.ex k05)
    -- all steps stand in the web, no two alike beside each other
    refine r_seqIf (b := false) (et_is (et_or (a := false) (b := false) (et_is (et_not (a := true) (et_edB ((ed_all (bs := (Gv.stp l).map fun s => decide (s ∈ ed)) ?_).is ?_))) rfl) fun _ => et_edB ((ed_any (bs := (List.range ((Gv.stp l).length - 1)).map fun _ => false) ?_).is ?_)) rfl) (fun hb => nomatch hb) fun _ H6 k6 => ?_
    · refine (el_lcAll (xs := Gv.stp l) (enc := nP) (f := fun s => PyData.bool (decide (s ∈ ed))) (es_listAt (a := p4) (ev_var rfl) h45 d45) (by omega) fun a ha x H' kx dx => ⟨_, fun Q q => g_name Q q, rfl, ?_⟩).is (by rw [List.map_map] <;> rfl)
      have t0 : ED (tVar 0) [some v, some w', some z, some (V.ref p4), some (V.ref p5), none, some x, none] H' (nW n ed) := ed_var rfl (hv.ex (k05.trans kx))
      exact ed_inP (p := a) (ps := ed) (ed_var rfl dx) (ed_ixT t0 ed_int rfl)
    · refine congrArg PyData.bool ?_
      rw [List.all_eq_true]
      intro b hb
      obtain ⟨s, hs, e⟩ := List.mem_map.mp hb
      rw [← e]
      exact decide_eq_true (ok.edge s hs)
    · have t5 : ED (tCB (rLenS K) (tCons (tVar 4) tNil)) [some v, some w', some z, some (V.ref p4), some (V.ref p5), none, none, none] H5 (nI (Gv.stp l).length) := (ed_lenAt (ev_var rfl) h5 d5).is (by rw [List.length_map, List.length_map])
      have t6 := (ed_sub t5 (ed_int (i := 1))).is (e := nI ((Gv.stp l).length - 1)) (congrArg PyData.int (by omega))
      refine (el_lcAll (xs := List.range ((Gv.stp l).length - 1)) (enc := nI) (f := fun _ => PyData.bool false) (et_range1 t6 (by omega)).s (by rw [List.length_range]; omega) fun a ha x H' kx dx => ⟨_, fun Q q => g_name Q q, rfl, ?_⟩).is (by rw [List.map_map] <;> rfl)
      have ha := List.mem_range.mp ha
      have h5' := kx _ _ h5
      have d5' := d5.ex kx
      have t7 : ED (tVar 7) [some v, some w', some z, some (V.ref p4), some (V.ref p5), none, none, some x] H' (nI a) := ed_var rfl dx
      have b1 : (((Gv.stp l).map fun s => decide (s ∈ ps)).map PyData.bool)[a]? = some (.bool (decide ((Gv.stp l).getD a (0, 0) ∈ ps))) := by
        rw [List.map_map]
        exact getD_map _ _ _ (by omega)
      have b2 : (((Gv.stp l).map fun s => decide (s ∈ ps)).map PyData.bool)[a + 1]? = some (.bool (decide ((Gv.stp l).getD (a + 1) (0, 0) ∈ ps))) := by
        rw [List.map_map]
        exact getD_map _ _ _ (by omega)
      have t8 := (ed_add t7 (ed_int (i := 1))).is (e := nI (a + 1)) rfl
      refine (ed_eqB (ed_ixL (ev_var rfl) h5' d5' t7 (at_nat b1)) (ed_ixL (ev_var rfl) h5' d5' t8 (at_nat b2))).is (congrArg PyData.bool (decide_eq_false ?_))
      exact ok.alt a (by omega)
    · refine congrArg PyData.bool ?_
      rw [List.any_eq_false]
      intro b hb
      obtain ⟨s, hs, e⟩ := List.mem_map.mp hb
      rw [← e]
      exact Bool.false_ne_true
    -- no ring
    refine r_seqIf (b := false) (et_ed ((ed_eqS (x := way) (y := "ring") (ed_ixT (u2.mono k6) ed_int rfl) ed_str).is (congrArg PyData.bool (by decide +kernel)))) (fun hb => nomatch hb) fun _ H7 k7 => ?_
    -- known
    refine r_seqD (ed_call (eda_cons ((u1.mono k6).mono k7) eda_nil) ⟨ps, hz2, rfl, rfl⟩) fun v8 H8 k8 d8 => ?_
    have k58 := (k6.trans k7).trans k8
    have h8 := k58 _ _ h5
    have d58 := d5.ex k58
    have y2 : ED (tVar 2) [some v, some w', some z, some (V.ref p4), some (V.ref p5), some v8, none, none] H8 (nWay l) := ed_var rfl (hzv.ex (k05.trans k58))
    have y5 : ED (tVar 5) [some v, some w', some z, some (V.ref p4), some (V.ref p5), some v8, none, none] H8 (nT (kn ps)) := ed_var rfl d8
    have b0 : (((Gv.stp l).map fun s => decide (s ∈ ps)).map PyData.bool)[0]? = some (.bool (decide ((Gv.stp l).getD 0 (0, 0) ∈ ps))) := by
      rw [List.map_map]
      exact getD_map _ _ _ (by omega)
    have bl : (((Gv.stp l).map fun s => decide (s ∈ ps)).map PyData.bool)[(((Gv.stp l).map fun s => decide (s ∈ ps)).map PyData.bool).length - 1]? = some (.bool (decide ((Gv.stp l).getD ((Gv.stp l).length - 1) (0, 0) ∈ ps))) := by
      rw [List.map_map, List.length_map]
      exact getD_map _ _ _ (by omega)
    have c0 : ED (tOp (rIxT K) (tOp (rIxT K) (tVar 2) (tC (.int 1))) (tC (.int 0))) [some v, some w', some z, some (V.ref p4), some (V.ref p5), some v8, none, none] H8 (nI (l.getD 0 0)) :=
      ed_ixT (ed_ixT (d := nT l) y2 ed_int rfl) ed_int (at_nat (n := 0) (getD_map nI l 0 (by omega)))
    have cl : ED (tOp (rIxT K) (tOp (rIxT K) (tVar 2) (tC (.int 1))) (tUn (rU fun i => .int (-i)) (tC (.int 1)))) [some v, some w', some z, some (V.ref p4), some (V.ref p5), some v8, none, none] H8 (nI (l.getD (l.length - 1) 0)) :=
      ed_ixT (ed_ixT (d := nT l) y2 ed_int rfl) (ed_neg ed_int) (at_last (by rw [List.length_map]; exact getD_map nI l 0 (by omega)))
    refine r_ret ((ed_and (b := true) (c := true) ((ed_or (b := decide ((Gv.stp l).getD 0 (0, 0) ∈ ps)) (c := !decide (l.getD 0 0 ∈ kn ps)) (ed_ixL (ev_var rfl) h8 d58 ed_int (at_nat (n := 0) b0)) fun _ => ed_niN c0 y5).is (congrArg PyData.bool ?_)) fun _ =>
      (ed_or (b := decide ((Gv.stp l).getD ((Gv.stp l).length - 1) (0, 0) ∈ ps)) (c := !decide (l.getD (l.length - 1) 0 ∈ kn ps)) (ed_ixL (ev_var rfl) h8 d58 (ed_neg ed_int) (at_last bl)) fun _ => ed_niN cl y5).is (congrArg PyData.bool ?_)).is rfl) fun v9 H9 k9 d9 => q v9 H9 ((k05.trans k58).trans k9) d9
    · rcases ok.fst with h | h
      · rw [decide_eq_true h]; rfl
      · rw [decide_eq_false (fun h' => h (mem_kn.mp h'))]; simp
    · rcases ok.lst with h | h
      · rw [decide_eq_true h]; rfl
      · rw [decide_eq_false (fun h' => h (mem_kn.mp h'))]; simp
end
end Gx
namespace Gx
open PySem L2 Evl Gw
section
variable {P : Program} {w : World} {K : PySem.W.Frag} {mg : Str → Option Value} {base : Heap}
/-! ### turned -/
def newPs (ps : List (Nat × Nat)) (l : List Nat) : List (Nat × Nat) := ps.filter (fun p => !decide (p ∈ Gv.stp l)) ++ (Gv.stp l).filter (fun s => !decide (s ∈ ps))
def spTurned : Sp := fun vs H Q _ => ∃ n E ps l, DnL H vs [nW n E, nPs ps, nWay l] ∧ TurnOk n E ps l ∧ l.length ≤ 1000 ∧ ps.length ≤ 2000 ∧ ∀ v H' ps', Ex H H' → ps'.Perm (newPs ps l) → Dn H' v (nPs ps') → Q v H'
theorem ok_turned (T : Txt K mg) (D : Df K mg "turned" s_turned ["web", "plan", "turn"]) (C_is_turn : C8.Cal P w K mg base 5 "is_turn" (SpD pTurn) []) (C_steps_of : C8.Cal P w K mg base 1 "steps_of" (SpL pSteps) []) : C8.Cal P w K mg base 6 "turned" spTurned [] := by
  refine D.cal sc_turned (fun vs H Q E h => by obtain ⟨n, E, ps, l, h, _⟩ := h; rw [h.length] <;> rfl) (fun f cdv A outer s H vs Q E hr h => ?_)
  obtain ⟨n, ed, ps, l, hds, ok, hz, hz2, q⟩ := h
  obtain ⟨v, w', z, rfl, hv, hw, hzv⟩ := a3 hds
  · have nd := sc_turned.nd
    refine ⟨_, (pss_cons (ps_if (pt_not (pt_val (C8.pe_c C_is_turn hr (by decide) (by rfl) (pa_cons (pv 0) (pa_cons (pv 1) (pa_cons (pv 2) pa_nil)))))) (pss_one ps_never) pss_nil)
      (pss_cons (ps_set (i := 3) nd rfl (by first | exact .inl rfl | exact .inr rfl) (C8.pe_c C_steps_of hr (by decide) (by rfl) (pa_cons (pv 2) pa_nil)))
      (pss_one (ps_ret (pe_callTy (r := rTupS K) call_tuple_of (by rfl) T.nb.tuple bt_tuple (pa_cons (pe_callB (r := rSortedPO K) cr_sortedPO (by rfl) T.nb.sorted bt_sorted (pa_cons (pe_op op_cat (pe_lc (own := [("pair", 4)]) (g := (gName 4)) (tt := _) rfl nd (pi_tup (pv 1)) (blkOk_by (own := [("pair", 4)]) (N := N_turned) (sc := (defScope s_turned)) (by decide +kernel)) (fun _ _ _ _ _ => (pg_name (i := 4) nd rfl (by first | exact .inl rfl | exact .inr rfl))) (fun _ _ _ _ _ => (pts_one (pt_cmpR (r := rInL K true) (op_notInL (units64 hr)) (pv 4) (pv 3) rfl))) (fun _ _ _ _ _ => (pv 4))) (pe_lc (own := [("step", 5)]) (g := (gName 5)) (tt := _) rfl nd (pi_list (pv 3)) (blkOk_by (own := [("step", 5)]) (N := N_turned) (sc := (defScope s_turned)) (by decide +kernel)) (fun _ _ _ _ _ => (pg_name (i := 5) nd rfl (by first | exact .inl rfl | exact .inr rfl))) (fun _ _ _ _ _ => (pts_one (pt_cmpR (r := rInT K true) (op_notInT (units64 hr)) (pv 5) (pv 1) rfl))) (fun _ _ _ _ _ => (pv 5)))) pa_nil)) pa_nil)))))), ?_⟩
    have e0 : ED (tVar 0) (start N_turned [v, w', z]) H (nW n ed) := ed_var rfl hv
    have e1 : ED (tVar 1) (start N_turned [v, w', z]) H (nPs ps) := ed_var rfl hw
    have e2 : ED (tVar 2) (start N_turned [v, w', z]) H (nWay l) := ed_var rfl hzv
    have hsl := stp_len l
    refine r_seqIf (b := false) (et_is (et_not (a := true) (et_edB (ed_call (eda_cons e0 (eda_cons e1 (eda_cons e2 eda_nil))) ⟨n, ed, ps, l, rfl, ok, hz, hz2, rfl⟩))) rfl) (fun hb => nomatch hb) fun _ H2 k2 => ?_
    refine r_seqL (el_call (eda_cons (e2.mono k2) eda_nil) ⟨l, hz, rfl, rfl⟩) fun p3 ws3 H3 n3 k3 h3 d3 => ?_
    have k03 := k2.trans k3
    have c1 : EL (tLc (iTup K (tVar 1)) (gName 4) (tTest (tOp (rInL K true) (tVar 4) (tVar 3))) (tVar 4) [4]) [some v, some w', some z, some (V.ref p3), none, none] H3 ((ps.filter fun p => !decide (p ∈ Gv.stp l)).map nP) :=
      el_lc (enc := nP) (xs := ps) (b := fun p => !decide (p ∈ Gv.stp l)) (f := nP) (et_tup (ed_var rfl (hw.ex k03))).s (by omega) fun a ha x H' kx dx => ⟨_, fun Q q => g_name Q q, rfl, et_ed (ed_niPL (a := p3) (p := a) (ps := Gv.stp l) (ed_var rfl dx) (ev_var rfl) (kx _ _ h3) (d3.ex kx)), fun _ => ed_var rfl dx⟩
    have c2 : EL (tLc (iList K (tVar 3)) (gName 5) (tTest (tOp (rInT K true) (tVar 5) (tVar 1))) (tVar 5) [5]) [some v, some w', some z, some (V.ref p3), none, none] H3 (((Gv.stp l).filter fun s => !decide (s ∈ ps)).map nP) :=
      el_lc (enc := nP) (xs := Gv.stp l) (b := fun p => !decide (p ∈ ps)) (f := nP) (es_listAt (a := p3) (ev_var rfl) h3 d3) (by omega) fun a ha x H' kx dx => ⟨_, fun Q q => g_name Q q, rfl, et_ed (ed_niP (p := a) (ps := ps) (ed_var rfl dx) (ed_var rfl (hw.ex (k03.trans kx)))), fun _ => ed_var rfl dx⟩
    have l1 := List.length_filter_le (fun p => !decide (p ∈ Gv.stp l)) ps
    have l2 := List.length_filter_le (fun p => !decide (p ∈ ps)) (Gv.stp l)
    refine edp_tuple (l := newPs ps l) (elp_sort ((el_cat c1 c2 (by rw [List.length_map, List.length_map]; omega)).is (by unfold newPs; rw [List.map_append]))) H3 (Ex.refl _) _ fun ps' v4 H4 hp k4 d4 => q v4 H4 ps' (k03.trans k4) hp d4
/-! ### neighbours -/
def nbr (E : List (Nat × Nat)) (x : Nat) : List Nat := (E.filter fun p => decide (x ∈ [p.1, p.2])).map fun p => if p.2 = x then p.1 else p.2
def pNbr (ds : List PyData) (d : PyData) : Prop := ∃ n E x, E.length ≤ 1000 ∧ ds = [nW n E, nI x] ∧ d = nT (nbr E x)
theorem ok_neighbours (T : Txt K mg) (D : Df K mg "neighbours" s_neighbours ["web", "person"]) : C8.Cal P w K mg base 1 "neighbours" (SpD pNbr) [] := by
  refine D.cal sc_neighbours (spd_len fun ds d h => by obtain ⟨n, E, x, _, rfl, _⟩ := h; rfl) (fun f cdv A outer s H vs Q E hr h => ?_)
  obtain ⟨ds, d, hds, hp, q⟩ := h
  obtain ⟨n, ed, x, hl, rfl, rfl⟩ := hp
  obtain ⟨v, w', rfl, hv, hw⟩ := a2 hds
  · have nd := sc_neighbours.nd
    refine ⟨_, (pss_one (ps_ret (pe_callTy (r := rTupS K) call_tuple_of (by rfl) T.nb.tuple bt_tuple (pa_cons (pe_lc (own := [("one", 2), ("other", 3)]) (g := (gTup _ 2 (gCons (gName 2) (gCons (gName 3) gNil)))) (tt := _) rfl nd (pi_tup (pe_ix (r := rIxT K) ix_tup (pv 0) pe_int (fun _ _ => rfl))) (blkOk_by (own := [("one", 2), ("other", 3)]) (N := N_neighbours) (sc := (defScope s_neighbours)) (by decide +kernel)) (fun _ _ _ _ _ => (pg_tup rfl (pgs_cons (pg_name (i := 2) nd rfl (by first | exact .inl rfl | exact .inr rfl)) (pgs_cons (pg_name (i := 3) nd rfl (by first | exact .inl rfl | exact .inr rfl)) pgs_nil)))) (fun _ _ _ _ _ => (pts_one (pt_cmpR (r := rIn K false) op_in_seq (pv 1) (pe_tup (pa_cons (pv 2) (pa_cons (pv 3) pa_nil))) rfl))) (fun _ _ _ _ _ => (pe_ifExp (pt_cmpR op_eq (pv 3) (pv 1) (nomark _)) (pv 2) (pv 3)))) pa_nil)))), ?_⟩
    have e0 : ED (tVar 0) (start N_neighbours [v, w']) H (nW n ed) := ed_var rfl hv
    refine r_ret (d := nT (nbr ed x)) (ed_tupleL ((el_lc (enc := nP) (xs := ed) (b := fun p => decide (x ∈ [p.1, p.2])) (f := fun p => nI (if p.2 = x then p.1 else p.2)) (et_tup (ed_ixT (d := nPs ed) e0 ed_int rfl)).s (by omega) fun p hp y H' k dy => ?_).is ?_)) fun v H2 k1 k2 => q v H2 k1 k2
    · obtain ⟨v1, v2, dv1, dv2, g⟩ := g_pair (K := K) (i := 2) (j := 3) (σ := wipe (start N_neighbours [v, w']) [2, 3]) dy
      have u1 : ED (tVar 1) [some v, some w', some v1, some v2] H' (nI x) := ed_var rfl (hw.ex k)
      have u2 : ED (tVar 2) [some v, some w', some v1, some v2] H' (nI p.1) := ed_var rfl dv1
      have u3 : ED (tVar 3) [some v, some w', some v1, some v2] H' (nI p.2) := ed_var rfl dv2
      refine ⟨_, g, rfl, et_ed (ed_inN (l := [p.1, p.2]) u1 (ed_tup (eda_cons u2 (eda_cons u3 eda_nil)) (show 2 ≤ 100000 by decide))), fun _ => ?_⟩
      exact ed_if (et_ed (ed_eqN u3 u1)) (fun hc => u2.is (by rw [if_pos (of_decide_eq_true hc)])) fun hc => u3.is (by rw [if_neg (of_decide_eq_false hc)])
    · unfold nbr
      rw [List.map_map]
      rfl
/-! ### near_of -/
def near (n : Nat) (E : List (Nat × Nat)) : List PyData := (List.range n).map fun x => nT (nbr E x)
def pNear (ds : List PyData) (es : List PyData) : Prop := ∃ n E, n ≤ 100 ∧ E.length ≤ 1000 ∧ ds = [nW n E] ∧ es = near n E
theorem ok_near_of (T : Txt K mg) (D : Df K mg "near_of" s_near_of ["web"]) (C_neighbours : C8.Cal P w K mg base 1 "neighbours" (SpD pNbr) []) : C8.Cal P w K mg base 2 "near_of" (SpL pNear) [] := by
  refine D.cal sc_near_of (spl_len fun ds d h => by obtain ⟨n, E, _, x, rfl, _⟩ := h; rfl) (fun f cdv A outer s H vs Q E hr h => ?_)
  obtain ⟨ds, d, hds, hp, q⟩ := h
  obtain ⟨n, ed, hn, hl, rfl, rfl⟩ := hp
  obtain ⟨v, rfl, hv⟩ := a1 hds
  · have nd := sc_near_of.nd
    refine ⟨_, (pss_one (ps_ret (pe_lc (own := [("person", 1)]) (g := (gName 1)) (tt := tYes) rfl nd (pi_range1 (by rfl) T.nb.range (pa_cons (pe_ix (r := rIxT K) ix_tup (pv 0) pe_int (fun _ _ => rfl)) pa_nil)) (blkOk_by (own := [("person", 1)]) (N := N_near_of) (sc := (defScope s_near_of)) (by decide +kernel)) (fun _ _ _ _ _ => (pg_name (i := 1) nd rfl (by first | exact .inl rfl | exact .inr rfl))) (fun _ _ _ _ _ => pts_nil) (fun _ _ _ _ _ => (C8.pe_c C_neighbours hr (by decide) (by rfl) (pa_cons (pv 0) (pa_cons (pv 1) pa_nil))))))), ?_⟩
    have e0 : ED (tVar 0) (start N_near_of [v]) H (nW n ed) := ed_var rfl hv
    refine r_retL (el_lcAll (xs := List.range n) (enc := nI) (f := fun x => nT (nbr ed x)) (et_range1 (ed_ixT (d := nI n) e0 ed_int rfl) (by omega)).s (by rw [List.length_range]; omega) fun a ha x H' kx dx => ⟨_, fun Q q => g_name Q q, rfl, ?_⟩) q
    have t0 : ED (tVar 0) [some v, some x] H' (nW n ed) := ed_var rfl (hv.ex kx)
    exact ed_call (eda_cons t0 (eda_cons (ed_var (d := nI a) rfl dx) eda_nil)) ⟨n, ed, a, hl, rfl, rfl⟩
end
end Gx
/-! The search's object as it stands. -/
namespace Gx
open PySem L2 Evl Gw
structure Ad where
  p : Addr
  dx : Addr
  Nr : Addr
  M : Addr
  B : Addr
  S : Addr
  V : Addr
  L : Addr
def f1 (a : Ad) : List (Str × V) := [("near", .ref a.Nr)]
def f2 (a : Ad) (root : Nat) : List (Str × V) := [("near", .ref a.Nr), ("root", .int (root : Int))]
def f3 (a : Ad) (root : Nat) : List (Str × V) := [("near", .ref a.Nr), ("root", .int (root : Int)), ("mates", .ref a.M)]
def f4 (a : Ad) (root : Nat) : List (Str × V) := [("near", .ref a.Nr), ("root", .int (root : Int)), ("mates", .ref a.M), ("back", .ref a.B)]
def f5 (a : Ad) (root : Nat) : List (Str × V) := [("near", .ref a.Nr), ("root", .int (root : Int)), ("mates", .ref a.M), ("back", .ref a.B), ("base", .ref a.S)]
def f6 (a : Ad) (root : Nat) : List (Str × V) := [("near", .ref a.Nr), ("root", .int (root : Int)), ("mates", .ref a.M), ("back", .ref a.B), ("base", .ref a.S), ("even", .ref a.V)]
def flds (a : Ad) (root : Nat) : List (Str × V) := [("near", .ref a.Nr), ("root", .int (root : Int)), ("mates", .ref a.M), ("back", .ref a.B), ("base", .ref a.S), ("even", .ref a.V), ("left", .ref a.L)]
theorem p1 (a : Ad) : putF "near" (.ref a.Nr) [] = f1 a := rfl
theorem p2 (a : Ad) (r : Nat) : putF "root" (.int (r : Int)) (f1 a) = f2 a r := rfl
theorem p3 (a : Ad) (r : Nat) : putF "mates" (.ref a.M) (f2 a r) = f3 a r := rfl
theorem p4 (a : Ad) (r : Nat) : putF "back" (.ref a.B) (f3 a r) = f4 a r := rfl
theorem p5 (a : Ad) (r : Nat) : putF "base" (.ref a.S) (f4 a r) = f5 a r := rfl
theorem p6 (a : Ad) (r : Nat) : putF "even" (.ref a.V) (f5 a r) = f6 a r := rfl
theorem p7 (a : Ad) (r : Nat) : putF "left" (.ref a.L) (f6 a r) = flds a r := rfl
theorem l_near (a : Ad) (r : Nat) : (flds a r).lookup ("near" : Str) = some (.ref a.Nr) := rfl
theorem l_root (a : Ad) (r : Nat) : (flds a r).lookup ("root" : Str) = some (.int (r : Int)) := rfl
theorem l_mates (a : Ad) (r : Nat) : (flds a r).lookup ("mates" : Str) = some (.ref a.M) := rfl
theorem l_back (a : Ad) (r : Nat) : (flds a r).lookup ("back" : Str) = some (.ref a.B) := rfl
theorem l_base (a : Ad) (r : Nat) : (flds a r).lookup ("base" : Str) = some (.ref a.S) := rfl
theorem l_even (a : Ad) (r : Nat) : (flds a r).lookup ("even" : Str) = some (.ref a.V) := rfl
theorem l_left (a : Ad) (r : Nat) : (flds a r).lookup ("left" : Str) = some (.ref a.L) := rfl
theorem l_no (a : Ad) (r : Nat) : (flds a r).lookup ("run" : Str) = none ∧ (flds a r).lookup ("meeting" : Str) = none ∧ (flds a r).lookup ("shrink" : Str) = none ∧ (flds a r).lookup ("way" : Str) = none ∧ (flds a r).lookup ("reached" : Str) = none := ⟨rfl, rfl, rfl, rfl, rfl⟩

/-- what is asked of the class -/
structure SrT (K : PySem.W.Frag) (C : Addr) : Prop where
  cl : Cls K C
  near : NoAttr K C "near"
  root : NoAttr K C "root"
  mates : NoAttr K C "mates"
  back : NoAttr K C "back"
  base : NoAttr K C "base"
  even : NoAttr K C "even"
  left : NoAttr K C "left"
def oV : Option Nat → V
  | none => .non
  | some n => .int (n : Int)
theorem dn_oV {H : Hp} (o : Option Nat) : Dn H (oV o) (oI o) := by
  cases o with
  | none => exact .non
  | some n => exact .int _
def lV (n : Nat) (f : Nat → V) : List V := (List.range n).map f
theorem lV_set {n x : Nat} {f : Nat → V} {v : V} : (lV n f).set x v = lV n fun y => if y = x then v else f y := by
  refine List.ext_getElem? fun i => ?_
  unfold lV
  rw [List.getElem?_set, List.getElem?_map, List.getElem?_map, List.length_map, List.length_range]
  by_cases hi : i < n
  · rw [List.getElem?_range hi]
    by_cases e : x = i
    · subst e
      simp [hi]
    · rw [if_neg e]
      simp [Ne.symm e]
  · have : (List.range n)[i]? = none := List.getElem?_eq_none (by rw [List.length_range]; omega)
    rw [this]
    by_cases e : x = i
    · subst e
      simp [hi]
    · simp [e]
theorem lV_len {n : Nat} {f : Nat → V} : (lV n f).length = n := by
  unfold lV
  rw [List.length_map, List.length_range]
theorem lV_congr {n : Nat} {f g : Nat → V} (h : ∀ x, x < n → f x = g x) : lV n f = lV n g := List.map_congr_left fun x hx => h x (List.mem_range.mp hx)
theorem dn_lV {H : Hp} {n : Nat} {f : Nat → V} {g : Nat → PyData} (h : ∀ x, Dn H (f x) (g x)) : DnL H (lV n f) ((List.range n).map g) := by
  unfold lV
  generalize List.range n = l
  induction l with
  | nil => exact .nil
  | cons x l ih => exact .cons (h x) ih
theorem rg_get {α : Type} {n x : Nat} {g : Nat → α} (h : x < n) : ((List.range n).map g)[x]? = some (g x) := by
  rw [List.getElem?_map, List.getElem?_range h]
  rfl
/-- the search stands at a -/
structure At (C : Addr) (n : Nat) (ne : List PyData) (root : Nat) (mate : Nat → Option Nat) (a : Ad) (H : Hp) (s : Gv.SS) (left : List Nat) : Prop where
  ob : H a.p = some (.ins C a.dx (flds a root))
  nr : ∃ ws, H a.Nr = some (.lst ws) ∧ DnL H ws ne
  mt : H a.M = some (.lst (lV n fun x => oV (mate x)))
  bk : H a.B = some (.lst (lV n fun x => oV (s.back x)))
  bs : H a.S = some (.lst (lV n fun x => .int (s.base x : Int)))
  ev : H a.V = some (.lst (lV n fun x => .bl (s.even x)))
  lf : H a.L = some (.lst (left.map fun x : Nat => V.int (x : Int)))
  nd : [a.Nr, a.M, a.B, a.S, a.V, a.L].Nodup
section
variable {K : PySem.W.Frag} {C : Addr} {n : Nat} {ne : List PyData} {root : Nat} {mate : Nat → Option Nat} {a : Ad} {H H' : Hp} {s : Gv.SS} {left : List Nat} {σ : L2.St} {tk : TE} {x : Nat}
theorem At.ex (h : At C n ne root mate a H s left) (e : Ex H H') : At C n ne root mate a H' s left := by
  obtain ⟨ws, h1, h2⟩ := h.nr
  exact ⟨e _ _ h.ob, ⟨ws, e _ _ h1, h2.ex e⟩, e _ _ h.mt, e _ _ h.bk, e _ _ h.bs, e _ _ h.ev, e _ _ h.lf, h.nd⟩
theorem nd6 {a b c d e f : Addr} (h : [a, b, c, d, e, f].Nodup) : a ≠ b ∧ a ≠ c ∧ a ≠ d ∧ a ≠ e ∧ a ≠ f ∧ b ≠ c ∧ b ≠ d ∧ b ≠ e ∧ b ≠ f ∧ c ≠ d ∧ c ≠ e ∧ c ≠ f ∧ d ≠ e ∧ d ≠ f ∧ e ≠ f := by
  simp only [List.nodup_cons, List.mem_cons, List.not_mem_nil, or_false, not_or] at h
  grind
theorem ins_ne {p q : Addr} {C dx : Addr} {fs : List (Str × V)} {xs : List V} (h : H p = some (.ins C dx fs)) (k : H q = some (.lst xs)) : p ≠ q := fun e => by
  rw [e, k] at h
  cases h
theorem At.setB {bk : Nat → Option Nat} (h : At C n ne root mate a H s left) : At C n ne root mate a (upd H a.B (.lst (lV n fun x => oV (bk x)))) { s with back := bk } left := by
  obtain ⟨ws, h1, h2⟩ := h.nr
  obtain ⟨n1, n2, n3, n4, n5, n6, n7, n8, n9, n10, n11, n12, n13, n14, n15⟩ := nd6 h.nd
  exact ⟨by rw [upd_ne (ins_ne h.ob h.bk)]; exact h.ob, ⟨ws, by rw [upd_ne n2]; exact h1, h2.tx (Gw.Tx.mut h.bk fun _ q => nomatch q)⟩, by rw [upd_ne n6]; exact h.mt, upd_same, by rw [upd_ne n10.symm]; exact h.bs, by rw [upd_ne n11.symm]; exact h.ev, by rw [upd_ne n12.symm]; exact h.lf, h.nd⟩
theorem At.setS {bs : Nat → Nat} (h : At C n ne root mate a H s left) : At C n ne root mate a (upd H a.S (.lst (lV n fun x => .int (bs x : Int)))) { s with base := bs } left := by
  obtain ⟨ws, h1, h2⟩ := h.nr
  obtain ⟨n1, n2, n3, n4, n5, n6, n7, n8, n9, n10, n11, n12, n13, n14, n15⟩ := nd6 h.nd
  exact ⟨by rw [upd_ne (ins_ne h.ob h.bs)]; exact h.ob, ⟨ws, by rw [upd_ne n3]; exact h1, h2.tx (Gw.Tx.mut h.bs fun _ q => nomatch q)⟩, by rw [upd_ne n7]; exact h.mt, by rw [upd_ne n10]; exact h.bk, upd_same, by rw [upd_ne n13.symm]; exact h.ev, by rw [upd_ne n14.symm]; exact h.lf, h.nd⟩
theorem At.setV {ev : Nat → Bool} (h : At C n ne root mate a H s left) : At C n ne root mate a (upd H a.V (.lst (lV n fun x => .bl (ev x)))) { s with even := ev } left := by
  obtain ⟨ws, h1, h2⟩ := h.nr
  obtain ⟨n1, n2, n3, n4, n5, n6, n7, n8, n9, n10, n11, n12, n13, n14, n15⟩ := nd6 h.nd
  exact ⟨by rw [upd_ne (ins_ne h.ob h.ev)]; exact h.ob, ⟨ws, by rw [upd_ne n4]; exact h1, h2.tx (Gw.Tx.mut h.ev fun _ q => nomatch q)⟩, by rw [upd_ne n8]; exact h.mt, by rw [upd_ne n11]; exact h.bk, by rw [upd_ne n13]; exact h.bs, upd_same, by rw [upd_ne n15.symm]; exact h.lf, h.nd⟩
theorem At.setL {l' : List Nat} (h : At C n ne root mate a H s left) : At C n ne root mate a (upd H a.L (.lst (l'.map fun x : Nat => V.int (x : Int)))) s l' := by
  obtain ⟨ws, h1, h2⟩ := h.nr
  obtain ⟨n1, n2, n3, n4, n5, n6, n7, n8, n9, n10, n11, n12, n13, n14, n15⟩ := nd6 h.nd
  exact ⟨by rw [upd_ne (ins_ne h.ob h.lf)]; exact h.ob, ⟨ws, by rw [upd_ne n5]; exact h1, h2.tx (Gw.Tx.mut h.lf fun _ q => nomatch q)⟩, by rw [upd_ne n9]; exact h.mt, by rw [upd_ne n12]; exact h.bk, by rw [upd_ne n14]; exact h.bs, by rw [upd_ne n15]; exact h.ev, upd_same, h.nd⟩
/-- only these may change -/
def Kp (a : Ad) (H H' : Hp) : Prop := ∀ b o, b ≠ a.B → b ≠ a.S → b ≠ a.V → b ≠ a.L → H b = some o → H' b = some o
theorem Kp.refl : Kp a H H := fun _ _ _ _ _ _ h => h
theorem Kp.of (e : Ex H H') : Kp a H H' := fun b o _ _ _ _ h => e b o h
theorem Kp.trans {H'' : Hp} (h : Kp a H H') (k : Kp a H' H'') : Kp a H H'' := fun b o h1 h2 h3 h4 e => k b o h1 h2 h3 h4 (h b o h1 h2 h3 h4 e)
theorem Kp.uB {o : HO} : Kp a H (upd H a.B o) := fun b u h1 h2 h3 h4 e => by rw [upd_ne h1]; exact e
theorem Kp.uS {o : HO} : Kp a H (upd H a.S o) := fun b u h1 h2 h3 h4 e => by rw [upd_ne h2]; exact e
theorem Kp.uV {o : HO} : Kp a H (upd H a.V o) := fun b u h1 h2 h3 h4 e => by rw [upd_ne h3]; exact e
theorem Kp.uL {o : HO} : Kp a H (upd H a.L o) := fun b u h1 h2 h3 h4 e => by rw [upd_ne h4]; exact e
/-- tuples, and whatever is no list, stand -/
theorem Kp.tx (k : Kp a H H') (h : At C n ne root mate a H s left) : Gw.Tx H H' := fun b xs e => k b _ (fun q => by rw [q, h.bk] at e; cases e) (fun q => by rw [q, h.bs] at e; cases e) (fun q => by rw [q, h.ev] at e; cases e) (fun q => by rw [q, h.lf] at e; cases e) e
/-! reading -/
theorem ev_fld {ta : TE} {f : Str} {fs : List (Str × V)} {dx p : Addr} {v : V} (h : Ev ta σ H (.ref p)) (ha : H p = some (.ins C dx fs)) (c : Cls K C) (m : NoAttr K C f) (l : fs.lookup f = some v) : Ev (tFld K ta f) σ H v := fun H1 a Q q =>
  h H1 a _ fun H2 k => ⟨p, C, dx, fs, v, rfl, (a.trans k) _ _ ha, c, m, l, q H2 k⟩
abbrev Me (a : Ad) (σ : L2.St) : Prop := σ[0]? = some (some (V.ref a.p))
theorem At.e_base (h : At C n ne root mate a H s left) (T : SrT K C) (m : Me a σ) (k : ED tk σ H (nI x)) (hx : x < n) : ED (tOp (rIxL K) (tFld K (tVar 0) "base") tk) σ H (nI (s.base x)) :=
  ed_ixL (ev_fld (ev_var m) h.ob T.cl T.base (l_base a root)) h.bs (dn_lV fun x => .int _) k (at_nat (rg_get (g := fun x => PyData.int (s.base x : Int)) hx))
theorem At.e_even (h : At C n ne root mate a H s left) (T : SrT K C) (m : Me a σ) (k : ED tk σ H (nI x)) (hx : x < n) : ED (tOp (rIxL K) (tFld K (tVar 0) "even") tk) σ H (.bool (s.even x)) :=
  ed_ixL (ev_fld (ev_var m) h.ob T.cl T.even (l_even a root)) h.ev (dn_lV fun x => .bl _) k (at_nat (rg_get (g := fun x => PyData.bool (s.even x)) hx))
theorem At.e_back (h : At C n ne root mate a H s left) (T : SrT K C) (m : Me a σ) (k : ED tk σ H (nI x)) (hx : x < n) : ED (tOp (rIxL K) (tFld K (tVar 0) "back") tk) σ H (oI (s.back x)) :=
  ed_ixL (ev_fld (ev_var m) h.ob T.cl T.back (l_back a root)) h.bk (dn_lV fun x => dn_oV _) k (at_nat (rg_get (g := fun x => oI (s.back x)) hx))
theorem At.e_mate (h : At C n ne root mate a H s left) (T : SrT K C) (m : Me a σ) (k : ED tk σ H (nI x)) (hx : x < n) : ED (tOp (rIxL K) (tFld K (tVar 0) "mates") tk) σ H (oI (mate x)) :=
  ed_ixL (ev_fld (ev_var m) h.ob T.cl T.mates (l_mates a root)) h.mt (dn_lV fun x => dn_oV _) k (at_nat (rg_get (g := fun x => oI (mate x)) hx))
theorem At.e_root (h : At C n ne root mate a H s left) (T : SrT K C) (m : Me a σ) : ED (tFld K (tVar 0) "root") σ H (nI root) :=
  ed_evInt (ev_fld (ev_var m) h.ob T.cl T.root (l_root a root))
theorem At.e_left (h : At C n ne root mate a H s left) (T : SrT K C) (m : Me a σ) (k : ED tk σ H (nI x)) {y : Nat} (hy : left[x]? = some y) : ED (tOp (rIxL K) (tFld K (tVar 0) "left") tk) σ H (nI y) :=
  ed_ixL (ev_fld (ev_var m) h.ob T.cl T.left (l_left a root)) h.lf (dnl_nats left) k (at_nat (by rw [List.getElem?_map, hy]; rfl))
theorem At.e_lenLeft (h : At C n ne root mate a H s left) (T : SrT K C) (m : Me a σ) : ED (tCB (rLenS K) (tCons (tFld K (tVar 0) "left") tNil)) σ H (nI left.length) :=
  (ed_lenAt (ev_fld (ev_var m) h.ob T.cl T.left (l_left a root)) h.lf (dnl_nats left)).is (by rw [List.length_map])
theorem At.e_near (h : At C n ne root mate a H s left) (T : SrT K C) (m : Me a σ) (k : ED tk σ H (nI x)) {d : PyData} (hd : ne[x]? = some d) : ED (tOp (rIxL K) (tFld K (tVar 0) "near") tk) σ H d := by
  obtain ⟨ws, h1, h2⟩ := h.nr
  exact ed_ixL (ev_fld (ev_var m) h.ob T.cl T.near (l_near a root)) h1 h2 k (at_nat hd)
theorem At.e_lenNear (h : At C n ne root mate a H s left) (T : SrT K C) (m : Me a σ) (hn : ne.length = n) : ED (tCB (rLenS K) (tCons (tFld K (tVar 0) "near") tNil)) σ H (nI n) := by
  obtain ⟨ws, h1, h2⟩ := h.nr
  exact (ed_lenAt (ev_fld (ev_var m) h.ob T.cl T.near (l_near a root)) h1 h2).is (by rw [hn])
/-! writing -/
theorem r_store {te to ti : TE} {D : Ends} {d : PyData} {p : Addr} {xs : List V} (h : ED te σ H d) (ho : Ev to σ H (.ref p)) (hi : ED ti σ H (nI x)) (hp : H p = some (.lst xs)) (hx : x < xs.length)
    (q : ∀ v H2, Ex H H2 → Dn H2 v d → D.nx σ (upd H2 p (.lst (xs.set x v)))) : tAsg te (gSub to ti rSetL) D σ H :=
  h.now fun v H1 k1 d1 => ho H1 k1 _ fun H2 k2 => hi H2 (k1.trans k2) _ fun w H3 k3 d3 => by
    have e3 := (k1.trans k2).trans k3
    refine ⟨p, xs, _, x, rfl, d3.int_inv, e3 _ _ hp, ?_, q v H3 e3 ((d1.ex k2).ex k3)⟩
    have := atI_of (xs := xs) (n := x) (x := xs[x]) (List.getElem?_eq_getElem hx)
    unfold ixN
    first
      | (rw [if_pos (by omega)]; simp [hx])
      | (simp [hx])
      | (split <;> simp_all <;> omega)
end
end Gx
namespace Gw
open PySem L2 Evl
section
variable {K : PySem.W.Frag} {σ : L2.St} {H H' : Hp} {ta tb te to : TE} {t : TT} {d : PyData} {ds : List PyData} {D : Ends} {tbd : TS} {l : Addr} {xs : List V} {b : Bool}
theorem r_while (W : Nat → L2.St → Hp → Prop) {m0 : Nat} (h0 : W m0 σ H) (h : ∀ m σ' H', W m σ' H' → ∃ b, EvT t σ' H' b ∧ (b = true → ∀ H2, Ex H' H2 → tbd { D with nx := fun σ2 H3 => ∃ m', m' < m ∧ W m' σ2 H3, ct := fun σ2 H3 => ∃ m', m' < m ∧ W m' σ2 H3, bk := D.nx } σ' H2) ∧ (b = false → ∀ H2, Ex H' H2 → D.nx σ' H2)) :
    tWhile t tbd D σ H := by
  refine ⟨W, ⟨m0, h0⟩, fun m σ' H' w => ?_⟩
  obtain ⟨b, h1, h2, h3⟩ := h m σ' H' w
  refine EvT_now h1 fun H2 e => ?_
  cases b with
  | true =>
    show ∃ N : L2.St → Hp → Prop, _
    exact ⟨fun σ2 H3 => ∃ m', m' < m ∧ W m' σ2 H3, fun _ _ z => z, h2 rfl H2 e⟩
  | false =>
    show D.nx σ' H2
    exact h3 rfl H2 e
theorem r_append (h : Ev to σ H (.ref l)) (k : ED te σ H d) (hl : H l = some (.lst xs)) (hz : xs.length < 100000) (q : ∀ v H2, Ex H H2 → Dn H2 v d → D.nx σ (upd H2 l (.lst (xs ++ [v])))) : tDrop (tBM K "list" rAppend to (tCons te tNil)) D σ H :=
  Ev_now h fun H1 k1 => ⟨.inl ⟨rfl, xs, SqL.of (k1 _ _ hl)⟩, k H1 k1 _ fun v H2 k2 d2 => ⟨l, xs, v, rfl, rfl, (k1.trans k2) _ _ hl, sz_lt hz, q v H2 (k1.trans k2) d2⟩⟩
theorem r_extend (h : Ev to σ H (.ref l)) (k : EL te σ H ds) (hl : H l = some (.lst xs)) (hz : xs.length + ds.length ≤ 100000) (q : ∀ zs H2, Ex H H2 → DnL H2 zs ds → D.nx σ (upd H2 l (.lst (xs ++ zs)))) : tDrop (tBM K "list" rExtend to (tCons te tNil)) D σ H :=
  Ev_now h fun H1 k1 => ⟨.inl ⟨rfl, xs, SqL.of (k1 _ _ hl)⟩, k H1 k1 _ fun p zs H2 k0 k2 k3 k4 => ⟨l, p, xs, zs, rfl, rfl, (k1.trans k2) _ _ hl, k3, by rw [k4.length]; exact sz_of hz, q zs H2 (k1.trans k2) k4⟩⟩
theorem el_revAt {a : Addr} {vs : List V} (h : Ev te σ H (.ref a)) (hs : H a = some (.lst vs)) (hd : DnL H vs ds) : EL (tRevL K te) σ H ds.reverse := fun H1 a' Q q =>
  h H1 a' _ fun H2 k1 => ⟨a, vs, rfl, SqL.of ((a'.trans k1) _ _ hs), fun r hr => q r _ _ (fresh_back k1 hr) (k1.trans (Ex.new hr)) upd_same ((hd.ex ((a'.trans k1).trans (Ex.new hr))).reverse)⟩
/-- an own list is changed -/
theorem ex_mut {H0 : Hp} {o u : HO} (e : Ex H0 H) (h : H0 l = none) : Ex H0 (upd H l o) := e.mut h
end
/-- a method -/
structure Mf (K : PySem.W.Frag) (C : Addr) (m qual : Str) (st : Stmt) (ps : List Str) : Prop where
  ex : ∃ f fd, Fun K m qual st f fd ∧ Meth K C m f ∧ Binds K fd ps []
theorem Mf.met {P : Program} {w : World} {K : PySem.W.Frag} {mg : Str → Option Value} {base : Heap} {C : Addr} {m qual : Str} {st : Stmt} {N ps : List Str} {k : Nat} {sp : Sp} (F : Mf K C m qual st ps) (c : Cls K C) (S : FnScope N ps (defScope st)) (len : ∀ vs H Q E, sp vs H Q E → vs.length = ps.length)
    (hbody : ∀ (f : Addr) (cdv : Value) (A : Around) (outer : List Env) (s : Shared) (H : Hp) (vs : List V) (Q : VK) (E : XK), Room k (A.deeper (PyProof.Rows.envOfC qual (defScope st) s.heap.objs.size f cdv)) → sp vs H Q E →
      ∃ t, PSs (cxOf CX0 P w K mg base N qual (defScope st) f cdv A outer s H E).nox (defBody st) t ∧ t { nx := fun _ H' => Q .non H', rt := Q } (start N vs) H) : C8.Met P w K mg base (k + 1) C m sp [] := by
  obtain ⟨f, fd, F1, m1, b1⟩ := F.ex
  exact ⟨f, fd, ps, [], c, m1, F1.ok S len fun cdv A outer s H vs Q E hr h => hbody f cdv A outer s H vs Q E hr h, b1, .nil⟩
end Gw
namespace Gx
open PySem L2 Evl Gw
section
variable {P : Program} {w : World} {K : PySem.W.Frag} {mg : Str → Option Value} {base : Heap} {C : Addr}
/-! ### reached -/
def spReached (C : Addr) : Sp := fun vs H Q _ => ∃ n ne root mate a s left, vs = [.ref a.p] ∧ At C n ne root mate a H s left ∧ n ≤ 100 ∧ ∀ v H', Ex H H' → Dn H' v (nT ((List.range n).filter s.even)) → Q v H'
theorem ok_reached (T : Txt K mg) (R : SrT K C) (D : Mf K C "reached" "Search.reached" s_S_reached ["self"]) : C8.Met P w K mg base 1 C "reached" (spReached C) [] := by
  refine D.met R.cl sc_S_reached (fun vs H Q E h => by obtain ⟨n, ne, root, mate, a, s, left, rfl, _⟩ := h; rfl) (fun f cdv A outer sh H vs Q E hr h => ?_)
  obtain ⟨n, ne, root, mate, a, s, left, rfl, h, hn, q⟩ := h
  · have nd := sc_S_reached.nd
    refine ⟨_, (pss_one (ps_ret (pe_callTy (r := rTupS K) call_tuple_of (by rfl) T.nb.tuple bt_tuple (pa_cons (pe_lc (own := [("person", 1), ("told", 2)]) (g := (gTup _ 2 (gCons (gName 1) (gCons (gName 2) gNil)))) (tt := _) rfl nd (pi_enum (by rfl) T.nb.enumerate (pa_cons (pe_fld (pv 0) rfl) pa_nil)) (blkOk_by (own := [("person", 1), ("told", 2)]) (N := N_S_reached) (sc := (defScope s_S_reached)) (by decide +kernel)) (fun _ _ _ _ _ => (pg_tup rfl (pgs_cons (pg_name (i := 1) nd rfl (by first | exact .inl rfl | exact .inr rfl)) (pgs_cons (pg_name (i := 2) nd rfl (by first | exact .inl rfl | exact .inr rfl)) pgs_nil)))) (fun _ _ _ _ _ => (pts_one (pt_val (pv 2)))) (fun _ _ _ _ _ => (pv 1))) pa_nil)))), ?_⟩
    have z := es_enumL (K := K) (ev_fld (K := K) (ta := tVar 0) (σ := start N_S_reached [.ref a.p]) (ev_var rfl) h.ob R.cl R.even (l_even a root)) h.ev (dn_lV (g := fun x => PyData.bool (s.even x)) fun x => .bl _)
    have e1 : ((List.range ((List.range n).map fun x => PyData.bool (s.even x)).length).map fun i => PyData.tuple [nI i, ((List.range n).map fun x => PyData.bool (s.even x)).getD i .none]) = (List.range n).map fun i => PyData.tuple [nI i, .bool (s.even i)] := by
      rw [List.length_map, List.length_range]
      refine List.map_congr_left fun i hi => ?_
      rw [List.getD_eq_getElem?_getD, rg_get (List.mem_range.mp hi)]
      rfl
    rw [e1] at z
    refine r_ret (d := nT ((List.range n).filter s.even)) (ed_tupleL (el_lc (enc := fun i => PyData.tuple [nI i, .bool (s.even i)]) (xs := List.range n) (b := s.even) (f := nI) z (by rw [List.length_range]; omega) fun x hx y H' k dy => ?_)) fun v H2 k1 k2 => q v H2 k1 k2
    obtain ⟨v1, v2, dv1, dv2, g⟩ := g_pair (K := K) (i := 1) (j := 2) (σ := wipe (start N_S_reached [.ref a.p]) [1, 2]) dy
    exact ⟨_, g, rfl, et_edB (ed_var rfl dv2), fun _ => ed_var rfl dv1⟩
/-! ### way -/
def spWay (C : Addr) : Sp := fun vs H Q _ => ∃ n ne root mate a s left v L, vs = [.ref a.p, .int ((v : Nat) : Int)] ∧ At C n ne root mate a H s left ∧ n ≤ 100 ∧ Gv.Alt mate s.back v L root ∧ (Gv.flat L ++ [root]).Nodup ∧ (∀ x ∈ Gv.flat L ++ [root], x < n) ∧
  ∀ u H', Ex H H' → Dn H' u (nT (Gv.flat L ++ [root]).reverse) → Q u H'
theorem lt_len {l : List Nat} {n : Nat} (h : l.Nodup) (k : ∀ x ∈ l, x < n) : l.length ≤ n := by
  have := Gv.nodup_le h (B' := List.range n) fun b hb => List.mem_range.mpr (k b hb)
  rwa [List.length_range] at this
theorem ok_way (T : Txt K mg) (R : SrT K C) (D : Mf K C "way" "Search.way" s_S_way ["self", "person"]) : C8.Met P w K mg base 1 C "way" (spWay C) [] := by
  refine D.met R.cl sc_S_way (fun vs H Q E h => by obtain ⟨n, ne, root, mate, a, s, left, v, L, rfl, _⟩ := h; rfl) (fun f cdv A outer sh H vs Q E hr h => ?_)
  obtain ⟨n, ne, root, mate, a, s, left, v, L, rfl, h, hn, hal, hnd, hlt, q⟩ := h
  · have nd := sc_S_way.nd
    refine ⟨_, (pss_cons (ps_set (i := 2) nd rfl (by first | exact .inl rfl | exact .inr rfl) (pe_lst (pa_cons (pv 1) pa_nil)))
      (pss_cons (ps_while PassesOwn.never (pt_cmpR op_ne (pe_ix (r := rIxL K) ix_list (pv 2) (pe_un un_neg pe_int) (fun _ _ => rfl)) (pe_fld (pv 0) rfl) (nomark _)) (pss_cons (ps_set (i := 3) nd rfl (by first | exact .inl rfl | exact .inr rfl) (pe_ix (r := rIxL K) ix_list (pe_fld (pv 0) rfl) (pe_ix (r := rIxL K) ix_list (pv 2) (pe_un un_neg pe_int) (fun _ _ => rfl)) (fun _ _ => rfl)))
      (pss_one (ps_expr (pe_bm PySem.F.plainAttrs_list PySem.F.slot_list_extend PySem.F.type_list_extend mt_extend (pv 2) (pa_cons (pe_lst (pa_cons (pv 3) (pa_cons (pe_ix (r := rIxL K) ix_list (pe_fld (pv 0) rfl) (pv 3) (fun _ _ => rfl)) pa_nil))) pa_nil))))))
      (pss_one (ps_ret (pe_callTy (r := rTupS K) call_tuple_of (by rfl) T.nb.tuple bt_tuple (pa_cons (pe_revL (pv 2)) pa_nil)))))), ?_⟩
    have e1 : ED (tVar 1) (start N_S_way [.ref a.p, .int (v : Int)]) H (nI v) := ed_var rfl (.int _)
    refine r_seqL (el_lst (eda_cons e1 eda_nil) (show 1 ≤ 100000 by decide)) fun fo ws0 H1 n1 k1 h1 d1 => ?_
    have hfo : H1 fo = some (.lst ([v].map fun x : Nat => V.int (x : Int))) := by
      rw [h1, dnl_nats_inv (l := [v]) d1]
    have hall := lt_len hnd hlt
    refine r_seq (r_while (fun m σ' H' => (∃ x3, σ' = [some (.ref a.p), some (.int (v : Int)), some (.ref fo), x3]) ∧ Ex H H' ∧ ∃ L1 v1 L2, L = L1 ++ L2 ∧ Gv.Alt mate s.back v1 L2 root ∧ H' fo = some (.lst ((Gv.flat L1 ++ [v1]).map fun x : Nat => V.int (x : Int))) ∧ m = L2.length) (m0 := L.length)
      ⟨⟨none, rfl⟩, k1, [], v, L, rfl, hal, hfo, rfl⟩ ?_)
    rintro m σ' H' ⟨⟨x3, rfl⟩, k2, L1, v1, L2, rfl, al, h2, rfl⟩
    have hA := h.ex k2
    have hv1 : v1 ∈ Gv.flat (L1 ++ L2) ++ [root] := by
      have := al.head
      rw [Gv.flat_app, List.append_assoc]
      exact List.mem_append_right _ this
    have elast : ((Gv.flat L1 ++ [v1]).map nI)[((Gv.flat L1 ++ [v1]).map nI).length - 1]? = some (nI v1) := by
      rw [List.length_map, List.length_append, List.length_singleton, Nat.add_sub_cancel, List.getElem?_map, List.getElem?_append_right (Nat.le_refl _)]
      simp
    have eL : ED (tOp (rIxL K) (tVar 2) (tUn (rU fun i => .int (-i)) (tC (.int 1)))) [some (.ref a.p), some (.int (v : Int)), some (.ref fo), x3] H' (nI v1) :=
      ed_ixL (a := fo) (ev_var rfl) h2 (dnl_nats _) (ed_neg ed_int) (at_last elast)
    refine ⟨!decide (v1 = root), et_ed (ed_neN eL (hA.e_root R rfl)), fun hb H3 k3 => ?_, fun hb H3 k3 => ?_⟩
    · cases al with
      | nil => simp at hb
      | @step _ x u _ L3 hm hbk al3 =>
        have mem : ∀ z ∈ Gv.flat ((v1, x) :: L3) ++ [root], z < n := fun z hz => hlt z (by
          rw [Gv.flat_app, List.append_assoc]
          exact List.mem_append_right _ hz)
        have hx : x < n := mem x (by rw [Gv.flat_cons]; simp)
        have hA3 := hA.ex k3
        refine r_seqD (d := nI x) ((hA3.e_mate R rfl (eL.mono k3) (hlt _ hv1)).is (by rw [hm]; rfl)) fun v3 H4 k4 d4 => ?_
        rw [d4.int_inv]
        have hA4 := hA3.ex k4
        have ex3 : ED (tVar 3) [some (.ref a.p), some (.int (v : Int)), some (.ref fo), some (.int (x : Int))] H4 (nI x) := ed_var rfl (.int _)
        have hlen : (Gv.flat L1 ++ [v1]).length ≤ n := by
          have : (Gv.flat (L1 ++ (v1, x) :: L3) ++ [root]).length ≤ n := hall
          rw [Gv.flat_app, Gv.flat_cons] at this
          simp at this ⊢
          omega
        refine r_extend (ds := [nI x, nI u]) (l := fo) (ev_var rfl) (el_lst (eda_cons ex3 (eda_cons ((hA4.e_back R rfl ex3 hx).is (by rw [hbk]; rfl)) eda_nil)) (show 2 ≤ 100000 by decide)) ((k3.trans k4) _ _ h2) (by rw [List.length_map]; simp at hlen ⊢; omega) fun zs H5 k5 d5 => ?_
        refine ⟨L3.length, Nat.lt_succ_self _, ⟨_, rfl⟩, (((k2.trans k3).trans k4).trans k5).mut n1, L1 ++ [(v1, x)], u, L3, by simp, al3, ?_, rfl⟩
        rw [upd_same, dnl_nats_inv (l := [x, u]) d5, ← List.map_append, Gv.flat_app]
        simp [Gv.flat_cons, Gv.flat_nil]
    · have e : v1 = root := by simpa using hb
      have eL2 : L2 = [] := by
        cases al with
        | nil => rfl
        | @step _ x u _ L3 hm hbk al3 =>
          exfalso
          subst e
          rw [Gv.flat_app, Gv.flat_cons] at hnd
          have := (List.nodup_append.mp hnd).2.2
          exact this v1 (by simp) v1 (by simp) rfl
      subst eL2 e
      have h3 := k3 _ _ h2
      rw [List.append_nil] at q
      refine r_ret (d := nT (Gv.flat L1 ++ [v1]).reverse) ((ed_tupleL (el_revAt (a := fo) (ev_var rfl) h3 (dnl_nats _))).is (congrArg PyData.tuple List.map_reverse.symm)) fun v4 H4 k4 d4 => q v4 H4 ((k2.trans k3).trans k4) d4
/-! ### meeting -/
def spMeeting (C : Addr) : Sp := fun vs H Q _ => ∃ n adj ne root mate rk a s left one other, vs = [.ref a.p, .int ((one : Nat) : Int), .int ((other : Nat) : Int)] ∧ At C n ne root mate a H s left ∧ n ≤ 100 ∧ Gv.Gr n adj ∧ Gv.Mt n adj mate ∧ mate root = none ∧ root < n ∧ Gv.SI n adj mate root rk s ∧
  s.even one = true ∧ s.even other = true ∧ one < n ∧ other < n ∧ ∀ top H', Ex H H' → (∃ L1 e1 bs1 L2 e2 bs2, Gv.Climb mate rk s top one L1 e1 bs1 ∧ Gv.Climb mate rk s top other L2 e2 bs2 ∧ ∀ b ∈ bs1, b ∉ bs2) → Q (.int ((top : Nat) : Int)) H'
section
variable {n : Nat} {adj : Nat → Nat → Prop} {mate : Nat → Option Nat} {root : Nat} {rk : Nat → Nat} {s : Gv.SS}
theorem mate_lt (g : Gv.Gr n adj) (M : Gv.Mt n adj mate) {u v : Nat} (h : mate u = some v) : u < n ∧ v < n := ⟨g.lt _ _ (M.adj _ _ h), g.lt _ _ (g.sym _ _ (M.adj _ _ h))⟩
theorem back_lt (g : Gv.Gr n adj) (I : Gv.SI n adj mate root rk s) {u v : Nat} (h : s.back u = some v) : u < n ∧ v < n := ⟨g.lt _ _ (I.edge _ _ h).1, g.lt _ _ (g.sym _ _ (I.edge _ _ h).1)⟩
/-- an even base stands below n -/
theorem base_lt (g : Gv.Gr n adj) (M : Gv.Mt n adj mate) (I : Gv.SI n adj mate root rk s) (hr : root < n) {b : Nat} (h1 : s.even b = true) (h2 : s.base b = b) : b < n := by
  by_cases e : b = root
  · rw [e]; exact hr
  · obtain ⟨x, y, hx, _⟩ := I.stem b h1 h2 e
    exact (mate_lt g M hx).1
/-- the chain so far -/
structure Chn (n : Nat) (mate : Nat → Option Nat) (rk : Nat → Nat) (s : Gv.SS) (v : Nat) (bs : List Nat) (c : Nat) : Prop where
  ch : Gv.Ch (Gv.Par mate s) (s.base v) bs c
  each : ∀ z ∈ bs ++ [c], ∃ bs', Gv.Ch (Gv.Par mate s) (s.base v) bs' z ∧ z ∉ bs' ∧ ∀ u ∈ bs', u ∈ bs ++ [c]
  low : ∀ z ∈ bs, rk c < rk z
  nd : (bs ++ [c]).Nodup
  lt : ∀ z ∈ bs ++ [c], z < n
  ev : s.even c = true
  ba : s.base c = c
theorem Chn.one (g : Gv.Gr n adj) (M : Gv.Mt n adj mate) (I : Gv.SI n adj mate root rk s) (hr : root < n) {v : Nat} (h : s.even v = true) : Chn n mate rk s v [] (s.base v) := by
  have h1 := I.ev_even v h
  have h2 := I.ev_base v
  refine ⟨.nil _, fun z hz => ?_, fun z hz => (nomatch hz), by simp, fun z hz => ?_, h1, h2⟩
  · have : z = s.base v := by simpa using hz
    subst this
    exact ⟨[], .nil _, by simp, fun u hu => (nomatch hu)⟩
  · have : z = s.base v := by simpa using hz
    subst this
    exact base_lt g M I hr h1 h2
theorem Chn.next (g : Gv.Gr n adj) (M : Gv.Mt n adj mate) (I : Gv.SI n adj mate root rk s) (hr : root < n) {v c c' : Nat} {bs : List Nat} (K : Chn n mate rk s v bs c) (p : Gv.Par mate s c c') (h1 : s.even c' = true) (h2 : s.base c' = c') (h3 : rk c' < rk c) : Chn n mate rk s v (bs ++ [c]) c' := by
  have low : ∀ z ∈ bs ++ [c], rk c' < rk z := fun z hz => by
    rcases List.mem_append.mp hz with h | h
    · have := K.low z h; omega
    · have : z = c := by simpa using h
      subst this
      exact h3
  have no : c' ∉ bs ++ [c] := fun h => Nat.lt_irrefl _ (low c' h)
  refine ⟨K.ch.snoc p, fun z hz => ?_, low, ?_, fun z hz => ?_, h1, h2⟩
  · rcases List.mem_append.mp hz with h | h
    · obtain ⟨bs', q1, q2, q3⟩ := K.each z h
      exact ⟨bs', q1, q2, fun u hu => List.mem_append_left _ (q3 u hu)⟩
    · have : z = c' := by simpa using h
      subst this
      exact ⟨bs ++ [c], K.ch.snoc p, no, fun u hu => List.mem_append_left _ hu⟩
  · rw [List.nodup_append]
    refine ⟨K.nd, by simp, fun x hx y hy e => ?_⟩
    have : y = c' := by simpa using hy
    subst this e
    exact no hx
  · rcases List.mem_append.mp hz with h | h
    · exact K.lt z h
    · have : z = c' := by simpa using h
      subst this
      exact base_lt g M I hr h1 h2
end
theorem ok_meeting (T : Txt K mg) (R : SrT K C) (D : Mf K C "meeting" "Search.meeting" s_S_meeting ["self", "one", "other"]) : C8.Met P w K mg base 1 C "meeting" (spMeeting C) [] := by
  refine D.met R.cl sc_S_meeting (fun vs H Q E h => by obtain ⟨n, adj, ne, root, mate, rk, a, s, left, one, other, rfl, _⟩ := h; rfl) (fun f cdv A outer sh H vs Q E hr h => ?_)
  obtain ⟨n, adj, ne, root, mate, rk, a, s, left, one, other, rfl, h, hn, g, M, M0, hrt, I, hev1, hev2, hl1, hl2, q⟩ := h
  · have nd := sc_S_meeting.nd
    refine ⟨_, (pss_cons (ps_set (i := 3) nd rfl (by first | exact .inl rfl | exact .inr rfl) (pe_lst (pa_cons (pe_ix (r := rIxL K) ix_list (pe_fld (pv 0) rfl) (pv 1) (fun _ _ => rfl)) pa_nil)))
      (pss_cons (ps_while PassesOwn.never (pt_cmpR op_ne (pe_ix (r := rIxL K) ix_list (pv 3) (pe_un un_neg pe_int) (fun _ _ => rfl)) (pe_ix (r := rIxL K) ix_list (pe_fld (pv 0) rfl) (pe_fld (pv 0) rfl) (fun _ _ => rfl)) (nomark _)) (pss_one (ps_expr (pe_bm PySem.F.plainAttrs_list PySem.F.slot_list_append PySem.F.type_list_append mt_append (pv 3) (pa_cons (pe_ix (r := rIxL K) ix_list (pe_fld (pv 0) rfl) (pe_ix (r := rIxL K) ix_list (pe_fld (pv 0) rfl) (pe_ix (r := rIxL K) ix_list (pe_fld (pv 0) rfl) (pe_ix (r := rIxL K) ix_list (pv 3) (pe_un un_neg pe_int) (fun _ _ => rfl)) (fun _ _ => rfl)) (fun _ _ => rfl)) (fun _ _ => rfl)) pa_nil)))))
      (pss_cons (ps_set (i := 4) nd rfl (by first | exact .inl rfl | exact .inr rfl) (pe_ix (r := rIxL K) ix_list (pe_fld (pv 0) rfl) (pv 2) (fun _ _ => rfl)))
      (pss_cons (ps_while PassesOwn.never (pt_cmpR (r := rIn K true) op_notIn_seq (pv 4) (pv 3) rfl) (pss_one (ps_set (i := 4) nd rfl (by first | exact .inl rfl | exact .inr rfl) (pe_ix (r := rIxL K) ix_list (pe_fld (pv 0) rfl) (pe_ix (r := rIxL K) ix_list (pe_fld (pv 0) rfl) (pe_ix (r := rIxL K) ix_list (pe_fld (pv 0) rfl) (pv 4) (fun _ _ => rfl)) (fun _ _ => rfl)) (fun _ _ => rfl)))))
      (pss_one (ps_ret (pv 4))))))), ?_⟩
    have e1 : ED (tVar 1) (start N_S_meeting [.ref a.p, .int (one : Int), .int (other : Int)]) H (nI one) := ed_var rfl (.int _)
    refine r_seqL (el_lst (eda_cons (h.e_base R rfl e1 hl1) eda_nil) (show 1 ≤ 100000 by decide)) fun mt ws0 H1 n1 k1 h1 d1 => ?_
    have hmt : H1 mt = some (.lst (([] ++ [s.base one]).map fun x : Nat => V.int (x : Int))) := by
      rw [h1, dnl_nats_inv (l := [s.base one]) d1]
      rfl
    refine r_seq (r_while (fun m σ' H' => σ' = [some (.ref a.p), some (.int (one : Int)), some (.int (other : Int)), some (.ref mt), none] ∧ Ex H H' ∧ ∃ bs c, Chn n mate rk s one bs c ∧ H' mt = some (.lst ((bs ++ [c]).map fun x : Nat => V.int (x : Int))) ∧ m = rk c) (m0 := rk (s.base one))
      ⟨rfl, k1, [], s.base one, Chn.one g M I hrt hev1, hmt, rfl⟩ ?_)
    rintro m σ' H' ⟨rfl, k2, bs, c, Kc, h2, rfl⟩
    have hA := h.ex k2
    have elast : ((bs ++ [c]).map nI)[((bs ++ [c]).map nI).length - 1]? = some (nI c) := by
      rw [List.length_map, List.length_append, List.length_singleton, Nat.add_sub_cancel, List.getElem?_map, List.getElem?_append_right (Nat.le_refl _)]
      simp
    have eL : ED (tOp (rIxL K) (tVar 3) (tUn (rU fun i => .int (-i)) (tC (.int 1)))) [some (.ref a.p), some (.int (one : Int)), some (.int (other : Int)), some (.ref mt), none] H' (nI c) :=
      ed_ixL (a := mt) (ev_var rfl) h2 (dnl_nats _) (ed_neg ed_int) (at_last elast)
    refine ⟨!decide (c = root), et_ed ((ed_neN eL (hA.e_base R rfl (hA.e_root R rfl) hrt)).is (by rw [I.root_base])), fun hb H3 k3 => ?_, fun hb H3 k3 => ?_⟩
    · have hc : c ≠ root := by simpa using hb
      obtain ⟨c', ⟨x, y, hx, hy, hc'⟩, f1, f2, f3⟩ := Gv.par_of I Kc.ev Kc.ba hc
      have hA3 := hA.ex k3
      have hlen := lt_len Kc.nd Kc.lt
      refine r_append (d := nI c') (l := mt) (ev_var rfl) ?_ (k3 _ _ h2) (by rw [List.length_map]; omega) fun v H4 k4 d4 => ?_
      · exact (hA3.e_base R rfl ((hA3.e_back R rfl ((hA3.e_mate R rfl (eL.mono k3) (mate_lt g M hx).1).is (by rw [hx]; rfl)) (mate_lt g M hx).2).is (e := nI y) (by rw [hy]; rfl)) (back_lt g I hy).2).is (by rw [hc'])
      · refine ⟨rk c', f3, rfl, (((k2.trans k3).trans k4)).mut n1, bs ++ [c], c', Kc.next g M I hrt ⟨x, y, hx, hy, hc'⟩ f1 f2 f3, ?_, rfl⟩
        rw [upd_same, d4.int_inv]
        simp
    · have hc : c = root := by simpa using hb
      subst hc
      have k03 := k2.trans k3
      have h3 := k3 _ _ h2
      have hA3 := h.ex k03
      have e2 : ED (tVar 2) [some (.ref a.p), some (.int (one : Int)), some (.int (other : Int)), some (.ref mt), none] H3 (nI other) := ed_var rfl (.int _)
      refine r_seqD (hA3.e_base R rfl e2 hl2) fun v4 H4 k4 d4 => ?_
      rw [d4.int_inv]
      refine r_seq (r_while (fun m σ' H' => ∃ bs2 f, σ' = [some (.ref a.p), some (.int (one : Int)), some (.int (other : Int)), some (.ref mt), some (.int ((f : Nat) : Int))] ∧ Ex H H' ∧ H' mt = some (.lst ((bs ++ [c]).map fun x : Nat => V.int (x : Int))) ∧ Chn n mate rk s other bs2 f ∧ (∀ z ∈ bs2, z ∉ bs ++ [c]) ∧ m = rk f) (m0 := rk (s.base other))
        ⟨[], s.base other, rfl, k03.trans k4, k4 _ _ h3, Chn.one g M I hrt hev2, fun z hz => (nomatch hz), rfl⟩ ?_)
      rintro m σ' H5 ⟨bs2, f, rfl, k5, h5, Kf, dis, rfl⟩
      have hA5 := h.ex k5
      have ef : ED (tVar 4) [some (.ref a.p), some (.int (one : Int)), some (.int (other : Int)), some (.ref mt), some (.int ((f : Nat) : Int))] H5 (nI f) := ed_var rfl (.int _)
      have h5' : H5 mt = some (.lst (((bs ++ [c]).map fun x : Nat => (x : Int)).map V.int)) := by
        rw [h5, List.map_map]
        rfl
      refine ⟨!decide (f ∈ bs ++ [c]), et_ed ((ed_niL (a := mt) ef (ev_var rfl) h5').is (by simp only [mem_cast])), fun hb H6 k6 => ?_, fun hb H6 k6 => ?_⟩
      · have hf : f ∉ bs ++ [c] := by simpa using hb
        have hfr : f ≠ c := fun e => hf (by rw [e]; simp)
        obtain ⟨c', ⟨x, y, hx, hy, hc'⟩, f1, f2, f3⟩ := Gv.par_of I Kf.ev Kf.ba hfr
        have hA6 := hA5.ex k6
        refine r_set (d := nI c') ?_ fun v7 H7 k7 d7 => ?_
        · exact (hA6.e_base R rfl ((hA6.e_back R rfl ((hA6.e_mate R rfl (ef.mono k6) (mate_lt g M hx).1).is (by rw [hx]; rfl)) (mate_lt g M hx).2).is (e := nI y) (by rw [hy]; rfl)) (back_lt g I hy).2).is (by rw [hc'])
        · rw [d7.int_inv]
          refine ⟨rk c', f3, bs2 ++ [f], c', rfl, (k5.trans k6).trans k7, (k6.trans k7) _ _ h5, Kf.next g M I hrt ⟨x, y, hx, hy, hc'⟩ f1 f2 f3, fun z hz => ?_, rfl⟩
          rcases List.mem_append.mp hz with e | e
          · exact dis z e
          · have : z = f := by simpa using e
            rw [this]
            exact hf
      · have hf : f ∈ bs ++ [c] := Decidable.byContradiction fun z => by rw [decide_eq_false z] at hb; cases hb
        refine r_ret (ef.mono k6) fun v7 H7 k7 d7 => ?_
        rw [d7.int_inv]
        refine q f H7 ((k5.trans k6).trans k7) ?_
        obtain ⟨bs1, c1, c2, c3⟩ := Kc.each f hf
        obtain ⟨L1, e1, cl1⟩ := Gv.climb_of I M0 hev1 c1 c2
        obtain ⟨L2, e2, cl2⟩ := Gv.climb_of I M0 hev2 Kf.ch (fun z => dis f z hf)
        exact ⟨L1, e1, bs1, L2, e2, bs2, cl1, cl2, fun b hb1 hb2 => dis b hb2 (c3 b hb1)⟩
end
end Gx
namespace Gw
open PySem L2 Evl
section
variable {K : PySem.W.Frag} {σ : L2.St} {H H' : Hp} {ta tb te to : TE} {t : TA} {d : PyData} {ds : List PyData} {D : Ends} {C p dx : Addr} {m : Str} {fs : List (Str × V)} {sp : Sp} {E : XK} {Q : VK}
theorem m_call (h : Ev ta σ H (.ref p)) (ho : H p = some (.ins C dx fs)) (hl : fs.lookup m = none) (k : EDA t σ H ds) (q : ∀ vs H2, Ex H H2 → DnL H2 vs ds → sp (.ref p :: vs) H2 Q E) : tMeth C m sp [] E ta t σ H Q :=
  Ev_now h fun H1 k1 => ⟨p, dx, fs, rfl, k1 _ _ ho, hl, k H1 k1 _ fun vs H2 k2 d2 => by
    rw [List.append_nil]
    exact q vs H2 (k1.trans k2) d2⟩
theorem r_par {i j : Nat} {d1 d2 : PyData} (h : ED ta σ H d1) (k : ED tb σ H d2) (q : ∀ v w H2, Ex H H2 → Dn H2 v d1 → Dn H2 w d2 → D.nx ((σ.set i (some v)).set j (some w)) H2) : tPar i j (tCons ta (tCons tb tNil)) D σ H :=
  h.now fun v H1 k1 e1 => k H1 k1 _ fun w H2 k2 e2 => ⟨v, w, rfl, q v w H2 (k1.trans k2) (e1.ex k2) e2⟩
end
end Gw
namespace Gx
open PySem L2 Evl Gw
section
variable {n : Nat} {adj : Nat → Nat → Prop} {mate : Nat → Option Nat} {root : Nat} {rk : Nat → Nat} {s : Gv.SS}
theorem fst_ne {top v e : Nat} {L : List (Nat × Nat)} {bs : List Nat} (I : Gv.SI n adj mate root rk s) (h : Gv.Climb mate rk s top v L e bs) : ∀ p ∈ L, s.base p.1 ≠ top := by
  induction h with
  | here _ _ => intro p hp; cases hp
  | @up v x y e Q L bs h1 h2 a nd hb m ox k r c ih =>
    intro p hp
    rcases List.mem_append.mp hp with hp | hp
    · rw [hb _ (Gv.mem_flat1 hp)]; exact h2
    · rcases List.mem_cons.mp hp with rfl | hp
      · show s.base (s.base v) ≠ top
        rw [I.ev_base]; exact h2
      · exact ih p hp
theorem side_dis (M : Gv.Mt n adj mate) (I : Gv.SI n adj mate root rk s) {top one other e1 e2 : Nat} {L1 L2 : List (Nat × Nat)} {bs1 bs2 : List Nat} (C1 : Gv.Climb mate rk s top one L1 e1 bs1) (C2 : Gv.Climb mate rk s top other L2 e2 bs2) (dis : ∀ b ∈ bs1, b ∉ bs2) :
    ∀ z ∈ Gv.flat L1, z ∉ Gv.flat L2 := fun z h1 h2 => by
  cases q : s.even z with
  | true => exact dis _ (C1.ev_mem I h1 q) (C2.ev_mem I h2 q)
  | false =>
    obtain ⟨b1, k1, m1⟩ := C1.odd_mem I h1 q
    obtain ⟨b2, k2, m2⟩ := C2.odd_mem I h2 q
    exact dis b1 k1 ((M.inj m1 m2) ▸ k2)
theorem At.fresh {C : Addr} {ne : List PyData} {a : Ad} {H : Hp} {left : List Nat} (h : At C n ne root mate a H s left) {b : Addr} (hb : H b = none) : b ≠ a.p ∧ b ≠ a.Nr ∧ b ≠ a.M ∧ b ≠ a.B ∧ b ≠ a.S ∧ b ≠ a.V ∧ b ≠ a.L := by
  obtain ⟨ws, h1, _⟩ := h.nr
  refine ⟨?_, ?_, ?_, ?_, ?_, ?_, ?_⟩ <;> intro e <;> rw [e] at hb
  · rw [h.ob] at hb; cases hb
  · rw [h1] at hb; cases hb
  · rw [h.mt] at hb; cases hb
  · rw [h.bk] at hb; cases hb
  · rw [h.bs] at hb; cases hb
  · rw [h.ev] at hb; cases hb
  · rw [h.lf] at hb; cases hb
theorem At.off {C : Addr} {ne : List PyData} {a : Ad} {H : Hp} {left : List Nat} (h : At C n ne root mate a H s left) {b : Addr} (nb : b ≠ a.p ∧ b ≠ a.Nr ∧ b ≠ a.M ∧ b ≠ a.B ∧ b ≠ a.S ∧ b ≠ a.V ∧ b ≠ a.L) {xs : List V} (hb : H b = some (.lst xs)) {o : HO} : At C n ne root mate a (L2.upd H b o) s left := by
  obtain ⟨ws, h1, h2⟩ := h.nr
  obtain ⟨n1, n2, n3, n4, n5, n6, n7⟩ := nb
  exact ⟨by rw [L2.upd_ne n1.symm]; exact h.ob, ⟨ws, by rw [L2.upd_ne n2.symm]; exact h1, h2.tx (Gw.Tx.mut hb fun _ q => nomatch q)⟩, by rw [L2.upd_ne n3.symm]; exact h.mt, by rw [L2.upd_ne n4.symm]; exact h.bk, by rw [L2.upd_ne n5.symm]; exact h.bs, by rw [L2.upd_ne n6.symm]; exact h.ev, by rw [L2.upd_ne n7.symm]; exact h.lf, h.nd⟩
theorem Kp.mut {a : Ad} {H H' : Hp} {b : Addr} {o : HO} (k : Kp a H H') (hb : H b = none) : Kp a H (L2.upd H' b o) := fun c u h1 h2 h3 h4 e => by
  rw [L2.upd_ne (ne_of_none e hb)]
  exact k c u h1 h2 h3 h4 e
theorem At.congr {C : Addr} {ne : List PyData} {a : Ad} {H : Hp} {left : List Nat} {s' : Gv.SS} (h : At C n ne root mate a H s left) (hb : ∀ x, x < n → s'.back x = s.back x) (hs : ∀ x, x < n → s'.base x = s.base x) (he : ∀ x, x < n → s'.even x = s.even x) : At C n ne root mate a H s' left := by
  refine ⟨h.ob, h.nr, h.mt, ?_, ?_, ?_, h.lf, h.nd⟩
  · rw [h.bk]; exact congrArg (fun z => some (HO.lst z)) (lV_congr fun x hx => by rw [hb x hx])
  · rw [h.bs]; exact congrArg (fun z => some (HO.lst z)) (lV_congr fun x hx => by rw [hs x hx])
  · rw [h.ev]; exact congrArg (fun z => some (HO.lst z)) (lV_congr fun x hx => by rw [he x hx])
/-- one side's way, as shrink needs it -/
structure Sd (n : Nat) (mate : Nat → Option Nat) (s : Gv.SS) (top : Nat) (bk : Nat → Option Nat) (v : Nat) (L : List (Nat × Nat)) (e : Nat) : Prop where
  al : Gv.Alt mate s.back v L e
  nd : (Gv.flat L).Nodup
  ne : ∀ p ∈ L, s.base p.1 ≠ top
  be : s.base e = top
  lt : ∀ x ∈ Gv.flat L ++ [e], x < n
  bk : ∀ p ∈ L, bk p.2 = s.back p.2
theorem sd_of (g : Gv.Gr n adj) (M : Gv.Mt n adj mate) (I : Gv.SI n adj mate root rk s) {top v e : Nat} {L : List (Nat × Nat)} {bs : List Nat} {bk : Nat → Option Nat} (h : Gv.Climb mate rk s top v L e bs) (hv : v < n) (hb : ∀ p ∈ L, bk p.2 = s.back p.2) : Sd n mate s top bk v L e := by
  refine ⟨h.alt, h.nodup M I, fst_ne I h, h.top.1, ?_, hb⟩
  have al := h.alt
  have hm := al.mates
  intro x hx
  rcases List.mem_append.mp hx with q | q
  · obtain ⟨p, hp, e⟩ := Gv.mem_flat.mp q
    have := mate_lt g M (hm p hp)
    rcases e with rfl | rfl
    · exact this.1
    · exact this.2
  · have : x = e := by simpa using q
    subst this
    clear hx q hm
    clear h hb
    induction al with
    | nil _ => exact hv
    | step m b _ ih => exact ih (back_lt g I b).2
end
section
variable {P : Program} {w : World} {K : PySem.W.Frag} {mg : Str → Option Value} {base : Heap} {C : Addr}
/-! ### shrink -/
def spShrink (C : Addr) : Sp := fun vs H Q _ => ∃ n adj ne root mate rk a s left one other, vs = [.ref a.p, .int ((one : Nat) : Int), .int ((other : Nat) : Int)] ∧ At C n ne root mate a H s left ∧ ne.length = n ∧ n ≤ 100 ∧ Gv.Gr n adj ∧ Gv.Mt n adj mate ∧ mate root = none ∧ root < n ∧ Gv.SI n adj mate root rk s ∧
  s.even one = true ∧ s.even other = true ∧ one < n ∧ other < n ∧ left.length ≤ 1000 ∧ ∀ top H' L1 e1 bs1 L2 e2 bs2, Kp a H H' → Gv.Climb mate rk s top one L1 e1 bs1 → Gv.Climb mate rk s top other L2 e2 bs2 → (∀ b ∈ bs1, b ∉ bs2) →
    At C n ne root mate a H' (Gv.shr s one other top L1 L2) (left ++ Gv.newEven n s (Gv.within s L1 L2)) → Q .non H'
theorem ok_shrink (T : Txt K mg) (R : SrT K C) (D : Mf K C "shrink" "Search.shrink" s_S_shrink ["self", "one", "other"]) (C_meeting : C8.Met P w K mg base 1 C "meeting" (spMeeting C) []) : C8.Met P w K mg base 2 C "shrink" (spShrink C) [] := by
  refine D.met R.cl sc_S_shrink (fun vs H Q E h => by obtain ⟨n, adj, ne, root, mate, rk, a, s, left, one, other, rfl, _⟩ := h; rfl) (fun f cdv A outer sh H vs Q E hr h => ?_)
  obtain ⟨n, adj, ne, root, mate, rk, a, s, left, one, other, rfl, h, hne, hn, g, M, M0, hrt, I, hev1, hev2, hl1, hl2, hll, q⟩ := h
  · have nd := sc_S_shrink.nd
    refine ⟨_, (pss_cons (ps_par (i := 3) (j := 4) rfl nd rfl rfl (by decide) rfl rfl (pa_cons (C8.pe_mt C_meeting hr (by decide) (pv 0) (pa_cons (pv 1) (pa_cons (pv 2) pa_nil))) (pa_cons (pe_lst pa_nil) pa_nil)) rfl)
      (pss_cons (ps_for PassesOwn.never rfl (pi_tup (pe_tup (pa_cons (pe_tup (pa_cons (pv 1) (pa_cons (pv 2) pa_nil))) (pa_cons (pe_tup (pa_cons (pv 2) (pa_cons (pv 1) pa_nil))) pa_nil)))) (pg_tup rfl (pgs_cons (pg_name (i := 5) nd rfl (by first | exact .inl rfl | exact .inr rfl)) (pgs_cons (pg_name (i := 6) nd rfl (by first | exact .inl rfl | exact .inr rfl)) pgs_nil))) (pss_one (ps_while PassesOwn.never (pt_cmpR op_ne (pe_ix (r := rIxL K) ix_list (pe_fld (pv 0) rfl) (pv 5) (fun _ _ => rfl)) (pv 3) (nomark _)) (pss_cons (ps_set (i := 7) nd rfl (by first | exact .inl rfl | exact .inr rfl) (pe_ix (r := rIxL K) ix_list (pe_fld (pv 0) rfl) (pv 5) (fun _ _ => rfl)))
      (pss_cons (ps_expr (pe_bm PySem.F.plainAttrs_list PySem.F.slot_list_extend PySem.F.type_list_extend mt_extend (pv 4) (pa_cons (pe_lst (pa_cons (pe_ix (r := rIxL K) ix_list (pe_fld (pv 0) rfl) (pv 5) (fun _ _ => rfl)) (pa_cons (pe_ix (r := rIxL K) ix_list (pe_fld (pv 0) rfl) (pv 7) (fun _ _ => rfl)) pa_nil))) pa_nil)))
      (pss_cons (ps_asg (pv 6) (pg_sub (pe_fld (pv 0) rfl) (pv 5) set_list) rfl)
      (pss_one (ps_par (i := 6) (j := 5) rfl nd rfl rfl (by decide) rfl rfl (pa_cons (pv 7) (pa_cons (pe_ix (r := rIxL K) ix_list (pe_fld (pv 0) rfl) (pv 7) (fun _ _ => rfl)) pa_nil)) rfl))))))))
      (pss_one (ps_for PassesOwn.never rfl (pi_range1 (by rfl) T.nb.range (pa_cons (pe_callB (r := rLenS K) call_len_seq (by rfl) T.nb.len bt_len (pa_cons (pe_fld (pv 0) rfl) pa_nil)) pa_nil)) (pg_name (i := 5) nd rfl (by first | exact .inl rfl | exact .inr rfl)) (pss_one (ps_if (pt_cmpR (r := rIn K false) op_in_seq (pe_ix (r := rIxL K) ix_list (pe_fld (pv 0) rfl) (pv 5) (fun _ _ => rfl)) (pv 4) rfl) (pss_cons (ps_asg (pv 3) (pg_sub (pe_fld (pv 0) rfl) (pv 5) set_list) rfl)
      (pss_one (ps_if (pt_not (pt_val (pe_ix (r := rIxL K) ix_list (pe_fld (pv 0) rfl) (pv 5) (fun _ _ => rfl)))) (pss_cons (ps_asg pe_bl (pg_sub (pe_fld (pv 0) rfl) (pv 5) set_list) rfl)
      (pss_one (ps_expr (pe_bm PySem.F.plainAttrs_list PySem.F.slot_list_append PySem.F.type_list_append mt_append (pe_fld (pv 0) rfl) (pa_cons (pv 5) pa_nil))))) pss_nil))) pss_nil)))))), ?_⟩
    have i1 : ED (tVar 1) (start N_S_shrink [.ref a.p, .int (one : Int), .int (other : Int)]) H (nI one) := ed_var rfl (.int _)
    have i2 : ED (tVar 2) (start N_S_shrink [.ref a.p, .int (one : Int), .int (other : Int)]) H (nI other) := ed_var rfl (.int _)
    refine r_seq (m_call (ev_var rfl) h.ob (l_no a root).2.1 (eda_cons i1 (eda_cons i2 eda_nil)) fun vs1 H1 k1 d1 => ?_)
    rw [dnl_nats_inv (l := [one, other]) d1]
    refine ⟨n, adj, ne, root, mate, rk, a, s, left, one, other, rfl, h.ex k1, hn, g, M, M0, hrt, I, hev1, hev2, hl1, hl2, fun top H2 k2 ⟨L1, e1, bs1, L2, e2, bs2, C1, C2, dis⟩ => ?_⟩
    show tLst tNil _ H2 _
    refine ⟨Nat.zero_le _, fun wi hwi => ⟨_, _, rfl, ?_⟩⟩
    have hwi0 : H wi = none := fresh_back (k1.trans k2) hwi
    have k3 : Ex H (upd H2 wi (.lst [])) := (k1.trans k2).trans (Ex.new hwi)
    have nb := h.fresh hwi0
    have h3 := h.ex k3
    have sdis := side_dis M I C1 C2 dis
    have hq := fun H' => q top H' L1 e1 bs1 L2 e2 bs2
    clear q
    -- the two sides
    have j1 : ED (tVar 1) [some (.ref a.p), some (.int (one : Int)), some (.int (other : Int)), some (.int (top : Int)), some (.ref wi), none, none, none] (upd H2 wi (.lst [])) (nI one) := ed_var rfl (.int _)
    have j2 : ED (tVar 2) [some (.ref a.p), some (.int (one : Int)), some (.int (other : Int)), some (.int (top : Int)), some (.ref wi), none, none, none] (upd H2 wi (.lst [])) (nI other) := ed_var rfl (.int _)
    let bkf : Nat → Nat → Option Nat := fun i => if i = 0 then s.back else if i = 1 then Gv.setBack s.back other L1 else Gv.setBack (Gv.setBack s.back other L1) one L2
    let wf : Nat → List Nat := fun i => if i = 0 then [] else if i = 1 then (Gv.flat L1).map s.base else Gv.within s L1 L2
    refine r_seq (r_forT (ds := [nP (one, other), nP (other, one)]) (et_tup (ed_tup (eda_cons (ed_pair j1 j2) (eda_cons (ed_pair j2 j1) eda_nil)) (show 2 ≤ 100000 by decide))) fun H4 k4 =>
      ⟨fun i σ' H' => (∃ x5 x6 x7, σ' = [some (.ref a.p), some (.int (one : Int)), some (.int (other : Int)), some (.int (top : Int)), some (.ref wi), x5, x6, x7]) ∧ Kp a H H' ∧ Gw.Tx H4 H' ∧ At C n ne root mate a H' { s with back := bkf i } left ∧ H' wi = some (.lst ((wf i).map fun x : Nat => V.int (x : Int))),
        ⟨⟨_, _, _, rfl⟩, Kp.of (k3.trans k4), Gw.Tx.refl _, (h3.ex k4).congr (fun _ _ => rfl) (fun _ _ => rfl) (fun _ _ => rfl), k4 _ _ upd_same⟩, fun i σ' H' z => z.2.2.1, ?_, ?_⟩)
    · rintro i d x σ' H5 H6 hd ⟨⟨x5, x6, x7, rfl⟩, kp5, tx5, at5, w5⟩ k6 dx
      obtain ⟨v, b, L, e, rfl, sd, hnb, hnw⟩ : ∃ v b L e, d = nP (v, b) ∧ Sd n mate s top (bkf i) v L e ∧ bkf (i + 1) = Gv.setBack (bkf i) b L ∧ wf (i + 1) = wf i ++ (Gv.flat L).map s.base := by
        match i, hd with
        | 0, hd =>
          cases hd
          exact ⟨one, other, L1, e1, rfl, sd_of g M I C1 hl1 fun _ _ => rfl, rfl, rfl⟩
        | 1, hd =>
          cases hd
          exact ⟨other, one, L2, e2, rfl, sd_of g M I C2 hl2 fun p hp => Gv.setBack_off fun p' hp' e => sdis p'.1 (Gv.mem_flat1 hp') (e ▸ Gv.mem_flat2 hp), rfl, rfl⟩
        | i + 2, hd => cases hd
      obtain ⟨v1, v2, dv1, dv2, gg⟩ := g_pair (K := K) (i := 5) (j := 6) (σ := [some (.ref a.p), some (.int (one : Int)), some (.int (other : Int)), some (.int (top : Int)), some (.ref wi), x5, x6, x7]) dx
      refine gg _ ?_
      rw [dv1.int_inv, dv2.int_inv]
      have ta5 : At C n ne root mate a H6 { s with back := bkf i } left := at5.ex k6
      refine r_while (fun m σ' H' => ∃ v1 b1 x7 La Lb bk1, σ' = [some (.ref a.p), some (.int (one : Int)), some (.int (other : Int)), some (.int (top : Int)), some (.ref wi), some (.int ((v1 : Nat) : Int)), some (.int ((b1 : Nat) : Int)), x7] ∧ L = La ++ Lb ∧ Kp a H H' ∧ Gw.Tx H4 H' ∧
          At C n ne root mate a H' { s with back := bk1 } left ∧ H' wi = some (.lst ((wf i ++ (Gv.flat La).map s.base).map fun x : Nat => V.int (x : Int))) ∧ Sd n mate s top bk1 v1 Lb e ∧ Gv.setBack bk1 b1 Lb = Gv.setBack (bkf i) b L ∧ m = Lb.length) (m0 := L.length)
        ⟨v, b, _, [], L, bkf i, rfl, rfl, kp5.trans (Kp.of k6), tx5.trans (Gw.Tx.of k6), ta5, by rw [k6 _ _ w5]; simp [Gv.flat_nil], sd, rfl, rfl⟩ ?_
      clear at5 w5 kp5 tx5 ta5 gg dx hd
      rintro m σ' H7 ⟨v1', b1, y7, La, Lb, bk1, rfl, eL, kp7, tx7, at7, w7, sd7, hsb, rfl⟩
      have e5 : ED (tVar 5) [some (.ref a.p), some (.int (one : Int)), some (.int (other : Int)), some (.int (top : Int)), some (.ref wi), some (.int ((v1' : Nat) : Int)), some (.int ((b1 : Nat) : Int)), y7] H7 (nI v1') := ed_var rfl (.int _)
      have e3 : ED (tVar 3) [some (.ref a.p), some (.int (one : Int)), some (.int (other : Int)), some (.int (top : Int)), some (.ref wi), some (.int ((v1' : Nat) : Int)), some (.int ((b1 : Nat) : Int)), y7] H7 (nI top) := ed_var rfl (.int _)
      have hv1 : v1' < n := sd7.lt v1' sd7.al.head
      refine ⟨!decide (s.base v1' = top), et_ed (ed_neN (at7.e_base R rfl e5 hv1) e3), fun hb H8 k8 => ?_, fun hb H8 k8 => ?_⟩
      · have hnt : s.base v1' ≠ top := by simpa using hb
        obtain ⟨al7, nd7, ne7, be7, lt7, bk7⟩ := sd7
        cases al7 with
        | nil => exact absurd be7 hnt
        | @step _ x u _ Lc hm hbk al8 =>
          have hx : x < n := (mate_lt g M hm).2
          have at8 := at7.ex k8
          rw [Gv.flat_cons] at nd7
          have hvx : x ≠ v1' := fun z => by
            subst z
            exact (List.nodup_cons.mp nd7).1 (by simp)
          refine r_seqD (d := nI x) ((at8.e_mate R rfl (e5.mono k8) hv1).is (by rw [hm]; rfl)) fun v9 H9 k9 d9 => ?_
          rw [d9.int_inv]
          have at9 := at8.ex k9
          have k79 := k8.trans k9
          have f5 : ED (tVar 5) [some (.ref a.p), some (.int (one : Int)), some (.int (other : Int)), some (.int (top : Int)), some (.ref wi), some (.int ((v1' : Nat) : Int)), some (.int ((b1 : Nat) : Int)), some (.int ((x : Nat) : Int))] H9 (nI v1') := ed_var rfl (.int _)
          have f7 : ED (tVar 7) [some (.ref a.p), some (.int (one : Int)), some (.int (other : Int)), some (.int (top : Int)), some (.ref wi), some (.int ((v1' : Nat) : Int)), some (.int ((b1 : Nat) : Int)), some (.int ((x : Nat) : Int))] H9 (nI x) := ed_var rfl (.int _)
          have w9 := k79 _ _ w7
          have lenb : ((wf i ++ (Gv.flat La).map s.base).map fun x : Nat => V.int (x : Int)).length + 2 ≤ 100000 := by
            have a1 : (Gv.flat L1).length ≤ n := lt_len (C1.nodup M I) fun z hz => by
              obtain ⟨p, hp, e⟩ := Gv.mem_flat.mp hz
              have := mate_lt g M (C1.alt.mates p hp)
              rcases e with rfl | rfl
              · exact this.1
              · exact this.2
            have a2 : (Gv.flat L2).length ≤ n := lt_len (C2.nodup M I) fun z hz => by
              obtain ⟨p, hp, e⟩ := Gv.mem_flat.mp hz
              have := mate_lt g M (C2.alt.mates p hp)
              rcases e with rfl | rfl
              · exact this.1
              · exact this.2
            have a3 : (wf i).length ≤ 2 * n := by
              show (if i = 0 then ([] : List Nat) else if i = 1 then (Gv.flat L1).map s.base else Gv.within s L1 L2).length ≤ _
              split
              · simp
              · split
                · simp; omega
                · unfold Gv.within; simp; omega
            have a4 : (Gv.flat La).length ≤ n := by
              have z := lt_len sd.nd fun z hz => sd.lt z (List.mem_append_left _ hz)
              rw [eL, Gv.flat_app, List.length_append] at z
              omega
            simp
            omega
          refine r_seq (r_extend (ds := [nI (s.base v1'), nI (s.base x)]) (l := wi) (ev_var rfl) (el_lst (eda_cons (at9.e_base R rfl f5 hv1) (eda_cons (at9.e_base R rfl f7 hx) eda_nil)) (show 2 ≤ 100000 by decide)) w9 lenb fun zs H10 k10 d10 => ?_)
          have at10 := (at9.ex k10).off nb (k10 _ _ w9) (o := .lst (((wf i ++ (Gv.flat La).map s.base).map fun x : Nat => V.int (x : Int)) ++ zs))
          have kp10 : Kp a H (upd H10 wi (.lst (((wf i ++ (Gv.flat La).map s.base).map fun x : Nat => V.int (x : Int)) ++ zs))) := (kp7.trans (Kp.of (k79.trans k10))).mut hwi0
          have tx10 : Gw.Tx H4 (upd H10 wi (.lst (((wf i ++ (Gv.flat La).map s.base).map fun x : Nat => V.int (x : Int)) ++ zs))) := tx7.trans ((Gw.Tx.of (k79.trans k10)).trans (Gw.Tx.mut (k10 _ _ w9) fun _ q => nomatch q))
          have w10 : (upd H10 wi (.lst (((wf i ++ (Gv.flat La).map s.base).map fun x : Nat => V.int (x : Int)) ++ zs))) wi = some (.lst ((wf i ++ (Gv.flat (La ++ [(v1', x)])).map s.base).map fun x : Nat => V.int (x : Int))) := by
            rw [upd_same, dnl_nats_inv (l := [s.base v1', s.base x]) d10, Gv.flat_app]
            simp [Gv.flat_cons, Gv.flat_nil]
          generalize upd H10 wi (.lst (((wf i ++ (Gv.flat La).map s.base).map fun x : Nat => V.int (x : Int)) ++ zs)) = H11 at at10 kp10 tx10 w10 ⊢
          have g5 : ED (tVar 5) [some (.ref a.p), some (.int (one : Int)), some (.int (other : Int)), some (.int (top : Int)), some (.ref wi), some (.int ((v1' : Nat) : Int)), some (.int ((b1 : Nat) : Int)), some (.int ((x : Nat) : Int))] H11 (nI v1') := ed_var rfl (.int _)
          have g6 : ED (tVar 6) [some (.ref a.p), some (.int (one : Int)), some (.int (other : Int)), some (.int (top : Int)), some (.ref wi), some (.int ((v1' : Nat) : Int)), some (.int ((b1 : Nat) : Int)), some (.int ((x : Nat) : Int))] H11 (nI b1) := ed_var rfl (.int _)
          refine r_seq (r_store g6 (ev_fld (ev_var rfl) at10.ob R.cl R.back (l_back a root)) g5 at10.bk (by rw [lV_len]; exact hv1) fun v12 H12 k12 d12 => ?_)
          rw [d12.int_inv, lV_set]
          have at12 := (at10.ex k12).setB (bk := Gv.upd bk1 v1' (some b1))
          have ebk : (lV n fun y => if y = v1' then V.int (b1 : Int) else oV (bk1 y)) = lV n fun y => oV (Gv.upd bk1 v1' (some b1) y) := lV_congr fun y _ => by
            unfold Gv.upd
            split <;> rfl
          rw [ebk]
          have kp12 : Kp a H (upd H12 a.B (.lst (lV n fun y => oV (Gv.upd bk1 v1' (some b1) y)))) := (kp10.trans (Kp.of k12)).trans Kp.uB
          have tx12 : Gw.Tx H4 (upd H12 a.B (.lst (lV n fun y => oV (Gv.upd bk1 v1' (some b1) y)))) := tx10.trans ((Gw.Tx.of k12).trans (Gw.Tx.mut (k12 _ _ at10.bk) fun _ q => nomatch q))
          have w12 : (upd H12 a.B (.lst (lV n fun y => oV (Gv.upd bk1 v1' (some b1) y)))) wi = some (.lst ((wf i ++ (Gv.flat (La ++ [(v1', x)])).map s.base).map fun x : Nat => V.int (x : Int))) := by
            rw [upd_ne nb.2.2.2.1]
            exact k12 _ _ w10
          generalize upd H12 a.B (.lst (lV n fun y => oV (Gv.upd bk1 v1' (some b1) y))) = H13 at at12 kp12 tx12 w12 ⊢
          have h7 : ED (tVar 7) [some (.ref a.p), some (.int (one : Int)), some (.int (other : Int)), some (.int (top : Int)), some (.ref wi), some (.int ((v1' : Nat) : Int)), some (.int ((b1 : Nat) : Int)), some (.int ((x : Nat) : Int))] H13 (nI x) := ed_var rfl (.int _)
          have hxb : Gv.upd bk1 v1' (some b1) x = some u := by
            rw [Gv.upd_ne hvx, bk7 (v1', x) (List.mem_cons_self ..), hbk]
          refine r_par (d1 := nI x) (d2 := nI u) h7 ((at12.e_back R rfl h7 hx).is (by show oI (Gv.upd bk1 v1' (some b1) x) = _; rw [hxb]; rfl)) fun v14 v15 H14 k14 d14 d15 => ?_
          rw [d14.int_inv, d15.int_inv]
          refine ⟨Lc.length, Nat.lt_succ_self _, u, x, _, La ++ [(v1', x)], Lc, Gv.upd bk1 v1' (some b1), rfl, by rw [eL]; simp, kp12.trans (Kp.of k14), tx12.trans (Gw.Tx.of k14), at12.ex k14, k14 _ _ w12, ⟨al8, ?_, fun p hp => ne7 p (List.mem_cons_of_mem _ hp), be7, fun z hz => lt7 z (by
            rw [Gv.flat_cons]
            exact List.mem_cons_of_mem _ (List.mem_cons_of_mem _ hz)), fun p hp => ?_⟩, hsb, rfl⟩
          · exact (List.nodup_cons.mp (List.nodup_cons.mp nd7).2).2
          · rw [Gv.upd_ne, bk7 p (List.mem_cons_of_mem _ hp)]
            intro z
            refine (List.nodup_cons.mp nd7).1 ?_
            rw [← z]
            exact List.mem_cons_of_mem _ (Gv.mem_flat2 hp)
      · have hnt : s.base v1' = top := by simpa using hb
        have eb : Lb = [] := by
          cases Lb with
          | nil => rfl
          | cons p r =>
            have := sd7.al
            cases this with
            | step _ _ _ => exact absurd hnt (sd7.ne _ (List.mem_cons_self ..))
        subst eb
        rw [List.append_nil] at eL
        subst eL
        have hsb : bk1 = bkf (i + 1) := by rw [hnb]; exact hsb
        subst hsb
        exact ⟨⟨_, _, _, rfl⟩, kp7.trans (Kp.of k8), tx7.trans (Gw.Tx.of k8), at7.ex k8, by rw [k8 _ _ w7, hnw]⟩
    · rintro σ' H8 ⟨⟨x5, x6, x7, rfl⟩, kp8, tx8, at8, w8⟩
      change At C n ne root mate a H8 { s with back := (Gv.shr s one other top L1 L2).back } left at at8
      change H8 wi = some (.lst ((Gv.within s L1 L2).map fun x : Nat => V.int (x : Int))) at w8
      generalize hW : Gv.within s L1 L2 = W at w8 hq
      generalize hbk : (Gv.shr s one other top L1 L2).back = bk at at8
      refine r_forT (ds := (List.range n).map nI) (et_range1 (at8.e_lenNear R rfl hne) (by omega)) fun H9 k9 => ⟨fun i σ' H' => (∃ x5, σ' = [some (.ref a.p), some (.int (one : Int)), some (.int (other : Int)), some (.int (top : Int)), some (.ref wi), x5, x6, x7]) ∧ Kp a H H' ∧ Gw.Tx H9 H' ∧
          At C n ne root mate a H' ⟨bk, fun x => if x < i ∧ s.base x ∈ W then top else s.base x, fun x => s.even x || (decide (x < i) && decide (s.base x ∈ W))⟩ (left ++ (List.range i).filter fun x => decide (s.base x ∈ W) && !s.even x) ∧ H' wi = some (.lst (W.map fun x : Nat => V.int (x : Int))),
          ⟨⟨x5, rfl⟩, kp8.trans (Kp.of k9), Gw.Tx.refl _, ?_, k9 _ _ w8⟩, fun i σ' H' z => z.2.2.1, ?_, ?_⟩
      · have z := (at8.ex k9).congr (s' := ⟨bk, fun x => if x < 0 ∧ s.base x ∈ W then top else s.base x, fun x => s.even x || (decide (x < 0) && decide (s.base x ∈ W))⟩) (fun _ _ => rfl) (fun x _ => by simp) (fun x _ => by simp)
        simpa using z
      · rintro i d x σ' H10 H11 hd ⟨⟨y5, rfl⟩, kp10, tx10, at10, w10⟩ k11 dx
        have hi : i < n := by
          have := (List.getElem?_eq_some_iff.mp hd).1
          rwa [List.length_map, List.length_range] at this
        rw [rg_get hi] at hd
        cases hd
        refine g_name _ ?_
        rw [dx.int_inv]
        have at11 := at10.ex k11
        have w11 := k11 _ _ w10
        have kp11 := kp10.trans (Kp.of k11)
        have tx11 := tx10.trans (Gw.Tx.of k11)
        have e5 : ED (tVar 5) [some (.ref a.p), some (.int (one : Int)), some (.int (other : Int)), some (.int (top : Int)), some (.ref wi), some (.int ((i : Nat) : Int)), x6, x7] H11 (nI i) := ed_var rfl (.int _)
        have eb : ED _ _ _ (nI (s.base i)) := (at11.e_base R rfl e5 hi).is (by show nI (if i < i ∧ s.base i ∈ W then top else s.base i) = _; rw [if_neg (fun z => Nat.lt_irrefl _ z.1)])
        have w11' : H11 wi = some (.lst ((W.map fun x : Nat => (x : Int)).map V.int)) := by
          rw [w11, List.map_map]
          rfl
        have flt : (List.range (i + 1)).filter (fun x => decide (s.base x ∈ W) && !s.even x) = (List.range i).filter (fun x => decide (s.base x ∈ W) && !s.even x) ++ (if s.base i ∈ W ∧ s.even i = false then [i] else []) := by
          rw [List.range_succ, List.filter_append]
          congr 1
          by_cases q1 : s.base i ∈ W <;> cases q2 : s.even i <;> simp [q1, q2]
        refine r_if (b := decide (s.base i ∈ W)) (et_ed ((ed_inL (a := wi) eb (ev_var rfl) w11').is (by simp only [mem_cast]))) (fun hb H12 k12 => ?_) (fun hb H12 k12 => ?_)
        · have hb : s.base i ∈ W := of_decide_eq_true hb
          have at12 := at11.ex k12
          have e3 : ED (tVar 3) [some (.ref a.p), some (.int (one : Int)), some (.int (other : Int)), some (.int (top : Int)), some (.ref wi), some (.int ((i : Nat) : Int)), x6, x7] H12 (nI top) := ed_var rfl (.int _)
          refine r_seq (r_store e3 (ev_fld (ev_var rfl) at12.ob R.cl R.base (l_base a root)) (e5.mono k12) at12.bs (by rw [lV_len]; exact hi) fun v13 H13 k13 d13 => ?_)
          rw [d13.int_inv, lV_set]
          have ebs : (lV n fun y => if y = i then V.int (top : Int) else V.int ((if y < i ∧ s.base y ∈ W then top else s.base y : Nat) : Int)) = lV n fun y => V.int ((if y < i + 1 ∧ s.base y ∈ W then top else s.base y : Nat) : Int) := lV_congr fun y _ => by
            by_cases e : y = i
            · subst e
              simp [hb]
            · have : (y < i + 1 ∧ s.base y ∈ W) ↔ (y < i ∧ s.base y ∈ W) := by constructor <;> rintro ⟨z1, z2⟩ <;> exact ⟨by omega, z2⟩
              simp only [if_neg e, this]
          have at13 := (at12.ex k13).setS (bs := fun y => if y < i + 1 ∧ s.base y ∈ W then top else s.base y)
          rw [ebs]
          have kp13 := (kp11.trans (Kp.of (k12.trans k13))).trans (Kp.uS (a := a) (o := .lst (lV n fun y => V.int ((if y < i + 1 ∧ s.base y ∈ W then top else s.base y : Nat) : Int))))
          have tx13 : Gw.Tx H9 (upd H13 a.S (.lst (lV n fun y => V.int ((if y < i + 1 ∧ s.base y ∈ W then top else s.base y : Nat) : Int)))) := tx11.trans ((Gw.Tx.of (k12.trans k13)).trans (Gw.Tx.mut (k13 _ _ at12.bs) fun _ q => nomatch q))
          have w13 : (upd H13 a.S (.lst (lV n fun y => V.int ((if y < i + 1 ∧ s.base y ∈ W then top else s.base y : Nat) : Int)))) wi = some (.lst (W.map fun x : Nat => V.int (x : Int))) := by
            rw [upd_ne nb.2.2.2.2.1]
            exact (k12.trans k13) _ _ w11
          generalize upd H13 a.S (.lst (lV n fun y => V.int ((if y < i + 1 ∧ s.base y ∈ W then top else s.base y : Nat) : Int))) = H14 at at13 kp13 tx13 w13 ⊢
          have f5 : ED (tVar 5) [some (.ref a.p), some (.int (one : Int)), some (.int (other : Int)), some (.int (top : Int)), some (.ref wi), some (.int ((i : Nat) : Int)), x6, x7] H14 (nI i) := ed_var rfl (.int _)
          refine r_if (b := !s.even i) (et_not (et_edB ((at13.e_even R rfl f5 hi).is (congrArg PyData.bool (by simp))))) (fun hc H15 k15 => ?_) (fun hc H15 k15 => ?_)
          · have hc : s.even i = false := by simpa using hc
            have at15 := at13.ex k15
            refine r_seq (r_store (d := .bool true) ed_bl (ev_fld (ev_var rfl) at15.ob R.cl R.even (l_even a root)) (f5.mono k15) at15.ev (by rw [lV_len]; exact hi) fun v16 H16 k16 d16 => ?_)
            rw [d16.bl_inv, lV_set]
            have eev : (lV n fun y => if y = i then V.bl true else V.bl (s.even y || (decide (y < i) && decide (s.base y ∈ W)))) = lV n fun y => V.bl (s.even y || (decide (y < i + 1) && decide (s.base y ∈ W))) := lV_congr fun y _ => by
              by_cases e : y = i
              · subst e
                simp [hb]
              · have : decide (y < i + 1) = decide (y < i) := by simp; omega
                rw [if_neg e, this]
            have at16 := (at15.ex k16).setV (ev := fun y => s.even y || (decide (y < i + 1) && decide (s.base y ∈ W)))
            rw [eev]
            have kp16 := (kp13.trans (Kp.of (k15.trans k16))).trans (Kp.uV (a := a) (o := .lst (lV n fun y => V.bl (s.even y || (decide (y < i + 1) && decide (s.base y ∈ W))))))
            have tx16 : Gw.Tx H9 (upd H16 a.V (.lst (lV n fun y => V.bl (s.even y || (decide (y < i + 1) && decide (s.base y ∈ W)))))) := tx13.trans ((Gw.Tx.of (k15.trans k16)).trans (Gw.Tx.mut (k16 _ _ at15.ev) fun _ q => nomatch q))
            have w16 : (upd H16 a.V (.lst (lV n fun y => V.bl (s.even y || (decide (y < i + 1) && decide (s.base y ∈ W)))))) wi = some (.lst (W.map fun x : Nat => V.int (x : Int))) := by
              rw [upd_ne nb.2.2.2.2.2.1]
              exact (k15.trans k16) _ _ w13
            generalize upd H16 a.V (.lst (lV n fun y => V.bl (s.even y || (decide (y < i + 1) && decide (s.base y ∈ W))))) = H17 at at16 kp16 tx16 w16 ⊢
            have h5 : ED (tVar 5) [some (.ref a.p), some (.int (one : Int)), some (.int (other : Int)), some (.int (top : Int)), some (.ref wi), some (.int ((i : Nat) : Int)), x6, x7] H17 (nI i) := ed_var rfl (.int _)
            refine r_append (d := nI i) (ev_fld (ev_var rfl) at16.ob R.cl R.left (l_left a root)) h5 at16.lf ?_ fun v18 H18 k18 d18 => ?_
            · have := List.length_filter_le (fun x => decide (s.base x ∈ W) && !s.even x) (List.range i)
              rw [List.length_range] at this
              rw [List.length_map, List.length_append]
              omega
            · rw [d18.int_inv]
              have at18 := (at16.ex k18).setL (l' := left ++ (List.range (i + 1)).filter fun x => decide (s.base x ∈ W) && !s.even x)
              have el : (left ++ (List.range (i + 1)).filter fun x => decide (s.base x ∈ W) && !s.even x).map (fun x : Nat => V.int (x : Int)) = (left ++ (List.range i).filter fun x => decide (s.base x ∈ W) && !s.even x).map (fun x : Nat => V.int (x : Int)) ++ [V.int (i : Int)] := by
                rw [flt, if_pos ⟨hb, hc⟩, ← List.append_assoc, List.map_append]
                rfl
              rw [el] at at18
              refine ⟨⟨_, rfl⟩, (kp16.trans (Kp.of k18)).trans Kp.uL, tx16.trans ((Gw.Tx.of k18).trans (Gw.Tx.mut (k18 _ _ at16.lf) fun _ q => nomatch q)), at18, ?_⟩
              rw [upd_ne nb.2.2.2.2.2.2]
              exact k18 _ _ w16
          · have hc : s.even i = true := by simpa using hc
            refine ⟨⟨_, rfl⟩, kp13.trans (Kp.of k15), tx13.trans (Gw.Tx.of k15), ?_, k15 _ _ w13⟩
            have z := (at13.ex k15).congr (s' := ⟨bk, fun x => if x < i + 1 ∧ s.base x ∈ W then top else s.base x, fun x => s.even x || (decide (x < i + 1) && decide (s.base x ∈ W))⟩) (fun _ _ => rfl) (fun x _ => rfl) (fun x _ => by
              show (s.even x || (decide (x < i + 1) && decide (s.base x ∈ W))) = (s.even x || (decide (x < i) && decide (s.base x ∈ W)))
              by_cases e : x = i
              · subst e
                simp [hc]
              · have : decide (x < i + 1) = decide (x < i) := by simp; omega
                rw [this])
            rw [flt, if_neg (fun z => by rw [hc] at z; exact absurd z.2 (by decide)), List.append_nil]
            exact z
        · have hb : s.base i ∉ W := of_decide_eq_false hb
          refine ⟨⟨_, rfl⟩, kp11.trans (Kp.of k12), tx11.trans (Gw.Tx.of k12), ?_, k12 _ _ w11⟩
          have z := (at11.ex k12).congr (s' := ⟨bk, fun x => if x < i + 1 ∧ s.base x ∈ W then top else s.base x, fun x => s.even x || (decide (x < i + 1) && decide (s.base x ∈ W))⟩) (fun _ _ => rfl) (fun x _ => by
            show (if x < i + 1 ∧ s.base x ∈ W then top else s.base x) = (if x < i ∧ s.base x ∈ W then top else s.base x)
            by_cases e : x = i
            · subst e
              simp [hb]
            · have : (x < i + 1 ∧ s.base x ∈ W) ↔ (x < i ∧ s.base x ∈ W) := by constructor <;> rintro ⟨z1, z2⟩ <;> exact ⟨by omega, z2⟩
              simp only [this]) (fun x _ => by
            show (s.even x || (decide (x < i + 1) && decide (s.base x ∈ W))) = (s.even x || (decide (x < i) && decide (s.base x ∈ W)))
            by_cases e : x = i
            · subst e
              simp [hb]
            · have : decide (x < i + 1) = decide (x < i) := by simp; omega
              rw [this])
          rw [flt, if_neg (fun z => hb z.1), List.append_nil]
          exact z
      · rintro σ' H10 ⟨⟨y5, rfl⟩, kp10, tx10, at10, w10⟩
        refine hq H10 kp10 C1 C2 dis ?_
        rw [List.length_map, List.length_range] at at10
        have z := at10.congr (s' := Gv.shr s one other top L1 L2) (fun x _ => by rw [hbk]) (fun x hx => by
          show (if s.base x ∈ Gv.within s L1 L2 then top else s.base x) = (if x < n ∧ s.base x ∈ W then top else s.base x)
          rw [hW]
          simp [hx]) (fun x hx => by
          show (s.even x || decide (s.base x ∈ Gv.within s L1 L2)) = (s.even x || (decide (x < n) && decide (s.base x ∈ W)))
          rw [hW]
          simp [hx])
        unfold Gv.newEven
        exact z
end
end Gx
namespace Gx
open PySem L2 Evl Gw
section
variable {K : PySem.W.Frag} {σ : L2.St} {H H' : Hp} {ta tb te to : TE}
theorem ed_eqO {o : Option Nat} {z : Nat} (h : ED ta σ H (oI o)) (k : ED tb σ H (nI z)) : ED (tOp rEq ta tb) σ H (.bool (decide (o = some z))) := by
  cases o with
  | some m => exact (ed_eqN (m := m) (n := z) h k).is (congrArg PyData.bool (by simp))
  | none =>
    intro H1 a Q q
    refine h H1 a _ fun v H2 k1 k2 => k H2 (a.trans k1) _ fun w H3 l1 l2 => ?_
    rw [Dn.non_inv k2, l2.int_inv]
    refine ⟨rfl, ?_⟩
    have : decide (V.non = V.int (z : Int)) = decide ((none : Option Nat) = some z) := by simp
    rw [this]
    exact q _ H3 (k1.trans l1) (.bl _)
theorem ed_isO {o : Option Nat} (h : ED ta σ H (oI o)) : ED (tOp (fun x y H Q => y = .non ∧ Q (.bl (decide (x = .non))) H) ta (tC .non)) σ H (.bool (decide (o = none))) := fun H1 a Q q =>
  h H1 a _ fun v H2 k1 k2 => ⟨rfl, q _ H2 k1 (by
    cases o with
    | none => rw [Dn.non_inv k2]; exact .bl true
    | some m => rw [Dn.int_inv k2]; exact .bl false)⟩
theorem ed_noO {o : Option Nat} (h : ED ta σ H (oI o)) : ED (tOp (fun x y H Q => y = .non ∧ Q (.bl (!decide (x = .non))) H) ta (tC .non)) σ H (.bool (!decide (o = none))) := fun H1 a Q q =>
  h H1 a _ fun v H2 k1 k2 => ⟨rfl, q _ H2 k1 (by
    cases o with
    | none => rw [Dn.non_inv k2]; exact .bl false
    | some m => rw [Dn.int_inv k2]; exact .bl true)⟩
end
section
variable {P : Program} {w : World} {K : PySem.W.Frag} {mg : Str → Option Value} {base : Heap} {C : Addr}
/-! ### run -/
/-- what stands when the search has reached somebody without a mate: s, but for the last back -/
structure Fd (n : Nat) (adj : Nat → Nat → Prop) (mate : Nat → Option Nat) (root : Nat) (s : Gv.SS) (one z : Nat) : Prop where
  si : ∃ rk, Gv.SI n adj mate root rk s
  e1 : s.even one = true
  e2 : s.even z = false
  ad : adj one z
  mt : mate z = none
  mo : mate one ≠ some z
def spRun (C : Addr) : Sp := fun vs H Q _ => ∃ n E adj root mate a, vs = [.ref a.p, .bl true] ∧ At C n (near n E) root mate a H (Gv.ini root) [root] ∧ n ≤ 100 ∧ Gv.Gr n adj ∧ Gv.Mt n adj mate ∧ mate root = none ∧ root < n ∧ (∀ u z, u < n → (z ∈ nbr E u ↔ adj u z)) ∧
  (∀ H' s left, Kp a H H' → At C n (near n E) root mate a H' s left → Gv.RI n adj mate root s left left.length → (∀ v ∈ left, v < n) → Q .non H') ∧
  (∀ z H' s left one, Kp a H H' → At C n (near n E) root mate a H' { s with back := Gv.upd s.back z (some one) } left → Fd n adj mate root s one z → Q (.int ((z : Nat) : Int)) H')
theorem near_len {n : Nat} {E : List (Nat × Nat)} : (near n E).length = n := by
  unfold near
  rw [List.length_map, List.length_range]
theorem ok_run (T : Txt K mg) (R : SrT K C) (D : Mf K C "run" "Search.run" s_S_run ["self", "is_growing"]) (C_shrink : C8.Met P w K mg base 2 C "shrink" (spShrink C) []) : C8.Met P w K mg base 3 C "run" (spRun C) [] := by
  refine D.met R.cl sc_S_run (fun vs H Q E h => by obtain ⟨n, ed, adj, root, mate, a, rfl, _⟩ := h; rfl) (fun f cdv A outer sh H vs Q E hr h => ?_)
  obtain ⟨n, ed, adj, root, mate, a, rfl, h, hn, g, M, M0, hrt, hadj, q1, q2⟩ := h
  · have nd := sc_S_run.nd
    refine ⟨_, (pss_cons (ps_set (i := 2) nd rfl (by first | exact .inl rfl | exact .inr rfl) pe_int)
      (pss_cons (ps_while PassesOwn.never (pt_cmpR op_lt (pv 2) (pe_callB (r := rLenS K) call_len_seq (by rfl) T.nb.len bt_len (pa_cons (pe_fld (pv 0) rfl) pa_nil)) (nomark _)) (pss_cons (ps_set (i := 3) nd rfl (by first | exact .inl rfl | exact .inr rfl) (pe_ix (r := rIxL K) ix_list (pe_fld (pv 0) rfl) (pv 2) (fun _ _ => rfl)))
      (pss_cons (ps_set (i := 2) nd rfl (by first | exact .inl rfl | exact .inr rfl) (pe_op op_add (pv 2) pe_int))
      (pss_one (ps_for PassesOwn.never rfl (pi_tup (pe_ix (r := rIxL K) ix_list (pe_fld (pv 0) rfl) (pv 3) (fun _ _ => rfl))) (pg_name (i := 4) nd rfl (by first | exact .inl rfl | exact .inr rfl)) (pss_cons (ps_if ((pw_or (pt_cmpR op_eq (pe_ix (r := rIxL K) ix_list (pe_fld (pv 0) rfl) (pv 3) (fun _ _ => rfl)) (pe_ix (r := rIxL K) ix_list (pe_fld (pv 0) rfl) (pv 4) (fun _ _ => rfl)) (nomark _)) (pw_or1 (pt_cmpR op_eq (pe_ix (r := rIxL K) ix_list (pe_fld (pv 0) rfl) (pv 3) (fun _ _ => rfl)) (pv 4) (nomark _)))).pt) (pss_one ps_continue) pss_nil)
      (pss_one (ps_if (pt_val (pe_ix (r := rIxL K) ix_list (pe_fld (pv 0) rfl) (pv 4) (fun _ _ => rfl))) (pss_one (ps_expr (C8.pe_mt C_shrink hr (by decide) (pv 0) (pa_cons (pv 3) (pa_cons (pv 4) pa_nil))))) (pss_one (ps_if ((pw_and (pt_cmpR op_isN (pe_ix (r := rIxL K) ix_list (pe_fld (pv 0) rfl) (pv 4) (fun _ _ => rfl)) pe_non (nomark _)) (pw_and1 (pt_cmpR op_notN (pe_ix (r := rIxL K) ix_list (pe_fld (pv 0) rfl) (pv 4) (fun _ _ => rfl)) pe_non (nomark _)))).pt) (pss_cons (ps_asg (pv 3) (pg_sub (pe_fld (pv 0) rfl) (pv 4) set_list) rfl)
      (pss_cons (ps_asg pe_bl (pg_sub (pe_fld (pv 0) rfl) (pe_ix (r := rIxL K) ix_list (pe_fld (pv 0) rfl) (pv 4) (fun _ _ => rfl)) set_list) rfl)
      (pss_one (ps_expr (pe_bm PySem.F.plainAttrs_list PySem.F.slot_list_append PySem.F.type_list_append mt_append (pe_fld (pv 0) rfl) (pa_cons (pe_ix (r := rIxL K) ix_list (pe_fld (pv 0) rfl) (pv 4) (fun _ _ => rfl)) pa_nil)))))) (pss_one (ps_if ((pw_and (pt_val (pv 1)) (pw_and1 (pt_cmpR op_isN (pe_ix (r := rIxL K) ix_list (pe_fld (pv 0) rfl) (pv 4) (fun _ _ => rfl)) pe_non (nomark _)))).pt) (pss_cons (ps_asg (pv 3) (pg_sub (pe_fld (pv 0) rfl) (pv 4) set_list) rfl)
      (pss_one (ps_ret (pv 4)))) pss_nil))))))))))))
      (pss_one (ps_ret pe_non)))), ?_⟩
    refine r_seqD (d := nI 0) ed_int fun v1 H1 k1 d1 => ?_
    rw [d1.int_inv]
    refine r_seq (r_while (fun m σ' H' => ∃ k x3 x4 s left, σ' = [some (.ref a.p), some (.bl true), some (.int ((k : Nat) : Int)), x3, x4] ∧ Kp a H H' ∧ At C n (near n ed) root mate a H' s left ∧ Gv.RI n adj mate root s left k ∧ (∀ v ∈ left, v < n) ∧ m = n - k) (m0 := n)
      ⟨0, none, none, Gv.ini root, [root], rfl, Kp.of k1, h.ex k1, Gv.RI.ini hrt, fun v hv => by simp at hv; subst hv; exact hrt, by omega⟩ ?_)
    rintro m σ' H2 ⟨k, x3, x4, s, left, rfl, kp2, at2, ri2, lt2, rfl⟩
    have i2 : ED (tVar 2) [some (.ref a.p), some (.bl true), some (.int ((k : Nat) : Int)), x3, x4] H2 (nI k) := ed_var rfl (.int _)
    have hll : left.length ≤ n := lt_len ri2.nd lt2
    refine ⟨decide (k < left.length), et_ed ((ed_lt i2 (at2.e_lenLeft R rfl)).is (congrArg PyData.bool (by congr 1; exact propext (by omega)))), fun hb H3 k3 => ?_, fun hb H3 k3 => ?_⟩
    · have hk : k < left.length := of_decide_eq_true hb
      have at3 := at2.ex k3
      obtain ⟨one, hone⟩ : ∃ one, left[k]? = some one := ⟨left[k], List.getElem?_eq_getElem hk⟩
      have hl1 : one < n := lt2 one (List.mem_of_getElem? hone)
      refine r_seqD (at3.e_left R rfl (i2.mono k3) hone) fun v4 H4 k4 d4 => ?_
      rw [d4.int_inv]
      have j2 : ED (tVar 2) [some (.ref a.p), some (.bl true), some (.int ((k : Nat) : Int)), some (.int ((one : Nat) : Int)), x4] H4 (nI k) := ed_var rfl (.int _)
      refine r_seqD (d := nI (k + 1)) ((ed_add j2 ed_int).is rfl) fun v5 H5 k5 d5 => ?_
      rw [d5.int_inv]
      have at5 := (at3.ex k4).ex k5
      have kp5 := kp2.trans (Kp.of ((k3.trans k4).trans k5))
      have j3 : ED (tVar 3) [some (.ref a.p), some (.bl true), some (.int ((k + 1 : Nat) : Int)), some (.int ((one : Nat) : Int)), x4] H5 (nI one) := ed_var rfl (.int _)
      have hnear : (near n ed)[one]? = some (nT (nbr ed one)) := rg_get hl1
      refine r_forT (ds := (nbr ed one).map nI) (et_tup (at5.e_near R rfl j3 hnear)) fun H6 k6 => ⟨fun i σ' H' => ∃ y4 s left, σ' = [some (.ref a.p), some (.bl true), some (.int ((k + 1 : Nat) : Int)), some (.int ((one : Nat) : Int)), y4] ∧ Kp a H H' ∧ Gw.Tx H6 H' ∧
          At C n (near n ed) root mate a H' s left ∧ Gv.RI n adj mate root s left k ∧ Gv.Cur mate s left k one ((nbr ed one).take i) ∧ (∀ v ∈ left, v < n),
          ⟨x4, s, left, rfl, kp5.trans (Kp.of k6), Gw.Tx.refl _, at5.ex k6, ri2, ⟨hone, fun z hz => by simp at hz, fun z hz => by simp at hz⟩, lt2⟩, fun i σ' H' z => by obtain ⟨_, _, _, _, _, tx, _⟩ := z; exact tx, ?_, ?_⟩
      · clear at5 at3 at2 ri2 lt2 hll kp5 kp2 hone hb hk
        rintro i d x σ' H7 H8 hd ⟨y4, s, left, rfl, kp7, tx7, at7, ri, cur, lt7⟩ k8 dx
        rw [List.getElem?_map] at hd
        cases hz : (nbr ed one)[i]? with
        | none => rw [hz] at hd; cases hd
        | some z =>
          rw [hz] at hd
          cases hd
          refine g_name _ ?_
          rw [dx.int_inv]
          have tk : (nbr ed one).take (i + 1) = (nbr ed one).take i ++ [z] := by rw [List.take_add_one, hz] <;> rfl
          have ha : adj one z := (hadj one z hl1).mp (List.mem_of_getElem? hz)
          have hlz : z < n := g.lt _ _ (g.sym _ _ ha)
          have at8 := at7.ex k8
          have kp8 := kp7.trans (Kp.of k8)
          have tx8 := tx7.trans (Gw.Tx.of k8)
          have u3 : ED (tVar 3) [some (.ref a.p), some (.bl true), some (.int ((k + 1 : Nat) : Int)), some (.int ((one : Nat) : Int)), some (.int ((z : Nat) : Int))] H8 (nI one) := ed_var rfl (.int _)
          have u4 : ED (tVar 4) [some (.ref a.p), some (.bl true), some (.int ((k + 1 : Nat) : Int)), some (.int ((one : Nat) : Int)), some (.int ((z : Nat) : Int))] H8 (nI z) := ed_var rfl (.int _)
          have hll : left.length ≤ n := lt_len ri.nd lt7
          refine r_seqIf (b := decide (s.base one = s.base z) || decide (mate one = some z)) (et_or (et_ed (ed_eqN (at8.e_base R rfl u3 hl1) (at8.e_base R rfl u4 hlz))) fun _ => et_ed (ed_eqO (at8.e_mate R rfl u3 hl1) u4)) (fun hb H9 k9 => ?_) fun hb H9 k9 => ?_
          · have hb : s.base one = s.base z ∨ mate one = some z := by simpa using hb
            refine ⟨_, s, left, rfl, kp8.trans (Kp.of k9), tx8.trans (Gw.Tx.of k9), at8.ex k9, ri, ?_, lt7⟩
            rw [tk]
            exact cur.skip M M0 ri hb
          · have hb : s.base one ≠ s.base z ∧ mate one ≠ some z := by simpa using hb
            obtain ⟨hbs, hmo⟩ := hb
            have at9 := at8.ex k9
            have kp9 := kp8.trans (Kp.of k9)
            have tx9 := tx8.trans (Gw.Tx.of k9)
            have w3 := u3.mono k9
            have w4 := u4.mono k9
            have hev1 := cur.one_even ri
            refine r_if (et_edB (at9.e_even R rfl w4 hlz)) (fun hc H10 k10 => ?_) fun hc H10 k10 => ?_
            · -- shrink
              obtain ⟨rk, I⟩ := ri.si
              have at10 := at9.ex k10
              refine m_call (ev_var rfl) at10.ob (l_no a root).2.2.1 (eda_cons (w3.mono k10) (eda_cons (w4.mono k10) eda_nil)) fun vs11 H11 k11 d11 => ?_
              rw [dnl_nats_inv (l := [one, z]) d11]
              refine ⟨n, adj, near n ed, root, mate, rk, a, s, left, one, z, rfl, at10.ex k11, near_len, hn, g, M, M0, hrt, I, hev1, hc, hl1, hlz, by omega, fun top H' L1 e1 bs1 L2 e2 bs2 kp c1 c2 dis at' => ?_⟩
              obtain ⟨r1, r2⟩ := Gv.step_shrink g M M0 ri cur I ha hmo c1 c2 dis
              refine ⟨_, _, _, rfl, (kp9.trans (Kp.of (k10.trans k11))).trans kp, (tx9.trans (Gw.Tx.of (k10.trans k11))).trans (kp.tx (at10.ex k11)), at', r1, by rw [tk]; exact r2, fun v hv => ?_⟩
              rcases List.mem_append.mp hv with hv | hv
              · exact lt7 v hv
              · unfold Gv.newEven at hv
                exact List.mem_range.mp (List.mem_filter.mp hv).1
            · have at10 := at9.ex k10
              have kp10 := kp9.trans (Kp.of k10)
              have tx10 := tx9.trans (Gw.Tx.of k10)
              have y3 := w3.mono k10
              have y4 := w4.mono k10
              refine r_if (b := decide (s.back z = none) && !decide (mate z = none)) (et_and (et_ed (ed_isO (at10.e_back R rfl y4 hlz))) fun _ => et_ed (ed_noO (at10.e_mate R rfl y4 hlz))) (fun hd H11 k11 => ?_) fun hd H11 k11 => ?_
              · -- grow
                have hd : s.back z = none ∧ mate z ≠ none := by simpa using hd
                obtain ⟨hbn, hmz⟩ := hd
                obtain ⟨m, hm⟩ : ∃ m, mate z = some m := by
                  cases q : mate z with
                  | none => exact absurd q hmz
                  | some m => exact ⟨m, rfl⟩
                obtain ⟨r1, r2⟩ := Gv.step_grow g M M0 ri cur ha hmo hc hbn hm
                have hlm : m < n := (mate_lt g M hm).2
                have at11 := at10.ex k11
                refine r_seq (r_store (y3.mono k11) (ev_fld (ev_var rfl) at11.ob R.cl R.back (l_back a root)) (y4.mono k11) at11.bk (by rw [lV_len]; exact hlz) fun v12 H12 k12 d12 => ?_)
                rw [d12.int_inv, lV_set]
                have at12 := (at11.ex k12).setB (bk := Gv.upd s.back z (some one))
                have ebk : (lV n fun y => if y = z then V.int (one : Int) else oV (s.back y)) = lV n fun y => oV (Gv.upd s.back z (some one) y) := lV_congr fun y _ => by
                  unfold Gv.upd
                  split <;> rfl
                rw [ebk]
                have kp12 := (kp10.trans (Kp.of (k11.trans k12))).trans (Kp.uB (a := a) (o := .lst (lV n fun y => oV (Gv.upd s.back z (some one) y))))
                have tx12 : Gw.Tx H6 (upd H12 a.B (.lst (lV n fun y => oV (Gv.upd s.back z (some one) y)))) := tx10.trans ((Gw.Tx.of (k11.trans k12)).trans (Gw.Tx.mut (k12 _ _ at11.bk) fun _ q => nomatch q))
                generalize upd H12 a.B (.lst (lV n fun y => oV (Gv.upd s.back z (some one) y))) = H13 at at12 kp12 tx12 ⊢
                have z4 : ED (tVar 4) [some (.ref a.p), some (.bl true), some (.int ((k + 1 : Nat) : Int)), some (.int ((one : Nat) : Int)), some (.int ((z : Nat) : Int))] H13 (nI z) := ed_var rfl (.int _)
                refine r_seq (r_store (d := .bool true) ed_bl (ev_fld (ev_var rfl) at12.ob R.cl R.even (l_even a root)) ((at12.e_mate R rfl z4 hlz).is (e := nI m) (by rw [hm]; rfl)) at12.ev (by rw [lV_len]; exact hlm) fun v14 H14 k14 d14 => ?_)
                rw [d14.bl_inv, lV_set]
                have at14 := (at12.ex k14).setV (ev := (Gv.grw mate s one z m).even)
                have eev : (lV n fun y => if y = m then V.bl true else V.bl (s.even y)) = lV n fun y => V.bl ((Gv.grw mate s one z m).even y) := lV_congr fun y _ => by
                  show _ = V.bl (s.even y || decide (y = m))
                  by_cases e : y = m <;> simp [e]
                rw [eev]
                have kp14 := (kp12.trans (Kp.of k14)).trans (Kp.uV (a := a) (o := .lst (lV n fun y => V.bl ((Gv.grw mate s one z m).even y))))
                have tx14 : Gw.Tx H6 (upd H14 a.V (.lst (lV n fun y => V.bl ((Gv.grw mate s one z m).even y)))) := tx12.trans ((Gw.Tx.of k14).trans (Gw.Tx.mut (k14 _ _ at12.ev) fun _ q => nomatch q))
                generalize upd H14 a.V (.lst (lV n fun y => V.bl ((Gv.grw mate s one z m).even y))) = H15 at at14 kp14 tx14 ⊢
                have z5 : ED (tVar 4) [some (.ref a.p), some (.bl true), some (.int ((k + 1 : Nat) : Int)), some (.int ((one : Nat) : Int)), some (.int ((z : Nat) : Int))] H15 (nI z) := ed_var rfl (.int _)
                refine r_append (d := nI m) (ev_fld (ev_var rfl) at14.ob R.cl R.left (l_left a root)) ((at14.e_mate R rfl z5 hlz).is (by rw [hm]; rfl)) at14.lf (by rw [List.length_map]; omega) fun v16 H16 k16 d16 => ?_
                rw [d16.int_inv]
                have at16 := (at14.ex k16).setL (l' := left ++ [m])
                rw [List.map_append] at at16
                refine ⟨_, Gv.grw mate s one z m, left ++ [m], rfl, (kp14.trans (Kp.of k16)).trans Kp.uL, tx14.trans ((Gw.Tx.of k16).trans (Gw.Tx.mut (k16 _ _ at14.lf) fun _ q => nomatch q)), at16.congr (fun _ _ => rfl) (fun _ _ => rfl) (fun _ _ => rfl), r1, by rw [tk]; exact r2, fun v hv => ?_⟩
                rcases List.mem_append.mp hv with hv | hv
                · exact lt7 v hv
                · have : v = m := by simpa using hv
                  rw [this]
                  exact hlm
              · have at11 := at10.ex k11
                have kp11 := kp10.trans (Kp.of k11)
                have tx11 := tx10.trans (Gw.Tx.of k11)
                have b1 : ED (tVar 1) [some (.ref a.p), some (.bl true), some (.int ((k + 1 : Nat) : Int)), some (.int ((one : Nat) : Int)), some (.int ((z : Nat) : Int))] H11 (.bool true) := ed_var rfl (.bl _)
                refine r_if (b := true && decide (mate z = none)) (et_and (et_edB b1) fun _ => et_ed (ed_isO (at11.e_mate R rfl (y4.mono k11) hlz))) (fun he H12 k12 => ?_) fun he H12 k12 => ?_
                · have he : mate z = none := by simpa using he
                  obtain ⟨rk, I⟩ := ri.si
                  have at12 := at11.ex k12
                  refine r_seq (r_store ((y3.mono k11).mono k12) (ev_fld (ev_var rfl) at12.ob R.cl R.back (l_back a root)) ((y4.mono k11).mono k12) at12.bk (by rw [lV_len]; exact hlz) fun v13 H13 k13 d13 => ?_)
                  rw [d13.int_inv, lV_set]
                  have at13 := (at12.ex k13).setB (bk := Gv.upd s.back z (some one))
                  have ebk : (lV n fun y => if y = z then V.int (one : Int) else oV (s.back y)) = lV n fun y => oV (Gv.upd s.back z (some one) y) := lV_congr fun y _ => by
                    unfold Gv.upd
                    split <;> rfl
                  rw [ebk]
                  have kp13 := (kp11.trans (Kp.of (k12.trans k13))).trans (Kp.uB (a := a) (o := .lst (lV n fun y => oV (Gv.upd s.back z (some one) y))))
                  generalize upd H13 a.B (.lst (lV n fun y => oV (Gv.upd s.back z (some one) y))) = H14 at at13 kp13 ⊢
                  have z4 : ED (tVar 4) [some (.ref a.p), some (.bl true), some (.int ((k + 1 : Nat) : Int)), some (.int ((one : Nat) : Int)), some (.int ((z : Nat) : Int))] H14 (nI z) := ed_var rfl (.int _)
                  refine r_ret z4 fun v15 H15 k15 d15 => ?_
                  rw [d15.int_inv]
                  exact q2 z H15 s left one (kp13.trans (Kp.of k15)) (at13.ex k15) ⟨⟨rk, I⟩, hev1, hc, ha, he, hmo⟩
                · have he : mate z ≠ none := by simpa using he
                  have hd : s.back z ≠ none := fun q => by simp [q, he] at hd
                  refine ⟨_, s, left, rfl, kp11.trans (Kp.of k12), tx11.trans (Gw.Tx.of k12), at11.ex k12, ri, ?_, lt7⟩
                  rw [tk]
                  exact cur.seen ri hc hd he
      · rintro σ' H7 ⟨y4, s', left', rfl, kp7, tx7, at7, ri, cur, lt7⟩
        rw [List.length_map, List.take_length] at cur
        have hk' := cur.lt
        have hll' : left'.length ≤ n := lt_len ri.nd lt7
        exact ⟨n - (k + 1), by omega, k + 1, _, _, s', left', rfl, kp7, at7, ri.next M g cur fun z hz => (hadj one z hl1).mpr hz, lt7, rfl⟩
    · have hk : ¬ k < left.length := of_decide_eq_false hb
      have ek : k = left.length := by have := ri2.le; omega
      subst ek
      show tRet (tC V.non) { nx := fun x H' => Q V.non H', rt := Q } [some (.ref a.p), some (.bl true), some (.int ((left.length : Nat) : Int)), x3, x4] H3
      refine r_ret (d := .none) ed_non fun v4 H4 k4 d4 => ?_
      rw [d4.non_inv]
      exact q1 H4 s left (kp2.trans (Kp.of (k3.trans k4))) ((at2.ex k3).ex k4) ri2 lt2
end
end Gx
namespace Gv
/-- the partner function that a plan's pairs make -/
def mk (ps : List (Nat × Nat)) : Nat → Option Nat := ps.foldl (fun f p => upd (upd f p.1 (some p.2)) p.2 (some p.1)) fun _ => none
theorem mk_snoc (ps : List (Nat × Nat)) (p : Nat × Nat) : mk (ps ++ [p]) = upd (upd (mk ps) p.1 (some p.2)) p.2 (some p.1) := by
  unfold mk
  rw [List.foldl_append]
  rfl
theorem mk_sound {f : Nat → Option Nat} {ps : List (Nat × Nat)} (h : ∀ p ∈ ps, f p.1 = some p.2 ∧ f p.2 = some p.1) : ∀ x y, mk ps x = some y → f x = some y := by
  suffices ∀ (ps qs : List (Nat × Nat)), (∀ p ∈ ps, f p.1 = some p.2 ∧ f p.2 = some p.1) → (∀ x y, mk qs x = some y → f x = some y) → ∀ x y, mk (qs ++ ps) x = some y → f x = some y by
    exact this ps [] h fun x y e => nomatch e
  intro ps
  induction ps with
  | nil => intro qs _ h x y e; rw [List.append_nil] at e; exact h x y e
  | cons p ps ih =>
    intro qs hp hq x y e
    rw [show qs ++ p :: ps = (qs ++ [p]) ++ ps by simp] at e
    refine ih (qs ++ [p]) (fun q h => hp q (List.mem_cons_of_mem _ h)) (fun x y e => ?_) x y e
    rw [mk_snoc] at e
    obtain ⟨h1, h2⟩ := hp p (List.mem_cons_self ..)
    by_cases e1 : x = p.2
    · subst e1
      rw [upd_same] at e
      rw [h2]; exact e
    · rw [upd_ne e1] at e
      by_cases e2 : x = p.1
      · subst e2
        rw [upd_same] at e
        rw [h1]; exact e
      · rw [upd_ne e2] at e
        exact hq x y e
theorem mk_some {ps : List (Nat × Nat)} : ∀ x, (∃ p ∈ ps, x = p.1 ∨ x = p.2) → mk ps x ≠ none := by
  suffices ∀ (ps qs : List (Nat × Nat)) x, (mk qs x ≠ none ∨ ∃ p ∈ ps, x = p.1 ∨ x = p.2) → mk (qs ++ ps) x ≠ none by
    exact fun x h => this ps [] x (.inr h)
  intro ps
  induction ps with
  | nil =>
    rintro qs x (h | ⟨p, h, _⟩)
    · rw [List.append_nil]; exact h
    · cases h
  | cons p ps ih =>
    rintro qs x h
    rw [show qs ++ p :: ps = (qs ++ [p]) ++ ps by simp]
    refine ih (qs ++ [p]) x ?_
    rcases h with h | ⟨q, hq, e⟩
    · refine .inl ?_
      rw [mk_snoc]
      by_cases e1 : x = p.2
      · subst e1; rw [upd_same]; exact fun z => nomatch z
      · rw [upd_ne e1]
        by_cases e2 : x = p.1
        · subst e2; rw [upd_same]; exact fun z => nomatch z
        · rw [upd_ne e2]; exact h
    · rcases List.mem_cons.mp hq with rfl | hq
      · refine .inl ?_
        rw [mk_snoc]
        by_cases e1 : x = q.2
        · subst e1; rw [upd_same]; exact fun z => nomatch z
        · rw [upd_ne e1]
          rcases e with e | e
          · subst e; rw [upd_same]; exact fun z => nomatch z
          · exact absurd e e1
      · exact .inr ⟨q, hq, e⟩
theorem mk_eq {f : Nat → Option Nat} {ps : List (Nat × Nat)} (h : Pl (· ∈ ps) f) (sym : ∀ u v, f u = some v → f v = some u) (irr : ∀ u, f u ≠ some u) : mk ps = f := by
  have hp : ∀ p ∈ ps, f p.1 = some p.2 ∧ f p.2 = some p.1 := fun p hp => by
    have l := h.lt p hp
    have e := (h.iff p.1 p.2 (by omega)).mp (by rw [nrm_lt l]; exact hp)
    exact ⟨e, sym _ _ e⟩
  funext x
  cases q : f x with
  | none =>
    cases r : mk ps x with
    | none => rfl
    | some y => rw [mk_sound hp x y r] at q; cases q
  | some y =>
    have ne : x ≠ y := fun e => by subst e; exact irr x q
    have m := (h.iff x y ne).mpr q
    have : mk ps x ≠ none := mk_some x ⟨nrm x y, m, by
      rcases nrm_cases x y with e | e <;> rw [e] <;> simp⟩
    cases r : mk ps x with
    | none => exact absurd r this
    | some z => rw [mk_sound hp x z r] at q; exact q
end Gv
namespace Gw
open PySem L2 Evl
section
variable {K : PySem.W.Frag} {σ : L2.St} {H H' : Hp} {ta tb te to ti tv : TE} {t : TA} {d : PyData} {ds : List PyData} {D : Ends} {C p dx : Addr} {f : Str} {fs : List (Str × V)} {v : V} {x : Nat} {xs : List V}
theorem r_fldV (h : Ev tv σ H v) (ho : Ev ta σ H (.ref p)) (hp : H p = some (.ins C dx fs)) (c : Cls K C) (m : NoAttr K C f) (hl : fs.length < 1000) (q : ∀ H2, Ex H H2 → D.nx σ (upd H2 p (.ins C dx (putF f v fs)))) : sFld K ta tv f D σ H :=
  Ev_now h fun H1 k1 => ho H1 k1 _ fun H2 k2 => ⟨p, C, dx, fs, rfl, (k1.trans k2) _ _ hp, c, m, hl, q H2 (k1.trans k2)⟩
theorem r_fldL (h : EL tv σ H ds) (ho : Ev ta σ H (.ref p)) (hp : H p = some (.ins C dx fs)) (c : Cls K C) (m : NoAttr K C f) (hl : fs.length < 1000) (q : ∀ r vs H2, H r = none → Ex H H2 → H2 r = some (.lst vs) → DnL H2 vs ds → D.nx σ (upd H2 p (.ins C dx (putF f (.ref r) fs)))) : sFld K ta tv f D σ H :=
  h.now fun r vs H1 k0 k1 h1 d1 => ho H1 k1 _ fun H2 k2 => ⟨p, C, dx, fs, rfl, (k1.trans k2) _ _ hp, c, m, hl, q r vs H2 k0 (k1.trans k2) (k2 _ _ h1) (d1.ex k2)⟩
theorem g_store {Q : L2.St → Hp → Prop} (ho : Ev to σ H (.ref p)) (hi : ED ti σ H (Gw.nI x)) (hp : H p = some (.lst xs)) (hx : x < xs.length) (q : ∀ H2, Ex H H2 → Q σ (upd H2 p (.lst (xs.set x v)))) : gSub to ti rSetL v σ H Q :=
  Ev_now ho fun H2 k2 => hi H2 k2 _ fun w H3 k3 d3 => by
    refine ⟨p, xs, _, x, rfl, d3.int_inv, (k2.trans k3) _ _ hp, ?_, q H3 (k2.trans k3)⟩
    unfold ixN
    first
      | (rw [if_pos (by omega)]; simp [hx])
      | (simp [hx])
      | (split <;> simp_all <;> omega)
end
end Gw
namespace Gx
open PySem L2 Evl Gw
section
variable {P : Program} {w : World} {K : PySem.W.Frag} {mg : Str → Option Value} {base : Heap} {C : Addr}
/-- all but p stands -/
def Kx (p : Addr) (H H' : Hp) : Prop := ∀ b o, b ≠ p → H b = some o → H' b = some o
theorem Kx.step {p : Addr} {H Hc H2 : Hp} {o : HO} (k : Kx p H Hc) (e : Ex Hc H2) : Kx p H (upd H2 p o) := fun b u nb h => by
  rw [upd_ne nb]
  exact e _ _ (k b u nb h)
theorem Kx.free {p r : Addr} {H Hc : Hp} {o : HO} (k : Kx p H Hc) (ho : Hc p = some o) (h : Hc r = none) : H r = none ∧ r ≠ p := by
  have np : r ≠ p := fun e => by rw [e, ho] at h; cases h
  refine ⟨?_, np⟩
  cases q : H r with
  | none => rfl
  | some u => rw [k r u np q] at h; cases h
theorem keep {p b : Addr} {Hc H2 : Hp} {o u : HO} (e : Ex Hc H2) (nb : b ≠ p) (h : Hc b = some u) : (upd H2 p o) b = some u := by
  rw [upd_ne nb]
  exact e _ _ h
theorem keepD {p : Addr} {Hc H2 : Hp} {C dx : Addr} {fs fs' : List (Str × V)} {vs : List V} {ds : List PyData} (e : Ex Hc H2) (ho : Hc p = some (.ins C dx fs)) (h : DnL Hc vs ds) : DnL (upd H2 p (.ins C dx fs')) vs ds :=
  (h.ex e).tx (Gw.Tx.mut (e _ _ ho) fun _ q => nomatch q)
theorem keepD1 {p : Addr} {Hc H2 : Hp} {C dx : Addr} {fs fs' : List (Str × V)} {v : V} {d : PyData} (e : Ex Hc H2) (ho : Hc p = some (.ins C dx fs)) (h : Dn Hc v d) : Dn (upd H2 p (.ins C dx fs')) v d :=
  (h.ex e).tx (Gw.Tx.mut (e _ _ ho) fun _ q => nomatch q)
/-! ### Search(near, plan, root) -/
def spInit (C : Addr) : Sp := fun vs H Q _ => ∃ (p dx Nr : Addr) (v : V) (n : Nat) (E ps : List (Nat × Nat)) (root : Nat) (mate : Nat → Option Nat) (ws : List V), vs = [.ref p, .ref Nr, v, .int ((root : Nat) : Int)] ∧ H p = some (.ins C dx []) ∧ H Nr = some (.lst ws) ∧ DnL H ws (near n E) ∧ Dn H v (nPs ps) ∧ n ≤ 100 ∧ root < n ∧ ps.length ≤ 2000 ∧ (∀ q ∈ ps, q.1 < n ∧ q.2 < n) ∧ Gv.mk ps = mate ∧
  ∀ (a : Ad) H', a.p = p → a.Nr = Nr → H a.B = none → H a.S = none → H a.V = none → H a.L = none → At C n (near n E) root mate a H' (Gv.ini root) [root] → Kx p H H' → Q .non H'
theorem el_rep {σ : L2.St} {H : Hp} {ta tb : TE} {n : Nat} (h : EL ta σ H [.none]) (k : ED tb σ H (nI n)) (hn : n ≤ 100000) : EL (tOp rRep ta tb) σ H ((List.range n).map fun _ => PyData.none) := fun H1 a Q q =>
  h H1 a _ fun p vs H2 k0 k1 h1 d1 => k H2 (a.trans k1) _ fun w H3 l1 l2 => by
    have hv : vs = [V.non] := by
      obtain ⟨v, ws, e, g1, g2⟩ := d1.cons_inv
      rw [e, g1.non_inv, g2.nil_inv]
    subst hv
    refine ⟨p, _, _, rfl, l2.int_inv, l1 _ _ h1, by omega, by omega, ?_, fun r hr => ?_⟩
    · rw [Int.toNat_natCast]
      show 1 * n ≤ sizeLine
      rw [Nat.one_mul]
      exact sz_of hn
    · refine q r _ _ (fresh_back (k1.trans l1) hr) ((k1.trans l1).trans (Ex.new hr)) upd_same ?_
      rw [Int.toNat_natCast]
      have e1 : ∀ m, (List.replicate m [V.non]).flatten = (List.range m).map fun _ => V.non := fun m => by
        induction m with
        | zero => rfl
        | succ m ih =>
          rw [List.range_succ, List.map_append, ← ih, List.replicate_succ']
          simp
      rw [e1]
      exact dn_lV (f := fun _ => V.non) fun _ => .non
theorem none_inv {H : Hp} {n : Nat} {vs : List V} (h : DnL H vs ((List.range n).map fun _ => PyData.none)) : vs = lV n fun _ => oV none := by
  unfold lV
  generalize List.range n = l at h
  induction l generalizing vs with
  | nil => exact h.nil_inv
  | cons x l ih =>
    obtain ⟨v, ws, e, g1, g2⟩ := h.cons_inv
    rw [e, g1.non_inv, ih g2]
    rfl
theorem range_inv {H : Hp} {n : Nat} {vs : List V} (h : DnL H vs ((List.range n).map nI)) : vs = lV n fun x => .int (x : Int) := dnl_nats_inv h
theorem bls_inv {H : Hp} {n : Nat} {f : Nat → Bool} {vs : List V} (h : DnL H vs ((List.range n).map fun x => PyData.bool (f x))) : vs = lV n fun x => .bl (f x) := by
  unfold lV
  generalize List.range n = l at h
  induction l generalizing vs with
  | nil => exact h.nil_inv
  | cons x l ih =>
    obtain ⟨v, ws, e, g1, g2⟩ := h.cons_inv
    rw [e, g1.bl_inv, ih g2]
    rfl
theorem ok_init (T : Txt K mg) (R : SrT K C) (M : ∃ f fd, Fun K "__init__" "Search.__init__" s_S_init f fd ∧ Mk K C f ∧ mg "Search" = some (.ref C) ∧ Binds K fd ["self", "near", "plan", "root"] []) : C8.Mak P w K mg base 1 "Search" C (spInit C) [] := by
  obtain ⟨f, fd, F, mk, hm, b⟩ := M
  refine ⟨f, fd, ["self", "near", "plan", "root"], [], mk, F.ok sc_S_init (fun vs H Q E h => by obtain ⟨p, dx, Nr, v, n, ed, ps, root, mate, ws, rfl, _⟩ := h; rfl) (fun cdv A outer sh H vs Q E hr h => ?_), hm, b, .nil⟩
  obtain ⟨p, dx, Nr, v, n, ed, ps, root, mate, ws, rfl, hp, hNr, dNr, hv, hn, hrt, hps, hlt, hmk, q⟩ := h
  · have nd := sc_S_init.nd
    refine ⟨_, (pss_cons (ps_fld (pv 0) (pv 1) rfl)
      (pss_cons (ps_fld (pv 0) (pv 3) rfl)
      (pss_cons (ps_fld (pv 0) (pe_op op_rep (pe_lst (pa_cons pe_non pa_nil)) (pe_callB (r := rLenS K) call_len_seq (by rfl) T.nb.len bt_len (pa_cons (pv 1) pa_nil))) rfl)
      (pss_cons (ps_for PassesOwn.never rfl (pi_tup (pv 2)) (pg_tup rfl (pgs_cons (pg_name (i := 4) nd rfl (by first | exact .inl rfl | exact .inr rfl)) (pgs_cons (pg_name (i := 5) nd rfl (by first | exact .inl rfl | exact .inr rfl)) pgs_nil))) (pss_one (ps_asg (pe_tup (pa_cons (pv 5) (pa_cons (pv 4) pa_nil))) (pg_tup rfl (pgs_cons (pg_sub (pe_fld (pv 0) rfl) (pv 4) set_list) (pgs_cons (pg_sub (pe_fld (pv 0) rfl) (pv 5) set_list) pgs_nil))) rfl)))
      (pss_cons (ps_fld (pv 0) (pe_op op_rep (pe_lst (pa_cons pe_non pa_nil)) (pe_callB (r := rLenS K) call_len_seq (by rfl) T.nb.len bt_len (pa_cons (pv 1) pa_nil))) rfl)
      (pss_cons (ps_fld (pv 0) (pe_listRg rfl (by rfl) T.nb.list (prg_1 (by rfl) T.nb.range (pe_callB (r := rLenS K) call_len_seq (by rfl) T.nb.len bt_len (pa_cons (pv 1) pa_nil)))) rfl)
      (pss_cons (ps_fld (pv 0) (pe_lc (own := [("person", 6)]) (g := (gName 6)) (tt := tYes) rfl nd (pi_range1 (by rfl) T.nb.range (pa_cons (pe_callB (r := rLenS K) call_len_seq (by rfl) T.nb.len bt_len (pa_cons (pv 1) pa_nil)) pa_nil)) (blkOk_by (own := [("person", 6)]) (N := N_S_init) (sc := (defScope s_S_init)) (by decide +kernel)) (fun _ _ _ _ _ => (pg_name (i := 6) nd rfl (by first | exact .inl rfl | exact .inr rfl))) (fun _ _ _ _ _ => pts_nil) (fun _ _ _ _ _ => (pe_cmpR op_eq (pv 6) (pv 3) (nomark _)))) rfl)
      (pss_one (ps_fld (pv 0) (pe_lst (pa_cons (pv 3) pa_nil)) rfl))))))))), ?_⟩
    have npN : Nr ≠ p := fun e => by rw [e, hp] at hNr; cases hNr
    -- self.near
    refine r_seq (r_fldV (ev_var (v := .ref Nr) rfl) (ev_var rfl) hp R.cl R.near (by show 0 < 1000; decide) fun H1 k1 => ?_)
    have ob1 : (upd H1 p (.ins C dx (putF "near" (.ref Nr) []))) p = some (.ins C dx (putF "near" (.ref Nr) [])) := upd_same
    have x1 : Kx p H (upd H1 p (.ins C dx (putF "near" (.ref Nr) []))) := Kx.step (fun _ _ _ h => h) k1
    have nr1 : (upd H1 p (.ins C dx (putF "near" (.ref Nr) []))) Nr = some (.lst ws) := keep k1 npN hNr
    have dn1 : DnL (upd H1 p (.ins C dx (putF "near" (.ref Nr) []))) ws (near n ed) := keepD k1 hp dNr
    have dv1 : Dn (upd H1 p (.ins C dx (putF "near" (.ref Nr) []))) v (nPs ps) := keepD1 k1 hp hv
    generalize upd H1 p (.ins C dx (putF "near" (.ref Nr) [])) = G1 at ob1 x1 nr1 dn1 dv1 ⊢
    -- self.root
    refine r_seq (r_fldV (ev_var (v := .int (root : Int)) rfl) (ev_var rfl) ob1 R.cl R.root (by show 1 < 1000; decide) fun H2 k2 => ?_)
    have ob2 : (upd H2 p (.ins C dx (putF "root" (.int (root : Int)) (putF "near" (.ref Nr) [])))) p = some (.ins C dx (putF "root" (.int (root : Int)) (putF "near" (.ref Nr) []))) := upd_same
    have x2 := x1.step (o := .ins C dx (putF "root" (.int (root : Int)) (putF "near" (.ref Nr) []))) k2
    have nr2 : (upd H2 p (.ins C dx (putF "root" (.int (root : Int)) (putF "near" (.ref Nr) [])))) Nr = some (.lst ws) := keep k2 npN nr1
    have dn2 : DnL (upd H2 p (.ins C dx (putF "root" (.int (root : Int)) (putF "near" (.ref Nr) [])))) ws (near n ed) := keepD k2 ob1 dn1
    have dv2 : Dn (upd H2 p (.ins C dx (putF "root" (.int (root : Int)) (putF "near" (.ref Nr) [])))) v (nPs ps) := keepD1 k2 ob1 dv1
    generalize upd H2 p (.ins C dx (putF "root" (.int (root : Int)) (putF "near" (.ref Nr) []))) = G2 at ob2 x2 nr2 dn2 dv2 ⊢
    -- self.mates
    have len2 : ED (tCB (rLenS K) (tCons (tVar 1) tNil)) (start N_S_init [.ref p, .ref Nr, v, .int (root : Int)]) G2 (nI n) := (ed_lenAt (ev_var rfl) nr2 dn2).is (by rw [near_len])
    refine r_seq (r_fldL (el_rep (el_lst (eda_cons ed_non eda_nil) (show 1 ≤ 100000 by decide)) len2 (by omega)) (ev_var rfl) ob2 R.cl R.mates (by show 2 < 1000; decide) fun M ms H3 m0 k3 hM dM => ?_)
    rw [none_inv dM] at hM
    obtain ⟨fM, nM⟩ := x2.free ob2 m0
    have nMN : M ≠ Nr := fun e => by rw [e, nr2] at m0; cases m0
    have ob3 : (upd H3 p (.ins C dx (putF "mates" (.ref M) (putF "root" (.int (root : Int)) (putF "near" (.ref Nr) []))))) p = some (.ins C dx (putF "mates" (.ref M) (putF "root" (.int (root : Int)) (putF "near" (.ref Nr) [])))) := upd_same
    have x3 := x2.step (o := .ins C dx (putF "mates" (.ref M) (putF "root" (.int (root : Int)) (putF "near" (.ref Nr) [])))) k3
    have nr3 : (upd H3 p (.ins C dx (putF "mates" (.ref M) (putF "root" (.int (root : Int)) (putF "near" (.ref Nr) []))))) Nr = some (.lst ws) := keep k3 npN nr2
    have dn3 : DnL (upd H3 p (.ins C dx (putF "mates" (.ref M) (putF "root" (.int (root : Int)) (putF "near" (.ref Nr) []))))) ws (near n ed) := keepD k3 ob2 dn2
    have dv3 : Dn (upd H3 p (.ins C dx (putF "mates" (.ref M) (putF "root" (.int (root : Int)) (putF "near" (.ref Nr) []))))) v (nPs ps) := keepD1 k3 ob2 dv2
    have hm3 : (upd H3 p (.ins C dx (putF "mates" (.ref M) (putF "root" (.int (root : Int)) (putF "near" (.ref Nr) []))))) M = some (.lst (lV n fun x => oV (Gv.mk (ps.take 0) x))) := by rw [upd_ne nM]; exact hM
    generalize upd H3 p (.ins C dx (putF "mates" (.ref M) (putF "root" (.int (root : Int)) (putF "near" (.ref Nr) [])))) = G3 at ob3 x3 nr3 dn3 dv3 hm3 ⊢
    clear hM dM k1 k2 k3 m0 len2
    -- the plan's pairs
    refine r_seq (r_forT (ds := ps.map nP) (et_tup (ed_var rfl dv3)) fun H4 k4 => ⟨fun i σ' H' => (∃ y1 y2, σ' = [some (.ref p), some (.ref Nr), some v, some (.int (root : Int)), y1, y2, none]) ∧ Kx p H H' ∧ Gw.Tx H4 H' ∧ H' p = some (.ins C dx (putF "mates" (.ref M) (putF "root" (.int (root : Int)) (putF "near" (.ref Nr) [])))) ∧
        H' Nr = some (.lst ws) ∧ DnL H' ws (near n ed) ∧ H' M = some (.lst (lV n fun x => oV (Gv.mk (ps.take i) x))),
        ⟨⟨none, none, rfl⟩, fun b o nb h => k4 _ _ (x3 b o nb h), Gw.Tx.refl _, k4 _ _ ob3, k4 _ _ nr3, dn3.ex k4, k4 _ _ hm3⟩, fun i σ' H' z => z.2.2.1, ?_, ?_⟩)
    · rintro i d x σ' H5 H6 hd ⟨⟨y1, y2, rfl⟩, x5, tx5, ob5, nr5, dn5, hm5⟩ k6 dx'
      rw [List.getElem?_map] at hd
      cases hi : ps[i]? with
      | none => rw [hi] at hd; cases hd
      | some pq =>
        rw [hi] at hd
        cases hd
        have hmem := List.mem_of_getElem? hi
        obtain ⟨v1, v2, dv1', dv2', gg⟩ := g_pair (K := K) (i := 4) (j := 5) (σ := [some (.ref p), some (.ref Nr), some v, some (.int (root : Int)), y1, y2, none]) dx'
        refine gg _ ?_
        rw [dv1'.int_inv, dv2'.int_inv]
        have hm6 := k6 _ _ hm5
        have ob6 := k6 _ _ ob5
        have u4 : ED (tVar 4) [some (.ref p), some (.ref Nr), some v, some (.int (root : Int)), some (.int (pq.1 : Int)), some (.int (pq.2 : Int)), none] H6 (nI pq.1) := ed_var rfl (.int _)
        have u5 : ED (tVar 5) [some (.ref p), some (.ref Nr), some v, some (.int (root : Int)), some (.int (pq.1 : Int)), some (.int (pq.2 : Int)), none] H6 (nI pq.2) := ed_var rfl (.int _)
        refine (ed_pair u5 u4).now fun tv H7 k7 d7 => ?_
        obtain ⟨tq, txs, e1, e2, e3⟩ := d7.tup_inv
        have := dnl_nats_inv (l := [pq.2, pq.1]) e3
        subst this e1
        have ob7 := k7 _ _ ob6
        have hm7 := k7 _ _ hm6
        refine ⟨tq, _, rfl, SqT.of e2, rfl, _, [V.int (pq.1 : Int)], rfl, ?_⟩
        refine g_store (x := pq.1) (ev_fld (ev_var rfl) ob7 R.cl R.mates rfl) (u4.mono k7) hm7 (by rw [lV_len]; exact (hlt _ hmem).1) fun H8 k8 => ⟨_, [], rfl, ?_⟩
        rw [lV_set]
        have ob8 : (upd H8 M (.lst (lV n fun y => if y = pq.1 then V.int (pq.2 : Int) else oV (Gv.mk (ps.take i) y)))) p = some (.ins C dx (putF "mates" (.ref M) (putF "root" (.int (root : Int)) (putF "near" (.ref Nr) [])))) := by
          rw [upd_ne nM.symm]; exact k8 _ _ ob7
        have hm8 : (upd H8 M (.lst (lV n fun y => if y = pq.1 then V.int (pq.2 : Int) else oV (Gv.mk (ps.take i) y)))) M = some (.lst (lV n fun y => if y = pq.1 then V.int (pq.2 : Int) else oV (Gv.mk (ps.take i) y))) := upd_same
        have tx8 : Gw.Tx H5 (upd H8 M (.lst (lV n fun y => if y = pq.1 then V.int (pq.2 : Int) else oV (Gv.mk (ps.take i) y)))) := (Gw.Tx.of ((k6.trans k7).trans k8)).trans (Gw.Tx.mut (k8 _ _ hm7) fun _ q => nomatch q)
        have x8 : Kx p H (upd H8 M (.lst (lV n fun y => if y = pq.1 then V.int (pq.2 : Int) else oV (Gv.mk (ps.take i) y)))) := fun b o nb h => by
          rw [upd_ne (ne_of_none h fM)]
          exact ((k6.trans k7).trans k8) _ _ (x5 b o nb h)
        have nr8 : (upd H8 M (.lst (lV n fun y => if y = pq.1 then V.int (pq.2 : Int) else oV (Gv.mk (ps.take i) y)))) Nr = some (.lst ws) := by
          rw [upd_ne nMN.symm]; exact ((k6.trans k7).trans k8) _ _ nr5
        generalize upd H8 M (.lst (lV n fun y => if y = pq.1 then V.int (pq.2 : Int) else oV (Gv.mk (ps.take i) y))) = H9 at ob8 hm8 tx8 x8 nr8 ⊢
        have w5 : ED (tVar 5) [some (.ref p), some (.ref Nr), some v, some (.int (root : Int)), some (.int (pq.1 : Int)), some (.int (pq.2 : Int)), none] H9 (nI pq.2) := ed_var rfl (.int _)
        refine g_store (x := pq.2) (ev_fld (ev_var rfl) ob8 R.cl R.mates rfl) w5 hm8 (by rw [lV_len]; exact (hlt _ hmem).2) fun H10 k10 => ⟨rfl, ?_⟩
        rw [lV_set]
        have ti : ps.take (i + 1) = ps.take i ++ [pq] := by rw [List.take_add_one, hi] <;> rfl
        have efn : (lV n fun y => if y = pq.2 then V.int (pq.1 : Int) else if y = pq.1 then V.int (pq.2 : Int) else oV (Gv.mk (ps.take i) y)) = lV n fun x => oV (Gv.mk (ps.take (i + 1)) x) := lV_congr fun y _ => by
          rw [ti, Gv.mk_snoc]
          unfold Gv.upd
          split
          · rfl
          · split <;> rfl
        have tx10 := (tx5.trans tx8).trans ((Gw.Tx.of k10).trans (Gw.Tx.mut (o := .lst (lV n fun y => if y = pq.2 then V.int (pq.1 : Int) else if y = pq.1 then V.int (pq.2 : Int) else oV (Gv.mk (ps.take i) y))) (k10 _ _ hm8) fun _ q => nomatch q))
        refine ⟨⟨_, _, rfl⟩, fun b o nb h => ?_, tx10, ?_, ?_, dn5.tx ?_, ?_⟩
        · rw [upd_ne (ne_of_none h fM)]
          exact k10 _ _ (x8 b o nb h)
        · rw [upd_ne nM.symm]; exact k10 _ _ ob8
        · rw [upd_ne nMN.symm]; exact k10 _ _ nr8
        · exact tx8.trans ((Gw.Tx.of k10).trans (Gw.Tx.mut (k10 _ _ hm8) fun _ q => nomatch q))
        · rw [upd_same, efn]
    · rintro σ' H5 ⟨⟨y1, y2, rfl⟩, x5, tx5, ob5, nr5, dn5, hm5⟩
      rw [List.length_map, List.take_length, hmk] at hm5
      have len5 : ED (tCB (rLenS K) (tCons (tVar 1) tNil)) [some (.ref p), some (.ref Nr), some v, some (.int (root : Int)), y1, y2, none] H5 (nI n) := (ed_lenAt (ev_var rfl) nr5 dn5).is (by rw [near_len])
      -- self.back
      refine r_seq (r_fldL (el_rep (el_lst (eda_cons ed_non eda_nil) (show 1 ≤ 100000 by decide)) len5 (by omega)) (ev_var rfl) ob5 R.cl R.back (by show 3 < 1000; decide) fun B bs H6 b0 k6 hB dB => ?_)
      rw [none_inv dB] at hB
      obtain ⟨fB, nB⟩ := x5.free ob5 b0
      have nBN : B ≠ Nr := fun e => by rw [e, nr5] at b0; cases b0
      have nBM : B ≠ M := fun e => by rw [e, hm5] at b0; cases b0
      have ob6 := upd_same (H := H6) (a := p) (o := .ins C dx (putF "back" (.ref B) (putF "mates" (.ref M) (putF "root" (.int (root : Int)) (putF "near" (.ref Nr) [])))))
      have x6 := x5.step (o := .ins C dx (putF "back" (.ref B) (putF "mates" (.ref M) (putF "root" (.int (root : Int)) (putF "near" (.ref Nr) []))))) k6
      have nr6 := keep (o := .ins C dx (putF "back" (.ref B) (putF "mates" (.ref M) (putF "root" (.int (root : Int)) (putF "near" (.ref Nr) []))))) k6 npN nr5
      have dn6 := keepD (fs' := putF "back" (.ref B) (putF "mates" (.ref M) (putF "root" (.int (root : Int)) (putF "near" (.ref Nr) [])))) k6 ob5 dn5
      have hm6 := keep (o := .ins C dx (putF "back" (.ref B) (putF "mates" (.ref M) (putF "root" (.int (root : Int)) (putF "near" (.ref Nr) []))))) k6 nM hm5
      have hb6 : (upd H6 p (.ins C dx (putF "back" (.ref B) (putF "mates" (.ref M) (putF "root" (.int (root : Int)) (putF "near" (.ref Nr) [])))))) B = some (.lst (lV n fun _ => oV none)) := by rw [upd_ne nB]; exact hB
      generalize upd H6 p (.ins C dx (putF "back" (.ref B) (putF "mates" (.ref M) (putF "root" (.int (root : Int)) (putF "near" (.ref Nr) []))))) = G6 at ob6 x6 nr6 dn6 hm6 hb6 ⊢
      -- self.base
      have len6 : ED (tCB (rLenS K) (tCons (tVar 1) tNil)) [some (.ref p), some (.ref Nr), some v, some (.int (root : Int)), y1, y2, none] G6 (nI n) := (ed_lenAt (ev_var rfl) nr6 dn6).is (by rw [near_len])
      refine r_seq (r_fldL (el_listRg len6 (by omega)) (ev_var rfl) ob6 R.cl R.base (by show 4 < 1000; decide) fun S ss H7 s0 k7 hS dS => ?_)
      rw [range_inv dS] at hS
      obtain ⟨fS, nS⟩ := x6.free ob6 s0
      have nSN : S ≠ Nr := fun e => by rw [e, nr6] at s0; cases s0
      have nSM : S ≠ M := fun e => by rw [e, hm6] at s0; cases s0
      have nSB : S ≠ B := fun e => by rw [e, hb6] at s0; cases s0
      generalize hF5 : putF "base" (.ref S) (putF "back" (.ref B) (putF "mates" (.ref M) (putF "root" (.int (root : Int)) (putF "near" (.ref Nr) [])))) = F5
      have lF5 : F5.length = 5 := by rw [← hF5]; rfl
      have ob7 := upd_same (H := H7) (a := p) (o := .ins C dx F5)
      have x7 := x6.step (o := .ins C dx F5) k7
      have nr7 := keep (o := .ins C dx F5) k7 npN nr6
      have dn7 := keepD (fs' := F5) k7 ob6 dn6
      have hm7 := keep (o := .ins C dx F5) k7 nM hm6
      have hb7 := keep (o := .ins C dx F5) k7 nB hb6
      have hs7 : (upd H7 p (.ins C dx F5)) S = some (.lst (lV n fun x => .int (x : Int))) := by rw [upd_ne nS]; exact hS
      generalize upd H7 p (.ins C dx F5) = G7 at ob7 x7 nr7 dn7 hm7 hb7 hs7 ⊢
      -- self.even
      have len7 : ED (tCB (rLenS K) (tCons (tVar 1) tNil)) [some (.ref p), some (.ref Nr), some v, some (.int (root : Int)), y1, y2, none] G7 (nI n) := (ed_lenAt (ev_var rfl) nr7 dn7).is (by rw [near_len])
      refine r_seq (r_fldL (el_lcAll (xs := List.range n) (enc := nI) (f := fun x => PyData.bool (decide (x = root))) (et_range1 len7 (by omega)).s (by rw [List.length_range]; omega) fun z hz y H' ky dy => ⟨_, fun Q q => g_name Q q, rfl, ed_eqN (m := z) (n := root) (ed_var rfl dy) (ed_var rfl (.int _))⟩) (ev_var rfl) ob7 R.cl R.even (by rw [lF5]; decide) fun V' es H8 v0 k8 hV dV => ?_)
      rw [bls_inv dV] at hV
      obtain ⟨fV, nV⟩ := x7.free ob7 v0
      have nVN : V' ≠ Nr := fun e => by rw [e, nr7] at v0; cases v0
      have nVM : V' ≠ M := fun e => by rw [e, hm7] at v0; cases v0
      have nVB : V' ≠ B := fun e => by rw [e, hb7] at v0; cases v0
      have nVS : V' ≠ S := fun e => by rw [e, hs7] at v0; cases v0
      generalize hF6 : putF "even" (.ref V') F5 = F6
      have lF6 : F6.length = 6 := by rw [← hF6, ← hF5]; rfl
      have ob8 := upd_same (H := H8) (a := p) (o := .ins C dx F6)
      have x8 := x7.step (o := .ins C dx F6) k8
      have nr8 := keep (o := .ins C dx F6) k8 npN nr7
      have dn8 := keepD (fs' := F6) k8 ob7 dn7
      have hm8 := keep (o := .ins C dx F6) k8 nM hm7
      have hb8 := keep (o := .ins C dx F6) k8 nB hb7
      have hs8 := keep (o := .ins C dx F6) k8 nS hs7
      have hv8 : (upd H8 p (.ins C dx F6)) V' = some (.lst (lV n fun x => .bl (decide (x = root)))) := by rw [upd_ne nV]; exact hV
      generalize upd H8 p (.ins C dx F6) = G8 at ob8 x8 nr8 dn8 hm8 hb8 hs8 hv8 ⊢
      -- self.left
      have u3 : ED (tVar 3) [some (.ref p), some (.ref Nr), some v, some (.int (root : Int)), y1, y2, none] G8 (nI root) := ed_var rfl (.int _)
      show sFld K (tVar 0) (tLst (tCons (tVar 3) tNil)) "left" { nx := fun x H' => Q V.non H', rt := Q } [some (.ref p), some (.ref Nr), some v, some (.int (root : Int)), y1, y2, none] G8
      refine r_fldL (el_lst (eda_cons u3 eda_nil) (show 1 ≤ 100000 by decide)) (ev_var rfl) ob8 R.cl R.left (by rw [lF6]; decide) fun L ls H9 l0 k9 hL dL => ?_
      rw [dnl_nats_inv (l := [root]) dL] at hL
      obtain ⟨fL, nL⟩ := x8.free ob8 l0
      have nLN : L ≠ Nr := fun e => by rw [e, nr8] at l0; cases l0
      have nLM : L ≠ M := fun e => by rw [e, hm8] at l0; cases l0
      have nLB : L ≠ B := fun e => by rw [e, hb8] at l0; cases l0
      have nLS : L ≠ S := fun e => by rw [e, hs8] at l0; cases l0
      have nLV : L ≠ V' := fun e => by rw [e, hv8] at l0; cases l0
      have eF : putF "left" (.ref L) F6 = flds ⟨p, dx, Nr, M, B, S, V', L⟩ root := by rw [← hF6, ← hF5]; rfl
      rw [eF]
      refine q ⟨p, dx, Nr, M, B, S, V', L⟩ _ rfl rfl fB fS fV fL ⟨upd_same, ⟨ws, keep k9 npN nr8, keepD k9 ob8 dn8⟩, keep k9 nM hm8, keep k9 nB hb8, keep k9 nS hs8, keep k9 nV hv8, ?_, ?_⟩ (x8.step k9)
      · show (upd H9 p _) L = _
        rw [upd_ne nL]; exact hL
      · simp only [List.nodup_cons, List.mem_cons, List.not_mem_nil, or_false, not_or, not_false_eq_true, List.nodup_nil, and_true]
        exact ⟨⟨nMN.symm, nBN.symm, nSN.symm, nVN.symm, nLN.symm⟩, ⟨nBM.symm, nSM.symm, nVM.symm, nLM.symm⟩, ⟨nSB.symm, nVB.symm, nLB.symm⟩, ⟨nVS.symm, nLS.symm⟩, nLV.symm⟩
end
end Gx
/-! A way is a fit turn. -/
namespace Gx
open PySem L2 Evl Gw
def adjE (E : List (Nat × Nat)) (u v : Nat) : Prop := u ≠ v ∧ Gv.nrm u v ∈ E
structure WebOk (n : Nat) (E : List (Nat × Nat)) : Prop where
  ok : ∀ p ∈ E, p.1 < p.2 ∧ p.2 < n
  len : E.length ≤ 1000
  n : n ≤ 30
theorem web_gr {n : Nat} {E : List (Nat × Nat)} (W : WebOk n E) : Gv.Gr n (adjE E) := by
  refine ⟨fun u v h => ⟨h.1.symm, by rw [Gv.nrm_comm]; exact h.2⟩, fun u h => h.1 rfl, fun u v h => ?_⟩
  obtain ⟨a, b⟩ := W.ok _ h.2
  rcases Gv.nrm_cases u v with e | e <;> rw [e] at a b <;> simp at a b <;> omega
theorem nbr_adj {n : Nat} {E : List (Nat × Nat)} (W : WebOk n E) (u z : Nat) : z ∈ nbr E u ↔ adjE E u z := by
  unfold nbr
  rw [List.mem_map]
  constructor
  · rintro ⟨p, hp, e⟩
    obtain ⟨hp0, hm⟩ := List.mem_filter.mp hp
    have hm : u ∈ [p.1, p.2] := of_decide_eq_true hm
    have hl := (W.ok p hp0).1
    by_cases q : p.2 = u
    · rw [if_pos q] at e
      subst q e
      exact ⟨by omega, by rw [Gv.nrm_comm, Gv.nrm_lt hl]; exact hp0⟩
    · rw [if_neg q] at e
      have : u = p.1 := by
        rcases List.mem_cons.mp hm with h | h
        · exact h
        · exact absurd (by simpa using h : u = p.2).symm q
      subst this e
      exact ⟨by omega, by rw [Gv.nrm_lt hl]; exact hp0⟩
  · rintro ⟨h1, h2⟩
    refine ⟨Gv.nrm u z, List.mem_filter.mpr ⟨h2, decide_eq_true ?_⟩, ?_⟩
    · rcases Gv.nrm_cases u z with e | e <;> rw [e] <;> simp
    · rcases Gv.nrm_cases u z with e | e <;> rw [e]
      · rw [if_neg (show ¬ z = u from fun q => h1 q.symm)]
      · rw [if_pos rfl]
section
variable {n : Nat} {E ps : List (Nat × Nat)} {f : Nat → Option Nat}
theorem flat_no (h : Gv.Pl (· ∈ ps) f) (irr : ∀ u, f u ≠ some u) {x : Nat} : x ∈ Gv.flat ps ↔ f x ≠ none := by
  rw [Gv.mem_flat]
  constructor
  · rintro ⟨p, hp, e⟩ q
    have l := h.lt p hp
    have k1 := (h.iff p.1 p.2 (by omega)).mp (by rw [Gv.nrm_lt l]; exact hp)
    have k2 := (h.iff p.2 p.1 (by omega)).mp (by rw [Gv.nrm_comm, Gv.nrm_lt l]; exact hp)
    rcases e with rfl | rfl
    · rw [k1] at q; cases q
    · rw [k2] at q; cases q
  · intro q
    cases r : f x with
    | none => exact absurd r q
    | some y =>
      by_cases e : x = y
      · subst e
        exact absurd r (irr x)
      · exact ⟨Gv.nrm x y, (h.iff x y e).mpr r, by rcases Gv.nrm_cases x y with k | k <;> rw [k] <;> simp⟩
theorem pnr_none : ∀ {ps : List (Nat × Nat)} {x : Nat}, pnr ps x = none ↔ x ∉ Gv.flat ps
  | [], x => by simp [pnr, Gv.flat_nil]
  | p :: r, x => by
    have ih := pnr_none (ps := r) (x := x)
    unfold pnr
    rw [Gv.flat_cons]
    by_cases e : x = p.1 ∨ x = p.2
    · rw [if_pos e]
      constructor
      · intro z; cases z
      · intro z
        exfalso
        apply z
        rcases e with e | e <;> rw [e] <;> simp
    · rw [if_neg e, ih]
      have : x ≠ p.1 ∧ x ≠ p.2 := ⟨fun z => e (.inl z), fun z => e (.inr z)⟩
      simp [this]
theorem pth_steps (h : Gv.Pl (· ∈ ps) f) {u e : Nat} {r : List Nat} (p : Gv.Pth (adjE E) f u r e) (irr : ∀ u, f u ≠ some u) :
    (∀ s ∈ Gv.stp (u :: r), s ∈ E ∨ s ∈ ps) ∧ r.length % 2 = 0 ∧ ∀ i, i < r.length → decide ((Gv.stp (u :: r)).getD i (0, 0) ∈ ps) = decide (i % 2 = 1) := by
  induction p with
  | nil u => exact ⟨fun s hs => by simp [Gv.stp] at hs, rfl, fun i hi => by simp at hi⟩
  | @step u a b e r h1 h2 h3 p ih =>
    obtain ⟨i1, i2, i3⟩ := ih
    have es : Gv.stp (u :: a :: b :: r) = Gv.nrm u a :: Gv.nrm a b :: Gv.stp (b :: r) := rfl
    have ab : a ≠ b := fun z => irr a (by rw [h3, z])
    have m1 : Gv.nrm u a ∉ ps := fun z => h2 ((h.iff u a h1.1).mp z)
    have m2 : Gv.nrm a b ∈ ps := (h.iff a b ab).mpr h3
    refine ⟨fun s hs => ?_, by simp only [List.length_cons]; omega, fun i hi => ?_⟩
    · rw [es] at hs
      rcases List.mem_cons.mp hs with rfl | hs
      · exact .inl h1.2
      · rcases List.mem_cons.mp hs with rfl | hs
        · exact .inr m2
        · exact i1 s hs
    · rw [es]
      match i with
      | 0 => simp [m1]
      | 1 => simp [m2]
      | i + 2 =>
        have := i3 i (by simp only [List.length_cons] at hi; omega)
        have e2 : (Gv.nrm u a :: Gv.nrm a b :: Gv.stp (b :: r)).getD (i + 2) (0, 0) = (Gv.stp (b :: r)).getD i (0, 0) := by simp [List.getD_eq_getElem?_getD]
        rw [e2, this]
        congr 1
        exact propext (by omega)
/-- a plan within the web -/
structure PlanOk (n : Nat) (E ps : List (Nat × Nat)) (f : Nat → Option Nat) : Prop where
  pl : Gv.Pl (· ∈ ps) f
  mt : Gv.Mt n (adjE E) f
theorem PlanOk.sub (W : WebOk n E) (h : PlanOk n E ps f) : ∀ q ∈ ps, q ∈ E := fun q hq => by
  have l := h.pl.lt q hq
  have k := (h.pl.iff q.1 q.2 (by omega)).mp (by rw [Gv.nrm_lt l]; exact hq)
  have := (h.mt.adj _ _ k).2
  rwa [Gv.nrm_lt l] at this
theorem PlanOk.irr (W : WebOk n E) (h : PlanOk n E ps f) : ∀ u, f u ≠ some u := h.mt.irr (web_gr W)
theorem turn_way (W : WebOk n E) (h : PlanOk n E ps f) {u e : Nat} {r : List Nat} (p : Gv.Pth (adjE E) f u r e) (hu : f u = none) (nd : (u :: r).Nodup) (lt : ∀ x ∈ u :: r, x < n) (hr : r ≠ []) : TurnOk n E ps (u :: r) := by
  obtain ⟨s1, s2, s3⟩ := pth_steps h.pl p (h.irr W)
  have hl := stp_len (u :: r)
  have hpos : 0 < r.length := List.length_pos_iff.mpr hr
  simp only [List.length_cons, Nat.add_sub_cancel] at hl
  refine ⟨by simp only [List.length_cons]; omega, nd, lt, fun s hs => (s1 s hs).elim id (h.sub W s), fun i hi => ?_, .inr ?_, .inl ?_⟩
  · rw [hl] at hi
    rw [s3 i (by omega), s3 (i + 1) hi]
    intro z
    have := decide_eq_decide.mp z
    omega
  · show u ∉ _
    rw [flat_no h.pl (h.irr W)]
    exact fun z => z hu
  · rw [hl]
    have := s3 (r.length - 1) (by omega)
    rw [decide_eq_true (show (r.length - 1) % 2 = 1 by omega)] at this
    exact of_decide_eq_true this
theorem turn_last (W : WebOk n E) (h : PlanOk n E ps f) {u e z : Nat} {r : List Nat} (p : Gv.Pth (adjE E) f u r e) (hu : f u = none) (nd : (u :: r).Nodup) (lt : ∀ x ∈ u :: r, x < n) (hz : f z = none) (zr : z ∉ u :: r) (ez : adjE E e z) : TurnOk n E ps (u :: r ++ [z]) := by
  obtain ⟨s1, s2, s3⟩ := pth_steps h.pl p (h.irr W)
  have hl := stp_len (u :: r)
  simp only [List.length_cons, Nat.add_sub_cancel] at hl
  have es : Gv.stp (u :: r ++ [z]) = Gv.stp (u :: r) ++ [Gv.nrm e z] := by
    obtain ⟨l, el⟩ := p.last
    rw [el, List.append_assoc]
    exact Gv.stp_snoc
  have nz : Gv.nrm e z ∉ ps := fun q => by
    have k := h.mt.sym _ _ ((h.pl.iff e z ez.1).mp q)
    rw [hz] at k
    cases k
  have lz : z < n := (web_gr W).lt _ _ ((web_gr W).sym _ _ ez)
  have hl2 : (Gv.stp (u :: r ++ [z])).length = r.length + 1 := by rw [es, List.length_append, hl]; rfl
  have told : ∀ i, i < r.length + 1 → decide ((Gv.stp (u :: r ++ [z])).getD i (0, 0) ∈ ps) = decide (i % 2 = 1) := fun i hi => by
    rw [es]
    by_cases e1 : i < r.length
    · rw [← s3 i e1, List.getD_eq_getElem?_getD, List.getD_eq_getElem?_getD, List.getElem?_append_left (by omega)]
    · have : i = r.length := by omega
      subst this
      rw [List.getD_eq_getElem?_getD, List.getElem?_append_right (by omega), hl]
      simp [nz, s2]
  refine ⟨by simp, ?_, fun x hx => ?_, fun s hs => ?_, fun i hi => ?_, .inr ?_, .inr ?_⟩
  · rw [List.nodup_append]
    exact ⟨nd, by simp, fun x hx y hy q => by
      have : y = z := by simpa using hy
      subst this q
      exact zr hx⟩
  · rcases List.mem_append.mp hx with q | q
    · exact lt x q
    · have : x = z := by simpa using q
      rw [this]; exact lz
  · rw [es] at hs
    rcases List.mem_append.mp hs with q | q
    · exact (s1 s q).elim id (h.sub W s)
    · have : s = Gv.nrm e z := by simpa using q
      rw [this]; exact ez.2
  · rw [hl2] at hi
    rw [told i (by omega), told (i + 1) hi]
    intro z
    have := decide_eq_decide.mp z
    omega
  · show u ∉ _
    rw [flat_no h.pl (h.irr W)]
    exact fun z => z hu
  · have : (u :: r ++ [z]).getD ((u :: r ++ [z]).length - 1) 0 = z := by
      rw [List.getD_eq_getElem?_getD, List.length_append, List.length_singleton, Nat.add_sub_cancel, List.getElem?_append_right (Nat.le_refl _)]
      simp
    rw [this, flat_no h.pl (h.irr W)]
    exact fun q => q hz
theorem mem_newPs {l : List Nat} {q : Nat × Nat} : q ∈ newPs ps l ↔ Gv.Tnd (· ∈ ps) (Gv.stp l) q := by
  unfold newPs Gv.Tnd
  rw [List.mem_append, List.mem_filter, List.mem_filter]
  simp
theorem len_newPs {l : List Nat} : (newPs ps l).length ≤ ps.length + l.length := by
  unfold newPs
  have h1 := List.length_filter_le (fun p => !decide (p ∈ Gv.stp l)) ps
  have h2 := List.length_filter_le (fun s => !decide (s ∈ ps)) (Gv.stp l)
  have := stp_len l
  rw [List.length_append]
  omega
end
end Gx
namespace Gx
open PySem L2 Evl Gw
section
variable {P : Program} {w : World} {K : PySem.W.Frag} {mg : Str → Option Value} {base : Heap} {C : Addr}
/-! ### told_search -/
def Told (C : Addr) (n : Nat) (E : List (Nat × Nat)) (mate : Nat → Option Nat) (root : Nat) (H' : Hp) (a : Ad) (r : Option Nat) : Prop :=
  (r = none ∧ ∃ s left, At C n (near n E) root mate a H' s left ∧ Gv.RI n (adjE E) mate root s left left.length) ∨
  (∃ z s left one, r = some z ∧ At C n (near n E) root mate a H' { s with back := Gv.upd s.back z (some one) } left ∧ Fd n (adjE E) mate root s one z)
def spTold (C : Addr) : Sp := fun vs H Q _ => ∃ (Nr : Addr) (v : V) (n : Nat) (E ps : List (Nat × Nat)) (root : Nat) (mate : Nat → Option Nat) (ws : List V), vs = [.ref Nr, v, .int ((root : Nat) : Int)] ∧ H Nr = some (.lst ws) ∧ DnL H ws (near n E) ∧ Dn H v (nPs ps) ∧ WebOk n E ∧ PlanOk n E ps mate ∧ mate root = none ∧ root < n ∧ ps.length ≤ 2000 ∧
  ∀ (T : Addr) H' a r, Ex H H' → H' T = some (.tup [.ref a.p, oV r]) → Told C n E mate root H' a r → Q (.ref T) H'
theorem r_callRet {σ : L2.St} {H : Hp} {t : TA} {ds : List PyData} {D : Ends} {sp : Sp} {E : XK} (k : EDA t σ H ds) (q : ∀ vs H2, Ex H H2 → DnL H2 vs ds → sp vs H2 D.rt E) : tRet (tCall sp [] E t) D σ H :=
  k.now fun vs H2 k2 d2 => by
    rw [List.append_nil]
    exact q vs H2 k2 d2
theorem kp_ex {a : Ad} {H0 H H' : Hp} (e : Ex H0 H) (k : Kp a H H') (h1 : H0 a.B = none) (h2 : H0 a.S = none) (h3 : H0 a.V = none) (h4 : H0 a.L = none) : Ex H0 H' := fun b o h => k b o (ne_of_none h h1) (ne_of_none h h2) (ne_of_none h h3) (ne_of_none h h4) (e b o h)
theorem ok_told (T : Txt K mg) (R : SrT K C) (D : Df K mg "told_search" s_told_search ["near", "plan", "person"]) (C_Search : C8.Mak P w K mg base 1 "Search" C (spInit C) []) (C_run : C8.Met P w K mg base 3 C "run" (spRun C) []) : C8.Cal P w K mg base 4 "told_search" (spTold C) [] := by
  refine D.cal sc_told_search (fun vs H Q E h => by obtain ⟨Nr, v, n, ed, ps, root, mate, ws, rfl, _⟩ := h; rfl) (fun f cdv A outer s H vs Q E hr h => ?_)
  obtain ⟨Nr, v, n, ed, ps, root, mate, ws, rfl, hNr, dNr, hv, W, po, M0, hrt, hps, q⟩ := h
  have g := web_gr W
  have hn := W.n
  · have nd := sc_told_search.nd
    refine ⟨_, (pss_cons (ps_set (i := 3) nd rfl (by first | exact .inl rfl | exact .inr rfl) (C8.pe_mk C_Search hr (by decide) (by rfl) (pa_cons (pv 0) (pa_cons (pv 1) (pa_cons (pv 2) pa_nil)))))
      (pss_one (ps_ret (pe_tup (pa_cons (pv 3) (pa_cons (C8.pe_mt C_run hr (by decide) (pv 3) (pa_cons pe_bl pa_nil)) pa_nil)))))), ?_⟩
    refine ⟨_, rfl, _, rfl, _, rfl, fun x dx nx ndx nxd => ?_⟩
    have e1 : Ex H (upd (upd H dx (.own x)) x (.ins C dx [])) := (Ex.new ndx).trans (Ex.new (by rw [upd_ne nxd.symm]; exact nx))
    refine ⟨x, dx, Nr, v, n, ed, ps, root, mate, ws, rfl, upd_same, e1 _ _ hNr, dNr.ex e1, hv.ex e1, by omega, hrt, hps, fun p hp => ?_, Gv.mk_eq po.pl po.mt.sym (po.irr W), fun a H1 ha hNr' fB fS fV fL at1 kx => ⟨rfl, ?_⟩⟩
    · have := W.ok p (po.sub W p hp)
      omega
    subst ha hNr'
    have fr : ∀ {b}, (upd (upd H dx (.own a.p)) a.p (.ins C dx [])) b = none → H b = none := fun h => fresh_back e1 h
    have k1 : Ex H H1 := fun b o h => kx b o (ne_of_none h nx) (e1 b o h)
    -- (search, search.run(True))
    refine ⟨_, rfl, ?_⟩
    refine m_call (ds := [.bool true]) (ev_var rfl) at1.ob (l_no a root).1 (eda_cons ed_bl eda_nil) fun vs2 H2 k2 d2 => ?_
    obtain ⟨b2, rfl, d2'⟩ := a1 d2
    rw [d2'.bl_inv]
    refine ⟨n, ed, adjE ed, root, mate, a, rfl, at1.ex k2, by omega, g, po.mt, M0, hrt, fun u z _ => nbr_adj W u z, fun H3 s' left kp at3 ri lt => ?_, fun z H3 s' left one kp at3 fd => ?_⟩
    · have k3 := kp_ex (k1.trans k2) kp (fr fB) (fr fS) (fr fV) (fr fL)
      refine ⟨by show 2 ≤ sizeLine; decide, fun T' hT => ?_⟩
      exact q T' _ a none (k3.trans (Ex.new hT)) upd_same (.inl ⟨rfl, s', left, at3.ex (Ex.new hT), ri⟩)
    · have k3 := kp_ex (k1.trans k2) kp (fr fB) (fr fS) (fr fV) (fr fL)
      refine ⟨by show 2 ≤ sizeLine; decide, fun T' hT => ?_⟩
      exact q T' _ a (some z) (k3.trans (Ex.new hT)) upd_same (.inr ⟨z, s', left, one, rfl, at3.ex (Ex.new hT), fd⟩)
/-! ### served_more -/
section
variable {σ : L2.St} {H : Hp} {n : Nat} {ne : List PyData} {root : Nat} {mate : Nat → Option Nat} {a : Ad} {s : Gv.SS} {left : List Nat} {to tk : TE}
theorem ed_reached (ho : Ev to σ H (.ref a.p)) (h : At C n ne root mate a H s left) (hn : n ≤ 100) : ED (tMeth C "reached" (spReached C) [] E0 to tNil) σ H (nT ((List.range n).filter s.even)) := fun H1 k Q q =>
  ho H1 k _ fun H2 k2 => ⟨a.p, a.dx, flds a root, rfl, (k.trans k2) _ _ h.ob, (l_no a root).2.2.2.2, n, ne, root, mate, a, s, left, rfl, h.ex (k.trans k2), hn, fun v H3 k3 d3 => q v H3 (k2.trans k3) d3⟩
theorem ed_way (ho : Ev to σ H (.ref a.p)) (h : At C n ne root mate a H s left) (hn : n ≤ 100) {v : Nat} (hk : ED tk σ H (nI v)) {L : List (Nat × Nat)} (al : Gv.Alt mate s.back v L root) (nd : (Gv.flat L ++ [root]).Nodup) (lt : ∀ x ∈ Gv.flat L ++ [root], x < n) :
    ED (tMeth C "way" (spWay C) [] E0 to (tCons tk tNil)) σ H (nT (Gv.flat L ++ [root]).reverse) := fun H1 k Q q =>
  ho H1 k _ fun H2 k2 => ⟨a.p, a.dx, flds a root, rfl, (k.trans k2) _ _ h.ob, (l_no a root).2.2.2.1, hk H2 (k.trans k2) _ fun w H3 k3 d3 => by
    rw [d3.int_inv]
    exact ⟨n, ne, root, mate, a, s, left, v, L, rfl, h.ex ((k.trans k2).trans k3), hn, al, nd, lt, fun v H4 k4 d4 => q v H4 ((k2.trans k3).trans k4) d4⟩⟩
end
def spMore : Sp := fun vs H Q _ => ∃ (n : Nat) (E ps : List (Nat × Nat)) (f : Nat → Option Nat) (lot : List Nat) (x : Nat) (wv plv : V) (Nr Lo : Addr) (ws : List V), vs = [wv, .ref Nr, plv, .ref Lo, .int ((x : Nat) : Int)] ∧ Dn H wv (nW n E) ∧ H Nr = some (.lst ws) ∧ DnL H ws (near n E) ∧ Dn H plv (nPs ps) ∧
  H Lo = some (.lst (lot.map fun x : Nat => V.int (x : Int))) ∧ WebOk n E ∧ PlanOk n E ps f ∧ x < n ∧ ps.length ≤ 1500 ∧ (∀ v ∈ lot, f v ≠ none) ∧
  (∀ v H' ps' f', Ex H H' → PlanOk n E ps' f' → ps'.length ≤ ps.length + n → (∀ u, (u ∈ lot ∨ u = x) → f' u ≠ none) → Dn H' v (nPs ps') → Q v H') ∧
  (∀ H', Ex H H' → ¬ Gv.Serv n (adjE E) (x :: lot) → Q .non H')
theorem newPlan {n : Nat} {E ps ps' : List (Nat × Nat)} {l : List Nat} {f' : Nat → Option Nat} (hp : ps'.Perm (newPs ps l)) (h : Gv.Pl (Gv.Tnd (· ∈ ps) (Gv.stp l)) f') (m : Gv.Mt n (adjE E) f') : PlanOk n E ps' f' :=
  ⟨h.congr fun q => hp.mem_iff.trans mem_newPs, m⟩
theorem ok_more (T : Txt K mg) (R : SrT K C) (D : Df K mg "served_more" s_served_more ["web", "near", "plan", "lot", "person"]) (C_partner : C8.Cal P w K mg base 1 "partner" (SpD pPartner) []) (C_told_search : C8.Cal P w K mg base 4 "told_search" (spTold C) [])
    (C_turned : C8.Cal P w K mg base 6 "turned" spTurned []) (C_way : C8.Met P w K mg base 1 C "way" (spWay C) []) (C_reached : C8.Met P w K mg base 1 C "reached" (spReached C) []) : C8.Cal P w K mg base 7 "served_more" spMore [] := by
  refine D.cal sc_served_more (fun vs H Q E h => by obtain ⟨n, ed, ps, f, lot, x, wv, plv, Nr, Lo, ws, rfl, _⟩ := h; rfl) (fun f' cdv A outer s0 H vs Q E hr h => ?_)
  obtain ⟨n, ed, ps, f, lot, x, wv, plv, Nr, Lo, ws, rfl, hw, hNr, dNr, hp, hLo, W, po, hx, hps, hlot, q1, q2⟩ := h
  have g := web_gr W
  have hn := W.n
  · have nd := sc_served_more.nd
    refine ⟨_, (pss_cons (ps_if (pt_cmpR op_notN (C8.pe_c C_partner hr (by decide) (by rfl) (pa_cons (pv 2) (pa_cons (pv 4) pa_nil))) pe_non (nomark _)) (pss_one (ps_ret (pv 2))) pss_nil)
      (pss_cons (ps_asg (C8.pe_c C_told_search hr (by decide) (by rfl) (pa_cons (pv 1) (pa_cons (pv 2) (pa_cons (pv 4) pa_nil)))) (pg_tup rfl (pgs_cons (pg_name (i := 5) nd rfl (by first | exact .inl rfl | exact .inr rfl)) (pgs_cons (pg_name (i := 6) nd rfl (by first | exact .inl rfl | exact .inr rfl)) pgs_nil))) rfl)
      (pss_cons (ps_if (pt_cmpR op_notN (pv 6) pe_non (nomark _)) (pss_one (ps_ret (C8.pe_c C_turned hr (by decide) (by rfl) (pa_cons (pv 0) (pa_cons (pv 2) (pa_cons (pe_tup (pa_cons pe_str (pa_cons (pe_tup (StX.pa_star (C8.pe_mt C_way hr (by decide) (pv 5) (pa_cons (pe_ix (r := rIxL K) ix_list (pe_fld (pv 5) rfl) (pv 6) (fun _ _ => rfl)) pa_nil)) (pa_cons (pv 6) pa_nil))) pa_nil))) pa_nil)))))) pss_nil)
      (pss_cons (ps_for PassesOwn.never rfl (pi_tup (C8.pe_mt0 C_reached hr (by decide) (pv 5))) (pg_name (i := 7) nd rfl (by first | exact .inl rfl | exact .inr rfl)) (pss_one (ps_if ((pw_and (pt_cmpR op_ne (pv 7) (pv 4) (nomark _)) (pw_and1 (pt_cmpR (r := rIn K true) op_notIn_seq (pv 7) (pv 3) rfl))).pt) (pss_one (ps_ret (C8.pe_c C_turned hr (by decide) (by rfl) (pa_cons (pv 0) (pa_cons (pv 2) (pa_cons (pe_tup (pa_cons pe_str (pa_cons (C8.pe_mt C_way hr (by decide) (pv 5) (pa_cons (pv 7) pa_nil)) pa_nil))) pa_nil)))))) pss_nil)))
      (pss_one (ps_ret pe_non)))))), ?_⟩
    have e2 : ED (tVar 2) (start N_served_more [wv, .ref Nr, plv, .ref Lo, .int (x : Int)]) H (nPs ps) := ed_var rfl hp
    have e4 : ED (tVar 4) (start N_served_more [wv, .ref Nr, plv, .ref Lo, .int (x : Int)]) H (nI x) := ed_var rfl (.int _)
    have key : pnr ps x = none ↔ f x = none := by
      rw [pnr_none, flat_no po.pl (po.irr W)]
      exact Decidable.not_not
    refine r_seqIf (et_ed (ed_noO (o := pnr ps x) (ed_call (eda_cons e2 (eda_cons e4 eda_nil)) ⟨ps, x, rfl, rfl⟩))) (fun hb H1 k1 => ?_) fun hb H1 k1 => ?_
    · have hb : pnr ps x ≠ none := by simpa using hb
      refine r_ret (e2.mono k1) fun v H2 k2 d2 => q1 v H2 ps f (k1.trans k2) po (by omega) (fun u hu => ?_) d2
      rcases hu with hu | rfl
      · exact hlot u hu
      · exact fun z => hb (key.mpr z)
    · have hb : pnr ps x = none := by simpa using hb
      have fx : f x = none := key.mp hb
      -- search, last = told_search(near, plan, person)
      refine ⟨_, rfl, _, rfl, _, rfl, Nr, plv, n, ed, ps, x, f, ws, rfl, k1 _ _ hNr, dNr.ex k1, hp.ex k1, W, po, fx, hx, by omega, fun T' H2 a r k2 hT out => ?_⟩
      have k02 := k1.trans k2
      refine ⟨T', _, rfl, SqT.of hT, rfl, _, [oV r], rfl, _, [], rfl, rfl, ?_⟩
      have hLo2 := k02 _ _ hLo
      have u0 : ED (tVar 0) [some wv, some (.ref Nr), some plv, some (.ref Lo), some (.int (x : Int)), some (.ref a.p), some (oV r), none] H2 (nW n ed) := ed_var rfl (hw.ex k02)
      have u2 : ED (tVar 2) [some wv, some (.ref Nr), some plv, some (.ref Lo), some (.int (x : Int)), some (.ref a.p), some (oV r), none] H2 (nPs ps) := ed_var rfl (hp.ex k02)
      have u6 : ED (tVar 6) [some wv, some (.ref Nr), some plv, some (.ref Lo), some (.int (x : Int)), some (.ref a.p), some (oV r), none] H2 (oI r) := ed_var rfl (dn_oV r)
      refine r_seqIf (et_ed (ed_noO u6)) (fun hb H3 k3 => ?_) fun hb H3 k3 => ?_
      · -- somebody without a mate was reached
        rcases out with ⟨rfl, _⟩ | ⟨z, s, left, one, rfl, at2, fd⟩
        · simp at hb
        obtain ⟨⟨rk, I⟩, he1, he2, ha, hz, hmo⟩ := fd
        obtain ⟨L, al, nd⟩ := Gv.full_way po.mt fx I he1
        have lt : ∀ y ∈ Gv.flat L ++ [x], y < n := fun y hy => by
          rcases List.mem_append.mp hy with h | h
          · obtain ⟨p, hp', e⟩ := Gv.mem_flat.mp h
            have := mate_lt g po.mt (al.mates p hp')
            rcases e with rfl | rfl
            · exact this.1
            · exact this.2
          · have : y = x := by simpa using h
            rw [this]; exact hx
        have zn : z ∉ Gv.flat L ++ [x] := fun h => by
          rcases List.mem_append.mp h with h | h
          · obtain ⟨p, hp', e⟩ := Gv.mem_flat.mp h
            have m1 := al.mates p hp'
            rcases e with e | e
            · rw [e, m1] at hz; cases hz
            · rw [e, po.mt.sym _ _ m1] at hz; cases hz
          · have e : z = x := by simpa using h
            rw [e, I.root_even] at he2
            cases he2
        have al' : Gv.Alt f (Gv.upd s.back z (some one)) one L x := al.congr fun p hp' => Gv.upd_ne fun e => zn (by
          rw [← e]
          exact List.mem_append_left _ (Gv.mem_flat2 hp'))
        have at3 := at2.ex k3
        have hl1 : one < n := g.lt _ _ ha
        have hlz : z < n := g.lt _ _ (g.sym _ _ ha)
        have w6 : ED (tVar 6) [some wv, some (.ref Nr), some plv, some (.ref Lo), some (.int (x : Int)), some (.ref a.p), some (oV (some z)), none] H3 (nI z) := u6.mono k3
        have eb : ED (tOp (rIxL K) (tFld K (tVar 5) "back") (tVar 6)) [some wv, some (.ref Nr), some plv, some (.ref Lo), some (.int (x : Int)), some (.ref a.p), some (oV (some z)), none] H3 (nI one) :=
          (ed_ixL (ev_fld (ev_var rfl) at3.ob R.cl R.back (l_back a x)) at3.bk (dn_lV fun x => dn_oV _) w6 (at_nat (rg_get (g := fun x => oI (Gv.upd s.back z (some one) x)) hlz))).is (by rw [Gv.upd_same]; rfl)
        have p := Gv.Alt.pth g po.mt (fun w u h => I.edge w u h) al
        have er : (Gv.flat L ++ [x]).reverse = x :: (Gv.flat L).reverse := by simp
        have nd' : (x :: (Gv.flat L).reverse).Nodup := by rw [← er]; exact List.pairwise_reverse.mpr (List.Pairwise.imp (fun h => Ne.symm h) nd)
        have lt' : ∀ y ∈ x :: (Gv.flat L).reverse, y < n := fun y hy => lt y (by rw [← er, List.mem_reverse] at hy; exact hy)
        have zn' : z ∉ x :: (Gv.flat L).reverse := fun h => zn (by rw [← er, List.mem_reverse] at h; exact h)
        have ok := turn_last W po p fx nd' lt' hz zn' ha
        obtain ⟨f2, F1, F2, F3⟩ := Gv.flip_last g po.mt po.pl fx p nd' hz zn' ha
        have hlen : (x :: (Gv.flat L).reverse ++ [z]).length ≤ n := lt_len ok.nd ok.lt
        have wl : ED (tTup (StX.tStar K (tMeth C "way" (spWay C) [] E0 (tVar 5) (tCons (tOp (rIxL K) (tFld K (tVar 5) "back") (tVar 6)) tNil)) (tCons (tVar 6) tNil))) [some wv, some (.ref Nr), some plv, some (.ref Lo), some (.int (x : Int)), some (.ref a.p), some (oV (some z)), none] H3 (nT (x :: (Gv.flat L).reverse ++ [z])) :=
          (ed_tup (eda_star (ed_way (ev_var rfl) at3 (by omega) eb al' nd lt) (eda_cons w6 eda_nil)) (by rw [er]; simp at hlen ⊢; omega)).is (by rw [er]; simp)
        refine r_callRet (eda_cons (u0.mono k3) (eda_cons (u2.mono k3) (eda_cons (ed_tup (ds := [.str way, nT (x :: (Gv.flat L).reverse ++ [z])]) (eda_cons ed_str (eda_cons wl eda_nil)) (show 2 ≤ 100000 by decide)) eda_nil))) fun vs4 H4 k4 d4 => ?_
        refine ⟨n, ed, ps, _, d4, ok, by omega, by omega, fun v5 H5 ps' k5 hperm d5 => ?_⟩
        refine q1 v5 H5 ps' f2 (((k02.trans k3).trans k4).trans k5) (newPlan hperm F2 F1) ?_ (fun u hu => ?_) d5
        · rw [hperm.length_eq]
          exact Nat.le_trans len_newPs (by omega)
        · rcases hu with hu | rfl
          · exact F3 u (.inr (.inr (hlot u hu)))
          · exact F3 u (.inl rfl)
      · rcases out with ⟨rfl, s, left, at2, ri⟩ | ⟨z, s, left, one, rfl, at2, fd⟩
        · obtain ⟨rk, I⟩ := ri.si
          have at3 := at2.ex k3
          have k03 := k02.trans k3
          refine r_seq (r_for (et_tup (ed_reached (ev_var rfl) at3 (by omega))).s fun H4 k4 => ⟨fun i σ' H' => Ex H4 H' ∧ (∃ y7, σ' = [some wv, some (.ref Nr), some plv, some (.ref Lo), some (.int (x : Int)), some (.ref a.p), some (oV none), y7]) ∧ ∀ u ∈ ((List.range n).filter s.even).take i, u = x ∨ u ∈ lot,
            ⟨Ex.refl _, ⟨none, rfl⟩, fun u hu => by simp at hu⟩, fun i σ' H' h => h.1, ?_, ?_⟩)
          · rintro i d y σ' H5 H6 hd ⟨k5, ⟨y7, rfl⟩, hin⟩ k6 dy
            rw [List.getElem?_map] at hd
            cases hi : ((List.range n).filter s.even)[i]? with
            | none => rw [hi] at hd; cases hd
            | some o =>
              rw [hi] at hd
              cases hd
              refine g_name _ ?_
              rw [dy.int_inv]
              have hmem := List.mem_of_getElem? hi
              obtain ⟨ho1, ho2⟩ := List.mem_filter.mp hmem
              have ho1 := List.mem_range.mp ho1
              have k06 := ((k03.trans k4).trans k5).trans k6
              have v7 : ED (tVar 7) [some wv, some (.ref Nr), some plv, some (.ref Lo), some (.int (x : Int)), some (.ref a.p), some (oV none), some (.int ((o : Nat) : Int))] H6 (nI o) := ed_var rfl (.int _)
              have v4 : ED (tVar 4) [some wv, some (.ref Nr), some plv, some (.ref Lo), some (.int (x : Int)), some (.ref a.p), some (oV none), some (.int ((o : Nat) : Int))] H6 (nI x) := ed_var rfl (.int _)
              have hLo6 : H6 Lo = some (.lst ((lot.map fun x : Nat => (x : Int)).map V.int)) := by
                rw [k06 _ _ hLo, List.map_map]
                rfl
              refine r_if (et_and (et_ed (ed_neN v7 v4)) fun _ => et_ed ((ed_niL (a := Lo) v7 (ev_var rfl) hLo6).is (e := .bool (!decide (o ∈ lot))) (by simp only [mem_cast]))) (fun hc H7 k7 => ?_) fun hc H7 k7 => ?_
              · have hc : o ≠ x ∧ o ∉ lot := by simpa using hc
                obtain ⟨L, al, nd⟩ := Gv.full_way po.mt fx I ho2
                have lt : ∀ y ∈ Gv.flat L ++ [x], y < n := fun y hy => by
                  rcases List.mem_append.mp hy with h | h
                  · obtain ⟨p, hp', e⟩ := Gv.mem_flat.mp h
                    have := mate_lt g po.mt (al.mates p hp')
                    rcases e with rfl | rfl
                    · exact this.1
                    · exact this.2
                  · have : y = x := by simpa using h
                    rw [this]; exact hx
                have at7 := at3.ex (((k4.trans k5).trans k6).trans k7)
                have p := Gv.Alt.pth g po.mt (fun w u h => I.edge w u h) al
                have er : (Gv.flat L ++ [x]).reverse = x :: (Gv.flat L).reverse := by simp
                have nd' : (x :: (Gv.flat L).reverse).Nodup := by rw [← er]; exact List.pairwise_reverse.mpr (List.Pairwise.imp (fun h => Ne.symm h) nd)
                have lt' : ∀ y ∈ x :: (Gv.flat L).reverse, y < n := fun y hy => lt y (by rw [← er, List.mem_reverse] at hy; exact hy)
                have hL : (Gv.flat L).reverse ≠ [] := fun h => by
                  have h : Gv.flat L = [] := List.reverse_eq_nil_iff.mp h
                  have : L = [] := by
                    cases L with
                    | nil => rfl
                    | cons q r => rw [Gv.flat_cons] at h; cases h
                  subst this
                  exact hc.1 al.nil_inv
                have ok := turn_way W po p fx nd' lt' hL
                obtain ⟨f2, F1, F2, F3, F4, F5⟩ := Gv.flip g po.mt po.pl fx p nd'
                have hlen : (x :: (Gv.flat L).reverse).length ≤ n := lt_len ok.nd ok.lt
                have w0 : ED (tVar 0) [some wv, some (.ref Nr), some plv, some (.ref Lo), some (.int (x : Int)), some (.ref a.p), some (oV none), some (.int ((o : Nat) : Int))] H7 (nW n ed) := ed_var rfl (hw.ex (k06.trans k7))
                have w2 : ED (tVar 2) [some wv, some (.ref Nr), some plv, some (.ref Lo), some (.int (x : Int)), some (.ref a.p), some (oV none), some (.int ((o : Nat) : Int))] H7 (nPs ps) := ed_var rfl (hp.ex (k06.trans k7))
                have wl := (ed_way (C := C) (to := tVar 5) (σ := [some wv, some (.ref Nr), some plv, some (.ref Lo), some (.int (x : Int)), some (.ref a.p), some (oV none), some (.int ((o : Nat) : Int))]) (ev_var rfl) at7 (by omega) (v7.mono k7) al nd lt).is (e := nT (x :: (Gv.flat L).reverse)) (by rw [er])
                refine r_callRet (eda_cons w0 (eda_cons w2 (eda_cons (ed_tup (ds := [.str way, nT (x :: (Gv.flat L).reverse)]) (eda_cons ed_str (eda_cons wl eda_nil)) (show 2 ≤ 100000 by decide)) eda_nil))) fun vs8 H8 k8 d8 => ?_
                refine ⟨n, ed, ps, _, d8, ok, by omega, by omega, fun v9 H9 ps' k9 hperm d9 => ?_⟩
                refine q1 v9 H9 ps' f2 (((k06.trans k7).trans k8).trans k9) (newPlan hperm F2 F1) ?_ (fun u hu => ?_) d9
                · rw [hperm.length_eq]
                  exact Nat.le_trans len_newPs (by omega)
                · rcases hu with hu | rfl
                  · exact F4 u (fun e => hc.2 (e ▸ hu)) (.inr (hlot u hu))
                  · exact F4 u hc.1.symm (.inl rfl)
              · have hc : ¬ (o ≠ x ∧ o ∉ lot) := fun z => by simp [z.1, z.2] at hc
                refine ⟨(k5.trans k6).trans k7, ⟨_, rfl⟩, fun u hu => ?_⟩
                rw [List.take_add_one, hi] at hu
                rcases List.mem_append.mp hu with hu | hu
                · exact hin u hu
                · have : u = o := by simpa using hu
                  subst this
                  exact Decidable.byContradiction fun z => hc ⟨fun e => z (.inl e), fun e => z (.inr e)⟩
          · rintro σ' H5 ⟨k5, ⟨y7, rfl⟩, hin⟩
            rw [List.length_map, List.take_length] at hin
            show tRet (tC V.non) { nx := fun x H' => Q V.non H', rt := Q } [some wv, some (.ref Nr), some plv, some (.ref Lo), some (.int (x : Int)), some (.ref a.p), some (oV none), y7] H5
            refine r_ret (d := .none) ed_non fun v6 H6 k6 d6 => ?_
            rw [d6.non_inv]
            refine q2 H6 (((k03.trans k4).trans k5).trans k6) fun ⟨h, N, hh⟩ => ?_
            obtain ⟨c1, c2⟩ := ri.ends
            refine Gv.barrier g po.mt fx I c1 c2 N fun v hv => ?_
            rcases hin v (List.mem_filter.mpr ⟨List.mem_range.mpr (I.ev_lt v hv), hv⟩) with rfl | h'
            · exact hh v (List.mem_cons_self ..)
            · exact hh v (List.mem_cons_of_mem _ h')
        · simp at hb
end
end Gx
namespace Gv
open Classical in
/-- one after another is kept, if all kept ones together can be served -/
noncomputable def gre (S : List Nat → Prop) (o : List Nat) : List Nat := o.foldl (fun k x => if S (x :: k) then k ++ [x] else k) []
theorem gre_nil {S : List Nat → Prop} : gre S [] = [] := rfl
open Classical in
theorem gre_snoc {S : List Nat → Prop} {o : List Nat} {x : Nat} : gre S (o ++ [x]) = if S (x :: gre S o) then gre S o ++ [x] else gre S o := by
  unfold gre
  rw [List.foldl_append]
  rfl
theorem gre_yes {S : List Nat → Prop} {o : List Nat} {x : Nat} (h : S (x :: gre S o)) : gre S (o ++ [x]) = gre S o ++ [x] := by rw [gre_snoc, if_pos h]
theorem gre_no {S : List Nat → Prop} {o : List Nat} {x : Nat} (h : ¬ S (x :: gre S o)) : gre S (o ++ [x]) = gre S o := by rw [gre_snoc, if_neg h]
end Gv
namespace Gx
open PySem L2 Evl Gw
section
variable {P : Program} {w : World} {K : PySem.W.Frag} {mg : Str → Option Value} {base : Heap} {C : Addr}
abbrev Sv (n : Nat) (E : List (Nat × Nat)) : List Nat → Prop := Gv.Serv n (adjE E)
/-! ### kept_of -/
def spKept : Sp := fun vs H Q _ => ∃ (n : Nat) (E : List (Nat × Nat)) (o : List Nat) (wv lv : V), vs = [wv, lv] ∧ Dn H wv (nW n E) ∧ Dn H lv (nT o) ∧ WebOk n E ∧ (∀ x ∈ o, x < n) ∧ o.length ≤ 30 ∧
  ∀ v H' ps, Ex H H' → Dn H' v (.tuple [nT (Gv.gre (Sv n E) o), nPs ps]) → Q v H'
theorem gre_len {S : List Nat → Prop} (o : List Nat) : (Gv.gre S o).length ≤ o.length := by
  suffices ∀ m (o : List Nat), o.length = m → (Gv.gre S o).length ≤ o.length by exact this _ o rfl
  intro m
  induction m with
  | zero =>
    intro o h
    have : o = [] := List.length_eq_zero_iff.mp h
    subst this
    exact Nat.le_refl 0
  | succ m ih =>
    intro o h
    rcases List.eq_nil_or_concat o with rfl | ⟨o, x, rfl⟩
    · exact Nat.zero_le _
    · have hl : o.length = m := by simpa using h
      have := ih o hl
      rw [List.concat_eq_append, Gv.gre_snoc]
      split <;> simp <;> omega
theorem ok_kept_of (T : Txt K mg) (D : Df K mg "kept_of" s_kept_of ["web", "lot"]) (C_near_of : C8.Cal P w K mg base 2 "near_of" (SpL pNear) []) (C_served_more : C8.Cal P w K mg base 7 "served_more" spMore []) : C8.Cal P w K mg base 8 "kept_of" spKept [] := by
  refine D.cal sc_kept_of (fun vs H Q E h => by obtain ⟨n, ed, o, wv, lv, rfl, _⟩ := h; rfl) (fun f cdv A outer s0 H vs Q E hr h => ?_)
  obtain ⟨n, ed, o, wv, lv, rfl, hw, hl, W, hlt, hol, q⟩ := h
  have hn := W.n
  have hwl := W.len
  · have nd := sc_kept_of.nd
    refine ⟨_, (pss_cons (ps_par3 (i := 2) (j := 3) (l := 4) rfl nd rfl rfl rfl (by decide) (by decide) (by decide) rfl rfl rfl (pa_cons (C8.pe_c C_near_of hr (by decide) (by rfl) (pa_cons (pv 0) pa_nil)) (pa_cons (pe_tup pa_nil) (pa_cons (pe_lst pa_nil) pa_nil))) rfl)
      (pss_cons (ps_for PassesOwn.never rfl (pi_tup (pv 1)) (pg_name (i := 5) nd rfl (by first | exact .inl rfl | exact .inr rfl)) (pss_cons (ps_set (i := 6) nd rfl (by first | exact .inl rfl | exact .inr rfl) (C8.pe_c C_served_more hr (by decide) (by rfl) (pa_cons (pv 0) (pa_cons (pv 2) (pa_cons (pv 3) (pa_cons (pv 4) (pa_cons (pv 5) pa_nil)))))))
      (pss_one (ps_if (pt_cmpR op_notN (pv 6) pe_non (nomark _)) (pss_cons (ps_set (i := 3) nd rfl (by first | exact .inl rfl | exact .inr rfl) (pv 6))
      (pss_one (ps_expr (pe_bm PySem.F.plainAttrs_list PySem.F.slot_list_append PySem.F.type_list_append mt_append (pv 4) (pa_cons (pv 5) pa_nil))))) pss_nil))))
      (pss_one (ps_ret (pe_tup (pa_cons (pe_callTy (r := rTupS K) call_tuple_of (by rfl) T.nb.tuple bt_tuple (pa_cons (pv 4) pa_nil)) (pa_cons (pv 3) pa_nil))))))), ?_⟩
    have e0 : ED (tVar 0) (start N_kept_of [wv, lv]) H (nW n ed) := ed_var rfl hw
    refine r_seq ((el_call (eda_cons e0 eda_nil) (es := near n ed) ⟨n, ed, by omega, hwl, rfl, rfl⟩).now fun Nr ws H1 n1 k1 h1 d1 => ?_)
    refine ⟨Nat.zero_le _, fun pp hpp => ?_⟩
    have k2 : Ex H1 (upd H1 pp (.tup [])) := Ex.new hpp
    have dp2 : Dn (upd H1 pp (.tup [])) (.ref pp) (nPs []) := .tup upd_same .nil
    have h2 := k2 _ _ h1
    have d2 := d1.ex k2
    generalize upd H1 pp (.tup []) = H2 at k2 dp2 h2 d2 ⊢
    refine ⟨Nat.zero_le _, fun Ke hKe => ⟨_, _, _, rfl, ?_⟩⟩
    have fKe : H Ke = none := fresh_back (k1.trans k2) hKe
    have nKN : Nr ≠ Ke := fun e => by rw [← e, h2] at hKe; cases hKe
    have k3 : Ex H2 (upd H2 Ke (.lst [])) := Ex.new hKe
    have k03 := (k1.trans k2).trans k3
    have e1 : ED (tVar 1) [some wv, some lv, some (.ref Nr), some (.ref pp), some (.ref Ke), none, none] (upd H2 Ke (.lst [])) (nT o) := ed_var rfl (hl.ex k03)
    refine r_seq (r_forT (ds := o.map nI) (et_tup e1) fun H4 k4 => ⟨fun i σ' H' => Gw.Tx H4 H' ∧ Ex H H' ∧ ∃ plv ps f x5 x6 ws', σ' = [some wv, some lv, some (.ref Nr), some plv, some (.ref Ke), x5, x6] ∧ H' Nr = some (.lst ws') ∧ DnL H' ws' (near n ed) ∧ Dn H' plv (nPs ps) ∧
        H' Ke = some (.lst ((Gv.gre (Sv n ed) (o.take i)).map fun x : Nat => V.int (x : Int))) ∧ PlanOk n ed ps f ∧ ps.length ≤ n * i ∧ ∀ v ∈ Gv.gre (Sv n ed) (o.take i), f v ≠ none,
        ⟨Gw.Tx.refl _, k03.trans k4, .ref pp, [], fun _ => none, none, none, ws, rfl, (k3.trans k4) _ _ h2, d2.ex (k3.trans k4), dp2.ex (k3.trans k4), k4 _ _ upd_same, ⟨⟨fun q hq => (nomatch hq), fun u v _ => ⟨fun hq => (nomatch hq), fun hq => (nomatch hq)⟩⟩, ⟨fun u v h => (nomatch h), fun u v h => (nomatch h)⟩⟩, Nat.zero_le _, fun v hv => (nomatch hv)⟩,
        fun i σ' H' z => z.1, ?_, ?_⟩)
    · rintro i d x σ' H5 H6 hd ⟨tx5, ex5, plv, ps, g, x5, x6, ws', rfl, h5, dN5, dp5, hK5, po, hps, hk⟩ k6 dx
      rw [List.getElem?_map] at hd
      cases hi : o[i]? with
      | none => rw [hi] at hd; cases hd
      | some y =>
        rw [hi] at hd
        cases hd
        refine g_name _ ?_
        rw [dx.int_inv]
        have hil : i < o.length := (List.getElem?_eq_some_iff.mp hi).1
        have hy : y < n := hlt y (List.mem_of_getElem? hi)
        have ti : o.take (i + 1) = o.take i ++ [y] := by rw [List.take_add_one, hi] <;> rfl
        have bnd : n * (i + 1) ≤ 900 := Nat.le_trans (Nat.mul_le_mul hn (show i + 1 ≤ 30 by omega)) (by decide)
        have bnd2 : n * (i + 1) = n * i + n := Nat.mul_succ n i
        refine r_seq ⟨_, rfl, _, rfl, _, rfl, _, rfl, _, rfl, ?_⟩
        refine ⟨n, ed, ps, g, Gv.gre (Sv n ed) (o.take i), y, wv, plv, Nr, Ke, ws', rfl, (hw.ex ex5).ex k6, k6 _ _ h5, dN5.ex k6, dp5.ex k6, k6 _ _ hK5, W, po, hy, by omega, hk, fun v H7 ps' f' k7 po' hps' hf' dv => ?_, fun H7 k7 hns => ?_⟩
        · have k67 := k6.trans k7
          have yes : Sv n ed (y :: Gv.gre (Sv n ed) (o.take i)) := ⟨f', po'.mt, fun u hu => by
            rcases List.mem_cons.mp hu with h | h
            · exact hf' u (.inr h)
            · exact hf' u (.inl h)⟩
          have u6 : ED (tVar 6) [some wv, some lv, some (.ref Nr), some plv, some (.ref Ke), some (.int ((y : Nat) : Int)), some v] H7 (nPs ps') := ed_var rfl dv
          refine g_name _ ?_
          dsimp only
          refine r_if (b := true) (et_ed fun H8 a8 Q' q' => ?_) (fun _ H8 k8 => ?_) fun hb => nomatch hb
          · refine u6 H8 a8 _ fun v9 H9 k9 d9 => ⟨rfl, q' _ H9 k9 ?_⟩
            obtain ⟨t, xs, e, _, _⟩ := d9.tup_inv
            rw [e]
            exact .bl true
          · have u6' := u6.mono k8
            refine r_seqD u6' fun v9 H9 k9 d9 => ?_
            have u5 : ED (tVar 5) [some wv, some lv, some (.ref Nr), some v9, some (.ref Ke), some (.int ((y : Nat) : Int)), some v] H9 (nI y) := ed_var rfl (.int _)
            have kk := (k67.trans k8).trans k9
            have hK9 := kk _ _ hK5
            refine r_append (d := nI y) (l := Ke) (ev_var rfl) u5 hK9 ?_ fun v10 H10 k10 d10 => ?_
            · rw [List.length_map]
              have := gre_len (S := Sv n ed) (o.take i)
              rw [List.length_take] at this
              omega
            · rw [d10.int_inv]
              have kk2 := kk.trans k10
              have nt : Gw.Tx H10 (upd H10 Ke (.lst ((Gv.gre (Sv n ed) (o.take i)).map (fun x : Nat => V.int (x : Int)) ++ [V.int (y : Int)]))) := Gw.Tx.mut (k10 _ _ hK9) fun _ q => nomatch q
              refine ⟨tx5.trans ((Gw.Tx.of kk2).trans nt), (ex5.trans kk2).mut fKe, v9, ps', f', _, _, ws', rfl, ?_, (dN5.ex kk2).tx nt, (d9.ex k10).tx nt, ?_, po', by omega, fun u hu => ?_⟩
              · rw [upd_ne nKN]; exact kk2 _ _ h5
              · rw [upd_same, ti, Gv.gre_yes yes, List.map_append]
                rfl
              · rw [ti, Gv.gre_yes yes] at hu
                rcases List.mem_append.mp hu with h | h
                · exact hf' u (.inl h)
                · exact hf' u (.inr (by simpa using h))
        · have k67 := k6.trans k7
          have u6 : ED (tVar 6) [some wv, some lv, some (.ref Nr), some plv, some (.ref Ke), some (.int ((y : Nat) : Int)), some V.non] H7 (oI none) := ed_var rfl .non
          refine g_name _ ?_
          dsimp only
          refine r_if (b := false) (et_ed ((ed_noO u6).is rfl)) (fun hb => nomatch hb) fun _ H8 k8 => ?_
          have kk := k67.trans k8
          refine ⟨tx5.trans (Gw.Tx.of kk), ex5.trans kk, plv, ps, g, _, _, ws', rfl, kk _ _ h5, dN5.ex kk, dp5.ex kk, ?_, po, by omega, ?_⟩
          · rw [ti, Gv.gre_no hns]; exact kk _ _ hK5
          · rw [ti, Gv.gre_no hns]; exact hk
    · rintro σ' H5 ⟨tx5, ex5, plv, ps, g, x5, x6, ws', rfl, h5, dN5, dp5, hK5, po, hps, hk⟩
      rw [List.length_map, List.take_length] at hK5
      have e3 : ED (tVar 3) [some wv, some lv, some (.ref Nr), some plv, some (.ref Ke), x5, x6] H5 (nPs ps) := ed_var rfl dp5
      have e4 : ED (tCB (rTupS K) (tCons (tVar 4) tNil)) [some wv, some lv, some (.ref Nr), some plv, some (.ref Ke), x5, x6] H5 (nT (Gv.gre (Sv n ed) o)) := fun H1 a Q' q' =>
        ⟨_, rfl, Ke, _, rfl, .inl ⟨SqL.of (a _ _ hK5), fun r hr => q' _ _ (Ex.new hr) (.tup upd_same (dnl_nats _))⟩⟩
      exact r_ret (d := .tuple [nT (Gv.gre (Sv n ed) o), nPs ps]) (ed_tup (eda_cons e4 (eda_cons e3 eda_nil)) (show 2 ≤ 100000 by decide)) fun v H6 k6 d6 => q v H6 ps (ex5.trans k6) d6
/-! ### kept_lot -/
noncomputable def kep (n : Nat) (E : List (Nat × Nat)) (o : List Nat) : List Nat := srt (Gv.gre (Sv n E) o)
def pKeptLot (ds : List PyData) (d : PyData) : Prop := ∃ n E o, ds = [nW n E, nT o] ∧ WebOk n E ∧ (∀ x ∈ o, x < n) ∧ o.length ≤ 30 ∧ d = nT (kep n E o)
theorem ok_kept_lot (T : Txt K mg) (D : Df K mg "kept_lot" s_kept_lot ["web", "order"]) (C_kept_of : C8.Cal P w K mg base 8 "kept_of" spKept []) : C8.Cal P w K mg base 9 "kept_lot" (SpD pKeptLot) [] := by
  refine D.cal sc_kept_lot (spd_len fun ds d h => by obtain ⟨n, E, o, rfl, _⟩ := h; rfl) (fun f cdv A outer s0 H vs Q E hr h => ?_)
  obtain ⟨ds, d, hds, hp, q⟩ := h
  obtain ⟨n, ed, o, rfl, W, hlt, hol, rfl⟩ := hp
  obtain ⟨v, w', rfl, hv, hw⟩ := a2 hds
  · have nd := sc_kept_lot.nd
    refine ⟨_, (pss_one (ps_ret (pe_callTy (r := rTupS K) call_tuple_of (by rfl) T.nb.tuple bt_tuple (pa_cons (pe_callB cr_sortT1 (by rfl) T.nb.sorted bt_sorted (pa_cons (pe_ix (r := rIxT K) ix_tup (C8.pe_c C_kept_of hr (by decide) (by rfl) (pa_cons (pv 0) (pa_cons (pv 1) pa_nil))) pe_int (fun _ _ => rfl)) pa_nil)) pa_nil)))), ?_⟩
    have call : ED (tOp (rIxT K) (tCall spKept [] E0 (tCons (tVar 0) (tCons (tVar 1) tNil))) (tC (.int 0))) (start N_kept_lot [v, w']) H (nT (Gv.gre (Sv n ed) o)) := fun H1 a Q' q' => by
      refine ⟨_, rfl, _, rfl, n, ed, o, v, w', rfl, hv.ex a, hw.ex a, W, hlt, hol, fun u H2 ps k2 d2 => ?_⟩
      obtain ⟨t, xs, e1, e2, e3⟩ := d2.tup_inv
      obtain ⟨x1, x2, e4, g1, g2⟩ := a2 e3
      subst e4 e1
      exact ⟨t, _, 0, x1, rfl, rfl, SqT.of e2, rfl, q' x1 H2 k2 g1⟩
    exact r_ret (ed_tupleL (el_sortT call)) fun u H2 k2 d2 => q u H2 k2 d2
/-! ### places -/
def plc (o lot : List Nat) : List Nat := (List.range o.length).filter fun i => decide (o.getD i 0 ∈ lot)
def pPlaces (ds : List PyData) (d : PyData) : Prop := ∃ o lot, o.length ≤ 1000 ∧ ds = [nT o, nT lot] ∧ d = nT (plc o lot)
theorem ok_places (T : Txt K mg) (D : Df K mg "places" s_places ["order", "lot"]) : C8.Cal P w K mg base 1 "places" (SpD pPlaces) [] := by
  refine D.cal sc_places (spd_len fun ds d h => by obtain ⟨o, lot, _, rfl, _⟩ := h; rfl) (fun f cdv A outer s0 H vs Q E hr h => ?_)
  obtain ⟨ds, d, hds, hp, q⟩ := h
  obtain ⟨o, lot, hol, rfl, rfl⟩ := hp
  obtain ⟨v, w', rfl, hv, hw⟩ := a2 hds
  · have nd := sc_places.nd
    refine ⟨_, (pss_one (ps_ret (pe_callTy (r := rTupS K) call_tuple_of (by rfl) T.nb.tuple bt_tuple (pa_cons (pe_lc (own := [("at", 2), ("person", 3)]) (g := (gTup _ 2 (gCons (gName 2) (gCons (gName 3) gNil)))) (tt := _) rfl nd (pi_enumT (by rfl) T.nb.enumerate (pa_cons (pv 0) pa_nil)) (blkOk_by (own := [("at", 2), ("person", 3)]) (N := N_places) (sc := (defScope s_places)) (by decide +kernel)) (fun _ _ _ _ _ => (pg_tup rfl (pgs_cons (pg_name (i := 2) nd rfl (by first | exact .inl rfl | exact .inr rfl)) (pgs_cons (pg_name (i := 3) nd rfl (by first | exact .inl rfl | exact .inr rfl)) pgs_nil)))) (fun _ _ _ _ _ => (pts_one (pt_cmpR (r := rIn K false) op_in_seq (pv 3) (pv 1) rfl))) (fun _ _ _ _ _ => (pv 2))) pa_nil)))), ?_⟩
    have e0 : ED (tVar 0) (start N_places [v, w']) H (nT o) := ed_var rfl hv
    have z := et_enumT (K := K) e0
    have e1 : ((List.range (o.map nI).length).map fun i => PyData.tuple [nI i, (o.map nI).getD i .none]) = (List.range o.length).map fun i => nP (i, o.getD i 0) := by
      rw [List.length_map]
      refine List.map_congr_left fun i hi => ?_
      have := getD_map nI o (i := i) 0 (List.mem_range.mp hi)
      rw [List.getD_eq_getElem?_getD, this]
      rfl
    rw [e1] at z
    refine r_ret (d := nT (plc o lot)) (ed_tupleL (el_lc (enc := fun i => nP (i, o.getD i 0)) (xs := List.range o.length) (b := fun i => decide (o.getD i 0 ∈ lot)) (f := nI) z.s (by rw [List.length_range]; omega) fun i hi y H' k dy => ?_)) fun u H2 k2 d2 => q u H2 k2 d2
    obtain ⟨v1, v2, dv1, dv2, g⟩ := g_pair (K := K) (i := 2) (j := 3) (σ := wipe (start N_places [v, w']) [2, 3]) dy
    refine ⟨_, g, rfl, et_ed (ed_inN (l := lot) (ed_var (v := v2) rfl dv2) (ed_var (v := w') rfl (hw.ex k))), fun _ => ed_var rfl dv1⟩
/-! ### beginnings -/
def cnt (o lot : List Nat) (m : Nat) : Nat := ((o.take m).filter fun x => decide (x ∈ lot)).length
def begs (o lot : List Nat) : List Nat := (List.range (o.length + 1)).map (cnt o lot)
def pBegin (ds : List PyData) (d : PyData) : Prop := ∃ n E o, ds = [nW n E, nT o] ∧ WebOk n E ∧ (∀ x ∈ o, x < n) ∧ o.length ≤ 30 ∧ d = nT (begs o (kep n E o))
/-- a def, what is proved of it, how it stands -/
structure CalD (P : Program) (w : World) (K : PySem.W.Frag) (mg : Str → Option Value) (base : Heap) (k : Nat) (x : Str) (st : Stmt) (ps : List Str) (sp : Sp) : Prop where
  ex : ∃ f fd, Fun K x x st f fd ∧ FnOk P w K mg base CX0 k f fd ps sp ∧ mg x = some (.ref f) ∧ Binds K fd ps []
theorem CalD.cal {x : Str} {st : Stmt} {ps : List Str} {k : Nat} {sp : Sp} (c : CalD P w K mg base k x st ps sp) : C8.Cal P w K mg base k x sp [] := by
  obtain ⟨f, fd, F, h, m, b⟩ := c.ex
  exact ⟨f, fd, ps, [], h, m, F.kp, b, .nil⟩
theorem calD_of {x : Str} {st : Stmt} {N ps : List Str} {k : Nat} {sp : Sp} (F : Df K mg x st ps) (S : FnScope N ps (defScope st)) (len : ∀ vs H Q E, sp vs H Q E → vs.length = ps.length)
    (hbody : ∀ (f : Addr) (cdv : Value) (A : Around) (outer : List Env) (s : Shared) (H : Hp) (vs : List V) (Q : VK) (E : XK), Room k (A.deeper (PyProof.Rows.envOfC x (defScope st) s.heap.objs.size f cdv)) → sp vs H Q E →
      ∃ t, PSs (cxOf CX0 P w K mg base N x (defScope st) f cdv A outer s H E).nox (defBody st) t ∧ t { nx := fun _ H' => Q .non H', rt := Q } (start N vs) H) : CalD P w K mg base (k + 1) x st ps sp := by
  obtain ⟨f, fd, F1, m1, b1⟩ := F.ex
  exact ⟨f, fd, F1, F1.ok S len fun cdv A outer s H vs Q E hr h => hbody f cdv A outer s H vs Q E hr h, m1, b1⟩
theorem ok_beginnings (T : Txt K mg) (D : Df K mg "beginnings" s_beginnings ["web", "order"]) (C_kept_lot : C8.Cal P w K mg base 9 "kept_lot" (SpD pKeptLot) []) : CalD P w K mg base 10 "beginnings" s_beginnings ["web", "order"] (SpD pBegin) := by
  refine calD_of D sc_beginnings (spd_len fun ds d h => by obtain ⟨n, E, o, rfl, _⟩ := h; rfl) (fun f cdv A outer s0 H vs Q E hr h => ?_)
  obtain ⟨ds, d, hds, hp, q⟩ := h
  obtain ⟨n, ed, o, rfl, W, hlt, hol, rfl⟩ := hp
  obtain ⟨v, w', rfl, hv, hw⟩ := a2 hds
  · have nd := sc_beginnings.nd
    refine ⟨_, (pss_cons (ps_set (i := 2) nd rfl (by first | exact .inl rfl | exact .inr rfl) (C8.pe_c C_kept_lot hr (by decide) (by rfl) (pa_cons (pv 0) (pa_cons (pv 1) pa_nil))))
      (pss_one (ps_ret (pe_callTy (r := rTupS K) call_tuple_of (by rfl) T.nb.tuple bt_tuple (pa_cons (pe_lc (own := [("many", 3)]) (g := (gName 3)) (tt := tYes) rfl nd (pi_range1 (by rfl) T.nb.range (pa_cons (pe_op op_add (pe_callB (r := rLenS K) call_len_seq (by rfl) T.nb.len bt_len (pa_cons (pv 1) pa_nil)) pe_int) pa_nil)) (blkOk_by (own := [("many", 3)]) (N := N_beginnings) (sc := (defScope s_beginnings)) (by decide +kernel)) (fun _ _ _ _ _ => (pg_name (i := 3) nd rfl (by first | exact .inl rfl | exact .inr rfl))) (fun _ _ _ _ _ => pts_nil) (fun _ _ _ _ _ => (pe_callB (r := rLenS K) call_len_seq (by rfl) T.nb.len bt_len (pa_cons (pe_lc (wi := iTup K _) (own := [("one", 4)]) (g := (gName 4)) (tt := _) rfl nd (pi_tup (pe_slice (r := rSlA K) sl_tupA (pv 1) po_none (po_some (pv 3)))) (blkOk_by (own := [("one", 4)]) (N := N_beginnings) (sc := _) (by rfl)) (fun _ _ _ _ _ => (pg_name (i := 4) nd rfl (by first | exact .inl rfl | exact .inr rfl))) (fun _ _ _ _ _ => (pts_one (pt_cmpR (r := rIn K false) op_in_seq (pv 4) (pv 2) rfl))) (fun _ _ _ _ _ => (pv 4))) pa_nil)))) pa_nil))))), ?_⟩
    have e0 : ED (tVar 0) (start N_beginnings [v, w']) H (nW n ed) := ed_var rfl hv
    have e1 : ED (tVar 1) (start N_beginnings [v, w']) H (nT o) := ed_var rfl hw
    refine r_seqD (ed_call (eda_cons e0 (eda_cons e1 eda_nil)) ⟨n, ed, o, rfl, W, hlt, hol, rfl⟩) fun v2 H2 k2 d2 => ?_
    generalize kep n ed o = lot at d2 q
    have u1 : ED (tVar 1) [some v, some w', some v2, none, none] H2 (nT o) := ed_var rfl (hw.ex k2)
    have u3 := (ed_add (ed_lenN (K := K) u1) (ed_int (i := 1))).is (e := nI (o.length + 1)) rfl
    refine r_ret (ed_tupleL ((el_lcAll (xs := List.range (o.length + 1)) (enc := nI) (f := fun m => nI (cnt o lot m)) (et_range1 u3 (by omega)).s (by rw [List.length_range]; omega) fun m hm x H' kx dx => ⟨_, fun Q q => g_name Q q, rfl, ?_⟩).is (es := (begs o lot).map nI) (by unfold begs; rw [List.map_map]; rfl))) fun u H3 k3 d3 => q u H3 (k2.trans k3) d3
    have t1 : ED (tVar 1) [some v, some w', some v2, some x, none] H' (nT o) := ed_var rfl (hw.ex (k2.trans kx))
    have t3 : ED (tVar 3) [some v, some w', some v2, some x, none] H' (nI m) := ed_var rfl dx
    have c1 := ed_slT (K := K) t1 Evl.eo_none (eo_int t3)
    rw [cutD_to, ← List.map_take] at c1
    refine (ed_lenL (el_lc (enc := nI) (xs := o.take m) (b := fun x => decide (x ∈ lot)) (f := nI) (et_tup c1).s (by rw [List.length_take]; omega) fun a ha y H3 ky dy => ⟨_, fun Q q => g_name Q q, rfl, et_ed (ed_inN (l := lot) (ed_var (v := y) rfl dy) (ed_var (v := v2) rfl (d2.ex (kx.trans ky)))), fun _ => ed_var rfl dy⟩)).is ?_
    rw [List.length_map]
    rfl
end
end Gx
namespace Gw
open PySem L2 Evl
section
variable {K : PySem.W.Frag} {σ : L2.St} {H H' : Hp} {ta tb te to tl : TE} {i j : Int} {m n : Nat}
theorem ed_mul (h : ED ta σ H (.int i)) (k : ED tb σ H (.int j)) (c : CMul i j) : ED (tOp (rI CMul fun i j => .int (i * j)) ta tb) σ H (.int (i * j)) := ed_evInt (ev_op h.ev_int k.ev_int (rv_I c))
theorem ed_mod (h : ED ta σ H (.int i)) (k : ED tb σ H (.int j)) (c : 0 < j) : ED (tOp (rI (fun _ j => 0 < j) fun i j => .int (i % j)) ta tb) σ H (.int (i % j)) := ed_evInt (ev_op h.ev_int k.ev_int (rv_I c))
theorem ed_fdiv (h : ED ta σ H (.int i)) (k : ED tb σ H (.int j)) (c : CDiv i j) : ED (tOp (rI CDiv fun i j => .int (i / j)) ta tb) σ H (.int (i / j)) := ed_evInt (ev_op h.ev_int k.ev_int (rv_I c))
theorem ed_pow (h : ED ta σ H (.int i)) (k : ED tb σ H (.int j)) (c : CPow i j) : ED (tOp (rI CPow fun i j => .int (i ^ j.toNat)) ta tb) σ H (.int (i ^ j.toNat)) := ed_evInt (ev_op h.ev_int k.ev_int (rv_I c))
theorem ed_toInt (h : ED ta σ H (.int i)) : ED (tCB (fun xs H Q => (∃ i, xs = [V.int i] ∧ Q (.int i) H) ∨ ∃ k, xs = [V.bl k] ∧ Q (.int (if k then 1 else 0)) H) (tCons ta tNil)) σ H (.int i) := fun H1 a Q q =>
  h H1 a _ fun v H2 k1 k2 => .inl ⟨i, by rw [k2.int_inv], q _ H2 k1 (.int _)⟩
theorem ed_abs (h : ED ta σ H (.int i)) : ED (tCB (fun xs H Q => ∃ i, xs = [V.int i] ∧ Q (.int (if i < 0 then -i else i)) H) (tCons ta tNil)) σ H (.int (if i < 0 then -i else i)) := fun H1 a Q q =>
  h H1 a _ fun v H2 k1 k2 => ⟨i, by rw [k2.int_inv], q _ H2 k1 (.int _)⟩
theorem ed_minN (h : ED ta σ H (nI m)) (k : ED tb σ H (nI n)) : ED (tCB (fun xs H Q => ∃ i j, xs = [V.int i, .int j] ∧ Q (.int (if j < i then j else i)) H) (tCons ta (tCons tb tNil))) σ H (nI (min m n)) := fun H1 a Q q =>
  h H1 a _ fun v H2 k1 k2 => k H2 (a.trans k1) _ fun w H3 l1 l2 => ⟨m, n, by rw [k2.int_inv, l2.int_inv], by
    have : (if (n : Int) < (m : Int) then (n : Int) else (m : Int)) = ((min m n : Nat) : Int) := by split <;> omega
    rw [this]
    exact q _ H3 (k1.trans l1) (.int _)⟩
theorem ed_maxN (h : ED ta σ H (nI m)) (k : ED tb σ H (nI n)) : ED (tCB (fun xs H Q => ∃ i j, xs = [V.int i, .int j] ∧ Q (.int (if j > i then j else i)) H) (tCons ta (tCons tb tNil))) σ H (nI (max m n)) := fun H1 a Q q =>
  h H1 a _ fun v H2 k1 k2 => k H2 (a.trans k1) _ fun w H3 l1 l2 => ⟨m, n, by rw [k2.int_inv, l2.int_inv], by
    have : (if (n : Int) > (m : Int) then (n : Int) else (m : Int)) = ((max m n : Nat) : Int) := by split <;> omega
    rw [this]
    exact q _ H3 (k1.trans l1) (.int _)⟩
theorem shp_ints (l : List Int) : SeqAt.shaped (.list (l.map PyData.int)) = true := by
  have h1 := lay_ints l
  have h2 := depth_ints l
  have h3 : (PyData.list (l.map PyData.int)).depth ≤ 64 := by
    simp only [PyData.depth]
    omega
  have h4 : (PyData.list (l.map PyData.int)).canLay0 = true := by
    simp only [PyData.canLay0]
    exact h1
  unfold SeqAt.shaped
  rw [h4, decide_eq_true h3] <;> rfl
theorem shp_nil : SeqAt.shaped (.list []) = true := shp_ints []
/-- a list of numbers that stands, against [] -/
theorem ed_neNil {a : Addr} {cs : List Int} (h : Ev ta σ H (.ref a)) (hs : H a = some (.lst (cs.map V.int))) : ED (tOp (rNeD K) ta (tLst tNil)) σ H (.bool (!decide (cs = []))) := fun H1 b Q q =>
  h H1 b _ fun H2 k2 => ⟨Nat.zero_le _, fun p hp => by
    have k3 : Ex H2 (upd H2 p (.lst [])) := Ex.new hp
    have e3 := (b.trans k2).trans k3
    refine ⟨.list (cs.map PyData.int), .list ([].map PyData.int), .lst (SqL.of (e3 _ _ hs)) (dp_ints cs), .lst (SqL.of upd_same) (dp_ints []), shp_ints cs, shp_ints [], ?_⟩
    have : PyData.eqv (.list (cs.map PyData.int)) (.list (([] : List Int).map PyData.int)) = decide (cs = []) := by
      simp only [PyData.eqv]
      exact eqv_ints cs []
    rw [this]
    exact q _ _ (k2.trans k3) (.bl _)⟩
theorem elp_sortAt {a : Addr} {vs : List V} {l : List (Nat × Nat)} (h : Ev ta σ H (.ref a)) (hs : H a = some (.lst vs)) (hd : DnL H vs (l.map nP)) : ELP (tCB (rSortedPO K) (tCons ta tNil)) σ H l := fun H1 b Q q =>
  h H1 b _ fun H2 k2 => by
    have k02 := b.trans k2
    have hs := k02 _ _ hs
    have hd := hd.ex k02
    refine ⟨a, vs, fun x => match x with | .ref t => (match H2 t with | some (.tup [.int i, .int j]) => (i, j) | _ => (0, 0)) | _ => (0, 0), rfl, SqL.of hs, fun x hx => ?_, fun ys p _ hst hp => ?_⟩
    · obtain ⟨i, hi⟩ := List.mem_iff_getElem?.mp hx
      obtain ⟨d, e1, e2⟩ := hd.get' hi
      rw [List.getElem?_map] at e1
      cases hl : l[i]? with
      | none => rw [hl] at e1; cases e1
      | some pq =>
        rw [hl] at e1
        cases e1
        obtain ⟨t, zs, f1, f2, f3⟩ := e2.tup_inv
        have := dnl_ints_inv (ns := [(pq.1 : Int), (pq.2 : Int)]) f3
        subst this f1
        refine ⟨t, rfl, ?_⟩
        have f2' : H2 t = some (.tup [.int (pq.1 : Int), .int (pq.2 : Int)]) := f2
        simp only [f2']
    · obtain ⟨l', a1, a2⟩ := perm_dn hst.perm hd
      exact q l' p ys _ a1 (fresh_back k2 hp) (k2.trans (Ex.new hp)) upd_same (a2.ex (Ex.new hp))
end
end Gw
namespace Gx
open PySem L2 Evl Gw
section
variable {P : Program} {w : World} {K : PySem.W.Frag} {mg : Str → Option Value} {base : Heap} {C : Addr}
/-! ### the deal -/
structure Deal (H : Hp) (D Cl : Addr) (cs : List Int) (b : Int) : Prop where
  hD : H D = some (.lst [.ref Cl, .int b])
  hC : H Cl = some (.lst (cs.map V.int))
  ne : D ≠ Cl
  lb : 0 ≤ b ∧ b < 2147483648
  len : cs.length ≤ 100
def Kd (D Cl : Addr) (H H' : Hp) : Prop := ∀ x o, x ≠ D → x ≠ Cl → H x = some o → H' x = some o
theorem Kd.of {D Cl : Addr} {H H' : Hp} (e : Ex H H') : Kd D Cl H H' := fun x o _ _ h => e x o h
theorem Kd.trans {D Cl : Addr} {H H1 H2 : Hp} (h : Kd D Cl H H1) (k : Kd D Cl H1 H2) : Kd D Cl H H2 := fun x o h1 h2 e => k x o h1 h2 (h x o h1 h2 e)
theorem Deal.ex {H H' : Hp} {D Cl : Addr} {cs : List Int} {b : Int} (h : Deal H D Cl cs b) (e : Ex H H') : Deal H' D Cl cs b := ⟨e _ _ h.hD, e _ _ h.hC, h.ne, h.lb, h.len⟩
theorem Kd.tx {H H' : Hp} {D Cl : Addr} {cs : List Int} {b : Int} (k : Kd D Cl H H') (h : Deal H D Cl cs b) : Gw.Tx H H' := fun x xs e => k x _ (fun q => by rw [q, h.hD] at e; cases e) (fun q => by rw [q, h.hC] at e; cases e) e
def Dl (H : Hp) (D Cl : Addr) : Prop := ∃ cs b, Deal H D Cl cs b
/-! ### _law_any -/
def spAny : Sp := fun vs H Q _ => ∃ (D Cl : Addr) (m : Nat), vs = [.ref D, .int (m : Int)] ∧ Dl H D Cl ∧ 1 ≤ m ∧ m ≤ 1000 ∧ ∀ (r : Nat) H', r < m → Kd D Cl H H' → Dl H' D Cl → Q (.int (r : Int)) H'
theorem ev_d0 {H : Hp} {D Cl : Addr} {cs : List Int} {b : Int} {σ : L2.St} (h : Deal H D Cl cs b) (hs : σ[0]? = some (some (.ref D))) : Ev (tOp (rIxL K) (tVar 0) (tC (.int 0))) σ H (.ref Cl) := ev_op (ev_var hs) ev_c (rv_ixL (SqL.of h.hD) rfl)
theorem ev_d1 {H : Hp} {D Cl : Addr} {cs : List Int} {b : Int} {σ : L2.St} (h : Deal H D Cl cs b) (hs : σ[0]? = some (some (.ref D))) : ED (tOp (rIxL K) (tVar 0) (tC (.int 1))) σ H (.int b) := ed_evInt (ev_op (ev_var hs) ev_c (rv_ixL (SqL.of h.hD) rfl))
theorem ok_any (T : Txt K mg) (D : Df K mg "_law_any" s_l_any ["_law_deal", "_law_bound"]) : C8.Cal P w K mg base 1 "_law_any" spAny [] := by
  refine D.cal sc_l_any (fun vs H Q E h => by obtain ⟨D, Cl, m, rfl, _⟩ := h; rfl) (fun f cdv A outer s0 H vs Q E hr h => ?_)
  obtain ⟨D, Cl, m, rfl, ⟨cs, b, h⟩, hm1, hm2, q⟩ := h
  · have nd := sc_l_any.nd
    refine ⟨_, (pss_cons (ps_while PassesOwn.never ((pw_and (pt_cmpR (r := rNeD K) (op_neD (units64 hr)) (pe_ix (r := rIxL K) ix_list (pv 0) pe_int (fun _ _ => rfl)) (pe_lst pa_nil) (nomark _)) (pw_and1 (pt_cmpR op_eq (pe_ix (r := rIxL K) ix_list (pe_ix (r := rIxL K) ix_list (pv 0) pe_int (fun _ _ => rfl)) (pe_un un_neg pe_int) (fun _ _ => rfl)) pe_int (nomark _)))).pt) (pss_one (ps_expr (pe_bm0 PySem.F.plainAttrs_list PySem.F.slot_list_pop PySem.F.type_list_pop mt_pop (pe_ix (r := rIxL K) ix_list (pv 0) pe_int (fun _ _ => rfl))))))
      (pss_cons (ps_if (pt_cmpR (r := rNeD K) (op_neD (units64 hr)) (pe_ix (r := rIxL K) ix_list (pv 0) pe_int (fun _ _ => rfl)) (pe_lst pa_nil) (nomark _)) (pss_cons (ps_set (i := 2) nd rfl (by first | exact .inl rfl | exact .inr rfl) (pe_callTy call_int1 (by rfl) T.nb.int bt_int (pa_cons (pe_bm0 PySem.F.plainAttrs_list PySem.F.slot_list_pop PySem.F.type_list_pop mt_pop (pe_ix (r := rIxL K) ix_list (pv 0) pe_int (fun _ _ => rfl))) pa_nil)))
      (pss_cons (ps_expr (pe_bm PySem.F.plainAttrs_list PySem.F.slot_list_append PySem.F.type_list_append mt_append (pe_ix (r := rIxL K) ix_list (pv 0) pe_int (fun _ _ => rfl)) (pa_cons (pe_op op_fdiv (pv 2) (pv 1)) pa_nil)))
      (pss_one (ps_ret (pe_op op_mod (pv 2) (pv 1)))))) pss_nil)
      (pss_cons (ps_asg (pe_op op_mod (pe_callTy call_int1 (by rfl) T.nb.int bt_int (pa_cons (pe_op op_add (pe_op op_mul (pe_ix (r := rIxL K) ix_list (pv 0) pe_int (fun _ _ => rfl)) pe_int) pe_int) pa_nil)) pe_int) (pg_sub (pv 0) pe_int set_list) rfl)
      (pss_one (ps_ret (pe_op op_mod (pe_callTy call_int1 (by rfl) T.nb.int bt_int (pa_cons (pe_op op_fdiv (pe_ix (r := rIxL K) ix_list (pv 0) pe_int (fun _ _ => rfl)) pe_int) pa_nil)) (pv 1))))))), ?_⟩
    refine r_seq (r_while (fun k σ' H' => σ' = [some (.ref D), some (.int (m : Int)), none] ∧ Kd D Cl H H' ∧ ∃ cs, Deal H' D Cl cs b ∧ k = cs.length) (m0 := cs.length) ⟨rfl, Kd.of (Ex.refl _), cs, h, rfl⟩ ?_)
    rintro k σ' H1 ⟨rfl, kd1, cs1, h1, rfl⟩
    have c0 : Ev (tOp (rIxL K) (tVar 0) (tC (.int 0))) [some (.ref D), some (.int (m : Int)), none] H1 (.ref Cl) := ev_d0 h1 rfl
    refine ⟨(!decide (cs1 = [])) && decide (cs1.getLast? = some 0), et_and (et_ed (ed_neNil c0 h1.hC)) fun hc => et_ed ?_, fun hb H2 k2 => ?_, fun hb H2 k2 => ?_⟩
    · have hne : cs1 ≠ [] := by simpa using hc
      have hpos : 0 < cs1.length := List.length_pos_iff.mpr hne
      have el : (cs1.map PyData.int)[(cs1.map PyData.int).length - 1]? = some (.int (cs1.getLast hne)) := by
        rw [List.length_map, List.getElem?_map, List.getLast_eq_getElem, List.getElem?_eq_getElem (by omega)]
        rfl
      refine (ed_eqI (ed_ixL c0 h1.hC dnl_ints (ed_neg ed_int) (at_last el)) ed_int).is (congrArg PyData.bool ?_)
      rw [List.getLast?_eq_some_getLast hne]
      simp
    · have hne : cs1 ≠ [] := fun e => by subst e; simp at hb
      have hpos : 0 < cs1.length := List.length_pos_iff.mpr hne
      have h2 := h1.ex k2
      show tDrop _ _ _ H2
      refine Ev_now (c0.mono k2) fun H3 k3 => ?_
      have h3 := h2.ex k3
      refine ⟨.inl ⟨rfl, _, SqL.of h3.hC⟩, Cl, _, .int (cs1[cs1.length - 1]'(by omega)), rfl, rfl, h3.hC, by rw [List.length_map, List.getElem?_map, List.getElem?_eq_getElem (by omega)]; rfl, cs1.length - 1, by omega, rfl, ?_, cs1.dropLast, ?_, by simp⟩
      · exact (kd1.trans (Kd.of (k2.trans k3))).trans fun x o n1 n2 e => by rw [upd_ne n2]; exact e
      · refine ⟨by rw [upd_ne h3.ne]; exact h3.hD, by rw [upd_same, List.map_dropLast], h3.ne, h3.lb, ?_⟩
        have := h3.len
        simp
        omega
    · clear hb
      have h2 := h1.ex k2
      have kd2 := kd1.trans (Kd.of k2)
      have c2 := c0.mono k2
      refine r_seqIf (et_ed (ed_neNil c2 h2.hC)) (fun hb H3 k3 => ?_) fun hb H3 k3 => ?_
      · have hne : cs1 ≠ [] := by simpa using hb
        have hpos : 0 < cs1.length := List.length_pos_iff.mpr hne
        have h3 := h2.ex k3
        have kd3 := kd2.trans (Kd.of k3)
        refine r_seq ?_
        refine Ev_now (c2.mono k3) fun H4 k4 => ?_
        have h4 := h3.ex k4
        refine ⟨.inl ⟨rfl, _, SqL.of h4.hC⟩, Cl, _, .int (cs1[cs1.length - 1]'(by omega)), rfl, rfl, h4.hC, by rw [List.length_map, List.getElem?_map, List.getElem?_eq_getElem (by omega)]; rfl, .inl ⟨_, rfl, ?_⟩⟩
        have h5 : Deal (upd H4 Cl (.lst (cs1.map V.int).dropLast)) D Cl cs1.dropLast b := ⟨by rw [upd_ne h4.ne]; exact h4.hD, by rw [upd_same, List.map_dropLast], h4.ne, h4.lb, by have := h4.len; simp; omega⟩
        have kd5 : Kd D Cl H (upd H4 Cl (.lst (cs1.map V.int).dropLast)) := (kd3.trans (Kd.of k4)).trans fun x o n1 n2 e => by rw [upd_ne n2]; exact e
        generalize upd H4 Cl (.lst (cs1.map V.int).dropLast) = H5 at h5 kd5 ⊢
        generalize hrest : cs1[cs1.length - 1]'(by omega) = rest
        show tSeq _ _ _ [some (.ref D), some (.int (m : Int)), some (.int rest)] H5
        have d0 : Ev (tOp (rIxL K) (tVar 0) (tC (.int 0))) [some (.ref D), some (.int (m : Int)), some (.int rest)] H5 (.ref Cl) := ev_d0 h5 rfl
        have u1 : ED (tVar 1) [some (.ref D), some (.int (m : Int)), some (.int rest)] H5 (.int (m : Int)) := ed_var rfl (.int _)
        have u2 : ED (tVar 2) [some (.ref D), some (.int (m : Int)), some (.int rest)] H5 (.int rest) := ed_var rfl (.int _)
        refine r_seq (r_append d0 (ed_fdiv u2 u1 ⟨by omega, by omega⟩) h5.hC (by have := h5.len; rw [List.length_map]; omega) fun v H6 k6 d6 => ?_)
        rw [d6.int_inv]
        have kd6 : Kd D Cl H (upd H6 Cl (.lst (cs1.dropLast.map V.int ++ [V.int (rest / (m : Int))]))) := (kd5.trans (Kd.of k6)).trans fun x o n1 n2 e => by rw [upd_ne n2]; exact e
        have h6 : Deal (upd H6 Cl (.lst (cs1.dropLast.map V.int ++ [V.int (rest / (m : Int))]))) D Cl (cs1.dropLast ++ [rest / (m : Int)]) b := by
          have h6 := h5.ex k6
          refine ⟨by rw [upd_ne h6.ne]; exact h6.hD, by rw [upd_same, List.map_append]; rfl, h6.ne, h6.lb, ?_⟩
          have := h4.len
          simp
          omega
        generalize upd H6 Cl (.lst (cs1.dropLast.map V.int ++ [V.int (rest / (m : Int))])) = H7 at h6 kd6 ⊢
        have w1 : ED (tVar 1) [some (.ref D), some (.int (m : Int)), some (.int rest)] H7 (.int (m : Int)) := ed_var rfl (.int _)
        have w2 : ED (tVar 2) [some (.ref D), some (.int (m : Int)), some (.int rest)] H7 (.int rest) := ed_var rfl (.int _)
        have m0 : 0 ≤ rest % (m : Int) := Int.emod_nonneg _ (by omega)
        have m1 : rest % (m : Int) < (m : Int) := Int.emod_lt_of_pos _ (by omega)
        refine r_ret ((ed_mod w2 w1 (by omega)).is (e := nI (rest % (m : Int)).toNat) (congrArg PyData.int (by omega))) fun v H8 k8 d8 => ?_
        rw [d8.int_inv]
        exact q _ H8 (by omega) (kd6.trans (Kd.of k8)) ⟨_, _, h6.ex k8⟩
      · have h3 := h2.ex k3
        have kd3 := kd2.trans (Kd.of k3)
        have hlb := h3.lb
        have e1 : ED (tOp (rIxL K) (tVar 0) (tC (.int 1))) [some (.ref D), some (.int (m : Int)), none] H3 (.int b) := ev_d1 h3 rfl
        have u1 : ED (tVar 1) [some (.ref D), some (.int (m : Int)), none] H3 (.int (m : Int)) := ed_var rfl (.int _)
        refine r_seq (r_store (x := 1) (ed_mod (ed_toInt (ed_add (ed_mul e1 ed_int (.inl ⟨by omega, by omega⟩)) ed_int)) ed_int (by decide)) (ev_var rfl) ed_int h3.hD (show 1 < 2 by decide) fun v H4 k4 d4 => ?_)
        rw [d4.int_inv]
        have h4 := h3.ex k4
        have kd4 : Kd D Cl H (upd H4 D (.lst ([V.ref Cl, V.int b].set 1 (V.int ((b * 40693 + 71) % 2147483647))))) := (kd3.trans (Kd.of k4)).trans fun x o n1 n2 e => by rw [upd_ne n1]; exact e
        have h5 : Deal (upd H4 D (.lst ([V.ref Cl, V.int b].set 1 (V.int ((b * 40693 + 71) % 2147483647))))) D Cl cs1 ((b * 40693 + 71) % 2147483647) :=
          ⟨upd_same, by rw [upd_ne h4.ne.symm]; exact h4.hC, h4.ne, ⟨Int.emod_nonneg _ (by decide), by have := Int.emod_lt_of_pos (b * 40693 + 71) (show (0 : Int) < 2147483647 by decide); omega⟩, h4.len⟩
        generalize upd H4 D (.lst ([V.ref Cl, V.int b].set 1 (V.int ((b * 40693 + 71) % 2147483647)))) = H5 at h5 kd4 ⊢
        generalize (b * 40693 + 71) % 2147483647 = b2 at h5 ⊢
        have w1 : ED (tVar 1) [some (.ref D), some (.int (m : Int)), none] H5 (.int (m : Int)) := ed_var rfl (.int _)
        have m0 : 0 ≤ (b2 / 64) % (m : Int) := Int.emod_nonneg _ (by omega)
        have m1 : (b2 / 64) % (m : Int) < (m : Int) := Int.emod_lt_of_pos _ (by omega)
        dsimp only
        refine r_ret ((ed_mod (ed_toInt (ed_fdiv (ev_d1 h5 rfl) ed_int (by constructor <;> decide))) w1 (by omega)).is (e := nI ((b2 / 64) % (m : Int)).toNat) (congrArg PyData.int (by omega))) fun v H8 k8 d8 => ?_
        rw [d8.int_inv]
        exact q _ H8 (by omega) (kd4.trans (Kd.of k8)) ⟨_, _, h5.ex k8⟩
end
end Gx
namespace Gx
open PySem L2 Evl Gw
section
variable {P : Program} {w : World} {K : PySem.W.Frag} {mg : Str → Option Value} {base : Heap} {C : Addr}
/-! ### _law_draw -/
def spDraw (K : PySem.W.Frag) : Sp := fun vs H Q _ => ∃ (a : Addr) (ns : List Int), vs = [.ref a, .int 27] ∧ SqL K H a (ns.map V.int) ∧ ∀ D Cl H', Ex H H' → H D = none → H Cl = none → Dl H' D Cl → Q (.ref D) H'
theorem cutV_to {xs : List V} {n : Nat} : cutV xs none (some (n : Int)) = xs.take n := by
  unfold cutV
  rw [HT.sIx_nat, HT.sIx_none, List.drop_zero, Nat.sub_zero]
  by_cases h : n ≤ xs.length
  · rw [Nat.min_eq_left h]
  · rw [Nat.min_eq_right (by omega), List.take_of_length_le (Nat.le_refl _), List.take_of_length_le (by omega)]
theorem ok_draw (T : Txt K mg) (D : Df K mg "_law_draw" s_l_draw ["_law_script", "_law_salt"]) : C8.Cal P w K mg base 1 "_law_draw" (spDraw K) [] := by
  refine D.cal sc_l_draw (fun vs H Q E h => by obtain ⟨a, ns, rfl, _⟩ := h; rfl) (fun f cdv A outer s0 H vs Q E hr h => ?_)
  obtain ⟨a, ns, rfl, hs, q⟩ := h
  · have nd := sc_l_draw.nd
    refine ⟨_, (pss_cons (ps_setLc (i := 2) (own := [("_law_cell", 4)]) (g := (gName 4)) (tt := tYes) rfl nd rfl rfl (sw_true rfl rfl rfl (by decide +kernel)) (pi_list (pe_slice (r := rSlL K) sl_list (pv 0) po_none (po_some pe_int))) (blkOk_by (own := [("_law_cell", 4)]) (N := N_l_draw) (sc := (defScope s_l_draw)) (by decide +kernel)) (fun _ _ _ _ _ => (pg_name (i := 4) nd rfl (by first | exact .inl rfl | exact .inr rfl))) (fun _ _ _ _ _ => pts_nil) (fun _ _ _ _ _ => (pe_callB call_abs (by rfl) T.nb.abs bt_abs (pa_cons (pe_callTy call_int1 (by rfl) T.nb.int bt_int (pa_cons (pv 4) pa_nil)) pa_nil))))
      (pss_cons (ps_set (i := 3) nd rfl (by first | exact .inl rfl | exact .inr rfl) (pe_op op_add pe_int (pe_op op_mul pe_int (pv 1))))
      (pss_cons (ps_for PassesOwn.never rfl (pi_list (pv 2)) (pg_name (i := 4) nd rfl (by first | exact .inl rfl | exact .inr rfl)) (pss_one (ps_set (i := 3) nd rfl (by first | exact .inl rfl | exact .inr rfl) (pe_op op_mod (pe_callTy call_int1 (by rfl) T.nb.int bt_int (pa_cons (pe_op op_add (pe_op op_add (pe_op op_mul (pv 3) pe_int) (pe_op op_mod (pv 4) pe_int)) pe_int) pa_nil)) pe_int))))
      (pss_one (ps_ret (pe_lst (pa_cons (pe_revL (pe_lc (own := [("_law_cell", 4)]) (g := (gName 4)) (tt := _) rfl nd (pi_list (pv 2)) (blkOk_by (own := [("_law_cell", 4)]) (N := N_l_draw) (sc := (defScope s_l_draw)) (by decide +kernel)) (fun _ _ _ _ _ => (pg_name (i := 4) nd rfl (by first | exact .inl rfl | exact .inr rfl))) (fun _ _ _ _ _ => (pts_one (pt_cmpR op_ge (pv 4) (pe_op op_pow pe_int pe_int) (nomark _)))) (fun _ _ _ _ _ => (pv 4)))) (pa_cons (pv 3) pa_nil)))))))), ?_⟩
    have sl : EL (tSl (rSlL K) (tVar 0) tNoPart (tPart (tC (.int 48)))) (start N_l_draw [.ref a, .int 27]) H ((ns.take 48).map PyData.int) := fun H1 a' Q' q' =>
      el_sl (K := K) (ev_var rfl) Evl.eo_none (eo_int (i := ((48 : Nat) : Int)) ed_int) hs H1 a' Q' fun p H2 k0 k1 k2 => q' p _ H2 k0 k1 k2 (by
        rw [cutV_to, ← List.map_take]
        exact dnl_ints)
    have lt48 : (ns.take 48).length ≤ 48 := by rw [List.length_take]; omega
    refine r_seqL ((el_lcAll (xs := ns.take 48) (enc := PyData.int) (f := fun c => PyData.int (if c < 0 then -c else c)) (es_list sl) (by omega) fun c hc x H' kx dx => ⟨_, fun Q q => g_name Q q, rfl, ed_abs (ed_toInt (ed_var rfl dx))⟩).is (es := ((ns.take 48).map fun c => if c < 0 then -c else c).map PyData.int) (by rw [List.map_map]; rfl)) fun p ws H1 n1 k1 h1 d1 => ?_
    have hcl : ((ns.take 48).map fun c => if c < 0 then -c else c).length ≤ 48 := by rw [List.length_map]; exact lt48
    generalize (ns.take 48).map (fun c => if c < 0 then -c else c) = cs at d1 hcl
    have u1 : ED (tVar 1) [some (.ref a), some (.int 27), some (.ref p), none, none] H1 (.int 27) := ed_var rfl (.int _)
    refine r_seqD (d := .int 2835602) ((ed_add ed_int (ed_mul (i := 104729) ed_int u1 (.inl ⟨by decide, by decide⟩))).is rfl) fun v2 H2 k2 d2 => ?_
    rw [d2.int_inv]
    refine r_seq (r_for (es_listAt (a := p) (ev_var rfl) (k2 _ _ h1) (d1.ex k2)) fun H3 k3 => ⟨fun i σ' H' => Ex H3 H' ∧ ∃ b x4, σ' = [some (.ref a), some (.int 27), some (.ref p), some (.int b), x4] ∧ 0 ≤ b ∧ b < 2147483648,
      ⟨Ex.refl _, 2835602, none, rfl, by decide, by decide⟩, fun i σ' H' h => h.1, ?_, ?_⟩)
    · rintro i d x σ' H4 H5 hd ⟨k4, b, x4, rfl, b0, b1⟩ k5 dx
      · rw [List.getElem?_map] at hd
        cases hi : cs[i]? with
        | none => rw [hi] at hd; cases hd
        | some c =>
          rw [hi] at hd
          cases hd
          refine g_name _ ?_
          rw [dx.int_inv]
          have u3 : ED (tVar 3) [some (.ref a), some (.int 27), some (.ref p), some (.int b), some (.int c)] H5 (.int b) := ed_var rfl (.int _)
          have u4 : ED (tVar 4) [some (.ref a), some (.int 27), some (.ref p), some (.int b), some (.int c)] H5 (.int c) := ed_var rfl (.int _)
          refine r_set (ed_mod (ed_toInt (ed_add (ed_add (ed_mul u3 ed_int (.inl ⟨by omega, by omega⟩)) (ed_mod u4 ed_int (by decide))) ed_int)) ed_int (by decide)) fun v6 H6 k6 d6 => ?_
          rw [d6.int_inv]
          exact ⟨(k4.trans k5).trans k6, _, _, rfl, Int.emod_nonneg _ (by decide), by have := Int.emod_lt_of_pos (b * 48271 + c % 2147483549 + 11) (show (0 : Int) < 2147483647 by decide); omega⟩
    · rintro σ' H4 ⟨k4, b, x4, rfl, b0, b1⟩
      · have k14 := (k2.trans k3).trans k4
        have h4 := k14 _ _ h1
        have e1 : EL (tLc (iList K (tVar 2)) (gName 4) (tTest (tOp (rI0 fun i j => .bl (decide (j ≤ i))) (tVar 4) (tOp (rI CPow fun i j => .int (i ^ j.toNat)) (tC (.int 10)) (tC (.int 18))))) (tVar 4) [4]) [some (.ref a), some (.int 27), some (.ref p), some (.int b), x4] H4 ((cs.filter fun c => decide ((10 : Int) ^ (18 : Int).toNat ≤ c)).map PyData.int) :=
          el_lc (enc := PyData.int) (xs := cs) (b := fun c => decide ((10 : Int) ^ (18 : Int).toNat ≤ c)) (f := PyData.int) (es_listAt (a := p) (ev_var rfl) h4 (d1.ex k14)) (by omega) fun c hc x H' kx dx => ⟨_, fun Q q => g_name Q q, rfl, et_ed (ed_ge (ed_var rfl dx) (ed_pow ed_int ed_int ⟨by decide, by decide, by decide⟩)), fun _ => ed_var rfl dx⟩
        dsimp only
        unfold tRet tLst tCons
        refine (el_revL e1).now fun Cl ws5 H5 n5 k5 h5 d5 => ⟨_, rfl, ⟨by show 2 ≤ sizeLine; decide, fun D hD => ?_⟩⟩
        rw [← List.map_reverse] at d5
        have hws := dnl_ints_inv d5
        subst hws
        have kx := (k1.trans k14).trans k5
        refine q D Cl _ (kx.trans (Ex.new hD)) (fresh_back kx hD) (fresh_back (k1.trans k14) n5) ⟨_, b, upd_same, Ex.new hD _ _ h5, fun e => ?_, ⟨b0, b1⟩, ?_⟩
        · rw [e, h5] at hD
          cases hD
        · rw [List.length_reverse]
          exact Nat.le_trans (List.length_filter_le _ _) (by omega)
/-! ### _law_mixed -/
def spMixed : Sp := fun vs H Q _ => ∃ (D Cl So : Addr) (l : List Nat), vs = [.ref D, .ref So] ∧ Dl H D Cl ∧ H So = some (.lst (l.map fun x : Nat => V.int (x : Int))) ∧ So ≠ D ∧ So ≠ Cl ∧ l.length ≤ 100 ∧
  ∀ (r : Addr) (l' : List Nat) H', l'.Perm l → H r = none → H' r = some (.lst (l'.map fun x : Nat => V.int (x : Int))) → Kd D Cl H H' → Dl H' D Cl → Q (.ref r) H'
theorem er_map {α β : Type} (f : α → β) : ∀ (l : List α) (i : Nat), (l.map f).eraseIdx i = (l.eraseIdx i).map f
  | [], _ => rfl
  | _ :: _, 0 => rfl
  | a :: l, i + 1 => by
    show f a :: (l.map f).eraseIdx i = f a :: (l.eraseIdx i).map f
    rw [er_map f l i]
theorem er_perm {α : Type} : ∀ (l : List α) (i : Nat) (h : i < l.length), (l[i] :: l.eraseIdx i).Perm l
  | [], i, h => by simp at h
  | a :: l, 0, _ => .refl _
  | a :: l, i + 1, h => by
    have := er_perm l i (by simpa using h)
    exact (List.Perm.swap a (l[i]'(by simpa using h)) (l.eraseIdx i)).trans (this.cons a)
theorem seqIx {r n : Nat} (h : r < n) : seqIndex? (r : Int) n = some r := by
  unfold seqIndex?
  have h1 : ¬ ((r : Int) < 0) := by omega
  simp only [if_neg h1]
  have h2 : (decide ((0 : Int) ≤ (r : Int)) && decide ((r : Int) < (n : Int))) = true := by
    rw [Bool.and_eq_true]
    exact ⟨decide_eq_true (by omega), decide_eq_true (by omega)⟩
  rw [if_pos h2]
  rfl
theorem ok_mixed (T : Txt K mg) (D : Df K mg "_law_mixed" s_l_mixed ["_law_deal", "_law_some"]) (C__law_any : C8.Cal P w K mg base 1 "_law_any" spAny []) : C8.Cal P w K mg base 2 "_law_mixed" spMixed [] := by
  refine D.cal sc_l_mixed (fun vs H Q E h => by obtain ⟨D, Cl, So, l, rfl, _⟩ := h; rfl) (fun f cdv A outer s0 H vs Q E hr h => ?_)
  obtain ⟨D, Cl, So, l, rfl, ⟨cs, b, h⟩, hSo, nSD, nSC, hl, q⟩ := h
  · have nd := sc_l_mixed.nd
    refine ⟨_, (pss_cons (ps_par (i := 2) (j := 3) rfl nd rfl rfl (by decide) rfl rfl (pa_cons (pe_callTy (r := rListS K) call_list_of (by rfl) T.nb.list bt_list (pa_cons (pv 1) pa_nil)) (pa_cons (pe_lst pa_nil) pa_nil)) rfl)
      (pss_cons (ps_while PassesOwn.never (pt_cmpR (r := rNeD K) (op_neD (units64 hr)) (pv 2) (pe_lst pa_nil) (nomark _)) (pss_one (ps_expr (pe_bm PySem.F.plainAttrs_list PySem.F.slot_list_append PySem.F.type_list_append mt_append (pv 3) (pa_cons (pe_bm PySem.F.plainAttrs_list PySem.F.slot_list_pop PySem.F.type_list_pop mt_popAt (pv 2) (pa_cons (C8.pe_c C__law_any hr (by decide) (by rfl) (pa_cons (pv 0) (pa_cons (pe_callB (r := rLenS K) call_len_seq (by rfl) T.nb.len bt_len (pa_cons (pv 2) pa_nil)) pa_nil))) pa_nil)) pa_nil)))))
      (pss_one (ps_ret (pv 3))))), ?_⟩
    refine r_seq ⟨_, rfl, So, _, rfl, .inl (SqL.of hSo), fun le nle => ⟨Nat.zero_le _, fun fo nfo => ⟨_, _, rfl, ?_⟩⟩⟩
    have k1 : Ex H (upd H le (.lst (l.map fun x : Nat => V.int (x : Int)))) := Ex.new nle
    have k2 := k1.trans (Ex.new (o := .lst []) nfo)
    have nf0 : H fo = none := fresh_back k1 nfo
    have nlf : le ≠ fo := fun e => by rw [← e, upd_same] at nfo; cases nfo
    refine r_seq (r_while (fun k σ' H' => σ' = [some (.ref D), some (.ref So), some (.ref le), some (.ref fo)] ∧ Kd D Cl H H' ∧ Dl H' D Cl ∧ ∃ l1 l2 : List Nat, H' le = some (.lst (l1.map fun x : Nat => V.int (x : Int))) ∧ H' fo = some (.lst (l2.map fun x : Nat => V.int (x : Int))) ∧ (l1 ++ l2).Perm l ∧ k = l1.length) (m0 := l.length)
      ⟨rfl, Kd.of k2, ⟨cs, b, h.ex k2⟩, l, [], by rw [upd_ne nlf, upd_same], upd_same, by rw [List.append_nil], rfl⟩ ?_)
    clear k1 k2
    rintro k σ' H1 ⟨rfl, kd1, ⟨cs1, b1, h1⟩, l1, l2, hle1, hfo1, pm, rfl⟩
    have fr : ∀ {x : Addr} {o : HO}, H x = none → H1 x = some o → H x = none := fun h _ => h
    have nD1 : D ≠ le := ne_of_none h.hD nle
    have nC1 : Cl ≠ le := ne_of_none h.hC nle
    have nD2 : D ≠ fo := ne_of_none h.hD nf0
    have nC2 : Cl ≠ fo := ne_of_none h.hC nf0
    have hle1' : H1 le = some (.lst ((l1.map fun x : Nat => (x : Int)).map V.int)) := by
      rw [hle1, List.map_map]
      rfl
    have hll := pm.length_eq
    rw [List.length_append] at hll
    refine ⟨!decide (l1.map (fun x : Nat => (x : Int)) = []), et_ed (ed_neNil (a := le) (ev_var rfl) hle1'), fun hb H2 k2 => ?_, fun hb H2 k2 => ?_⟩
    · have hne : l1 ≠ [] := by simpa using hb
      have hpos : 0 < l1.length := List.length_pos_iff.mpr hne
      have h2 := h1.ex k2
      show tDrop _ _ _ H2
      refine ⟨_, rfl, .inl ⟨rfl, _, SqL.of (k2 _ _ hfo1)⟩, ?_⟩
      refine ⟨_, rfl, .inl ⟨rfl, _, SqL.of (k2 _ _ hle1)⟩, ?_⟩
      have el : ED (tCB (rLenS K) (tCons (tVar 2) tNil)) [some (.ref D), some (.ref So), some (.ref le), some (.ref fo)] H2 (nI l1.length) := (ed_lenAt (a := le) (ev_var rfl) (k2 _ _ hle1) (dnl_nats l1)).is (by rw [List.length_map])
      refine ⟨_, rfl, el.now fun v3 H3 k3 d3 => ?_⟩
      rw [d3.int_inv]
      have h3 := h2.ex k3
      refine ⟨D, Cl, l1.length, rfl, ⟨cs1, b1, h3⟩, hpos, by omega, fun r H4 hr4 kd4 dl4 => ?_⟩
      have hle4 := kd4 le _ nD1.symm nC1.symm ((k2.trans k3) _ _ hle1)
      have hfo4 := kd4 fo _ nD2.symm nC2.symm ((k2.trans k3) _ _ hfo1)
      have kdx := (kd1.trans (Kd.of (k2.trans k3))).trans kd4
      refine ⟨le, _, (r : Int), r, .int (l1[r] : Int), rfl, rfl, hle4, by omega, by omega, ?_, ?_, ?_⟩
      · rw [List.length_map]
        exact seqIx hr4
      · rw [List.getElem?_map, List.getElem?_eq_getElem hr4]
        rfl
      · obtain ⟨cs4, b4, h4⟩ := dl4
        refine ⟨fo, _, _, rfl, rfl, by rw [upd_ne nlf.symm]; exact hfo4, by rw [List.length_map]; exact sz_lt (by omega), ?_⟩
        refine ⟨(l1.eraseIdx r).length, by rw [List.length_eraseIdx_of_lt hr4]; omega, rfl, ?_, ⟨cs4, b4, ?_⟩, l1.eraseIdx r, l2 ++ [l1[r]], ?_, ?_, ?_, rfl⟩
        · exact fun x o n1 n2 e => by
            rw [upd_ne (ne_of_none e nf0), upd_ne (ne_of_none e nle)]
            exact kdx x o n1 n2 e
        · exact ⟨by rw [upd_ne nD2, upd_ne nD1]; exact h4.hD, by rw [upd_ne nC2, upd_ne nC1]; exact h4.hC, h4.ne, h4.lb, h4.len⟩
        · rw [upd_ne nlf, upd_same, er_map]
        · rw [upd_same, List.map_append]
          rfl
        · refine List.Perm.trans ?_ pm
          have p1 := er_perm l1 r hr4
          refine List.Perm.trans ?_ (p1.append_right l2)
          rw [← List.append_assoc]
          exact List.perm_append_comm
    · have hne : l1 = [] := by simpa using hb
      subst hne
      dsimp only
      refine ⟨_, rfl, ?_⟩
      exact q fo l2 H2 (by simpa using pm) nf0 (k2 _ _ hfo1) (kd1.trans (Kd.of k2)) ⟨cs1, b1, h1.ex k2⟩
end
end Gx
namespace Gx
open PySem L2 Evl Gw
section
variable {P : Program} {w : World} {K : PySem.W.Frag} {mg : Str → Option Value} {base : Heap} {C : Addr}
/-! ### _law_web -/
def tri : Nat → Nat
  | 0 => 0
  | i + 1 => tri i + i
theorem tri_le {n : Nat} (h : n ≤ 7) : tri n ≤ 21 := by
  match n, h with
  | 0, _ => decide
  | 1, _ => decide
  | 2, _ => decide
  | 3, _ => decide
  | 4, _ => decide
  | 5, _ => decide
  | 6, _ => decide
  | 7, _ => decide
theorem tri_mono : ∀ {i n : Nat}, i ≤ n → tri i ≤ tri n := by
  intro i n h
  induction n with
  | zero =>
    have : i = 0 := by omega
    rw [this]
    exact Nat.le_refl _
  | succ n ih =>
    by_cases e : i = n + 1
    · rw [e]; exact Nat.le_refl _
    · exact Nat.le_trans (ih (by omega)) (Nat.le_add_right _ _)
def spWeb : Sp := fun vs H Q _ => ∃ (D Cl : Addr), vs = [.ref D, .int 7] ∧ Dl H D Cl ∧ ∀ v H' n E, n ≤ 7 → (∀ p ∈ E, p.1 < p.2 ∧ p.2 < n) → E.length ≤ 21 → Kd D Cl H H' → Dl H' D Cl → Dn H' v (nW n E) → Q v H'
theorem ok_web (T : Txt K mg) (D : Df K mg "_law_web" s_l_web ["_law_deal", "_law_most"]) (C__law_any : C8.Cal P w K mg base 1 "_law_any" spAny []) (C__law_mixed : C8.Cal P w K mg base 2 "_law_mixed" spMixed []) : C8.Cal P w K mg base 3 "_law_web" spWeb [] := by
  refine D.cal sc_l_web (fun vs H Q E h => by obtain ⟨D, Cl, rfl, _⟩ := h; rfl) (fun f cdv A outer s0 H vs Q E hr h => ?_)
  obtain ⟨D, Cl, rfl, dl0, q⟩ := h
  · have nd := sc_l_web.nd
    refine ⟨_, (pss_cons (ps_par (i := 2) (j := 3) rfl nd rfl rfl (by decide) rfl rfl (pa_cons (C8.pe_c C__law_any hr (by decide) (by rfl) (pa_cons (pv 0) (pa_cons (pe_op op_add (pv 1) pe_int) pa_nil))) (pa_cons (C8.pe_c C__law_any hr (by decide) (by rfl) (pa_cons (pv 0) (pa_cons pe_int pa_nil))) pa_nil)) rfl)
      (pss_cons (ps_par (i := 4) (j := 5) rfl nd rfl rfl (by decide) rfl rfl (pa_cons (C8.pe_c C__law_mixed hr (by decide) (by rfl) (pa_cons (pv 0) (pa_cons (pe_listRg rfl (by rfl) T.nb.list (prg_1 (by rfl) T.nb.range (pv 2))) pa_nil))) (pa_cons (pe_lst pa_nil) pa_nil)) rfl)
      (pss_cons (ps_for PassesOwn.never rfl (pi_range1 (by rfl) T.nb.range (pa_cons (pv 2) pa_nil)) (pg_name (i := 6) nd rfl (by first | exact .inl rfl | exact .inr rfl)) (pss_one (ps_for PassesOwn.never rfl (pi_range1 (by rfl) T.nb.range (pa_cons (pv 6) pa_nil)) (pg_name (i := 7) nd rfl (by first | exact .inl rfl | exact .inr rfl)) (pss_cons (ps_set (i := 8) nd rfl (by first | exact .inl rfl | exact .inr rfl) (pe_or (pe_cmpR op_eq (pe_op op_sub (pv 6) (pv 7)) pe_int (nomark _)) (pe_one (pe_and (pe_cmpR op_eq (pv 3) pe_int (nomark _)) (pe_and (pe_cmpR op_eq (pe_op op_sub (pv 6) (pv 7)) pe_int (nomark _)) (pe_one (pe_cmpR op_eq (pe_op op_fdiv (pv 7) pe_int) (pe_op op_fdiv (pv 6) pe_int) (nomark _))))))))
      (pss_one (ps_if ((pw_or ((pw_and (pt_val (pv 8)) (pw_and1 (pt_cmpR op_lt (pv 3) pe_int (nomark _)))).pt) (pw_or1 (pt_cmpR op_eq (C8.pe_c C__law_any hr (by decide) (by rfl) (pa_cons (pv 0) (pa_cons (pe_op op_add pe_int (pe_op op_mul pe_int (pv 3))) pa_nil))) pe_int (nomark _)))).pt) (pss_one (ps_expr (pe_bm PySem.F.plainAttrs_list PySem.F.slot_list_append PySem.F.type_list_append mt_append (pv 5) (pa_cons (pe_tup (pa_cons (pe_callB (call_min2 rfl) (by rfl) T.nb.min bt_min (pa_cons (pe_ix (r := rIxL K) ix_list (pv 4) (pv 7) (fun _ _ => rfl)) (pa_cons (pe_ix (r := rIxL K) ix_list (pv 4) (pv 6) (fun _ _ => rfl)) pa_nil))) (pa_cons (pe_callB (call_max2 rfl) (by rfl) T.nb.max bt_max (pa_cons (pe_ix (r := rIxL K) ix_list (pv 4) (pv 7) (fun _ _ => rfl)) (pa_cons (pe_ix (r := rIxL K) ix_list (pv 4) (pv 6) (fun _ _ => rfl)) pa_nil))) pa_nil))) pa_nil)))) pss_nil))))))
      (pss_one (ps_ret (pe_tup (pa_cons (pv 2) (pa_cons (pe_callTy (r := rTupS K) call_tuple_of (by rfl) T.nb.tuple bt_tuple (pa_cons (pe_callB (r := rSortedPO K) cr_sortedPO (by rfl) T.nb.sorted bt_sorted (pa_cons (pv 5) pa_nil)) pa_nil)) pa_nil)))))))), ?_⟩
    have nDC : D ≠ Cl := by obtain ⟨_, _, h⟩ := dl0; exact h.ne
    obtain ⟨hDk, hCk⟩ : (∃ o, H D = some o) ∧ ∃ o, H Cl = some o := by obtain ⟨_, _, h⟩ := dl0; exact ⟨⟨_, h.hD⟩, ⟨_, h.hC⟩⟩
    have exD : ∀ {H1 H2 : Hp}, Ex H1 H2 → Dl H1 D Cl → Dl H2 D Cl := fun e h => by obtain ⟨cs, b, h⟩ := h; exact ⟨cs, b, h.ex e⟩
    -- n, form
    have u1 : ED (tVar 1) (start N_l_web [.ref D, .int 7]) H (.int 7) := ed_var rfl (.int _)
    refine r_seq ⟨_, rfl, (ed_add u1 (ed_int (i := 1))).now fun v1 H1 k1 d1 => ?_⟩
    rw [d1.int_inv]
    refine ⟨D, Cl, 8, rfl, exD k1 dl0, by decide, by decide, fun n H2 hn kd2 dl2 => ⟨_, rfl, D, Cl, 4, rfl, dl2, by decide, by decide, fun form H3 hform kd3 dl3 => ⟨_, _, rfl, ?_⟩⟩⟩
    have kd03 : Kd D Cl H H3 := ((Kd.of k1).trans kd2).trans kd3
    -- names, pairs
    have e2 : ED (tVar 2) [some (.ref D), some (.int 7), some (.int ((n : Nat) : Int)), some (.int ((form : Nat) : Int)), none, none, none, none, none] H3 (nI n) := ed_var rfl (.int _)
    dsimp only
    refine r_seq ⟨_, rfl, (el_listRg e2 (by omega)).now fun So ws H4 nSo k4 h4 d4 => ?_⟩
    rw [range_inv d4] at h4
    have nSD : So ≠ D := fun e => by
      obtain ⟨_, _, h⟩ := dl3
      rw [e, h.hD] at nSo
      cases nSo
    have nSC : So ≠ Cl := fun e => by
      obtain ⟨_, _, h⟩ := dl3
      rw [e, h.hC] at nSo
      cases nSo
    refine ⟨D, Cl, So, List.range n, rfl, exD k4 dl3, h4, nSD, nSC, by rw [List.length_range]; omega, fun Na names H5 pm nNa hNa kd5 dl5 => ⟨Nat.zero_le _, fun Pa nPa => ⟨_, _, rfl, ?_⟩⟩⟩
    have kd05 : Kd D Cl H H5 := (kd03.trans (Kd.of k4)).trans kd5
    have hnd : names.Nodup := pm.nodup_iff.mpr List.nodup_range
    have hnl : names.length = n := by rw [pm.length_eq, List.length_range]
    have hnlt : ∀ x ∈ names, x < n := fun x hx => List.mem_range.mp (pm.subset hx)
    have nNP : Na ≠ Pa := fun e => by rw [← e, hNa] at nPa; cases nPa
    have nDP : D ≠ Pa := fun e => by
      obtain ⟨_, _, h⟩ := dl5
      rw [← e, h.hD] at nPa; cases nPa
    have nCP : Cl ≠ Pa := fun e => by
      obtain ⟨_, _, h⟩ := dl5
      rw [← e, h.hC] at nPa; cases nPa
    have nND : Na ≠ D := fun e => by
      obtain ⟨_, _, h⟩ := dl3
      rw [e] at nNa
      rw [k4 _ _ h.hD] at nNa
      cases nNa
    have nNC : Na ≠ Cl := fun e => by
      obtain ⟨_, _, h⟩ := dl3
      rw [e] at nNa
      rw [k4 _ _ h.hC] at nNa
      cases nNa
    have fPa : ∀ x o, x ≠ D → x ≠ Cl → H x = some o → x ≠ Pa := fun x o n1 n2 e q => by
      rw [← q, kd05 x o n1 n2 e] at nPa
      cases nPa
    let Pv : Nat → Nat → Hp → Hp → Prop := fun i j H0 H' => Gw.Tx H0 H' ∧ Kd D Cl H H' ∧ Dl H' D Cl ∧ H' Na = some (.lst (names.map fun x : Nat => V.int (x : Int))) ∧ ∃ (E : List (Nat × Nat)) (vs : List V), H' Pa = some (.lst vs) ∧ DnL H' vs (E.map nP) ∧ (∀ p ∈ E, p.1 < p.2 ∧ p.2 < n) ∧ E.length ≤ tri i + j
    have k6 : Ex H5 (upd H5 Pa (.lst [])) := Ex.new nPa
    have h60 : Pv 0 0 (upd H5 Pa (.lst [])) (upd H5 Pa (.lst [])) := ⟨Gw.Tx.refl _, kd05.trans (Kd.of k6), exD k6 dl5, k6 _ _ hNa, [], [], upd_same, .nil, fun p hp => (nomatch hp), Nat.zero_le _⟩
    generalize upd H5 Pa (.lst []) = H6 at h60 ⊢
    have e2 : ED (tVar 2) [some (.ref D), some (.int 7), some (.int ((n : Nat) : Int)), some (.int ((form : Nat) : Int)), some (.ref Na), some (.ref Pa), none, none, none] H6 (nI n) := ed_var rfl (.int _)
    have pvx : ∀ {i j H0 H1 H2}, Pv i j H0 H1 → Ex H1 H2 → Pv i j H0 H2 := fun {i j H0 H1 H2} h e => by
      obtain ⟨a, b, c, d, E, vs, e1, e2, e3, e4⟩ := h
      exact ⟨a.trans (Gw.Tx.of e), b.trans (Kd.of e), exD e c, e _ _ d, E, vs, e _ _ e1, e2.ex e, e3, e4⟩
    refine r_seq (r_forT (et_range1 e2 (by omega)) fun H7 k7 => ⟨fun i σ' H' => (∃ x6 x7 x8, σ' = [some (.ref D), some (.int 7), some (.int ((n : Nat) : Int)), some (.int ((form : Nat) : Int)), some (.ref Na), some (.ref Pa), x6, x7, x8]) ∧ Pv i 0 H7 H',
      ⟨⟨_, _, _, rfl⟩, Gw.Tx.refl _, (pvx h60 k7).2⟩, fun i σ' H' h => h.2.1, ?_, ?_⟩)
    · rintro i d x σ' H8 H9 hd ⟨⟨x6, x7, x8, rfl⟩, pv8⟩ k9 dx
      have hi : i < n := by
        have := (List.getElem?_eq_some_iff.mp hd).1
        rwa [List.length_map, List.length_range] at this
      rw [rg_get hi] at hd
      cases hd
      refine g_name _ ?_
      rw [dx.int_inv]
      have pv9 := pvx pv8 k9
      have e6 : ED (tVar 6) [some (.ref D), some (.int 7), some (.int ((n : Nat) : Int)), some (.int ((form : Nat) : Int)), some (.ref Na), some (.ref Pa), some (.int ((i : Nat) : Int)), x7, x8] H9 (nI i) := ed_var rfl (.int _)
      refine r_forT (et_range1 e6 (by omega)) fun H10 k10 => ⟨fun j σ' H' => (∃ x7 x8, σ' = [some (.ref D), some (.int 7), some (.int ((n : Nat) : Int)), some (.int ((form : Nat) : Int)), some (.ref Na), some (.ref Pa), some (.int ((i : Nat) : Int)), x7, x8]) ∧ Gw.Tx H10 H' ∧ Pv i j H7 H',
        ⟨⟨_, _, rfl⟩, Gw.Tx.refl _, pvx pv9 k10⟩, fun i σ' H' h => h.2.1, ?_, ?_⟩
      · rintro j d x σ' H11 H12 hd ⟨⟨x7, x8, rfl⟩, tx11, pv11⟩ k12 dx
        have hj : j < i := by
          have := (List.getElem?_eq_some_iff.mp hd).1
          rwa [List.length_map, List.length_range] at this
        rw [rg_get hj] at hd
        cases hd
        refine g_name _ ?_
        rw [dx.int_inv]
        have pv12 := pvx pv11 k12
        have tx12 := tx11.trans (Gw.Tx.of k12)
        have f6 : ED (tVar 6) [some (.ref D), some (.int 7), some (.int ((n : Nat) : Int)), some (.int ((form : Nat) : Int)), some (.ref Na), some (.ref Pa), some (.int ((i : Nat) : Int)), some (.int ((j : Nat) : Int)), x8] H12 (nI i) := ed_var rfl (.int _)
        have f7 : ED (tVar 7) [some (.ref D), some (.int 7), some (.int ((n : Nat) : Int)), some (.int ((form : Nat) : Int)), some (.ref Na), some (.ref Pa), some (.int ((i : Nat) : Int)), some (.int ((j : Nat) : Int)), x8] H12 (nI j) := ed_var rfl (.int _)
        have f3 : ED (tVar 3) [some (.ref D), some (.int 7), some (.int ((n : Nat) : Int)), some (.int ((form : Nat) : Int)), some (.ref Na), some (.ref Pa), some (.int ((i : Nat) : Int)), some (.int ((j : Nat) : Int)), x8] H12 (nI form) := ed_var rfl (.int _)
        refine r_seqD (ed_or (ed_eqI (ed_sub f6 f7) ed_int) fun _ => ed_and (ed_eqI f3 ed_int) fun _ => ed_and (ed_eqI (ed_sub f6 f7) ed_int) fun _ => ed_eqI (ed_fdiv f7 ed_int (by constructor <;> decide)) (ed_fdiv f6 ed_int (by constructor <;> decide))) fun v13 H13 k13 d13 => ?_
        rw [d13.bl_inv]
        have pv13 := pvx pv12 k13
        have tx13 := tx12.trans (Gw.Tx.of k13)
        generalize (decide ((i : Int) - (j : Int) = 1) || (decide ((form : Int) = 1) && (decide ((i : Int) - (j : Int) = 2) && decide ((j : Int) / 3 = (i : Int) / 3)))) = nr
        clear f6 f7 f3 d13
        -- what comes of an added pair, of none
        have skip : ∀ H', Gw.Tx H10 H' → Pv i j H7 H' → Gw.Tx H10 H' ∧ Pv i (j + 1) H7 H' := fun H' t h => by
          obtain ⟨a, b, c, d, E, vs, e1, e2, e3, e4⟩ := h
          exact ⟨t, a, b, c, d, E, vs, e1, e2, e3, by omega⟩
        have g3 : ∀ H', ED (tVar 3) [some (.ref D), some (.int 7), some (.int ((n : Nat) : Int)), some (.int ((form : Nat) : Int)), some (.ref Na), some (.ref Pa), some (.int ((i : Nat) : Int)), some (.int ((j : Nat) : Int)), some (.bl nr)] H' (nI form) := fun H' => ed_var rfl (.int _)
        have g8 : ED (tVar 8) [some (.ref D), some (.int 7), some (.int ((n : Nat) : Int)), some (.int ((form : Nat) : Int)), some (.ref Na), some (.ref Pa), some (.int ((i : Nat) : Int)), some (.int ((j : Nat) : Int)), some (.bl nr)] H13 (.bool nr) := ed_var rfl (.bl _)
        have add : ∀ H' (D' : Ends), Gw.Tx H10 H' → Pv i j H7 H' → (∀ σ'' H'', σ'' = [some (.ref D), some (.int 7), some (.int ((n : Nat) : Int)), some (.int ((form : Nat) : Int)), some (.ref Na), some (.ref Pa), some (.int ((i : Nat) : Int)), some (.int ((j : Nat) : Int)), some (.bl nr)] → Gw.Tx H10 H'' → Pv i (j + 1) H7 H'' → D'.nx σ'' H'') →
            tDrop (tBM K "list" rAppend (tVar 5) (tCons (tTup (tCons (tCB (fun xs H Q => ∃ i j, xs = [V.int i, .int j] ∧ Q (.int (if j < i then j else i)) H) (tCons (tOp (rIxL K) (tVar 4) (tVar 7)) (tCons (tOp (rIxL K) (tVar 4) (tVar 6)) tNil))) (tCons (tCB (fun xs H Q => ∃ i j, xs = [V.int i, .int j] ∧ Q (.int (if j > i then j else i)) H) (tCons (tOp (rIxL K) (tVar 4) (tVar 7)) (tCons (tOp (rIxL K) (tVar 4) (tVar 6)) tNil))) tNil))) tNil)) D'
              [some (.ref D), some (.int 7), some (.int ((n : Nat) : Int)), some (.int ((form : Nat) : Int)), some (.ref Na), some (.ref Pa), some (.int ((i : Nat) : Int)), some (.int ((j : Nat) : Int)), some (.bl nr)] H' := fun H' D' t h fin => by
          obtain ⟨a, b, c, hN, E, vs, e1, e2, e3, e4⟩ := h
          have g6 : ED (tVar 6) [some (.ref D), some (.int 7), some (.int ((n : Nat) : Int)), some (.int ((form : Nat) : Int)), some (.ref Na), some (.ref Pa), some (.int ((i : Nat) : Int)), some (.int ((j : Nat) : Int)), some (.bl nr)] H' (nI i) := ed_var rfl (.int _)
          have g7 : ED (tVar 7) [some (.ref D), some (.int 7), some (.int ((n : Nat) : Int)), some (.int ((form : Nat) : Int)), some (.ref Na), some (.ref Pa), some (.int ((i : Nat) : Int)), some (.int ((j : Nat) : Int)), some (.bl nr)] H' (nI j) := ed_var rfl (.int _)
          have hil : i < names.length := by omega
          have hjl : j < names.length := by omega
          have n7 : ED (tOp (rIxL K) (tVar 4) (tVar 7)) [some (.ref D), some (.int 7), some (.int ((n : Nat) : Int)), some (.int ((form : Nat) : Int)), some (.ref Na), some (.ref Pa), some (.int ((i : Nat) : Int)), some (.int ((j : Nat) : Int)), some (.bl nr)] H' (nI names[j]) :=
            ed_ixL (a := Na) (ev_var rfl) hN (dnl_nats names) g7 (at_nat (by rw [List.getElem?_map, List.getElem?_eq_getElem hjl]; rfl))
          have n6 : ED (tOp (rIxL K) (tVar 4) (tVar 6)) [some (.ref D), some (.int 7), some (.int ((n : Nat) : Int)), some (.int ((form : Nat) : Int)), some (.ref Na), some (.ref Pa), some (.int ((i : Nat) : Int)), some (.int ((j : Nat) : Int)), some (.bl nr)] H' (nI names[i]) :=
            ed_ixL (a := Na) (ev_var rfl) hN (dnl_nats names) g6 (at_nat (by rw [List.getElem?_map, List.getElem?_eq_getElem hil]; rfl))
          have hne : names[j] ≠ names[i] := fun e => by
            have := (List.pairwise_iff_getElem.mp hnd) j i hjl hil hj
            exact this e
          have l1 := hnlt _ (List.getElem_mem hil)
          have l2 := hnlt _ (List.getElem_mem hjl)
          refine r_append (d := nP (min names[j] names[i], max names[j] names[i])) (l := Pa) (ev_var rfl) (ed_pair (ed_minN n7 n6) (ed_maxN n7 n6)) e1 ?_ fun v H2 k2 d2 => ?_
          · have := e2.length
            rw [List.length_map] at this
            have t7 := tri_le (show i ≤ 7 by omega)
            omega
          · have nt : Gw.Tx H2 (upd H2 Pa (.lst (vs ++ [v]))) := Gw.Tx.mut (k2 _ _ e1) fun _ q => nomatch q
            refine fin _ _ rfl (t.trans ((Gw.Tx.of k2).trans nt)) ⟨a.trans ((Gw.Tx.of k2).trans nt), fun x o q1 q2 e => ?_, ?_, ?_, E ++ [(min names[j] names[i], max names[j] names[i])], vs ++ [v], upd_same, ?_, fun p hp => ?_, ?_⟩
            · rw [upd_ne (fPa x o q1 q2 e)]
              exact k2 _ _ (b x o q1 q2 e)
            · obtain ⟨cs, bb, hc⟩ := c
              have hc := hc.ex k2
              exact ⟨cs, bb, by rw [upd_ne nDP]; exact hc.hD, by rw [upd_ne nCP]; exact hc.hC, hc.ne, hc.lb, hc.len⟩
            · rw [upd_ne nNP]; exact k2 _ _ hN
            · rw [List.map_append]
              exact ((e2.ex k2).tx nt).append (.cons (d2.tx nt) .nil)
            · rcases List.mem_append.mp hp with h | h
              · exact e3 p h
              · have : p = (min names[j] names[i], max names[j] names[i]) := by simpa using h
                subst this
                constructor
                · show min names[j] names[i] < max names[j] names[i]
                  omega
                · show max names[j] names[i] < n
                  omega
            · rw [List.length_append, List.length_singleton]
              omega
        show tIfS (tOr (tAnd (tB (tVar 8)) (tTest (tOp (rI0 fun i j => .bl (decide (i < j))) (tVar 3) (tC (.int 2))))) _) _ tNext _ _ H13
        refine EvT_now (et_and (et_edB g8) fun _ => et_ed (ed_lt (g3 H13) ed_int)) fun H14 k14 => ?_
        have pv14 := pvx pv13 k14
        have tx14 := tx13.trans (Gw.Tx.of k14)
        cases (nr && decide ((form : Int) < 2)) with
        | true =>
          refine L2.iteT ?_
          dsimp only
          refine L2.iteT ?_
          exact add H14 _ tx14 pv14 fun σ'' H'' e t h => ⟨⟨_, _, e⟩, t, h⟩
        | false =>
          refine L2.iteF ?_
          refine ⟨_, rfl, (ed_add ed_int (ed_mul (i := 2) ed_int (g3 H14) (.inl ⟨by decide, by decide⟩))).now fun v15 H15 k15 d15 => ?_⟩
          rw [d15.int_inv]
          have pv15 := pvx pv14 k15
          refine ⟨D, Cl, 2 + 2 * form, by simp, pv15.2.2.1, by omega, by omega, fun r H16 hr16 kd16 dl16 => ⟨rfl, _, rfl, ?_⟩⟩
          have pv16 : Pv i j H7 H16 := by
            obtain ⟨a, b, c, hN, E, vs, e1, e2, e3, e4⟩ := pv15
            obtain ⟨cs, bb, hc⟩ := id c
            have t := kd16.tx hc
            exact ⟨a.trans t, b.trans kd16, dl16, kd16 _ _ nND nNC hN, E, vs, kd16 _ _ nDP.symm nCP.symm e1, e2.tx t, e3, e4⟩
          have tx16 : Gw.Tx H10 H16 := by
            obtain ⟨cs, bb, hc⟩ := pv15.2.2.1
            exact (tx14.trans (Gw.Tx.of k15)).trans (kd16.tx hc)
          cases decide (V.int (r : Int) = V.int 0) with
          | true =>
            dsimp only
            refine L2.iteT ?_
            exact add H16 _ tx16 pv16 fun σ'' H'' e t h => ⟨⟨_, _, e⟩, t, h⟩
          | false =>
            dsimp only
            refine L2.iteF ?_
            exact ⟨⟨_, _, rfl⟩, skip H16 tx16 pv16⟩
      · rintro σ' H11 ⟨⟨x7, x8, rfl⟩, tx11, pv11⟩
        rw [List.length_map, List.length_range] at pv11
        exact ⟨⟨_, _, _, rfl⟩, pv11⟩
    · rintro σ' H8 ⟨⟨x6, x7, x8, rfl⟩, a, b, c, hN, E, vs, e1, e2, e3, e4⟩
      rw [List.length_map, List.length_range] at e4
      have t7 := tri_le (show n ≤ 7 by omega)
      dsimp only
      unfold tRet tTup tCons
      refine ⟨_, rfl, edp_tuple (elp_sortAt (a := Pa) (l := E) (ev_var rfl) e1 e2) H8 (Ex.refl _) _ fun E' v9 H9 hp k9 d9 => ⟨by show 2 ≤ sizeLine; decide, fun r hr => ?_⟩⟩
      have kx := k9.trans (Ex.new (o := .tup [V.int (n : Int), v9]) hr)
      exact q (.ref r) _ n E' (by omega) (fun p hp' => e3 p (hp.mem_iff.mp hp')) (by rw [hp.length_eq]; omega) (b.trans (Kd.of kx)) (exD kx c) (.tup upd_same (.cons (.int _) (.cons (d9.ex (Ex.new hr)) .nil)))
/-! ### _law_order -/
def spOrder : Sp := fun vs H Q _ => ∃ (D Cl : Addr) (wv : V) (n : Nat) (E : List (Nat × Nat)), vs = [.ref D, wv] ∧ Dl H D Cl ∧ Dn H wv (nW n E) ∧ n ≤ 100 ∧ ∀ v H' o, o.Perm (List.range n) → Kd D Cl H H' → Dl H' D Cl → Dn H' v (nT o) → Q v H'
theorem ok_order (T : Txt K mg) (D : Df K mg "_law_order" s_l_order ["_law_deal", "_law_web_here"]) (C__law_mixed : C8.Cal P w K mg base 2 "_law_mixed" spMixed []) : C8.Cal P w K mg base 3 "_law_order" spOrder [] := by
  refine D.cal sc_l_order (fun vs H Q E h => by obtain ⟨D, Cl, wv, n, ed, rfl, _⟩ := h; rfl) (fun f cdv A outer s0 H vs Q E hr h => ?_)
  obtain ⟨D, Cl, wv, n, ed, rfl, ⟨cs, b, h⟩, hw, hn, q⟩ := h
  · have nd := sc_l_order.nd
    refine ⟨_, (pss_one (ps_ret (pe_callTy (r := rTupS K) call_tuple_of (by rfl) T.nb.tuple bt_tuple (pa_cons (C8.pe_c C__law_mixed hr (by decide) (by rfl) (pa_cons (pv 0) (pa_cons (pe_listRg rfl (by rfl) T.nb.list (prg_1 (by rfl) T.nb.range (pe_ix (r := rIxT K) ix_tup (pv 1) pe_int (fun _ _ => rfl)))) pa_nil))) pa_nil)))), ?_⟩
    have e1 : ED (tVar 1) (start N_l_order [.ref D, wv]) H (nW n ed) := ed_var rfl hw
    unfold tRet
    refine ⟨_, rfl, (el_listRg (ed_ixT (K := K) (i := 0) (d := nI n) e1 ed_int rfl) (by omega)).now fun So ws H4 nSo k4 h4 d4 => ?_⟩
    rw [range_inv d4] at h4
    have nSD : So ≠ D := fun e => by rw [e, h.hD] at nSo; cases nSo
    have nSC : So ≠ Cl := fun e => by rw [e, h.hC] at nSo; cases nSo
    refine ⟨D, Cl, So, List.range n, rfl, ⟨cs, b, h.ex k4⟩, h4, nSD, nSC, by rw [List.length_range]; omega, fun r o H5 pm nr hr5 kd5 dl5 => ?_⟩
    refine ⟨r, _, rfl, .inl ⟨SqL.of hr5, fun t ht => ?_⟩⟩
    have k6 : Ex H5 (upd H5 t (.tup (o.map fun x : Nat => V.int (x : Int)))) := Ex.new ht
    obtain ⟨cs5, b5, h5⟩ := dl5
    exact q (.ref t) _ o pm (((Kd.of k4).trans kd5).trans (Kd.of k6)) ⟨cs5, b5, h5.ex k6⟩ (.tup upd_same (dnl_nats o))
end
end Gx
/-! Plain laws: all plans, the table of lots, the greatest beginnings. -/
namespace Gy
open Gx Gw
theorem sub_len {α : Type} [BEq α] [LawfulBEq α] : ∀ {B B' : List α}, B.Nodup → (∀ b ∈ B, b ∈ B') → B.length ≤ B'.length
  | [], _, _, _ => Nat.zero_le _
  | b :: B, B', h, k => by
    rw [List.nodup_cons] at h
    have hb := k b (List.mem_cons_self ..)
    have := sub_len (B' := B'.erase b) h.2 fun c hc => (List.mem_erase_of_ne (fun e => h.1 (by rw [← e]; exact hc))).mpr (k c (List.mem_cons_of_mem _ hc))
    rw [List.length_erase_of_mem hb] at this
    have := List.length_pos_of_mem hb
    rw [List.length_cons]
    omega
/-! ### rising lists -/
def Inc (l : List Nat) : Prop := l.Pairwise (· < ·)
theorem inc_srt {l : List Nat} (h : l.Nodup) : Inc (srt l) := by
  have h1 := srt_sorted l
  have h2 : (srt l).Nodup := (srt_perm l).nodup_iff.mpr h
  exact (h1.and h2).imp fun ⟨a, b⟩ => by omega
theorem inc_nodup {l : List Nat} (h : Inc l) : l.Nodup := h.imp fun a => by omega
theorem inc_eq : ∀ {l m : List Nat}, Inc l → Inc m → (∀ x, x ∈ l ↔ x ∈ m) → l = m
  | [], [], _, _, _ => rfl
  | [], b :: m, _, _, h => by have := (h b).mpr (List.mem_cons_self ..); cases this
  | a :: l, [], _, _, h => by have := (h a).mp (List.mem_cons_self ..); cases this
  | a :: l, b :: m, h1, h2, h => by
    unfold Inc at h1 h2
    rw [List.pairwise_cons] at h1 h2
    have e : a = b := by
      have ha := (h a).mp (List.mem_cons_self ..)
      have hb := (h b).mpr (List.mem_cons_self ..)
      rcases List.mem_cons.mp ha with e | e
      · exact e
      · rcases List.mem_cons.mp hb with f | f
        · exact f.symm
        · have a1 := h2.1 _ e
          have a2 := h1.1 _ f
          omega
    subst e
    rw [inc_eq h1.2 h2.2 fun x => ?_]
    constructor
    · intro hx
      rcases List.mem_cons.mp ((h x).mp (List.mem_cons_of_mem _ hx)) with e | e
      · have := h1.1 x hx; omega
      · exact e
    · intro hx
      rcases List.mem_cons.mp ((h x).mpr (List.mem_cons_of_mem _ hx)) with e | e
      · have := h2.1 x hx; omega
      · exact e
theorem srt_inc {l : List Nat} (h : Inc l) : srt l = l := inc_eq (inc_srt (inc_nodup h)) h fun x => (srt_perm l).mem_iff
def subs : Nat → List (List Nat)
  | 0 => [[]]
  | n + 1 => subs n ++ (subs n).map (· ++ [n])
theorem subs_len : ∀ n, (subs n).length = 2 ^ n
  | 0 => rfl
  | n + 1 => by
    show (subs n ++ (subs n).map (· ++ [n])).length = _
    rw [List.length_append, List.length_map, subs_len n, Nat.pow_succ]
    omega
theorem subs_mem : ∀ {n : Nat} {l : List Nat}, Inc l → (∀ x ∈ l, x < n) → l ∈ subs n
  | 0, l, _, h => by
    cases l with
    | nil => exact List.mem_cons_self ..
    | cons a l => have := h a (List.mem_cons_self ..); omega
  | n + 1, l, hi, h => by
    show l ∈ subs n ++ (subs n).map (· ++ [n])
    rcases List.eq_nil_or_concat l with rfl | ⟨l', x, rfl⟩
    · exact List.mem_append_left _ (subs_mem hi fun x hx => nomatch hx)
    · rw [List.concat_eq_append] at hi h ⊢
      unfold Inc at hi
      rw [List.pairwise_append] at hi
      obtain ⟨h1, _, h3⟩ := hi
      have hx := h x (by simp)
      by_cases e : x = n
      · subst e
        refine List.mem_append_right _ (List.mem_map.mpr ⟨l', subs_mem h1 fun y hy => h3 y hy x (by simp), rfl⟩)
      · refine List.mem_append_left _ (subs_mem ?_ fun y hy => ?_)
        · unfold Inc
          rw [List.pairwise_append]
          exact ⟨h1, by simp, h3⟩
        · rcases List.mem_append.mp hy with hy | hy
          · have := h3 y hy x (by simp)
            omega
          · have : y = x := by simpa using hy
            omega
/-! ### lots -/
structure Lot (n : Nat) (E : List (Nat × Nat)) (l : List Nat) : Prop where
  inc : Inc l
  lt : ∀ x ∈ l, x < n
  sv : Sv n E l
theorem lots_len {n : Nat} {Ks : List (List Nat)} (h : Ks.Nodup) (k : ∀ l ∈ Ks, Inc l ∧ ∀ x ∈ l, x < n) : Ks.length ≤ 2 ^ n := by
  rw [← subs_len n]
  exact sub_len h fun l hl => subs_mem (k l hl).1 (k l hl).2
theorem Lot.er {n : Nat} {E : List (Nat × Nat)} {l : List Nat} (h : Lot n E l) (i : Nat) : Lot n E (l.eraseIdx i) := by
  have sub := List.eraseIdx_sublist l i
  exact ⟨h.inc.sublist sub, fun x hx => h.lt x (sub.subset hx), h.sv.sub fun x hx => sub.subset hx⟩
/-- closed under leaving out one: closed under leaving out -/
theorem closed {Ks : List (List Nat)} (hc : ∀ l ∈ Ks, ∀ i, i < l.length → l.eraseIdx i ∈ Ks) : ∀ (k : Nat) {l m : List Nat}, m.length - l.length = k → m ∈ Ks → Inc m → Inc l → (∀ x ∈ l, x ∈ m) → l ∈ Ks := by
  intro k
  induction k with
  | zero =>
    intro l m hk hm im il sub
    have : m.length ≤ l.length := by omega
    have e : l = m := inc_eq il im fun x => ⟨sub x, fun hx => by
      refine Decidable.byContradiction fun hn => ?_
      have h1 : (x :: l).Nodup := List.nodup_cons.mpr ⟨hn, inc_nodup il⟩
      have := sub_len h1 (B' := m) fun y hy => by
        rcases List.mem_cons.mp hy with e | e
        · rw [e]; exact hx
        · exact sub y e
      rw [List.length_cons] at this
      omega⟩
    rw [e]; exact hm
  | succ k ih =>
    intro l m hk hm im il sub
    obtain ⟨x, hx, hn⟩ : ∃ x ∈ m, x ∉ l := by
      refine Decidable.byContradiction fun z => ?_
      have : ∀ x ∈ m, x ∈ l := fun x hx => Decidable.byContradiction fun hn => z ⟨x, hx, hn⟩
      have := sub_len (inc_nodup im) this
      omega
    obtain ⟨i, hi, e⟩ := List.getElem_of_mem hx
    have ln := List.length_eraseIdx_of_lt hi
    refine ih (m := m.eraseIdx i) (by omega) (hc m hm i hi) (im.sublist (List.eraseIdx_sublist m i)) il fun y hy => ?_
    have hy2 := sub y hy
    have hne : y ≠ x := fun q => hn (by rw [← q]; exact hy)
    have p := er_perm m i hi
    rw [e] at p
    rcases List.mem_cons.mp (p.mem_iff.mpr hy2) with q | q
    · exact absurd q hne
    · exact q
/-! ### all plans -/
def free (p : Nat × Nat) (P : List (Nat × Nat)) : Bool := decide ((P.filter fun q => decide (p.1 ∈ [q.1, q.2]) || decide (p.2 ∈ [q.1, q.2])) = [])
def stepP (F : List (List (Nat × Nat))) (p : Nat × Nat) : List (List (Nat × Nat)) := F ++ (F.filter (free p)).map (· ++ [p])
def allP (E : List (Nat × Nat)) : List (List (Nat × Nat)) := E.foldl stepP [[]]
theorem allP_snoc (E : List (Nat × Nat)) (p : Nat × Nat) : allP (E ++ [p]) = stepP (allP E) p := by
  unfold allP
  rw [List.foldl_append]
  rfl
theorem rev_ind {α : Type} {C : List α → Prop} (h0 : C []) (h1 : ∀ l a, C l → C (l ++ [a])) : ∀ l, C l := by
  intro l
  have : ∀ m (l : List α), l.length = m → C l := by
    intro m
    induction m with
    | zero => intro l h; rw [List.length_eq_zero_iff.mp h]; exact h0
    | succ m ih =>
      intro l h
      rcases List.eq_nil_or_concat l with rfl | ⟨l', x, rfl⟩
      · exact h0
      · rw [List.concat_eq_append] at h ⊢
        exact h1 l' x (ih l' (by simpa using h))
  exact this _ l rfl
theorem allP_len : ∀ E, (allP E).length ≤ 2 ^ E.length := by
  refine rev_ind (Nat.le_refl 1) fun E p ih => ?_
  rw [allP_snoc]
  unfold stepP
  have := List.length_filter_le (free p) (allP E)
  rw [List.length_append, List.length_map, List.length_append, List.length_singleton, Nat.pow_succ]
  omega
theorem free_iff {p : Nat × Nat} {P : List (Nat × Nat)} : free p P = true ↔ p.1 ∉ Gv.flat P ∧ p.2 ∉ Gv.flat P := by
  unfold free
  rw [decide_eq_true_iff, List.filter_eq_nil_iff]
  constructor
  · intro h
    constructor <;> intro z <;> obtain ⟨q, hq, e⟩ := Gv.mem_flat.mp z <;> refine h q hq ?_ <;> rcases e with e | e <;> simp [e]
  · rintro ⟨h1, h2⟩ q hq z
    simp only [Bool.or_eq_true, decide_eq_true_eq] at z
    rcases z with z | z
    · exact h1 (Gv.mem_flat.mpr ⟨q, hq, by simpa using z⟩)
    · exact h2 (Gv.mem_flat.mpr ⟨q, hq, by simpa using z⟩)
theorem allP_ok : ∀ E : List (Nat × Nat), (∀ p ∈ E, p.1 ≠ p.2) → ∀ P ∈ allP E, P.length ≤ E.length ∧ (∀ p ∈ P, p ∈ E) ∧ (Gv.flat P).Nodup := by
  refine rev_ind (fun _ P hP => ?_) fun E p ih hE P hP => ?_
  · have : P = [] := by simpa [allP] using hP
    subst this
    exact ⟨Nat.le_refl _, fun p hp => (nomatch hp), List.nodup_nil⟩
  · have ih := ih fun q hq => hE q (List.mem_append_left _ hq)
    rw [allP_snoc] at hP
    unfold stepP at hP
    rw [List.length_append, List.length_singleton]
    rcases List.mem_append.mp hP with h | h
    · obtain ⟨a, b, c⟩ := ih P h
      exact ⟨by omega, fun q hq => List.mem_append_left _ (b q hq), c⟩
    · obtain ⟨P', hP', rfl⟩ := List.mem_map.mp h
      obtain ⟨h1, h2⟩ := List.mem_filter.mp hP'
      obtain ⟨a, b, c⟩ := ih P' h1
      obtain ⟨f1, f2⟩ := free_iff.mp h2
      refine ⟨by rw [List.length_append, List.length_singleton]; omega, fun q hq => ?_, ?_⟩
      · rcases List.mem_append.mp hq with q1 | q1
        · exact List.mem_append_left _ (b q q1)
        · exact List.mem_append_right _ q1
      · rw [Gv.flat_app, List.nodup_append]
        have := hE p (by simp)
        refine ⟨c, by simp [Gv.flat_cons, Gv.flat_nil, this], fun x hx y hy e => ?_⟩
        rw [Gv.flat_cons, Gv.flat_nil] at hy
        subst e
        rcases List.mem_cons.mp hy with e | e
        · exact f1 (e ▸ hx)
        · have : x = p.2 := by simpa using e
          exact f2 (this ▸ hx)
theorem flat_share : ∀ {P : List (Nat × Nat)}, (Gv.flat P).Nodup → ∀ p ∈ P, ∀ q ∈ P, ∀ x, (x = p.1 ∨ x = p.2) → (x = q.1 ∨ x = q.2) → p = q
  | [], _, p, hp, _, _, _, _, _ => nomatch hp
  | a :: P, h, p, hp, q, hq, x, h1, h2 => by
    rw [Gv.flat_cons, List.nodup_cons, List.nodup_cons] at h
    obtain ⟨k1, k2, k3⟩ := h
    have off : ∀ r ∈ P, ∀ x, (x = r.1 ∨ x = r.2) → (x = a.1 ∨ x = a.2) → False := fun r hr x e1 e2 => by
      have : x ∈ Gv.flat P := Gv.mem_flat.mpr ⟨r, hr, e1⟩
      rcases e2 with e2 | e2
      · exact k1 (List.mem_cons_of_mem _ (e2 ▸ this))
      · exact k2 (e2 ▸ this)
    rcases List.mem_cons.mp hp with e1 | e1 <;> rcases List.mem_cons.mp hq with e2 | e2
    · rw [e1, e2]
    · subst e1; exact (off q e2 x h2 h1).elim
    · subst e2; exact (off p e1 x h1 h2).elim
    · exact flat_share k3 p e1 q e2 x h1 h2
theorem pnr_mem : ∀ {P : List (Nat × Nat)} {x y : Nat}, pnr P x = some y → ∃ p ∈ P, (x = p.1 ∧ y = p.2) ∨ (x = p.2 ∧ y = p.1)
  | [], _, _, h => nomatch h
  | p :: P, x, y, h => by
    unfold pnr at h
    by_cases e : x = p.1 ∨ x = p.2
    · rw [if_pos e] at h
      by_cases e1 : x = p.1
      · rw [if_pos e1] at h
        cases h
        exact ⟨p, List.mem_cons_self .., .inl ⟨e1, rfl⟩⟩
      · rw [if_neg e1] at h
        cases h
        exact ⟨p, List.mem_cons_self .., .inr ⟨e.resolve_left e1, rfl⟩⟩
    · rw [if_neg e] at h
      obtain ⟨q, hq, k⟩ := pnr_mem h
      exact ⟨q, List.mem_cons_of_mem _ hq, k⟩
theorem plan_mt {n : Nat} {E P : List (Nat × Nat)} (W : WebOk n E) (h1 : ∀ p ∈ P, p ∈ E) (h2 : (Gv.flat P).Nodup) : Gv.Mt n (adjE E) (pnr P) := by
  refine ⟨fun u v h => ?_, fun u v h => ?_⟩
  · obtain ⟨p, hp, k⟩ := pnr_mem h
    cases q : pnr P v with
    | none =>
      have := pnr_none.mp q
      exfalso
      apply this
      rcases k with ⟨_, e⟩ | ⟨_, e⟩
      · rw [e]; exact Gv.mem_flat2 hp
      · rw [e]; exact Gv.mem_flat1 hp
    | some z =>
      obtain ⟨r, hr, k2⟩ := pnr_mem q
      have e : p = r := flat_share h2 p hp r hr v (by rcases k with ⟨_, e⟩ | ⟨_, e⟩ <;> simp [e]) (by rcases k2 with ⟨e, _⟩ | ⟨e, _⟩ <;> simp [e])
      subst e
      have l := (W.ok p (h1 p hp)).1
      rcases k with ⟨a, b⟩ | ⟨a, b⟩ <;> rcases k2 with ⟨c, d⟩ | ⟨c, d⟩
      · omega
      · rw [d, a]
      · rw [d, a]
      · omega
  · obtain ⟨p, hp, k⟩ := pnr_mem h
    have l := (W.ok p (h1 p hp)).1
    rcases k with ⟨a, b⟩ | ⟨a, b⟩
    · subst a b
      exact ⟨by omega, by rw [Gv.nrm_lt l]; exact h1 p hp⟩
    · subst a b
      exact ⟨by omega, by rw [Gv.nrm_comm, Gv.nrm_lt l]; exact h1 p hp⟩
theorem web_ne {n : Nat} {E : List (Nat × Nat)} (W : WebOk n E) : ∀ p ∈ E, p.1 ≠ p.2 := fun p hp => by have := (W.ok p hp).1; omega
theorem plan_lot {n : Nat} {E P : List (Nat × Nat)} (W : WebOk n E) (h : P ∈ allP E) : Lot n E (srt (Gv.flat P)) := by
  obtain ⟨_, h1, h2⟩ := allP_ok E (web_ne W) P h
  refine ⟨inc_srt h2, fun x hx => ?_, pnr P, plan_mt W h1 h2, fun v hv => ?_⟩
  · obtain ⟨p, hp, e⟩ := Gv.mem_flat.mp ((srt_perm _).mem_iff.mp hx)
    have := W.ok p (h1 p hp)
    rcases e with e | e <;> omega
  · exact fun z => pnr_none.mp z ((srt_perm _).mem_iff.mp hv)
theorem plan_of {f : Nat → Option Nat} (sym : ∀ u v, f u = some v → f v = some u) : ∀ E : List (Nat × Nat), (∀ p ∈ E, p.1 < p.2) → ∃ P ∈ allP E, ∀ p, p ∈ P ↔ p ∈ E ∧ f p.1 = some p.2 := by
  refine rev_ind (fun _ => ⟨[], by simp [allP], fun p => by simp⟩) fun E p ih hE => ?_
  obtain ⟨P, hP, hm⟩ := ih fun q hq => hE q (List.mem_append_left _ hq)
  have hp := hE p (by simp)
  rw [allP_snoc]
  unfold stepP
  by_cases c : f p.1 = some p.2 ∧ p ∉ P
  · obtain ⟨c1, c2⟩ := c
    have fr : free p P = true := by
      rw [free_iff]
      constructor <;> intro z <;> obtain ⟨q, hq, e⟩ := Gv.mem_flat.mp z <;> obtain ⟨q1, q2⟩ := (hm q).mp hq <;> apply c2
      · have l := hE q (List.mem_append_left _ q1)
        rcases e with e | e
        · have : q = p := Prod.ext e.symm (by rw [← e, c1] at q2; exact (Option.some.inj q2).symm)
          exact this ▸ hq
        · have s := sym _ _ q2
          rw [← e, c1] at s
          have := Option.some.inj s
          omega
      · have l := hE q (List.mem_append_left _ q1)
        have s1 := sym _ _ c1
        rcases e with e | e
        · rw [← e, s1] at q2
          have := Option.some.inj q2
          omega
        · have s := sym _ _ q2
          rw [← e, s1] at s
          have : q = p := Prod.ext (Option.some.inj s).symm e.symm
          exact this ▸ hq
    refine ⟨P ++ [p], List.mem_append_right _ (List.mem_map.mpr ⟨P, List.mem_filter.mpr ⟨hP, fr⟩, rfl⟩), fun q => ?_⟩
    rw [List.mem_append, List.mem_append, hm q]
    constructor
    · rintro (⟨a, b⟩ | a)
      · exact ⟨.inl a, b⟩
      · have : q = p := by simpa using a
        subst this
        exact ⟨.inr a, c1⟩
    · rintro ⟨a | a, b⟩
      · exact .inl ⟨a, b⟩
      · exact .inr a
  · refine ⟨P, List.mem_append_left _ hP, fun q => ?_⟩
    rw [hm q, List.mem_append]
    constructor
    · rintro ⟨a, b⟩; exact ⟨.inl a, b⟩
    · rintro ⟨a | a, b⟩
      · exact ⟨a, b⟩
      · have : q = p := by simpa using a
        subst this
        have : q ∈ P := Decidable.byContradiction fun z => c ⟨b, z⟩
        exact (hm q).mp this
/-- a table that holds all plans' lots and is closed holds every lot -/
theorem table {n : Nat} {E : List (Nat × Nat)} {Ks : List (List Nat)} (W : WebOk n E) (h1 : ∀ l ∈ Ks, Lot n E l) (h2 : ∀ P ∈ allP E, srt (Gv.flat P) ∈ Ks) (hc : ∀ l ∈ Ks, ∀ i, i < l.length → l.eraseIdx i ∈ Ks) (l : List Nat) : l ∈ Ks ↔ Lot n E l := by
  refine ⟨h1 l, fun h => ?_⟩
  obtain ⟨f, M, hf⟩ := h.sv
  obtain ⟨P, hP, hm⟩ := plan_of M.sym E fun p hp => (W.ok p hp).1
  refine closed hc _ rfl (h2 P hP) (plan_lot W hP).inc h.inc fun x hx => ?_
  rw [(srt_perm _).mem_iff]
  cases q : f x with
  | none => exact absurd q (hf x hx)
  | some y =>
    have a := M.adj _ _ q
    refine Gv.mem_flat.mpr ⟨Gv.nrm x y, (hm _).mpr ⟨a.2, ?_⟩, ?_⟩
    · rcases Gv.nrm_cases x y with e | e <;> rw [e]
      · exact q
      · exact M.sym _ _ q
    · rcases Gv.nrm_cases x y with e | e <;> rw [e] <;> simp
end Gy
namespace Gw
open PySem L2 Evl
section
variable {K : PySem.W.Frag} {σ : L2.St} {H H' : Hp} {ta tb te to tl : TE} {ds es : List PyData} {D : Ends} {d : PyData} {l : List Nat}
/-- sums of lists, the first (both) standing -/
theorem el_catAt {a : Addr} {vs : List V} (h : Ev ta σ H (.ref a)) (hs : H a = some (.lst vs)) (hd : DnL H vs ds) (k : EL tb σ H es) (z : ds.length + es.length ≤ sizeLine) : EL (tOp rCat ta tb) σ H (ds ++ es) := fun H1 b Q q =>
  h H1 b _ fun H2 k1 => k H2 (b.trans k1) _ fun r ys H3 l0 l1 l2 l3 =>
    ⟨a, r, vs, ys, rfl, rfl, ((b.trans k1).trans l1) _ _ hs, l2, by rw [hd.length, l3.length]; exact z, fun m hm => q m _ _ (fresh_back (k1.trans l1) hm) ((k1.trans l1).trans (Ex.new hm)) upd_same (((hd.ex ((b.trans k1).trans l1)).append l3).ex (Ex.new hm))⟩
theorem el_catAA {a c : Addr} {vs ws : List V} (h : Ev ta σ H (.ref a)) (hs : H a = some (.lst vs)) (hd : DnL H vs ds) (k : Ev tb σ H (.ref c)) (hs2 : H c = some (.lst ws)) (hd2 : DnL H ws es) (z : ds.length + es.length ≤ sizeLine) : EL (tOp rCat ta tb) σ H (ds ++ es) := fun H1 b Q q =>
  h H1 b _ fun H2 k1 => k H2 (b.trans k1) _ fun H3 l1 => by
    have e3 := (b.trans k1).trans l1
    exact ⟨a, c, vs, ws, rfl, rfl, e3 _ _ hs, e3 _ _ hs2, by rw [hd.length, hd2.length]; exact z, fun m hm => q m _ _ (fresh_back (k1.trans l1) hm) ((k1.trans l1).trans (Ex.new hm)) upd_same (((hd.ex e3).append (hd2.ex e3)).ex (Ex.new hm))⟩
theorem el_sortAt {a : Addr} {vs : List V} (h : Ev ta σ H (.ref a)) (hs : H a = some (.lst vs)) (hd : DnL H vs (l.map nI)) : EL (tCB (rSortedI K) (tCons ta tNil)) σ H ((srt l).map nI) := fun H1 b Q q =>
  h H1 b _ fun H2 k1 => by
    have := dnl_nats_inv' hd
    subst this
    refine ⟨a, _, rfl, SqL.of ((b.trans k1) _ _ hs), fun ns' w hp hso hw => ?_⟩
    have := srt_is hp hso
    subst this
    refine q w _ _ (fresh_back k1 hw) (k1.trans (Ex.new hw)) upd_same ?_
    rw [nI_map]
    exact dnl_ints
theorem r_append' {lo : Addr} {xs : List V} (h : Ev to σ H (.ref lo)) (k : ED te σ H d) (hl : H lo = some (.lst xs)) (hz : xs.length < sizeLine) (q : ∀ v H2, Ex H H2 → Dn H2 v d → D.nx σ (upd H2 lo (.lst (xs ++ [v])))) : tDrop (tBM K "list" rAppend to (tCons te tNil)) D σ H :=
  Ev_now h fun H1 k1 => ⟨.inl ⟨rfl, xs, SqL.of (k1 _ _ hl)⟩, k H1 k1 _ fun v H2 k2 d2 => ⟨lo, xs, v, rfl, rfl, (k1.trans k2) _ _ hl, hz, q v H2 (k1.trans k2) d2⟩⟩
/-- a for over a list that stands; only it and the tuples need to stand -/
theorem r_forL {g : TG} {tbd : TS} {p : Addr} {xs : List V} (h : Ev tl σ H (.ref p)) (hs : H p = some (.lst xs)) (hd : DnL H xs ds) (Pv : Nat → L2.St → Hp → Prop) (h0 : ∀ H2, Ex H H2 → Pv 0 σ H2) (hG : ∀ i σ' H', Pv i σ' H' → Gw.Tx H H' ∧ H' p = some (.lst xs))
    (hst : ∀ i d x σ' H3, ds[i]? = some d → Pv i σ' H3 → Dn H3 x d → g x σ' H3 fun σ2 H5 => tbd { D with nx := Pv (i + 1), ct := Pv (i + 1), bk := D.nx } σ2 H5) (hdn : ∀ σ' H', Pv ds.length σ' H' → D.nx σ' H') : tFor (iList K tl) g tbd D σ H :=
  h H (Ex.refl H) _ fun H2 k2 => ⟨p, rfl, ⟨xs, SqL.of (k2 _ _ hs)⟩, by
    have S := src_list (K := K) (k2 _ _ hs) (hd.ex k2)
    refine ⟨fun i m σ' H' => m = ds.length - i ∧ i ≤ ds.length ∧ Pv i σ' H', ⟨ds.length, by simp, Nat.zero_le _, h0 H2 k2⟩, ?_⟩
    rintro i m σ' H' ⟨rfl, hi, pv⟩
    obtain ⟨t, e⟩ := hG i σ' H' pv
    have S' := src_list (K := K) (p := p) (xs := xs) e (hd.tx t)
    by_cases hlt : i < ds.length
    · refine .inr ⟨S'.go i H' ⟨Gw.Tx.refl _, e⟩ hlt, Pv (i + 1), fun σ2 H2 pv2 => ⟨ds.length - (i + 1), by omega, rfl, hlt, pv2⟩, fun x H3 y => ?_⟩
      obtain ⟨y1, y2⟩ := y
      have hx : ds[i]? = some ds[i] := List.getElem?_eq_getElem hlt
      obtain ⟨e3, dx⟩ := S'.yld i _ H' x H3 hx ⟨Gw.Tx.refl _, e⟩ ⟨y1, y2⟩
      subst y1
      exact hst i _ x σ' _ hx pv dx
    · have ei : i = ds.length := by omega
      subst ei
      exact .inl ⟨S'.stop H' ⟨Gw.Tx.refl _, e⟩, hdn σ' H' pv⟩⟩
theorem eqvAll_nil (ds : List PyData) : PyData.eqvAll ds [] = decide (ds = []) := by
  cases ds with
  | nil => simp [PyData.eqvAll]
  | cons a l => simp [PyData.eqvAll]
theorem shp_pairs (l : List (Nat × Nat)) : SeqAt.shaped (.list (l.map nP)) = true := by
  have h1 := lay_pairs l
  have h2 := dep_pairs l
  have h3 : (PyData.list (l.map nP)).depth ≤ 64 := by
    simp only [PyData.depth]
    omega
  have h4 : (PyData.list (l.map nP)).canLay0 = true := by
    simp only [PyData.canLay0]
    exact h1
  unfold SeqAt.shaped
  rw [h4, decide_eq_true h3] <;> rfl
theorem lay_tups (l : List (List Nat)) : PyData.canLayAll0 (l.map nT) = true := by
  induction l with
  | nil => simp [PyData.canLayAll0]
  | cons a l ih =>
    simp only [List.map_cons, PyData.canLayAll0, ih, Bool.and_true, nT, PyData.canLay0]
    rw [nI_map]
    exact lay_ints _
theorem dep_tups (l : List (List Nat)) : PyData.depthAll (l.map nT) ≤ 2 := by
  induction l with
  | nil => simp [PyData.depthAll]
  | cons a l ih =>
    have : (nT a).depth ≤ 2 := by
      simp only [nT, PyData.depth]
      have := depth_ints (a.map fun n : Nat => (n : Int))
      rw [← nI_map] at this
      omega
    simp only [List.map_cons, PyData.depthAll]
    omega
theorem shp_tups (l : List (List Nat)) : SeqAt.shaped (.list (l.map nT)) = true := by
  have h1 := lay_tups l
  have h2 := dep_tups l
  have h3 : (PyData.list (l.map nT)).depth ≤ 64 := by
    simp only [PyData.depth]
    omega
  have h4 : (PyData.list (l.map nT)).canLay0 = true := by
    simp only [PyData.canLay0]
    exact h1
  unfold SeqAt.shaped
  rw [h4, decide_eq_true h3] <;> rfl
/-- [..] == [], the first a new list of pairs -/
theorem ed_eqNilP {l : List (Nat × Nat)} (h : EL ta σ H (l.map nP)) : ED (tOp (rEqD K) ta (tLst tNil)) σ H (.bool (decide (l = []))) := fun H1 b Q q =>
  h H1 b _ fun p vs H2 k0 k2 hs hd => ⟨Nat.zero_le _, fun r hr => by
    have k3 : Ex H2 (upd H2 r (.lst [])) := Ex.new hr
    refine ⟨.list (l.map nP), .list [], .lst (SqL.of (k3 _ _ hs)) (hd.ex k3).dp, .lst (SqL.of upd_same) .nil, shp_pairs l, shp_nil, ?_⟩
    have : PyData.eqv (.list (l.map nP)) (.list []) = decide (l = []) := by
      simp only [PyData.eqv, eqvAll_nil]
      congr 1
      exact propext ⟨fun h => List.map_eq_nil_iff.mp h, fun h => by rw [h]; rfl⟩
    rw [this]
    exact q _ _ (k2.trans k3) (.bl _)⟩
/-- a list of tuples that stands, against [] -/
theorem ed_neNilT {a : Addr} {vs : List V} {l : List (List Nat)} (h : Ev ta σ H (.ref a)) (hs : H a = some (.lst vs)) (hd : DnL H vs (l.map nT)) : ED (tOp (rNeD K) ta (tLst tNil)) σ H (.bool (!decide (l = []))) := fun H1 b Q q =>
  h H1 b _ fun H2 k2 => ⟨Nat.zero_le _, fun p hp => by
    have k3 : Ex H2 (upd H2 p (.lst [])) := Ex.new hp
    have e3 := (b.trans k2).trans k3
    refine ⟨.list (l.map nT), .list [], .lst (SqL.of (e3 _ _ hs)) (hd.ex e3).dp, .lst (SqL.of upd_same) .nil, shp_tups l, shp_nil, ?_⟩
    have : PyData.eqv (.list (l.map nT)) (.list []) = decide (l = []) := by
      simp only [PyData.eqv, eqvAll_nil]
      congr 1
      exact propext ⟨fun h => List.map_eq_nil_iff.mp h, fun h => by rw [h]; rfl⟩
    rw [this]
    exact q _ _ (k2.trans k3) (.bl _)⟩
end
/-! ### a dict whose keys are tuples of numbers, all True -/
def kk (l : List Nat) : List Key := l.map fun x : Nat => (Sum.inl (x : Int) : Key)
def enc (Ks : List (List Nat)) : List (List Key × V) := Ks.map fun l => (kk l, V.bl true)
theorem kk_V (l : List Nat) : (kk l).map kV = l.map fun x : Nat => V.int (x : Int) := by
  unfold kk
  rw [List.map_map]
  rfl
theorem kk_inj : ∀ {l m : List Nat}, kk l = kk m → l = m
  | [], [], _ => rfl
  | [], _ :: _, h => by cases h
  | _ :: _, [], h => by cases h
  | a :: l, b :: m, h => by
    have h : (Sum.inl (a : Int) : Key) :: kk l = (Sum.inl (b : Int) : Key) :: kk m := h
    obtain ⟨h1, h2⟩ := List.cons.inj h
    have h1 := Sum.inl.inj h1
    have : a = b := by omega
    rw [this, kk_inj h2]
theorem valV_enc {Ks : List (List Nat)} {l : List Nat} : valV (enc Ks) (kk l) = if l ∈ Ks then some (V.bl true) else none := by
  unfold valV enc
  induction Ks with
  | nil => simp
  | cons m Ks ih =>
    rw [List.map_cons, List.find?_cons]
    by_cases e : m = l
    · subst e
      simp
    · have : decide (kk m = kk l) = false := decide_eq_false fun z => e (kk_inj z)
      simp only [this]
      rw [ih]
      have : (l ∈ m :: Ks) ↔ l ∈ Ks := by
        rw [List.mem_cons]
        exact ⟨fun h => h.resolve_left (fun z => e z.symm), .inr⟩
      simp only [this]
theorem putK_enc {Ks : List (List Nat)} {l : List Nat} : putK (enc Ks) (kk l) (V.bl true) = enc (if l ∈ Ks then Ks else Ks ++ [l]) := by
  unfold putK
  have hany : ((enc Ks).any fun kv => decide (kv.1 = kk l)) = decide (l ∈ Ks) := by
    unfold enc
    induction Ks with
    | nil => simp
    | cons m Ks ih =>
      rw [List.map_cons, List.any_cons, ih]
      by_cases e : m = l
      · subst e; simp
      · have : decide (kk m = kk l) = false := decide_eq_false fun z => e (kk_inj z)
        simp only [this, Bool.false_or]
        congr 1
        exact propext ⟨List.mem_cons_of_mem _, fun h => (List.mem_cons.mp h).resolve_left fun z => e z.symm⟩
  rw [hany]
  by_cases h : l ∈ Ks
  · rw [if_pos (decide_eq_true h), if_pos h]
    unfold enc
    rw [List.map_map]
    refine List.map_congr_left fun m _ => ?_
    show (if kk m = kk l then (kk m, V.bl true) else (kk m, V.bl true)) = (kk m, V.bl true)
    split <;> rfl
  · rw [if_neg (by simp [h]), if_neg h]
    unfold enc
    rw [List.map_append]
    rfl
end Gw
namespace Gx
open PySem L2 Evl Gw Gy
section
variable {P : Program} {w : World} {K : PySem.W.Frag} {mg : Str → Option Value} {base : Heap} {C : Addr}
/-! ### _law_served -/
def pLServed (ds : List PyData) (es : List PyData) : Prop := ∃ ps, ps.length ≤ 1000 ∧ ds = [nPs ps] ∧ es = (srt (Gv.flat ps)).map nI
theorem ok_lserved (T : Txt K mg) (D : Df K mg "_law_served" s_l_served ["_law_plan"]) : C8.Cal P w K mg base 1 "_law_served" (SpL pLServed) [] := by
  refine D.cal sc_l_served (spl_len fun ds d h => by obtain ⟨i, _, rfl, _⟩ := h; rfl) (fun f cdv A outer s0 H vs Q E hr h => ?_)
  obtain ⟨ds, es, hds, hp, q⟩ := h
  obtain ⟨ps, hl, rfl, rfl⟩ := hp
  obtain ⟨v, rfl, hv⟩ := a1 hds
  · have nd := sc_l_served.nd
    refine ⟨_, (pss_cons (ps_set (i := 1) nd rfl (by first | exact .inl rfl | exact .inr rfl) (pe_lst pa_nil))
      (pss_cons (ps_for PassesOwn.never rfl (pi_tup (pv 0)) (pg_name (i := 2) nd rfl (by first | exact .inl rfl | exact .inr rfl)) (pss_one (ps_set (i := 1) nd rfl (by first | exact .inl rfl | exact .inr rfl) (pe_op op_cat (pv 1) (pe_lst (pa_cons (pe_ix (r := rIxT K) ix_tup (pv 2) pe_int (fun _ _ => rfl)) (pa_cons (pe_ix (r := rIxT K) ix_tup (pv 2) pe_int (fun _ _ => rfl)) pa_nil)))))))
      (pss_one (ps_ret (pe_callB (r := rSortedI K) cr_sortedI (by rfl) T.nb.sorted bt_sorted (pa_cons (pv 1) pa_nil)))))), ?_⟩
    refine r_seqL (ds := []) (el_lst eda_nil (by decide)) fun fo ws0 H1 n1 k1 h1 d1 => ?_
    have e0 : ED (tVar 0) [some v, some (.ref fo), none] H1 (nPs ps) := ed_var rfl (hv.ex k1)
    refine r_seq (r_for (et_tup e0).s fun H2 k2 => ⟨fun i σ' H' => Ex H2 H' ∧ ∃ fo' x2 vs, σ' = [some v, some (.ref fo'), x2] ∧ H fo' = none ∧ H' fo' = some (.lst vs) ∧ DnL H' vs ((Gv.flat (ps.take i)).map nI),
      ⟨Ex.refl _, fo, none, ws0, rfl, n1, k2 _ _ h1, d1.ex k2⟩, fun i σ' H' h => h.1, ?_, ?_⟩)
    · rintro i d x σ' H3 H4 hd ⟨k3, fo', x2, vs, rfl, nf, hf, df⟩ k4 dx
      rw [List.getElem?_map] at hd
      cases hi : ps[i]? with
      | none => rw [hi] at hd; cases hd
      | some p =>
        rw [hi] at hd
        cases hd
        refine g_name _ ?_
        have ti : ps.take (i + 1) = ps.take i ++ [p] := by rw [List.take_add_one, hi] <;> rfl
        have e2 : ED (tVar 2) [some v, some (.ref fo'), some x] H4 (nP p) := ed_var rfl dx
        have lf : (Gv.flat (ps.take i)).length ≤ 2000 := by
          have := flat_len (ps.take i)
          rw [List.length_take] at this
          rw [flat_map]
          omega
        refine r_setL (el_catAt (a := fo') (ev_var rfl) (k4 _ _ hf) (df.ex k4) (el_lst (ds := [nI p.1, nI p.2]) (eda_cons (ed_fst e2) (eda_cons (ed_snd e2) eda_nil)) (show 2 ≤ 100000 by decide)) (sz_of (by rw [List.length_map]; show _ + 2 ≤ _; omega))) fun r ws H5 n5 k5 h5 d5 => ?_
        refine ⟨(k3.trans k4).trans k5, r, some x, ws, rfl, fresh_back (((k1.trans k2).trans k3).trans k4) n5, h5, ?_⟩
        rw [ti, Gv.flat_app, List.map_append]
        exact d5
    · rintro σ' H3 ⟨k3, fo', x2, vs, rfl, nf, hf, df⟩
      rw [List.length_map, List.take_length] at df
      dsimp only
      refine r_retL (el_sortAt (a := fo') (ev_var rfl) hf df) fun p ws H4 n4 k4 h4 d4 => q p ws H4 (fresh_back ((k1.trans k2).trans k3) n4) (((k1.trans k2).trans k3).trans k4) h4 d4
/-! ### _law_all_plans -/
def pAll (ds : List PyData) (es : List PyData) : Prop := ∃ n E, WebOk n E ∧ E.length ≤ 21 ∧ ds = [nW n E] ∧ es = (allP E).map nPs
theorem pow21 {k : Nat} (h : k ≤ 21) : 2 ^ k ≤ 2097152 := Nat.le_trans (Nat.pow_le_pow_right (by decide) h) (by decide)
theorem ok_all_plans (T : Txt K mg) (D : Df K mg "_law_all_plans" s_l_all_plans ["_law_web_here"]) : C8.Cal P w K mg base 1 "_law_all_plans" (SpL pAll) [] := by
  refine D.cal sc_l_all_plans (spl_len fun ds d h => by obtain ⟨n, E, _, _, rfl, _⟩ := h; rfl) (fun f cdv A outer s0 H vs Q E hr h => ?_)
  obtain ⟨ds, es, hds, hp, q⟩ := h
  obtain ⟨n, ed, W, hl, rfl, rfl⟩ := hp
  obtain ⟨v, rfl, hv⟩ := a1 hds
  · have nd := sc_l_all_plans.nd
    refine ⟨_, (pss_cons (ps_set (i := 1) nd rfl (by first | exact .inl rfl | exact .inr rfl) (pe_lst (pa_cons (pe_tup pa_nil) pa_nil)))
      (pss_cons (ps_for PassesOwn.never rfl (pi_tup (pe_ix (r := rIxT K) ix_tup (pv 0) pe_int (fun _ _ => rfl))) (pg_name (i := 2) nd rfl (by first | exact .inl rfl | exact .inr rfl)) (pss_cons (ps_set (i := 3) nd rfl (by first | exact .inl rfl | exact .inr rfl) (pe_lst pa_nil))
      (pss_cons (ps_for PassesOwn.never rfl (pi_list (pv 1)) (pg_name (i := 4) nd rfl (by first | exact .inl rfl | exact .inr rfl)) (pss_one (ps_if (pt_cmpR (r := rEqD K) (op_eqD (units64 hr)) (pe_lc (own := [("_law_one", 5)]) (g := (gName 5)) (tt := _) rfl nd (pi_tup (pv 4)) (blkOk_by (own := [("_law_one", 5)]) (N := N_l_all_plans) (sc := (defScope s_l_all_plans)) (by decide +kernel)) (fun _ _ _ _ _ => (pg_name (i := 5) nd rfl (by first | exact .inl rfl | exact .inr rfl))) (fun _ _ _ _ _ => (pts_one ((pw_or (pt_cmpR (r := rIn K false) op_in_seq (pe_ix (r := rIxT K) ix_tup (pv 2) pe_int (fun _ _ => rfl)) (pv 5) rfl) (pw_or1 (pt_cmpR (r := rIn K false) op_in_seq (pe_ix (r := rIxT K) ix_tup (pv 2) pe_int (fun _ _ => rfl)) (pv 5) rfl))).pt))) (fun _ _ _ _ _ => (pv 5))) (pe_lst pa_nil) (nomark _)) (pss_one (ps_expr (pe_bm PySem.F.plainAttrs_list PySem.F.slot_list_append PySem.F.type_list_append mt_append (pv 3) (pa_cons (pe_op (r := rCatA K) op_catA (pv 4) (pe_tup (pa_cons (pv 2) pa_nil))) pa_nil)))) pss_nil)))
      (pss_one (ps_set (i := 1) nd rfl (by first | exact .inl rfl | exact .inr rfl) (pe_op op_cat (pv 1) (pv 3)))))))
      (pss_one (ps_ret (pv 1))))), ?_⟩
    have hsz : (sizeLine : Nat) = 16777216 := sizeLine_eq
    refine r_seqL (ds := [nPs []]) (el_lst (eda_cons (ed_tup eda_nil (by decide)) eda_nil) (show 1 ≤ 100000 by decide)) fun fo ws0 H1 n1 k1 h1 d1 => ?_
    have e0 : ED (tVar 0) [some v, some (.ref fo), none, none, none, none] H1 (nW n ed) := ed_var rfl (hv.ex k1)
    refine r_seq (r_for (et_tup (ed_ixT (d := nPs ed) e0 ed_int rfl)).s fun H2 k2 => ⟨fun i σ' H' => Ex H2 H' ∧ ∃ fo' x2 x3 x4 vs, σ' = [some v, some (.ref fo'), x2, x3, x4, none] ∧ H fo' = none ∧ H' fo' = some (.lst vs) ∧ DnL H' vs ((allP (ed.take i)).map nPs),
      ⟨Ex.refl _, fo, none, none, none, ws0, rfl, n1, k2 _ _ h1, d1.ex k2⟩, fun i σ' H' h => h.1, ?_, ?_⟩)
    · rintro i d x σ' H3 H4 hd ⟨k3, fo', x2, x3, x4, vs, rfl, nf, hf, df⟩ k4 dx
      rw [List.getElem?_map] at hd
      cases hi : ed[i]? with
      | none => rw [hi] at hd; cases hd
      | some p =>
        rw [hi] at hd
        cases hd
        refine g_name _ ?_
        have hil : i < ed.length := (List.getElem?_eq_some_iff.mp hi).1
        have ti : ed.take (i + 1) = ed.take i ++ [p] := by rw [List.take_add_one, hi] <;> rfl
        have lF : (allP (ed.take i)).length ≤ 2 ^ i := by
          have := allP_len (ed.take i)
          rwa [List.length_take, Nat.min_eq_left (by omega)] at this
        have l20 : 2 ^ i ≤ 1048576 := Nat.le_trans (Nat.pow_le_pow_right (by decide) (show i ≤ 20 by omega)) (by decide)
        have hPl : ∀ P' ∈ allP (ed.take i), P'.length ≤ 21 := fun P' hP' => by
          have := (allP_ok (ed.take i) (fun p hp => web_ne W p (List.mem_of_mem_take hp)) P' hP').1
          rw [List.length_take] at this
          omega
        generalize hF : allP (ed.take i) = F at df lF hPl
        refine r_seqL (ds := []) (el_lst eda_nil (by decide)) fun mo ws5 H5 n5 k5 h5 d5 => ?_
        have hws : ws5 = [] := d5.nil_inv
        subst hws
        have hf5 := (k4.trans k5) _ _ hf
        have df5 := df.ex (k4.trans k5)
        have nfm : fo' ≠ mo := fun e => by rw [← e, k4 _ _ hf] at n5; cases n5
        have kall := ((k1.trans k2).trans k3).trans k4
        have nm0 : H mo = none := fresh_back kall n5
        have nm2 : H2 mo = none := fresh_back (k3.trans k4) n5
        refine r_seq (r_forL (p := fo') (ev_var rfl) hf5 df5 (fun j σ' H' => Gw.Tx H5 H' ∧ Ex H2 H' ∧ Ex H H' ∧ H' fo' = some (.lst vs) ∧ ∃ y4 ws, σ' = [some v, some (.ref fo'), some x, some (.ref mo), y4, none] ∧ H' mo = some (.lst ws) ∧ DnL H' ws ((((F.take j).filter (free p)).map (· ++ [p])).map nPs))
          (fun H6 k6 => ⟨Gw.Tx.of k6, ((k3.trans k4).trans k5).trans k6, (kall.trans k5).trans k6, k6 _ _ hf5, _, [], rfl, k6 _ _ h5, .nil⟩) (fun j σ' H' z => ⟨z.1, z.2.2.2.1⟩) ?_ ?_)
        · rintro j d y σ' H6 hd ⟨tx6, e26, e06, hf6, y4, ws, rfl, hm6, dm6⟩ dy
          rw [List.getElem?_map] at hd
          cases hj : F[j]? with
          | none => rw [hj] at hd; cases hd
          | some P' =>
            rw [hj] at hd
            cases hd
            refine g_name _ ?_
            have tj : F.take (j + 1) = F.take j ++ [P'] := by rw [List.take_add_one, hj] <;> rfl
            have hPl' := hPl P' (List.mem_of_getElem? hj)
            have hjl : j < F.length := (List.getElem?_eq_some_iff.mp hj).1
            have u2 : ED (tVar 2) [some v, some (.ref fo'), some x, some (.ref mo), some y, none] H6 (nP p) := ed_var rfl (dx.tx ((Gw.Tx.of k5).trans tx6))
            have u4 : ED (tVar 4) [some v, some (.ref fo'), some x, some (.ref mo), some y, none] H6 (nPs P') := ed_var rfl dy
            refine r_if (b := free p P') (et_ed (ed_eqNilP ((el_lc (enc := nP) (xs := P') (b := fun q => decide (p.1 ∈ [q.1, q.2]) || decide (p.2 ∈ [q.1, q.2])) (f := nP) (et_tup u4).s (by omega) fun q hq z H7 k7 dz => ⟨_, fun Q q => g_name Q q, rfl, et_or (et_ed ?_) fun _ => et_ed ?_, fun _ => ed_var rfl dz⟩)))) (fun hb H7 k7 => ?_) fun hb H7 k7 => ?_
            · have w2 : ED (tVar 2) [some v, some (.ref fo'), some x, some (.ref mo), some y, some z] H7 (nP p) := ed_var rfl ((dx.tx ((Gw.Tx.of k5).trans tx6)).ex k7)
              have w5 : ED (tVar 5) [some v, some (.ref fo'), some x, some (.ref mo), some y, some z] H7 (nT [q.1, q.2]) := ed_var rfl dz
              exact ed_inN (ed_fst w2) w5
            · have w2 : ED (tVar 2) [some v, some (.ref fo'), some x, some (.ref mo), some y, some z] H7 (nP p) := ed_var rfl ((dx.tx ((Gw.Tx.of k5).trans tx6)).ex k7)
              have w5 : ED (tVar 5) [some v, some (.ref fo'), some x, some (.ref mo), some y, some z] H7 (nT [q.1, q.2]) := ed_var rfl dz
              exact ed_inN (ed_snd w2) w5
            · have fl : (F.take (j + 1)).filter (free p) = (F.take j).filter (free p) ++ [P'] := by
                rw [tj, List.filter_append, List.filter_cons, if_pos hb]
                rfl
              refine r_append' (d := nPs (P' ++ [p])) (lo := mo) (ev_var rfl) ((ed_catT (u4.mono k7) (ed_tup (ds := [nP p]) (eda_cons (u2.mono k7) eda_nil) (show 1 ≤ 100000 by decide)) (by rw [List.length_map]; show _ + 1 ≤ _; omega)).is (by show PyData.tuple _ = PyData.tuple _; rw [List.map_append]; rfl)) (k7 _ _ hm6) ?_ fun u H8 k8 d8 => ?_
              · have := dm6.length
                rw [List.length_map, List.length_map] at this
                have l2 := List.length_filter_le (free p) (F.take j)
                rw [List.length_take] at l2
                omega
              · have k78 := k7.trans k8
                have nt : Gw.Tx H8 (upd H8 mo (.lst (ws ++ [u]))) := Gw.Tx.mut (k78 _ _ hm6) fun _ q => nomatch q
                refine ⟨tx6.trans ((Gw.Tx.of k78).trans nt), (e26.trans k78).mut nm2, (e06.trans k78).mut nm0, by rw [upd_ne nfm]; exact k78 _ _ hf6, _, ws ++ [u], rfl, upd_same, ?_⟩
                rw [fl, List.map_append, List.map_append]
                exact ((dm6.ex k78).tx nt).append (.cons (d8.tx nt) .nil)
            · have fl : (F.take (j + 1)).filter (free p) = (F.take j).filter (free p) := by
                rw [tj, List.filter_append, List.filter_cons, if_neg (by rw [hb]; exact Bool.false_ne_true)]
                simp
              refine ⟨tx6.trans (Gw.Tx.of k7), e26.trans k7, e06.trans k7, k7 _ _ hf6, _, ws, rfl, k7 _ _ hm6, ?_⟩
              rw [fl]
              exact dm6.ex k7
        · rintro σ' H6 ⟨tx6, e26, e06, hf6, y4, ws, rfl, hm6, dm6⟩
          rw [List.length_map, List.take_length] at dm6
          have dfx := df5.tx tx6
          dsimp only
          refine r_setL ((el_catAA (a := fo') (c := mo) (ev_var rfl) hf6 dfx (ev_var rfl) hm6 dm6 ?_).is (es := (stepP F p).map nPs) (by unfold stepP; rw [List.map_append])) fun r ws' H7 n7 k7 h7 d7 => ?_
          · have l2 := List.length_filter_le (free p) F
            rw [List.length_map, List.length_map, List.length_map]
            omega
          · refine ⟨e26.trans k7, r, _, _, _, ws', rfl, fresh_back e06 n7, h7, ?_⟩
            rw [ti, allP_snoc, hF]
            exact d7
    · rintro σ' H3 ⟨k3, fo', x2, x3, x4, vs, rfl, nf, hf, df⟩
      rw [List.length_map, List.take_length] at df
      dsimp only
      exact ⟨_, rfl, q fo' vs H3 nf ((k1.trans k2).trans k3) hf df⟩
end
end Gx
namespace Gw
open PySem L2 Evl
section
variable {K : PySem.W.Frag} {σ : L2.St} {H H' : Hp} {ta tb te to tl : TE} {ds es : List PyData} {D : Ends} {d : PyData} {l : List Nat}
/-- a for over a list that is made for it -/
theorem r_forE {g : TG} {tbd : TS} (h : EL tl σ H ds) (hz : ∀ p xs H2, H p = none → Ex H H2 → H2 p = some (.lst xs) → DnL H2 xs ds → ∃ Pv : Nat → L2.St → Hp → Prop, Pv 0 σ H2 ∧ (∀ i σ' H', Pv i σ' H' → Gw.Tx H2 H' ∧ H' p = some (.lst xs)) ∧
    (∀ i d x σ' H3, ds[i]? = some d → Pv i σ' H3 → Dn H3 x d → g x σ' H3 fun σ2 H5 => tbd { D with nx := Pv (i + 1), ct := Pv (i + 1), bk := D.nx } σ2 H5) ∧ (∀ σ' H', Pv ds.length σ' H' → D.nx σ' H')) : tFor (iList K tl) g tbd D σ H :=
  h H (Ex.refl H) _ fun p xs H2 k0 k2 hs hd => ⟨p, rfl, ⟨xs, SqL.of hs⟩, by
    obtain ⟨Pv, h0, hG, hst, hdn⟩ := hz p xs H2 k0 k2 hs hd
    refine ⟨fun i m σ' H' => m = ds.length - i ∧ i ≤ ds.length ∧ Pv i σ' H', ⟨ds.length, by simp, Nat.zero_le _, h0⟩, ?_⟩
    rintro i m σ' H' ⟨rfl, hi, pv⟩
    obtain ⟨t, e⟩ := hG i σ' H' pv
    have S' := src_list (K := K) (p := p) (xs := xs) e (hd.tx t)
    by_cases hlt : i < ds.length
    · refine .inr ⟨S'.go i H' ⟨Gw.Tx.refl _, e⟩ hlt, Pv (i + 1), fun σ2 H2 pv2 => ⟨ds.length - (i + 1), by omega, rfl, hlt, pv2⟩, fun x H3 y => ?_⟩
      obtain ⟨y1, y2⟩ := y
      have hx : ds[i]? = some ds[i] := List.getElem?_eq_getElem hlt
      obtain ⟨e3, dx⟩ := S'.yld i _ H' x H3 hx ⟨Gw.Tx.refl _, e⟩ ⟨y1, y2⟩
      subst y1
      exact hst i _ x σ' _ hx pv dx
    · have ei : i = ds.length := by omega
      subst ei
      exact .inl ⟨S'.stop H' ⟨Gw.Tx.refl _, e⟩, hdn σ' H' pv⟩⟩
theorem ed_tupleAt {a : Addr} {vs : List V} (h : Ev ta σ H (.ref a)) (hs : H a = some (.lst vs)) (hd : DnL H vs ds) : ED (tCB (rTupS K) (tCons ta tNil)) σ H (.tuple ds) := fun H1 b Q q =>
  h H1 b _ fun H2 k1 => ⟨a, vs, rfl, .inl ⟨SqL.of ((b.trans k1) _ _ hs), fun r hr => q _ _ (k1.trans (Ex.new hr)) (.tup upd_same (hd.ex ((b.trans k1).trans (Ex.new hr))))⟩⟩
theorem keys_dn {H : Hp} : ∀ {Ks : List (List Nat)} {bs : List Addr}, IsKeys H (enc Ks) bs → DnL H (bs.map V.ref) (Ks.map nT)
  | [], _, h => by cases h; exact .nil
  | l :: Ks, _, h => by
    cases h with
    | cons h1 h2 =>
      refine .cons (.tup h1 ?_) (keys_dn h2)
      rw [kk_V]
      exact dnl_nats l
/-- the tuple v stands for l -/
theorem dn_kk {v : V} (h : Dn H v (nT l)) : ∃ b, v = .ref b ∧ H b = some (.tup ((kk l).map kV)) := by
  obtain ⟨b, xs, e, h1, h2⟩ := h.tup_inv
  rw [dnl_nats_inv h2, ← kk_V] at h1
  exact ⟨b, e, h1⟩
end
end Gw
namespace Gx
open PySem L2 Evl Gw Gy
section
variable {P : Program} {w : World} {K : PySem.W.Frag} {mg : Str → Option Value} {base : Heap} {C : Addr}
/-! ### _law_servable -/
def spServ : Sp := fun vs H Q _ => ∃ (n : Nat) (E : List (Nat × Nat)) (wv : V), vs = [wv] ∧ Dn H wv (nW n E) ∧ WebOk n E ∧ n ≤ 7 ∧ E.length ≤ 21 ∧ ∀ (Di : Addr) (Ks : List (List Nat)) H', Ex H H' → H Di = none → H' Di = some (.dT (enc Ks)) → Ks.Nodup → (∀ l, l ∈ Ks ↔ Lot n E l) → Q (.ref Di) H'
theorem enc_len {Ks : List (List Nat)} : (enc Ks).length = Ks.length := by
  unfold enc
  rw [List.length_map]
theorem ok_servable (T : Txt K mg) (D : Df K mg "_law_servable" s_l_servable ["_law_web_here"]) (C__law_all_plans : C8.Cal P w K mg base 1 "_law_all_plans" (SpL pAll) []) (C__law_served : C8.Cal P w K mg base 1 "_law_served" (SpL pLServed) []) : C8.Cal P w K mg base 2 "_law_servable" spServ [] := by
  refine D.cal sc_l_servable (fun vs H Q E h => by obtain ⟨n, ed, wv, rfl, _⟩ := h; rfl) (fun f cdv A outer s0 H vs Q E hr h => ?_)
  obtain ⟨n, ed, wv, rfl, hw, W, hn, hl, q⟩ := h
  · have nd := sc_l_servable.nd
    refine ⟨_, (pss_cons (ps_set (i := 1) nd rfl (by first | exact .inl rfl | exact .inr rfl) pe_dnewT)
      (pss_cons (ps_for PassesOwn.never rfl (pi_list (C8.pe_c C__law_all_plans hr (by decide) (by rfl) (pa_cons (pv 0) pa_nil))) (pg_name (i := 2) nd rfl (by first | exact .inl rfl | exact .inr rfl)) (pss_cons (ps_set (i := 3) nd rfl (by first | exact .inl rfl | exact .inr rfl) (C8.pe_c C__law_served hr (by decide) (by rfl) (pa_cons (pv 2) pa_nil)))
      (pss_one (ps_dput (hu_of hr) (pv 1) (pe_callTy (r := rTupS K) call_tuple_of (by rfl) T.nb.tuple bt_tuple (pa_cons (pv 3) pa_nil)) pe_bl rfl))))
      (pss_cons (ps_set (i := 4) nd rfl (by first | exact .inl rfl | exact .inr rfl) (pe_callTy (call_list_dT rfl) (by rfl) T.nb.list bt_list (pa_cons (pv 1) pa_nil)))
      (pss_cons (ps_while PassesOwn.never (pt_cmpR (r := rNeD K) (op_neD (units64 hr)) (pv 4) (pe_lst pa_nil) (nomark _)) (pss_cons (ps_set (i := 5) nd rfl (by first | exact .inl rfl | exact .inr rfl) (pe_bm0 PySem.F.plainAttrs_list PySem.F.slot_list_pop PySem.F.type_list_pop mt_pop (pv 4)))
      (pss_one (ps_for PassesOwn.never rfl (pi_range1 (by rfl) T.nb.range (pa_cons (pe_callB (r := rLenS K) call_len_seq (by rfl) T.nb.len bt_len (pa_cons (pv 5) pa_nil)) pa_nil)) (pg_name (i := 6) nd rfl (by first | exact .inl rfl | exact .inr rfl)) (pss_cons (ps_set (i := 7) nd rfl (by first | exact .inl rfl | exact .inr rfl) (pe_op (r := rCatA K) op_catA (pe_slice (r := rSlA K) sl_tupA (pv 5) po_none (po_some (pv 6))) (pe_slice (r := rSlA K) sl_tupA (pv 5) (po_some (pe_op op_add (pv 6) pe_int)) po_none)))
      (pss_one (ps_if (pt_cmp (pc_dnotin (hu_of hr) (pv 7) (pv 1))) (pss_cons (ps_dput (hu_of hr) (pv 1) (pv 7) pe_bl rfl)
      (pss_one (ps_expr (pe_bm PySem.F.plainAttrs_list PySem.F.slot_list_append PySem.F.type_list_append mt_append (pv 4) (pa_cons (pv 7) pa_nil))))) pss_nil)))))))
      (pss_one (ps_ret (pv 1))))))), ?_⟩
    have hsz : (sizeLine : Nat) = 16777216 := sizeLine_eq
    have p128 : 2 ^ n ≤ 128 := Nat.le_trans (Nat.pow_le_pow_right (by decide) hn) (by decide)
    have ne := web_ne W
    refine r_seq fun Di nDi => ?_
    have k1 : Ex H (upd H Di (.dT [])) := Ex.new nDi
    have hDi1 : (upd H Di (.dT [])) Di = some (.dT (enc [])) := upd_same
    generalize upd H Di (.dT []) = H1 at k1 hDi1 ⊢
    have e0 : ED (tVar 0) [some wv, some (.ref Di), none, none, none, none, none, none] H1 (nW n ed) := ed_var rfl (hw.ex k1)
    -- every plan's lot
    refine r_seq (r_forE (el_call (eda_cons e0 eda_nil) ⟨n, ed, W, hl, rfl, rfl⟩) fun p xs H2 np k2 hp dp => ?_)
    have hDi2 := k2 _ _ hDi1
    have npD : p ≠ Di := fun e => by rw [e, hDi1] at np; cases np
    refine ⟨fun i σ' H' => Gw.Tx H2 H' ∧ Ex H H' ∧ H' p = some (.lst xs) ∧ (∃ x2 x3, σ' = [some wv, some (.ref Di), x2, x3, none, none, none, none]) ∧ ∃ Ks, H' Di = some (.dT (enc Ks)) ∧ Ks.Nodup ∧ (∀ l ∈ Ks, Lot n ed l) ∧ ∀ P' ∈ (allP ed).take i, srt (Gv.flat P') ∈ Ks,
      ⟨Gw.Tx.refl _, k1.trans k2, hp, ⟨none, none, rfl⟩, [], hDi2, List.nodup_nil, fun l hl => (nomatch hl), fun P' hP' => by simp at hP'⟩, fun i σ' H' z => ⟨z.1, z.2.2.1⟩, ?_, ?_⟩
    · rintro i d x σ' H3 hd ⟨tx3, ex3, hp3, ⟨x2, x3, rfl⟩, Ks, hDi3, hnd, hlot, hall⟩ dx
      rw [List.getElem?_map] at hd
      cases hi : (allP ed)[i]? with
      | none => rw [hi] at hd; cases hd
      | some P' =>
        rw [hi] at hd
        cases hd
        refine g_name _ ?_
        have hmem := List.mem_of_getElem? hi
        have hPl := (allP_ok ed ne P' hmem).1
        have ti : (allP ed).take (i + 1) = (allP ed).take i ++ [P'] := by rw [List.take_add_one, hi] <;> rfl
        have e2 : ED (tVar 2) [some wv, some (.ref Di), some x, x3, none, none, none, none] H3 (nPs P') := ed_var rfl dx
        refine r_seqL (el_call (eda_cons e2 eda_nil) ⟨P', by omega, rfl, rfl⟩) fun mo ms H4 n4 k4 h4 d4 => ?_
        have e3 := ed_tupleAt (K := K) (ta := tVar 3) (σ := [some wv, some (.ref Di), some x, some (.ref mo), none, none, none, none]) (a := mo) (ev_var rfl) h4 d4
        dsimp only
        refine ⟨_, rfl, e3.now fun y H5 k5 d5 => ?_⟩
        obtain ⟨b, rfl, hb⟩ := dn_kk d5
        have k45 := k4.trans k5
        have hDi5 := k45 _ _ hDi3
        have hKl := lots_len hnd fun l hl => ⟨(hlot l hl).inc, (hlot l hl).lt⟩
        refine ⟨Di, _, rfl, DPut.t hDi5 hb (by rw [enc_len]; omega), ?_⟩
        rw [putK_enc]
        have nt : Gw.Tx H5 (upd H5 Di (.dT (enc (if srt (Gv.flat P') ∈ Ks then Ks else Ks ++ [srt (Gv.flat P')])))) := Gw.Tx.mut hDi5 fun _ q => nomatch q
        have hK2 : (if srt (Gv.flat P') ∈ Ks then Ks else Ks ++ [srt (Gv.flat P')]).Nodup ∧ (∀ l ∈ (if srt (Gv.flat P') ∈ Ks then Ks else Ks ++ [srt (Gv.flat P')]), Lot n ed l) ∧ ∀ P'' ∈ (allP ed).take (i + 1), srt (Gv.flat P'') ∈ (if srt (Gv.flat P') ∈ Ks then Ks else Ks ++ [srt (Gv.flat P')]) := by
          by_cases c : srt (Gv.flat P') ∈ Ks
          · rw [if_pos c]
            refine ⟨hnd, hlot, fun P'' hP'' => ?_⟩
            rw [ti] at hP''
            rcases List.mem_append.mp hP'' with h | h
            · exact hall P'' h
            · have : P'' = P' := by simpa using h
              rw [this]; exact c
          · rw [if_neg c]
            refine ⟨?_, fun l hl => ?_, fun P'' hP'' => ?_⟩
            · rw [List.nodup_append]
              exact ⟨hnd, by simp, fun x hx y hy e => by
                have : y = srt (Gv.flat P') := by simpa using hy
                subst e
                exact c (this ▸ hx)⟩
            · rcases List.mem_append.mp hl with h | h
              · exact hlot l h
              · have : l = srt (Gv.flat P') := by simpa using h
                rw [this]
                exact plan_lot W hmem
            · rw [ti] at hP''
              rcases List.mem_append.mp hP'' with h | h
              · exact List.mem_append_left _ (hall P'' h)
              · have : P'' = P' := by simpa using h
                rw [this]
                exact List.mem_append_right _ (by simp)
        obtain ⟨q1, q2, q3⟩ := hK2
        exact ⟨tx3.trans ((Gw.Tx.of k45).trans nt), (ex3.trans k45).mut nDi, by rw [upd_ne npD]; exact k45 _ _ hp3, ⟨_, _, rfl⟩, _, upd_same, q1, q2, q3⟩
    · rintro σ' H3 ⟨tx3, ex3, hp3, ⟨x2, x3, rfl⟩, Ks, hDi3, hnd, hlot, hall⟩
      rw [List.length_map, List.take_length] at hall
      clear hp3 tx3 hDi2 hp dp
      -- left
      dsimp only
      refine r_seq ⟨_, rfl, Di, enc Ks, rfl, .inl hDi3, fun le bs nle hk => ?_⟩
      have k4 : Ex H3 (upd H3 le (.lst (bs.map V.ref))) := Ex.new nle
      have fle : H le = none := fresh_back ex3 nle
      have nlD : le ≠ Di := fun e => by rw [e, hDi3] at nle; cases nle
      have hDi4 := k4 _ _ hDi3
      have dle := (keys_dn hk).ex k4
      have hle4 : (upd H3 le (.lst (bs.map V.ref))) le = some (.lst (bs.map V.ref)) := upd_same
      have ex4 := ex3.trans k4
      generalize upd H3 le (.lst (bs.map V.ref)) = H4 at hDi4 dle hle4 ex4 ⊢
      generalize bs.map V.ref = vs0 at dle hle4
      clear hk nle k4 hDi3 ex3
      let I : List (List Nat) → List (List Nat) → Hp → Prop := fun Ks Ls H' => Ex H H' ∧ H' Di = some (.dT (enc Ks)) ∧ Ks.Nodup ∧ (∀ l ∈ Ks, Lot n ed l) ∧ (∀ P' ∈ allP ed, srt (Gv.flat P') ∈ Ks) ∧ (∃ vs, H' le = some (.lst vs) ∧ DnL H' vs (Ls.map nT)) ∧ ∀ l ∈ Ls, l ∈ Ks
      have Iex : ∀ {Ks Ls H1 H2}, I Ks Ls H1 → Ex H1 H2 → I Ks Ls H2 := fun {Ks Ls H1 H2} h e => by
        obtain ⟨a, b, c, d, f, ⟨vs, h1, h2⟩, g⟩ := h
        exact ⟨a.trans e, e _ _ b, c, d, f, ⟨vs, e _ _ h1, h2.ex e⟩, g⟩
      have hm0 : 2 * (2 ^ n - Ks.length) + Ks.length ≤ 400 := by
        have := lots_len hnd fun l hl => ⟨(hlot l hl).inc, (hlot l hl).lt⟩
        omega
      refine r_seq (r_while (fun m σ' H' => (∃ x5 x6 x7, σ' = [some wv, some (.ref Di), x2, x3, some (.ref le), x5, x6, x7]) ∧ ∃ Ks Ls, I Ks Ls H' ∧ (∀ l ∈ Ks, l ∉ Ls → ∀ i, i < l.length → l.eraseIdx i ∈ Ks) ∧ m = 2 * (2 ^ n - Ks.length) + Ls.length ∧ m ≤ 400) (m0 := 2 * (2 ^ n - Ks.length) + Ks.length)
        ⟨⟨_, _, _, rfl⟩, Ks, Ks, ⟨ex4, hDi4, hnd, hlot, hall, ⟨vs0, hle4, dle⟩, fun l h => h⟩, fun l h1 h2 => absurd h1 h2, rfl, hm0⟩ ?_)
      clear hDi4 hnd hlot hall hle4 dle ex4
      rintro m σ' H5 ⟨⟨x5, x6, x7, rfl⟩, Ks, Ls, hI, hcl, rfl, hm4⟩
      obtain ⟨vs5, hle5, dle5⟩ := hI.2.2.2.2.2.1
      refine ⟨!decide (Ls = []), et_ed (ed_neNilT (a := le) (ev_var rfl) hle5 dle5), fun hb H6 k6 => ?_, fun hb H6 k6 => ?_⟩
      · have hne : Ls ≠ [] := by simpa using hb
        have hpos : 0 < Ls.length := List.length_pos_iff.mpr hne
        obtain ⟨Ls', lot, rfl⟩ : ∃ Ls' lot, Ls = Ls' ++ [lot] := by
          rcases List.eq_nil_or_concat Ls with e | ⟨a, b, e⟩
          · exact absurd e hne
          · exact ⟨a, b, by rw [e, List.concat_eq_append]⟩
        have hI6 := Iex hI k6
        have hle6 := k6 _ _ hle5
        have dle6 := dle5.ex k6
        -- lot = left.pop()
        have hvl := dle6.length
        rw [List.length_map, List.length_append, List.length_singleton] at hvl
        obtain ⟨y, hy1, hy2⟩ := dle6.get (i := Ls'.length) (d := nT lot) (by rw [List.getElem?_map, List.getElem?_append_right (Nat.le_refl _)]; simp)
        dsimp only
        refine r_seq ⟨_, rfl, .inl ⟨rfl, _, SqL.of hle6⟩, le, vs5, y, rfl, rfl, hle6, by rw [hvl, Nat.add_sub_cancel]; exact hy1, ?_⟩
        have dl7 : DnL H6 vs5.dropLast (Ls'.map nT) := by
          have := dle6.take Ls'.length
          rw [← List.map_take, List.take_left] at this
          rw [List.dropLast_eq_take, hvl, Nat.add_sub_cancel]
          exact this
        have nt7 : Gw.Tx H6 (upd H6 le (.lst vs5.dropLast)) := Gw.Tx.mut hle6 fun _ q => nomatch q
        obtain ⟨a6, b6, c6, d6, f6, _, g6⟩ := hI6
        have hlotK : lot ∈ Ks := g6 lot (by simp)
        have hLot := d6 lot hlotK
        have hI7 : I Ks Ls' (upd H6 le (.lst vs5.dropLast)) := ⟨a6.mut fle, by rw [upd_ne nlD.symm]; exact b6, c6, d6, f6, ⟨_, upd_same, dl7.tx nt7⟩, fun l hl => g6 l (List.mem_append_left _ hl)⟩
        have dy7 := hy2.tx nt7
        generalize upd H6 le (.lst vs5.dropLast) = H7 at hI7 dy7 ⊢
        have hcl7 : ∀ l ∈ Ks, l ∉ Ls' → l ≠ lot → ∀ i, i < l.length → l.eraseIdx i ∈ Ks := fun l h1 h2 h3 => hcl l h1 fun z => by
          rcases List.mem_append.mp z with z | z
          · exact h2 z
          · exact h3 (by simpa using z)
        have hm1 : 2 * (2 ^ n - Ks.length) + (Ls' ++ [lot]).length = 2 * (2 ^ n - Ks.length) + Ls'.length + 1 := by rw [List.length_append, List.length_singleton]; omega
        rw [hm1] at hm4 ⊢
        generalize hM : 2 * (2 ^ n - Ks.length) + Ls'.length = M at hm4 ⊢
        have e5 : ED (tVar 5) [some wv, some (.ref Di), x2, x3, some (.ref le), some y, x6, x7] H7 (nT lot) := ed_var rfl dy7
        have hll : lot.length ≤ n := lt_len (inc_nodup hLot.inc) hLot.lt
        refine r_forT (et_range1 (ed_lenN e5) (by omega)) fun H8 k8 => ⟨fun j σ' H' => (∃ x6 x7, σ' = [some wv, some (.ref Di), x2, x3, some (.ref le), some y, x6, x7]) ∧ Gw.Tx H8 H' ∧ ∃ Ks Ls, I Ks Ls H' ∧ lot ∈ Ks ∧ (∀ l ∈ Ks, l ∉ Ls → l ≠ lot → ∀ i, i < l.length → l.eraseIdx i ∈ Ks) ∧ (∀ i, i < j → lot.eraseIdx i ∈ Ks) ∧ 2 * (2 ^ n - Ks.length) + Ls.length ≤ M,
          ⟨⟨_, _, rfl⟩, Gw.Tx.refl _, Ks, Ls', Iex hI7 k8, hlotK, hcl7, fun i hi => by omega, by omega⟩, fun j σ' H' z => z.2.1, ?_, ?_⟩
        · clear hI7 hcl7 hlotK hM hcl d6 hLot c6 b6 a6 f6 g6 hI
          rintro j d x σ' H9 H10 hd ⟨⟨z6, z7, rfl⟩, tx9, Ks, Ls, hI9, hlotK, hcl9, hdone, hM9⟩ k10 dx
          have hj : j < lot.length := by
            have := (List.getElem?_eq_some_iff.mp hd).1
            rwa [List.length_map, List.length_range] at this
          rw [rg_get hj] at hd
          cases hd
          refine g_name _ ?_
          rw [dx.int_inv]
          have tx10 := tx9.trans (Gw.Tx.of k10)
          have u5 : ED (tVar 5) [some wv, some (.ref Di), x2, x3, some (.ref le), some y, some (.int ((j : Nat) : Int)), z7] H10 (nT lot) := ed_var rfl ((dy7.ex k8).tx tx10)
          have u6 : ED (tVar 6) [some wv, some (.ref Di), x2, x3, some (.ref le), some y, some (.int ((j : Nat) : Int)), z7] H10 (nI j) := ed_var rfl (.int _)
          have c1 := ed_slT (K := K) u5 Evl.eo_none (eo_int u6)
          rw [cutD_to] at c1
          have c2 := ed_slT (K := K) u5 (eo_int ((ed_add u6 (ed_int (i := 1))).is (e := nI (j + 1)) rfl)) Evl.eo_none
          rw [cutD_from] at c2
          have c3 : ED _ _ _ (nT (lot.eraseIdx j)) := (ed_catT (K := K) c1 c2 (by rw [List.length_take, List.length_drop, List.length_map]; omega)).is (by
            show PyData.tuple _ = PyData.tuple _
            rw [← List.map_take, ← List.map_drop, ← List.map_append, List.eraseIdx_eq_take_drop_succ])
          refine r_seqD c3 fun v11 H11 k11 d11 => ?_
          have hI11 := Iex (Iex hI9 k10) k11
          have tx11 := tx10.trans (Gw.Tx.of k11)
          obtain ⟨b, rfl, hb⟩ := dn_kk d11
          have hLot := hI9.2.2.2.1 lot hlotK
          have hEr := hLot.er j
          refine r_if (b := !decide (lot.eraseIdx j ∈ Ks)) (fun Hx ax Qx qx => ⟨_, rfl, _, rfl, Di, _, rfl, DGet.t (ax _ _ hI11.2.1) (ax _ _ hb), ?_⟩) (fun hc H12 k12 => ?_) fun hc H12 k12 => ?_
          · rw [valV_enc]
            have : V.bl (!(if lot.eraseIdx j ∈ Ks then some (V.bl true) else none).isSome) = V.bl (!decide (lot.eraseIdx j ∈ Ks)) := by
              by_cases c : lot.eraseIdx j ∈ Ks <;> simp [c]
            rw [this]
            exact ⟨_, rfl, qx Hx (Ex.refl _)⟩
          · have hc : lot.eraseIdx j ∉ Ks := by simpa using hc
            obtain ⟨a12, b12, c12, d12, f12, ⟨vs12, h12, dv12⟩, g12⟩ := Iex hI11 k12
            have hb12 := k12 _ _ hb
            have hKnd : (Ks ++ [lot.eraseIdx j]).Nodup := by
              rw [List.nodup_append]
              exact ⟨c12, by simp, fun x hx y hy e => by
                have : y = lot.eraseIdx j := by simpa using hy
                subst e
                exact hc (this ▸ hx)⟩
            have hKlot : ∀ l ∈ Ks ++ [lot.eraseIdx j], Lot n ed l := fun l hl => by
              rcases List.mem_append.mp hl with h | h
              · exact d12 l h
              · have : l = lot.eraseIdx j := by simpa using h
                rw [this]
                exact hEr
            have hKl := lots_len hKnd fun l hl => ⟨(hKlot l hl).inc, (hKlot l hl).lt⟩
            rw [List.length_append, List.length_singleton] at hKl
            refine r_seq ⟨_, rfl, _, rfl, Di, _, rfl, DPut.t b12 hb12 (by rw [enc_len]; omega), ?_⟩
            rw [putK_enc, if_neg hc]
            have nt13 : Gw.Tx H12 (upd H12 Di (.dT (enc (Ks ++ [lot.eraseIdx j])))) := Gw.Tx.mut b12 fun _ q => nomatch q
            have h13 : (upd H12 Di (.dT (enc (Ks ++ [lot.eraseIdx j])))) le = some (.lst vs12) := by rw [upd_ne nlD]; exact h12
            have d13 : DnL (upd H12 Di (.dT (enc (Ks ++ [lot.eraseIdx j])))) vs12 (Ls.map nT) := dv12.tx nt13
            have e13 : Ex H (upd H12 Di (.dT (enc (Ks ++ [lot.eraseIdx j])))) := a12.mut nDi
            have hD13 : (upd H12 Di (.dT (enc (Ks ++ [lot.eraseIdx j])))) Di = some (.dT (enc (Ks ++ [lot.eraseIdx j]))) := upd_same
            have dr13 : Dn (upd H12 Di (.dT (enc (Ks ++ [lot.eraseIdx j])))) (.ref b) (nT (lot.eraseIdx j)) := (d11.ex k12).tx nt13
            have tx13 := tx11.trans ((Gw.Tx.of k12).trans nt13)
            generalize upd H12 Di (.dT (enc (Ks ++ [lot.eraseIdx j]))) = H13 at h13 d13 e13 hD13 dr13 tx13 ⊢
            have w7 : ED (tVar 7) [some wv, some (.ref Di), x2, x3, some (.ref le), some y, some (.int ((j : Nat) : Int)), some (.ref b)] H13 (nT (lot.eraseIdx j)) := ed_var rfl dr13
            have hLl : Ls.length ≤ M := by omega
            refine r_append' (lo := le) (ev_var rfl) w7 h13 ?_ fun v14 H14 k14 d14 => ?_
            · have := d13.length
              rw [List.length_map] at this
              omega
            · have nt15 : Gw.Tx H14 (upd H14 le (.lst (vs12 ++ [v14]))) := Gw.Tx.mut (k14 _ _ h13) fun _ q => nomatch q
              refine ⟨⟨_, _, rfl⟩, tx13.trans ((Gw.Tx.of k14).trans nt15), Ks ++ [lot.eraseIdx j], Ls ++ [lot.eraseIdx j], ⟨(e13.trans k14).mut fle, by rw [upd_ne nlD.symm]; exact k14 _ _ hD13, hKnd, hKlot, fun P' hP' => List.mem_append_left _ (f12 P' hP'), ⟨_, upd_same, ?_⟩, fun l hl => ?_⟩, List.mem_append_left _ hlotK, fun l h1 h2 h3 i hi => ?_, fun i hi => ?_, ?_⟩
              · rw [List.map_append]
                exact ((d13.ex k14).tx nt15).append (.cons (d14.tx nt15) .nil)
              · rcases List.mem_append.mp hl with h | h
                · exact List.mem_append_left _ (g12 l h)
                · exact List.mem_append_right _ h
              · have n1 : l ∉ Ls := fun z => h2 (List.mem_append_left _ z)
                rcases List.mem_append.mp h1 with h | h
                · exact List.mem_append_left _ (hcl9 l h n1 h3 i hi)
                · exact absurd (List.mem_append_right _ h) h2
              · by_cases e : i = j
                · subst e
                  exact List.mem_append_right _ (by simp)
                · exact List.mem_append_left _ (hdone i (by omega))
              · rw [List.length_append, List.length_append, List.length_singleton]
                omega
          · have hc : lot.eraseIdx j ∈ Ks := by simpa using hc
            refine ⟨⟨_, _, rfl⟩, tx11.trans (Gw.Tx.of k12), Ks, Ls, Iex hI11 k12, hlotK, hcl9, fun i hi => ?_, hM9⟩
            by_cases e : i = j
            · subst e
              exact hc
            · exact hdone i (by omega)
        · rintro σ' H9 ⟨⟨z6, z7, rfl⟩, tx9, Ks2, Ls2, hI9, hlotK9, hcl9, hdone, hM9⟩
          rw [List.length_map, List.length_range] at hdone
          refine ⟨2 * (2 ^ n - Ks2.length) + Ls2.length, by omega, ⟨_, _, _, rfl⟩, Ks2, Ls2, hI9, fun l h1 h2 i hi => ?_, rfl, by omega⟩
          by_cases e : l = lot
          · subst e
            exact hdone i hi
          · exact hcl9 l h1 h2 e i hi
      · have hne : Ls = [] := by simpa using hb
        subst hne
        obtain ⟨a6, b6, c6, d6, f6, _, g6⟩ := Iex hI k6
        dsimp only
        refine ⟨_, rfl, ?_⟩
        exact q Di Ks H6 a6 nDi b6 c6 (table W d6 f6 fun l hl i hi => hcl l hl (by simp) i hi)
/-! ### _law_kept -/
def spLKept : Sp := fun vs H Q _ => ∃ (n : Nat) (E : List (Nat × Nat)) (o : List Nat) (Ks : List (List Nat)) (Di : Addr) (ov : V), vs = [.ref Di, ov] ∧ H Di = some (.dT (enc Ks)) ∧ Dn H ov (nT o) ∧ (∀ l, l ∈ Ks ↔ Lot n E l) ∧ o.Nodup ∧ (∀ x ∈ o, x < n) ∧ o.length ≤ 30 ∧
  ∀ v H', Ex H H' → Dn H' v (nT (kep n E o)) → Q v H'
theorem gre_sub {S : List Nat → Prop} : ∀ o x, x ∈ Gv.gre S o → x ∈ o := by
  refine rev_ind (fun x hx => (nomatch hx)) fun o y ih x hx => ?_
  rw [Gv.gre_snoc] at hx
  split at hx
  · rcases List.mem_append.mp hx with h | h
    · exact List.mem_append_left _ (ih x h)
    · exact List.mem_append_right _ h
  · exact List.mem_append_left _ (ih x hx)
theorem gre_nd {S : List Nat → Prop} : ∀ o : List Nat, o.Nodup → (Gv.gre S o).Nodup := by
  refine rev_ind (fun _ => List.nodup_nil) fun o y ih h => ?_
  rw [List.nodup_append] at h
  rw [Gv.gre_snoc]
  split
  · rw [List.nodup_append]
    exact ⟨ih h.1, by simp, fun a ha b hb e => h.2.2 a (gre_sub o a ha) b hb e⟩
  · exact ih h.1
theorem ok_lkept (T : Txt K mg) (D : Df K mg "_law_kept" s_l_kept ["_law_servable_here", "_law_order_here"]) : C8.Cal P w K mg base 1 "_law_kept" spLKept [] := by
  refine D.cal sc_l_kept (fun vs H Q E h => by obtain ⟨n, ed, o, Ks, Di, ov, rfl, _⟩ := h; rfl) (fun f cdv A outer s0 H vs Q E hr h => ?_)
  obtain ⟨n, ed, o, Ks, Di, ov, rfl, hDi, ho, tab, hnd, hlt, hol, q⟩ := h
  · have nd := sc_l_kept.nd
    refine ⟨_, (pss_cons (ps_set (i := 2) nd rfl (by first | exact .inl rfl | exact .inr rfl) (pe_tup pa_nil))
      (pss_cons (ps_for PassesOwn.never rfl (pi_tup (pv 1)) (pg_name (i := 3) nd rfl (by first | exact .inl rfl | exact .inr rfl)) (pss_cons (ps_set (i := 4) nd rfl (by first | exact .inl rfl | exact .inr rfl) (pe_callTy (r := rTupS K) call_tuple_of (by rfl) T.nb.tuple bt_tuple (pa_cons (pe_callB cr_sortT1 (by rfl) T.nb.sorted bt_sorted (pa_cons (pe_op (r := rCatA K) op_catA (pv 2) (pe_tup (pa_cons (pv 3) pa_nil))) pa_nil)) pa_nil)))
      (pss_one (ps_set (i := 2) nd rfl (by first | exact .inl rfl | exact .inr rfl) (pe_ifExp (pt_cmp (pc_din (hu_of hr) (pv 4) (pv 0))) (pv 4) (pv 2))))))
      (pss_one (ps_ret (pv 2))))), ?_⟩
    refine r_seqD (d := nT []) (ed_tup (ds := []) eda_nil (by decide)) fun v2 H1 k1 d1 => ?_
    have e1 : ED (tVar 1) [some (.ref Di), some ov, some v2, none, none] H1 (nT o) := ed_var rfl (ho.ex k1)
    refine r_seq (r_for (et_tup e1).s fun H2 k2 => ⟨fun i σ' H' => Ex H2 H' ∧ ∃ v2 x3 x4, σ' = [some (.ref Di), some ov, some v2, x3, x4] ∧ Dn H' v2 (nT (srt (Gv.gre (Sv n ed) (o.take i)))), ⟨Ex.refl _, v2, none, none, rfl, by
      have : srt (Gv.gre (Sv n ed) (o.take 0)) = [] := by
        rw [List.take_zero]
        show srt [] = []
        simp [srt]
      rw [this]
      exact d1.ex k2⟩, fun i σ' H' z => z.1, ?_, ?_⟩)
    · rintro i d x σ' H3 H4 hd ⟨k3, v2, x3, x4, rfl, d3⟩ k4 dx
      rw [List.getElem?_map] at hd
      cases hi : o[i]? with
      | none => rw [hi] at hd; cases hd
      | some y =>
        rw [hi] at hd
        cases hd
        refine g_name _ ?_
        rw [dx.int_inv]
        have ti : o.take (i + 1) = o.take i ++ [y] := by rw [List.take_add_one, hi] <;> rfl
        have hil : i < o.length := (List.getElem?_eq_some_iff.mp hi).1
        have hy := hlt y (List.mem_of_getElem? hi)
        have htn : (o.take i ++ [y]).Nodup := by rw [← ti]; exact hnd.sublist (List.take_sublist _ _)
        have hyn : y ∉ o.take i := fun z => (List.nodup_append.mp htn).2.2 y z y (by simp) rfl
        have gnd := gre_nd (S := Sv n ed) (o.take i) (List.nodup_append.mp htn).1
        have gsub := gre_sub (S := Sv n ed) (o.take i)
        have glen := gre_len (S := Sv n ed) (o.take i)
        rw [List.length_take] at glen
        have hG1 : Gv.Serv n (adjE ed) (y :: Gv.gre (Sv n ed) (o.take i)) → Gv.gre (Sv n ed) (o.take (i + 1)) = Gv.gre (Sv n ed) (o.take i) ++ [y] := fun z => by rw [ti, Gv.gre_yes z]
        have hG2 : ¬ Gv.Serv n (adjE ed) (y :: Gv.gre (Sv n ed) (o.take i)) → Gv.gre (Sv n ed) (o.take (i + 1)) = Gv.gre (Sv n ed) (o.take i) := fun z => by rw [ti, Gv.gre_no z]
        generalize Gv.gre (Sv n ed) (o.take i) = g at d3 gnd gsub glen hG1 hG2
        have gyn : (g ++ [y]).Nodup := by
          rw [List.nodup_append]
          exact ⟨gnd, by simp, fun a ha b hb e => hyn (by
            have : b = y := by simpa using hb
            rw [← this, ← e]
            exact gsub a ha)⟩
        have u2 : ED (tVar 2) [some (.ref Di), some ov, some v2, some (.int ((y : Nat) : Int)), x4] H4 (nT (srt g)) := ed_var rfl (d3.ex k4)
        have u3 : ED (tVar 3) [some (.ref Di), some ov, some v2, some (.int ((y : Nat) : Int)), x4] H4 (nI y) := ed_var rfl (.int _)
        have e0 : srt (srt g ++ [y]) = srt (g ++ [y]) := by
          have : (srt g ++ [y]).Perm (g ++ [y]) := (srt_perm g).append_right [y]
          exact inc_eq (inc_srt (this.nodup_iff.mpr gyn)) (inc_srt gyn) fun x => ((srt_perm _).mem_iff.trans this.mem_iff).trans (srt_perm _).mem_iff.symm
        refine r_seqD (d := nT (srt (g ++ [y]))) ((ed_tupleL (el_sortT (l := srt g ++ [y]) ((ed_catT (K := K) u2 (ed_tup (ds := [nI y]) (eda_cons u3 eda_nil) (show 1 ≤ 100000 by decide)) (by rw [List.length_map, (srt_perm g).length_eq]; show _ + 1 ≤ _; omega)).is (by show PyData.tuple _ = PyData.tuple _; rw [List.map_append]; rfl)))).is (by rw [e0])) fun v5 H5 k5 d5 => ?_
        have w2 : ED (tVar 2) [some (.ref Di), some ov, some v2, some (.int ((y : Nat) : Int)), some v5] H5 (nT (srt g)) := ed_var rfl ((d3.ex k4).ex k5)
        have w4 : ED (tVar 4) [some (.ref Di), some ov, some v2, some (.int ((y : Nat) : Int)), some v5] H5 (nT (srt (g ++ [y]))) := ed_var rfl d5
        have kx := (((k1.trans k2).trans k3).trans k4).trans k5
        have key : srt (g ++ [y]) ∈ Ks ↔ Gv.Serv n (adjE ed) (y :: g) := by
          rw [tab]
          constructor
          · intro h
            exact h.sv.sub fun x hx => (srt_perm _).mem_iff.mpr (by
              rcases List.mem_cons.mp hx with e | e
              · rw [e]; simp
              · exact List.mem_append_left _ e)
          · intro h
            refine ⟨inc_srt gyn, fun x hx => ?_, h.sub fun x hx => ?_⟩
            · rcases List.mem_append.mp ((srt_perm _).mem_iff.mp hx) with e | e
              · exact hlt x (List.mem_of_mem_take (gsub x e))
              · have : x = y := by simpa using e
                rw [this]; exact hy
            · rcases List.mem_append.mp ((srt_perm _).mem_iff.mp hx) with e | e
              · exact List.mem_cons_of_mem _ e
              · have : x = y := by simpa using e
                rw [this]
                exact List.mem_cons_self ..
        refine r_set (d := nT (srt (Gv.gre (Sv n ed) (o.take (i + 1))))) (ed_if (b := decide (srt (g ++ [y]) ∈ Ks)) (fun Hx ax Qx qx => ?_) (fun hb => ?_) fun hb => ?_) fun v6 H6 k6 d6 => ⟨((k3.trans k4).trans k5).trans k6, v6, _, _, rfl, d6⟩
        · obtain ⟨b, rfl, hb⟩ := dn_kk d5
          refine ⟨_, rfl, _, rfl, Di, _, rfl, DGet.t ((kx.trans ax) _ _ hDi) (ax _ _ hb), ?_⟩
          rw [valV_enc]
          have : V.bl (if srt (g ++ [y]) ∈ Ks then some (V.bl true) else none).isSome = V.bl (decide (srt (g ++ [y]) ∈ Ks)) := by
            by_cases c : srt (g ++ [y]) ∈ Ks <;> simp [c]
          rw [this]
          exact ⟨_, rfl, qx Hx (Ex.refl _)⟩
        · rw [hG1 (key.mp (of_decide_eq_true hb))]
          exact w4
        · rw [hG2 (fun z => of_decide_eq_false hb (key.mpr z))]
          exact w2
    · rintro σ' H3 ⟨k3, v2, x3, x4, rfl, d3⟩
      rw [List.length_map, List.take_length] at d3
      dsimp only
      exact ⟨_, rfl, q v2 H3 ((k1.trans k2).trans k3) d3⟩
/-! ### _law_counts -/
def pCounts (ds : List PyData) (es : List PyData) : Prop := ∃ o lot, o.length ≤ 1000 ∧ ds = [nT o, nT lot] ∧ es = (begs o lot).map nI
theorem cnt_succ {o lot : List Nat} {i y : Nat} (h : o[i]? = some y) : cnt o lot (i + 1) = cnt o lot i + (if y ∈ lot then 1 else 0) := by
  unfold cnt
  have ti : o.take (i + 1) = o.take i ++ [y] := by rw [List.take_add_one, h] <;> rfl
  rw [ti, List.filter_append, List.length_append]
  by_cases c : y ∈ lot <;> simp [c]
theorem ok_counts (T : Txt K mg) (D : Df K mg "_law_counts" s_l_counts ["_law_order_here", "_law_lot"]) : C8.Cal P w K mg base 1 "_law_counts" (SpL pCounts) [] := by
  refine D.cal sc_l_counts (spl_len fun ds d h => by obtain ⟨o, lot, _, rfl, _⟩ := h; rfl) (fun f cdv A outer s0 H vs Q E hr h => ?_)
  obtain ⟨ds, es, hds, hp, q⟩ := h
  obtain ⟨o, lot, hol, rfl, rfl⟩ := hp
  obtain ⟨v, w', rfl, hv, hw⟩ := a2 hds
  · have nd := sc_l_counts.nd
    refine ⟨_, (pss_cons (ps_set (i := 2) nd rfl (by first | exact .inl rfl | exact .inr rfl) (pe_lst (pa_cons pe_int pa_nil)))
      (pss_cons (ps_for PassesOwn.never rfl (pi_tup (pv 0)) (pg_name (i := 3) nd rfl (by first | exact .inl rfl | exact .inr rfl)) (pss_one (ps_expr (pe_bm PySem.F.plainAttrs_list PySem.F.slot_list_append PySem.F.type_list_append mt_append (pv 2) (pa_cons (pe_op op_add (pe_ix (r := rIxL K) ix_list (pv 2) (pe_un un_neg pe_int) (fun _ _ => rfl)) (pe_ifExp (pt_cmpR (r := rIn K false) op_in_seq (pv 3) (pv 1) rfl) pe_int pe_int)) pa_nil)))))
      (pss_one (ps_ret (pv 2))))), ?_⟩
    refine r_seqL (ds := [nI 0]) (el_lst (eda_cons ed_int eda_nil) (show 1 ≤ 100000 by decide)) fun fo ws0 H1 n1 k1 h1 d1 => ?_
    rw [dnl_nats_inv (l := [0]) d1] at h1
    have e0 : ED (tVar 0) [some v, some w', some (.ref fo), none] H1 (nT o) := ed_var rfl (hv.ex k1)
    refine r_seq (r_forT (et_tup e0) fun H2 k2 => ⟨fun i σ' H' => Gw.Tx H2 H' ∧ Ex H H' ∧ (∃ x3, σ' = [some v, some w', some (.ref fo), x3]) ∧ H' fo = some (.lst (((List.range (i + 1)).map (cnt o lot)).map fun x : Nat => V.int (x : Int))),
      ⟨Gw.Tx.refl _, k1.trans k2, ⟨none, rfl⟩, k2 _ _ h1⟩, fun i σ' H' z => z.1, ?_, ?_⟩)
    · rintro i d x σ' H3 H4 hd ⟨tx3, ex3, ⟨x3, rfl⟩, h3⟩ k4 dx
      rw [List.getElem?_map] at hd
      cases hi : o[i]? with
      | none => rw [hi] at hd; cases hd
      | some y =>
        rw [hi] at hd
        cases hd
        refine g_name _ ?_
        rw [dx.int_inv]
        have hil : i < o.length := (List.getElem?_eq_some_iff.mp hi).1
        have u1 : ED (tVar 1) [some v, some w', some (.ref fo), some (.int ((y : Nat) : Int))] H4 (nT lot) := ed_var rfl (hw.ex (ex3.trans k4))
        have u3 : ED (tVar 3) [some v, some w', some (.ref fo), some (.int ((y : Nat) : Int))] H4 (nI y) := ed_var rfl (.int _)
        have h4 := k4 _ _ h3
        have elast : (((List.range (i + 1)).map (cnt o lot)).map nI)[(((List.range (i + 1)).map (cnt o lot)).map nI).length - 1]? = some (nI (cnt o lot i)) := by
          rw [List.length_map, List.length_map, List.length_range, Nat.add_sub_cancel, List.getElem?_map, rg_get (Nat.lt_succ_self i)]
          rfl
        have eL : ED (tOp (rIxL K) (tVar 2) (tUn (rU fun i => .int (-i)) (tC (.int 1)))) [some v, some w', some (.ref fo), some (.int ((y : Nat) : Int))] H4 (nI (cnt o lot i)) :=
          ed_ixL (a := fo) (ev_var rfl) h4 (dnl_nats _) (ed_neg ed_int) (at_last elast)
        refine r_append (d := nI (cnt o lot (i + 1))) (l := fo) (ev_var rfl) ((ed_add eL (ed_if (d := nI (if y ∈ lot then 1 else 0)) (et_ed (ed_inN u3 u1)) (fun hb => (ed_int (i := 1)).is (by rw [if_pos (of_decide_eq_true hb)]; rfl)) fun hb => (ed_int (i := 0)).is (by rw [if_neg (of_decide_eq_false hb)]; rfl))).is ?_) h4 (by rw [List.length_map, List.length_map, List.length_range]; omega) fun u H5 k5 d5 => ?_
        · rw [cnt_succ hi]
          rfl
        · rw [d5.int_inv]
          refine ⟨tx3.trans ((Gw.Tx.of (k4.trans k5)).trans (Gw.Tx.mut (k5 _ _ h4) fun _ q => nomatch q)), ((ex3.trans k4).trans k5).mut n1, ⟨_, rfl⟩, ?_⟩
          rw [upd_same, List.range_succ (n := i + 1), List.map_append, List.map_append]
          rfl
    · rintro σ' H3 ⟨tx3, ex3, ⟨x3, rfl⟩, h3⟩
      rw [List.length_map] at h3
      dsimp only
      exact ⟨_, rfl, q fo _ H3 n1 ex3 h3 (dnl_nats _)⟩
end
end Gx
/-! Plain laws: the kept lot has the greatest beginnings; it alone; the places. -/
namespace Gy
open Gx Gw
section
variable {S : List Nat → Prop}
theorem gre_pre : ∀ (b a : List Nat), ∀ x ∈ Gv.gre S a, x ∈ Gv.gre S (a ++ b) := by
  refine rev_ind (fun a x hx => by rw [List.append_nil]; exact hx) fun b y ih a x hx => ?_
  have := ih a x hx
  rw [← List.append_assoc, Gv.gre_snoc]
  split
  · exact List.mem_append_left _ this
  · exact this
/-- kept among the first ones: kept of the first ones -/
theorem gre_take : ∀ (b a : List Nat), (a ++ b).Nodup → ∀ x ∈ a, x ∈ Gv.gre S (a ++ b) → x ∈ Gv.gre S a := by
  refine rev_ind (fun a _ x _ hx => by rw [List.append_nil] at hx; exact hx) fun b y ih a nd x hxa hx => ?_
  rw [← List.append_assoc] at nd hx
  rw [List.nodup_append] at nd
  rw [Gv.gre_snoc] at hx
  refine ih a nd.1 x hxa ?_
  split at hx
  · rcases List.mem_append.mp hx with h | h
    · exact h
    · have : x = y := by simpa using h
      exact absurd this (nd.2.2 x (List.mem_append_left _ hxa) y (by simp))
  · exact hx
end
section
variable {n : Nat} {E : List (Nat × Nat)} {o l : List Nat}
theorem sv_perm {l m : List Nat} (h : Sv n E l) (k : ∀ x ∈ m, x ∈ l) : Sv n E m := h.sub k
theorem gre_sv : ∀ o : List Nat, Sv n E (Gv.gre (Sv n E) o) := by
  refine rev_ind Gv.Serv.nil fun o y ih => ?_
  by_cases c : Sv n E (y :: Gv.gre (Sv n E) o)
  · rw [Gv.gre_yes c]
    exact c.sub fun x hx => by
      rcases List.mem_append.mp hx with h | h
      · exact List.mem_cons_of_mem _ h
      · have : x = y := by simpa using h
        rw [this]
        exact List.mem_cons_self ..
  · rw [Gv.gre_no c]
    exact ih
theorem mem_kep {x : Nat} : x ∈ kep n E o ↔ x ∈ Gv.gre (Sv n E) o := (srt_perm _).mem_iff
theorem kep_lot (nd : o.Nodup) (lt : ∀ x ∈ o, x < n) : Lot n E (kep n E o) :=
  ⟨inc_srt (gre_nd o nd), fun x hx => lt x (gre_sub o x (mem_kep.mp hx)), (gre_sv o).sub fun x hx => mem_kep.mp hx⟩
theorem cnt_kep (nd : o.Nodup) (i : Nat) : cnt o (kep n E o) i = (Gv.gre (Sv n E) (o.take i)).length := by
  have e : o = o.take i ++ o.drop i := (List.take_append_drop i o).symm
  have nd1 : (o.take i).Nodup := nd.sublist (List.take_sublist _ _)
  unfold cnt
  refine Nat.le_antisymm (sub_len (nd1.sublist List.filter_sublist) fun x hx => ?_) (sub_len (gre_nd _ nd1) fun x hx => ?_)
  · obtain ⟨h1, h2⟩ := List.mem_filter.mp hx
    have h2 := mem_kep.mp (of_decide_eq_true h2)
    refine gre_take (o.drop i) (o.take i) (by rw [← e]; exact nd) x h1 ?_
    rw [← e]
    exact h2
  · refine List.mem_filter.mpr ⟨gre_sub _ x hx, decide_eq_true (mem_kep.mpr ?_)⟩
    have := gre_pre (S := Sv n E) (o.drop i) (o.take i) x hx
    rwa [← e] at this
/-- no lot has more of a beginning -/
theorem dom (W : WebOk n E) (nd : o.Nodup) (h : Lot n E l) (i : Nat) : cnt o l i ≤ cnt o (kep n E o) i := by
  rw [cnt_kep nd]
  have nd1 : (o.take i).Nodup := nd.sublist (List.take_sublist _ _)
  refine Decidable.byContradiction fun hlt => ?_
  have hlt : (Gv.gre (Sv n E) (o.take i)).length < ((o.take i).filter fun x => decide (x ∈ l)).length := by
    unfold cnt at hlt
    omega
  obtain ⟨j, hj, hn, hs⟩ := Gv.exchange (web_gr W) (gre_sv (o.take i)) (h.sv.sub (T := (o.take i).filter fun x => decide (x ∈ l)) fun x hx => of_decide_eq_true (List.mem_filter.mp hx).2) (gre_nd _ nd1) (nd1.sublist List.filter_sublist) hlt
  obtain ⟨hj1, _⟩ := List.mem_filter.mp hj
  obtain ⟨a, b, e⟩ := List.append_of_mem hj1
  have e : o.take i = (a ++ [j]) ++ b := by rw [e]; simp
  rw [e] at hn hs
  by_cases c : Sv n E (j :: Gv.gre (Sv n E) a)
  · refine hn (gre_pre b (a ++ [j]) j ?_)
    rw [Gv.gre_yes c]
    simp
  · refine c (hs.sub fun x hx => ?_)
    rcases List.mem_cons.mp hx with h | h
    · rw [h]
      exact List.mem_cons_self ..
    · refine List.mem_cons_of_mem _ ?_
      rw [List.append_assoc]
      exact gre_pre _ a x h
/-- alike in all beginnings: the same lot -/
theorem same_lot (pm : o.Perm (List.range n)) (h : Lot n E l) (e : begs o l = begs o (kep n E o)) : l = kep n E o := by
  have nd : o.Nodup := pm.nodup_iff.mpr List.nodup_range
  have lt : ∀ x ∈ o, x < n := fun x hx => List.mem_range.mp (pm.subset hx)
  have ce : ∀ i, i ≤ o.length → cnt o l i = cnt o (kep n E o) i := fun i hi => by
    have h1 : (begs o l)[i]? = some (cnt o l i) := rg_get (by omega)
    have h2 : (begs o (kep n E o))[i]? = some (cnt o (kep n E o) i) := rg_get (by omega)
    rw [e, h2] at h1
    exact (Option.some.inj h1).symm
  have key : ∀ x ∈ o, (x ∈ l ↔ x ∈ kep n E o) := fun x hx => by
    obtain ⟨i, hi, e1⟩ := List.getElem_of_mem hx
    have g : o[i]? = some x := by rw [List.getElem?_eq_getElem hi, e1]
    have c1 := ce i (by omega)
    have c2 := ce (i + 1) (by omega)
    rw [cnt_succ g, cnt_succ g, c1] at c2
    by_cases q1 : x ∈ l <;> by_cases q2 : x ∈ kep n E o <;> simp [q1, q2] at c2 ⊢
  refine inc_eq h.inc (kep_lot nd lt).inc fun x => ?_
  by_cases hx : x ∈ o
  · exact key x hx
  · have h1 : x ∉ l := fun z => hx (pm.mem_iff.mpr (List.mem_range.mpr (h.lt x z)))
    have h2 : x ∉ kep n E o := fun z => hx (gre_sub o x (mem_kep.mp z))
    exact ⟨fun z => absurd z h1, fun z => absurd z h2⟩
/-! ### places -/
def cp (p : Nat → Bool) (i : Nat) : Nat := ((List.range i).filter p).length
theorem cp_succ {p : Nat → Bool} {i : Nat} : cp p (i + 1) = cp p i + (if p i = true then 1 else 0) := by
  unfold cp
  rw [List.range_succ, List.filter_append, List.length_append]
  by_cases c : p i = true <;> simp [c]
theorem cnt_cp : ∀ i, i ≤ o.length → cnt o l i = cp (fun j => decide (o.getD j 0 ∈ l)) i := by
  intro i
  induction i with
  | zero => intro _; rfl
  | succ i ih =>
    intro hi
    have g : o[i]? = some (o.getD i 0) := by
      rw [List.getD_eq_getElem?_getD, List.getElem?_eq_getElem (by omega)]
      rfl
    rw [cnt_succ g, cp_succ, ih (by omega)]
    by_cases c : o.getD i 0 ∈ l <;> simp [c]
theorem filt_split {p : Nat → Bool} {m b : Nat} (h : b ≤ m) : ∃ r, (List.range m).filter p = (List.range b).filter p ++ r := by
  obtain ⟨k, rfl⟩ : ∃ k, m = b + k := ⟨m - b, by omega⟩
  rw [List.range_add, List.filter_append]
  exact ⟨_, rfl⟩
/-- the k-th place of the greater one is nowhere behind -/
theorem place_le {p q : Nat → Bool} {m : Nat} (h : ∀ i, i ≤ m → cp q i ≤ cp p i) {k a b : Nat} (ha : ((List.range m).filter p)[k]? = some a) (hb : ((List.range m).filter q)[k]? = some b) : a ≤ b := by
  have hbm := List.mem_filter.mp (List.mem_of_getElem? hb)
  have hbl := List.mem_range.mp hbm.1
  -- b is the (cp q b)-th
  have e1 : ((List.range m).filter q)[cp q b]? = some b := by
    obtain ⟨r, e⟩ := filt_split (p := q) (show b + 1 ≤ m by omega)
    have : (List.range (b + 1)).filter q = (List.range b).filter q ++ [b] := by
      rw [List.range_succ, List.filter_append]
      simp [hbm.2]
    rw [e, this, List.append_assoc]
    unfold cp
    rw [List.getElem?_append_right (Nat.le_refl _)]
    simp
  have hk : k = cp q b := by
    have nd : ((List.range m).filter q).Nodup := List.nodup_range.sublist List.filter_sublist
    obtain ⟨l1, g1⟩ := List.getElem?_eq_some_iff.mp hb
    obtain ⟨l2, g2⟩ := List.getElem?_eq_some_iff.mp e1
    have pw := List.pairwise_iff_getElem.mp nd
    rcases Nat.lt_trichotomy k (cp q b) with c | c | c
    · exact absurd (g1.trans g2.symm) (pw _ _ l1 l2 c)
    · exact c
    · exact absurd (g2.trans g1.symm) (pw _ _ l2 l1 c)
  have c1 := h (b + 1) (by omega)
  rw [cp_succ (p := q), if_pos hbm.2] at c1
  obtain ⟨r, e⟩ := filt_split (p := p) (show b + 1 ≤ m by omega)
  rw [e, List.getElem?_append_left (by show k < cp p (b + 1); omega)] at ha
  have := List.mem_range.mp (List.mem_filter.mp (List.mem_of_getElem? ha)).1
  omega
theorem places_le (W : WebOk n E) (nd : o.Nodup) (h : Lot n E l) {k a b : Nat} (ha : (plc o (kep n E o))[k]? = some a) (hb : (plc o l)[k]? = some b) : a ≤ b :=
  place_le (p := fun i => decide (o.getD i 0 ∈ kep n E o)) (q := fun i => decide (o.getD i 0 ∈ l)) (m := o.length) (fun i hi => by
    rw [← cnt_cp i hi, ← cnt_cp i hi]
    exact dom W nd h i) ha hb
/-! ### the greatest -/
def mx (o : List Nat) (Ls : List (List Nat)) (i : Nat) : Nat := Ls.foldl (fun m l => max m (cnt o l i)) 0
theorem mx_snoc {Ls : List (List Nat)} {l : List Nat} {i : Nat} : mx o (Ls ++ [l]) i = max (mx o Ls i) (cnt o l i) := by
  unfold mx
  rw [List.foldl_append]
  rfl
theorem mx_le {M : Nat} {i : Nat} : ∀ {Ls : List (List Nat)}, (∀ l ∈ Ls, cnt o l i ≤ M) → mx o Ls i ≤ M := by
  refine fun {Ls} => rev_ind (C := fun Ls => (∀ l ∈ Ls, cnt o l i ≤ M) → mx o Ls i ≤ M) (fun _ => Nat.zero_le _) (fun Ls l ih h => ?_) Ls
  rw [mx_snoc]
  have h1 := ih fun l hl => h l (List.mem_append_left _ hl)
  have h2 := h l (by simp)
  omega
theorem le_mx {i : Nat} : ∀ {Ls : List (List Nat)}, ∀ l ∈ Ls, cnt o l i ≤ mx o Ls i := by
  refine fun {Ls} => rev_ind (C := fun Ls => ∀ l ∈ Ls, cnt o l i ≤ mx o Ls i) (fun l hl => (nomatch hl)) (fun Ls l ih m hm => ?_) Ls
  rw [mx_snoc]
  rcases List.mem_append.mp hm with h | h
  · have := ih m h
    omega
  · have : m = l := by simpa using h
    rw [this]
    omega
theorem most_is {Ks : List (List Nat)} (W : WebOk n E) (nd : o.Nodup) (lt : ∀ x ∈ o, x < n) (tab : ∀ l, l ∈ Ks ↔ Lot n E l) (i : Nat) : mx o Ks i = cnt o (kep n E o) i :=
  Nat.le_antisymm (mx_le fun l hl => dom W nd ((tab l).mp hl) i) (le_mx _ ((tab _).mpr (kep_lot nd lt)))
theorem cnt_le {m : Nat} : cnt o l m ≤ m := by
  unfold cnt
  exact Nat.le_trans (List.length_filter_le _ _) (by rw [List.length_take]; omega)
end
end Gy
/-! The law's own def: called where no repr is under way. -/
namespace Gz
open PySem PySem.Spec PyProof.Rows L2
section
variable {P : Program} {w : World} {K : PySem.W.Frag} {mg : Str → Option Value}
/-- as FnOk, but only where guards are empty, and no exception leaves -/
structure FnG (P : Program) (w : World) (K : PySem.W.Frag) (mg : Str → Option Value) (base : Heap) (k : Nat) (f : Addr) (fd : FuncData) (ps : List Str) (sp : Sp) : Prop where
  len : ∀ vs H Q E, sp vs H Q E → vs.length = ps.length
  run : ∀ (A : Around) (outer : List Env) (s : Shared) (H : Hp) (args : Args) (us : List Value) (vs : List V) (Q : VK), A.guards = some [] → Room k A → Env0 P w K mg base A outer s H → BindsTo s fd args (ps.zip us) → Vals vs us → sp vs H Q E0 →
    codeAny (model P w) A (.call (.ref f) args) (CR CX0 outer P w H s Q E0) s
theorem fnG_of {base : Heap} {k : Nat} {f : Addr} {x qual : Str} {st : Stmt} {fd : FuncData} {N ps : List Str} {sp : Sp} (F : Fun K x qual st f fd) (S : FnScope N ps (defScope st)) (len : ∀ vs H Q E, sp vs H Q E → vs.length = ps.length)
    (body : ∀ (cdv : Value) (A : Around) (outer : List Env) (s : Shared) (H : Hp) (vs : List V) (Q : VK), A.guards = some [] → Room k (A.deeper (envOfC qual (defScope st) s.heap.objs.size f cdv)) → sp vs H Q E0 →
      ∃ t, PSs (cxOf CX0 P w K mg base N qual (defScope st) f cdv A outer s H E0).nox (defBody st) t ∧ t { nx := fun _ G => Q .non G, rt := Q } (start N vs) H) : FnG P w K mg base (k + 1) f fd ps sp := by
  obtain ⟨oc, od, kV, doc, pm, an, cdv, ct, osl, e, look, code⟩ := F.ex
  subst e
  constructor
  · exact len
  intro A outer s H args us vs Q gd room env bind rel prom
  have same : vs.length = ps.length := len vs H Q E0 prom
  have stands : K.In s.heap := env.mod.kin.keeps fun b o q => (env.bs b o q).1
  have nol : s.heap.NoLimit := env.mod.nolimit.keeps fun b o q => (env.bs b o q).1
  have kinds : ∀ z ∈ ps.zip us, (defScope st).names.lookup z.1 = some .local ∨ ((defScope st).names.lookup z.1 = some .cell ∧ ((cellsFrom (s.heap.objs.size + 1) (defScope st).names []).lookup z.1).isSome = true) := by
    rintro ⟨name, val⟩ hz
    have hp := S.par name (List.of_mem_zip hz).1
    exact hp.elim .inl fun q => .inr ⟨q, PySem.W.cellsFrom_some _ _ _ (.inl q)⟩
  refine codeAny_call_function room.depth (stands _ _ look) rfl S.co S.gen rfl (PySem.W.codeRec_of stands code) (bind _ _ _ _ (wpAny_newFunctionEnv_cells S.kind kinds ?_))
  intro env1 he s1 fresh
  subst he
  obtain ⟨t, judged, reads⟩ := body cdv A outer s H vs Q gd (room.deeper _) prom
  have judged := judged.nox
  refine ⟨nol.keeps fresh.toInCall.keep, codeAny_func (wpAny_mono (judged.run [] s1 (start N vs) H _ (inv_start S room.hd env same rel fresh) reads) ?_ fun _ _ q => q)⟩
  intro fl s2 post
  cases fl with
  | ret u =>
    obtain ⟨v, σ, G, J, r, q⟩ := post
    exact ⟨v, G, J.os, J.bare, J.base, J.hok, r, q⟩
  | next =>
    obtain ⟨σ, G, J, q⟩ := post
    exact ⟨V.non, G, J.os, J.bare, J.base, J.hok, (rfl : RelV V.non Value.none), q⟩
  | brk =>
    obtain ⟨_, _, _, q⟩ := post
    exact q.elim
  | cont =>
    obtain ⟨_, _, _, q⟩ := post
    exact q.elim
end
end Gz
namespace Gz
open PySem PySem.Spec PyProof.Rows L2
section
variable {P : Program} {w : World} {K : PySem.W.Frag} {mg mb : Str → Option Value} {k : Nat} {fa a : Addr} {fd : FuncData} {x : Str} {sp : Sp} {st : Shared} {vals : List Value} {nums : List Int}
abbrev Answer (P : Program) (w : World) (fa a : Addr) (st : Shared) : Prop := codeAny (model P w) callerA (.call (.ref fa) ⟨[.ref a], []⟩) (fun r t => r = .ok (.ret (.bool true)) ∧ OldK st.heap t.heap ∧ t.os = st.os ∧ AllBare t.gens) st
/-- from a heap H in which at most the script is told -/
theorem answer_of (KX : K.In st.heap) (gl : st.heap.Ns mainGlobals mg) (bl : st.heap.Ns builtinsNs mb) (bb : ∀ y : Str, y ≠ "__name__" → mb y = bootBuiltins y) (nol : st.heap.NoLimit) (gens : st.gens = #[])
    (script : st.heap.get? a = some { cls := .type "list", data := .seq vals.toArray }) (room : Room k callerA) (F : ∀ base : Heap, K.In base → base.Ns mainGlobals mg → FnG P w K mg base k fa fd [x] sp) (bind : ∀ (s : Shared) (u : Value), BindsTo s fd ⟨[u], []⟩ [(x, u)])
    (H : Hp) (only : Only H) (hs : sp [.ref a] H (fun v _ => v = .bl true) E0) (ok : HOk P w H st.heap) (one : ∀ b, H b ≠ none → b = a) (off : H a ≠ none → K.lookup a = none) : Answer P w fa a st := by
  have hide : ∀ {b : Addr} {o : Obj}, st.heap.get? b = some o → H b = none → (hidT st.heap H).get? b = some o := fun q n => hidT_get q n
  have free : ∀ {b : Addr} {o : Obj} {es : Array DictEntry} {ep : Nat}, st.heap.get? b = some o → o.data = .dict es ep → H b = none := by
    intro b o es ep q d
    cases told : H b with
    | none => rfl
    | some u =>
      have same : b = a := one b (by rw [told]; exact fun z => nomatch z)
      rw [same, script] at q
      cases q
      exact absurd (show Data.seq vals.toArray _ = Data.dict es ep from d) (fun z => nomatch z)
  have nsOf : ∀ {b : Addr} {m : Str → Option Value}, st.heap.Ns b m → (hidT st.heap H).Ns b m := by
    rintro b m ⟨o, es, ep, q, d, r⟩
    exact ⟨o, es, ep, hide q (free q d), d, r⟩
  have KB : K.In (hidT st.heap H) := by
    intro b o q
    refine hide (KX b o q) ?_
    cases told : H b with
    | none => rfl
    | some u =>
      have same : b = a := one b (by rw [told]; exact fun z => nomatch z)
      subst same
      rw [off (by rw [told]; exact fun z => nomatch z)] at q
      cases q
  obtain ⟨mc, nol1, nol2⟩ := nol
  have md : Mod K mg (hidT st.heap H) := ⟨KB, nsOf gl, ⟨mb, nsOf bl, bb⟩, ⟨mc, nsOf nol1, nol2⟩⟩
  have env : Env0 P w K mg (hidT st.heap H) callerA [] st H := ⟨rfl, md, fun b o q => of_hidT q, Nat.le_of_eq (hidT_size _ _), trivial, fun b hb => (nomatch hb), ok, .of_eq gens⟩
  have ran := (F _ KB (nsOf gl)).run callerA [] st H ⟨[.ref a], []⟩ [.ref a] [.ref a] _ rfl room env (bind st (.ref a)) (.cons rfl .nil) hs
  refine codeAny_mono ran fun r t post => ?_
  cases r with
  | error e => exact False.elim post
  | ok fl =>
    cases fl with
    | next => exact False.elim post
    | brk => exact False.elim post
    | cont => exact False.elim post
    | ret u =>
      obtain ⟨v, G, os, bare, un, okG, rel, is⟩ := post
      obtain rfl : v = .bl true := is
      obtain rfl : u = Value.bool true := rel
      refine ⟨rfl, OldK.of_keep ?_, os, bare⟩
      intro b o q
      cases told : H b with
      | none => exact un.keep b o q told (fun z => (nomatch z)) (by simp)
      | some u =>
        rcases only b with z | ⟨ob, xs, z⟩
        · rw [told] at z
          exact absurd z (fun z => nomatch z)
        · have z2 := un.frzs b ob _ z
          have p1 := (ok b _ z).1
          have p2 := (okG b _ z2).1
          rw [q] at p1
          cases p1
          exact p2
theorem answer (KX : K.In st.heap) (gl : st.heap.Ns mainGlobals mg) (bl : st.heap.Ns builtinsNs mb) (bb : ∀ y : Str, y ≠ "__name__" → mb y = bootBuiltins y) (nol : st.heap.NoLimit) (gens : st.gens = #[])
    (script : st.heap.get? a = some { cls := .type "list", data := .seq vals.toArray }) (areInts : IntsAre vals nums) (size : nums.length ≤ sizeLine) (room : Room k callerA) (F : ∀ base : Heap, K.In base → base.Ns mainGlobals mg → FnG P w K mg base k fa fd [x] sp)
    (bind : ∀ (s : Shared) (u : Value), BindsTo s fd ⟨[u], []⟩ [(x, u)]) (hsp : ∀ H : Hp, Only H → SqL K H a (nums.map V.int) → sp [.ref a] H (fun v _ => v = .bl true) E0) : Answer P w fa a st := by
  have rv := vals_ints areInts
  have ln := areInts.length
  by_cases known : ∃ o, K.lookup a = some o
  · obtain ⟨o, look⟩ := known
    have q := KX a o look
    rw [script] at q
    cases q
    have only : Only fun _ => none := fun _ => .inl rfl
    refine answer_of KX gl bl bb nol gens script room F bind (fun _ => none) only (hsp _ only (.inr ⟨_, vals.toArray, _, look, rfl, rfl, rfl, ?_, ?_⟩)) (fun b u z => ?_) (fun b z => absurd rfl z) fun z => absurd rfl z
    · rw [List.size_toArray, ln]
      exact size
    · simpa using rv
    · exact absurd (show (none : Option HO) = some u from z) (fun z => nomatch z)
  · have look : K.lookup a = none := by
      cases q : K.lookup a with
      | none => rfl
      | some o => exact absurd ⟨o, q⟩ known
    let H0 : Hp := fun b => if b = a then some (.frz { cls := .type "list", data := .seq vals.toArray } (.lst (nums.map V.int))) else none
    have at_a : H0 a = some (.frz { cls := .type "list", data := .seq vals.toArray } (.lst (nums.map V.int))) := if_pos rfl
    have off_a : ∀ b, b ≠ a → H0 b = none := fun b n => if_neg n
    have only : Only H0 := fun b => by
      by_cases e : b = a
      · rw [e]; exact .inr ⟨_, _, at_a⟩
      · exact .inl (off_a b e)
    refine answer_of KX gl bl bb nol gens script room F bind H0 only (hsp _ only (.inl (.inr ⟨_, at_a⟩))) (fun b u z => ?_) (fun b z => ?_) fun _ => look
    · by_cases e : b = a
      · rw [e, at_a] at z
        cases z
        rw [e]
        exact ⟨script, by rw [List.length_map]; exact size, vals, _, rv, script⟩
      · rw [off_a b e] at z
        cases z
    · exact Decidable.byContradiction fun e => z (off_a b e)
end
theorem walkG {l : PySem.W.OpenLaw} {n k : Nat} {q : Program} {loose : List Str} {XP : (Str → Option Value) → Heap → Prop} {YP : World → Heap → Prop} {d : DefRec} {K : Params → PySem.W.Frag} {sp : PySem.W.Frag → Sp} {x : Str} (most : l.most = some n) (small : n ≤ sizeLine) (nodef : d.params.defaults = []) (room : Room k callerA)
    (hY : ∀ (w : World) (h : Heap), YP w h → (K w.params).In h)
    (F : ∀ (w : World) (mg : Str → Option Value) (fa : Addr) (h : Heap), (K w.params).In h → h.Ns mainGlobals mg → mg d.name = some (.ref fa) →
      ∃ fd : FuncData, (∀ (s : Shared) (u : Value), BindsTo s fd ⟨[u], []⟩ [(x, u)]) ∧ ∀ base : Heap, (K w.params).In base → base.Ns mainGlobals mg → FnG l.prog w (K w.params) mg base k fa fd [x] (sp (K w.params)))
    (hsp : ∀ (K : PySem.W.Frag) (H : Hp) (a : Addr) (ns : List Int), ns.length ≤ n → SqL K H a (ns.map V.int) → sp K [.ref a] H (fun v _ => v = .bl true) E0) :
    PySem.W.WalkO q loose XP YP l.row.toRowW d [] (fun f vs => PySem.call f vs) := by
  refine Att.attach_call most nodef fun w s0 s1 mg mb fa o pm cd doc a vs ns G Y ho hd hcd hmg hobj hints hlen hg => ?_
  have KX := hY w _ Y
  obtain ⟨fd, binds, made⟩ := F w mg fa _ KX G.T.g hmg
  exact answer KX G.T.g G.T.b G.T.builtins G.T.nolimit hg hobj hints (Nat.le_trans hlen small) room made binds fun H _ hS => hsp _ H a ns hlen hS
end Gz
namespace Gw
open PySem PySem.Spec PyProof.Rows L2 Evl
/-! ### small tuples as text -/
theorem piled_le : ∀ ns : List Int, (∀ n ∈ ns, 0 ≤ n ∧ n < 10 ^ 10) → piled (PyData.shownAll (ns.map PyData.int)) ≤ 12 * ns.length ∧ (PyData.shownAll (ns.map PyData.int)).length = ns.length
  | [], _ => by simp [PyData.shownAll, piled]
  | n :: ns, h => by
    obtain ⟨h1, h2⟩ := piled_le ns fun m hm => h m (List.mem_cons_of_mem _ hm)
    obtain ⟨a, b⟩ := h n (List.mem_cons_self ..)
    have := toString_length_le a (k := 10) (by decide) b
    simp only [List.map_cons, PyData.shownAll, PyData.shown, piled_cons, List.length_cons]
    exact ⟨by omega, by omega⟩
theorem small_shown {ns : List Int} (h : ∀ n ∈ ns, 0 ≤ n ∧ n < 10 ^ 10) (hl : ns.length ≤ 1000) : (shownT ns).length ≤ sizeLine ∧ (PyData.tuple (ns.map PyData.int)).showable = true := by
  obtain ⟨h1, h2⟩ := piled_le ns h
  refine ⟨?_, ?_⟩
  · have hsz : (sizeLine : Nat) = 16777216 := sizeLine_eq
    unfold shownT
    simp only [PyData.shown]
    unfold tupleText
    rw [strLen_append, strLen_append]
    have e1 : ("(" : Str).length = 1 := rfl
    have e2 : ((if ((PyData.shownAll (ns.map PyData.int)).length == 1) = true then ",)" else ")" : String) : Str).length ≤ 2 := by
      split
      · exact Nat.le_of_eq rfl
      · exact Nat.le_trans (Nat.le_of_eq (show ((")" : String) : Str).length = 1 from rfl)) (by decide)
    have e3 : (Str.join ", " (PyData.shownAll (ns.map PyData.int))).length ≤ 12000 := by
      by_cases c : PyData.shownAll (ns.map PyData.int) = []
      · rw [c]
        exact Nat.zero_le _
      · have := join_length_add _ c
        omega
    rw [e1]
    omega
  · have : ∀ ns : List Int, (∀ n ∈ ns, 0 ≤ n ∧ n < 10 ^ 10) → PyData.showableAll (ns.map PyData.int) = true := by
      intro ns h
      induction ns with
      | nil => simp [PyData.showableAll]
      | cons n ns ih =>
        simp only [List.map_cons, PyData.showableAll, PyData.showable, ih fun m hm => h m (List.mem_cons_of_mem _ hm), Bool.and_true, decide_eq_true_eq]
        obtain ⟨a, b⟩ := h n (List.mem_cons_self ..)
        have : n.natAbs < 2 ^ 1920 := Nat.lt_of_lt_of_le (show n.natAbs < 10 ^ 10 by omega) (Nat.le_trans (show 10 ^ 10 ≤ 2 ^ 40 by decide) (Nat.pow_le_pow_right (by decide) (by decide)))
        by_cases z : n.natAbs = 0
        · rw [z]; decide
        · exact (Nat.log2_lt z).mpr this
    simp only [PyData.showable]
    exact this ns h
/-! ### f(k = v, ..), no positional arguments -/
structure CalK (P : Program) (w : World) (K : PySem.W.Frag) (mg : Str → Option Value) (base : Heap) (k : Nat) (x : Str) (sp : Sp) (ks : List Str) (gV : List V → List V → List V) : Prop where
  ex : ∃ (f : Addr) (fd : FuncData) (ps : List Str) (g : List Value → List Value → List Value), FnOk P w K mg base CX0 k f fd ps sp ∧ mg x = some (.ref f) ∧ PySem.W.keepIn K (.ref f) = true ∧ KBinds K fd ps ks g gV
theorem pe_kw {X : Cx} {k j : Nat} {x : Str} {sp : Sp} {ks : List Str} {gV : List V → List V → List V} {p pos : Pos} {kws : List Keyword} {tk : TA} (c : CalK X.prog X.w X.K X.mg X.base k x sp ks gV) (hr : Room j X.A) (hk : k ≤ j) (hg : Gl X x) (hkw : PK X kws tk)
    (hall : (backToKw pos (keywordEach kws X.env)).all (·.1.isSome) = true := by rfl) (hks : (backToKw pos (keywordEach kws X.env)).filterMap (·.1) = ks := by rfl) (hdb : (x == ("__debug__" : Str)) = false := by decide)
    (hpl : ((backTo pos (starEach [] X.env)).any (·.1) || (backToKw pos (keywordEach kws X.env)).any (·.1.isNone)) = false := by rfl) : PE X (.Call (.Name x p) [] kws pos) (tCallK sp gV E0 tNil tk) := by
  obtain ⟨f, fd, ps, g, F, hm, kp, b⟩ := c.ex
  constructor
  intro pins s σ H Q I h
  refine wpAny_Call_Name_kw (ld_glob I hg hm (PySem.W.callWith_KW0 (h₀ := X.base) I.ok.mod.kin kp hall (thn (hkw.run pos pins s σ H _ I h) fun ws s2 ⟨zs, H2, I2, rz, q2⟩ => ⟨I2.kIn, ?_⟩) hpl) hdb)
  rw [hks]
  exact run_fnk (us := []) (vs := []) F (hr.mono hk) b pass0 I2 .nil rz q2
/-- two keywords, in the other order -/
def gSwap {α : Type} (us ws : List α) : List α := match us, ws with
  | [], [a, b] => [b, a]
  | _, _ => []
section
variable {K : PySem.W.Frag} {σ : L2.St} {H H' : Hp} {ta tb te to tl : TE} {ds es : List PyData} {D : Ends} {d : PyData} {l m : List Nat}
theorem ed_repr (h : ED ta σ H (nT l)) (hs : ∀ x ∈ l, x ≤ 1000) (hl : l.length ≤ 1000) : ED (tCB rReprT (tCons ta tNil)) σ H (.str (shownT (l.map fun n : Nat => (n : Int)))) := fun H1 a Q q =>
  h H1 a _ fun v H2 k1 k2 => by
    obtain ⟨r, xs, e1, e2, e3⟩ := k2.tup_inv
    have := dnl_nats_inv' e3
    subst this
    obtain ⟨s1, s2⟩ := small_shown (ns := l.map fun n : Nat => (n : Int)) (fun n hn => by
      obtain ⟨x, hx, e⟩ := List.mem_map.mp hn
      have := hs x hx
      omega) (by rw [List.length_map]; exact hl)
    exact ⟨r, _, by rw [e1], e2, s1, s2, q _ H2 k1 (.str _)⟩
theorem ed_neS {x y : Str} (h : ED ta σ H (.str x)) (k : ED tb σ H (.str y)) : ED (tOp rNe ta tb) σ H (.bool (!decide (x = y))) := ed_evBl ((ev_op h.ev_str k.ev_str (rv_ne rfl)).mono (Ex.refl H) |> fun z => ev_is z (by simp))
theorem cast_inj : ∀ {l m : List Nat}, (l.map fun n : Nat => (n : Int)) = m.map (fun n : Nat => (n : Int)) → l = m
  | [], [], _ => rfl
  | [], _ :: _, h => by cases h
  | _ :: _, [], h => by cases h
  | a :: l, b :: m, h => by
    rw [List.map_cons, List.map_cons] at h
    obtain ⟨h1, h2⟩ := List.cons.inj h
    have : a = b := by omega
    rw [this, cast_inj h2]
theorem eqv_natsL (l m : List Nat) : PyData.eqv (.list (l.map nI)) (.list (m.map nI)) = decide (l = m) := by
  simp only [PyData.eqv]
  rw [nI_map, nI_map]
  refine (eqv_ints _ _).trans ?_
  congr 1
  refine propext ⟨fun e => ?_, fun e => by rw [e]⟩
  exact cast_inj e
theorem eqv_natsT (l m : List Nat) : PyData.eqv (nT l) (nT m) = decide (l = m) := by
  have := eqv_natsL l m
  simp only [PyData.eqv] at this ⊢
  exact this
theorem shp_natsL (l : List Nat) : SeqAt.shaped (.list (l.map nI)) = true := by
  rw [nI_map]
  exact shp_ints _
theorem shp_natsT (l : List Nat) : SeqAt.shaped (nT l) = true := by
  have h1 := lay_ints (l.map fun n : Nat => (n : Int))
  have h2 := depth_ints (l.map fun n : Nat => (n : Int))
  rw [← nI_map] at h1 h2
  have h3 : (nT l).depth ≤ 64 := by
    simp only [nT, PyData.depth]
    omega
  have h4 : (nT l).canLay0 = true := by
    simp only [nT, PyData.canLay0]
    exact h1
  unfold SeqAt.shaped
  rw [h4, decide_eq_true h3] <;> rfl
/-- tuples of numbers, compared -/
theorem ed_neTT (h : ED ta σ H (nT l)) (k : ED tb σ H (nT m)) : ED (tOp (rNeD K) ta tb) σ H (.bool (!decide (l = m))) := fun H1 a Q q =>
  h H1 a _ fun v H2 k1 k2 => k H2 (a.trans k1) _ fun w H3 l1 l2 => by
    refine ⟨_, _, (k2.ex l1).dp, l2.dp, shp_natsT l, shp_natsT m, ?_⟩
    rw [eqv_natsT]
    exact q _ H3 (k1.trans l1) (.bl _)
/-- a new list against one that stands -/
theorem ed_neLL {b : Addr} {vs : List V} (h : EL ta σ H (l.map nI)) (k : Ev tb σ H (.ref b)) (hs : H b = some (.lst vs)) (hd : DnL H vs (m.map nI)) : ED (tOp (rNeD K) ta tb) σ H (.bool (!decide (l = m))) := fun H1 a Q q =>
  h H1 a _ fun p xs H2 k0 k1 k2 k3 => k H2 (a.trans k1) _ fun H3 l1 => by
    have e3 := (a.trans k1).trans l1
    refine ⟨_, _, .lst (SqL.of (l1 _ _ k2)) (k3.ex l1).dp, .lst (SqL.of (e3 _ _ hs)) (hd.ex e3).dp, shp_natsL l, shp_natsL m, ?_⟩
    rw [eqv_natsL]
    exact q _ H3 (k1.trans l1) (.bl _)
theorem ed_eqLL {b : Addr} {vs : List V} (h : EL ta σ H (l.map nI)) (k : Ev tb σ H (.ref b)) (hs : H b = some (.lst vs)) (hd : DnL H vs (m.map nI)) : ED (tOp (rEqD K) ta tb) σ H (.bool (decide (l = m))) := fun H1 a Q q =>
  h H1 a _ fun p xs H2 k0 k1 k2 k3 => k H2 (a.trans k1) _ fun H3 l1 => by
    have e3 := (a.trans k1).trans l1
    refine ⟨_, _, .lst (SqL.of (l1 _ _ k2)) (k3.ex l1).dp, .lst (SqL.of (e3 _ _ hs)) (hd.ex e3).dp, shp_natsL l, shp_natsL m, ?_⟩
    rw [eqv_natsL]
    exact q _ H3 (k1.trans l1) (.bl _)
/-- a new list against [] -/
theorem ed_neLN (h : EL ta σ H (l.map nI)) : ED (tOp (rNeD K) ta (tLst tNil)) σ H (.bool (!decide (l = []))) := fun H1 a Q q =>
  h H1 a _ fun p xs H2 k0 k1 k2 k3 => ⟨Nat.zero_le _, fun r hr => by
    have e3 : Ex H2 (upd H2 r (.lst [])) := Ex.new hr
    refine ⟨_, .list (([] : List Nat).map nI), .lst (SqL.of (e3 _ _ k2)) (k3.ex e3).dp, .lst (SqL.of upd_same) .nil, shp_natsL l, shp_natsL [], ?_⟩
    rw [eqv_natsL]
    exact q _ _ (k1.trans e3) (.bl _)⟩
theorem el_rep0 {n : Nat} (h : EL ta σ H [nI 0]) (k : ED tb σ H (nI n)) (hn : n ≤ 100000) : EL (tOp rRep ta tb) σ H ((List.range n).map fun _ => nI 0) := fun H1 a Q q =>
  h H1 a _ fun p vs H2 k0 k1 h1 d1 => k H2 (a.trans k1) _ fun w H3 l1 l2 => by
    have hv : vs = [V.int 0] := dnl_nats_inv (l := [0]) d1
    subst hv
    refine ⟨p, _, _, rfl, l2.int_inv, l1 _ _ h1, by omega, by omega, ?_, fun r hr => ?_⟩
    · rw [Int.toNat_natCast]
      show 1 * n ≤ sizeLine
      rw [Nat.one_mul]
      exact sz_of hn
    · refine q r _ _ (fresh_back (k1.trans l1) hr) ((k1.trans l1).trans (Ex.new hr)) upd_same ?_
      rw [Int.toNat_natCast]
      have e1 : ∀ m, (List.replicate m [V.int 0]).flatten = (List.range m).map fun _ => V.int 0 := fun m => by
        induction m with
        | zero => rfl
        | succ m ih =>
          rw [List.range_succ, List.map_append, ← ih, List.replicate_succ']
          simp
      rw [e1]
      exact Gx.dn_lV (f := fun _ => V.int 0) (g := fun _ => nI 0) fun _ => .int _
/-- a for over a dict's keys; it can't change meanwhile -/
theorem r_dict {i : Nat} {Di : Addr} {Ks : List (List Nat)} {g : TG} {tbd : TS} (hv : σ[i]? = some (some (.ref Di))) (h : H Di = some (.dT (enc Ks)))
    (step : ∀ HL : Hp, (∀ b o, b ≠ Di → H b = some o → HL b = some o) → Gw.Tx H HL → (∃ u, HL Di = some u) → ∃ Pv : Nat → L2.St → Hp → Prop, Pv 0 σ HL ∧ (∀ j σ' H', Pv j σ' H' → Ex HL H') ∧
      (∀ j l x σ' H' (D' : Ends), Ks[j]? = some l → Pv j σ' H' → Dn H' x (nT l) → D'.nx = Pv (j + 1) → g x σ' H' fun σ2 H5 => tbd D' σ2 H5) ∧
      ∀ σ' H', Pv Ks.length σ' H' → (∀ H'', (∀ b o, b ≠ Di → H' b = some o → H'' b = some o) → Gw.Tx H' H'' → Ex H H'' → D.nx σ' H'')) : tLock (tFor (iKeys (tVar i)) g tbd) D σ H := by
  refine ⟨Di, _, h, trivial, fun od => ?_⟩
  have hL : (upd H Di (.frz od (.dT (enc Ks)))) Di = some (.frz od (.dT (enc Ks))) := upd_same
  obtain ⟨Pv, p0, pe, ps, pd⟩ := step (upd H Di (.frz od (.dT (enc Ks)))) (fun b o nb e => by rw [upd_ne nb]; exact e) (Gw.Tx.mut h fun _ q => nomatch q) ⟨_, hL⟩
  refine ⟨_, hv, Di, od, rfl, .inr ⟨enc Ks, hL, ?_⟩⟩
  refine ⟨fun j m σ' H' => m = Ks.length - j ∧ j ≤ Ks.length ∧ Pv j σ' H', ⟨Ks.length, by simp, Nat.zero_le _, p0⟩, ?_⟩
  rintro j m σ' H' ⟨rfl, hj, pv⟩
  have e := pe j σ' H' pv
  have hD := e _ _ hL
  by_cases hlt : j < Ks.length
  · refine .inr ⟨⟨hD, by rw [Gx.enc_len]; exact hlt⟩, Pv (j + 1), fun σ2 H2 pv2 => ⟨Ks.length - (j + 1), by omega, rfl, hlt, pv2⟩, fun x H3 y => ?_⟩
    obtain ⟨y0, k, v, q, y1, y2, y3⟩ := y
    subst y0 y2
    have hl : Ks[j]? = some Ks[j] := List.getElem?_eq_getElem hlt
    have hk : k = kk Ks[j] := by
      unfold enc at y1
      rw [List.getElem?_map, hl] at y1
      exact (congrArg Prod.fst (Option.some.inj y1)).symm
    subst hk
    rw [kk_V] at y3
    exact ps j Ks[j] _ σ' _ _ hl pv (.tup y3 (dnl_nats _)) rfl
  · have ej : j = Ks.length := by omega
    subst ej
    refine .inl ⟨⟨hD, by rw [Gx.enc_len]; exact Nat.le_refl _⟩, hD, pd σ' H' pv _ (fun b o nb e => by rw [upd_ne nb]; exact e) (Gw.Tx.mut hD fun _ q => nomatch q) fun b o hb => ?_⟩
    by_cases eb : b = Di
    · subst eb
      rw [h] at hb
      cases hb
      exact upd_same
    · rw [upd_ne eb]
      exact e _ _ (by rw [upd_ne eb]; exact hb)
end
end Gw
namespace Gx
open PySem L2 Evl Gw Gy
section
variable {P : Program} {w : World} {K : PySem.W.Frag} {mg : Str → Option Value} {base : Heap} {C : Addr}
def spLaw (K : PySem.W.Frag) : Sp := fun vs H Q _ => ∃ (a : Addr) (ns : List Int), vs = [.ref a] ∧ SqL K H a (ns.map V.int) ∧ ∀ H', Q (.bl true) H'
theorem zip_maps {f g : Nat → Nat} : ∀ l : List Nat, (l.map f).zip (l.map g) = l.map fun i => (f i, g i)
  | [] => rfl
  | a :: l => by
    have := zip_maps (f := f) (g := g) l
    rw [List.map_cons, List.map_cons, List.zip_cons_cons, this]
    rfl
theorem zip_range {f g : Nat → Nat} (m : Nat) : ((List.range m).map f).zip ((List.range m).map g) = (List.range m).map fun i => (f i, g i) := zip_maps _
theorem ok_law {f : Addr} {fd : FuncData} (T : Txt K mg) (F : Fun K "law" "law" s_law f fd) (C__law_draw : C8.Cal P w K mg base 1 "_law_draw" (spDraw K) []) (C__law_web : C8.Cal P w K mg base 3 "_law_web" spWeb [])
    (C__law_servable : C8.Cal P w K mg base 2 "_law_servable" spServ []) (C__law_order : C8.Cal P w K mg base 3 "_law_order" spOrder []) (C__law_counts : C8.Cal P w K mg base 1 "_law_counts" (SpL pCounts) [])
    (C__law_kept : C8.Cal P w K mg base 1 "_law_kept" spLKept []) (C_beginnings : C8.Cal P w K mg base 10 "beginnings" (SpD pBegin) []) (CK_beginnings : CalK P w K mg base 10 "beginnings" (SpD pBegin) ["order", "web"] gSwap)
    (C_kept_lot : C8.Cal P w K mg base 9 "kept_lot" (SpD pKeptLot) []) (C_places : C8.Cal P w K mg base 1 "places" (SpD pPlaces) []) : Gz.FnG P w K mg base 11 f fd ["_law_script"] (spLaw K) := by
  refine Gz.fnG_of F sc_law (fun vs H Q E h => by obtain ⟨a, ns, rfl, _⟩ := h; rfl) (fun cdv A outer s0 H vs Q gd hr h => ?_)
  obtain ⟨a, ns, rfl, hs, q⟩ := h
  have hgd : (A.deeper (PyProof.Rows.envOfC "law" (defScope s_law) s0.heap.objs.size f cdv)).guards = some [] := gd
  · have nd := sc_law.nd
    refine ⟨_, (pss_cons (ps_set (i := 1) nd rfl (by first | exact .inl rfl | exact .inr rfl) (C8.pe_c C__law_draw hr (by decide) (by rfl) (pa_cons (pv 0) (pa_cons pe_int pa_nil))))
      (pss_cons (ps_for PassesOwn.never rfl (pi_range1 (by rfl) T.nb.range (pa_cons pe_int pa_nil)) (pg_name (i := 2) nd rfl (by first | exact .inl rfl | exact .inr rfl)) (pss_cons (ps_set (i := 3) nd rfl (by first | exact .inl rfl | exact .inr rfl) (C8.pe_c C__law_web hr (by decide) (by rfl) (pa_cons (pv 1) (pa_cons pe_int pa_nil))))
      (pss_cons (ps_set (i := 4) nd rfl (by first | exact .inl rfl | exact .inr rfl) (C8.pe_c C__law_servable hr (by decide) (by rfl) (pa_cons (pv 3) pa_nil)))
      (pss_one (ps_for PassesOwn.never rfl (pi_range1 (by rfl) T.nb.range (pa_cons pe_int pa_nil)) (pg_name (i := 5) nd rfl (by first | exact .inl rfl | exact .inr rfl)) (pss_cons (ps_set (i := 6) nd rfl (by first | exact .inl rfl | exact .inr rfl) (C8.pe_c C__law_order hr (by decide) (by rfl) (pa_cons (pv 1) (pa_cons (pv 3) pa_nil))))
      (pss_cons (ps_set (i := 7) nd rfl (by first | exact .inl rfl | exact .inr rfl) (pe_op op_rep (pe_lst (pa_cons pe_int pa_nil)) (pe_op op_add (pe_ix (r := rIxT K) ix_tup (pv 3) pe_int (fun _ _ => rfl)) pe_int)))
      (pss_cons (ps_lock (ps_for PassesOwn.never rfl (pi_keys (pv 4)) (pg_name (i := 8) nd rfl (by first | exact .inl rfl | exact .inr rfl)) (pss_cons (ps_set (i := 11) nd rfl (by first | exact .inl rfl | exact .inr rfl) (C8.pe_c C__law_counts hr (by decide) (by rfl) (pa_cons (pv 6) (pa_cons (pv 8) pa_nil))))
      (pss_one (ps_setLc (i := 7) (own := [("_law_one", 13), ("_law_other", 14)]) (g := (gTup _ 2 (gCons (gName 13) (gCons (gName 14) gNil)))) (tt := tYes) rfl nd rfl rfl (sw_true rfl rfl rfl (by decide +kernel)) (pi_zip (by rfl) T.nb.zip (pa_cons (pv 7) (pa_cons (pv 11) pa_nil))) (blkOk_by (own := [("_law_one", 13), ("_law_other", 14)]) (N := N_law) (sc := (defScope s_law)) (by decide +kernel)) (fun _ _ _ _ _ => (pg_tup rfl (pgs_cons (pg_name (i := 13) nd rfl (by first | exact .inl rfl | exact .inr rfl)) (pgs_cons (pg_name (i := 14) nd rfl (by first | exact .inl rfl | exact .inr rfl)) pgs_nil)))) (fun _ _ _ _ _ => pts_nil) (fun _ _ _ _ _ => (pe_callB (call_max2 rfl) (by rfl) T.nb.max bt_max (pa_cons (pv 13) (pa_cons (pv 14) pa_nil)))))))))
      (pss_cons (ps_if ((pw_or (pt_cmpR op_ne (pe_callB (cr_reprT hgd (units64 hr)) (by rfl) T.nb.repr bt_repr (pa_cons (C8.pe_c C_beginnings hr (by decide) (by rfl) (pa_cons (pv 3) (pa_cons (pv 6) pa_nil))) pa_nil)) (pe_callB (cr_reprT hgd (units64 hr)) (by rfl) T.nb.repr bt_repr (pa_cons (pe_callTy (r := rTupS K) call_tuple_of (by rfl) T.nb.tuple bt_tuple (pa_cons (pv 7) pa_nil)) pa_nil)) (nomark _)) (pw_or1 (pt_cmpR op_ne (pe_callB (cr_reprT hgd (units64 hr)) (by rfl) T.nb.repr bt_repr (pa_cons (pe_kw CK_beginnings hr (by decide) (by rfl) (pk_cons (pv 6) (pk_cons (pv 3) pk_nil))) pa_nil)) (pe_callB (cr_reprT hgd (units64 hr)) (by rfl) T.nb.repr bt_repr (pa_cons (pe_callTy (r := rTupS K) call_tuple_of (by rfl) T.nb.tuple bt_tuple (pa_cons (pv 7) pa_nil)) pa_nil)) (nomark _)))).pt) (pss_one (ps_ret pe_bl)) pss_nil)
      (pss_cons (ps_set (i := 9) nd rfl (by first | exact .inl rfl | exact .inr rfl) (C8.pe_c C_kept_lot hr (by decide) (by rfl) (pa_cons (pv 3) (pa_cons (pv 6) pa_nil))))
      (pss_cons (ps_if ((pw_or (pt_cmpR (r := rNeD K) (op_neD (units64 hr)) (C8.pe_c C__law_counts hr (by decide) (by rfl) (pa_cons (pv 6) (pa_cons (pv 9) pa_nil))) (pv 7) (nomark _)) (pw_or1 (pt_cmpR (r := rNeD K) (op_neD (units64 hr)) (pv 9) (C8.pe_c C__law_kept hr (by decide) (by rfl) (pa_cons (pv 4) (pa_cons (pv 6) pa_nil))) (nomark _)))).pt) (pss_one (ps_ret pe_bl)) pss_nil)
      (pss_cons (ps_set (i := 10) nd rfl (by first | exact .inl rfl | exact .inr rfl) (C8.pe_c C_places hr (by decide) (by rfl) (pa_cons (pv 6) (pa_cons (pv 9) pa_nil))))
      (pss_one (ps_lock (ps_for PassesOwn.never rfl (pi_keys (pv 4)) (pg_name (i := 8) nd rfl (by first | exact .inl rfl | exact .inr rfl)) (pss_cons (ps_if ((pw_and (pt_cmpR (r := rNeD K) (op_neD (units64 hr)) (pv 8) (pv 9) (nomark _)) (pw_and1 (pt_cmpR (r := rEqD K) (op_eqD (units64 hr)) (C8.pe_c C__law_counts hr (by decide) (by rfl) (pa_cons (pv 6) (pa_cons (pv 8) pa_nil))) (pv 7) (nomark _)))).pt) (pss_one (ps_ret pe_bl)) pss_nil)
      (pss_cons (ps_setLc (i := 12) (own := [("_law_at", 15)]) (g := (gName 15)) (tt := _) rfl nd rfl rfl (sw_true rfl rfl rfl (by decide +kernel)) (pi_range1 (by rfl) T.nb.range (pa_cons (pe_callB (r := rLenS K) call_len_seq (by rfl) T.nb.len bt_len (pa_cons (pv 6) pa_nil)) pa_nil)) (blkOk_by (own := [("_law_at", 15)]) (N := N_law) (sc := (defScope s_law)) (by decide +kernel)) (fun _ _ _ _ _ => (pg_name (i := 15) nd rfl (by first | exact .inl rfl | exact .inr rfl))) (fun _ _ _ _ _ => (pts_one (pt_cmpR (r := rIn K false) op_in_seq (pe_ix (r := rIxT K) ix_tup (pv 6) (pv 15) (fun _ _ => rfl)) (pv 8) rfl))) (fun _ _ _ _ _ => (pv 15)))
      (pss_one (ps_if (pt_cmpR (r := rNeD K) (op_neD (units64 hr)) (pe_lc (own := [("_law_first", 16), ("_law_second", 17)]) (g := (gTup _ 2 (gCons (gName 16) (gCons (gName 17) gNil)))) (tt := _) rfl nd (pi_zipM (by rfl) T.nb.zip (pa_cons (pv 10) (pa_cons (pv 12) pa_nil))) (blkOk_by (own := [("_law_first", 16), ("_law_second", 17)]) (N := N_law) (sc := (defScope s_law)) (by decide +kernel)) (fun _ _ _ _ _ => (pg_tup rfl (pgs_cons (pg_name (i := 16) nd rfl (by first | exact .inl rfl | exact .inr rfl)) (pgs_cons (pg_name (i := 17) nd rfl (by first | exact .inl rfl | exact .inr rfl)) pgs_nil)))) (fun _ _ _ _ _ => (pts_one (pt_cmpR op_gt (pv 16) (pv 17) (nomark _)))) (fun _ _ _ _ _ => pe_int)) (pe_lst pa_nil) (nomark _)) (pss_one (ps_ret pe_bl)) pss_nil)))))))))))))))))))
      (pss_one (ps_ret pe_bl)))), ?_⟩
    -- the deal
    refine r_seq ⟨_, rfl, a, ns, rfl, hs, fun D Cl H1 k1 nD nCl dl1 => ?_⟩
    refine r_seq (r_forT (et_range1 (n := 2) ed_int (by decide)) fun H2 k2 => ⟨fun i σ' H' => (∃ y2 y3 y4 y5 y6 y7 y8 y9 y10 y11 y12, σ' = [some (.ref a), some (.ref D), y2, y3, y4, y5, y6, y7, y8, y9, y10, y11, y12, none, none, none, none, none]) ∧ Gw.Tx H2 H' ∧ Dl H' D Cl,
      ⟨⟨_, _, _, _, _, _, _, _, _, _, _, rfl⟩, Gw.Tx.refl _, ?_⟩, fun i σ' H' z => z.2.1, ?_, ?_⟩)
    · obtain ⟨cs, b, hd⟩ := dl1
      exact ⟨cs, b, hd.ex k2⟩
    · rintro i d x σ' H2a H3 hd ⟨⟨y2, y3, y4, y5, y6, y7, y8, y9, y10, y11, y12, rfl⟩, tx2, dl2⟩ k3 dx
      have dl3 : Dl H3 D Cl := by
        obtain ⟨cs, b, hd⟩ := dl2
        exact ⟨cs, b, hd.ex k3⟩
      have tx3 := tx2.trans (Gw.Tx.of k3)
      refine g_name _ ?_
      -- the web
      refine r_seq ⟨_, rfl, D, Cl, rfl, dl3, fun wv H4 n E hn hE hEl kd4 dl4 dw => ?_⟩
      have W : WebOk n E := ⟨hE, by omega, by omega⟩
      have tx4 : Gw.Tx H2 H4 := by
        obtain ⟨cs, b, hd⟩ := dl3
        exact tx3.trans (kd4.tx hd)
      -- the table
      refine r_seq ⟨_, rfl, n, E, wv, rfl, dw, W, hn, hEl, fun Di Ks H5 k5 nDi hDi hKn tab => ?_⟩
      have nDD : Di ≠ D := fun e => by
        obtain ⟨_, _, hd⟩ := dl4
        rw [e, hd.hD] at nDi; cases nDi
      have nDC : Di ≠ Cl := fun e => by
        obtain ⟨_, _, hd⟩ := dl4
        rw [e, hd.hC] at nDi; cases nDi
      have dl5 : Dl H5 D Cl := by
        obtain ⟨cs, b, hd⟩ := dl4
        exact ⟨cs, b, hd.ex k5⟩
      have tx5 := tx4.trans (Gw.Tx.of k5)
      have dw5 := dw.ex k5
      refine r_forT (et_range1 (n := 2) ed_int (by decide)) fun H6 k6 => ⟨fun i σ' H' => (∃ y5 y6 y7 y8 y9 y10 y11 y12, σ' = [some (.ref a), some (.ref D), some x, some wv, some (.ref Di), y5, y6, y7, y8, y9, y10, y11, y12, none, none, none, none, none]) ∧ Gw.Tx H6 H' ∧ Kd D Cl H6 H' ∧ Dl H' D Cl,
        ⟨⟨_, _, _, _, _, _, _, _, rfl⟩, Gw.Tx.refl _, Kd.of (Ex.refl _), ?_⟩, fun i σ' H' z => z.2.1, ?_, ?_⟩
      · obtain ⟨cs, b, hd⟩ := dl5
        exact ⟨cs, b, hd.ex k6⟩
      · rintro i d z σ' H6a H7 hd ⟨⟨y5, y6, y7, y8, y9, y10, y11, y12, rfl⟩, tx6, kd6, dl6⟩ k7 dz
        refine g_name _ ?_
        have dl7 : Dl H7 D Cl := by
          obtain ⟨cs, b, hd⟩ := dl6
          exact ⟨cs, b, hd.ex k7⟩
        have hDi7 := k7 _ _ (kd6 Di _ nDD nDC (k6 _ _ hDi))
        have dw7 : Dn H7 wv (nW n E) := ((dw5.ex k6).tx tx6).ex k7
        -- the order
        refine r_seq ⟨_, rfl, _, rfl, D, Cl, wv, n, E, rfl, dl7, dw7, by omega, fun ov H8 o pm kd8 dl8 do8 => ?_⟩
        have tx78 : Gw.Tx H7 H8 := by
          obtain ⟨cs, b, hd⟩ := dl7
          exact kd8.tx hd
        have dw8 := dw7.tx tx78
        have hDi8 := kd8 Di _ nDD nDC hDi7
        have ho : o.Nodup := pm.nodup_iff.mpr List.nodup_range
        have hon : o.length = n := by rw [pm.length_eq, List.length_range]
        have holt : ∀ x ∈ o, x < n := fun x hx => List.mem_range.mp (pm.subset hx)
        have fin : ∀ H', Ex H8 H' → Gw.Tx H6 H' ∧ Kd D Cl H6 H' ∧ Dl H' D Cl := fun H' e => by
          obtain ⟨cs, b, hd⟩ := dl8
          exact ⟨((tx6.trans (Gw.Tx.of k7)).trans tx78).trans (Gw.Tx.of e), ((kd6.trans (Kd.of k7)).trans kd8).trans (Kd.of e), cs, b, hd.ex e⟩
        clear dl8 kd8 tx78 dw7 hDi7 dl7 k7 kd6 tx6 dl6 dw5 dl5 tx5 hDi k6 k5 tx4 dl4 dw kd4
        -- most
        have u3 : ED (tVar 3) [some (.ref a), some (.ref D), some x, some wv, some (.ref Di), some z, some ov, y7, y8, y9, y10, y11, y12, none, none, none, none, none] H8 (nW n E) := ed_var rfl dw8
        dsimp only
        refine r_seqL (el_rep0 (n := n + 1) (el_lst (ds := [nI 0]) (eda_cons ed_int eda_nil) (show 1 ≤ 100000 by decide)) ((ed_add (ed_ixT (K := K) (i := 0) (d := nI n) u3 ed_int rfl) (ed_int (i := 1))).is rfl) (by omega)) fun mo0 ws0 H9 n9 k9 h9 d9 => ?_
        have hDi9 := k9 _ _ hDi8
        have nm0 : mo0 ≠ Di := fun e => by rw [e, hDi9] at h9; cases h9
        have do9 := do8.ex k9
        have dw9 := dw8.ex k9
        refine r_seq (r_dict (i := 4) rfl hDi9 fun HL keepL txL ⟨uL, hLD⟩ => ⟨fun j σ' H' => Ex HL H' ∧ ∃ y8 y11 mo vs, σ' = [some (.ref a), some (.ref D), some x, some wv, some (.ref Di), some z, some ov, some (.ref mo), y8, y9, y10, y11, y12, none, none, none, none, none] ∧ mo ≠ Di ∧ H' mo = some (.lst vs) ∧ DnL H' vs ((List.range (n + 1)).map fun i => nI (mx o (Ks.take j) i)),
          ⟨Ex.refl _, y8, y11, mo0, ws0, rfl, nm0, keepL _ _ nm0 h9, d9.tx txL⟩, fun j σ' H' z => z.1, ?_, ?_⟩)
        · rintro j l lv σ' H10 D' hj ⟨e10, y8, y11, mo, vs, rfl, nmo, hmo, dmo⟩ dl hD'
          refine g_name _ ?_
          have v6 : ED (tVar 6) [some (.ref a), some (.ref D), some x, some wv, some (.ref Di), some z, some ov, some (.ref mo), some lv, y9, y10, y11, y12, none, none, none, none, none] H10 (nT o) := ed_var rfl ((do9.tx txL).ex e10)
          have v8 : ED (tVar 8) [some (.ref a), some (.ref D), some x, some wv, some (.ref Di), some z, some ov, some (.ref mo), some lv, y9, y10, y11, y12, none, none, none, none, none] H10 (nT l) := ed_var rfl dl
          refine r_seqL (el_call (eda_cons v6 (eda_cons v8 eda_nil)) ⟨o, l, by omega, rfl, rfl⟩) fun co cs H11 n11 k11 h11 d11 => ?_
          have tj : Ks.take (j + 1) = Ks.take j ++ [l] := by rw [List.take_add_one, hj] <;> rfl
          have eb : begs o l = (List.range (n + 1)).map (cnt o l) := by unfold begs; rw [hon]
          have em : ((List.range (n + 1)).map fun i => nI (mx o (Ks.take j) i)) = ((List.range (n + 1)).map (mx o (Ks.take j))).map nI := by rw [List.map_map]; rfl
          have zz := es_zipL (K := K) (ta := tVar 7) (tb := tVar 11) (σ := [some (.ref a), some (.ref D), some x, some wv, some (.ref Di), some z, some ov, some (.ref mo), some lv, y9, y10, some (.ref co), y12, none, none, none, none, none]) (H := H11) (a := mo) (b := co) (ev_var rfl) (ev_var rfl) (k11 _ _ hmo) (dmo.ex k11) h11 d11
          rw [em, eb, zip_nats, zip_range] at zz
          refine r_setL ((el_lcAll (enc := nP) (xs := (List.range (n + 1)).map fun i => (mx o (Ks.take j) i, cnt o l i)) (f := fun p => nI (max p.1 p.2)) zz (by rw [List.length_map, List.length_range]; omega) fun p hp y H' k dy => ?_).is (es := (List.range (n + 1)).map fun i => nI (mx o (Ks.take (j + 1)) i)) ?_) fun r ws' H12 n12 k12 h12 d12 => ?_
          · obtain ⟨v1, v2, dv1, dv2, gg⟩ := g_pair (K := K) (i := 13) (j := 14) (σ := wipe [some (.ref a), some (.ref D), some x, some wv, some (.ref Di), some z, some ov, some (.ref mo), some lv, y9, y10, some (.ref co), y12, none, none, none, none, none] [13, 14]) dy
            exact ⟨_, gg, rfl, ed_maxN (ed_var rfl dv1) (ed_var rfl dv2)⟩
          · rw [List.map_map]
            refine List.map_congr_left fun i _ => ?_
            rw [tj, mx_snoc]
            rfl
          · rw [hD']
            have e12 := (e10.trans k11).trans k12
            exact ⟨e12, _, _, r, ws', rfl, (fun e => by rw [e, (e10.trans k11) _ _ hLD] at n12; cases n12), h12, d12⟩
        · rintro σ' H10 ⟨e10, y8, y11, mo, vs, rfl, nmo, hmo, dmo⟩ H11 keep11 tx11 e11
          have hmo11 := keep11 _ _ nmo hmo
          have dmo11 := dmo.tx tx11
          rw [List.take_length] at dmo11
          have em : ((List.range (n + 1)).map fun i => nI (mx o Ks i)) = (begs o (kep n E o)).map nI := by
            unfold begs
            rw [List.map_map, hon]
            refine List.map_congr_left fun i _ => ?_
            rw [most_is W ho holt tab]
            rfl
          rw [em] at dmo11
          clear hmo dmo keep11 tx11 e10 hLD keepL txL
          have e8 := k9.trans e11
          have do11 := do8.ex e8
          have dw11 := dw8.ex e8
          have hDi11 := e8 _ _ hDi8
          have hbl : (begs o (kep n E o)).length ≤ 1000 := by unfold begs; rw [List.length_map, List.length_range]; omega
          have hbs : ∀ y ∈ begs o (kep n E o), y ≤ 1000 := fun y hy => by
            unfold begs at hy
            obtain ⟨i, hi, e⟩ := List.mem_map.mp hy
            have := List.mem_range.mp hi
            have := cnt_le (o := o) (l := kep n E o) (m := i)
            omega
          have w3 : ED (tVar 3) [some (.ref a), some (.ref D), some x, some wv, some (.ref Di), some z, some ov, some (.ref mo), y8, y9, y10, y11, y12, none, none, none, none, none] H11 (nW n E) := ed_var rfl dw11
          have w6 : ED (tVar 6) [some (.ref a), some (.ref D), some x, some wv, some (.ref Di), some z, some ov, some (.ref mo), y8, y9, y10, y11, y12, none, none, none, none, none] H11 (nT o) := ed_var rfl do11
          have w7 : ED (tCB (rTupS K) (tCons (tVar 7) tNil)) [some (.ref a), some (.ref D), some x, some wv, some (.ref Di), some z, some ov, some (.ref mo), y8, y9, y10, y11, y12, none, none, none, none, none] H11 (nT (begs o (kep n E o))) := ed_tupleAt (a := mo) (ev_var rfl) hmo11 dmo11
          have pb : pBegin [nW n E, nT o] (nT (begs o (kep n E o))) := ⟨n, E, o, rfl, W, holt, by omega, rfl⟩
          -- the two texts
          dsimp only
          refine r_seqIf (b := false) (et_is (et_or (a := false) (b := false) (et_ed ((ed_neS (ed_repr (ed_call (eda_cons w3 (eda_cons w6 eda_nil)) pb) hbs hbl) (ed_repr w7 hbs hbl)).is (congrArg PyData.bool (by simp)))) fun _ => et_ed ((ed_neS (ed_repr (l := begs o (kep n E o)) ?_ hbs hbl) (ed_repr w7 hbs hbl)).is (congrArg PyData.bool (by simp)))) rfl) (fun hb => nomatch hb) fun _ H12 k12 => ?_
          · exact fun Hx ax Qx qx => ⟨_, rfl, _, rfl, [nW n E, nT o], _, .cons (dw11.ex ax) (.cons (do11.ex ax) .nil), pb, qx⟩
          -- kept
          refine r_seqD (ed_call (eda_cons (w3.mono k12) (eda_cons (w6.mono k12) eda_nil)) ⟨n, E, o, rfl, W, holt, by omega, rfl⟩) fun kv H13 k13 dk => ?_
          have k1113 := k12.trans k13
          have hmo13 := k1113 _ _ hmo11
          have dmo13 := dmo11.ex k1113
          have hDi13 := k1113 _ _ hDi11
          have do13 := do11.ex k1113
          have z6 : ED (tVar 6) [some (.ref a), some (.ref D), some x, some wv, some (.ref Di), some z, some ov, some (.ref mo), y8, some kv, y10, y11, y12, none, none, none, none, none] H13 (nT o) := ed_var rfl do13
          have z9 : ED (tVar 9) [some (.ref a), some (.ref D), some x, some wv, some (.ref Di), some z, some ov, some (.ref mo), y8, some kv, y10, y11, y12, none, none, none, none, none] H13 (nT (kep n E o)) := ed_var rfl dk
          refine r_seqIf (b := false) (et_is (et_or (a := false) (b := false) (et_ed ((ed_neLL (b := mo) (el_call (eda_cons z6 (eda_cons z9 eda_nil)) ⟨o, kep n E o, by omega, rfl, rfl⟩) (ev_var rfl) hmo13 dmo13).is (congrArg PyData.bool (by simp)))) fun _ => et_ed ((ed_neTT (m := kep n E o) z9 ?_).is (congrArg PyData.bool (by simp)))) rfl) (fun hb => nomatch hb) fun _ H14 k14 => ?_
          · exact fun Hx ax Qx qx => ⟨_, rfl, _, rfl, n, E, o, Ks, Di, ov, rfl, ax _ _ hDi13, do13.ex ax, tab, ho, holt, by omega, fun v H' k d => qx v H' k d⟩
          -- own
          refine r_seqD (ed_call (eda_cons (z6.mono k14) (eda_cons (z9.mono k14) eda_nil)) ⟨o, kep n E o, by omega, rfl, rfl⟩) fun wn H15 k15 dn => ?_
          have k1315 := k14.trans k15
          have hmo15 := k1315 _ _ hmo13
          have dmo15 := dmo13.ex k1315
          have hDi15 := k1315 _ _ hDi13
          have do15 := do13.ex k1315
          have dk15 := dk.ex k1315
          have e15 := (e8.trans k1113).trans k1315
          have nmo15 : mo ≠ Di := nmo
          refine r_dict (i := 4) rfl hDi15 fun HL keepL txL ⟨uL, hLD⟩ => ⟨fun j σ' H' => Ex HL H' ∧ ∃ y8 y12, σ' = [some (.ref a), some (.ref D), some x, some wv, some (.ref Di), some z, some ov, some (.ref mo), y8, some kv, some wn, y11, y12, none, none, none, none, none],
            ⟨Ex.refl _, y8, y12, rfl⟩, fun j σ' H' z => z.1, ?_, ?_⟩
          · rintro j l lv σ' H16 D' hj ⟨e16, y8, y12, rfl⟩ dl hD'
            refine g_name _ ?_
            have hLot := (tab l).mp (List.mem_of_getElem? hj)
            have hmo16 := e16 _ _ (keepL _ _ nmo hmo15)
            have dmo16 := (dmo15.tx txL).ex e16
            have do16 := (do15.tx txL).ex e16
            have dk16 := (dk15.tx txL).ex e16
            have dn16 := (dn.tx txL).ex e16
            have v6 : ED (tVar 6) [some (.ref a), some (.ref D), some x, some wv, some (.ref Di), some z, some ov, some (.ref mo), some lv, some kv, some wn, y11, y12, none, none, none, none, none] H16 (nT o) := ed_var rfl do16
            have v8 : ED (tVar 8) [some (.ref a), some (.ref D), some x, some wv, some (.ref Di), some z, some ov, some (.ref mo), some lv, some kv, some wn, y11, y12, none, none, none, none, none] H16 (nT l) := ed_var rfl dl
            have v9 : ED (tVar 9) [some (.ref a), some (.ref D), some x, some wv, some (.ref Di), some z, some ov, some (.ref mo), some lv, some kv, some wn, y11, y12, none, none, none, none, none] H16 (nT (kep n E o)) := ed_var rfl dk16
            refine r_seqIf (b := false) (et_is (et_and (et_ed (ed_neTT v8 v9)) fun _ => et_ed (ed_eqLL (b := mo) (l := begs o l) (m := begs o (kep n E o)) (el_call (eda_cons v6 (eda_cons v8 eda_nil)) ⟨o, l, by omega, rfl, rfl⟩) (ev_var rfl) hmo16 dmo16)) ?_) (fun hb => nomatch hb) fun _ H17 k17 => ?_
            · by_cases c : begs o l = begs o (kep n E o)
              · have := same_lot pm hLot c
                simp [this]
              · simp [c]
            · -- here
              have do17 := do16.ex k17
              have dl17 := dl.ex k17
              have hl : EL _ [some (.ref a), some (.ref D), some x, some wv, some (.ref Di), some z, some ov, some (.ref mo), some lv, some kv, some wn, y11, y12, none, none, none, none, none] H17 ((plc o l).map nI) :=
                el_lc (te := tVar 15) (tt := tTest (tOp (rIn K false) (tOp (rIxT K) (tVar 6) (tVar 15)) (tVar 8))) (g := gName 15) (vs := [15]) (enc := nI) (xs := List.range o.length) (b := fun i => decide (o.getD i 0 ∈ l)) (f := nI) (et_range1 (ed_lenN (K := K) (v6.mono k17)) (by omega)).s (by rw [List.length_range]; omega) fun i hi y H' k dy => ⟨_, fun Q q => g_name Q q, rfl, et_ed (ed_inN (l := l) (ed_ixN (l := o) (m := i) (n := o.getD i 0) (ed_var rfl (do17.ex k)) (ed_var rfl dy) (by
                  have := List.mem_range.mp hi
                  rw [List.getD_eq_getElem?_getD, List.getElem?_eq_getElem this]
                  rfl)) (ed_var rfl (dl17.ex k))), fun _ => ed_var rfl dy⟩
              refine r_seqL hl fun he hs' H18 n18 k18 h18 d18 => ?_
              have dn18 := (dn16.ex k17).ex k18
              have v10 : ED (tVar 10) [some (.ref a), some (.ref D), some x, some wv, some (.ref Di), some z, some ov, some (.ref mo), some lv, some kv, some wn, y11, some (.ref he), none, none, none, none, none] H18 (nT (plc o (kep n E o))) := ed_var rfl dn18
              have zz := es_zipM (K := K) (ta := tVar 10) (tb := tVar 12) (b := he) v10 (ev_var rfl) h18 d18
              rw [zip_nats] at zz
              have hnil : ((plc o (kep n E o)).zip (plc o l)).filter (fun p => decide ((p.2 : Int) < (p.1 : Int))) = [] := by
                rw [List.filter_eq_nil_iff]
                intro p hp hc
                obtain ⟨i, hi⟩ := List.mem_iff_getElem?.mp hp
                rw [List.getElem?_zip_eq_some] at hi
                have := places_le W ho hLot hi.1 hi.2
                have := of_decide_eq_true hc
                omega
              have hlen : ((plc o (kep n E o)).zip (plc o l)).length < 100000 := by
                rw [List.length_zip]
                have : (plc o l).length ≤ o.length := by
                  unfold plc
                  exact Nat.le_trans (List.length_filter_le _ _) (by rw [List.length_range]; exact Nat.le_refl _)
                omega
              refine r_if (b := false) (et_ed ((ed_neLN (l := []) ((el_lc (enc := nP) (xs := (plc o (kep n E o)).zip (plc o l)) (b := fun p => decide ((p.2 : Int) < (p.1 : Int))) (f := fun _ => nI 1) zz hlen fun p hp y H' k dy => ?_).is (by rw [hnil]; rfl))).is rfl)) (fun hb => nomatch hb) fun _ H19 k19 => ?_
              · obtain ⟨v1, v2, dv1, dv2, gg⟩ := g_pair (K := K) (i := 16) (j := 17) (σ := wipe [some (.ref a), some (.ref D), some x, some wv, some (.ref Di), some z, some ov, some (.ref mo), some lv, some kv, some wn, y11, some (.ref he), none, none, none, none, none] [16, 17]) dy
                exact ⟨_, gg, rfl, et_ed (ed_gt (ed_var rfl dv1) (ed_var rfl dv2)), fun _ => ed_int⟩
              · show D'.nx _ H19
                rw [hD']
                exact ⟨((e16.trans k17).trans k18).trans k19, _, _, rfl⟩
          · rintro σ' H16 ⟨e16, y8, y12, rfl⟩ H17 keep17 tx17 e17
            exact ⟨⟨_, _, _, _, _, _, _, _, rfl⟩, fin H17 (e15.trans e17)⟩
      · rintro σ' H7 ⟨⟨y5, y6, y7, y8, y9, y10, y11, y12, rfl⟩, tx7, kd7, dl7⟩
        exact ⟨⟨_, _, _, _, _, _, _, _, _, _, _, rfl⟩, (tx5.trans (Gw.Tx.of k6)).trans tx7, dl7⟩
    · rintro σ' H3 ⟨⟨y2, y3, y4, y5, y6, y7, y8, y9, y10, y11, y12, rfl⟩, tx3, dl3⟩
      exact q H3
end
end Gx
namespace Gx
open PySem L2 Evl Gw Gy
theorem df_mk {K : PySem.W.Frag} {h : Heap} {mg : Str → Option Value} {x : Str} {st : Stmt} {ps : List Str} {f : Addr} {oc : Value} {od an : Option Addr} {osl : Array (Option Value)} {kV doc pm cdv ct : Value} (X : K.In h) (G : h.Ns mainGlobals mg)
    (a : PySem.W.nsIn K mainGlobals x = some (some (.ref f))) (l : K.lookup f = some ⟨oc, od, .func (PySem.W.fnOf x x (defArgs st) (defBody st) (defScope st) .none kV doc pm an cdv ct), osl⟩)
    (c : PySem.W.codeIn K cdv x = true) (k : PySem.W.keepIn K (.ref f) = true)
    (b : ∀ (kV doc pm : Value) (an : Option Addr) (cdv ct : Value) (us : List Value), us.length = ps.length → bindArgs (PySem.W.fnOf x x (defArgs st) (defBody st) (defScope st) .none kV doc pm an cdv ct) ⟨us, []⟩ = pure (ps.zip us)) : Df K mg x st ps :=
  ⟨f, _, fun_mk l c k, PySem.W.mg_of X G a, (fun_mk l c k).binds b⟩
theorem mf_mk {K : PySem.W.Frag} {C : Addr} {m qual : Str} {st : Stmt} {ps : List Str} {f : Addr} {oc : Value} {od an : Option Addr} {osl : Array (Option Value)} {kV doc pm cdv ct : Value}
    (a : PySem.W.findIn K (.ref C) m = some (some (.ref f))) (i : PySem.W.isFn K (.ref f) = true) (l : K.lookup f = some ⟨oc, od, .func (PySem.W.fnOf m qual (defArgs st) (defBody st) (defScope st) .none kV doc pm an cdv ct), osl⟩)
    (c : PySem.W.codeIn K cdv qual = true) (k : PySem.W.keepIn K (.ref f) = true)
    (b : ∀ (kV doc pm : Value) (an : Option Addr) (cdv ct : Value) (us : List Value), us.length = ps.length → bindArgs (PySem.W.fnOf m qual (defArgs st) (defBody st) (defScope st) .none kV doc pm an cdv ct) ⟨us, []⟩ = pure (ps.zip us)) : Mf K C m qual st ps :=
  ⟨f, _, fun_mk l c k, ⟨a, i, k⟩, (fun_mk l c k).binds b⟩
theorem sr_mk {K : PySem.W.Frag} {C : Addr} (cl : Cls K C) (a1 : PySem.W.findIn K (.ref C) "near" = some none) (a2 : PySem.W.findIn K (.ref C) "root" = some none) (a3 : PySem.W.findIn K (.ref C) "mates" = some none) (a4 : PySem.W.findIn K (.ref C) "back" = some none)
    (a5 : PySem.W.findIn K (.ref C) "base" = some none) (a6 : PySem.W.findIn K (.ref C) "even" = some none) (a7 : PySem.W.findIn K (.ref C) "left" = some none) : SrT K C := ⟨cl, a1, a2, a3, a4, a5, a6, a7⟩
/-- Search itself, by its __init__ -/
theorem in_mk {K : PySem.W.Frag} {h : Heap} {mg : Str → Option Value} {C f : Addr} {oc : Value} {od an : Option Addr} {osl : Array (Option Value)} {kV doc pm cdv ct : Value} (X : K.In h) (G : h.Ns mainGlobals mg)
    (aC : PySem.W.nsIn K mainGlobals "Search" = some (some (.ref C))) (mk : PySem.W.makesIn K C = true) (kc : PySem.W.keepIn K (.ref C) = true)
    (a : PySem.W.findIn K (.ref C) "__init__" = some (some (.ref f))) (i : PySem.W.isFn K (.ref f) = true) (l : K.lookup f = some ⟨oc, od, .func (PySem.W.fnOf "__init__" "Search.__init__" (defArgs s_S_init) (defBody s_S_init) (defScope s_S_init) .none kV doc pm an cdv ct), osl⟩)
    (c : PySem.W.codeIn K cdv "Search.__init__" = true) (k : PySem.W.keepIn K (.ref f) = true) : ∃ f fd, Fun K "__init__" "Search.__init__" s_S_init f fd ∧ Mk K C f ∧ mg "Search" = some (.ref C) ∧ Binds K fd ["self", "near", "plan", "root"] [] :=
  ⟨f, _, fun_mk l c k, ⟨mk, a, i, kc⟩, PySem.W.mg_of X G aC, (fun_mk l c k).binds fun _ _ _ _ _ _ us hl => match us, hl with | [_, _, _, _], _ => rfl⟩
theorem txt_mk {K : PySem.W.Frag} {h : Heap} {mg : Str → Option Value} {kd : Addr} {dd : Option Addr} {t1 t2 n : Nat} {sl : Array (Option Value)} (X : K.In h) (G : h.Ns mainGlobals mg) (nb : Nb mg)
    (a : PySem.W.nsIn K mainGlobals "KINDS" = some (some (.ref kd))) (l : K.lookup kd = some ⟨.type "tuple", dd, .seq #[.str "way" t1, .str "ring" t2] n, sl⟩) : Txt K mg :=
  ⟨nb, kd, PySem.W.mg_of X G a, fun H => .inr ⟨_, _, _, l, rfl, rfl, by show 2 ≤ sizeLine; decide, .cons ⟨_, rfl⟩ (.cons ⟨_, rfl⟩ .nil)⟩⟩
theorem law_mk {K : PySem.W.Frag} {h : Heap} {mg : Str → Option Value} {f : Addr} {oc : Value} {od an : Option Addr} {osl : Array (Option Value)} {kV doc pm cdv ct : Value} (X : K.In h) (G : h.Ns mainGlobals mg)
    (a : PySem.W.nsIn K mainGlobals "law" = some (some (.ref f))) (l : K.lookup f = some ⟨oc, od, .func (PySem.W.fnOf "law" "law" (defArgs s_law) (defBody s_law) (defScope s_law) .none kV doc pm an cdv ct), osl⟩)
    (c : PySem.W.codeIn K cdv "law" = true) (k : PySem.W.keepIn K (.ref f) = true) : ∃ f fd, mg "law" = some (.ref f) ∧ Fun K "law" "law" s_law f fd ∧ ∀ (s : Shared) (u : Value), BindsTo s fd ⟨[u], []⟩ [("_law_script", u)] :=
  ⟨f, _, PySem.W.mg_of X G a, fun_mk l c k, fun _ _ => .of_eq rfl⟩
section
variable {P : Program} {w : World} {K : PySem.W.Frag} {mg : Str → Option Value} {base : Heap} {C : Addr}
theorem ck_of (c : CalD P w K mg base 10 "beginnings" s_beginnings ["web", "order"] (SpD pBegin)) : CalK P w K mg base 10 "beginnings" (SpD pBegin) ["order", "web"] gSwap := by
  obtain ⟨f, fd, F, h, m, b⟩ := c.ex
  refine ⟨f, fd, ["web", "order"], gSwap, h, m, F.kp, ?_, ?_⟩
  · obtain ⟨oc, od, kV, doc, pm, an, cdv, ct, osl, e, _, _⟩ := F.ex
    subst e
    intro s us ws _ hl
    match us, ws, hl with
    | [], [a, b], _ => exact BindsTo.of_eq rfl
    | [], [], h => simp [gSwap] at h
    | [], [_], h => simp [gSwap] at h
    | [], _ :: _ :: _ :: _, h => simp [gSwap] at h
    | _ :: _, _, h => simp [gSwap] at h
  · intro vs us zs ws r1 r2
    cases r1 with
    | cons _ _ => exact .nil
    | nil =>
      cases r2 with
      | nil => exact .nil
      | cons a r2 =>
        cases r2 with
        | nil => exact .nil
        | cons b r2 =>
          cases r2 with
          | nil => exact .cons b (.cons a .nil)
          | cons _ _ => exact .nil
structure All (K : PySem.W.Frag) (mg : Str → Option Value) (C : Addr) : Prop where
  T : Txt K mg
  R : SrT K C
  S : ∃ f fd, Fun K "__init__" "Search.__init__" s_S_init f fd ∧ Mk K C f ∧ mg "Search" = some (.ref C) ∧ Binds K fd ["self", "near", "plan", "root"] []
  m1 : Mf K C "run" "Search.run" s_S_run ["self", "is_growing"]
  m2 : Mf K C "meeting" "Search.meeting" s_S_meeting ["self", "one", "other"]
  m3 : Mf K C "shrink" "Search.shrink" s_S_shrink ["self", "one", "other"]
  m4 : Mf K C "way" "Search.way" s_S_way ["self", "person"]
  m5 : Mf K C "reached" "Search.reached" s_S_reached ["self"]
  d1 : Df K mg "is_integer" s_is_integer ["value"]
  d2 : Df K mg "is_number" s_is_number ["value"]
  d3 : Df K mg "is_index" s_is_index ["value", "many"]
  d4 : Df K mg "is_row_of" s_is_row_of ["value", "sizes"]
  d5 : Df K mg "is_word_of" s_is_word_of ["value", "words"]
  d6 : Df K mg "served" s_served ["plan"]
  d7 : Df K mg "partner" s_partner ["plan", "person"]
  d8 : Df K mg "steps_of" s_steps_of ["turn"]
  d9 : Df K mg "are_people" s_are_people ["web", "value", "least"]
  d10 : Df K mg "is_turn" s_is_turn ["web", "plan", "value"]
  d11 : Df K mg "turned" s_turned ["web", "plan", "turn"]
  d12 : Df K mg "neighbours" s_neighbours ["web", "person"]
  d13 : Df K mg "near_of" s_near_of ["web"]
  d14 : Df K mg "told_search" s_told_search ["near", "plan", "person"]
  d15 : Df K mg "served_more" s_served_more ["web", "near", "plan", "lot", "person"]
  d16 : Df K mg "kept_of" s_kept_of ["web", "lot"]
  d17 : Df K mg "kept_lot" s_kept_lot ["web", "order"]
  d18 : Df K mg "places" s_places ["order", "lot"]
  d19 : Df K mg "beginnings" s_beginnings ["web", "order"]
  d20 : Df K mg "_law_draw" s_l_draw ["_law_script", "_law_salt"]
  d21 : Df K mg "_law_any" s_l_any ["_law_deal", "_law_bound"]
  d22 : Df K mg "_law_mixed" s_l_mixed ["_law_deal", "_law_some"]
  d23 : Df K mg "_law_web" s_l_web ["_law_deal", "_law_most"]
  d24 : Df K mg "_law_served" s_l_served ["_law_plan"]
  d25 : Df K mg "_law_all_plans" s_l_all_plans ["_law_web_here"]
  d26 : Df K mg "_law_servable" s_l_servable ["_law_web_here"]
  d27 : Df K mg "_law_kept" s_l_kept ["_law_servable_here", "_law_order_here"]
  d28 : Df K mg "_law_order" s_l_order ["_law_deal", "_law_web_here"]
  d29 : Df K mg "_law_counts" s_l_counts ["_law_order_here", "_law_lot"]
theorem All.law (Z : All K mg C) {f : Addr} {fd : FuncData} (F : Fun K "law" "law" s_law f fd) : Gz.FnG P w K mg base 11 f fd ["_law_script"] (spLaw K) := by
  have T := Z.T
  have R := Z.R
  have c1 := ok_is_integer (P := P) (w := w) (base := base) T Z.d1
  have c2 := ok_is_number T Z.d2 c1
  have c3 := ok_is_index T Z.d3 c2
  have c4 := ok_is_row_of (P := P) (w := w) (base := base) T Z.d4
  have c5 := ok_is_word_of (P := P) (w := w) (base := base) T Z.d5
  have c6 := ok_served (P := P) (w := w) (base := base) T Z.d6
  have c7 := ok_partner (P := P) (w := w) (base := base) T Z.d7
  have c8 := ok_steps_of (P := P) (w := w) (base := base) T Z.d8
  have c9 := ok_are_people T Z.d9 c3
  have c10 := ok_is_turn T Z.d10 c4 c5 c9 c8 c6
  have c11 := ok_turned T Z.d11 c10 c8
  have c12 := ok_neighbours (P := P) (w := w) (base := base) T Z.d12
  have c13 := ok_near_of T Z.d13 c12
  have n1 := ok_reached (P := P) (w := w) (mg := mg) (base := base) T R Z.m5
  have n2 := ok_way (P := P) (w := w) (mg := mg) (base := base) T R Z.m4
  have n3 := ok_meeting (P := P) (w := w) (mg := mg) (base := base) T R Z.m2
  have n4 := ok_shrink T R Z.m3 n3
  have n5 := ok_run T R Z.m1 n4
  have n6 := ok_init (P := P) (w := w) (base := base) T R Z.S
  have c14 := ok_told T R Z.d14 n6 n5
  have c15 := ok_more T R Z.d15 c7 c14 c11 n2 n1
  have c16 := ok_kept_of T Z.d16 c13 c15
  have c17 := ok_kept_lot T Z.d17 c16
  have c18 := ok_places (P := P) (w := w) (base := base) T Z.d18
  have c19 := ok_beginnings T Z.d19 c17
  have c20 := ok_draw (P := P) (w := w) (base := base) T Z.d20
  have c21 := ok_any (P := P) (w := w) (base := base) T Z.d21
  have c22 := ok_mixed T Z.d22 c21
  have c23 := ok_web T Z.d23 c21 c22
  have c24 := ok_lserved (P := P) (w := w) (base := base) T Z.d24
  have c25 := ok_all_plans (P := P) (w := w) (base := base) T Z.d25
  have c26 := ok_servable T Z.d26 c25 c24
  have c27 := ok_lkept (P := P) (w := w) (base := base) T Z.d27
  have c28 := ok_order T Z.d28 c22
  have c29 := ok_counts (P := P) (w := w) (base := base) T Z.d29
  exact ok_law T F c20 c23 c26 c28 c29 c27 c19.cal (ck_of c19) c17 c18
/-- all that the head asks -/
theorem close {h : Heap} {fa : Addr} (_X : K.In h) (hmg : mg "law" = some (.ref fa)) (Z : ∃ C, All K mg C) (L : ∃ f fd, mg "law" = some (.ref f) ∧ Fun K "law" "law" s_law f fd ∧ ∀ (s : Shared) (u : Value), BindsTo s fd ⟨[u], []⟩ [("_law_script", u)]) :
    ∃ fd : FuncData, (∀ (s : Shared) (u : Value), BindsTo s fd ⟨[u], []⟩ [("_law_script", u)]) ∧ ∀ base : Heap, K.In base → base.Ns mainGlobals mg → Gz.FnG P w K mg base 11 fa fd ["_law_script"] (spLaw K) := by
  obtain ⟨C, Z⟩ := Z
  obtain ⟨f, fd, h1, F, B⟩ := L
  have e := hmg.symm.trans h1
  cases e
  exact ⟨fd, B, fun base _ _ => Z.law F⟩
end
end Gx
open PySem PySem.W PyProof.Rows in
set_option maxRecDepth 100000 in
set_option maxHeartbeats 0 in
theorem PySem.Challenge.cw_givesifgets_k27_whole_every_beginning_holds : PySem.Challenge.rw_givesifgets_k27_whole_every_beginning.Holds := by
  w_on; o_law; k_head; (case hw => w_witness2)
  k_fill
  refine Gz.walkG (l := PySem.Challenge.rw_givesifgets_k27_whole_every_beginning) (n := 63) (k := 11) (x := "_law_script") (sp := Gx.spLaw) rfl (by decide) rfl ⟨rfl, by decide, by decide⟩ (fun w h Y => PySem.W.kIn_of Y) ?F (fun _ _ a ns _ hS => ⟨a, ns, rfl, hS, fun _ => rfl⟩)
  case F =>
    intro w mg fa h KX G hmg
    refine Gx.close KX hmg ?Z ?L
    case Z =>
      refine' ⟨?C, ⟨Gx.txt_mk KX G ⟨PySem.W.mg_none_of KX G ?b_len, PySem.W.mg_none_of KX G ?b_isinstance, PySem.W.mg_none_of KX G ?b_all, PySem.W.mg_none_of KX G ?b_any, PySem.W.mg_none_of KX G ?b_min, PySem.W.mg_none_of KX G ?b_max, PySem.W.mg_none_of KX G ?b_abs, PySem.W.mg_none_of KX G ?b_sorted, PySem.W.mg_none_of KX G ?b_repr, PySem.W.mg_none_of KX G ?b_int, PySem.W.mg_none_of KX G ?b_bool, PySem.W.mg_none_of KX G ?b_str, PySem.W.mg_none_of KX G ?b_tuple, PySem.W.mg_none_of KX G ?b_list, PySem.W.mg_none_of KX G ?b_set, PySem.W.mg_none_of KX G ?b_range, PySem.W.mg_none_of KX G ?b_zip, PySem.W.mg_none_of KX G ?b_enumerate⟩ ?aK ?lK,
        Gx.sr_mk ⟨?pg, ?hd, ?po, ?sa⟩ ?a_near ?a_root ?a_mates ?a_back ?a_base ?a_even ?a_left,
        Gx.in_mk KX G ?aC ?mk ?kc ?ia ?ii ?il ?ic ?ik,
        Gx.mf_mk ?m1a ?m1i ?m1l ?m1c ?m1k (fun _ _ _ _ _ _ us hl => match us, hl with | [_, _], _ => rfl),
        Gx.mf_mk ?m2a ?m2i ?m2l ?m2c ?m2k (fun _ _ _ _ _ _ us hl => match us, hl with | [_, _, _], _ => rfl),
        Gx.mf_mk ?m3a ?m3i ?m3l ?m3c ?m3k (fun _ _ _ _ _ _ us hl => match us, hl with | [_, _, _], _ => rfl),
        Gx.mf_mk ?m4a ?m4i ?m4l ?m4c ?m4k (fun _ _ _ _ _ _ us hl => match us, hl with | [_, _], _ => rfl),
        Gx.mf_mk ?m5a ?m5i ?m5l ?m5c ?m5k (fun _ _ _ _ _ _ us hl => match us, hl with | [_], _ => rfl),
        Gx.df_mk KX G ?d1a ?d1l ?d1c ?d1k (fun _ _ _ _ _ _ us hl => match us, hl with | [_], _ => rfl),
        Gx.df_mk KX G ?d2a ?d2l ?d2c ?d2k (fun _ _ _ _ _ _ us hl => match us, hl with | [_], _ => rfl),
        Gx.df_mk KX G ?d3a ?d3l ?d3c ?d3k (fun _ _ _ _ _ _ us hl => match us, hl with | [_, _], _ => rfl),
        Gx.df_mk KX G ?d4a ?d4l ?d4c ?d4k (fun _ _ _ _ _ _ us hl => match us, hl with | [_, _], _ => rfl),
        Gx.df_mk KX G ?d5a ?d5l ?d5c ?d5k (fun _ _ _ _ _ _ us hl => match us, hl with | [_, _], _ => rfl),
        Gx.df_mk KX G ?d6a ?d6l ?d6c ?d6k (fun _ _ _ _ _ _ us hl => match us, hl with | [_], _ => rfl),
        Gx.df_mk KX G ?d7a ?d7l ?d7c ?d7k (fun _ _ _ _ _ _ us hl => match us, hl with | [_, _], _ => rfl),
        Gx.df_mk KX G ?d8a ?d8l ?d8c ?d8k (fun _ _ _ _ _ _ us hl => match us, hl with | [_], _ => rfl),
        Gx.df_mk KX G ?d9a ?d9l ?d9c ?d9k (fun _ _ _ _ _ _ us hl => match us, hl with | [_, _, _], _ => rfl),
        Gx.df_mk KX G ?d10a ?d10l ?d10c ?d10k (fun _ _ _ _ _ _ us hl => match us, hl with | [_, _, _], _ => rfl),
        Gx.df_mk KX G ?d11a ?d11l ?d11c ?d11k (fun _ _ _ _ _ _ us hl => match us, hl with | [_, _, _], _ => rfl),
        Gx.df_mk KX G ?d12a ?d12l ?d12c ?d12k (fun _ _ _ _ _ _ us hl => match us, hl with | [_, _], _ => rfl),
        Gx.df_mk KX G ?d13a ?d13l ?d13c ?d13k (fun _ _ _ _ _ _ us hl => match us, hl with | [_], _ => rfl),
        Gx.df_mk KX G ?d14a ?d14l ?d14c ?d14k (fun _ _ _ _ _ _ us hl => match us, hl with | [_, _, _], _ => rfl),
        Gx.df_mk KX G ?d15a ?d15l ?d15c ?d15k (fun _ _ _ _ _ _ us hl => match us, hl with | [_, _, _, _, _], _ => rfl),
        Gx.df_mk KX G ?d16a ?d16l ?d16c ?d16k (fun _ _ _ _ _ _ us hl => match us, hl with | [_, _], _ => rfl),
        Gx.df_mk KX G ?d17a ?d17l ?d17c ?d17k (fun _ _ _ _ _ _ us hl => match us, hl with | [_, _], _ => rfl),
        Gx.df_mk KX G ?d18a ?d18l ?d18c ?d18k (fun _ _ _ _ _ _ us hl => match us, hl with | [_, _], _ => rfl),
        Gx.df_mk KX G ?d19a ?d19l ?d19c ?d19k (fun _ _ _ _ _ _ us hl => match us, hl with | [_, _], _ => rfl),
        Gx.df_mk KX G ?d20a ?d20l ?d20c ?d20k (fun _ _ _ _ _ _ us hl => match us, hl with | [_, _], _ => rfl),
        Gx.df_mk KX G ?d21a ?d21l ?d21c ?d21k (fun _ _ _ _ _ _ us hl => match us, hl with | [_, _], _ => rfl),
        Gx.df_mk KX G ?d22a ?d22l ?d22c ?d22k (fun _ _ _ _ _ _ us hl => match us, hl with | [_, _], _ => rfl),
        Gx.df_mk KX G ?d23a ?d23l ?d23c ?d23k (fun _ _ _ _ _ _ us hl => match us, hl with | [_, _], _ => rfl),
        Gx.df_mk KX G ?d24a ?d24l ?d24c ?d24k (fun _ _ _ _ _ _ us hl => match us, hl with | [_], _ => rfl),
        Gx.df_mk KX G ?d25a ?d25l ?d25c ?d25k (fun _ _ _ _ _ _ us hl => match us, hl with | [_], _ => rfl),
        Gx.df_mk KX G ?d26a ?d26l ?d26c ?d26k (fun _ _ _ _ _ _ us hl => match us, hl with | [_], _ => rfl),
        Gx.df_mk KX G ?d27a ?d27l ?d27c ?d27k (fun _ _ _ _ _ _ us hl => match us, hl with | [_, _], _ => rfl),
        Gx.df_mk KX G ?d28a ?d28l ?d28c ?d28k (fun _ _ _ _ _ _ us hl => match us, hl with | [_, _], _ => rfl),
        Gx.df_mk KX G ?d29a ?d29l ?d29c ?d29k (fun _ _ _ _ _ _ us hl => match us, hl with | [_, _], _ => rfl)⟩⟩
      (case aC => k_is)
      (case b_len => k_is)
      (case b_isinstance => k_is)
      (case b_all => k_is)
      (case b_any => k_is)
      (case b_min => k_is)
      (case b_max => k_is)
      (case b_abs => k_is)
      (case b_sorted => k_is)
      (case b_repr => k_is)
      (case b_int => k_is)
      (case b_bool => k_is)
      (case b_str => k_is)
      (case b_tuple => k_is)
      (case b_list => k_is)
      (case b_set => k_is)
      (case b_range => k_is)
      (case b_zip => k_is)
      (case b_enumerate => k_is)
      (case aK => k_is)
      (case lK => k_is)
      (case pg => k_is)
      (case hd => k_is)
      (case po => k_is)
      (case sa => k_is)
      (case a_near => k_is)
      (case a_root => k_is)
      (case a_mates => k_is)
      (case a_back => k_is)
      (case a_base => k_is)
      (case a_even => k_is)
      (case a_left => k_is)
      (case mk => k_is)
      (case kc => k_is)
      (case ia => k_is)
      (case ii => k_is)
      (case il => k_is)
      (case ic => k_is)
      (case ik => k_is)
      (case m1a => k_is)
      (case m1i => k_is)
      (case m1l => k_is)
      (case m1c => k_is)
      (case m1k => k_is)
      (case m2a => k_is)
      (case m2i => k_is)
      (case m2l => k_is)
      (case m2c => k_is)
      (case m2k => k_is)
      (case m3a => k_is)
      (case m3i => k_is)
      (case m3l => k_is)
      (case m3c => k_is)
      (case m3k => k_is)
      (case m4a => k_is)
      (case m4i => k_is)
      (case m4l => k_is)
      (case m4c => k_is)
      (case m4k => k_is)
      (case m5a => k_is)
      (case m5i => k_is)
      (case m5l => k_is)
      (case m5c => k_is)
      (case m5k => k_is)
      (case d1a => k_is)
      (case d1l => k_is)
      (case d1c => k_is)
      (case d1k => k_is)
      (case d2a => k_is)
      (case d2l => k_is)
      (case d2c => k_is)
      (case d2k => k_is)
      (case d3a => k_is)
      (case d3l => k_is)
      (case d3c => k_is)
      (case d3k => k_is)
      (case d4a => k_is)
      (case d4l => k_is)
      (case d4c => k_is)
      (case d4k => k_is)
      (case d5a => k_is)
      (case d5l => k_is)
      (case d5c => k_is)
      (case d5k => k_is)
      (case d6a => k_is)
      (case d6l => k_is)
      (case d6c => k_is)
      (case d6k => k_is)
      (case d7a => k_is)
      (case d7l => k_is)
      (case d7c => k_is)
      (case d7k => k_is)
      (case d8a => k_is)
      (case d8l => k_is)
      (case d8c => k_is)
      (case d8k => k_is)
      (case d9a => k_is)
      (case d9l => k_is)
      (case d9c => k_is)
      (case d9k => k_is)
      (case d10a => k_is)
      (case d10l => k_is)
      (case d10c => k_is)
      (case d10k => k_is)
      (case d11a => k_is)
      (case d11l => k_is)
      (case d11c => k_is)
      (case d11k => k_is)
      (case d12a => k_is)
      (case d12l => k_is)
      (case d12c => k_is)
      (case d12k => k_is)
      (case d13a => k_is)
      (case d13l => k_is)
      (case d13c => k_is)
      (case d13k => k_is)
      (case d14a => k_is)
      (case d14l => k_is)
      (case d14c => k_is)
      (case d14k => k_is)
      (case d15a => k_is)
      (case d15l => k_is)
      (case d15c => k_is)
      (case d15k => k_is)
      (case d16a => k_is)
      (case d16l => k_is)
      (case d16c => k_is)
      (case d16k => k_is)
      (case d17a => k_is)
      (case d17l => k_is)
      (case d17c => k_is)
      (case d17k => k_is)
      (case d18a => k_is)
      (case d18l => k_is)
      (case d18c => k_is)
      (case d18k => k_is)
      (case d19a => k_is)
      (case d19l => k_is)
      (case d19c => k_is)
      (case d19k => k_is)
      (case d20a => k_is)
      (case d20l => k_is)
      (case d20c => k_is)
      (case d20k => k_is)
      (case d21a => k_is)
      (case d21l => k_is)
      (case d21c => k_is)
      (case d21k => k_is)
      (case d22a => k_is)
      (case d22l => k_is)
      (case d22c => k_is)
      (case d22k => k_is)
      (case d23a => k_is)
      (case d23l => k_is)
      (case d23c => k_is)
      (case d23k => k_is)
      (case d24a => k_is)
      (case d24l => k_is)
      (case d24c => k_is)
      (case d24k => k_is)
      (case d25a => k_is)
      (case d25l => k_is)
      (case d25c => k_is)
      (case d25k => k_is)
      (case d26a => k_is)
      (case d26l => k_is)
      (case d26c => k_is)
      (case d26k => k_is)
      (case d27a => k_is)
      (case d27l => k_is)
      (case d27c => k_is)
      (case d27k => k_is)
      (case d28a => k_is)
      (case d28l => k_is)
      (case d28c => k_is)
      (case d28k => k_is)
      (case d29a => k_is)
      (case d29l => k_is)
      (case d29c => k_is)
      (case d29k => k_is)
    case L =>
      refine' Gx.law_mk KX G ?qa ?ql ?qc ?qk
      (case qa => k_is)
      (case ql => k_is)
      (case qc => k_is)
      (case qk => k_is)
