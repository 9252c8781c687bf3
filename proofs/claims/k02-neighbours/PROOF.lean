import PyProof.Rows.All
import Wide.All
import OpenK.AllK
import Wide.FinOn
import HandS.ForMost
import HandS.ForExc
import HandS.DictTup
import HandS.TupLen
import HandS.Deep
import HandS.IsInst
import HandS.ExcIs
import HandS.Conv
import HandS.SortRule
import HandS.StrMore
import HandS.Replace
import PyProof.DictMoreH
import PySem.Challenge.RW_sidechain_k02_neighbours
set_option Elab.async false
set_option maxRecDepth 100000
set_option maxHeartbeats 4000000
namespace SC
abbrev Cell := Int × Int

/-- b is a neighbour of a -/
def Adj (a b : Cell) : Prop :=
  (b.1 = a.1 - 1 ∧ b.2 = a.2) ∨ (b.1 = a.1 - 1 ∧ b.2 = a.2 + 1) ∨ (b.1 = a.1 ∧ b.2 = a.2 - 1) ∨
  (b.1 = a.1 ∧ b.2 = a.2 + 1) ∨ (b.1 = a.1 + 1 ∧ b.2 = a.2 - 1) ∨ (b.1 = a.1 + 1 ∧ b.2 = a.2)

theorem Adj.symm {a b : Cell} (h : Adj a b) : Adj b a := by unfold Adj at *; omega

inductive Linked (S : Cell → Prop) : Cell → Cell → Prop
  | refl {a : Cell} : S a → Linked S a a
  | snoc {a b c : Cell} : Linked S a b → Adj b c → S c → Linked S a c

theorem Linked.trans {S : Cell → Prop} {a b c : Cell} (h : Linked S a b) (g : Linked S b c) : Linked S a c := by
  induction g with
  | refl _ => exact h
  | snoc _ e s ih => exact .snoc ih e s
theorem Linked.left {S : Cell → Prop} {a b : Cell} (h : Linked S a b) : S a := by
  induction h with
  | refl s => exact s
  | snoc _ _ _ ih => exact ih
theorem Linked.right {S : Cell → Prop} {a b : Cell} (h : Linked S a b) : S b := by
  cases h with
  | refl s => exact s
  | snoc _ _ s => exact s
theorem Linked.cons {S : Cell → Prop} {a b c : Cell} (s : S a) (e : Adj a b) (g : Linked S b c) : Linked S a c :=
  (Linked.snoc (.refl s) e g.left).trans g
theorem Linked.symm {S : Cell → Prop} {a b : Cell} (h : Linked S a b) : Linked S b a := by
  induction h with
  | refl s => exact .refl s
  | snoc _ e s ih => exact .cons s e.symm ih
theorem Linked.mono {S U : Cell → Prop} {a b : Cell} (h : Linked S a b) (k : ∀ c, S c → U c) : Linked U a b := by
  induction h with
  | refl s => exact .refl (k _ s)
  | snoc _ e s ih => exact .snoc ih e (k _ s)
theorem Linked.map {S U : Cell → Prop} {a b : Cell} (f : Cell → Cell) (h : Linked S a b) (k : ∀ c, S c → U (f c)) (e : ∀ c d, Adj c d → Adj (f c) (f d)) : Linked U (f a) (f b) := by
  induction h with
  | refl s => exact .refl (k _ s)
  | snoc _ q s ih => exact .snoc ih (e _ _ q) (k _ s)
/-- what holds at the first and goes over each step holds at the last -/
theorem Linked.ind {S : Cell → Prop} {a b : Cell} (P : Cell → Prop) (h : Linked S a b) (h0 : P a) (hs : ∀ c d, S c → S d → Adj c d → P c → P d) : P b := by
  induction h with
  | refl _ => exact h0
  | snoc g e s ih => exact hs _ _ g.right s e ih

def flip (c : Cell) : Cell := (c.2, c.1)
theorem Adj.flip {a b : Cell} (h : Adj a b) : Adj (flip a) (flip b) := by
  unfold Adj at h
  show ((b.2 = a.2 - 1 ∧ b.1 = a.1) ∨ (b.2 = a.2 - 1 ∧ b.1 = a.1 + 1) ∨ (b.2 = a.2 ∧ b.1 = a.1 - 1) ∨
    (b.2 = a.2 ∧ b.1 = a.1 + 1) ∨ (b.2 = a.2 + 1 ∧ b.1 = a.1 - 1) ∨ (b.2 = a.2 + 1 ∧ b.1 = a.1))
  omega

/-! ### the board with three sides -/
def T (n : Int) (c : Cell) : Prop := 0 ≤ c.1 ∧ 0 ≤ c.2 ∧ c.1 + c.2 < n
def On (n : Int) (S : Cell → Prop) (c : Cell) : Prop := T n c ∧ S c
structure YWin (n : Int) (S : Cell → Prop) : Prop where
  ex : ∃ x a b c, Linked (On n S) x a ∧ a.1 = 0 ∧ Linked (On n S) x b ∧ b.2 = 0 ∧ Linked (On n S) x c ∧ c.1 + c.2 = n - 1

def Maj (S : Cell → Prop) (t : Cell) : Prop :=
  (S t ∧ S (t.1 + 1, t.2)) ∨ (S t ∧ S (t.1, t.2 + 1)) ∨ (S (t.1 + 1, t.2) ∧ S (t.1, t.2 + 1))
/-- a is one of the three cells of t -/
def Tri (t a : Cell) : Prop := a = t ∨ a = (t.1 + 1, t.2) ∨ a = (t.1, t.2 + 1)

theorem maj_not (S : Cell → Prop) (t : Cell) : Maj (fun c => ¬ S c) t ↔ ¬ Maj S t := by
  unfold Maj
  by_cases h1 : S t <;> by_cases h2 : S (t.1 + 1, t.2) <;> by_cases h3 : S (t.1, t.2 + 1) <;> simp [h1, h2, h3]

theorem tri_T {n : Int} {t a : Cell} (h : T (n - 1) t) (g : Tri t a) : T n a := by
  unfold T at *
  rcases g with rfl | rfl | rfl
  · omega
  · dsimp only; omega
  · dsimp only; omega

theorem tri_eqadj {t a b : Cell} (g : Tri t a) (h : Tri t b) : a = b ∨ Adj a b := by
  rcases g with rfl | rfl | rfl <;> rcases h with rfl | rfl | rfl <;> first | (left; rfl) | (right; unfold Adj; dsimp only; omega)

theorem tri_link {n : Int} {S : Cell → Prop} {t a b : Cell} (h : T (n - 1) t) (ga : Tri t a) (gb : Tri t b) (sa : S a) (sb : S b) : Linked (On n S) a b := by
  rcases tri_eqadj ga gb with e | e
  · subst e; exact .refl ⟨tri_T h ga, sa⟩
  · exact .snoc (.refl ⟨tri_T h ga, sa⟩) e ⟨tri_T h gb, sb⟩

theorem maj_two {S : Cell → Prop} {t : Cell} (m : Maj S t) : ∃ a, Tri t a ∧ S a := by
  rcases m with m | m | m
  · exact ⟨_, .inl rfl, m.1⟩
  · exact ⟨_, .inl rfl, m.1⟩
  · exact ⟨_, .inr (.inl rfl), m.1⟩

/-- two neighbouring triangles: cells of both that are one or neighbours -/
theorem maj_next {S : Cell → Prop} {t u : Cell} (mt : Maj S t) (mu : Maj S u) (e : Adj t u) : ∃ a b, Tri t a ∧ Tri u b ∧ S a ∧ S b ∧ (a = b ∨ Adj a b) := by
  obtain ⟨i, j⟩ := t
  obtain ⟨k, l⟩ := u
  unfold Maj at mt mu
  dsimp only at mt mu
  have key : ∀ a b, S a → S b → Tri (i, j) a → Tri (k, l) b → (a = b ∨ Adj a b) → ∃ a b, Tri (i, j) a ∧ Tri (k, l) b ∧ S a ∧ S b ∧ (a = b ∨ Adj a b) := fun a b sa sb ta tb h => ⟨a, b, ta, tb, sa, sb, h⟩
  unfold Adj at e
  dsimp only at e
  have t0 : Tri (i, j) (i, j) := .inl rfl
  have t1 : Tri (i, j) (i + 1, j) := .inr (.inl rfl)
  have t2 : Tri (i, j) (i, j + 1) := .inr (.inr rfl)
  have u0 : Tri (k, l) (k, l) := .inl rfl
  have u1 : Tri (k, l) (k + 1, l) := .inr (.inl rfl)
  have u2 : Tri (k, l) (k, l + 1) := .inr (.inr rfl)
  have dec : ∀ a b : Cell, ((a.1 = b.1 ∧ a.2 = b.2) ∨ Adj a b) → (a = b ∨ Adj a b) := fun a b h => h.imp (fun q => Prod.ext q.1 q.2) id
  rcases mt with ⟨m1, m2⟩ | ⟨m1, m2⟩ | ⟨m1, m2⟩ <;> rcases mu with ⟨n1, n2⟩ | ⟨n1, n2⟩ | ⟨n1, n2⟩ <;>
  first
  | (rcases e with e | e | e | e | e | e <;>
      first
      | exact key _ _ m1 n1 (by assumption) (by assumption) (dec _ _ (by unfold Adj; dsimp only; omega))
      | exact key _ _ m1 n2 (by assumption) (by assumption) (dec _ _ (by unfold Adj; dsimp only; omega))
      | exact key _ _ m2 n1 (by assumption) (by assumption) (dec _ _ (by unfold Adj; dsimp only; omega))
      | exact key _ _ m2 n2 (by assumption) (by assumption) (dec _ _ (by unfold Adj; dsimp only; omega)))

theorem lift_link {n : Int} {S : Cell → Prop} {t u : Cell} (h : Linked (On (n - 1) (Maj S)) t u) : ∀ {a b : Cell}, Tri t a → S a → Tri u b → S b → Linked (On n S) a b := by
  induction h with
  | refl s => exact fun ta sa tb sb => tri_link s.1 ta tb sa sb
  | snoc g e s ih =>
    intro a b ta sa tb sb
    obtain ⟨p, q, tp, tq, sp, sq, r⟩ := maj_next g.right.2 s.2 e
    have h1 := ih ta sa tp sp
    have h2 := tri_link (S := S) s.1 tq tb sq sb
    rcases r with r | r
    · subst r; exact h1.trans h2
    · exact (h1.snoc r h2.left).trans h2

theorem y_lift {n : Int} {S : Cell → Prop} (h : YWin (n - 1) (Maj S)) : YWin n S := by
  obtain ⟨x, a, b, c, ha, ea, hb, eb, hc, ec⟩ := h.ex
  obtain ⟨y, ty, sy⟩ := maj_two ha.left.2
  have h1 : ∃ a', Tri a a' ∧ S a' ∧ a'.1 = 0 := by
    rcases ha.right.2 with m | m | m
    · exact ⟨_, .inl rfl, m.1, ea⟩
    · exact ⟨_, .inl rfl, m.1, ea⟩
    · exact ⟨_, .inr (.inr rfl), m.2, ea⟩
  have h2 : ∃ b', Tri b b' ∧ S b' ∧ b'.2 = 0 := by
    rcases hb.right.2 with m | m | m
    · exact ⟨_, .inl rfl, m.1, eb⟩
    · exact ⟨_, .inl rfl, m.1, eb⟩
    · exact ⟨_, .inr (.inl rfl), m.1, eb⟩
  have h3 : ∃ c', Tri c c' ∧ S c' ∧ c'.1 + c'.2 = n - 1 := by
    rcases hc.right.2 with m | m | m
    · exact ⟨_, .inr (.inl rfl), m.2, by dsimp only; omega⟩
    · exact ⟨_, .inr (.inr rfl), m.2, by dsimp only; omega⟩
    · exact ⟨_, .inr (.inl rfl), m.1, by dsimp only; omega⟩
  obtain ⟨a', ta, sa, ea'⟩ := h1
  obtain ⟨b', tb, sb, eb'⟩ := h2
  obtain ⟨c', tc, sc, ec'⟩ := h3
  exact ⟨y, a', b', c', lift_link ha ty sy ta sa, ea', lift_link hb ty sy tb sb, eb', lift_link hc ty sy tc sc, ec'⟩

theorem edge_tri {n : Int} {S : Cell → Prop} {a b : Cell} (sa : On n S a) (sb : On n S b) (e : Adj a b) : ∃ t, On (n - 1) (Maj S) t ∧ Tri t a ∧ Tri t b := by
  obtain ⟨i, j⟩ := a
  obtain ⟨k, l⟩ := b
  obtain ⟨ta, sa⟩ := sa
  obtain ⟨tb, sb⟩ := sb
  unfold T at ta tb
  unfold Adj at e
  dsimp only at ta tb e
  have pe : ∀ {p q r s : Int}, p = r → q = s → ((p, q) : Cell) = (r, s) := fun h g => by rw [h, g]
  rcases e with e | e | e | e | e | e
  · have eb : ((k, l) : Cell) = (i - 1, j) := pe e.1 e.2
    have ea : ((i, j) : Cell) = (i - 1 + 1, j) := pe (by omega) rfl
    exact ⟨(i - 1, j), ⟨⟨by dsimp only; omega, by dsimp only; omega, by dsimp only; omega⟩, .inl ⟨eb ▸ sb, by show S (i - 1 + 1, j); exact ea ▸ sa⟩⟩, .inr (.inl ea), .inl eb⟩
  · have eb : ((k, l) : Cell) = (i - 1, j + 1) := pe e.1 e.2
    have ea : ((i, j) : Cell) = (i - 1 + 1, j) := pe (by omega) rfl
    exact ⟨(i - 1, j), ⟨⟨by dsimp only; omega, by dsimp only; omega, by dsimp only; omega⟩, .inr (.inr ⟨by show S (i - 1 + 1, j); exact ea ▸ sa, eb ▸ sb⟩)⟩, .inr (.inl ea), .inr (.inr eb)⟩
  · have eb : ((k, l) : Cell) = (i, j - 1) := pe e.1 e.2
    have ea : ((i, j) : Cell) = (i, j - 1 + 1) := pe rfl (by omega)
    exact ⟨(i, j - 1), ⟨⟨by dsimp only; omega, by dsimp only; omega, by dsimp only; omega⟩, .inr (.inl ⟨eb ▸ sb, by show S (i, j - 1 + 1); exact ea ▸ sa⟩)⟩, .inr (.inr ea), .inl eb⟩
  · have eb : ((k, l) : Cell) = (i, j + 1) := pe e.1 e.2
    exact ⟨(i, j), ⟨⟨by dsimp only; omega, by dsimp only; omega, by dsimp only; omega⟩, .inr (.inl ⟨sa, eb ▸ sb⟩)⟩, .inl rfl, .inr (.inr eb)⟩
  · have eb : ((k, l) : Cell) = (i + 1, j - 1) := pe e.1 e.2
    have ea : ((i, j) : Cell) = (i, j - 1 + 1) := pe rfl (by omega)
    exact ⟨(i, j - 1), ⟨⟨by dsimp only; omega, by dsimp only; omega, by dsimp only; omega⟩, .inr (.inr ⟨eb ▸ sb, by show S (i, j - 1 + 1); exact ea ▸ sa⟩)⟩, .inr (.inr ea), .inr (.inl eb)⟩
  · have eb : ((k, l) : Cell) = (i + 1, j) := pe e.1 e.2
    exact ⟨(i, j), ⟨⟨by dsimp only; omega, by dsimp only; omega, by dsimp only; omega⟩, .inl ⟨sa, eb ▸ sb⟩⟩, .inl rfl, .inr (.inl eb)⟩

theorem tri_share {t u a : Cell} (h : Tri t a) (g : Tri u a) : t = u ∨ Adj t u := by
  obtain ⟨i, j⟩ := t
  obtain ⟨k, l⟩ := u
  obtain ⟨p, q⟩ := a
  have dec : ((i = k ∧ j = l) ∨ Adj (i, j) (k, l)) → ((i, j) = (k, l) ∨ Adj (i, j) (k, l)) := fun h => h.imp (fun q => Prod.ext q.1 q.2) id
  apply dec
  unfold Tri at h g
  simp only [Prod.mk.injEq] at h g
  unfold Adj
  dsimp only
  omega

theorem lower_link {n : Int} {S : Cell → Prop} {a b t : Cell} (h : Linked (On n S) a b) (ht : On (n - 1) (Maj S) t) (ta : Tri t a) : ∃ u, Linked (On (n - 1) (Maj S)) t u ∧ Tri u b := by
  induction h with
  | refl s => exact ⟨t, .refl ht, ta⟩
  | snoc g e s ih =>
    obtain ⟨u, hu, tu⟩ := ih
    obtain ⟨v, hv, tv, tv'⟩ := edge_tri g.right s e
    rcases tri_share tu tv with q | q
    · subst q; exact ⟨u, hu, tv'⟩
    · exact ⟨v, hu.snoc q hv, tv'⟩

theorem Linked.moves {S : Cell → Prop} {a b : Cell} (h : Linked S a b) : a = b ∨ ∃ z, Adj a z ∧ S z := by
  induction h with
  | refl _ => exact .inl rfl
  | snoc g e s ih =>
    rcases ih with q | q
    · subst q; exact .inr ⟨_, e, s⟩
    · exact .inr q

theorem y_lower {n : Int} {S : Cell → Prop} (hn : 2 ≤ n) (h : YWin n S) : YWin (n - 1) (Maj S) := by
  obtain ⟨x, a, b, c, ha, ea, hb, eb, hc, ec⟩ := h.ex
  have hx : ∃ z, Adj x z ∧ On n S z := by
    rcases ha.moves with q | q
    · rcases hb.moves with r | r
      · rcases hc.moves with s | s
        · subst q; subst r; subst s; omega
        · exact s
      · exact r
    · exact q
  obtain ⟨z, ez, sz⟩ := hx
  obtain ⟨t, ht, tx, _⟩ := edge_tri ha.left sz ez
  obtain ⟨a', la, ta⟩ := lower_link ha ht tx
  obtain ⟨b', lb, tb⟩ := lower_link hb ht tx
  obtain ⟨c', lc, tc⟩ := lower_link hc ht tx
  have ra := la.right.1
  have rb := lb.right.1
  have rc := lc.right.1
  unfold T at ra rb rc
  refine ⟨t, a', b', c', la, ?_, lb, ?_, lc, ?_⟩
  · rcases ta with q | q | q
    · rw [← q]; exact ea
    · rw [q] at ea; dsimp only at ea; omega
    · rw [q] at ea; exact ea
  · rcases tb with q | q | q
    · rw [← q]; exact eb
    · rw [q] at eb; exact eb
    · rw [q] at eb; dsimp only at eb; omega
  · rcases tc with q | q | q
    · rw [← q]; rw [← q] at rc; omega
    · rw [q] at ec; dsimp only at ec; omega
    · rw [q] at ec; dsimp only at ec; omega

theorem YWin.congr {n : Int} {S U : Cell → Prop} (h : YWin n S) (k : ∀ c, T n c → S c → U c) : YWin n U := by
  obtain ⟨x, a, b, c, ha, ea, hb, eb, hc, ec⟩ := h.ex
  have m : ∀ z, On n S z → On n U z := fun z q => ⟨q.1, k z q.1 q.2⟩
  exact ⟨x, a, b, c, ha.mono m, ea, hb.mono m, eb, hc.mono m, ec⟩

theorem y_one : ∀ (m : Nat) (S : Cell → Prop), (YWin (m + 1) S ∨ YWin (m + 1) fun c => ¬ S c) ∧ ¬ (YWin (m + 1) S ∧ YWin (m + 1) fun c => ¬ S c)
  | 0, S => by
    have t0 : T ((0 : Nat) + 1) (0, 0) := ⟨by decide, by decide, by decide⟩
    have one : ∀ U : Cell → Prop, U (0, 0) → YWin ((0 : Nat) + 1) U := fun U u =>
      ⟨(0, 0), (0, 0), (0, 0), (0, 0), .refl ⟨t0, u⟩, rfl, .refl ⟨t0, u⟩, rfl, .refl ⟨t0, u⟩, rfl⟩
    have back : ∀ U : Cell → Prop, YWin ((0 : Nat) + 1) U → U (0, 0) := fun U h => by
      obtain ⟨x, a, b, c, ha, ea, hb, eb, hc, ec⟩ := h.ex
      obtain ⟨⟨p, q, r⟩, u⟩ := ha.left
      have e : x = (0, 0) := Prod.ext (by show x.1 = 0; omega) (by show x.2 = 0; omega)
      rw [e] at u
      exact u
    refine ⟨?_, fun h => (back _ h.2) (back _ h.1)⟩
    by_cases h : S (0, 0)
    · exact .inl (one S h)
    · exact .inr (one _ h)
  | m + 1, S => by
    have e : ((m + 1 : Nat) : Int) + 1 - 1 = (m : Int) + 1 := by omega
    have ih := y_one m (Maj S)
    have up : ∀ U : Cell → Prop, YWin ((m : Int) + 1) (Maj U) → YWin (((m + 1 : Nat) : Int) + 1) U := fun U h => y_lift (by rw [e]; exact h)
    have down : ∀ U : Cell → Prop, YWin (((m + 1 : Nat) : Int) + 1) U → YWin ((m : Int) + 1) (Maj U) := fun U h => by
      have q := y_lower (by omega) h
      rw [e] at q
      exact q
    refine ⟨?_, fun h => ih.2 ⟨down _ h.1, (down _ h.2).congr fun c _ q => (maj_not S c).mp q⟩⟩
    rcases ih.1 with h | h
    · exact .inl (up _ h)
    · exact .inr (up _ (h.congr fun c _ q => (maj_not S c).mpr q))

theorem YWin.flip {n : Int} {S : Cell → Prop} (h : YWin n S) : YWin n fun c => S (SC.flip c) := by
  obtain ⟨x, a, b, c, ha, ea, hb, eb, hc, ec⟩ := h.ex
  have m : ∀ z, On n S z → On n (fun c => S (SC.flip c)) (SC.flip z) := fun z q => ⟨⟨q.1.2.1, q.1.1, by have := q.1.2.2; show z.2 + z.1 < n; omega⟩, q.2⟩
  exact ⟨SC.flip x, SC.flip b, SC.flip a, SC.flip c, hb.map _ m fun _ _ => Adj.flip, eb, ha.map _ m fun _ _ => Adj.flip, ea, hc.map _ m fun _ _ => Adj.flip, by show c.2 + c.1 = n - 1; omega⟩

/-! ### the board with four sides -/
def B (R C : Int) (c : Cell) : Prop := 0 ≤ c.1 ∧ c.1 < R ∧ 0 ≤ c.2 ∧ c.2 < C
def In (R C : Int) (S : Cell → Prop) (c : Cell) : Prop := B R C c ∧ S c
/-- from the first column to the last -/
def LR (R C : Int) (S : Cell → Prop) : Prop := ∃ a d, a.2 = 0 ∧ d.2 = C - 1 ∧ Linked (In R C S) a d
/-- from the first row to the last -/
def TB (R C : Int) (S : Cell → Prop) : Prop := ∃ a d, a.1 = 0 ∧ d.1 = R - 1 ∧ Linked (In R C S) a d

theorem lr_of_y {R C : Int} {S U : Cell → Prop} (hC : 1 ≤ C) (h : YWin (R + C - 1) U) (k : ∀ c, T (R + C - 1) c → U c → c.2 < C → c.1 < R ∧ S c) : LR R C S := by
  obtain ⟨x, a, b, c, ha, ea, hb, eb, hc, ec⟩ := h.ex
  have g := hb.symm.trans hc
  have inb : ∀ z, On (R + C - 1) U z → z.2 < C → In R C S z := fun z q r => ⟨⟨q.1.1, (k z q.1 q.2 r).1, q.1.2.1, r⟩, (k z q.1 q.2 r).2⟩
  have st : (∃ d, Linked (In R C S) b d ∧ d.2 = C - 1) ∨ Linked (In R C S) b c := by
    refine g.ind (fun z => (∃ d, Linked (In R C S) b d ∧ d.2 = C - 1) ∨ Linked (In R C S) b z) (.inr (.refl (inb b g.left (by omega)))) ?_
    intro c d sc sd e p
    rcases p with p | p
    · exact .inl p
    · by_cases q : c.2 = C - 1
      · exact .inl ⟨c, p, q⟩
      · have bc := p.right.1
        unfold B at bc
        unfold Adj at e
        exact .inr (p.snoc e (inb d sd (by omega)))
  rcases st with ⟨d, l, q⟩ | l
  · exact ⟨b, d, eb, q, l⟩
  · have bc := l.right.1
    unfold B at bc
    exact ⟨b, c, eb, by omega, l⟩

theorem y_of_lr {R C : Int} {S U : Cell → Prop} (h : LR R C S) (k : ∀ c, B R C c → S c → U c) (k2 : ∀ c, T (R + C - 1) c → C ≤ c.2 → U c) : YWin (R + C - 1) U := by
  obtain ⟨a, d, ea, ed, l⟩ := h
  have m : ∀ z, In R C S z → On (R + C - 1) U z := fun z q => ⟨by have := q.1; unfold B at this; unfold T; omega, k z q.1 q.2⟩
  have l2 := l.mono m
  have bd := l.right.1
  unfold B at bd
  have od := l2.right
  obtain ⟨r, cc⟩ := d
  dsimp only at ed bd
  subst ed
  -- up to the first row: along the column behind the last one
  have colU : ∀ (p : Nat), (p : Int) + C < R + C - 1 → ∀ q : Nat, q ≤ p → Linked (On (R + C - 1) U) ((p : Int), C) (((p - q : Nat) : Int), C) := fun p hp q => by
    have inU : ∀ j : Nat, j ≤ p → On (R + C - 1) U ((j : Int), C) := fun j hj => by
      have tj : T (R + C - 1) ((j : Int), C) := ⟨by dsimp only; omega, by dsimp only; omega, by dsimp only; omega⟩
      exact ⟨tj, k2 _ tj (Int.le_refl C)⟩
    induction q with
    | zero => exact fun _ => .refl (inU p (Nat.le_refl p))
    | succ q ih =>
      intro hq
      refine (ih (by omega)).snoc ?_ (inU (p - (q + 1)) (by omega))
      left
      dsimp only
      exact ⟨by omega, rfl⟩
  -- to the third side: along the row
  have rowU : ∀ (q : Nat), r + (C - 1) + q < R + C - 1 → Linked (On (R + C - 1) U) (r, C - 1) (r, C - 1 + q) := fun q => by
    induction q with
    | zero => exact fun _ => by rw [show C - 1 + ((0 : Nat) : Int) = C - 1 by omega]; exact .refl od
    | succ q ih =>
      intro hq
      have tq : T (R + C - 1) (r, C - 1 + ((q + 1 : Nat) : Int)) := ⟨by dsimp only; omega, by dsimp only; omega, by dsimp only; omega⟩
      refine (ih (by omega)).snoc ?_ ⟨tq, k2 _ tq (by dsimp only; omega)⟩
      right; right; right; left
      dsimp only
      exact ⟨rfl, by omega⟩
  have first : ∃ z, Linked (On (R + C - 1) U) (r, C - 1) z ∧ z.1 = 0 := by
    by_cases h0 : r = 0
    · exact ⟨_, .refl od, h0⟩
    · -- (r - 1, C) is a neighbour
      have hp : ((r - 1).toNat : Int) = r - 1 := by omega
      have h1 := colU (r - 1).toNat (by rw [hp]; omega) (r - 1).toNat (Nat.le_refl _)
      rw [hp, Nat.sub_self] at h1
      refine ⟨_, .cons od ?_ h1, rfl⟩
      right; left
      dsimp only
      exact ⟨rfl, by omega⟩
  have third : ∃ z, Linked (On (R + C - 1) U) (r, C - 1) z ∧ z.1 + z.2 = R + C - 1 - 1 := by
    have hq : ((R - 1 - r).toNat : Int) = R - 1 - r := by omega
    have h1 := rowU (R - 1 - r).toNat (by rw [hq]; omega)
    refine ⟨_, h1, ?_⟩
    dsimp only
    omega
  obtain ⟨z1, g1, e1⟩ := first
  obtain ⟨z3, g3, e3⟩ := third
  exact ⟨_, z1, a, z3, g1, e1, l2.symm, ea, g3, e3⟩

theorem lr_flip {R C : Int} {S : Cell → Prop} (h : LR R C fun c => S (flip c)) : TB C R S := by
  obtain ⟨a, d, ea, ed, l⟩ := h
  exact ⟨flip a, flip d, ea, ed, l.map flip (fun c q => ⟨⟨q.1.2.2.1, q.1.2.2.2, q.1.1, q.1.2.1⟩, q.2⟩) fun _ _ => Adj.flip⟩
theorem tb_flip {R C : Int} {S : Cell → Prop} (h : TB C R S) : LR R C fun c => S (flip c) := by
  obtain ⟨a, d, ea, ed, l⟩ := h
  exact ⟨flip a, flip d, ea, ed, l.map flip (fun c q => ⟨⟨q.1.2.2.1, q.1.2.2.2, q.1.1, q.1.2.1⟩, q.2⟩) fun _ _ => Adj.flip⟩

/-- the board seen as one with three sides: the first hand's cells and what lies behind the last column -/
def Ext (R C : Int) (S : Cell → Prop) (c : Cell) : Prop := C ≤ c.2 ∨ (c.1 < R ∧ S c)

theorem hex {R C : Int} (hR : 1 ≤ R) (hC : 1 ≤ C) (S : Cell → Prop) : (LR R C S ∨ TB R C fun c => ¬ S c) ∧ ¬ (LR R C S ∧ TB R C fun c => ¬ S c) := by
  have en : (((R + C - 2).toNat : Nat) : Int) + 1 = R + C - 1 := by omega
  have y := y_one (R + C - 2).toNat (Ext R C S)
  rw [en] at y
  constructor
  · rcases y.1 with h | h
    · refine .inl (lr_of_y hC h fun c _ u q => ?_)
      rcases u with u | u
      · omega
      · exact u
    · refine .inr (lr_flip (R := C) (C := R) (S := fun c => ¬ S c) ?_)
      have h2 := h.flip
      rw [show R + C - 1 = C + R - 1 by omega] at h2
      refine lr_of_y hR h2 fun c _ u q => ?_
      have u' : ¬ (C ≤ c.1 ∨ (c.2 < R ∧ S (flip c))) := u
      refine ⟨?_, fun s => u' (.inr ⟨q, s⟩)⟩
      have : ¬ C ≤ c.1 := fun z => u' (.inl z)
      omega
  · intro ⟨h1, h2⟩
    refine y.2 ⟨y_of_lr h1 (fun c b s => .inr ⟨b.2.1, s⟩) fun c _ q => .inl q, ?_⟩
    have h3 := tb_flip (R := C) (C := R) h2
    have y3 : YWin (C + R - 1) fun c => ¬ Ext R C S (flip c) := by
      refine y_of_lr h3 (fun c b s u => ?_) fun c t q u => ?_
      · have u' : C ≤ c.1 ∨ (c.2 < R ∧ S (flip c)) := u
        have s' : ¬ S (flip c) := s
        have b' := b.2.1
        rcases u' with u' | u'
        · omega
        · exact s' u'.2
      · have u' : C ≤ c.1 ∨ (c.2 < R ∧ S (flip c)) := u
        unfold T at t
        rcases u' with u' | u'
        · omega
        · omega
    have y4 := y3.flip
    rw [show C + R - 1 = R + C - 1 by omega] at y4
    exact y4
end SC
/-! # What all our proofs of this program share: contracts of defs, cells, dicts of cells, boards -/
namespace SC
open PySem L2

/-! ### contracts -/
section
variable {P : Program} {w : World} {K : PySem.W.Frag} {mg : Str → Option Value} {base : Heap}
theorem ofX0 {k : Nat} {f : Addr} {fd : FuncData} {ps : List Str} {sp : Sp} (F : FnOk P w K mg base CX0 k f fd ps sp) : FnOk P w K mg base (L2.CX P w) k f fd ps sp := by
  refine ⟨F.len, fun A outer s H args us vs Q E hr he hb hv hs => ?_⟩
  refine codeAny_mono (F.run A outer s H args us vs Q E hr he hb hv hs) fun r s' h => ?_
  cases r with
  | error e => exact False.elim h
  | ok fl => cases fl <;> exact h
end
/-- the name x stands for a def that keeps sp -/
structure Cl (P : Program) (w : World) (K : PySem.W.Frag) (mg : Str → Option Value) (base : Heap) (k : Nat) (x : Str) (sp : Sp) : Prop where
  ex : ∃ (f : Addr) (fd : FuncData) (ps : List Str), mg x = some (.ref f) ∧ PySem.W.keepIn K (.ref f) = true ∧ Binds K fd ps [] ∧ FnOk P w K mg base (L2.CX P w) k f fd ps sp
/-- the class at C has a method m that keeps sp -/
structure Mt (P : Program) (w : World) (K : PySem.W.Frag) (mg : Str → Option Value) (base : Heap) (k : Nat) (C : Addr) (m : Str) (sp : Sp) : Prop where
  ex : ∃ (f : Addr) (fd : FuncData) (ps : List Str), Meth K C m f ∧ Binds K fd ps [] ∧ FnOk P w K mg base (L2.CX P w) k f fd ps sp
/-- the name x stands for the class at C, made by an __init__ that keeps sp -/
structure Mkr (P : Program) (w : World) (K : PySem.W.Frag) (mg : Str → Option Value) (base : Heap) (k : Nat) (x : Str) (C : Addr) (sp : Sp) : Prop where
  ex : ∃ (f : Addr) (fd : FuncData) (ps : List Str), mg x = some (.ref C) ∧ Mk K C f ∧ Binds K fd ps [] ∧ FnOk P w K mg base (L2.CX P w) k f fd ps sp
section
variable {X : Cx} {k j : Nat} {x m : Str} {sp : Sp} {E : XK} {p pos apos : Pos} {e o : Expr} {es : List Expr} {t : TA} {ta : TE} {C : Addr}
theorem pe_cl (c : Cl X.prog X.w X.K X.mg X.base k x sp) (hr : Room j X.A) (hx : Passes (L2.CX X.prog X.w) X E) (ha : PA X (e :: es) t) (hk : k ≤ j := by decide) (hg : Gl X x := by rfl) (hdb : (x == ("__debug__" : Str)) = false := by decide)
    (he : starEach (e :: es) X.env = (false, eval e X.env) :: starEach es X.env := by rfl) (hpl : (backTo pos (starEach es X.env)).any (·.1) = false := by rfl) :
    PE X (.Call (.Name x p) (e :: es) [] pos) (tCall sp [] E t) := by
  obtain ⟨f, fd, ps, h1, h2, h3, h4⟩ := c.ex
  exact pe_call h4 (hr.mono hk) hg h1 h2 h3 .nil hx ha hdb he hpl
theorem pe_mth (c : Mt X.prog X.w X.K X.mg X.base k C m sp) (T : Cls X.K C) {pl : Sem Bool} (he : PE X o ta) (hr : Room j X.A) (hx : Passes (L2.CX X.prog X.w) X E) (ha : PA X (e :: es) t) (hk : k ≤ j := by decide)
    (hst : starEach (e :: es) X.env = (false, eval e X.env) :: starEach es X.env := by rfl) (hpl : (backTo pos (starEach es X.env)).any (·.1) = false := by rfl)
    (ht : eval (.Call (.Attribute o m apos) (e :: es) [] pos) X.env = (do
      let ov ← eval o X.env
      standAt apos.atName
      let (f, first) ← holding [ov] (getMethod ov m pl)
      callWith pos f first (backTo pos (starEach (e :: es) X.env)) (backToKw pos (keywordEach [] X.env))) := by rfl) :
    PE X (.Call (.Attribute o m apos) (e :: es) [] pos) (tMeth C m sp [] E ta t) := by
  obtain ⟨f, fd, ps, h1, h3, h4⟩ := c.ex
  exact pe_meth he T h1 h4 (hr.mono hk) h3 .nil hx ha hst hpl ht
theorem pe_mth0 (c : Mt X.prog X.w X.K X.mg X.base k C m sp) (T : Cls X.K C) {pl : Sem Bool} (he : PE X o ta) (hr : Room j X.A) (hx : Passes (L2.CX X.prog X.w) X E) (hk : k ≤ j := by decide)
    (ht : eval (.Call (.Attribute o m apos) [] [] pos) X.env = (do
      let ov ← eval o X.env
      standAt apos.atName
      let (f, first) ← holding [ov] (getMethod ov m pl)
      callWith pos f first (backTo pos (starEach [] X.env)) (backToKw pos (keywordEach [] X.env))) := by rfl) :
    PE X (.Call (.Attribute o m apos) [] [] pos) (tMeth C m sp [] E ta tNil) := by
  obtain ⟨f, fd, ps, h1, h3, h4⟩ := c.ex
  exact pe_meth0 he T h1 h4 (hr.mono hk) h3 .nil hx ht
theorem pe_mkr (c : Mkr X.prog X.w X.K X.mg X.base k x C sp) (hr : Room j X.A) (hx : Passes (L2.CX X.prog X.w) X E) (ha : PA X (e :: es) t) (hk : k + 1 ≤ j := by decide) (hg : Gl X x := by rfl) (hdb : (x == ("__debug__" : Str)) = false := by decide)
    (he : starEach (e :: es) X.env = (false, eval e X.env) :: starEach es X.env := by rfl) (hpl : (backTo pos (starEach es X.env)).any (·.1) = false := by rfl) :
    PE X (.Call (.Name x p) (e :: es) [] pos) (tMake C sp [] E t) := by
  obtain ⟨f, fd, ps, h1, h2, h3, h4⟩ := c.ex
  exact pe_make h2 h4 (hr.mono hk) hg h1 h3 .nil hx ha hdb he hpl

/-! ### the same within a try: what is raised is wished for at the slots as they stand -/
/-- o.m(e, ..) within a try -/
def tMthS (C : Addr) (m : Str) (sp : Sp) (E : L2.St → XK) (ta : TE) (t : TA) : TE := fun σ H Q => ta σ H fun x H1 => ∃ a dx fs, x = .ref a ∧ H1 a = some (.ins C dx fs) ∧ fs.lookup m = none ∧ t σ H1 fun vs H2 => sp (x :: vs) H2 Q (E σ)
theorem pe_mthS {ES : L2.St → XK} {pl : Sem Bool} (c : Mt X.prog X.w X.K X.mg X.base k C m sp) (T : Cls X.K C) (he : PE X o ta) (hr : Room j X.A) (hx : ∀ σ, PassesAt (L2.CX X.prog X.w) X σ (ES σ)) (ha : PA X (e :: es) t) (hk : k ≤ j := by decide)
    (hst : starEach (e :: es) X.env = (false, eval e X.env) :: starEach es X.env := by rfl) (hpl : (backTo pos (starEach es X.env)).any (·.1) = false := by rfl)
    (ht : eval (.Call (.Attribute o m apos) (e :: es) [] pos) X.env = (do
      let ov ← eval o X.env
      standAt apos.atName
      let (f, first) ← holding [ov] (getMethod ov m pl)
      callWith pos f first (backTo pos (starEach (e :: es) X.env)) (backToKw pos (keywordEach [] X.env))) := by rfl) :
    PE X (.Call (.Attribute o m apos) (e :: es) [] pos) (tMthS C m sp ES ta t) := by
  obtain ⟨f, fd, ps, hm, hb, F⟩ := c.ex
  have hr := hr.mono hk
  refine ⟨fun pins s σ H Q I h => ?_⟩
  refine PySem.W.methodCall_KW (pl := pl) (thn (he.run pins s σ H _ I h) fun u s1 ⟨x, H1, I1, rx, a, dx, fs, ex, ea, l, q⟩ => ?_) ht
  subst ex
  obtain rfl : u = Value.ref a := rx
  refine getmeth_ok I1 ea T hm l ?_
  refine PySem.W.callWith_K (first := [.ref a]) (h₀ := X.base) I.ok.mod.kin hm.kp (thn (ha.run pos pins s1 σ H1 _ I1 q) fun us s2 ⟨vs, H2, I2, r, q2⟩ => ⟨I2.kIn, ?_⟩) hst hpl
  exact run_fnS (us := .ref a :: us) (vs := .ref a :: vs) F hr hb (hx σ) I2 (.cons rfl r) q2
/-- f(e, ..) within a try -/
theorem pe_clS {ES : L2.St → XK} (c : Cl X.prog X.w X.K X.mg X.base k x sp) (hr : Room j X.A) (hx : ∀ σ, PassesAt (L2.CX X.prog X.w) X σ (ES σ)) (ha : PA X (e :: es) t) (hk : k ≤ j := by decide) (hg : Gl X x := by rfl) (hdb : (x == ("__debug__" : Str)) = false := by decide)
    (he : starEach (e :: es) X.env = (false, eval e X.env) :: starEach es X.env := by rfl) (hpl : (backTo pos (starEach es X.env)).any (·.1) = false := by rfl) :
    PE X (.Call (.Name x p) (e :: es) [] pos) (fun σ H Q => t σ H fun vs H1 => sp vs H1 Q (ES σ)) := by
  obtain ⟨f, fd, ps, hm, hkp, hb, F⟩ := c.ex
  have hr := hr.mono hk
  refine ⟨fun pins s σ H Q I h => ?_⟩
  refine wpAny_Call_Name_kw (ld_glob I hg hm ?_ hdb)
  refine PySem.W.callWith_K (h₀ := X.base) I.ok.mod.kin hkp (thn (ha.run pos pins s σ H _ I h) fun us s1 ⟨vs, H1, I1, r, q⟩ => ⟨I1.kIn, ?_⟩) he hpl
  exact run_fnS F hr hb (hx σ) I1 r q
/-- C(e, ..) within a try -/
theorem pe_mkrS {ES : L2.St → XK} (c : Mkr X.prog X.w X.K X.mg X.base k x C sp) (hr : Room j X.A) (hx : ∀ (σ : L2.St), PassesAt (L2.CX X.prog X.w) X σ (ES σ)) (ha : PA X (e :: es) t) (hk : k + 1 ≤ j := by decide) (hg : Gl X x := by rfl) (hdb : (x == ("__debug__" : Str)) = false := by decide)
    (he : starEach (e :: es) X.env = (false, eval e X.env) :: starEach es X.env := by rfl) (hpl : (backTo pos (starEach es X.env)).any (·.1) = false := by rfl) :
    PE X (.Call (.Name x p) (e :: es) [] pos) (fun σ H Q => t σ H fun vs H1 => ∀ x dx, H1 x = none → H1 dx = none → dx ≠ x →
      sp (.ref x :: vs) (upd (upd H1 dx (.own x)) x (.ins C dx [])) (fun v H2 => v = .non ∧ Q (.ref x) H2) (ES σ)) := by
  obtain ⟨f, fd, ps, hm, M, hb, F⟩ := c.ex
  have hr := hr.mono hk
  refine ⟨fun pins s σ H Q I h => ?_⟩
  refine wpAny_Call_Name_kw (ld_glob I hg hm ?_ hdb)
  refine PySem.W.callWith_K (h₀ := X.base) I.ok.mod.kin M.kp (thn (ha.run pos pins s σ H _ I h) fun us s1 ⟨vs, H1, I1, r, q⟩ => ⟨I1.kIn, ?_⟩) he hpl
  have hq := q (s1.heap.objs.size + 1) s1.heap.objs.size (I1.hok.fresh (Nat.le_succ _)) (I1.hok.fresh (Nat.le_refl _)) (Nat.ne_of_lt (Nat.lt_succ_self _))
  have I2 := Inv.made (C := C) I1
  have r2 : Vals (V.ref (s1.heap.objs.size + 1) :: vs) (Value.ref (s1.heap.objs.size + 1) :: us) := .cons rfl r
  have hl : ((Value.ref (s1.heap.objs.size + 1) :: us) ++ []).length = ps.length := by
    have e := r2.length
    rw [F.len _ _ _ _ hq] at e
    rw [List.append_nil]
    exact e.symm
  have hbb := hb _ (Value.ref (s1.heap.objs.size + 1) :: us) I2.kIn hl
  rw [List.append_nil] at hbb
  refine wpAny_call (make_map (f := f) I1.kIn M.makes M.init (beq_iff_eq.mp M.fn) (codeAny_mono (F.run _ X.stack _ _ ⟨Value.ref (s1.heap.objs.size + 1) :: us, []⟩ (Value.ref (s1.heap.objs.size + 1) :: us) _ _ (ES σ) (hr.make C us [])
    (I2.env0.make C us []) hbb r2 hq) fun r s' hq' => ?_))
  cases r with
  | error e => exact hx σ pins _ _ e s' I2 hq'
  | ok fl =>
    cases fl with
    | ret u =>
      obtain ⟨v, H', I3, rv, ev, q3⟩ := I2.after hq'
      subst ev
      exact ⟨rv, ⟨V.ref (s1.heap.objs.size + 1), H', I3, rfl, q3⟩⟩
    | next => exact False.elim hq'
    | brk => exact False.elim hq'
    | cont => exact False.elim hq'
end
section
variable {P : Program} {w : World} {K : PySem.W.Frag} {mg : Str → Option Value} {base : Heap}
theorem Cl.mk' {k : Nat} {x : Str} {sp : Sp} {qual : Str} {st : Stmt} {f : Addr} {fd : FuncData} {ps : List Str} (F : Fun K x qual st f fd) (hm : mg x = some (.ref f)) (hb : Binds K fd ps []) (h : FnOk P w K mg base (L2.CX P w) k f fd ps sp) : Cl P w K mg base k x sp := ⟨f, fd, ps, hm, F.kp, hb, h⟩
theorem Cl.mono {k j : Nat} {x : Str} {sp : Sp} (c : Cl P w K mg base k x sp) (h : k ≤ j) : Cl P w K mg base j x sp := by
  obtain ⟨f, fd, ps, h1, h2, h3, h4⟩ := c.ex
  exact ⟨f, fd, ps, h1, h2, h3, h4.mono h⟩
theorem Mt.mono {k j : Nat} {C : Addr} {m : Str} {sp : Sp} (c : Mt P w K mg base k C m sp) (h : k ≤ j) : Mt P w K mg base j C m sp := by
  obtain ⟨f, fd, ps, h1, h3, h4⟩ := c.ex
  exact ⟨f, fd, ps, h1, h3, h4.mono h⟩
end

/-- an own exception class as the top has made it -/
structure XC (K : PySem.W.Frag) (mg : Str → Option Value) (x : Str) (C : Addr) : Prop where
  g : mg x = some (.ref C)
  x : PySem.W.excIn K C [.type "ValueError", .type "Exception", .type "BaseException", .type "object"] "ValueError.__new__" = true
  k : PySem.W.keepIn K (.ref C) = true
  b : PySem.W.subIn K (.ref C) (.type "BaseException") = some true
  t : PySem.W.typeIn K (.ref C) = some (.type "type")
/-- raise x('..') -/
theorem ps_rz {X : Cx} {W : WX} {x m : Str} {C : Addr} {j : Nat} {p p2 pos pos2 : Pos} (c : XC X.K X.mg x C) (tk : Takes X W) (hc : X.calm = true := by rfl) (hg : Gl X x := by rfl) (hdb : (x == ("__debug__" : Str)) = false := by decide) :
    PS X (.Raise (some (.Call (.Name x p) [.Constant (.str m) j p2] [] pos)) none pos2) (fun _ σ H => W (.ref C) none σ H) :=
  ps_raise hc tk (pmk_own PySem.F.excBase_ValueError c.x c.g c.k (raises_own c.b c.t) hg hdb)
theorem if_t {c : Bool} {A B : Prop} (hc : c = true) (h : A) : if c = true then A else B := by
  rw [if_pos hc]
  exact h
theorem if_f {c : Bool} {A B : Prop} (hc : c = false) (h : B) : if c = true then A else B := by
  rw [hc, if_neg Bool.false_ne_true]
  exact h
theorem if_b {c : Bool} {A B : Prop} (h1 : c = true → A) (h2 : c = false → B) : if c = true then A else B := by
  cases c
  · rw [if_neg Bool.false_ne_true]; exact h2 rfl
  · rw [if_pos rfl]; exact h1 rfl
end SC
namespace SC
open PySem PyProof.Rows L2

theorem ifD {p : Prop} [Decidable p] {A B : Prop} (h1 : p → A) (h2 : ¬ p → B) : if decide p = true then A else B := by
  by_cases h : p
  · rw [if_pos (decide_eq_true h)]; exact h1 h
  · rw [if_neg (by rw [decide_eq_false h]; exact Bool.false_ne_true)]; exact h2 h
theorem ifN {p : Prop} [Decidable p] {A B : Prop} (h1 : ¬ p → A) (h2 : p → B) : if (!decide p) = true then A else B := by
  by_cases h : p
  · rw [decide_eq_true h, if_neg (by decide)]; exact h2 h
  · rw [decide_eq_false h, if_pos (by decide)]; exact h1 h
theorem ifNN {b : Bool} {A B : Prop} (h1 : b = false → A) (h2 : b = true → B) : if (!b) = true then A else B := by
  cases b
  · exact h1 rfl
  · exact h2 rfl
theorem ifI {a b : Int} {A B : Prop} (h1 : a = b → A) (h2 : a ≠ b → B) : if decide (V.int a = V.int b) = true then A else B := ifD (fun h => h1 (V.int.inj h)) fun h => h2 fun z => h (by rw [z])
theorem ifIN {a b : Int} {A B : Prop} (h1 : a ≠ b → A) (h2 : a = b → B) : if (!decide (V.int a = V.int b)) = true then A else B := ifN (fun h => h1 fun z => h (by rw [z])) fun h => h2 (V.int.inj h)

/-! ### where things stand -/
/-- addresses (and tokens) that the top has given -/
structure Ad where
  C : Addr
  eBoardError : Addr
  eNoBoard : Addr
  eNoCell : Addr
  eNoHand : Addr
  eCellTaken : Addr
  eCellEmpty : Addr
  tG : Tok
  tS : Tok
  aAROUND : Addr
/-- what the top has left, the same for every law -/
structure Top (K : PySem.W.Frag) (mg : Str → Option Value) (D : Ad) : Prop where
  cl : Cls K D.C
  nH : NoAttr K D.C "height"
  nW : NoAttr K D.C "width"
  nO : NoAttr K D.C "owners"
  g_GREATEST : mg "GREATEST" = some (.int 10 D.tG)
  len : mg "len" = none
  range : mg "range" = none
  isinstance : mg "isinstance" = none
  min : mg "min" = none
  sorted : mg "sorted" = none
  list : mg "list" = none
  set : mg "set" = none
  int : mg "int" = none
  bool : mg "bool" = none
  tuple : mg "tuple" = none
  str : mg "str" = none
  ValueError : mg "ValueError" = none
theorem pe_ty {X : Cx} {x : Str} {n : String} {pos : Pos} (hm : X.mg x = none) (hv : bootBuiltins x = some (.type n)) (hg : Gl X x := by rfl) (hn : x ≠ "__name__" := by decide) (hdb : (x == ("__debug__" : Str)) = false := by decide) : PE X (.Name x pos) (tC (.ty n)) :=
  pe_bltn hg hm hv rfl hn hdb

theorem ix_tupK {X : Cx} (K : PySem.W.Frag) (h : X.K = K := by rfl) : IxR X (rIxT K) := by subst h; exact ix_tup
theorem pe_fldK {X : Cx} (K : PySem.W.Frag) {e : Expr} {f : Str} {ta : TE} {pos : Pos} (he : PE X e ta) (hb : attributeBase e f X.env (eval e X.env) = eval e X.env) (h : X.K = K := by rfl) : PE X (.Attribute e f pos) (tFld K ta f) := by subst h; exact pe_fld he hb

/-- 0 <= b < c, c a name -/
def tBtw (n : Nat) (tb : TE) : TT := fun σ H Q => tb σ H fun y H2 => ∃ j k : Int, y = .int j ∧ σ[n]? = some (some (.int k)) ∧ Q (decide (0 ≤ j ∧ j < k)) H2
theorem pt_btw {X : Cx} {n : Nat} {b c : Expr} {tb : TE} {jj : Nat} {p0 pos : Pos} (hb : PE X b tb) (hc : PE X c (tVar n)) (hm : lastMarks [.LtE, .Lt] [b, c] = false := by with_unfolding_all rfl) :
    PT X (.Compare (.Constant (.int 0) jj p0) [.LtE, .Lt] [b, c] pos) (tBtw n tb) := by
  refine ⟨fun pins s σ H Q I h => ?_⟩
  refine isTrue_chain (thn ((pe_int (X := X)).run pins s σ H (fun x H1 => x = V.int 0 ∧ H1 = H) I ⟨rfl, rfl⟩) fun v s1 hh => ?_) hm
  obtain ⟨x, H1, I1, r1, e1, e2⟩ := hh
  subst e1
  subst e2
  refine test_link (thn (hb.run pins s1 σ _ _ I1 h) fun u s2 hh => ?_)
  obtain ⟨y, H2, I2, r2, j, k, ey, hk, q⟩ := hh
  subst ey
  refine thn (op_le pins s2 σ H2 (.int 0) (.int j) v u (fun z H3 => z = V.bl (decide (0 ≤ j)) ∧ H3 = H2) I2 r1 r2 ⟨_, _, rfl, rfl, rfl, rfl⟩) fun d s3 hh => ?_
  obtain ⟨z, H3, I3, r3, e3, e4⟩ := hh
  subst e3
  subst e4
  cases r3
  refine wpAny_truthy_bool ?_
  by_cases hj : 0 ≤ j
  · rw [decide_eq_true hj]
    refine ite_tt (test_last (thn (hc.run pins s3 σ _ (fun z H4 => z = V.int k ∧ H4 = H3) I3 ⟨_, hk, rfl, rfl⟩) fun w' s4 hh => ?_))
    obtain ⟨z', H4, I4, r4, e5, e6⟩ := hh
    subst e5
    subst e6
    refine thn (op_lt pins s4 σ _ (.int j) (.int k) u w' (fun z H3 => z = V.bl (decide (j < k)) ∧ H3 = H4) I4 r2 r4 ⟨_, _, rfl, rfl, rfl, rfl⟩) fun d' s5 hh => ?_
    obtain ⟨z5, H5, I5, r5, e7, e8⟩ := hh
    subst e7
    subst e8
    cases r5
    have e : decide (0 ≤ j ∧ j < k) = decide (j < k) := decide_eq_decide.mpr ⟨fun z => z.2, fun z => ⟨hj, z⟩⟩
    rw [e] at q
    exact wpAny_truthy_bool ⟨H5, I5, q⟩
  · rw [decide_eq_false hj]
    rw [decide_eq_false fun z => hj z.1] at q
    exact ite_ff ⟨_, I3, q⟩

/-! ### cells in the heap -/
/-- v is the pair c -/
def PairAt (H : Hp) (v : V) (c : Cell) : Prop := ∃ t, v = .ref t ∧ H t = some (.tup [.int c.1, .int c.2])
abbrev Cells (H : Hp) : List V → List Cell → Prop := Paired (PairAt H)
theorem PairAt.same {H H' : Hp} {v : V} {c : Cell} (h : PairAt H v c) (s : Same H H') : PairAt H' v c := by
  obtain ⟨t, e, ht⟩ := h
  exact ⟨t, e, s _ _ ht⟩
theorem Cells.same {H H' : Hp} {vs : List V} {cs : List Cell} (h : Cells H vs cs) (s : Same H H') : Cells H' vs cs := L2.Paired.mapP h fun _ _ p => p.same s
theorem PairAt.upd {H : Hp} {v : V} {c : Cell} {a : Addr} {o o' : HO} (h : PairAt H v c) (ha : H a = some o) (hn : ∀ xs, o ≠ .tup xs) : PairAt (upd H a o') v c := by
  obtain ⟨t, e, ht⟩ := h
  exact ⟨t, e, by rw [upd_ne (ne_of ht ha fun z => hn _ z.symm)]; exact ht⟩
theorem Cells.upd {H : Hp} {vs : List V} {cs : List Cell} {a : Addr} {o o' : HO} (h : Cells H vs cs) (ha : H a = some o) (hn : ∀ xs, o ≠ .tup xs) : Cells (upd H a o') vs cs := L2.Paired.mapP h fun _ _ p => p.upd ha hn
theorem same_upd {H : Hp} {a : Addr} {o : HO} (h : H a = none) : Same H (upd H a o) := fun b u e => by rw [upd_ne (ne_of_none e h)]; exact e
theorem paired_len {α β : Type} {F : α → β → Prop} {l : List α} {m : List β} (h : Paired F l m) : l.length = m.length := Paired.length h
theorem paired_get {α β : Type} {F : α → β → Prop} : ∀ {l : List α} {m : List β} {i : Nat} {x : α}, Paired F l m → l[i]? = some x → ∃ y, m[i]? = some y ∧ F x y
  | _, _, _, _, .nil, h => by simp at h
  | _, _, 0, _, .cons f _, h => by
    simp at h; subst h; exact ⟨_, rfl, f⟩
  | _, _, i + 1, x, .cons _ t, h => by
    simp at h
    obtain ⟨y, h1, h2⟩ := paired_get (i := i) t h
    exact ⟨y, by simpa using h1, h2⟩
theorem paired_get' {α β : Type} {F : α → β → Prop} : ∀ {l : List α} {m : List β} {i : Nat} {y : β}, Paired F l m → m[i]? = some y → ∃ x, l[i]? = some x ∧ F x y
  | _, _, _, _, .nil, h => by simp at h
  | _, _, 0, _, .cons f _, h => by
    simp at h; subst h; exact ⟨_, rfl, f⟩
  | _, _, i + 1, x, .cons _ t, h => by
    simp at h
    obtain ⟨y, h1, h2⟩ := paired_get' (i := i) t h
    exact ⟨y, by simpa using h1, h2⟩
theorem paired_app {α β : Type} {F : α → β → Prop} : ∀ {l l2 : List α} {m m2 : List β}, Paired F l m → Paired F l2 m2 → Paired F (l ++ l2) (m ++ m2)
  | _, _, _, _, .nil, g => g
  | _, _, _, _, .cons f t, g => .cons f (paired_app t g)
theorem take_more {α : Type} : ∀ {l : List α} {i : Nat} {x : α}, l[i]? = some x → l.take (i + 1) = l.take i ++ [x]
  | [], i, x, h => by simp at h
  | a :: l, 0, x, h => by
    have e : a = x := Option.some.inj h
    subst e
    rfl
  | a :: l, i + 1, x, h => by
    have ih := take_more (l := l) (i := i) (x := x) h
    show a :: l.take (i + 1) = a :: l.take i ++ [x]
    rw [ih]
    rfl

/-! ### dicts of cells -/
abbrev key (c : Cell) : List Key := [Sum.inl c.1, Sum.inl c.2]
def dk {α : Type} (g : α → V) (kvs : List (Cell × α)) : List (List Key × V) := kvs.map fun p => (key p.1, g p.2)
theorem key_inj {a b : Cell} (h : key a = key b) : a = b := by
  injection h with h1 h2
  injection h2 with h2 _
  injection h1 with h1
  injection h2 with h2
  exact Prod.ext h1 h2
theorem kv_key (c : Cell) : (key c).map kV = [V.int c.1, V.int c.2] := rfl
/-- what a dict holds -/
def lk {α : Type} (kvs : List (Cell × α)) (c : Cell) : Option α := (kvs.find? fun p => decide (p.1 = c)).map (·.2)
theorem lk_nil {α : Type} (c : Cell) : lk ([] : List (Cell × α)) c = none := rfl
theorem lk_cons {α : Type} (p : Cell × α) (r : List (Cell × α)) (c : Cell) : lk (p :: r) c = if p.1 = c then some p.2 else lk r c := by
  unfold lk
  rw [List.find?_cons]
  by_cases h : p.1 = c
  · simp [h]
  · simp [h]
theorem val_dk {α : Type} (g : α → V) : ∀ (kvs : List (Cell × α)) (c : Cell), valV (dk g kvs) (key c) = (lk kvs c).map g
  | [], _ => rfl
  | p :: r, c => by
    have ih := val_dk g r c
    unfold valV at ih ⊢
    unfold dk at ih ⊢
    rw [List.map_cons, List.find?_cons, lk_cons]
    by_cases h : p.1 = c
    · subst h; simp
    · have h2 : ¬ key p.1 = key c := fun z => h (key_inj z)
      simp only [h2, decide_false, if_neg h]
      exact ih
theorem lk_some {α : Type} : ∀ {kvs : List (Cell × α)} {c : Cell} {v : α}, lk kvs c = some v → (c, v) ∈ kvs
  | [], _, _, h => by simp [lk] at h
  | p :: r, c, v, h => by
    rw [lk_cons] at h
    by_cases e : p.1 = c
    · rw [if_pos e] at h
      cases h
      subst e
      exact List.mem_cons_self ..
    · rw [if_neg e] at h
      exact List.mem_cons_of_mem _ (lk_some h)
theorem lk_none {α : Type} : ∀ {kvs : List (Cell × α)} {c : Cell}, lk kvs c = none ↔ c ∉ kvs.map (·.1)
  | [], _ => by simp [lk]
  | p :: r, c => by
    rw [lk_cons, List.map_cons, List.mem_cons, not_or]
    by_cases e : p.1 = c
    · simp [e]
    · rw [if_neg e, lk_none (kvs := r)]
      exact ⟨fun h => ⟨fun z => e z.symm, h⟩, fun h => h.2⟩
theorem lk_mem {α : Type} : ∀ {kvs : List (Cell × α)} {c : Cell} {v : α}, (kvs.map (·.1)).Nodup → (c, v) ∈ kvs → lk kvs c = some v
  | [], _, _, _, h => by simp at h
  | p :: r, c, v, nd, h => by
    rw [List.map_cons, List.nodup_cons] at nd
    rw [lk_cons]
    rcases List.mem_cons.mp h with h | h
    · subst h; simp
    · have hc : c ∈ r.map (·.1) := List.mem_map.mpr ⟨_, h, rfl⟩
      rw [if_neg fun z => nd.1 (by rw [z]; exact hc)]
      exact lk_mem nd.2 h
/-- a store of a new key -/
theorem lk_snoc {α : Type} (kvs : List (Cell × α)) (a : Cell) (v : α) (c : Cell) (h : lk kvs a = none) : lk (kvs ++ [(a, v)]) c = if a = c then some v else lk kvs c := by
  induction kvs with
  | nil => rw [List.nil_append, lk_cons]
  | cons p r ih =>
    rw [lk_cons] at h
    by_cases e : p.1 = a
    · rw [if_pos e] at h; cases h
    · rw [if_neg e] at h
      rw [List.cons_append, lk_cons, lk_cons, ih h]
      by_cases e2 : p.1 = c
      · rw [if_pos e2, if_pos e2, if_neg fun z => e (e2.trans z.symm)]
      · rw [if_neg e2, if_neg e2]
theorem put_dk {α : Type} (g : α → V) (kvs : List (Cell × α)) (a : Cell) (v : α) (h : lk kvs a = none) : putK (dk g kvs) (key a) (g v) = dk g (kvs ++ [(a, v)]) := by
  rw [putK_new _ (by rw [val_dk, h]; rfl)]
  unfold dk
  rw [List.map_append]
  rfl
def drop {α : Type} (kvs : List (Cell × α)) (c : Cell) : List (Cell × α) := kvs.filter fun p => decide (p.1 ≠ c)
theorem drop_dk {α : Type} (g : α → V) (kvs : List (Cell × α)) (a : Cell) : dropK (dk g kvs) (key a) = dk g (drop kvs a) := by
  induction kvs with
  | nil => rfl
  | cons p r ih =>
    unfold dk dropK drop at ih ⊢
    rw [List.map_cons, List.filter_cons, List.filter_cons]
    by_cases e : p.1 = a
    · subst e
      simp only [ne_eq, not_true, decide_false, Bool.false_eq_true, if_false]
      exact ih
    · have e2 : ¬ key p.1 = key a := fun z => e (key_inj z)
      simp only [ne_eq, e, e2, not_false_eq_true, decide_true, if_true, List.map_cons]
      rw [ih]
theorem lk_drop {α : Type} (kvs : List (Cell × α)) (a c : Cell) : lk (drop kvs a) c = if a = c then none else lk kvs c := by
  induction kvs with
  | nil => simp [drop, lk]
  | cons p r ih =>
    unfold drop at ih ⊢
    rw [List.filter_cons]
    by_cases e : p.1 = a
    · subst e
      simp only [ne_eq, not_true, decide_false, Bool.false_eq_true, if_false]
      rw [ih, lk_cons]
      by_cases e2 : p.1 = c
      · rw [if_pos e2, if_pos e2]
      · rw [if_neg e2, if_neg e2, if_neg e2]
    · simp only [ne_eq, e, not_false_eq_true, decide_true, if_true]
      rw [lk_cons, lk_cons, ih]
      by_cases e2 : p.1 = c
      · rw [if_pos e2, if_pos e2, if_neg fun z => e (e2.trans z.symm)]
      · rw [if_neg e2, if_neg e2]
theorem drop_nodup {α : Type} {kvs : List (Cell × α)} {a : Cell} (h : (kvs.map (·.1)).Nodup) : ((drop kvs a).map (·.1)).Nodup := h.sublist (List.filter_sublist.map _)
theorem drop_sub {α : Type} {kvs : List (Cell × α)} {a : Cell} {p : Cell × α} (h : p ∈ drop kvs a) : p ∈ kvs := (List.mem_filter.mp h).1
theorem drop_len {α : Type} (kvs : List (Cell × α)) (a : Cell) : (drop kvs a).length ≤ kvs.length := List.length_filter_le _ _
theorem snoc_nodup {α : Type} {kvs : List (Cell × α)} {a : Cell} {v : α} (h : (kvs.map (·.1)).Nodup) (n : lk kvs a = none) : ((kvs ++ [(a, v)]).map (·.1)).Nodup := by
  rw [List.map_append]
  exact nd_snoc h (lk_none.mp n)

/-! ### a board -/
abbrev flds (R C : Int) (d : Addr) : List (Str × V) := [("height", .int R), ("width", .int C), ("owners", .ref d)]
theorem lk_here {k : Str} {v : V} {r : List (Str × V)} : List.lookup k ((k, v) :: r) = some v := by
  have e : (k == k) = true := beq_self_eq_true k
  simp only [List.lookup, e]
theorem lk_past {k g : Str} {v : V} {r : List (Str × V)} (h : (k == g) = false) : List.lookup k ((g, v) :: r) = List.lookup k r := by
  simp only [List.lookup, h]
theorem fl_H (R C : Int) (d : Addr) : (flds R C d).lookup ("height" : Str) = some (.int R) := lk_here
theorem fl_W (R C : Int) (d : Addr) : (flds R C d).lookup ("width" : Str) = some (.int C) := (lk_past (by decide +kernel)).trans lk_here
theorem fl_O (R C : Int) (d : Addr) : (flds R C d).lookup ("owners" : Str) = some (.ref d) := (lk_past (by decide +kernel)).trans ((lk_past (by decide +kernel)).trans lk_here)
theorem fl_no (R C : Int) (d : Addr) {m : Str} (h1 : (m == ("height" : Str)) = false) (h2 : (m == ("width" : Str)) = false) (h3 : (m == ("owners" : Str)) = false) : (flds R C d).lookup m = none :=
  (lk_past h1).trans ((lk_past h2).trans ((lk_past h3).trans rfl))
theorem fl_mk (R C : Int) (d : Addr) : putF "owners" (.ref d) (putF "width" (.int C) (putF "height" (.int R) [])) = flds R C d := by
  have h1 : ¬ (("height" : Str) = "width") := by decide +kernel
  have h2 : ¬ (("height" : Str) = "owners") := by decide +kernel
  have h3 : ¬ (("width" : Str) = "owners") := by decide +kernel
  show putF "owners" (.ref d) (if ("height" : Str) = "width" then _ else (("height" : Str), V.int R) :: putF "width" (.int C) []) = _
  rw [if_neg h1]
  show (if ("height" : Str) = "owners" then _ else (("height" : Str), V.int R) :: putF "owners" (.ref d) [(("width" : Str), V.int C)]) = _
  rw [if_neg h2]
  show _ :: (if ("width" : Str) = "owners" then _ else (("width" : Str), V.int C) :: putF "owners" (.ref d) []) = _
  rw [if_neg h3]
  rfl
/-- whose the cells are: the pairs of a board's dict -/
abbrev Own := List (Cell × Int)
def ow (kv : Own) (c : Cell) : Int := (lk kv c).getD 0
/-- a board's own state is in form -/
structure BOk (R C : Int) (kv : Own) : Prop where
  r1 : 1 ≤ R
  r2 : R ≤ 10
  c1 : 1 ≤ C
  c2 : C ≤ 10
  nd : (kv.map (·.1)).Nodup
  ok : ∀ p ∈ kv, B R C p.1 ∧ (p.2 = 1 ∨ p.2 = 2)
/-- a Board stands at b, its dict at d -/
structure BoardAt (D : Ad) (H : Hp) (b d : Addr) (R C : Int) (kv : Own) : Prop where
  ob : ∃ dx, H b = some (.ins D.C dx (flds R C d))
  dc : H d = some (.dT (dk V.int kv))
  ok : BOk R C kv
theorem BoardAt.same {D : Ad} {H H' : Hp} {b d : Addr} {R C : Int} {kv : Own} (h : BoardAt D H b d R C kv) (s : Same H H') : BoardAt D H' b d R C kv := by
  obtain ⟨⟨dx, h1⟩, h2, h3⟩ := h
  exact ⟨⟨dx, s _ _ h1⟩, s _ _ h2, h3⟩
theorem BoardAt.ne {D : Ad} {H : Hp} {b d : Addr} {R C : Int} {kv : Own} (h : BoardAt D H b d R C kv) : b ≠ d := by
  obtain ⟨⟨dx, h1⟩, h2, h3⟩ := h
  exact ne_of h1 h2 (by intro z; cases z)
/-- the cells of a board are few -/
theorem pigeon {α : Type} [DecidableEq α] : ∀ (l m : List α), l.Nodup → (∀ x ∈ l, x ∈ m) → l.length ≤ m.length
  | [], m, _, _ => Nat.zero_le _
  | a :: l, m, nd, h => by
    rw [List.nodup_cons] at nd
    have h1 := pigeon l (m.erase a) nd.2 fun x hx => (List.mem_erase_of_ne fun z => nd.1 (by rw [← z]; exact hx)).mpr (h x (List.mem_cons_of_mem _ hx))
    have h2 : (m.erase a).length + 1 = m.length := by
      have := List.length_erase_of_mem (h a (List.mem_cons_self ..))
      have := List.length_pos_of_mem (h a (List.mem_cons_self ..))
      omega
    rw [List.length_cons]
    omega
/-- all cells, row by row -/
def cellsN (R C : Nat) : List Cell := (List.range R).flatMap fun (r : Nat) => (List.range C).map fun (c : Nat) => (((r : Nat) : Int), ((c : Nat) : Int))
def cells (R C : Int) : List Cell := cellsN R.toNat C.toNat
theorem mem_cells {R C : Int} {c : Cell} : c ∈ cells R C ↔ B R C c := by
  unfold cells cellsN B
  simp only [List.mem_flatMap, List.mem_range, List.mem_map]
  constructor
  · rintro ⟨r, hr, k, hk, rfl⟩
    dsimp only
    omega
  · intro h
    exact ⟨c.1.toNat, by omega, c.2.toNat, by omega, Prod.ext (by dsimp only; omega) (by dsimp only; omega)⟩
theorem cells_len (R C : Int) : (cells R C).length = R.toNat * C.toNat := by
  unfold cells cellsN
  induction R.toNat with
  | zero => simp
  | succ n ih =>
    rw [List.range_succ, List.flatMap_append, List.length_append, ih]
    simp [Nat.succ_mul]
theorem cells_small {R C : Int} (hr : R ≤ 10) (hc : C ≤ 10) : (cells R C).length ≤ 100 := by
  rw [cells_len]
  have h1 : R.toNat ≤ 10 := by omega
  have h2 : C.toNat ≤ 10 := by omega
  exact Nat.mul_le_mul h1 h2
theorem few {α : Type} {R C : Int} {kvs : List (Cell × α)} (hr : R ≤ 10) (hc : C ≤ 10) (nd : (kvs.map (·.1)).Nodup) (h : ∀ p ∈ kvs, B R C p.1) : kvs.length ≤ 100 := by
  have h1 := pigeon (kvs.map (·.1)) (cells R C) nd fun x hx => by
    obtain ⟨p, hp, e⟩ := List.mem_map.mp hx
    rw [← e]
    exact mem_cells.mpr (h p hp)
  rw [List.length_map] at h1
  exact Nat.le_trans h1 (cells_small hr hc)
theorem fewc {R C : Int} {cs : List Cell} (hr : R ≤ 10) (hc : C ≤ 10) (nd : cs.Nodup) (h : ∀ p ∈ cs, B R C p) : cs.length ≤ 100 :=
  Nat.le_trans (pigeon cs (cells R C) nd fun x hx => mem_cells.mpr (h x hx)) (cells_small hr hc)
theorem BOk.few {R C : Int} {kv : Own} (h : BOk R C kv) : kv.length ≤ 100 := SC.few h.r2 h.c2 h.nd fun p hp => (h.ok p hp).1
theorem BOk.ow_hand {R C : Int} {kv : Own} (h : BOk R C kv) (c : Cell) : (ow kv c = 0 ∧ lk kv c = none) ∨ ((ow kv c = 1 ∨ ow kv c = 2) ∧ lk kv c = some (ow kv c)) := by
  unfold ow
  cases e : lk kv c with
  | none => exact .inl ⟨rfl, rfl⟩
  | some v => exact .inr ⟨(h.ok _ (lk_some e)).2, rfl⟩
theorem BOk.put {R C : Int} {kv : Own} (h : BOk R C kv) {c : Cell} {v : Int} (hb : B R C c) (hv : v = 1 ∨ v = 2) (n : lk kv c = none) : BOk R C (kv ++ [(c, v)]) := by
  refine ⟨h.r1, h.r2, h.c1, h.c2, snoc_nodup h.nd n, fun p hp => ?_⟩
  rcases List.mem_append.mp hp with hp | hp
  · exact h.ok p hp
  · rw [List.mem_singleton.mp hp]
    exact ⟨hb, hv⟩
theorem BOk.lift {R C : Int} {kv : Own} (h : BOk R C kv) (c : Cell) : BOk R C (drop kv c) :=
  ⟨h.r1, h.r2, h.c1, h.c2, drop_nodup h.nd, fun p hp => h.ok p (drop_sub hp)⟩
theorem BOk.nil {R C : Int} (h1 : 1 ≤ R) (h2 : R ≤ 10) (h3 : 1 ≤ C) (h4 : C ≤ 10) : BOk R C [] := ⟨h1, h2, h3, h4, List.nodup_nil, fun _ h => by simp at h⟩
instance decB (R C : Int) (c : Cell) : Decidable (B R C c) := by unfold B; infer_instance
end SC
namespace SC
open PySem PyProof.Rows L2

/-! ### the mathematics of cells -/
/-- the steps to the neighbours, in the told order -/
def steps : List Cell := [(-1, 0), (-1, 1), (0, -1), (0, 1), (1, -1), (1, 0)]
def around (c : Cell) : List Cell := steps.map fun s => (c.1 + s.1, c.2 + s.2)
def near (R C : Int) (c : Cell) : List Cell := (around c).filter fun z => decide (B R C z)
/-- the empty cells, row by row -/
def empt (R C : Int) (kv : Own) : List Cell := (cells R C).filter fun c => (lk kv c).isNone
theorem mem_around {a b : Cell} : b ∈ around a ↔ Adj a b := by
  obtain ⟨i, j⟩ := a
  obtain ⟨k, l⟩ := b
  unfold around steps Adj
  simp only [List.map_cons, List.map_nil, List.mem_cons, List.not_mem_nil, or_false, Prod.mk.injEq]
  omega
theorem mem_near {R C : Int} {a b : Cell} : b ∈ near R C a ↔ Adj a b ∧ B R C b := by
  unfold near
  rw [List.mem_filter, mem_around, decide_eq_true_eq]
theorem mem_empt {R C : Int} {kv : Own} {c : Cell} : c ∈ empt R C kv ↔ B R C c ∧ lk kv c = none := by
  unfold empt
  rw [List.mem_filter, mem_cells]
  simp
theorem near_len (R C : Int) (c : Cell) : (near R C c).length ≤ 6 := List.length_filter_le _ _
theorem empt_len {R C : Int} (h1 : R ≤ 10) (h2 : C ≤ 10) (kv : Own) : (empt R C kv).length ≤ 100 := Nat.le_trans (List.length_filter_le _ _) (cells_small h1 h2)
theorem at0 {x y : V} : atI [x, y] 0 = some x := rfl
theorem at1 {x y : V} : atI [x, y] 1 = some y := rfl

theorem filter_take {α : Type} {l : List α} {i : Nat} {x : α} (p : α → Bool) (h : l[i]? = some x) : (l.take (i + 1)).filter p = (l.take i).filter p ++ (if p x = true then [x] else []) := by
  rw [take_more h, List.filter_append]
  congr 1
  by_cases e : p x = true
  · rw [if_pos e, List.filter_cons_of_pos e]; rfl
  · rw [if_neg e, List.filter_cons_of_neg e]; rfl
theorem map_take {α β : Type} {l : List α} {i : Nat} {x : α} (f : α → β) (h : l[i]? = some x) : (l.map f).take (i + 1) = (l.map f).take i ++ [f x] := take_more (by rw [List.getElem?_map, h]; rfl)
theorem small100 {n : Nat} (h : n ≤ 1000) : n < sizeLine := small1000 h
theorem cells_snoc {H : Hp} {vs : List V} {cs : List Cell} {L : Addr} {t : Addr} {c : Cell} {o : HO} (h : Cells H vs cs) (hL : H L = some o) (ho : ∀ xs, o ≠ .tup xs) (ht : H t = some (.tup [.int c.1, .int c.2])) (ws : List V) : Cells (upd H L (.lst ws)) (vs ++ [.ref t]) (cs ++ [c]) :=
  paired_app (h.upd hL ho) (.cons ⟨t, rfl, by rw [upd_ne (ne_of ht hL fun z => ho _ z.symm)]; exact ht⟩ .nil)
theorem lst_ntup (vs : List V) : ∀ xs, HO.lst vs ≠ .tup xs := fun _ z => nomatch z
theorem dT_ntup (vs : List (List Key × V)) : ∀ xs, HO.dT vs ≠ .tup xs := fun _ z => nomatch z
/-- a list that was new ahead is changed: what stood stands -/
theorem same_set {H H1 : Hp} {L : Addr} {o : HO} (s : Same H H1) (n : H L = none) : Same H (upd H1 L o) := fun b u e => by rw [upd_ne (ne_of_none e n)]; exact s b u e

/-! ### promises -/
/-- a new list of these cells is handed back, nothing that stood is changed -/
def NewCells (H : Hp) (cs : List Cell) (Q : VK) : Prop := ∀ l vs H', Same H H' → H l = none → H' l = some (.lst vs) → Cells H' vs cs → Q (.ref l) H'
/-- some value, nothing that stood is changed -/
def Keep (H : Hp) (v : V) (Q : VK) : Prop := ∀ H', Same H H' → Q v H'
def Hand (h : Int) : Prop := h = 1 ∨ h = 2
instance (h : Int) : Decidable (Hand h) := by unfold Hand; infer_instance
def Size (r c : Int) : Prop := 1 ≤ r ∧ r ≤ 10 ∧ 1 ≤ c ∧ c ≤ 10
abbrev setD (H : Hp) (d : Addr) (kv : Own) : Hp := upd H d (.dT (dk V.int kv))
theorem BoardAt.set {D : Ad} {H : Hp} {b d : Addr} {R C : Int} {kv kv' : Own} (h : BoardAt D H b d R C kv) (k : BOk R C kv') : BoardAt D (setD H d kv') b d R C kv' := by
  obtain ⟨⟨dx, h1⟩, h2, h3⟩ := id h
  exact ⟨⟨dx, by unfold setD; rw [upd_ne h.ne]; exact h1⟩, upd_same, k⟩
def sp_see_hand (_ : PySem.W.Frag) (D : Ad) : Sp := fun vs H Q E => ∃ h : Int, vs = [.int h] ∧ (Hand h → Q .non H) ∧ (¬ Hand h → E (.ref D.eNoHand) none H)
def sp_B_init (_ : PySem.W.Frag) (D : Ad) : Sp := fun vs H Q E => ∃ (p dx : Addr) (r c : Int), vs = [.ref p, .int r, .int c] ∧ H p = some (.ins D.C dx []) ∧ (¬ Size r c → E (.ref D.eNoBoard) none H) ∧
  (Size r c → ∀ d H', H d = none → BoardAt D H' p d r c [] → (∀ b o, H b = some o → b ≠ p → H' b = some o) → Q .non H')
def sp_B_rows (_ : PySem.W.Frag) (D : Ad) : Sp := fun vs H Q _ => ∃ b d R C kv, vs = [.ref b] ∧ BoardAt D H b d R C kv ∧ Q (.int R) H
def sp_B_columns (_ : PySem.W.Frag) (D : Ad) : Sp := fun vs H Q _ => ∃ b d R C kv, vs = [.ref b] ∧ BoardAt D H b d R C kv ∧ Q (.int C) H
def sp_B_has (_ : PySem.W.Frag) (D : Ad) : Sp := fun vs H Q _ => ∃ b d R C kv v c, vs = [.ref b, v] ∧ BoardAt D H b d R C kv ∧ PairAt H v c ∧ Q (.bl (decide (B R C c))) H
def sp_B_see_cell (_ : PySem.W.Frag) (D : Ad) : Sp := fun vs H Q E => ∃ b d R C kv v c, vs = [.ref b, v] ∧ BoardAt D H b d R C kv ∧ PairAt H v c ∧ (B R C c → Q .non H) ∧ (¬ B R C c → E (.ref D.eNoCell) none H)
def sp_B_put (_ : PySem.W.Frag) (D : Ad) : Sp := fun vs H Q E => ∃ b d R C kv v c h, vs = [.ref b, v, .int h] ∧ BoardAt D H b d R C kv ∧ PairAt H v c ∧ (¬ B R C c → E (.ref D.eNoCell) none H) ∧ (B R C c → ¬ Hand h → E (.ref D.eNoHand) none H) ∧
  (B R C c → Hand h → lk kv c ≠ none → E (.ref D.eCellTaken) none H) ∧ (B R C c → Hand h → lk kv c = none → Q .non (setD H d (kv ++ [(c, h)])))
def sp_B_lift (_ : PySem.W.Frag) (D : Ad) : Sp := fun vs H Q E => ∃ b d R C kv v c, vs = [.ref b, v] ∧ BoardAt D H b d R C kv ∧ PairAt H v c ∧ (¬ B R C c → E (.ref D.eNoCell) none H) ∧
  (B R C c → lk kv c = none → E (.ref D.eCellEmpty) none H) ∧ (B R C c → lk kv c ≠ none → Q .non (setD H d (drop kv c)))
def sp_B_owner (_ : PySem.W.Frag) (D : Ad) : Sp := fun vs H Q E => ∃ b d R C kv v c, vs = [.ref b, v] ∧ BoardAt D H b d R C kv ∧ PairAt H v c ∧ (¬ B R C c → E (.ref D.eNoCell) none H) ∧ (B R C c → Q (.int (ow kv c)) H)
def sp_B_near (_ : PySem.W.Frag) (D : Ad) : Sp := fun vs H Q E => ∃ b d R C kv v c, vs = [.ref b, v] ∧ BoardAt D H b d R C kv ∧ PairAt H v c ∧ (¬ B R C c → E (.ref D.eNoCell) none H) ∧ (B R C c → NewCells H (near R C c) Q)
def sp_B_empties (_ : PySem.W.Frag) (D : Ad) : Sp := fun vs H Q _ => ∃ b d R C kv, vs = [.ref b] ∧ BoardAt D H b d R C kv ∧ NewCells H (empt R C kv) Q
def sp_cells_of (_ : PySem.W.Frag) (D : Ad) : Sp := fun vs H Q _ => ∃ b d R C kv, vs = [.ref b] ∧ BoardAt D H b d R C kv ∧ NewCells H (cells R C) Q
/-- AROUND as the top has made it -/
structure AroundOk (K : PySem.W.Frag) (mg : Str → Option Value) (D : Ad) : Prop where
  g : mg "AROUND" = some (.ref D.aAROUND)
  t : ∃ ts : List Addr, (∀ H, SqT K H D.aAROUND (ts.map V.ref)) ∧ Paired (fun t (s : Cell) => ∀ H, SqT K H t [.int s.1, .int s.2]) ts steps
theorem sqT_of {K : PySem.W.Frag} {H : Hp} {a : Addr} {dd : Option Addr} {its : Array Value} {n : Nat} {sl : Array (Option Value)} {xs : List V} (h : K.lookup a = some ⟨.type "tuple", dd, .seq its n, sl⟩) (z : its.size ≤ sizeLine) (v : Vals xs its.toList) : SqT K H a xs :=
  .inr ⟨_, its, n, h, rfl, rfl, z, v⟩

/-! ### promises of the laws' own helpers -/
def item (ns : List Int) (k : Int) : Int := ns.getD k.toNat 0
def sp_law_cell_at (K : PySem.W.Frag) (_ : Ad) : Sp := fun vs H Q _ => ∃ (a : Addr) (ns : List Int) (k : Int), vs = [.ref a, .int k] ∧ SqL K H a (ns.map V.int) ∧ 0 ≤ k ∧ Q (.int (item ns k)) H
def sp_law_whole (_ : PySem.W.Frag) (_ : Ad) : Sp := fun vs H Q _ => ∃ i : Int, vs = [.int i] ∧ Q (.bl true) H
def sp_law_near (_ : PySem.W.Frag) (_ : Ad) : Sp := fun vs H Q _ => ∃ (R C : Int) (v : V) (c : Cell), vs = [.int R, .int C, v] ∧ PairAt H v c ∧ NewCells H (near R C c) Q
def sp_law_is_cells (_ : PySem.W.Frag) (_ : Ad) : Sp := fun vs H Q _ => ∃ (l : Addr) (us : List V) (cs : List Cell) (R C : Int), vs = [.ref l, .int R, .int C] ∧ H l = some (.lst us) ∧ Cells H us cs ∧ (∀ c ∈ cs, B R C c) ∧ Q (.bl true) H
def sp_law (K : PySem.W.Frag) (_ : Ad) : Sp := fun vs H Q _ => ∃ (a : Addr) (ns : List Int), vs = [.ref a] ∧ SqL K H a (ns.map V.int) ∧ ns.length ≤ 63 ∧ ∀ H', Q (.bl true) H'
/-- isinstance(e, c), e the exception that the suite holds, of whatever class -/
theorem call_isX {X : Cx} {a : Addr} {cls : Value} {d : Option Addr} {oe : Obj} {pn : List (Addr × Obj)} (K : PySem.W.Frag) (hz : Zc cls d oe) (hf : ∃ vs, oe.data = .fields vs) (hK : X.K = K := by rfl) :
    CallR (X.suite a ((a, oe) :: pn)) (.builtin "isinstance") (fun xs H Q => ∃ D, cls = .ref D ∧ d = none ∧ ExcC K D ∧ rIsE K D a xs H Q) := by
  subst hK
  intro pins s σ H xs us Q I r h
  obtain ⟨D, rfl, rfl, hc, q⟩ := h
  exact call_isE hc hz hf pins s σ H xs us Q I r q
section
variable {K : PySem.W.Frag} {C E : Addr}
theorem kit_yes : PySem.W.kitOne K (.ref E) (.ref E) = some true := by
  unfold PySem.W.kitOne
  rw [if_pos (beq_self_eq_true _)]
theorem cls_cond (o : PySem.W.isClsIn K C = true) (t : PySem.W.typeIn K (.ref C) = some (.type "type")) : ((PySem.W.clsIn K C).isSome && PySem.W.typeIn K (.ref C) == some (.type "type")) = true := by
  rw [show (PySem.W.clsIn K C).isSome = true from o, t]
  simp
theorem kit_no (o : PySem.W.isClsIn K C = true) (t : PySem.W.typeIn K (.ref C) = some (.type "type")) (u : PySem.W.subIn K (.ref E) (.ref C) = some false) (self : PySem.W.subIn K (.ref E) (.ref E) = some true) : PySem.W.kitOne K (.ref E) (.ref C) = some false := by
  have ne : E ≠ C := fun z => by rw [z] at u self; rw [self] at u; cases u
  unfold PySem.W.kitOne
  rw [if_neg (by simp [ne])]
  show (if _ then PySem.W.subIn K (.ref E) (.ref C) else none) = _
  rw [if_pos (cls_cond o t)]
  exact u
theorem kit_ve (u : PySem.W.subIn K (.ref E) (.type "ValueError") = some true) : PySem.W.kitOne K (.ref E) (.type "ValueError") = some true := by
  unfold PySem.W.kitOne
  rw [if_neg (by simp)]
  show (if PySem.W.kitMeta "ValueError" = true then PySem.W.subIn K (.ref E) (.type "ValueError") else none) = _
  rw [if_pos (by decide +kernel)]
  exact u
theorem exm_yes (b : PySem.W.subIn K (.ref C) (.type "BaseException") = some true) (o : PySem.W.isClsIn K C = true) (t : PySem.W.typeIn K (.ref C) = some (.type "type")) (u : PySem.W.subIn K (.ref E) (.ref C) = some true) : PySem.W.exmOne K (.ref E) (.ref C) = some true := by
  unfold PySem.W.exmOne
  rw [if_pos (by rw [b]; simp)]
  show (if _ then PySem.W.subIn K (.ref E) (.ref C) else none) = _
  rw [if_pos (cls_cond o t)]
  exact u
end
/-- d.pop(k), the keys tuples, k there -/
def rPop1T : V → List V → Hp → VK → Prop := fun x xs H Q => ∃ (a : Addr) (kvs : List (List L2.Key × V)) (k : List L2.Key) (b : Addr) (v : V), x = .ref a ∧ xs = [.ref b] ∧ H a = some (.dT kvs) ∧ H b = some (.tup (k.map kV)) ∧ valV kvs k = some v ∧ Q v (upd H a (.dT (dropK kvs k)))
theorem mt_pop1T {X : Cx} (hu : X.A.units + 1 < cLine) : MtR X "dict.pop" rPop1T := by
  intro pins s σ H x xs v us Q I rx rxs h
  obtain ⟨a, kvs, k, b, v0, rfl, rfl, ha, hb, hv, q⟩ := h
  cases rx
  obtain ⟨u1, rfl, r1⟩ := vals1 rxs
  cases r1
  obtain ⟨z, hd, xs', rel, dd⟩ := dt_of I.hok ha
  have hz : xs'.length ≤ sizeLine := by rw [← Paired.length rel]; exact z
  obtain ⟨p, hp, rp⟩ : ∃ p, atKey xs' k = some p ∧ RelV v0 p.2 := by
    have r := rel.val k
    rw [hv] at r
    cases e : atKey xs' k with
    | none =>
      rw [e] at r
      exact (show False from r).elim
    | some p =>
      rw [e] at r
      exact ⟨p, rfl, r⟩
  refine call_pop_heap (more := []) (.inl rfl) (PySem.F.args_dict_pop_2 _ _) (knd := tupleKind (mixKind X.prog X.w)) (tupleKind_room_in1 hu) (key_of I.hok hb) hd dd hp (fun h' dd' hs => ?_) hz
  obtain ⟨o, es, ep, hq, h2, h3, h4, _, h5⟩ := dd'
  have I2 : Inv X pins σ (upd H a (.dT (dropK kvs k))) { s with heap := h', toks := s.toks + (tupleKind (mixKind X.prog X.w)).draws k } :=
    d_write I (by rw [ha]; exact True.intro) hs ⟨o, hq⟩ ⟨Nat.le_trans (dropK_le kvs k) z, hd, _, (DX.KT_drop k rel).keeps (fun c ys ec => (by rw [upd_ne (ne_of ec ha (fun z => nomatch z))]; exact ec)), o, es, ep, hq, h2, h3, h4, h5⟩
  exact ⟨v0, _, I2, rp, q⟩
end SC
namespace SC
open PySem PyProof.Rows L2

/-! ### cells as data: ==, in -/
def cdat (c : Cell) : PyData := .tuple [.int c.1, .int c.2]
def clist (cs : List Cell) : PyData := .list (cs.map cdat)
theorem dp_pair {K : PySem.W.Frag} {H : Hp} {v : V} {c : Cell} (h : PairAt H v c) : Dp K H v (cdat c) := by
  obtain ⟨t, rfl, ht⟩ := h
  exact .tup (SqT.of ht) (.cons (.int _) (.cons (.int _) .nil))
theorem dp_all {K : PySem.W.Frag} {H : Hp} : ∀ {vs : List V} {cs : List Cell}, Cells H vs cs → DpAll K H vs (cs.map cdat)
  | _, _, .nil => .nil
  | _, _, .cons h t => .cons (dp_pair h) (dp_all t)
theorem dp_cells {K : PySem.W.Frag} {H : Hp} {l : Addr} {vs : List V} {cs : List Cell} (hl : SqL K H l vs) (h : Cells H vs cs) : Dp K H (.ref l) (clist cs) := .lst hl (dp_all h)
theorem can_cd (c : Cell) : (cdat c).canLay0 = true := by simp [cdat, PyData.canLay0, PyData.canLayAll0]
theorem can_cl : ∀ cs : List Cell, PyData.canLayAll0 (cs.map cdat) = true
  | [] => by simp [PyData.canLayAll0]
  | c :: cs => by rw [List.map_cons, PyData.canLayAll0, can_cd, can_cl cs]; rfl
theorem dep_cd (c : Cell) : (cdat c).depth = 1 := by simp [cdat, PyData.depth, PyData.depthAll]
theorem dep_cl : ∀ cs : List Cell, PyData.depthAll (cs.map cdat) ≤ 1
  | [] => by simp [PyData.depthAll]
  | c :: cs => by
    rw [List.map_cons, PyData.depthAll, dep_cd]
    have := dep_cl cs
    omega
theorem sh_cd (c : Cell) : SeqAt.shaped (cdat c) = true := by
  unfold SeqAt.shaped
  rw [can_cd, dep_cd]
  rfl
theorem sh_cl (cs : List Cell) : SeqAt.shaped (clist cs) = true := by
  unfold SeqAt.shaped clist
  rw [PyData.canLay0, can_cl, PyData.depth]
  have := dep_cl cs
  rw [decide_eq_true (by omega : PyData.depthAll (cs.map cdat) + 1 ≤ 64)]
  rfl
theorem eqv_cd (a b : Cell) : PyData.eqv (cdat a) (cdat b) = decide (a = b) := by
  obtain ⟨i, j⟩ := a
  obtain ⟨k, l⟩ := b
  simp only [cdat, PyData.eqv, PyData.eqvAll, Bool.and_true, Prod.mk.injEq]
  rw [Bool.eq_iff_iff]
  simp
theorem eqv_all : ∀ xs ys : List Cell, PyData.eqvAll (xs.map cdat) (ys.map cdat) = decide (xs = ys)
  | [], [] => by simp [PyData.eqvAll]
  | [], y :: ys => by simp [PyData.eqvAll]
  | x :: xs, [] => by simp [PyData.eqvAll]
  | x :: xs, y :: ys => by
    rw [List.map_cons, List.map_cons, PyData.eqvAll, eqv_cd, eqv_all xs ys]
    rw [Bool.eq_iff_iff]
    simp
theorem eqv_cl (xs ys : List Cell) : PyData.eqv (clist xs) (clist ys) = decide (xs = ys) := by
  unfold clist
  rw [PyData.eqv, eqv_all]
theorem any_cl (xs : List Cell) (c : Cell) : ((xs.map cdat).any fun z => PyData.eqv z (cdat c)) = decide (c ∈ xs) := by
  rw [List.any_map]
  induction xs with
  | nil => simp
  | cons x xs ih =>
    rw [List.any_cons, ih, Function.comp, eqv_cd]
    rw [Bool.eq_iff_iff]
    simp only [Bool.or_eq_true, decide_eq_true_eq, List.mem_cons]
    constructor
    · rintro (h | h)
      · exact .inl h.symm
      · exact .inr h
    · rintro (h | h)
      · exact .inl h.symm
      · exact .inr h
/-! ### lists of bools -/
def blist (bs : List Bool) : PyData := .list (bs.map .bool)
theorem dp_bools {K : PySem.W.Frag} {H : Hp} {l : Addr} {bs : List Bool} (hl : SqL K H l (bs.map V.bl)) : Dp K H (.ref l) (blist bs) := by
  refine .lst hl ?_
  clear hl
  induction bs with
  | nil => exact .nil
  | cons b bs ih => exact .cons (.bl b) ih
theorem sh_bl (bs : List Bool) : SeqAt.shaped (blist bs) = true := by
  unfold SeqAt.shaped blist
  have h1 : PyData.canLayAll0 (bs.map .bool) = true := by
    induction bs with
    | nil => simp [PyData.canLayAll0]
    | cons b bs ih => rw [List.map_cons, PyData.canLayAll0, ih]; rfl
  have h2 : PyData.depthAll (bs.map .bool) = 0 := by
    clear h1
    induction bs with
    | nil => simp [PyData.depthAll]
    | cons b bs ih => rw [List.map_cons, PyData.depthAll, ih]; rfl
  rw [PyData.canLay0, h1, PyData.depth, h2]
  rfl
theorem eqv_bl (xs ys : List Bool) : PyData.eqv (blist xs) (blist ys) = decide (xs = ys) := by
  unfold blist
  rw [PyData.eqv]
  induction xs generalizing ys with
  | nil => cases ys <;> simp [PyData.eqvAll]
  | cons x xs ih =>
    cases ys with
    | nil => simp [PyData.eqvAll]
    | cons y ys =>
      rw [List.map_cons, List.map_cons, PyData.eqvAll, ih, PyData.eqv]
      rw [Bool.eq_iff_iff]
      simp
/-! ### lists of ints -/
def ilist (ns : List Int) : PyData := .list (ns.map .int)
theorem dp_ints {K : PySem.W.Frag} {H : Hp} {l : Addr} {ns : List Int} (hl : SqL K H l (ns.map V.int)) : Dp K H (.ref l) (ilist ns) := by
  refine .lst hl ?_
  clear hl
  induction ns with
  | nil => exact .nil
  | cons b bs ih => exact .cons (.int b) ih
theorem sh_il (bs : List Int) : SeqAt.shaped (ilist bs) = true := by
  unfold SeqAt.shaped ilist
  have h1 : PyData.canLayAll0 (bs.map .int) = true := by
    induction bs with
    | nil => simp [PyData.canLayAll0]
    | cons b bs ih => rw [List.map_cons, PyData.canLayAll0, ih]; rfl
  have h2 : PyData.depthAll (bs.map .int) = 0 := by
    clear h1
    induction bs with
    | nil => simp [PyData.depthAll]
    | cons b bs ih => rw [List.map_cons, PyData.depthAll, ih]; rfl
  rw [PyData.canLay0, h1, PyData.depth, h2]
  rfl
theorem eqv_il (xs ys : List Int) : PyData.eqv (ilist xs) (ilist ys) = decide (xs = ys) := by
  unfold ilist
  rw [PyData.eqv]
  induction xs generalizing ys with
  | nil => cases ys <;> simp [PyData.eqvAll]
  | cons x xs ih =>
    cases ys with
    | nil => simp [PyData.eqvAll]
    | cons y ys =>
      rw [List.map_cons, List.map_cons, PyData.eqvAll, ih, PyData.eqv]
      rw [Bool.eq_iff_iff]
      simp
def sp_law_near_right (_ : PySem.W.Frag) (D : Ad) : Sp := fun vs H Q _ => ∃ b d R C kv v c, vs = [.ref b, .int R, .int C, v] ∧ BoardAt D H b d R C kv ∧ PairAt H v c ∧ B R C c ∧ Keep H (.bl true) Q
def sp_law_no_cell (_ : PySem.W.Frag) (D : Ad) : Sp := fun vs H Q _ => ∃ b d R C kv v c, vs = [.ref b, v] ∧ BoardAt D H b d R C kv ∧ PairAt H v c ∧ ¬ B R C c ∧ Keep H (.bl true) Q
theorem cells_at {H : Hp} {vs : List V} {cs : List Cell} {z : Int} (h : Cells H vs cs) (h0 : 0 ≤ z) (h1 : z < cs.length) : ∃ v c, cs[z.toNat]? = some c ∧ atI vs z = some v ∧ PairAt H v c := by
  have hl : z.toNat < cs.length := by omega
  obtain ⟨v, hv, p⟩ := paired_get' h (List.getElem?_eq_getElem hl)
  exact ⟨v, _, List.getElem?_eq_getElem hl, at_of (j := z.toNat) (by omega) hv, p⟩
/-- a new instance of Board -/
theorem made {H H1 : Hp} {x dx C : Addr} (nx : H x = Option.none) (nd : H dx = Option.none) (k : ∀ b o, (upd (upd H dx (.own x)) x (.ins C dx [])) b = some o → b ≠ x → H1 b = some o) : Same H H1 := Same.made nx nd k
theorem newO {H : Hp} {p : Addr} {o : HO} (n : H p = none) : Same H (upd H p o) ∧ upd H p o p = some o := ⟨same_upd n, upd_same⟩
theorem ne_new {H H1 : Hp} {a L : Addr} {o : HO} (h : H a = some o) (s : Same H H1) (n : H1 L = none) : a ≠ L := ne_of_none (s _ _ h) n
end SC
namespace SC
open PySem L2
def top (i : Nat) : Stmt := PySem.Challenge.pw_sidechain_k02_neighbours.main.body.getD i (.Pass ⟨0, 0, 0, 0⟩)
def ad0 : Ad := ⟨0, 0, 0, 0, 0, 0, 0, 0, 0, 0⟩
abbrev s_B_init : Stmt := (inClass (top 8) 0)
theorem sc_B_init : FnScope ["self", "rows", "columns"] ["self", "rows", "columns"] (defScope s_B_init) := ⟨rfl, rfl, rfl, by decide +kernel, rfl, by decide +kernel, by decide +kernel⟩
theorem bd_B_init {K : PySem.W.Frag} {f : Addr} {fd : FuncData} (F : Fun K "__init__" "Board.__init__" s_B_init f fd) : Binds K fd ["self", "rows", "columns"] [] := F.binds (ps := ["self", "rows", "columns"]) fun _ _ _ _ _ _ us hl => match us, hl with | [_, _, _], _ => rfl
abbrev s_B_has : Stmt := (inClass (top 8) 3)
theorem sc_B_has : FnScope ["self", "cell"] ["self", "cell"] (defScope s_B_has) := ⟨rfl, rfl, rfl, by decide +kernel, rfl, by decide +kernel, by decide +kernel⟩
theorem bd_B_has {K : PySem.W.Frag} {f : Addr} {fd : FuncData} (F : Fun K "has" "Board.has" s_B_has f fd) : Binds K fd ["self", "cell"] [] := F.binds (ps := ["self", "cell"]) fun _ _ _ _ _ _ us hl => match us, hl with | [_, _], _ => rfl
abbrev s_B_see_cell : Stmt := (inClass (top 8) 4)
theorem sc_B_see_cell : FnScope ["self", "cell"] ["self", "cell"] (defScope s_B_see_cell) := ⟨rfl, rfl, rfl, by decide +kernel, rfl, by decide +kernel, by decide +kernel⟩
theorem bd_B_see_cell {K : PySem.W.Frag} {f : Addr} {fd : FuncData} (F : Fun K "see_cell" "Board.see_cell" s_B_see_cell f fd) : Binds K fd ["self", "cell"] [] := F.binds (ps := ["self", "cell"]) fun _ _ _ _ _ _ us hl => match us, hl with | [_, _], _ => rfl
abbrev s_B_near : Stmt := (inClass (top 8) 8)
theorem sc_B_near : FnScope ["self", "cell", "found", "step", "other"] ["self", "cell"] (defScope s_B_near) := ⟨rfl, rfl, rfl, by decide +kernel, rfl, by decide +kernel, by decide +kernel⟩
theorem bd_B_near {K : PySem.W.Frag} {f : Addr} {fd : FuncData} (F : Fun K "near" "Board.near" s_B_near f fd) : Binds K fd ["self", "cell"] [] := F.binds (ps := ["self", "cell"]) fun _ _ _ _ _ _ us hl => match us, hl with | [_, _], _ => rfl
abbrev s_law_cell_at : Stmt := (top 10)
theorem sc_law_cell_at : FnScope ["script", "k"] ["script", "k"] (defScope s_law_cell_at) := ⟨rfl, rfl, rfl, by decide +kernel, rfl, by decide +kernel, by decide +kernel⟩
theorem bd_law_cell_at {K : PySem.W.Frag} {f : Addr} {fd : FuncData} (F : Fun K "_law_cell_at" "_law_cell_at" s_law_cell_at f fd) : Binds K fd ["script", "k"] [] := F.binds (ps := ["script", "k"]) fun _ _ _ _ _ _ us hl => match us, hl with | [_, _], _ => rfl
abbrev s_law_whole : Stmt := (top 11)
theorem sc_law_whole : FnScope ["found"] ["found"] (defScope s_law_whole) := ⟨rfl, rfl, rfl, by decide +kernel, rfl, by decide +kernel, by decide +kernel⟩
theorem bd_law_whole {K : PySem.W.Frag} {f : Addr} {fd : FuncData} (F : Fun K "_law_whole" "_law_whole" s_law_whole f fd) : Binds K fd ["found"] [] := F.binds (ps := ["found"]) fun _ _ _ _ _ _ us hl => match us, hl with | [_], _ => rfl
abbrev s_law_near : Stmt := (top 12)
theorem sc_law_near : FnScope ["rows", "columns", "cell", "found", "down", "right", "other"] ["rows", "columns", "cell"] (defScope s_law_near) := ⟨rfl, rfl, rfl, by decide +kernel, rfl, by decide +kernel, by decide +kernel⟩
theorem bd_law_near {K : PySem.W.Frag} {f : Addr} {fd : FuncData} (F : Fun K "_law_near" "_law_near" s_law_near f fd) : Binds K fd ["rows", "columns", "cell"] [] := F.binds (ps := ["rows", "columns", "cell"]) fun _ _ _ _ _ _ us hl => match us, hl with | [_, _, _], _ => rfl
abbrev s_law_is_cells : Stmt := (top 13)
theorem sc_law_is_cells : FnScope ["found", "rows", "columns", "cell"] ["found", "rows", "columns"] (defScope s_law_is_cells) := ⟨rfl, rfl, rfl, by decide +kernel, rfl, by decide +kernel, by decide +kernel⟩
theorem bd_law_is_cells {K : PySem.W.Frag} {f : Addr} {fd : FuncData} (F : Fun K "_law_is_cells" "_law_is_cells" s_law_is_cells f fd) : Binds K fd ["found", "rows", "columns"] [] := F.binds (ps := ["found", "rows", "columns"]) fun _ _ _ _ _ _ us hl => match us, hl with | [_, _, _], _ => rfl
abbrev s_law_near_right : Stmt := (top 14)
theorem sc_law_near_right : FnScope ["board", "rows", "columns", "cell", "found", "due"] ["board", "rows", "columns", "cell"] (defScope s_law_near_right) := ⟨rfl, rfl, rfl, by decide +kernel, rfl, by decide +kernel, by decide +kernel⟩
theorem bd_law_near_right {K : PySem.W.Frag} {f : Addr} {fd : FuncData} (F : Fun K "_law_near_right" "_law_near_right" s_law_near_right f fd) : Binds K fd ["board", "rows", "columns", "cell"] [] := F.binds (ps := ["board", "rows", "columns", "cell"]) fun _ _ _ _ _ _ us hl => match us, hl with | [_, _, _, _], _ => rfl
abbrev s_law_no_cell : Stmt := (top 15)
theorem sc_law_no_cell : FnScope ["board", "cell", "marks", "e"] ["board", "cell"] (defScope s_law_no_cell) := ⟨rfl, rfl, rfl, by decide +kernel, rfl, by decide +kernel, by decide +kernel⟩
theorem bd_law_no_cell {K : PySem.W.Frag} {f : Addr} {fd : FuncData} (F : Fun K "_law_no_cell" "_law_no_cell" s_law_no_cell f fd) : Binds K fd ["board", "cell"] [] := F.binds (ps := ["board", "cell"]) fun _ _ _ _ _ _ us hl => match us, hl with | [_, _], _ => rfl
abbrev s_law : Stmt := (top 16)
theorem sc_law : FnScope ["script", "rows", "columns", "board", "row", "cells", "c", "cell", "far", "bad"] ["script"] (defScope s_law) := ⟨rfl, rfl, rfl, by decide +kernel, rfl, by decide +kernel, by decide +kernel⟩
theorem bd_law {K : PySem.W.Frag} {f : Addr} {fd : FuncData} (F : Fun K "law" "law" s_law f fd) : Binds K fd ["script"] [] := F.binds (ps := ["script"]) fun _ _ _ _ _ _ us hl => match us, hl with | [_], _ => rfl
section
variable {P : Program} {w : World} {K : PySem.W.Frag} {mg : Str → Option Value} {base : Heap} {D : Ad}
theorem ok_B_init {f : Addr} {fd : FuncData} (F : Fun K "__init__" "Board.__init__" s_B_init f fd) (T : Top K mg D) (x_NoBoard : XC K mg "NoBoard" D.eNoBoard) : FnOk P w K mg base (L2.CX P w) 1 f fd ["self", "rows", "columns"] (sp_B_init K D) := by
  refine F.okX sc_B_init (fun vs H Q E h => ?_) (fun cdv A outer s H vs Q E hr h => ?_)
  · obtain ⟨p, dx, r, c, rfl, hh⟩ := h
    rfl
  · obtain ⟨p, dx, r, c, rfl, hh⟩ := h
    refine ⟨_, (pss_cons (ps_if (PW.pt (pw_or (pt_cmpR op_lt (pv 1) pe_int (nomark _)) (pw_or (pt_cmpR op_gt (pv 1) (pe_glob (v := V.int 10) (by rfl) T.g_GREATEST ⟨_, rfl⟩) (nomark _)) (pw_or (pt_cmpR op_lt (pv 2) pe_int (nomark _)) (pw_or1 (pt_cmpR op_gt (pv 2) (pe_glob (v := V.int 10) (by rfl) T.g_GREATEST ⟨_, rfl⟩) (nomark _))))))) (pss_one (ps_rz x_NoBoard (takes_of rfl rfl rfl rfl))) pss_nil)
      (pss_cons (ps_fld (pv 0) (pv 1) rfl)
      (pss_cons (ps_fld (pv 0) (pv 2) rfl)
      (pss_one (ps_fld (pv 0) pe_dnewT rfl))))), ?_⟩
    obtain ⟨hp, h1, h2⟩ := hh
    refine ⟨_, rfl, _, _, rfl, rfl, _, rfl, ?_⟩
    refine ifD (fun e => ?_) (fun e => ?_)
    · exact h1 fun z => by have := z.1; omega
    refine ⟨_, rfl, _, _, rfl, rfl, _, rfl, ?_⟩
    refine ifD (fun e2 => ?_) (fun e2 => ?_)
    · exact h1 fun z => by have := z.2.1; omega
    refine ⟨_, rfl, _, _, rfl, rfl, _, rfl, ?_⟩
    refine ifD (fun e3 => ?_) (fun e3 => ?_)
    · exact h1 fun z => by have := z.2.2.1; omega
    refine ⟨_, rfl, _, _, rfl, rfl, _, rfl, ?_⟩
    refine ifD (fun e4 => ?_) (fun e4 => ?_)
    · exact h1 fun z => by have := z.2.2.2; omega
    have hs : Size r c := ⟨by omega, by omega, by omega, by omega⟩
    refine ⟨_, rfl, _, rfl, p, D.C, dx, _, rfl, hp, T.cl, T.nH, (by show 0 < 1000; decide), ?_⟩
    refine ⟨_, rfl, _, rfl, p, D.C, dx, _, rfl, upd_same, T.cl, T.nW, (by show 1 < 1000; decide), ?_⟩
    intro d hd
    have hpd : p ≠ d := fun z => by subst z; rw [upd_same] at hd; cases hd
    rw [upd_ne hpd.symm, upd_ne hpd.symm] at hd
    refine ⟨_, rfl, p, D.C, dx, _, rfl, by rw [upd_ne hpd]; exact upd_same, T.cl, T.nO, (by show 2 < 1000; decide), ?_⟩
    refine h2 hs d _ hd ⟨⟨dx, Eq.trans upd_same (congrArg (fun l => some (HO.ins D.C dx l)) (fl_mk r c d))⟩, by rw [upd_ne hpd.symm]; exact upd_same, BOk.nil hs.1 hs.2.1 hs.2.2.1 hs.2.2.2⟩ fun b o e hb => ?_
    rw [upd_ne hb, upd_ne (ne_of_none e hd), upd_ne hb, upd_ne hb]
    exact e
theorem ok_B_has {f : Addr} {fd : FuncData} (F : Fun K "has" "Board.has" s_B_has f fd) (T : Top K mg D) : FnOk P w K mg base (L2.CX P w) 1 f fd ["self", "cell"] (sp_B_has K D) := by
  refine ofX0 (F.ok sc_B_has (fun vs H Q E h => ?_) (fun cdv A outer s H vs Q E hr h => ?_))
  · obtain ⟨b, d, R, C, kv, v, c, rfl, hh⟩ := h
    rfl
  · obtain ⟨b, d, R, C, kv, v, c, rfl, hh⟩ := h
    refine ⟨_, (pss_one (ps_ret (pe_and (pe_cmpR op_le pe_int (pe_ix ix_tup (pv 1) pe_int (fun _ _ => rfl)) (nomark _)) (pe_and (pe_cmpR op_lt (pe_ix ix_tup (pv 1) pe_int (fun _ _ => rfl)) (pe_fld (pv 0) rfl) (nomark _)) (pe_and (pe_cmpR op_le pe_int (pe_ix ix_tup (pv 1) pe_int (fun _ _ => rfl)) (nomark _)) (pe_one (pe_cmpR op_lt (pe_ix ix_tup (pv 1) pe_int (fun _ _ => rfl)) (pe_fld (pv 0) rfl) (nomark _)))))))), ?_⟩
    obtain ⟨S, ⟨t, rfl, ht⟩, k⟩ := hh
    obtain ⟨⟨dx, h1⟩, _⟩ := id S
    refine ⟨_, rfl, t, _, _, _, rfl, rfl, SqT.of ht, at0, _, _, rfl, rfl, _, rfl, ifD (fun e1 => ?_) (fun e1 => ?_)⟩
    · refine ⟨_, rfl, t, _, _, _, rfl, rfl, SqT.of ht, at0, _, rfl, b, D.C, dx, _, _, rfl, h1, T.cl, T.nH, fl_H _ _ _, _, _, rfl, rfl, _, rfl, ifD (fun e2 => ?_) (fun e2 => ?_)⟩
      · refine ⟨_, rfl, t, _, _, _, rfl, rfl, SqT.of ht, at1, _, _, rfl, rfl, _, rfl, ifD (fun e3 => ?_) (fun e3 => ?_)⟩
        · refine ⟨_, rfl, t, _, _, _, rfl, rfl, SqT.of ht, at1, _, rfl, b, D.C, dx, _, _, rfl, h1, T.cl, T.nW, fl_W _ _ _, _, _, rfl, rfl, ?_⟩
          have e : decide (B R C c) = decide (c.2 < C) := decide_eq_decide.mpr ⟨fun z => z.2.2.2, fun z => ⟨e1, e2, e3, z⟩⟩
          rw [e] at k
          exact k
        · rw [decide_eq_false fun z => e3 z.2.2.1] at k
          exact k
      · rw [decide_eq_false fun z => e2 z.2.1] at k
        exact k
    · rw [decide_eq_false fun z => e1 z.1] at k
      exact k
theorem ok_B_see_cell {f : Addr} {fd : FuncData} (F : Fun K "see_cell" "Board.see_cell" s_B_see_cell f fd) (T : Top K mg D) (x_NoCell : XC K mg "NoCell" D.eNoCell) (c_B_has : Mt P w K mg base 1 D.C "has" (sp_B_has K D)) : FnOk P w K mg base (L2.CX P w) 2 f fd ["self", "cell"] (sp_B_see_cell K D) := by
  refine F.okX sc_B_see_cell (fun vs H Q E h => ?_) (fun cdv A outer s H vs Q E hr h => ?_)
  · obtain ⟨b, d, R, C, kv, v, c, rfl, hh⟩ := h
    rfl
  · obtain ⟨b, d, R, C, kv, v, c, rfl, hh⟩ := h
    refine ⟨_, (pss_one (ps_if (pt_not (pt_val (pe_mth c_B_has T.cl (pv 0) hr passL (pa_cons (pv 1) pa_nil)))) (pss_one (ps_rz x_NoCell (takes_of rfl rfl rfl rfl))) pss_nil)), ?_⟩
    obtain ⟨S, hv, h1, h2⟩ := hh
    obtain ⟨⟨dx, hb⟩, _⟩ := id S
    refine ⟨_, rfl, b, dx, _, rfl, hb, fl_no _ _ _ (by decide +kernel) (by decide +kernel) (by decide +kernel), _, rfl, b, d, R, C, kv, v, c, rfl, S, hv, _, rfl, ifN (fun e => ?_) (fun e => ?_)⟩
    · exact h2 e
    · exact h1 e
theorem ok_B_near {f : Addr} {fd : FuncData} (F : Fun K "near" "Board.near" s_B_near f fd) (T : Top K mg D) (g_AROUND : AroundOk K mg D) (c_B_see_cell : Mt P w K mg base 2 D.C "see_cell" (sp_B_see_cell K D)) (c_B_has : Mt P w K mg base 1 D.C "has" (sp_B_has K D)) : FnOk P w K mg base (L2.CX P w) 3 f fd ["self", "cell"] (sp_B_near K D) := by
  refine F.okX sc_B_near (fun vs H Q E h => ?_) (fun cdv A outer s H vs Q E hr h => ?_)
  · obtain ⟨b, d, R, C, kv, v, c, rfl, hh⟩ := h
    rfl
  · obtain ⟨b, d, R, C, kv, v, c, rfl, hh⟩ := h
    refine ⟨_, (pss_cons (ps_expr (pe_mth c_B_see_cell T.cl (pv 0) hr (passes_call (takes_of rfl rfl rfl rfl) (fun _ _ _ _ z => z)) (pa_cons (pv 1) pa_nil)))
      (pss_cons (ps_setLc (i := 2) (own := [("step", 3)]) rfl sc_B_near.nd rfl rfl (sw_true rfl rfl rfl (by decide +kernel)) (pi_tup (pe_glob (v := V.ref D.aAROUND) (by rfl) g_AROUND.g rfl)) (blkOk_by (own := [("step", 3)]) (N := ["self", "cell", "found", "step", "other"]) (sc := defScope s_B_near) (by decide +kernel)) (fun _ _ _ _ _ => (pg_name (i := 3) sc_B_near.nd rfl (by first | exact Or.inl rfl | exact Or.inr rfl))) (fun _ _ _ _ _ => pts_nil) (fun _ _ _ _ _ => (pe_tup (pa_cons (pe_op op_add (pe_ix (ix_tupK K) (pv 1) pe_int (fun _ _ => rfl)) (pe_ix (ix_tupK K) (pv 3) pe_int (fun _ _ => rfl))) (pa_cons (pe_op op_add (pe_ix (ix_tupK K) (pv 1) pe_int (fun _ _ => rfl)) (pe_ix (ix_tupK K) (pv 3) pe_int (fun _ _ => rfl))) pa_nil)))))
      (pss_one (ps_ret (pe_lc (own := [("other", 4)]) (by rfl) sc_B_near.nd (pi_list (pv 2)) (blkOk_by (own := [("other", 4)]) (N := ["self", "cell", "found", "step", "other"]) (sc := defScope s_B_near) (by decide +kernel)) (fun _ _ _ _ _ => (pg_name (i := 4) sc_B_near.nd rfl (by first | exact Or.inl rfl | exact Or.inr rfl))) (fun _ _ _ _ _ => pts_one (pt_val (pe_mth c_B_has T.cl (pv 0) hr passL (pa_cons (pv 4) pa_nil)))) (fun _ _ _ _ _ => (pv 4))))))), ?_⟩
    obtain ⟨S, hv, h1, h2⟩ := hh
    obtain ⟨⟨dx, hb⟩, _⟩ := id S
    refine ⟨_, rfl, b, dx, _, rfl, hb, fl_no _ _ _ (by decide +kernel) (by decide +kernel) (by decide +kernel), _, rfl, b, d, R, C, kv, v, c, rfl, S, hv, fun e => ?_, h1⟩
    have k := h2 e
    obtain ⟨t, rfl, ht⟩ := hv
    obtain ⟨ts, hA, hS⟩ := g_AROUND.t
    refine ⟨D.aAROUND, rfl, ⟨_, hA _⟩, fun L hL => lc_tup (K := K) (a := D.aAROUND) (xs := ts.map V.ref) (fun i H2 => Same H H2 ∧ ∃ vs, H2 L = some (.lst vs) ∧ Cells H2 vs ((around c).take i)) ⟨same_upd hL, [], upd_same, .nil⟩ (fun _ H2 _ _ => hA H2) ?_ ?_⟩
    · rintro i x H2 hx ⟨s2, vs, hL2, hc⟩
      have hlen := paired_len hc
      rw [List.getElem?_map] at hx
      cases e1 : ts[i]? with
      | none => rw [e1] at hx; cases hx
      | some ti =>
        rw [e1] at hx
        cases hx
        obtain ⟨si, hsi, hti⟩ := paired_get hS e1
        have ht2 := s2 _ _ ht
        refine ⟨rfl, ?_⟩
        refine ⟨_, rfl, t, _, _, _, rfl, rfl, SqT.of ht2, at0, _, rfl, ti, _, _, _, rfl, rfl, hti H2, at0, _, _, rfl, rfl, _, rfl, t, _, _, _, rfl, rfl, SqT.of ht2, at1, _, rfl, ti, _, _, _, rfl, rfl, hti H2, at1, _, _, rfl, rfl, (by show 2 ≤ sizeLine; decide), fun p hp => ?_⟩
        have hpL : L ≠ p := ne_of_none hL2 hp
        refine ⟨vs, by rw [upd_ne hpL]; exact hL2, small100 (by rw [hlen, List.length_take]; show min i 6 ≤ _; omega), same_set (fun b o z => by rw [upd_ne (ne_of_none (s2 _ _ z) hp)]; exact s2 _ _ z) hL, vs ++ [V.ref p], upd_same, ?_⟩
        unfold around
        rw [map_take _ hsi]
        exact cells_snoc (c := (c.1 + si.1, c.2 + si.2)) (hc.same (same_upd hp)) (by rw [upd_ne hpL]; exact hL2) (lst_ntup _) upd_same _
    · rintro H2 ⟨s2, vs, hL2, hc⟩
      have hl6 : (ts.map V.ref).length = (around c).length := by rw [List.length_map, paired_len hS]; unfold around; rw [List.length_map]
      rw [hl6, List.take_length] at hc
      have hlen := paired_len hc
      obtain ⟨⟨dx2, hb2⟩, _⟩ := S.same s2
      refine ⟨_, rfl, L, rfl, ⟨_, SqL.of hL2⟩, fun L2 hL3 => lc_list (K := K) (a := L) (xs := vs) (fun i H3 => Same H2 H3 ∧ ∃ ws, H3 L2 = some (.lst ws) ∧ Cells H3 ws (((around c).take i).filter fun z => decide (B R C z))) ⟨same_upd hL3, [], upd_same, .nil⟩ (fun _ H3 _ q => SqL.of (q.1 _ _ hL2)) ?_ ?_⟩
      · rintro i x H3 hx ⟨s3, ws, hL4, hc3⟩
        have hlen3 := paired_len hc3
        obtain ⟨ci, hci, hxi⟩ := paired_get hc hx
        obtain ⟨ti, rfl, hti⟩ := hxi
        have hti3 := s3 _ _ hti
        have S3 := (S.same s2).same s3
        obtain ⟨⟨dx3, hb3⟩, _⟩ := id S3
        refine ⟨rfl, _, rfl, b, dx3, _, rfl, hb3, fl_no _ _ _ (by decide +kernel) (by decide +kernel) (by decide +kernel), _, rfl, b, d, R, C, kv, _, ci, rfl, S3, ⟨ti, rfl, hti3⟩, _, rfl, ifD (fun e3 => ?_) (fun e3 => ?_)⟩
        · refine ⟨_, rfl, ws, hL4, small100 (by rw [hlen3]; exact Nat.le_trans (List.length_filter_le _ _) (Nat.le_trans (List.length_take_le' _ _) (by decide : 6 ≤ 1000))), same_set s3 hL3, ws ++ [V.ref ti], upd_same, ?_⟩
          rw [filter_take _ hci, if_pos (decide_eq_true e3)]
          exact cells_snoc hc3 hL4 (lst_ntup _) hti3 _
        · refine ⟨s3, ws, hL4, ?_⟩
          rw [filter_take _ hci, if_neg (by rw [decide_eq_false e3]; exact Bool.false_ne_true), List.append_nil]
          exact hc3
      · rintro H3 ⟨s3, ws, hL4, hc3⟩
        rw [hlen, List.take_length] at hc3
        exact k L2 ws H3 (s2.trans s3) (s2.free hL3) hL4 hc3
theorem ok_law_cell_at {f : Addr} {fd : FuncData} (F : Fun K "_law_cell_at" "_law_cell_at" s_law_cell_at f fd) (T : Top K mg D) : FnOk P w K mg base (L2.CX P w) 1 f fd ["script", "k"] (sp_law_cell_at K D) := by
  refine ofX0 (F.ok sc_law_cell_at (fun vs H Q E h => ?_) (fun cdv A outer s H vs Q E hr h => ?_))
  · obtain ⟨a, ns, j, rfl, hh⟩ := h
    rfl
  · obtain ⟨a, ns, j, rfl, hh⟩ := h
    refine ⟨_, (pss_cons (ps_if (pt_cmpR op_lt (pv 1) (pe_callB (id := "len") call_len_seq (by rfl) T.len (by decide +kernel) (pa_cons (pv 0) pa_nil)) (nomark _)) (pss_one (ps_ret (pe_ix ix_list (pv 0) (pv 1) (fun _ _ => rfl)))) pss_nil)
      (pss_one (ps_ret pe_int))), ?_⟩
    obtain ⟨hS, h0, k⟩ := hh
    refine ⟨_, rfl, _, rfl, a, _, rfl, .inl hS, _, _, rfl, rfl, _, rfl, ifD (fun e => ?_) (fun e => ?_)⟩
    · rw [List.length_map] at e
      have hj : j.toNat < ns.length := by omega
      refine ⟨_, rfl, _, rfl, a, _, _, V.int (item ns j), rfl, rfl, hS, at_of (j := j.toNat) (by omega) ?_, k⟩
      rw [List.getElem?_map, List.getElem?_eq_getElem hj]
      unfold item
      rw [List.getD_eq_getElem?_getD, List.getElem?_eq_getElem hj]
      rfl
    · rw [List.length_map] at e
      have hj : ns.length ≤ j.toNat := by omega
      unfold item at k
      rw [List.getD_eq_getElem?_getD, List.getElem?_eq_none hj] at k
      exact k
theorem ok_law_whole {f : Addr} {fd : FuncData} (F : Fun K "_law_whole" "_law_whole" s_law_whole f fd) (T : Top K mg D) : FnOk P w K mg base (L2.CX P w) 1 f fd ["found"] (sp_law_whole K D) := by
  refine ofX0 (F.ok sc_law_whole (fun vs H Q E h => ?_) (fun cdv A outer s H vs Q E hr h => ?_))
  · obtain ⟨i, rfl, hh⟩ := h
    rfl
  · obtain ⟨i, rfl, hh⟩ := h
    refine ⟨_, (pss_one (ps_ret (pe_and (pe_callB (id := "isinstance") call_isi (by rfl) T.isinstance (by decide +kernel) (pa_cons (pv 0) (pa_cons (pe_ty (n := "int") T.int (by decide +kernel)) pa_nil))) (pe_one (pe_not (pe_callB (id := "isinstance") call_isi (by rfl) T.isinstance (by decide +kernel) (pa_cons (pv 0) (pa_cons (pe_ty (n := "bool") T.bool (by decide +kernel)) pa_nil)))))))), ?_⟩
    exact ⟨_, rfl, _, _, _, _, true, rfl, .ty "int", .base (.int i), kit_ty (by decide +kernel), true, rfl, _, rfl, _, _, _, _, false, rfl, .ty "bool", .base (.int i), kit_ty (by decide +kernel), false, rfl, hh⟩
theorem ok_law_near {f : Addr} {fd : FuncData} (F : Fun K "_law_near" "_law_near" s_law_near f fd) (T : Top K mg D) : FnOk P w K mg base (L2.CX P w) 1 f fd ["rows", "columns", "cell"] (sp_law_near K D) := by
  refine ofX0 (F.ok sc_law_near (fun vs H Q E h => ?_) (fun cdv A outer s H vs Q E hr h => ?_))
  · obtain ⟨R, C, v, c, rfl, hh⟩ := h
    rfl
  · obtain ⟨R, C, v, c, rfl, hh⟩ := h
    refine ⟨_, (pss_cons (ps_set (i := 3) sc_law_near.nd rfl (by first | exact Or.inl rfl | exact Or.inr rfl) (pe_lst pa_nil))
      (pss_cons (ps_for PassesOwn.never rfl (pi_list (pe_lst (pa_cons (pe_tup (pa_cons (pe_un un_neg pe_int) (pa_cons pe_int pa_nil))) (pa_cons (pe_tup (pa_cons (pe_un un_neg pe_int) (pa_cons pe_int pa_nil))) (pa_cons (pe_tup (pa_cons pe_int (pa_cons (pe_un un_neg pe_int) pa_nil))) (pa_cons (pe_tup (pa_cons pe_int (pa_cons pe_int pa_nil))) (pa_cons (pe_tup (pa_cons pe_int (pa_cons (pe_un un_neg pe_int) pa_nil))) (pa_cons (pe_tup (pa_cons pe_int (pa_cons pe_int pa_nil))) pa_nil)))))))) (pg_tup rfl (pgs_cons (pg_name (i := 4) sc_law_near.nd rfl (by first | exact Or.inl rfl | exact Or.inr rfl)) (pgs_cons (pg_name (i := 5) sc_law_near.nd rfl (by first | exact Or.inl rfl | exact Or.inr rfl)) pgs_nil))) (pss_cons (ps_set (i := 6) sc_law_near.nd rfl (by first | exact Or.inl rfl | exact Or.inr rfl) (pe_tup (pa_cons (pe_op op_add (pe_ix ix_tup (pv 2) pe_int (fun _ _ => rfl)) (pv 4)) (pa_cons (pe_op op_add (pe_ix ix_tup (pv 2) pe_int (fun _ _ => rfl)) (pv 5)) pa_nil))))
        (pss_one (ps_if (PW.pt (pw_and (pt_btw (n := 0) (pe_ix ix_tup (pv 6) pe_int (fun _ _ => rfl)) (pv 0)) (pw_and1 (pt_btw (n := 1) (pe_ix ix_tup (pv 6) pe_int (fun _ _ => rfl)) (pv 1))))) (pss_one (ps_expr (pe_bm PySem.F.plainAttrs_list PySem.F.slot_list_append PySem.F.type_list_append mt_append (pv 3) (pa_cons (pv 6) pa_nil)))) pss_nil))))
      (pss_one (ps_ret (pv 3))))), ?_⟩
    obtain ⟨⟨t, rfl, ht⟩, k⟩ := hh
    refine ⟨by show 0 ≤ sizeLine; decide, fun L hL => ?_⟩
    refine ⟨_, rfl, by show 2 ≤ sizeLine; decide, fun p1 n1 => ⟨_, rfl, by show 2 ≤ sizeLine; decide, fun p2 n2 => ⟨_, rfl, by show 2 ≤ sizeLine; decide, fun p3 n3 => ⟨by show 2 ≤ sizeLine; decide, fun p4 n4 => ⟨_, rfl, by show 2 ≤ sizeLine; decide, fun p5 n5 => ⟨by show 2 ≤ sizeLine; decide, fun p6 n6 => ⟨by show 6 ≤ sizeLine; decide, fun M nM => ?_⟩⟩⟩⟩⟩⟩⟩
    have s0 : Same H (upd H L (.lst [])) := same_upd hL
    have s1 := same_upd (o := .tup [V.int (-1), V.int 0]) n1
    have s2 := same_upd (o := .tup [V.int (-1), V.int 1]) n2
    have s3 := same_upd (o := .tup [V.int 0, V.int (-1)]) n3
    have s4 := same_upd (o := .tup [V.int 0, V.int 1]) n4
    have s5 := same_upd (o := .tup [V.int 1, V.int (-1)]) n5
    have s6 := same_upd (o := .tup [V.int 1, V.int 0]) n6
    have s7 := same_upd (o := .lst [V.ref p1, V.ref p2, V.ref p3, V.ref p4, V.ref p5, V.ref p6]) nM
    have a6 := s6.trans s7
    have a5 := s5.trans a6
    have a4 := s4.trans a5
    have a3 := s3.trans a4
    have a2 := s2.trans a3
    have a1 := s1.trans a2
    have hst : Cells _ [V.ref p1, V.ref p2, V.ref p3, V.ref p4, V.ref p5, V.ref p6] steps := .cons ⟨p1, rfl, a2 _ _ upd_same⟩ (.cons ⟨p2, rfl, a3 _ _ upd_same⟩ (.cons ⟨p3, rfl, a4 _ _ upd_same⟩ (.cons ⟨p4, rfl, a5 _ _ upd_same⟩ (.cons ⟨p5, rfl, a6 _ _ upd_same⟩ (.cons ⟨p6, rfl, s7 _ _ upd_same⟩ .nil)))))
    have sA := s0.trans a1
    have hLA := a1 L _ upd_same
    have hML : M ≠ L := (ne_of_none ((s1.trans (s2.trans (s3.trans (s4.trans (s5.trans s6))))) L _ upd_same) nM).symm
    refine ⟨M, rfl, ⟨_, SqL.of upd_same⟩, for_list (K := K) (a := M) (xs := [V.ref p1, V.ref p2, V.ref p3, V.ref p4, V.ref p5, V.ref p6]) (fun i σ H2 => ∃ v4 v5 v6 vs, σ = [some (.int R), some (.int C), some (.ref t), some (.ref L), v4, v5, v6] ∧ Same H H2 ∧ H2 M = some (.lst [V.ref p1, V.ref p2, V.ref p3, V.ref p4, V.ref p5, V.ref p6]) ∧ Cells H2 [V.ref p1, V.ref p2, V.ref p3, V.ref p4, V.ref p5, V.ref p6] steps ∧
      H2 L = some (.lst vs) ∧ Cells H2 vs (((around c).take i).filter fun z => decide (B R C z)))
      ⟨none, none, none, [], rfl, sA, upd_same, hst, hLA, .nil⟩ (fun _ _ H2 _ ⟨_, _, _, _, _, _, q, _⟩ => SqL.of q) ?_ ?_⟩
    · rintro i x σ H2 hx ⟨v4, v5, v6, vs, rfl, sH, hM, hS, hL2, hc⟩
      have hlen := paired_len hc
      obtain ⟨si, hsi, ti, rfl, hti⟩ := paired_get hS hx
      have ht2 := sH _ _ ht
      refine ⟨ti, _, rfl, SqT.of hti, rfl, _, _, rfl, _, _, rfl, rfl, ?_⟩
      refine ⟨_, rfl, t, _, _, _, rfl, rfl, SqT.of ht2, at0, _, rfl, _, _, rfl, rfl, _, rfl, t, _, _, _, rfl, rfl, SqT.of ht2, at1, _, rfl, _, _, rfl, rfl, by show 2 ≤ sizeLine; decide, fun p np => ?_⟩
      have sp := same_upd (o := .tup [V.int (c.1 + si.1), V.int (c.2 + si.2)]) np
      have hci : (around c)[i]? = some (c.1 + si.1, c.2 + si.2) := by
        unfold around
        rw [List.getElem?_map, hsi]
        rfl
      have lp : L ≠ p := ne_of_none hL2 np
      have mp : M ≠ p := ne_of_none hM np
      have no : ¬ B R C (c.1 + si.1, c.2 + si.2) → Cells (upd H2 p (.tup [V.int (c.1 + si.1), V.int (c.2 + si.2)])) vs (((around c).take (i + 1)).filter fun z => decide (B R C z)) := fun e => by
        rw [filter_take _ hci, if_neg (by rw [decide_eq_false e]; exact Bool.false_ne_true), List.append_nil]
        exact hc.same sp
      refine ⟨_, rfl, p, _, _, _, rfl, rfl, SqT.of upd_same, at0, _, _, rfl, rfl, ifD (fun e1 => ?_) (fun e1 => ?_)⟩
      · refine ⟨_, rfl, p, _, _, _, rfl, rfl, SqT.of upd_same, at1, _, _, rfl, rfl, ifD (fun e2 => ?_) (fun e2 => ?_)⟩
        · refine ⟨_, rfl, .inl ⟨rfl, _, SqL.of (sp _ _ hL2)⟩, _, rfl, L, vs, V.ref p, rfl, rfl, sp _ _ hL2, small100 (by rw [hlen]; exact Nat.le_trans (List.length_filter_le _ _) (Nat.le_trans (List.length_take_le' _ _) (by decide : 6 ≤ 1000))), ?_⟩
          refine ⟨_, _, _, _, rfl, same_set (sH.trans sp) hL, by rw [upd_ne hML]; exact sp _ _ hM, (hS.same sp).upd (sp _ _ hL2) (lst_ntup _), upd_same, ?_⟩
          rw [filter_take _ hci, if_pos (decide_eq_true ⟨e1.1, e1.2, e2.1, e2.2⟩)]
          exact cells_snoc (c := (c.1 + si.1, c.2 + si.2)) (hc.same sp) (sp _ _ hL2) (lst_ntup _) upd_same _
        · exact ⟨_, _, _, vs, rfl, sH.trans sp, sp _ _ hM, hS.same sp, sp _ _ hL2, no fun z => e2 ⟨z.2.2.1, z.2.2.2⟩⟩
      · exact ⟨_, _, _, vs, rfl, sH.trans sp, sp _ _ hM, hS.same sp, sp _ _ hL2, no fun z => e1 ⟨z.1, z.2.1⟩⟩
    · rintro σ H2 ⟨v4, v5, v6, vs, rfl, sH, hM, hS, hL2, hc⟩
      have h6 : (around c).take 6 = around c := rfl
      exact ⟨_, rfl, k L vs H2 sH hL hL2 hc⟩
theorem ok_law_is_cells {f : Addr} {fd : FuncData} (F : Fun K "_law_is_cells" "_law_is_cells" s_law_is_cells f fd) (T : Top K mg D) (c_law_whole : Cl P w K mg base 1 "_law_whole" (sp_law_whole K D)) : FnOk P w K mg base (L2.CX P w) 2 f fd ["found", "rows", "columns"] (sp_law_is_cells K D) := by
  refine ofX0 (F.ok sc_law_is_cells (fun vs H Q E h => ?_) (fun cdv A outer s H vs Q E hr h => ?_))
  · obtain ⟨l, us, cs, R, C, rfl, hh⟩ := h
    rfl
  · obtain ⟨l, us, cs, R, C, rfl, hh⟩ := h
    refine ⟨_, (pss_cons (ps_if (pt_not (pt_val (pe_callB (id := "isinstance") call_isi (by rfl) T.isinstance (by decide +kernel) (pa_cons (pv 0) (pa_cons (pe_ty (n := "list") T.list (by decide +kernel)) pa_nil))))) (pss_one (ps_ret pe_bl)) pss_nil)
      (pss_cons (ps_for PassesOwn.never rfl (pi_list (pv 0)) (pg_name (i := 3) sc_law_is_cells.nd rfl (by first | exact Or.inl rfl | exact Or.inr rfl)) (pss_cons (ps_if (PW.pt (pw_or (pt_not (pt_val (pe_callB (id := "isinstance") call_isi (by rfl) T.isinstance (by decide +kernel) (pa_cons (pv 3) (pa_cons (pe_ty (n := "tuple") T.tuple (by decide +kernel)) pa_nil))))) (pw_or1 (pt_cmpR op_ne (pe_callB (id := "len") call_len_seq (by rfl) T.len (by decide +kernel) (pa_cons (pv 3) pa_nil)) pe_int (nomark _))))) (pss_one (ps_ret pe_bl)) pss_nil)
        (pss_cons (ps_if (PW.pt (pw_or (pt_not (pt_val (pe_cl c_law_whole hr passL (pa_cons (pe_ix ix_tup (pv 3) pe_int (fun _ _ => rfl)) pa_nil)))) (pw_or1 (pt_not (pt_val (pe_cl c_law_whole hr passL (pa_cons (pe_ix ix_tup (pv 3) pe_int (fun _ _ => rfl)) pa_nil))))))) (pss_one (ps_ret pe_bl)) pss_nil)
        (pss_one (ps_if (PW.pt (pw_or (pt_not (pt_btw (n := 1) (pe_ix ix_tup (pv 3) pe_int (fun _ _ => rfl)) (pv 1))) (pw_or1 (pt_not (pt_btw (n := 2) (pe_ix ix_tup (pv 3) pe_int (fun _ _ => rfl)) (pv 2)))))) (pss_one (ps_ret pe_bl)) pss_nil)))))
      (pss_one (ps_ret pe_bl)))), ?_⟩
    obtain ⟨hl, hc, hB, k⟩ := hh
    refine ⟨_, rfl, _, _, _, _, true, rfl, .ty "list", .base (.lst hl), kit_ty (by decide +kernel), true, rfl, ?_⟩
    refine ⟨_, rfl, l, rfl, ⟨_, SqL.of hl⟩, for_list (K := K) (a := l) (xs := us) (fun i σ H2 => ∃ v3, σ = [some (.ref l), some (.int R), some (.int C), v3] ∧ H2 = H) ⟨none, rfl, rfl⟩ (fun _ _ H2 _ ⟨_, _, e⟩ => by rw [e]; exact SqL.of hl) ?_ ?_⟩
    · rintro i x σ H2 hx ⟨v3, rfl, rfl⟩
      obtain ⟨ci, hci, t, rfl, ht⟩ := paired_get hc hx
      have hb := hB ci (List.mem_of_getElem? hci)
      refine ⟨_, rfl, _, _, _, _, true, rfl, .ty "tuple", .base (.tup ht), kit_ty (by decide +kernel), true, rfl, ?_⟩
      refine ⟨_, rfl, t, _, rfl, .inr (SqT.of ht), rfl, _, rfl, ?_⟩
      refine ⟨_, rfl, t, _, _, _, rfl, rfl, SqT.of ht, at0, _, rfl, true, rfl, ?_⟩
      refine ⟨_, rfl, t, _, _, _, rfl, rfl, SqT.of ht, at1, _, rfl, true, rfl, ?_⟩
      refine ⟨_, rfl, t, _, _, _, rfl, rfl, SqT.of ht, at0, _, _, rfl, rfl, ?_⟩
      refine ifNN (fun e => absurd (decide_eq_true (⟨hb.1, hb.2.1⟩ : 0 ≤ ci.1 ∧ ci.1 < R)) (by rw [e]; exact Bool.false_ne_true)) (fun _ => ?_)
      refine ⟨_, rfl, t, _, _, _, rfl, rfl, SqT.of ht, at1, _, _, rfl, rfl, ?_⟩
      refine ifNN (fun e => absurd (decide_eq_true (⟨hb.2.2.1, hb.2.2.2⟩ : 0 ≤ ci.2 ∧ ci.2 < C)) (by rw [e]; exact Bool.false_ne_true)) (fun _ => ?_)
      exact ⟨_, rfl, rfl⟩
    · rintro σ H2 ⟨v3, rfl, rfl⟩
      exact k
theorem ok_law_near_right {f : Addr} {fd : FuncData} (F : Fun K "_law_near_right" "_law_near_right" s_law_near_right f fd) (T : Top K mg D) (c_B_near : Mt P w K mg base 3 D.C "near" (sp_B_near K D)) (c_law_near : Cl P w K mg base 1 "_law_near" (sp_law_near K D)) (c_law_is_cells : Cl P w K mg base 2 "_law_is_cells" (sp_law_is_cells K D)) : FnOk P w K mg base (L2.CX P w) 4 f fd ["board", "rows", "columns", "cell"] (sp_law_near_right K D) := by
  refine ofX0 (F.ok sc_law_near_right (fun vs H Q E h => ?_) (fun cdv A outer s H vs Q E hr h => ?_))
  · obtain ⟨b, d, R, C, kv, v, c, rfl, hh⟩ := h
    rfl
  · obtain ⟨b, d, R, C, kv, v, c, rfl, hh⟩ := h
    refine ⟨_, (pss_cons (ps_set (i := 4) sc_law_near_right.nd rfl (by first | exact Or.inl rfl | exact Or.inr rfl) (pe_mth c_B_near T.cl (pv 0) hr passL (pa_cons (pv 3) pa_nil)))
      (pss_cons (ps_set (i := 5) sc_law_near_right.nd rfl (by first | exact Or.inl rfl | exact Or.inr rfl) (pe_cl c_law_near hr passL (pa_cons (pv 1) (pa_cons (pv 2) (pa_cons (pv 3) pa_nil)))))
      (pss_cons (ps_if (PW.pt (pw_or (pt_not (pt_val (pe_cl c_law_is_cells hr passL (pa_cons (pv 4) (pa_cons (pv 1) (pa_cons (pv 2) pa_nil)))))) (pw_or1 (pt_cmpR (op_neD hr.units) (pv 4) (pv 5) (nomark _))))) (pss_one (ps_ret pe_bl)) pss_nil)
      (pss_cons (ps_expr (pe_bm PySem.F.plainAttrs_list PySem.F.slot_list_append PySem.F.type_list_append mt_append (pv 4) (pa_cons (pv 3) pa_nil)))
      (pss_one (ps_ret (pe_cmpR (op_eqD hr.units) (pe_mth c_B_near T.cl (pv 0) hr passL (pa_cons (pv 3) pa_nil)) (pv 5) (nomark _)))))))), ?_⟩
    obtain ⟨S, hv, hB, k⟩ := hh
    obtain ⟨⟨dx, hb⟩, _⟩ := id S
    have nm : ∀ {m : Str}, (m == ("height" : Str)) = false → (m == ("width" : Str)) = false → (m == ("owners" : Str)) = false → (flds R C d).lookup m = none := fun h1 h2 h3 => fl_no _ _ _ h1 h2 h3
    refine ⟨_, rfl, b, dx, _, rfl, hb, nm (by decide +kernel) (by decide +kernel) (by decide +kernel), _, rfl, b, d, R, C, kv, v, c, rfl, S, hv, fun e => absurd hB e, fun _ L vs H1 s1 nL hL hc => ?_⟩
    refine ⟨_, rfl, _, rfl, _, rfl, R, C, v, c, rfl, hv.same s1, fun L2 ws H2 s2 nL2 hL2 hc2 => ?_⟩
    have hc' := hc.same s2
    have hL' := s2 _ _ hL
    refine ⟨_, rfl, _, rfl, _, rfl, L, vs, near R C c, R, C, rfl, hL', hc', fun z hz => (mem_near.mp hz).2, true, rfl, ?_⟩
    refine ⟨_, rfl, _, rfl, clist (near R C c), clist (near R C c), dp_cells (SqL.of hL') hc', dp_cells (SqL.of hL2) hc2, sh_cl _, sh_cl _, _, rfl, ?_⟩
    rw [eqv_cl, decide_eq_true rfl]
    refine if_f rfl ?_
    have hlen := paired_len hc'
    refine ⟨_, rfl, .inl ⟨rfl, _, SqL.of hL'⟩, _, rfl, L, vs, v, rfl, rfl, hL', small100 (by rw [hlen]; exact Nat.le_trans (near_len _ _ _) (by decide)), ?_⟩
    have s3 : Same H (upd H2 L (.lst (vs ++ [v]))) := same_set (s1.trans s2) nL
    have hne : L ≠ L2 := ne_of_none hL nL2
    refine ⟨_, rfl, b, dx, _, rfl, s3 _ _ hb, nm (by decide +kernel) (by decide +kernel) (by decide +kernel), _, rfl, b, d, R, C, kv, v, c, rfl, S.same s3, hv.same s3, fun e => absurd hB e, fun _ L3 us H3 s4 nL3 hL3 hc3 => ?_⟩
    have hc4 : Cells H3 ws (near R C c) := (hc2.upd hL' (lst_ntup _)).same s4
    refine ⟨_, rfl, clist (near R C c), clist (near R C c), dp_cells (SqL.of hL3) hc3, dp_cells (SqL.of (s4 _ _ (by rw [upd_ne hne.symm]; exact hL2))) hc4, sh_cl _, sh_cl _, ?_⟩
    rw [eqv_cl, decide_eq_true rfl]
    exact k H3 (s3.trans s4)
theorem ok_law_no_cell {f : Addr} {fd : FuncData} (F : Fun K "_law_no_cell" "_law_no_cell" s_law_no_cell f fd) (T : Top K mg D) (x_BoardError : XC K mg "BoardError" D.eBoardError) (x_NoCell : XC K mg "NoCell" D.eNoCell) (m_NoCell : PySem.W.exmOne K (.ref D.eNoCell) (.ref D.eBoardError) = some true) (q_NoCell : ExcC K D.eNoCell) (i_NoCell_NoCell : PySem.W.kitOne K (.ref D.eNoCell) (.ref D.eNoCell) = some true) (i_NoCell_ValueError : PySem.W.kitOne K (.ref D.eNoCell) (.type "ValueError") = some true) (c_B_near : Mt P w K mg base 3 D.C "near" (sp_B_near K D)) : FnOk P w K mg base (L2.CX P w) 4 f fd ["board", "cell"] (sp_law_no_cell K D) := by
  refine ofX0 (F.ok sc_law_no_cell (fun vs H Q E h => ?_) (fun cdv A outer s H vs Q E hr h => ?_))
  · obtain ⟨b, d, R, C, kv, v, c, rfl, hh⟩ := h
    rfl
  · obtain ⟨b, d, R, C, kv, v, c, rfl, hh⟩ := h
    refine ⟨_, (pss_cons (ps_set (i := 2) sc_law_no_cell.nd rfl (by first | exact Or.inl rfl | exact Or.inr rfl) (pe_lst pa_nil))
      (pss_cons (ps_try_as (i := 3) rfl rfl sc_law_no_cell.nd rfl rfl ⟨by rfl, by decide, .inl x_BoardError.g⟩ takes0 (fun W pn xe tk _ => (pss_one (ps_expr (pe_mthS c_B_near T.cl (pv 0) hr (fun σ => passAt tk σ) (pa_cons (pv 1) pa_nil))))) (fun a oe cls d pn hz hf => (pss_one (ps_set (i := 2) sc_law_no_cell.nd rfl (by first | exact Or.inl rfl | exact Or.inr rfl) (pe_lst (pa_cons (pe_callB (id := "isinstance") (call_isX K hz hf) (by rfl) T.isinstance (by decide +kernel) (pa_cons (pv 3) (pa_cons (pe_glob (v := V.ref D.eNoCell) (by rfl) x_NoCell.g rfl) pa_nil))) (pa_cons (pe_callB (id := "isinstance") (call_isX K hz hf) (by rfl) T.isinstance (by decide +kernel) (pa_cons (pv 3) (pa_cons (pe_ty (n := "ValueError") T.ValueError (by decide +kernel)) pa_nil))) pa_nil)))))))
      (pss_one (ps_ret (pe_cmpR (op_eqD hr.units) (pv 2) (pe_lst (pa_cons pe_bl (pa_cons pe_bl pa_nil))) (nomark _)))))), ?_⟩
    obtain ⟨S, hv, hB, k⟩ := hh
    obtain ⟨⟨dx, hb⟩, _⟩ := id S
    refine ⟨by show 0 ≤ sizeLine; decide, fun L nL => ?_⟩
    have s1 : Same H (upd H L (.lst [])) := same_upd nL
    refine ⟨_, rfl, b, dx, _, rfl, s1 _ _ hb, fl_no _ _ _ (by decide +kernel) (by decide +kernel) (by decide +kernel), _, rfl, b, d, R, C, kv, v, c, rfl, S.same s1, hv.same s1, fun _ => ?_, fun e => absurd e hB⟩
    refine ⟨true, m_NoCell, fun _ a na => ?_, fun q => nomatch q⟩
    refine ⟨_, rfl, D.eNoCell, rfl, rfl, q_NoCell, _, _, true, rfl, fun u r => r, i_NoCell_NoCell, ?_⟩
    refine ⟨_, rfl, D.eNoCell, rfl, rfl, q_NoCell, _, _, true, rfl, fun u r => r, i_NoCell_ValueError, ?_⟩
    refine ⟨by show 2 ≤ sizeLine; decide, fun M nM => ?_⟩
    have s2 := s1.trans (same_upd (o := .lst [V.bl true, V.bl true]) nM)
    refine ⟨_, rfl, by show 2 ≤ sizeLine; decide, fun M2 nM2 => ?_⟩
    have s3 := same_upd (o := .lst [V.bl true, V.bl true]) nM2
    refine ⟨blist [true, true], blist [true, true], dp_bools (SqL.of (s3 _ _ upd_same)), dp_bools (SqL.of upd_same), sh_bl _, sh_bl _, ?_⟩
    rw [eqv_bl, decide_eq_true rfl]
    exact k _ (s2.trans s3)
theorem ok_law {f : Addr} {fd : FuncData} (F : Fun K "law" "law" s_law f fd) (T : Top K mg D) (c_law_cell_at : Cl P w K mg base 1 "_law_cell_at" (sp_law_cell_at K D)) (c_B_init : Mkr P w K mg base 1 "Board" D.C (sp_B_init K D)) (c_law_near_right : Cl P w K mg base 4 "_law_near_right" (sp_law_near_right K D)) (c_law_no_cell : Cl P w K mg base 4 "_law_no_cell" (sp_law_no_cell K D)) : FnOk P w K mg base (L2.CX P w) 5 f fd ["script"] (sp_law K D) := by
  refine ofX0 (F.ok sc_law (fun vs H Q E h => ?_) (fun cdv A outer s H vs Q E hr h => ?_))
  · obtain ⟨a, ns, rfl, hh⟩ := h
    rfl
  · obtain ⟨a, ns, rfl, hh⟩ := h
    refine ⟨_, (pss_cons (ps_set (i := 1) sc_law.nd rfl (by first | exact Or.inl rfl | exact Or.inr rfl) (pe_op op_add pe_int (pe_op op_mod (pe_cl c_law_cell_at hr passL (pa_cons (pv 0) (pa_cons pe_int pa_nil))) pe_int)))
      (pss_cons (ps_set (i := 2) sc_law.nd rfl (by first | exact Or.inl rfl | exact Or.inr rfl) (pe_op op_add pe_int (pe_op op_mod (pe_cl c_law_cell_at hr passL (pa_cons (pv 0) (pa_cons pe_int pa_nil))) pe_int)))
      (pss_cons (ps_set (i := 3) sc_law.nd rfl (by first | exact Or.inl rfl | exact Or.inr rfl) (pe_mkr c_B_init hr passL (pa_cons (pv 1) (pa_cons (pv 2) pa_nil))))
      (pss_cons (ps_set (i := 4) sc_law.nd rfl (by first | exact Or.inl rfl | exact Or.inr rfl) (pe_op op_mod (pe_cl c_law_cell_at hr passL (pa_cons (pv 0) (pa_cons pe_int pa_nil))) (pv 1)))
      (pss_cons (ps_set (i := 5) sc_law.nd rfl (by first | exact Or.inl rfl | exact Or.inr rfl) (pe_lst (pa_cons (pe_tup (pa_cons pe_int (pa_cons pe_int pa_nil))) (pa_cons (pe_tup (pa_cons (pe_op op_sub (pv 1) pe_int) (pa_cons pe_int pa_nil))) (pa_cons (pe_tup (pa_cons pe_int (pa_cons (pe_op op_sub (pv 2) pe_int) pa_nil))) (pa_cons (pe_tup (pa_cons (pe_op op_sub (pv 1) pe_int) (pa_cons (pe_op op_sub (pv 2) pe_int) pa_nil))) pa_nil))))))
      (pss_cons (ps_set (i := 5) sc_law.nd rfl (by first | exact Or.inl rfl | exact Or.inr rfl) (pe_op op_cat (pv 5) (pe_lc (own := [("c", 6)]) (by rfl) sc_law.nd (pi_range1 (by rfl) T.range (pa_cons (pv 2) pa_nil)) (blkOk_by (own := [("c", 6)]) (N := ["script", "rows", "columns", "board", "row", "cells", "c", "cell", "far", "bad"]) (sc := defScope s_law) (by decide +kernel)) (fun _ _ _ _ _ => (pg_name (i := 6) sc_law.nd rfl (by first | exact Or.inl rfl | exact Or.inr rfl))) (fun _ _ _ _ _ => pts_nil) (fun _ _ _ _ _ => (pe_tup (pa_cons (pv 4) (pa_cons (pv 6) pa_nil)))))))
      (pss_cons (ps_for PassesOwn.never rfl (pi_list (pv 5)) (pg_name (i := 7) sc_law.nd rfl (by first | exact Or.inl rfl | exact Or.inr rfl)) (pss_one (ps_if (pt_not (pt_val (pe_cl c_law_near_right hr passL (pa_cons (pv 3) (pa_cons (pv 1) (pa_cons (pv 2) (pa_cons (pv 7) pa_nil))))))) (pss_one (ps_ret pe_bl)) pss_nil)))
      (pss_cons (ps_set (i := 8) sc_law.nd rfl (by first | exact Or.inl rfl | exact Or.inr rfl) (pe_op op_mod (pe_op op_fdiv (pe_cl c_law_cell_at hr passL (pa_cons (pv 0) (pa_cons pe_int pa_nil))) pe_int) pe_int))
      (pss_cons (ps_set (i := 9) sc_law.nd rfl (by first | exact Or.inl rfl | exact Or.inr rfl) (pe_ix ix_list (pe_lst (pa_cons (pe_tup (pa_cons (pv 1) (pa_cons pe_int pa_nil))) (pa_cons (pe_tup (pa_cons pe_int (pa_cons (pe_un un_neg pe_int) pa_nil))) (pa_cons (pe_tup (pa_cons (pe_op op_sub (pe_un un_neg pe_int) (pv 8)) (pa_cons pe_int pa_nil))) (pa_cons (pe_tup (pa_cons pe_int (pa_cons (pe_op op_add (pv 2) (pv 8)) pa_nil))) pa_nil))))) (pe_op op_mod (pe_cl c_law_cell_at hr passL (pa_cons (pv 0) (pa_cons pe_int pa_nil))) pe_int) (fun _ _ => rfl)))
      (pss_one (ps_ret (pe_cl c_law_no_cell hr passL (pa_cons (pv 3) (pa_cons (pv 9) pa_nil)))))))))))))), ?_⟩
    obtain ⟨hS, hlen, k⟩ := hh
    refine ⟨_, rfl, a, ns, 0, rfl, hS, by decide, _, _, rfl, rfl, (by show (0 : Int) < 10; decide), _, _, rfl, rfl, ?_⟩
    refine ⟨_, rfl, a, ns, 1, rfl, hS, by decide, _, _, rfl, rfl, (by show (0 : Int) < 10; decide), _, _, rfl, rfl, ?_⟩
    dsimp only
    have hr1 : 1 ≤ 1 + item ns 0 % 10 ∧ 1 + item ns 0 % 10 ≤ 10 := by omega
    have hc1 : 1 ≤ 1 + item ns 1 % 10 ∧ 1 + item ns 1 % 10 ≤ 10 := by omega
    generalize 1 + item ns 0 % 10 = R at hr1
    generalize 1 + item ns 1 % 10 = C at hc1
    refine ⟨_, rfl, _, rfl, fun b dx nb ndx hne => ⟨b, dx, R, C, rfl, upd_same, fun e => absurd (⟨hr1.1, hr1.2, hc1.1, hc1.2⟩ : Size R C) e, fun _ d H1 nd S keep => ⟨rfl, ?_⟩⟩⟩
    have s1 := made nb ndx keep
    refine ⟨_, rfl, a, ns, 2, rfl, s1.seq hS, by decide, _, rfl, _, _, rfl, rfl, by omega, ?_⟩
    have hrow : 0 ≤ item ns 2 % R ∧ item ns 2 % R < R := ⟨Int.emod_nonneg _ (by omega), Int.emod_lt_of_pos _ (by omega)⟩
    dsimp only
    generalize item ns 2 % R = rw0 at hrow
    refine ⟨by show 2 ≤ sizeLine; decide, fun p1 n1 => ⟨_, rfl, _, _, rfl, rfl, by show 2 ≤ sizeLine; decide, fun p2 n2 => ⟨_, rfl, _, _, rfl, rfl, by show 2 ≤ sizeLine; decide, fun p3 n3 => ⟨_, rfl, _, _, rfl, rfl, _, rfl, _, _, rfl, rfl, by show 2 ≤ sizeLine; decide, fun p4 n4 => ⟨by show 4 ≤ sizeLine; decide, fun L nL => ?_⟩⟩⟩⟩⟩
    have t1 := same_upd (o := .tup [V.int 0, V.int 0]) n1
    have t2 := same_upd (o := .tup [V.int (R - 1), V.int 0]) n2
    have t3 := same_upd (o := .tup [V.int 0, V.int (C - 1)]) n3
    have t4 := same_upd (o := .tup [V.int (R - 1), V.int (C - 1)]) n4
    obtain ⟨tL, hLL⟩ := newO (o := .lst [V.ref p1, V.ref p2, V.ref p3, V.ref p4]) nL
    have a4 := t4.trans tL
    have a3 := t3.trans a4
    have a2 := t2.trans a3
    have hc4 : Cells _ [V.ref p1, V.ref p2, V.ref p3, V.ref p4] [(0, 0), (R - 1, 0), (0, C - 1), (R - 1, C - 1)] := .cons ⟨p1, rfl, a2 _ _ upd_same⟩ (.cons ⟨p2, rfl, a3 _ _ upd_same⟩ (.cons ⟨p3, rfl, a4 _ _ upd_same⟩ (.cons ⟨p4, rfl, tL _ _ upd_same⟩ .nil)))
    have s2 := s1.trans (t1.trans a2)
    have S2 := S.same (t1.trans a2)
    refine ⟨_, rfl, _, rfl, C, rfl, by omega, by omega, fun M nM => lc_range (lo := 0) (n := C.toNat) (fun i H3 => Same _ H3 ∧ ∃ vs, H3 M = some (.lst vs) ∧ Cells H3 vs ((List.range i).map fun (c : Nat) => (rw0, ((c : Nat) : Int)))) ⟨same_upd nM, [], upd_same, .nil⟩ ?_ ?_⟩
    · rintro i H3 hi ⟨s3, vs, hM, hc⟩
      refine ⟨rfl, ?_⟩
      refine ⟨_, rfl, _, rfl, by show 2 ≤ sizeLine; decide, fun p np => ⟨vs, by rw [upd_ne (ne_of_none hM np)]; exact hM, small100 (by rw [paired_len hc, List.length_map, List.length_range]; omega), ?_⟩⟩
      refine ⟨same_set (s3.trans (same_upd np)) nM, vs ++ [V.ref p], upd_same, ?_⟩
      rw [List.range_succ, List.map_append]
      refine cells_snoc (c := (rw0, (i : Int))) (hc.same (same_upd np)) (by rw [upd_ne (ne_of_none hM np)]; exact hM) (lst_ntup _) ?_ _
      rw [upd_same, Int.zero_add]
    · rintro H3 ⟨s3, vs, hM, hc⟩
      have hcl := paired_len hc
      rw [List.length_map, List.length_range] at hcl
      refine ⟨L, M, _, vs, rfl, rfl, s3 _ _ hLL, hM, by show 4 + vs.length ≤ sizeLine; exact Nat.le_of_lt (small1000 (by omega)), fun L2 nL2 => ?_⟩
      have s4 := s2.trans (s3.trans (same_upd (o := .lst ([V.ref p1, V.ref p2, V.ref p3, V.ref p4] ++ vs)) nL2))
      have hall : Cells _ ([V.ref p1, V.ref p2, V.ref p3, V.ref p4] ++ vs) ([(0, 0), (R - 1, 0), (0, C - 1), (R - 1, C - 1)] ++ (List.range C.toNat).map fun (c : Nat) => (rw0, ((c : Nat) : Int))) := Cells.same (paired_app (hc4.same s3) hc) (same_upd (o := .lst ([V.ref p1, V.ref p2, V.ref p3, V.ref p4] ++ vs)) nL2)
      have S3 := S2.same (s3.trans (same_upd (o := .lst ([V.ref p1, V.ref p2, V.ref p3, V.ref p4] ++ vs)) nL2))
      have hB : ∀ z ∈ ([(0, 0), (R - 1, 0), (0, C - 1), (R - 1, C - 1)] ++ (List.range C.toNat).map fun (c : Nat) => (rw0, ((c : Nat) : Int)) : List Cell), B R C z := by
        intro z hz
        unfold B
        rcases List.mem_append.mp hz with hz | hz
        · simp only [List.mem_cons, List.not_mem_nil, or_false] at hz
          rcases hz with rfl | rfl | rfl | rfl <;> dsimp only <;> omega
        · obtain ⟨c, hc, rfl⟩ := List.mem_map.mp hz
          have := List.mem_range.mp hc
          dsimp only
          omega
      refine ⟨_, rfl, L2, rfl, ⟨_, SqL.of upd_same⟩, for_list (K := K) (a := L2) (xs := [V.ref p1, V.ref p2, V.ref p3, V.ref p4] ++ vs) (fun i σ H4 => ∃ v6 v7 v8 v9, σ = [some (.ref a), some (.int R), some (.int C), some (.ref b), some (.int rw0), some (.ref L2), v6, v7, v8, v9] ∧ Same (upd H3 L2 (.lst ([V.ref p1, V.ref p2, V.ref p3, V.ref p4] ++ vs))) H4)
        ⟨none, none, none, none, rfl, Same.refl _⟩ (fun _ _ H4 _ ⟨_, _, _, _, _, s⟩ => SqL.of (s _ _ upd_same)) ?_ ?_⟩
      · rintro i x σ H4 hx ⟨v6, v7, v8, v9, rfl, s5⟩
        obtain ⟨c, hci, hp⟩ := paired_get hall hx
        refine ⟨_, rfl, _, rfl, _, rfl, _, rfl, b, d, R, C, [], x, c, rfl, S3.same s5, hp.same s5, hB c (List.mem_of_getElem? hci), fun H5 s6 => ⟨true, rfl, ?_⟩⟩
        exact ⟨_, _, _, _, rfl, s5.trans s6⟩
      · rintro σ H4 ⟨v6, v7, v8, v9, rfl, s5⟩
        have s6 := s4.trans s5
        refine ⟨_, rfl, a, ns, 3, rfl, s6.seq hS, by decide, _, _, rfl, rfl, ⟨by decide, by decide⟩, _, _, rfl, rfl, (by show (0 : Int) < 1000; decide), ?_⟩
        have hfar : 0 ≤ item ns 3 / 4 % 1000 := Int.emod_nonneg _ (by decide)
        dsimp only
        generalize item ns 3 / 4 % 1000 = far at hfar
        refine ⟨_, rfl, by show 2 ≤ sizeLine; decide, fun q1 m1 => ⟨_, rfl, by show 2 ≤ sizeLine; decide, fun q2 m2 => ⟨_, rfl, _, rfl, _, _, rfl, rfl, by show 2 ≤ sizeLine; decide, fun q3 m3 => ⟨_, rfl, _, rfl, _, _, rfl, rfl, by show 2 ≤ sizeLine; decide, fun q4 m4 => ⟨by show 4 ≤ sizeLine; decide, fun N nN => ?_⟩⟩⟩⟩⟩
        have u1 := same_upd (o := .tup [V.int R, V.int 0]) m1
        have u2 := same_upd (o := .tup [V.int 0, V.int (-1)]) m2
        have u3 := same_upd (o := .tup [V.int (-1 - far), V.int 0]) m3
        have u4 := same_upd (o := .tup [V.int 0, V.int (C + far)]) m4
        have uN := same_upd (o := .lst [V.ref q1, V.ref q2, V.ref q3, V.ref q4]) nN
        have b4 := u4.trans uN
        have b3 := u3.trans b4
        have b2 := u2.trans b3
        have hcb : Cells _ [V.ref q1, V.ref q2, V.ref q3, V.ref q4] [(R, 0), (0, -1), (-1 - far, 0), (0, C + far)] := .cons ⟨q1, rfl, b2 _ _ upd_same⟩ (.cons ⟨q2, rfl, b3 _ _ upd_same⟩ (.cons ⟨q3, rfl, b4 _ _ upd_same⟩ (.cons ⟨q4, rfl, uN _ _ upd_same⟩ .nil)))
        have s7 := s6.trans (u1.trans b2)
        obtain ⟨v, c, hci, hat, hp⟩ := cells_at (z := item ns 3 % 4) hcb (Int.emod_nonneg _ (by decide)) (Int.emod_lt_of_pos _ (by decide))
        have hnB : ¬ B R C c := by
          have hm := List.mem_of_getElem? hci
          simp only [List.mem_cons, List.not_mem_nil, or_false] at hm
          unfold B
          rcases hm with rfl | rfl | rfl | rfl <;> dsimp only <;> omega
        refine ⟨_, rfl, a, ns, 3, rfl, s7.seq hS, by decide, _, _, rfl, rfl, (by show (0 : Int) < 4; decide), N, _, _, v, rfl, rfl, SqL.of upd_same, hat, ?_⟩
        exact ⟨_, rfl, _, rfl, b, d, R, C, [], v, c, rfl, (S3.same s5).same (u1.trans b2), hp, hnB, fun H5 _ => k H5⟩

end
theorem all_mk {l : PySem.W.OpenLaw} {w : World} {K : PySem.W.Frag} {h : Heap} {mg : Str → Option Value} {fa : Addr} (X : K.In h) (G : h.Ns mainGlobals mg) (hfa : mg "law" = some (.ref fa))
    {C eBoardError eNoBoard eNoCell f_law_cell_at f_B_init f_B_has f_B_see_cell f_B_near f_law_near f_law_whole f_law_is_cells f_law_near_right f_law_no_cell f_law : Addr}
    {tG : Tok}
    {aA s0 s1 s2 s3 s4 s5 : Addr} {dA d0 d1 d2 d3 d4 d5 : Option Addr} {nA n0 n1 n2 n3 n4 n5 : Nat} {slA sl0 sl1 sl2 sl3 sl4 sl5 : Array (Option Value)} {u0 v0 u1 v1 u2 v2 u3 v3 u4 v4 u5 v5 : Tok}
    {oc_law_cell_at kV_law_cell_at dc_law_cell_at pm_law_cell_at cd_law_cell_at ct_law_cell_at : Value} {od_law_cell_at an_law_cell_at : Option Addr} {sl_law_cell_at : Array (Option Value)}
    {oc_B_init kV_B_init dc_B_init pm_B_init cd_B_init ct_B_init : Value} {od_B_init an_B_init : Option Addr} {sl_B_init : Array (Option Value)}
    {oc_B_has kV_B_has dc_B_has pm_B_has cd_B_has ct_B_has : Value} {od_B_has an_B_has : Option Addr} {sl_B_has : Array (Option Value)}
    {oc_B_see_cell kV_B_see_cell dc_B_see_cell pm_B_see_cell cd_B_see_cell ct_B_see_cell : Value} {od_B_see_cell an_B_see_cell : Option Addr} {sl_B_see_cell : Array (Option Value)}
    {oc_B_near kV_B_near dc_B_near pm_B_near cd_B_near ct_B_near : Value} {od_B_near an_B_near : Option Addr} {sl_B_near : Array (Option Value)}
    {oc_law_near kV_law_near dc_law_near pm_law_near cd_law_near ct_law_near : Value} {od_law_near an_law_near : Option Addr} {sl_law_near : Array (Option Value)}
    {oc_law_whole kV_law_whole dc_law_whole pm_law_whole cd_law_whole ct_law_whole : Value} {od_law_whole an_law_whole : Option Addr} {sl_law_whole : Array (Option Value)}
    {oc_law_is_cells kV_law_is_cells dc_law_is_cells pm_law_is_cells cd_law_is_cells ct_law_is_cells : Value} {od_law_is_cells an_law_is_cells : Option Addr} {sl_law_is_cells : Array (Option Value)}
    {oc_law_near_right kV_law_near_right dc_law_near_right pm_law_near_right cd_law_near_right ct_law_near_right : Value} {od_law_near_right an_law_near_right : Option Addr} {sl_law_near_right : Array (Option Value)}
    {oc_law_no_cell kV_law_no_cell dc_law_no_cell pm_law_no_cell cd_law_no_cell ct_law_no_cell : Value} {od_law_no_cell an_law_no_cell : Option Addr} {sl_law_no_cell : Array (Option Value)}
    {oc_law kV_law dc_law pm_law cd_law ct_law : Value} {od_law an_law : Option Addr} {sl_law : Array (Option Value)}
    (aC : PySem.W.nsIn K mainGlobals "Board" = some (some (.ref C)))
    (g_BoardError : PySem.W.nsIn K mainGlobals "BoardError" = some (some (.ref eBoardError)))
    (x_BoardError : PySem.W.excIn K eBoardError [.type "ValueError", .type "Exception", .type "BaseException", .type "object"] "ValueError.__new__" = true)
    (k_BoardError : PySem.W.keepIn K (.ref eBoardError) = true)
    (b_BoardError : PySem.W.subIn K (.ref eBoardError) (.type "BaseException") = some true)
    (t_BoardError : PySem.W.typeIn K (.ref eBoardError) = some (.type "type"))
    (g_NoBoard : PySem.W.nsIn K mainGlobals "NoBoard" = some (some (.ref eNoBoard)))
    (x_NoBoard : PySem.W.excIn K eNoBoard [.type "ValueError", .type "Exception", .type "BaseException", .type "object"] "ValueError.__new__" = true)
    (k_NoBoard : PySem.W.keepIn K (.ref eNoBoard) = true)
    (b_NoBoard : PySem.W.subIn K (.ref eNoBoard) (.type "BaseException") = some true)
    (t_NoBoard : PySem.W.typeIn K (.ref eNoBoard) = some (.type "type"))
    (g_NoCell : PySem.W.nsIn K mainGlobals "NoCell" = some (some (.ref eNoCell)))
    (x_NoCell : PySem.W.excIn K eNoCell [.type "ValueError", .type "Exception", .type "BaseException", .type "object"] "ValueError.__new__" = true)
    (k_NoCell : PySem.W.keepIn K (.ref eNoCell) = true)
    (b_NoCell : PySem.W.subIn K (.ref eNoCell) (.type "BaseException") = some true)
    (t_NoCell : PySem.W.typeIn K (.ref eNoCell) = some (.type "type"))
    (u_NoCell_BoardError : PySem.W.subIn K (.ref eNoCell) (.ref eBoardError) = some true)
    (o_BoardError : PySem.W.isClsIn K eBoardError = true)
    (q_NoCell_hg : PySem.W.findIn K (.ref eNoCell) "__getattribute__" = some (some (.builtin "BaseException.__getattribute__")))
    (q_NoCell_hk : PySem.W.findIn K (.ref eNoCell) "__getattr__" = some none)
    (q_NoCell_hd : PySem.W.hasDictIn K eNoCell = true)
    (q_NoCell_ha : PySem.W.findIn K (.ref eNoCell) "__class__" = some (some (.builtin "object.__class__")))
    (q_NoCell_hm : PySem.W.mroIn K eNoCell (.type "object") = some true)
    (q_hn : PySem.W.specialIn K (.builtin "object.__class__") "__get__" = some (some (.builtin "getset_descriptor.__get__")))
    (q_ht : PySem.W.takesIn K (.builtin "object.__class__") = some true)
    (u_NoCell_NoCell : PySem.W.subIn K (.ref eNoCell) (.ref eNoCell) = some true)
    (o_NoCell : PySem.W.isClsIn K eNoCell = true)
    (u_NoCell_ValueError : PySem.W.subIn K (.ref eNoCell) (.type "ValueError") = some true)
    (pg : PySem.W.plainGet K C Str.empty = true)
    (hd : PySem.W.hasDictIn K C = true)
    (po : PySem.W.plainOver K C = true)
    (sa : PySem.W.findIn K (.ref C) "__setattr__" = some (some (.builtin "object.__setattr__")))
    (mk : PySem.W.makesIn K C = true)
    (kc : PySem.W.keepIn K (.ref C) = true)
    (nH : PySem.W.findIn K (.ref C) "height" = some none)
    (nW : PySem.W.findIn K (.ref C) "width" = some none)
    (nO : PySem.W.findIn K (.ref C) "owners" = some none)
    (aG : PySem.W.nsIn K mainGlobals "GREATEST" = some (some (.int 10 tG)))
    (z_len : PySem.W.nsIn K mainGlobals "len" = some none)
    (z_range : PySem.W.nsIn K mainGlobals "range" = some none)
    (z_isinstance : PySem.W.nsIn K mainGlobals "isinstance" = some none)
    (z_min : PySem.W.nsIn K mainGlobals "min" = some none)
    (z_sorted : PySem.W.nsIn K mainGlobals "sorted" = some none)
    (z_list : PySem.W.nsIn K mainGlobals "list" = some none)
    (z_set : PySem.W.nsIn K mainGlobals "set" = some none)
    (z_int : PySem.W.nsIn K mainGlobals "int" = some none)
    (z_bool : PySem.W.nsIn K mainGlobals "bool" = some none)
    (z_tuple : PySem.W.nsIn K mainGlobals "tuple" = some none)
    (z_str : PySem.W.nsIn K mainGlobals "str" = some none)
    (z_ValueError : PySem.W.nsIn K mainGlobals "ValueError" = some none)
    (hAR : PySem.W.nsIn K mainGlobals "AROUND" = some (some (.ref aA)))
    (lA : K.lookup aA = some ⟨.type "tuple", dA, .seq #[.ref s0, .ref s1, .ref s2, .ref s3, .ref s4, .ref s5] nA, slA⟩)
    (l0 : K.lookup s0 = some ⟨.type "tuple", d0, .seq #[.int (-1) u0, .int (0) v0] n0, sl0⟩)
    (l1 : K.lookup s1 = some ⟨.type "tuple", d1, .seq #[.int (-1) u1, .int (1) v1] n1, sl1⟩)
    (l2 : K.lookup s2 = some ⟨.type "tuple", d2, .seq #[.int (0) u2, .int (-1) v2] n2, sl2⟩)
    (l3 : K.lookup s3 = some ⟨.type "tuple", d3, .seq #[.int (0) u3, .int (1) v3] n3, sl3⟩)
    (l4 : K.lookup s4 = some ⟨.type "tuple", d4, .seq #[.int (1) u4, .int (-1) v4] n4, sl4⟩)
    (l5 : K.lookup s5 = some ⟨.type "tuple", d5, .seq #[.int (1) u5, .int (0) v5] n5, sl5⟩)
    (a_law_cell_at : PySem.W.nsIn K mainGlobals "_law_cell_at" = some (some (.ref f_law_cell_at)))
    (l_law_cell_at : K.lookup f_law_cell_at = some ⟨oc_law_cell_at, od_law_cell_at, .func (PySem.W.fnOf "_law_cell_at" "_law_cell_at" (defArgs s_law_cell_at) (defBody s_law_cell_at) (defScope s_law_cell_at) .none kV_law_cell_at dc_law_cell_at pm_law_cell_at an_law_cell_at cd_law_cell_at ct_law_cell_at), sl_law_cell_at⟩)
    (w_law_cell_at : PySem.W.codeIn K cd_law_cell_at "_law_cell_at" = true)
    (p_law_cell_at : PySem.W.keepIn K (.ref f_law_cell_at) = true)
    (a_B_init : PySem.W.findIn K (.ref C) "__init__" = some (some (.ref f_B_init)))
    (j_B_init : PySem.W.isFn K (.ref f_B_init) = true)
    (l_B_init : K.lookup f_B_init = some ⟨oc_B_init, od_B_init, .func (PySem.W.fnOf "__init__" "Board.__init__" (defArgs s_B_init) (defBody s_B_init) (defScope s_B_init) .none kV_B_init dc_B_init pm_B_init an_B_init cd_B_init ct_B_init), sl_B_init⟩)
    (w_B_init : PySem.W.codeIn K cd_B_init "Board.__init__" = true)
    (p_B_init : PySem.W.keepIn K (.ref f_B_init) = true)
    (a_B_has : PySem.W.findIn K (.ref C) "has" = some (some (.ref f_B_has)))
    (j_B_has : PySem.W.isFn K (.ref f_B_has) = true)
    (l_B_has : K.lookup f_B_has = some ⟨oc_B_has, od_B_has, .func (PySem.W.fnOf "has" "Board.has" (defArgs s_B_has) (defBody s_B_has) (defScope s_B_has) .none kV_B_has dc_B_has pm_B_has an_B_has cd_B_has ct_B_has), sl_B_has⟩)
    (w_B_has : PySem.W.codeIn K cd_B_has "Board.has" = true)
    (p_B_has : PySem.W.keepIn K (.ref f_B_has) = true)
    (a_B_see_cell : PySem.W.findIn K (.ref C) "see_cell" = some (some (.ref f_B_see_cell)))
    (j_B_see_cell : PySem.W.isFn K (.ref f_B_see_cell) = true)
    (l_B_see_cell : K.lookup f_B_see_cell = some ⟨oc_B_see_cell, od_B_see_cell, .func (PySem.W.fnOf "see_cell" "Board.see_cell" (defArgs s_B_see_cell) (defBody s_B_see_cell) (defScope s_B_see_cell) .none kV_B_see_cell dc_B_see_cell pm_B_see_cell an_B_see_cell cd_B_see_cell ct_B_see_cell), sl_B_see_cell⟩)
    (w_B_see_cell : PySem.W.codeIn K cd_B_see_cell "Board.see_cell" = true)
    (p_B_see_cell : PySem.W.keepIn K (.ref f_B_see_cell) = true)
    (a_B_near : PySem.W.findIn K (.ref C) "near" = some (some (.ref f_B_near)))
    (j_B_near : PySem.W.isFn K (.ref f_B_near) = true)
    (l_B_near : K.lookup f_B_near = some ⟨oc_B_near, od_B_near, .func (PySem.W.fnOf "near" "Board.near" (defArgs s_B_near) (defBody s_B_near) (defScope s_B_near) .none kV_B_near dc_B_near pm_B_near an_B_near cd_B_near ct_B_near), sl_B_near⟩)
    (w_B_near : PySem.W.codeIn K cd_B_near "Board.near" = true)
    (p_B_near : PySem.W.keepIn K (.ref f_B_near) = true)
    (a_law_near : PySem.W.nsIn K mainGlobals "_law_near" = some (some (.ref f_law_near)))
    (l_law_near : K.lookup f_law_near = some ⟨oc_law_near, od_law_near, .func (PySem.W.fnOf "_law_near" "_law_near" (defArgs s_law_near) (defBody s_law_near) (defScope s_law_near) .none kV_law_near dc_law_near pm_law_near an_law_near cd_law_near ct_law_near), sl_law_near⟩)
    (w_law_near : PySem.W.codeIn K cd_law_near "_law_near" = true)
    (p_law_near : PySem.W.keepIn K (.ref f_law_near) = true)
    (a_law_whole : PySem.W.nsIn K mainGlobals "_law_whole" = some (some (.ref f_law_whole)))
    (l_law_whole : K.lookup f_law_whole = some ⟨oc_law_whole, od_law_whole, .func (PySem.W.fnOf "_law_whole" "_law_whole" (defArgs s_law_whole) (defBody s_law_whole) (defScope s_law_whole) .none kV_law_whole dc_law_whole pm_law_whole an_law_whole cd_law_whole ct_law_whole), sl_law_whole⟩)
    (w_law_whole : PySem.W.codeIn K cd_law_whole "_law_whole" = true)
    (p_law_whole : PySem.W.keepIn K (.ref f_law_whole) = true)
    (a_law_is_cells : PySem.W.nsIn K mainGlobals "_law_is_cells" = some (some (.ref f_law_is_cells)))
    (l_law_is_cells : K.lookup f_law_is_cells = some ⟨oc_law_is_cells, od_law_is_cells, .func (PySem.W.fnOf "_law_is_cells" "_law_is_cells" (defArgs s_law_is_cells) (defBody s_law_is_cells) (defScope s_law_is_cells) .none kV_law_is_cells dc_law_is_cells pm_law_is_cells an_law_is_cells cd_law_is_cells ct_law_is_cells), sl_law_is_cells⟩)
    (w_law_is_cells : PySem.W.codeIn K cd_law_is_cells "_law_is_cells" = true)
    (p_law_is_cells : PySem.W.keepIn K (.ref f_law_is_cells) = true)
    (a_law_near_right : PySem.W.nsIn K mainGlobals "_law_near_right" = some (some (.ref f_law_near_right)))
    (l_law_near_right : K.lookup f_law_near_right = some ⟨oc_law_near_right, od_law_near_right, .func (PySem.W.fnOf "_law_near_right" "_law_near_right" (defArgs s_law_near_right) (defBody s_law_near_right) (defScope s_law_near_right) .none kV_law_near_right dc_law_near_right pm_law_near_right an_law_near_right cd_law_near_right ct_law_near_right), sl_law_near_right⟩)
    (w_law_near_right : PySem.W.codeIn K cd_law_near_right "_law_near_right" = true)
    (p_law_near_right : PySem.W.keepIn K (.ref f_law_near_right) = true)
    (a_law_no_cell : PySem.W.nsIn K mainGlobals "_law_no_cell" = some (some (.ref f_law_no_cell)))
    (l_law_no_cell : K.lookup f_law_no_cell = some ⟨oc_law_no_cell, od_law_no_cell, .func (PySem.W.fnOf "_law_no_cell" "_law_no_cell" (defArgs s_law_no_cell) (defBody s_law_no_cell) (defScope s_law_no_cell) .none kV_law_no_cell dc_law_no_cell pm_law_no_cell an_law_no_cell cd_law_no_cell ct_law_no_cell), sl_law_no_cell⟩)
    (w_law_no_cell : PySem.W.codeIn K cd_law_no_cell "_law_no_cell" = true)
    (p_law_no_cell : PySem.W.keepIn K (.ref f_law_no_cell) = true)
    (a_law : PySem.W.nsIn K mainGlobals "law" = some (some (.ref f_law)))
    (l_law : K.lookup f_law = some ⟨oc_law, od_law, .func (PySem.W.fnOf "law" "law" (defArgs s_law) (defBody s_law) (defScope s_law) .none kV_law dc_law pm_law an_law cd_law ct_law), sl_law⟩)
    (w_law : PySem.W.codeIn K cd_law "law" = true)
    (p_law : PySem.W.keepIn K (.ref f_law) = true) :
    ∃ fd : FuncData, (∀ (s : Shared) (v : Value), BindsTo s fd ⟨[v], []⟩ [("script", v)]) ∧ ∀ base : Heap, K.In base → base.Ns mainGlobals mg → FnOk l.prog w K mg base (L2.CX l.prog w) 5 fa fd ["script"] (sp_law K ad0) := by
  have e := hfa.symm.trans (PySem.W.mg_of X G a_law)
  cases e
  have T : Top K mg (⟨C, eBoardError, eNoBoard, eNoCell, 0, 0, 0, tG, tG, aA⟩ : Ad) := ⟨⟨pg, hd, po, sa⟩, nH, nW, nO, PySem.W.mg_of X G aG, PySem.W.mg_none_of X G z_len, PySem.W.mg_none_of X G z_range, PySem.W.mg_none_of X G z_isinstance, PySem.W.mg_none_of X G z_min, PySem.W.mg_none_of X G z_sorted, PySem.W.mg_none_of X G z_list, PySem.W.mg_none_of X G z_set, PySem.W.mg_none_of X G z_int, PySem.W.mg_none_of X G z_bool, PySem.W.mg_none_of X G z_tuple, PySem.W.mg_none_of X G z_str, PySem.W.mg_none_of X G z_ValueError⟩
  have x_BoardError : XC K mg "BoardError" (⟨C, eBoardError, eNoBoard, eNoCell, 0, 0, 0, tG, tG, aA⟩ : Ad).eBoardError := ⟨PySem.W.mg_of X G g_BoardError, x_BoardError, k_BoardError, b_BoardError, t_BoardError⟩
  have x_NoBoard : XC K mg "NoBoard" (⟨C, eBoardError, eNoBoard, eNoCell, 0, 0, 0, tG, tG, aA⟩ : Ad).eNoBoard := ⟨PySem.W.mg_of X G g_NoBoard, x_NoBoard, k_NoBoard, b_NoBoard, t_NoBoard⟩
  have x_NoCell : XC K mg "NoCell" (⟨C, eBoardError, eNoBoard, eNoCell, 0, 0, 0, tG, tG, aA⟩ : Ad).eNoCell := ⟨PySem.W.mg_of X G g_NoCell, x_NoCell, k_NoCell, b_NoCell, t_NoCell⟩
  have g_AROUND : AroundOk K mg (⟨C, eBoardError, eNoBoard, eNoCell, 0, 0, 0, tG, tG, aA⟩ : Ad) := ⟨PySem.W.mg_of X G hAR, [s0, s1, s2, s3, s4, s5], fun H => sqT_of lA (by show 6 ≤ sizeLine; decide) (.cons rfl (.cons rfl (.cons rfl (.cons rfl (.cons rfl (.cons rfl .nil)))))),
    .cons (fun H => sqT_of l0 (by show 2 ≤ sizeLine; decide) (.cons ⟨_, rfl⟩ (.cons ⟨_, rfl⟩ .nil))) (.cons (fun H => sqT_of l1 (by show 2 ≤ sizeLine; decide) (.cons ⟨_, rfl⟩ (.cons ⟨_, rfl⟩ .nil))) (.cons (fun H => sqT_of l2 (by show 2 ≤ sizeLine; decide) (.cons ⟨_, rfl⟩ (.cons ⟨_, rfl⟩ .nil))) (.cons (fun H => sqT_of l3 (by show 2 ≤ sizeLine; decide) (.cons ⟨_, rfl⟩ (.cons ⟨_, rfl⟩ .nil))) (.cons (fun H => sqT_of l4 (by show 2 ≤ sizeLine; decide) (.cons ⟨_, rfl⟩ (.cons ⟨_, rfl⟩ .nil))) (.cons (fun H => sqT_of l5 (by show 2 ≤ sizeLine; decide) (.cons ⟨_, rfl⟩ (.cons ⟨_, rfl⟩ .nil))) (.nil))))))⟩
  have q_NoCell : ExcC K (⟨C, eBoardError, eNoBoard, eNoCell, 0, 0, 0, tG, tG, aA⟩ : Ad).eNoCell := ⟨q_NoCell_hg, q_NoCell_hk, b_NoCell, q_NoCell_hd, q_NoCell_ha, q_hn, q_ht, q_NoCell_hm⟩
  have m_NoCell_BoardError := exm_yes b_BoardError o_BoardError t_BoardError u_NoCell_BoardError
  have i_NoCell_NoCell : PySem.W.kitOne K (.ref eNoCell) (.ref eNoCell) = some true := kit_yes
  have i_NoCell_ValueError : PySem.W.kitOne K (.ref eNoCell) (.type "ValueError") = some true := kit_ve u_NoCell_ValueError
  have F_law_cell_at := fun_mk (st := s_law_cell_at) l_law_cell_at w_law_cell_at p_law_cell_at
  have F_B_init := fun_mk (st := s_B_init) l_B_init w_B_init p_B_init
  have F_B_has := fun_mk (st := s_B_has) l_B_has w_B_has p_B_has
  have F_B_see_cell := fun_mk (st := s_B_see_cell) l_B_see_cell w_B_see_cell p_B_see_cell
  have F_B_near := fun_mk (st := s_B_near) l_B_near w_B_near p_B_near
  have F_law_near := fun_mk (st := s_law_near) l_law_near w_law_near p_law_near
  have F_law_whole := fun_mk (st := s_law_whole) l_law_whole w_law_whole p_law_whole
  have F_law_is_cells := fun_mk (st := s_law_is_cells) l_law_is_cells w_law_is_cells p_law_is_cells
  have F_law_near_right := fun_mk (st := s_law_near_right) l_law_near_right w_law_near_right p_law_near_right
  have F_law_no_cell := fun_mk (st := s_law_no_cell) l_law_no_cell w_law_no_cell p_law_no_cell
  have F_law := fun_mk (st := s_law) l_law w_law p_law
  refine ⟨PySem.W.fnOf "law" "law" (defArgs s_law) (defBody s_law) (defScope s_law) .none kV_law dc_law pm_law an_law cd_law ct_law, fun s v => .of_eq rfl, fun base _ _ => ?_⟩
  have c_law_cell_at : Cl l.prog w K mg base 1 "_law_cell_at" (sp_law_cell_at K (⟨C, eBoardError, eNoBoard, eNoCell, 0, 0, 0, tG, tG, aA⟩ : Ad)) := ⟨_, _, _, PySem.W.mg_of X G a_law_cell_at, F_law_cell_at.kp, bd_law_cell_at F_law_cell_at, ok_law_cell_at (P := l.prog) (w := w) (base := base) (D := (⟨C, eBoardError, eNoBoard, eNoCell, 0, 0, 0, tG, tG, aA⟩ : Ad)) F_law_cell_at T⟩
  have c_B_init : Mkr l.prog w K mg base 1 "Board" (⟨C, eBoardError, eNoBoard, eNoCell, 0, 0, 0, tG, tG, aA⟩ : Ad).C (sp_B_init K (⟨C, eBoardError, eNoBoard, eNoCell, 0, 0, 0, tG, tG, aA⟩ : Ad)) := ⟨_, _, _, PySem.W.mg_of X G aC, ⟨mk, a_B_init, j_B_init, kc⟩, bd_B_init F_B_init, ok_B_init (P := l.prog) (w := w) (base := base) (D := (⟨C, eBoardError, eNoBoard, eNoCell, 0, 0, 0, tG, tG, aA⟩ : Ad)) F_B_init T x_NoBoard⟩
  have c_B_has : Mt l.prog w K mg base 1 (⟨C, eBoardError, eNoBoard, eNoCell, 0, 0, 0, tG, tG, aA⟩ : Ad).C "has" (sp_B_has K (⟨C, eBoardError, eNoBoard, eNoCell, 0, 0, 0, tG, tG, aA⟩ : Ad)) := ⟨_, _, _, ⟨a_B_has, j_B_has, p_B_has⟩, bd_B_has F_B_has, ok_B_has (P := l.prog) (w := w) (base := base) (D := (⟨C, eBoardError, eNoBoard, eNoCell, 0, 0, 0, tG, tG, aA⟩ : Ad)) F_B_has T⟩
  have c_B_see_cell : Mt l.prog w K mg base 2 (⟨C, eBoardError, eNoBoard, eNoCell, 0, 0, 0, tG, tG, aA⟩ : Ad).C "see_cell" (sp_B_see_cell K (⟨C, eBoardError, eNoBoard, eNoCell, 0, 0, 0, tG, tG, aA⟩ : Ad)) := ⟨_, _, _, ⟨a_B_see_cell, j_B_see_cell, p_B_see_cell⟩, bd_B_see_cell F_B_see_cell, ok_B_see_cell (P := l.prog) (w := w) (base := base) (D := (⟨C, eBoardError, eNoBoard, eNoCell, 0, 0, 0, tG, tG, aA⟩ : Ad)) F_B_see_cell T x_NoCell c_B_has⟩
  have c_B_near : Mt l.prog w K mg base 3 (⟨C, eBoardError, eNoBoard, eNoCell, 0, 0, 0, tG, tG, aA⟩ : Ad).C "near" (sp_B_near K (⟨C, eBoardError, eNoBoard, eNoCell, 0, 0, 0, tG, tG, aA⟩ : Ad)) := ⟨_, _, _, ⟨a_B_near, j_B_near, p_B_near⟩, bd_B_near F_B_near, ok_B_near (P := l.prog) (w := w) (base := base) (D := (⟨C, eBoardError, eNoBoard, eNoCell, 0, 0, 0, tG, tG, aA⟩ : Ad)) F_B_near T g_AROUND c_B_see_cell c_B_has⟩
  have c_law_near : Cl l.prog w K mg base 1 "_law_near" (sp_law_near K (⟨C, eBoardError, eNoBoard, eNoCell, 0, 0, 0, tG, tG, aA⟩ : Ad)) := ⟨_, _, _, PySem.W.mg_of X G a_law_near, F_law_near.kp, bd_law_near F_law_near, ok_law_near (P := l.prog) (w := w) (base := base) (D := (⟨C, eBoardError, eNoBoard, eNoCell, 0, 0, 0, tG, tG, aA⟩ : Ad)) F_law_near T⟩
  have c_law_whole : Cl l.prog w K mg base 1 "_law_whole" (sp_law_whole K (⟨C, eBoardError, eNoBoard, eNoCell, 0, 0, 0, tG, tG, aA⟩ : Ad)) := ⟨_, _, _, PySem.W.mg_of X G a_law_whole, F_law_whole.kp, bd_law_whole F_law_whole, ok_law_whole (P := l.prog) (w := w) (base := base) (D := (⟨C, eBoardError, eNoBoard, eNoCell, 0, 0, 0, tG, tG, aA⟩ : Ad)) F_law_whole T⟩
  have c_law_is_cells : Cl l.prog w K mg base 2 "_law_is_cells" (sp_law_is_cells K (⟨C, eBoardError, eNoBoard, eNoCell, 0, 0, 0, tG, tG, aA⟩ : Ad)) := ⟨_, _, _, PySem.W.mg_of X G a_law_is_cells, F_law_is_cells.kp, bd_law_is_cells F_law_is_cells, ok_law_is_cells (P := l.prog) (w := w) (base := base) (D := (⟨C, eBoardError, eNoBoard, eNoCell, 0, 0, 0, tG, tG, aA⟩ : Ad)) F_law_is_cells T c_law_whole⟩
  have c_law_near_right : Cl l.prog w K mg base 4 "_law_near_right" (sp_law_near_right K (⟨C, eBoardError, eNoBoard, eNoCell, 0, 0, 0, tG, tG, aA⟩ : Ad)) := ⟨_, _, _, PySem.W.mg_of X G a_law_near_right, F_law_near_right.kp, bd_law_near_right F_law_near_right, ok_law_near_right (P := l.prog) (w := w) (base := base) (D := (⟨C, eBoardError, eNoBoard, eNoCell, 0, 0, 0, tG, tG, aA⟩ : Ad)) F_law_near_right T c_B_near c_law_near c_law_is_cells⟩
  have c_law_no_cell : Cl l.prog w K mg base 4 "_law_no_cell" (sp_law_no_cell K (⟨C, eBoardError, eNoBoard, eNoCell, 0, 0, 0, tG, tG, aA⟩ : Ad)) := ⟨_, _, _, PySem.W.mg_of X G a_law_no_cell, F_law_no_cell.kp, bd_law_no_cell F_law_no_cell, ok_law_no_cell (P := l.prog) (w := w) (base := base) (D := (⟨C, eBoardError, eNoBoard, eNoCell, 0, 0, 0, tG, tG, aA⟩ : Ad)) F_law_no_cell T x_BoardError x_NoCell m_NoCell_BoardError q_NoCell i_NoCell_NoCell i_NoCell_ValueError c_B_near⟩
  exact ok_law (P := l.prog) (w := w) (base := base) (D := (⟨C, eBoardError, eNoBoard, eNoCell, 0, 0, 0, tG, tG, aA⟩ : Ad)) F_law T c_law_cell_at c_B_init c_law_near_right c_law_no_cell
theorem walk {l : PySem.W.OpenLaw} {q : Program} {loose : List Str} {XP : (Str → Option Value) → Heap → Prop} {YP : World → Heap → Prop} {d : DefRec} {K : Params → PySem.W.Frag} (hn : l.most = some 63) (hdf : d.params.defaults = [])
    (hY : ∀ (w : World) (h : Heap), YP w h → (K w.params).In h)
    (F : ∀ (w : World) (mg : Str → Option Value) (fa : Addr) (h : Heap), (K w.params).In h → h.Ns mainGlobals mg → mg d.name = some (.ref fa) →
      ∃ fd : FuncData, (∀ (s : Shared) (u : Value), BindsTo s fd ⟨[u], []⟩ [("script", u)]) ∧ ∀ base : Heap, (K w.params).In base → base.Ns mainGlobals mg → FnOk l.prog w (K w.params) mg base (L2.CX l.prog w) 5 fa fd ["script"] (sp_law (K w.params) ad0)) :
    PySem.W.WalkO q loose XP YP l.row.toRowW d [] (fun f vs => PySem.call f vs) :=
  L2.walk_of (n := 63) (k := 5) (x := "script") (CX := fun w => L2.CX l.prog w) (sp := fun w => sp_law (K w.params) ad0) hn (by decide) hdf ⟨rfl, by decide, by decide⟩ hY F (fun _ _ a ns hl _ hS => ⟨a, ns, rfl, hS, hl, fun _ => rfl⟩) fun _ _ _ _ _ z => by
    obtain ⟨_, _, _, _, _, _, _, _, _, _, _, _, z⟩ := z
    exact z
end SC
open PySem PySem.W PyProof.Rows
set_option maxRecDepth 100000 in
set_option maxHeartbeats 0 in
theorem PySem.Challenge.cw_sidechain_k02_neighbours_holds : PySem.Challenge.rw_sidechain_k02_neighbours.Holds := by
  w_on; o_law; k_head; (case hw => w_witness2)
  k_fill
  refine SC.walk (l := PySem.Challenge.rw_sidechain_k02_neighbours) rfl rfl (fun w h Y => PySem.W.kIn_of Y) ?F
  case F =>
    intro w mg fa h KX G hmg
    refine' SC.all_mk KX G hmg ?aC ?g_BoardError ?x_BoardError ?k_BoardError ?b_BoardError ?t_BoardError ?g_NoBoard ?x_NoBoard ?k_NoBoard ?b_NoBoard ?t_NoBoard ?g_NoCell ?x_NoCell ?k_NoCell ?b_NoCell ?t_NoCell ?u_NoCell_BoardError ?o_BoardError ?q_NoCell_hg ?q_NoCell_hk ?q_NoCell_hd ?q_NoCell_ha ?q_NoCell_hm ?q_hn ?q_ht ?u_NoCell_NoCell ?o_NoCell ?u_NoCell_ValueError ?pg ?hd ?po ?sa ?mk ?kc ?nH ?nW ?nO ?aG ?z_len ?z_range ?z_isinstance ?z_min ?z_sorted ?z_list ?z_set ?z_int ?z_bool ?z_tuple ?z_str ?z_ValueError ?hAR ?lA ?l0 ?l1 ?l2 ?l3 ?l4 ?l5 ?a_law_cell_at ?l_law_cell_at ?w_law_cell_at ?p_law_cell_at ?a_B_init ?j_B_init ?l_B_init ?w_B_init ?p_B_init ?a_B_has ?j_B_has ?l_B_has ?w_B_has ?p_B_has ?a_B_see_cell ?j_B_see_cell ?l_B_see_cell ?w_B_see_cell ?p_B_see_cell ?a_B_near ?j_B_near ?l_B_near ?w_B_near ?p_B_near ?a_law_near ?l_law_near ?w_law_near ?p_law_near ?a_law_whole ?l_law_whole ?w_law_whole ?p_law_whole ?a_law_is_cells ?l_law_is_cells ?w_law_is_cells ?p_law_is_cells ?a_law_near_right ?l_law_near_right ?w_law_near_right ?p_law_near_right ?a_law_no_cell ?l_law_no_cell ?w_law_no_cell ?p_law_no_cell ?a_law ?l_law ?w_law ?p_law
    (case aC => k_is)
    (case g_BoardError => k_is)
    (case x_BoardError => k_exc)
    (case k_BoardError => k_is)
    (case b_BoardError => k_is)
    (case t_BoardError => k_is)
    (case g_NoBoard => k_is)
    (case x_NoBoard => k_exc)
    (case k_NoBoard => k_is)
    (case b_NoBoard => k_is)
    (case t_NoBoard => k_is)
    (case g_NoCell => k_is)
    (case x_NoCell => k_exc)
    (case k_NoCell => k_is)
    (case b_NoCell => k_is)
    (case t_NoCell => k_is)
    (case u_NoCell_BoardError => k_is)
    (case o_BoardError => k_is)
    (case q_NoCell_hg => k_is)
    (case q_NoCell_hk => k_is)
    (case q_NoCell_hd => k_is)
    (case q_NoCell_ha => k_is)
    (case q_NoCell_hm => k_is)
    (case q_hn => k_is)
    (case q_ht => k_is)
    (case u_NoCell_NoCell => k_is)
    (case o_NoCell => k_is)
    (case u_NoCell_ValueError => k_is)
    (case pg => k_is)
    (case hd => k_is)
    (case po => k_is)
    (case sa => k_is)
    (case mk => k_is)
    (case kc => k_is)
    (case nH => k_is)
    (case nW => k_is)
    (case nO => k_is)
    (case aG => k_is)
    (case z_len => k_is)
    (case z_range => k_is)
    (case z_isinstance => k_is)
    (case z_min => k_is)
    (case z_sorted => k_is)
    (case z_list => k_is)
    (case z_set => k_is)
    (case z_int => k_is)
    (case z_bool => k_is)
    (case z_tuple => k_is)
    (case z_str => k_is)
    (case z_ValueError => k_is)
    (case hAR => k_is)
    (case lA => k_is)
    (case l0 => k_is)
    (case l1 => k_is)
    (case l2 => k_is)
    (case l3 => k_is)
    (case l4 => k_is)
    (case l5 => k_is)
    (case a_law_cell_at => k_is)
    (case l_law_cell_at => k_is)
    (case w_law_cell_at => k_is)
    (case p_law_cell_at => k_is)
    (case a_B_init => k_is)
    (case j_B_init => k_is)
    (case l_B_init => k_is)
    (case w_B_init => k_is)
    (case p_B_init => k_is)
    (case a_B_has => k_is)
    (case j_B_has => k_is)
    (case l_B_has => k_is)
    (case w_B_has => k_is)
    (case p_B_has => k_is)
    (case a_B_see_cell => k_is)
    (case j_B_see_cell => k_is)
    (case l_B_see_cell => k_is)
    (case w_B_see_cell => k_is)
    (case p_B_see_cell => k_is)
    (case a_B_near => k_is)
    (case j_B_near => k_is)
    (case l_B_near => k_is)
    (case w_B_near => k_is)
    (case p_B_near => k_is)
    (case a_law_near => k_is)
    (case l_law_near => k_is)
    (case w_law_near => k_is)
    (case p_law_near => k_is)
    (case a_law_whole => k_is)
    (case l_law_whole => k_is)
    (case w_law_whole => k_is)
    (case p_law_whole => k_is)
    (case a_law_is_cells => k_is)
    (case l_law_is_cells => k_is)
    (case w_law_is_cells => k_is)
    (case p_law_is_cells => k_is)
    (case a_law_near_right => k_is)
    (case l_law_near_right => k_is)
    (case w_law_near_right => k_is)
    (case p_law_near_right => k_is)
    (case a_law_no_cell => k_is)
    (case l_law_no_cell => k_is)
    (case w_law_no_cell => k_is)
    (case p_law_no_cell => k_is)
    (case a_law => k_is)
    (case l_law => k_is)
    (case w_law => k_is)
    (case p_law => k_is)
